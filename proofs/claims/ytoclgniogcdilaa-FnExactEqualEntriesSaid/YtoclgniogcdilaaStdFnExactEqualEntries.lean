/- Plain lemmas on the helpers of the law FnExactEqualEntries: sizes, copies, equality with itself, marks and what holds them. Written by a program of this session. -/
import Derived.Test.YtoclgniogcdilaaGen
import Derived.Test.YtoclgniogcdilaaMFnExactEqualEntriesx0
import Derived.Test.YtoclgniogcdilaaMFnExactEqualEntriesx1
import Derived.Test.YtoclgniogcdilaaMFnExactEqualEntriesx2
import Derived.Test.YtoclgniogcdilaaMFnExactEqualEntriesx3
namespace Go.Proofs.Ytoclgniogcdilaa.MFnExactEqualEntries
open Go.RowKit Go.Proofs.YtoclgniogcdilaaW.PrintWords Go.Proofs.YtoclgniogcdilaaW.PrintLast Go.Proofs.YtoclgniogcdilaaW.PrintMore Go.Proofs.Ytoclgniogcdilaa.Gen
set_option linter.unusedVariables false
set_option linter.unusedSimpArgs false

def FitlawsEntry (y : S85) : Prop := True
def cvEntry (y : S85) : S81 := (⟨y.f0, (⟨y.f1.f0, y.f1.f1, y.f1.f2⟩ : S79), y.f2⟩ : S81)
def FitimplEntry (y : S81) : Prop := True
theorem toAddress_eq (a0 : Int) (a1 : Int) (a2 : Int) : laws_toAddress.f a0 a1 a2 = some (a0, a1, a2) := by
  simp [laws_toAddress.f]
theorem eqAddress_refl (a0 : Int) (a1 : Int) (a2 : Int) : laws_eqAddress.f a0 a1 a2 a0 a1 a2 = some true := by
  simp [laws_eqAddress.f]
theorem toEntry_eq (a0 : Int) (a1 : Int) (a2 : Int) (a3 : Int) (a4 : Int) : laws_toEntry.f a0 a1 a2 a3 a4 = some (a0, a1, a2, a3, a4) := by
  simp [laws_toEntry.f, toAddress_eq]
theorem eqEntry_refl (a0 : Int) (a1 : Int) (a2 : Int) (a3 : Int) (a4 : Int) : laws_eqEntry.f a0 a1 a2 a3 a4 a0 a1 a2 a3 a4 = some true := by
  simp [laws_eqEntry.f, eqAddress_refl]
theorem szEntryS_some (l : List S85) (a : Int) (h : l.length ≤ maxLen) (h0 : 0 ≤ a) (h1 : a ≤ 1048576) : ∃ r, laws_szEntryS.f l a = some r ∧ r ≤ 1048576 ∧ (0 ≤ r → l.length ≤ 1048576) := by
  unfold maxLen at h
  unfold laws_szEntryS.f
  rw [w64 (by omega) (by omega)]
  by_cases c : a - (l.length : Int) < 0
  · rw [if_pos c]; exact ⟨_, rfl, by omega, by omega⟩
  · rw [if_neg c]; exact ⟨_, rfl, by omega, by omega⟩
theorem toEntryS_ev (l : List S85) (h : l.length ≤ 1048576) : Ev (fun k => laws_toEntryS.f k l) (l.map cvEntry) := by
  unfold laws_toEntryS.f
  refine Ev.pos (by omega) ?_
  refine Ev.pos (by simp only [Int.toNat_natCast]; omega) ?_
  simp only [Int.toNat_natCast]
  refine ev_fill (fun k x i => laws_toEntryS.l0 k l x i) l z85 cvEntry z81 (fun k x => by simp [laws_toEntryS.l0]) ?_
  intro i x r hi hx h
  have hmem := getD_mem l i hi z85
  refine Ev.round (fun _ => by rw [laws_toEntryS.l0]) ?_
  refine Ev.pos (by omega) ?_
  refine Ev.pos (by omega) ?_
  refine Ev.now_bind (toEntry_eq _ _ _ _ _) ?_
  refine Ev.pos (by omega) ?_
  have e1 : wrap64 ((i : Int) + 1) = ((i + 1 : Nat) : Int) := by rw [w64 (by omega) (by omega)]; omega
  simp only [e1]
  exact h
theorem eqEntryS_refl (l : List S81) (h : l.length ≤ 1048576) : Ev (fun k => laws_eqEntryS.f k l l) true := by
  unfold laws_eqEntryS.f
  refine Ev.pos rfl ?_
  refine ev_down (fun k i => laws_eqEntryS.l0 k l l (i : Int)) l.length (fun _ => true) (Ev.round (fun _ => by rw [laws_eqEntryS.l0]) (Ev.neg (by omega) (Ev.now _))) (fun i hi h => ?_)
  have hmem := getD_mem l i hi z81
  refine Ev.round (fun _ => by rw [laws_eqEntryS.l0]) ?_
  refine Ev.pos (by omega) ?_
  refine Ev.pos (by omega) ?_
  refine Ev.pos (by omega) ?_
  refine Ev.now_bind (eqEntry_refl _ _ _ _ _) ?_
  refine Ev.pos rfl ?_
  have e1 : wrap64 ((i : Int) + 1) = ((i + 1 : Nat) : Int) := by rw [w64 (by omega) (by omega)]; omega
  simp only [e1]
  exact h
end Go.Proofs.Ytoclgniogcdilaa.MFnExactEqualEntries
