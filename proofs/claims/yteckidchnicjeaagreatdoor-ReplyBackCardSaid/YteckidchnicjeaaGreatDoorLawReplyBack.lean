/- The statement ReplyBack: the program's functions that it reaches, as Lean functions, answer as it says. No condition of our own. -/
import Derived.Test.YteckidchnicjeaaGreatDoorRows
import Derived.Test.YteckidchnicjeaaGreatDoorM12
import Derived.Test.YteckidchnicjeaaGreatDoorM14
import Derived.Test.YteckidchnicjeaaGreatDoorM1
import Derived.WalkKit
import Derived.ProofKit
import Derived.OpenShut
import Derived.ShutString
import Derived.ChangeOld
import Derived.Below
import Derived.SizedLaws
import Derived.LaidLaws
import Derived.LaidMore
import Derived.Stop.Joined
import Derived.SevenTiedAt
import Derived.Test.YteckidchnicjeaaGreatDoorTie
import Derived.Test.YteckidchnicjeaaGreatDoorCards
import Derived.Test.YteckidchnicjeaaGreatDoorM2
namespace Go.Proofs.YteckidchnicjeaaGreatDoor.replyBack
open Go.ChangeShapes Go.WideShapes Go.ChangeAt Go.RowKit Go.Proofs.YteckidchnicjeaaGreatDoor.X Go.Proofs.YteckidchnicjeaaGreatDoorW.PrintWords Go.Proofs.YteckidchnicjeaaGreatDoor.Opens
open Go.ChangeMaps (open_string shut_string)
def laid_u8 (n : Int) : Value := .int .u8 n
def laid_u64 (n : Int) : Value := .int .u64 n
def laid_u16 (n : Int) : Value := .int .u16 n
def laid_i64 (n : Int) : Value := .int .i64 n
noncomputable def laidB : List Obj := (begin Tryz.prog (fun _ _ => 0) default).world.heap.toList
noncomputable def laidHeap : List Obj := [.cells #[laid_u8 0, laid_u8 0, laid_u8 0, laid_u8 0, laid_u8 0, laid_u8 0, laid_u8 0, laid_u8 0, laid_u8 0, laid_u8 1, laid_u8 1, laid_u8 1, laid_u8 1, laid_u8 1, laid_u8 0, laid_u8 0, laid_u8 0, laid_u8 0, laid_u8 0, laid_u8 0, laid_u8 0, laid_u8 0, laid_u8 0, laid_u8 0, laid_u8 0, laid_u8 0, laid_u8 0, laid_u8 0, laid_u8 0, laid_u8 0, laid_u8 0, laid_u8 0, laid_u8 1, laid_u8 0, laid_u8 0, laid_u8 0, laid_u8 0, laid_u8 0, laid_u8 0, laid_u8 0, laid_u8 0, laid_u8 0, laid_u8 0, laid_u8 0, laid_u8 0, laid_u8 0, laid_u8 0, laid_u8 0, laid_u8 0, laid_u8 0, laid_u8 0, laid_u8 0, laid_u8 0, laid_u8 0, laid_u8 0, laid_u8 0, laid_u8 0, laid_u8 0, laid_u8 0, laid_u8 0, laid_u8 0, laid_u8 0, laid_u8 0, laid_u8 0, laid_u8 0, laid_u8 0, laid_u8 0, laid_u8 0, laid_u8 0, laid_u8 0, laid_u8 0, laid_u8 0, laid_u8 0, laid_u8 0, laid_u8 0, laid_u8 0, laid_u8 0, laid_u8 0, laid_u8 0, laid_u8 0, laid_u8 0, laid_u8 0, laid_u8 0, laid_u8 0, laid_u8 0, laid_u8 0, laid_u8 0, laid_u8 0, laid_u8 0, laid_u8 0, laid_u8 0, laid_u8 0, laid_u8 0, laid_u8 0, laid_u8 0, laid_u8 0, laid_u8 0, laid_u8 0, laid_u8 0, laid_u8 0, laid_u8 0, laid_u8 0, laid_u8 0, laid_u8 0, laid_u8 0, laid_u8 0, laid_u8 0, laid_u8 0, laid_u8 0, laid_u8 0, laid_u8 0, laid_u8 0, laid_u8 0, laid_u8 0, laid_u8 0, laid_u8 0, laid_u8 0, laid_u8 0, laid_u8 0, laid_u8 0, laid_u8 0, laid_u8 0, laid_u8 0, laid_u8 0, laid_u8 0, laid_u8 0, laid_u8 0, laid_u8 0, laid_u8 0, laid_u8 0, laid_u8 0, laid_u8 0, laid_u8 0, laid_u8 0, laid_u8 0, laid_u8 0, laid_u8 0, laid_u8 0, laid_u8 0, laid_u8 0, laid_u8 0, laid_u8 0, laid_u8 0, laid_u8 0, laid_u8 0, laid_u8 0, laid_u8 0, laid_u8 0, laid_u8 0, laid_u8 0, laid_u8 0, laid_u8 0, laid_u8 0, laid_u8 0, laid_u8 0, laid_u8 0, laid_u8 0, laid_u8 0, laid_u8 0, laid_u8 0, laid_u8 0, laid_u8 0, laid_u8 0, laid_u8 0, laid_u8 0, laid_u8 0, laid_u8 0, laid_u8 0, laid_u8 0, laid_u8 0, laid_u8 0, laid_u8 0, laid_u8 0, laid_u8 0, laid_u8 0, laid_u8 0, laid_u8 0, laid_u8 0, laid_u8 0, laid_u8 0, laid_u8 0, laid_u8 0, laid_u8 0, laid_u8 0, laid_u8 0, laid_u8 0, laid_u8 0, laid_u8 0, laid_u8 0, laid_u8 0, laid_u8 0, laid_u8 0, laid_u8 0, laid_u8 0, laid_u8 0, laid_u8 0, laid_u8 0, laid_u8 0, laid_u8 0, laid_u8 0, laid_u8 0, laid_u8 0, laid_u8 0, laid_u8 0, laid_u8 0, laid_u8 0, laid_u8 0, laid_u8 0, laid_u8 0, laid_u8 0, laid_u8 0, laid_u8 0, laid_u8 0, laid_u8 0, laid_u8 0, laid_u8 0, laid_u8 0, laid_u8 0, laid_u8 0, laid_u8 0, laid_u8 0, laid_u8 0, laid_u8 0, laid_u8 0, laid_u8 0, laid_u8 0, laid_u8 0, laid_u8 0, laid_u8 0, laid_u8 0, laid_u8 0, laid_u8 0, laid_u8 0, laid_u8 0, laid_u8 0, laid_u8 0, laid_u8 0, laid_u8 0, laid_u8 0, laid_u8 0, laid_u8 0, laid_u8 0, laid_u8 0, laid_u8 0, laid_u8 0, laid_u8 0, laid_u8 0, laid_u8 0, laid_u8 0, laid_u8 0, laid_u8 0, laid_u8 0, laid_u8 0, laid_u8 0, laid_u8 0, laid_u8 0] 98,
  .cells #[.pointer (some ⟨18, 0, none⟩)] 127,
  .cells #[laid_u64 1, laid_u64 10, laid_u64 100, laid_u64 1000, laid_u64 10000, laid_u64 100000, laid_u64 1000000, laid_u64 10000000, laid_u64 100000000, laid_u64 1000000000, laid_u64 10000000000, laid_u64 100000000000, laid_u64 1000000000000, laid_u64 10000000000000, laid_u64 100000000000000, laid_u64 1000000000000000, laid_u64 10000000000000000, laid_u64 100000000000000000, laid_u64 1000000000000000000, laid_u64 10000000000000000000] 156,
  laidB.getD 3 (.deferred none),
  .cells #[.iface 205 (.pointer (some ⟨17, 0, none⟩))] 104,
  .cells #[.iface 205 (.pointer (some ⟨16, 0, none⟩))] 104,
  .cells #[laid_u8 0, laid_u8 1, laid_u8 28, laid_u8 2, laid_u8 29, laid_u8 14, laid_u8 24, laid_u8 3, laid_u8 30, laid_u8 22, laid_u8 20, laid_u8 15, laid_u8 25, laid_u8 17, laid_u8 4, laid_u8 8, laid_u8 31, laid_u8 27, laid_u8 13, laid_u8 23, laid_u8 21, laid_u8 19, laid_u8 16, laid_u8 7, laid_u8 26, laid_u8 12, laid_u8 18, laid_u8 6, laid_u8 11, laid_u8 5, laid_u8 10, laid_u8 9] 202,
  .cells #[laid_u8 0, laid_u8 1, laid_u8 56, laid_u8 2, laid_u8 57, laid_u8 49, laid_u8 28, laid_u8 3, laid_u8 61, laid_u8 58, laid_u8 42, laid_u8 50, laid_u8 38, laid_u8 29, laid_u8 17, laid_u8 4, laid_u8 62, laid_u8 47, laid_u8 59, laid_u8 36, laid_u8 45, laid_u8 43, laid_u8 51, laid_u8 22, laid_u8 53, laid_u8 39, laid_u8 33, laid_u8 30, laid_u8 24, laid_u8 18, laid_u8 12, laid_u8 5, laid_u8 63, laid_u8 55, laid_u8 48, laid_u8 27, laid_u8 60, laid_u8 41, laid_u8 37, laid_u8 16, laid_u8 46, laid_u8 35, laid_u8 44, laid_u8 21, laid_u8 52, laid_u8 32, laid_u8 23, laid_u8 11, laid_u8 54, laid_u8 26, laid_u8 40, laid_u8 15, laid_u8 34, laid_u8 20, laid_u8 31, laid_u8 10, laid_u8 25, laid_u8 14, laid_u8 19, laid_u8 9, laid_u8 13, laid_u8 8, laid_u8 7, laid_u8 6] 203,
  .cells (Go.Pinned.utf8FirstZ.map fun (n : Nat) => Value.int .u8 (Int.ofNat n)).toArray 98,
  .cells #[laid_u8 128, laid_u8 191, laid_u8 160, laid_u8 191, laid_u8 128, laid_u8 159, laid_u8 144, laid_u8 191, laid_u8 128, laid_u8 143, laid_u8 0, laid_u8 0, laid_u8 0, laid_u8 0, laid_u8 0, laid_u8 0, laid_u8 0, laid_u8 0, laid_u8 0, laid_u8 0, laid_u8 0, laid_u8 0, laid_u8 0, laid_u8 0, laid_u8 0, laid_u8 0, laid_u8 0, laid_u8 0, laid_u8 0, laid_u8 0, laid_u8 0, laid_u8 0] 212,
  laidB.getD 10 (.deferred none)] ++ laidB.drop 11 ++ [.cells #[.string ⟨#[118, 97, 108, 117, 101, 32, 111, 117, 116, 32, 111, 102, 32, 114, 97, 110, 103, 101]⟩] 207, .cells #[.string ⟨#[105, 110, 118, 97, 108, 105, 100, 32, 115, 121, 110, 116, 97, 120]⟩] 207, .cells #[.slice (some ⟨19, 0, none⟩) 7 7, .slice none 0 0, .int .i64 2] 146, .cells #[laid_u16 9, laid_u16 13, laid_u16 1, laid_u16 32, laid_u16 133, laid_u16 101, laid_u16 160, laid_u16 5760, laid_u16 5600, laid_u16 8192, laid_u16 8202, laid_u16 1, laid_u16 8232, laid_u16 8233, laid_u16 1, laid_u16 8239, laid_u16 8287, laid_u16 48, laid_u16 12288, laid_u16 12288, laid_u16 1] 149]
noncomputable def laidWorld (os : Os) : World := { World.holding Tryz.prog os ⟨#[], #[], []⟩ with heap := laidHeap.toArray }
theorem laidWorld_a (os : Os) (args : Array Value) : (DataW.laidRun Tryz.prog ((laidWorld os).forCall (fun _ _ => 0) ⟨#[], args, []⟩).memory 8 ((Rows.replyBackRow.laid.filter fun x => x.2.handleName?.isNone).map (·.1))).map (·.1) = some (Rows.replyBackRow.laid.filter fun x => x.2.handleName?.isNone) := by kernel_rfl
def segB : List Nat → Nat → Nat → List MemPlace → Bool
  | _, _, _, [] => true
  | S, b, o, .cell b' o' :: r => if b' = b then (if o < o' then segB S b o' r else false) else (if S.contains b' then false else segB (b' :: S) b' o' r)
  | _, _, _, .map _ :: _ => false
def seg0 : List MemPlace → Bool
  | [] => true
  | .cell b o :: r => segB [b] b o r
  | .map _ :: _ => false
theorem segB_nodup : ∀ (r : List MemPlace) (S : List Nat) (b o : Nat), b ∈ S → segB S b o r = true → r.Nodup ∧ ∀ x ∈ r, ∃ b' o', x = .cell b' o' ∧ ((b' = b ∧ o < o') ∨ b' ∉ S)
  | [], _, _, _, _, _ => ⟨List.nodup_nil, fun _ h => by cases h⟩
  | .map _ :: _, _, _, _, _, h => by simp [segB] at h
  | .cell b' o' :: r, S, b, o, hb, h => by
    unfold segB at h
    by_cases c : b' = b
    · rw [if_pos c] at h
      by_cases c2 : o < o'
      · rw [if_pos c2] at h
        obtain ⟨hn, ha⟩ := segB_nodup r S b o' hb h
        refine ⟨List.nodup_cons.2 ⟨fun hm => ?_, hn⟩, fun x hx => ?_⟩
        · obtain ⟨b2, o2, e, h2⟩ := ha _ hm
          injection e with e1 e2
          subst e1 e2
          rcases h2 with h2 | h2
          · omega
          · exact h2 (c ▸ hb)
        · rcases List.mem_cons.1 hx with rfl | hx
          · exact ⟨_, _, rfl, .inl ⟨c, c2⟩⟩
          · obtain ⟨b2, o2, e, h2⟩ := ha x hx
            exact ⟨b2, o2, e, h2.imp (fun h => ⟨h.1, by omega⟩) id⟩
      · rw [if_neg c2] at h
        cases h
    · rw [if_neg c] at h
      by_cases c2 : S.contains b' = true
      · rw [if_pos c2] at h
        cases h
      · rw [if_neg c2] at h
        have hS : b' ∉ S := fun hm => c2 (List.contains_iff_mem.2 hm)
        obtain ⟨hn, ha⟩ := segB_nodup r (b' :: S) b' o' List.mem_cons_self h
        refine ⟨List.nodup_cons.2 ⟨fun hm => ?_, hn⟩, fun x hx => ?_⟩
        · obtain ⟨b2, o2, e, h2⟩ := ha _ hm
          injection e with e1 e2
          subst e1 e2
          rcases h2 with h2 | h2
          · omega
          · exact h2 List.mem_cons_self
        · rcases List.mem_cons.1 hx with rfl | hx
          · exact ⟨_, _, rfl, .inr hS⟩
          · obtain ⟨b2, o2, e, h2⟩ := ha x hx
            refine ⟨b2, o2, e, .inr ?_⟩
            rcases h2 with h2 | h2
            · rw [h2.1]
              exact hS
            · exact fun hm => h2 (List.mem_cons_of_mem _ hm)
theorem seg0_nodup : ∀ (r : List MemPlace), seg0 r = true → r.Nodup
  | [], _ => List.nodup_nil
  | .map _ :: _, h => by simp [seg0] at h
  | .cell b o :: r, h => by
    obtain ⟨hn, ha⟩ := segB_nodup r [b] b o List.mem_cons_self h
    refine List.nodup_cons.2 ⟨fun hm => ?_, hn⟩
    obtain ⟨b2, o2, e, h2⟩ := ha _ hm
    injection e with e1 e2
    subst e1 e2
    rcases h2 with h2 | h2
    · omega
    · exact h2 List.mem_cons_self
theorem laidWorld_s (os : Os) (args : Array Value) : (DataW.laidRun Tryz.prog ((laidWorld os).forCall (fun _ _ => 0) ⟨#[], args, []⟩).memory 8 ((Rows.replyBackRow.laid.filter fun x => x.2.handleName?.isNone).map (·.1))).map (fun x => seg0 x.2) = some true := by kernel_rfl
theorem laidWorld_r (os : Os) (args : Array Value) : (DataW.laidRun Tryz.prog ((laidWorld os).forCall (fun _ _ => 0) ⟨#[], args, []⟩).memory 8 ((Rows.replyBackRow.laid.filter fun x => x.2.handleName?.isNone).map (·.1))).map (fun x => laidRowsB Tryz.prog ((laidWorld os).forCall (fun _ _ => 0) ⟨#[], args, []⟩).memory x.2) = some true := by kernel_rfl
theorem laidWorld_b (os : Os) (args : Array Value) : (DataW.laidRun Tryz.prog ((laidWorld os).forCall (fun _ _ => 0) ⟨#[], args, []⟩).memory 8 ((Rows.replyBackRow.laid.filter fun x => x.2.handleName?.isNone).map (·.1))).map (fun x => decide x.2.Nodup && laidRowsB Tryz.prog ((laidWorld os).forCall (fun _ _ => 0) ⟨#[], args, []⟩).memory x.2) = some true := by
  have hs := laidWorld_s os args
  have hr := laidWorld_r os args
  cases hx : DataW.laidRun Tryz.prog ((laidWorld os).forCall (fun _ _ => 0) ⟨#[], args, []⟩).memory 8 ((Rows.replyBackRow.laid.filter fun x => x.2.handleName?.isNone).map (·.1)) with
  | none => rw [hx] at hs; cases hs
  | some x =>
    rw [hx] at hs hr
    simp only [Option.map_some, Option.some.injEq] at hs hr ⊢
    rw [hr, decide_eq_true (seg0_nodup _ hs)]
    rfl
theorem laidWorld_met (os : Os) (args : Array Value) : laidMetH Tryz.prog Rows.replyBackRow.laid ((laidWorld os).forCall (fun _ _ => 0) ⟨#[], args, []⟩).memory :=
  laidMetH_of_parts3 (fuel := 8) (laidMet_of_run' 8 (laidWorld_a os args) (laidWorld_b os args)) (by kernel_rfl) (by kernel_rfl)
theorem own : ownKnob Tryz.prog.godebug = none := by kernel_rfl
theorem laidOut : laidOutB Tryz.prog = true := by kernel_rfl
theorem opens58 {H : Type} {enc : TypeId × Value → H} {w : World} {base : Nat} {spare : Nat → Bool} {held : Bool} : Opens enc Tryz.prog w base spare held 58 k58 Q58 := by
  intro fuel cs y h hw
  obtain ⟨hl, hf⟩ := field_at Tryz.underlying58 h hw
  obtain ⟨x0, h0, q0⟩ := hf 0 _ (Kd.int .i64) _ 0 1 rfl rfl (by kernel_rfl) (opens_int Tryz.underlying2)
  obtain ⟨x1, h1, q1⟩ := hf 1 _ Kd.bool _ 1 1 rfl rfl (by kernel_rfl) (opens_bool Tryz.underlying4)
  have hlen : cs.length = 2 := hl.trans (by kernel_rfl)
  exact ⟨⟨x0, x1⟩, (pair_at (o := 0) (s := 1) (o' := 1) rfl h0 (last_at (o := 1) (s := 1) (by rw [hlen]) h1)), ⟨q0, q1⟩⟩
theorem opens60 {H : Type} {enc : TypeId × Value → H} {w : World} {base : Nat} {spare : Nat → Bool} {held : Bool} : Opens enc Tryz.prog w base spare held 60 k60 Q60 := by
  intro fuel cs y h hw
  obtain ⟨hl, hf⟩ := field_at Tryz.underlying60 h hw
  obtain ⟨x0, h0, q0⟩ := hf 0 _ (Kd.int .i64) _ 0 1 rfl rfl (by kernel_rfl) (opens_int Tryz.underlying2)
  obtain ⟨x1, h1, q1⟩ := hf 1 _ Kd.string _ 1 1 rfl rfl (by kernel_rfl) (opens_string Tryz.underlying9)
  obtain ⟨x2, h2, q2⟩ := hf 2 _ k58 _ 2 2 rfl rfl (by kernel_rfl) opens58
  have hlen : cs.length = 4 := hl.trans (by kernel_rfl)
  exact ⟨⟨x0, x1, x2⟩, (pair_at (o := 0) (s := 1) (o' := 1) rfl h0 (pair_at (o := 1) (s := 1) (o' := 2) rfl h1 (last_at (o := 2) (s := 2) (by rw [hlen]) h2))), ⟨q0, q1, q2⟩⟩
theorem opens33 {H : Type} {enc : TypeId × Value → H} {w : World} {base : Nat} {spare : Nat → Bool} {held : Bool} : Opens enc Tryz.prog w base spare held 33 k33 Q33 := by
  intro fuel cs y h hw
  obtain ⟨hl, hf⟩ := field_at Tryz.underlying33 h hw
  obtain ⟨x0, h0, q0⟩ := hf 0 _ (Kd.int .i64) _ 0 1 rfl rfl (by kernel_rfl) (opens_int Tryz.underlying3)
  obtain ⟨x1, h1, q1⟩ := hf 1 _ (Kd.int .i64) _ 1 1 rfl rfl (by kernel_rfl) (opens_int Tryz.underlying2)
  obtain ⟨x2, h2, q2⟩ := hf 2 _ (Kd.slice 60 k60) _ 2 1 rfl rfl (by kernel_rfl) (opens_slice Tryz.underlying31 (by kernel_rfl) opens60)
  have hlen : cs.length = 3 := hl.trans (by kernel_rfl)
  exact ⟨⟨x0, x1, x2⟩, (pair_at (o := 0) (s := 1) (o' := 1) rfl h0 (pair_at (o := 1) (s := 1) (o' := 2) rfl h1 (last_at (o := 2) (s := 1) (by rw [hlen]) h2))), ⟨q0, q1, q2⟩⟩
theorem opens78 {H : Type} {enc : TypeId × Value → H} {w : World} {base : Nat} {spare : Nat → Bool} {held : Bool} : Opens enc Tryz.prog w base spare held 78 k78 Q78 := by
  intro fuel cs y h hw
  obtain ⟨hl, hf⟩ := field_at Tryz.underlying78 h hw
  obtain ⟨x0, h0, q0⟩ := hf 0 _ k60 _ 0 4 rfl rfl (by kernel_rfl) opens60
  obtain ⟨x1, h1, q1⟩ := hf 1 _ Kd.bool _ 4 1 rfl rfl (by kernel_rfl) (opens_bool Tryz.underlying4)
  have hlen : cs.length = 5 := hl.trans (by kernel_rfl)
  exact ⟨⟨x0, x1⟩, (pair_at (o := 0) (s := 4) (o' := 4) rfl h0 (last_at (o := 4) (s := 1) (by rw [hlen]) h1)), ⟨q0, q1⟩⟩
theorem opens36 {H : Type} {enc : TypeId × Value → H} {w : World} {base : Nat} {spare : Nat → Bool} {held : Bool} : Opens enc Tryz.prog w base spare held 36 k36 Q36 := by
  intro fuel cs y h hw
  obtain ⟨hl, hf⟩ := field_at Tryz.underlying36 h hw
  obtain ⟨x0, h0, q0⟩ := hf 0 _ (Kd.int .i64) _ 0 1 rfl rfl (by kernel_rfl) (opens_int Tryz.underlying3)
  obtain ⟨x1, h1, q1⟩ := hf 1 _ (Kd.int .i64) _ 1 1 rfl rfl (by kernel_rfl) (opens_int Tryz.underlying3)
  obtain ⟨x2, h2, q2⟩ := hf 2 _ (Kd.int .i64) _ 2 1 rfl rfl (by kernel_rfl) (opens_int Tryz.underlying2)
  obtain ⟨x3, h3, q3⟩ := hf 3 _ (Kd.slice 60 k60) _ 3 1 rfl rfl (by kernel_rfl) (opens_slice Tryz.underlying31 (by kernel_rfl) opens60)
  obtain ⟨x4, h4, q4⟩ := hf 4 _ (Kd.slice 78 k78) _ 4 1 rfl rfl (by kernel_rfl) (opens_slice Tryz.underlying34 (by kernel_rfl) opens78)
  have hlen : cs.length = 5 := hl.trans (by kernel_rfl)
  exact ⟨⟨x0, x1, x2, x3, x4⟩, (pair_at (o := 0) (s := 1) (o' := 1) rfl h0 (pair_at (o := 1) (s := 1) (o' := 2) rfl h1 (pair_at (o := 2) (s := 1) (o' := 3) rfl h2 (pair_at (o := 3) (s := 1) (o' := 4) rfl h3 (last_at (o := 4) (s := 1) (by rw [hlen]) h4))))), ⟨q0, q1, q2, q3, q4⟩⟩
set_option maxRecDepth 100000 in
theorem lifted (os : Os) (started : os.Started) (H : Type) (enc : TypeId × Value → H) :
    ReturnsInHanded {} Tryz.checked os 6 .any (fun w args => (Rows.replyBackSpec.pre enc Tryz.prog Tryz.f6 [] false w args ∧ laidMetH Tryz.prog Rows.replyBackRow.laid w) ∧ sizedMet enc Tryz.prog Tryz.f6 (OpenSpec.ofChange Rows.replyBackSpec) false w args) (Rows.replyBackSpec.post enc Tryz.prog Tryz.f6 false true false false) := by
  refine X.handed_shaped (C := Tryz.checked) (X := fun w _ => laidMetH Tryz.prog Rows.replyBackRow.laid w) (fun _ _ _ hh h => h.of_heap hh) own started (by kernel_rfl) Tryz.func6
    (ChangeSpec.witness_shaped (enc := enc) (C := Tryz.checked) (os := os) (X := fun w _ => laidMetH Tryz.prog Rows.replyBackRow.laid w) false (laidWorld os) #[.agg #[.int .i64 0, .int .i64 0, .slice none 0 0], .agg #[.int .i64 0, .int .i64 0, .int .i64 0, .slice none 0 0, .slice none 0 0], .string ByteArray.empty] 8 rfl (World.shaped_of_RefB (by kernel_rfl) (by kernel_rfl)) (by kernel_rfl) (by kernel_rfl) (by kernel_rfl) (laidWorld_met os _)) ?_
  intro W base args ds gs before hval0 hW hcnd hsz0 hLd0 hsh0 _
  have hLd : X.LD W := X.LD_of rfl hsh0 hLd0
  have hsz : (DataW.weightsEach Tryz.prog (Tryz.f6.params.toList ++ Rows.replyBackSpec.plain.varTypes Tryz.prog) (ds ++ gs)).all (· ≤ reachBytes) = true := hsz0
  have hval : ∀ (j : Nat) t v, Tryz.f6.params[j]? = some t → args[j]? = some v → Value.okWide Tryz.prog W .any base t v := hval0
  have hW' := hW
  obtain ⟨p, q, hA0, hV, rfl, hfz, hnd⟩ := hW
  have hA : DataW.TrodAll enc Tryz.prog W 0 (fun _ => true) true Tryz.f6.params.toList args.toList ds p := hA0
  rw [Tryz.params6] at hA hval hsz
  obtain ⟨v0, vs0, d0, ds0, p0, q0, hargs, rfl, rfl, h0, r0⟩ := trodAll_cons hA
  obtain ⟨v1, vs1, d1, ds1, p1, q1, rfl, rfl, rfl, h1, r1⟩ := trodAll_cons r0
  obtain ⟨v2, vs2, d2, ds2, p2, q2, rfl, rfl, rfl, h2, r2⟩ := trodAll_cons r1
  obtain ⟨rfl, rfl, rfl⟩ := trodAll_nil r2
  obtain rfl : args = #[v0, v1, v2] := by cases args; simp_all
  obtain ⟨rfl, rfl⟩ := trodVars_none hV
  obtain ⟨cs0, rfl, _⟩ := okWide_struct Tryz.underlying33 (hval 0 33 v0 rfl rfl)
  have k0 := h0
  have lt0 : ∀ x ∈ p0, x.block < W.heap.size := by obtain ⟨m, hm⟩ := k0; exact DataW.trod_lt m _ _ _ hm
  obtain ⟨x0, hK0, w0⟩ := struct_of opens33 h0 (weighs hsz (j := 0) (t := 33) rfl rfl)
  obtain ⟨A0_2, c0_2, e0, hc0_2, hr0_2⟩ := k33_open hK0
  obtain rfl := agg_of e0
  obtain ⟨cs1, rfl, _⟩ := okWide_struct Tryz.underlying36 (hval 1 36 v1 rfl rfl)
  have k1 := h1
  have lt1 : ∀ x ∈ p1, x.block < W.heap.size := by obtain ⟨m, hm⟩ := k1; exact DataW.trod_lt m _ _ _ hm
  obtain ⟨x1, hK1, w1⟩ := struct_of opens36 h1 (weighs hsz (j := 1) (t := 36) rfl rfl)
  obtain ⟨A1_3, c1_3, A1_4, c1_4, e1, hc1_3, hr1_3, hc1_4, hr1_4⟩ := k36_open hK1
  obtain rfl := agg_of e1
  obtain ⟨a2, rfl, rfl, rfl, y2⟩ := open_string Tryz.underlying9 (hval 2 9 v2 rfl rfl) h2
  have w2 : a2.size ≤ 140737488351232 := by
    have z := sized_string hsz (j := 2) (t := 9) rfl rfl
    rw [Array.length_toList] at z
    exact z
  clear hA0 hval0 hsz0 hsz
  refine (w23_ReplyBack.walk (hL := hLd) Pure.ReplyBack x0 x1 a2 W _ _ hr0_2 hc0_2 _ _ hr1_3 hc1_3 _ _ hr1_4 hc1_4 w0 w1 w2).mono fun e W' ⟨he, bel⟩ => ?_
  subst he
  exact ⟨_, rfl, _, _, _, [], _, [], hW', trodAll_mk1 (shut_bool Tryz.underlying4 _), (trodAll_cons_mk (Below.trod laidOut (by kernel_rfl) (of_decide_eq_true (by kernel_rfl)) k0 bel lt0) (trodAll_cons_mk (Below.trod laidOut (by kernel_rfl) (of_decide_eq_true (by kernel_rfl)) k1 bel lt1) (trodAll_cons_mk (shut_string Tryz.underlying9 y2) trodAll_mk0))), rfl, bel.frame _, fun h => by cases h⟩
theorem over : Rows.replyBackRow.holds Tryz.pinned (OpenSpec.ofChange Rows.replyBackSpec) :=
  OpenClaim.holds_of_wide 6 Tryz.f6 rfl rfl rfl rfl rfl rfl rfl ⟨rfl, rfl, rfl, rfl, rfl⟩ rfl rfl rfl rfl rfl (by kernel_rfl) Tryz.func6 (by kernel_rfl)
    (of_decide_eq_true (by kernel_rfl)) (by unfold Func.isWrapper; first | (rw [if_pos (by decide +kernel)]; kernel_rfl) | (rw [if_neg (by decide +kernel)]; exact ⟨rfl, rfl⟩))
    (fun os started H enc _ => lifted os started H enc)
theorem proved : Rows.ReplyBackSaid := over
end Go.Proofs.YteckidchnicjeaaGreatDoor.replyBack
namespace Go.Proofs.YteckidchnicjeaaGreatDoor
/-- The tied card: the row, and what it lists, tied to the program's text. -/
theorem replyBack_card : Rows.ReplyBackCardSaid :=
  Claim7.holds_tied_plain_at .later [] [.data, .data, .data, .data, .sentinel, .sentinel, .listed, .data, .pinned] true (true, "a97093d0344e02d5630fbbeb166b4b6e0cbcda540b8d5ac1028710e9793ef8a5") true
    replyBack.proved (fun _ h => by cases h) (by kernel_rfl) (fun _ h => by cases h) replyBack_row_tie rfl ⟨rfl, rfl⟩ (by kernel_rfl) rfl
    (fun f fn hf hfn => by
      obtain rfl : f = 6 := Option.some.inj ((show Tryz.prog.funcNamed "ebbtide/ebbtidelaw23.ReplyBack" = some 6 by kernel_rfl).symm.trans hf) |>.symm
      obtain rfl : fn = Tryz.f6 := (Option.some.inj (Tryz.func6.symm.trans hfn)).symm
      exact ⟨by kernel_rfl, fun j t ht => by
        rw [Tryz.params6] at ht
        have hm := Array.mem_of_getElem? ht
        simp only [List.mem_toArray, List.mem_cons, List.not_mem_nil, or_false] at hm
        rcases hm with rfl | rfl | rfl
        · exact (show Tryz.prog.wantsStandIn 33 = false by kernel_rfl)
        · exact (show Tryz.prog.wantsStandIn 36 = false by kernel_rfl)
        · exact (show Tryz.prog.wantsStandIn 9 = false by kernel_rfl)⟩)
    (by kernel_rfl)
/-- The card, under a short name, for the claim. -/
theorem replyBack_holds : Rows.ReplyBackCardSaid := replyBack_card
#print axioms replyBack_holds
end Go.Proofs.YteckidchnicjeaaGreatDoor
