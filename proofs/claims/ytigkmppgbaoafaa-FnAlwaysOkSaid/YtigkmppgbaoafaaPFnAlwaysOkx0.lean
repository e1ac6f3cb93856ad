-- Made by a program of this session (wip/tools/patchprint.py), not by the kit itself.
import Derived.Test.YtigkmppgbaoafaaProg
import Derived.Below
import Derived.Deep.Draws
import Derived.Deep.AppendLies
import Derived.Maps.AppendAt
import Derived.OwnWalk
import Derived.Laws.BytesArg
import Derived.Laws.MakeOwn
import Derived.Laws.OwnMore
import Derived.Deep.OwnRows
import Derived.Tactics
import Derived.Lib.ConvBytes
import Derived.Laws.Slices
import Derived.WalkKit
import Derived.KernelRfl
import Derived.RowKit3
import Derived.Deep.LoopGhost
import Derived.Deep.QuietTactic
import Derived.BigQuiet
import Derived.WideLaws
import Derived.Deep.DeepCutAuto
import Derived.Deep.CutBlock
import Derived.Deep.RegionHeld3
import Derived.Laws.Rows
import Derived.Lib.AppendStr
import Derived.ArgAppend
import Derived.Laws.IdiomCopy
import Derived.OrdersHeld
import Derived.Laws.BitsLemmas
import Derived.RowKit
import Derived.Test.YtigkmppgbaoafaaWWords
import Derived.Test.YtigkmppgbaoafaaWLast
import Derived.Test.YtigkmppgbaoafaaWTab
import Derived.Test.YtigkmppgbaoafaaWQPut
import Derived.Test.YtigkmppgbaoafaaWApart
import Derived.Test.YtigkmppgbaoafaaWArr
import Derived.Test.YtigkmppgbaoafaaWZeros
import Derived.Test.YtigkmppgbaoafaaWFoot
import Derived.Test.YtigkmppgbaoafaaWKept
import Derived.Test.YtigkmppgbaoafaaWShare
import Derived.Test.YtigkmppgbaoafaaWN
import Derived.Test.YtigkmppgbaoafaaWEqStruct
import Derived.Test.YtigkmppgbaoafaaWRepsOne
import Derived.Test.YtigkmppgbaoafaaWGuard
import Derived.Test.YtigkmppgbaoafaaWNEv
import Derived.Test.YtigkmppgbaoafaaWMore
namespace Go.Proofs.Ytigkmppgbaoafaa.PFnAlwaysOk
open Go.RowKit Go.Proofs.YtigkmppgbaoafaaW.PrintWords Go.Proofs.YtigkmppgbaoafaaW.PrintLast Go.Proofs.YtigkmppgbaoafaaW.PrintMore
attribute [local go_sem] max2_int min2_int max_two min_two max_three min_three max_four min_four   -- for this text's walks alone
set_option linter.unusedVariables false
set_option linter.unusedSimpArgs false



def errW : Option Int → Value
 | none => .nilIface
 | some c => .iface 0 (.int .i64 c)
theorem errW_none : errW none = .nilIface := rfl
theorem errW_some (c : Int) : errW (some c) = .iface 0 (.int .i64 c) := rfl

theorem setCell_isSome (w : World) (a b : Addr) (v : Value) : ((w.setCell a v).cell? b).isSome = (w.cell? b).isSome := by
 simp only [World.setCell, World.cell?, Array.getElem?_modify]
 by_cases hb : a.block = b.block
 ·simp only [hb, if_true]
  cases hh : w.heap[b.block]? with
  | none => simp
  | some x =>
   cases x with
   | cells c e f =>
    simp only [Option.map_some]
    by_cases h1 : b.spot.isSome = true
    ·simp [h1]
    ·by_cases h2 : a.spot.isSome = true
     ·simp [h1, h2]
     ·simp only [h1, h2]
      by_cases h3 : a.off = b.off
      ·by_cases h4 : b.off < c.size <;> simp [h3, h4]
      ·simp [h3]
   | _ => simp
 ·simp [hb]

/-- What a row's elements are told as now, kept as it is told. -/
def Kd.frozen {α : Type} (d : Kd α) (W : World) (base : Nat) (okp : Nat → Prop) : Kd α where
 sz := d.sz
 E := d.E
 K := fun _ x cs => d.M W base okp x cs
 M := fun _ _ _ x cs => d.M W base (fun _ => False) x cs
 K_len := fun h => d.K_len (d.K_of_M h)
 K_one := fun h => d.K_one (d.K_of_M h)
 K_below := fun _ h => h
 K_of_M := fun h => d.M_mono (fun _ hk => hk.elim) h
 M_mono := fun _ h => h
 M_bound := fun h => d.M_mono (fun _ hk => hk.elim) h
 M_move := fun _ h => h
 M_lower := fun _ h => h
theorem Kd.R_frozen {α : Type} {d : Kd α} {e n c : Nat} {W : World} {base : Nat} {ok okp : Nat → Prop} {A : Option Addr} {xs : List α} (h : d.R e W base ok (.slice A n c) xs) (hok : ∀ k, (ok k ∧ some k ≠ (Value.slice A n c).ownBlock) → okp k) : n = xs.length ∧ n ≤ c ∧ (Kd.frozen d W base okp).C W A xs.length xs := by
 obtain ⟨A', c', he, hl, hr⟩ := h.2.reads
 injection he with h1 h2 h3
 subst h1
 exact ⟨h2, by omega, ReadsRow.imp_ hr (Below.refl _ _) (fun _ _ hp => d.M_mono hok hp)⟩

theorem info4 : (Try.prog.info? 4).map (fun i => (i.zero, i.size, i.bytes)) = some (some (.bool false), 1, 1) := by kernel_rfl
theorem info5 : (Try.prog.info? 5).map (fun i => (i.zero, i.size, i.bytes)) = some (some (.int .u8 0), 1, 1) := by kernel_rfl
theorem info23 : (Try.prog.info? 23).map (fun i => (i.zero, i.size, i.bytes)) = some (some (.slice none 0 0), 1, 24) := by kernel_rfl
theorem info41 : (Try.prog.info? 41).map (fun i => (i.zero, i.size, i.bytes)) = some (some (.agg #[(.int .i64 0), (.int .i64 0)]), 2, 16) := by kernel_rfl
-- the values' own types
/-! #### struct type 41 -/
structure S41 where
 f0 : Int
 f1 : Int
def z41 : S41 := ⟨(0 : Int), (0 : Int)⟩
def k41 : Kd S41 := Kd.iso (Kd.pair (Kd.int .i64) (Kd.int .i64)) (fun x : S41 => (x.f0, x.f1))
theorem k41_open {w : World} {x : S41} {cs : List Value} (h : k41.K w x cs) : cs = [.int .i64 x.f0, .int .i64 x.f1] := by
 obtain ⟨_, _, rfl, rfl, rfl⟩ := h
 exact rfl
theorem k41_openM {w : World} {base : Nat} {ok : Nat → Prop} {x : S41} {cs : List Value} (h : k41.M w base ok x cs) : cs = [.int .i64 x.f0, .int .i64 x.f1] := by
 obtain ⟨_, _, rfl, rfl, rfl⟩ := h
 exact rfl
theorem k41_mk (w : World) (x : S41)  : k41.K w x [.int .i64 x.f0, .int .i64 x.f1] := ⟨[.int .i64 x.f0], [.int .i64 x.f1], rfl, rfl, rfl⟩
theorem k41_mkM (w : World) (base : Nat) (ok : Nat → Prop) (x : S41)  : k41.M w base ok x [.int .i64 x.f0, .int .i64 x.f1] := ⟨[.int .i64 x.f0], [.int .i64 x.f1], rfl, rfl, rfl⟩
def rd_T41 (xs : List S41) (i : Int) : S41 := xs.getD i.toNat z41
theorem at_T41 {w : World} {A : Option Addr} {n : Nat} {xs : List S41} (h : Kd.C k41 w A n xs) (i : Int) (h0 : 0 ≤ i) (h1 : i < n) : ∃ ad , A = some ad ∧ w.cell? (ad.add (i.toNat * 2)) = some (.int .i64 (rd_T41 xs i).f0) ∧ w.cell? ⟨(ad.add (i.toNat * 2)).block, (ad.add (i.toNat * 2)).off + 1, none⟩ = some (.int .i64 (rd_T41 xs i).f1) := by
 obtain ⟨ad, c, e, _, hK, hc0⟩ := Kd.C_get h z41 i h0 h1
 have hc : ∀ j u, c[j]? = some u → w.cell? (ad.add (i.toNat * 2 + j)) = some u := hc0
 obtain rfl := k41_open hK
 exact ⟨ad, e, hc 0 _ rfl, by rw [← add_field _ _ 1 (by omega)]; exact hc 1 _ rfl⟩

def rd_L3 (xs : List (List S41)) (i : Int) : (List S41) := xs.getD i.toNat ([] : List S41)
theorem at_L3 {w : World} {A : Option Addr} {n : Nat} {xs : List (List S41)} (h : Kd.C (Kd.slice 41 k41) w A n xs) (i : Int) (h0 : 0 ≤ i) (h1 : i < n) : ∃ ad A0 c0, A = some ad ∧ w.cell? (ad.add i.toNat) = some (.slice A0 (rd_L3 xs i).length c0) ∧ (rd_L3 xs i).length ≤ c0 ∧ k41.C w A0 (rd_L3 xs i).length (rd_L3 xs i) := by
 obtain ⟨ad, c, e, _, hK, hc0⟩ := Kd.C_get h ([] : List S41) i h0 h1
 have hc : ∀ j u, c[j]? = some u → w.cell? (ad.add (i.toNat * 1 + j)) = some u := hc0
 obtain ⟨A0, c0, rfl, l0, g0⟩ := hK
 exact ⟨ad, A0, c0, e, by have hq := hc 0 _ rfl; rwa [Nat.mul_one, Nat.add_zero] at hq, l0, g0⟩

end Go.Proofs.Ytigkmppgbaoafaa.PFnAlwaysOk
