-- Made by a program of this session (wip/tools/patchprint.py), not by the kit itself.
import Derived.Test.YtpnjanaggkmbaaaProg
import Derived.Below
import Derived.Deep.Draws
import Derived.Deep.AppendLies
import Derived.Maps.AppendAt
import Derived.OwnWalk
import Derived.Laws.BytesArg
import Derived.Laws.MakeOwn
import Derived.Laws.OwnMore
import Derived.Deep.OwnRows
import Derived.Tactics
import Derived.Lib.ConvBytes
import Derived.Laws.Slices
import Derived.WalkKit
import Derived.KernelRfl
import Derived.RowKit3
import Derived.Deep.LoopGhost
import Derived.Deep.QuietTactic
import Derived.BigQuiet
import Derived.WideLaws
import Derived.Deep.DeepCutAuto
import Derived.Deep.CutBlock
import Derived.Deep.RegionHeld3
import Derived.Laws.Rows
import Derived.Lib.AppendStr
import Derived.ArgAppend
import Derived.Laws.IdiomCopy
import Derived.OrdersHeld
import Derived.Laws.BitsLemmas
import Derived.RowKit
import Derived.Test.YtpnjanaggkmbaaaWWords
import Derived.Test.YtpnjanaggkmbaaaWLast
import Derived.Test.YtpnjanaggkmbaaaWTab
import Derived.Test.YtpnjanaggkmbaaaWFour
import Derived.Test.YtpnjanaggkmbaaaWQPut
import Derived.Test.YtpnjanaggkmbaaaWApart
import Derived.Test.YtpnjanaggkmbaaaWArr
import Derived.Test.YtpnjanaggkmbaaaWZeros
import Derived.Test.YtpnjanaggkmbaaaWFoot
import Derived.Test.YtpnjanaggkmbaaaWKept
import Derived.Test.YtpnjanaggkmbaaaWShare
import Derived.Test.YtpnjanaggkmbaaaWN
import Derived.Test.YtpnjanaggkmbaaaWFootNe
import Derived.Test.YtpnjanaggkmbaaaWAt
import Derived.Test.YtpnjanaggkmbaaaWEqStruct
import Derived.Test.YtpnjanaggkmbaaaWRepsOne
import Derived.Test.YtpnjanaggkmbaaaWInv
import Derived.Test.YtpnjanaggkmbaaaWInvWords
import Derived.Test.YtpnjanaggkmbaaaWGuard
import Derived.Test.YtpnjanaggkmbaaaWNEv
import Derived.Test.YtpnjanaggkmbaaaWMore
namespace Go.Proofs.Ytpnjanaggkmbaaa.PFnTermOk
open Go.RowKit Go.Proofs.YtpnjanaggkmbaaaW.PrintWords Go.Proofs.YtpnjanaggkmbaaaW.PrintLast Go.Proofs.YtpnjanaggkmbaaaW.PrintMore
attribute [local go_sem] max2_int min2_int max_two min_two max_three min_three max_four min_four   -- for this text's walks alone
set_option linter.unusedVariables false
set_option linter.unusedSimpArgs false



def errW : Option Int → Value
  | none => .nilIface
  | some c => .iface 0 (.int .i64 c)
theorem errW_none : errW none = .nilIface := rfl
theorem errW_some (c : Int) : errW (some c) = .iface 0 (.int .i64 c) := rfl

theorem setCell_isSome (w : World) (a b : Addr) (v : Value) : ((w.setCell a v).cell? b).isSome = (w.cell? b).isSome := by
  simp only [World.setCell, World.cell?, Array.getElem?_modify]
  by_cases hb : a.block = b.block
  · simp only [hb, if_true]
    cases hh : w.heap[b.block]? with
    | none => simp
    | some x =>
      cases x with
      | cells c e f =>
        simp only [Option.map_some]
        by_cases h1 : b.spot.isSome = true
        · simp [h1]
        · by_cases h2 : a.spot.isSome = true
          · simp [h1, h2]
          · simp only [h1, h2]
            by_cases h3 : a.off = b.off
            · by_cases h4 : b.off < c.size <;> simp [h3, h4]
            · simp [h3]
      | _ => simp
  · simp [hb]

/-- What a row's elements are told as now, kept as it is told. -/
def Kd.frozen {α : Type} (d : Kd α) (W : World) (base : Nat) (okp : Nat → Prop) : Kd α where
  sz := d.sz
  E := d.E
  K := fun _ x cs => d.M W base okp x cs
  M := fun _ _ _ x cs => d.M W base (fun _ => False) x cs
  K_len := fun h => d.K_len (d.K_of_M h)
  K_one := fun h => d.K_one (d.K_of_M h)
  K_below := fun _ h => h
  K_of_M := fun h => d.M_mono (fun _ hk => hk.elim) h
  M_mono := fun _ h => h
  M_bound := fun h => d.M_mono (fun _ hk => hk.elim) h
  M_move := fun _ h => h
  M_lower := fun _ h => h
theorem Kd.R_frozen {α : Type} {d : Kd α} {e n c : Nat} {W : World} {base : Nat} {ok okp : Nat → Prop} {A : Option Addr} {xs : List α} (h : d.R e W base ok (.slice A n c) xs) (hok : ∀ k, (ok k ∧ some k ≠ (Value.slice A n c).ownBlock) → okp k) : n = xs.length ∧ n ≤ c ∧ (Kd.frozen d W base okp).C W A xs.length xs := by
  obtain ⟨A', c', he, hl, hr⟩ := h.2.reads
  injection he with h1 h2 h3
  subst h1
  exact ⟨h2, by omega, ReadsRow.imp_ hr (Below.refl _ _) (fun _ _ hp => d.M_mono hok hp)⟩

theorem info5 : (Try.prog.info? 5).map (fun i => (i.zero, i.size, i.bytes)) = some (some (.int .u8 0), 1, 1) := by kernel_rfl
theorem info40 : (Try.prog.info? 40).map (fun i => (i.zero, i.size, i.bytes)) = some (some (.slice none 0 0), 1, 24) := by kernel_rfl
theorem info48 : (Try.prog.info? 48).map (fun i => (i.zero, i.size, i.bytes)) = some (some (.agg #[(.int .i64 0), (.int .i64 0)]), 2, 16) := by kernel_rfl
-- the values' own types
/-! #### struct type 48 -/
structure S48 where
  f0 : Int
  f1 : Int
def z48 : S48 := ⟨(0 : Int), (0 : Int)⟩
def k48 : Kd S48 := Kd.iso (Kd.pair (Kd.int .i64) (Kd.int .i64)) (fun x : S48 => (x.f0, x.f1))
theorem k48_open {w : World} {x : S48} {cs : List Value} (h : k48.K w x cs) : cs = [.int .i64 x.f0, .int .i64 x.f1] := by
  obtain ⟨_, _, rfl, rfl, rfl⟩ := h
  exact rfl
theorem k48_openM {w : World} {base : Nat} {ok : Nat → Prop} {x : S48} {cs : List Value} (h : k48.M w base ok x cs) : cs = [.int .i64 x.f0, .int .i64 x.f1] := by
  obtain ⟨_, _, rfl, rfl, rfl⟩ := h
  exact rfl
theorem k48_mk (w : World) (x : S48)  : k48.K w x [.int .i64 x.f0, .int .i64 x.f1] := ⟨[.int .i64 x.f0], [.int .i64 x.f1], rfl, rfl, rfl⟩
theorem k48_mkM (w : World) (base : Nat) (ok : Nat → Prop) (x : S48)  : k48.M w base ok x [.int .i64 x.f0, .int .i64 x.f1] := ⟨[.int .i64 x.f0], [.int .i64 x.f1], rfl, rfl, rfl⟩
def rd_T48 (xs : List S48) (i : Int) : S48 := xs.getD i.toNat z48
theorem at_T48 {w : World} {A : Option Addr} {n : Nat} {xs : List S48} (h : Kd.C k48 w A n xs) (i : Int) (h0 : 0 ≤ i) (h1 : i < n) : ∃ ad , A = some ad ∧ w.cell? (ad.add (i.toNat * 2)) = some (.int .i64 (rd_T48 xs i).f0) ∧ w.cell? ⟨(ad.add (i.toNat * 2)).block, (ad.add (i.toNat * 2)).off + 1, none⟩ = some (.int .i64 (rd_T48 xs i).f1) := by
  obtain ⟨ad, c, e, _, hK, hc0⟩ := Kd.C_get h z48 i h0 h1
  have hc : ∀ j u, c[j]? = some u → w.cell? (ad.add (i.toNat * 2 + j)) = some u := hc0
  obtain rfl := k48_open hK
  exact ⟨ad, e, hc 0 _ rfl, by rw [← add_field _ _ 1 (by omega)]; exact hc 1 _ rfl⟩

def rd_L3 (xs : List (List S48)) (i : Int) : (List S48) := xs.getD i.toNat ([] : List S48)
theorem at_L3 {w : World} {A : Option Addr} {n : Nat} {xs : List (List S48)} (h : Kd.C (Kd.slice 48 k48) w A n xs) (i : Int) (h0 : 0 ≤ i) (h1 : i < n) : ∃ ad A0 c0, A = some ad ∧ w.cell? (ad.add i.toNat) = some (.slice A0 (rd_L3 xs i).length c0) ∧ (rd_L3 xs i).length ≤ c0 ∧ k48.C w A0 (rd_L3 xs i).length (rd_L3 xs i) := by
  obtain ⟨ad, c, e, _, hK, hc0⟩ := Kd.C_get h ([] : List S48) i h0 h1
  have hc : ∀ j u, c[j]? = some u → w.cell? (ad.add (i.toNat * 1 + j)) = some u := hc0
  obtain ⟨A0, c0, rfl, l0, g0⟩ := hK
  exact ⟨ad, A0, c0, e, by have hq := hc 0 _ rfl; rwa [Nat.mul_one, Nat.add_zero] at hq, l0, g0⟩

end Go.Proofs.Ytpnjanaggkmbaaa.PFnTermOk
