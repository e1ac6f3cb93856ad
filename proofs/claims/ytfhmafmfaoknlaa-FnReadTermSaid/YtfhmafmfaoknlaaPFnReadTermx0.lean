-- Made by a program of this session (wip/tools/patchprint.py), not by the kit itself.
import Derived.Test.YtfhmafmfaoknlaaProg
import Derived.Below
import Derived.Deep.Draws
import Derived.Deep.AppendLies
import Derived.Maps.AppendAt
import Derived.OwnWalk
import Derived.Laws.BytesArg
import Derived.Laws.MakeOwn
import Derived.Laws.OwnMore
import Derived.Deep.OwnRows
import Derived.Tactics
import Derived.Lib.ConvBytes
import Derived.Laws.Slices
import Derived.WalkKit
import Derived.KernelRfl
import Derived.RowKit3
import Derived.Deep.LoopGhost
import Derived.Deep.QuietTactic
import Derived.BigQuiet
import Derived.WideLaws
import Derived.Deep.DeepCutAuto
import Derived.Deep.CutBlock
import Derived.Deep.RegionHeld3
import Derived.Laws.Rows
import Derived.Lib.AppendStr
import Derived.ArgAppend
import Derived.Laws.IdiomCopy
import Derived.OrdersHeld
import Derived.Laws.BitsLemmas
import Derived.RowKit
import Derived.Test.YtfhmafmfaoknlaaPFnReadTermwWords
import Derived.Test.YtfhmafmfaoknlaaPFnReadTermwLast
import Derived.Test.YtfhmafmfaoknlaaPFnReadTermwTab
import Derived.Test.YtfhmafmfaoknlaaPFnReadTermwQPut
import Derived.Test.YtfhmafmfaoknlaaPFnReadTermwApart
import Derived.Test.YtfhmafmfaoknlaaPFnReadTermwArr
import Derived.Test.YtfhmafmfaoknlaaPFnReadTermwZeros
import Derived.Test.YtfhmafmfaoknlaaPFnReadTermwFoot
import Derived.Test.YtfhmafmfaoknlaaPFnReadTermwKept
import Derived.Test.YtfhmafmfaoknlaaPFnReadTermwShare
import Derived.Test.YtfhmafmfaoknlaaPFnReadTermwN
import Derived.Test.YtfhmafmfaoknlaaPFnReadTermwAt
import Derived.Test.YtfhmafmfaoknlaaPFnReadTermwEqStruct
import Derived.Test.YtfhmafmfaoknlaaPFnReadTermwRepsOne
import Derived.Test.YtfhmafmfaoknlaaPFnReadTermwInv
import Derived.Test.YtfhmafmfaoknlaaPFnReadTermwGuard
import Derived.Test.YtfhmafmfaoknlaaPFnReadTermwNEv
import Derived.Test.YtfhmafmfaoknlaaPFnReadTermwMore
namespace Go.Proofs.Ytfhmafmfaoknlaa.PFnReadTerm
open Go.RowKit Go.Proofs.YtfhmafmfaoknlaaW.PrintWords Go.Proofs.YtfhmafmfaoknlaaW.PrintLast Go.Proofs.YtfhmafmfaoknlaaW.PrintMore
attribute [local go_sem] max2_int min2_int max_two min_two max_three min_three max_four min_four   -- for this text's walks alone
set_option linter.unusedVariables false
set_option linter.unusedSimpArgs false



def errW : Option Int → Value
 | none => .nilIface
 | some c => .iface 0 (.int .i64 c)
theorem errW_none : errW none = .nilIface := rfl
theorem errW_some (c : Int) : errW (some c) = .iface 0 (.int .i64 c) := rfl

theorem setCell_isSome (w : World) (a b : Addr) (v : Value) : ((w.setCell a v).cell? b).isSome = (w.cell? b).isSome := by
 simp only [World.setCell, World.cell?, Array.getElem?_modify]
 by_cases hb : a.block = b.block
 ·simp only [hb, if_true]
  cases hh : w.heap[b.block]? with
  | none => simp
  | some x =>
   cases x with
   | cells c e f =>
    simp only [Option.map_some]
    by_cases h1 : b.spot.isSome = true
    ·simp [h1]
    ·by_cases h2 : a.spot.isSome = true
     ·simp [h1, h2]
     ·simp only [h1, h2]
      by_cases h3 : a.off = b.off
      ·by_cases h4 : b.off < c.size <;> simp [h3, h4]
      ·simp [h3]
   | _ => simp
 ·simp [hb]

/-- What a row's elements are told as now, kept as it is told. -/
def Kd.frozen {α : Type} (d : Kd α) (W : World) (base : Nat) (okp : Nat → Prop) : Kd α where
 sz := d.sz
 E := d.E
 K := fun _ x cs => d.M W base okp x cs
 M := fun _ _ _ x cs => d.M W base (fun _ => False) x cs
 K_len := fun h => d.K_len (d.K_of_M h)
 K_one := fun h => d.K_one (d.K_of_M h)
 K_below := fun _ h => h
 K_of_M := fun h => d.M_mono (fun _ hk => hk.elim) h
 M_mono := fun _ h => h
 M_bound := fun h => d.M_mono (fun _ hk => hk.elim) h
 M_move := fun _ h => h
 M_lower := fun _ h => h
theorem Kd.R_frozen {α : Type} {d : Kd α} {e n c : Nat} {W : World} {base : Nat} {ok okp : Nat → Prop} {A : Option Addr} {xs : List α} (h : d.R e W base ok (.slice A n c) xs) (hok : ∀ k, (ok k ∧ some k ≠ (Value.slice A n c).ownBlock) → okp k) : n = xs.length ∧ n ≤ c ∧ (Kd.frozen d W base okp).C W A xs.length xs := by
 obtain ⟨A', c', he, hl, hr⟩ := h.2.reads
 injection he with h1 h2 h3
 subst h1
 exact ⟨h2, by omega, ReadsRow.imp_ hr (Below.refl _ _) (fun _ _ hp => d.M_mono hok hp)⟩

theorem info3 : (Try.prog.info? 3).map (fun i => (i.zero, i.size, i.bytes)) = some (some (.int .i64 0), 1, 8) := by kernel_rfl
theorem info5 : (Try.prog.info? 5).map (fun i => (i.zero, i.size, i.bytes)) = some (some (.int .u8 0), 1, 1) := by kernel_rfl
theorem info9 : (Try.prog.info? 9).map (fun i => (i.zero, i.size, i.bytes)) = some (some (.string ⟨#[]⟩), 1, 16) := by kernel_rfl
theorem info25 : (Try.prog.info? 25).map (fun i => (i.zero, i.size, i.bytes)) = some (some (.slice none 0 0), 1, 24) := by kernel_rfl
theorem info62 : (Try.prog.info? 62).map (fun i => (i.zero, i.size, i.bytes)) = some (some (.agg #[(.int .i64 0), (.int .i64 0)]), 2, 16) := by kernel_rfl
-- the values' own types
/-! #### struct type 62 -/
structure S62 where
 f0 : Int
 f1 : Int
def z62 : S62 := ⟨(0 : Int), (0 : Int)⟩
def k62 : Kd S62 := Kd.iso (Kd.pair (Kd.int .i64) (Kd.int .i64)) (fun x : S62 => (x.f0, x.f1))
theorem k62_open {w : World} {x : S62} {cs : List Value} (h : k62.K w x cs) : cs = [.int .i64 x.f0, .int .i64 x.f1] := by
 obtain ⟨_, _, rfl, rfl, rfl⟩ := h
 exact rfl
theorem k62_openM {w : World} {base : Nat} {ok : Nat → Prop} {x : S62} {cs : List Value} (h : k62.M w base ok x cs) : cs = [.int .i64 x.f0, .int .i64 x.f1] := by
 obtain ⟨_, _, rfl, rfl, rfl⟩ := h
 exact rfl
theorem k62_mk (w : World) (x : S62)  : k62.K w x [.int .i64 x.f0, .int .i64 x.f1] := ⟨[.int .i64 x.f0], [.int .i64 x.f1], rfl, rfl, rfl⟩
theorem k62_mkM (w : World) (base : Nat) (ok : Nat → Prop) (x : S62)  : k62.M w base ok x [.int .i64 x.f0, .int .i64 x.f1] := ⟨[.int .i64 x.f0], [.int .i64 x.f1], rfl, rfl, rfl⟩
def rd_T62 (xs : List S62) (i : Int) : S62 := xs.getD i.toNat z62
theorem at_T62 {w : World} {A : Option Addr} {n : Nat} {xs : List S62} (h : Kd.C k62 w A n xs) (i : Int) (h0 : 0 ≤ i) (h1 : i < n) : ∃ ad , A = some ad ∧ w.cell? (ad.add (i.toNat * 2)) = some (.int .i64 (rd_T62 xs i).f0) ∧ w.cell? ⟨(ad.add (i.toNat * 2)).block, (ad.add (i.toNat * 2)).off + 1, none⟩ = some (.int .i64 (rd_T62 xs i).f1) := by
 obtain ⟨ad, c, e, _, hK, hc0⟩ := Kd.C_get h z62 i h0 h1
 have hc : ∀ j u, c[j]? = some u → w.cell? (ad.add (i.toNat * 2 + j)) = some u := hc0
 obtain rfl := k62_open hK
 exact ⟨ad, e, hc 0 _ rfl, by rw [← add_field _ _ 1 (by omega)]; exact hc 1 _ rfl⟩

def rd_L3 (xs : List (List S62)) (i : Int) : (List S62) := xs.getD i.toNat ([] : List S62)
theorem at_L3 {w : World} {A : Option Addr} {n : Nat} {xs : List (List S62)} (h : Kd.C (Kd.slice 62 k62) w A n xs) (i : Int) (h0 : 0 ≤ i) (h1 : i < n) : ∃ ad A0 c0, A = some ad ∧ w.cell? (ad.add i.toNat) = some (.slice A0 (rd_L3 xs i).length c0) ∧ (rd_L3 xs i).length ≤ c0 ∧ k62.C w A0 (rd_L3 xs i).length (rd_L3 xs i) := by
 obtain ⟨ad, c, e, _, hK, hc0⟩ := Kd.C_get h ([] : List S62) i h0 h1
 have hc : ∀ j u, c[j]? = some u → w.cell? (ad.add (i.toNat * 1 + j)) = some u := hc0
 obtain ⟨A0, c0, rfl, l0, g0⟩ := hK
 exact ⟨ad, A0, c0, e, by have hq := hc 0 _ rfl; rwa [Nat.mul_one, Nat.add_zero] at hq, l0, g0⟩

section
variable {P : Program} {ops : Array Oper} {Q : Exit → Act → World → Prop}
/-- A call of what a place holds (a cheap look ahead). -/
theorem gate_dyn {rest : List Oper} {o : Oper} {a : Act} {W : World} {c : Tmp} {xs_ : Array Operand} {ts : Array TypeId} (_ho : o.op = .call { callee := .value (.tmp c), args := xs_, argTypes := ts }) (h : wpList P ops Q (o :: rest) a W) : wpList P ops Q (o :: rest) a W := h
/-- A call in a plain region of the function that a place holds. -/
theorem goesD_ {rest : List Oper} {oi : Oper} {a : Act} {w : World} (N : Option Tmp) (hd : oi.dst = N) (hg : oi.guard = none) {f : FuncId} {fn : Func} {c : Tmp} {xs_ : Array Operand} {ts : Array TypeId} (hf : P.funcs[f]? = some fn) (hname : (fn.name == "runtime.NumGoroutine") = false) (hb : fn.body.isSome = true) (args : Array Value)
  (hop : oi.op = .call { callee := .value (.tmp c), args := xs_, argTypes := ts }) (hv : a.eval (.tmp c) = .func (.func f) #[] #[]) (hargs : xs_.map a.eval = args)
  (h : Calls P f args w fun e w' => ∃ v, e = .returned v ∧ wpList P ops Q rest (a.put N v) w') : wpList P ops Q (oi :: rest) a w := by
 refine wpList_plain hg fun K hK => ?_
 have he := enters_ hf hname hb args w
 have hrun : (execOp a.eval oi).run P w = .ok (.enter f args) w := by
  unfold execOp
  simp [hop, resolve, hv, Deferred.ofValue, invoke, hargs, he]
 unfold Oper.wp
 rw [hrun, Oper.upon_enter]
 refine h.mono fun e w'' hh => ?_
 obtain ⟨v, rfl, hk⟩ := hh
 subst hd
 exact hK _ _ hk
end
theorem pw_ext1 (s : ByteArray) (n : Nat) (hs : s.size = n) {u v : Int} {x N : Nat} (hu : u ≤ (n : Int)) (h : x + (s.extract v.toNat u.toNat).size ≤ N) : (N < x + (u.toNat - v.toNat)) = False := by
 rw [ByteArray.size_extract, hs] at h
 exact eq_false (by omega)
theorem pw_ext2 (s : ByteArray) (n : Nat) (hs : s.size = n) {u v : Int} {a : ByteArray} {y N : Nat} (hu : u ≤ (n : Int)) (h : (a ++ s.extract v.toNat u.toNat).size + y ≤ N) : (N < a.size + (u.toNat - v.toNat) + y) = False := by
 rw [ByteArray.size_append, ByteArray.size_extract, hs] at h
 exact eq_false (by omega)
theorem pw_exa {s z : ByteArray} {u : Int} {N : Nat} (hu : u ≤ (s.size : Int)) (h : (s.extract 0 u.toNat).size + z.size ≤ N) : u.toNat + z.size ≤ N := by
 rw [ByteArray.size_extract] at h
 omega
theorem pw_exb {s z : ByteArray} {u v : Int} {N : Nat} (hu : u ≤ (s.size : Int)) (h : (s.extract 0 u.toNat ++ z).size + (s.extract v.toNat s.size).size ≤ N) : u.toNat + z.size + (s.size - v.toNat) ≤ N := by
 rw [ByteArray.size_append, ByteArray.size_extract, ByteArray.size_extract] at h
 omega
theorem pwa_ {P : Prop} (h : P := by first | rfl | (simp; done) | (simp [*]; done)) : P := h
theorem pwb_ {P : Prop} (h : P := by first | (with_reducible assumption) | assumption) : P := h
theorem pwc_ {P : Prop} (h : P := by (with_reducible repeat apply Kd.R_alloc); exact HO_5.out) : P := h
theorem pwd_ {P : Prop} (h : P := by (with_reducible repeat apply Kd.R_alloc); exact HO_7.out) : P := h
theorem pwe_ {P : Prop} (h : P := by (with_reducible repeat apply Kd.R_alloc); exact HO_9.out) : P := h
theorem pwf_ {P : Prop} (h : P := by (with_reducible repeat apply Kd.R_alloc); exact HO_11.out) : P := h
theorem pwg_ {P : Prop} (h : P := by (with_reducible repeat apply Kd.R_alloc); exact HO_13.out) : P := h
theorem pwh_ {P : Prop} (h : P := by (with_reducible repeat (first | refine blk_drewN ?_ _ | refine blk_drew ?_ | refine blk_alloc ?_ _)); exact BK317.out) : P := h
theorem pwi_ {P : Prop} (h : P := by repeat (first | (with_reducible first | exact HB.out | apply below_alloc | apply pw_below_drewN | apply below_drew1) | exact HB.out)) : P := h
theorem pwj_ {P : Prop} (h : P := by repeat (first | (with_reducible first | exact HBW.out | apply below_alloc | apply pw_below_drewN | apply below_drew1) | exact HBW.out)) : P := h
theorem pwk_ {P : Prop} (h : P := by (try simp only [List.map_toArray, List.map_cons, List.map_nil]); first | done | rfl | (simp only [List.length_drop, List.length_take]; rfl)) : P := h
theorem pwl_ {P : Prop} (h : P := by repeat (first | (with_reducible first | exact HK.out | apply KeepBut.set_ | apply keep_drewN | apply keep_drew | apply keep_alloc) | exact HK.out)) : P := h
theorem pwm_ {P : Prop} (h : P := by repeat (first | (with_reducible first | exact HI0.out | apply IsS103.alloc | apply IsS103.drewN | apply IsS103.drew | apply IsS103.set_1) | exact HI0.out)) : P := h
theorem pwn_ {P : Prop} (h : P := by repeat (first | (with_reducible first | exact HB.out | apply below_alloc | apply pw_below_drewN | apply below_drew1 | refine below_set ?_ GE317.out) | exact HB.out)) : P := h
theorem pwo_ {P : Prop} (h : P := by repeat (first | (with_reducible first | exact HB.out | apply below_alloc | apply pw_below_drewN | apply below_drew1 | refine below_set ?_ (IsS103.ge HI0.out)) | exact HB.out)) : P := h
theorem pwp_ {P : Prop} (h : P := by (with_reducible repeat (first | refine blk_drewN ?_ _ | refine blk_drew ?_ | refine blk_alloc ?_ _)); refine blk_put (cs := #[.int .i64 ((rd_T62 l0 (ji2)).f0), .int .i64 0]) ?_ 1 _ rfl; (with_reducible repeat (first | refine blk_drewN ?_ _ | refine blk_drew ?_ | refine blk_alloc ?_ _)); refine blk_put (cs := #[.int .i64 0, .int .i64 0]) ?_ 0 _ rfl; (with_reducible repeat (first | refine blk_drewN ?_ _ | refine blk_drew ?_ | refine blk_alloc ?_ _)); exact BK317.out) : P := h
end Go.Proofs.Ytfhmafmfaoknlaa.PFnReadTerm
