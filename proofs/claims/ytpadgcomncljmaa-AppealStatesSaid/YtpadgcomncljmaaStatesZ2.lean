/- The walk by lists: calls,new blocks,whole structs;ways through the code. -/
import Derived.Deep.CutBlock
import Derived.Deep.Cut
import Derived.Deep.Quiet
import Derived.Deep.RegionHeld3
import Derived.Deep.AppendLies
import Derived.Test.YtpadgcomncljmaaStatesZ1
set_option linter.all false
namespace Go.Proofs.Ytpadgcomncljmaa.A
open Go.RowKit

section
variable {ops : Array Oper} {Q : Exit → Act → World → Prop} {a : Act} {w w' : World} {rest : List Oper} {o : Oper} {n d : Nat} {ds : List Deferred} {l : List (Nat × Value)} {v : Value}
variable {t : TypeId} {ps : String} {af : Array Edge} {g : Option (Nat × Bool)} {x y z : Operand} {T T' : TypeId} {p : Addr} {f : FuncId} {at_ : Array TypeId} {u v1 v2 v3 v4 : Value} {x1 x2 x3 x4 : Operand}

def Enters (f : FuncId) : Prop:=∀ args w,(callFunc f args).run Try.prog w = .ok (.enter f args) w
theorem a_call0 (H : Has n ds l a) (hf : Enters f) (hg : wantB ops n l g = some true) (hd : Nat.ble (d + 1) n = true) (h : Calls Try.prog f #[] w (CallPost Try.prog ops Q rest n ds l d a)) : wpList Try.prog ops Q (⟨some d,.call ⟨.value (.func f),#[],at_⟩,t,ps,af,g⟩ :: rest) a w :=
  a_enter H hg (by have h0:=H.evO (x:=.func f) rfl;generalize a.eval = ev at h0;simp [go_sem,h0,hf _ _]) rfl hd h
theorem a_call1 (H : Has n ds l a) (hf : Enters f) (hg : wantB ops n l g = some true) (h1 : lookO l x1 = some v1) (hd : Nat.ble (d + 1) n = true) (h : Calls Try.prog f #[v1] w (CallPost Try.prog ops Q rest n ds l d a)) : wpList Try.prog ops Q (⟨some d,.call ⟨.value (.func f),#[x1],at_⟩,t,ps,af,g⟩ :: rest) a w :=
  a_enter H hg (by have h0:=H.evO (x:=.func f) rfl;have h1:=H.evO h1;generalize a.eval = ev at h0 h1;simp [go_sem,h0,h1,hf _ _]) rfl hd h
theorem a_call2 (H : Has n ds l a) (hf : Enters f) (hg : wantB ops n l g = some true) (h1 : lookO l x1 = some v1) (h2 : lookO l x2 = some v2) (hd : Nat.ble (d + 1) n = true) (h : Calls Try.prog f #[v1,v2] w (CallPost Try.prog ops Q rest n ds l d a)) : wpList Try.prog ops Q (⟨some d,.call ⟨.value (.func f),#[x1,x2],at_⟩,t,ps,af,g⟩ :: rest) a w :=
  a_enter H hg (by have h0:=H.evO (x:=.func f) rfl;have h1:=H.evO h1;have h2:=H.evO h2;generalize a.eval = ev at h0 h1 h2;simp [go_sem,h0,h1,h2,hf _ _]) rfl hd h
theorem a_call3 (H : Has n ds l a) (hf : Enters f) (hg : wantB ops n l g = some true) (h1 : lookO l x1 = some v1) (h2 : lookO l x2 = some v2) (h3 : lookO l x3 = some v3) (hd : Nat.ble (d + 1) n = true) (h : Calls Try.prog f #[v1,v2,v3] w (CallPost Try.prog ops Q rest n ds l d a)) : wpList Try.prog ops Q (⟨some d,.call ⟨.value (.func f),#[x1,x2,x3],at_⟩,t,ps,af,g⟩ :: rest) a w :=
  a_enter H hg (by have h0:=H.evO (x:=.func f) rfl;have h1:=H.evO h1;have h2:=H.evO h2;have h3:=H.evO h3;generalize a.eval = ev at h0 h1 h2 h3;simp [go_sem,h0,h1,h2,h3,hf _ _]) rfl hd h
theorem a_call4 (H : Has n ds l a) (hf : Enters f) (hg : wantB ops n l g = some true) (h1 : lookO l x1 = some v1) (h2 : lookO l x2 = some v2) (h3 : lookO l x3 = some v3) (h4 : lookO l x4 = some v4) (hd : Nat.ble (d + 1) n = true) (h : Calls Try.prog f #[v1,v2,v3,v4] w (CallPost Try.prog ops Q rest n ds l d a)) : wpList Try.prog ops Q (⟨some d,.call ⟨.value (.func f),#[x1,x2,x3,x4],at_⟩,t,ps,af,g⟩ :: rest) a w :=
  a_enter H hg (by have h0:=H.evO (x:=.func f) rfl;have h1:=H.evO h1;have h2:=H.evO h2;have h3:=H.evO h3;have h4:=H.evO h4;generalize a.eval = ev at h0 h1 h2 h3 h4;simp [go_sem,h0,h1,h2,h3,h4,hf _ _]) rfl hd h
theorem a_callv1 {s : Nat} {cap : Array Value} (H : Has n ds l a) (hf : Enters f) (hg : wantB ops n l g = some true) (h0 : look l s = some (.func (.func f) #[] cap)) (h1 : lookO l x1 = some v1) (hd : Nat.ble (d + 1) n = true) (h : Calls Try.prog f (#[v1] ++ cap) w (CallPost Try.prog ops Q rest n ds l d a)) : wpList Try.prog ops Q (⟨some d,.call ⟨.value (.tmp s),#[x1],at_⟩,t,ps,af,g⟩ :: rest) a w :=
  a_enter H hg (by have h0:=H.evO (x:=.tmp s) h0;have h1:=H.evO h1;generalize a.eval = ev at h0 h1;simp [go_sem,h0,h1,hf _ _]) rfl hd h

theorem a_load43 {v0 v1 v2 v3 v4 v5 v6 v7 v8 v9 v10 v11 : Value} (H : Has n ds l a) (hg : wantB ops n l g = some true) (hx : lookO l x = some (.pointer (some p)))
    (h0 : w.cell? p = some v0) (h1 : w.cell? ⟨p.block,p.off + 1,none⟩ = some v1) (h2 : w.cell? ⟨p.block,p.off + 2,none⟩ = some v2) (h3 : w.cell? ⟨p.block,p.off + 3,none⟩ = some v3) (h4 : w.cell? ⟨p.block,p.off + 4,none⟩ = some v4) (h5 : w.cell? ⟨p.block,p.off + 5,none⟩ = some v5) (h6 : w.cell? ⟨p.block,p.off + 6,none⟩ = some v6) (h7 : w.cell? ⟨p.block,p.off + 7,none⟩ = some v7) (h8 : w.cell? ⟨p.block,p.off + 8,none⟩ = some v8) (h9 : w.cell? ⟨p.block,p.off + 9,none⟩ = some v9) (h10 : w.cell? ⟨p.block,p.off + 10,none⟩ = some v10) (h11 : w.cell? ⟨p.block,p.off + 11,none⟩ = some v11)
    (hd : Nat.ble (d + 1) n = true) (h : ∀ a',Has n ds ((d,.agg #[v0,v1,v2,v3,v4,v5,v6,v7,v8,v9,v10,v11]) :: l) a' → wpList Try.prog ops Q rest a' w) : wpList Try.prog ops Q (⟨some d,.load 43 x,t,ps,af,g⟩ :: rest) a w :=
  a_do H hg (by have hx:=H.evO hx;have hu:=Try.underlying43;generalize a.eval = ev at hx;simp [go_sem,hx,hu,h0,h1,h2,h3,h4,h5,h6,h7,h8,h9,h10,h11]) rfl hd h
theorem a_load33 {v0 v1 v2 v3 v4 v5 : Value} (H : Has n ds l a) (hg : wantB ops n l g = some true) (hx : lookO l x = some (.pointer (some p)))
    (h0 : w.cell? p = some v0) (h1 : w.cell? ⟨p.block,p.off + 1,none⟩ = some v1) (h2 : w.cell? ⟨p.block,p.off + 2,none⟩ = some v2) (h3 : w.cell? ⟨p.block,p.off + 3,none⟩ = some v3) (h4 : w.cell? ⟨p.block,p.off + 4,none⟩ = some v4) (h5 : w.cell? ⟨p.block,p.off + 5,none⟩ = some v5)
    (hd : Nat.ble (d + 1) n = true) (h : ∀ a',Has n ds ((d,.agg #[v0,v1,v2,v3,v4,v5]) :: l) a' → wpList Try.prog ops Q rest a' w) : wpList Try.prog ops Q (⟨some d,.load 33 x,t,ps,af,g⟩ :: rest) a w :=
  a_do H hg (by have hx:=H.evO hx;have hu:=Try.underlying33;generalize a.eval = ev at hx;simp [go_sem,hx,hu,h0,h1,h2,h3,h4,h5]) rfl hd h
theorem a_load71 {v0 v1 v2 v3 : Value} (H : Has n ds l a) (hg : wantB ops n l g = some true) (hx : lookO l x = some (.pointer (some p)))
    (h0 : w.cell? p = some v0) (h1 : w.cell? ⟨p.block,p.off + 1,none⟩ = some v1) (h2 : w.cell? ⟨p.block,p.off + 2,none⟩ = some v2) (h3 : w.cell? ⟨p.block,p.off + 3,none⟩ = some v3)
    (hd : Nat.ble (d + 1) n = true) (h : ∀ a',Has n ds ((d,.agg #[v0,v1,v2,v3]) :: l) a' → wpList Try.prog ops Q rest a' w) : wpList Try.prog ops Q (⟨some d,.load 71 x,t,ps,af,g⟩ :: rest) a w :=
  a_do H hg (by have hx:=H.evO hx;have hu:=Try.underlying71;generalize a.eval = ev at hx;simp [go_sem,hx,hu,h0,h1,h2,h3]) rfl hd h
theorem a_load115 {v0 v1 : Value} (H : Has n ds l a) (hg : wantB ops n l g = some true) (hx : lookO l x = some (.pointer (some p)))
    (h0 : w.cell? p = some v0) (h1 : w.cell? ⟨p.block,p.off + 1,none⟩ = some v1)
    (hd : Nat.ble (d + 1) n = true) (h : ∀ a',Has n ds ((d,.agg #[v0,v1]) :: l) a' → wpList Try.prog ops Q rest a' w) : wpList Try.prog ops Q (⟨some d,.load 115 x,t,ps,af,g⟩ :: rest) a w :=
  a_do H hg (by have hx:=H.evO hx;have hu:=Try.underlying115;generalize a.eval = ev at hx;simp [go_sem,hx,hu,h0,h1]) rfl hd h

def boxT (T : TypeId) : Bool:=T == 43 || T == 33 || T == 37 || T == 3 || T == 99
theorem a_box (H : Has n ds l a) (hg : wantB ops n l g = some true) (hx : lookO l x = some v) (hT : boxT T = true) (hd : Nat.ble (d + 1) n = true) (h : ∀ a',Has n ds ((d,.pointer (some ⟨w.heap.size,0,none⟩)) :: l) a' → wpList Try.prog ops Q rest a' (w.alloc (.cells v.cells T))) : wpList Try.prog ops Q (⟨some d,.box T x,t,ps,af,g⟩ :: rest) a w :=
  a_do H hg (by
    have hx:=H.evO hx
    generalize a.eval = ev at hx
    simp only [boxT,Bool.or_eq_true,beq_iff_eq] at hT
    rcases hT with (((rfl | rfl) | rfl) | rfl) | rfl <;> simp [go_sem,hx,Value.cells]) rfl hd h

theorem wp_abs {P : Program} {c : Code} (hf : Has n ds l a) (h : ∀ a',Has n ds l a' → c.wp P Q a' w) : c.wp P Q a w:=h a hf
theorem Has.low {a' : Act} {s : Nat} (H : Has n ds l a) (L : Low s a a') (hl : (l.all fun x => decide (x.1 < s)) = true) : Has n ds l a':=by
  refine ⟨L.1.trans H.size,L.2.2.trans H.defers,fun j v h => ?_⟩;refine (L.2.1 j ?_).trans (H.at_ j v h);clear H L
  induction l with
  | nil => cases h
  | cons x r ih =>
    obtain ⟨d',v'⟩:=x
    simp only [List.all_cons,Bool.and_eq_true,decide_eq_true_eq] at hl;simp only [look] at h
    cases he : Nat.beq d' j with
    | true => have:=Nat.eq_of_beq_eq_true he;omega
    | false => rw [he] at h;exact ih hl.2 h
theorem a_index1 {k c : Nat} {i : Int} {j : Nat} (H : Has n ds l a) (hg : wantB ops n l g = some true) (hx : lookO l x = some (.slice (some p) k c)) (hy : lookO l y = some (.int .i64 i)) (hi : i = j) (hj : j < k) (hd : Nat.ble (d + 1) n = true)
    (h : ∀ a',Has n ds ((d,.pointer (some (p.add j))) :: l) a' → wpList Try.prog ops Q rest a' w) : wpList Try.prog ops Q (⟨some d,.indexAddr 22 x y,t,ps,af,g⟩ :: rest) a w:=by
  have : p.add j = p.add (j * 1):=by rw [Nat.mul_one]
  rw [this] at h;exact a_index (s:=1) H hg rfl hx hy hi hj hd h
theorem c_condT {s : Nat} {c1 c2 : Code} {P : Program} (H : Has n ds l a) (hs : look l s = some (.bool true)) (h : c1.wp P Q a w) : (Code.cond (.tmp s) c1 c2).wp P Q a w:=wp_cond_true (H.at_ s _ hs) h
theorem c_condF {s : Nat} {c1 c2 : Code} {P : Program} (H : Has n ds l a) (hs : look l s = some (.bool false)) (h : c2.wp P Q a w) : (Code.cond (.tmp s) c1 c2).wp P Q a w:=wp_cond_false (H.at_ s _ hs) h
theorem c_ret {fn : Func} {R : Ending → World → Prop} {P : Program} {s : Nat} (H : Has n [] l a) (hr : fn.results = #[.tmp s]) (hs : look l s = some v) (h : R (.returned v) w) : bodyPost P fn R .ret a w :=
  bodyPost_ret ((results_tmp hr _ _ _).trans (by have:=H.at_ s v hs;rw [← this];rfl)) H.defers h
theorem c_ret2 {fn : Func} {R : Ending → World → Prop} {P : Program} {s s' : Nat} (H : Has n [] l a) (hr : fn.results = #[.tmp s,.tmp s']) (hs : look l s = some v) (hs' : look l s' = some u) (h : R (.returned (.tuple #[v,u])) w) : bodyPost P fn R .ret a w :=
  bodyPost_ret ((results_tmp2 hr _ _ _).trans (by have h1:=H.at_ s v hs;have h2:=H.at_ s' u hs';rw [← h1,← h2];rfl)) H.defers h
end
end Go.Proofs.Ytpadgcomncljmaa.A
/- Each function of the program is entered by a call. -/
namespace Go.Proofs.Ytpadgcomncljmaa.A
open Go.RowKit
theorem e3 : Enters 3:=fun _ _ => by simp [go_sem]
theorem e4 : Enters 4:=fun _ _ => by simp [go_sem]
theorem e5 : Enters 5:=fun _ _ => by simp [go_sem]
theorem e6 : Enters 6:=fun _ _ => by simp [go_sem]
theorem e7 : Enters 7:=fun _ _ => by simp [go_sem]
theorem e8 : Enters 8:=fun _ _ => by simp [go_sem]
theorem e9 : Enters 9:=fun _ _ => by simp [go_sem]
theorem e10 : Enters 10:=fun _ _ => by simp [go_sem]
theorem e11 : Enters 11:=fun _ _ => by simp [go_sem]
theorem e12 : Enters 12:=fun _ _ => by simp [go_sem]
theorem e14 : Enters 14:=fun _ _ => by simp [go_sem]
theorem e16 : Enters 16:=fun _ _ => by simp [go_sem]
theorem e17 : Enters 17:=fun _ _ => by simp [go_sem]
theorem e19 : Enters 19:=fun _ _ => by simp [go_sem]
theorem e21 : Enters 21:=fun _ _ => by simp [go_sem]
theorem e22 : Enters 22:=fun _ _ => by simp [go_sem]
theorem e23 : Enters 23:=fun _ _ => by simp [go_sem]
theorem e24 : Enters 24:=fun _ _ => by simp [go_sem]
theorem e25 : Enters 25:=fun _ _ => by simp [go_sem]
theorem e26 : Enters 26:=fun _ _ => by simp [go_sem]
theorem e27 : Enters 27:=fun _ _ => by simp [go_sem]
theorem e30 : Enters 30:=fun _ _ => by simp [go_sem]
theorem e31 : Enters 31:=fun _ _ => by simp [go_sem]
theorem e32 : Enters 32:=fun _ _ => by simp [go_sem]
theorem e33 : Enters 33:=fun _ _ => by simp [go_sem]
theorem e34 : Enters 34:=fun _ _ => by simp [go_sem]
theorem e35 : Enters 35:=fun _ _ => by simp [go_sem]
theorem e40 : Enters 40:=fun _ _ => by simp [go_sem]
theorem e43 : Enters 43:=fun _ _ => by simp [go_sem]
theorem e44 : Enters 44:=fun _ _ => by simp [go_sem]
theorem e52 : Enters 52:=fun _ _ => by simp [go_sem]
theorem e53 : Enters 53:=fun _ _ => by simp [go_sem]
theorem e54 : Enters 54:=fun _ _ => by simp [go_sem]
theorem e55 : Enters 55:=fun _ _ => by simp [go_sem]
theorem e57 : Enters 57:=fun _ _ => by simp [go_sem]
theorem e58 : Enters 58:=fun _ _ => by simp [go_sem]
theorem e59 : Enters 59:=fun _ _ => by simp [go_sem]
theorem e60 : Enters 60:=fun _ _ => by simp [go_sem]
theorem e61 : Enters 61:=fun _ _ => by simp [go_sem]
theorem e62 : Enters 62:=fun _ _ => by simp [go_sem]
theorem e64 : Enters 64:=fun _ _ => by simp [go_sem]
theorem e65 : Enters 65:=fun _ _ => by simp [go_sem]
theorem e66 : Enters 66:=fun _ _ => by simp [go_sem]
theorem e67 : Enters 67:=fun _ _ => by simp [go_sem]
theorem e68 : Enters 68:=fun _ _ => by simp [go_sem]
theorem e69 : Enters 69:=fun _ _ => by simp [go_sem]
theorem e70 : Enters 70:=fun _ _ => by simp [go_sem]
theorem e71 : Enters 71:=fun _ _ => by simp [go_sem]
theorem e72 : Enters 72:=fun _ _ => by simp [go_sem]
theorem e73 : Enters 73:=fun _ _ => by simp [go_sem]
theorem e74 : Enters 74:=fun _ _ => by simp [go_sem]
theorem e75 : Enters 75:=fun _ _ => by simp [go_sem]
theorem e76 : Enters 76:=fun _ _ => by simp [go_sem]
theorem e77 : Enters 77:=fun _ _ => by simp [go_sem]
theorem e78 : Enters 78:=fun _ _ => by simp [go_sem]
theorem e79 : Enters 79:=fun _ _ => by simp [go_sem]
theorem e83 : Enters 83:=fun _ _ => by simp [go_sem]
theorem e84 : Enters 84:=fun _ _ => by simp [go_sem]
theorem e90 : Enters 90:=fun _ _ => by simp [go_sem]
theorem e91 : Enters 91:=fun _ _ => by simp [go_sem]
theorem e92 : Enters 92:=fun _ _ => by simp [go_sem]
theorem e93 : Enters 93:=fun _ _ => by simp [go_sem]
theorem e94 : Enters 94:=fun _ _ => by simp [go_sem]
theorem e95 : Enters 95:=fun _ _ => by simp [go_sem]
theorem e101 : Enters 101:=fun _ _ => by simp [go_sem]
theorem e102 : Enters 102:=fun _ _ => by simp [go_sem]
theorem e103 : Enters 103:=fun _ _ => by simp [go_sem]
theorem e108 : Enters 108:=fun _ _ => by simp [go_sem]
theorem e109 : Enters 109:=fun _ _ => by simp [go_sem]
theorem e122 : Enters 122:=fun _ _ => by simp [go_sem]
theorem e128 : Enters 128:=fun _ _ => by simp [go_sem]
end Go.Proofs.Ytpadgcomncljmaa.A
/- Lists of numbers: equal,facts,shares. -/
namespace Go.Proofs.Ytpadgcomncljmaa.A
open Go.RowKit

theorem in_same (x lo hi : Int) (w : World) : Calls Try.prog 55 #[.int .i64 x,.int .i64 lo,.int .i64 hi] w fun e w' => e = .returned (.bool (inB x lo hi)) ∧ w' = w:=(in_any x lo hi w).mono fun _ _ h => ⟨h.1,h.2.symm⟩

def eqB (a b : List Int) : Bool:=decide (a = b)
theorem eqB_len {a b : List Int} (h : a.length ≠ b.length) : eqB a b = false:=by simp [eqB];rintro rfl;exact h rfl
theorem eqB_cons (x y : Int) (a b : List Int) : eqB (x :: a) (y :: b) = (decide (x = y) && eqB a b):=by simp [eqB]

set_option maxHeartbeats 1000000 in
set_option maxRecDepth 100000 in
theorem same_any (A B : Option Addr) (ca cb : Nat) (a b : List Int) (w : World) (ha : RI Any w A a) (hb : RI Any w B b) (hn : a.length ≤ 9223372036854775807) :
    Calls Try.prog 19 #[.slice A a.length ca,.slice B b.length cb] w fun e w' => e = .returned (.bool (eqB a b)) ∧ Below w.heap.size w w':=by
  have HA:=Aside.mk ha;have HB:=Aside.mk hb;clear ha hb
  by_cases hl : a.length = b.length
  rotate_left
  · have HL:=Aside.mk (eqB_len hl)
    have hl' : ((a.length : Int) != (b.length : Int)) = true:=by simp;omega
    clear hl
    go_enter Try.func19,Try.ntmps19
    go_wp2
    go_ret
    exact ⟨ret_eq (by rw [HL.out];rfl),Below.refl _ _⟩
  have hl' : ((a.length : Int) != (b.length : Int)) = false:=by simp;omega
  have HL:=Aside.mk hl;clear hl
  go_enter Try.func19,Try.ntmps19
  go_wp2
  go_loopw [5] (fun v5 wr => ∃ k : Nat,k ≤ a.length ∧ v5 = .int .i64 k ∧ Aside (eqB a b = eqB (a.drop k) (b.drop k)) ∧ Below w.heap.size w wr) (fun i _ => a.length - (intOf i).toNat)
  case atStart => exact ⟨0,Nat.zero_le _,rfl,⟨by simp⟩,Below.refl _ _⟩
  case round =>
    obtain ⟨k,hk,rfl,HE,hB⟩:=hrel
    have HW:=Aside.mk hB;clear hB
    by_cases hlt : k < a.length
    · obtain ⟨x,hx⟩:=get_some hlt
      obtain ⟨y,hy⟩:=get_some (show k < b.length by have:=HL.out;omega)
      have HX:=Aside.mk (drop_get hx);have HY:=Aside.mk (drop_get hy)
      obtain ⟨ad,rfl,_,h0⟩:=(HA.out.below HW.out) k x hx
      obtain ⟨bd,rfl,_,h1⟩:=(HB.out.below HW.out) k y hy
      have hlt' : (k : Int) < (b.length : Int):=by have:=HL.out;omega
      clear hx hy
      by_cases hxy : x = y
      · have hn1 : (x != y) = false:=by simp [hxy]
        have HXY:=Aside.mk hxy;clear hxy
        go_wp2
        go_quiet (fail)
        go_wp2
        go_roundw
        case rel => exact ⟨k + 1,by omega,by go_num,⟨by rw [HE.out,HX.out,HY.out,eqB_cons,decide_eq_true HXY.out];rfl⟩,bel_drewN HW.out _⟩
        case measure => simp [intOf];omega
      · have hn1 : (x != y) = true:=by simp [hxy]
        have HXY:=Aside.mk hxy;clear hxy
        go_wp2
        go_quiet (fail)
        go_wp2
        go_ret
        exact ⟨ret_eq (by rw [HE.out,HX.out,HY.out,eqB_cons,decide_eq_false HXY.out];rfl),bel_drewN HW.out _⟩
    · have hke : k = a.length:=by omega
      have HK:=Aside.mk (show eqB (a.drop k) (b.drop k) = true by have:=HL.out;simp [eqB,hke];omega);clear hke
      go_wp2
      go_ret
      exact ⟨ret_eq (by rw [HE.out,HK.out];rfl),HW.out⟩

def factsFrom : Option Int → List Int → Bool
  | _,[] => true
  | none,x :: l => inB x 1 1000 && factsFrom (some x) l
  | some y,x :: l => inB x 1 1000 && decide (y < x) && factsFrom (some x) l
def factsB (l : List Int) : Bool:=factsFrom none l && decide (l.length ≤ 20)
theorem facts_bad {p : Option Int} {x : Int} {l : List Int} (h : inB x 1 1000 = false) : factsFrom p (x :: l) = false:=by cases p <;> simp [factsFrom,h]
theorem facts_first {x : Int} {l : List Int} (h : inB x 1 1000 = true) : factsFrom none (x :: l) = factsFrom (some x) l:=by simp [factsFrom,h]
theorem facts_next {x y : Int} {l : List Int} (h : inB x 1 1000 = true) (h' : y < x) : factsFrom (some y) (x :: l) = factsFrom (some x) l:=by simp [factsFrom,h,h']
theorem facts_stop {x y : Int} {l : List Int} (h' : x ≤ y) : factsFrom (some y) (x :: l) = false:=by
  have : ¬ y < x:=by omega
  simp [factsFrom,this]

set_option maxHeartbeats 1000000 in
set_option maxRecDepth 100000 in
theorem facts_any (A : Option Addr) (ca : Nat) (l : List Int) (w : World) (ha : RI Any w A l) (hn : l.length ≤ 9223372036854775807) :
    Calls Try.prog 94 #[.slice A l.length ca] w fun e w' => e = .returned (.bool (factsB l)) ∧ Below w.heap.size w w':=by
  have HA:=Aside.mk ha;clear ha
  go_enter Try.func94,Try.ntmps94
  go_wp2
  go_loopw [3] (fun v3 wr => ∃ k : Nat,k ≤ l.length ∧ v3 = .int .i64 k ∧ Aside (factsFrom none l = factsFrom (prev l k) (l.drop k)) ∧ Below w.heap.size w wr) (fun i _ => l.length - (intOf i).toNat)
  case atStart => exact ⟨0,Nat.zero_le _,rfl,⟨by simp [prev]⟩,Below.refl _ _⟩
  case round =>
    obtain ⟨k,hk,rfl,HE,hB⟩:=hrel
    have HW:=Aside.mk hB;clear hB
    by_cases hlt : k < l.length
    · obtain ⟨x,hx⟩:=get_some hlt
      have HX:=Aside.mk (drop_get hx);have HP:=Aside.mk (prev_succ l k x hx)
      obtain ⟨ad,rfl,_,h0⟩:=(HA.out.below HW.out) k x hx
      clear hx
      by_cases hin : inB x 1 1000 = true
      rotate_left
      · have hin' : inB x 1 1000 = false:=by simpa using hin
        clear hin;have HI:=Aside.mk hin'
        go_wp2
        go_quiet ((go_at_call 55;exact Calls.quiet_of_same (in_same _ _ _ _)))
        go_wp2
        go_ret
        exact ⟨ret_eq (by rw [factsB,HE.out,HX.out,facts_bad HI.out];rfl),bel_drewN HW.out _⟩
      have HI:=Aside.mk hin
      by_cases hk0 : 0 < k
      · obtain ⟨y,hy⟩:=get_some (show k - 1 < l.length by omega)
        obtain ⟨ad',had,_,h1⟩:=(HA.out.below HW.out) (k - 1) y hy
        cases had
        have HY:=Aside.mk (show prev l k = some y by unfold prev;rw [if_neg (by omega)];exact hy);clear hy;have hi : ((k : Int) - 1).toNat = k - 1:=by omega
        have hpos : decide ((0 : Int) < (k : Int)) = true:=by simp;omega
        have hb0 : (0 : Int) ≤ (k : Int) - 1:=by omega
        have hb1 : (k : Int) - 1 < (l.length : Int):=by omega
        by_cases hxy : x ≤ y
        · have hxd : decide (x ≤ y) = true:=decide_eq_true hxy
          have HXY:=Aside.mk hxy;clear hxy
          go_wp2
          go_quiet ((go_at_call 55;exact Calls.quiet_of_same (in_same _ _ _ _)))
          go_wp2
          go_ret
          exact ⟨ret_eq (by rw [factsB,HE.out,HX.out,HY.out,facts_stop HXY.out];rfl),bel_drewN HW.out _⟩
        · have hxd : decide (x ≤ y) = false:=decide_eq_false hxy
          have HXY:=Aside.mk (show y < x by omega);clear hxy
          go_wp2
          go_quiet ((go_at_call 55;exact Calls.quiet_of_same (in_same _ _ _ _)))
          go_wp2
          go_roundw
          case rel => exact ⟨k + 1,by omega,by go_num,⟨by rw [HE.out,HX.out,HY.out,facts_next HI.out HXY.out,HP.out]⟩,bel_drewN HW.out _⟩
          case measure => simp [intOf];omega
      · have hpos : decide (0 < k) = false:=decide_eq_false hk0
        have HY:=Aside.mk (show prev l k = none by unfold prev;rw [if_pos (by omega)]);have hk1 : k < 1:=by omega
        clear hk0
        go_wp2
        go_quiet ((go_at_call 55;exact Calls.quiet_of_same (in_same _ _ _ _)))
        go_wp2
        go_roundw
        case rel => exact ⟨k + 1,by omega,by go_num,⟨by rw [HE.out,HX.out,HY.out,facts_first HI.out,HP.out]⟩,bel_drewN HW.out _⟩
        case measure => simp [intOf];omega
    · have hke : k = l.length:=by omega
      have HK:=Aside.mk (show factsFrom none l = true by rw [HE.out];simp [hke];cases prev l l.length <;> rfl);clear hke
      go_wp2
      go_ret
      exact ⟨ret_eq (by rw [factsB,HK.out];simp [Bool.true_and];omega),HW.out⟩


end Go.Proofs.Ytpadgcomncljmaa.A
/- Whether an act has the shape of its kind. -/
namespace Go.Proofs.Ytpadgcomncljmaa.A
open Go.RowKit

def shapeX (a : ActL) : ActL :=
  if a.kind == 1 then { zeroAct with kind:=a.kind,minute:=a.minute,paper:=a.paper }
  else if a.kind == 2 then { zeroAct with kind:=a.kind,minute:=a.minute,by_:=a.by_,against:=a.against,paper:=a.paper,art:=a.art,at_:=a.at_,paid:=a.paid }
  else if a.kind == 3 || a.kind == 5 then { zeroAct with kind:=a.kind,minute:=a.minute,case_:=a.case_,up:=a.up,pen:=a.pen }
  else if a.kind == 4 then { zeroAct with kind:=a.kind,minute:=a.minute,case_:=a.case_,by_:=a.by_,paid:=a.paid }
  else { zeroAct with kind:=a.kind,minute:=a.minute,case_:=a.case_,by_:=a.by_ }
def shMin (a : ActL) : Bool:=inB a.minute 0 10000000
def shOk (cars : Int) (a : ActL) : Bool :=
  if a.kind == 1 then shMin a && inB a.paper 1 1000000
  else if a.kind == 2 then shMin a && inB a.by_ 1 cars && inB a.against 1 cars && (a.by_ != a.against) && inB a.paper 1 1000000 && inB a.art 1 10000 && inB a.at_ 0 a.minute && inB a.paid 0 1000000000
  else if a.kind == 3 || a.kind == 5 then shMin a && decide (0 ≤ a.case_) && inB a.pen 0 36000000
  else if a.kind == 4 then shMin a && decide (0 ≤ a.case_) && inB a.by_ 1 cars && inB a.paid 0 1000000000
  else shMin a && decide (0 ≤ a.case_) && inB a.by_ 1 cars
def shFacts (a : ActL) : Bool:=if a.kind == 2 then decide (a.facts.length ≤ 20) && factsFrom none a.facts else a.facts.length == 0
def sameRest (a x : ActL) : Bool:=(a.kind == x.kind) && (a.minute == x.minute) && (a.paper == x.paper) && (a.case_ == x.case_) && (a.by_ == x.by_) && (a.against == x.against) && (a.art == x.art) && (a.at_ == x.at_) && (a.paid == x.paid) && (a.up == x.up) && (a.pen == x.pen)
def shKind (a : ActL) : Bool:=a.kind == 1 || a.kind == 2 || a.kind == 3 || a.kind == 5 || a.kind == 4 || a.kind == 6
def shapedB (cars : Int) (a : ActL) : Bool:=shKind a && (shOk cars a && shFacts a && sameRest a (shapeX a))

theorem car_any (B g : Nat) (n cars : Int) (w : World) (hB : w.cell? ⟨B, 0, none⟩ = some (.pointer (some ⟨g, 0, none⟩))) (hg : w.cell? ⟨g, 0, none⟩ = some (.int .i64 cars)) :
    Calls Try.prog 95 #[.int .i64 n,.pointer (some ⟨B,0,none⟩)] w fun r w' => r = .returned (.bool (inB n 1 cars)) ∧ w = w':=by
  go_enter Try.func95,Try.ntmps95
  go_wp2_with (go_at_call 52;refine (within_any _ _ _ _).mono ?_;rintro e w' ⟨rfl,rfl⟩)
  go_ret
  exact ⟨rfl,rfl⟩

theorem new_at {w : World} {o : Obj} {k : Nat} (h : k = w.heap.size) : (w.alloc o).heap[k]? = some o:=by subst h;exact heap_alloc_new w o
theorem box43 {w : World} {b : Nat} {cs : Array Value} (h : w.heap[b]? = some (.cells cs 43 (0,0))) (i : Nat) (v : Value) (hi : cs[i]? = some v) : w.cell? ⟨b,i,none⟩ = some v:=by
  simp [World.cell?,h,hi]
theorem box_free {w : World} {b : Nat} {cs : Array Value} (h : w.heap[b]? = some (.cells cs 43 (0,0))) (i : Nat) : w.frozen? ⟨b,i,none⟩ = false:=by simp [World.frozen?,h]
theorem bel_mod {F : Nat → Prop} {w W W1 : World} (h : Below w.heap.size w W) (m : Mod F W W1) (hF : ∀ k,F k → w.heap.size ≤ k) : Below w.heap.size w W1 :=
  ⟨m.os.trans h.os,m.tape.trans h.tape,m.output.trans h.output,Nat.le_trans h.size m.size,fun k hk => (m.block k (Nat.lt_of_lt_of_le hk h.size) (fun e => by have:=hF k e;omega)).trans (h.block k hk)⟩

structure ShR (w : World) (cars : Int) (a : ActL) (A8 : Option Addr) (c8 : Nat) (fr : Act) (wx : World) : Prop where
  has : Has 283 [] [(3,.pointer (some ⟨w.heap.size + 1,0,none⟩)),(6,.pointer (some ⟨w.heap.size + 2,0,none⟩)),(7,.bool (shFacts a)),(8,.bool (shOk cars a))] fr
  kind : shKind a = true
  bel : Below w.heap.size w wx
  act : wx.heap[w.heap.size + 1]? = some (.cells #[.int .i64 a.kind,.int .i64 a.minute,.int .i64 a.paper,.int .i64 a.case_,.int .i64 a.by_,.int .i64 a.against,.int .i64 a.art,.int .i64 a.at_,.slice A8 a.facts.length c8,.int .i64 a.paid,.bool a.up,.int .i64 a.pen] 43 (0,0))
  x : wx.heap[w.heap.size + 2]? = some (.cells #[.int .i64 (shapeX a).kind,.int .i64 (shapeX a).minute,.int .i64 (shapeX a).paper,.int .i64 (shapeX a).case_,.int .i64 (shapeX a).by_,.int .i64 (shapeX a).against,.int .i64 (shapeX a).art,.int .i64 (shapeX a).at_,.slice none 0 0,.int .i64 (shapeX a).paid,.bool (shapeX a).up,.int .i64 (shapeX a).pen] 43 (0,0))
end Go.Proofs.Ytpadgcomncljmaa.A
/- The walk by lists for a region that draws its order: reads,and calls that leave what was there;and a frame written out again. -/
namespace Go.Proofs.Ytpadgcomncljmaa.A
open Go.RowKit

section
variable {P : Program} {ops : Array Oper} {C : World → Prop} {Q : Act → Prop} {a : Act} {rest : List Oper} {o : Oper} {n d : Nat} {ds : List Deferred} {l : List (Nat × Value)} {v u : Value}
theorem q_do (H : Has n ds l a) (hg : wantB ops n l o.guard = some true) (he : ∀ w,C w → (execOp a.eval o).run P w = .ok (.value v) w) (hdst : o.dst = some d) (hd : Nat.ble (d + 1) n = true) (h : ∀ a',Has n ds ((d,v) :: l) a' → wpQuiet P ops C Q rest a') : wpQuiet P ops C Q (o :: rest) a:=by
  refine wpQuiet_step fun K hK => ?_;rw [if_pos (want_sound H hg)];refine ⟨v,fun w hw => ?_,hK _ ?_⟩
  · unfold Oper.quietAt
    rw [he w hw];exact ⟨rfl,rfl⟩
  · rw [hdst]
    exact h _ (H.put hd)
theorem q_skip (H : Has n ds l a) (hg : wantB ops n l o.guard = some false) (hdst : o.dst = some d) (hd : Nat.ble (d + 1) n = true) (h : ∀ a',Has n ds ((d,undef) :: l) a' → wpQuiet P ops C Q rest a') : wpQuiet P ops C Q (o :: rest) a:=by
  refine wpQuiet_step fun K hK => ?_;rw [if_neg (by simp [want_sound H hg])];refine hK _ ?_;rw [hdst];exact h _ (H.put hd)
theorem q_enter {f : FuncId} {args : Array Value} (H : Has n ds l a) (hg : wantB ops n l o.guard = some true) (he : ∀ w, (execOp a.eval o).run P w = .ok (.enter f args) w) (hdst : o.dst = some d) (hd : Nat.ble (d + 1) n = true)
    (hc : ∀ w,C w → Calls P f args w fun e w' => e = .returned v ∧ C w') (h : ∀ a',Has n ds ((d,v) :: l) a' → wpQuiet P ops C Q rest a') : wpQuiet P ops C Q (o :: rest) a:=by
  refine wpQuiet_step fun K hK => ?_;rw [if_pos (want_sound H hg)];refine ⟨v,fun w hw => ?_,hK _ ?_⟩
  · unfold Oper.quietAt
    rw [he w];exact ⟨rfl,hc w hw⟩
  · rw [hdst]
    exact h _ (H.put hd)

variable {t : TypeId} {ps : String} {af : Array Edge} {g : Option (Nat × Bool)} {x y z : Operand} {T T' : TypeId} {p : Addr}
theorem q_move (H : Has n ds l a) (hg : wantB ops n l g = some true) (hx : lookO l x = some v) (hd : Nat.ble (d + 1) n = true) (h : ∀ a',Has n ds ((d,v) :: l) a' → wpQuiet P ops C Q rest a') : wpQuiet P ops C Q (⟨some d,.move x,t,ps,af,g⟩ :: rest) a :=
  q_do H hg (fun w _ => by have:=H.evO hx;generalize a.eval = ev at this;simp [go_sem,this]) rfl hd h
theorem q_assign (H : Has n ds l a) (hg : wantB ops n l g = some true) (hx : lookO l x = some v) (hd : Nat.ble (d + 1) n = true) (h : ∀ a',Has n ds ((d,v) :: l) a' → wpQuiet P ops C Q rest a') : wpQuiet P ops C Q (⟨some d,.assign x,t,ps,af,g⟩ :: rest) a :=
  q_do H hg (fun w _ => by have:=H.evO hx;generalize a.eval = ev at this;simp [go_sem,this]) rfl hd h
theorem q_pickT (H : Has n ds l a) (hg : wantB ops n l g = some true) (hx : lookO l x = some (.bool true)) (hy : lookO l y = some v) (hd : Nat.ble (d + 1) n = true) (h : ∀ a',Has n ds ((d,v) :: l) a' → wpQuiet P ops C Q rest a') : wpQuiet P ops C Q (⟨some d,.pick x y z,t,ps,af,g⟩ :: rest) a :=
  q_do H hg (fun w _ => by have h1:=H.evO hx;have h2:=H.evO hy;generalize a.eval = ev at h1 h2;simp [go_sem,h1,h2]) rfl hd h
theorem q_pickF (H : Has n ds l a) (hg : wantB ops n l g = some true) (hx : lookO l x = some (.bool false)) (hy : lookO l z = some v) (hd : Nat.ble (d + 1) n = true) (h : ∀ a',Has n ds ((d,v) :: l) a' → wpQuiet P ops C Q rest a') : wpQuiet P ops C Q (⟨some d,.pick x y z,t,ps,af,g⟩ :: rest) a :=
  q_do H hg (fun w _ => by have h1:=H.evO hx;have h2:=H.evO hy;generalize a.eval = ev at h1 h2;simp [go_sem,h1,h2]) rfl hd h
theorem q_nilCheck (H : Has n ds l a) (hg : wantB ops n l g = some true) (hx : lookO l x = some (.pointer (some p))) (hd : Nat.ble (d + 1) n = true) (h : ∀ a',Has n ds ((d,.pointer (some p)) :: l) a' → wpQuiet P ops C Q rest a') : wpQuiet P ops C Q (⟨some d,.nilCheck x,t,ps,af,g⟩ :: rest) a :=
  q_do H hg (fun w _ => by have h1:=H.evO hx;generalize a.eval = ev at h1;simp [go_sem,h1]) rfl hd h
theorem q_not {b : Bool} (H : Has n ds l a) (hg : wantB ops n l g = some true) (hx : lookO l x = some (.bool b)) (hd : Nat.ble (d + 1) n = true) (h : ∀ a',Has n ds ((d,.bool (!b)) :: l) a' → wpQuiet P ops C Q rest a') : wpQuiet P ops C Q (⟨some d,.unOp .not 4 x,t,ps,af,g⟩ :: rest) a :=
  q_do H hg (fun w _ => by have h1:=H.evO hx;generalize a.eval = ev at h1;simp [go_sem,h1]) rfl hd h
theorem q_extract {vs : Array Value} {k : Nat} (H : Has n ds l a) (hg : wantB ops n l g = some true) (hx : lookO l x = some (.tuple vs)) (hk : vs[k]? = some v) (hd : Nat.ble (d + 1) n = true) (h : ∀ a',Has n ds ((d,v) :: l) a' → wpQuiet P ops C Q rest a') : wpQuiet P ops C Q (⟨some d,.extract x k,t,ps,af,g⟩ :: rest) a :=
  q_do H hg (fun w _ => by have h1:=H.evO hx;generalize a.eval = ev at h1;simp [go_sem,h1,hk]) rfl hd h
end

section
variable {ops : Array Oper} {C : World → Prop} {Q : Act → Prop} {a : Act} {rest : List Oper} {o : Oper} {n d : Nat} {ds : List Deferred} {l : List (Nat × Value)} {v u : Value}
variable {t : TypeId} {ps : String} {af : Array Edge} {g : Option (Nat × Bool)} {x y z : Operand} {T T' : TypeId} {p : Addr}
theorem q_len {A : Option Addr} {k c : Nat} (H : Has n ds l a) (hg : wantB ops n l g = some true) (hx : lookO l x = some (.slice A k c)) (hT : lenT T = true) (hd : Nat.ble (d + 1) n = true) (h : ∀ a',Has n ds ((d,.int .i64 (k : Int)) :: l) a' → wpQuiet Try.prog ops C Q rest a') : wpQuiet Try.prog ops C Q (⟨some d,.call ⟨.builtin .len,#[x],#[T]⟩,t,ps,af,g⟩ :: rest) a :=
  q_do H hg (fun w _ => run_len (o:=⟨some d,.nilCheck x,t,ps,af,g⟩) hT (H.evO hx)) rfl hd h
theorem q_load (H : Has n ds l a) (hg : wantB ops n l g = some true) (hx : lookO l x = some (.pointer (some p))) (hT : oneT T = true) (hc : ∀ w,C w → w.cell? p = some v) (hd : Nat.ble (d + 1) n = true) (h : ∀ a',Has n ds ((d,v) :: l) a' → wpQuiet Try.prog ops C Q rest a') : wpQuiet Try.prog ops C Q (⟨some d,.load T x,t,ps,af,g⟩ :: rest) a :=
  q_do H hg (fun w hw => run_load (o:=⟨some d,.nilCheck x,t,ps,af,g⟩) hT (H.evO hx) (hc w hw)) rfl hd h
theorem q_field {k j : Nat} (H : Has n ds l a) (hg : wantB ops n l g = some true) (hx : lookO l x = some (.pointer (some p))) (hT : offT T k = some j) (hd : Nat.ble (d + 1) n = true) (h : ∀ a',Has n ds ((d,.pointer (some (p.add j))) :: l) a' → wpQuiet Try.prog ops C Q rest a') : wpQuiet Try.prog ops C Q (⟨some d,.fieldAddr T x k,t,ps,af,g⟩ :: rest) a :=
  q_do H hg (fun w _ => run_field (o:=⟨some d,.nilCheck x,t,ps,af,g⟩) hT (H.evO hx)) rfl hd h
theorem q_cmp {op : BinOp} {r : Int → Int → Bool} {m k : Int} {b : Bool} (H : Has n ds l a) (hg : wantB ops n l g = some true) (ho : cmpB op = some r) (hT : intT T = true) (hx : lookO l x = some (.int .i64 m)) (hy : lookO l y = some (.int .i64 k)) (hb : r m k = b) (hd : Nat.ble (d + 1) n = true)
    (h : ∀ a',Has n ds ((d,.bool b) :: l) a' → wpQuiet Try.prog ops C Q rest a') : wpQuiet Try.prog ops C Q (⟨some d,.binOp op T x y T,t,ps,af,g⟩ :: rest) a:=by
  subst hb
  exact q_do H hg (fun w _ => run_cmp (o:=⟨some d,.nilCheck x,t,ps,af,g⟩) hT ho (H.evO hx) (H.evO hy)) rfl hd h
theorem q_ar {op : BinOp} {r : Int → Int → Int} {m k : Int} (H : Has n ds l a) (hg : wantB ops n l g = some true) (ho : arI op = some r) (hx : lookO l x = some (.int .i64 m)) (hy : lookO l y = some (.int .i64 k)) (hb : -9223372036854775808 ≤ r m k ∧ r m k ≤ 9223372036854775807) (hd : Nat.ble (d + 1) n = true)
    (h : ∀ a',Has n ds ((d,.int .i64 (r m k)) :: l) a' → wpQuiet Try.prog ops C Q rest a') : wpQuiet Try.prog ops C Q (⟨some d,.binOp op 3 x y 3,t,ps,af,g⟩ :: rest) a:=by
  rw [← IntWalk.i64_in _ hb] at h;exact q_do H hg (fun w _ => run_ar (o:=⟨some d,.nilCheck x,t,ps,af,g⟩) ho (H.evO hx) (H.evO hy)) rfl hd h
theorem q_index {s k c : Nat} {i : Int} {j : Nat} (H : Has n ds l a) (hg : wantB ops n l g = some true) (hT : sizT T = some s) (hx : lookO l x = some (.slice (some p) k c)) (hy : lookO l y = some (.int .i64 i)) (hi : i = j) (hj : j < k) (hd : Nat.ble (d + 1) n = true)
    (h : ∀ a',Has n ds ((d,.pointer (some (p.add (j * s)))) :: l) a' → wpQuiet Try.prog ops C Q rest a') : wpQuiet Try.prog ops C Q (⟨some d,.indexAddr T x y,t,ps,af,g⟩ :: rest) a :=
  q_do H hg (fun w _ => run_index (o:=⟨some d,.nilCheck x,t,ps,af,g⟩) hT (H.evO hx) (H.evO hy) hi hj) rfl hd h
theorem q_load43 {v0 v1 v2 v3 v4 v5 v6 v7 v8 v9 v10 v11 : Value} (H : Has n ds l a) (hg : wantB ops n l g = some true) (hx : lookO l x = some (.pointer (some p)))
    (hc : ∀ w,C w → w.cell? p = some v0 ∧ w.cell? ⟨p.block,p.off + 1,none⟩ = some v1 ∧ w.cell? ⟨p.block,p.off + 2,none⟩ = some v2 ∧ w.cell? ⟨p.block,p.off + 3,none⟩ = some v3 ∧ w.cell? ⟨p.block,p.off + 4,none⟩ = some v4 ∧ w.cell? ⟨p.block,p.off + 5,none⟩ = some v5 ∧ w.cell? ⟨p.block,p.off + 6,none⟩ = some v6 ∧ w.cell? ⟨p.block,p.off + 7,none⟩ = some v7 ∧ w.cell? ⟨p.block,p.off + 8,none⟩ = some v8 ∧ w.cell? ⟨p.block,p.off + 9,none⟩ = some v9 ∧ w.cell? ⟨p.block,p.off + 10,none⟩ = some v10 ∧ w.cell? ⟨p.block,p.off + 11,none⟩ = some v11)
    (hd : Nat.ble (d + 1) n = true) (h : ∀ a',Has n ds ((d,.agg #[v0,v1,v2,v3,v4,v5,v6,v7,v8,v9,v10,v11]) :: l) a' → wpQuiet Try.prog ops C Q rest a') : wpQuiet Try.prog ops C Q (⟨some d,.load 43 x,t,ps,af,g⟩ :: rest) a :=
  q_do H hg (fun w hw => by
    obtain ⟨h0,h1,h2,h3,h4,h5,h6,h7,h8,h9,h10,h11⟩:=hc w hw
    have hx:=H.evO hx;have hu:=Try.underlying43;generalize a.eval = ev at hx;simp [go_sem,hx,hu,h0,h1,h2,h3,h4,h5,h6,h7,h8,h9,h10,h11]) rfl hd h
theorem q_call2 {f : FuncId} {at_ : Array TypeId} {x1 x2 : Operand} {v1 v2 : Value} (H : Has n ds l a) (hf : Enters f) (hg : wantB ops n l g = some true) (h1 : lookO l x1 = some v1) (h2 : lookO l x2 = some v2) (hd : Nat.ble (d + 1) n = true) (hc : ∀ w,C w → Calls Try.prog f #[v1,v2] w fun e w' => e = .returned v ∧ C w') (h : ∀ a',Has n ds ((d,v) :: l) a' → wpQuiet Try.prog ops C Q rest a') : wpQuiet Try.prog ops C Q (⟨some d,.call ⟨.value (.func f),#[x1,x2],at_⟩,t,ps,af,g⟩ :: rest) a :=
  q_enter H hg (fun w => by have h0:=H.evO (x:=.func f) rfl;have h1:=H.evO h1;have h2:=H.evO h2;generalize a.eval = ev at h0 h1 h2;simp [go_sem,h0,h1,h2,hf _ _]) rfl hd hc h
theorem q_call3 {f : FuncId} {at_ : Array TypeId} {x1 x2 x3 : Operand} {v1 v2 v3 : Value} (H : Has n ds l a) (hf : Enters f) (hg : wantB ops n l g = some true) (h1 : lookO l x1 = some v1) (h2 : lookO l x2 = some v2) (h3 : lookO l x3 = some v3) (hd : Nat.ble (d + 1) n = true) (hc : ∀ w,C w → Calls Try.prog f #[v1,v2,v3] w fun e w' => e = .returned v ∧ C w') (h : ∀ a',Has n ds ((d,v) :: l) a' → wpQuiet Try.prog ops C Q rest a') : wpQuiet Try.prog ops C Q (⟨some d,.call ⟨.value (.func f),#[x1,x2,x3],at_⟩,t,ps,af,g⟩ :: rest) a :=
  q_enter H hg (fun w => by have h0:=H.evO (x:=.func f) rfl;have h1:=H.evO h1;have h2:=H.evO h2;have h3:=H.evO h3;generalize a.eval = ev at h0 h1 h2 h3;simp [go_sem,h0,h1,h2,h3,hf _ _]) rfl hd hc h
theorem q_call4 {f : FuncId} {at_ : Array TypeId} {x1 x2 x3 x4 : Operand} {v1 v2 v3 v4 : Value} (H : Has n ds l a) (hf : Enters f) (hg : wantB ops n l g = some true) (h1 : lookO l x1 = some v1) (h2 : lookO l x2 = some v2) (h3 : lookO l x3 = some v3) (h4 : lookO l x4 = some v4) (hd : Nat.ble (d + 1) n = true) (hc : ∀ w,C w → Calls Try.prog f #[v1,v2,v3,v4] w fun e w' => e = .returned v ∧ C w') (h : ∀ a',Has n ds ((d,v) :: l) a' → wpQuiet Try.prog ops C Q rest a') : wpQuiet Try.prog ops C Q (⟨some d,.call ⟨.value (.func f),#[x1,x2,x3,x4],at_⟩,t,ps,af,g⟩ :: rest) a :=
  q_enter H hg (fun w => by have h0:=H.evO (x:=.func f) rfl;have h1:=H.evO h1;have h2:=H.evO h2;have h3:=H.evO h3;have h4:=H.evO h4;generalize a.eval = ev at h0 h1 h2 h3 h4;simp [go_sem,h0,h1,h2,h3,h4,hf _ _]) rfl hd hc h
end

theorem r_quiet {P : Program} {id : Nat} {Q : Exit → Act → World → Prop} {a : Act} {w : World} {l : List Oper} {n : Nat} {ds : List Deferred} {ls : List (Nat × Value)} (C : World → Prop) (hm : P.follows .mixedOrders = true) (hB : Region.lexB .any l.toArray = true) (hC : C w.drew) (H : Has n ds ls a)
    (h : ∀ a',Has n ds ls a' → wpQuiet P l.toArray C (fun a' => ∀ w',C w' → Q .normal a' w') l a') : (Code.region id l.toArray true).wp P Q a w :=
  wp_region_quiet (C:=C) hm hB hC (by simpa using h a H)
theorem q_nil {P : Program} {ops : Array Oper} {C : World → Prop} {Q : Act → Prop} {a : Act} (h : Q a) : wpQuiet P ops C Q [] a:=h

theorem Has.spread {n : Nat} {ds : List Deferred} {l : List (Nat × Value)} {a : Act} (H : Has n ds l a) : ∃ f : Nat → Value,a = ⟨((List.range n).map f).toArray,ds⟩ ∧ ∀ j v,look l j = some v → Nat.ble (j + 1) n = true → f j = v:=by
  refine ⟨fun j => a.tmps.getD j undef,?_,fun j v h _ => H.at_ j v h⟩
  obtain ⟨tm,df⟩:=a
  have h1:=H.size;have h2:=H.defers
  simp only at h1 h2
  subst h1 h2
  congr 1
  refine Array.ext (by simp) fun i h1 h2 => ?_
  simp [Array.getD,h1]
end Go.Proofs.Ytpadgcomncljmaa.A
/- The walk by lists for a region that draws its order and changes memory: each operation by its number. -/
namespace Go.Proofs.Ytpadgcomncljmaa.A
open Go.RowKit

section
variable {P : Program} {ops : Array Oper} {Q : Exit → Act → World → Prop} {S : World → Prop} {a : Act} {w w' : World} {o : Oper} {n d i j fuel : Nat} {ds : List Deferred} {l : List (Nat × Value)} {v u : Value} {listed : Array Bool} {K : Act → World → Prop}
theorem t_begin {id : Nat} (hm : P.follows .mixedOrders = true) (h : wpAnyH P .any ops (NoPanic Q) S ops.size (Array.replicate ops.size false) a w.drew) : (Code.region id ops true).wp P Q a w :=
  wp_region_noPanic (wp_region_held hm h)
theorem t_take (H : Has n ds l a) (ho : ops[i]? = some o) (hs : Region.noSelect ops = true) (hf : Region.free .any ops listed i = true) (hr : (Region.ready .any ops listed).contains i = true) (hg : wantB ops n l o.guard = some true)
    (he : ∀ w,S w → (execOp a.eval o).run P w = .ok (.value v) w) (hdst : o.dst = some d) (hd : Nat.ble (d + 1) n = true) (hS : S w)
    (h : ∀ a',Has n ds ((d,v) :: l) a' → wpAnyH P .any ops (NoPanic Q) S fuel (listed.setIfInBounds i true) a' w) : wpAnyH P .any ops (NoPanic Q) S (fuel + 1) listed a w :=
  wpAnyH_take ho hs hf hr (fun _ _ _ h => h) (.inl ⟨want_sound H hg,he⟩) hS (by rw [hdst];exact h _ (H.put hd))
theorem t_op (H : Has n ds l a) (ho : ops[i]? = some o) (hg : wantB ops n l o.guard = some true) (he : (execOp a.eval o).run P w = .ok (.value v) w') (hdst : o.dst = some d) (hd : Nat.ble (d + 1) n = true)
    (h : ∀ a',Has n ds ((d,v) :: l) a' → K a' w') : wpOp P ops Q i K a w:=by
  unfold wpOp
  simp only [ho];rw [if_pos (want_sound H hg)];refine .inl ?_
  unfold Oper.wp
  rw [he]
  show K (a.put o.dst v) w'
  rw [hdst];exact h _ (H.put hd)
theorem t_skip (H : Has n ds l a) (ho : ops[i]? = some o) (hg : wantB ops n l o.guard = some true) (he : (execOp a.eval o).run P w = .ok .skip w') (hdst : o.dst = none)
    (h : ∀ a',Has n ds l a' → K a' w') : wpOp P ops Q i K a w:=by
  unfold wpOp
  simp only [ho];rw [if_pos (want_sound H hg)];refine .inl ?_
  unfold Oper.wp
  rw [he]
  show K (a.put o.dst undef) w'
  rw [hdst];exact h _ H
theorem t_wp (H : Has n ds l a) (ho : ops[i]? = some o) (hg : wantB ops n l o.guard = some true) (h : o.wp P a w K Q) : wpOp P ops Q i K a w:=by
  unfold wpOp
  simp only [ho];rw [if_pos (want_sound H hg)];exact .inl h
theorem t_one (hr : Region.ready .any ops listed = [i]) (h : wpOp P ops Q i (fun a' w' => S w' ∧ wpAnyH P .any ops Q S fuel (listed.setIfInBounds i true) a' w') a w) : wpAnyH P .any ops Q S (fuel + 1) listed a w :=
  wpAnyH_all hr (by simp) fun k hk => by
    obtain rfl:=List.mem_singleton.1 hk
    exact h
theorem t_two (hr : Region.ready .any ops listed = [i,j]) (h : wpOp P ops Q i (fun a' w' => S w' ∧ wpAnyH P .any ops Q S fuel (listed.setIfInBounds i true) a' w') a w) (h' : wpOp P ops Q j (fun a' w' => S w' ∧ wpAnyH P .any ops Q S fuel (listed.setIfInBounds j true) a' w') a w) : wpAnyH P .any ops Q S (fuel + 1) listed a w :=
  wpAnyH_all hr (by simp) fun k hk => by
    rcases List.mem_cons.1 hk with rfl | hk
    · exact h
    · obtain rfl:=List.mem_singleton.1 hk
      exact h'
variable {t : TypeId} {ps : String} {af : Array Edge} {g : Option (Nat × Bool)} {x y z : Operand} {T T' : TypeId} {p : Addr} {od : Option Tmp}
theorem x_move (H : Has n ds l a) (hx : lookO l x = some v) : (execOp a.eval ⟨od,.move x,t,ps,af,g⟩).run P w = .ok (.value v) w:=by
  have:=H.evO hx;generalize a.eval = ev at this;simp [go_sem,this]
theorem x_nilCheck (H : Has n ds l a) (hx : lookO l x = some (.pointer (some p))) : (execOp a.eval ⟨od,.nilCheck x,t,ps,af,g⟩).run P w = .ok (.value (.pointer (some p))) w:=by
  have:=H.evO hx;generalize a.eval = ev at this;simp [go_sem,this]
end
section
variable {ops : Array Oper} {Q : Exit → Act → World → Prop} {a : Act} {w w' : World} {o : Oper} {n d : Nat} {ds : List Deferred} {l : List (Nat × Value)} {v u : Value}
variable {t : TypeId} {ps : String} {af : Array Edge} {g : Option (Nat × Bool)} {x y z : Operand} {T T' : TypeId} {p : Addr} {od : Option Tmp}
theorem x_field {k j : Nat} (H : Has n ds l a) (hx : lookO l x = some (.pointer (some p))) (hT : offT T k = some j) : (execOp a.eval ⟨od,.fieldAddr T x k,t,ps,af,g⟩).run Try.prog w = .ok (.value (.pointer (some (p.add j)))) w :=
  run_field (o:=⟨od,.nilCheck x,t,ps,af,g⟩) hT (H.evO hx)
theorem x_load (H : Has n ds l a) (hx : lookO l x = some (.pointer (some p))) (hT : oneT T = true) (hc : w.cell? p = some v) : (execOp a.eval ⟨od,.load T x,t,ps,af,g⟩).run Try.prog w = .ok (.value v) w :=
  run_load (o:=⟨od,.nilCheck x,t,ps,af,g⟩) hT (H.evO hx) hc
theorem x_len {A : Option Addr} {k c : Nat} (H : Has n ds l a) (hx : lookO l x = some (.slice A k c)) (hT : lenT T = true) : (execOp a.eval ⟨od,.call ⟨.builtin .len,#[x],#[T]⟩,t,ps,af,g⟩).run Try.prog w = .ok (.value (.int .i64 (k : Int))) w :=
  run_len (o:=⟨od,.nilCheck x,t,ps,af,g⟩) hT (H.evO hx)
theorem x_index {s k c : Nat} {i : Int} {j : Nat} (H : Has n ds l a) (hT : sizT T = some s) (hx : lookO l x = some (.slice (some p) k c)) (hy : lookO l y = some (.int .i64 i)) (hi : i = j) (hj : j < k) : (execOp a.eval ⟨od,.indexAddr T x y,t,ps,af,g⟩).run Try.prog w = .ok (.value (.pointer (some (p.add (j * s))))) w :=
  run_index (o:=⟨od,.nilCheck x,t,ps,af,g⟩) hT (H.evO hx) (H.evO hy) hi hj
theorem x_load43 {v0 v1 v2 v3 v4 v5 v6 v7 v8 v9 v10 v11 : Value} (H : Has n ds l a) (hx : lookO l x = some (.pointer (some p)))
    (hc : w.cell? p = some v0 ∧ w.cell? ⟨p.block,p.off + 1,none⟩ = some v1 ∧ w.cell? ⟨p.block,p.off + 2,none⟩ = some v2 ∧ w.cell? ⟨p.block,p.off + 3,none⟩ = some v3 ∧ w.cell? ⟨p.block,p.off + 4,none⟩ = some v4 ∧ w.cell? ⟨p.block,p.off + 5,none⟩ = some v5 ∧ w.cell? ⟨p.block,p.off + 6,none⟩ = some v6 ∧ w.cell? ⟨p.block,p.off + 7,none⟩ = some v7 ∧ w.cell? ⟨p.block,p.off + 8,none⟩ = some v8 ∧ w.cell? ⟨p.block,p.off + 9,none⟩ = some v9 ∧ w.cell? ⟨p.block,p.off + 10,none⟩ = some v10 ∧ w.cell? ⟨p.block,p.off + 11,none⟩ = some v11) :
    (execOp a.eval ⟨od,.load 43 x,t,ps,af,g⟩).run Try.prog w = .ok (.value (.agg #[v0,v1,v2,v3,v4,v5,v6,v7,v8,v9,v10,v11])) w:=by
  obtain ⟨h0,h1,h2,h3,h4,h5,h6,h7,h8,h9,h10,h11⟩:=hc
  have hx:=H.evO hx;have hu:=Try.underlying43;generalize a.eval = ev at hx;simp [go_sem,hx,hu,h0,h1,h2,h3,h4,h5,h6,h7,h8,h9,h10,h11]
theorem x_one22 {k : Int} (H : Has n ds l a) (hx : lookO l x = some (.int .i64 k)) : (execOp a.eval ⟨od,.buildSlice 22 1 #[(0,x)],t,ps,af,g⟩).run Try.prog w = .ok (.value (.slice (some ⟨w.heap.size,0,none⟩) 1 1)) (w.alloc (.cells #[.int .i64 k] 3)):=by
  have hx:=H.evO hx;generalize a.eval = ev at hx;simp [go_sem,hx]
theorem x_one34 {v0 v1 v2 v3 v4 v5 v6 v7 v8 v9 v10 v11 : Value} (H : Has n ds l a) (hx : lookO l x = some (.agg #[v0,v1,v2,v3,v4,v5,v6,v7,v8,v9,v10,v11])) : (execOp a.eval ⟨od,.buildSlice 34 1 #[(0,x)],t,ps,af,g⟩).run Try.prog w = .ok (.value (.slice (some ⟨w.heap.size,0,none⟩) 1 1)) (w.alloc (.cells #[v0,v1,v2,v3,v4,v5,v6,v7,v8,v9,v10,v11] 43)):=by
  have hx:=H.evO hx;generalize a.eval = ev at hx;simp [go_sem,hx]
theorem x_store {c : Value} (H : Has n ds l a) (hx : lookO l x = some (.pointer (some p))) (hy : lookO l y = some v) (hT : oneT T = true) (h1 : storable v = true) (hc : w.cell? p = some c) (hf : w.frozen? p = false) : (execOp a.eval ⟨none,.store T x y,t,ps,af,g⟩).run Try.prog w = .ok .skip (w.setCell p v) :=
  run_store hT (H.evO hx) (H.evO hy) hc hf h1
end
end Go.Proofs.Ytpadgcomncljmaa.A
/- Whether an act of kind none has the shape of its kind. -/
namespace Go.Proofs.Ytpadgcomncljmaa.A
open Go.RowKit

set_option maxHeartbeats 4000000 in
set_option maxRecDepth 100000 in
theorem shaped_0 (g : Nat) (cars : Int) (a : ActL) (A8 : Option Addr) (c8 : Nat) (w : World) (hg : w.cell? ⟨g, 0, none⟩ = some (.int .i64 cars)) (hf8 : RI Any w A8 a.facts) (hfl : a.facts.length ≤ 1000000) (h1 : ¬ a.kind = 1) (h2 : ¬ a.kind = 2) (h3 : ¬ a.kind = 3) (h4 : ¬ a.kind = 4) (h5 : ¬ a.kind = 5) (h6 : ¬ a.kind = 6) :
    Calls Try.prog 62 #[.pointer (some ⟨g,0,none⟩),.agg #[.int .i64 a.kind,.int .i64 a.minute,.int .i64 a.paper,.int .i64 a.case_,.int .i64 a.by_,.int .i64 a.against,.int .i64 a.art,.int .i64 a.at_,.slice A8 a.facts.length c8,.int .i64 a.paid,.bool a.up,.int .i64 a.pen]] w fun r w' => r = .returned (.bool (shapedB cars a)) ∧ Below w.heap.size w w':=by
  have hgl:=lt_of_cell hg;have HG:=Aside.mk hg;have HF:=Aside.mk hf8;clear hg hf8
  go_enter Try.func62,Try.ntmps62
  go_upto_block 0 with (go_at_call 52;refine (within_any _ _ _ _).mono ?_;rintro e w' ⟨rfl,rfl⟩)
  refine wp_cut (ShR w cars a A8 c8) ?_ ?_
  · intro fr wc hR
    go_step;refine wp_seq_k ?_;intro _ _
    obtain ⟨hf,hk,hb,ha,hx⟩:=hR
    have HK:=Aside.mk hk;have HB:=Aside.mk hb;have y0 : wc.cell? ⟨w.heap.size + 1,0,none⟩ = some (.int .i64 a.kind):=box43 ha 0 _ rfl;have x0 : wc.cell? ⟨w.heap.size + 2,0,none⟩ = some (.int .i64 (shapeX a).kind):=box43 hx 0 _ rfl;have y1 : wc.cell? ⟨w.heap.size + 1,1,none⟩ = some (.int .i64 a.minute):=box43 ha 1 _ rfl;have x1 : wc.cell? ⟨w.heap.size + 2,1,none⟩ = some (.int .i64 (shapeX a).minute):=box43 hx 1 _ rfl;have y2 : wc.cell? ⟨w.heap.size + 1,2,none⟩ = some (.int .i64 a.paper):=box43 ha 2 _ rfl;have x2 : wc.cell? ⟨w.heap.size + 2,2,none⟩ = some (.int .i64 (shapeX a).paper):=box43 hx 2 _ rfl;have y3 : wc.cell? ⟨w.heap.size + 1,3,none⟩ = some (.int .i64 a.case_):=box43 ha 3 _ rfl;have x3 : wc.cell? ⟨w.heap.size + 2,3,none⟩ = some (.int .i64 (shapeX a).case_):=box43 hx 3 _ rfl;have y4 : wc.cell? ⟨w.heap.size + 1,4,none⟩ = some (.int .i64 a.by_):=box43 ha 4 _ rfl;have x4 : wc.cell? ⟨w.heap.size + 2,4,none⟩ = some (.int .i64 (shapeX a).by_):=box43 hx 4 _ rfl;have y5 : wc.cell? ⟨w.heap.size + 1,5,none⟩ = some (.int .i64 a.against):=box43 ha 5 _ rfl;have x5 : wc.cell? ⟨w.heap.size + 2,5,none⟩ = some (.int .i64 (shapeX a).against):=box43 hx 5 _ rfl;have y6 : wc.cell? ⟨w.heap.size + 1,6,none⟩ = some (.int .i64 a.art):=box43 ha 6 _ rfl;have x6 : wc.cell? ⟨w.heap.size + 2,6,none⟩ = some (.int .i64 (shapeX a).art):=box43 hx 6 _ rfl;have y7 : wc.cell? ⟨w.heap.size + 1,7,none⟩ = some (.int .i64 a.at_):=box43 ha 7 _ rfl;have x7 : wc.cell? ⟨w.heap.size + 2,7,none⟩ = some (.int .i64 (shapeX a).at_):=box43 hx 7 _ rfl;have y9 : wc.cell? ⟨w.heap.size + 1,9,none⟩ = some (.int .i64 a.paid):=box43 ha 9 _ rfl;have x9 : wc.cell? ⟨w.heap.size + 2,9,none⟩ = some (.int .i64 (shapeX a).paid):=box43 hx 9 _ rfl;have y10 : wc.cell? ⟨w.heap.size + 1,10,none⟩ = some (.bool a.up):=box43 ha 10 _ rfl;have x10 : wc.cell? ⟨w.heap.size + 2,10,none⟩ = some (.bool (shapeX a).up):=box43 hx 10 _ rfl;have y11 : wc.cell? ⟨w.heap.size + 1,11,none⟩ = some (.int .i64 a.pen):=box43 ha 11 _ rfl;have x11 : wc.cell? ⟨w.heap.size + 2,11,none⟩ = some (.int .i64 (shapeX a).pen):=box43 hx 11 _ rfl;clear hk hb ha hx;refine wp_region_lit ?_;refine a_move hf rfl rfl rfl ?_;clear hf;intro _ hf;refine group_and 202 7 203 1 _ _ rfl (by omega) (by omega) (by rw [hf.size];decide) (hf.at_ 202 _ rfl) (hf.at_ 7 _ rfl) ?_;intro _ L E;replace hf:=(hf.low L rfl).cons (d:=205) E;clear L E;refine group_cmp 205 206 4 0 _ (a.kind == (shapeX a).kind) 41 (.pointer (some ⟨w.heap.size + 1,0,none⟩)) (.pointer (some ⟨w.heap.size + 2,0,none⟩)) (.int .i64 a.kind) (.int .i64 (shapeX a).kind) rfl (by omega) (by omega) (by rw [hf.size];decide) (hf.at_ 205 _ rfl) (fun ev h => by rw [hf.at_ 3 _ rfl] at h;simp [go_sem,h]) (fun ev h => by simp [go_sem,h,y0]) (fun ev h => by rw [hf.at_ 6 _ rfl] at h;simp [go_sem,h]) (fun ev h => by simp [go_sem,h,x0]) (fun ev h h' => by simp [go_sem,h,h']) ?_
    intro _ L E;replace hf:=(((hf.nilOf.cons (hf.at_ 3 _ rfl)).cons (hf.at_ 6 _ rfl)).low L rfl).cons (d:=212) E;clear L E;refine group_cmp 212 213 11 1 _ (a.minute == (shapeX a).minute) 3 (.pointer (some ⟨w.heap.size + 1,1,none⟩)) (.pointer (some ⟨w.heap.size + 2,1,none⟩)) (.int .i64 a.minute) (.int .i64 (shapeX a).minute) rfl (by omega) (by omega) (by rw [hf.size];decide) (hf.at_ 212 _ rfl) (fun ev h => by rw [hf.at_ 3 _ rfl] at h;simp [go_sem,h]) (fun ev h => by simp [go_sem,h,y1]) (fun ev h => by rw [hf.at_ 6 _ rfl] at h;simp [go_sem,h]) (fun ev h => by simp [go_sem,h,x1]) (fun ev h h' => by simp [go_sem,h,h']) ?_;intro _ L E;replace hf:=(((hf.nilOf.cons (hf.at_ 3 _ rfl)).cons (hf.at_ 6 _ rfl)).low L rfl).cons (d:=219) E;clear L E;refine group_cmp 219 220 18 2 _ (a.paper == (shapeX a).paper) 3 (.pointer (some ⟨w.heap.size + 1,2,none⟩)) (.pointer (some ⟨w.heap.size + 2,2,none⟩)) (.int .i64 a.paper) (.int .i64 (shapeX a).paper) rfl (by omega) (by omega) (by rw [hf.size];decide) (hf.at_ 219 _ rfl) (fun ev h => by rw [hf.at_ 3 _ rfl] at h;simp [go_sem,h]) (fun ev h => by simp [go_sem,h,y2]) (fun ev h => by rw [hf.at_ 6 _ rfl] at h;simp [go_sem,h]) (fun ev h => by simp [go_sem,h,x2]) (fun ev h h' => by simp [go_sem,h,h']) ?_;intro _ L E;replace hf:=(((hf.nilOf.cons (hf.at_ 3 _ rfl)).cons (hf.at_ 6 _ rfl)).low L rfl).cons (d:=226) E;clear L E;refine group_cmp 226 227 25 3 _ (a.case_ == (shapeX a).case_) 3 (.pointer (some ⟨w.heap.size + 1,3,none⟩)) (.pointer (some ⟨w.heap.size + 2,3,none⟩)) (.int .i64 a.case_) (.int .i64 (shapeX a).case_) rfl (by omega) (by omega) (by rw [hf.size];decide) (hf.at_ 226 _ rfl) (fun ev h => by rw [hf.at_ 3 _ rfl] at h;simp [go_sem,h]) (fun ev h => by simp [go_sem,h,y3]) (fun ev h => by rw [hf.at_ 6 _ rfl] at h;simp [go_sem,h]) (fun ev h => by simp [go_sem,h,x3]) (fun ev h h' => by simp [go_sem,h,h']) ?_;intro _ L E;replace hf:=(((hf.nilOf.cons (hf.at_ 3 _ rfl)).cons (hf.at_ 6 _ rfl)).low L rfl).cons (d:=233) E;clear L E;refine group_cmp 233 234 32 4 _ (a.by_ == (shapeX a).by_) 3 (.pointer (some ⟨w.heap.size + 1,4,none⟩)) (.pointer (some ⟨w.heap.size + 2,4,none⟩)) (.int .i64 a.by_) (.int .i64 (shapeX a).by_) rfl (by omega) (by omega) (by rw [hf.size];decide) (hf.at_ 233 _ rfl) (fun ev h => by rw [hf.at_ 3 _ rfl] at h;simp [go_sem,h]) (fun ev h => by simp [go_sem,h,y4]) (fun ev h => by rw [hf.at_ 6 _ rfl] at h;simp [go_sem,h]) (fun ev h => by simp [go_sem,h,x4]) (fun ev h h' => by simp [go_sem,h,h']) ?_;intro _ L E;replace hf:=(((hf.nilOf.cons (hf.at_ 3 _ rfl)).cons (hf.at_ 6 _ rfl)).low L rfl).cons (d:=240) E;clear L E;refine group_cmp 240 241 39 5 _ (a.against == (shapeX a).against) 3 (.pointer (some ⟨w.heap.size + 1,5,none⟩)) (.pointer (some ⟨w.heap.size + 2,5,none⟩)) (.int .i64 a.against) (.int .i64 (shapeX a).against) rfl (by omega) (by omega) (by rw [hf.size];decide) (hf.at_ 240 _ rfl) (fun ev h => by rw [hf.at_ 3 _ rfl] at h;simp [go_sem,h]) (fun ev h => by simp [go_sem,h,y5]) (fun ev h => by rw [hf.at_ 6 _ rfl] at h;simp [go_sem,h]) (fun ev h => by simp [go_sem,h,x5]) (fun ev h h' => by simp [go_sem,h,h']) ?_
    intro _ L E;replace hf:=(((hf.nilOf.cons (hf.at_ 3 _ rfl)).cons (hf.at_ 6 _ rfl)).low L rfl).cons (d:=247) E;clear L E;refine group_cmp 247 248 46 6 _ (a.art == (shapeX a).art) 3 (.pointer (some ⟨w.heap.size + 1,6,none⟩)) (.pointer (some ⟨w.heap.size + 2,6,none⟩)) (.int .i64 a.art) (.int .i64 (shapeX a).art) rfl (by omega) (by omega) (by rw [hf.size];decide) (hf.at_ 247 _ rfl) (fun ev h => by rw [hf.at_ 3 _ rfl] at h;simp [go_sem,h]) (fun ev h => by simp [go_sem,h,y6]) (fun ev h => by rw [hf.at_ 6 _ rfl] at h;simp [go_sem,h]) (fun ev h => by simp [go_sem,h,x6]) (fun ev h h' => by simp [go_sem,h,h']) ?_;intro _ L E;replace hf:=(((hf.nilOf.cons (hf.at_ 3 _ rfl)).cons (hf.at_ 6 _ rfl)).low L rfl).cons (d:=254) E;clear L E;refine group_cmp 254 255 53 7 _ (a.at_ == (shapeX a).at_) 3 (.pointer (some ⟨w.heap.size + 1,7,none⟩)) (.pointer (some ⟨w.heap.size + 2,7,none⟩)) (.int .i64 a.at_) (.int .i64 (shapeX a).at_) rfl (by omega) (by omega) (by rw [hf.size];decide) (hf.at_ 254 _ rfl) (fun ev h => by rw [hf.at_ 3 _ rfl] at h;simp [go_sem,h]) (fun ev h => by simp [go_sem,h,y7]) (fun ev h => by rw [hf.at_ 6 _ rfl] at h;simp [go_sem,h]) (fun ev h => by simp [go_sem,h,x7]) (fun ev h h' => by simp [go_sem,h,h']) ?_;intro _ L E;replace hf:=(((hf.nilOf.cons (hf.at_ 3 _ rfl)).cons (hf.at_ 6 _ rfl)).low L rfl).cons (d:=261) E;clear L E;refine group_cmp 261 262 60 9 _ (a.paid == (shapeX a).paid) 3 (.pointer (some ⟨w.heap.size + 1,9,none⟩)) (.pointer (some ⟨w.heap.size + 2,9,none⟩)) (.int .i64 a.paid) (.int .i64 (shapeX a).paid) rfl (by omega) (by omega) (by rw [hf.size];decide) (hf.at_ 261 _ rfl) (fun ev h => by rw [hf.at_ 3 _ rfl] at h;simp [go_sem,h]) (fun ev h => by simp [go_sem,h,y9]) (fun ev h => by rw [hf.at_ 6 _ rfl] at h;simp [go_sem,h]) (fun ev h => by simp [go_sem,h,x9]) (fun ev h h' => by simp [go_sem,h,h']) ?_;intro _ L E;replace hf:=(((hf.nilOf.cons (hf.at_ 3 _ rfl)).cons (hf.at_ 6 _ rfl)).low L rfl).cons (d:=268) E;clear L E;refine group_cmp 268 269 67 10 _ (a.up == (shapeX a).up) 4 (.pointer (some ⟨w.heap.size + 1,10,none⟩)) (.pointer (some ⟨w.heap.size + 2,10,none⟩)) (.bool a.up) (.bool (shapeX a).up) rfl (by omega) (by omega) (by rw [hf.size];decide) (hf.at_ 268 _ rfl) (fun ev h => by rw [hf.at_ 3 _ rfl] at h;simp [go_sem,h]) (fun ev h => by simp [go_sem,h,y10]) (fun ev h => by rw [hf.at_ 6 _ rfl] at h;simp [go_sem,h]) (fun ev h => by simp [go_sem,h,x10]) (fun ev h h' => by simp [go_sem,h,h']) ?_;intro _ L E;replace hf:=(((hf.nilOf.cons (hf.at_ 3 _ rfl)).cons (hf.at_ 6 _ rfl)).low L rfl).cons (d:=275) E;clear L E;refine group_cmp 275 276 74 11 _ (a.pen == (shapeX a).pen) 3 (.pointer (some ⟨w.heap.size + 1,11,none⟩)) (.pointer (some ⟨w.heap.size + 2,11,none⟩)) (.int .i64 a.pen) (.int .i64 (shapeX a).pen) rfl (by omega) (by omega) (by rw [hf.size];decide) (hf.at_ 275 _ rfl) (fun ev h => by rw [hf.at_ 3 _ rfl] at h;simp [go_sem,h]) (fun ev h => by simp [go_sem,h,y11]) (fun ev h => by rw [hf.at_ 6 _ rfl] at h;simp [go_sem,h]) (fun ev h => by simp [go_sem,h,x11]) (fun ev h h' => by simp [go_sem,h,h']) ?_
    intro _ L E;replace hf:=(((hf.nilOf.cons (hf.at_ 3 _ rfl)).cons (hf.at_ 6 _ rfl)).low L rfl).cons (d:=282) E;clear L E;refine a_assign hf rfl rfl rfl ?_;clear hf;intro _ hf;refine wpList_nil ?_;simp only [Exit.then]
    repeat (first | go_step)
    refine c_ret hf rfl rfl ⟨ret_eq ?_,HB.out⟩
    congr 1
    rw [shapedB,HK.out];simp only [sameRest,Bool.and_assoc,Bool.true_and]
  · intro J K' hJ hK'
    have hA : (((w.alloc (.cells #[.pointer (some ⟨g,0,none⟩)] 37)).alloc (.cells #[.int .i64 a.kind,.int .i64 a.minute,.int .i64 a.paper,.int .i64 a.case_,.int .i64 a.by_,.int .i64 a.against,.int .i64 a.art,.int .i64 a.at_,.slice A8 a.facts.length c8,.int .i64 a.paid,.bool a.up,.int .i64 a.pen] 43)).alloc (.cells #[.int .i64 a.kind,.int .i64 a.minute,.int .i64 0,.int .i64 0,.int .i64 0,.int .i64 0,.int .i64 0,.int .i64 0,.slice none 0 0,.int .i64 0,.bool false,.int .i64 0] 43)).heap[w.heap.size + 1]? = some (.cells #[.int .i64 a.kind,.int .i64 a.minute,.int .i64 a.paper,.int .i64 a.case_,.int .i64 a.by_,.int .i64 a.against,.int .i64 a.art,.int .i64 a.at_,.slice A8 a.facts.length c8,.int .i64 a.paid,.bool a.up,.int .i64 a.pen] 43 (0,0)):=by
      rw [Below.heap_alloc _ _ _ (by simp)];exact new_at (by simp)
    have hX : (((w.alloc (.cells #[.pointer (some ⟨g,0,none⟩)] 37)).alloc (.cells #[.int .i64 a.kind,.int .i64 a.minute,.int .i64 a.paper,.int .i64 a.case_,.int .i64 a.by_,.int .i64 a.against,.int .i64 a.art,.int .i64 a.at_,.slice A8 a.facts.length c8,.int .i64 a.paid,.bool a.up,.int .i64 a.pen] 43)).alloc (.cells #[.int .i64 a.kind,.int .i64 a.minute,.int .i64 0,.int .i64 0,.int .i64 0,.int .i64 0,.int .i64 0,.int .i64 0,.slice none 0 0,.int .i64 0,.bool false,.int .i64 0] 43)).heap[w.heap.size + 2]? = some (.cells #[.int .i64 a.kind,.int .i64 a.minute,.int .i64 0,.int .i64 0,.int .i64 0,.int .i64 0,.int .i64 0,.int .i64 0,.slice none 0 0,.int .i64 0,.bool false,.int .i64 0] 43 (0,0)):=new_at (by simp)
    have hP : (((w.alloc (.cells #[.pointer (some ⟨g,0,none⟩)] 37)).alloc (.cells #[.int .i64 a.kind,.int .i64 a.minute,.int .i64 a.paper,.int .i64 a.case_,.int .i64 a.by_,.int .i64 a.against,.int .i64 a.art,.int .i64 a.at_,.slice A8 a.facts.length c8,.int .i64 a.paid,.bool a.up,.int .i64 a.pen] 43)).alloc (.cells #[.int .i64 a.kind,.int .i64 a.minute,.int .i64 0,.int .i64 0,.int .i64 0,.int .i64 0,.int .i64 0,.int .i64 0,.slice none 0 0,.int .i64 0,.bool false,.int .i64 0] 43)).cell? ⟨w.heap.size,0,none⟩ = some (.pointer (some ⟨g,0,none⟩)):=by
      refine cell_alloc (cell_alloc ?_ _) _;have:=heap_alloc_new w (.cells #[.pointer (some ⟨g,0,none⟩)] 37)
      unfold World.cell?
      simp only [this]
      rfl
    have hG : (((w.alloc (.cells #[.pointer (some ⟨g,0,none⟩)] 37)).alloc (.cells #[.int .i64 a.kind,.int .i64 a.minute,.int .i64 a.paper,.int .i64 a.case_,.int .i64 a.by_,.int .i64 a.against,.int .i64 a.art,.int .i64 a.at_,.slice A8 a.facts.length c8,.int .i64 a.paid,.bool a.up,.int .i64 a.pen] 43)).alloc (.cells #[.int .i64 a.kind,.int .i64 a.minute,.int .i64 0,.int .i64 0,.int .i64 0,.int .i64 0,.int .i64 0,.int .i64 0,.slice none 0 0,.int .i64 0,.bool false,.int .i64 0] 43)).cell? ⟨g,0,none⟩ = some (.int .i64 cars):=cell_alloc (cell_alloc (cell_alloc HG.out _) _) _;have hBel : Below w.heap.size w (((w.alloc (.cells #[.pointer (some ⟨g,0,none⟩)] 37)).alloc (.cells #[.int .i64 a.kind,.int .i64 a.minute,.int .i64 a.paper,.int .i64 a.case_,.int .i64 a.by_,.int .i64 a.against,.int .i64 a.art,.int .i64 a.at_,.slice A8 a.facts.length c8,.int .i64 a.paid,.bool a.up,.int .i64 a.pen] 43)).alloc (.cells #[.int .i64 a.kind,.int .i64 a.minute,.int .i64 0,.int .i64 0,.int .i64 0,.int .i64 0,.int .i64 0,.int .i64 0,.slice none 0 0,.int .i64 0,.bool false,.int .i64 0] 43)):=bel_alloc (bel_alloc (bel_alloc (Below.refl _ w) _) _) _;have hSz : (((w.alloc (.cells #[.pointer (some ⟨g,0,none⟩)] 37)).alloc (.cells #[.int .i64 a.kind,.int .i64 a.minute,.int .i64 a.paper,.int .i64 a.case_,.int .i64 a.by_,.int .i64 a.against,.int .i64 a.art,.int .i64 a.at_,.slice A8 a.facts.length c8,.int .i64 a.paid,.bool a.up,.int .i64 a.pen] 43)).alloc (.cells #[.int .i64 a.kind,.int .i64 a.minute,.int .i64 0,.int .i64 0,.int .i64 0,.int .i64 0,.int .i64 0,.int .i64 0,.slice none 0 0,.int .i64 0,.bool false,.int .i64 0] 43)).heap.size = w.heap.size + 3:=by simp
    obtain ⟨W,hW⟩ : ∃ W,W = (((w.alloc (.cells #[.pointer (some ⟨g,0,none⟩)] 37)).alloc (.cells #[.int .i64 a.kind,.int .i64 a.minute,.int .i64 a.paper,.int .i64 a.case_,.int .i64 a.by_,.int .i64 a.against,.int .i64 a.art,.int .i64 a.at_,.slice A8 a.facts.length c8,.int .i64 a.paid,.bool a.up,.int .i64 a.pen] 43)).alloc (.cells #[.int .i64 a.kind,.int .i64 a.minute,.int .i64 0,.int .i64 0,.int .i64 0,.int .i64 0,.int .i64 0,.int .i64 0,.slice none 0 0,.int .i64 0,.bool false,.int .i64 0] 43)):=⟨_,rfl⟩
    rw [← hW] at hA hX hP hG hBel hSz ⊢;clear hW;have k1 : (a.kind == 1) = false:=by simp_all
    have k2 : (a.kind == 2) = false:=by simp_all
    have k3 : (a.kind == 3) = false:=by simp_all
    have k4 : (a.kind == 4) = false:=by simp_all
    have k5 : (a.kind == 5) = false:=by simp_all
    have k6 : (a.kind == 6) = false:=by simp_all
    have y0 : W.cell? ⟨w.heap.size + 1,0,none⟩ = some (.int .i64 a.kind):=box43 hA 0 _ rfl;have HBel:=Aside.mk hBel;have HS:=Aside.mk (show shapedB cars a = false by simp [shapedB,shKind,k1,k2,k3,k4,k5,k6]);clear hA hX hP hG hBel hSz h1 h2 h3 h4 h5 h6
    go_wp2_with fail
    go_ret
    exact ⟨ret_eq (by rw [HS.out];rfl),HBel.out⟩
end Go.Proofs.Ytpadgcomncljmaa.A
/- Whether an act of kind 1 has the shape of its kind. -/
namespace Go.Proofs.Ytpadgcomncljmaa.A
open Go.RowKit

set_option maxHeartbeats 4000000 in
set_option maxRecDepth 100000 in
theorem shaped_1 (g : Nat) (cars : Int) (a : ActL) (A8 : Option Addr) (c8 : Nat) (w : World) (hg : w.cell? ⟨g, 0, none⟩ = some (.int .i64 cars)) (hf8 : RI Any w A8 a.facts) (hfl : a.facts.length ≤ 1000000) (hk0 : a.kind = 1) :
    Calls Try.prog 62 #[.pointer (some ⟨g,0,none⟩),.agg #[.int .i64 a.kind,.int .i64 a.minute,.int .i64 a.paper,.int .i64 a.case_,.int .i64 a.by_,.int .i64 a.against,.int .i64 a.art,.int .i64 a.at_,.slice A8 a.facts.length c8,.int .i64 a.paid,.bool a.up,.int .i64 a.pen]] w fun r w' => r = .returned (.bool (shapedB cars a)) ∧ Below w.heap.size w w':=by
  have hgl:=lt_of_cell hg;have HKK:=Aside.mk hk0;clear hk0;have HG:=Aside.mk hg;have HF:=Aside.mk hf8;clear hg hf8
  go_enter Try.func62,Try.ntmps62
  go_upto_block 0 with (go_at_call 52;refine (within_any _ _ _ _).mono ?_;rintro e w' ⟨rfl,rfl⟩)
  refine wp_cut (ShR w cars a A8 c8) ?_ ?_
  · intro fr wc hR
    go_step;refine wp_seq_k ?_;intro _ _
    obtain ⟨hf,hk,hb,ha,hx⟩:=hR
    have HK:=Aside.mk hk;have HB:=Aside.mk hb;have y0 : wc.cell? ⟨w.heap.size + 1,0,none⟩ = some (.int .i64 a.kind):=box43 ha 0 _ rfl;have x0 : wc.cell? ⟨w.heap.size + 2,0,none⟩ = some (.int .i64 (shapeX a).kind):=box43 hx 0 _ rfl;have y1 : wc.cell? ⟨w.heap.size + 1,1,none⟩ = some (.int .i64 a.minute):=box43 ha 1 _ rfl;have x1 : wc.cell? ⟨w.heap.size + 2,1,none⟩ = some (.int .i64 (shapeX a).minute):=box43 hx 1 _ rfl;have y2 : wc.cell? ⟨w.heap.size + 1,2,none⟩ = some (.int .i64 a.paper):=box43 ha 2 _ rfl;have x2 : wc.cell? ⟨w.heap.size + 2,2,none⟩ = some (.int .i64 (shapeX a).paper):=box43 hx 2 _ rfl;have y3 : wc.cell? ⟨w.heap.size + 1,3,none⟩ = some (.int .i64 a.case_):=box43 ha 3 _ rfl;have x3 : wc.cell? ⟨w.heap.size + 2,3,none⟩ = some (.int .i64 (shapeX a).case_):=box43 hx 3 _ rfl;have y4 : wc.cell? ⟨w.heap.size + 1,4,none⟩ = some (.int .i64 a.by_):=box43 ha 4 _ rfl;have x4 : wc.cell? ⟨w.heap.size + 2,4,none⟩ = some (.int .i64 (shapeX a).by_):=box43 hx 4 _ rfl;have y5 : wc.cell? ⟨w.heap.size + 1,5,none⟩ = some (.int .i64 a.against):=box43 ha 5 _ rfl;have x5 : wc.cell? ⟨w.heap.size + 2,5,none⟩ = some (.int .i64 (shapeX a).against):=box43 hx 5 _ rfl;have y6 : wc.cell? ⟨w.heap.size + 1,6,none⟩ = some (.int .i64 a.art):=box43 ha 6 _ rfl;have x6 : wc.cell? ⟨w.heap.size + 2,6,none⟩ = some (.int .i64 (shapeX a).art):=box43 hx 6 _ rfl;have y7 : wc.cell? ⟨w.heap.size + 1,7,none⟩ = some (.int .i64 a.at_):=box43 ha 7 _ rfl;have x7 : wc.cell? ⟨w.heap.size + 2,7,none⟩ = some (.int .i64 (shapeX a).at_):=box43 hx 7 _ rfl;have y9 : wc.cell? ⟨w.heap.size + 1,9,none⟩ = some (.int .i64 a.paid):=box43 ha 9 _ rfl;have x9 : wc.cell? ⟨w.heap.size + 2,9,none⟩ = some (.int .i64 (shapeX a).paid):=box43 hx 9 _ rfl;have y10 : wc.cell? ⟨w.heap.size + 1,10,none⟩ = some (.bool a.up):=box43 ha 10 _ rfl;have x10 : wc.cell? ⟨w.heap.size + 2,10,none⟩ = some (.bool (shapeX a).up):=box43 hx 10 _ rfl;have y11 : wc.cell? ⟨w.heap.size + 1,11,none⟩ = some (.int .i64 a.pen):=box43 ha 11 _ rfl;have x11 : wc.cell? ⟨w.heap.size + 2,11,none⟩ = some (.int .i64 (shapeX a).pen):=box43 hx 11 _ rfl;clear hk hb ha hx;refine wp_region_lit ?_;refine a_move hf rfl rfl rfl ?_;clear hf;intro _ hf;refine group_and 202 7 203 1 _ _ rfl (by omega) (by omega) (by rw [hf.size];decide) (hf.at_ 202 _ rfl) (hf.at_ 7 _ rfl) ?_;intro _ L E;replace hf:=(hf.low L rfl).cons (d:=205) E;clear L E;refine group_cmp 205 206 4 0 _ (a.kind == (shapeX a).kind) 41 (.pointer (some ⟨w.heap.size + 1,0,none⟩)) (.pointer (some ⟨w.heap.size + 2,0,none⟩)) (.int .i64 a.kind) (.int .i64 (shapeX a).kind) rfl (by omega) (by omega) (by rw [hf.size];decide) (hf.at_ 205 _ rfl) (fun ev h => by rw [hf.at_ 3 _ rfl] at h;simp [go_sem,h]) (fun ev h => by simp [go_sem,h,y0]) (fun ev h => by rw [hf.at_ 6 _ rfl] at h;simp [go_sem,h]) (fun ev h => by simp [go_sem,h,x0]) (fun ev h h' => by simp [go_sem,h,h']) ?_
    intro _ L E;replace hf:=(((hf.nilOf.cons (hf.at_ 3 _ rfl)).cons (hf.at_ 6 _ rfl)).low L rfl).cons (d:=212) E;clear L E;refine group_cmp 212 213 11 1 _ (a.minute == (shapeX a).minute) 3 (.pointer (some ⟨w.heap.size + 1,1,none⟩)) (.pointer (some ⟨w.heap.size + 2,1,none⟩)) (.int .i64 a.minute) (.int .i64 (shapeX a).minute) rfl (by omega) (by omega) (by rw [hf.size];decide) (hf.at_ 212 _ rfl) (fun ev h => by rw [hf.at_ 3 _ rfl] at h;simp [go_sem,h]) (fun ev h => by simp [go_sem,h,y1]) (fun ev h => by rw [hf.at_ 6 _ rfl] at h;simp [go_sem,h]) (fun ev h => by simp [go_sem,h,x1]) (fun ev h h' => by simp [go_sem,h,h']) ?_;intro _ L E;replace hf:=(((hf.nilOf.cons (hf.at_ 3 _ rfl)).cons (hf.at_ 6 _ rfl)).low L rfl).cons (d:=219) E;clear L E;refine group_cmp 219 220 18 2 _ (a.paper == (shapeX a).paper) 3 (.pointer (some ⟨w.heap.size + 1,2,none⟩)) (.pointer (some ⟨w.heap.size + 2,2,none⟩)) (.int .i64 a.paper) (.int .i64 (shapeX a).paper) rfl (by omega) (by omega) (by rw [hf.size];decide) (hf.at_ 219 _ rfl) (fun ev h => by rw [hf.at_ 3 _ rfl] at h;simp [go_sem,h]) (fun ev h => by simp [go_sem,h,y2]) (fun ev h => by rw [hf.at_ 6 _ rfl] at h;simp [go_sem,h]) (fun ev h => by simp [go_sem,h,x2]) (fun ev h h' => by simp [go_sem,h,h']) ?_;intro _ L E;replace hf:=(((hf.nilOf.cons (hf.at_ 3 _ rfl)).cons (hf.at_ 6 _ rfl)).low L rfl).cons (d:=226) E;clear L E;refine group_cmp 226 227 25 3 _ (a.case_ == (shapeX a).case_) 3 (.pointer (some ⟨w.heap.size + 1,3,none⟩)) (.pointer (some ⟨w.heap.size + 2,3,none⟩)) (.int .i64 a.case_) (.int .i64 (shapeX a).case_) rfl (by omega) (by omega) (by rw [hf.size];decide) (hf.at_ 226 _ rfl) (fun ev h => by rw [hf.at_ 3 _ rfl] at h;simp [go_sem,h]) (fun ev h => by simp [go_sem,h,y3]) (fun ev h => by rw [hf.at_ 6 _ rfl] at h;simp [go_sem,h]) (fun ev h => by simp [go_sem,h,x3]) (fun ev h h' => by simp [go_sem,h,h']) ?_;intro _ L E;replace hf:=(((hf.nilOf.cons (hf.at_ 3 _ rfl)).cons (hf.at_ 6 _ rfl)).low L rfl).cons (d:=233) E;clear L E;refine group_cmp 233 234 32 4 _ (a.by_ == (shapeX a).by_) 3 (.pointer (some ⟨w.heap.size + 1,4,none⟩)) (.pointer (some ⟨w.heap.size + 2,4,none⟩)) (.int .i64 a.by_) (.int .i64 (shapeX a).by_) rfl (by omega) (by omega) (by rw [hf.size];decide) (hf.at_ 233 _ rfl) (fun ev h => by rw [hf.at_ 3 _ rfl] at h;simp [go_sem,h]) (fun ev h => by simp [go_sem,h,y4]) (fun ev h => by rw [hf.at_ 6 _ rfl] at h;simp [go_sem,h]) (fun ev h => by simp [go_sem,h,x4]) (fun ev h h' => by simp [go_sem,h,h']) ?_;intro _ L E;replace hf:=(((hf.nilOf.cons (hf.at_ 3 _ rfl)).cons (hf.at_ 6 _ rfl)).low L rfl).cons (d:=240) E;clear L E;refine group_cmp 240 241 39 5 _ (a.against == (shapeX a).against) 3 (.pointer (some ⟨w.heap.size + 1,5,none⟩)) (.pointer (some ⟨w.heap.size + 2,5,none⟩)) (.int .i64 a.against) (.int .i64 (shapeX a).against) rfl (by omega) (by omega) (by rw [hf.size];decide) (hf.at_ 240 _ rfl) (fun ev h => by rw [hf.at_ 3 _ rfl] at h;simp [go_sem,h]) (fun ev h => by simp [go_sem,h,y5]) (fun ev h => by rw [hf.at_ 6 _ rfl] at h;simp [go_sem,h]) (fun ev h => by simp [go_sem,h,x5]) (fun ev h h' => by simp [go_sem,h,h']) ?_
    intro _ L E;replace hf:=(((hf.nilOf.cons (hf.at_ 3 _ rfl)).cons (hf.at_ 6 _ rfl)).low L rfl).cons (d:=247) E;clear L E;refine group_cmp 247 248 46 6 _ (a.art == (shapeX a).art) 3 (.pointer (some ⟨w.heap.size + 1,6,none⟩)) (.pointer (some ⟨w.heap.size + 2,6,none⟩)) (.int .i64 a.art) (.int .i64 (shapeX a).art) rfl (by omega) (by omega) (by rw [hf.size];decide) (hf.at_ 247 _ rfl) (fun ev h => by rw [hf.at_ 3 _ rfl] at h;simp [go_sem,h]) (fun ev h => by simp [go_sem,h,y6]) (fun ev h => by rw [hf.at_ 6 _ rfl] at h;simp [go_sem,h]) (fun ev h => by simp [go_sem,h,x6]) (fun ev h h' => by simp [go_sem,h,h']) ?_;intro _ L E;replace hf:=(((hf.nilOf.cons (hf.at_ 3 _ rfl)).cons (hf.at_ 6 _ rfl)).low L rfl).cons (d:=254) E;clear L E;refine group_cmp 254 255 53 7 _ (a.at_ == (shapeX a).at_) 3 (.pointer (some ⟨w.heap.size + 1,7,none⟩)) (.pointer (some ⟨w.heap.size + 2,7,none⟩)) (.int .i64 a.at_) (.int .i64 (shapeX a).at_) rfl (by omega) (by omega) (by rw [hf.size];decide) (hf.at_ 254 _ rfl) (fun ev h => by rw [hf.at_ 3 _ rfl] at h;simp [go_sem,h]) (fun ev h => by simp [go_sem,h,y7]) (fun ev h => by rw [hf.at_ 6 _ rfl] at h;simp [go_sem,h]) (fun ev h => by simp [go_sem,h,x7]) (fun ev h h' => by simp [go_sem,h,h']) ?_;intro _ L E;replace hf:=(((hf.nilOf.cons (hf.at_ 3 _ rfl)).cons (hf.at_ 6 _ rfl)).low L rfl).cons (d:=261) E;clear L E;refine group_cmp 261 262 60 9 _ (a.paid == (shapeX a).paid) 3 (.pointer (some ⟨w.heap.size + 1,9,none⟩)) (.pointer (some ⟨w.heap.size + 2,9,none⟩)) (.int .i64 a.paid) (.int .i64 (shapeX a).paid) rfl (by omega) (by omega) (by rw [hf.size];decide) (hf.at_ 261 _ rfl) (fun ev h => by rw [hf.at_ 3 _ rfl] at h;simp [go_sem,h]) (fun ev h => by simp [go_sem,h,y9]) (fun ev h => by rw [hf.at_ 6 _ rfl] at h;simp [go_sem,h]) (fun ev h => by simp [go_sem,h,x9]) (fun ev h h' => by simp [go_sem,h,h']) ?_;intro _ L E;replace hf:=(((hf.nilOf.cons (hf.at_ 3 _ rfl)).cons (hf.at_ 6 _ rfl)).low L rfl).cons (d:=268) E;clear L E;refine group_cmp 268 269 67 10 _ (a.up == (shapeX a).up) 4 (.pointer (some ⟨w.heap.size + 1,10,none⟩)) (.pointer (some ⟨w.heap.size + 2,10,none⟩)) (.bool a.up) (.bool (shapeX a).up) rfl (by omega) (by omega) (by rw [hf.size];decide) (hf.at_ 268 _ rfl) (fun ev h => by rw [hf.at_ 3 _ rfl] at h;simp [go_sem,h]) (fun ev h => by simp [go_sem,h,y10]) (fun ev h => by rw [hf.at_ 6 _ rfl] at h;simp [go_sem,h]) (fun ev h => by simp [go_sem,h,x10]) (fun ev h h' => by simp [go_sem,h,h']) ?_;intro _ L E;replace hf:=(((hf.nilOf.cons (hf.at_ 3 _ rfl)).cons (hf.at_ 6 _ rfl)).low L rfl).cons (d:=275) E;clear L E;refine group_cmp 275 276 74 11 _ (a.pen == (shapeX a).pen) 3 (.pointer (some ⟨w.heap.size + 1,11,none⟩)) (.pointer (some ⟨w.heap.size + 2,11,none⟩)) (.int .i64 a.pen) (.int .i64 (shapeX a).pen) rfl (by omega) (by omega) (by rw [hf.size];decide) (hf.at_ 275 _ rfl) (fun ev h => by rw [hf.at_ 3 _ rfl] at h;simp [go_sem,h]) (fun ev h => by simp [go_sem,h,y11]) (fun ev h => by rw [hf.at_ 6 _ rfl] at h;simp [go_sem,h]) (fun ev h => by simp [go_sem,h,x11]) (fun ev h h' => by simp [go_sem,h,h']) ?_
    intro _ L E;replace hf:=(((hf.nilOf.cons (hf.at_ 3 _ rfl)).cons (hf.at_ 6 _ rfl)).low L rfl).cons (d:=282) E;clear L E;refine a_assign hf rfl rfl rfl ?_;clear hf;intro _ hf;refine wpList_nil ?_;simp only [Exit.then]
    repeat (first | go_step)
    refine c_ret hf rfl rfl ⟨ret_eq ?_,HB.out⟩
    congr 1
    rw [shapedB,HK.out];simp only [sameRest,Bool.and_assoc,Bool.true_and]
  · intro J K' hJ hK'
    have hA : (((w.alloc (.cells #[.pointer (some ⟨g,0,none⟩)] 37)).alloc (.cells #[.int .i64 a.kind,.int .i64 a.minute,.int .i64 a.paper,.int .i64 a.case_,.int .i64 a.by_,.int .i64 a.against,.int .i64 a.art,.int .i64 a.at_,.slice A8 a.facts.length c8,.int .i64 a.paid,.bool a.up,.int .i64 a.pen] 43)).alloc (.cells #[.int .i64 a.kind,.int .i64 a.minute,.int .i64 0,.int .i64 0,.int .i64 0,.int .i64 0,.int .i64 0,.int .i64 0,.slice none 0 0,.int .i64 0,.bool false,.int .i64 0] 43)).heap[w.heap.size + 1]? = some (.cells #[.int .i64 a.kind,.int .i64 a.minute,.int .i64 a.paper,.int .i64 a.case_,.int .i64 a.by_,.int .i64 a.against,.int .i64 a.art,.int .i64 a.at_,.slice A8 a.facts.length c8,.int .i64 a.paid,.bool a.up,.int .i64 a.pen] 43 (0,0)):=by
      rw [Below.heap_alloc _ _ _ (by simp)];exact new_at (by simp)
    have hX : (((w.alloc (.cells #[.pointer (some ⟨g,0,none⟩)] 37)).alloc (.cells #[.int .i64 a.kind,.int .i64 a.minute,.int .i64 a.paper,.int .i64 a.case_,.int .i64 a.by_,.int .i64 a.against,.int .i64 a.art,.int .i64 a.at_,.slice A8 a.facts.length c8,.int .i64 a.paid,.bool a.up,.int .i64 a.pen] 43)).alloc (.cells #[.int .i64 a.kind,.int .i64 a.minute,.int .i64 0,.int .i64 0,.int .i64 0,.int .i64 0,.int .i64 0,.int .i64 0,.slice none 0 0,.int .i64 0,.bool false,.int .i64 0] 43)).heap[w.heap.size + 2]? = some (.cells #[.int .i64 a.kind,.int .i64 a.minute,.int .i64 0,.int .i64 0,.int .i64 0,.int .i64 0,.int .i64 0,.int .i64 0,.slice none 0 0,.int .i64 0,.bool false,.int .i64 0] 43 (0,0)):=new_at (by simp)
    have hP : (((w.alloc (.cells #[.pointer (some ⟨g,0,none⟩)] 37)).alloc (.cells #[.int .i64 a.kind,.int .i64 a.minute,.int .i64 a.paper,.int .i64 a.case_,.int .i64 a.by_,.int .i64 a.against,.int .i64 a.art,.int .i64 a.at_,.slice A8 a.facts.length c8,.int .i64 a.paid,.bool a.up,.int .i64 a.pen] 43)).alloc (.cells #[.int .i64 a.kind,.int .i64 a.minute,.int .i64 0,.int .i64 0,.int .i64 0,.int .i64 0,.int .i64 0,.int .i64 0,.slice none 0 0,.int .i64 0,.bool false,.int .i64 0] 43)).cell? ⟨w.heap.size,0,none⟩ = some (.pointer (some ⟨g,0,none⟩)):=by
      refine cell_alloc (cell_alloc ?_ _) _;have:=heap_alloc_new w (.cells #[.pointer (some ⟨g,0,none⟩)] 37)
      unfold World.cell?
      simp only [this]
      rfl
    have hG : (((w.alloc (.cells #[.pointer (some ⟨g,0,none⟩)] 37)).alloc (.cells #[.int .i64 a.kind,.int .i64 a.minute,.int .i64 a.paper,.int .i64 a.case_,.int .i64 a.by_,.int .i64 a.against,.int .i64 a.art,.int .i64 a.at_,.slice A8 a.facts.length c8,.int .i64 a.paid,.bool a.up,.int .i64 a.pen] 43)).alloc (.cells #[.int .i64 a.kind,.int .i64 a.minute,.int .i64 0,.int .i64 0,.int .i64 0,.int .i64 0,.int .i64 0,.int .i64 0,.slice none 0 0,.int .i64 0,.bool false,.int .i64 0] 43)).cell? ⟨g,0,none⟩ = some (.int .i64 cars):=cell_alloc (cell_alloc (cell_alloc HG.out _) _) _;have hBel : Below w.heap.size w (((w.alloc (.cells #[.pointer (some ⟨g,0,none⟩)] 37)).alloc (.cells #[.int .i64 a.kind,.int .i64 a.minute,.int .i64 a.paper,.int .i64 a.case_,.int .i64 a.by_,.int .i64 a.against,.int .i64 a.art,.int .i64 a.at_,.slice A8 a.facts.length c8,.int .i64 a.paid,.bool a.up,.int .i64 a.pen] 43)).alloc (.cells #[.int .i64 a.kind,.int .i64 a.minute,.int .i64 0,.int .i64 0,.int .i64 0,.int .i64 0,.int .i64 0,.int .i64 0,.slice none 0 0,.int .i64 0,.bool false,.int .i64 0] 43)):=bel_alloc (bel_alloc (bel_alloc (Below.refl _ w) _) _) _;have hSz : (((w.alloc (.cells #[.pointer (some ⟨g,0,none⟩)] 37)).alloc (.cells #[.int .i64 a.kind,.int .i64 a.minute,.int .i64 a.paper,.int .i64 a.case_,.int .i64 a.by_,.int .i64 a.against,.int .i64 a.art,.int .i64 a.at_,.slice A8 a.facts.length c8,.int .i64 a.paid,.bool a.up,.int .i64 a.pen] 43)).alloc (.cells #[.int .i64 a.kind,.int .i64 a.minute,.int .i64 0,.int .i64 0,.int .i64 0,.int .i64 0,.int .i64 0,.int .i64 0,.slice none 0 0,.int .i64 0,.bool false,.int .i64 0] 43)).heap.size = w.heap.size + 3:=by simp
    obtain ⟨W,hW⟩ : ∃ W,W = (((w.alloc (.cells #[.pointer (some ⟨g,0,none⟩)] 37)).alloc (.cells #[.int .i64 a.kind,.int .i64 a.minute,.int .i64 a.paper,.int .i64 a.case_,.int .i64 a.by_,.int .i64 a.against,.int .i64 a.art,.int .i64 a.at_,.slice A8 a.facts.length c8,.int .i64 a.paid,.bool a.up,.int .i64 a.pen] 43)).alloc (.cells #[.int .i64 a.kind,.int .i64 a.minute,.int .i64 0,.int .i64 0,.int .i64 0,.int .i64 0,.int .i64 0,.int .i64 0,.slice none 0 0,.int .i64 0,.bool false,.int .i64 0] 43)):=⟨_,rfl⟩
    rw [← hW] at hA hX hP hG hBel hSz ⊢;clear hW;have hk:=HKK.out
    -- kind 1
    have k1 : (a.kind == 1) = true:=by simp [hk]
    have k2 : (a.kind == 2) = false:=by simp [hk]
    have k3 : (a.kind == 3) = false:=by simp [hk]
    have k5 : (a.kind == 5) = false:=by simp [hk]
    have k4 : (a.kind == 4) = false:=by simp [hk]
    have k6 : (a.kind == 6) = false:=by simp [hk]
    have y0 : W.cell? ⟨w.heap.size + 1,0,none⟩ = some (.int .i64 a.kind):=box43 hA 0 _ rfl;have y2 : W.cell? ⟨w.heap.size + 1,2,none⟩ = some (.int .i64 a.paper):=box43 hA 2 _ rfl;have x2 : W.cell? ⟨w.heap.size + 2,2,none⟩ = some (.int .i64 0):=box43 hX 2 _ rfl;have z2 : W.frozen? ⟨w.heap.size + 2,2,none⟩ = false:=by simp [World.frozen?,hX]
    have HX:=Aside.mk hX;have HA:=Aside.mk hA;have HP:=Aside.mk hP;have HG1:=Aside.mk hG;have HBel:=Aside.mk hBel;have HSz:=Aside.mk hSz;clear hX hA hP hG hBel hSz
    go_upto_region 9 with fail
    refine wp_abs (n:=283) (ds:=[]) (l:=[(3,.pointer (some ⟨w.heap.size + 1,0,none⟩)),(5,.func (.func 95) #[] #[.pointer (some ⟨w.heap.size,0,none⟩)]),(6,.pointer (some ⟨w.heap.size + 2,0,none⟩)),(7,.bool ((a.facts.length : Int) == 0)),(8,.bool (inB a.minute 0 10000000))]) ?_ ?_
    · refine (((((Has.nil ?_ ?_).cons ?_).cons ?_).cons ?_).cons ?_).cons ?_
      all_goals first | rfl | (simp [Act.eval];done)
    intro _ hf;have hM : Mod (fun k => k = w.heap.size + 2) W (World.setCell (W) ⟨w.heap.size + 2,2,none⟩ (.int .i64 a.paper)):=((Mod.refl (F:=fun k => k = w.heap.size + 2)).set_ (p:=⟨w.heap.size + 2,2,none⟩) (.inl rfl) _)
    have hX1 : (World.setCell (W) ⟨w.heap.size + 2,2,none⟩ (.int .i64 a.paper)).heap[w.heap.size + 2]? = some (.cells #[.int .i64 (shapeX a).kind,.int .i64 (shapeX a).minute,.int .i64 (shapeX a).paper,.int .i64 (shapeX a).case_,.int .i64 (shapeX a).by_,.int .i64 (shapeX a).against,.int .i64 (shapeX a).art,.int .i64 (shapeX a).at_,.slice none 0 0,.int .i64 (shapeX a).paid,.bool (shapeX a).up,.int .i64 (shapeX a).pen] 43 (0,0)):=by
      have:=(blk_set HX.out 2 (.int .i64 a.paper))
      change (World.setCell (W) ⟨w.heap.size + 2,2,none⟩ (.int .i64 a.paper)).heap[w.heap.size + 2]? = _
      simpa [shapeX,zeroAct,k1,k2,k3,k4,k5,k6] using this
    generalize hW1 : World.setCell (W) ⟨w.heap.size + 2,2,none⟩ (.int .i64 a.paper) = W1 at hM hX1 ⊢
    clear hW1;have hA1:=(hM.block (w.heap.size + 1) (by have:=HSz.out;omega) (by omega)).trans HA.out;have hP1 : W1.cell? ⟨w.heap.size,0,none⟩ = some (.pointer (some ⟨g,0,none⟩)):=(World.cell?_of_block (hM.block w.heap.size (by have:=HSz.out;omega) (by omega))).trans HP.out;have hG1 : W1.cell? ⟨g,0,none⟩ = some (.int .i64 cars):=(World.cell?_of_block (hM.block g (by have:=HSz.out;omega) (by omega))).trans HG1.out;have hB1:=bel_mod HBel.out hM (by intro k hk;omega);clear y0 y2 x2 z2;have y1 : W1.cell? ⟨w.heap.size + 1,1,none⟩ = some (.int .i64 a.minute):=box43 hA1 1 _ rfl;have y2 : W1.cell? ⟨w.heap.size + 1,2,none⟩ = some (.int .i64 a.paper):=box43 hA1 2 _ rfl;refine wp_region_lit ?_;refine a_move hf rfl rfl rfl ?_;clear hf;intro _ hf;refine group_in 31 32 1 _ (inB a.paper 1 1000000) 2 3 (.int .i64 1) (.int .i64 1000000) _ (.pointer (some ⟨w.heap.size + 1,2,none⟩)) (.int .i64 a.paper) rfl (by omega) (by omega) (by rw [hf.size];decide) (hf.at_ 31 _ rfl) (fun ev h => by rw [hf.at_ 3 _ rfl] at h;simp [go_sem,h]) (fun ev h => by simp [go_sem,h,y2]) (fun ev h c1 c2 c3 => by simp [go_sem,h,c1,c2,c3,e52 _ _]) (within_any _ _ _ _) ?_;intro _ L E;replace hf:=(hf.low L rfl).cons (d:=36) E;clear L E;refine a_assign hf rfl rfl rfl ?_;clear hf;intro _ hf;refine wpList_nil ?_;have HO : shOk cars a = (inB a.minute 0 10000000 && inB a.paper 1 1000000):=by simp [shOk,shMin,k1,k2,k3,k4,k5,k6]
    have HF' : shFacts a = ((a.facts.length : Int) == 0):=by rw [Bool.eq_iff_iff];simp [shFacts,k2]
    simp only [Exit.then,Exit.inBlock]
    repeat go_step
    refine Met.intro (hJ _ _ ⟨(((hf.nilOf.cons (d:=8) (by rw [HO];exact hf.at_ 8 _ rfl)).cons (d:=7) (by rw [HF'];exact hf.at_ 7 _ rfl)).cons (hf.at_ 6 _ rfl)).cons (hf.at_ 3 _ rfl),by simp [shKind,k1,k2,k3,k4,k5,k6],hB1,hA1,hX1⟩)
end Go.Proofs.Ytpadgcomncljmaa.A
/- Whether an act of kind 2 has the shape of its kind. -/
namespace Go.Proofs.Ytpadgcomncljmaa.A
open Go.RowKit

set_option maxHeartbeats 40000000 in
set_option maxRecDepth 100000 in
theorem shaped_2 (g : Nat) (cars : Int) (a : ActL) (A8 : Option Addr) (c8 : Nat) (w : World) (hg : w.cell? ⟨g, 0, none⟩ = some (.int .i64 cars)) (hf8 : RI Any w A8 a.facts) (hfl : a.facts.length ≤ 1000000) (hk0 : a.kind = 2) :
    Calls Try.prog 62 #[.pointer (some ⟨g,0,none⟩),.agg #[.int .i64 a.kind,.int .i64 a.minute,.int .i64 a.paper,.int .i64 a.case_,.int .i64 a.by_,.int .i64 a.against,.int .i64 a.art,.int .i64 a.at_,.slice A8 a.facts.length c8,.int .i64 a.paid,.bool a.up,.int .i64 a.pen]] w fun r w' => r = .returned (.bool (shapedB cars a)) ∧ Below w.heap.size w w':=by
  have hgl:=lt_of_cell hg;have HKK:=Aside.mk hk0;clear hk0;have HG:=Aside.mk hg;have HF:=Aside.mk hf8;clear hg hf8
  go_enter Try.func62,Try.ntmps62
  go_upto_block 0 with (go_at_call 52;refine (within_any _ _ _ _).mono ?_;rintro e w' ⟨rfl,rfl⟩)
  refine wp_cut (ShR w cars a A8 c8) ?_ ?_
  · intro fr wc hR
    go_step;refine wp_seq_k ?_;intro _ _
    obtain ⟨hf,hk,hb,ha,hx⟩:=hR
    have HK:=Aside.mk hk;have HB:=Aside.mk hb;have y0 : wc.cell? ⟨w.heap.size + 1,0,none⟩ = some (.int .i64 a.kind):=box43 ha 0 _ rfl;have x0 : wc.cell? ⟨w.heap.size + 2,0,none⟩ = some (.int .i64 (shapeX a).kind):=box43 hx 0 _ rfl;have y1 : wc.cell? ⟨w.heap.size + 1,1,none⟩ = some (.int .i64 a.minute):=box43 ha 1 _ rfl;have x1 : wc.cell? ⟨w.heap.size + 2,1,none⟩ = some (.int .i64 (shapeX a).minute):=box43 hx 1 _ rfl;have y2 : wc.cell? ⟨w.heap.size + 1,2,none⟩ = some (.int .i64 a.paper):=box43 ha 2 _ rfl;have x2 : wc.cell? ⟨w.heap.size + 2,2,none⟩ = some (.int .i64 (shapeX a).paper):=box43 hx 2 _ rfl;have y3 : wc.cell? ⟨w.heap.size + 1,3,none⟩ = some (.int .i64 a.case_):=box43 ha 3 _ rfl;have x3 : wc.cell? ⟨w.heap.size + 2,3,none⟩ = some (.int .i64 (shapeX a).case_):=box43 hx 3 _ rfl;have y4 : wc.cell? ⟨w.heap.size + 1,4,none⟩ = some (.int .i64 a.by_):=box43 ha 4 _ rfl;have x4 : wc.cell? ⟨w.heap.size + 2,4,none⟩ = some (.int .i64 (shapeX a).by_):=box43 hx 4 _ rfl;have y5 : wc.cell? ⟨w.heap.size + 1,5,none⟩ = some (.int .i64 a.against):=box43 ha 5 _ rfl;have x5 : wc.cell? ⟨w.heap.size + 2,5,none⟩ = some (.int .i64 (shapeX a).against):=box43 hx 5 _ rfl;have y6 : wc.cell? ⟨w.heap.size + 1,6,none⟩ = some (.int .i64 a.art):=box43 ha 6 _ rfl;have x6 : wc.cell? ⟨w.heap.size + 2,6,none⟩ = some (.int .i64 (shapeX a).art):=box43 hx 6 _ rfl;have y7 : wc.cell? ⟨w.heap.size + 1,7,none⟩ = some (.int .i64 a.at_):=box43 ha 7 _ rfl;have x7 : wc.cell? ⟨w.heap.size + 2,7,none⟩ = some (.int .i64 (shapeX a).at_):=box43 hx 7 _ rfl;have y9 : wc.cell? ⟨w.heap.size + 1,9,none⟩ = some (.int .i64 a.paid):=box43 ha 9 _ rfl;have x9 : wc.cell? ⟨w.heap.size + 2,9,none⟩ = some (.int .i64 (shapeX a).paid):=box43 hx 9 _ rfl;have y10 : wc.cell? ⟨w.heap.size + 1,10,none⟩ = some (.bool a.up):=box43 ha 10 _ rfl;have x10 : wc.cell? ⟨w.heap.size + 2,10,none⟩ = some (.bool (shapeX a).up):=box43 hx 10 _ rfl;have y11 : wc.cell? ⟨w.heap.size + 1,11,none⟩ = some (.int .i64 a.pen):=box43 ha 11 _ rfl;have x11 : wc.cell? ⟨w.heap.size + 2,11,none⟩ = some (.int .i64 (shapeX a).pen):=box43 hx 11 _ rfl;clear hk hb ha hx;refine wp_region_lit ?_;refine a_move hf rfl rfl rfl ?_;clear hf;intro _ hf;refine group_and 202 7 203 1 _ _ rfl (by omega) (by omega) (by rw [hf.size];decide) (hf.at_ 202 _ rfl) (hf.at_ 7 _ rfl) ?_;intro _ L E;replace hf:=(hf.low L rfl).cons (d:=205) E;clear L E;refine group_cmp 205 206 4 0 _ (a.kind == (shapeX a).kind) 41 (.pointer (some ⟨w.heap.size + 1,0,none⟩)) (.pointer (some ⟨w.heap.size + 2,0,none⟩)) (.int .i64 a.kind) (.int .i64 (shapeX a).kind) rfl (by omega) (by omega) (by rw [hf.size];decide) (hf.at_ 205 _ rfl) (fun ev h => by rw [hf.at_ 3 _ rfl] at h;simp [go_sem,h]) (fun ev h => by simp [go_sem,h,y0]) (fun ev h => by rw [hf.at_ 6 _ rfl] at h;simp [go_sem,h]) (fun ev h => by simp [go_sem,h,x0]) (fun ev h h' => by simp [go_sem,h,h']) ?_
    intro _ L E;replace hf:=(((hf.nilOf.cons (hf.at_ 3 _ rfl)).cons (hf.at_ 6 _ rfl)).low L rfl).cons (d:=212) E;clear L E;refine group_cmp 212 213 11 1 _ (a.minute == (shapeX a).minute) 3 (.pointer (some ⟨w.heap.size + 1,1,none⟩)) (.pointer (some ⟨w.heap.size + 2,1,none⟩)) (.int .i64 a.minute) (.int .i64 (shapeX a).minute) rfl (by omega) (by omega) (by rw [hf.size];decide) (hf.at_ 212 _ rfl) (fun ev h => by rw [hf.at_ 3 _ rfl] at h;simp [go_sem,h]) (fun ev h => by simp [go_sem,h,y1]) (fun ev h => by rw [hf.at_ 6 _ rfl] at h;simp [go_sem,h]) (fun ev h => by simp [go_sem,h,x1]) (fun ev h h' => by simp [go_sem,h,h']) ?_;intro _ L E;replace hf:=(((hf.nilOf.cons (hf.at_ 3 _ rfl)).cons (hf.at_ 6 _ rfl)).low L rfl).cons (d:=219) E;clear L E;refine group_cmp 219 220 18 2 _ (a.paper == (shapeX a).paper) 3 (.pointer (some ⟨w.heap.size + 1,2,none⟩)) (.pointer (some ⟨w.heap.size + 2,2,none⟩)) (.int .i64 a.paper) (.int .i64 (shapeX a).paper) rfl (by omega) (by omega) (by rw [hf.size];decide) (hf.at_ 219 _ rfl) (fun ev h => by rw [hf.at_ 3 _ rfl] at h;simp [go_sem,h]) (fun ev h => by simp [go_sem,h,y2]) (fun ev h => by rw [hf.at_ 6 _ rfl] at h;simp [go_sem,h]) (fun ev h => by simp [go_sem,h,x2]) (fun ev h h' => by simp [go_sem,h,h']) ?_;intro _ L E;replace hf:=(((hf.nilOf.cons (hf.at_ 3 _ rfl)).cons (hf.at_ 6 _ rfl)).low L rfl).cons (d:=226) E;clear L E;refine group_cmp 226 227 25 3 _ (a.case_ == (shapeX a).case_) 3 (.pointer (some ⟨w.heap.size + 1,3,none⟩)) (.pointer (some ⟨w.heap.size + 2,3,none⟩)) (.int .i64 a.case_) (.int .i64 (shapeX a).case_) rfl (by omega) (by omega) (by rw [hf.size];decide) (hf.at_ 226 _ rfl) (fun ev h => by rw [hf.at_ 3 _ rfl] at h;simp [go_sem,h]) (fun ev h => by simp [go_sem,h,y3]) (fun ev h => by rw [hf.at_ 6 _ rfl] at h;simp [go_sem,h]) (fun ev h => by simp [go_sem,h,x3]) (fun ev h h' => by simp [go_sem,h,h']) ?_;intro _ L E;replace hf:=(((hf.nilOf.cons (hf.at_ 3 _ rfl)).cons (hf.at_ 6 _ rfl)).low L rfl).cons (d:=233) E;clear L E;refine group_cmp 233 234 32 4 _ (a.by_ == (shapeX a).by_) 3 (.pointer (some ⟨w.heap.size + 1,4,none⟩)) (.pointer (some ⟨w.heap.size + 2,4,none⟩)) (.int .i64 a.by_) (.int .i64 (shapeX a).by_) rfl (by omega) (by omega) (by rw [hf.size];decide) (hf.at_ 233 _ rfl) (fun ev h => by rw [hf.at_ 3 _ rfl] at h;simp [go_sem,h]) (fun ev h => by simp [go_sem,h,y4]) (fun ev h => by rw [hf.at_ 6 _ rfl] at h;simp [go_sem,h]) (fun ev h => by simp [go_sem,h,x4]) (fun ev h h' => by simp [go_sem,h,h']) ?_;intro _ L E;replace hf:=(((hf.nilOf.cons (hf.at_ 3 _ rfl)).cons (hf.at_ 6 _ rfl)).low L rfl).cons (d:=240) E;clear L E;refine group_cmp 240 241 39 5 _ (a.against == (shapeX a).against) 3 (.pointer (some ⟨w.heap.size + 1,5,none⟩)) (.pointer (some ⟨w.heap.size + 2,5,none⟩)) (.int .i64 a.against) (.int .i64 (shapeX a).against) rfl (by omega) (by omega) (by rw [hf.size];decide) (hf.at_ 240 _ rfl) (fun ev h => by rw [hf.at_ 3 _ rfl] at h;simp [go_sem,h]) (fun ev h => by simp [go_sem,h,y5]) (fun ev h => by rw [hf.at_ 6 _ rfl] at h;simp [go_sem,h]) (fun ev h => by simp [go_sem,h,x5]) (fun ev h h' => by simp [go_sem,h,h']) ?_
    intro _ L E;replace hf:=(((hf.nilOf.cons (hf.at_ 3 _ rfl)).cons (hf.at_ 6 _ rfl)).low L rfl).cons (d:=247) E;clear L E;refine group_cmp 247 248 46 6 _ (a.art == (shapeX a).art) 3 (.pointer (some ⟨w.heap.size + 1,6,none⟩)) (.pointer (some ⟨w.heap.size + 2,6,none⟩)) (.int .i64 a.art) (.int .i64 (shapeX a).art) rfl (by omega) (by omega) (by rw [hf.size];decide) (hf.at_ 247 _ rfl) (fun ev h => by rw [hf.at_ 3 _ rfl] at h;simp [go_sem,h]) (fun ev h => by simp [go_sem,h,y6]) (fun ev h => by rw [hf.at_ 6 _ rfl] at h;simp [go_sem,h]) (fun ev h => by simp [go_sem,h,x6]) (fun ev h h' => by simp [go_sem,h,h']) ?_;intro _ L E;replace hf:=(((hf.nilOf.cons (hf.at_ 3 _ rfl)).cons (hf.at_ 6 _ rfl)).low L rfl).cons (d:=254) E;clear L E;refine group_cmp 254 255 53 7 _ (a.at_ == (shapeX a).at_) 3 (.pointer (some ⟨w.heap.size + 1,7,none⟩)) (.pointer (some ⟨w.heap.size + 2,7,none⟩)) (.int .i64 a.at_) (.int .i64 (shapeX a).at_) rfl (by omega) (by omega) (by rw [hf.size];decide) (hf.at_ 254 _ rfl) (fun ev h => by rw [hf.at_ 3 _ rfl] at h;simp [go_sem,h]) (fun ev h => by simp [go_sem,h,y7]) (fun ev h => by rw [hf.at_ 6 _ rfl] at h;simp [go_sem,h]) (fun ev h => by simp [go_sem,h,x7]) (fun ev h h' => by simp [go_sem,h,h']) ?_;intro _ L E;replace hf:=(((hf.nilOf.cons (hf.at_ 3 _ rfl)).cons (hf.at_ 6 _ rfl)).low L rfl).cons (d:=261) E;clear L E;refine group_cmp 261 262 60 9 _ (a.paid == (shapeX a).paid) 3 (.pointer (some ⟨w.heap.size + 1,9,none⟩)) (.pointer (some ⟨w.heap.size + 2,9,none⟩)) (.int .i64 a.paid) (.int .i64 (shapeX a).paid) rfl (by omega) (by omega) (by rw [hf.size];decide) (hf.at_ 261 _ rfl) (fun ev h => by rw [hf.at_ 3 _ rfl] at h;simp [go_sem,h]) (fun ev h => by simp [go_sem,h,y9]) (fun ev h => by rw [hf.at_ 6 _ rfl] at h;simp [go_sem,h]) (fun ev h => by simp [go_sem,h,x9]) (fun ev h h' => by simp [go_sem,h,h']) ?_;intro _ L E;replace hf:=(((hf.nilOf.cons (hf.at_ 3 _ rfl)).cons (hf.at_ 6 _ rfl)).low L rfl).cons (d:=268) E;clear L E;refine group_cmp 268 269 67 10 _ (a.up == (shapeX a).up) 4 (.pointer (some ⟨w.heap.size + 1,10,none⟩)) (.pointer (some ⟨w.heap.size + 2,10,none⟩)) (.bool a.up) (.bool (shapeX a).up) rfl (by omega) (by omega) (by rw [hf.size];decide) (hf.at_ 268 _ rfl) (fun ev h => by rw [hf.at_ 3 _ rfl] at h;simp [go_sem,h]) (fun ev h => by simp [go_sem,h,y10]) (fun ev h => by rw [hf.at_ 6 _ rfl] at h;simp [go_sem,h]) (fun ev h => by simp [go_sem,h,x10]) (fun ev h h' => by simp [go_sem,h,h']) ?_;intro _ L E;replace hf:=(((hf.nilOf.cons (hf.at_ 3 _ rfl)).cons (hf.at_ 6 _ rfl)).low L rfl).cons (d:=275) E;clear L E;refine group_cmp 275 276 74 11 _ (a.pen == (shapeX a).pen) 3 (.pointer (some ⟨w.heap.size + 1,11,none⟩)) (.pointer (some ⟨w.heap.size + 2,11,none⟩)) (.int .i64 a.pen) (.int .i64 (shapeX a).pen) rfl (by omega) (by omega) (by rw [hf.size];decide) (hf.at_ 275 _ rfl) (fun ev h => by rw [hf.at_ 3 _ rfl] at h;simp [go_sem,h]) (fun ev h => by simp [go_sem,h,y11]) (fun ev h => by rw [hf.at_ 6 _ rfl] at h;simp [go_sem,h]) (fun ev h => by simp [go_sem,h,x11]) (fun ev h h' => by simp [go_sem,h,h']) ?_
    intro _ L E;replace hf:=(((hf.nilOf.cons (hf.at_ 3 _ rfl)).cons (hf.at_ 6 _ rfl)).low L rfl).cons (d:=282) E;clear L E;refine a_assign hf rfl rfl rfl ?_;clear hf;intro _ hf;refine wpList_nil ?_;simp only [Exit.then]
    repeat (first | go_step)
    refine c_ret hf rfl rfl ⟨ret_eq ?_,HB.out⟩
    congr 1
    rw [shapedB,HK.out];simp only [sameRest,Bool.and_assoc,Bool.true_and]
  · intro J K' hJ hK'
    have hA : (((w.alloc (.cells #[.pointer (some ⟨g,0,none⟩)] 37)).alloc (.cells #[.int .i64 a.kind,.int .i64 a.minute,.int .i64 a.paper,.int .i64 a.case_,.int .i64 a.by_,.int .i64 a.against,.int .i64 a.art,.int .i64 a.at_,.slice A8 a.facts.length c8,.int .i64 a.paid,.bool a.up,.int .i64 a.pen] 43)).alloc (.cells #[.int .i64 a.kind,.int .i64 a.minute,.int .i64 0,.int .i64 0,.int .i64 0,.int .i64 0,.int .i64 0,.int .i64 0,.slice none 0 0,.int .i64 0,.bool false,.int .i64 0] 43)).heap[w.heap.size + 1]? = some (.cells #[.int .i64 a.kind,.int .i64 a.minute,.int .i64 a.paper,.int .i64 a.case_,.int .i64 a.by_,.int .i64 a.against,.int .i64 a.art,.int .i64 a.at_,.slice A8 a.facts.length c8,.int .i64 a.paid,.bool a.up,.int .i64 a.pen] 43 (0,0)):=by
      rw [Below.heap_alloc _ _ _ (by simp)];exact new_at (by simp)
    have hX : (((w.alloc (.cells #[.pointer (some ⟨g,0,none⟩)] 37)).alloc (.cells #[.int .i64 a.kind,.int .i64 a.minute,.int .i64 a.paper,.int .i64 a.case_,.int .i64 a.by_,.int .i64 a.against,.int .i64 a.art,.int .i64 a.at_,.slice A8 a.facts.length c8,.int .i64 a.paid,.bool a.up,.int .i64 a.pen] 43)).alloc (.cells #[.int .i64 a.kind,.int .i64 a.minute,.int .i64 0,.int .i64 0,.int .i64 0,.int .i64 0,.int .i64 0,.int .i64 0,.slice none 0 0,.int .i64 0,.bool false,.int .i64 0] 43)).heap[w.heap.size + 2]? = some (.cells #[.int .i64 a.kind,.int .i64 a.minute,.int .i64 0,.int .i64 0,.int .i64 0,.int .i64 0,.int .i64 0,.int .i64 0,.slice none 0 0,.int .i64 0,.bool false,.int .i64 0] 43 (0,0)):=new_at (by simp)
    have hP : (((w.alloc (.cells #[.pointer (some ⟨g,0,none⟩)] 37)).alloc (.cells #[.int .i64 a.kind,.int .i64 a.minute,.int .i64 a.paper,.int .i64 a.case_,.int .i64 a.by_,.int .i64 a.against,.int .i64 a.art,.int .i64 a.at_,.slice A8 a.facts.length c8,.int .i64 a.paid,.bool a.up,.int .i64 a.pen] 43)).alloc (.cells #[.int .i64 a.kind,.int .i64 a.minute,.int .i64 0,.int .i64 0,.int .i64 0,.int .i64 0,.int .i64 0,.int .i64 0,.slice none 0 0,.int .i64 0,.bool false,.int .i64 0] 43)).cell? ⟨w.heap.size,0,none⟩ = some (.pointer (some ⟨g,0,none⟩)):=by
      refine cell_alloc (cell_alloc ?_ _) _;have:=heap_alloc_new w (.cells #[.pointer (some ⟨g,0,none⟩)] 37)
      unfold World.cell?
      simp only [this]
      rfl
    have hG : (((w.alloc (.cells #[.pointer (some ⟨g,0,none⟩)] 37)).alloc (.cells #[.int .i64 a.kind,.int .i64 a.minute,.int .i64 a.paper,.int .i64 a.case_,.int .i64 a.by_,.int .i64 a.against,.int .i64 a.art,.int .i64 a.at_,.slice A8 a.facts.length c8,.int .i64 a.paid,.bool a.up,.int .i64 a.pen] 43)).alloc (.cells #[.int .i64 a.kind,.int .i64 a.minute,.int .i64 0,.int .i64 0,.int .i64 0,.int .i64 0,.int .i64 0,.int .i64 0,.slice none 0 0,.int .i64 0,.bool false,.int .i64 0] 43)).cell? ⟨g,0,none⟩ = some (.int .i64 cars):=cell_alloc (cell_alloc (cell_alloc HG.out _) _) _;have hBel : Below w.heap.size w (((w.alloc (.cells #[.pointer (some ⟨g,0,none⟩)] 37)).alloc (.cells #[.int .i64 a.kind,.int .i64 a.minute,.int .i64 a.paper,.int .i64 a.case_,.int .i64 a.by_,.int .i64 a.against,.int .i64 a.art,.int .i64 a.at_,.slice A8 a.facts.length c8,.int .i64 a.paid,.bool a.up,.int .i64 a.pen] 43)).alloc (.cells #[.int .i64 a.kind,.int .i64 a.minute,.int .i64 0,.int .i64 0,.int .i64 0,.int .i64 0,.int .i64 0,.int .i64 0,.slice none 0 0,.int .i64 0,.bool false,.int .i64 0] 43)):=bel_alloc (bel_alloc (bel_alloc (Below.refl _ w) _) _) _;have hSz : (((w.alloc (.cells #[.pointer (some ⟨g,0,none⟩)] 37)).alloc (.cells #[.int .i64 a.kind,.int .i64 a.minute,.int .i64 a.paper,.int .i64 a.case_,.int .i64 a.by_,.int .i64 a.against,.int .i64 a.art,.int .i64 a.at_,.slice A8 a.facts.length c8,.int .i64 a.paid,.bool a.up,.int .i64 a.pen] 43)).alloc (.cells #[.int .i64 a.kind,.int .i64 a.minute,.int .i64 0,.int .i64 0,.int .i64 0,.int .i64 0,.int .i64 0,.int .i64 0,.slice none 0 0,.int .i64 0,.bool false,.int .i64 0] 43)).heap.size = w.heap.size + 3:=by simp
    obtain ⟨W,hW⟩ : ∃ W,W = (((w.alloc (.cells #[.pointer (some ⟨g,0,none⟩)] 37)).alloc (.cells #[.int .i64 a.kind,.int .i64 a.minute,.int .i64 a.paper,.int .i64 a.case_,.int .i64 a.by_,.int .i64 a.against,.int .i64 a.art,.int .i64 a.at_,.slice A8 a.facts.length c8,.int .i64 a.paid,.bool a.up,.int .i64 a.pen] 43)).alloc (.cells #[.int .i64 a.kind,.int .i64 a.minute,.int .i64 0,.int .i64 0,.int .i64 0,.int .i64 0,.int .i64 0,.int .i64 0,.slice none 0 0,.int .i64 0,.bool false,.int .i64 0] 43)):=⟨_,rfl⟩
    rw [← hW] at hA hX hP hG hBel hSz ⊢;clear hW;have hk:=HKK.out
    -- kind 2
    have k1 : (a.kind == 1) = false:=by simp [hk]
    have k2 : (a.kind == 2) = true:=by simp [hk]
    have k3 : (a.kind == 3) = false:=by simp [hk]
    have k5 : (a.kind == 5) = false:=by simp [hk]
    have k4 : (a.kind == 4) = false:=by simp [hk]
    have k6 : (a.kind == 6) = false:=by simp [hk]
    have y0 : W.cell? ⟨w.heap.size + 1,0,none⟩ = some (.int .i64 a.kind):=box43 hA 0 _ rfl;have y4 : W.cell? ⟨w.heap.size + 1,4,none⟩ = some (.int .i64 a.by_):=box43 hA 4 _ rfl;have x4 : W.cell? ⟨w.heap.size + 2,4,none⟩ = some (.int .i64 0):=box43 hX 4 _ rfl;have z4 : W.frozen? ⟨w.heap.size + 2,4,none⟩ = false:=by simp [World.frozen?,hX]
    have y5 : W.cell? ⟨w.heap.size + 1,5,none⟩ = some (.int .i64 a.against):=box43 hA 5 _ rfl;have x5 : W.cell? ⟨w.heap.size + 2,5,none⟩ = some (.int .i64 0):=box43 hX 5 _ rfl;have z5 : W.frozen? ⟨w.heap.size + 2,5,none⟩ = false:=by simp [World.frozen?,hX]
    have y2 : W.cell? ⟨w.heap.size + 1,2,none⟩ = some (.int .i64 a.paper):=box43 hA 2 _ rfl;have x2 : W.cell? ⟨w.heap.size + 2,2,none⟩ = some (.int .i64 0):=box43 hX 2 _ rfl;have z2 : W.frozen? ⟨w.heap.size + 2,2,none⟩ = false:=by simp [World.frozen?,hX]
    have y6 : W.cell? ⟨w.heap.size + 1,6,none⟩ = some (.int .i64 a.art):=box43 hA 6 _ rfl;have x6 : W.cell? ⟨w.heap.size + 2,6,none⟩ = some (.int .i64 0):=box43 hX 6 _ rfl;have z6 : W.frozen? ⟨w.heap.size + 2,6,none⟩ = false:=by simp [World.frozen?,hX]
    have y7 : W.cell? ⟨w.heap.size + 1,7,none⟩ = some (.int .i64 a.at_):=box43 hA 7 _ rfl;have x7 : W.cell? ⟨w.heap.size + 2,7,none⟩ = some (.int .i64 0):=box43 hX 7 _ rfl;have z7 : W.frozen? ⟨w.heap.size + 2,7,none⟩ = false:=by simp [World.frozen?,hX]
    have y9 : W.cell? ⟨w.heap.size + 1,9,none⟩ = some (.int .i64 a.paid):=box43 hA 9 _ rfl;have x9 : W.cell? ⟨w.heap.size + 2,9,none⟩ = some (.int .i64 0):=box43 hX 9 _ rfl;have z9 : W.frozen? ⟨w.heap.size + 2,9,none⟩ = false:=by simp [World.frozen?,hX]
    have HX:=Aside.mk hX;have HA:=Aside.mk hA;have HP:=Aside.mk hP;have HG1:=Aside.mk hG;have HBel:=Aside.mk hBel;have HSz:=Aside.mk hSz;clear hX hA hP hG hBel hSz
    go_upto_region 11 with fail
    refine wp_abs (n:=283) (ds:=[]) (l:=[(3,.pointer (some ⟨w.heap.size + 1,0,none⟩)),(5,.func (.func 95) #[] #[.pointer (some ⟨w.heap.size,0,none⟩)]),(6,.pointer (some ⟨w.heap.size + 2,0,none⟩)),(7,.bool ((a.facts.length : Int) == 0)),(8,.bool (inB a.minute 0 10000000))]) ?_ ?_
    · refine (((((Has.nil ?_ ?_).cons ?_).cons ?_).cons ?_).cons ?_).cons ?_
      all_goals first | rfl | (simp [Act.eval];done)
    intro _ hf;have HXr:=HX.out;refine t_begin (S:=fun w' => w'.heap[w.heap.size + 1]? = some (.cells #[.int .i64 a.kind,.int .i64 a.minute,.int .i64 a.paper,.int .i64 a.case_,.int .i64 a.by_,.int .i64 a.against,.int .i64 a.art,.int .i64 a.at_,.slice A8 a.facts.length c8,.int .i64 a.paid,.bool a.up,.int .i64 a.pen] 43 (0,0))) (by kernel_rfl) ?_;have hS : (fun w' : World => w'.heap[w.heap.size + 1]? = some (.cells #[.int .i64 a.kind,.int .i64 a.minute,.int .i64 a.paper,.int .i64 a.case_,.int .i64 a.by_,.int .i64 a.against,.int .i64 a.art,.int .i64 a.at_,.slice A8 a.facts.length c8,.int .i64 a.paid,.bool a.up,.int .i64 a.pen] 43 (0,0))) W.drew:=HA.out;refine t_take (i:=0) (d:=39) hf rfl (by kernel_rfl) (by kernel_rfl) (by kernel_rfl) rfl (fun w' hw' => x_field hf rfl rfl) rfl rfl hS ?_;clear hf;intro _ hf;refine t_take (i:=1) (d:=40) hf rfl (by kernel_rfl) (by kernel_rfl) (by kernel_rfl) rfl (fun w' hw' => x_load hf rfl rfl (by exact box43 hw' 4 _ rfl)) rfl rfl hS ?_;clear hf;intro _ hf;refine t_take (i:=2) (d:=41) hf rfl (by kernel_rfl) (by kernel_rfl) (by kernel_rfl) rfl (fun w' hw' => x_field hf rfl rfl) rfl rfl hS ?_;clear hf;intro _ hf;refine t_take (i:=3) (d:=42) hf rfl (by kernel_rfl) (by kernel_rfl) (by kernel_rfl) rfl (fun w' hw' => x_load hf rfl rfl (by exact box43 hw' 5 _ rfl)) rfl rfl hS ?_;clear hf;intro _ hf;refine t_take (i:=4) (d:=43) hf rfl (by kernel_rfl) (by kernel_rfl) (by kernel_rfl) rfl (fun w' hw' => x_field hf rfl rfl) rfl rfl hS ?_;clear hf;intro _ hf;refine t_take (i:=5) (d:=44) hf rfl (by kernel_rfl) (by kernel_rfl) (by kernel_rfl) rfl (fun w' hw' => x_load hf rfl rfl (by exact box43 hw' 2 _ rfl)) rfl rfl hS ?_;clear hf;intro _ hf;refine t_take (i:=6) (d:=45) hf rfl (by kernel_rfl) (by kernel_rfl) (by kernel_rfl) rfl (fun w' hw' => x_field hf rfl rfl) rfl rfl hS ?_;clear hf;intro _ hf;refine t_take (i:=7) (d:=46) hf rfl (by kernel_rfl) (by kernel_rfl) (by kernel_rfl) rfl (fun w' hw' => x_load hf rfl rfl (by exact box43 hw' 6 _ rfl)) rfl rfl hS ?_;clear hf;intro _ hf;refine t_take (i:=8) (d:=47) hf rfl (by kernel_rfl) (by kernel_rfl) (by kernel_rfl) rfl (fun w' hw' => x_field hf rfl rfl) rfl rfl hS ?_;clear hf;intro _ hf;refine t_take (i:=9) (d:=48) hf rfl (by kernel_rfl) (by kernel_rfl) (by kernel_rfl) rfl (fun w' hw' => x_load hf rfl rfl (by exact box43 hw' 7 _ rfl)) rfl rfl hS ?_;clear hf;intro _ hf;refine t_take (i:=10) (d:=49) hf rfl (by kernel_rfl) (by kernel_rfl) (by kernel_rfl) rfl (fun w' hw' => x_field hf rfl rfl) rfl rfl hS ?_;clear hf;intro _ hf;refine t_take (i:=11) (d:=50) hf rfl (by kernel_rfl) (by kernel_rfl) (by kernel_rfl) rfl (fun w' hw' => x_load hf rfl rfl (by exact box43 hw' 9 _ rfl)) rfl rfl hS ?_;clear hf;intro _ hf;have hB : W.drew.heap[w.heap.size + 2]? = some (.cells #[.int .i64 a.kind,.int .i64 a.minute,.int .i64 0,.int .i64 0,.int .i64 0,.int .i64 0,.int .i64 0,.int .i64 0,.slice none 0 0,.int .i64 0,.bool false,.int .i64 0] 43 (0,0)):=HX.out
    refine t_take (i:=12) (d:=51) hf rfl (by kernel_rfl) (by kernel_rfl) (by kernel_rfl) rfl (fun w' hw' => x_field hf rfl rfl) rfl rfl hS ?_;clear hf;intro _ hf;refine t_one (i:=13) (by kernel_rfl) (t_skip (w':=(World.setCell W.drew ⟨w.heap.size + 2,4,none⟩ (.int .i64 a.by_))) hf rfl rfl (x_store hf rfl rfl rfl rfl (by exact box43 hB 4 _ rfl) (by exact box_free hB 4)) rfl (fun _ hf => ⟨(set_other _ ⟨w.heap.size + 2,4,none⟩ _ _ (by simp only;omega)).trans hS,?_⟩));replace hB : (World.setCell W.drew ⟨w.heap.size + 2,4,none⟩ (.int .i64 a.by_)).heap[w.heap.size + 2]? = some (.cells #[.int .i64 a.kind,.int .i64 a.minute,.int .i64 0,.int .i64 0,.int .i64 a.by_,.int .i64 0,.int .i64 0,.int .i64 0,.slice none 0 0,.int .i64 0,.bool false,.int .i64 0] 43 (0,0)):=blk_set hB 4 (.int .i64 a.by_);replace hS : (fun w' : World => w'.heap[w.heap.size + 1]? = some (.cells #[.int .i64 a.kind,.int .i64 a.minute,.int .i64 a.paper,.int .i64 a.case_,.int .i64 a.by_,.int .i64 a.against,.int .i64 a.art,.int .i64 a.at_,.slice A8 a.facts.length c8,.int .i64 a.paid,.bool a.up,.int .i64 a.pen] 43 (0,0))) (World.setCell W.drew ⟨w.heap.size + 2,4,none⟩ (.int .i64 a.by_)):=(set_other _ ⟨w.heap.size + 2,4,none⟩ _ _ (by simp only;omega)).trans hS;refine t_take (i:=14) (d:=52) hf rfl (by kernel_rfl) (by kernel_rfl) (by kernel_rfl) rfl (fun w' hw' => x_field hf rfl rfl) rfl rfl hS ?_;clear hf;intro _ hf;refine t_one (i:=15) (by kernel_rfl) (t_skip (w':=(World.setCell (World.setCell W.drew ⟨w.heap.size + 2,4,none⟩ (.int .i64 a.by_)) ⟨w.heap.size + 2,5,none⟩ (.int .i64 a.against))) hf rfl rfl (x_store hf rfl rfl rfl rfl (by exact box43 hB 5 _ rfl) (by exact box_free hB 5)) rfl (fun _ hf => ⟨(set_other _ ⟨w.heap.size + 2,5,none⟩ _ _ (by simp only;omega)).trans hS,?_⟩));replace hB : (World.setCell (World.setCell W.drew ⟨w.heap.size + 2,4,none⟩ (.int .i64 a.by_)) ⟨w.heap.size + 2,5,none⟩ (.int .i64 a.against)).heap[w.heap.size + 2]? = some (.cells #[.int .i64 a.kind,.int .i64 a.minute,.int .i64 0,.int .i64 0,.int .i64 a.by_,.int .i64 a.against,.int .i64 0,.int .i64 0,.slice none 0 0,.int .i64 0,.bool false,.int .i64 0] 43 (0,0)):=blk_set hB 5 (.int .i64 a.against);replace hS : (fun w' : World => w'.heap[w.heap.size + 1]? = some (.cells #[.int .i64 a.kind,.int .i64 a.minute,.int .i64 a.paper,.int .i64 a.case_,.int .i64 a.by_,.int .i64 a.against,.int .i64 a.art,.int .i64 a.at_,.slice A8 a.facts.length c8,.int .i64 a.paid,.bool a.up,.int .i64 a.pen] 43 (0,0))) (World.setCell (World.setCell W.drew ⟨w.heap.size + 2,4,none⟩ (.int .i64 a.by_)) ⟨w.heap.size + 2,5,none⟩ (.int .i64 a.against)):=(set_other _ ⟨w.heap.size + 2,5,none⟩ _ _ (by simp only;omega)).trans hS;refine t_take (i:=16) (d:=53) hf rfl (by kernel_rfl) (by kernel_rfl) (by kernel_rfl) rfl (fun w' hw' => x_field hf rfl rfl) rfl rfl hS ?_;clear hf;intro _ hf;refine t_one (i:=17) (by kernel_rfl) (t_skip (w':=(World.setCell (World.setCell (World.setCell W.drew ⟨w.heap.size + 2,4,none⟩ (.int .i64 a.by_)) ⟨w.heap.size + 2,5,none⟩ (.int .i64 a.against)) ⟨w.heap.size + 2,2,none⟩ (.int .i64 a.paper))) hf rfl rfl (x_store hf rfl rfl rfl rfl (by exact box43 hB 2 _ rfl) (by exact box_free hB 2)) rfl (fun _ hf => ⟨(set_other _ ⟨w.heap.size + 2,2,none⟩ _ _ (by simp only;omega)).trans hS,?_⟩))
    replace hB : (World.setCell (World.setCell (World.setCell W.drew ⟨w.heap.size + 2,4,none⟩ (.int .i64 a.by_)) ⟨w.heap.size + 2,5,none⟩ (.int .i64 a.against)) ⟨w.heap.size + 2,2,none⟩ (.int .i64 a.paper)).heap[w.heap.size + 2]? = some (.cells #[.int .i64 a.kind,.int .i64 a.minute,.int .i64 a.paper,.int .i64 0,.int .i64 a.by_,.int .i64 a.against,.int .i64 0,.int .i64 0,.slice none 0 0,.int .i64 0,.bool false,.int .i64 0] 43 (0,0)):=blk_set hB 2 (.int .i64 a.paper);replace hS : (fun w' : World => w'.heap[w.heap.size + 1]? = some (.cells #[.int .i64 a.kind,.int .i64 a.minute,.int .i64 a.paper,.int .i64 a.case_,.int .i64 a.by_,.int .i64 a.against,.int .i64 a.art,.int .i64 a.at_,.slice A8 a.facts.length c8,.int .i64 a.paid,.bool a.up,.int .i64 a.pen] 43 (0,0))) (World.setCell (World.setCell (World.setCell W.drew ⟨w.heap.size + 2,4,none⟩ (.int .i64 a.by_)) ⟨w.heap.size + 2,5,none⟩ (.int .i64 a.against)) ⟨w.heap.size + 2,2,none⟩ (.int .i64 a.paper)):=(set_other _ ⟨w.heap.size + 2,2,none⟩ _ _ (by simp only;omega)).trans hS;refine t_take (i:=18) (d:=54) hf rfl (by kernel_rfl) (by kernel_rfl) (by kernel_rfl) rfl (fun w' hw' => x_field hf rfl rfl) rfl rfl hS ?_;clear hf;intro _ hf;refine t_one (i:=19) (by kernel_rfl) (t_skip (w':=(World.setCell (World.setCell (World.setCell (World.setCell W.drew ⟨w.heap.size + 2,4,none⟩ (.int .i64 a.by_)) ⟨w.heap.size + 2,5,none⟩ (.int .i64 a.against)) ⟨w.heap.size + 2,2,none⟩ (.int .i64 a.paper)) ⟨w.heap.size + 2,6,none⟩ (.int .i64 a.art))) hf rfl rfl (x_store hf rfl rfl rfl rfl (by exact box43 hB 6 _ rfl) (by exact box_free hB 6)) rfl (fun _ hf => ⟨(set_other _ ⟨w.heap.size + 2,6,none⟩ _ _ (by simp only;omega)).trans hS,?_⟩));replace hB : (World.setCell (World.setCell (World.setCell (World.setCell W.drew ⟨w.heap.size + 2,4,none⟩ (.int .i64 a.by_)) ⟨w.heap.size + 2,5,none⟩ (.int .i64 a.against)) ⟨w.heap.size + 2,2,none⟩ (.int .i64 a.paper)) ⟨w.heap.size + 2,6,none⟩ (.int .i64 a.art)).heap[w.heap.size + 2]? = some (.cells #[.int .i64 a.kind,.int .i64 a.minute,.int .i64 a.paper,.int .i64 0,.int .i64 a.by_,.int .i64 a.against,.int .i64 a.art,.int .i64 0,.slice none 0 0,.int .i64 0,.bool false,.int .i64 0] 43 (0,0)):=blk_set hB 6 (.int .i64 a.art);replace hS : (fun w' : World => w'.heap[w.heap.size + 1]? = some (.cells #[.int .i64 a.kind,.int .i64 a.minute,.int .i64 a.paper,.int .i64 a.case_,.int .i64 a.by_,.int .i64 a.against,.int .i64 a.art,.int .i64 a.at_,.slice A8 a.facts.length c8,.int .i64 a.paid,.bool a.up,.int .i64 a.pen] 43 (0,0))) (World.setCell (World.setCell (World.setCell (World.setCell W.drew ⟨w.heap.size + 2,4,none⟩ (.int .i64 a.by_)) ⟨w.heap.size + 2,5,none⟩ (.int .i64 a.against)) ⟨w.heap.size + 2,2,none⟩ (.int .i64 a.paper)) ⟨w.heap.size + 2,6,none⟩ (.int .i64 a.art)):=(set_other _ ⟨w.heap.size + 2,6,none⟩ _ _ (by simp only;omega)).trans hS;refine t_take (i:=20) (d:=55) hf rfl (by kernel_rfl) (by kernel_rfl) (by kernel_rfl) rfl (fun w' hw' => x_field hf rfl rfl) rfl rfl hS ?_;clear hf;intro _ hf
    refine t_one (i:=21) (by kernel_rfl) (t_skip (w':=(World.setCell (World.setCell (World.setCell (World.setCell (World.setCell W.drew ⟨w.heap.size + 2,4,none⟩ (.int .i64 a.by_)) ⟨w.heap.size + 2,5,none⟩ (.int .i64 a.against)) ⟨w.heap.size + 2,2,none⟩ (.int .i64 a.paper)) ⟨w.heap.size + 2,6,none⟩ (.int .i64 a.art)) ⟨w.heap.size + 2,7,none⟩ (.int .i64 a.at_))) hf rfl rfl (x_store hf rfl rfl rfl rfl (by exact box43 hB 7 _ rfl) (by exact box_free hB 7)) rfl (fun _ hf => ⟨(set_other _ ⟨w.heap.size + 2,7,none⟩ _ _ (by simp only;omega)).trans hS,?_⟩));replace hB : (World.setCell (World.setCell (World.setCell (World.setCell (World.setCell W.drew ⟨w.heap.size + 2,4,none⟩ (.int .i64 a.by_)) ⟨w.heap.size + 2,5,none⟩ (.int .i64 a.against)) ⟨w.heap.size + 2,2,none⟩ (.int .i64 a.paper)) ⟨w.heap.size + 2,6,none⟩ (.int .i64 a.art)) ⟨w.heap.size + 2,7,none⟩ (.int .i64 a.at_)).heap[w.heap.size + 2]? = some (.cells #[.int .i64 a.kind,.int .i64 a.minute,.int .i64 a.paper,.int .i64 0,.int .i64 a.by_,.int .i64 a.against,.int .i64 a.art,.int .i64 a.at_,.slice none 0 0,.int .i64 0,.bool false,.int .i64 0] 43 (0,0)):=blk_set hB 7 (.int .i64 a.at_);replace hS : (fun w' : World => w'.heap[w.heap.size + 1]? = some (.cells #[.int .i64 a.kind,.int .i64 a.minute,.int .i64 a.paper,.int .i64 a.case_,.int .i64 a.by_,.int .i64 a.against,.int .i64 a.art,.int .i64 a.at_,.slice A8 a.facts.length c8,.int .i64 a.paid,.bool a.up,.int .i64 a.pen] 43 (0,0))) (World.setCell (World.setCell (World.setCell (World.setCell (World.setCell W.drew ⟨w.heap.size + 2,4,none⟩ (.int .i64 a.by_)) ⟨w.heap.size + 2,5,none⟩ (.int .i64 a.against)) ⟨w.heap.size + 2,2,none⟩ (.int .i64 a.paper)) ⟨w.heap.size + 2,6,none⟩ (.int .i64 a.art)) ⟨w.heap.size + 2,7,none⟩ (.int .i64 a.at_)):=(set_other _ ⟨w.heap.size + 2,7,none⟩ _ _ (by simp only;omega)).trans hS;refine t_take (i:=22) (d:=56) hf rfl (by kernel_rfl) (by kernel_rfl) (by kernel_rfl) rfl (fun w' hw' => x_field hf rfl rfl) rfl rfl hS ?_;clear hf;intro _ hf;refine t_one (i:=23) (by kernel_rfl) (t_skip (w':=(World.setCell (World.setCell (World.setCell (World.setCell (World.setCell (World.setCell W.drew ⟨w.heap.size + 2,4,none⟩ (.int .i64 a.by_)) ⟨w.heap.size + 2,5,none⟩ (.int .i64 a.against)) ⟨w.heap.size + 2,2,none⟩ (.int .i64 a.paper)) ⟨w.heap.size + 2,6,none⟩ (.int .i64 a.art)) ⟨w.heap.size + 2,7,none⟩ (.int .i64 a.at_)) ⟨w.heap.size + 2,9,none⟩ (.int .i64 a.paid))) hf rfl rfl (x_store hf rfl rfl rfl rfl (by exact box43 hB 9 _ rfl) (by exact box_free hB 9)) rfl (fun _ hf => ⟨(set_other _ ⟨w.heap.size + 2,9,none⟩ _ _ (by simp only;omega)).trans hS,?_⟩));replace hB : (World.setCell (World.setCell (World.setCell (World.setCell (World.setCell (World.setCell W.drew ⟨w.heap.size + 2,4,none⟩ (.int .i64 a.by_)) ⟨w.heap.size + 2,5,none⟩ (.int .i64 a.against)) ⟨w.heap.size + 2,2,none⟩ (.int .i64 a.paper)) ⟨w.heap.size + 2,6,none⟩ (.int .i64 a.art)) ⟨w.heap.size + 2,7,none⟩ (.int .i64 a.at_)) ⟨w.heap.size + 2,9,none⟩ (.int .i64 a.paid)).heap[w.heap.size + 2]? = some (.cells #[.int .i64 a.kind,.int .i64 a.minute,.int .i64 a.paper,.int .i64 0,.int .i64 a.by_,.int .i64 a.against,.int .i64 a.art,.int .i64 a.at_,.slice none 0 0,.int .i64 a.paid,.bool false,.int .i64 0] 43 (0,0)):=blk_set hB 9 (.int .i64 a.paid)
    replace hS : (fun w' : World => w'.heap[w.heap.size + 1]? = some (.cells #[.int .i64 a.kind,.int .i64 a.minute,.int .i64 a.paper,.int .i64 a.case_,.int .i64 a.by_,.int .i64 a.against,.int .i64 a.art,.int .i64 a.at_,.slice A8 a.facts.length c8,.int .i64 a.paid,.bool a.up,.int .i64 a.pen] 43 (0,0))) (World.setCell (World.setCell (World.setCell (World.setCell (World.setCell (World.setCell W.drew ⟨w.heap.size + 2,4,none⟩ (.int .i64 a.by_)) ⟨w.heap.size + 2,5,none⟩ (.int .i64 a.against)) ⟨w.heap.size + 2,2,none⟩ (.int .i64 a.paper)) ⟨w.heap.size + 2,6,none⟩ (.int .i64 a.art)) ⟨w.heap.size + 2,7,none⟩ (.int .i64 a.at_)) ⟨w.heap.size + 2,9,none⟩ (.int .i64 a.paid)):=(set_other _ ⟨w.heap.size + 2,9,none⟩ _ _ (by simp only;omega)).trans hS;refine wpAnyH_done (by kernel_rfl) (NoPanic.normal ?_) _;simp only [Exit.then];go_step;have hM : Mod (fun k => k = w.heap.size + 2) W (World.setCell (World.setCell (World.setCell (World.setCell (World.setCell (World.setCell (W.drew) ⟨w.heap.size + 2,4,none⟩ (.int .i64 a.by_)) ⟨w.heap.size + 2,5,none⟩ (.int .i64 a.against)) ⟨w.heap.size + 2,2,none⟩ (.int .i64 a.paper)) ⟨w.heap.size + 2,6,none⟩ (.int .i64 a.art)) ⟨w.heap.size + 2,7,none⟩ (.int .i64 a.at_)) ⟨w.heap.size + 2,9,none⟩ (.int .i64 a.paid)):=(((((((Mod.refl (F:=fun k => k = w.heap.size + 2)).drew.set_ (p:=⟨w.heap.size + 2,4,none⟩) (.inl rfl) _).set_ (p:=⟨w.heap.size + 2,5,none⟩) (.inl rfl) _).set_ (p:=⟨w.heap.size + 2,2,none⟩) (.inl rfl) _).set_ (p:=⟨w.heap.size + 2,6,none⟩) (.inl rfl) _).set_ (p:=⟨w.heap.size + 2,7,none⟩) (.inl rfl) _).set_ (p:=⟨w.heap.size + 2,9,none⟩) (.inl rfl) _)
    have hX1 : (World.setCell (World.setCell (World.setCell (World.setCell (World.setCell (World.setCell (W.drew) ⟨w.heap.size + 2,4,none⟩ (.int .i64 a.by_)) ⟨w.heap.size + 2,5,none⟩ (.int .i64 a.against)) ⟨w.heap.size + 2,2,none⟩ (.int .i64 a.paper)) ⟨w.heap.size + 2,6,none⟩ (.int .i64 a.art)) ⟨w.heap.size + 2,7,none⟩ (.int .i64 a.at_)) ⟨w.heap.size + 2,9,none⟩ (.int .i64 a.paid)).heap[w.heap.size + 2]? = some (.cells #[.int .i64 (shapeX a).kind,.int .i64 (shapeX a).minute,.int .i64 (shapeX a).paper,.int .i64 (shapeX a).case_,.int .i64 (shapeX a).by_,.int .i64 (shapeX a).against,.int .i64 (shapeX a).art,.int .i64 (shapeX a).at_,.slice none 0 0,.int .i64 (shapeX a).paid,.bool (shapeX a).up,.int .i64 (shapeX a).pen] 43 (0,0)):=by
      simpa [shapeX,zeroAct,k1,k2,k3,k4,k5,k6] using hB
    clear hB hS HXr
    generalize hW1 : World.setCell (World.setCell (World.setCell (World.setCell (World.setCell (World.setCell (W.drew) ⟨w.heap.size + 2,4,none⟩ (.int .i64 a.by_)) ⟨w.heap.size + 2,5,none⟩ (.int .i64 a.against)) ⟨w.heap.size + 2,2,none⟩ (.int .i64 a.paper)) ⟨w.heap.size + 2,6,none⟩ (.int .i64 a.art)) ⟨w.heap.size + 2,7,none⟩ (.int .i64 a.at_)) ⟨w.heap.size + 2,9,none⟩ (.int .i64 a.paid) = W1 at hM hX1 ⊢
    clear hW1;have hA1:=(hM.block (w.heap.size + 1) (by have:=HSz.out;omega) (by omega)).trans HA.out;have hP1 : W1.cell? ⟨w.heap.size,0,none⟩ = some (.pointer (some ⟨g,0,none⟩)):=(World.cell?_of_block (hM.block w.heap.size (by have:=HSz.out;omega) (by omega))).trans HP.out;have hG1 : W1.cell? ⟨g,0,none⟩ = some (.int .i64 cars):=(World.cell?_of_block (hM.block g (by have:=HSz.out;omega) (by omega))).trans HG1.out;have hB1:=bel_mod HBel.out hM (by intro k hk;omega);clear y0 y4 x4 z4 y5 x5 z5 y2 x2 z2 y6 x6 z6 y7 x7 z7 y9 x9 z9;have y1 : W1.cell? ⟨w.heap.size + 1,1,none⟩ = some (.int .i64 a.minute):=box43 hA1 1 _ rfl;have y2 : W1.cell? ⟨w.heap.size + 1,2,none⟩ = some (.int .i64 a.paper):=box43 hA1 2 _ rfl;have y4 : W1.cell? ⟨w.heap.size + 1,4,none⟩ = some (.int .i64 a.by_):=box43 hA1 4 _ rfl;have y5 : W1.cell? ⟨w.heap.size + 1,5,none⟩ = some (.int .i64 a.against):=box43 hA1 5 _ rfl;have y6 : W1.cell? ⟨w.heap.size + 1,6,none⟩ = some (.int .i64 a.art):=box43 hA1 6 _ rfl;have y7 : W1.cell? ⟨w.heap.size + 1,7,none⟩ = some (.int .i64 a.at_):=box43 hA1 7 _ rfl;have y9 : W1.cell? ⟨w.heap.size + 1,9,none⟩ = some (.int .i64 a.paid):=box43 hA1 9 _ rfl;refine wp_seq_k ?_;intro _ _;refine wp_region_lit ?_;refine a_move hf rfl rfl rfl ?_;clear hf;intro _ hf;refine group_car 57 58 1 _ (inB a.by_ 1 cars) 4 3 _ 95 #[.int .i64 a.by_,.pointer (some ⟨w.heap.size,0,none⟩)] (.func (.func 95) #[] #[.pointer (some ⟨w.heap.size,0,none⟩)]) (.pointer (some ⟨w.heap.size + 1,4,none⟩)) (.int .i64 a.by_) rfl (by omega) (by omega) (by rw [hf.size];decide) (hf.at_ 57 _ rfl) (fun ev h => by rw [hf.at_ 5 _ rfl] at h;simp [go_sem,h]) (fun ev h => by rw [hf.at_ 3 _ rfl] at h;simp [go_sem,h]) (fun ev h => by simp [go_sem,h,y4]) (fun ev h h2 => by simp [go_sem,h,h2,e95 _ _]) (car_any _ g _ _ _ hP1 hG1) ?_;intro _ L E;replace hf:=(hf.low L rfl).cons (d:=63) E;clear L E;refine group_car 63 64 7 _ (inB a.against 1 cars) 5 3 _ 95 #[.int .i64 a.against,.pointer (some ⟨w.heap.size,0,none⟩)] (.func (.func 95) #[] #[.pointer (some ⟨w.heap.size,0,none⟩)]) (.pointer (some ⟨w.heap.size + 1,5,none⟩)) (.int .i64 a.against) rfl (by omega) (by omega) (by rw [hf.size];decide) (hf.at_ 63 _ rfl) (fun ev h => by rw [hf.at_ 5 _ rfl] at h;simp [go_sem,h]) (fun ev h => by rw [hf.at_ 3 _ rfl] at h;simp [go_sem,h]) (fun ev h => by simp [go_sem,h,y5]) (fun ev h h2 => by simp [go_sem,h,h2,e95 _ _]) (car_any _ g _ _ _ hP1 hG1) ?_;intro _ L E;replace hf:=(hf.low L rfl).cons (d:=69) E;clear L E;refine group_ne 69 70 13 _ (a.by_ != a.against) 4 5 3 (.pointer (some ⟨w.heap.size + 1,4,none⟩)) (.int .i64 a.by_) (.pointer (some ⟨w.heap.size + 1,5,none⟩)) (.int .i64 a.against) rfl (by omega) (by omega) (by rw [hf.size];decide) (hf.at_ 69 _ rfl) (fun ev h => by rw [hf.at_ 3 _ rfl] at h;simp [go_sem,h]) (fun ev h => by simp [go_sem,h,y4]) (fun ev h => by rw [hf.at_ 3 _ rfl] at h;simp [go_sem,h]) (fun ev h => by simp [go_sem,h,y5]) (fun ev h h2 => by simp [go_sem,h,h2]) ?_
    intro _ L E;replace hf:=(hf.low L rfl).cons (d:=76) E;clear L E;refine group_in 76 77 20 _ (inB a.paper 1 1000000) 2 3 (.int .i64 1) (.int .i64 1000000) _ (.pointer (some ⟨w.heap.size + 1,2,none⟩)) (.int .i64 a.paper) rfl (by omega) (by omega) (by rw [hf.size];decide) (hf.at_ 76 _ rfl) (fun ev h => by rw [hf.at_ 3 _ rfl] at h;simp [go_sem,h]) (fun ev h => by simp [go_sem,h,y2]) (fun ev h c1 c2 c3 => by simp [go_sem,h,c1,c2,c3,e52 _ _]) (within_any _ _ _ _) ?_;intro _ L E;replace hf:=(hf.low L rfl).cons (d:=81) E;clear L E;refine group_in 81 82 25 _ (inB a.art 1 10000) 6 3 (.int .i64 1) (.int .i64 10000) _ (.pointer (some ⟨w.heap.size + 1,6,none⟩)) (.int .i64 a.art) rfl (by omega) (by omega) (by rw [hf.size];decide) (hf.at_ 81 _ rfl) (fun ev h => by rw [hf.at_ 3 _ rfl] at h;simp [go_sem,h]) (fun ev h => by simp [go_sem,h,y6]) (fun ev h c1 c2 c3 => by simp [go_sem,h,c1,c2,c3,e52 _ _]) (within_any _ _ _ _) ?_;intro _ L E;replace hf:=(hf.low L rfl).cons (d:=86) E;clear L E;refine group_in2 86 87 30 _ (inB a.at_ 0 a.minute) 7 1 3 (.int .i64 0) _ (.pointer (some ⟨w.heap.size + 1,7,none⟩)) (.int .i64 a.at_) (.pointer (some ⟨w.heap.size + 1,1,none⟩)) (.int .i64 a.minute) rfl (by omega) (by omega) (by rw [hf.size];decide) (hf.at_ 86 _ rfl) (fun ev h => by rw [hf.at_ 3 _ rfl] at h;simp [go_sem,h]) (fun ev h => by simp [go_sem,h,y7]) (fun ev h => by rw [hf.at_ 3 _ rfl] at h;simp [go_sem,h]) (fun ev h => by simp [go_sem,h,y1]) (fun ev h h2 c1 c3 => by simp [go_sem,h,h2,c1,c3,e52 _ _]) (within_any _ _ _ _) ?_;intro _ L E;replace hf:=(hf.low L rfl).cons (d:=93) E;clear L E;refine group_in 93 94 37 _ (inB a.paid 0 1000000000) 9 3 (.int .i64 0) (.int .i64 1000000000) _ (.pointer (some ⟨w.heap.size + 1,9,none⟩)) (.int .i64 a.paid) rfl (by omega) (by omega) (by rw [hf.size];decide) (hf.at_ 93 _ rfl) (fun ev h => by rw [hf.at_ 3 _ rfl] at h;simp [go_sem,h]) (fun ev h => by simp [go_sem,h,y9]) (fun ev h c1 c2 c3 => by simp [go_sem,h,c1,c2,c3,e52 _ _]) (within_any _ _ _ _) ?_;intro _ L E;replace hf:=(hf.low L rfl).cons (d:=98) E;clear L E;refine a_assign hf rfl rfl rfl ?_;clear hf;intro _ hf;refine wpList_nil ?_;simp only [Exit.then];go_step;have y8 : W1.cell? ⟨w.heap.size + 1,8,none⟩ = some (.slice A8 a.facts.length c8):=box43 hA1 8 _ rfl;have HF1:=Aside.mk (HF.out.below hB1)
    have HFs:=Aside.mk (show shFacts a = (decide ((a.facts.length : Int) ≤ 20) && factsFrom (prev a.facts 0) (a.facts.drop 0)) by
      have : decide ((a.facts.length : Int) ≤ 20) = decide (a.facts.length ≤ 20):=by rw [Bool.eq_iff_iff];simp;omega
      simp [shFacts,k2,prev,this])
    have HO : shOk cars a = (inB a.minute 0 10000000 && inB a.by_ 1 cars && inB a.against 1 cars && (a.by_ != a.against) && inB a.paper 1 1000000 && inB a.art 1 10000 && inB a.at_ 0 a.minute && inB a.paid 0 1000000000):=by simp [shOk,shMin,k1,k2,k3,k4,k5,k6]
    have HOA:=Aside.mk HO;clear HO;refine wp_seq_k ?_;intro _ _;refine wp_region_lit ?_;refine a_field hf rfl rfl rfl rfl ?_;clear hf;intro _ hf;refine a_load hf rfl rfl rfl (by exact y8) rfl ?_;clear hf;intro _ hf;refine a_len hf rfl rfl rfl rfl ?_;clear hf;intro _ hf;refine a_cmp hf rfl rfl rfl rfl rfl rfl rfl ?_;clear hf;intro _ hf;refine a_assign hf rfl rfl rfl ?_;clear hf;intro _ hf;refine wpList_nil ?_;simp only [Exit.then,Exit.inBlock];go_step;refine wp_seq_k ?_;intro _ _;refine wp_region_lit ?_;refine a_field hf rfl rfl rfl rfl ?_;clear hf;intro _ hf;refine a_load hf rfl rfl rfl (by exact y8) rfl ?_;clear hf;intro _ hf;refine a_len hf rfl rfl rfl rfl ?_;clear hf;intro _ hf;refine a_move hf rfl rfl rfl ?_;clear hf;intro _ hf;refine wpList_nil ?_;simp only [Exit.then,Exit.inBlock];go_step;refine wp_block ?_;refine wp_loop_ghost (fun m fr wr => ∃ (k : Nat) (b : Bool),k ≤ a.facts.length ∧ m = a.facts.length - k ∧ wr = W1 ∧ Has 283 [] [(3,.pointer (some ⟨w.heap.size + 1,0,none⟩)),(6,.pointer (some ⟨w.heap.size + 2,0,none⟩)),(7,.bool b),(8,.bool (inB a.minute 0 10000000 && inB a.by_ 1 cars && inB a.against 1 cars && (a.by_ != a.against) && inB a.paper 1 1000000 && inB a.art 1 10000 && inB a.at_ 0 a.minute && inB a.paid 0 1000000000)),(104,.slice A8 a.facts.length c8),(105,.int .i64 (a.facts.length : Int)),(106,.int .i64 (k : Int))] fr ∧ Aside (shFacts a = (b && factsFrom (prev a.facts k) (a.facts.drop k)))) a.facts.length ?_ ?_
    · exact ⟨0,_,Nat.zero_le _,rfl,rfl,(((((((hf.nilOf.cons (hf.at_ 106 _ rfl)).cons (hf.at_ 105 _ rfl)).cons (hf.at_ 104 _ rfl)).cons (hf.at_ 8 _ rfl)).cons (hf.at_ 7 _ rfl)).cons (hf.at_ 6 _ rfl)).cons (hf.at_ 3 _ rfl)),HFs⟩
    rintro m fr wr ⟨k,b,hk',rfl,rfl,hf,HE⟩
    by_cases hlt : k < a.facts.length
    · obtain ⟨x,hx⟩:=get_some hlt
      have HX':=Aside.mk (drop_get hx);have HP':=Aside.mk (prev_succ a.facts k x hx)
      obtain ⟨ad,rfl,_,q0⟩:=HF1.out k x hx
      clear hx;refine wp_seq_k ?_;intro _ _;refine wp_region_lit ?_;refine a_cmp (b:=true) hf rfl rfl rfl rfl rfl (by first | assumption | ((try dsimp only);simp only [bq1,bq2,bq3,bq4,bq5,bq6,bq7];omega)) rfl ?_;clear hf;intro _ hf;refine wpList_nil ?_;simp only [Exit.then,Exit.inBlock];go_step;refine wp_seq_k ?_;intro _ _;refine c_condT hf rfl ?_;refine wp_skip ?_;simp only [Exit.then];go_step;refine wp_seq_k ?_;intro _ _;refine wp_block ?_;refine wp_seq_k ?_;intro _ _;refine wp_region_lit ?_;refine a_move hf rfl rfl rfl ?_;clear hf;intro _ hf;refine a_index1 hf rfl rfl rfl (j:=k) rfl (by omega) rfl ?_;clear hf;intro _ hf;refine a_load hf rfl rfl rfl (by exact q0) rfl ?_;clear hf;intro _ hf;refine a_assign hf rfl rfl rfl ?_;clear hf;intro _ hf;refine a_assign hf rfl rfl rfl ?_;clear hf;intro _ hf;refine wpList_nil ?_;simp only [Exit.then,Exit.inBlock];go_step
      cases b with
      | false =>
        refine wp_region_lit ?_;refine a_move hf rfl rfl rfl ?_;clear hf;intro _ hf;refine a_move hf rfl rfl rfl ?_;clear hf;intro _ hf
        (first | refine a_not hf rfl rfl rfl ?_ | refine a_move hf rfl rfl rfl ?_);clear hf;intro _ hf
        (first | (refine a_not hf rfl rfl rfl ?_;clear hf;intro _ hf) | (refine a_call3 hf e52 rfl rfl rfl rfl rfl ?_;clear hf;refine (within_any _ _ _ _).mono ?_;rintro _ _ ⟨rfl,rfl⟩;intro _ hf;try rw [hin] at hf))
        (first | refine a_pickT hf rfl rfl rfl rfl ?_ | refine a_pickF hf rfl rfl rfl rfl ?_);clear hf;intro _ hf
        refine a_move hf rfl rfl rfl ?_;clear hf;intro _ hf
        (first | refine a_not hf rfl rfl rfl ?_ | refine a_move hf rfl rfl rfl ?_);clear hf;intro _ hf
        (first | refine a_not hf rfl rfl rfl ?_ | refine a_cmp hf rfl rfl rfl rfl rfl rfl rfl ?_);clear hf;intro _ hf
        (first | refine a_not hf rfl rfl rfl ?_ | refine a_move hf rfl rfl rfl ?_);clear hf;intro _ hf
        (first | refine a_not hf rfl rfl rfl ?_ | refine a_move hf rfl rfl rfl ?_);clear hf;intro _ hf
        (first | refine a_not hf rfl rfl rfl ?_ | refine a_field hf rfl rfl rfl rfl ?_);clear hf;intro _ hf
        (first | refine a_not hf rfl rfl rfl ?_ | refine a_load hf rfl rfl rfl (by exact y8) rfl ?_);clear hf;intro _ hf
        (first | refine a_not hf rfl rfl rfl ?_ | refine a_move hf rfl rfl rfl ?_);clear hf;intro _ hf
        (first | refine a_not hf rfl rfl rfl ?_ | refine a_ar hf rfl rfl rfl rfl (by (try dsimp only);omega) rfl ?_);clear hf;intro _ hf
        (first | (refine a_not hf rfl rfl rfl ?_;clear hf;intro _ hf) | (refine a_index1 hf rfl rfl rfl (j:=0) (by omega) (by omega) rfl ?_;clear hf;intro _ hf))
        (first | refine a_not hf rfl rfl rfl ?_ | refine a_load hf rfl rfl rfl (by exact q0) rfl ?_);clear hf;intro _ hf
        (first | refine a_not hf rfl rfl rfl ?_ | refine a_cmp hf rfl rfl rfl rfl rfl rfl rfl ?_);clear hf;intro _ hf
        (first | refine a_not hf rfl rfl rfl ?_ | refine a_pickT hf rfl rfl rfl rfl ?_ | refine a_pickF hf rfl rfl rfl rfl ?_);clear hf;intro _ hf
        (first | refine a_pickT hf rfl rfl rfl rfl ?_ | refine a_pickF hf rfl rfl rfl rfl ?_);clear hf;intro _ hf
        refine a_assign hf rfl rfl rfl ?_;clear hf;intro _ hf;refine wpList_nil ?_;simp only [Exit.then,Exit.inBlock];go_step;refine wp_region_lit ?_;refine a_ar hf rfl rfl rfl rfl (by (try dsimp only);omega) rfl ?_;clear hf;intro _ hf;refine a_move hf rfl rfl rfl ?_;clear hf;intro _ hf;refine wpList_nil ?_;simp only [Exit.then,Exit.inBlock];exact ⟨a.facts.length - (k + 1),by omega,k + 1,false,by omega,rfl,(by first | rfl | trivial),(((((((hf.nilOf.cons (hf.at_ 106 _ rfl)).cons (hf.at_ 105 _ rfl)).cons (hf.at_ 104 _ rfl)).cons (hf.at_ 8 _ rfl)).cons (hf.at_ 7 _ rfl)).cons (hf.at_ 6 _ rfl)).cons (hf.at_ 3 _ rfl)),⟨by rw [HE.out];rfl⟩⟩
      | true =>
      cases hin : inB x 1 1000 with
      | false =>
        refine wp_region_lit ?_;refine a_move hf rfl rfl rfl ?_;clear hf;intro _ hf;refine a_move hf rfl rfl rfl ?_;clear hf;intro _ hf
        (first | refine a_not hf rfl rfl rfl ?_ | refine a_move hf rfl rfl rfl ?_);clear hf;intro _ hf
        (first | (refine a_not hf rfl rfl rfl ?_;clear hf;intro _ hf) | (refine a_call3 hf e52 rfl rfl rfl rfl rfl ?_;clear hf;refine (within_any _ _ _ _).mono ?_;rintro _ _ ⟨rfl,rfl⟩;intro _ hf;try rw [hin] at hf))
        (first | refine a_pickT hf rfl rfl rfl rfl ?_ | refine a_pickF hf rfl rfl rfl rfl ?_);clear hf;intro _ hf
        refine a_move hf rfl rfl rfl ?_;clear hf;intro _ hf
        (first | refine a_not hf rfl rfl rfl ?_ | refine a_move hf rfl rfl rfl ?_);clear hf;intro _ hf
        (first | refine a_not hf rfl rfl rfl ?_ | refine a_cmp hf rfl rfl rfl rfl rfl rfl rfl ?_);clear hf;intro _ hf
        (first | refine a_not hf rfl rfl rfl ?_ | refine a_move hf rfl rfl rfl ?_);clear hf;intro _ hf
        (first | refine a_not hf rfl rfl rfl ?_ | refine a_move hf rfl rfl rfl ?_);clear hf;intro _ hf
        (first | refine a_not hf rfl rfl rfl ?_ | refine a_field hf rfl rfl rfl rfl ?_);clear hf;intro _ hf
        (first | refine a_not hf rfl rfl rfl ?_ | refine a_load hf rfl rfl rfl (by exact y8) rfl ?_);clear hf;intro _ hf
        (first | refine a_not hf rfl rfl rfl ?_ | refine a_move hf rfl rfl rfl ?_);clear hf;intro _ hf
        (first | refine a_not hf rfl rfl rfl ?_ | refine a_ar hf rfl rfl rfl rfl (by (try dsimp only);omega) rfl ?_);clear hf;intro _ hf
        (first | (refine a_not hf rfl rfl rfl ?_;clear hf;intro _ hf) | (refine a_index1 hf rfl rfl rfl (j:=0) (by omega) (by omega) rfl ?_;clear hf;intro _ hf))
        (first | refine a_not hf rfl rfl rfl ?_ | refine a_load hf rfl rfl rfl (by exact q0) rfl ?_);clear hf;intro _ hf
        (first | refine a_not hf rfl rfl rfl ?_ | refine a_cmp hf rfl rfl rfl rfl rfl rfl rfl ?_);clear hf;intro _ hf
        (first | refine a_not hf rfl rfl rfl ?_ | refine a_pickT hf rfl rfl rfl rfl ?_ | refine a_pickF hf rfl rfl rfl rfl ?_);clear hf;intro _ hf
        (first | refine a_pickT hf rfl rfl rfl rfl ?_ | refine a_pickF hf rfl rfl rfl rfl ?_);clear hf;intro _ hf
        refine a_assign hf rfl rfl rfl ?_;clear hf;intro _ hf;refine wpList_nil ?_;simp only [Exit.then,Exit.inBlock];go_step;refine wp_region_lit ?_;refine a_ar hf rfl rfl rfl rfl (by (try dsimp only);omega) rfl ?_;clear hf;intro _ hf;refine a_move hf rfl rfl rfl ?_;clear hf;intro _ hf;refine wpList_nil ?_;simp only [Exit.then,Exit.inBlock];exact ⟨a.facts.length - (k + 1),by omega,k + 1,false,by omega,rfl,(by first | rfl | trivial),(((((((hf.nilOf.cons (hf.at_ 106 _ rfl)).cons (hf.at_ 105 _ rfl)).cons (hf.at_ 104 _ rfl)).cons (hf.at_ 8 _ rfl)).cons (hf.at_ 7 _ rfl)).cons (hf.at_ 6 _ rfl)).cons (hf.at_ 3 _ rfl)),⟨by rw [HE.out,HX'.out,facts_bad hin];rfl⟩⟩
      | true =>
      by_cases hk0 : 0 < k
      · obtain ⟨y,hy⟩:=get_some (show k - 1 < a.facts.length by omega)
        obtain ⟨ad',had,_,q1⟩:=HF1.out (k - 1) y hy
        cases had
        have HY:=Aside.mk (show prev a.facts k = some y by unfold prev;rw [if_neg (by omega)];exact hy);clear hy
        by_cases hxy : y < x
        · refine wp_region_lit ?_
          refine a_move hf rfl rfl rfl ?_;clear hf;intro _ hf;refine a_move hf rfl rfl rfl ?_;clear hf;intro _ hf
          (first | refine a_not hf rfl rfl rfl ?_ | refine a_move hf rfl rfl rfl ?_);clear hf;intro _ hf
          (first | (refine a_not hf rfl rfl rfl ?_;clear hf;intro _ hf) | (refine a_call3 hf e52 rfl rfl rfl rfl rfl ?_;clear hf;refine (within_any _ _ _ _).mono ?_;rintro _ _ ⟨rfl,rfl⟩;intro _ hf;try rw [hin] at hf))
          (first | refine a_pickT hf rfl rfl rfl rfl ?_ | refine a_pickF hf rfl rfl rfl rfl ?_);clear hf;intro _ hf
          refine a_move hf rfl rfl rfl ?_;clear hf;intro _ hf
          (first | refine a_not hf rfl rfl rfl ?_ | refine a_move hf rfl rfl rfl ?_);clear hf;intro _ hf
          (first | refine a_not hf rfl rfl rfl ?_ | refine a_cmp (b:=false) hf rfl rfl rfl rfl rfl (by first | assumption | ((try dsimp only);simp only [bq1,bq2,bq3,bq4,bq5,bq6,bq7];omega)) rfl ?_);clear hf;intro _ hf
          (first | refine a_not hf rfl rfl rfl ?_ | refine a_move hf rfl rfl rfl ?_);clear hf;intro _ hf
          (first | refine a_not hf rfl rfl rfl ?_ | refine a_move hf rfl rfl rfl ?_);clear hf;intro _ hf
          (first | refine a_not hf rfl rfl rfl ?_ | refine a_field hf rfl rfl rfl rfl ?_);clear hf;intro _ hf
          (first | refine a_not hf rfl rfl rfl ?_ | refine a_load hf rfl rfl rfl (by exact y8) rfl ?_);clear hf;intro _ hf
          (first | refine a_not hf rfl rfl rfl ?_ | refine a_move hf rfl rfl rfl ?_);clear hf;intro _ hf
          (first | refine a_not hf rfl rfl rfl ?_ | refine a_ar hf rfl rfl rfl rfl (by (try dsimp only);omega) rfl ?_);clear hf;intro _ hf
          (first | (refine a_not hf rfl rfl rfl ?_;clear hf;intro _ hf) | (refine a_index1 hf rfl rfl rfl (j:=k - 1) (by omega) (by omega) rfl ?_;clear hf;intro _ hf))
          (first | refine a_not hf rfl rfl rfl ?_ | refine a_load hf rfl rfl rfl (by exact q1) rfl ?_);clear hf;intro _ hf
          (first | refine a_not hf rfl rfl rfl ?_ | refine a_cmp (b:=true) hf rfl rfl rfl rfl rfl (by first | assumption | ((try dsimp only);simp only [bq1,bq2,bq3,bq4,bq5,bq6,bq7];omega)) rfl ?_);clear hf;intro _ hf
          (first | refine a_not hf rfl rfl rfl ?_ | refine a_pickT hf rfl rfl rfl rfl ?_ | refine a_pickF hf rfl rfl rfl rfl ?_);clear hf;intro _ hf
          (first | refine a_pickT hf rfl rfl rfl rfl ?_ | refine a_pickF hf rfl rfl rfl rfl ?_);clear hf;intro _ hf
          refine a_assign hf rfl rfl rfl ?_;clear hf;intro _ hf;refine wpList_nil ?_;simp only [Exit.then,Exit.inBlock];go_step;refine wp_region_lit ?_;refine a_ar hf rfl rfl rfl rfl (by (try dsimp only);omega) rfl ?_;clear hf;intro _ hf;refine a_move hf rfl rfl rfl ?_;clear hf;intro _ hf;refine wpList_nil ?_;simp only [Exit.then,Exit.inBlock];exact ⟨a.facts.length - (k + 1),by omega,k + 1,true,by omega,rfl,(by first | rfl | trivial),(((((((hf.nilOf.cons (hf.at_ 106 _ rfl)).cons (hf.at_ 105 _ rfl)).cons (hf.at_ 104 _ rfl)).cons (hf.at_ 8 _ rfl)).cons (hf.at_ 7 _ rfl)).cons (hf.at_ 6 _ rfl)).cons (hf.at_ 3 _ rfl)),⟨by rw [HE.out,HX'.out,HY.out,facts_next hin hxy,HP'.out]⟩⟩
        · refine wp_region_lit ?_
          refine a_move hf rfl rfl rfl ?_;clear hf;intro _ hf;refine a_move hf rfl rfl rfl ?_;clear hf;intro _ hf
          (first | refine a_not hf rfl rfl rfl ?_ | refine a_move hf rfl rfl rfl ?_);clear hf;intro _ hf
          (first | (refine a_not hf rfl rfl rfl ?_;clear hf;intro _ hf) | (refine a_call3 hf e52 rfl rfl rfl rfl rfl ?_;clear hf;refine (within_any _ _ _ _).mono ?_;rintro _ _ ⟨rfl,rfl⟩;intro _ hf;try rw [hin] at hf))
          (first | refine a_pickT hf rfl rfl rfl rfl ?_ | refine a_pickF hf rfl rfl rfl rfl ?_);clear hf;intro _ hf
          refine a_move hf rfl rfl rfl ?_;clear hf;intro _ hf
          (first | refine a_not hf rfl rfl rfl ?_ | refine a_move hf rfl rfl rfl ?_);clear hf;intro _ hf
          (first | refine a_not hf rfl rfl rfl ?_ | refine a_cmp (b:=false) hf rfl rfl rfl rfl rfl (by first | assumption | ((try dsimp only);simp only [bq1,bq2,bq3,bq4,bq5,bq6,bq7];omega)) rfl ?_);clear hf;intro _ hf
          (first | refine a_not hf rfl rfl rfl ?_ | refine a_move hf rfl rfl rfl ?_);clear hf;intro _ hf
          (first | refine a_not hf rfl rfl rfl ?_ | refine a_move hf rfl rfl rfl ?_);clear hf;intro _ hf
          (first | refine a_not hf rfl rfl rfl ?_ | refine a_field hf rfl rfl rfl rfl ?_);clear hf;intro _ hf
          (first | refine a_not hf rfl rfl rfl ?_ | refine a_load hf rfl rfl rfl (by exact y8) rfl ?_);clear hf;intro _ hf
          (first | refine a_not hf rfl rfl rfl ?_ | refine a_move hf rfl rfl rfl ?_);clear hf;intro _ hf
          (first | refine a_not hf rfl rfl rfl ?_ | refine a_ar hf rfl rfl rfl rfl (by (try dsimp only);omega) rfl ?_);clear hf;intro _ hf
          (first | (refine a_not hf rfl rfl rfl ?_;clear hf;intro _ hf) | (refine a_index1 hf rfl rfl rfl (j:=k - 1) (by omega) (by omega) rfl ?_;clear hf;intro _ hf))
          (first | refine a_not hf rfl rfl rfl ?_ | refine a_load hf rfl rfl rfl (by exact q1) rfl ?_);clear hf;intro _ hf
          (first | refine a_not hf rfl rfl rfl ?_ | refine a_cmp (b:=false) hf rfl rfl rfl rfl rfl (by first | assumption | ((try dsimp only);simp only [bq1,bq2,bq3,bq4,bq5,bq6,bq7];omega)) rfl ?_);clear hf;intro _ hf
          (first | refine a_not hf rfl rfl rfl ?_ | refine a_pickT hf rfl rfl rfl rfl ?_ | refine a_pickF hf rfl rfl rfl rfl ?_);clear hf;intro _ hf
          (first | refine a_pickT hf rfl rfl rfl rfl ?_ | refine a_pickF hf rfl rfl rfl rfl ?_);clear hf;intro _ hf
          refine a_assign hf rfl rfl rfl ?_;clear hf;intro _ hf;refine wpList_nil ?_;simp only [Exit.then,Exit.inBlock];go_step;refine wp_region_lit ?_;refine a_ar hf rfl rfl rfl rfl (by (try dsimp only);omega) rfl ?_;clear hf;intro _ hf;refine a_move hf rfl rfl rfl ?_;clear hf;intro _ hf;refine wpList_nil ?_;simp only [Exit.then,Exit.inBlock];exact ⟨a.facts.length - (k + 1),by omega,k + 1,false,by omega,rfl,(by first | rfl | trivial),(((((((hf.nilOf.cons (hf.at_ 106 _ rfl)).cons (hf.at_ 105 _ rfl)).cons (hf.at_ 104 _ rfl)).cons (hf.at_ 8 _ rfl)).cons (hf.at_ 7 _ rfl)).cons (hf.at_ 6 _ rfl)).cons (hf.at_ 3 _ rfl)),⟨by rw [HE.out,HX'.out,HY.out,facts_stop (by omega)];rfl⟩⟩
      · have HY:=Aside.mk (show prev a.facts k = none by unfold prev;rw [if_pos (by omega)])
        refine wp_region_lit ?_;refine a_move hf rfl rfl rfl ?_;clear hf;intro _ hf;refine a_move hf rfl rfl rfl ?_;clear hf;intro _ hf
        (first | refine a_not hf rfl rfl rfl ?_ | refine a_move hf rfl rfl rfl ?_);clear hf;intro _ hf
        (first | (refine a_not hf rfl rfl rfl ?_;clear hf;intro _ hf) | (refine a_call3 hf e52 rfl rfl rfl rfl rfl ?_;clear hf;refine (within_any _ _ _ _).mono ?_;rintro _ _ ⟨rfl,rfl⟩;intro _ hf;try rw [hin] at hf))
        (first | refine a_pickT hf rfl rfl rfl rfl ?_ | refine a_pickF hf rfl rfl rfl rfl ?_);clear hf;intro _ hf
        refine a_move hf rfl rfl rfl ?_;clear hf;intro _ hf
        (first | refine a_not hf rfl rfl rfl ?_ | refine a_move hf rfl rfl rfl ?_);clear hf;intro _ hf
        (first | refine a_not hf rfl rfl rfl ?_ | refine a_cmp (b:=true) hf rfl rfl rfl rfl rfl (by first | assumption | ((try dsimp only);simp only [bq1,bq2,bq3,bq4,bq5,bq6,bq7];omega)) rfl ?_);clear hf;intro _ hf
        (first | refine a_not hf rfl rfl rfl ?_ | refine a_move hf rfl rfl rfl ?_);clear hf;intro _ hf
        (first | refine a_not hf rfl rfl rfl ?_ | refine a_move hf rfl rfl rfl ?_);clear hf;intro _ hf
        (first | refine a_not hf rfl rfl rfl ?_ | refine a_field hf rfl rfl rfl rfl ?_);clear hf;intro _ hf
        (first | refine a_not hf rfl rfl rfl ?_ | refine a_load hf rfl rfl rfl (by exact y8) rfl ?_);clear hf;intro _ hf
        (first | refine a_not hf rfl rfl rfl ?_ | refine a_move hf rfl rfl rfl ?_);clear hf;intro _ hf
        (first | refine a_not hf rfl rfl rfl ?_ | refine a_ar hf rfl rfl rfl rfl (by (try dsimp only);omega) rfl ?_);clear hf;intro _ hf
        (first | (refine a_not hf rfl rfl rfl ?_;clear hf;intro _ hf) | (refine a_index1 hf rfl rfl rfl (j:=0) (by omega) (by omega) rfl ?_;clear hf;intro _ hf))
        (first | refine a_not hf rfl rfl rfl ?_ | refine a_load hf rfl rfl rfl (by exact q0) rfl ?_);clear hf;intro _ hf
        (first | refine a_not hf rfl rfl rfl ?_ | refine a_cmp hf rfl rfl rfl rfl rfl rfl rfl ?_);clear hf;intro _ hf
        (first | refine a_not hf rfl rfl rfl ?_ | refine a_pickT hf rfl rfl rfl rfl ?_ | refine a_pickF hf rfl rfl rfl rfl ?_);clear hf;intro _ hf
        (first | refine a_pickT hf rfl rfl rfl rfl ?_ | refine a_pickF hf rfl rfl rfl rfl ?_);clear hf;intro _ hf
        refine a_assign hf rfl rfl rfl ?_;clear hf;intro _ hf;refine wpList_nil ?_;simp only [Exit.then,Exit.inBlock];go_step;refine wp_region_lit ?_;refine a_ar hf rfl rfl rfl rfl (by (try dsimp only);omega) rfl ?_;clear hf;intro _ hf;refine a_move hf rfl rfl rfl ?_;clear hf;intro _ hf;refine wpList_nil ?_;simp only [Exit.then,Exit.inBlock];exact ⟨a.facts.length - (k + 1),by omega,k + 1,true,by omega,rfl,(by first | rfl | trivial),(((((((hf.nilOf.cons (hf.at_ 106 _ rfl)).cons (hf.at_ 105 _ rfl)).cons (hf.at_ 104 _ rfl)).cons (hf.at_ 8 _ rfl)).cons (hf.at_ 7 _ rfl)).cons (hf.at_ 6 _ rfl)).cons (hf.at_ 3 _ rfl)),⟨by rw [HE.out,HX'.out,HY.out,facts_first hin,HP'.out]⟩⟩
    · have hke : k = a.facts.length:=by omega
      have HFb:=Aside.mk (show shFacts a = b by rw [HE.out,hke,List.drop_length,show factsFrom (prev a.facts a.facts.length) [] = true by cases prev a.facts a.facts.length <;> rfl,Bool.and_true]);refine wp_seq_k ?_;intro _ _;refine wp_region_lit ?_;refine a_cmp (b:=false) hf rfl rfl rfl rfl rfl (by first | assumption | ((try dsimp only);simp only [bq1,bq2,bq3,bq4,bq5,bq6,bq7];omega)) rfl ?_;clear hf;intro _ hf;refine wpList_nil ?_;simp only [Exit.then,Exit.inBlock];go_step;refine wp_seq_k ?_;intro _ _;refine c_condF hf rfl ?_;refine wp_exit ?_;simp only [Exit.then,Exit.inBlock,↓reduceIte]
      repeat go_step
      refine Met.intro (hJ _ _ ⟨(((hf.nilOf.cons (d:=8) (by rw [HOA.out];exact hf.at_ 8 _ rfl)).cons (d:=7) (by rw [HFb.out];exact hf.at_ 7 _ rfl)).cons (hf.at_ 6 _ rfl)).cons (hf.at_ 3 _ rfl),by simp [shKind,k1,k2,k3,k4,k5,k6],hB1,hA1,hX1⟩)
end Go.Proofs.Ytpadgcomncljmaa.A
/- Whether an act of kind 3 has the shape of its kind. -/
namespace Go.Proofs.Ytpadgcomncljmaa.A
open Go.RowKit

set_option maxHeartbeats 4000000 in
set_option maxRecDepth 100000 in
theorem shaped_3 (g : Nat) (cars : Int) (a : ActL) (A8 : Option Addr) (c8 : Nat) (w : World) (hg : w.cell? ⟨g, 0, none⟩ = some (.int .i64 cars)) (hf8 : RI Any w A8 a.facts) (hfl : a.facts.length ≤ 1000000) (hk0 : a.kind = 3) :
    Calls Try.prog 62 #[.pointer (some ⟨g,0,none⟩),.agg #[.int .i64 a.kind,.int .i64 a.minute,.int .i64 a.paper,.int .i64 a.case_,.int .i64 a.by_,.int .i64 a.against,.int .i64 a.art,.int .i64 a.at_,.slice A8 a.facts.length c8,.int .i64 a.paid,.bool a.up,.int .i64 a.pen]] w fun r w' => r = .returned (.bool (shapedB cars a)) ∧ Below w.heap.size w w':=by
  have hgl:=lt_of_cell hg;have HKK:=Aside.mk hk0;clear hk0;have HG:=Aside.mk hg;have HF:=Aside.mk hf8;clear hg hf8
  go_enter Try.func62,Try.ntmps62
  go_upto_block 0 with (go_at_call 52;refine (within_any _ _ _ _).mono ?_;rintro e w' ⟨rfl,rfl⟩)
  refine wp_cut (ShR w cars a A8 c8) ?_ ?_
  · intro fr wc hR
    go_step;refine wp_seq_k ?_;intro _ _
    obtain ⟨hf,hk,hb,ha,hx⟩:=hR
    have HK:=Aside.mk hk;have HB:=Aside.mk hb;have y0 : wc.cell? ⟨w.heap.size + 1,0,none⟩ = some (.int .i64 a.kind):=box43 ha 0 _ rfl;have x0 : wc.cell? ⟨w.heap.size + 2,0,none⟩ = some (.int .i64 (shapeX a).kind):=box43 hx 0 _ rfl;have y1 : wc.cell? ⟨w.heap.size + 1,1,none⟩ = some (.int .i64 a.minute):=box43 ha 1 _ rfl;have x1 : wc.cell? ⟨w.heap.size + 2,1,none⟩ = some (.int .i64 (shapeX a).minute):=box43 hx 1 _ rfl;have y2 : wc.cell? ⟨w.heap.size + 1,2,none⟩ = some (.int .i64 a.paper):=box43 ha 2 _ rfl;have x2 : wc.cell? ⟨w.heap.size + 2,2,none⟩ = some (.int .i64 (shapeX a).paper):=box43 hx 2 _ rfl;have y3 : wc.cell? ⟨w.heap.size + 1,3,none⟩ = some (.int .i64 a.case_):=box43 ha 3 _ rfl;have x3 : wc.cell? ⟨w.heap.size + 2,3,none⟩ = some (.int .i64 (shapeX a).case_):=box43 hx 3 _ rfl;have y4 : wc.cell? ⟨w.heap.size + 1,4,none⟩ = some (.int .i64 a.by_):=box43 ha 4 _ rfl;have x4 : wc.cell? ⟨w.heap.size + 2,4,none⟩ = some (.int .i64 (shapeX a).by_):=box43 hx 4 _ rfl;have y5 : wc.cell? ⟨w.heap.size + 1,5,none⟩ = some (.int .i64 a.against):=box43 ha 5 _ rfl;have x5 : wc.cell? ⟨w.heap.size + 2,5,none⟩ = some (.int .i64 (shapeX a).against):=box43 hx 5 _ rfl;have y6 : wc.cell? ⟨w.heap.size + 1,6,none⟩ = some (.int .i64 a.art):=box43 ha 6 _ rfl;have x6 : wc.cell? ⟨w.heap.size + 2,6,none⟩ = some (.int .i64 (shapeX a).art):=box43 hx 6 _ rfl;have y7 : wc.cell? ⟨w.heap.size + 1,7,none⟩ = some (.int .i64 a.at_):=box43 ha 7 _ rfl;have x7 : wc.cell? ⟨w.heap.size + 2,7,none⟩ = some (.int .i64 (shapeX a).at_):=box43 hx 7 _ rfl;have y9 : wc.cell? ⟨w.heap.size + 1,9,none⟩ = some (.int .i64 a.paid):=box43 ha 9 _ rfl;have x9 : wc.cell? ⟨w.heap.size + 2,9,none⟩ = some (.int .i64 (shapeX a).paid):=box43 hx 9 _ rfl;have y10 : wc.cell? ⟨w.heap.size + 1,10,none⟩ = some (.bool a.up):=box43 ha 10 _ rfl;have x10 : wc.cell? ⟨w.heap.size + 2,10,none⟩ = some (.bool (shapeX a).up):=box43 hx 10 _ rfl;have y11 : wc.cell? ⟨w.heap.size + 1,11,none⟩ = some (.int .i64 a.pen):=box43 ha 11 _ rfl;have x11 : wc.cell? ⟨w.heap.size + 2,11,none⟩ = some (.int .i64 (shapeX a).pen):=box43 hx 11 _ rfl;clear hk hb ha hx;refine wp_region_lit ?_;refine a_move hf rfl rfl rfl ?_;clear hf;intro _ hf;refine group_and 202 7 203 1 _ _ rfl (by omega) (by omega) (by rw [hf.size];decide) (hf.at_ 202 _ rfl) (hf.at_ 7 _ rfl) ?_;intro _ L E;replace hf:=(hf.low L rfl).cons (d:=205) E;clear L E;refine group_cmp 205 206 4 0 _ (a.kind == (shapeX a).kind) 41 (.pointer (some ⟨w.heap.size + 1,0,none⟩)) (.pointer (some ⟨w.heap.size + 2,0,none⟩)) (.int .i64 a.kind) (.int .i64 (shapeX a).kind) rfl (by omega) (by omega) (by rw [hf.size];decide) (hf.at_ 205 _ rfl) (fun ev h => by rw [hf.at_ 3 _ rfl] at h;simp [go_sem,h]) (fun ev h => by simp [go_sem,h,y0]) (fun ev h => by rw [hf.at_ 6 _ rfl] at h;simp [go_sem,h]) (fun ev h => by simp [go_sem,h,x0]) (fun ev h h' => by simp [go_sem,h,h']) ?_
    intro _ L E;replace hf:=(((hf.nilOf.cons (hf.at_ 3 _ rfl)).cons (hf.at_ 6 _ rfl)).low L rfl).cons (d:=212) E;clear L E;refine group_cmp 212 213 11 1 _ (a.minute == (shapeX a).minute) 3 (.pointer (some ⟨w.heap.size + 1,1,none⟩)) (.pointer (some ⟨w.heap.size + 2,1,none⟩)) (.int .i64 a.minute) (.int .i64 (shapeX a).minute) rfl (by omega) (by omega) (by rw [hf.size];decide) (hf.at_ 212 _ rfl) (fun ev h => by rw [hf.at_ 3 _ rfl] at h;simp [go_sem,h]) (fun ev h => by simp [go_sem,h,y1]) (fun ev h => by rw [hf.at_ 6 _ rfl] at h;simp [go_sem,h]) (fun ev h => by simp [go_sem,h,x1]) (fun ev h h' => by simp [go_sem,h,h']) ?_;intro _ L E;replace hf:=(((hf.nilOf.cons (hf.at_ 3 _ rfl)).cons (hf.at_ 6 _ rfl)).low L rfl).cons (d:=219) E;clear L E;refine group_cmp 219 220 18 2 _ (a.paper == (shapeX a).paper) 3 (.pointer (some ⟨w.heap.size + 1,2,none⟩)) (.pointer (some ⟨w.heap.size + 2,2,none⟩)) (.int .i64 a.paper) (.int .i64 (shapeX a).paper) rfl (by omega) (by omega) (by rw [hf.size];decide) (hf.at_ 219 _ rfl) (fun ev h => by rw [hf.at_ 3 _ rfl] at h;simp [go_sem,h]) (fun ev h => by simp [go_sem,h,y2]) (fun ev h => by rw [hf.at_ 6 _ rfl] at h;simp [go_sem,h]) (fun ev h => by simp [go_sem,h,x2]) (fun ev h h' => by simp [go_sem,h,h']) ?_;intro _ L E;replace hf:=(((hf.nilOf.cons (hf.at_ 3 _ rfl)).cons (hf.at_ 6 _ rfl)).low L rfl).cons (d:=226) E;clear L E;refine group_cmp 226 227 25 3 _ (a.case_ == (shapeX a).case_) 3 (.pointer (some ⟨w.heap.size + 1,3,none⟩)) (.pointer (some ⟨w.heap.size + 2,3,none⟩)) (.int .i64 a.case_) (.int .i64 (shapeX a).case_) rfl (by omega) (by omega) (by rw [hf.size];decide) (hf.at_ 226 _ rfl) (fun ev h => by rw [hf.at_ 3 _ rfl] at h;simp [go_sem,h]) (fun ev h => by simp [go_sem,h,y3]) (fun ev h => by rw [hf.at_ 6 _ rfl] at h;simp [go_sem,h]) (fun ev h => by simp [go_sem,h,x3]) (fun ev h h' => by simp [go_sem,h,h']) ?_;intro _ L E;replace hf:=(((hf.nilOf.cons (hf.at_ 3 _ rfl)).cons (hf.at_ 6 _ rfl)).low L rfl).cons (d:=233) E;clear L E;refine group_cmp 233 234 32 4 _ (a.by_ == (shapeX a).by_) 3 (.pointer (some ⟨w.heap.size + 1,4,none⟩)) (.pointer (some ⟨w.heap.size + 2,4,none⟩)) (.int .i64 a.by_) (.int .i64 (shapeX a).by_) rfl (by omega) (by omega) (by rw [hf.size];decide) (hf.at_ 233 _ rfl) (fun ev h => by rw [hf.at_ 3 _ rfl] at h;simp [go_sem,h]) (fun ev h => by simp [go_sem,h,y4]) (fun ev h => by rw [hf.at_ 6 _ rfl] at h;simp [go_sem,h]) (fun ev h => by simp [go_sem,h,x4]) (fun ev h h' => by simp [go_sem,h,h']) ?_;intro _ L E;replace hf:=(((hf.nilOf.cons (hf.at_ 3 _ rfl)).cons (hf.at_ 6 _ rfl)).low L rfl).cons (d:=240) E;clear L E;refine group_cmp 240 241 39 5 _ (a.against == (shapeX a).against) 3 (.pointer (some ⟨w.heap.size + 1,5,none⟩)) (.pointer (some ⟨w.heap.size + 2,5,none⟩)) (.int .i64 a.against) (.int .i64 (shapeX a).against) rfl (by omega) (by omega) (by rw [hf.size];decide) (hf.at_ 240 _ rfl) (fun ev h => by rw [hf.at_ 3 _ rfl] at h;simp [go_sem,h]) (fun ev h => by simp [go_sem,h,y5]) (fun ev h => by rw [hf.at_ 6 _ rfl] at h;simp [go_sem,h]) (fun ev h => by simp [go_sem,h,x5]) (fun ev h h' => by simp [go_sem,h,h']) ?_
    intro _ L E;replace hf:=(((hf.nilOf.cons (hf.at_ 3 _ rfl)).cons (hf.at_ 6 _ rfl)).low L rfl).cons (d:=247) E;clear L E;refine group_cmp 247 248 46 6 _ (a.art == (shapeX a).art) 3 (.pointer (some ⟨w.heap.size + 1,6,none⟩)) (.pointer (some ⟨w.heap.size + 2,6,none⟩)) (.int .i64 a.art) (.int .i64 (shapeX a).art) rfl (by omega) (by omega) (by rw [hf.size];decide) (hf.at_ 247 _ rfl) (fun ev h => by rw [hf.at_ 3 _ rfl] at h;simp [go_sem,h]) (fun ev h => by simp [go_sem,h,y6]) (fun ev h => by rw [hf.at_ 6 _ rfl] at h;simp [go_sem,h]) (fun ev h => by simp [go_sem,h,x6]) (fun ev h h' => by simp [go_sem,h,h']) ?_;intro _ L E;replace hf:=(((hf.nilOf.cons (hf.at_ 3 _ rfl)).cons (hf.at_ 6 _ rfl)).low L rfl).cons (d:=254) E;clear L E;refine group_cmp 254 255 53 7 _ (a.at_ == (shapeX a).at_) 3 (.pointer (some ⟨w.heap.size + 1,7,none⟩)) (.pointer (some ⟨w.heap.size + 2,7,none⟩)) (.int .i64 a.at_) (.int .i64 (shapeX a).at_) rfl (by omega) (by omega) (by rw [hf.size];decide) (hf.at_ 254 _ rfl) (fun ev h => by rw [hf.at_ 3 _ rfl] at h;simp [go_sem,h]) (fun ev h => by simp [go_sem,h,y7]) (fun ev h => by rw [hf.at_ 6 _ rfl] at h;simp [go_sem,h]) (fun ev h => by simp [go_sem,h,x7]) (fun ev h h' => by simp [go_sem,h,h']) ?_;intro _ L E;replace hf:=(((hf.nilOf.cons (hf.at_ 3 _ rfl)).cons (hf.at_ 6 _ rfl)).low L rfl).cons (d:=261) E;clear L E;refine group_cmp 261 262 60 9 _ (a.paid == (shapeX a).paid) 3 (.pointer (some ⟨w.heap.size + 1,9,none⟩)) (.pointer (some ⟨w.heap.size + 2,9,none⟩)) (.int .i64 a.paid) (.int .i64 (shapeX a).paid) rfl (by omega) (by omega) (by rw [hf.size];decide) (hf.at_ 261 _ rfl) (fun ev h => by rw [hf.at_ 3 _ rfl] at h;simp [go_sem,h]) (fun ev h => by simp [go_sem,h,y9]) (fun ev h => by rw [hf.at_ 6 _ rfl] at h;simp [go_sem,h]) (fun ev h => by simp [go_sem,h,x9]) (fun ev h h' => by simp [go_sem,h,h']) ?_;intro _ L E;replace hf:=(((hf.nilOf.cons (hf.at_ 3 _ rfl)).cons (hf.at_ 6 _ rfl)).low L rfl).cons (d:=268) E;clear L E;refine group_cmp 268 269 67 10 _ (a.up == (shapeX a).up) 4 (.pointer (some ⟨w.heap.size + 1,10,none⟩)) (.pointer (some ⟨w.heap.size + 2,10,none⟩)) (.bool a.up) (.bool (shapeX a).up) rfl (by omega) (by omega) (by rw [hf.size];decide) (hf.at_ 268 _ rfl) (fun ev h => by rw [hf.at_ 3 _ rfl] at h;simp [go_sem,h]) (fun ev h => by simp [go_sem,h,y10]) (fun ev h => by rw [hf.at_ 6 _ rfl] at h;simp [go_sem,h]) (fun ev h => by simp [go_sem,h,x10]) (fun ev h h' => by simp [go_sem,h,h']) ?_;intro _ L E;replace hf:=(((hf.nilOf.cons (hf.at_ 3 _ rfl)).cons (hf.at_ 6 _ rfl)).low L rfl).cons (d:=275) E;clear L E;refine group_cmp 275 276 74 11 _ (a.pen == (shapeX a).pen) 3 (.pointer (some ⟨w.heap.size + 1,11,none⟩)) (.pointer (some ⟨w.heap.size + 2,11,none⟩)) (.int .i64 a.pen) (.int .i64 (shapeX a).pen) rfl (by omega) (by omega) (by rw [hf.size];decide) (hf.at_ 275 _ rfl) (fun ev h => by rw [hf.at_ 3 _ rfl] at h;simp [go_sem,h]) (fun ev h => by simp [go_sem,h,y11]) (fun ev h => by rw [hf.at_ 6 _ rfl] at h;simp [go_sem,h]) (fun ev h => by simp [go_sem,h,x11]) (fun ev h h' => by simp [go_sem,h,h']) ?_
    intro _ L E;replace hf:=(((hf.nilOf.cons (hf.at_ 3 _ rfl)).cons (hf.at_ 6 _ rfl)).low L rfl).cons (d:=282) E;clear L E;refine a_assign hf rfl rfl rfl ?_;clear hf;intro _ hf;refine wpList_nil ?_;simp only [Exit.then]
    repeat (first | go_step)
    refine c_ret hf rfl rfl ⟨ret_eq ?_,HB.out⟩
    congr 1
    rw [shapedB,HK.out];simp only [sameRest,Bool.and_assoc,Bool.true_and]
  · intro J K' hJ hK'
    have hA : (((w.alloc (.cells #[.pointer (some ⟨g,0,none⟩)] 37)).alloc (.cells #[.int .i64 a.kind,.int .i64 a.minute,.int .i64 a.paper,.int .i64 a.case_,.int .i64 a.by_,.int .i64 a.against,.int .i64 a.art,.int .i64 a.at_,.slice A8 a.facts.length c8,.int .i64 a.paid,.bool a.up,.int .i64 a.pen] 43)).alloc (.cells #[.int .i64 a.kind,.int .i64 a.minute,.int .i64 0,.int .i64 0,.int .i64 0,.int .i64 0,.int .i64 0,.int .i64 0,.slice none 0 0,.int .i64 0,.bool false,.int .i64 0] 43)).heap[w.heap.size + 1]? = some (.cells #[.int .i64 a.kind,.int .i64 a.minute,.int .i64 a.paper,.int .i64 a.case_,.int .i64 a.by_,.int .i64 a.against,.int .i64 a.art,.int .i64 a.at_,.slice A8 a.facts.length c8,.int .i64 a.paid,.bool a.up,.int .i64 a.pen] 43 (0,0)):=by
      rw [Below.heap_alloc _ _ _ (by simp)];exact new_at (by simp)
    have hX : (((w.alloc (.cells #[.pointer (some ⟨g,0,none⟩)] 37)).alloc (.cells #[.int .i64 a.kind,.int .i64 a.minute,.int .i64 a.paper,.int .i64 a.case_,.int .i64 a.by_,.int .i64 a.against,.int .i64 a.art,.int .i64 a.at_,.slice A8 a.facts.length c8,.int .i64 a.paid,.bool a.up,.int .i64 a.pen] 43)).alloc (.cells #[.int .i64 a.kind,.int .i64 a.minute,.int .i64 0,.int .i64 0,.int .i64 0,.int .i64 0,.int .i64 0,.int .i64 0,.slice none 0 0,.int .i64 0,.bool false,.int .i64 0] 43)).heap[w.heap.size + 2]? = some (.cells #[.int .i64 a.kind,.int .i64 a.minute,.int .i64 0,.int .i64 0,.int .i64 0,.int .i64 0,.int .i64 0,.int .i64 0,.slice none 0 0,.int .i64 0,.bool false,.int .i64 0] 43 (0,0)):=new_at (by simp)
    have hP : (((w.alloc (.cells #[.pointer (some ⟨g,0,none⟩)] 37)).alloc (.cells #[.int .i64 a.kind,.int .i64 a.minute,.int .i64 a.paper,.int .i64 a.case_,.int .i64 a.by_,.int .i64 a.against,.int .i64 a.art,.int .i64 a.at_,.slice A8 a.facts.length c8,.int .i64 a.paid,.bool a.up,.int .i64 a.pen] 43)).alloc (.cells #[.int .i64 a.kind,.int .i64 a.minute,.int .i64 0,.int .i64 0,.int .i64 0,.int .i64 0,.int .i64 0,.int .i64 0,.slice none 0 0,.int .i64 0,.bool false,.int .i64 0] 43)).cell? ⟨w.heap.size,0,none⟩ = some (.pointer (some ⟨g,0,none⟩)):=by
      refine cell_alloc (cell_alloc ?_ _) _;have:=heap_alloc_new w (.cells #[.pointer (some ⟨g,0,none⟩)] 37)
      unfold World.cell?
      simp only [this]
      rfl
    have hG : (((w.alloc (.cells #[.pointer (some ⟨g,0,none⟩)] 37)).alloc (.cells #[.int .i64 a.kind,.int .i64 a.minute,.int .i64 a.paper,.int .i64 a.case_,.int .i64 a.by_,.int .i64 a.against,.int .i64 a.art,.int .i64 a.at_,.slice A8 a.facts.length c8,.int .i64 a.paid,.bool a.up,.int .i64 a.pen] 43)).alloc (.cells #[.int .i64 a.kind,.int .i64 a.minute,.int .i64 0,.int .i64 0,.int .i64 0,.int .i64 0,.int .i64 0,.int .i64 0,.slice none 0 0,.int .i64 0,.bool false,.int .i64 0] 43)).cell? ⟨g,0,none⟩ = some (.int .i64 cars):=cell_alloc (cell_alloc (cell_alloc HG.out _) _) _;have hBel : Below w.heap.size w (((w.alloc (.cells #[.pointer (some ⟨g,0,none⟩)] 37)).alloc (.cells #[.int .i64 a.kind,.int .i64 a.minute,.int .i64 a.paper,.int .i64 a.case_,.int .i64 a.by_,.int .i64 a.against,.int .i64 a.art,.int .i64 a.at_,.slice A8 a.facts.length c8,.int .i64 a.paid,.bool a.up,.int .i64 a.pen] 43)).alloc (.cells #[.int .i64 a.kind,.int .i64 a.minute,.int .i64 0,.int .i64 0,.int .i64 0,.int .i64 0,.int .i64 0,.int .i64 0,.slice none 0 0,.int .i64 0,.bool false,.int .i64 0] 43)):=bel_alloc (bel_alloc (bel_alloc (Below.refl _ w) _) _) _;have hSz : (((w.alloc (.cells #[.pointer (some ⟨g,0,none⟩)] 37)).alloc (.cells #[.int .i64 a.kind,.int .i64 a.minute,.int .i64 a.paper,.int .i64 a.case_,.int .i64 a.by_,.int .i64 a.against,.int .i64 a.art,.int .i64 a.at_,.slice A8 a.facts.length c8,.int .i64 a.paid,.bool a.up,.int .i64 a.pen] 43)).alloc (.cells #[.int .i64 a.kind,.int .i64 a.minute,.int .i64 0,.int .i64 0,.int .i64 0,.int .i64 0,.int .i64 0,.int .i64 0,.slice none 0 0,.int .i64 0,.bool false,.int .i64 0] 43)).heap.size = w.heap.size + 3:=by simp
    obtain ⟨W,hW⟩ : ∃ W,W = (((w.alloc (.cells #[.pointer (some ⟨g,0,none⟩)] 37)).alloc (.cells #[.int .i64 a.kind,.int .i64 a.minute,.int .i64 a.paper,.int .i64 a.case_,.int .i64 a.by_,.int .i64 a.against,.int .i64 a.art,.int .i64 a.at_,.slice A8 a.facts.length c8,.int .i64 a.paid,.bool a.up,.int .i64 a.pen] 43)).alloc (.cells #[.int .i64 a.kind,.int .i64 a.minute,.int .i64 0,.int .i64 0,.int .i64 0,.int .i64 0,.int .i64 0,.int .i64 0,.slice none 0 0,.int .i64 0,.bool false,.int .i64 0] 43)):=⟨_,rfl⟩
    rw [← hW] at hA hX hP hG hBel hSz ⊢;clear hW;have hk:=HKK.out
    -- kind 3
    have k1 : (a.kind == 1) = false:=by simp [hk]
    have k2 : (a.kind == 2) = false:=by simp [hk]
    have k3 : (a.kind == 3) = true:=by simp [hk]
    have k5 : (a.kind == 5) = false:=by simp [hk]
    have k4 : (a.kind == 4) = false:=by simp [hk]
    have k6 : (a.kind == 6) = false:=by simp [hk]
    have y0 : W.cell? ⟨w.heap.size + 1,0,none⟩ = some (.int .i64 a.kind):=box43 hA 0 _ rfl;have y3 : W.cell? ⟨w.heap.size + 1,3,none⟩ = some (.int .i64 a.case_):=box43 hA 3 _ rfl;have x3 : W.cell? ⟨w.heap.size + 2,3,none⟩ = some (.int .i64 0):=box43 hX 3 _ rfl;have z3 : W.frozen? ⟨w.heap.size + 2,3,none⟩ = false:=by simp [World.frozen?,hX]
    have y10 : W.cell? ⟨w.heap.size + 1,10,none⟩ = some (.bool a.up):=box43 hA 10 _ rfl;have x10 : W.cell? ⟨w.heap.size + 2,10,none⟩ = some (.bool false):=box43 hX 10 _ rfl;have z10 : W.frozen? ⟨w.heap.size + 2,10,none⟩ = false:=by simp [World.frozen?,hX]
    have y11 : W.cell? ⟨w.heap.size + 1,11,none⟩ = some (.int .i64 a.pen):=box43 hA 11 _ rfl;have x11 : W.cell? ⟨w.heap.size + 2,11,none⟩ = some (.int .i64 0):=box43 hX 11 _ rfl;have z11 : W.frozen? ⟨w.heap.size + 2,11,none⟩ = false:=by simp [World.frozen?,hX]
    have HX:=Aside.mk hX;have HA:=Aside.mk hA;have HP:=Aside.mk hP;have HG1:=Aside.mk hG;have HBel:=Aside.mk hBel;have HSz:=Aside.mk hSz;clear hX hA hP hG hBel hSz
    go_upto_region 21 with fail
    go_region
    simp only [Exit.then];go_step;refine wp_abs (n:=283) (ds:=[]) (l:=[(3,.pointer (some ⟨w.heap.size + 1,0,none⟩)),(5,.func (.func 95) #[] #[.pointer (some ⟨w.heap.size,0,none⟩)]),(6,.pointer (some ⟨w.heap.size + 2,0,none⟩)),(7,.bool ((a.facts.length : Int) == 0)),(8,.bool (inB a.minute 0 10000000))]) ?_ ?_
    · refine (((((Has.nil ?_ ?_).cons ?_).cons ?_).cons ?_).cons ?_).cons ?_
      all_goals first | rfl | (simp [Act.eval];done)
    intro _ hf;have hM : Mod (fun k => k = w.heap.size + 2) W (World.drew (World.setCell (World.setCell (World.setCell (W) ⟨w.heap.size + 2,3,none⟩ (.int .i64 a.case_)) ⟨w.heap.size + 2,10,none⟩ (.bool a.up)) ⟨w.heap.size + 2,11,none⟩ (.int .i64 a.pen))):=((((Mod.refl (F:=fun k => k = w.heap.size + 2)).set_ (p:=⟨w.heap.size + 2,3,none⟩) (.inl rfl) _).set_ (p:=⟨w.heap.size + 2,10,none⟩) (.inl rfl) _).set_ (p:=⟨w.heap.size + 2,11,none⟩) (.inl rfl) _).drew
    have hX1 : (World.drew (World.setCell (World.setCell (World.setCell (W) ⟨w.heap.size + 2,3,none⟩ (.int .i64 a.case_)) ⟨w.heap.size + 2,10,none⟩ (.bool a.up)) ⟨w.heap.size + 2,11,none⟩ (.int .i64 a.pen))).heap[w.heap.size + 2]? = some (.cells #[.int .i64 (shapeX a).kind,.int .i64 (shapeX a).minute,.int .i64 (shapeX a).paper,.int .i64 (shapeX a).case_,.int .i64 (shapeX a).by_,.int .i64 (shapeX a).against,.int .i64 (shapeX a).art,.int .i64 (shapeX a).at_,.slice none 0 0,.int .i64 (shapeX a).paid,.bool (shapeX a).up,.int .i64 (shapeX a).pen] 43 (0,0)):=by
      have:=(blk_set (blk_set (blk_set HX.out 3 (.int .i64 a.case_)) 10 (.bool a.up)) 11 (.int .i64 a.pen))
      change (World.setCell (World.setCell (World.setCell (W) ⟨w.heap.size + 2,3,none⟩ (.int .i64 a.case_)) ⟨w.heap.size + 2,10,none⟩ (.bool a.up)) ⟨w.heap.size + 2,11,none⟩ (.int .i64 a.pen)).heap[w.heap.size + 2]? = _
      simpa [shapeX,zeroAct,k1,k2,k3,k4,k5,k6] using this
    generalize hW1 : World.drew (World.setCell (World.setCell (World.setCell (W) ⟨w.heap.size + 2,3,none⟩ (.int .i64 a.case_)) ⟨w.heap.size + 2,10,none⟩ (.bool a.up)) ⟨w.heap.size + 2,11,none⟩ (.int .i64 a.pen)) = W1 at hM hX1 ⊢
    clear hW1;have hA1:=(hM.block (w.heap.size + 1) (by have:=HSz.out;omega) (by omega)).trans HA.out;have hP1 : W1.cell? ⟨w.heap.size,0,none⟩ = some (.pointer (some ⟨g,0,none⟩)):=(World.cell?_of_block (hM.block w.heap.size (by have:=HSz.out;omega) (by omega))).trans HP.out;have hG1 : W1.cell? ⟨g,0,none⟩ = some (.int .i64 cars):=(World.cell?_of_block (hM.block g (by have:=HSz.out;omega) (by omega))).trans HG1.out;have hB1:=bel_mod HBel.out hM (by intro k hk;omega);clear y0 y3 x3 z3 y10 x10 z10 y11 x11 z11;have y1 : W1.cell? ⟨w.heap.size + 1,1,none⟩ = some (.int .i64 a.minute):=box43 hA1 1 _ rfl;have y3 : W1.cell? ⟨w.heap.size + 1,3,none⟩ = some (.int .i64 a.case_):=box43 hA1 3 _ rfl;have y11 : W1.cell? ⟨w.heap.size + 1,11,none⟩ = some (.int .i64 a.pen):=box43 hA1 11 _ rfl;refine wp_region_lit ?_;refine a_move hf rfl rfl rfl ?_;clear hf;intro _ hf;refine group_ge 143 144 1 _ (decide (0 ≤ a.case_)) 3 3 (.int .i64 0) (.pointer (some ⟨w.heap.size + 1,3,none⟩)) (.int .i64 a.case_) rfl (by omega) (by omega) (by rw [hf.size];decide) (hf.at_ 143 _ rfl) (fun ev h => by rw [hf.at_ 3 _ rfl] at h;simp [go_sem,h]) (fun ev h => by simp [go_sem,h,y3]) (fun ev h c1 => by simp [go_sem,h,c1]) ?_;intro _ L E;replace hf:=(hf.low L rfl).cons (d:=148) E;clear L E;refine group_in 148 149 6 _ (inB a.pen 0 36000000) 11 3 (.int .i64 0) (.int .i64 36000000) _ (.pointer (some ⟨w.heap.size + 1,11,none⟩)) (.int .i64 a.pen) rfl (by omega) (by omega) (by rw [hf.size];decide) (hf.at_ 148 _ rfl) (fun ev h => by rw [hf.at_ 3 _ rfl] at h;simp [go_sem,h]) (fun ev h => by simp [go_sem,h,y11]) (fun ev h c1 c2 c3 => by simp [go_sem,h,c1,c2,c3,e52 _ _]) (within_any _ _ _ _) ?_;intro _ L E;replace hf:=(hf.low L rfl).cons (d:=153) E;clear L E;refine a_assign hf rfl rfl rfl ?_;clear hf;intro _ hf;refine wpList_nil ?_;have HO : shOk cars a = (inB a.minute 0 10000000 && decide (0 ≤ a.case_) && inB a.pen 0 36000000):=by simp [shOk,shMin,k1,k2,k3,k4,k5,k6]
    have HF' : shFacts a = ((a.facts.length : Int) == 0):=by rw [Bool.eq_iff_iff];simp [shFacts,k2]
    simp only [Exit.then,Exit.inBlock]
    repeat go_step
    refine Met.intro (hJ _ _ ⟨(((hf.nilOf.cons (d:=8) (by rw [HO];exact hf.at_ 8 _ rfl)).cons (d:=7) (by rw [HF'];exact hf.at_ 7 _ rfl)).cons (hf.at_ 6 _ rfl)).cons (hf.at_ 3 _ rfl),by simp [shKind,k1,k2,k3,k4,k5,k6],hB1,hA1,hX1⟩)
end Go.Proofs.Ytpadgcomncljmaa.A
/- Whether an act of kind 4 has the shape of its kind. -/
namespace Go.Proofs.Ytpadgcomncljmaa.A
open Go.RowKit

set_option maxHeartbeats 4000000 in
set_option maxRecDepth 100000 in
theorem shaped_4 (g : Nat) (cars : Int) (a : ActL) (A8 : Option Addr) (c8 : Nat) (w : World) (hg : w.cell? ⟨g, 0, none⟩ = some (.int .i64 cars)) (hf8 : RI Any w A8 a.facts) (hfl : a.facts.length ≤ 1000000) (hk0 : a.kind = 4) :
    Calls Try.prog 62 #[.pointer (some ⟨g,0,none⟩),.agg #[.int .i64 a.kind,.int .i64 a.minute,.int .i64 a.paper,.int .i64 a.case_,.int .i64 a.by_,.int .i64 a.against,.int .i64 a.art,.int .i64 a.at_,.slice A8 a.facts.length c8,.int .i64 a.paid,.bool a.up,.int .i64 a.pen]] w fun r w' => r = .returned (.bool (shapedB cars a)) ∧ Below w.heap.size w w':=by
  have hgl:=lt_of_cell hg;have HKK:=Aside.mk hk0;clear hk0;have HG:=Aside.mk hg;have HF:=Aside.mk hf8;clear hg hf8
  go_enter Try.func62,Try.ntmps62
  go_upto_block 0 with (go_at_call 52;refine (within_any _ _ _ _).mono ?_;rintro e w' ⟨rfl,rfl⟩)
  refine wp_cut (ShR w cars a A8 c8) ?_ ?_
  · intro fr wc hR
    go_step;refine wp_seq_k ?_;intro _ _
    obtain ⟨hf,hk,hb,ha,hx⟩:=hR
    have HK:=Aside.mk hk;have HB:=Aside.mk hb;have y0 : wc.cell? ⟨w.heap.size + 1,0,none⟩ = some (.int .i64 a.kind):=box43 ha 0 _ rfl;have x0 : wc.cell? ⟨w.heap.size + 2,0,none⟩ = some (.int .i64 (shapeX a).kind):=box43 hx 0 _ rfl;have y1 : wc.cell? ⟨w.heap.size + 1,1,none⟩ = some (.int .i64 a.minute):=box43 ha 1 _ rfl;have x1 : wc.cell? ⟨w.heap.size + 2,1,none⟩ = some (.int .i64 (shapeX a).minute):=box43 hx 1 _ rfl;have y2 : wc.cell? ⟨w.heap.size + 1,2,none⟩ = some (.int .i64 a.paper):=box43 ha 2 _ rfl;have x2 : wc.cell? ⟨w.heap.size + 2,2,none⟩ = some (.int .i64 (shapeX a).paper):=box43 hx 2 _ rfl;have y3 : wc.cell? ⟨w.heap.size + 1,3,none⟩ = some (.int .i64 a.case_):=box43 ha 3 _ rfl;have x3 : wc.cell? ⟨w.heap.size + 2,3,none⟩ = some (.int .i64 (shapeX a).case_):=box43 hx 3 _ rfl;have y4 : wc.cell? ⟨w.heap.size + 1,4,none⟩ = some (.int .i64 a.by_):=box43 ha 4 _ rfl;have x4 : wc.cell? ⟨w.heap.size + 2,4,none⟩ = some (.int .i64 (shapeX a).by_):=box43 hx 4 _ rfl;have y5 : wc.cell? ⟨w.heap.size + 1,5,none⟩ = some (.int .i64 a.against):=box43 ha 5 _ rfl;have x5 : wc.cell? ⟨w.heap.size + 2,5,none⟩ = some (.int .i64 (shapeX a).against):=box43 hx 5 _ rfl;have y6 : wc.cell? ⟨w.heap.size + 1,6,none⟩ = some (.int .i64 a.art):=box43 ha 6 _ rfl;have x6 : wc.cell? ⟨w.heap.size + 2,6,none⟩ = some (.int .i64 (shapeX a).art):=box43 hx 6 _ rfl;have y7 : wc.cell? ⟨w.heap.size + 1,7,none⟩ = some (.int .i64 a.at_):=box43 ha 7 _ rfl;have x7 : wc.cell? ⟨w.heap.size + 2,7,none⟩ = some (.int .i64 (shapeX a).at_):=box43 hx 7 _ rfl;have y9 : wc.cell? ⟨w.heap.size + 1,9,none⟩ = some (.int .i64 a.paid):=box43 ha 9 _ rfl;have x9 : wc.cell? ⟨w.heap.size + 2,9,none⟩ = some (.int .i64 (shapeX a).paid):=box43 hx 9 _ rfl;have y10 : wc.cell? ⟨w.heap.size + 1,10,none⟩ = some (.bool a.up):=box43 ha 10 _ rfl;have x10 : wc.cell? ⟨w.heap.size + 2,10,none⟩ = some (.bool (shapeX a).up):=box43 hx 10 _ rfl;have y11 : wc.cell? ⟨w.heap.size + 1,11,none⟩ = some (.int .i64 a.pen):=box43 ha 11 _ rfl;have x11 : wc.cell? ⟨w.heap.size + 2,11,none⟩ = some (.int .i64 (shapeX a).pen):=box43 hx 11 _ rfl;clear hk hb ha hx;refine wp_region_lit ?_;refine a_move hf rfl rfl rfl ?_;clear hf;intro _ hf;refine group_and 202 7 203 1 _ _ rfl (by omega) (by omega) (by rw [hf.size];decide) (hf.at_ 202 _ rfl) (hf.at_ 7 _ rfl) ?_;intro _ L E;replace hf:=(hf.low L rfl).cons (d:=205) E;clear L E;refine group_cmp 205 206 4 0 _ (a.kind == (shapeX a).kind) 41 (.pointer (some ⟨w.heap.size + 1,0,none⟩)) (.pointer (some ⟨w.heap.size + 2,0,none⟩)) (.int .i64 a.kind) (.int .i64 (shapeX a).kind) rfl (by omega) (by omega) (by rw [hf.size];decide) (hf.at_ 205 _ rfl) (fun ev h => by rw [hf.at_ 3 _ rfl] at h;simp [go_sem,h]) (fun ev h => by simp [go_sem,h,y0]) (fun ev h => by rw [hf.at_ 6 _ rfl] at h;simp [go_sem,h]) (fun ev h => by simp [go_sem,h,x0]) (fun ev h h' => by simp [go_sem,h,h']) ?_
    intro _ L E;replace hf:=(((hf.nilOf.cons (hf.at_ 3 _ rfl)).cons (hf.at_ 6 _ rfl)).low L rfl).cons (d:=212) E;clear L E;refine group_cmp 212 213 11 1 _ (a.minute == (shapeX a).minute) 3 (.pointer (some ⟨w.heap.size + 1,1,none⟩)) (.pointer (some ⟨w.heap.size + 2,1,none⟩)) (.int .i64 a.minute) (.int .i64 (shapeX a).minute) rfl (by omega) (by omega) (by rw [hf.size];decide) (hf.at_ 212 _ rfl) (fun ev h => by rw [hf.at_ 3 _ rfl] at h;simp [go_sem,h]) (fun ev h => by simp [go_sem,h,y1]) (fun ev h => by rw [hf.at_ 6 _ rfl] at h;simp [go_sem,h]) (fun ev h => by simp [go_sem,h,x1]) (fun ev h h' => by simp [go_sem,h,h']) ?_;intro _ L E;replace hf:=(((hf.nilOf.cons (hf.at_ 3 _ rfl)).cons (hf.at_ 6 _ rfl)).low L rfl).cons (d:=219) E;clear L E;refine group_cmp 219 220 18 2 _ (a.paper == (shapeX a).paper) 3 (.pointer (some ⟨w.heap.size + 1,2,none⟩)) (.pointer (some ⟨w.heap.size + 2,2,none⟩)) (.int .i64 a.paper) (.int .i64 (shapeX a).paper) rfl (by omega) (by omega) (by rw [hf.size];decide) (hf.at_ 219 _ rfl) (fun ev h => by rw [hf.at_ 3 _ rfl] at h;simp [go_sem,h]) (fun ev h => by simp [go_sem,h,y2]) (fun ev h => by rw [hf.at_ 6 _ rfl] at h;simp [go_sem,h]) (fun ev h => by simp [go_sem,h,x2]) (fun ev h h' => by simp [go_sem,h,h']) ?_;intro _ L E;replace hf:=(((hf.nilOf.cons (hf.at_ 3 _ rfl)).cons (hf.at_ 6 _ rfl)).low L rfl).cons (d:=226) E;clear L E;refine group_cmp 226 227 25 3 _ (a.case_ == (shapeX a).case_) 3 (.pointer (some ⟨w.heap.size + 1,3,none⟩)) (.pointer (some ⟨w.heap.size + 2,3,none⟩)) (.int .i64 a.case_) (.int .i64 (shapeX a).case_) rfl (by omega) (by omega) (by rw [hf.size];decide) (hf.at_ 226 _ rfl) (fun ev h => by rw [hf.at_ 3 _ rfl] at h;simp [go_sem,h]) (fun ev h => by simp [go_sem,h,y3]) (fun ev h => by rw [hf.at_ 6 _ rfl] at h;simp [go_sem,h]) (fun ev h => by simp [go_sem,h,x3]) (fun ev h h' => by simp [go_sem,h,h']) ?_;intro _ L E;replace hf:=(((hf.nilOf.cons (hf.at_ 3 _ rfl)).cons (hf.at_ 6 _ rfl)).low L rfl).cons (d:=233) E;clear L E;refine group_cmp 233 234 32 4 _ (a.by_ == (shapeX a).by_) 3 (.pointer (some ⟨w.heap.size + 1,4,none⟩)) (.pointer (some ⟨w.heap.size + 2,4,none⟩)) (.int .i64 a.by_) (.int .i64 (shapeX a).by_) rfl (by omega) (by omega) (by rw [hf.size];decide) (hf.at_ 233 _ rfl) (fun ev h => by rw [hf.at_ 3 _ rfl] at h;simp [go_sem,h]) (fun ev h => by simp [go_sem,h,y4]) (fun ev h => by rw [hf.at_ 6 _ rfl] at h;simp [go_sem,h]) (fun ev h => by simp [go_sem,h,x4]) (fun ev h h' => by simp [go_sem,h,h']) ?_;intro _ L E;replace hf:=(((hf.nilOf.cons (hf.at_ 3 _ rfl)).cons (hf.at_ 6 _ rfl)).low L rfl).cons (d:=240) E;clear L E;refine group_cmp 240 241 39 5 _ (a.against == (shapeX a).against) 3 (.pointer (some ⟨w.heap.size + 1,5,none⟩)) (.pointer (some ⟨w.heap.size + 2,5,none⟩)) (.int .i64 a.against) (.int .i64 (shapeX a).against) rfl (by omega) (by omega) (by rw [hf.size];decide) (hf.at_ 240 _ rfl) (fun ev h => by rw [hf.at_ 3 _ rfl] at h;simp [go_sem,h]) (fun ev h => by simp [go_sem,h,y5]) (fun ev h => by rw [hf.at_ 6 _ rfl] at h;simp [go_sem,h]) (fun ev h => by simp [go_sem,h,x5]) (fun ev h h' => by simp [go_sem,h,h']) ?_
    intro _ L E;replace hf:=(((hf.nilOf.cons (hf.at_ 3 _ rfl)).cons (hf.at_ 6 _ rfl)).low L rfl).cons (d:=247) E;clear L E;refine group_cmp 247 248 46 6 _ (a.art == (shapeX a).art) 3 (.pointer (some ⟨w.heap.size + 1,6,none⟩)) (.pointer (some ⟨w.heap.size + 2,6,none⟩)) (.int .i64 a.art) (.int .i64 (shapeX a).art) rfl (by omega) (by omega) (by rw [hf.size];decide) (hf.at_ 247 _ rfl) (fun ev h => by rw [hf.at_ 3 _ rfl] at h;simp [go_sem,h]) (fun ev h => by simp [go_sem,h,y6]) (fun ev h => by rw [hf.at_ 6 _ rfl] at h;simp [go_sem,h]) (fun ev h => by simp [go_sem,h,x6]) (fun ev h h' => by simp [go_sem,h,h']) ?_;intro _ L E;replace hf:=(((hf.nilOf.cons (hf.at_ 3 _ rfl)).cons (hf.at_ 6 _ rfl)).low L rfl).cons (d:=254) E;clear L E;refine group_cmp 254 255 53 7 _ (a.at_ == (shapeX a).at_) 3 (.pointer (some ⟨w.heap.size + 1,7,none⟩)) (.pointer (some ⟨w.heap.size + 2,7,none⟩)) (.int .i64 a.at_) (.int .i64 (shapeX a).at_) rfl (by omega) (by omega) (by rw [hf.size];decide) (hf.at_ 254 _ rfl) (fun ev h => by rw [hf.at_ 3 _ rfl] at h;simp [go_sem,h]) (fun ev h => by simp [go_sem,h,y7]) (fun ev h => by rw [hf.at_ 6 _ rfl] at h;simp [go_sem,h]) (fun ev h => by simp [go_sem,h,x7]) (fun ev h h' => by simp [go_sem,h,h']) ?_;intro _ L E;replace hf:=(((hf.nilOf.cons (hf.at_ 3 _ rfl)).cons (hf.at_ 6 _ rfl)).low L rfl).cons (d:=261) E;clear L E;refine group_cmp 261 262 60 9 _ (a.paid == (shapeX a).paid) 3 (.pointer (some ⟨w.heap.size + 1,9,none⟩)) (.pointer (some ⟨w.heap.size + 2,9,none⟩)) (.int .i64 a.paid) (.int .i64 (shapeX a).paid) rfl (by omega) (by omega) (by rw [hf.size];decide) (hf.at_ 261 _ rfl) (fun ev h => by rw [hf.at_ 3 _ rfl] at h;simp [go_sem,h]) (fun ev h => by simp [go_sem,h,y9]) (fun ev h => by rw [hf.at_ 6 _ rfl] at h;simp [go_sem,h]) (fun ev h => by simp [go_sem,h,x9]) (fun ev h h' => by simp [go_sem,h,h']) ?_;intro _ L E;replace hf:=(((hf.nilOf.cons (hf.at_ 3 _ rfl)).cons (hf.at_ 6 _ rfl)).low L rfl).cons (d:=268) E;clear L E;refine group_cmp 268 269 67 10 _ (a.up == (shapeX a).up) 4 (.pointer (some ⟨w.heap.size + 1,10,none⟩)) (.pointer (some ⟨w.heap.size + 2,10,none⟩)) (.bool a.up) (.bool (shapeX a).up) rfl (by omega) (by omega) (by rw [hf.size];decide) (hf.at_ 268 _ rfl) (fun ev h => by rw [hf.at_ 3 _ rfl] at h;simp [go_sem,h]) (fun ev h => by simp [go_sem,h,y10]) (fun ev h => by rw [hf.at_ 6 _ rfl] at h;simp [go_sem,h]) (fun ev h => by simp [go_sem,h,x10]) (fun ev h h' => by simp [go_sem,h,h']) ?_;intro _ L E;replace hf:=(((hf.nilOf.cons (hf.at_ 3 _ rfl)).cons (hf.at_ 6 _ rfl)).low L rfl).cons (d:=275) E;clear L E;refine group_cmp 275 276 74 11 _ (a.pen == (shapeX a).pen) 3 (.pointer (some ⟨w.heap.size + 1,11,none⟩)) (.pointer (some ⟨w.heap.size + 2,11,none⟩)) (.int .i64 a.pen) (.int .i64 (shapeX a).pen) rfl (by omega) (by omega) (by rw [hf.size];decide) (hf.at_ 275 _ rfl) (fun ev h => by rw [hf.at_ 3 _ rfl] at h;simp [go_sem,h]) (fun ev h => by simp [go_sem,h,y11]) (fun ev h => by rw [hf.at_ 6 _ rfl] at h;simp [go_sem,h]) (fun ev h => by simp [go_sem,h,x11]) (fun ev h h' => by simp [go_sem,h,h']) ?_
    intro _ L E;replace hf:=(((hf.nilOf.cons (hf.at_ 3 _ rfl)).cons (hf.at_ 6 _ rfl)).low L rfl).cons (d:=282) E;clear L E;refine a_assign hf rfl rfl rfl ?_;clear hf;intro _ hf;refine wpList_nil ?_;simp only [Exit.then]
    repeat (first | go_step)
    refine c_ret hf rfl rfl ⟨ret_eq ?_,HB.out⟩
    congr 1
    rw [shapedB,HK.out];simp only [sameRest,Bool.and_assoc,Bool.true_and]
  · intro J K' hJ hK'
    have hA : (((w.alloc (.cells #[.pointer (some ⟨g,0,none⟩)] 37)).alloc (.cells #[.int .i64 a.kind,.int .i64 a.minute,.int .i64 a.paper,.int .i64 a.case_,.int .i64 a.by_,.int .i64 a.against,.int .i64 a.art,.int .i64 a.at_,.slice A8 a.facts.length c8,.int .i64 a.paid,.bool a.up,.int .i64 a.pen] 43)).alloc (.cells #[.int .i64 a.kind,.int .i64 a.minute,.int .i64 0,.int .i64 0,.int .i64 0,.int .i64 0,.int .i64 0,.int .i64 0,.slice none 0 0,.int .i64 0,.bool false,.int .i64 0] 43)).heap[w.heap.size + 1]? = some (.cells #[.int .i64 a.kind,.int .i64 a.minute,.int .i64 a.paper,.int .i64 a.case_,.int .i64 a.by_,.int .i64 a.against,.int .i64 a.art,.int .i64 a.at_,.slice A8 a.facts.length c8,.int .i64 a.paid,.bool a.up,.int .i64 a.pen] 43 (0,0)):=by
      rw [Below.heap_alloc _ _ _ (by simp)];exact new_at (by simp)
    have hX : (((w.alloc (.cells #[.pointer (some ⟨g,0,none⟩)] 37)).alloc (.cells #[.int .i64 a.kind,.int .i64 a.minute,.int .i64 a.paper,.int .i64 a.case_,.int .i64 a.by_,.int .i64 a.against,.int .i64 a.art,.int .i64 a.at_,.slice A8 a.facts.length c8,.int .i64 a.paid,.bool a.up,.int .i64 a.pen] 43)).alloc (.cells #[.int .i64 a.kind,.int .i64 a.minute,.int .i64 0,.int .i64 0,.int .i64 0,.int .i64 0,.int .i64 0,.int .i64 0,.slice none 0 0,.int .i64 0,.bool false,.int .i64 0] 43)).heap[w.heap.size + 2]? = some (.cells #[.int .i64 a.kind,.int .i64 a.minute,.int .i64 0,.int .i64 0,.int .i64 0,.int .i64 0,.int .i64 0,.int .i64 0,.slice none 0 0,.int .i64 0,.bool false,.int .i64 0] 43 (0,0)):=new_at (by simp)
    have hP : (((w.alloc (.cells #[.pointer (some ⟨g,0,none⟩)] 37)).alloc (.cells #[.int .i64 a.kind,.int .i64 a.minute,.int .i64 a.paper,.int .i64 a.case_,.int .i64 a.by_,.int .i64 a.against,.int .i64 a.art,.int .i64 a.at_,.slice A8 a.facts.length c8,.int .i64 a.paid,.bool a.up,.int .i64 a.pen] 43)).alloc (.cells #[.int .i64 a.kind,.int .i64 a.minute,.int .i64 0,.int .i64 0,.int .i64 0,.int .i64 0,.int .i64 0,.int .i64 0,.slice none 0 0,.int .i64 0,.bool false,.int .i64 0] 43)).cell? ⟨w.heap.size,0,none⟩ = some (.pointer (some ⟨g,0,none⟩)):=by
      refine cell_alloc (cell_alloc ?_ _) _;have:=heap_alloc_new w (.cells #[.pointer (some ⟨g,0,none⟩)] 37)
      unfold World.cell?
      simp only [this]
      rfl
    have hG : (((w.alloc (.cells #[.pointer (some ⟨g,0,none⟩)] 37)).alloc (.cells #[.int .i64 a.kind,.int .i64 a.minute,.int .i64 a.paper,.int .i64 a.case_,.int .i64 a.by_,.int .i64 a.against,.int .i64 a.art,.int .i64 a.at_,.slice A8 a.facts.length c8,.int .i64 a.paid,.bool a.up,.int .i64 a.pen] 43)).alloc (.cells #[.int .i64 a.kind,.int .i64 a.minute,.int .i64 0,.int .i64 0,.int .i64 0,.int .i64 0,.int .i64 0,.int .i64 0,.slice none 0 0,.int .i64 0,.bool false,.int .i64 0] 43)).cell? ⟨g,0,none⟩ = some (.int .i64 cars):=cell_alloc (cell_alloc (cell_alloc HG.out _) _) _;have hBel : Below w.heap.size w (((w.alloc (.cells #[.pointer (some ⟨g,0,none⟩)] 37)).alloc (.cells #[.int .i64 a.kind,.int .i64 a.minute,.int .i64 a.paper,.int .i64 a.case_,.int .i64 a.by_,.int .i64 a.against,.int .i64 a.art,.int .i64 a.at_,.slice A8 a.facts.length c8,.int .i64 a.paid,.bool a.up,.int .i64 a.pen] 43)).alloc (.cells #[.int .i64 a.kind,.int .i64 a.minute,.int .i64 0,.int .i64 0,.int .i64 0,.int .i64 0,.int .i64 0,.int .i64 0,.slice none 0 0,.int .i64 0,.bool false,.int .i64 0] 43)):=bel_alloc (bel_alloc (bel_alloc (Below.refl _ w) _) _) _;have hSz : (((w.alloc (.cells #[.pointer (some ⟨g,0,none⟩)] 37)).alloc (.cells #[.int .i64 a.kind,.int .i64 a.minute,.int .i64 a.paper,.int .i64 a.case_,.int .i64 a.by_,.int .i64 a.against,.int .i64 a.art,.int .i64 a.at_,.slice A8 a.facts.length c8,.int .i64 a.paid,.bool a.up,.int .i64 a.pen] 43)).alloc (.cells #[.int .i64 a.kind,.int .i64 a.minute,.int .i64 0,.int .i64 0,.int .i64 0,.int .i64 0,.int .i64 0,.int .i64 0,.slice none 0 0,.int .i64 0,.bool false,.int .i64 0] 43)).heap.size = w.heap.size + 3:=by simp
    obtain ⟨W,hW⟩ : ∃ W,W = (((w.alloc (.cells #[.pointer (some ⟨g,0,none⟩)] 37)).alloc (.cells #[.int .i64 a.kind,.int .i64 a.minute,.int .i64 a.paper,.int .i64 a.case_,.int .i64 a.by_,.int .i64 a.against,.int .i64 a.art,.int .i64 a.at_,.slice A8 a.facts.length c8,.int .i64 a.paid,.bool a.up,.int .i64 a.pen] 43)).alloc (.cells #[.int .i64 a.kind,.int .i64 a.minute,.int .i64 0,.int .i64 0,.int .i64 0,.int .i64 0,.int .i64 0,.int .i64 0,.slice none 0 0,.int .i64 0,.bool false,.int .i64 0] 43)):=⟨_,rfl⟩
    rw [← hW] at hA hX hP hG hBel hSz ⊢;clear hW;have hk:=HKK.out
    -- kind 4
    have k1 : (a.kind == 1) = false:=by simp [hk]
    have k2 : (a.kind == 2) = false:=by simp [hk]
    have k3 : (a.kind == 3) = false:=by simp [hk]
    have k5 : (a.kind == 5) = false:=by simp [hk]
    have k4 : (a.kind == 4) = true:=by simp [hk]
    have k6 : (a.kind == 6) = false:=by simp [hk]
    have y0 : W.cell? ⟨w.heap.size + 1,0,none⟩ = some (.int .i64 a.kind):=box43 hA 0 _ rfl;have y3 : W.cell? ⟨w.heap.size + 1,3,none⟩ = some (.int .i64 a.case_):=box43 hA 3 _ rfl;have x3 : W.cell? ⟨w.heap.size + 2,3,none⟩ = some (.int .i64 0):=box43 hX 3 _ rfl;have z3 : W.frozen? ⟨w.heap.size + 2,3,none⟩ = false:=by simp [World.frozen?,hX]
    have y4 : W.cell? ⟨w.heap.size + 1,4,none⟩ = some (.int .i64 a.by_):=box43 hA 4 _ rfl;have x4 : W.cell? ⟨w.heap.size + 2,4,none⟩ = some (.int .i64 0):=box43 hX 4 _ rfl;have z4 : W.frozen? ⟨w.heap.size + 2,4,none⟩ = false:=by simp [World.frozen?,hX]
    have y9 : W.cell? ⟨w.heap.size + 1,9,none⟩ = some (.int .i64 a.paid):=box43 hA 9 _ rfl;have x9 : W.cell? ⟨w.heap.size + 2,9,none⟩ = some (.int .i64 0):=box43 hX 9 _ rfl;have z9 : W.frozen? ⟨w.heap.size + 2,9,none⟩ = false:=by simp [World.frozen?,hX]
    have HX:=Aside.mk hX;have HA:=Aside.mk hA;have HP:=Aside.mk hP;have HG1:=Aside.mk hG;have HBel:=Aside.mk hBel;have HSz:=Aside.mk hSz;clear hX hA hP hG hBel hSz
    go_upto_region 24 with fail
    go_region
    simp only [Exit.then];go_step;refine wp_abs (n:=283) (ds:=[]) (l:=[(3,.pointer (some ⟨w.heap.size + 1,0,none⟩)),(5,.func (.func 95) #[] #[.pointer (some ⟨w.heap.size,0,none⟩)]),(6,.pointer (some ⟨w.heap.size + 2,0,none⟩)),(7,.bool ((a.facts.length : Int) == 0)),(8,.bool (inB a.minute 0 10000000))]) ?_ ?_
    · refine (((((Has.nil ?_ ?_).cons ?_).cons ?_).cons ?_).cons ?_).cons ?_
      all_goals first | rfl | (simp [Act.eval];done)
    intro _ hf;have hM : Mod (fun k => k = w.heap.size + 2) W (World.drew (World.setCell (World.setCell (World.setCell (W) ⟨w.heap.size + 2,3,none⟩ (.int .i64 a.case_)) ⟨w.heap.size + 2,4,none⟩ (.int .i64 a.by_)) ⟨w.heap.size + 2,9,none⟩ (.int .i64 a.paid))):=((((Mod.refl (F:=fun k => k = w.heap.size + 2)).set_ (p:=⟨w.heap.size + 2,3,none⟩) (.inl rfl) _).set_ (p:=⟨w.heap.size + 2,4,none⟩) (.inl rfl) _).set_ (p:=⟨w.heap.size + 2,9,none⟩) (.inl rfl) _).drew
    have hX1 : (World.drew (World.setCell (World.setCell (World.setCell (W) ⟨w.heap.size + 2,3,none⟩ (.int .i64 a.case_)) ⟨w.heap.size + 2,4,none⟩ (.int .i64 a.by_)) ⟨w.heap.size + 2,9,none⟩ (.int .i64 a.paid))).heap[w.heap.size + 2]? = some (.cells #[.int .i64 (shapeX a).kind,.int .i64 (shapeX a).minute,.int .i64 (shapeX a).paper,.int .i64 (shapeX a).case_,.int .i64 (shapeX a).by_,.int .i64 (shapeX a).against,.int .i64 (shapeX a).art,.int .i64 (shapeX a).at_,.slice none 0 0,.int .i64 (shapeX a).paid,.bool (shapeX a).up,.int .i64 (shapeX a).pen] 43 (0,0)):=by
      have:=(blk_set (blk_set (blk_set HX.out 3 (.int .i64 a.case_)) 4 (.int .i64 a.by_)) 9 (.int .i64 a.paid))
      change (World.setCell (World.setCell (World.setCell (W) ⟨w.heap.size + 2,3,none⟩ (.int .i64 a.case_)) ⟨w.heap.size + 2,4,none⟩ (.int .i64 a.by_)) ⟨w.heap.size + 2,9,none⟩ (.int .i64 a.paid)).heap[w.heap.size + 2]? = _
      simpa [shapeX,zeroAct,k1,k2,k3,k4,k5,k6] using this
    generalize hW1 : World.drew (World.setCell (World.setCell (World.setCell (W) ⟨w.heap.size + 2,3,none⟩ (.int .i64 a.case_)) ⟨w.heap.size + 2,4,none⟩ (.int .i64 a.by_)) ⟨w.heap.size + 2,9,none⟩ (.int .i64 a.paid)) = W1 at hM hX1 ⊢
    clear hW1;have hA1:=(hM.block (w.heap.size + 1) (by have:=HSz.out;omega) (by omega)).trans HA.out;have hP1 : W1.cell? ⟨w.heap.size,0,none⟩ = some (.pointer (some ⟨g,0,none⟩)):=(World.cell?_of_block (hM.block w.heap.size (by have:=HSz.out;omega) (by omega))).trans HP.out;have hG1 : W1.cell? ⟨g,0,none⟩ = some (.int .i64 cars):=(World.cell?_of_block (hM.block g (by have:=HSz.out;omega) (by omega))).trans HG1.out;have hB1:=bel_mod HBel.out hM (by intro k hk;omega);clear y0 y3 x3 z3 y4 x4 z4 y9 x9 z9;have y1 : W1.cell? ⟨w.heap.size + 1,1,none⟩ = some (.int .i64 a.minute):=box43 hA1 1 _ rfl;have y3 : W1.cell? ⟨w.heap.size + 1,3,none⟩ = some (.int .i64 a.case_):=box43 hA1 3 _ rfl;have y4 : W1.cell? ⟨w.heap.size + 1,4,none⟩ = some (.int .i64 a.by_):=box43 hA1 4 _ rfl;have y9 : W1.cell? ⟨w.heap.size + 1,9,none⟩ = some (.int .i64 a.paid):=box43 hA1 9 _ rfl;refine wp_region_lit ?_;refine a_move hf rfl rfl rfl ?_;clear hf;intro _ hf;refine group_ge 165 166 1 _ (decide (0 ≤ a.case_)) 3 3 (.int .i64 0) (.pointer (some ⟨w.heap.size + 1,3,none⟩)) (.int .i64 a.case_) rfl (by omega) (by omega) (by rw [hf.size];decide) (hf.at_ 165 _ rfl) (fun ev h => by rw [hf.at_ 3 _ rfl] at h;simp [go_sem,h]) (fun ev h => by simp [go_sem,h,y3]) (fun ev h c1 => by simp [go_sem,h,c1]) ?_;intro _ L E;replace hf:=(hf.low L rfl).cons (d:=170) E;clear L E;refine group_car 170 171 6 _ (inB a.by_ 1 cars) 4 3 _ 95 #[.int .i64 a.by_,.pointer (some ⟨w.heap.size,0,none⟩)] (.func (.func 95) #[] #[.pointer (some ⟨w.heap.size,0,none⟩)]) (.pointer (some ⟨w.heap.size + 1,4,none⟩)) (.int .i64 a.by_) rfl (by omega) (by omega) (by rw [hf.size];decide) (hf.at_ 170 _ rfl) (fun ev h => by rw [hf.at_ 5 _ rfl] at h;simp [go_sem,h]) (fun ev h => by rw [hf.at_ 3 _ rfl] at h;simp [go_sem,h]) (fun ev h => by simp [go_sem,h,y4]) (fun ev h h2 => by simp [go_sem,h,h2,e95 _ _]) (car_any _ g _ _ _ hP1 hG1) ?_;intro _ L E;replace hf:=(hf.low L rfl).cons (d:=176) E;clear L E;refine group_in 176 177 12 _ (inB a.paid 0 1000000000) 9 3 (.int .i64 0) (.int .i64 1000000000) _ (.pointer (some ⟨w.heap.size + 1,9,none⟩)) (.int .i64 a.paid) rfl (by omega) (by omega) (by rw [hf.size];decide) (hf.at_ 176 _ rfl) (fun ev h => by rw [hf.at_ 3 _ rfl] at h;simp [go_sem,h]) (fun ev h => by simp [go_sem,h,y9]) (fun ev h c1 c2 c3 => by simp [go_sem,h,c1,c2,c3,e52 _ _]) (within_any _ _ _ _) ?_;intro _ L E;replace hf:=(hf.low L rfl).cons (d:=181) E;clear L E;refine a_assign hf rfl rfl rfl ?_;clear hf;intro _ hf;refine wpList_nil ?_;have HO : shOk cars a = (inB a.minute 0 10000000 && decide (0 ≤ a.case_) && inB a.by_ 1 cars && inB a.paid 0 1000000000):=by simp [shOk,shMin,k1,k2,k3,k4,k5,k6]
    have HF' : shFacts a = ((a.facts.length : Int) == 0):=by rw [Bool.eq_iff_iff];simp [shFacts,k2]
    simp only [Exit.then,Exit.inBlock]
    repeat go_step
    refine Met.intro (hJ _ _ ⟨(((hf.nilOf.cons (d:=8) (by rw [HO];exact hf.at_ 8 _ rfl)).cons (d:=7) (by rw [HF'];exact hf.at_ 7 _ rfl)).cons (hf.at_ 6 _ rfl)).cons (hf.at_ 3 _ rfl),by simp [shKind,k1,k2,k3,k4,k5,k6],hB1,hA1,hX1⟩)
end Go.Proofs.Ytpadgcomncljmaa.A
