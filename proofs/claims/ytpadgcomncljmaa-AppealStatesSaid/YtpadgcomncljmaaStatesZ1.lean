/- Words about memory for the statements on appeals: what is read,what is owned,what a call may have turned. -/
import Derived.Test.YtpadgcomncljmaaProg
import Derived.WalkKit
import Derived.KernelRfl
import Derived.RowKit3
import Derived.BigQuiet
import Derived.Deep.QuietTactic
import Derived.Deep.Draws
import Derived.Deep.RegionHeld3
import Derived.Deep.AppendLies
import Derived.Deep.DeepFit
import Derived.Maps.AppendAt
import Derived.StillTailTactics
import Derived.WalkSpells
import Derived.Deep.RegionLaw
import Derived.Defers
import Derived.Recover
import Derived.RegionTactic
import Derived.ChangeAlike
import Derived.Ground.Names2Prog
import Derived.Shelf.Slices.Clone
import Derived.Ground.SlgnProg
import Derived.Shelf.SlicesE.Clone
import Derived.Deep.LoopGhost
set_option linter.all false
namespace Go.Proofs.Ytpadgcomncljmaa.A
theorem bq1 {p : Prop} [Decidable p] : (decide p = true) = p := decide_eq_true_eq
theorem bq2 {p : Prop} [Decidable p] : (decide p = false) = ¬ p := by simp
theorem bq3 {α : Type _} [BEq α] [LawfulBEq α] {a b : α} : (a == b) = true ↔ a = b := beq_iff_eq
theorem bq4 {α : Type _} [BEq α] [LawfulBEq α] {a b : α} : (a != b) = true ↔ a ≠ b := bne_iff_ne
theorem bq5 {α : Type _} [BEq α] [LawfulBEq α] {a b : α} : (a == b) = false ↔ a ≠ b := beq_eq_false_iff_ne
theorem bq6 {α : Type _} [BEq α] [LawfulBEq α] {a b : α} : (a != b) = false ↔ a = b := bne_eq_false_iff_eq
theorem bq7 {α : Sort _} (a b : α) : (a ≠ b) = ¬ (a = b) := ne_eq a b
end Go.Proofs.Ytpadgcomncljmaa.A
namespace Go.Proofs.Ytpadgcomncljmaa.A
open Go.RowKit
theorem heap_alloc_old (w : World) (o : Obj) {r : Nat} (h : r < w.heap.size) : (w.alloc o).heap[r]? = w.heap[r]?:=Below.heap_alloc w o r h

structure Aside (p : Prop) : Prop where mk :: (out : p)

structure Art where
  num : Int
  since : Int
  least : Int
  most : Int

structure ActL where
  kind : Int
  minute : Int
  paper : Int
  case_ : Int
  by_ : Int
  against : Int
  art : Int
  at_ : Int
  facts : List Int
  paid : Int
  up : Bool
  pen : Int

structure FileL where
  protest : Int
  acts : List Int

def RI (D : Nat → Prop) (w : World) (A : Option Addr) (xs : List Int) : Prop :=
  ∀ i x,xs[i]? = some x → ∃ ad,A = some ad ∧ D ad.block ∧ w.cell? (ad.add i) = some (.int .i64 x)

def RArt (D : Nat → Prop) (w : World) (A : Option Addr) (xs : List Art) : Prop :=
  ∀ i x, xs[i]? = some x → ∃ ad, A = some ad ∧ D ad.block ∧ w.cell? (ad.add (i * 4)) = some (.int .i64 x.num) ∧
    w.cell? ⟨(ad.add (i * 4)).block,(ad.add (i * 4)).off + 1,none⟩ = some (.int .i64 x.since) ∧
    w.cell? ⟨(ad.add (i * 4)).block,(ad.add (i * 4)).off + 2,none⟩ = some (.int .i64 x.least) ∧
    w.cell? ⟨(ad.add (i * 4)).block,(ad.add (i * 4)).off + 3,none⟩ = some (.int .i64 x.most)

def ActAt (D : Nat → Prop) (w : World) (p : Addr) (x : ActL) (A8 : Option Addr) (c8 : Nat) : Prop :=
  w.cell? p = some (.int .i64 x.kind) ∧ w.cell? ⟨p.block,p.off + 1,none⟩ = some (.int .i64 x.minute) ∧
  w.cell? ⟨p.block,p.off + 2,none⟩ = some (.int .i64 x.paper) ∧ w.cell? ⟨p.block,p.off + 3,none⟩ = some (.int .i64 x.case_) ∧
  w.cell? ⟨p.block,p.off + 4,none⟩ = some (.int .i64 x.by_) ∧ w.cell? ⟨p.block,p.off + 5,none⟩ = some (.int .i64 x.against) ∧
  w.cell? ⟨p.block,p.off + 6,none⟩ = some (.int .i64 x.art) ∧ w.cell? ⟨p.block,p.off + 7,none⟩ = some (.int .i64 x.at_) ∧
  w.cell? ⟨p.block,p.off + 8,none⟩ = some (.slice A8 x.facts.length c8) ∧ w.cell? ⟨p.block,p.off + 9,none⟩ = some (.int .i64 x.paid) ∧
  w.cell? ⟨p.block,p.off + 10,none⟩ = some (.bool x.up) ∧ w.cell? ⟨p.block,p.off + 11,none⟩ = some (.int .i64 x.pen) ∧
  x.facts.length ≤ c8 ∧ RI D w A8 x.facts

def RAct (D : Nat → Prop) (w : World) (A : Option Addr) (xs : List ActL) : Prop :=
  ∀ i x,xs[i]? = some x → ∃ ad A8 c8,A = some ad ∧ D ad.block ∧ ActAt D w (ad.add (i * 12)) x A8 c8

def RFile (D : Nat → Prop) (w : World) (A : Option Addr) (xs : List FileL) : Prop :=
  ∀ i x, xs[i]? = some x → ∃ ad A1 c1, A = some ad ∧ D ad.block ∧ w.cell? (ad.add (i * 2)) = some (.int .i64 x.protest) ∧
    w.cell? ⟨(ad.add (i * 2)).block,(ad.add (i * 2)).off + 1,none⟩ = some (.slice A1 x.acts.length c1) ∧ x.acts.length ≤ c1 ∧ RI D w A1 x.acts

theorem cmv {w w' : World} {b : Nat} (hk : w'.heap[b]? = w.heap[b]?) {p : Addr} {v : Value} (h : w.cell? p = some v) (hb : p.block = b:=by rfl) : w'.cell? p = some v:=by
  subst hb
  exact (World.cell?_of_block hk).trans h
theorem block_add (a : Addr) (n : Nat) : (a.add n).block = a.block:=by unfold Addr.add;split <;> rfl
theorem lt_of_cell {w : World} {a : Addr} {v : Value} (h : w.cell? a = some v) : a.block < w.heap.size:=World.block_lt_of_cell? w a h

section
variable {D D' : Nat → Prop} {w w' : World} {A : Option Addr}
theorem RI.move {xs : List Int} (h : RI D w A xs) (hm : ∀ k,D k → k < w.heap.size → w'.heap[k]? = w.heap[k]?) : RI D w' A xs:=fun i x hx => by
  obtain ⟨ad,rfl,hD,hc⟩:=h i x hx
  have hb:=lt_of_cell hc;rw [block_add] at hb;exact ⟨ad,rfl,hD,(World.cell?_of_block (by rw [block_add];exact hm _ hD hb)).trans hc⟩
theorem RI.mono {xs : List Int} (h : RI D w A xs) (hm : ∀ k,D k → k < w.heap.size → D' k) : RI D' w A xs:=fun i x hx => by
  obtain ⟨ad,rfl,hD,hc⟩:=h i x hx
  have hb:=lt_of_cell hc;rw [block_add] at hb;exact ⟨ad,rfl,hm _ hD hb,hc⟩
theorem RI.nil : RI D w A []:=fun i x hx => by simp at hx
theorem RArt.move {xs : List Art} (h : RArt D w A xs) (hm : ∀ k,D k → k < w.heap.size → w'.heap[k]? = w.heap[k]?) : RArt D w' A xs:=fun i x hx => by
  obtain ⟨ad,rfl,hD,h0,h1,h2,h3⟩:=h i x hx
  have hb:=lt_of_cell h0;have hb' : (ad.add (i * 4)).block < w.heap.size:=hb;rw [block_add] at hb;have hk : w'.heap[(ad.add (i * 4)).block]? = w.heap[(ad.add (i * 4)).block]?:=by rw [block_add];exact hm _ hD hb
  exact ⟨ad,rfl,hD,cmv hk h0,cmv hk h1,cmv hk h2,cmv hk h3⟩
theorem RArt.mono {xs : List Art} (h : RArt D w A xs) (hm : ∀ k,D k → k < w.heap.size → D' k) : RArt D' w A xs:=fun i x hx => by
  obtain ⟨ad,rfl,hD,h0,h1⟩:=h i x hx
  have hb:=lt_of_cell h0;rw [block_add] at hb;exact ⟨ad,rfl,hm _ hD hb,h0,h1⟩
theorem RArt.nil : RArt D w A []:=fun i x hx => by simp at hx
theorem ActAt.move {p : Addr} {x : ActL} {A8 : Option Addr} {c8 : Nat} (h : ActAt D w p x A8 c8) (hp : w'.heap[p.block]? = w.heap[p.block]?) (hm : ∀ k,D k → k < w.heap.size → w'.heap[k]? = w.heap[k]?) : ActAt D w' p x A8 c8:=by
  obtain ⟨h0,h1,h2,h3,h4,h5,h6,h7,h8,h9,h10,h11,hl,hr⟩:=h
  exact ⟨cmv hp h0, cmv hp h1, cmv hp h2, cmv hp h3, cmv hp h4, cmv hp h5,
    cmv hp h6,cmv hp h7,cmv hp h8,cmv hp h9,cmv hp h10,cmv hp h11,hl,hr.move hm⟩
theorem RAct.move {xs : List ActL} (h : RAct D w A xs) (hm : ∀ k,D k → k < w.heap.size → w'.heap[k]? = w.heap[k]?) : RAct D w' A xs:=fun i x hx => by
  obtain ⟨ad,A8,c8,rfl,hD,ha⟩:=h i x hx
  have hb:=lt_of_cell ha.1;rw [block_add] at hb;exact ⟨ad,A8,c8,rfl,hD,ha.move (by rw [block_add];exact hm _ hD hb) hm⟩
theorem RAct.mono {xs : List ActL} (h : RAct D w A xs) (hm : ∀ k,D k → k < w.heap.size → D' k) : RAct D' w A xs:=fun i x hx => by
  obtain ⟨ad,A8,c8,rfl,hD,ha⟩:=h i x hx
  have hb:=lt_of_cell ha.1;rw [block_add] at hb
  obtain ⟨h0,h1,h2,h3,h4,h5,h6,h7,h8,h9,h10,h11,hl,hr⟩:=ha
  exact ⟨ad,A8,c8,rfl,hm _ hD hb,h0,h1,h2,h3,h4,h5,h6,h7,h8,h9,h10,h11,hl,hr.mono hm⟩
theorem RAct.nil : RAct D w A []:=fun i x hx => by simp at hx
theorem RFile.move {xs : List FileL} (h : RFile D w A xs) (hm : ∀ k,D k → k < w.heap.size → w'.heap[k]? = w.heap[k]?) : RFile D w' A xs:=fun i x hx => by
  obtain ⟨ad,A1,c1,rfl,hD,h0,h1,hl,hr⟩:=h i x hx
  have hb:=lt_of_cell h0;rw [block_add] at hb;have hk : w'.heap[(ad.add (i * 2)).block]? = w.heap[(ad.add (i * 2)).block]?:=by rw [block_add];exact hm _ hD hb
  exact ⟨ad,A1,c1,rfl,hD,cmv hk h0,cmv hk h1,hl,hr.move hm⟩
theorem RFile.mono {xs : List FileL} (h : RFile D w A xs) (hm : ∀ k,D k → k < w.heap.size → D' k) : RFile D' w A xs:=fun i x hx => by
  obtain ⟨ad,A1,c1,rfl,hD,h0,h1,hl,hr⟩:=h i x hx
  have hb:=lt_of_cell h0;rw [block_add] at hb;exact ⟨ad,A1,c1,rfl,hm _ hD hb,h0,h1,hl,hr.mono hm⟩
theorem RFile.nil : RFile D w A []:=fun i x hx => by simp at hx
end

def Any : Nat → Prop:=fun _ => True

section
variable {D : Nat → Prop} {w w' : World} {A : Option Addr}
theorem RI.below {xs : List Int} (h : RI D w A xs) (hb : Below w.heap.size w w') : RI D w' A xs:=h.move fun k _ hk => hb.block k hk
theorem RArt.below {xs : List Art} (h : RArt D w A xs) (hb : Below w.heap.size w w') : RArt D w' A xs:=h.move fun k _ hk => hb.block k hk
theorem RAct.below {xs : List ActL} (h : RAct D w A xs) (hb : Below w.heap.size w w') : RAct D w' A xs:=h.move fun k _ hk => hb.block k hk
theorem RFile.below {xs : List FileL} (h : RFile D w A xs) (hb : Below w.heap.size w w') : RFile D w' A xs:=h.move fun k _ hk => hb.block k hk
theorem RI.any {xs : List Int} (h : RI D w A xs) : RI Any w A xs:=h.mono fun _ _ _ => trivial
theorem RArt.any {xs : List Art} (h : RArt D w A xs) : RArt Any w A xs:=h.mono fun _ _ _ => trivial
theorem RAct.any {xs : List ActL} (h : RAct D w A xs) : RAct Any w A xs:=h.mono fun _ _ _ => trivial
theorem RFile.any {xs : List FileL} (h : RFile D w A xs) : RFile Any w A xs:=h.mono fun _ _ _ => trivial
end

theorem bel_alloc {w W : World} (h : Below w.heap.size w W) (o : Obj) : Below w.heap.size w (W.alloc o):=h.alloc h.size o
theorem bel_drew {w W : World} (h : Below w.heap.size w W) : Below w.heap.size w W.drew:=h.drew
theorem bel_drewN {w W : World} (h : Below w.heap.size w W) (n : Nat) : Below w.heap.size w (W.drewN n):=⟨h.os,h.tape,h.output,h.size,h.block⟩
theorem bel_then {w w1 w2 : World} (h : Below w.heap.size w w1) (k : Below w1.heap.size w1 w2) : Below w.heap.size w w2:=h.trans (k.mono h.size)
theorem bel_set {w W : World} (h : Below w.heap.size w W) {p : Addr} (hp : w.heap.size ≤ p.block) (u : Value) : Below w.heap.size w (W.setCell p u):=h.setCell hp u

theorem cell_alloc {w : World} {p : Addr} {v : Value} (h : w.cell? p = some v) (o : Obj) : (w.alloc o).cell? p = some v:=(World.cell?_of_block (Below.heap_alloc w o _ (lt_of_cell h))).trans h
theorem drop_snoc {α : Type} {l : List α} {k : Nat} {x : α} (h : l[k]? = some x) : l.take (k + 1) = l.take k ++ [x]:=by
  rw [List.take_add_one,h];rfl
theorem get_some {α : Type} {l : List α} {k : Nat} (h : k < l.length) : ∃ x,l[k]? = some x:=⟨_,List.getElem?_eq_getElem h⟩
theorem ret_eq {v v' : Value} (h : v = v') : Ending.returned v = Ending.returned v':=by rw [h]
theorem drop_get {α : Type} {l : List α} {k : Nat} {x : α} (h : l[k]? = some x) : l.drop k = x :: l.drop (k + 1):=by
  obtain ⟨hk,he⟩:=List.getElem?_eq_some_iff.1 h
  rw [List.drop_eq_getElem_cons hk,he]
def prev {α : Type} (l : List α) (k : Nat) : Option α:=if k = 0 then none else l[k - 1]?
theorem prev_succ {α : Type} (l : List α) (k : Nat) (x : α) (h : l[k]? = some x) : prev l (k + 1) = some x:=by simp [prev,h]

theorem add_at (g j : Nat) : (⟨g,0,none⟩ : Addr).add j = ⟨g,j,none⟩:=by unfold Addr.add;split <;> simp_all
def ints (xs : List Int) : List Value:=xs.map (Value.int .i64)
theorem ints_one (xs : List Int) : ∀ u ∈ ints xs,u.oneCell' = true:=by
  intro u hu
  obtain ⟨x,_,rfl⟩:=List.mem_map.1 hu
  rfl
theorem ints_append (xs ys : List Int) : ints (xs ++ ys) = ints xs ++ ints ys:=by simp [ints]

theorem own_form {w : World} {base : Nat} {e : TypeId} {size n : Nat} {v : Value} {cs : List Value} (h : w.ownsRow base e size v n cs) :
    ∃ A c,v = .slice A n c ∧ n ≤ c ∧ c ≤ maxLen ∧ ∀ j u,cs[j]? = some u → ∃ g,A = some ⟨g,0,none⟩ ∧ base ≤ g ∧ w.cell? ⟨g,j,none⟩ = some u:=by
  have h':=h
  rcases h.2 with ⟨rfl,rfl⟩ | ⟨g,cap,cur,rfl,hb,hh,hnc,hcm,_,_⟩
  · refine ⟨none,0,rfl,Nat.le_refl _,by simp [maxLen],fun j u hu => ?_⟩
    have : cs = []:=List.eq_nil_of_length_eq_zero (by simpa using h.1)
    subst this
    simp at hu
  · refine ⟨_,cap,rfl,hnc,hcm,fun j u hu => ⟨g,rfl,hb,?_⟩⟩
    have:=h'.cells (g:=g) rfl j u hu
    rwa [add_at] at this
theorem own_ints {w : World} {base : Nat} {v : Value} {xs : List Int} (h : w.ownsRow base 3 1 v xs.length (ints xs)) :
    ∃ A c,v = .slice A xs.length c ∧ xs.length ≤ c ∧ RI (base ≤ ·) w A xs:=by
  obtain ⟨A,c,rfl,hn,_,hc⟩:=own_form h
  refine ⟨A,c,rfl,hn,fun i x hx => ?_⟩
  obtain ⟨g,rfl,hb,hcell⟩:=hc i (.int .i64 x) (by simp [ints,hx])
  exact ⟨_,rfl,hb,by rw [add_at];exact hcell⟩
theorem own_below {w w1 : World} {base : Nat} {e : TypeId} {size n : Nat} {v : Value} {xs : List Value} (h : w.ownsRow base e size v n xs) (hb : Below w.heap.size w w1) : w1.ownsRow base e size v n xs:=by
  obtain ⟨h1,h2⟩:=h
  refine ⟨h1,?_⟩
  rcases h2 with h2 | ⟨g,cap,cur,hv,hg,hh,r⟩
  · exact Or.inl h2
  · exact Or.inr ⟨g,cap,cur,hv,hg,(hb.block g (Array.getElem?_eq_some_iff.1 hh).1).trans hh,r⟩
theorem own_base {w : World} {base : Nat} {e : TypeId} {size n : Nat} {v : Value} {xs : List Value} (h : w.ownsRow base e size v n xs) : ∀ k,v.ownBlock = some k → base ≤ k:=fun k hk => (h.lt k hk).1
theorem info3 : (Try.prog.info? 3).map (fun i => (i.zero,i.size,i.bytes)) = some (some (.int .i64 0),1,8):=by kernel_rfl

def GivesInts (w : World) (xs : List Int) (e : Ending) (w' : World) : Prop :=
  ∃ A c,e = .returned (.slice A xs.length c) ∧ xs.length ≤ c ∧ RI (w.heap.size ≤ ·) w' A xs ∧ Below w.heap.size w w'
end Go.Proofs.Ytpadgcomncljmaa.A
/- The small functions: bounds,the version of an article in force. -/
namespace Go.Proofs.Ytpadgcomncljmaa.A
open Go.RowKit

def inB (x lo hi : Int) : Bool:=decide (lo ≤ x) && decide (x ≤ hi)
theorem inB_iff (x lo hi : Int) : inB x lo hi = true ↔ lo ≤ x ∧ x ≤ hi:=by simp [inB]

theorem within_any (x lo hi : Int) (w : World) : Calls Try.prog 52 #[.int .i64 x,.int .i64 lo,.int .i64 hi] w fun e w' => e = .returned (.bool (inB x lo hi)) ∧ w = w':=by
  by_cases h : lo ≤ x
  · go_enter Try.func52,Try.ntmps52
    go_wp2
    go_ret
    exact ⟨by simp [inB,h],rfl⟩
  · have h':=decide_eq_false h
    go_enter Try.func52,Try.ntmps52
    go_wp2
    go_ret
    exact ⟨by simp [inB,h'],rfl⟩
theorem in_any (x lo hi : Int) (w : World) : Calls Try.prog 55 #[.int .i64 x,.int .i64 lo,.int .i64 hi] w fun e w' => e = .returned (.bool (inB x lo hi)) ∧ w = w':=by
  by_cases h : lo ≤ x
  · go_enter Try.func55,Try.ntmps55
    go_wp2
    go_ret
    exact ⟨by simp [inB,h],rfl⟩
  · have h':=decide_eq_false h
    go_enter Try.func55,Try.ntmps55
    go_wp2
    go_ret
    exact ⟨by simp [inB,h'],rfl⟩

def verStep (a m : Int) (r : Int) (x : Art × Nat) : Int:=if x.1.num = a ∧ x.1.since ≤ m then (x.2 : Int) else r
def verAt (l : List Art) (a m : Int) : Int:=l.zipIdx.foldl (verStep a m) (-1)
theorem verAt_snoc (l : List Art) (x : Art) (a m : Int) : verAt (l ++ [x]) a m = verStep a m (verAt l a m) (x,l.length):=by
  unfold verAt
  rw [List.zipIdx_append,List.foldl_append]
  simp

set_option maxHeartbeats 1000000 in
set_option maxRecDepth 100000 in
theorem version_any (c0 c2 c3 c4 c5 : Int) (A : Option Addr) (cap : Nat) (l : List Art) (art min : Int) (w : World) (hl : RArt Any w A l) (hn : l.length ≤ 1000000) :
    Calls Try.prog 81 #[.agg #[.int .i64 c0,.slice A l.length cap,.int .i64 c2,.int .i64 c3,.int .i64 c4,.int .i64 c5],.int .i64 art,.int .i64 min] w fun e w' => e = .returned (.tuple #[.int .i64 (verAt l art min),.bool (decide (0 ≤ verAt l art min))]) ∧ Below w.heap.size w w':=by
  have HL:=Aside.mk hl;clear hl;have hu71:=Try.underlying71
  go_enter Try.func81,Try.ntmps81
  go_wp2
  go_loopw [8,14] (fun v8 v14 wr => ∃ k : Nat,k ≤ l.length ∧ v14 = .int .i64 k ∧ v8 = .int .i64 (verAt (l.take k) art min) ∧ Below w.heap.size w wr) (fun _ i _ => l.length - (intOf i).toNat)
  case atStart => exact ⟨0,Nat.zero_le _,rfl,rfl,bel_alloc (Below.refl _ _) _⟩
  case round =>
    obtain ⟨k,hk,rfl,rfl,hB⟩:=hrel
    have HB:=Aside.mk hB;clear hB
    by_cases hlt : k < l.length
    · obtain ⟨x,hx⟩:=get_some hlt
      have HX:=Aside.mk (verAt_snoc (l.take k) x art min);have HD:=Aside.mk (drop_snoc hx);have HT:=Aside.mk (List.length_take_of_le hk)
      obtain ⟨ad,rfl,_,h0,h1,h2,h3⟩:=(HL.out.below HB.out) k x hx
      clear hx
      go_wp2
      all_goals
        go_roundw
        case rel => exact ⟨k + 1,by omega,by go_num,by rw [HD.out,HX.out,HT.out];unfold verStep;first | rw [if_pos (by dsimp only;omega)] | rw [if_neg (by dsimp only;omega)],bel_alloc HB.out _⟩
        case measure => simp [intOf];omega
    · have hke : k = l.length:=by omega
      clear hk
      subst hke
      go_wp2
      go_ret2
      exact ⟨by simp,HB.out⟩
end Go.Proofs.Ytpadgcomncljmaa.A
/- Which codes are as defined. -/
namespace Go.Proofs.Ytpadgcomncljmaa.A
open Go.RowKit

theorem isNaN_any (x : Int) (w : World) : Calls Try.prog 104 #[.int .i64 x] w fun e w' => e = .returned (.bool false) ∧ w = w':=by
  go_enter Try.func104,Try.ntmps104
  go_wp2
  go_ret
  exact ⟨by simp,rfl⟩

def cmpI (x y : Int) : Int:=if x < y then -1 else if x > y then 1 else 0
theorem cmpCompare_any (x y : Int) (w : World) : Calls Try.prog 83 #[.int .i64 x,.int .i64 y] w fun e w' => e = .returned (.int .i64 (cmpI x y)) ∧ w = w':=by
  rcases Int.lt_trichotomy x y with h | h | h
  all_goals
    go_enter Try.func83,Try.ntmps83
    go_wp2_with (go_at_call 104;refine (isNaN_any _ _).mono ?_;rintro e w' ⟨rfl,rfl⟩)
    all_goals
      go_ret
      exact ⟨ret_eq (by simp [cmpI] <;> omega),rfl⟩

theorem cmpCompare_still (x y : Int) (w : World) : Calls Try.prog 83 #[.int .i64 x,.int .i64 y] w fun e w' => e = .returned (.int .i64 (cmpI x y)) ∧ w' = w:=(cmpCompare_any x y w).mono fun _ _ h => ⟨h.1,h.2.symm⟩


def orI (x y : Int) : Int:=if x = 0 then y else x
theorem cmpOr_two (x y : Int) (g : Nat) (w : World) (h0 : w.cell? ⟨g,0,none⟩ = some (.int .i64 x)) (h1 : w.cell? ⟨g,1,none⟩ = some (.int .i64 y)) : Calls Try.prog 82 #[.slice (some ⟨g,0,none⟩) 2 2] w fun e w' => e = .returned (.int .i64 (orI x y)) ∧ w = w':=by
  by_cases hx : x = 0
  · subst hx
    by_cases hy : y = 0
    · subst hy
      go_enter Try.func82,Try.ntmps82
      go_wp2
      refine wp_loop_rounds 3 ?_;rw [rounds_succ];go_wp2;rw [rounds_succ];go_wp2;rw [rounds_succ];go_wp2
      go_ret
      exact ⟨by simp [orI],rfl⟩
    · go_enter Try.func82,Try.ntmps82
      go_wp2
      refine wp_loop_rounds 3 ?_;rw [rounds_succ];go_wp2;rw [rounds_succ];go_wp2
      go_ret
      exact ⟨by simp [orI],rfl⟩
  · go_enter Try.func82,Try.ntmps82
    go_wp2
    refine wp_loop_rounds 3 ?_;rw [rounds_succ];go_wp2
    go_ret
    exact ⟨by simp [orI,hx],rfl⟩

def codeHead (cars n win sec fee price : Int) : Bool:=inB cars 1 200 && inB n 1 500 && inB win 0 10000 && inB sec 0 10000 && inB fee 0 1000000000 && inB price 0 1000000000
def artOk (x : Art) : Bool:=inB x.num 1 10000 && inB x.since 0 10000000 && inB x.least 0 x.most && decide (x.most ≤ 36000000)
def artLt (x y : Art) : Bool:=decide (x.num < y.num ∨ (x.num = y.num ∧ x.since < y.since))
def artsB : Option Art → List Art → Bool
  | _,[] => true
  | none,x :: l => artOk x && artsB (some x) l
  | some y,x :: l => artOk x && artLt y x && artsB (some x) l
def codeB (cars win sec fee price : Int) (l : List Art) : Bool:=codeHead cars l.length win sec fee price && artsB none l

def okE (b : Bool) : Value:=.int .i64 (if b then 0 else 2)

theorem head_split {cars win sec fee price : Int} {l : List Art} (h1 : inB cars 1 200 = true) (h2 : inB l.length 1 500 = true) (h3 : inB win 0 10000 = true) (h4 : inB sec 0 10000 = true) (h5 : inB fee 0 1000000000 = true) (h6 : inB price 0 1000000000 = true) :
    codeB cars win sec fee price l = artsB none (l.drop 0):=by
  simp [codeB,codeHead,h1,h2,h3,h4,h5,h6]


theorem arts_bad {p : Option Art} {x : Art} {l : List Art} (h : artOk x = false) : artsB p (x :: l) = false:=by cases p <;> simp [artsB,h]
theorem arts_first {x : Art} {l : List Art} (h : artOk x = true) : artsB none (x :: l) = artsB (some x) l:=by simp [artsB,h]
theorem arts_next {x y : Art} {l : List Art} (h : artOk x = true) (h' : artLt y x = true) : artsB (some y) (x :: l) = artsB (some x) l:=by simp [artsB,h,h']
theorem arts_stop {x y : Art} {l : List Art} (h' : artLt y x = false) : artsB (some y) (x :: l) = false:=by simp [artsB,h']
theorem orI_ge (y x : Art) : (0 ≤ orI (cmpI y.num x.num) (cmpI y.since x.since)) ↔ artLt y x = false:=by
  unfold orI cmpI artLt
  rw [decide_eq_false_iff_not]
  repeat' split
  all_goals omega

set_option maxHeartbeats 1000000 in
set_option maxRecDepth 100000 in
theorem check_any (cars win sec fee price : Int) (A : Option Addr) (cap : Nat) (l : List Art) (w : World) (hl : RArt Any w A l) (hn : l.length ≤ 1000000) :
    Calls Try.prog 41 #[.agg #[.int .i64 cars,.slice A l.length cap,.int .i64 win,.int .i64 sec,.int .i64 fee,.int .i64 price]] w fun e w' => e = .returned (okE (codeB cars win sec fee price l)) ∧ Below w.heap.size w w':=by
  have HL:=Aside.mk hl;clear hl;have hu71:=Try.underlying71
  by_cases hh : codeHead cars l.length win sec fee price = true
  rotate_left
  · have HH:=Aside.mk hh
    clear hh
    go_enter Try.func41,Try.ntmps41
    go_wp2_with (go_at_call 52;refine (within_any _ _ _ _).mono ?_;rintro e w' ⟨rfl,rfl⟩)
    all_goals first
      | (go_ret;exact ⟨ret_eq (by rw [show codeB cars win sec fee price l = false by simp [codeB,HH.out]];rfl),bel_alloc (Below.refl _ _) _⟩)
      | (exfalso;have:=HH.out;simp_all [codeHead];done)
  have hh':=hh;simp only [codeHead,Bool.and_eq_true] at hh'
  obtain ⟨⟨⟨⟨⟨h1,h2⟩,h3⟩,h4⟩,h5⟩,h6⟩:=hh'
  have HE:=Aside.mk (head_split h1 h2 h3 h4 h5 h6);clear hh
  go_enter Try.func41,Try.ntmps41
  go_wp2_with (go_at_call 52;refine (within_any _ _ _ _).mono ?_;rintro e w' ⟨rfl,rfl⟩)
  go_loopw [44] (fun v44 wr => ∃ k : Nat,k ≤ l.length ∧ v44 = .int .i64 k ∧ Aside (codeB cars win sec fee price l = artsB (prev l k) (l.drop k)) ∧ Aside (wr.heap[w.heap.size]? = some (.cells #[.int .i64 cars,.slice A l.length cap,.int .i64 win,.int .i64 sec,.int .i64 fee,.int .i64 price] 33 (0,0))) ∧ Below w.heap.size w wr) (fun i _ => l.length - (intOf i).toNat)
  case atStart => exact ⟨0,Nat.zero_le _,rfl,HE,⟨heap_alloc_new w _⟩,bel_alloc (Below.refl _ _) _⟩
  case round =>
    obtain ⟨k,hk,rfl,HE,HW,hB⟩:=hrel
    have HB:=Aside.mk hB;clear hB
    by_cases hlt : k < l.length
    · obtain ⟨x,hx⟩:=get_some hlt
      have HX:=Aside.mk hx;have HD:=Aside.mk (drop_get hx);have hc1 : wr.cell? ⟨w.heap.size,1,none⟩ = some (.slice A l.length cap):=(cell_of_row wr _ 1 _ _ _ HW.out).trans rfl;have hlw : w.heap.size < wr.heap.size:=(Array.getElem?_eq_some_iff.1 HW.out).1
      obtain ⟨ad,rfl,_,h0,h1,h2,h3⟩:=(HL.out.below HB.out) k x hx
      clear hx
      by_cases hk0 : 0 < k
      · obtain ⟨y,hy⟩:=get_some (show k - 1 < l.length by omega)
        obtain ⟨ad',had,_,g0,g1,g2,g3⟩:=(HL.out.below HB.out) (k - 1) y hy
        cases had
        have HY:=Aside.mk (show prev l k = some y by unfold prev;rw [if_neg (by omega)];exact hy);clear hy;replace g0:=cell_alloc g0;replace g1:=cell_alloc g1;replace g2:=cell_alloc g2;replace g3:=cell_alloc g3;have hi : ((k : Int) - 1).toNat = k - 1:=by omega
        go_wp2_with (go_at_call 52;refine (within_any _ _ _ _).mono ?_;rintro e w' ⟨rfl,rfl⟩)
        all_goals first
          | (go_ret;refine ⟨ret_eq ?_,bel_alloc HB.out _⟩;rw [HE.out,HD.out,arts_bad (by simp_all [artOk] <;> omega)];rfl)
          | skip
        refine wp_region_still_tail 10 (by kernel_rfl) (by kernel_rfl) ?_;simp only [List.take_succ_cons,List.take_zero,List.drop_succ_cons,List.drop_zero]
        change wpStill _ _ (World.drew _) _ _ _
        repeat (first | still_step | still_call (cmpCompare_still _ _ _))
        refine wpStill_nil ?_
        change wpList _ _ _ _ _ (World.drew _)
        go_wp2_with fail
        refine (cmpOr_two (cmpI y.num x.num) (cmpI y.since x.since) _ _ (by go_simp) (by go_simp)).mono ?_
        rintro e w' ⟨rfl,rfl⟩
        by_cases hlt : artLt y x = false
        · have hge:=(orI_ge y x).2 hlt
          have HLT:=Aside.mk hlt;clear hlt
          go_wp2
          go_ret
          exact ⟨ret_eq (by rw [HE.out,HD.out,HY.out,arts_stop HLT.out];rfl),bel_drew (bel_alloc (bel_alloc (bel_alloc HB.out _) _) _)⟩
        · have hge : orI (cmpI y.num x.num) (cmpI y.since x.since) < 0:=by
            have:=mt (orI_ge y x).1 hlt
            omega
          have HLT:=Aside.mk (show artLt y x = true by simpa using hlt);clear hlt
          go_wp2
          go_roundw
          case rel => exact ⟨k + 1,by omega,by go_num,⟨by rw [HE.out,HD.out,HY.out,prev_succ l k x HX.out,arts_next (by simp_all [artOk]) HLT.out]⟩,⟨(Below.heap_alloc _ _ _ (by simp;omega)).trans ((Below.heap_alloc _ _ _ (by simp;omega)).trans ((Below.heap_alloc wr _ _ hlw).trans HW.out))⟩,bel_drew (bel_alloc (bel_alloc (bel_alloc HB.out _) _) _)⟩
          case measure => simp [intOf];omega
      · have hk1 : k < 1:=by omega
        have HP:=Aside.mk (show prev l k = none by unfold prev;rw [if_pos (by omega)])
        go_wp2_with (go_at_call 52;refine (within_any _ _ _ _).mono ?_;rintro e w' ⟨rfl,rfl⟩)
        all_goals first
          | (go_ret;refine ⟨ret_eq ?_,bel_alloc HB.out _⟩;rw [HE.out,HD.out,HP.out,arts_bad (by simp_all [artOk] <;> omega)];rfl)
          | skip
        go_roundw
        case rel => exact ⟨k + 1,by omega,by go_num,⟨by rw [HE.out,HD.out,HP.out,prev_succ l k x HX.out,arts_first (by simp_all [artOk])]⟩,⟨(Below.heap_alloc wr _ _ hlw).trans HW.out⟩,bel_alloc HB.out _⟩
        case measure => simp [intOf];omega
    · have hke : k = l.length:=by omega
      clear hk
      subst hke
      go_wp2
      go_ret
      exact ⟨ret_eq (by rw [HE.out];simp [artsB,okE]),HB.out⟩
end Go.Proofs.Ytpadgcomncljmaa.A
/- A court in memory,and its small methods. -/
namespace Go.Proofs.Ytpadgcomncljmaa.A
open Go.RowKit

structure CodeL where
  cars : Int
  arts : List Art
  win : Int
  sec : Int
  fee : Int
  price : Int

def CourtR (w : World) (g : Nat) (C : CodeL) (acts : List ActL) (files : List FileL) : Prop :=
  ∃ A1 c1 A7 c7 A8 c8, w.heap[g]? = some (.cells #[.int .i64 C.cars, .slice A1 C.arts.length c1, .int .i64 C.win, .int .i64 C.sec, .int .i64 C.fee, .int .i64 C.price, .bool true, .slice A7 acts.length c7, .slice A8 files.length c8] 99 (0, 0)) ∧
    RArt Any w A1 C.arts ∧ RAct Any w A7 acts ∧ RFile Any w A8 files ∧ C.arts.length ≤ 1000000 ∧ acts.length ≤ 1000000 ∧ files.length ≤ acts.length

theorem CourtR.below {w w' : World} {g : Nat} {C : CodeL} {acts : List ActL} {files : List FileL} (h : CourtR w g C acts files) (hb : Below w.heap.size w w') : CourtR w' g C acts files:=by
  obtain ⟨A1,c1,A7,c7,A8,c8,hg,h1,h2,h3,h4⟩:=h
  exact ⟨A1,c1,A7,c7,A8,c8,(hb.block g (Array.getElem?_eq_some_iff.1 hg).1).trans hg,h1.below hb,h2.below hb,h3.below hb,h4⟩

theorem blk_cell {w : World} {g : Nat} {t : TypeId} {cs : Array Value} (h : w.heap[g]? = some (.cells cs t (0,0))) (i : Nat) {v : Value} (hv : cs[i]? = some v:=by rfl) : w.cell? ⟨g,i,none⟩ = some v:=(cell_of_row w g i cs t (0,0) h).trans hv
theorem blk_lt {w : World} {g : Nat} {o : Obj} (h : w.heap[g]? = some o) : g < w.heap.size:=(Array.getElem?_eq_some_iff.1 h).1

theorem court0 {w : World} {g : Nat} {C : CodeL} {A1 A7 A8 : Option Addr} {c1 c7 c8 : Nat} {acts : List ActL} {files : List FileL} (h : w.heap[g]? = some (.cells #[.int .i64 C.cars,.slice A1 C.arts.length c1,.int .i64 C.win,.int .i64 C.sec,.int .i64 C.fee,.int .i64 C.price,.bool true,.slice A7 acts.length c7,.slice A8 files.length c8] 99 (0,0))) : w.cell? ⟨g,0,none⟩ = some (.int .i64 C.cars):=blk_cell h 0
theorem court1 {w : World} {g : Nat} {C : CodeL} {A1 A7 A8 : Option Addr} {c1 c7 c8 : Nat} {acts : List ActL} {files : List FileL} (h : w.heap[g]? = some (.cells #[.int .i64 C.cars,.slice A1 C.arts.length c1,.int .i64 C.win,.int .i64 C.sec,.int .i64 C.fee,.int .i64 C.price,.bool true,.slice A7 acts.length c7,.slice A8 files.length c8] 99 (0,0))) : w.cell? ⟨g,1,none⟩ = some (.slice A1 C.arts.length c1):=blk_cell h 1
theorem court2 {w : World} {g : Nat} {C : CodeL} {A1 A7 A8 : Option Addr} {c1 c7 c8 : Nat} {acts : List ActL} {files : List FileL} (h : w.heap[g]? = some (.cells #[.int .i64 C.cars,.slice A1 C.arts.length c1,.int .i64 C.win,.int .i64 C.sec,.int .i64 C.fee,.int .i64 C.price,.bool true,.slice A7 acts.length c7,.slice A8 files.length c8] 99 (0,0))) : w.cell? ⟨g,2,none⟩ = some (.int .i64 C.win):=blk_cell h 2
theorem court3 {w : World} {g : Nat} {C : CodeL} {A1 A7 A8 : Option Addr} {c1 c7 c8 : Nat} {acts : List ActL} {files : List FileL} (h : w.heap[g]? = some (.cells #[.int .i64 C.cars,.slice A1 C.arts.length c1,.int .i64 C.win,.int .i64 C.sec,.int .i64 C.fee,.int .i64 C.price,.bool true,.slice A7 acts.length c7,.slice A8 files.length c8] 99 (0,0))) : w.cell? ⟨g,3,none⟩ = some (.int .i64 C.sec):=blk_cell h 3
theorem court4 {w : World} {g : Nat} {C : CodeL} {A1 A7 A8 : Option Addr} {c1 c7 c8 : Nat} {acts : List ActL} {files : List FileL} (h : w.heap[g]? = some (.cells #[.int .i64 C.cars,.slice A1 C.arts.length c1,.int .i64 C.win,.int .i64 C.sec,.int .i64 C.fee,.int .i64 C.price,.bool true,.slice A7 acts.length c7,.slice A8 files.length c8] 99 (0,0))) : w.cell? ⟨g,4,none⟩ = some (.int .i64 C.fee):=blk_cell h 4
theorem court5 {w : World} {g : Nat} {C : CodeL} {A1 A7 A8 : Option Addr} {c1 c7 c8 : Nat} {acts : List ActL} {files : List FileL} (h : w.heap[g]? = some (.cells #[.int .i64 C.cars,.slice A1 C.arts.length c1,.int .i64 C.win,.int .i64 C.sec,.int .i64 C.fee,.int .i64 C.price,.bool true,.slice A7 acts.length c7,.slice A8 files.length c8] 99 (0,0))) : w.cell? ⟨g,5,none⟩ = some (.int .i64 C.price):=blk_cell h 5
theorem court6 {w : World} {g : Nat} {C : CodeL} {A1 A7 A8 : Option Addr} {c1 c7 c8 : Nat} {acts : List ActL} {files : List FileL} (h : w.heap[g]? = some (.cells #[.int .i64 C.cars,.slice A1 C.arts.length c1,.int .i64 C.win,.int .i64 C.sec,.int .i64 C.fee,.int .i64 C.price,.bool true,.slice A7 acts.length c7,.slice A8 files.length c8] 99 (0,0))) : w.cell? ⟨g,6,none⟩ = some (.bool true):=blk_cell h 6
theorem court7 {w : World} {g : Nat} {C : CodeL} {A1 A7 A8 : Option Addr} {c1 c7 c8 : Nat} {acts : List ActL} {files : List FileL} (h : w.heap[g]? = some (.cells #[.int .i64 C.cars,.slice A1 C.arts.length c1,.int .i64 C.win,.int .i64 C.sec,.int .i64 C.fee,.int .i64 C.price,.bool true,.slice A7 acts.length c7,.slice A8 files.length c8] 99 (0,0))) : w.cell? ⟨g,7,none⟩ = some (.slice A7 acts.length c7):=blk_cell h 7
theorem court8 {w : World} {g : Nat} {C : CodeL} {A1 A7 A8 : Option Addr} {c1 c7 c8 : Nat} {acts : List ActL} {files : List FileL} (h : w.heap[g]? = some (.cells #[.int .i64 C.cars,.slice A1 C.arts.length c1,.int .i64 C.win,.int .i64 C.sec,.int .i64 C.fee,.int .i64 C.price,.bool true,.slice A7 acts.length c7,.slice A8 files.length c8] 99 (0,0))) : w.cell? ⟨g,8,none⟩ = some (.slice A8 files.length c8):=blk_cell h 8
theorem actBox {W : World} {b : Nat} {A8 : Option Addr} {c8 : Nat} {x : ActL} (h : W.heap[b]? = some (.cells #[.int .i64 x.kind, .int .i64 x.minute, .int .i64 x.paper, .int .i64 x.case_, .int .i64 x.by_, .int .i64 x.against, .int .i64 x.art, .int .i64 x.at_, .slice A8 x.facts.length c8, .int .i64 x.paid, .bool x.up, .int .i64 x.pen] 43 (0, 0))) :
    W.cell? ⟨b,0,none⟩ = some (.int .i64 x.kind) ∧ W.cell? ⟨b,1,none⟩ = some (.int .i64 x.minute) ∧ W.cell? ⟨b,2,none⟩ = some (.int .i64 x.paper) ∧ W.cell? ⟨b,3,none⟩ = some (.int .i64 x.case_) ∧ W.cell? ⟨b,4,none⟩ = some (.int .i64 x.by_) ∧ W.cell? ⟨b,5,none⟩ = some (.int .i64 x.against) ∧ W.cell? ⟨b,6,none⟩ = some (.int .i64 x.art) ∧ W.cell? ⟨b,7,none⟩ = some (.int .i64 x.at_) ∧ W.cell? ⟨b,8,none⟩ = some (.slice A8 x.facts.length c8) ∧ W.cell? ⟨b,9,none⟩ = some (.int .i64 x.paid) ∧ W.cell? ⟨b,10,none⟩ = some (.bool x.up) ∧ W.cell? ⟨b,11,none⟩ = some (.int .i64 x.pen) :=
  ⟨blk_cell h 0,blk_cell h 1,blk_cell h 2,blk_cell h 3,blk_cell h 4,blk_cell h 5,blk_cell h 6,blk_cell h 7,blk_cell h 8,blk_cell h 9,blk_cell h 10,blk_cell h 11⟩
def pan (e : Int) : Ending:=.panicked [{ v:=.iface 109 (.agg #[.int .i64 e]),recovered:=false }]

theorem refuse_no (e : Int) (w : World) : Calls Try.prog 96 #[.bool false,.int .i64 e] w fun r w' => r = .returned (.tuple #[]) ∧ w = w':=by
  go_enter Try.func96,Try.ntmps96
  go_wp2
  go_end0
  exact ⟨rfl,rfl⟩
theorem refuse_yes (e : Int) (w : World) : Calls Try.prog 96 #[.bool true,.int .i64 e] w fun r w' => r = pan e ∧ w = w':=by
  go_enter Try.func96,Try.ntmps96
  go_wp2
  exact ⟨rfl,rfl,rfl⟩

theorem ready_any (g : Nat) (b : Bool) (w : World) (h : w.cell? ⟨g,6,none⟩ = some (.bool b)) : Calls Try.prog 61 #[.pointer (some ⟨g,0,none⟩)] w fun r w' => r = .returned (.bool b) ∧ w = w':=by
  go_enter Try.func61,Try.ntmps61
  go_wp2
  go_ret
  exact ⟨rfl,rfl⟩

set_option maxHeartbeats 1000000 in
set_option maxRecDepth 100000 in
theorem there_any (g : Nat) (C : CodeL) (acts : List ActL) (files : List FileL) (p : Nat) (A : Option Addr) (n c : Nat) (min : Int) (x : ActL) (w : World) (hC : CourtR w g C acts files) (hx : acts[p]? = some x) :
    Calls Try.prog 72 #[.pointer (some ⟨g,0,none⟩),.agg #[.int .i64 p,.slice A n c],.int .i64 min] w fun r w' => r = .returned (.bool (decide (x.minute ≤ min))) ∧ Below w.heap.size w w':=by
  obtain ⟨A1,c1,A7,c7,A8,c8,hg,_,h2,_,_,hn,_⟩:=hC
  have h7:=court7 hg;have hp : p < acts.length:=(List.getElem?_eq_some_iff.1 hx).1
  obtain ⟨ad,B8,d8,rfl,_,ha⟩:=h2 p x hx
  obtain ⟨_,g1,_⟩:=ha
  have hgl:=blk_lt hg;replace g1:=cell_alloc g1;clear hg hx h2
  go_enter Try.func72,Try.ntmps72
  go_wp2
  go_quiet (fail)
  go_wp2
  go_ret
  exact ⟨rfl,bel_drewN (bel_alloc (Below.refl _ _) _) _⟩

def isPub (p : Int) (x : ActL) : Bool:=(x.kind == 1) && (x.paper == p)

set_option maxHeartbeats 1000000 in
set_option maxRecDepth 100000 in
theorem pubClosure_any (B : Nat) (p : Int) (A8 : Option Addr) (c8 : Nat) (x : ActL) (w : World) (hB : w.cell? ⟨B, 0, none⟩ = some (.int .i64 p)) :
    Calls Try.prog 110 #[.agg #[.int .i64 x.kind,.int .i64 x.minute,.int .i64 x.paper,.int .i64 x.case_,.int .i64 x.by_,.int .i64 x.against,.int .i64 x.art,.int .i64 x.at_,.slice A8 x.facts.length c8,.int .i64 x.paid,.bool x.up,.int .i64 x.pen],.pointer (some ⟨B,0,none⟩)] w fun r w' => r = .returned (.bool (isPub p x)) ∧ Below w.heap.size w w':=by
  have hl:=lt_of_cell hB;have hB':=cell_alloc hB;clear hB
  by_cases hk : (x.kind == 1) = true
  · go_enter Try.func110,Try.ntmps110
    go_wp2
    go_ret
    exact ⟨ret_eq (by simp [isPub,hk]),bel_alloc (Below.refl _ _) _⟩
  · have hk' : (x.kind == 1) = false:=by simpa using hk
    clear hk
    go_enter Try.func110,Try.ntmps110
    go_wp2
    go_ret
    exact ⟨ret_eq (by simp [isPub,hk']),bel_alloc (Below.refl _ _) _⟩

def idxGo (q : ActL → Bool) : List ActL → Int → Int
  | [],_ => -1
  | x :: l,i => if q x then i else idxGo q l (i + 1)
theorem idx_hit {q : ActL → Bool} {x : ActL} {l : List ActL} {i : Int} (h : q x = true) : idxGo q (x :: l) i = i:=by simp [idxGo,h]
theorem idx_miss {q : ActL → Bool} {x : ActL} {l : List ActL} {i : Int} (h : q x = false) : idxGo q (x :: l) i = idxGo q l (i + 1):=by simp [idxGo,h]

set_option maxHeartbeats 1000000 in
set_option maxRecDepth 100000 in
theorem indexFunc_pub (B : Nat) (p : Int) (A : Option Addr) (ca : Nat) (l : List ActL) (w : World) (hB : w.cell? ⟨B, 0, none⟩ = some (.int .i64 p)) (ha : RAct Any w A l) (hn : l.length ≤ 1000000) :
    Calls Try.prog 86 #[.slice A l.length ca,.func (.func 110) #[] #[.pointer (some ⟨B,0,none⟩)]] w fun r w' => r = .returned (.int .i64 (idxGo (isPub p) l 0)) ∧ Below w.heap.size w w':=by
  have HA:=Aside.mk ha;have HP:=Aside.mk hB;clear ha hB;have hu43:=Try.underlying43
  go_enter Try.func86,Try.ntmps86
  go_wp2
  go_loopw [8] (fun v8 wr => ∃ k : Nat,k ≤ l.length ∧ v8 = .int .i64 k ∧ Aside (idxGo (isPub p) l 0 = idxGo (isPub p) (l.drop k) k) ∧ Below w.heap.size w wr) (fun i _ => l.length - (intOf i).toNat)
  case atStart => exact ⟨0,Nat.zero_le _,rfl,⟨by simp⟩,Below.refl _ _⟩
  case round =>
    obtain ⟨k,hk,rfl,HE,hB⟩:=hrel
    have HW:=Aside.mk hB;clear hB
    by_cases hlt : k < l.length
    · obtain ⟨x,hx⟩:=get_some hlt
      have HX:=Aside.mk (drop_get hx)
      obtain ⟨ad,B8,d8,rfl,_,ha⟩:=(HA.out.below HW.out) k x hx
      obtain ⟨h0,h1,h2,h3,h4,h5,h6,h7,h8,h9,h10,h11,_,_⟩:=ha
      have HC:=Aside.mk (pubClosure_any B p B8 d8 x wr ((HW.out.cell (p:=⟨B,0,none⟩) (lt_of_cell HP.out)).trans HP.out));clear hx
      go_wp2_with fail
      refine HC.out.mono ?_
      rintro r w1 ⟨rfl,hb1⟩
      have HB1:=Aside.mk (bel_then HW.out hb1);clear hb1 HC h0 h1 h2 h3 h4 h5 h6 h7 h8 h9 h10 h11
      by_cases hq : isPub p x = true
      · have HQ:=Aside.mk hq
        go_wp2
        go_ret
        exact ⟨ret_eq (by rw [HE.out,HX.out,idx_hit HQ.out];rfl),HB1.out⟩
      · have hq' : isPub p x = false:=by simpa using hq
        have HQ:=Aside.mk hq';clear hq
        go_wp2
        go_roundw
        case rel => exact ⟨k + 1,by omega,by go_num,⟨by rw [HE.out,HX.out,idx_miss HQ.out];rfl⟩,HB1.out⟩
        case measure => simp [intOf];omega
    · have hke : k = l.length:=by omega
      have HK:=Aside.mk (show idxGo (isPub p) l 0 = -1 by rw [HE.out,hke];simp [idxGo]);clear hke
      go_wp2
      go_ret
      exact ⟨ret_eq (by rw [HK.out];rfl),HW.out⟩
end Go.Proofs.Ytpadgcomncljmaa.A
/- A court: papers,cases,the state of a case. -/
namespace Go.Proofs.Ytpadgcomncljmaa.A
open Go.RowKit

structure Wf (C : CodeL) (acts : List ActL) (files : List FileL) : Prop where
  sec : 0 ≤ C.sec ∧ C.sec ≤ 10000
  win : 0 ≤ C.win ∧ C.win ≤ 10000
  fee : 0 ≤ C.fee ∧ C.fee ≤ 1000000000
  price : 0 ≤ C.price ∧ C.price ≤ 1000000000
  minute : ∀ x : ActL,x ∈ acts → 0 ≤ x.minute ∧ x.minute ≤ 10000000
  file : ∀ f : FileL, f ∈ files → (∃ (p : Nat) (x : ActL), f.protest = p ∧ acts[p]? = some x ∧ 0 ≤ verAt C.arts x.art x.at_) ∧ f.acts ≠ [] ∧ f.acts.length ≤ acts.length ∧
    ∀ i : Int,i ∈ f.acts → ∃ (n : Nat) (x : ActL),i = n ∧ acts[n]? = some x

theorem idx_spec (q : ActL → Bool) : ∀ (l : List ActL) (i : Int),(l.find? q = none ∧ idxGo q l i = -1) ∨ ∃ (k : Nat) (x : ActL),l[k]? = some x ∧ l.find? q = some x ∧ idxGo q l i = i + k:=by
  intro l
  induction l with
  | nil => intro i;exact .inl ⟨rfl,rfl⟩
  | cons x l ih =>
    intro i
    by_cases h : q x = true
    · exact .inr ⟨0,x,rfl,by simp [List.find?,h],by simp [idxGo,h]⟩
    · have h' : q x = false:=by simpa using h
      rcases ih (i + 1) with ⟨h1,h2⟩ | ⟨k,y,h1,h2,h3⟩
      · exact .inl ⟨by simp [List.find?,h',h1],by simp [idxGo,h',h2]⟩
      · exact .inr ⟨k + 1,y,by simpa using h1,by simp [List.find?,h',h2],by simp [idxGo,h',h3];omega⟩

def pubMin (l : List ActL) (p : Int) : Int:=match l.find? (isPub p) with | none => -1 | some x => x.minute

set_option maxHeartbeats 1000000 in
set_option maxRecDepth 100000 in
theorem published_any (g : Nat) (C : CodeL) (acts : List ActL) (files : List FileL) (p : Int) (w : World) (hC : CourtR w g C acts files) :
    Calls Try.prog 97 #[.pointer (some ⟨g,0,none⟩),.int .i64 p] w fun r w' => r = .returned (.int .i64 (pubMin acts p)) ∧ Below w.heap.size w w':=by
  have HC:=Aside.mk hC
  obtain ⟨A1,c1,A7,c7,A8,c8,hg,_,h2,_,_,hn,_⟩:=hC
  have h7:=court7 hg;have hgl:=blk_lt hg;have HB0:=Aside.mk (bel_alloc (Below.refl _ w) (.cells #[.int .i64 p] 3));have H2:=Aside.mk (h2.below HB0.out);have H7:=Aside.mk h7;clear hg h2
  rcases idx_spec (isPub p) acts 0 with ⟨e1,e2⟩ | ⟨k,x,e1,e2,e3⟩
  · have E1:=Aside.mk (show pubMin acts p = -1 by simp [pubMin,e1])
    have E2:=Aside.mk e2;clear e1 e2
    go_enter Try.func97,Try.ntmps97
    go_wp2_with fail
    refine (indexFunc_pub _ p _ _ acts _ (by go_simp) H2.out hn).mono ?_
    rintro r w1 ⟨rfl,hb1⟩
    rw [E2.out];have HB1:=Aside.mk hb1;clear hb1 h7
    go_wp2
    go_ret
    exact ⟨ret_eq (by rw [E1.out];rfl),bel_then HB0.out HB1.out⟩
  · have E1:=Aside.mk (show pubMin acts p = x.minute by simp [pubMin,e2])
    have E2:=Aside.mk (show idxGo (isPub p) acts 0 = (k : Int) by rw [e3];omega);have E3:=Aside.mk e1;clear e1 e2 e3
    go_enter Try.func97,Try.ntmps97
    go_wp2_with fail
    refine (indexFunc_pub _ p _ _ acts _ (by go_simp) H2.out hn).mono ?_
    rintro r w1 ⟨rfl,hb1⟩
    rw [E2.out];have HB1:=Aside.mk (bel_then HB0.out hb1)
    obtain ⟨ad,B8,d8,rfl,_,ha⟩:=(H2.out.below hb1) k x E3.out
    obtain ⟨_,g1,_⟩:=ha
    have h7':=(HB1.out.cell (p:=⟨g,7,none⟩) hgl).trans H7.out;have hk : k < acts.length:=(List.getElem?_eq_some_iff.1 E3.out).1;clear hb1 h7
    go_wp2
    go_ret
    exact ⟨ret_eq (by rw [E1.out];rfl),HB1.out⟩

set_option maxHeartbeats 1000000 in
set_option maxRecDepth 100000 in
theorem file_none (g : Nat) (C : CodeL) (acts : List ActL) (files : List FileL) (n : Int) (w : World) (hC : CourtR w g C acts files) (hn : (files.length : Int) ≤ n) :
    Calls Try.prog 98 #[.pointer (some ⟨g,0,none⟩),.int .i64 n] w fun r w' => r = pan 5 ∧ Below w.heap.size w w':=by
  obtain ⟨A1,c1,A7,c7,A8,c8,hg,_,_,h3,_,hm,hf⟩:=hC
  have h8:=court8 hg;have hgl:=blk_lt hg;clear hg
  go_enter Try.func98,Try.ntmps98
  go_wp2_with fail
  refine (refuse_yes _ _).mono ?_
  rintro r w1 ⟨rfl,rfl⟩
  exact ⟨rfl,rfl,bel_alloc (Below.refl _ _) _⟩

def GivesFile (w : World) (f : FileL) (r : Ending) (w' : World) : Prop :=
  ∃ A c,r = .returned (.agg #[.int .i64 f.protest,.slice A f.acts.length c]) ∧ f.acts.length ≤ c ∧ RI Any w' A f.acts ∧ Below w.heap.size w w'

set_option maxHeartbeats 1000000 in
set_option maxRecDepth 100000 in
theorem file_some (g : Nat) (C : CodeL) (acts : List ActL) (files : List FileL) (n : Nat) (f : FileL) (w : World) (hC : CourtR w g C acts files) (hf : files[n]? = some f) :
    Calls Try.prog 98 #[.pointer (some ⟨g,0,none⟩),.int .i64 n] w (GivesFile w f):=by
  obtain ⟨A1,c1,A7,c7,A8,c8,hg,_,_,h3,_,hm,hfl⟩:=hC
  have h8:=court8 hg;have hgl:=blk_lt hg;have hn : n < files.length:=(List.getElem?_eq_some_iff.1 hf).1;have HB:=Aside.mk (bel_alloc (Below.refl _ w) (.cells #[.int .i64 0,.slice none 0 0] 115))
  obtain ⟨ad,B1,d1,rfl,_,h0,h1,hl,hr⟩:=h3 n f hf
  have HR:=Aside.mk hr;have hbl : (ad.add (n * 2)).block < w.heap.size:=lt_of_cell h0;replace h0:=cell_alloc h0;replace h1:=cell_alloc h1;have hu:=Try.underlying115;have hnd : decide (files.length ≤ n) = false:=by simp;omega
  clear hg hf h3 hr
  go_enter Try.func98,Try.ntmps98
  go_wp2_with fail
  refine (refuse_no _ _).mono ?_
  rintro r w1 ⟨rfl,rfl⟩
  go_wp2
  refine bodyPost_ret (v:=.agg #[.int .i64 f.protest,.slice B1 f.acts.length d1]) (by simp [results,Try.results98,go_sem]) rfl ?_;have hb:=bel_alloc (Below.refl _ w) (.cells #[.int .i64 f.protest,.slice B1 f.acts.length d1] 115);exact ⟨B1,d1,rfl,hl,HR.out.below hb,hb⟩
end Go.Proofs.Ytpadgcomncljmaa.A
/- The state of a case,its last act,its ruling. -/
namespace Go.Proofs.Ytpadgcomncljmaa.A
open Go.RowKit

def stStep (sec min : Int) (x : ActL) (s : Int) : Int:=if x.kind = 6 then 2 else if x.kind = 3 then (if min - x.minute > sec then 5 else 3) else if x.kind = 4 then 4 else if x.kind = 5 then 5 else s
def stGo (sec : Int) (acts : List ActL) (min : Int) : List Int → Int → Int
  | [],s => s
  | i :: l, s => match acts[i.toNat]? with
    | none => s
    | some x => if x.minute > min then s else stGo sec acts min l (stStep sec min x s)
theorem st_stop {sec min s : Int} {acts : List ActL} {n : Nat} {x : ActL} {l : List Int} (hx : acts[n]? = some x) (h : min < x.minute) : stGo sec acts min ((n : Int) :: l) s = s:=by
  rw [stGo];simp [hx,h]
theorem st_go {sec min s : Int} {acts : List ActL} {n : Nat} {x : ActL} {l : List Int} (hx : acts[n]? = some x) (h : x.minute ≤ min) : stGo sec acts min ((n : Int) :: l) s = stGo sec acts min l (stStep sec min x s):=by
  rw [stGo];simp only [Int.toNat_natCast,hx];rw [if_neg (by omega)]

set_option maxHeartbeats 2000000 in
set_option maxRecDepth 100000 in
theorem state_any (g : Nat) (C : CodeL) (acts : List ActL) (files : List FileL) (f : FileL) (p : Int) (A : Option Addr) (c : Nat) (min : Int) (w : World) (hC : CourtR w g C acts files) (hwf : Wf C acts files)
    (hf : RI Any w A f.acts) (hv : ∀ i : Int,i ∈ f.acts → ∃ (n : Nat) (x : ActL),i = n ∧ acts[n]? = some x) (hfl : f.acts.length ≤ acts.length) (hm0 : 0 ≤ min) (hm1 : min ≤ 10000000) :
    Calls Try.prog 73 #[.pointer (some ⟨g,0,none⟩),.agg #[.int .i64 p,.slice A f.acts.length c],.int .i64 min] w fun r w' => r = .returned (.int .i64 (stGo C.sec acts min f.acts 1)) ∧ Below w.heap.size w w':=by
  have HC:=Aside.mk hC;have HF:=Aside.mk hf;have HV:=Aside.mk hv;have HWF:=Aside.mk hwf;have hn : acts.length ≤ 1000000:=by obtain ⟨_,_,_,_,_,_,_,_,_,_,_,h,_⟩:=hC;exact h
  clear hC hf hv hwf;have hu43:=Try.underlying43;have hs0:=HWF.out.sec.1;have hs1:=HWF.out.sec.2
  go_enter Try.func73,Try.ntmps73
  go_wp2
  go_loopw [7,14] (fun v7 v14 wr => ∃ (k : Nat) (s : Int),k ≤ f.acts.length ∧ v14 = .int .i64 k ∧ v7 = .int .i64 s ∧ Aside (stGo C.sec acts min f.acts 1 = stGo C.sec acts min (f.acts.drop k) s) ∧ Below w.heap.size w wr) (fun _ i _ => f.acts.length - (intOf i).toNat)
  case atStart => exact ⟨0,1,Nat.zero_le _,rfl,rfl,⟨by simp⟩,bel_alloc (Below.refl _ _) _⟩
  case round =>
    obtain ⟨k,s,hk,rfl,rfl,HE,hB⟩:=hrel
    have HW:=Aside.mk hB;clear hB
    by_cases hlt : k < f.acts.length
    · obtain ⟨i,hi⟩:=get_some hlt
      have HX:=Aside.mk (drop_get hi)
      obtain ⟨n,x,rfl,hx⟩:=HV.out i (List.mem_of_getElem? hi)
      have hnl : n < acts.length:=(List.getElem?_eq_some_iff.1 hx).1
      obtain ⟨ad,rfl,_,hi0⟩:=(HF.out.below HW.out) k _ hi
      obtain ⟨A1,c1,A7,c7,A8,c8,hg,_,h2,_,_,_,_⟩:=HC.out.below HW.out
      have h7:=court7 hg;have h3:=court3 hg;have hgl:=blk_lt hg
      obtain ⟨bd,B8,d8,rfl,_,ha⟩:=h2 n x hx
      obtain ⟨g0,g1,g2,g3,g4,g5,g6,g7,g8,g9,g10,g11,_,_⟩:=ha
      have hxm:=HWF.out.minute x (List.mem_of_getElem? hx)
      obtain ⟨hxm0,hxm1⟩:=hxm
      have HXX:=Aside.mk hx;clear hi hx h2 hg
      by_cases hlate : min < x.minute
      · have HL:=Aside.mk hlate
        go_wp2
        go_ret
        exact ⟨ret_eq (by rw [HE.out,HX.out,st_stop HXX.out HL.out];rfl),bel_alloc HW.out _⟩
      have hlate' : x.minute ≤ min:=by omega
      have HL:=Aside.mk hlate';clear hlate
      by_cases k6 : (x.kind == 6) = true
      · have HK:=Aside.mk (show stStep C.sec min x s = 2 by simp at k6;simp [stStep,k6])
        go_wp2
        go_roundw
        case rel => exact ⟨k + 1,2,by omega,by go_num,rfl,⟨by rw [HE.out,HX.out,st_go HXX.out HL.out,HK.out]⟩,bel_alloc HW.out _⟩
        case measure => simp [intOf];omega
      have k6' : (x.kind == 6) = false:=by simpa using k6
      by_cases k3 : (x.kind == 3) = true
      · by_cases hsec : C.sec < min - x.minute
        · have hsd : decide (C.sec < min - x.minute) = true:=decide_eq_true hsec
          have HK:=Aside.mk (show stStep C.sec min x s = 5 by simp at k3;simp [stStep,k3,hsec]);clear k6
          go_wp2
          go_quiet (fail)
          go_wp2
          go_roundw
          case rel => exact ⟨k + 1,5,by omega,by go_num,rfl,⟨by rw [HE.out,HX.out,st_go HXX.out HL.out,HK.out]⟩,bel_drewN (bel_alloc HW.out _) _⟩
          case measure => simp [intOf];omega
        · have hsd : decide (C.sec < min - x.minute) = false:=decide_eq_false hsec
          have HK:=Aside.mk (show stStep C.sec min x s = 3 by simp at k3;simp [stStep,k3];omega);clear k6
          go_wp2
          go_quiet (fail)
          go_wp2
          go_roundw
          case rel => exact ⟨k + 1,3,by omega,by go_num,rfl,⟨by rw [HE.out,HX.out,st_go HXX.out HL.out,HK.out]⟩,bel_drewN (bel_alloc HW.out _) _⟩
          case measure => simp [intOf];omega
      have k3' : (x.kind == 3) = false:=by simpa using k3
      by_cases k4 : (x.kind == 4) = true
      · have HK:=Aside.mk (show stStep C.sec min x s = 4 by simp at k4;simp [stStep,k4])
        clear k6 k3
        go_wp2
        go_roundw
        case rel => exact ⟨k + 1,4,by omega,by go_num,rfl,⟨by rw [HE.out,HX.out,st_go HXX.out HL.out,HK.out]⟩,bel_alloc HW.out _⟩
        case measure => simp [intOf];omega
      have k4' : (x.kind == 4) = false:=by simpa using k4
      by_cases k5 : (x.kind == 5) = true
      · have HK:=Aside.mk (show stStep C.sec min x s = 5 by simp at k5;simp [stStep,k5])
        clear k6 k3 k4
        go_wp2
        go_roundw
        case rel => exact ⟨k + 1,5,by omega,by go_num,rfl,⟨by rw [HE.out,HX.out,st_go HXX.out HL.out,HK.out]⟩,bel_alloc HW.out _⟩
        case measure => simp [intOf];omega
      have k5' : (x.kind == 5) = false:=by simpa using k5
      have HK:=Aside.mk (show stStep C.sec min x s = s by simp at k6 k3 k4 k5;simp [stStep,k6,k3,k4,k5]);clear k6 k3 k4 k5
      go_wp2
      go_roundw
      case rel => exact ⟨k + 1,s,by omega,by go_num,rfl,⟨by rw [HE.out,HX.out,st_go HXX.out HL.out,HK.out]⟩,bel_alloc HW.out _⟩
      case measure => simp [intOf];omega
    · have hke : k = f.acts.length:=by omega
      have HK:=Aside.mk (show stGo C.sec acts min f.acts 1 = s by rw [HE.out,hke];simp [stGo]);clear hke
      go_wp2
      go_ret
      exact ⟨ret_eq (by rw [HK.out];rfl),HW.out⟩
end Go.Proofs.Ytpadgcomncljmaa.A
/- A case's last state,and whether a penalty is one of the article's. -/
namespace Go.Proofs.Ytpadgcomncljmaa.A
open Go.RowKit

def lastSt (sec : Int) (acts : List ActL) (l : List Int) : Int := match l.getLast? with
  | none => 0
  | some i => match acts[i.toNat]? with
    | none => 0
    | some x => stGo sec acts x.minute l 1

theorem getLast_at {l : List Int} (h : l ≠ []) : ∃ i,l[l.length - 1]? = some i ∧ l.getLast? = some i:=by
  rw [← List.getLast?_eq_getElem?]
  cases hl : l.getLast? with
  | none => simp at hl;exact absurd hl h
  | some i => exact ⟨i,rfl,rfl⟩

set_option maxHeartbeats 2000000 in
set_option maxRecDepth 100000 in
theorem last_any (g : Nat) (C : CodeL) (acts : List ActL) (files : List FileL) (f : FileL) (A : Option Addr) (c : Nat) (w : World) (hC : CourtR w g C acts files) (hwf : Wf C acts files)
    (hf : RI Any w A f.acts) (hff : f ∈ files) (hcl : f.acts.length ≤ c) :
    Calls Try.prog 99 #[.pointer (some ⟨g,0,none⟩),.agg #[.int .i64 f.protest,.slice A f.acts.length c]] w fun r w' => r = .returned (.int .i64 (lastSt C.sec acts f.acts)) ∧ Below w.heap.size w w':=by
  obtain ⟨_,hne,hfl,hv⟩:=hwf.file f hff
  obtain ⟨i,hi,hi'⟩:=getLast_at hne
  obtain ⟨n,x,rfl,hx⟩:=hv i (List.mem_of_getElem? hi)
  have HQ:=Aside.mk (show lastSt C.sec acts f.acts = stGo C.sec acts x.minute f.acts 1 by simp [lastSt,hi',hx]);have hb:=bel_alloc (Below.refl _ w) (.cells #[.int .i64 f.protest,.slice A f.acts.length c] 115);have HB:=Aside.mk (bel_drew hb);have HC:=Aside.mk (hC.below HB.out);have HF:=Aside.mk (hf.below HB.out);have hnl : n < acts.length:=(List.getElem?_eq_some_iff.1 hx).1;have hpos : 0 < f.acts.length:=List.length_pos_iff.2 hne
  obtain ⟨ad,rfl,_,hi0⟩:=hf _ _ hi
  obtain ⟨A1,c1,A7,c7,A8,c8,hg,_,h2,_,_,hm,_⟩:=hC
  have h7:=court7 hg;have hgl:=blk_lt hg
  obtain ⟨bd,B8,d8,rfl,_,ha⟩:=h2 n x hx
  obtain ⟨_,g1,_⟩:=ha
  replace g1:=cell_alloc g1;replace hi0:=cell_alloc hi0;have hxm:=hwf.minute x (List.mem_of_getElem? hx);have HS:=Aside.mk (state_any g C acts files f f.protest (some ad) c x.minute _ HC.out hwf HF.out hv hfl hxm.1 hxm.2);have e1 : ((f.acts.length : Int) - 1).toNat = f.acts.length - 1:=by omega
  have e2 : (0 : Int) ≤ (f.acts.length : Int) - 1:=by omega
  have e3 : (f.acts.length : Int) - 1 < (f.acts.length : Int):=by omega
  have e0 : IntKind.i64.wrap ((f.acts.length : Int) - 1) = (f.acts.length : Int) - 1:=IntWalk.i64_in _ (by omega);have e4 : (1 : Int) ≤ (f.acts.length : Int):=by omega
  have e5 : 1 ≤ f.acts.length:=by omega
  have hu:=Try.underlying115;clear hx hi hi' h2 hg hwf hf hff hne hv hb
  go_enter Try.func99,Try.ntmps99
  go_wp2
  refine wp_region_still_tail 17 (by kernel_rfl) (by kernel_rfl) ?_;simp only [List.take_succ_cons,List.take_zero,List.drop_succ_cons,List.drop_zero]
  change wpStill _ _ (World.drew _) _ _ _
  repeat still_step
  refine wpStill_nil ?_
  change wpList _ _ _ _ _ (World.drew _)
  go_wp2_with fail
  refine HS.out.mono ?_
  rintro r w1 ⟨rfl,hb1⟩
  have HB1:=Aside.mk hb1;clear hb1
  go_wp2
  go_ret
  exact ⟨ret_eq (by rw [HQ.out];rfl),bel_then HB.out HB1.out⟩

def badPen (a : ActL) (v : Art) : Bool:=(a.up && !inB a.pen v.least v.most) || (!a.up && a.pen != 0)
def endOf (b : Bool) (e : Int) : Ending:=if b then pan e else .returned (.tuple #[])
theorem refuse_as (b c : Bool) (h : b = c) (e : Int) (w : World) : Calls Try.prog 96 #[.bool b,.int .i64 e] w fun r w' => r = endOf c e ∧ w = w':=by
  subst h
  cases b
  · exact refuse_no e w
  · exact refuse_yes e w
theorem refuse_any (b : Bool) (e : Int) (w : World) : Calls Try.prog 96 #[.bool b,.int .i64 e] w fun r w' => r = endOf b e ∧ w = w':=by
  cases b
  · exact refuse_no e w
  · exact refuse_yes e w

set_option maxHeartbeats 2000000 in
set_option maxRecDepth 100000 in
theorem penalized_any (g : Nat) (C : CodeL) (acts : List ActL) (files : List FileL) (p n : Nat) (x : ActL) (v : Art) (F : Option Addr) (fl fc : Nat) (a : ActL) (A8 : Option Addr) (c8 : Nat) (w : World) (hC : CourtR w g C acts files)
    (hx : acts[p]? = some x) (hn : verAt C.arts x.art x.at_ = (n : Int)) (hv : C.arts[n]? = some v) :
    Calls Try.prog 100 #[.pointer (some ⟨g,0,none⟩),.agg #[.int .i64 p,.slice F fl fc],.agg #[.int .i64 a.kind,.int .i64 a.minute,.int .i64 a.paper,.int .i64 a.case_,.int .i64 a.by_,.int .i64 a.against,.int .i64 a.art,.int .i64 a.at_,.slice A8 a.facts.length c8,.int .i64 a.paid,.bool a.up,.int .i64 a.pen]] w fun r w' => r = endOf (badPen a v) 7 ∧ Below w.heap.size w w':=by
  obtain ⟨W,hW⟩ : ∃ W,W = (w.alloc (.cells #[.int .i64 p,.slice F fl fc] 115)).alloc (.cells #[.int .i64 a.kind,.int .i64 a.minute,.int .i64 a.paper,.int .i64 a.case_,.int .i64 a.by_,.int .i64 a.against,.int .i64 a.art,.int .i64 a.at_,.slice A8 a.facts.length c8,.int .i64 a.paid,.bool a.up,.int .i64 a.pen] 43):=⟨_,rfl⟩
  have hb : Below w.heap.size w W:=by rw [hW];exact bel_alloc (bel_alloc (Below.refl _ w) _) _
  have HB:=Aside.mk hb;have hC':=hC.below hb;have hq1 : W.heap[w.heap.size]? = some (.cells #[.int .i64 p,.slice F fl fc] 115 (0,0)):=by rw [hW];exact (Below.heap_alloc _ _ _ (by simp)).trans (heap_alloc_new w _)
  have hq2 : W.heap[w.heap.size + 1]? = some (.cells #[.int .i64 a.kind,.int .i64 a.minute,.int .i64 a.paper,.int .i64 a.case_,.int .i64 a.by_,.int .i64 a.against,.int .i64 a.art,.int .i64 a.at_,.slice A8 a.facts.length c8,.int .i64 a.paid,.bool a.up,.int .i64 a.pen] 43 (0,0)):=by rw [hW];have:=heap_alloc_new (w.alloc (.cells #[.int .i64 p,.slice F fl fc] 115)) (.cells #[.int .i64 a.kind,.int .i64 a.minute,.int .i64 a.paper,.int .i64 a.case_,.int .i64 a.by_,.int .i64 a.against,.int .i64 a.art,.int .i64 a.at_,.slice A8 a.facts.length c8,.int .i64 a.paid,.bool a.up,.int .i64 a.pen] 43);simpa using this
  have hsz : w.heap.size + 2 ≤ W.heap.size:=by rw [hW];simp
  have HWe:=Aside.mk hW.symm;have HX:=Aside.mk hx;have HN:=Aside.mk hn;have HV:=Aside.mk hv;have hpl : p < acts.length:=(List.getElem?_eq_some_iff.1 hx).1;have hnl : n < C.arts.length:=(List.getElem?_eq_some_iff.1 hv).1
  obtain ⟨A1,c1,A7,c7,A8',c8',hg,hr1,h2,_,hcn,hm,_⟩:=hC'
  have HR1:=Aside.mk hr1;have HG:=Aside.mk hg;have HQ2:=Aside.mk hq2;have h7:=court7 hg;have h0:=court0 hg;have h1:=court1 hg;have h2':=court2 hg;have h3:=court3 hg;have h4:=court4 hg;have h5:=court5 hg;have hgl:=blk_lt hg;have hp0:=blk_cell hq1 0
  obtain ⟨b0,b1,b2,b3,b4,b5,b6,b7,b8,b9,b10,b11⟩:=actBox hq2
  obtain ⟨bd,B8,d8,rfl,_,ha⟩:=h2 p x hx
  obtain ⟨g0,g1,g2,g3,g4,g5,g6,g7,g8,g9,g10,g11,_,_⟩:=ha
  have g0':=cell_alloc g0;have g1':=cell_alloc g1;have g2':=cell_alloc g2;have g3':=cell_alloc g3;have g4':=cell_alloc g4;have g5':=cell_alloc g5;have g6':=cell_alloc g6;have g7':=cell_alloc g7;have g8':=cell_alloc g8;have g9':=cell_alloc g9;have g10':=cell_alloc g10;have g11':=cell_alloc g11;have hz1 : w.heap.size < W.heap.size:=by omega
  have hz2 : w.heap.size + 1 < W.heap.size:=by omega
  have hu:=Try.underlying115;have hu43:=Try.underlying43;have hu33:=Try.underlying33;clear hx h2 hg hn hv hb hq1 hq2 hW hr1 hC
  go_enter Try.func100,Try.ntmps100
  go_wp2
  rw [HWe.out]
  go_region
  go_wp2
  clear hp0 b0 b1 b2 b3 b4 b5 b6 b7 b8 b9 b10 b11 g0 g1 g2 g3 g4 g5 g6 g7 g8 g9 g10 g11 g0' g1' g2' g3' g4' g5' g6' g7' g8' g9' g10' g11' h7 h0 h1 h2' h3 h4 h5
  obtain ⟨W2,hW2⟩ : ∃ W2,W2 = (W.alloc (.cells #[.int .i64 x.kind,.int .i64 x.minute,.int .i64 x.paper,.int .i64 x.case_,.int .i64 x.by_,.int .i64 x.against,.int .i64 x.art,.int .i64 x.at_,.slice B8 x.facts.length d8,.int .i64 x.paid,.bool x.up,.int .i64 x.pen] 43)).drew:=⟨_,rfl⟩
  rw [← hW2];have hb2 : Below W.heap.size W W2:=by rw [hW2];exact bel_drew (bel_alloc (Below.refl _ W) _)
  have HB2:=Aside.mk hb2;have hg2:=(hb2.block g hgl).trans HG.out;have HG2:=Aside.mk hg2;have h0:=court0 hg2;have h1:=court1 hg2;have h2:=court2 hg2;have h3:=court3 hg2;have h4:=court4 hg2;have h5:=court5 hg2;have hq6 : W2.heap[W.heap.size]? = some (.cells #[.int .i64 x.kind,.int .i64 x.minute,.int .i64 x.paper,.int .i64 x.case_,.int .i64 x.by_,.int .i64 x.against,.int .i64 x.art,.int .i64 x.at_,.slice B8 x.facts.length d8,.int .i64 x.paid,.bool x.up,.int .i64 x.pen] 43 (0,0)):=by rw [hW2];exact heap_alloc_new W _
  have HQ6:=Aside.mk hq6
  obtain ⟨x0,x1,x2,x3,x4,x5,x6,x7,x8,x9,x10,x11⟩:=actBox hq6
  have hgl2 : g < W2.heap.size:=blk_lt hg2;have hgl6 : W.heap.size < W2.heap.size:=blk_lt hq6;clear hg2 hq6 hW2 hb2;have hvv:=fun w' (hw : Below W.heap.size W w') => version_any C.cars C.win C.sec C.fee C.price A1 c1 C.arts x.art x.at_ w' (HR1.out.below hw) hcn;rw [HN.out] at hvv;have HVV:=Aside.mk hvv;clear hvv
  go_region_held3 (fun w' => w'.cell? ⟨g, 0, none⟩ = some (.int .i64 C.cars) ∧ w'.cell? ⟨g, 1, none⟩ = some (.slice A1 C.arts.length c1) ∧ w'.cell? ⟨g, 2, none⟩ = some (.int .i64 C.win) ∧ w'.cell? ⟨g, 3, none⟩ = some (.int .i64 C.sec) ∧ w'.cell? ⟨g, 4, none⟩ = some (.int .i64 C.fee) ∧ w'.cell? ⟨g, 5, none⟩ = some (.int .i64 C.price) ∧ w'.cell? ⟨W.heap.size, 6, none⟩ = some (.int .i64 x.art) ∧ w'.cell? ⟨W.heap.size, 7, none⟩ = some (.int .i64 x.at_)) (first | exact ⟨h0, h1, h2, h3, h4, h5, x6, x7⟩ | exact ⟨(KB.cell hgl2).trans h0, (KB.cell hgl2).trans h1, (KB.cell hgl2).trans h2, (KB.cell hgl2).trans h3, (KB.cell hgl2).trans h4, (KB.cell hgl2).trans h5, (KB.cell hgl6).trans x6, (KB.cell hgl6).trans x7⟩)
    (first | (go_at_call 81;refine (HVV.out _ (bel_drew HB2.out)).mono ?_;rintro r w1 ⟨rfl,hb3⟩;have KB : Below W2.heap.size W2 w1:=bel_then (bel_drew (Below.refl _ W2)) hb3))
  have HB3:=Aside.mk (bel_then HB2.out KB);have hg3:=(KB.block g hgl2).trans HG2.out;have k1:=court1 hg3;have hgl3 : g < w1.heap.size:=blk_lt hg3;have hq7:=(HB3.out.block (w.heap.size + 1) hz2).trans HQ2.out
  obtain ⟨b0,b1,b2,b3,b4,b5,b6,b7,b8,b9,b10,b11⟩:=actBox hq7
  have hz3:=blk_lt hq7
  obtain ⟨vd,hvd,_,v0,v1,v2,v3⟩:=(HR1.out.below HB3.out) n v HV.out
  cases hvd
  have hu71:=Try.underlying71;clear h0 h1 h2 h3 h4 h5 x0 x1 x2 x3 x4 x5 x6 x7 x8 x9 x10 x11 KB hg3 hq7
  go_wp2_with (go_at_call 52;refine (within_any _ _ _ _).mono ?_;rintro e w' ⟨rfl,rfl⟩)
  all_goals
    refine (refuse_as _ (badPen a v) (by simp_all [badPen]) 7 _).mono ?_
    rintro r w' ⟨rfl,rfl⟩
    cases hbp : badPen a v
    · rw [show endOf false 7 = .returned (.tuple #[]) from rfl]
      go_wp2
      go_end0
      exact ⟨by rw [hbp];rfl,bel_alloc (bel_then HB.out HB3.out) _⟩
    · rw [show endOf true 7 = pan 7 from rfl]
      exact ⟨rfl,by rw [hbp];rfl,bel_alloc (bel_then HB.out HB3.out) _⟩
end Go.Proofs.Ytpadgcomncljmaa.A
/- What each kind of act does: papers,decisions,judgements,drops. -/
namespace Go.Proofs.Ytpadgcomncljmaa.A
open Go.RowKit

def resE : Except Int Int → Ending
  | .ok n => .returned (.int .i64 n)
  | .error e => pan e

def publishR (acts : List ActL) (a : ActL) : Except Int Int:=if 0 ≤ pubMin acts a.paper then .error 6 else .ok (-1)

theorem actBox1 (w : World) (A8 : Option Addr) (c8 : Nat) (x : ActL) : (w.alloc (.cells #[.int .i64 x.kind,.int .i64 x.minute,.int .i64 x.paper,.int .i64 x.case_,.int .i64 x.by_,.int .i64 x.against,.int .i64 x.art,.int .i64 x.at_,.slice A8 x.facts.length c8,.int .i64 x.paid,.bool x.up,.int .i64 x.pen] 43)).heap[w.heap.size]? = some (.cells #[.int .i64 x.kind,.int .i64 x.minute,.int .i64 x.paper,.int .i64 x.case_,.int .i64 x.by_,.int .i64 x.against,.int .i64 x.art,.int .i64 x.at_,.slice A8 x.facts.length c8,.int .i64 x.paid,.bool x.up,.int .i64 x.pen] 43 (0,0)):=heap_alloc_new w _

set_option maxHeartbeats 2000000 in
set_option maxRecDepth 100000 in
theorem publish_any (g : Nat) (C : CodeL) (acts : List ActL) (files : List FileL) (a : ActL) (A8 : Option Addr) (c8 : Nat) (w : World) (hC : CourtR w g C acts files) :
    Calls Try.prog 64 #[.pointer (some ⟨g,0,none⟩),.agg #[.int .i64 a.kind,.int .i64 a.minute,.int .i64 a.paper,.int .i64 a.case_,.int .i64 a.by_,.int .i64 a.against,.int .i64 a.art,.int .i64 a.at_,.slice A8 a.facts.length c8,.int .i64 a.paid,.bool a.up,.int .i64 a.pen]] w fun r w' => r = resE (publishR acts a) ∧ Below w.heap.size w w':=by
  have HB:=Aside.mk (bel_alloc (Below.refl _ w) (.cells #[.int .i64 a.kind,.int .i64 a.minute,.int .i64 a.paper,.int .i64 a.case_,.int .i64 a.by_,.int .i64 a.against,.int .i64 a.art,.int .i64 a.at_,.slice A8 a.facts.length c8,.int .i64 a.paid,.bool a.up,.int .i64 a.pen] 43));have HC:=Aside.mk (hC.below HB.out);clear hC
  by_cases hp : 0 ≤ pubMin acts a.paper
  · have HR:=Aside.mk (show resE (publishR acts a) = pan 6 by unfold publishR;rw [if_pos hp];rfl)
    go_enter Try.func64,Try.ntmps64
    go_wp2_with fail
    refine (published_any g C acts files a.paper _ HC.out).mono ?_
    rintro r w1 ⟨rfl,hb1⟩
    have HB1:=Aside.mk (bel_then HB.out hb1);clear hb1
    go_wp2_with fail
    refine (refuse_as _ true (by first | rfl | (simp;done) | (simp;omega)) _ _).mono ?_
    rintro r w2 ⟨rfl,rfl⟩
    exact ⟨rfl,by rw [HR.out];rfl,HB1.out⟩
  · have HR:=Aside.mk (show resE (publishR acts a) = .returned (.int .i64 (-1)) by unfold publishR;rw [if_neg hp];rfl)
    have HP:=Aside.mk hp
    go_enter Try.func64,Try.ntmps64
    go_wp2_with fail
    refine (published_any g C acts files a.paper _ HC.out).mono ?_
    rintro r w1 ⟨rfl,hb1⟩
    have HB1:=Aside.mk (bel_then HB.out hb1);clear hb1
    go_wp2_with fail
    refine (refuse_as _ false (by have:=HP.out;simp;omega) _ _).mono ?_
    rintro r w2 ⟨rfl,rfl⟩
    rw [show endOf false 6 = .returned (.tuple #[]) from rfl]
    go_wp2
    go_ret
    exact ⟨by rw [HR.out];rfl,HB1.out⟩

theorem file_at (g : Nat) (C : CodeL) (acts : List ActL) (files : List FileL) (i : Int) (n : Nat) (hi : i = n) (f : FileL) (w : World) (hC : CourtR w g C acts files) (hf : files[n]? = some f) :
    Calls Try.prog 98 #[.pointer (some ⟨g,0,none⟩),.int .i64 i] w (GivesFile w f):=by
  subst hi
  exact file_some g C acts files n f w hC hf
theorem penalized_at (g : Nat) (C : CodeL) (acts : List ActL) (files : List FileL) (i : Int) (p n : Nat) (hi : i = p) (x : ActL) (v : Art) (F : Option Addr) (fl fc : Nat) (a : ActL) (A8 : Option Addr) (c8 : Nat) (w : World) (hC : CourtR w g C acts files)
    (hx : acts[p]? = some x) (hn : verAt C.arts x.art x.at_ = (n : Int)) (hv : C.arts[n]? = some v) :
    Calls Try.prog 100 #[.pointer (some ⟨g,0,none⟩),.agg #[.int .i64 i,.slice F fl fc],.agg #[.int .i64 a.kind,.int .i64 a.minute,.int .i64 a.paper,.int .i64 a.case_,.int .i64 a.by_,.int .i64 a.against,.int .i64 a.art,.int .i64 a.at_,.slice A8 a.facts.length c8,.int .i64 a.paid,.bool a.up,.int .i64 a.pen]] w fun r w' => r = endOf (badPen a v) 7 ∧ Below w.heap.size w w':=by
  subst hi
  exact penalized_any g C acts files p n x v F fl fc a A8 c8 w hC hx hn hv

def penBad (C : CodeL) (acts : List ActL) (f : FileL) (a : ActL) : Bool := match acts[f.protest.toNat]? with
  | none => false
  | some x => match C.arts[(verAt C.arts x.art x.at_).toNat]? with
    | none => false
    | some v => badPen a v

def rulingR (st : Int) (C : CodeL) (acts : List ActL) (files : List FileL) (a : ActL) : Except Int Int := match files[a.case_.toNat]? with
  | none => .error 5
  | some f => if lastSt C.sec acts f.acts ≠ st then .error 6 else if penBad C acts f a = true then .error 7 else .ok a.case_

theorem verStep_lt (a m r : Int) (x : Art × Nat) (n : Nat) (h : r < n) (hx : x.2 < n) : verStep a m r x < n:=by unfold verStep;split <;> omega
theorem verAt_lt (l : List Art) (a m : Int) : verAt l a m < l.length ∧ -1 ≤ verAt l a m:=by
  unfold verAt
  have : ∀ (q : List (Art × Nat)) (r : Int) (n : Nat),(∀ x ∈ q,x.2 < n) → r < n → -1 ≤ r → q.foldl (verStep a m) r < n ∧ -1 ≤ q.foldl (verStep a m) r:=by
    intro q
    induction q with
    | nil => intro r n _ h h';exact ⟨h,h'⟩
    | cons x q ih =>
      intro r n hq h h';refine ih _ n (fun y hy => hq y (List.mem_cons_of_mem _ hy)) (verStep_lt _ _ _ _ _ h (hq x List.mem_cons_self)) ?_
      unfold verStep;split <;> omega
  refine this _ _ l.length (fun x hx => ?_) (by omega) (by omega);have:=List.snd_lt_of_mem_zipIdx hx
  simpa using this
theorem file_case {C : CodeL} {acts : List ActL} {files : List FileL} (hwf : Wf C acts files) {f : FileL} (hf : f ∈ files) :
    ∃ (p n : Nat) (x : ActL) (v : Art),f.protest = p ∧ acts[p]? = some x ∧ verAt C.arts x.art x.at_ = n ∧ C.arts[n]? = some v ∧ ∀ a,penBad C acts f a = badPen a v:=by
  obtain ⟨⟨p,x,h1,h2,h3⟩,_⟩:=hwf.file f hf
  have hlt:=(verAt_lt C.arts x.art x.at_).1
  obtain ⟨v,hv⟩:=get_some (l:=C.arts) (k:=(verAt C.arts x.art x.at_).toNat) (by omega)
  refine ⟨p,_,x,v,h1,h2,(Int.toNat_of_nonneg h3).symm,hv,fun a => ?_⟩
  simp [penBad,h1,h2,hv]

set_option maxHeartbeats 2000000 in
set_option maxRecDepth 100000 in
theorem decide_any (g : Nat) (C : CodeL) (acts : List ActL) (files : List FileL) (a : ActL) (A8 : Option Addr) (c8 : Nat) (w : World) (hC : CourtR w g C acts files) (hwf : Wf C acts files) (h0 : 0 ≤ a.case_) :
    Calls Try.prog 66 #[.pointer (some ⟨g,0,none⟩),.agg #[.int .i64 a.kind,.int .i64 a.minute,.int .i64 a.paper,.int .i64 a.case_,.int .i64 a.by_,.int .i64 a.against,.int .i64 a.art,.int .i64 a.at_,.slice A8 a.facts.length c8,.int .i64 a.paid,.bool a.up,.int .i64 a.pen]] w fun r w' => r = resE (rulingR 1 C acts files a) ∧ Below w.heap.size w w':=by
  have HB:=Aside.mk (bel_alloc (Below.refl _ w) (.cells #[.int .i64 a.kind,.int .i64 a.minute,.int .i64 a.paper,.int .i64 a.case_,.int .i64 a.by_,.int .i64 a.against,.int .i64 a.art,.int .i64 a.at_,.slice A8 a.facts.length c8,.int .i64 a.paid,.bool a.up,.int .i64 a.pen] 43));have HC:=Aside.mk (hC.below HB.out);have HQ:=Aside.mk (actBox1 w A8 c8 a);clear hC
  by_cases hn : (files.length : Int) ≤ a.case_
  · have HR:=Aside.mk (show resE (rulingR 1 C acts files a) = pan 5 by unfold rulingR;rw [List.getElem?_eq_none (by omega)];rfl)
    clear hwf
    go_enter Try.func66,Try.ntmps66
    go_wp2_with fail
    refine (file_none g C acts files a.case_ _ HC.out hn).mono ?_
    rintro r w1 ⟨rfl,hb1⟩
    exact ⟨rfl,by rw [HR.out];rfl,bel_then HB.out hb1⟩
  obtain ⟨n,hcn⟩ : ∃ n : Nat,a.case_ = n:=⟨a.case_.toNat,by omega⟩
  obtain ⟨f,hf⟩:=get_some (l:=files) (k:=n) (by omega)
  obtain ⟨p,m,x,v,e1,e2,e3,e4,e5⟩:=file_case hwf (List.mem_of_getElem? hf)
  have HF:=Aside.mk hf;have HN:=Aside.mk hcn;have HWF:=Aside.mk hwf;have HP:=Aside.mk e1;have HX:=Aside.mk e2;have HV:=Aside.mk e3;have HVV:=Aside.mk e4;have H5:=Aside.mk (show rulingR 1 C acts files a = if lastSt C.sec acts f.acts ≠ 1 then .error 6 else if penBad C acts f a = true then .error 7 else .ok a.case_ by unfold rulingR;rw [hcn,Int.toNat_natCast,hf]);have H6:=Aside.mk (e5 a);have hu:=Try.underlying115;have hu43:=Try.underlying43;clear hn hf hcn hwf e1 e2 e3 e4 e5 h0
  go_enter Try.func66,Try.ntmps66
  go_wp2_with fail
  refine (file_at g C acts files a.case_ n HN.out f _ HC.out HF.out).mono ?_
  rintro r w1 ⟨F,fc,rfl,hfc,hr1,hb1⟩
  have HB1:=Aside.mk (bel_alloc hb1 (.cells #[.int .i64 f.protest,.slice F f.acts.length fc] 115));have HR1:=Aside.mk (hr1.below (bel_alloc (Below.refl _ w1) (.cells #[.int .i64 f.protest,.slice F f.acts.length fc] 115)));clear hb1 hr1
  go_wp2_with fail
  refine (last_any g C acts files f F fc _ (HC.out.below HB1.out) HWF.out HR1.out (List.mem_of_getElem? HF.out) hfc).mono ?_
  rintro r w2 ⟨rfl,hb2⟩
  have hz:=HB1.out.size;have hq1 : w2.heap[w1.heap.size]? = some (.cells #[.int .i64 f.protest,.slice F f.acts.length fc] 115 (0,0)):=(hb2.block _ (by simp)).trans (heap_alloc_new w1 _);have HB2:=Aside.mk (bel_then HB1.out hb2);have hq2:=(HB2.out.block w.heap.size (by simp)).trans HQ.out;have p0:=blk_cell hq1 0;have p1:=blk_cell hq1 1
  obtain ⟨b0,b1,b2,b3,b4,b5,b6,b7,b8,b9,b10,b11⟩:=actBox hq2
  have hz1:=blk_lt hq1;have hz2:=blk_lt hq2;clear hb2 hq1 hq2 hz
  cases hl : (lastSt C.sec acts f.acts != 1)
  · have HL:=Aside.mk (show lastSt C.sec acts f.acts = 1 by simpa using hl)
    go_wp2_with fail
    refine (refuse_no _ _).mono ?_
    rintro r w3 ⟨rfl,rfl⟩
    go_wp2_with fail
    refine (penalized_at g C acts files f.protest p m HP.out x v F f.acts.length fc a A8 c8 _ (HC.out.below HB2.out) HX.out HV.out HVV.out).mono ?_
    rintro r w4 ⟨rfl,hb4⟩
    have HB4:=Aside.mk (bel_then HB2.out hb4);have b3':=(hb4.cell (p:=⟨w.heap.size,3,none⟩) hz2).trans b3;clear p0 p1 b0 b1 b2 b3 b4 b5 b6 b7 b8 b9 b10 b11 hb4
    cases hbp : badPen a v
    · rw [show endOf false 7 = .returned (.tuple #[]) from rfl]
      go_wp2
      go_ret
      refine ⟨?_,bel_then HB.out HB4.out⟩;rw [H5.out,if_neg (by have:=HL.out;omega),H6.out,hbp]
      rfl
    · rw [show endOf true 7 = pan 7 from rfl]
      refine ⟨rfl,?_,bel_then HB.out HB4.out⟩;rw [H5.out,if_neg (by have:=HL.out;omega),H6.out,hbp]
      rfl
  · have HL:=Aside.mk (show lastSt C.sec acts f.acts ≠ 1 by simpa using hl)
    go_wp2_with fail
    refine (refuse_yes _ _).mono ?_
    rintro r w3 ⟨rfl,rfl⟩
    refine ⟨rfl,?_,bel_then HB.out HB2.out⟩;rw [H5.out,if_pos HL.out]
    rfl

set_option maxHeartbeats 2000000 in
set_option maxRecDepth 100000 in
theorem judge_any (g : Nat) (C : CodeL) (acts : List ActL) (files : List FileL) (a : ActL) (A8 : Option Addr) (c8 : Nat) (w : World) (hC : CourtR w g C acts files) (hwf : Wf C acts files) (h0 : 0 ≤ a.case_) :
    Calls Try.prog 68 #[.pointer (some ⟨g,0,none⟩),.agg #[.int .i64 a.kind,.int .i64 a.minute,.int .i64 a.paper,.int .i64 a.case_,.int .i64 a.by_,.int .i64 a.against,.int .i64 a.art,.int .i64 a.at_,.slice A8 a.facts.length c8,.int .i64 a.paid,.bool a.up,.int .i64 a.pen]] w fun r w' => r = resE (rulingR 4 C acts files a) ∧ Below w.heap.size w w':=by
  have HB:=Aside.mk (bel_alloc (Below.refl _ w) (.cells #[.int .i64 a.kind,.int .i64 a.minute,.int .i64 a.paper,.int .i64 a.case_,.int .i64 a.by_,.int .i64 a.against,.int .i64 a.art,.int .i64 a.at_,.slice A8 a.facts.length c8,.int .i64 a.paid,.bool a.up,.int .i64 a.pen] 43));have HC:=Aside.mk (hC.below HB.out);have HQ:=Aside.mk (actBox1 w A8 c8 a);clear hC
  by_cases hn : (files.length : Int) ≤ a.case_
  · have HR:=Aside.mk (show resE (rulingR 4 C acts files a) = pan 5 by unfold rulingR;rw [List.getElem?_eq_none (by omega)];rfl)
    clear hwf
    go_enter Try.func68,Try.ntmps68
    go_wp2_with fail
    refine (file_none g C acts files a.case_ _ HC.out hn).mono ?_
    rintro r w1 ⟨rfl,hb1⟩
    exact ⟨rfl,by rw [HR.out];rfl,bel_then HB.out hb1⟩
  obtain ⟨n,hcn⟩ : ∃ n : Nat,a.case_ = n:=⟨a.case_.toNat,by omega⟩
  obtain ⟨f,hf⟩:=get_some (l:=files) (k:=n) (by omega)
  obtain ⟨p,m,x,v,e1,e2,e3,e4,e5⟩:=file_case hwf (List.mem_of_getElem? hf)
  have HF:=Aside.mk hf;have HN:=Aside.mk hcn;have HWF:=Aside.mk hwf;have HP:=Aside.mk e1;have HX:=Aside.mk e2;have HV:=Aside.mk e3;have HVV:=Aside.mk e4;have H5:=Aside.mk (show rulingR 4 C acts files a = if lastSt C.sec acts f.acts ≠ 4 then .error 6 else if penBad C acts f a = true then .error 7 else .ok a.case_ by unfold rulingR;rw [hcn,Int.toNat_natCast,hf]);have H6:=Aside.mk (e5 a);have hu:=Try.underlying115;have hu43:=Try.underlying43;clear hn hf hcn hwf e1 e2 e3 e4 e5 h0
  go_enter Try.func68,Try.ntmps68
  go_wp2_with fail
  refine (file_at g C acts files a.case_ n HN.out f _ HC.out HF.out).mono ?_
  rintro r w1 ⟨F,fc,rfl,hfc,hr1,hb1⟩
  have HB1:=Aside.mk (bel_alloc hb1 (.cells #[.int .i64 f.protest,.slice F f.acts.length fc] 115));have HR1:=Aside.mk (hr1.below (bel_alloc (Below.refl _ w1) (.cells #[.int .i64 f.protest,.slice F f.acts.length fc] 115)));clear hb1 hr1
  go_wp2_with fail
  refine (last_any g C acts files f F fc _ (HC.out.below HB1.out) HWF.out HR1.out (List.mem_of_getElem? HF.out) hfc).mono ?_
  rintro r w2 ⟨rfl,hb2⟩
  have hz:=HB1.out.size;have hq1 : w2.heap[w1.heap.size]? = some (.cells #[.int .i64 f.protest,.slice F f.acts.length fc] 115 (0,0)):=(hb2.block _ (by simp)).trans (heap_alloc_new w1 _);have HB2:=Aside.mk (bel_then HB1.out hb2);have hq2:=(HB2.out.block w.heap.size (by simp)).trans HQ.out;have p0:=blk_cell hq1 0;have p1:=blk_cell hq1 1
  obtain ⟨b0,b1,b2,b3,b4,b5,b6,b7,b8,b9,b10,b11⟩:=actBox hq2
  have hz1:=blk_lt hq1;have hz2:=blk_lt hq2;clear hb2 hq1 hq2 hz
  cases hl : (lastSt C.sec acts f.acts != 4)
  · have HL:=Aside.mk (show lastSt C.sec acts f.acts = 4 by simpa using hl)
    go_wp2_with fail
    refine (refuse_no _ _).mono ?_
    rintro r w3 ⟨rfl,rfl⟩
    go_wp2_with fail
    refine (penalized_at g C acts files f.protest p m HP.out x v F f.acts.length fc a A8 c8 _ (HC.out.below HB2.out) HX.out HV.out HVV.out).mono ?_
    rintro r w4 ⟨rfl,hb4⟩
    have HB4:=Aside.mk (bel_then HB2.out hb4);have b3':=(hb4.cell (p:=⟨w.heap.size,3,none⟩) hz2).trans b3;clear p0 p1 b0 b1 b2 b3 b4 b5 b6 b7 b8 b9 b10 b11 hb4
    cases hbp : badPen a v
    · rw [show endOf false 7 = .returned (.tuple #[]) from rfl]
      go_wp2
      go_ret
      refine ⟨?_,bel_then HB.out HB4.out⟩;rw [H5.out,if_neg (by have:=HL.out;omega),H6.out,hbp]
      rfl
    · rw [show endOf true 7 = pan 7 from rfl]
      refine ⟨rfl,?_,bel_then HB.out HB4.out⟩;rw [H5.out,if_neg (by have:=HL.out;omega),H6.out,hbp]
      rfl
  · have HL:=Aside.mk (show lastSt C.sec acts f.acts ≠ 4 by simpa using hl)
    go_wp2_with fail
    refine (refuse_yes _ _).mono ?_
    rintro r w3 ⟨rfl,rfl⟩
    refine ⟨rfl,?_,bel_then HB.out HB2.out⟩;rw [H5.out,if_pos HL.out]
    rfl
end Go.Proofs.Ytpadgcomncljmaa.A
/- What an appeal and a drop do. -/
namespace Go.Proofs.Ytpadgcomncljmaa.A
open Go.RowKit

def zeroAct : ActL:={ kind:=0,minute:=0,paper:=0,case_:=0,by_:=0,against:=0,art:=0,at_:=0,facts:=[],paid:=0,up:=false,pen:=0 }
def actAt (acts : List ActL) (i : Int) : ActL:=acts[i.toNat]?.getD zeroAct
theorem actAt_some {acts : List ActL} {n : Nat} {x : ActL} {i : Int} (hi : i = n) (h : acts[n]? = some x) : actAt acts i = x:=by subst hi;simp [actAt,h]
def lastMin (acts : List ActL) (l : List Int) : Int:=(actAt acts (l.getLast?.getD 0)).minute

def dropR (C : CodeL) (acts : List ActL) (files : List FileL) (a : ActL) : Except Int Int := match files[a.case_.toNat]? with
  | none => .error 5
  | some f => if lastSt C.sec acts f.acts ≠ 1 then .error 6 else if a.by_ ≠ (actAt acts f.protest).by_ then .error 7 else .ok a.case_

def appealR (C : CodeL) (acts : List ActL) (files : List FileL) (a : ActL) : Except Int Int := match files[a.case_.toNat]? with
  | none => .error 5
  | some f => if lastSt C.sec acts f.acts ≠ 3 then .error 6
    else if a.by_ ≠ (actAt acts f.protest).by_ ∧ a.by_ ≠ (actAt acts f.protest).against then .error 7
    else if C.sec < a.minute - lastMin acts f.acts then .error 8 else if a.paid ≠ C.price then .error 7 else .ok a.case_

set_option maxHeartbeats 2000000 in
set_option maxRecDepth 100000 in
theorem drop_any (g : Nat) (C : CodeL) (acts : List ActL) (files : List FileL) (a : ActL) (A8 : Option Addr) (c8 : Nat) (w : World) (hC : CourtR w g C acts files) (hwf : Wf C acts files) (h0 : 0 ≤ a.case_) :
    Calls Try.prog 69 #[.pointer (some ⟨g,0,none⟩),.agg #[.int .i64 a.kind,.int .i64 a.minute,.int .i64 a.paper,.int .i64 a.case_,.int .i64 a.by_,.int .i64 a.against,.int .i64 a.art,.int .i64 a.at_,.slice A8 a.facts.length c8,.int .i64 a.paid,.bool a.up,.int .i64 a.pen]] w fun r w' => r = resE (dropR C acts files a) ∧ Below w.heap.size w w':=by
  have HB:=Aside.mk (bel_alloc (Below.refl _ w) (.cells #[.int .i64 a.kind,.int .i64 a.minute,.int .i64 a.paper,.int .i64 a.case_,.int .i64 a.by_,.int .i64 a.against,.int .i64 a.art,.int .i64 a.at_,.slice A8 a.facts.length c8,.int .i64 a.paid,.bool a.up,.int .i64 a.pen] 43));have HC:=Aside.mk (hC.below HB.out);have HQ:=Aside.mk (actBox1 w A8 c8 a);clear hC
  by_cases hn : (files.length : Int) ≤ a.case_
  · have HR:=Aside.mk (show resE (dropR C acts files a) = pan 5 by unfold dropR;rw [List.getElem?_eq_none (by omega)];rfl)
    clear hwf
    go_enter Try.func69,Try.ntmps69
    go_wp2_with fail
    refine (file_none g C acts files a.case_ _ HC.out hn).mono ?_
    rintro r w1 ⟨rfl,hb1⟩
    exact ⟨rfl,by rw [HR.out];rfl,bel_then HB.out hb1⟩
  obtain ⟨n,hcn⟩ : ∃ n : Nat,a.case_ = n:=⟨a.case_.toNat,by omega⟩
  obtain ⟨f,hf⟩:=get_some (l:=files) (k:=n) (by omega)
  obtain ⟨⟨p,x,e1,e2,_⟩,hne,hfl,hfv⟩:=hwf.file f (List.mem_of_getElem? hf)
  have HF:=Aside.mk hf;have HN:=Aside.mk hcn;have HWF:=Aside.mk hwf;have HP:=Aside.mk e1;have HX:=Aside.mk e2;have HAX:=Aside.mk (actAt_some e1 e2);have HU:=Aside.mk (show dropR C acts files a = if lastSt C.sec acts f.acts ≠ 1 then .error 6 else if a.by_ ≠ (actAt acts f.protest).by_ then .error 7 else .ok a.case_ by unfold dropR;rw [hcn,Int.toNat_natCast,hf]);have hu:=Try.underlying115;have hu43:=Try.underlying43;clear hn hf hcn hwf e1 e2 h0 hne hfl hfv
  go_enter Try.func69,Try.ntmps69
  go_wp2_with fail
  refine (file_at g C acts files a.case_ n HN.out f _ HC.out HF.out).mono ?_
  rintro r w1 ⟨F,fc,rfl,hfc,hr1,hb1⟩
  have HB1:=Aside.mk (bel_alloc hb1 (.cells #[.int .i64 f.protest,.slice F f.acts.length fc] 115));have HR1:=Aside.mk (hr1.below (bel_alloc (Below.refl _ w1) (.cells #[.int .i64 f.protest,.slice F f.acts.length fc] 115)));clear hb1 hr1
  go_wp2_with fail
  refine (last_any g C acts files f F fc _ (HC.out.below HB1.out) HWF.out HR1.out (List.mem_of_getElem? HF.out) hfc).mono ?_
  rintro r w2 ⟨rfl,hb2⟩
  have hz:=HB1.out.size;have hq1 : w2.heap[w1.heap.size]? = some (.cells #[.int .i64 f.protest,.slice F f.acts.length fc] 115 (0,0)):=(hb2.block _ (by simp)).trans (heap_alloc_new w1 _);have HB2:=Aside.mk (bel_then HB1.out hb2);have hq2:=(HB2.out.block w.heap.size (by simp)).trans HQ.out;have HFR:=Aside.mk (HR1.out.below hb2);have p0:=blk_cell hq1 0;have p1:=blk_cell hq1 1
  obtain ⟨b0,b1,b2,b3,b4,b5,b6,b7,b8,b9,b10,b11⟩:=actBox hq2
  have hz1:=blk_lt hq1;have hz2:=blk_lt hq2;have hC2:=HC.out.below HB2.out;clear hb2 hq1 hq2 hz
  cases hl : (lastSt C.sec acts f.acts != 1)
  rotate_left
  · have HL:=Aside.mk (show lastSt C.sec acts f.acts ≠ 1 by simpa using hl)
    go_wp2_with fail
    refine (refuse_yes _ _).mono ?_
    rintro r w3 ⟨rfl,rfl⟩
    refine ⟨rfl,?_,bel_then HB.out HB2.out⟩;rw [HU.out,if_pos HL.out]
    rfl
  have HL:=Aside.mk (show lastSt C.sec acts f.acts = 1 by simpa using hl)
  obtain ⟨A1,c1,A7,c7,A8',c8',hg,_,h2,_,hcn,hm,_⟩:=hC2
  have h7:=court7 hg;have h3:=court3 hg;have h5:=court5 hg;have hgl:=blk_lt hg;have hp0 : (0 : Int) ≤ f.protest:=by have:=HP.out;omega
  have hpn : f.protest.toNat = p:=by have:=HP.out;omega
  have hpl : f.protest < (acts.length : Int):=by have:=HP.out;have:=(List.getElem?_eq_some_iff.1 HX.out).1;omega
  obtain ⟨bd,P8,p8,hbd,_,ha⟩:=h2 p x HX.out
  subst hbd
  obtain ⟨g0,g1,g2,g3,g4,g5,g6,g7,g8,g9,g10,g11,_,_⟩:=ha
  clear h2 hg hm hcn
  go_wp2_with fail
  refine (refuse_no _ _).mono ?_
  rintro r w3 ⟨rfl,rfl⟩
  go_wp2_with fail
  refine wp_region_still_tail 11 (by kernel_rfl) (by kernel_rfl) ?_;simp only [List.take_succ_cons,List.take_zero,List.drop_succ_cons,List.drop_zero]
  change wpStill _ _ (World.drew _) _ _ _
  repeat still_step
  refine wpStill_nil ?_
  change wpList _ _ _ _ _ (World.drew _)
  cases hby : (a.by_ != x.by_)
  · go_wp2_with fail
    refine (refuse_as _ false (by simpa using hby) _ _).mono ?_
    rintro r w4 ⟨rfl,rfl⟩
    rw [show endOf false 7 = .returned (.tuple #[]) from rfl]
    go_wp2
    go_ret
    refine ⟨?_,bel_drew (bel_then HB.out HB2.out)⟩;rw [HU.out,if_neg (by have:=HL.out;omega),HAX.out,if_neg (by simpa using hby)]
    rfl
  · go_wp2_with fail
    refine (refuse_as _ true (by simpa using hby) _ _).mono ?_
    rintro r w4 ⟨rfl,rfl⟩
    refine ⟨rfl,?_,bel_drew (bel_then HB.out HB2.out)⟩;rw [HU.out,if_neg (by have:=HL.out;omega),HAX.out,if_pos (by simpa using hby)]
    rfl

set_option maxHeartbeats 2000000 in
set_option maxRecDepth 100000 in
theorem appeal_any (g : Nat) (C : CodeL) (acts : List ActL) (files : List FileL) (a : ActL) (A8 : Option Addr) (c8 : Nat) (w : World) (hC : CourtR w g C acts files) (hwf : Wf C acts files) (h0 : 0 ≤ a.case_) (hm0 : 0 ≤ a.minute) (hm1 : a.minute ≤ 10000000) :
    Calls Try.prog 67 #[.pointer (some ⟨g,0,none⟩),.agg #[.int .i64 a.kind,.int .i64 a.minute,.int .i64 a.paper,.int .i64 a.case_,.int .i64 a.by_,.int .i64 a.against,.int .i64 a.art,.int .i64 a.at_,.slice A8 a.facts.length c8,.int .i64 a.paid,.bool a.up,.int .i64 a.pen]] w fun r w' => r = resE (appealR C acts files a) ∧ Below w.heap.size w w':=by
  have HB:=Aside.mk (bel_alloc (Below.refl _ w) (.cells #[.int .i64 a.kind,.int .i64 a.minute,.int .i64 a.paper,.int .i64 a.case_,.int .i64 a.by_,.int .i64 a.against,.int .i64 a.art,.int .i64 a.at_,.slice A8 a.facts.length c8,.int .i64 a.paid,.bool a.up,.int .i64 a.pen] 43));have HC:=Aside.mk (hC.below HB.out);have HQ:=Aside.mk (actBox1 w A8 c8 a);clear hC
  by_cases hn : (files.length : Int) ≤ a.case_
  · have HR:=Aside.mk (show resE (appealR C acts files a) = pan 5 by unfold appealR;rw [List.getElem?_eq_none (by omega)];rfl)
    clear hwf
    go_enter Try.func67,Try.ntmps67
    go_wp2_with fail
    refine (file_none g C acts files a.case_ _ HC.out hn).mono ?_
    rintro r w1 ⟨rfl,hb1⟩
    exact ⟨rfl,by rw [HR.out];rfl,bel_then HB.out hb1⟩
  obtain ⟨n,hcn⟩ : ∃ n : Nat,a.case_ = n:=⟨a.case_.toNat,by omega⟩
  obtain ⟨f,hf⟩:=get_some (l:=files) (k:=n) (by omega)
  obtain ⟨⟨p,x,e1,e2,_⟩,hne,hfl,hfv⟩:=hwf.file f (List.mem_of_getElem? hf)
  have HF:=Aside.mk hf;have HN:=Aside.mk hcn;have HWF:=Aside.mk hwf;have HP:=Aside.mk e1;have HX:=Aside.mk e2;have HAX:=Aside.mk (actAt_some e1 e2);have HU:=Aside.mk (show appealR C acts files a = if lastSt C.sec acts f.acts ≠ 3 then .error 6 else if a.by_ ≠ (actAt acts f.protest).by_ ∧ a.by_ ≠ (actAt acts f.protest).against then .error 7 else if C.sec < a.minute - lastMin acts f.acts then .error 8 else if a.paid ≠ C.price then .error 7 else .ok a.case_ by unfold appealR;rw [hcn,Int.toNat_natCast,hf])
  obtain ⟨li,hli,hli'⟩:=getLast_at hne
  obtain ⟨ln,lx,hln,hlx⟩:=hfv li (List.mem_of_getElem? hli)
  have HLM:=Aside.mk (show lastMin acts f.acts = lx.minute by unfold lastMin;rw [hli'];simp only [Option.getD_some];rw [actAt_some hln hlx]);have hlm:=hwf.minute lx (List.mem_of_getElem? hlx)
  obtain ⟨hlm0,hlm1⟩:=hlm
  have HLI:=Aside.mk hli;have HLX:=Aside.mk hlx;have HLN:=Aside.mk hln;have hsec0:=hwf.sec.1;have hsec1:=hwf.sec.2;have hpos : 0 < f.acts.length:=List.length_pos_iff.2 hne;have HFL:=Aside.mk hfl;have hu:=Try.underlying115;have hu43:=Try.underlying43;clear hn hf hcn hwf e1 e2 h0 hne hfl hfv hli hli' hln hlx
  go_enter Try.func67,Try.ntmps67
  go_wp2_with fail
  refine (file_at g C acts files a.case_ n HN.out f _ HC.out HF.out).mono ?_
  rintro r w1 ⟨F,fc,rfl,hfc,hr1,hb1⟩
  have HB1:=Aside.mk (bel_alloc hb1 (.cells #[.int .i64 f.protest,.slice F f.acts.length fc] 115));have HR1:=Aside.mk (hr1.below (bel_alloc (Below.refl _ w1) (.cells #[.int .i64 f.protest,.slice F f.acts.length fc] 115)));clear hb1 hr1
  go_wp2_with fail
  refine (last_any g C acts files f F fc _ (HC.out.below HB1.out) HWF.out HR1.out (List.mem_of_getElem? HF.out) hfc).mono ?_
  rintro r w2 ⟨rfl,hb2⟩
  have hz:=HB1.out.size;have hq1 : w2.heap[w1.heap.size]? = some (.cells #[.int .i64 f.protest,.slice F f.acts.length fc] 115 (0,0)):=(hb2.block _ (by simp)).trans (heap_alloc_new w1 _);have HB2:=Aside.mk (bel_then HB1.out hb2);have hq2:=(HB2.out.block w.heap.size (by simp)).trans HQ.out;have HFR:=Aside.mk (HR1.out.below hb2);have p0:=blk_cell hq1 0;have p1:=blk_cell hq1 1
  obtain ⟨b0,b1,b2,b3,b4,b5,b6,b7,b8,b9,b10,b11⟩:=actBox hq2
  have hz1:=blk_lt hq1;have hz2:=blk_lt hq2;have hC2:=HC.out.below HB2.out;clear hb2 hq1 hq2 hz
  cases hl : (lastSt C.sec acts f.acts != 3)
  rotate_left
  · have HL:=Aside.mk (show lastSt C.sec acts f.acts ≠ 3 by simpa using hl)
    go_wp2_with fail
    refine (refuse_yes _ _).mono ?_
    rintro r w3 ⟨rfl,rfl⟩
    refine ⟨rfl,?_,bel_then HB.out HB2.out⟩;rw [HU.out,if_pos HL.out]
    rfl
  have HL:=Aside.mk (show lastSt C.sec acts f.acts = 3 by simpa using hl)
  obtain ⟨A1,c1,A7,c7,A8',c8',hg,_,h2,_,hcn,hm,_⟩:=hC2
  have h7:=court7 hg;have h3:=court3 hg;have h5:=court5 hg;have hgl:=blk_lt hg;have hp0 : (0 : Int) ≤ f.protest:=by have:=HP.out;omega
  have hpn : f.protest.toNat = p:=by have:=HP.out;omega
  have hpl : f.protest < (acts.length : Int):=by have:=HP.out;have:=(List.getElem?_eq_some_iff.1 HX.out).1;omega
  obtain ⟨bd,P8,p8,hbd,_,ha⟩:=h2 p x HX.out
  subst hbd
  obtain ⟨g0,g1,g2,g3,g4,g5,g6,g7,g8,g9,g10,g11,_,_⟩:=ha
  obtain ⟨bd2,Q8,q8,hbd2,_,ha2⟩:=h2 ln lx HLX.out
  cases hbd2
  obtain ⟨_,l1,_⟩:=ha2
  obtain ⟨fd,hfd,_,f0⟩:=HFR.out _ _ HLI.out
  rw [HLN.out] at f0
  subst hfd
  have g0':=cell_alloc g0;have g1':=cell_alloc g1;have g2':=cell_alloc g2;have g3':=cell_alloc g3;have g4':=cell_alloc g4;have g5':=cell_alloc g5;have g6':=cell_alloc g6;have g7':=cell_alloc g7;have g8':=cell_alloc g8;have g9':=cell_alloc g9;have g10':=cell_alloc g10;have g11':=cell_alloc g11;have l1':=cell_alloc l1;have f0':=cell_alloc f0;have hlnl : ln < acts.length:=(List.getElem?_eq_some_iff.1 HLX.out).1;have e0 : IntKind.i64.wrap ((f.acts.length : Int) - 1) = (f.acts.length : Int) - 1:=IntWalk.i64_in _ (by have:=HFL.out;omega);have e1 : ((f.acts.length : Int) - 1).toNat = f.acts.length - 1:=by omega
  have e2 : (0 : Int) ≤ (f.acts.length : Int) - 1:=by omega
  have e3 : (f.acts.length : Int) - 1 < (f.acts.length : Int):=by omega
  have e4 : (1 : Int) ≤ (f.acts.length : Int):=by omega
  have e5 : 1 ≤ f.acts.length:=by omega
  clear h2 hg hm hcn
  go_wp2_with fail
  refine (refuse_no _ _).mono ?_
  rintro r w3 ⟨rfl,rfl⟩
  go_wp2_with fail
  go_region
  have HBA:=Aside.mk (bel_drew (bel_alloc (bel_then HB.out HB2.out) (.cells #[.int .i64 x.kind,.int .i64 x.minute,.int .i64 x.paper,.int .i64 x.case_,.int .i64 x.by_,.int .i64 x.against,.int .i64 x.art,.int .i64 x.at_,.slice P8 x.facts.length p8,.int .i64 x.paid,.bool x.up,.int .i64 x.pen] 43)))
  by_cases hbad : a.by_ ≠ x.by_ ∧ a.by_ ≠ x.against
  · have HBAD:=Aside.mk hbad
    clear hbad
    go_wp2_with fail
    all_goals
      refine (refuse_as _ true (by have:=HBAD.out;simp_all) _ _).mono ?_
      rintro r w4 ⟨rfl,rfl⟩
      refine ⟨rfl,?_,HBA.out⟩;rw [HU.out,if_neg (by have:=HL.out;omega),HAX.out,if_pos HBAD.out]
      rfl
  have HBAD:=Aside.mk hbad;clear hbad
  by_cases hlate : C.sec < a.minute - lx.minute
  · have hld : decide (C.sec < a.minute - lx.minute) = true:=decide_eq_true hlate
    have HLT:=Aside.mk hlate;clear hlate
    go_wp2_with fail
    all_goals
      refine (refuse_as _ false (by have:=HBAD.out;simp_all) _ _).mono ?_
      rintro r w4 ⟨rfl,rfl⟩
      rw [show endOf false 7 = .returned (.tuple #[]) from rfl]
      go_wp2_with fail
      refine wp_region_still_tail 24 (by kernel_rfl) (by kernel_rfl) ?_;simp only [List.take_succ_cons,List.take_zero,List.drop_succ_cons,List.drop_zero]
      change wpStill _ _ (World.drew _) _ _ _
      repeat still_step
      refine wpStill_nil ?_
      change wpList _ _ _ _ _ (World.drew _)
      go_wp2_with fail
      refine (refuse_as _ true (by first | rfl | exact hld) _ _).mono ?_
      rintro r w5 ⟨rfl,rfl⟩
      refine ⟨rfl,?_,bel_drew HBA.out⟩;rw [HU.out,if_neg (by have:=HL.out;omega),HAX.out,if_neg HBAD.out,HLM.out,if_pos HLT.out]
      rfl
  have hld : decide (C.sec < a.minute - lx.minute) = false:=decide_eq_false hlate;have HLT:=Aside.mk hlate;clear hlate
  cases hpd : (a.paid != C.price)
  all_goals
    go_wp2_with fail
    all_goals
      refine (refuse_as _ false (by have:=HBAD.out;simp_all) _ _).mono ?_
      rintro r w4 ⟨rfl,rfl⟩
      rw [show endOf false 7 = .returned (.tuple #[]) from rfl]
      go_wp2_with fail
      refine wp_region_still_tail 24 (by kernel_rfl) (by kernel_rfl) ?_;simp only [List.take_succ_cons,List.take_zero,List.drop_succ_cons,List.drop_zero]
      change wpStill _ _ (World.drew _) _ _ _
      repeat still_step
      refine wpStill_nil ?_
      change wpList _ _ _ _ _ (World.drew _)
      go_wp2_with fail
      refine (refuse_as _ false (by first | rfl | exact hld) _ _).mono ?_
      rintro r w5 ⟨rfl,rfl⟩
      rw [show endOf false 8 = .returned (.tuple #[]) from rfl]
      go_wp2_with fail
      refine wp_region_still_tail 7 (by kernel_rfl) (by kernel_rfl) ?_;simp only [List.take_succ_cons,List.take_zero,List.drop_succ_cons,List.drop_zero]
      change wpStill _ _ (World.drew _) _ _ _
      repeat still_step
      refine wpStill_nil ?_
      change wpList _ _ _ _ _ (World.drew _)
      go_wp2_with fail
      refine (refuse_any _ _ _).mono ?_
      rintro r w6 ⟨rfl,rfl⟩
      first
        | (rw [show endOf false 7 = .returned (.tuple #[]) from rfl]
           go_wp2
           go_ret
           refine ⟨?_,bel_drew (bel_drew HBA.out)⟩;rw [HU.out,if_neg (by have:=HL.out;omega),HAX.out,if_neg HBAD.out,HLM.out,if_neg (by have:=HLT.out;omega),if_neg (by simpa using hpd)]
           rfl)
        | (refine ⟨rfl, ?_, bel_drew (bel_drew HBA.out)⟩
           rw [HU.out,if_neg (by have:=HL.out;omega),HAX.out,if_neg HBAD.out,HLM.out,if_neg (by have:=HLT.out;omega),if_pos (by simpa using hpd)]
           rfl)
end Go.Proofs.Ytpadgcomncljmaa.A
/- What a call may have turned;a court that is owned. -/
namespace Go.Proofs.Ytpadgcomncljmaa.A
open Go.RowKit

structure Mod (F : Nat → Prop) (w w' : World) : Prop where
  os : w'.os = w.os
  tape : w'.tape = w.tape
  output : w'.output = w.output
  size : w.heap.size ≤ w'.heap.size
  block : ∀ k,k < w.heap.size → ¬ F k → w'.heap[k]? = w.heap[k]?

section
variable {F F' : Nat → Prop} {w w1 w2 : World}
theorem Mod.of_below (h : Below w.heap.size w w1) : Mod F w w1:=⟨h.os,h.tape,h.output,h.size,fun k hk _ => h.block k hk⟩
theorem Mod.refl : Mod F w w:=.of_below (Below.refl _ _)
theorem Mod.trans (h : Mod F w w1) (k : Mod F' w1 w2) (hF : ∀ i,i < w.heap.size → F' i → F i) : Mod F w w2 :=
  ⟨k.os.trans h.os,k.tape.trans h.tape,k.output.trans h.output,Nat.le_trans h.size k.size,fun i hi hn => (k.block i (Nat.lt_of_lt_of_le hi h.size) (fun hf => hn (hF i hi hf))).trans (h.block i hi hn)⟩
theorem Mod.alloc (h : Mod F w w1) (o : Obj) : Mod F w (w1.alloc o):=h.trans (F':=fun _ => False) (.of_below ((Below.refl _ _).alloc (Nat.le_refl _) o)) (fun _ _ h => h.elim)
theorem Mod.drew (h : Mod F w w1) : Mod F w w1.drew:=⟨h.os,h.tape,h.output,h.size,h.block⟩
theorem Mod.set_ (h : Mod F w w1) {p : Addr} (hp : F p.block ∨ w.heap.size ≤ p.block) (u : Value) : Mod F w (w1.setCell p u) :=
  ⟨h.os, h.tape, h.output, by simpa [World.setCell] using h.size, fun i hi hn => (Below.heap_setCell w1 p u i (by
    rintro rfl
    rcases hp with hp | hp
    · exact hn hp
    · omega)).trans (h.block i hi hn)⟩
theorem Mod.grown (h : Mod F w w1) {row : Option Nat} (hg : w1.grownBy w2 row) (hr : ∀ k,row = some k → F k ∨ w.heap.size ≤ k) : Mod F w w2 :=
  ⟨hg.os.trans h.os,hg.tape.trans h.tape,hg.output.trans h.output,Nat.le_trans h.size hg.size,fun i hi hn => (hg.block i (Nat.lt_of_lt_of_le hi h.size) (fun e => by
    rcases hr i e.symm with hp | hp
    · exact hn hp
    · omega)).trans (h.block i hi hn)⟩
theorem Mod.below (h : Mod (fun _ => False) w w1) : Below w.heap.size w w1:=⟨h.os,h.tape,h.output,h.size,fun k hk => h.block k hk (fun x => x)⟩
theorem Mod.mono (h : Mod F w w1) (hF : ∀ i,i < w.heap.size → F i → F' i) : Mod F' w w1:=⟨h.os,h.tape,h.output,h.size,fun i hi hn => h.block i hi (fun hf => hn (hF i hi hf))⟩
end

theorem flat_get {α : Type} (s : Nat) : ∀ (L : List (List α)) (i j : Nat),(∀ c ∈ L,c.length = s) → j < s → L.flatten[i * s + j]? = (L[i]?).bind (·[j]?):=by
  intro L
  induction L with
  | nil => intro i j _ _;simp
  | cons c L ih =>
    intro i j hL hj;have hc : c.length = s:=hL c List.mem_cons_self
    cases i with
    | zero => simp only [List.flatten_cons,Nat.zero_mul,Nat.zero_add];rw [List.getElem?_append_left (by omega)];rfl
    | succ i =>
      rw [List.flatten_cons,List.getElem?_append_right (by rw [hc,Nat.succ_mul];omega),hc];have e : (i + 1) * s + j - s = i * s + j:=by rw [Nat.succ_mul];omega
      rw [e,ih i j (fun c hc => hL c (List.mem_cons_of_mem _ hc)) hj]
      rfl
theorem flat_len {α : Type} (s : Nat) : ∀ (L : List (List α)),(∀ c ∈ L,c.length = s) → L.flatten.length = L.length * s:=by
  intro L
  induction L with
  | nil => intro _;simp
  | cons c L ih =>
    intro hL;rw [List.flatten_cons,List.length_append,ih (fun c hc => hL c (List.mem_cons_of_mem _ hc)),hL c List.mem_cons_self,List.length_cons,Nat.succ_mul]
    omega

def actCells (x : ActL) (A8 : Option Addr) (c8 : Nat) : List Value:=[.int .i64 x.kind,.int .i64 x.minute,.int .i64 x.paper,.int .i64 x.case_,.int .i64 x.by_,.int .i64 x.against,.int .i64 x.art,.int .i64 x.at_,.slice A8 x.facts.length c8,.int .i64 x.paid,.bool x.up,.int .i64 x.pen]
def fileCells (x : FileL) (v : Value) : List Value:=[.int .i64 x.protest,v]

def ActsAre (D : Nat → Prop) (w : World) (xs : List ActL) (cs : List (List Value)) : Prop :=
  cs.length = xs.length ∧ ∀ (i : Nat) (x : ActL),xs[i]? = some x → ∃ A8 c8,cs[i]? = some (actCells x A8 c8) ∧ x.facts.length ≤ c8 ∧ RI D w A8 x.facts
theorem ActsAre.len {D : Nat → Prop} {w : World} {xs : List ActL} {cs : List (List Value)} (h : ActsAre D w xs cs) : ∀ c ∈ cs,c.length = 12:=by
  intro c hc
  obtain ⟨i,hi⟩:=List.getElem?_of_mem hc
  have hl : i < xs.length:=by rw [← h.1];exact (List.getElem?_eq_some_iff.1 hi).1
  obtain ⟨A8,c8,h1,_⟩:=h.2 i _ (List.getElem?_eq_getElem hl)
  rw [hi] at h1
  cases h1
  rfl
theorem ActsAre.snoc {D : Nat → Prop} {w : World} {xs : List ActL} {cs : List (List Value)} (h : ActsAre D w xs cs) (x : ActL) (A8 : Option Addr) (c8 : Nat) (hc : x.facts.length ≤ c8) (hr : RI D w A8 x.facts) : ActsAre D w (xs ++ [x]) (cs ++ [actCells x A8 c8]):=by
  refine ⟨by simp [h.1],fun i y hy => ?_⟩
  rcases Nat.lt_or_ge i xs.length with hi | hi
  · rw [List.getElem?_append_left hi] at hy
    obtain ⟨B8,d8,h1,h2,h3⟩:=h.2 i y hy
    exact ⟨B8,d8,by rw [List.getElem?_append_left (by rw [h.1];exact hi)];exact h1,h2,h3⟩
  · have : i = xs.length:=by
      have:=(List.getElem?_eq_some_iff.1 hy).1
      simp at this;omega
    subst this
    have : x = y:=by simpa using hy
    subst this
    exact ⟨A8,c8,by rw [← h.1];simp,hc,hr⟩
theorem ActsAre.move {D : Nat → Prop} {w w' : World} {xs : List ActL} {cs : List (List Value)} (h : ActsAre D w xs cs) (hm : ∀ k,D k → k < w.heap.size → w'.heap[k]? = w.heap[k]?) : ActsAre D w' xs cs :=
  ⟨h.1,fun i x hx => by obtain ⟨A8,c8,h1,h2,h3⟩:=h.2 i x hx;exact ⟨A8,c8,h1,h2,h3.move hm⟩⟩
theorem ActsAre.mono {D D' : Nat → Prop} {w : World} {xs : List ActL} {cs : List (List Value)} (h : ActsAre D w xs cs) (hm : ∀ k,D k → k < w.heap.size → D' k) : ActsAre D' w xs cs :=
  ⟨h.1,fun i x hx => by obtain ⟨A8,c8,h1,h2,h3⟩:=h.2 i x hx;exact ⟨A8,c8,h1,h2,h3.mono hm⟩⟩

theorem own_acts {D : Nat → Prop} {w : World} {base : Nat} {v : Value} {xs : List ActL} {cs : List (List Value)} (h : w.ownsRow base 43 12 v xs.length cs.flatten) (ha : ActsAre D w xs cs) :
    ∃ A c,v = .slice A xs.length c ∧ xs.length ≤ c ∧ c ≤ maxLen ∧ RAct Any w A xs:=by
  obtain ⟨A,c,rfl,hn,hm,hc⟩:=own_form h
  refine ⟨A,c,rfl,hn,hm,fun i x hx => ?_⟩
  obtain ⟨A8,c8,h1,h2,h3⟩:=ha.2 i x hx
  have hg : ∀ j u,j < 12 → (actCells x A8 c8)[j]? = some u → ∃ g,A = some ⟨g,0,none⟩ ∧ base ≤ g ∧ w.cell? ⟨g,i * 12 + j,none⟩ = some u:=fun j u hj hu => by
    refine hc (i * 12 + j) u ?_;rw [flat_get 12 cs i j ha.len hj,h1];exact hu
  obtain ⟨g,rfl,_,k0⟩:=hg 0 (.int .i64 x.kind) (by omega) rfl
  have hk : ∀ j u,j < 12 → (actCells x A8 c8)[j]? = some u → w.cell? ⟨g,i * 12 + j,none⟩ = some u:=fun j u hj hu => by
    obtain ⟨g',hg',_,hh⟩:=hg j u hj hu
    cases hg'
    exact hh
  refine ⟨_,A8,c8,rfl,trivial,?_⟩;rw [add_at];exact ⟨k0,hk 1 _ (by omega) rfl,hk 2 _ (by omega) rfl,hk 3 _ (by omega) rfl,hk 4 _ (by omega) rfl,hk 5 _ (by omega) rfl,hk 6 _ (by omega) rfl,hk 7 _ (by omega) rfl,hk 8 _ (by omega) rfl,hk 9 _ (by omega) rfl,hk 10 _ (by omega) rfl,hk 11 _ (by omega) rfl,h2,h3.any⟩

structure RowsOk (F : Nat → Prop) (w : World) (files : List FileL) (rows : List Value) : Prop where
  len : rows.length = files.length
  own : ∀ (i : Nat) (f : FileL) (v : Value),files[i]? = some f → rows[i]? = some v → w.ownsRow 0 3 1 v f.acts.length (ints f.acts) ∧ ∀ k,v.ownBlock = some k → F k
  apart : ∀ (i j : Nat) (v v' : Value) (k : Nat),rows[i]? = some v → rows[j]? = some v' → v.ownBlock = some k → v'.ownBlock = some k → i = j
def filesCells (files : List FileL) (rows : List Value) : List (List Value):=(files.zip rows).map fun x => fileCells x.1 x.2
theorem filesCells_len {files : List FileL} {rows : List Value} : ∀ c ∈ filesCells files rows,c.length = 2:=by
  intro c hc
  obtain ⟨x,_,rfl⟩:=List.mem_map.1 hc
  rfl
theorem filesCells_get {files : List FileL} {rows : List Value} (i : Nat) (f : FileL) (v : Value) (hf : files[i]? = some f) (hv : rows[i]? = some v) : (filesCells files rows)[i]? = some (fileCells f v):=by
  unfold filesCells
  rw [List.getElem?_map,(List.getElem?_zip_eq_some (z:=(f,v))).2 ⟨hf,hv⟩]
  rfl

def CourtI (F D : Nat → Prop) (w : World) (g : Nat) (C : CodeL) (acts : List ActL) (files : List FileL) : Prop :=
  ∃ A1 c1 A7 c7 A8 c8 cs rows, w.heap[g]? = some (.cells #[.int .i64 C.cars, .slice A1 C.arts.length c1, .int .i64 C.win, .int .i64 C.sec, .int .i64 C.fee, .int .i64 C.price, .bool true, .slice A7 acts.length c7, .slice A8 files.length c8] 99 (0, 0)) ∧ F g ∧
    RArt D w A1 C.arts ∧ w.ownsRow 0 43 12 (.slice A7 acts.length c7) acts.length cs.flatten ∧ ActsAre D w acts cs ∧ (∀ k,(Value.slice A7 acts.length c7).ownBlock = some k → F k) ∧
    w.ownsRow 0 115 2 (.slice A8 files.length c8) files.length (filesCells files rows).flatten ∧ (∀ k,(Value.slice A8 files.length c8).ownBlock = some k → F k) ∧ RowsOk F w files rows ∧
    (∀ k,F k → k < w.heap.size) ∧ (∀ k,D k → ¬ F k) ∧ C.arts.length ≤ 1000000

theorem own_files {F : Nat → Prop} {w : World} {base : Nat} {v : Value} {files : List FileL} {rows : List Value} (h : w.ownsRow base 115 2 v files.length (filesCells files rows).flatten) (hr : RowsOk F w files rows) :
    ∃ A c,v = .slice A files.length c ∧ files.length ≤ c ∧ RFile Any w A files:=by
  obtain ⟨A,c,rfl,hn,hm,hc⟩:=own_form h
  refine ⟨A,c,rfl,hn,fun i f hf => ?_⟩
  obtain ⟨r,hv⟩:=get_some (l:=rows) (k:=i) (by rw [hr.len];exact (List.getElem?_eq_some_iff.1 hf).1)
  obtain ⟨h1,_⟩:=hr.own i f r hf hv
  obtain ⟨A1,c1,rfl,hl,hri⟩:=own_ints h1
  have hg : ∀ j u,j < 2 → (fileCells f (.slice A1 f.acts.length c1))[j]? = some u → ∃ g,A = some ⟨g,0,none⟩ ∧ base ≤ g ∧ w.cell? ⟨g,i * 2 + j,none⟩ = some u:=fun j u hj hu => by
    refine hc (i * 2 + j) u ?_;rw [flat_get 2 _ i j filesCells_len hj,filesCells_get i f _ hf hv];exact hu
  obtain ⟨g,rfl,_,k0⟩:=hg 0 (.int .i64 f.protest) (by omega) rfl
  obtain ⟨g',hg',_,k1⟩:=hg 1 (.slice A1 f.acts.length c1) (by omega) rfl
  cases hg'
  refine ⟨_,A1,c1,rfl,trivial,?_,?_,hl,hri.any⟩
  · rw [add_at];exact k0
  · rw [add_at];exact k1

theorem CourtI.reads {F D : Nat → Prop} {w : World} {g : Nat} {C : CodeL} {acts : List ActL} {files : List FileL} (h : CourtI F D w g C acts files) (ha : acts.length ≤ 1000000) (hf : files.length ≤ acts.length) : CourtR w g C acts files:=by
  obtain ⟨A1,c1,A7,c7,A8,c8,cs,rows,hg,_,h1,h2,h3,_,h4,_,h5,_,_,hn⟩:=h
  obtain ⟨B7,d7,e7,_,_,r7⟩:=own_acts h2 h3
  cases e7
  obtain ⟨B8,d8,e8,_,r8⟩:=own_files h4 h5
  cases e8
  exact ⟨A1,c1,A7,c7,A8,c8,hg,h1.any,r7,r8,hn,ha,hf⟩

theorem own_keep {w w1 : World} {base : Nat} {e : TypeId} {size n : Nat} {v : Value} {xs : List Value} (h : w.ownsRow base e size v n xs) (hm : ∀ k,v.ownBlock = some k → w1.heap[k]? = w.heap[k]?) : w1.ownsRow base e size v n xs:=by
  obtain ⟨h1,h2⟩:=h
  refine ⟨h1,?_⟩
  rcases h2 with h2 | ⟨g,cap,cur,rfl,hg,hh,r⟩
  · exact .inl h2
  · exact .inr ⟨g,cap,cur,rfl,hg,(hm g (by simp [Value.ownBlock])).trans hh,r⟩
theorem own_typed {w : World} {base : Nat} {e : TypeId} {size n : Nat} {v : Value} {xs : List Value} (h : w.ownsRow base e size v n xs) (k : Nat) (hk : v.ownBlock = some k) : ∃ cells,w.heap[k]? = some (.cells cells e (0,0)):=by
  rcases h.2 with ⟨rfl,_⟩ | ⟨g,cap,cur,rfl,hg,hh,r⟩
  · simp [Value.ownBlock] at hk
  · have : g = k:=by simpa [Value.ownBlock] using hk
    subst this
    exact ⟨cur,hh⟩
theorem own_ne {w : World} {base : Nat} {e : TypeId} {size n : Nat} {v : Value} {xs : List Value} (h : w.ownsRow base e size v n xs) {g : Nat} {t : TypeId} {cs : Array Value} (hg : w.heap[g]? = some (.cells cs t (0,0))) (hne : e ≠ t) (k : Nat) (hk : v.ownBlock = some k) : k ≠ g:=by
  rintro rfl
  obtain ⟨cells,hc⟩:=own_typed h k hk
  rw [hg] at hc
  injection hc with hc
  injection hc with _ ht
  exact hne ht.symm
theorem RowsOk.move {F : Nat → Prop} {w w' : World} {files : List FileL} {rows : List Value} (h : RowsOk F w files rows) (hm : ∀ k,F k → w'.heap[k]? = w.heap[k]?) : RowsOk F w' files rows :=
  ⟨h.len,fun i f v hf hv => ⟨own_keep (h.own i f v hf hv).1 (fun k hk => hm k ((h.own i f v hf hv).2 k hk)),(h.own i f v hf hv).2⟩,h.apart⟩
theorem CourtI.move {F D : Nat → Prop} {w w' : World} {g : Nat} {C : CodeL} {acts : List ActL} {files : List FileL} (h : CourtI F D w g C acts files) (hF : ∀ k,F k → w'.heap[k]? = w.heap[k]?) (hD : ∀ k,D k → k < w.heap.size → w'.heap[k]? = w.heap[k]?) (hs : w.heap.size ≤ w'.heap.size) : CourtI F D w' g C acts files:=by
  obtain ⟨A1,c1,A7,c7,A8,c8,cs,rows,hg,hgF,h1,h2,h3,h7F,h4,h8F,h5,hlt,hap,hn⟩:=h
  exact ⟨A1,c1,A7,c7,A8,c8,cs,rows,(hF g hgF).trans hg,hgF,h1.move hD,own_keep h2 (fun k hk => hF k (h7F k hk)),h3.move hD,h7F,own_keep h4 (fun k hk => hF k (h8F k hk)),h8F,h5.move hF,fun k hk => Nat.lt_of_lt_of_le (hlt k hk) hs,hap,hn⟩
theorem CourtI.below {F D : Nat → Prop} {w w' : World} {g : Nat} {C : CodeL} {acts : List ActL} {files : List FileL} (h : CourtI F D w g C acts files) (hb : Below w.heap.size w w') : CourtI F D w' g C acts files:=by
  have hlt : ∀ k,F k → k < w.heap.size:=by obtain ⟨_,_,_,_,_,_,_,_,_,_,_,_,_,_,_,_,_,h,_⟩:=h;exact h
  exact h.move (fun k hk => hb.block k (hlt k hk)) (fun k _ hk => hb.block k hk) hb.size
end Go.Proofs.Ytpadgcomncljmaa.A
/- An owned court: a case more,an act more in a case,an act more in the record. -/
namespace Go.Proofs.Ytpadgcomncljmaa.A
open Go.RowKit

theorem blk_set {w : World} {g : Nat} {t : TypeId} {cs : Array Value} (h : w.heap[g]? = some (.cells cs t (0,0))) (i : Nat) (u : Value) : (w.setCell ⟨g,i,none⟩ u).heap[g]? = some (.cells (cs.setIfInBounds i u) t (0,0)):=by
  simp [World.setCell,Array.getElem?_modify,h]
theorem set_other (w : World) (p : Addr) (u : Value) (k : Nat) (h : k ≠ p.block) : (w.setCell p u).heap[k]? = w.heap[k]?:=Below.heap_setCell w p u k h
theorem set_size (w : World) (p : Addr) (u : Value) : (w.setCell p u).heap.size = w.heap.size:=by simp [World.setCell]
theorem own_lt' {w : World} {base : Nat} {e : TypeId} {size n : Nat} {v : Value} {xs : List Value} (h : w.ownsRow base e size v n xs) (k : Nat) (hk : v.ownBlock = some k) : k < w.heap.size:=(h.lt k hk).2

theorem filesCells_snoc (files : List FileL) (rows : List Value) (f : FileL) (v : Value) (h : rows.length = files.length) : filesCells (files ++ [f]) (rows ++ [v]) = filesCells files rows ++ [fileCells f v]:=by
  unfold filesCells
  rw [List.zip_append h.symm,List.map_append]
  rfl
theorem RowsOk.snoc {F F' : Nat → Prop} {w : World} {files : List FileL} {rows : List Value} (h : RowsOk F w files rows) (hF : ∀ k,F k → F' k) (f : FileL) (hf : f.acts = []) : RowsOk F' w (files ++ [f]) (rows ++ [.slice none 0 0]):=by
  have hlast : ∀ (i : Nat) (v : Value),(rows ++ [.slice none 0 0])[i]? = some v → rows[i]? = some v ∨ (i = rows.length ∧ v = .slice none 0 0):=fun i v hv => by
    rcases Nat.lt_or_ge i rows.length with hi | hi
    · rw [List.getElem?_append_left hi] at hv;exact .inl hv
    · have hi' : i = rows.length:=by have:=(List.getElem?_eq_some_iff.1 hv).1;simp at this;omega
      subst hi'
      exact .inr ⟨rfl,by simpa using hv.symm⟩
  refine ⟨by simp [h.len],fun i x v hx hv => ?_,fun i j v v' k hv hv' hk hk' => ?_⟩
  · rcases hlast i v hv with hv | ⟨hi,rfl⟩
    · have hi : i < files.length:=by rw [← h.len];exact (List.getElem?_eq_some_iff.1 hv).1
      rw [List.getElem?_append_left hi] at hx
      obtain ⟨h1,h2⟩:=h.own i x v hx hv
      exact ⟨h1,fun k hk => hF k (h2 k hk)⟩
    · subst hi
      have : f = x:=by rw [h.len] at hx;simpa using hx
      subst this
      rw [hf];exact ⟨World.ownsRow_nil _ _ _ _,fun k hk => by simp [Value.ownBlock] at hk⟩
  · rcases hlast i v hv with hv | ⟨hi,rfl⟩
    · rcases hlast j v' hv' with hv' | ⟨hj,rfl⟩
      · exact h.apart i j v v' k hv hv' hk hk'
      · simp [Value.ownBlock] at hk'
    · simp [Value.ownBlock] at hk

section
variable {F D : Nat → Prop} {W w8 : World} {g : Nat} {C : CodeL} {acts : List ActL} {files : List FileL} {A1 B7 B8 : Option Addr} {c1 d7 d8 : Nat} {cs : List (List Value)} {rows : List Value}

structure CourtP (F D : Nat → Prop) (W : World) (g : Nat) (C : CodeL) (acts : List ActL) (files : List FileL) (A1 : Option Addr) (c1 : Nat) (B7 : Option Addr) (d7 : Nat) (B8 : Option Addr) (d8 : Nat) (cs : List (List Value)) (rows : List Value) : Prop where
  blk : W.heap[g]? = some (.cells #[.int .i64 C.cars,.slice A1 C.arts.length c1,.int .i64 C.win,.int .i64 C.sec,.int .i64 C.fee,.int .i64 C.price,.bool true,.slice B7 acts.length d7,.slice B8 files.length d8] 99 (0,0))
  gF : F g
  arts : RArt D W A1 C.arts
  own7 : W.ownsRow 0 43 12 (.slice B7 acts.length d7) acts.length cs.flatten
  are : ActsAre D W acts cs
  f7 : ∀ k,(Value.slice B7 acts.length d7).ownBlock = some k → F k
  own8 : W.ownsRow 0 115 2 (.slice B8 files.length d8) files.length (filesCells files rows).flatten
  f8 : ∀ k,(Value.slice B8 files.length d8).ownBlock = some k → F k
  rowsOk : RowsOk F W files rows
  lt : ∀ k,F k → k < W.heap.size
  ltD : ∀ k,D k → k < W.heap.size
  apart : ∀ k,D k → ¬ F k
  few : C.arts.length ≤ 1000000

theorem CourtP.reads (h : CourtP F D W g C acts files A1 c1 B7 d7 B8 d8 cs rows) (ha : acts.length ≤ 1000000) (hf : files.length ≤ acts.length) : CourtR W g C acts files:=by
  obtain ⟨C7,e7,h7,_,_,r7⟩:=own_acts h.own7 h.are
  cases h7
  obtain ⟨C8,e8,h8,_,r8⟩:=own_files h.own8 h.rowsOk
  cases h8
  exact ⟨A1,c1,B7,d7,B8,d8,h.blk,h.arts.any,r7,r8,h.few,ha,hf⟩
theorem CourtP.move (h : CourtP F D W g C acts files A1 c1 B7 d7 B8 d8 cs rows) (hF : ∀ k,F k → w8.heap[k]? = W.heap[k]?) (hD : ∀ k,D k → w8.heap[k]? = W.heap[k]?) (hs : W.heap.size ≤ w8.heap.size) : CourtP F D w8 g C acts files A1 c1 B7 d7 B8 d8 cs rows :=
  ⟨(hF g h.gF).trans h.blk, h.gF, h.arts.move (fun k hk _ => hD k hk), own_keep h.own7 (fun k hk => hF k (h.f7 k hk)), h.are.move (fun k hk _ => hD k hk), h.f7, own_keep h.own8 (fun k hk => hF k (h.f8 k hk)), h.f8, h.rowsOk.move hF,
    fun k hk => Nat.lt_of_lt_of_le (h.lt k hk) hs,fun k hk => Nat.lt_of_lt_of_le (h.ltD k hk) hs,h.apart,h.few⟩
theorem CourtP.below (h : CourtP F D W g C acts files A1 c1 B7 d7 B8 d8 cs rows) (hb : Below W.heap.size W w8) : CourtP F D w8 g C acts files A1 c1 B7 d7 B8 d8 cs rows :=
  h.move (fun k hk => hb.block k (h.lt k hk)) (fun k hk => hb.block k (h.ltD k hk)) hb.size
theorem CourtP.keep {F' : Nat → Prop} (h : CourtP F D W g C acts files A1 c1 B7 d7 B8 d8 cs rows) (hm : Mod F' W w8) (h1 : ∀ k,F k → ¬ F' k) (h2 : ∀ k,D k → ¬ F' k) : CourtP F D w8 g C acts files A1 c1 B7 d7 B8 d8 cs rows :=
  h.move (fun k hk => hm.block k (h.lt k hk) (h1 k hk)) (fun k hk => hm.block k (h.ltD k hk) (h2 k hk)) hm.size

theorem CourtP.addFile (h : CourtP F D W g C acts files A1 c1 B7 d7 B8 d8 cs rows) (nf : FileL) (hnf : nf.acts = []) (g8 cap8 : Nat)
    (hgrow : ∀ k,k < W.heap.size → some k ≠ (Value.slice B8 files.length d8).ownBlock → w8.heap[k]? = W.heap[k]?) (hs : W.heap.size ≤ w8.heap.size)
    (hown : w8.ownsRow 0 115 2 (.slice (some ⟨g8,0,none⟩) (files.length + 1) cap8) (files.length + 1) ((filesCells files rows).flatten ++ fileCells nf (.slice none 0 0)))
    (hat : (Value.slice B8 files.length d8).ownBlock = some g8 ∨ W.heap.size ≤ g8) (hlt : g8 < w8.heap.size) :
    CourtP (fun k => F k ∨ k = g8) D (w8.setCell ⟨g,8,none⟩ (.slice (some ⟨g8,0,none⟩) (files.length + 1) cap8)) g C acts (files ++ [nf]) A1 c1 B7 d7 (some ⟨g8,0,none⟩) cap8 cs (rows ++ [.slice none 0 0]):=by
  have hg8 : w8.heap[g]? = W.heap[g]?:=hgrow g (h.lt g h.gF) (fun e => own_ne h.own8 h.blk (by decide) g e.symm rfl);have hbk:=hg8.trans h.blk;have hne : g8 ≠ g:=own_ne hown hbk (by decide) g8 rfl;have hsame : ∀ k,k < W.heap.size → k ≠ g → some k ≠ (Value.slice B8 files.length d8).ownBlock → (w8.setCell ⟨g,8,none⟩ (.slice (some ⟨g8,0,none⟩) (files.length + 1) cap8)).heap[k]? = W.heap[k]?:=fun k hk h1 h2 => (set_other _ _ _ k h1).trans (hgrow k hk h2)
  have hD : ∀ k,D k → k < W.heap.size → (w8.setCell ⟨g,8,none⟩ (.slice (some ⟨g8,0,none⟩) (files.length + 1) cap8)).heap[k]? = W.heap[k]?:=fun k hk hl =>
    hsame k hl (fun e => h.apart k hk (e ▸ h.gF)) (fun e => h.apart k hk (h.f8 k e.symm))
  have hsz : W.heap.size ≤ (w8.setCell ⟨g,8,none⟩ (.slice (some ⟨g8,0,none⟩) (files.length + 1) cap8)).heap.size:=by rw [set_size];exact hs
  have h7ne : ∀ k,(Value.slice B7 acts.length d7).ownBlock = some k → k ≠ g ∧ some k ≠ (Value.slice B8 files.length d8).ownBlock:=fun k hk => by
    refine ⟨own_ne h.own7 h.blk (by decide) k hk,fun e => ?_⟩
    obtain ⟨cells,hc⟩:=own_typed h.own7 k hk
    exact own_ne h.own8 hc (by decide) k e.symm rfl
  have hrne : ∀ (i : Nat) (f : FileL) (v : Value) (k : Nat),files[i]? = some f → rows[i]? = some v → v.ownBlock = some k → k ≠ g ∧ some k ≠ (Value.slice B8 files.length d8).ownBlock:=fun i f v k hf hv hk => by
    have ho:=(h.rowsOk.own i f v hf hv).1;refine ⟨own_ne ho h.blk (by decide) k hk,fun e => ?_⟩
    obtain ⟨cells,hc⟩:=own_typed ho k hk
    exact own_ne h.own8 hc (by decide) k e.symm rfl
  have hrows : RowsOk F (w8.setCell ⟨g,8,none⟩ (.slice (some ⟨g8,0,none⟩) (files.length + 1) cap8)) files rows :=
    ⟨h.rowsOk.len,fun i f v hf hv => ⟨own_keep (h.rowsOk.own i f v hf hv).1 (fun k hk => hsame k (own_lt' (h.rowsOk.own i f v hf hv).1 k hk) (hrne i f v k hf hv hk).1 (hrne i f v k hf hv hk).2),(h.rowsOk.own i f v hf hv).2⟩,h.rowsOk.apart⟩
  have hlen : (files ++ [nf]).length = files.length + 1:=by simp
  refine ⟨?_,.inl h.gF,h.arts.move hD,own_keep h.own7 (fun k hk => hsame k (own_lt' h.own7 k hk) (h7ne k hk).1 (h7ne k hk).2),h.are.move hD,fun k hk => .inl (h.f7 k hk),?_,?_,hrows.snoc (fun k hk => .inl hk) nf hnf,?_,?_,?_,h.few⟩
  · rw [hlen];exact blk_set hbk 8 _
  · rw [hlen,filesCells_snoc _ _ _ _ h.rowsOk.len,List.flatten_append,List.flatten_singleton]
    exact own_keep hown (fun k hk => set_other _ _ _ k (by have : g8 = k := by simpa [Value.ownBlock] using hk
                                                           rw [← this];exact hne))
  · intro k hk
    have : g8 = k:=by simpa [Value.ownBlock] using hk
    exact .inr this.symm
  · rintro k (hk | rfl)
    · exact Nat.lt_of_lt_of_le (h.lt k hk) hsz
    · rw [set_size];exact hlt
  · exact fun k hk => Nat.lt_of_lt_of_le (h.ltD k hk) hsz
  · rintro k hk (hf | rfl)
    · exact h.apart k hk hf
    · rcases hat with e | e
      · exact h.apart k hk (h.f8 k e)
      · have:=h.ltD k hk;omega
end
end Go.Proofs.Ytpadgcomncljmaa.A
/- What a protest does. -/
namespace Go.Proofs.Ytpadgcomncljmaa.A
open Go.RowKit

theorem info115 : (Try.prog.info? 115).map (fun i => (i.zero,i.size,i.bytes)) = some (some (.agg #[.int .i64 0,.slice none 0 0]),2,32):=by kernel_rfl
theorem info43 : (Try.prog.info? 43).map (fun i => (i.zero,i.size,i.bytes)) = some (some (.agg #[.int .i64 0,.int .i64 0,.int .i64 0,.int .i64 0,.int .i64 0,.int .i64 0,.int .i64 0,.int .i64 0,.slice none 0 0,.int .i64 0,.bool false,.int .i64 0]),12,112):=by kernel_rfl

theorem actBox0 (w : World) (A8 : Option Addr) (c8 : Nat) (x : ActL) : (w.alloc (.cells #[.int .i64 x.kind,.int .i64 x.minute,.int .i64 x.paper,.int .i64 x.case_,.int .i64 x.by_,.int .i64 x.against,.int .i64 x.art,.int .i64 x.at_,.slice A8 x.facts.length c8,.int .i64 x.paid,.bool x.up,.int .i64 x.pen] 43)).heap[w.heap.size]? = some (.cells #[.int .i64 x.kind,.int .i64 x.minute,.int .i64 x.paper,.int .i64 x.case_,.int .i64 x.by_,.int .i64 x.against,.int .i64 x.art,.int .i64 x.at_,.slice A8 x.facts.length c8,.int .i64 x.paid,.bool x.up,.int .i64 x.pen] 43 (0,0)):=heap_alloc_new w _
def protestR (C : CodeL) (acts : List ActL) (files : List FileL) (a : ActL) : Except Int Int :=
  if pubMin acts a.paper < 0 ∨ verAt C.arts a.art a.at_ < 0 then .error 5
  else if C.win < a.minute - pubMin acts a.paper then .error 8 else if a.paid ≠ C.fee then .error 7 else .ok files.length
def newFile (acts : List ActL) : FileL:={ protest:=acts.length,acts:=[] }
def ProtestOk (F D : Nat → Prop) (w : World) (g : Nat) (C : CodeL) (acts : List ActL) (files : List FileL) (A1 : Option Addr) (c1 : Nat) (B7 : Option Addr) (d7 : Nat) (cs : List (List Value)) (rows : List Value) (w' : World) : Prop :=
  ∃ (F' : Nat → Prop) (B8 : Option Addr) (d8 : Nat),CourtP F' D w' g C acts (files ++ [newFile acts]) A1 c1 B7 d7 B8 d8 cs (rows ++ [.slice none 0 0]) ∧ Mod F w w' ∧ ∀ k,F' k → F k ∨ w.heap.size ≤ k
def ProtestPost (F D : Nat → Prop) (w : World) (g : Nat) (C : CodeL) (acts : List ActL) (files : List FileL) (a : ActL) (A1 : Option Addr) (c1 : Nat) (B7 : Option Addr) (d7 : Nat) (cs : List (List Value)) (rows : List Value) (r : Ending) (w' : World) : Prop :=
  r = resE (protestR C acts files a) ∧ (∀ e,protestR C acts files a = .error e → Below w.heap.size w w') ∧ (∀ n,protestR C acts files a = .ok n → ProtestOk F D w g C acts files A1 c1 B7 d7 cs rows w')
theorem ProtestPost.no {F D : Nat → Prop} {w : World} {g : Nat} {C : CodeL} {acts : List ActL} {files : List FileL} {a : ActL} {A1 : Option Addr} {c1 : Nat} {B7 : Option Addr} {d7 : Nat} {cs : List (List Value)} {rows : List Value} {w' : World} {e : Int} (h : protestR C acts files a = .error e) (hb : Below w.heap.size w w') : ProtestPost F D w g C acts files a A1 c1 B7 d7 cs rows (pan e) w' :=
  ⟨by rw [h];rfl,fun _ _ => hb,fun n hn => by rw [h] at hn;cases hn⟩
theorem pub_range {acts : List ActL} {C : CodeL} {files : List FileL} (hwf : Wf C acts files) (p : Int) : -1 ≤ pubMin acts p ∧ pubMin acts p ≤ 10000000:=by
  unfold pubMin
  cases h : acts.find? (isPub p) with
  | none => simp
  | some x => have:=hwf.minute x (List.mem_of_find?_eq_some h);simp only;omega

set_option maxHeartbeats 4000000 in
set_option maxRecDepth 100000 in
theorem protest_any (F D : Nat → Prop) (g : Nat) (C : CodeL) (acts : List ActL) (files : List FileL) (a : ActL) (A8 : Option Addr) (c8 : Nat) (w : World) (A1 : Option Addr) (c1 : Nat) (B7 : Option Addr) (d7 : Nat) (B8 : Option Addr) (d8 : Nat) (cs : List (List Value)) (rows : List Value) (hI : CourtP F D w g C acts files A1 c1 B7 d7 B8 d8 cs rows) (hwf : Wf C acts files) (hal : acts.length ≤ 1000000) (hfl : files.length ≤ acts.length)
    (hm0 : 0 ≤ a.minute) (hm1 : a.minute ≤ 10000000) :
    Calls Try.prog 65 #[.pointer (some ⟨g,0,none⟩),.agg #[.int .i64 a.kind,.int .i64 a.minute,.int .i64 a.paper,.int .i64 a.case_,.int .i64 a.by_,.int .i64 a.against,.int .i64 a.art,.int .i64 a.at_,.slice A8 a.facts.length c8,.int .i64 a.paid,.bool a.up,.int .i64 a.pen]] w (ProtestPost F D w g C acts files a A1 c1 B7 d7 cs rows):=by
  have HI:=Aside.mk hI;have HC:=Aside.mk (hI.reads hal hfl);have HB:=Aside.mk (bel_alloc (Below.refl _ w) (.cells #[.int .i64 a.kind,.int .i64 a.minute,.int .i64 a.paper,.int .i64 a.case_,.int .i64 a.by_,.int .i64 a.against,.int .i64 a.art,.int .i64 a.at_,.slice A8 a.facts.length c8,.int .i64 a.paid,.bool a.up,.int .i64 a.pen] 43));have HQ:=Aside.mk (actBox0 w A8 c8 a);have hpr:=pub_range hwf a.paper
  obtain ⟨hpr0,hpr1⟩:=hpr
  have hw0:=hwf.win.1;have hw1:=hwf.win.2;clear hI hwf
  go_enter Try.func65,Try.ntmps65
  go_wp2_with fail
  refine (published_any g C acts files a.paper _ (HC.out.below HB.out)).mono ?_
  rintro r w1 ⟨rfl,hb1⟩
  have HB1:=Aside.mk (bel_then HB.out hb1);have hq:=(hb1.block w.heap.size (by simp)).trans HQ.out;have HQ1:=Aside.mk hq;have hC1:=HC.out.below HB1.out
  obtain ⟨A1',c1',A7,c7,A8',c8',hg,hr1,_,_,hcn,_,_⟩:=hC1
  have HR1:=Aside.mk hr1;have HG:=Aside.mk hg;have h0:=court0 hg;have h1:=court1 hg;have h2:=court2 hg;have h3:=court3 hg;have h4:=court4 hg;have h5:=court5 hg;have hgl:=blk_lt hg
  obtain ⟨b0,b1,b2,b3,b4,b5,b6,b7,b8,b9,b10,b11⟩:=actBox hq
  have hz:=blk_lt hq;have hu33:=Try.underlying33;clear hb1 hq hg hr1
  go_wp2_with fail
  go_region_held3 (fun w' => w'.cell? ⟨g, 0, none⟩ = some (.int .i64 C.cars) ∧ w'.cell? ⟨g, 1, none⟩ = some (.slice A1' C.arts.length c1') ∧ w'.cell? ⟨g, 2, none⟩ = some (.int .i64 C.win) ∧ w'.cell? ⟨g, 3, none⟩ = some (.int .i64 C.sec) ∧ w'.cell? ⟨g, 4, none⟩ = some (.int .i64 C.fee) ∧ w'.cell? ⟨g, 5, none⟩ = some (.int .i64 C.price) ∧ w'.cell? ⟨w.heap.size, 6, none⟩ = some (.int .i64 a.art) ∧ w'.cell? ⟨w.heap.size, 7, none⟩ = some (.int .i64 a.at_)) (first | exact ⟨h0, h1, h2, h3, h4, h5, b6, b7⟩ | exact ⟨(KB.cell hgl).trans h0, (KB.cell hgl).trans h1, (KB.cell hgl).trans h2, (KB.cell hgl).trans h3, (KB.cell hgl).trans h4, (KB.cell hgl).trans h5, (KB.cell hz).trans b6, (KB.cell hz).trans b7⟩)
    (first | (go_at_call 81;refine (version_any _ _ _ _ _ _ _ C.arts a.art a.at_ _ (HR1.out.below (bel_drew (Below.refl _ w1))) hcn).mono ?_;rintro r w2 ⟨rfl,hb3⟩;have KB : Below w1.heap.size w1 w2:=bel_then (bel_drew (Below.refl _ w1)) hb3))
  have HB2:=Aside.mk (bel_then HB1.out KB);have hg2:=(KB.block g hgl).trans HG.out;have hq2:=(KB.block w.heap.size hz).trans HQ1.out;clear KB h0 h1 h2 h3 h4 h5 b0 b1 b2 b3 b4 b5 b6 b7 b8 b9 b10 b11;have h2:=court2 hg2;have h4:=court4 hg2;have hgl2:=blk_lt hg2;have hz2:=blk_lt hq2
  obtain ⟨b0,b1,b2,b3,b4,b5,b6,b7,b8,b9,b10,b11⟩:=actBox hq2
  clear hg2 hq2
  by_cases hbad : pubMin acts a.paper < 0 ∨ verAt C.arts a.art a.at_ < 0
  · have HP:=Aside.mk (show protestR C acts files a = .error 5 by unfold protestR;rw [if_pos hbad])
    have HBAD:=Aside.mk hbad;clear hbad
    go_wp2_with fail
    all_goals
      refine (refuse_as _ true (by have:=HBAD.out;simp_all;try omega) _ _).mono ?_
      rintro r w3 ⟨rfl,rfl⟩
      exact ⟨rfl,ProtestPost.no HP.out HB2.out⟩
  have hpos : 0 ≤ pubMin acts a.paper:=by omega
  have hvp : 0 ≤ verAt C.arts a.art a.at_:=by omega
  have HBAD:=Aside.mk hbad;clear hbad
  go_wp2_with fail
  refine (refuse_as _ false (by simp_all) _ _).mono ?_
  rintro r w3 ⟨rfl,rfl⟩
  rw [show endOf false 5 = .returned (.tuple #[]) from rfl]
  go_wp2_with fail
  refine wp_region_still_tail 9 (by kernel_rfl) (by kernel_rfl) ?_;simp only [List.take_succ_cons,List.take_zero,List.drop_succ_cons,List.drop_zero]
  change wpStill _ _ (World.drew _) _ _ _
  repeat still_step
  refine wpStill_nil ?_
  change wpList _ _ _ _ _ (World.drew _)
  by_cases hlate : C.win < a.minute - pubMin acts a.paper
  · have hld : decide (C.win < a.minute - pubMin acts a.paper) = true:=decide_eq_true hlate
    have HP:=Aside.mk (show protestR C acts files a = .error 8 by unfold protestR;rw [if_neg HBAD.out,if_pos hlate]);clear hlate
    go_wp2_with fail
    refine (refuse_as _ true (by first | rfl | exact hld) _ _).mono ?_
    rintro r w3 ⟨rfl,rfl⟩
    exact ⟨rfl,ProtestPost.no HP.out (bel_drew HB2.out)⟩
  have hld : decide (C.win < a.minute - pubMin acts a.paper) = false:=decide_eq_false hlate;have HLATE:=Aside.mk hlate;clear hlate
  go_wp2_with fail
  refine (refuse_as _ false (by first | rfl | exact hld) _ _).mono ?_
  rintro r w3 ⟨rfl,rfl⟩
  rw [show endOf false 8 = .returned (.tuple #[]) from rfl]
  go_wp2_with fail
  refine wp_region_still_tail 7 (by kernel_rfl) (by kernel_rfl) ?_;simp only [List.take_succ_cons,List.take_zero,List.drop_succ_cons,List.drop_zero]
  change wpStill _ _ (World.drew _) _ _ _
  repeat still_step
  refine wpStill_nil ?_
  change wpList _ _ _ _ _ (World.drew _)
  by_cases hfee : a.paid = C.fee
  rotate_left
  · have HP:=Aside.mk (show protestR C acts files a = .error 7 by unfold protestR;rw [if_neg HBAD.out,if_neg (by have:=HLATE.out;omega),if_pos hfee])
    have hfd : (a.paid != C.fee) = true:=by simp [hfee]
    clear hfee
    go_wp2_with fail
    refine (refuse_as _ true (by first | rfl | exact hfd) _ _).mono ?_
    rintro r w3 ⟨rfl,rfl⟩
    exact ⟨rfl,ProtestPost.no HP.out (bel_drew (bel_drew HB2.out))⟩
  have HP:=Aside.mk (show protestR C acts files a = .ok files.length by unfold protestR;rw [if_neg HBAD.out,if_neg (by have:=HLATE.out;omega),if_neg (by omega)]);have hfd : (a.paid != C.fee) = false:=by simp [hfee]
  clear hfee
  go_wp2_with fail
  refine (refuse_as _ false (by first | rfl | exact hfd) _ _).mono ?_
  rintro r w3 ⟨rfl,rfl⟩
  rw [show endOf false 7 = .returned (.tuple #[]) from rfl];have HB6:=Aside.mk (bel_drew (bel_drew HB2.out));have hI6:=HI.out.below HB6.out;clear hld hfd hpos hvp h2 h4 b0 b1 b2 b3 b4 b5 b6 b7 b8 b9 b10 b11
  go_wp2_with fail
  obtain ⟨W6,hW6⟩ : ∃ W6,W6 = w2.drew.drew:=⟨_,rfl⟩
  rw [← hW6] at hI6 HB6 ⊢;have hg:=hI6.blk;have h7:=court7 hg;have h8:=court8 hg;have hf8 : W6.frozen? ⟨g,8,none⟩ = false:=by simp [World.frozen?,hg]
  have hgl6:=blk_lt hg;have H5:=Aside.mk hI6.own8;have HGG:=Aside.mk hg;have hne8:=own_ne hI6.own8 hg (by decide);have HNE:=Aside.mk hne8;have HI6:=Aside.mk hI6
  obtain ⟨i0,hi,hz0,hz1,hz2⟩:=info_parts info115
  have HI0:=Aside.mk hi;have HZ0:=Aside.mk hz0;have HZ1:=Aside.mk hz1;have HZ2:=Aside.mk hz2;clear hi hz0 hz1 hz2 hg hI6 hne8 hW6
  go_region_law (first | (refine step_append_lies _ rfl _ _ 97 rfl 0 115 i0 (.agg #[.int .i64 0,.slice none 0 0]) 2 32 Try.underlying97 HI0.out HZ0.out HZ1.out HZ2.out rfl (by decide) _ _ _ rfl (own_below H5.out (by repeat (first | exact Below.refl _ _ | apply bel_drew | apply bel_alloc))) ⟨W6.heap.size,0,none⟩ 1 1 (fileCells (newFile acts) (.slice none 0 0)) rfl rfl (by exact World.news_of_block (cs:=#[.int .i64 (acts.length : Int),.slice none 0 0]) (t:=115) (fr:=(0,0)) (heap_alloc_new W6 _)) (by intro u hu;simp [fileCells] at hu;rcases hu with rfl | rfl <;> rfl) (by decide) (by simp only [maxLen];omega) (by omega) (Nat.zero_le _) (W6.heap.size + 1) (by simp) ?_;intro g8 cap8 w8 hown8 hgrow8 hat8 hlt8;have hg8:=(hgrow8.block g (by simp <;> omega) (fun e => HNE.out g e.symm rfl)).trans ((Below.heap_alloc W6 _ g hgl6).trans HGG.out);have HG8:=Aside.mk hg8;have HO8:=Aside.mk hown8;have HW8:=Aside.mk (show World.grownBy (W6.alloc (.cells #[.int .i64 (acts.length : Int),.slice none 0 0] 115)).drew w8 (Value.slice B8 files.length d8).ownBlock from hgrow8);have HA8:=Aside.mk (show (Value.slice B8 files.length d8).ownBlock = some g8 ∨ g8 = W6.heap.size + 1 from hat8);have hc8:=court8 hg8;have hz8 : w8.frozen? ⟨g,8,none⟩ = false:=(by simp [World.frozen?,hg8]);clear hg8 hown8 hgrow8 hat8))
  all_goals
    have hlw : IntKind.i64.wrap (((files.length : Int) + 1) - 1) = files.length:=by
      rw [IntWalk.i64_in _ (by omega)];omega
  all_goals go_wp2_with fail
  all_goals
    go_ret
    refine ⟨by rw [HP.out];rfl,(fun e h => by rw [HP.out] at h;cases h),fun n hn => ⟨fun k => F k ∨ k = g8,_,_,HI6.out.addFile (newFile acts) rfl g8 cap8 (fun k hk hne => (HW8.out.block k (by simp <;> omega) hne).trans (Below.heap_alloc W6 _ k hk)) (Nat.le_trans (by simp) HW8.out.size) HO8.out (HA8.out.imp id (fun h => by omega)) hlt8,?_,?_⟩⟩
    · exact (((Mod.of_below HB6.out).alloc _).drew.grown HW8.out (fun k hk => .inl (HI6.out.f8 k hk))).set_ (.inl HI6.out.gF) _
    · intro k hk
      rcases hk with hk | rfl
      · exact .inl hk
      · rcases HA8.out with e | e
        · exact .inl (HI6.out.f8 _ e)
        · right;have:=HB6.out.size;omega
end Go.Proofs.Ytpadgcomncljmaa.A
/- Do's deferred closure: what it makes of a panic,and that it does nothing where there is none. -/
namespace Go.Proofs.Ytpadgcomncljmaa.A
open Go.RowKit

set_option maxHeartbeats 1000000 in
set_option maxRecDepth 100000 in
theorem catch_idle (p q : Addr) (w : World) :
    CallsD Try.prog 63 #[.pointer (some p),.pointer (some q)] .returning w fun e u' w' => e = .returned (.tuple #[]) ∧ u' = .returning ∧ w' = w:=by
  refine callsD_of_wpS Try.func63 rfl fun c₀ cs hu => ?_
  apply wpS_seq
  apply wpS_region
  simp [wpOpsS,go_sem,recoverD,hu,Try.ntmps63,Exit.thenS]
  refine wpS_of_wp ?_
  go_wp2
  cases c₀
  simp_all [bodyPostS,results,Try.results63]

def Caught (w : World) (b1 b2 : Nat) (er : Int) (w' : World) : Prop :=
  Mod (fun k => k = b1 ∨ k = b2) w w' ∧ w'.cell? ⟨b1,0,none⟩ = some (.int .i64 0) ∧ w'.cell? ⟨b2,0,none⟩ = some (.int .i64 er)
set_option maxHeartbeats 2000000 in
set_option maxRecDepth 100000 in
theorem catch_refused (b1 b2 : Nat) (er x y : Int) (hpq : ¬ b1 = b2) (w : World) (hp : w.cell? ⟨b1, 0, none⟩ = some (.int .i64 x)) (hq : w.cell? ⟨b2, 0, none⟩ = some (.int .i64 y)) (fp : w.frozen? ⟨b1, 0, none⟩ = false) (fq : w.frozen? ⟨b2, 0, none⟩ = false) :
    CallsD Try.prog 63 #[.pointer (some ⟨b1,0,none⟩),.pointer (some ⟨b2,0,none⟩)] (.panicking [{ v:=.iface 109 (.agg #[.int .i64 er]),recovered:=false }]) w fun e u' w' => e = .returned (.tuple #[]) ∧ u' = .panicking [{ v:=.iface 109 (.agg #[.int .i64 er]),recovered:=true }] ∧ Caught w b1 b2 er w':=by
  have hpl:=lt_of_cell hp;have hql:=lt_of_cell hq;have hta : ∀ w : World,(Instr.typeAssert (.iface 109 (.agg #[.int .i64 er])) 20 109 true).run Try.prog w = .ok (.tuple #[.agg #[.int .i64 er],.bool true]) w:=fun w => by kernel_rfl
  have hpq' : ¬ b2 = b1:=fun h => hpq h.symm;refine callsD_of_wpS Try.func63 rfl fun c₀ cs hu => ?_;rw [show (#[.pointer (some ⟨b1,0,none⟩),.pointer (some ⟨b2,0,none⟩)] : Array Value) ++ Array.replicate (Try.f63.ntmps - (#[.pointer (some ⟨b1,0,none⟩),.pointer (some ⟨b2,0,none⟩)] : Array Value).size) undef = #[.pointer (some ⟨b1,0,none⟩),.pointer (some ⟨b2,0,none⟩),undef,undef,undef,undef,undef,undef,undef,undef,undef,undef,undef,undef,undef,undef,undef,undef] from by rw [Try.ntmps63];rfl]
  apply wpS_seq
  apply wpS_region
  simp [wpOpsS,go_sem,recoverD,hu,Exit.thenS]
  refine wpS_of_wp ?_
  go_wp2_with fail
  go_region
  refine ⟨rfl,_,rfl,.tuple #[],by simp [results,Try.results63,go_sem],rfl,rfl,?_,?_,?_⟩
  · exact (((Mod.refl.set_ (p:=⟨b1,0,none⟩) (.inl (.inl rfl)) _).set_ (p:=⟨b2,0,none⟩) (.inl (.inr rfl)) _).alloc _).drew
  · go_simp
  · go_simp
end Go.Proofs.Ytpadgcomncljmaa.A
/- An owned court: an act more in a case,an act more in the record. -/
namespace Go.Proofs.Ytpadgcomncljmaa.A
open Go.RowKit

theorem flat_set {α : Type} (s : Nat) : ∀ (L : List (List α)) (i j : Nat) (u : α) (c : List α),(∀ c ∈ L,c.length = s) → j < s → L[i]? = some c → L.flatten.set (i * s + j) u = (L.set i (c.set j u)).flatten:=by
  intro L
  induction L with
  | nil => intro i j u c _ _ h;simp at h
  | cons d L ih =>
    intro i j u c hL hj h;have hd : d.length = s:=hL d List.mem_cons_self
    cases i with
    | zero =>
      have : d = c:=by simpa using h
      subst this
      simp only [List.flatten_cons,Nat.zero_mul,Nat.zero_add,List.set_cons_zero];rw [List.set_append_left _ _ (by omega)]
    | succ i =>
      rw [List.flatten_cons,List.set_append_right _ _ (by rw [hd,Nat.succ_mul];omega),hd];have e : (i + 1) * s + j - s = i * s + j:=by rw [Nat.succ_mul];omega
      rw [e,ih i j u c (fun c hc => hL c (List.mem_cons_of_mem _ hc)) hj (by simpa using h)]
      rfl
theorem zip_set {α β : Type} : ∀ (l : List α) (m : List β) (i : Nat) (a : α) (b : β), (l.set i a).zip (m.set i b) = (l.zip m).set i (a, b)
  | [],_,_,_,_ => by simp
  | _ :: _,[],_,_,_ => by simp
  | _ :: _,_ :: _,0,_,_ => rfl
  | x :: l,y :: m,i + 1,a,b => by simp [zip_set l m i a b]
theorem filesCells_set (files : List FileL) (rows : List Value) (i : Nat) (f : FileL) (v : Value) : filesCells (files.set i f) (rows.set i v) = (filesCells files rows).set i (fileCells f v):=by
  unfold filesCells
  rw [zip_set,List.map_set]

section
variable {F D : Nat → Prop} {W w8 : World} {g : Nat} {C : CodeL} {acts : List ActL} {files : List FileL} {A1 B7 B8 : Option Addr} {c1 d7 d8 : Nat} {cs : List (List Value)} {rows : List Value}

theorem CourtP.widen (h : CourtP F D W g C acts files A1 c1 B7 d7 B8 d8 cs rows) {D' : Nat → Prop} (h1 : ∀ k,D k → D' k) (h2 : ∀ k,D' k → k < W.heap.size) (h3 : ∀ k,D' k → ¬ F k) : CourtP F D' W g C acts files A1 c1 B7 d7 B8 d8 cs rows :=
  ⟨h.blk,h.gF,h.arts.mono (fun k hk _ => h1 k hk),h.own7,h.are.mono (fun k hk _ => h1 k hk),h.f7,h.own8,h.f8,h.rowsOk,h.lt,h2,h3,h.few⟩

theorem CourtP.addAct (h : CourtP F D W g C acts files A1 c1 B7 d7 B8 d8 cs rows) (x : ActL) (A8 : Option Addr) (c8 : Nat) (hc8 : x.facts.length ≤ c8) (hx8 : RI D W A8 x.facts) (g7 cap7 : Nat)
    (hgrow : ∀ k,k < W.heap.size → some k ≠ (Value.slice B7 acts.length d7).ownBlock → w8.heap[k]? = W.heap[k]?) (hs : W.heap.size ≤ w8.heap.size)
    (hown : w8.ownsRow 0 43 12 (.slice (some ⟨g7,0,none⟩) (acts.length + 1) cap7) (acts.length + 1) (cs.flatten ++ actCells x A8 c8))
    (hat : (Value.slice B7 acts.length d7).ownBlock = some g7 ∨ W.heap.size ≤ g7) (hlt : g7 < w8.heap.size) :
    CourtP (fun k => F k ∨ k = g7) D (w8.setCell ⟨g,7,none⟩ (.slice (some ⟨g7,0,none⟩) (acts.length + 1) cap7)) g C (acts ++ [x]) files A1 c1 (some ⟨g7,0,none⟩) cap7 B8 d8 (cs ++ [actCells x A8 c8]) rows:=by
  have hg7 : w8.heap[g]? = W.heap[g]?:=hgrow g (h.lt g h.gF) (fun e => own_ne h.own7 h.blk (by decide) g e.symm rfl);have hbk:=hg7.trans h.blk;have hne : g7 ≠ g:=own_ne hown hbk (by decide) g7 rfl;have hsame : ∀ k,k < W.heap.size → k ≠ g → some k ≠ (Value.slice B7 acts.length d7).ownBlock → (w8.setCell ⟨g,7,none⟩ (.slice (some ⟨g7,0,none⟩) (acts.length + 1) cap7)).heap[k]? = W.heap[k]?:=fun k hk h1 h2 => (set_other _ _ _ k h1).trans (hgrow k hk h2)
  have hD : ∀ k,D k → k < W.heap.size → (w8.setCell ⟨g,7,none⟩ (.slice (some ⟨g7,0,none⟩) (acts.length + 1) cap7)).heap[k]? = W.heap[k]?:=fun k hk hl =>
    hsame k hl (fun e => h.apart k hk (e ▸ h.gF)) (fun e => h.apart k hk (h.f7 k e.symm))
  have hsz : W.heap.size ≤ (w8.setCell ⟨g,7,none⟩ (.slice (some ⟨g7,0,none⟩) (acts.length + 1) cap7)).heap.size:=by rw [set_size];exact hs
  have h8ne : ∀ k,(Value.slice B8 files.length d8).ownBlock = some k → k ≠ g ∧ some k ≠ (Value.slice B7 acts.length d7).ownBlock:=fun k hk => by
    refine ⟨own_ne h.own8 h.blk (by decide) k hk,fun e => ?_⟩
    obtain ⟨cells,hc⟩:=own_typed h.own8 k hk
    exact own_ne h.own7 hc (by decide) k e.symm rfl
  have hrne : ∀ (i : Nat) (f : FileL) (v : Value) (k : Nat),files[i]? = some f → rows[i]? = some v → v.ownBlock = some k → k ≠ g ∧ some k ≠ (Value.slice B7 acts.length d7).ownBlock:=fun i f v k hf hv hk => by
    have ho:=(h.rowsOk.own i f v hf hv).1;refine ⟨own_ne ho h.blk (by decide) k hk,fun e => ?_⟩
    obtain ⟨cells,hc⟩:=own_typed ho k hk
    exact own_ne h.own7 hc (by decide) k e.symm rfl
  have hlen : (acts ++ [x]).length = acts.length + 1:=by simp
  refine ⟨?_, .inl h.gF, h.arts.move hD, ?_, (h.are.snoc x A8 c8 hc8 hx8).move hD, ?_, own_keep h.own8 (fun k hk => hsame k (own_lt' h.own8 k hk) (h8ne k hk).1 (h8ne k hk).2), fun k hk => .inl (h.f8 k hk),
    ⟨h.rowsOk.len,fun i f v hf hv => ⟨own_keep (h.rowsOk.own i f v hf hv).1 (fun k hk => hsame k (own_lt' (h.rowsOk.own i f v hf hv).1 k hk) (hrne i f v k hf hv hk).1 (hrne i f v k hf hv hk).2),fun k hk => .inl ((h.rowsOk.own i f v hf hv).2 k hk)⟩,h.rowsOk.apart⟩,?_,?_,?_,h.few⟩
  · rw [hlen];exact blk_set hbk 7 _
  · rw [hlen,List.flatten_append,List.flatten_singleton]
    exact own_keep hown (fun k hk => set_other _ _ _ k (by have : g7 = k := by simpa [Value.ownBlock] using hk
                                                           rw [← this];exact hne))
  · intro k hk
    have : g7 = k:=by simpa [Value.ownBlock] using hk
    exact .inr this.symm
  · rintro k (hk | rfl)
    · exact Nat.lt_of_lt_of_le (h.lt k hk) hsz
    · rw [set_size];exact hlt
  · exact fun k hk => Nat.lt_of_lt_of_le (h.ltD k hk) hsz
  · rintro k hk (hf | rfl)
    · exact h.apart k hk hf
    · rcases hat with e | e
      · exact h.apart k hk (h.f7 k e)
      · have:=h.ltD k hk;omega

theorem CourtP.file_block (h : CourtP F D W g C acts files A1 c1 B7 d7 B8 d8 cs rows) {i : Nat} {f : FileL} (hf : files[i]? = some f) : ∃ b8,B8 = some ⟨b8,0,none⟩:=by
  obtain ⟨b,cap,e,_⟩:=World.ownsRow.form h.own8 (by have:=(List.getElem?_eq_some_iff.1 hf).1;omega)
  injection e with e _ _
  exact ⟨b,e⟩

theorem CourtP.setRow {b8 : Nat} (h : CourtP F D W g C acts files A1 c1 B7 d7 (some ⟨b8, 0, none⟩) d8 cs rows) (i : Nat) (f : FileL) (v : Value) (hf : files[i]? = some f) (hv : rows[i]? = some v) (n : Int) (g9 cap9 : Nat)
    (hgrow : ∀ k,k < W.heap.size → some k ≠ v.ownBlock → w8.heap[k]? = W.heap[k]?) (hs : W.heap.size ≤ w8.heap.size)
    (hown : w8.ownsRow 0 3 1 (.slice (some ⟨g9,0,none⟩) (f.acts.length + 1) cap9) (f.acts.length + 1) (ints f.acts ++ [.int .i64 n]))
    (hat : v.ownBlock = some g9 ∨ W.heap.size ≤ g9) (hlt : g9 < w8.heap.size) :
    CourtP (fun k => F k ∨ k = g9) D (w8.setCell ⟨b8,i * 2 + 1,none⟩ (.slice (some ⟨g9,0,none⟩) (f.acts.length + 1) cap9)) g C acts (files.set i { f with acts:=f.acts ++ [n] }) A1 c1 B7 d7 (some ⟨b8,0,none⟩) d8 cs (rows.set i (.slice (some ⟨g9,0,none⟩) (f.acts.length + 1) cap9)):=by
  have ho:=(h.rowsOk.own i f v hf hv).1;have hgne : ∀ k,v.ownBlock = some k → k ≠ g:=own_ne ho h.blk (by decide);have hg9 : w8.heap[g]? = W.heap[g]?:=hgrow g (h.lt g h.gF) (fun e => hgne g e.symm rfl);have hbk:=hg9.trans h.blk;have hb8F : F b8:=h.f8 b8 rfl;have hb8g : b8 ≠ g:=own_ne h.own8 h.blk (by decide) b8 rfl
  obtain ⟨c8',hc8'⟩:=own_typed h.own8 b8 rfl
  have hvb8 : ∀ k,v.ownBlock = some k → k ≠ b8:=own_ne ho hc8' (by decide);have hb8w : w8.heap[b8]? = W.heap[b8]?:=hgrow b8 (h.lt b8 hb8F) (fun e => hvb8 b8 e.symm rfl);have hg9b : g9 ≠ b8:=own_ne hown (hb8w.trans hc8') (by decide) g9 rfl;have hg9g : g9 ≠ g:=own_ne hown hbk (by decide) g9 rfl;have hil : i < files.length:=(List.getElem?_eq_some_iff.1 hf).1;have hsame : ∀ k,k < W.heap.size → k ≠ b8 → some k ≠ v.ownBlock → (w8.setCell ⟨b8,i * 2 + 1,none⟩ (.slice (some ⟨g9,0,none⟩) (f.acts.length + 1) cap9)).heap[k]? = W.heap[k]?:=fun k hk h1 h2 => (set_other _ _ _ k h1).trans (hgrow k hk h2)
  have hD : ∀ k,D k → k < W.heap.size → (w8.setCell ⟨b8,i * 2 + 1,none⟩ (.slice (some ⟨g9,0,none⟩) (f.acts.length + 1) cap9)).heap[k]? = W.heap[k]?:=fun k hk hl =>
    hsame k hl (fun e => h.apart k hk (e ▸ hb8F)) (fun e => h.apart k hk ((h.rowsOk.own i f v hf hv).2 k e.symm))
  have hsz : W.heap.size ≤ (w8.setCell ⟨b8,i * 2 + 1,none⟩ (.slice (some ⟨g9,0,none⟩) (f.acts.length + 1) cap9)).heap.size:=by rw [set_size];exact hs
  have h7ne : ∀ k,(Value.slice B7 acts.length d7).ownBlock = some k → k ≠ b8 ∧ some k ≠ v.ownBlock:=fun k hk => by
    refine ⟨own_ne h.own7 hc8' (by decide) k hk,fun e => ?_⟩
    obtain ⟨cells,hc⟩:=own_typed h.own7 k hk
    exact own_ne ho hc (by decide) k e.symm rfl
  have hown8 : w8.ownsRow 0 115 2 (.slice (some ⟨b8,0,none⟩) files.length d8) files.length (filesCells files rows).flatten:=own_keep h.own8 (fun k hk => by
    have : b8 = k:=by simpa [Value.ownBlock] using hk
    rw [← this];exact hb8w)
  have hlen : (files.set i { f with acts:=f.acts ++ [n] }).length = files.length:=by simp
  have hrl:=h.rowsOk.len;refine ⟨?_,.inl h.gF,h.arts.move hD,own_keep h.own7 (fun k hk => hsame k (own_lt' h.own7 k hk) (h7ne k hk).1 (h7ne k hk).2),h.are.move hD,fun k hk => .inl (h.f7 k hk),?_,fun k hk => .inl (h.f8 k (by simpa [Value.ownBlock] using hk)),⟨by simp [hrl],?_,?_⟩,?_,?_,?_,h.few⟩
  · rw [hlen];exact (set_other _ _ _ g (Ne.symm hb8g)).trans hbk
  · rw [hlen,filesCells_set]
    have:=hown8.stored (i * 2 + 1) (.slice (some ⟨g9,0,none⟩) (f.acts.length + 1) cap9);rw [flat_set 2 _ i 1 _ _ filesCells_len (by omega) (filesCells_get i f v hf hv)] at this;exact this.1
  · intro j f' v' hf' hv'
    rw [List.getElem?_set] at hf' hv'
    by_cases hij : i = j
    · subst hij
      rw [if_pos rfl,if_pos hil] at hf';rw [if_pos rfl,if_pos (by omega)] at hv'
      cases hf'
      cases hv'
      refine ⟨?_, fun k hk => .inr (by have : g9 = k := by simpa [Value.ownBlock] using hk
                                       exact this.symm)⟩
      have e : ints (f.acts ++ [n]) = ints f.acts ++ [.int .i64 n]:=by simp [ints]
      rw [e,show (f.acts ++ [n]).length = f.acts.length + 1 by simp]
      exact own_keep hown (fun k hk => set_other _ _ _ k (by have : g9 = k := by simpa [Value.ownBlock] using hk
                                                             rw [← this];exact hg9b))
    · rw [if_neg hij] at hf' hv'
      have ho':=(h.rowsOk.own j f' v' hf' hv').1;refine ⟨own_keep ho' (fun k hk => hsame k (own_lt' ho' k hk) (own_ne ho' hc8' (by decide) k hk) (fun e => hij (h.rowsOk.apart i j v v' k hv hv' e.symm hk))),fun k hk => .inl ((h.rowsOk.own j f' v' hf' hv').2 k hk)⟩
  · have hkey : ∀ (j : Nat) (v' : Value),rows[j]? = some v' → v'.ownBlock = some g9 → j = i:=fun j v' hv' hk => by
      rcases hat with e | e
      · exact h.rowsOk.apart j i v' v g9 hv' hv hk e
      · have hjl : j < files.length:=by rw [← hrl];exact (List.getElem?_eq_some_iff.1 hv').1
        obtain ⟨f',hf'⟩:=get_some hjl
        have:=own_lt' (h.rowsOk.own j f' v' hf' hv').1 g9 hk
        omega
    intro j j' u u' k hu hu' hk hk';rw [List.getElem?_set] at hu hu'
    by_cases hij : i = j
    · by_cases hij' : i = j'
      · omega
      · rw [if_pos hij,if_pos (by omega)] at hu
        rw [if_neg hij'] at hu'
        cases hu
        have : g9 = k:=by simpa [Value.ownBlock] using hk
        subst this
        exact absurd (hkey j' u' hu' hk').symm hij'
    · rw [if_neg hij] at hu
      by_cases hij' : i = j'
      · rw [if_pos hij',if_pos (by omega)] at hu'
        cases hu'
        have : g9 = k:=by simpa [Value.ownBlock] using hk'
        subst this
        exact absurd (hkey j u hu hk).symm hij
      · rw [if_neg hij'] at hu'
        exact h.rowsOk.apart j j' u u' k hu hu' hk hk'
  · rintro k (hk | rfl)
    · exact Nat.lt_of_lt_of_le (h.lt k hk) hsz
    · rw [set_size];exact hlt
  · exact fun k hk => Nat.lt_of_lt_of_le (h.ltD k hk) hsz
  · rintro k hk (hf' | rfl)
    · exact h.apart k hk hf'
    · rcases hat with e | e
      · exact h.apart k hk ((h.rowsOk.own i f v hf hv).2 k e)
      · have:=h.ltD k hk;omega
end
end Go.Proofs.Ytpadgcomncljmaa.A
/- A copy of a slice: the contracts of the library for slices.Clone,at this program. -/
namespace Go.Proofs.Ytpadgcomncljmaa.A
open Go.Shelf Go.RowKit
def laysNm2_15_ren : Go.Shelf.Ren:=⟨fun | 15 => 70 | n => n,fun | 22 => 22 | 3 => 3 | 4 => 4 | n => n,fun | n => n⟩
theorem laysNm2_15 : Go.Proofs.Lays2.n15 Try.prog laysNm2_15_ren := {
  mixed:=by kernel_rfl,
  f15:=Try.func70.trans (congrArg some (by kernel_rfl)),
  t3:=Try.underlying3,
  a3:=Try.isAgg3,
  z3:=Try.sizeOf3,
  v3:=Try.zeroValue3,
  t4:=Try.underlying4,
  a4:=Try.isAgg4,
  z4:=Try.sizeOf4,
  v4:=Try.zeroValue4,
  t22:=Try.underlying22,
  a22:=Try.isAgg22,
  z22:=Try.sizeOf22,
  v22:=Try.zeroValue22,
  i3:=by kernel_rfl }
def lays41_70_ren : Go.Shelf.Ren:=⟨fun | 41 => 70 | n => n,fun | 22 => 22 | 23 => 3 | 4 => 4 | n => n,fun | n => n⟩
theorem lays41_70 : Go.Proofs.SlLaysE0.n41 Try.prog lays41_70_ren := {
  mixed:=by kernel_rfl,
  f41:=⟨Try.f70.name,by decide,Try.func70.trans (congrArg some (by kernel_rfl))⟩,
  t4:=Try.underlying4,
  a4:=Try.isAgg4,
  z4:=Try.sizeOf4,
  v4:=Try.zeroValue4,
  t22:=Try.underlying22,
  a22:=Try.isAgg22,
  z22:=Try.sizeOf22,
  v22:=Try.zeroValue22 }
def lays41_56_ren : Go.Shelf.Ren:=⟨fun | 41 => 56 | n => n,fun | 22 => 31 | 23 => 71 | 4 => 4 | n => n,fun | n => n⟩
theorem lays41_56 : Go.Proofs.SlLaysE0.n41 Try.prog lays41_56_ren := {
  mixed:=by kernel_rfl,
  f41:=⟨Try.f56.name,by decide,Try.func56.trans (congrArg some (by kernel_rfl))⟩,
  t4:=Try.underlying4,
  a4:=Try.isAgg4,
  z4:=Try.sizeOf4,
  v4:=Try.zeroValue4,
  t22:=Try.underlying31,
  a22:=Try.isAgg31,
  z22:=Try.sizeOf31,
  v22:=Try.zeroValue31 }

theorem cell_spot {w : World} {a : Addr} {v : Value} (h : w.cell? a = some v) : a = ⟨a.block,a.off,none⟩:=by
  obtain ⟨b,o,s⟩:=a
  cases s with
  | none => rfl
  | some k => unfold World.cell? at h;split at h <;> simp_all

theorem info71 : (Try.prog.info? 71).map (fun i => (i.zero,i.size,i.bytes)) = some (some (.agg #[.int .i64 0,.int .i64 0,.int .i64 0,.int .i64 0]),4,32):=by kernel_rfl

theorem size_run {t : TypeId} {n : Nat} {x : Option Value × Nat × Nat} (h : (Try.prog.info? t).map (fun i => (i.zero,i.size,i.bytes)) = some x) (hn : x.2.1 = n) (w : World) : (Go.sizeOf t).run Try.prog w = .ok n w:=by
  obtain ⟨i,hi,e⟩:=Option.map_eq_some_iff.1 h
  subst hn
  rw [← e]
  simp [Go.sizeOf,typeInfo,hi,go_sem]
def CloneInts (w : World) (xs : List Int) (e : Ending) (w' : World) : Prop :=
  ∃ A c,e = .returned (.slice A xs.length c) ∧ xs.length ≤ c ∧ c ≤ maxLen ∧ RI (fun k => w.heap.size ≤ k) w' A xs ∧ Below w.heap.size w w' ∧ (A = none → xs.length = 0 ∧ c = 0)
theorem CloneInts.own {w : World} {xs : List Int} {e : Ending} {w' : World} {v : Value} (he : e = .returned v) (ho : w'.ownsRow w.heap.size 3 1 v xs.length (ints xs)) (hb : Below w.heap.size w w') : CloneInts w xs e w':=by
  obtain ⟨A,c,rfl,hn,hm,hcs⟩:=own_form ho
  refine ⟨A,c,he,hn,hm,fun i x hx => ?_,hb,fun hA => ?_⟩
  · obtain ⟨g,rfl,hg,hc⟩:=hcs i (.int .i64 x) (by simp [ints,hx])
    exact ⟨_,rfl,hg,by rw [add_at];exact hc⟩
  · subst hA
    rcases ho.2 with ⟨e1,e2⟩ | ⟨g,cap,cur,e1,_⟩
    · simp at e1;omega
    · simp at e1
theorem clone_ints (A : Option Addr) (c : Nat) (xs : List Int) (w : World) (hl : xs.length ≤ 1000000) (h : RI Any w A xs) : Calls Try.prog 70 #[.slice A xs.length c] w (CloneInts w xs):=by
  cases A with
  | none =>
    have : xs = []:=by
      cases xs with
      | nil => rfl
      | cons x xs => obtain ⟨ad,h1,_⟩:=h 0 x rfl;cases h1
    subst this
    refine (AnyE.slices_Clone_nil lays41_70 0 c w).mono ?_
    rintro e w' ⟨rfl,rfl⟩
    exact .own rfl (World.ownsRow_nil _ _ _ _) (Below.refl _ _)
  | some ad =>
    cases xs with
    | nil =>
      refine (Any.slices_Clone_int_zero laysNm2_15 ad c w).mono ?_
      rintro e w' ⟨v,rfl,ho,_,hb⟩
      exact .own rfl ho hb
    | cons x xs =>
      have had : ad = ⟨ad.block,ad.off,none⟩:=by
        obtain ⟨ad',h1,_,hc⟩:=h 0 x rfl
        cases h1
        have:=cell_spot hc
        simpa [Addr.add] using this
      rw [had]
      obtain ⟨i0,hi,hz0,hz1,hz2⟩:=info_parts info3
      refine (AnyE.slices_Clone lays41_70 i0 (.int .i64 0) 1 8 hi hz0 hz1 hz2 rfl (by omega) (size_run info3 rfl) ad.block ad.off (x :: xs).length c (ints (x :: xs)) w (by simp [ints]) (by simp only [maxLen];omega) (by omega) (fun j u hu => ?_) (ints_one _)).mono ?_
      · simp only [ints,List.getElem?_map] at hu
        cases hq : (x :: xs)[j]? with
        | none => rw [hq] at hu;cases hu
        | some y =>
          rw [hq] at hu
          cases hu
          obtain ⟨ad',h1,_,hc⟩:=h j y hq
          cases h1
          rw [had] at hc
          unfold Addr.add at hc
          split at hc
          · subst j;exact hc
          · exact hc
      · rintro e w' ⟨v,rfl,ho,_,hb⟩
        exact .own rfl ho hb

def artCells (x : Art) : List Value:=[.int .i64 x.num,.int .i64 x.since,.int .i64 x.least,.int .i64 x.most]
def CloneArts (w : World) (xs : List Art) (e : Ending) (w' : World) : Prop :=
  ∃ A c,e = .returned (.slice A xs.length c) ∧ xs.length ≤ c ∧ RArt (fun k => w.heap.size ≤ k) w' A xs ∧ Below w.heap.size w w'
theorem clone_arts (A : Option Addr) (c : Nat) (xs : List Art) (w : World) (hl : xs.length ≤ 1000000) (hpos : 0 < xs.length) (h : RArt Any w A xs) : Calls Try.prog 56 #[.slice A xs.length c] w (CloneArts w xs):=by
  obtain ⟨x0,hx0⟩:=get_some hpos
  obtain ⟨ad,rfl,_,hc0,_⟩:=h 0 x0 hx0
  have had : ad = ⟨ad.block,ad.off,none⟩:=by
    have:=cell_spot hc0
    simpa [Addr.add] using this
  have hcell : ∀ j x,xs[j]? = some x → ∀ k u,k < 4 → (artCells x)[k]? = some u → w.cell? ⟨ad.block,ad.off + (j * 4 + k),none⟩ = some u:=by
    intro j x hx k u hk hu
    obtain ⟨ad',h1,_,k0,k1,k2,k3⟩:=h j x hx
    cases h1
    have hj : ad.add (j * 4) = ⟨ad.block,ad.off + j * 4,none⟩:=by
      unfold Addr.add
      split
      · rename_i hz;rw [hz];exact had
      · rfl
    rw [hj] at k0 k1 k2 k3
    rcases k with _ | _ | _ | _ | k
    · cases hu;exact k0
    · cases hu;exact k1
    · cases hu;exact k2
    · cases hu;exact k3
    · omega
  have hlen : ∀ c ∈ xs.map artCells,c.length = 4:=by
    intro c hc
    obtain ⟨x,_,rfl⟩:=List.mem_map.1 hc
    rfl
  rw [had]
  obtain ⟨i0,hi,hz0,hz1,hz2⟩:=info_parts info71
  refine (AnyE.slices_Clone lays41_56 i0 _ 4 32 hi hz0 hz1 hz2 rfl (by omega) (size_run info71 rfl) ad.block ad.off xs.length c (xs.map artCells).flatten w ?_ (by simp only [maxLen];omega) (by omega) (fun j u hu => ?_) (fun u hu => ?_)).mono ?_
  · rw [flat_len 4 _ hlen];simp
  · have hj : j = j / 4 * 4 + j % 4:=by omega
    have h4 : j % 4 < 4:=by omega
    rw [hj,flat_get 4 _ _ _ hlen h4,List.getElem?_map] at hu
    cases hq : xs[j / 4]? with
    | none => rw [hq] at hu;cases hu
    | some x =>
      rw [hq] at hu;rw [hj];exact hcell _ x hq _ u h4 hu
  · obtain ⟨l,hl,hu⟩:=List.mem_flatten.1 hu
    obtain ⟨x,_,rfl⟩:=List.mem_map.1 hl
    simp only [artCells,List.mem_cons,List.not_mem_nil,or_false] at hu
    rcases hu with rfl | rfl | rfl | rfl <;> rfl
  · rintro e w' ⟨v,rfl,ho,_,hb⟩
    obtain ⟨A,c',rfl,hn,hm,hcs⟩:=own_form ho
    refine ⟨A,c',rfl,hn,fun i x hx => ?_,hb⟩
    have hg : ∀ j u,j < 4 → (artCells x)[j]? = some u → ∃ g,A = some ⟨g,0,none⟩ ∧ w.heap.size ≤ g ∧ w'.cell? ⟨g,i * 4 + j,none⟩ = some u:=fun j u hj hu => by
      refine hcs (i * 4 + j) u ?_;rw [flat_get 4 _ i j hlen hj,List.getElem?_map,hx];exact hu
    obtain ⟨g,rfl,hgb,k0⟩:=hg 0 (.int .i64 x.num) (by omega) rfl
    have hk : ∀ j u,j < 4 → (artCells x)[j]? = some u → w'.cell? ⟨g,i * 4 + j,none⟩ = some u:=fun j u hj hu => by
      obtain ⟨g',hg',_,hh⟩:=hg j u hj hu
      cases hg'
      exact hh
    refine ⟨_,rfl,hgb,?_⟩;rw [add_at];exact ⟨k0,hk 1 _ (by omega) rfl,hk 2 _ (by omega) rfl,hk 3 _ (by omega) rfl⟩
end Go.Proofs.Ytpadgcomncljmaa.A
/- Open: a court with an empty record. -/
namespace Go.Proofs.Ytpadgcomncljmaa.A
open Go.RowKit

def codeOk (C : CodeL) : Bool:=codeB C.cars C.win C.sec C.fee C.price C.arts
def codeV (C : CodeL) (A : Option Addr) (c : Nat) : Value:=.agg #[.int .i64 C.cars,.slice A C.arts.length c,.int .i64 C.win,.int .i64 C.sec,.int .i64 C.fee,.int .i64 C.price]
def Opened (w : World) (C : CodeL) (e : Ending) (w' : World) : Prop :=
  Below w.heap.size w w' ∧ (codeOk C = false → e = .returned (.tuple #[.pointer none,.int .i64 2])) ∧
  (codeOk C = true → ∃ g A c,e = .returned (.tuple #[.pointer (some ⟨g,0,none⟩),.int .i64 0]) ∧ w.heap.size ≤ g ∧ CourtP (fun k => k = g) (fun k => w.heap.size < k ∧ k < g) w' g C [] [] A c none 0 none 0 [] [])
theorem codeOk_pos {C : CodeL} (h : codeOk C = true) : 0 < C.arts.length ∧ C.arts.length ≤ 500:=by
  simp only [codeOk,codeB,codeHead,inB,Bool.and_eq_true,decide_eq_true_eq] at h
  omega
set_option maxHeartbeats 4000000 in
set_option maxRecDepth 100000 in
theorem open_any (C : CodeL) (A : Option Addr) (c : Nat) (w : World) (hl : RArt Any w A C.arts) (hn : C.arts.length ≤ 1000000) : Calls Try.prog 24 #[codeV C A c] w (Opened w C):=by
  have HB:=Aside.mk (bel_alloc (Below.refl _ w) (.cells #[.int .i64 C.cars,.slice A C.arts.length c,.int .i64 C.win,.int .i64 C.sec,.int .i64 C.fee,.int .i64 C.price] 33));have HL:=Aside.mk (hl.below HB.out);have HL0:=Aside.mk hl;have hu33:=Try.underlying33;have hq : (w.alloc (.cells #[.int .i64 C.cars,.slice A C.arts.length c,.int .i64 C.win,.int .i64 C.sec,.int .i64 C.fee,.int .i64 C.price] 33)).heap[w.heap.size]? = some (.cells #[.int .i64 C.cars,.slice A C.arts.length c,.int .i64 C.win,.int .i64 C.sec,.int .i64 C.fee,.int .i64 C.price] 33 (0,0)):=heap_alloc_new w _;have HQ:=Aside.mk hq;clear hl hq
  unfold codeV
  go_enter Try.func24,Try.ntmps24
  go_wp2_with fail
  refine (check_any C.cars C.win C.sec C.fee C.price A c C.arts _ HL.out hn).mono ?_
  rintro r w1 ⟨rfl,hb1⟩
  have HB1:=Aside.mk (bel_then HB.out hb1);have HL1:=Aside.mk (HL.out.below hb1);have hq1:=(hb1.block w.heap.size (by simp)).trans HQ.out;clear hb1
  by_cases hok : codeB C.cars C.win C.sec C.fee C.price C.arts = true
  rotate_left
  · have hok' : codeB C.cars C.win C.sec C.fee C.price C.arts = false:=by simpa using hok
    rw [hok'];have HOK:=Aside.mk (show codeOk C = false from hok');clear hok hok' hq1
    unfold okE
    go_wp2_with fail
    go_ret2
    exact ⟨HB1.out,fun _ => rfl,fun h => by rw [HOK.out] at h;cases h⟩
  rw [hok];have HOK:=Aside.mk (show codeOk C = true from hok);clear hok
  unfold okE
  have k0 : w1.cell? ⟨w.heap.size,0,none⟩ = some (.int .i64 C.cars):=by simp [World.cell?,hq1]
  have k1 : w1.cell? ⟨w.heap.size,1,none⟩ = some (.slice A C.arts.length c):=by simp [World.cell?,hq1]
  have k2 : w1.cell? ⟨w.heap.size,2,none⟩ = some (.int .i64 C.win):=by simp [World.cell?,hq1]
  have k3 : w1.cell? ⟨w.heap.size,3,none⟩ = some (.int .i64 C.sec):=by simp [World.cell?,hq1]
  have k4 : w1.cell? ⟨w.heap.size,4,none⟩ = some (.int .i64 C.fee):=by simp [World.cell?,hq1]
  have k5 : w1.cell? ⟨w.heap.size,5,none⟩ = some (.int .i64 C.price):=by simp [World.cell?,hq1]
  have HK:=Aside.mk hq1;clear hq1
  go_wp2_with fail
  refine (clone_arts A c C.arts _ hn (codeOk_pos HOK.out).1 HL1.out).mono ?_
  rintro r w2 ⟨A',c',rfl,hc',hr',hb2⟩
  have hq2:=(hb2.block w.heap.size (blk_lt HK.out)).trans HK.out;have hz2:=blk_lt hq2;have HB2:=Aside.mk (bel_then HB1.out hb2);have HR:=Aside.mk hr';have hf : w2.frozen? ⟨w.heap.size,1,none⟩ = false:=by simp [World.frozen?,hq2]
  clear k0 k1 k2 k3 k4 k5;have k0 : w2.cell? ⟨w.heap.size,0,none⟩ = some (.int .i64 C.cars):=by simp [World.cell?,hq2]
  have k1 : w2.cell? ⟨w.heap.size,1,none⟩ = some (.slice A C.arts.length c):=by simp [World.cell?,hq2]
  have k2 : w2.cell? ⟨w.heap.size,2,none⟩ = some (.int .i64 C.win):=by simp [World.cell?,hq2]
  have k3 : w2.cell? ⟨w.heap.size,3,none⟩ = some (.int .i64 C.sec):=by simp [World.cell?,hq2]
  have k4 : w2.cell? ⟨w.heap.size,4,none⟩ = some (.int .i64 C.fee):=by simp [World.cell?,hq2]
  have k5 : w2.cell? ⟨w.heap.size,5,none⟩ = some (.int .i64 C.price):=by simp [World.cell?,hq2]
  have HQ2:=Aside.mk hq2;have HX:=Aside.mk (And.intro hb2.size (And.intro (blk_lt HK.out) HB1.out.size));clear hq2 hb2 hr'
  go_wp2_with fail
  go_ret2
  obtain ⟨hs2,hs0,hs1⟩:=HX.out
  have hlt2 : w.heap.size < w2.heap.size:=blk_lt HQ2.out;refine ⟨bel_alloc (bel_set HB2.out (Nat.le_refl _) _) _,(fun h => by rw [HOK.out] at h;cases h),fun _ => ⟨_,A',c',rfl,by omega,?_⟩⟩;have hlen : w2.heap.size = (w2.setCell ⟨w.heap.size,1,none⟩ (.slice A' C.arts.length c')).heap.size:=(set_size _ _ _).symm;refine ⟨?_,rfl,?_,World.ownsRow_nil _ _ _ _,⟨rfl,fun i x hx => by simp at hx⟩,fun k hk => by simp [Value.ownBlock] at hk,World.ownsRow_nil _ _ _ _,fun k hk => by simp [Value.ownBlock] at hk,⟨rfl,fun i f v hf => by simp at hf,fun i j v v' k hv => by simp at hv⟩,?_,?_,?_,hn⟩
  · have:=heap_alloc_new (w2.setCell ⟨w.heap.size,1,none⟩ (.slice A' C.arts.length c')) (.cells #[.int .i64 C.cars,.slice A' C.arts.length c',.int .i64 C.win,.int .i64 C.sec,.int .i64 C.fee,.int .i64 C.price,.bool true,.slice none 0 0,.slice none 0 0] 99)
    rw [set_size] at this;exact this
  · refine RArt.move (RArt.mono HR.out (fun k hk hlt => ⟨by omega,hlt⟩)) (fun k hk hlt => ?_)
    rw [Below.heap_alloc _ _ _ (by rw [set_size];exact hlt)];refine set_other _ _ _ k ?_;have:=hk.1
    simp only;omega
  · intro k hk
    subst hk
    simp
  · intro k hk
    have:=hk.2
    simp at this ⊢
    omega
  · intro k hk e
    omega
end Go.Proofs.Ytpadgcomncljmaa.A
/- A chain of '&&' that compares the fields of two acts: each link once,whatever the frame holds. -/
namespace Go.Proofs.Ytpadgcomncljmaa.A
open Go.RowKit

def Low (s : Nat) (a a' : Act) : Prop:=a'.tmps.size = a.tmps.size ∧ (∀ j,j < s → a'.eval (.tmp j) = a.eval (.tmp j)) ∧ a'.defers = a.defers
theorem Low.refl {s : Nat} {a : Act} : Low s a a:=⟨rfl,fun _ _ => rfl,rfl⟩
theorem eval_put_same {a : Act} {d : Nat} {v : Value} (h : d < a.tmps.size) : (a.put (some d) v).eval (.tmp d) = v:=by
  simp [Act.put,Act.eval,h]
theorem eval_put_ne {a : Act} {d j : Nat} {v : Value} (h : d ≠ j) : (a.put (some d) v).eval (.tmp j) = a.eval (.tmp j):=by
  simp [Act.put,Act.eval,Array.getD_eq_getD_getElem?,Array.getElem?_setIfInBounds,h]
theorem Low.put {s d : Nat} {a a' : Act} {v : Value} (h : Low s a a') (hs : s ≤ d) : Low s a (a'.put (some d) v) :=
  ⟨by simpa [Act.put] using h.1,fun j hj => (eval_put_ne (by omega)).trans (h.2.1 j hj),by simpa [Act.put] using h.2.2⟩
theorem Low.trans {s s' : Nat} {a a' a'' : Act} (h : Low s a a') (k : Low s' a' a'') (hs : s ≤ s') : Low s a a'' :=
  ⟨k.1.trans h.1,fun j hj => (k.2.1 j (by omega)).trans (h.2.1 j hj),k.2.2.trans h.2.2⟩

section
variable {P : Program} {ops : Array Oper} {Q : Exit → Act → World → Prop} {a : Act} {w : World} {rest : List Oper} {o : Oper}
theorem wpl_do {v : Value} (hw : Region.wanted o (yielded ops a.tmps) = true) (he : (execOp a.eval o).run P w = .ok (.value v) w) (h : wpList P ops Q rest (a.put o.dst v) w) : wpList P ops Q (o :: rest) a w:=by
  refine wpList_step fun K hK => ?_;rw [if_pos hw]
  show o.upon P a K Q ((execOp a.eval o).run P w)
  rw [he];exact hK _ _ h
theorem wpl_not (hw : Region.wanted o (yielded ops a.tmps) = false) (h : wpList P ops Q rest (a.put o.dst undef) w) : wpList P ops Q (o :: rest) a w:=by
  refine wpList_step fun K hK => ?_;rw [if_neg (by simp [hw])];exact hK _ _ h
theorem wanted_none {y : Nat → Option Bool} (h : o.guard = none) : Region.wanted o y = true:=by simp [Region.wanted,h]
theorem yielded_eval {i s : Nat} {b : Bool} (hi : (ops[i]?).bind (·.dst) = some s) (hs : s < a.tmps.size) (he : a.eval (.tmp s) = .bool b) : yielded ops a.tmps i = some b:=by
  have : a.tmps[s]? = some (.bool b):=by
    rw [Array.getElem?_eq_getElem hs];simp only [Act.eval,Array.getD,hs,dite_true] at he;exact congrArg some he
  simp [yielded,hi,this]
theorem wanted_eval {i s : Nat} {b c : Bool} (hg : o.guard = some (i,c)) (hi : (ops[i]?).bind (·.dst) = some s) (hs : s < a.tmps.size) (he : a.eval (.tmp s) = .bool b) : Region.wanted o (yielded ops a.tmps) = (b == c):=by
  simp only [Region.wanted,hg,yielded_eval hi hs he]
  cases b <;> cases c <;> rfl

theorem wanted_no {i s : Nat} (hg : o.guard = some (i,true)) (hi : (ops[i]?).bind (·.dst) = some s) (hs : s < a.tmps.size) (he : a.eval (.tmp s) = .bool false) : Region.wanted o (yielded ops a.tmps) = false:=wanted_eval hg hi hs he
theorem wanted_yes {i s : Nat} (hg : o.guard = some (i,true)) (hi : (ops[i]?).bind (·.dst) = some s) (hs : s < a.tmps.size) (he : a.eval (.tmp s) = .bool true) : Region.wanted o (yielded ops a.tmps) = true:=wanted_eval hg hi hs he

theorem run_move {ev : Operand → Value} {d : Option Tmp} {x : Operand} {t : TypeId} {p : String} {f : Array Edge} {g : Option (Nat × Bool)} : (execOp ev ⟨d,.move x,t,p,f,g⟩).run P w = .ok (.value (ev x)) w:=by
  simp [go_sem]
theorem run_pick {ev : Operand → Value} {d : Option Tmp} {x y z : Operand} {t : TypeId} {p : String} {f : Array Edge} {g : Option (Nat × Bool)} {b : Bool} (h : ev x = .bool b) : (execOp ev ⟨d,.pick x y z,t,p,f,g⟩).run P w = .ok (.value (if b then ev y else ev z)) w:=by
  cases b <;> simp [go_sem,h]
end

theorem group_and {P : Program} {ops : Array Oper} {Q : Exit → Act → World → Prop} {a : Act} {w : World} {rest : List Oper} (x y s i0 : Nat) (b c : Bool)
    {t0 t1 t3 : TypeId} {p0 p1 p3 : String} {f0 f1 f3 : Array Edge}
    (hi : (ops[i0]?).bind (·.dst) = some s) (hx : x < s) (hy : y < s) (hs : s + 2 < a.tmps.size) (hb : a.eval (.tmp x) = .bool b) (hc : a.eval (.tmp y) = .bool c)
    (h : ∀ a',Low s a a' → a'.eval (.tmp (s + 2)) = .bool (b && c) → wpList P ops Q rest a' w) :
    wpList P ops Q (⟨some s, .move (.tmp x), t0, p0, f0, none⟩ :: ⟨some (s + 1), .move (.tmp y), t1, p1, f1, some (i0, true)⟩ ::
      ⟨some (s + 2),.pick (.tmp s) (.tmp (s + 1)) (.const (.bool false)),t3,p3,f3,none⟩ :: rest) a w:=by
  refine wpl_do (wanted_none rfl) run_move ?_;rw [hb];have L1 : Low s a (a.put (some s) (.bool b)):=Low.refl.put (Nat.le_refl _);have E1 : (a.put (some s) (.bool b)).eval (.tmp s) = .bool b:=eval_put_same (by omega);have C1 : (a.put (some s) (.bool b)).eval (.tmp y) = .bool c:=(eval_put_ne (by omega)).trans hc
  generalize a.put (some s) (.bool b) = a1 at L1 E1 C1 ⊢
  have z1:=L1.1
  cases b with
  | false =>
    refine wpl_not (wanted_no rfl hi (by omega) E1) ?_;refine wpl_do (wanted_none rfl) (run_pick (b:=false) ((eval_put_ne (by omega)).trans E1)) ?_;exact h _ ((L1.put (by omega)).put (by omega)) (eval_put_same (by rw [(L1.put (d:=s + 1) (by omega)).1];omega))
  | true =>
    refine wpl_do (wanted_yes rfl hi (by omega) E1) run_move ?_;rw [C1];refine wpl_do (wanted_none rfl) (run_pick (b:=true) ((eval_put_ne (by omega)).trans E1)) ?_;refine h _ ((L1.put (by omega)).put (by omega)) ((eval_put_same (by rw [(L1.put (d:=s + 1) (by omega)).1];omega)).trans ?_)
    simpa using eval_put_same (v:=.bool c) (by omega : s + 1 < a1.tmps.size)

theorem group_cmp {P : Program} {ops : Array Oper} {Q : Exit → Act → World → Prop} {a : Act} {w : World} {rest : List Oper} (prev s i0 k : Nat) (b c : Bool) (T : TypeId) (p q u v : Value)
    {t0 t1 t2 t3 t4 t5 t6 : TypeId} {p0 p1 p2 p3 p4 p5 p6 : String} {f0 f1 f2 f3 f4 f5 f6 : Array Edge}
    (hi : (ops[i0]?).bind (·.dst) = some s) (hp : prev < s) (h3 : 6 < s) (hs : s + 6 < a.tmps.size) (hb : a.eval (.tmp prev) = .bool b)
    (r1 : ∀ ev : Operand → Value,ev (.tmp 3) = a.eval (.tmp 3) → (execOp ev ⟨some (s + 1),.fieldAddr 43 (.tmp 3) k,t1,p1,f1,some (i0,true)⟩).run P w = .ok (.value p) w)
    (r2 : ∀ ev : Operand → Value,ev (.tmp (s + 1)) = p → (execOp ev ⟨some (s + 2),.load T (.tmp (s + 1)),t2,p2,f2,some (i0,true)⟩).run P w = .ok (.value u) w)
    (r3 : ∀ ev : Operand → Value,ev (.tmp 6) = a.eval (.tmp 6) → (execOp ev ⟨some (s + 3),.fieldAddr 43 (.tmp 6) k,t3,p3,f3,some (i0,true)⟩).run P w = .ok (.value q) w)
    (r4 : ∀ ev : Operand → Value,ev (.tmp (s + 3)) = q → (execOp ev ⟨some (s + 4),.load T (.tmp (s + 3)),t4,p4,f4,some (i0,true)⟩).run P w = .ok (.value v) w)
    (r5 : ∀ ev : Operand → Value,ev (.tmp (s + 2)) = u → ev (.tmp (s + 4)) = v → (execOp ev ⟨some (s + 5),.binOp .eql T (.tmp (s + 2)) (.tmp (s + 4)) T,t5,p5,f5,some (i0,true)⟩).run P w = .ok (.value (.bool c)) w)
    (h : ∀ a',Low s a a' → a'.eval (.tmp (s + 6)) = .bool (b && c) → wpList P ops Q rest a' w) :
    wpList P ops Q (⟨some s, .move (.tmp prev), t0, p0, f0, none⟩ :: ⟨some (s + 1), .fieldAddr 43 (.tmp 3) k, t1, p1, f1, some (i0, true)⟩ :: ⟨some (s + 2), .load T (.tmp (s + 1)), t2, p2, f2, some (i0, true)⟩ ::
      ⟨some (s + 3),.fieldAddr 43 (.tmp 6) k,t3,p3,f3,some (i0,true)⟩ :: ⟨some (s + 4),.load T (.tmp (s + 3)),t4,p4,f4,some (i0,true)⟩ :: ⟨some (s + 5),.binOp .eql T (.tmp (s + 2)) (.tmp (s + 4)) T,t5,p5,f5,some (i0,true)⟩ ::
      ⟨some (s + 6),.pick (.tmp s) (.tmp (s + 5)) (.const (.bool false)),t6,p6,f6,none⟩ :: rest) a w:=by
  refine wpl_do (wanted_none rfl) run_move ?_;rw [hb];have L1 : Low s a (a.put (some s) (.bool b)):=Low.refl.put (Nat.le_refl _);have E1 : (a.put (some s) (.bool b)).eval (.tmp s) = .bool b:=eval_put_same (by omega)
  generalize a.put (some s) (.bool b) = a1 at L1 E1 ⊢
  have z1:=L1.1
  cases b with
  | false =>
    have go : ∀ (a2 : Act) (d : Nat),s < d → Low s a a2 → a2.eval (.tmp s) = .bool false → Low s a (a2.put (some d) undef) ∧ (a2.put (some d) undef).eval (.tmp s) = .bool false:=fun a2 d hd hL hE => ⟨hL.put (by omega),(eval_put_ne (by omega)).trans hE⟩;refine wpl_not (wanted_no rfl hi (by omega) E1) ?_
    obtain ⟨L2,E2⟩:=go a1 (s + 1) (by omega) L1 E1
    refine wpl_not (wanted_no rfl hi (by rw [L2.1];omega) E2) ?_
    obtain ⟨L3,E3⟩:=go _ (s + 2) (by omega) L2 E2
    refine wpl_not (wanted_no rfl hi (by rw [L3.1];omega) E3) ?_
    obtain ⟨L4,E4⟩:=go _ (s + 3) (by omega) L3 E3
    refine wpl_not (wanted_no rfl hi (by rw [L4.1];omega) E4) ?_
    obtain ⟨L5,E5⟩:=go _ (s + 4) (by omega) L4 E4
    refine wpl_not (wanted_no rfl hi (by rw [L5.1];omega) E5) ?_
    obtain ⟨L6,E6⟩:=go _ (s + 5) (by omega) L5 E5
    refine wpl_do (wanted_none rfl) (run_pick E6) ?_;exact h _ (L6.put (by omega)) (eval_put_same (by rw [L6.1];omega))
  | true =>
    have go : ∀ (a2 : Act) (d : Nat) (x : Value),s < d → Low s a a2 → a2.eval (.tmp s) = .bool true → Low s a (a2.put (some d) x) ∧ (a2.put (some d) x).eval (.tmp s) = .bool true:=fun a2 d x hd hL hE => ⟨hL.put (by omega),(eval_put_ne (by omega)).trans hE⟩;refine wpl_do (wanted_yes rfl hi (by omega) E1) (r1 _ (L1.2.1 3 (by omega))) ?_
    obtain ⟨L2,E2⟩:=go a1 (s + 1) p (by omega) L1 E1
    have V1 : (a1.put (some (s + 1)) p).eval (.tmp (s + 1)) = p:=eval_put_same (by omega);refine wpl_do (wanted_yes rfl hi (by rw [L2.1];omega) E2) (r2 _ V1) ?_
    obtain ⟨L3,E3⟩:=go _ (s + 2) u (by omega) L2 E2
    have V2 : ((a1.put (some (s + 1)) p).put (some (s + 2)) u).eval (.tmp (s + 2)) = u:=eval_put_same (by rw [L2.1];omega)
    simp only at L3 E3 V2 ⊢
    generalize (a1.put (some (s + 1)) p).put (some (s + 2)) u = a3 at L3 E3 V2 ⊢
    refine wpl_do (wanted_yes rfl hi (by rw [L3.1];omega) E3) (r3 _ (L3.2.1 6 (by omega))) ?_
    obtain ⟨L4,E4⟩:=go _ (s + 3) q (by omega) L3 E3
    have V3 : (a3.put (some (s + 3)) q).eval (.tmp (s + 3)) = q:=eval_put_same (by rw [L3.1];omega);have V3' : (a3.put (some (s + 3)) q).eval (.tmp (s + 2)) = u:=(eval_put_ne (by omega)).trans V2
    simp only at L4 E4 V3 V3' ⊢
    generalize a3.put (some (s + 3)) q = a4 at L4 E4 V3 V3' ⊢
    refine wpl_do (wanted_yes rfl hi (by rw [L4.1];omega) E4) (r4 _ V3) ?_
    obtain ⟨L5,E5⟩:=go _ (s + 4) v (by omega) L4 E4
    have V4 : (a4.put (some (s + 4)) v).eval (.tmp (s + 4)) = v:=eval_put_same (by rw [L4.1];omega);have V4' : (a4.put (some (s + 4)) v).eval (.tmp (s + 2)) = u:=(eval_put_ne (by omega)).trans V3'
    simp only at L5 E5 V4 V4' ⊢
    generalize a4.put (some (s + 4)) v = a5 at L5 E5 V4 V4' ⊢
    refine wpl_do (wanted_yes rfl hi (by rw [L5.1];omega) E5) (r5 _ V4' V4) ?_
    obtain ⟨L6,E6⟩:=go _ (s + 5) (.bool c) (by omega) L5 E5
    have V5 : (a5.put (some (s + 5)) (.bool c)).eval (.tmp (s + 5)) = .bool c:=eval_put_same (by rw [L5.1];omega)
    simp only at L6 E6 V5 ⊢
    refine wpl_do (wanted_none rfl) (run_pick E6) ?_;refine h _ (L6.put (by omega)) ((eval_put_same (by rw [L6.1];omega)).trans ?_)
    simpa using V5
end Go.Proofs.Ytpadgcomncljmaa.A
/- Links of a chain of '&&': a call within,a comparison. -/
namespace Go.Proofs.Ytpadgcomncljmaa.A
open Go.RowKit

theorem wpl_call {P : Program} {ops : Array Oper} {Q : Exit → Act → World → Prop} {a : Act} {w : World} {rest : List Oper} {o : Oper} {f : FuncId} {args : Array Value} {v : Value} (hw : Region.wanted o (yielded ops a.tmps) = true) (he : (execOp a.eval o).run P w = .ok (.enter f args) w)
    (hc : Calls P f args w fun e w' => e = .returned v ∧ w = w') (h : wpList P ops Q rest (a.put o.dst v) w) : wpList P ops Q (o :: rest) a w:=by
  refine wpList_step fun K hK => ?_;rw [if_pos hw]
  show o.upon P a K Q ((execOp a.eval o).run P w)
  rw [he,Oper.upon_enter];refine hc.mono ?_
  rintro e w' ⟨rfl,rfl⟩
  exact hK _ _ h
theorem group_in {P : Program} {ops : Array Oper} {Q : Exit → Act → World → Prop} {a : Act} {w : World} {rest : List Oper} (prev s i0 : Nat) (b c : Bool) (k : Nat) (T : TypeId) (lo up : Value) (at_ : Array TypeId)
    (p u : Value)
    {t0 t1 t2 t3 t4 : TypeId} {p0 p1 p2 p3 p4 : String} {f0 f1 f2 f3 f4 : Array Edge}
    (hi : (ops[i0]?).bind (·.dst) = some s) (hp : prev < s) (h3 : 6 < s) (hs : s + 4 < a.tmps.size) (hb : a.eval (.tmp prev) = .bool b)
    (r1 : ∀ ev : Operand → Value,ev (.tmp 3) = a.eval (.tmp 3) → (execOp ev ⟨some (s + 1),.fieldAddr 43 (.tmp 3) k,t1,p1,f1,some (i0,true)⟩).run P w = .ok (.value p) w)
    (r2 : ∀ ev : Operand → Value,ev (.tmp (s + 1)) = p → (execOp ev ⟨some (s + 2),.load T (.tmp (s + 1)),t2,p2,f2,some (i0,true)⟩).run P w = .ok (.value u) w)
    (r3 : ∀ ev : Operand → Value,ev (.tmp (s + 2)) = u → ev (.const lo) = lo → ev (.const up) = up → ev (.func 52) = .func (.func 52) #[] #[] → (execOp ev ⟨some (s + 3),.call { callee:=.value (.func 52),args:=#[.tmp (s + 2),.const lo,.const up],argTypes:=at_ },t3,p3,f3,some (i0,true)⟩).run P w = .ok (.enter 52 #[u,lo,up]) w)
    (hc : Calls P 52 #[u,lo,up] w fun e w' => e = .returned (.bool c) ∧ w = w')
    (h : ∀ a',Low s a a' → a'.eval (.tmp (s + 4)) = .bool (b && c) → wpList P ops Q rest a' w) :
    wpList P ops Q (⟨some s,.move (.tmp prev),t0,p0,f0,none⟩ :: ⟨some (s + 1),.fieldAddr 43 (.tmp 3) k,t1,p1,f1,some (i0,true)⟩ :: ⟨some (s + 2),.load T (.tmp (s + 1)),t2,p2,f2,some (i0,true)⟩ :: ⟨some (s + 3),.call { callee:=.value (.func 52),args:=#[.tmp (s + 2),.const lo,.const up],argTypes:=at_ },t3,p3,f3,some (i0,true)⟩ :: ⟨some (s + 4),.pick (.tmp s) (.tmp (s + 3)) (.const (.bool false)),t4,p4,f4,none⟩ :: rest) a w:=by
  refine wpl_do (wanted_none rfl) run_move ?_;rw [hb];have L1 : Low s a (a.put (some s) (.bool b)):=Low.refl.put (Nat.le_refl _);have E1 : (a.put (some s) (.bool b)).eval (.tmp s) = .bool b:=eval_put_same (by omega)
  generalize a.put (some s) (.bool b) = a1 at L1 E1 ⊢
  cases b with
  | false =>
    have go : ∀ (a2 : Act) (d : Nat),s < d → Low s a a2 → a2.eval (.tmp s) = .bool false → Low s a (a2.put (some d) undef) ∧ (a2.put (some d) undef).eval (.tmp s) = .bool false:=fun a2 d hd hL hE => ⟨hL.put (by omega),(eval_put_ne (by omega)).trans hE⟩;refine wpl_not (wanted_no rfl hi (by rw [L1.1];omega) E1) ?_
    obtain ⟨L2,E2⟩:=go _ (s + 1) (by omega) L1 E1
    refine wpl_not (wanted_no rfl hi (by rw [L2.1];omega) E2) ?_
    obtain ⟨L3,E3⟩:=go _ (s + 2) (by omega) L2 E2
    refine wpl_not (wanted_no rfl hi (by rw [L3.1];omega) E3) ?_
    obtain ⟨L4,E4⟩:=go _ (s + 3) (by omega) L3 E3
    refine wpl_do (wanted_none rfl) (run_pick E4) ?_;exact h _ (L4.put (by omega)) (eval_put_same (by rw [L4.1];omega))
  | true =>
    have go : ∀ (a2 : Act) (d : Nat) (x : Value),s < d → Low s a a2 → a2.eval (.tmp s) = .bool true → Low s a (a2.put (some d) x) ∧ (a2.put (some d) x).eval (.tmp s) = .bool true:=fun a2 d x hd hL hE => ⟨hL.put (by omega),(eval_put_ne (by omega)).trans hE⟩;refine wpl_do (wanted_yes rfl hi (by rw [L1.1];omega) E1) (r1 _ (L1.2.1 3 (by omega))) ?_
    obtain ⟨L2,E2⟩:=go a1 (s + 1) p (by omega) L1 E1
    have V2_1 : (a1.put (some (s + 1)) p).eval (.tmp (s + 1)) = p:=eval_put_same (by rw [L1.1];omega)
    dsimp only
    generalize a1.put (some (s + 1)) p = a2 at L2 E2 V2_1 ⊢
    refine wpl_do (wanted_yes rfl hi (by rw [L2.1];omega) E2) (r2 _ V2_1) ?_
    obtain ⟨L3,E3⟩:=go a2 (s + 2) u (by omega) L2 E2
    have V3_1:=(eval_put_ne (v:=u) (by omega : s + 2 ≠ s + 1)).trans V2_1;have V3_2 : (a2.put (some (s + 2)) u).eval (.tmp (s + 2)) = u:=eval_put_same (by rw [L2.1];omega)
    dsimp only
    generalize a2.put (some (s + 2)) u = a3 at L3 E3 V3_1 V3_2 ⊢
    refine wpl_call (wanted_yes rfl hi (by rw [L3.1];omega) E3) (r3 _ V3_2 rfl rfl rfl) hc ?_
    obtain ⟨L4,E4⟩:=go a3 (s + 3) (.bool c) (by omega) L3 E3
    have V4_1:=(eval_put_ne (v:=.bool c) (by omega : s + 3 ≠ s + 1)).trans V3_1;have V4_2:=(eval_put_ne (v:=.bool c) (by omega : s + 3 ≠ s + 2)).trans V3_2;have V4_3 : (a3.put (some (s + 3)) (.bool c)).eval (.tmp (s + 3)) = .bool c:=eval_put_same (by rw [L3.1];omega)
    dsimp only
    generalize a3.put (some (s + 3)) (.bool c) = a4 at L4 E4 V4_1 V4_2 V4_3 ⊢
    refine wpl_do (wanted_none rfl) (run_pick E4) ?_;refine h _ (L4.put (by omega)) ((eval_put_same (by rw [L4.1];omega)).trans ?_)
    simpa using V4_3
theorem group_in2 {P : Program} {ops : Array Oper} {Q : Exit → Act → World → Prop} {a : Act} {w : World} {rest : List Oper} (prev s i0 : Nat) (b c : Bool) (k k' : Nat) (T : TypeId) (lo : Value) (at_ : Array TypeId)
    (p u q v : Value)
    {t0 t1 t2 t3 t4 t5 t6 : TypeId} {p0 p1 p2 p3 p4 p5 p6 : String} {f0 f1 f2 f3 f4 f5 f6 : Array Edge}
    (hi : (ops[i0]?).bind (·.dst) = some s) (hp : prev < s) (h3 : 6 < s) (hs : s + 6 < a.tmps.size) (hb : a.eval (.tmp prev) = .bool b)
    (r1 : ∀ ev : Operand → Value,ev (.tmp 3) = a.eval (.tmp 3) → (execOp ev ⟨some (s + 1),.fieldAddr 43 (.tmp 3) k,t1,p1,f1,some (i0,true)⟩).run P w = .ok (.value p) w)
    (r2 : ∀ ev : Operand → Value,ev (.tmp (s + 1)) = p → (execOp ev ⟨some (s + 2),.load T (.tmp (s + 1)),t2,p2,f2,some (i0,true)⟩).run P w = .ok (.value u) w)
    (r3 : ∀ ev : Operand → Value,ev (.tmp 3) = a.eval (.tmp 3) → (execOp ev ⟨some (s + 3),.fieldAddr 43 (.tmp 3) k',t3,p3,f3,some (i0,true)⟩).run P w = .ok (.value q) w)
    (r4 : ∀ ev : Operand → Value,ev (.tmp (s + 3)) = q → (execOp ev ⟨some (s + 4),.load T (.tmp (s + 3)),t4,p4,f4,some (i0,true)⟩).run P w = .ok (.value v) w)
    (r5 : ∀ ev : Operand → Value,ev (.tmp (s + 2)) = u → ev (.tmp (s + 4)) = v → ev (.const lo) = lo → ev (.func 52) = .func (.func 52) #[] #[] → (execOp ev ⟨some (s + 5),.call { callee:=.value (.func 52),args:=#[.tmp (s + 2),.const lo,.tmp (s + 4)],argTypes:=at_ },t5,p5,f5,some (i0,true)⟩).run P w = .ok (.enter 52 #[u,lo,v]) w)
    (hc : Calls P 52 #[u,lo,v] w fun e w' => e = .returned (.bool c) ∧ w = w')
    (h : ∀ a',Low s a a' → a'.eval (.tmp (s + 6)) = .bool (b && c) → wpList P ops Q rest a' w) :
    wpList P ops Q (⟨some s,.move (.tmp prev),t0,p0,f0,none⟩ :: ⟨some (s + 1),.fieldAddr 43 (.tmp 3) k,t1,p1,f1,some (i0,true)⟩ :: ⟨some (s + 2),.load T (.tmp (s + 1)),t2,p2,f2,some (i0,true)⟩ :: ⟨some (s + 3),.fieldAddr 43 (.tmp 3) k',t3,p3,f3,some (i0,true)⟩ :: ⟨some (s + 4),.load T (.tmp (s + 3)),t4,p4,f4,some (i0,true)⟩ :: ⟨some (s + 5),.call { callee:=.value (.func 52),args:=#[.tmp (s + 2),.const lo,.tmp (s + 4)],argTypes:=at_ },t5,p5,f5,some (i0,true)⟩ :: ⟨some (s + 6),.pick (.tmp s) (.tmp (s + 5)) (.const (.bool false)),t6,p6,f6,none⟩ :: rest) a w:=by
  refine wpl_do (wanted_none rfl) run_move ?_;rw [hb];have L1 : Low s a (a.put (some s) (.bool b)):=Low.refl.put (Nat.le_refl _);have E1 : (a.put (some s) (.bool b)).eval (.tmp s) = .bool b:=eval_put_same (by omega)
  generalize a.put (some s) (.bool b) = a1 at L1 E1 ⊢
  cases b with
  | false =>
    have go : ∀ (a2 : Act) (d : Nat),s < d → Low s a a2 → a2.eval (.tmp s) = .bool false → Low s a (a2.put (some d) undef) ∧ (a2.put (some d) undef).eval (.tmp s) = .bool false:=fun a2 d hd hL hE => ⟨hL.put (by omega),(eval_put_ne (by omega)).trans hE⟩;refine wpl_not (wanted_no rfl hi (by rw [L1.1];omega) E1) ?_
    obtain ⟨L2,E2⟩:=go _ (s + 1) (by omega) L1 E1
    refine wpl_not (wanted_no rfl hi (by rw [L2.1];omega) E2) ?_
    obtain ⟨L3,E3⟩:=go _ (s + 2) (by omega) L2 E2
    refine wpl_not (wanted_no rfl hi (by rw [L3.1];omega) E3) ?_
    obtain ⟨L4,E4⟩:=go _ (s + 3) (by omega) L3 E3
    refine wpl_not (wanted_no rfl hi (by rw [L4.1];omega) E4) ?_
    obtain ⟨L5,E5⟩:=go _ (s + 4) (by omega) L4 E4
    refine wpl_not (wanted_no rfl hi (by rw [L5.1];omega) E5) ?_
    obtain ⟨L6,E6⟩:=go _ (s + 5) (by omega) L5 E5
    refine wpl_do (wanted_none rfl) (run_pick E6) ?_;exact h _ (L6.put (by omega)) (eval_put_same (by rw [L6.1];omega))
  | true =>
    have go : ∀ (a2 : Act) (d : Nat) (x : Value),s < d → Low s a a2 → a2.eval (.tmp s) = .bool true → Low s a (a2.put (some d) x) ∧ (a2.put (some d) x).eval (.tmp s) = .bool true:=fun a2 d x hd hL hE => ⟨hL.put (by omega),(eval_put_ne (by omega)).trans hE⟩;refine wpl_do (wanted_yes rfl hi (by rw [L1.1];omega) E1) (r1 _ (L1.2.1 3 (by omega))) ?_
    obtain ⟨L2,E2⟩:=go a1 (s + 1) p (by omega) L1 E1
    have V2_1 : (a1.put (some (s + 1)) p).eval (.tmp (s + 1)) = p:=eval_put_same (by rw [L1.1];omega)
    dsimp only
    generalize a1.put (some (s + 1)) p = a2 at L2 E2 V2_1 ⊢
    refine wpl_do (wanted_yes rfl hi (by rw [L2.1];omega) E2) (r2 _ V2_1) ?_
    obtain ⟨L3,E3⟩:=go a2 (s + 2) u (by omega) L2 E2
    have V3_1:=(eval_put_ne (v:=u) (by omega : s + 2 ≠ s + 1)).trans V2_1;have V3_2 : (a2.put (some (s + 2)) u).eval (.tmp (s + 2)) = u:=eval_put_same (by rw [L2.1];omega)
    dsimp only
    generalize a2.put (some (s + 2)) u = a3 at L3 E3 V3_1 V3_2 ⊢
    refine wpl_do (wanted_yes rfl hi (by rw [L3.1];omega) E3) (r3 _ (L3.2.1 3 (by omega))) ?_
    obtain ⟨L4,E4⟩:=go a3 (s + 3) q (by omega) L3 E3
    have V4_1:=(eval_put_ne (v:=q) (by omega : s + 3 ≠ s + 1)).trans V3_1;have V4_2:=(eval_put_ne (v:=q) (by omega : s + 3 ≠ s + 2)).trans V3_2;have V4_3 : (a3.put (some (s + 3)) q).eval (.tmp (s + 3)) = q:=eval_put_same (by rw [L3.1];omega)
    dsimp only
    generalize a3.put (some (s + 3)) q = a4 at L4 E4 V4_1 V4_2 V4_3 ⊢
    refine wpl_do (wanted_yes rfl hi (by rw [L4.1];omega) E4) (r4 _ V4_3) ?_
    obtain ⟨L5,E5⟩:=go a4 (s + 4) v (by omega) L4 E4
    have V5_1:=(eval_put_ne (v:=v) (by omega : s + 4 ≠ s + 1)).trans V4_1;have V5_2:=(eval_put_ne (v:=v) (by omega : s + 4 ≠ s + 2)).trans V4_2;have V5_3:=(eval_put_ne (v:=v) (by omega : s + 4 ≠ s + 3)).trans V4_3;have V5_4 : (a4.put (some (s + 4)) v).eval (.tmp (s + 4)) = v:=eval_put_same (by rw [L4.1];omega)
    dsimp only
    generalize a4.put (some (s + 4)) v = a5 at L5 E5 V5_1 V5_2 V5_3 V5_4 ⊢
    refine wpl_call (wanted_yes rfl hi (by rw [L5.1];omega) E5) (r5 _ V5_2 V5_4 rfl rfl) hc ?_
    obtain ⟨L6,E6⟩:=go a5 (s + 5) (.bool c) (by omega) L5 E5
    have V6_1:=(eval_put_ne (v:=.bool c) (by omega : s + 5 ≠ s + 1)).trans V5_1;have V6_2:=(eval_put_ne (v:=.bool c) (by omega : s + 5 ≠ s + 2)).trans V5_2;have V6_3:=(eval_put_ne (v:=.bool c) (by omega : s + 5 ≠ s + 3)).trans V5_3;have V6_4:=(eval_put_ne (v:=.bool c) (by omega : s + 5 ≠ s + 4)).trans V5_4;have V6_5 : (a5.put (some (s + 5)) (.bool c)).eval (.tmp (s + 5)) = .bool c:=eval_put_same (by rw [L5.1];omega)
    dsimp only
    generalize a5.put (some (s + 5)) (.bool c) = a6 at L6 E6 V6_1 V6_2 V6_3 V6_4 V6_5 ⊢
    refine wpl_do (wanted_none rfl) (run_pick E6) ?_;refine h _ (L6.put (by omega)) ((eval_put_same (by rw [L6.1];omega)).trans ?_)
    simpa using V6_5
theorem group_car {P : Program} {ops : Array Oper} {Q : Exit → Act → World → Prop} {a : Act} {w : World} {rest : List Oper} (prev s i0 : Nat) (b c : Bool) (k : Nat) (T : TypeId) (at_ : Array TypeId) (f : FuncId) (as_ : Array Value)
    (g p u : Value)
    {t0 t1 t2 t3 t4 t5 : TypeId} {p0 p1 p2 p3 p4 p5 : String} {f0 f1 f2 f3 f4 f5 : Array Edge}
    (hi : (ops[i0]?).bind (·.dst) = some s) (hp : prev < s) (h3 : 6 < s) (hs : s + 5 < a.tmps.size) (hb : a.eval (.tmp prev) = .bool b)
    (r1 : ∀ ev : Operand → Value,ev (.tmp 5) = a.eval (.tmp 5) → (execOp ev ⟨some (s + 1),.move (.tmp 5),t1,p1,f1,some (i0,true)⟩).run P w = .ok (.value g) w)
    (r2 : ∀ ev : Operand → Value,ev (.tmp 3) = a.eval (.tmp 3) → (execOp ev ⟨some (s + 2),.fieldAddr 43 (.tmp 3) k,t2,p2,f2,some (i0,true)⟩).run P w = .ok (.value p) w)
    (r3 : ∀ ev : Operand → Value,ev (.tmp (s + 2)) = p → (execOp ev ⟨some (s + 3),.load T (.tmp (s + 2)),t3,p3,f3,some (i0,true)⟩).run P w = .ok (.value u) w)
    (r4 : ∀ ev : Operand → Value,ev (.tmp (s + 1)) = g → ev (.tmp (s + 3)) = u → (execOp ev ⟨some (s + 4),.call { callee:=.value (.tmp (s + 1)),args:=#[.tmp (s + 3)],argTypes:=at_ },t4,p4,f4,some (i0,true)⟩).run P w = .ok (.enter f as_) w)
    (hc : Calls P f as_ w fun e w' => e = .returned (.bool c) ∧ w = w')
    (h : ∀ a',Low s a a' → a'.eval (.tmp (s + 5)) = .bool (b && c) → wpList P ops Q rest a' w) :
    wpList P ops Q (⟨some s,.move (.tmp prev),t0,p0,f0,none⟩ :: ⟨some (s + 1),.move (.tmp 5),t1,p1,f1,some (i0,true)⟩ :: ⟨some (s + 2),.fieldAddr 43 (.tmp 3) k,t2,p2,f2,some (i0,true)⟩ :: ⟨some (s + 3),.load T (.tmp (s + 2)),t3,p3,f3,some (i0,true)⟩ :: ⟨some (s + 4),.call { callee:=.value (.tmp (s + 1)),args:=#[.tmp (s + 3)],argTypes:=at_ },t4,p4,f4,some (i0,true)⟩ :: ⟨some (s + 5),.pick (.tmp s) (.tmp (s + 4)) (.const (.bool false)),t5,p5,f5,none⟩ :: rest) a w:=by
  refine wpl_do (wanted_none rfl) run_move ?_;rw [hb];have L1 : Low s a (a.put (some s) (.bool b)):=Low.refl.put (Nat.le_refl _);have E1 : (a.put (some s) (.bool b)).eval (.tmp s) = .bool b:=eval_put_same (by omega)
  generalize a.put (some s) (.bool b) = a1 at L1 E1 ⊢
  cases b with
  | false =>
    have go : ∀ (a2 : Act) (d : Nat),s < d → Low s a a2 → a2.eval (.tmp s) = .bool false → Low s a (a2.put (some d) undef) ∧ (a2.put (some d) undef).eval (.tmp s) = .bool false:=fun a2 d hd hL hE => ⟨hL.put (by omega),(eval_put_ne (by omega)).trans hE⟩;refine wpl_not (wanted_no rfl hi (by rw [L1.1];omega) E1) ?_
    obtain ⟨L2,E2⟩:=go _ (s + 1) (by omega) L1 E1
    refine wpl_not (wanted_no rfl hi (by rw [L2.1];omega) E2) ?_
    obtain ⟨L3,E3⟩:=go _ (s + 2) (by omega) L2 E2
    refine wpl_not (wanted_no rfl hi (by rw [L3.1];omega) E3) ?_
    obtain ⟨L4,E4⟩:=go _ (s + 3) (by omega) L3 E3
    refine wpl_not (wanted_no rfl hi (by rw [L4.1];omega) E4) ?_
    obtain ⟨L5,E5⟩:=go _ (s + 4) (by omega) L4 E4
    refine wpl_do (wanted_none rfl) (run_pick E5) ?_;exact h _ (L5.put (by omega)) (eval_put_same (by rw [L5.1];omega))
  | true =>
    have go : ∀ (a2 : Act) (d : Nat) (x : Value),s < d → Low s a a2 → a2.eval (.tmp s) = .bool true → Low s a (a2.put (some d) x) ∧ (a2.put (some d) x).eval (.tmp s) = .bool true:=fun a2 d x hd hL hE => ⟨hL.put (by omega),(eval_put_ne (by omega)).trans hE⟩;refine wpl_do (wanted_yes rfl hi (by rw [L1.1];omega) E1) (r1 _ (L1.2.1 5 (by omega))) ?_
    obtain ⟨L2,E2⟩:=go a1 (s + 1) g (by omega) L1 E1
    have V2_1 : (a1.put (some (s + 1)) g).eval (.tmp (s + 1)) = g:=eval_put_same (by rw [L1.1];omega)
    dsimp only
    generalize a1.put (some (s + 1)) g = a2 at L2 E2 V2_1 ⊢
    refine wpl_do (wanted_yes rfl hi (by rw [L2.1];omega) E2) (r2 _ (L2.2.1 3 (by omega))) ?_
    obtain ⟨L3,E3⟩:=go a2 (s + 2) p (by omega) L2 E2
    have V3_1:=(eval_put_ne (v:=p) (by omega : s + 2 ≠ s + 1)).trans V2_1;have V3_2 : (a2.put (some (s + 2)) p).eval (.tmp (s + 2)) = p:=eval_put_same (by rw [L2.1];omega)
    dsimp only
    generalize a2.put (some (s + 2)) p = a3 at L3 E3 V3_1 V3_2 ⊢
    refine wpl_do (wanted_yes rfl hi (by rw [L3.1];omega) E3) (r3 _ V3_2) ?_
    obtain ⟨L4,E4⟩:=go a3 (s + 3) u (by omega) L3 E3
    have V4_1:=(eval_put_ne (v:=u) (by omega : s + 3 ≠ s + 1)).trans V3_1;have V4_2:=(eval_put_ne (v:=u) (by omega : s + 3 ≠ s + 2)).trans V3_2;have V4_3 : (a3.put (some (s + 3)) u).eval (.tmp (s + 3)) = u:=eval_put_same (by rw [L3.1];omega)
    dsimp only
    generalize a3.put (some (s + 3)) u = a4 at L4 E4 V4_1 V4_2 V4_3 ⊢
    refine wpl_call (wanted_yes rfl hi (by rw [L4.1];omega) E4) (r4 _ V4_1 V4_3) hc ?_
    obtain ⟨L5,E5⟩:=go a4 (s + 4) (.bool c) (by omega) L4 E4
    have V5_1:=(eval_put_ne (v:=.bool c) (by omega : s + 4 ≠ s + 1)).trans V4_1;have V5_2:=(eval_put_ne (v:=.bool c) (by omega : s + 4 ≠ s + 2)).trans V4_2;have V5_3:=(eval_put_ne (v:=.bool c) (by omega : s + 4 ≠ s + 3)).trans V4_3;have V5_4 : (a4.put (some (s + 4)) (.bool c)).eval (.tmp (s + 4)) = .bool c:=eval_put_same (by rw [L4.1];omega)
    dsimp only
    generalize a4.put (some (s + 4)) (.bool c) = a5 at L5 E5 V5_1 V5_2 V5_3 V5_4 ⊢
    refine wpl_do (wanted_none rfl) (run_pick E5) ?_;refine h _ (L5.put (by omega)) ((eval_put_same (by rw [L5.1];omega)).trans ?_)
    simpa using V5_4
theorem group_ne {P : Program} {ops : Array Oper} {Q : Exit → Act → World → Prop} {a : Act} {w : World} {rest : List Oper} (prev s i0 : Nat) (b c : Bool) (k k' : Nat) (T : TypeId)
    (p u q v : Value)
    {t0 t1 t2 t3 t4 t5 t6 : TypeId} {p0 p1 p2 p3 p4 p5 p6 : String} {f0 f1 f2 f3 f4 f5 f6 : Array Edge}
    (hi : (ops[i0]?).bind (·.dst) = some s) (hp : prev < s) (h3 : 6 < s) (hs : s + 6 < a.tmps.size) (hb : a.eval (.tmp prev) = .bool b)
    (r1 : ∀ ev : Operand → Value,ev (.tmp 3) = a.eval (.tmp 3) → (execOp ev ⟨some (s + 1),.fieldAddr 43 (.tmp 3) k,t1,p1,f1,some (i0,true)⟩).run P w = .ok (.value p) w)
    (r2 : ∀ ev : Operand → Value,ev (.tmp (s + 1)) = p → (execOp ev ⟨some (s + 2),.load T (.tmp (s + 1)),t2,p2,f2,some (i0,true)⟩).run P w = .ok (.value u) w)
    (r3 : ∀ ev : Operand → Value,ev (.tmp 3) = a.eval (.tmp 3) → (execOp ev ⟨some (s + 3),.fieldAddr 43 (.tmp 3) k',t3,p3,f3,some (i0,true)⟩).run P w = .ok (.value q) w)
    (r4 : ∀ ev : Operand → Value,ev (.tmp (s + 3)) = q → (execOp ev ⟨some (s + 4),.load T (.tmp (s + 3)),t4,p4,f4,some (i0,true)⟩).run P w = .ok (.value v) w)
    (r5 : ∀ ev : Operand → Value,ev (.tmp (s + 2)) = u → ev (.tmp (s + 4)) = v → (execOp ev ⟨some (s + 5),.binOp .neq T (.tmp (s + 2)) (.tmp (s + 4)) T,t5,p5,f5,some (i0,true)⟩).run P w = .ok (.value (.bool c)) w)
    (h : ∀ a',Low s a a' → a'.eval (.tmp (s + 6)) = .bool (b && c) → wpList P ops Q rest a' w) :
    wpList P ops Q (⟨some s,.move (.tmp prev),t0,p0,f0,none⟩ :: ⟨some (s + 1),.fieldAddr 43 (.tmp 3) k,t1,p1,f1,some (i0,true)⟩ :: ⟨some (s + 2),.load T (.tmp (s + 1)),t2,p2,f2,some (i0,true)⟩ :: ⟨some (s + 3),.fieldAddr 43 (.tmp 3) k',t3,p3,f3,some (i0,true)⟩ :: ⟨some (s + 4),.load T (.tmp (s + 3)),t4,p4,f4,some (i0,true)⟩ :: ⟨some (s + 5),.binOp .neq T (.tmp (s + 2)) (.tmp (s + 4)) T,t5,p5,f5,some (i0,true)⟩ :: ⟨some (s + 6),.pick (.tmp s) (.tmp (s + 5)) (.const (.bool false)),t6,p6,f6,none⟩ :: rest) a w:=by
  refine wpl_do (wanted_none rfl) run_move ?_;rw [hb];have L1 : Low s a (a.put (some s) (.bool b)):=Low.refl.put (Nat.le_refl _);have E1 : (a.put (some s) (.bool b)).eval (.tmp s) = .bool b:=eval_put_same (by omega)
  generalize a.put (some s) (.bool b) = a1 at L1 E1 ⊢
  cases b with
  | false =>
    have go : ∀ (a2 : Act) (d : Nat),s < d → Low s a a2 → a2.eval (.tmp s) = .bool false → Low s a (a2.put (some d) undef) ∧ (a2.put (some d) undef).eval (.tmp s) = .bool false:=fun a2 d hd hL hE => ⟨hL.put (by omega),(eval_put_ne (by omega)).trans hE⟩;refine wpl_not (wanted_no rfl hi (by rw [L1.1];omega) E1) ?_
    obtain ⟨L2,E2⟩:=go _ (s + 1) (by omega) L1 E1
    refine wpl_not (wanted_no rfl hi (by rw [L2.1];omega) E2) ?_
    obtain ⟨L3,E3⟩:=go _ (s + 2) (by omega) L2 E2
    refine wpl_not (wanted_no rfl hi (by rw [L3.1];omega) E3) ?_
    obtain ⟨L4,E4⟩:=go _ (s + 3) (by omega) L3 E3
    refine wpl_not (wanted_no rfl hi (by rw [L4.1];omega) E4) ?_
    obtain ⟨L5,E5⟩:=go _ (s + 4) (by omega) L4 E4
    refine wpl_not (wanted_no rfl hi (by rw [L5.1];omega) E5) ?_
    obtain ⟨L6,E6⟩:=go _ (s + 5) (by omega) L5 E5
    refine wpl_do (wanted_none rfl) (run_pick E6) ?_;exact h _ (L6.put (by omega)) (eval_put_same (by rw [L6.1];omega))
  | true =>
    have go : ∀ (a2 : Act) (d : Nat) (x : Value),s < d → Low s a a2 → a2.eval (.tmp s) = .bool true → Low s a (a2.put (some d) x) ∧ (a2.put (some d) x).eval (.tmp s) = .bool true:=fun a2 d x hd hL hE => ⟨hL.put (by omega),(eval_put_ne (by omega)).trans hE⟩;refine wpl_do (wanted_yes rfl hi (by rw [L1.1];omega) E1) (r1 _ (L1.2.1 3 (by omega))) ?_
    obtain ⟨L2,E2⟩:=go a1 (s + 1) p (by omega) L1 E1
    have V2_1 : (a1.put (some (s + 1)) p).eval (.tmp (s + 1)) = p:=eval_put_same (by rw [L1.1];omega)
    dsimp only
    generalize a1.put (some (s + 1)) p = a2 at L2 E2 V2_1 ⊢
    refine wpl_do (wanted_yes rfl hi (by rw [L2.1];omega) E2) (r2 _ V2_1) ?_
    obtain ⟨L3,E3⟩:=go a2 (s + 2) u (by omega) L2 E2
    have V3_1:=(eval_put_ne (v:=u) (by omega : s + 2 ≠ s + 1)).trans V2_1;have V3_2 : (a2.put (some (s + 2)) u).eval (.tmp (s + 2)) = u:=eval_put_same (by rw [L2.1];omega)
    dsimp only
    generalize a2.put (some (s + 2)) u = a3 at L3 E3 V3_1 V3_2 ⊢
    refine wpl_do (wanted_yes rfl hi (by rw [L3.1];omega) E3) (r3 _ (L3.2.1 3 (by omega))) ?_
    obtain ⟨L4,E4⟩:=go a3 (s + 3) q (by omega) L3 E3
    have V4_1:=(eval_put_ne (v:=q) (by omega : s + 3 ≠ s + 1)).trans V3_1;have V4_2:=(eval_put_ne (v:=q) (by omega : s + 3 ≠ s + 2)).trans V3_2;have V4_3 : (a3.put (some (s + 3)) q).eval (.tmp (s + 3)) = q:=eval_put_same (by rw [L3.1];omega)
    dsimp only
    generalize a3.put (some (s + 3)) q = a4 at L4 E4 V4_1 V4_2 V4_3 ⊢
    refine wpl_do (wanted_yes rfl hi (by rw [L4.1];omega) E4) (r4 _ V4_3) ?_
    obtain ⟨L5,E5⟩:=go a4 (s + 4) v (by omega) L4 E4
    have V5_1:=(eval_put_ne (v:=v) (by omega : s + 4 ≠ s + 1)).trans V4_1;have V5_2:=(eval_put_ne (v:=v) (by omega : s + 4 ≠ s + 2)).trans V4_2;have V5_3:=(eval_put_ne (v:=v) (by omega : s + 4 ≠ s + 3)).trans V4_3;have V5_4 : (a4.put (some (s + 4)) v).eval (.tmp (s + 4)) = v:=eval_put_same (by rw [L4.1];omega)
    dsimp only
    generalize a4.put (some (s + 4)) v = a5 at L5 E5 V5_1 V5_2 V5_3 V5_4 ⊢
    refine wpl_do (wanted_yes rfl hi (by rw [L5.1];omega) E5) (r5 _ V5_2 V5_4) ?_
    obtain ⟨L6,E6⟩:=go a5 (s + 5) (.bool c) (by omega) L5 E5
    have V6_1:=(eval_put_ne (v:=.bool c) (by omega : s + 5 ≠ s + 1)).trans V5_1;have V6_2:=(eval_put_ne (v:=.bool c) (by omega : s + 5 ≠ s + 2)).trans V5_2;have V6_3:=(eval_put_ne (v:=.bool c) (by omega : s + 5 ≠ s + 3)).trans V5_3;have V6_4:=(eval_put_ne (v:=.bool c) (by omega : s + 5 ≠ s + 4)).trans V5_4;have V6_5 : (a5.put (some (s + 5)) (.bool c)).eval (.tmp (s + 5)) = .bool c:=eval_put_same (by rw [L5.1];omega)
    dsimp only
    generalize a5.put (some (s + 5)) (.bool c) = a6 at L6 E6 V6_1 V6_2 V6_3 V6_4 V6_5 ⊢
    refine wpl_do (wanted_none rfl) (run_pick E6) ?_;refine h _ (L6.put (by omega)) ((eval_put_same (by rw [L6.1];omega)).trans ?_)
    simpa using V6_5
theorem group_ge {P : Program} {ops : Array Oper} {Q : Exit → Act → World → Prop} {a : Act} {w : World} {rest : List Oper} (prev s i0 : Nat) (b c : Bool) (k : Nat) (T : TypeId) (lo : Value)
    (p u : Value)
    {t0 t1 t2 t3 t4 : TypeId} {p0 p1 p2 p3 p4 : String} {f0 f1 f2 f3 f4 : Array Edge}
    (hi : (ops[i0]?).bind (·.dst) = some s) (hp : prev < s) (h3 : 6 < s) (hs : s + 4 < a.tmps.size) (hb : a.eval (.tmp prev) = .bool b)
    (r1 : ∀ ev : Operand → Value,ev (.tmp 3) = a.eval (.tmp 3) → (execOp ev ⟨some (s + 1),.fieldAddr 43 (.tmp 3) k,t1,p1,f1,some (i0,true)⟩).run P w = .ok (.value p) w)
    (r2 : ∀ ev : Operand → Value,ev (.tmp (s + 1)) = p → (execOp ev ⟨some (s + 2),.load T (.tmp (s + 1)),t2,p2,f2,some (i0,true)⟩).run P w = .ok (.value u) w)
    (r3 : ∀ ev : Operand → Value,ev (.tmp (s + 2)) = u → ev (.const lo) = lo → (execOp ev ⟨some (s + 3),.binOp .geq T (.tmp (s + 2)) (.const lo) T,t3,p3,f3,some (i0,true)⟩).run P w = .ok (.value (.bool c)) w)
    (h : ∀ a',Low s a a' → a'.eval (.tmp (s + 4)) = .bool (b && c) → wpList P ops Q rest a' w) :
    wpList P ops Q (⟨some s,.move (.tmp prev),t0,p0,f0,none⟩ :: ⟨some (s + 1),.fieldAddr 43 (.tmp 3) k,t1,p1,f1,some (i0,true)⟩ :: ⟨some (s + 2),.load T (.tmp (s + 1)),t2,p2,f2,some (i0,true)⟩ :: ⟨some (s + 3),.binOp .geq T (.tmp (s + 2)) (.const lo) T,t3,p3,f3,some (i0,true)⟩ :: ⟨some (s + 4),.pick (.tmp s) (.tmp (s + 3)) (.const (.bool false)),t4,p4,f4,none⟩ :: rest) a w:=by
  refine wpl_do (wanted_none rfl) run_move ?_;rw [hb];have L1 : Low s a (a.put (some s) (.bool b)):=Low.refl.put (Nat.le_refl _);have E1 : (a.put (some s) (.bool b)).eval (.tmp s) = .bool b:=eval_put_same (by omega)
  generalize a.put (some s) (.bool b) = a1 at L1 E1 ⊢
  cases b with
  | false =>
    have go : ∀ (a2 : Act) (d : Nat),s < d → Low s a a2 → a2.eval (.tmp s) = .bool false → Low s a (a2.put (some d) undef) ∧ (a2.put (some d) undef).eval (.tmp s) = .bool false:=fun a2 d hd hL hE => ⟨hL.put (by omega),(eval_put_ne (by omega)).trans hE⟩;refine wpl_not (wanted_no rfl hi (by rw [L1.1];omega) E1) ?_
    obtain ⟨L2,E2⟩:=go _ (s + 1) (by omega) L1 E1
    refine wpl_not (wanted_no rfl hi (by rw [L2.1];omega) E2) ?_
    obtain ⟨L3,E3⟩:=go _ (s + 2) (by omega) L2 E2
    refine wpl_not (wanted_no rfl hi (by rw [L3.1];omega) E3) ?_
    obtain ⟨L4,E4⟩:=go _ (s + 3) (by omega) L3 E3
    refine wpl_do (wanted_none rfl) (run_pick E4) ?_;exact h _ (L4.put (by omega)) (eval_put_same (by rw [L4.1];omega))
  | true =>
    have go : ∀ (a2 : Act) (d : Nat) (x : Value),s < d → Low s a a2 → a2.eval (.tmp s) = .bool true → Low s a (a2.put (some d) x) ∧ (a2.put (some d) x).eval (.tmp s) = .bool true:=fun a2 d x hd hL hE => ⟨hL.put (by omega),(eval_put_ne (by omega)).trans hE⟩;refine wpl_do (wanted_yes rfl hi (by rw [L1.1];omega) E1) (r1 _ (L1.2.1 3 (by omega))) ?_
    obtain ⟨L2,E2⟩:=go a1 (s + 1) p (by omega) L1 E1
    have V2_1 : (a1.put (some (s + 1)) p).eval (.tmp (s + 1)) = p:=eval_put_same (by rw [L1.1];omega)
    dsimp only
    generalize a1.put (some (s + 1)) p = a2 at L2 E2 V2_1 ⊢
    refine wpl_do (wanted_yes rfl hi (by rw [L2.1];omega) E2) (r2 _ V2_1) ?_
    obtain ⟨L3,E3⟩:=go a2 (s + 2) u (by omega) L2 E2
    have V3_1:=(eval_put_ne (v:=u) (by omega : s + 2 ≠ s + 1)).trans V2_1;have V3_2 : (a2.put (some (s + 2)) u).eval (.tmp (s + 2)) = u:=eval_put_same (by rw [L2.1];omega)
    dsimp only
    generalize a2.put (some (s + 2)) u = a3 at L3 E3 V3_1 V3_2 ⊢
    refine wpl_do (wanted_yes rfl hi (by rw [L3.1];omega) E3) (r3 _ V3_2 rfl) ?_
    obtain ⟨L4,E4⟩:=go a3 (s + 3) (.bool c) (by omega) L3 E3
    have V4_1:=(eval_put_ne (v:=.bool c) (by omega : s + 3 ≠ s + 1)).trans V3_1;have V4_2:=(eval_put_ne (v:=.bool c) (by omega : s + 3 ≠ s + 2)).trans V3_2;have V4_3 : (a3.put (some (s + 3)) (.bool c)).eval (.tmp (s + 3)) = .bool c:=eval_put_same (by rw [L3.1];omega)
    dsimp only
    generalize a3.put (some (s + 3)) (.bool c) = a4 at L4 E4 V4_1 V4_2 V4_3 ⊢
    refine wpl_do (wanted_none rfl) (run_pick E4) ?_;refine h _ (L4.put (by omega)) ((eval_put_same (by rw [L4.1];omega)).trans ?_)
    simpa using V4_3
end Go.Proofs.Ytpadgcomncljmaa.A
/- A walk whose frame is a list of what some slots hold: one lemma for each kind of operation. -/
namespace Go.Proofs.Ytpadgcomncljmaa.A
open Go.RowKit

def look : List (Nat × Value) → Nat → Option Value
  | [],_ => none
  | (d,v) :: l,j => bif Nat.beq d j then some v else look l j
def lookO (l : List (Nat × Value)) : Operand → Option Value
  | .tmp j => look l j
  | .const v => some v
  | .global g => some (.pointer (some ⟨g,0,none⟩))
  | .func f => some (.func (.func f) #[] #[])

structure Has (n : Nat) (ds : List Deferred) (l : List (Nat × Value)) (a : Act) : Prop where
  size : a.tmps.size = n
  defers : a.defers = ds
  at_ : ∀ j v,look l j = some v → a.eval (.tmp j) = v

def wantB (ops : Array Oper) (n : Nat) (l : List (Nat × Value)) : Option (Nat × Bool) → Option Bool
  | none => some true
  | some (i, c) => match (ops[i]?).bind (·.dst) with
    | some s => bif Nat.ble (s + 1) n then (match look l s with
      | some (.bool b) => some (b == c)
      | some (.tuple _) => some false
      | _ => none) else none
    | none => none

section
variable {P : Program} {ops : Array Oper} {Q : Exit → Act → World → Prop} {a : Act} {w w' : World} {rest : List Oper} {o : Oper} {n d : Nat} {ds : List Deferred} {l : List (Nat × Value)} {v : Value}
theorem Has.evO (H : Has n ds l a) {x : Operand} (h : lookO l x = some v) : a.eval x = v:=by
  cases x with
  | tmp j => exact H.at_ j v h
  | const u => cases h;rfl
  | global g => cases h;rfl
  | func f => cases h;rfl
theorem Has.put (H : Has n ds l a) (hd : Nat.ble (d + 1) n = true) : Has n ds ((d,v) :: l) (a.put (some d) v):=by
  refine ⟨by simpa [Act.put] using H.size,by simpa [Act.put] using H.defers,fun j u h => ?_⟩;simp only [look] at h
  cases he : Nat.beq d j with
  | true =>
    have e : d = j:=Nat.eq_of_beq_eq_true he
    subst e
    rw [he] at h
    cases h
    exact eval_put_same (by rw [H.size];exact Nat.le_of_ble_eq_true hd)
  | false =>
    rw [he] at h;have e : d ≠ j:=Nat.ne_of_beq_eq_false he;exact (eval_put_ne e).trans (H.at_ j u h)
theorem Has.cons (H : Has n ds l a) (h : a.eval (.tmp d) = v) : Has n ds ((d,v) :: l) a:=by
  refine ⟨H.size,H.defers,fun j u h' => ?_⟩;simp only [look] at h'
  cases he : Nat.beq d j with
  | true =>
    have e : d = j:=Nat.eq_of_beq_eq_true he
    subst e
    rw [he] at h'
    cases h'
    exact h
  | false =>
    rw [he] at h';exact H.at_ j u h'
theorem Has.nil (h1 : a.tmps.size = n) (h2 : a.defers = ds) : Has n ds [] a:=⟨h1,h2,fun j u h => by cases h⟩
theorem Has.nilOf (H : Has n ds l a) : Has n ds [] a:=.nil H.size H.defers
theorem Has.keep {d : Nat} (H : Has n ds l a) {l' : List (Nat × Value)} (h : look l d = some v) (H' : Has n ds l' a) : Has n ds ((d,v) :: l') a:=H'.cons (H.at_ d v h)
theorem want_sound {b : Bool} (H : Has n ds l a) (h : wantB ops n l o.guard = some b) : Region.wanted o (yielded ops a.tmps) = b:=by
  unfold wantB at h
  unfold Region.wanted
  cases hg : o.guard with
  | none => rw [hg] at h;cases h;rfl
  | some ic =>
    obtain ⟨i,c⟩:=ic
    rw [hg] at h
    simp only at h ⊢
    cases hi : (ops[i]?).bind (·.dst) with
    | none => rw [hi] at h;cases h
    | some s =>
      rw [hi] at h
      simp only at h
      cases hn : Nat.ble (s + 1) n with
      | false => rw [hn] at h;cases h
      | true =>
        rw [hn] at h;have hs : s < a.tmps.size:=by rw [H.size];exact Nat.le_of_ble_eq_true hn
        simp only [cond_true] at h
        split at h
        · rename_i b' hb
          cases h
          rw [yielded_eval hi hs (H.at_ s _ hb)]
          cases b' <;> cases c <;> rfl
        · rename_i u hb
          cases h
          have he:=H.at_ s _ hb
          have : yielded ops a.tmps i = none:=by
            have hq : a.tmps[s]? = some (.tuple u):=by
              rw [Array.getElem?_eq_getElem hs];simp only [Act.eval,Array.getD,hs,dite_true] at he;exact congrArg some he
            simp [yielded,hi,hq]
          rw [this]
          rfl
        · cases h

theorem a_do (H : Has n ds l a) (hg : wantB ops n l o.guard = some true) (he : (execOp a.eval o).run P w = .ok (.value v) w') (hdst : o.dst = some d) (hd : Nat.ble (d + 1) n = true) (h : ∀ a',Has n ds ((d,v) :: l) a' → wpList P ops Q rest a' w') : wpList P ops Q (o :: rest) a w:=by
  refine wpList_step fun K hK => ?_;rw [if_pos (want_sound H hg)]
  show o.upon P a K Q ((execOp a.eval o).run P w)
  rw [he];refine hK _ _ ?_;rw [hdst];exact h _ (H.put hd)
theorem a_skip (H : Has n ds l a) (hg : wantB ops n l o.guard = some true) (he : (execOp a.eval o).run P w = .ok .skip w') (hdst : o.dst = none) (h : ∀ a',Has n ds l a' → wpList P ops Q rest a' w') : wpList P ops Q (o :: rest) a w:=by
  refine wpList_step fun K hK => ?_;rw [if_pos (want_sound H hg)]
  show o.upon P a K Q ((execOp a.eval o).run P w)
  rw [he];refine hK _ _ ?_;rw [hdst];exact h _ H
theorem a_not (H : Has n ds l a) (hg : wantB ops n l o.guard = some false) (hdst : o.dst = some d) (hd : Nat.ble (d + 1) n = true) (h : ∀ a',Has n ds ((d,undef) :: l) a' → wpList P ops Q rest a' w) : wpList P ops Q (o :: rest) a w:=by
  refine wpList_step fun K hK => ?_;rw [if_neg (by simp [want_sound H hg])];refine hK _ _ ?_;rw [hdst];exact h _ (H.put hd)
def CallPost (P : Program) (ops : Array Oper) (Q : Exit → Act → World → Prop) (rest : List Oper) (n : Nat) (ds : List Deferred) (l : List (Nat × Value)) (d : Nat) (a : Act) : Ending → World → Prop
  | .returned v,w'' => ∀ a',Has n ds ((d,v) :: l) a' → wpList P ops Q rest a' w''
  | .panicked chain,w'' => Has n ds l a → Q (.panic chain) a w''
  | .outgrown,_ => LetsOut Q
theorem a_enter {f : FuncId} {args : Array Value} (H : Has n ds l a) (hg : wantB ops n l o.guard = some true) (he : (execOp a.eval o).run P w = .ok (.enter f args) w') (hdst : o.dst = some d) (hd : Nat.ble (d + 1) n = true)
    (h : Calls P f args w' (CallPost P ops Q rest n ds l d a)) : wpList P ops Q (o :: rest) a w:=by
  refine wpList_step fun K hK => ?_;rw [if_pos (want_sound H hg)]
  show o.upon P a K Q ((execOp a.eval o).run P w)
  rw [he,Oper.upon_enter];refine h.mono fun e w2 hp => ?_
  cases e with
  | returned v =>
    refine hK _ _ ?_;rw [hdst];exact hp _ (H.put hd)
  | panicked chain => exact hp H
  | outgrown => exact hp

variable {t : TypeId} {ps : String} {af : Array Edge} {g : Option (Nat × Bool)} {x y z : Operand} {T T' : TypeId} {p : Addr}
theorem a_move (H : Has n ds l a) (hg : wantB ops n l g = some true) (hx : lookO l x = some v) (hd : Nat.ble (d + 1) n = true) (h : ∀ a',Has n ds ((d,v) :: l) a' → wpList P ops Q rest a' w) : wpList P ops Q (⟨some d,.move x,t,ps,af,g⟩ :: rest) a w :=
  a_do H hg (by have:=H.evO hx;generalize a.eval = ev at this;simp [go_sem,this]) rfl hd h
theorem a_assign (H : Has n ds l a) (hg : wantB ops n l g = some true) (hx : lookO l x = some v) (hd : Nat.ble (d + 1) n = true) (h : ∀ a',Has n ds ((d,v) :: l) a' → wpList P ops Q rest a' w) : wpList P ops Q (⟨some d,.assign x,t,ps,af,g⟩ :: rest) a w :=
  a_do H hg (by have:=H.evO hx;generalize a.eval = ev at this;simp [go_sem,this]) rfl hd h
theorem a_pickT (H : Has n ds l a) (hg : wantB ops n l g = some true) (hx : lookO l x = some (.bool true)) (hy : lookO l y = some v) (hd : Nat.ble (d + 1) n = true) (h : ∀ a',Has n ds ((d,v) :: l) a' → wpList P ops Q rest a' w) : wpList P ops Q (⟨some d,.pick x y z,t,ps,af,g⟩ :: rest) a w :=
  a_do H hg (by have h1:=H.evO hx;have h2:=H.evO hy;generalize a.eval = ev at h1 h2;simp [go_sem,h1,h2]) rfl hd h
theorem a_pickF (H : Has n ds l a) (hg : wantB ops n l g = some true) (hx : lookO l x = some (.bool false)) (hy : lookO l z = some v) (hd : Nat.ble (d + 1) n = true) (h : ∀ a',Has n ds ((d,v) :: l) a' → wpList P ops Q rest a' w) : wpList P ops Q (⟨some d,.pick x y z,t,ps,af,g⟩ :: rest) a w :=
  a_do H hg (by have h1:=H.evO hx;have h2:=H.evO hy;generalize a.eval = ev at h1 h2;simp [go_sem,h1,h2]) rfl hd h
theorem a_nilCheck (H : Has n ds l a) (hg : wantB ops n l g = some true) (hx : lookO l x = some (.pointer (some p))) (hd : Nat.ble (d + 1) n = true) (h : ∀ a',Has n ds ((d,.pointer (some p)) :: l) a' → wpList P ops Q rest a' w) : wpList P ops Q (⟨some d,.nilCheck x,t,ps,af,g⟩ :: rest) a w :=
  a_do H hg (by have h1:=H.evO hx;generalize a.eval = ev at h1;simp [go_sem,h1]) rfl hd h
theorem a_not_ {b : Bool} (H : Has n ds l a) (hg : wantB ops n l g = some true) (hx : lookO l x = some (.bool b)) (hd : Nat.ble (d + 1) n = true) (h : ∀ a',Has n ds ((d,.bool (!b)) :: l) a' → wpList P ops Q rest a' w) : wpList P ops Q (⟨some d,.unOp .not 4 x,t,ps,af,g⟩ :: rest) a w :=
  a_do H hg (by have h1:=H.evO hx;generalize a.eval = ev at h1;simp [go_sem,h1]) rfl hd h
theorem a_extract {vs : Array Value} {k : Nat} (H : Has n ds l a) (hg : wantB ops n l g = some true) (hx : lookO l x = some (.tuple vs)) (hk : vs[k]? = some v) (hd : Nat.ble (d + 1) n = true) (h : ∀ a',Has n ds ((d,v) :: l) a' → wpList P ops Q rest a' w) : wpList P ops Q (⟨some d,.extract x k,t,ps,af,g⟩ :: rest) a w :=
  a_do H hg (by have h1:=H.evO hx;generalize a.eval = ev at h1;simp [go_sem,h1,hk]) rfl hd h
end
end Go.Proofs.Ytpadgcomncljmaa.A
/- The walk by lists: the operations that look at types. -/
namespace Go.Proofs.Ytpadgcomncljmaa.A
open Go.RowKit

section
variable {ops : Array Oper} {Q : Exit → Act → World → Prop} {a : Act} {w w' : World} {rest : List Oper} {o : Oper} {n d : Nat} {ds : List Deferred} {l : List (Nat × Value)} {v : Value}
variable {t : TypeId} {ps : String} {af : Array Edge} {g : Option (Nat × Bool)} {x y z : Operand} {T T' : TypeId} {p : Addr}

def lenT (T : TypeId) : Bool:=T == 22 || T == 31 || T == 34 || T == 97
theorem run_len {ev : Operand → Value} {A : Option Addr} {k c : Nat} (hT : lenT T = true) (hx : ev x = .slice A k c) : (execOp ev ⟨o.dst,.call ⟨.builtin .len,#[x],#[T]⟩,t,ps,af,g⟩).run Try.prog w = .ok (.value (.int .i64 (k : Int))) w:=by
  simp only [lenT,Bool.or_eq_true,beq_iff_eq] at hT
  rcases hT with ((rfl | rfl) | rfl) | rfl <;> simp [go_sem,hx]
theorem a_len {A : Option Addr} {k c : Nat} (H : Has n ds l a) (hg : wantB ops n l g = some true) (hx : lookO l x = some (.slice A k c)) (hT : lenT T = true) (hd : Nat.ble (d + 1) n = true) (h : ∀ a',Has n ds ((d,.int .i64 (k : Int)) :: l) a' → wpList Try.prog ops Q rest a' w) : wpList Try.prog ops Q (⟨some d,.call ⟨.builtin .len,#[x],#[T]⟩,t,ps,af,g⟩ :: rest) a w :=
  a_do H hg (run_len (o:=⟨some d,.nilCheck x,t,ps,af,g⟩) hT (H.evO hx)) rfl hd h

def oneT (T : TypeId) : Bool:=T == 3 || T == 4 || T == 22 || T == 24 || T == 31 || T == 34 || T == 37 || T == 41 || T == 97
theorem run_load {ev : Operand → Value} (hT : oneT T = true) (hx : ev x = .pointer (some p)) (hc : w.cell? p = some v) : (execOp ev ⟨o.dst,.load T x,t,ps,af,g⟩).run Try.prog w = .ok (.value v) w:=by
  simp only [oneT,Bool.or_eq_true,beq_iff_eq] at hT
  rcases hT with (((((((rfl | rfl) | rfl) | rfl) | rfl) | rfl) | rfl) | rfl) | rfl <;> simp [go_sem,hx,hc]
theorem a_load (H : Has n ds l a) (hg : wantB ops n l g = some true) (hx : lookO l x = some (.pointer (some p))) (hT : oneT T = true) (hc : w.cell? p = some v) (hd : Nat.ble (d + 1) n = true) (h : ∀ a',Has n ds ((d,v) :: l) a' → wpList Try.prog ops Q rest a' w) : wpList Try.prog ops Q (⟨some d,.load T x,t,ps,af,g⟩ :: rest) a w :=
  a_do H hg (run_load (o:=⟨some d,.nilCheck x,t,ps,af,g⟩) hT (H.evO hx) hc) rfl hd h
def storable : Value → Bool
  | .int _ _ => true
  | .bool _ => true
  | .pointer _ => true
  | .slice _ _ _ => true
  | _ => false
theorem run_store {ev : Operand → Value} {u : Value} (hT : oneT T = true) (hx : ev x = .pointer (some p)) (hy : ev y = v) (hc : w.cell? p = some u) (hf : w.frozen? p = false) (h1 : storable v = true) : (execOp ev ⟨none,.store T x y,t,ps,af,g⟩).run Try.prog w = .ok .skip (w.setCell p v):=by
  simp only [oneT,Bool.or_eq_true,beq_iff_eq] at hT
  rcases hT with (((((((rfl | rfl) | rfl) | rfl) | rfl) | rfl) | rfl) | rfl) | rfl <;> cases v <;> simp only [storable,reduceCtorEq] at h1 <;> simp [go_sem,hx,hy,hc,hf]

def offT (T : TypeId) (k : Nat) : Option Nat :=
  if T == 43 then (if k < 12 then some k else none)
  else if T == 33 then (if k < 6 then some k else none)
  else if T == 71 then (if k < 4 then some k else none)
  else if T == 115 then (if k < 2 then some k else none)
  else if T == 99 then (if k == 0 then some 0 else if k == 1 then some 6 else if k == 2 then some 7 else if k == 3 then some 8 else none)
  else none
theorem run_field {ev : Operand → Value} {k j : Nat} (hT : offT T k = some j) (hx : ev x = .pointer (some p)) : (execOp ev ⟨o.dst,.fieldAddr T x k,t,ps,af,g⟩).run Try.prog w = .ok (.value (.pointer (some (p.add j)))) w:=by
  unfold offT at hT
  split at hT
  · rename_i h;simp only [beq_iff_eq] at h;subst h
    split at hT
    · rename_i h
      have hk : k < 12:=h
      cases hT
      rcases k with _|_|_|_|_|_|_|_|_|_|_|_|k <;> first | (simp [go_sem,hx];done) | omega
    · cases hT
  split at hT
  · rename_i h;simp only [beq_iff_eq] at h;subst h
    split at hT
    · rename_i h
      have hk : k < 6:=h
      cases hT
      rcases k with _|_|_|_|_|_|k <;> first | (simp [go_sem,hx];done) | omega
    · cases hT
  split at hT
  · rename_i h;simp only [beq_iff_eq] at h;subst h
    split at hT
    · rename_i h
      have hk : k < 4:=h
      cases hT
      rcases k with _|_|_|_|k <;> first | (simp [go_sem,hx];done) | omega
    · cases hT
  split at hT
  · rename_i h;simp only [beq_iff_eq] at h;subst h
    split at hT
    · rename_i h
      have hk : k < 2:=h
      cases hT
      rcases k with _|_|k <;> first | (simp [go_sem,hx];done) | omega
    · cases hT
  split at hT
  · rename_i h;simp only [beq_iff_eq] at h;subst h
    split at hT
    · rename_i h;simp only [beq_iff_eq] at h;subst h;cases hT;simp [go_sem,hx]
    split at hT
    · rename_i h;simp only [beq_iff_eq] at h;subst h;cases hT;simp [go_sem,hx]
    split at hT
    · rename_i h;simp only [beq_iff_eq] at h;subst h;cases hT;simp [go_sem,hx]
    split at hT
    · rename_i h;simp only [beq_iff_eq] at h;subst h;cases hT;simp [go_sem,hx]
    · cases hT
  · cases hT
theorem a_store {u : Value} (H : Has n ds l a) (hg : wantB ops n l g = some true) (hx : lookO l x = some (.pointer (some p))) (hy : lookO l y = some v) (hT : oneT T = true) (h1 : storable v = true) (hc : w.cell? p = some u) (hf : w.frozen? p = false) (h : ∀ a',Has n ds l a' → wpList Try.prog ops Q rest a' (w.setCell p v)) : wpList Try.prog ops Q (⟨none,.store T x y,t,ps,af,g⟩ :: rest) a w :=
  a_skip H hg (run_store hT (H.evO hx) (H.evO hy) hc hf h1) rfl h
theorem a_field {k j : Nat} (H : Has n ds l a) (hg : wantB ops n l g = some true) (hx : lookO l x = some (.pointer (some p))) (hT : offT T k = some j) (hd : Nat.ble (d + 1) n = true) (h : ∀ a',Has n ds ((d,.pointer (some (p.add j))) :: l) a' → wpList Try.prog ops Q rest a' w) : wpList Try.prog ops Q (⟨some d,.fieldAddr T x k,t,ps,af,g⟩ :: rest) a w :=
  a_do H hg (run_field (o:=⟨some d,.nilCheck x,t,ps,af,g⟩) hT (H.evO hx)) rfl hd h

def intT (T : TypeId) : Bool:=T == 3 || T == 24 || T == 41
def cmpB : BinOp → Option (Int → Int → Bool)
  | .eql => some fun x y => x == y
  | .neq => some fun x y => x != y
  | .lss => some fun x y => decide (x < y)
  | .leq => some fun x y => decide (x ≤ y)
  | .gtr => some fun x y => decide (y < x)
  | .geq => some fun x y => decide (y ≤ x)
  | _ => none
theorem run_cmp {ev : Operand → Value} {op : BinOp} {r : Int → Int → Bool} {m k : Int} (hT : intT T = true) (ho : cmpB op = some r) (hx : ev x = .int .i64 m) (hy : ev y = .int .i64 k) : (execOp ev ⟨o.dst,.binOp op T x y T,t,ps,af,g⟩).run Try.prog w = .ok (.value (.bool (r m k))) w:=by
  simp only [intT,Bool.or_eq_true,beq_iff_eq] at hT
  cases op <;> simp only [cmpB,Option.some.injEq,reduceCtorEq] at ho <;> subst ho <;> rcases hT with (rfl | rfl) | rfl <;> simp [go_sem,hx,hy]
theorem a_cmp {op : BinOp} {r : Int → Int → Bool} {m k : Int} {b : Bool} (H : Has n ds l a) (hg : wantB ops n l g = some true) (ho : cmpB op = some r) (hT : intT T = true) (hx : lookO l x = some (.int .i64 m)) (hy : lookO l y = some (.int .i64 k)) (hb : r m k = b) (hd : Nat.ble (d + 1) n = true)
    (h : ∀ a',Has n ds ((d,.bool b) :: l) a' → wpList Try.prog ops Q rest a' w) : wpList Try.prog ops Q (⟨some d,.binOp op T x y T,t,ps,af,g⟩ :: rest) a w:=by
  subst hb
  exact a_do H hg (run_cmp (o:=⟨some d,.nilCheck x,t,ps,af,g⟩) hT ho (H.evO hx) (H.evO hy)) rfl hd h
def arI : BinOp → Option (Int → Int → Int)
  | .add => some fun x y => x + y
  | .sub => some fun x y => x - y
  | .mul => some fun x y => x * y
  | _ => none
theorem run_ar {ev : Operand → Value} {op : BinOp} {r : Int → Int → Int} {m k : Int} (ho : arI op = some r) (hx : ev x = .int .i64 m) (hy : ev y = .int .i64 k) : (execOp ev ⟨o.dst,.binOp op 3 x y 3,t,ps,af,g⟩).run Try.prog w = .ok (.value (.int .i64 (IntKind.i64.wrap (r m k)))) w:=by
  cases op <;> simp only [arI,Option.some.injEq,reduceCtorEq] at ho <;> subst ho <;> simp [go_sem,hx,hy]
theorem a_ar {op : BinOp} {r : Int → Int → Int} {m k : Int} (H : Has n ds l a) (hg : wantB ops n l g = some true) (ho : arI op = some r) (hx : lookO l x = some (.int .i64 m)) (hy : lookO l y = some (.int .i64 k)) (hb : -9223372036854775808 ≤ r m k ∧ r m k ≤ 9223372036854775807) (hd : Nat.ble (d + 1) n = true)
    (h : ∀ a',Has n ds ((d,.int .i64 (r m k)) :: l) a' → wpList Try.prog ops Q rest a' w) : wpList Try.prog ops Q (⟨some d,.binOp op 3 x y 3,t,ps,af,g⟩ :: rest) a w:=by
  rw [← IntWalk.i64_in _ hb] at h;exact a_do H hg (run_ar (o:=⟨some d,.nilCheck x,t,ps,af,g⟩) ho (H.evO hx) (H.evO hy)) rfl hd h
def sizT (T : TypeId) : Option Nat:=if T == 22 then some 1 else if T == 31 then some 4 else if T == 34 then some 12 else if T == 97 then some 2 else none
theorem run_index {ev : Operand → Value} {s k c : Nat} {i : Int} {j : Nat} (hT : sizT T = some s) (hx : ev x = .slice (some p) k c) (hy : ev y = .int .i64 i) (hi : i = j) (hj : j < k) : (execOp ev ⟨o.dst,.indexAddr T x y,t,ps,af,g⟩).run Try.prog w = .ok (.value (.pointer (some (p.add (j * s))))) w:=by
  subst hi
  have h0 : (0 : Int) ≤ (j : Int):=by omega
  have h1 : (j : Int) < (k : Int):=by omega
  unfold sizT at hT
  split at hT
  · rename_i h;simp only [beq_iff_eq] at h;subst h;cases hT;simp [go_sem,hx,hy,h0,h1,hj]
  split at hT
  · rename_i h;simp only [beq_iff_eq] at h;subst h;cases hT;simp [go_sem,hx,hy,h0,h1,hj]
  split at hT
  · rename_i h;simp only [beq_iff_eq] at h;subst h;cases hT;simp [go_sem,hx,hy,h0,h1,hj]
  split at hT
  · rename_i h;simp only [beq_iff_eq] at h;subst h;cases hT;simp [go_sem,hx,hy,h0,h1,hj]
  · cases hT
theorem a_index {s k c : Nat} {i : Int} {j : Nat} (H : Has n ds l a) (hg : wantB ops n l g = some true) (hT : sizT T = some s) (hx : lookO l x = some (.slice (some p) k c)) (hy : lookO l y = some (.int .i64 i)) (hi : i = j) (hj : j < k) (hd : Nat.ble (d + 1) n = true)
    (h : ∀ a',Has n ds ((d,.pointer (some (p.add (j * s)))) :: l) a' → wpList Try.prog ops Q rest a' w) : wpList Try.prog ops Q (⟨some d,.indexAddr T x y,t,ps,af,g⟩ :: rest) a w :=
  a_do H hg (run_index (o:=⟨some d,.nilCheck x,t,ps,af,g⟩) hT (H.evO hx) (H.evO hy) hi hj) rfl hd h
end
end Go.Proofs.Ytpadgcomncljmaa.A
