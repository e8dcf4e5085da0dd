/- Which codes are as defined, and the version of any article: the law AppealCodes is true for every code, article and minute, and leaves its arguments as they read. No condition. -/
import Derived.Test.YtpadgcomncljmaaRows
import Derived.ProofKit
import Derived.OpenShut
import Derived.Test.YtpadgcomncljmaaZ5
set_option linter.all false
namespace Go.Proofs.Ytpadgcomncljmaa.A
open Go.RowKit
def zeroArt : Art := ⟨0, 0, 0, 0⟩
def artV (x : Art) : Value := .agg #[.int .i64 x.num, .int .i64 x.since, .int .i64 x.least, .int .i64 x.most]
def artC (x : Art) : Array Value := #[.int .i64 x.num, .int .i64 x.since, .int .i64 x.least, .int .i64 x.most]
def artEq (x y : Art) : Bool := (x.num == y.num) && ((x.since == y.since) && ((x.least == y.least) && (x.most == y.most)))
section
variable {ops : Array Oper} {Q : Exit → Act → World → Prop} {a : Act} {w w' : World} {rest : List Oper} {o : Oper} {n d : Nat} {ds : List Deferred} {l : List (Nat × Value)} {v : Value}
variable {t : TypeId} {ps : String} {af : Array Edge} {g : Option (Nat × Bool)} {x y z : Operand} {T T' : TypeId} {p : Addr}
theorem put4 {b : Nat} {old : Array Value} (h : w.heap[b]? = some (.cells old 71 (0, 0))) (hs : old.size = 4) (v0 v1 v2 v3 : Value) : ((((w.setCell ⟨b, 0, none⟩ v0).setCell ⟨b, 1, none⟩ v1).setCell ⟨b, 2, none⟩ v2).setCell ⟨b, 3, none⟩ v3).heap[b]? = some (.cells #[v0, v1, v2, v3] 71 (0, 0)) ∧ Mod (fun k => k = b) w ((((w.setCell ⟨b, 0, none⟩ v0).setCell ⟨b, 1, none⟩ v1).setCell ⟨b, 2, none⟩ v2).setCell ⟨b, 3, none⟩ v3) := by
  obtain ⟨l⟩ := old
  match l, hs with
  | [o0, o1, o2, o3], _ =>
    exact ⟨blk_set (blk_set (blk_set (blk_set h 0 v0) 1 v1) 2 v2) 3 v3, (((Mod.refl.put1 0 _).put1 1 _).put1 2 _).put1 3 _⟩
theorem run_store71 {ev : Operand → Value} {b : Nat} {old : Array Value} (X : Art) (hx : ev x = .pointer (some ⟨b, 0, none⟩)) (hy : ev y = artV X) (h : w.heap[b]? = some (.cells old 71 (0, 0))) (hs : old.size = 4) :
    ∃ w', (execOp ev ⟨none, .store 71 x y, t, ps, af, g⟩).run Try.prog w = .ok .skip w' ∧ w'.heap[b]? = some (.cells (artC X) 71 (0, 0)) ∧ Mod (fun k => k = b) w w' := by
  obtain ⟨l⟩ := old
  match l, hs with
  | [o0, o1, o2, o3], _ =>
    refine ⟨_, ?_, put4 h rfl (.int .i64 X.num) (.int .i64 X.since) (.int .i64 X.least) (.int .i64 X.most)⟩
    have hu := Try.underlying71
    have hf : ∀ i, w.frozen? ⟨b, i, none⟩ = false := fun i => by simp [World.frozen?, h]
    have hc : ∀ i u, (#[o0, o1, o2, o3] : Array Value)[i]? = some u → w.cell? ⟨b, i, none⟩ = some u := fun i u hu => by simp [World.cell?, h, hu]
    have c0 := hc 0 _ rfl
    have c1 := hc 1 _ rfl
    have c2 := hc 2 _ rfl
    have c3 := hc 3 _ rfl
    unfold artV at hy
    simp [go_sem, hx, hy, hu, hf, c0, c1, c2, c3]
theorem a_store71 {b : Nat} {old : Array Value} {X : Art} (H : Has n ds l a) (hg : wantB ops n l g = some true) (hx : lookO l x = some (.pointer (some ⟨b, 0, none⟩))) (hy : lookO l y = some (artV X)) (hb : w.heap[b]? = some (.cells old 71 (0, 0))) (hs : old.size = 4)
    (h : ∀ a' w', Has n ds l a' → w'.heap[b]? = some (.cells (artC X) 71 (0, 0)) → Mod (fun k => k = b) w w' → wpList Try.prog ops Q rest a' w') : wpList Try.prog ops Q (⟨none, .store 71 x y, t, ps, af, g⟩ :: rest) a w := by
  obtain ⟨w', h1, h2, h3⟩ := run_store71 (t := t) (ps := ps) (af := af) (g := g) X (H.evO hx) (H.evO hy) hb hs
  exact a_skip H hg h1 rfl fun a' H' => h a' w' H' h2 h3
theorem a_load71b {b : Nat} {X : Art} (H : Has n ds l a) (hg : wantB ops n l g = some true) (hx : lookO l x = some (.pointer (some ⟨b, 0, none⟩))) (hb : w.heap[b]? = some (.cells (artC X) 71 (0, 0)))
    (hd : Nat.ble (d + 1) n = true) (h : ∀ a', Has n ds ((d, artV X) :: l) a' → wpList Try.prog ops Q rest a' w) : wpList Try.prog ops Q (⟨some d, .load 71 x, t, ps, af, g⟩ :: rest) a w := by
  have hc : ∀ i u, (artC X)[i]? = some u → w.cell? ⟨b, i, none⟩ = some u := fun i u hu => by simp [World.cell?, hb, hu]
  exact a_load71 H hg hx (hc 0 _ rfl) (hc 1 _ rfl) (hc 2 _ rfl) (hc 3 _ rfl) hd h
theorem a_alloc71 (H : Has n ds l a) (hg : wantB ops n l g = some true) (hd : Nat.ble (d + 1) n = true) (h : ∀ a', Has n ds ((d, .pointer (some ⟨w.heap.size, 0, none⟩)) :: l) a' → wpList Try.prog ops Q rest a' (w.alloc (.cells (artC zeroArt) 71))) : wpList Try.prog ops Q (⟨some d, .alloc 71, t, ps, af, g⟩ :: rest) a w :=
  a_do H hg (by generalize a.eval = ev; simp [go_sem, artC, zeroArt]) rfl hd h
theorem a_zero71 (H : Has n ds l a) (hg : wantB ops n l g = some true) (hd : Nat.ble (d + 1) n = true) (h : ∀ a', Has n ds ((d, artV zeroArt) :: l) a' → wpList Try.prog ops Q rest a' w) : wpList Try.prog ops Q (⟨some d, .build 71 #[], t, ps, af, g⟩ :: rest) a w :=
  a_do H hg (by generalize a.eval = ev; simp [go_sem, artV, zeroArt]) rfl hd h
theorem a_neq71 {X Y : Art} {b : Bool} (H : Has n ds l a) (hg : wantB ops n l g = some true) (hx : lookO l x = some (artV X)) (hy : lookO l y = some (artV Y)) (hb : (!artEq X Y) = b) (hd : Nat.ble (d + 1) n = true) (h : ∀ a', Has n ds ((d, .bool b) :: l) a' → wpList Try.prog ops Q rest a' w) : wpList Try.prog ops Q (⟨some d, .binOp .neq 71 x y 71, t, ps, af, g⟩ :: rest) a w := by
  subst hb
  exact a_do H hg (by
    have hx := H.evO hx
    have hy := H.evO hy
    have hu := Try.underlying71
    unfold artV at hx hy
    generalize a.eval = ev at hx hy
    simp [go_sem, hx, hy, hu, artEq]
    by_cases h1 : X.num = Y.num <;> by_cases h2 : X.since = Y.since <;> by_cases h3 : X.least = Y.least <;> by_cases h4 : X.most = Y.most <;> simp [h1, h2, h3, h4]) rfl hd h
end
theorem artEq_self (X : Art) : artEq X X = true := by simp [artEq]
/-- an article's box among results -/
theorem art_result {fn : Func} {s s' : Nat} (hr : fn.results = #[.cell s 71, .tmp s']) (tm : Array Value) (W : World) (b : Nat) (u : Value) (X : Art) (h6 : tm.getD s undef = .pointer (some ⟨b, 0, none⟩)) (h7 : tm.getD s' undef = u) (hb : W.heap[b]? = some (.cells (artC X) 71 (0, 0))) :
    (results fn tm).run Try.prog W = .ok (.tuple #[artV X, u]) W := by
  have hc : ∀ i u, (artC X)[i]? = some u → W.cell? ⟨b, i, none⟩ = some u := fun i u hu => by simp [World.cell?, hb, hu]
  have c0 := hc 0 _ rfl
  have c1 := hc 1 _ rfl
  have c2 := hc 2 _ rfl
  have c3 := hc 3 _ rfl
  have hu := Try.underlying71
  simp only [Array.getD_eq_getD_getElem?] at h6 h7
  simp [results, hr, go_sem, h6, h7, hu, c0, c1, c2, c3, artV]
  exact ⟨rfl, rfl, rfl, rfl⟩
end Go.Proofs.Ytpadgcomncljmaa.A
/- The version of an article: as the program says it, as the reference says it. -/
namespace Go.Proofs.Ytpadgcomncljmaa.A
open Go.RowKit
theorem a_load33b {ops : Array Oper} {Q : Exit → Act → World → Prop} {a : Act} {w : World} {rest : List Oper} {n d : Nat} {ds : List Deferred} {l : List (Nat × Value)} {t : TypeId} {ps : String} {af : Array Edge} {g : Option (Nat × Bool)} {x : Operand} {b : Nat} {v0 v1 v2 v3 v4 v5 : Value} (H : Has n ds l a) (hg : wantB ops n l g = some true) (hx : lookO l x = some (.pointer (some ⟨b, 0, none⟩))) (hb : w.heap[b]? = some (.cells #[v0, v1, v2, v3, v4, v5] 33 (0, 0)))
    (hd : Nat.ble (d + 1) n = true) (h : ∀ a', Has n ds ((d, .agg #[v0, v1, v2, v3, v4, v5]) :: l) a' → wpList Try.prog ops Q rest a' w) : wpList Try.prog ops Q (⟨some d, .load 33 x, t, ps, af, g⟩ :: rest) a w := by
  have hc : ∀ i u, (#[v0, v1, v2, v3, v4, v5] : Array Value)[i]? = some u → w.cell? ⟨b, i, none⟩ = some u := fun i u hu => by simp [World.cell?, hb, hu]
  exact a_load33 H hg hx (hc 0 _ rfl) (hc 1 _ rfl) (hc 2 _ rfl) (hc 3 _ rfl) (hc 4 _ rfl) (hc 5 _ rfl) hd h
def artAt (l : List Art) (i : Int) : Art := l[i.toNat]?.getD zeroArt
/-- the last version that fits -/
def verStepO (a m : Int) (r : Option Art) (x : Art) : Option Art := if x.num = a ∧ x.since ≤ m then some x else r
def verO (l : List Art) (a m : Int) : Option Art := l.foldl (verStepO a m) none
theorem verO_snoc (l : List Art) (x : Art) (a m : Int) : verO (l ++ [x]) a m = verStepO a m (verO l a m) x := by simp [verO]
theorem verO_at (a m : Int) : ∀ l : List Art, verO l a m = if 0 ≤ verAt l a m then some (artAt l (verAt l a m)) else none := by
  have key : ∀ n (l : List Art), l.length = n → verO l a m = if 0 ≤ verAt l a m then some (artAt l (verAt l a m)) else none := by
    intro n
    induction n with
    | zero => intro l hl; obtain rfl : l = [] := List.eq_nil_of_length_eq_zero hl; simp [verO, verAt]
    | succ n ih =>
      intro l hl
      obtain ⟨l', x, rfl⟩ : ∃ l' x, l = l' ++ [x] := ⟨l.dropLast, l.getLast (by intro h; subst h; simp at hl), (List.dropLast_concat_getLast _).symm⟩
      have hl' : l'.length = n := by simpa using hl
      rw [verO_snoc, verAt_snoc, ih l' hl']
      unfold verStepO verStep
      by_cases hx : x.num = a ∧ x.since ≤ m
      · rw [if_pos hx, if_pos hx]
        simp [artAt]
      · rw [if_neg hx, if_neg hx]
        by_cases h0 : 0 ≤ verAt l' a m
        · rw [if_pos h0, if_pos h0]
          have := (verAt_lt l' a m).1
          unfold artAt
          rw [List.getElem?_append_left (by omega)]
        · rw [if_neg h0, if_neg h0]
  exact fun l => key _ l rfl
set_option maxHeartbeats 4000000 in
set_option maxRecDepth 100000 in
theorem refVersion_any (C : CodeL) (A : Option Addr) (c : Nat) (art min : Int) (w : World) (hl : RArt Any w A C.arts) (hn : C.arts.length ≤ 1000000) :
    Calls Try.prog 40 #[.agg #[.int .i64 C.cars, .slice A C.arts.length c, .int .i64 C.win, .int .i64 C.sec, .int .i64 C.fee, .int .i64 C.price], .int .i64 art, .int .i64 min] w fun e w' => e = .returned (.tuple #[artV ((verO C.arts art min).getD zeroArt), .bool (verO C.arts art min).isSome]) ∧ Below w.heap.size w w' := by
  have HL := Aside.mk hl
  clear hl
  have hb3 := at3 (w := w) (o1 := .cells #[.int .i64 C.cars, .slice A C.arts.length c, .int .i64 C.win, .int .i64 C.sec, .int .i64 C.fee, .int .i64 C.price] 33) (o2 := .cells (artC zeroArt) 71) (o3 := .cells (artC zeroArt) 71)
  have hBel : Below w.heap.size w (((w.alloc (.cells #[.int .i64 C.cars, .slice A C.arts.length c, .int .i64 C.win, .int .i64 C.sec, .int .i64 C.fee, .int .i64 C.price] 33)).alloc (.cells (artC zeroArt) 71)).alloc (.cells (artC zeroArt) 71)) := bel_alloc (bel_alloc (bel_alloc (Below.refl _ _) _) _) _
  have hsz0 : (((w.alloc (.cells #[.int .i64 C.cars, .slice A C.arts.length c, .int .i64 C.win, .int .i64 C.sec, .int .i64 C.fee, .int .i64 C.price] 33)).alloc (.cells (artC zeroArt) 71)).alloc (.cells (artC zeroArt) 71)).heap.size = w.heap.size + 3 := by simp
  go_enter Try.func40, Try.ntmps40
  refine wp_abs (n := 37) (ds := []) (l := [(0, .agg #[.int .i64 C.cars, .slice A C.arts.length c, .int .i64 C.win, .int .i64 C.sec, .int .i64 C.fee, .int .i64 C.price]), (1, .int .i64 art), (2, .int .i64 min)]) ?_ ?_
  · refine (((Has.nil ?_ ?_).cons ?_).cons ?_).cons ?_
    all_goals first | rfl | (simp [Act.eval]; done)
  intro _ hf
  refine wp_seq_k ?_
  intro _ _
  refine wp_region_lit ?_
  refine a_box hf rfl rfl rfl rfl ?_; clear hf; intro _ hf
  refine a_alloc71 hf rfl rfl ?_; clear hf; intro _ hf
  refine a_assign hf rfl rfl rfl ?_; clear hf; intro _ hf
  refine wpList_nil ?_
  simp only [Exit.then, Exit.inBlock]
  go_step
  refine wp_seq_k ?_
  intro _ _
  refine wp_region_lit ?_
  refine a_alloc71 hf rfl rfl ?_; clear hf; intro _ hf
  refine wpList_nil ?_
  simp only [Exit.then, Exit.inBlock]
  go_step
  change Code.wp _ _ _ _ (((w.alloc (.cells #[.int .i64 C.cars, .slice A C.arts.length c, .int .i64 C.win, .int .i64 C.sec, .int .i64 C.fee, .int .i64 C.price] 33)).alloc (.cells (artC zeroArt) 71)).alloc (.cells (artC zeroArt) 71))
  replace hf : Has 37 [] [(8, .pointer (some ⟨w.heap.size + 2, 0, none⟩)), (6, .pointer (some ⟨w.heap.size + 1, 0, none⟩)), (3, .pointer (some ⟨w.heap.size, 0, none⟩)), (1, .int .i64 art), (2, .int .i64 min)] _ := ((((hf.nilOf.cons (hf.at_ 2 _ rfl)).cons (hf.at_ 1 _ rfl)).cons (hf.at_ 3 _ rfl)).cons (d := 6) ((hf.at_ 6 _ rfl).trans (by simp))).cons (d := 8) ((hf.at_ 8 _ rfl).trans (by simp))
  generalize (((w.alloc (.cells #[.int .i64 C.cars, .slice A C.arts.length c, .int .i64 C.win, .int .i64 C.sec, .int .i64 C.fee, .int .i64 C.price] 33)).alloc (.cells (artC zeroArt) 71)).alloc (.cells (artC zeroArt) 71)) = W0 at *
  refine wp_seq_k ?_
  intro _ _
  refine wp_region_lit ?_
  refine a_assign hf rfl rfl rfl ?_; clear hf; intro _ hf
  refine wpList_nil ?_
  simp only [Exit.then, Exit.inBlock]
  go_step
  refine wp_seq_k ?_
  intro _ _
  refine wp_seq_k ?_
  intro _ _
  refine wp_region_lit ?_
  refine a_assign hf rfl rfl rfl ?_; clear hf; intro _ hf
  refine wpList_nil ?_
  simp only [Exit.then, Exit.inBlock]
  go_step
  refine wp_block ?_
  refine wp_loop_ghost (fun m fr wr => ∃ (k : Nat) (r : Option Art), k ≤ C.arts.length ∧ m = C.arts.length - k ∧ Has 37 [] [(10, .int .i64 (k : Int)), (9, .bool r.isSome), (8, .pointer (some ⟨w.heap.size + 2, 0, none⟩)), (6, .pointer (some ⟨w.heap.size + 1, 0, none⟩)), (3, .pointer (some ⟨w.heap.size, 0, none⟩)), (1, .int .i64 art), (2, .int .i64 min)] fr ∧ Aside (r = verO (C.arts.take k) art min) ∧ wr.heap[w.heap.size + 2]? = some (.cells (artC (r.getD zeroArt)) 71 (0, 0)) ∧ wr.heap[w.heap.size + 1]? = some (.cells (artC zeroArt) 71 (0, 0)) ∧ wr.heap[w.heap.size]? = some (.cells #[.int .i64 C.cars, .slice A C.arts.length c, .int .i64 C.win, .int .i64 C.sec, .int .i64 C.fee, .int .i64 C.price] 33 (0, 0)) ∧ Below w.heap.size w wr) C.arts.length ?_ ?_
  · exact ⟨0, none, Nat.zero_le _, rfl, ((((((((hf.nilOf).cons (d := 2) (hf.at_ 2 _ rfl)).cons (d := 1) (hf.at_ 1 _ rfl)).cons (d := 3) (hf.at_ 3 _ rfl)).cons (d := 6) (hf.at_ 6 _ rfl)).cons (d := 8) (hf.at_ 8 _ rfl)).cons (d := 9) (hf.at_ 9 _ rfl)).cons (d := 10) (hf.at_ 10 _ rfl)), ⟨rfl⟩, hb3.2.2, hb3.2.1, hb3.1, hBel⟩
  clear hb3 hBel hf
  rintro m fr wr ⟨k, r, hk', rfl, hf, HR, h8, h6, h3, hB⟩
  by_cases hlt : k < C.arts.length
  · obtain ⟨x, hx⟩ := get_some hlt
    have HX := Aside.mk (show verO (C.arts.take (k + 1)) art min = verStepO art min r x by rw [drop_snoc hx, verO_snoc, HR.out])
    obtain ⟨ad, hA, _, k0, k1, k2, k3⟩ := (HL.out.below hB) k x hx
    subst hA
    have h3c := blk_cell h3 1 (v := .slice (some ad) C.arts.length c) rfl
    have hzs := blk_lt h8
    clear hx
    refine wp_seq_k ?_
    intro _ _
    refine wp_seq_k ?_
    intro _ _
    refine wp_region_lit ?_
    refine a_move hf rfl rfl rfl ?_; clear hf; intro _ hf
    refine a_field hf rfl rfl rfl rfl ?_; clear hf; intro _ hf
    refine a_load hf rfl rfl rfl (by exact h3c) rfl ?_; clear hf; intro _ hf
    refine a_len hf rfl rfl rfl rfl ?_; clear hf; intro _ hf
    refine a_cmp (b := true) hf rfl rfl rfl rfl rfl (by first | assumption | ((try dsimp only); simp only [decide_eq_true_eq, decide_eq_false_iff_not, beq_iff_eq, bne_iff_ne, beq_eq_false_iff_ne, bne_eq_false_iff_eq, ne_eq] <;> omega)) rfl ?_; clear hf; intro _ hf
    refine wpList_nil ?_
    simp only [Exit.then, Exit.inBlock]
    go_step
    refine c_condT hf rfl ?_
    refine wp_skip ?_
    simp only [Exit.then]
    go_step
    refine wp_seq_k ?_
    intro _ _
    refine wp_block ?_
    refine wp_seq_k ?_
    intro _ _
    refine wp_region_lit ?_
    refine a_field hf rfl rfl rfl rfl ?_; clear hf; intro _ hf
    refine a_load hf rfl rfl rfl (by exact h3c) rfl ?_; clear hf; intro _ hf
    refine a_move hf rfl rfl rfl ?_; clear hf; intro _ hf
    refine a_index (j := k) hf rfl rfl rfl rfl (by first | rfl | omega) (by omega) rfl ?_; clear hf; intro _ hf
    refine a_load71 hf rfl rfl (by exact k0) (by exact k1) (by exact k2) (by exact k3) rfl ?_; clear hf; intro _ hf
    refine a_alloc71 hf rfl rfl ?_; clear hf; intro _ hf
    refine a_store71 (X := x) hf rfl rfl rfl (heap_alloc_new wr _) rfl ?_; clear hf; intro _ w2 hf hA hM
    refine wpList_nil ?_
    simp only [Exit.then, Exit.inBlock]
    go_step
    have hb2 : Below wr.heap.size wr w2 := bel_modG (bel_alloc (Below.refl _ _) _) hM (Nat.le_refl _)
    have h8' := (hb2.block _ hzs).trans h8
    have h6' := (hb2.block _ (blk_lt h6)).trans h6
    have h3' := (hb2.block _ (blk_lt h3)).trans h3
    have hB2 := bel_then hB hb2
    clear hM hb2 h8 h6 h3 k0 k1 k2 k3 h3c
    refine wp_seq_k ?_
    intro _ _
    by_cases hnum : x.num = art
    rotate_left
    · have hv : r = verStepO art min r x := by unfold verStepO; rw [if_neg (fun h => hnum h.1)]
      refine wp_region_lit ?_
      refine a_field hf rfl rfl rfl rfl ?_; clear hf; intro _ hf
      refine a_load hf rfl rfl rfl (by exact blk_cell hA 0) rfl ?_; clear hf; intro _ hf
      refine a_move hf rfl rfl rfl ?_; clear hf; intro _ hf
      refine a_cmp (b := false) hf rfl rfl rfl rfl rfl (by first | assumption | ((try dsimp only); simp only [decide_eq_true_eq, decide_eq_false_iff_not, beq_iff_eq, bne_iff_ne, beq_eq_false_iff_ne, bne_eq_false_iff_eq, ne_eq] <;> omega)) rfl ?_; clear hf; intro _ hf
      refine a_move hf rfl rfl rfl ?_; clear hf; intro _ hf
      (first | refine a_not hf rfl rfl rfl ?_ | refine a_field hf rfl rfl rfl rfl ?_); clear hf; intro _ hf
      (first | refine a_not hf rfl rfl rfl ?_ | refine a_load hf rfl rfl rfl (by exact blk_cell hA 1) rfl ?_); clear hf; intro _ hf
      (first | refine a_not hf rfl rfl rfl ?_ | refine a_move hf rfl rfl rfl ?_); clear hf; intro _ hf
      (first | refine a_not hf rfl rfl rfl ?_ | refine a_cmp hf rfl rfl rfl rfl rfl rfl rfl ?_); clear hf; intro _ hf
      (first | refine a_pickT hf rfl rfl rfl rfl ?_ | refine a_pickF hf rfl rfl rfl rfl ?_); clear hf; intro _ hf
      refine wpList_nil ?_
      simp only [Exit.then, Exit.inBlock]
      go_step
      refine c_condF hf rfl ?_
      refine wp_skip ?_
      simp only [Exit.then, Exit.inBlock]
      go_step
      refine wp_region_lit ?_
      refine a_move hf rfl rfl rfl ?_; clear hf; intro _ hf
      refine a_ar hf rfl rfl rfl rfl (by (try dsimp only); omega) rfl ?_; clear hf; intro _ hf
      refine a_assign hf rfl rfl rfl ?_; clear hf; intro _ hf
      refine wpList_nil ?_
      simp only [Exit.then, Exit.inBlock]
      exact ⟨C.arts.length - (k + 1), by omega, k + 1, r, by omega, rfl, ((((((((hf.nilOf).cons (d := 2) (hf.at_ 2 _ rfl)).cons (d := 1) (hf.at_ 1 _ rfl)).cons (d := 3) (hf.at_ 3 _ rfl)).cons (d := 6) (hf.at_ 6 _ rfl)).cons (d := 8) (hf.at_ 8 _ rfl)).cons (d := 9) (hf.at_ 9 _ rfl)).cons (d := 10) (hf.at_ 10 _ rfl)), ⟨by rw [HX.out]; exact hv⟩, h8', h6', h3', hB2⟩
    by_cases hmin : x.since ≤ min
    rotate_left
    · have hv : r = verStepO art min r x := by unfold verStepO; rw [if_neg (fun h => hmin h.2)]
      refine wp_region_lit ?_
      refine a_field hf rfl rfl rfl rfl ?_; clear hf; intro _ hf
      refine a_load hf rfl rfl rfl (by exact blk_cell hA 0) rfl ?_; clear hf; intro _ hf
      refine a_move hf rfl rfl rfl ?_; clear hf; intro _ hf
      refine a_cmp (b := true) hf rfl rfl rfl rfl rfl (by first | assumption | ((try dsimp only); simp only [decide_eq_true_eq, decide_eq_false_iff_not, beq_iff_eq, bne_iff_ne, beq_eq_false_iff_ne, bne_eq_false_iff_eq, ne_eq] <;> omega)) rfl ?_; clear hf; intro _ hf
      refine a_move hf rfl rfl rfl ?_; clear hf; intro _ hf
      (first | refine a_not hf rfl rfl rfl ?_ | refine a_field hf rfl rfl rfl rfl ?_); clear hf; intro _ hf
      (first | refine a_not hf rfl rfl rfl ?_ | refine a_load hf rfl rfl rfl (by exact blk_cell hA 1) rfl ?_); clear hf; intro _ hf
      (first | refine a_not hf rfl rfl rfl ?_ | refine a_move hf rfl rfl rfl ?_); clear hf; intro _ hf
      (first | refine a_not hf rfl rfl rfl ?_ | refine a_cmp (b := false) hf rfl rfl rfl rfl rfl (by first | assumption | ((try dsimp only); simp only [decide_eq_true_eq, decide_eq_false_iff_not, beq_iff_eq, bne_iff_ne, beq_eq_false_iff_ne, bne_eq_false_iff_eq, ne_eq] <;> omega)) rfl ?_); clear hf; intro _ hf
      (first | refine a_pickT hf rfl rfl rfl rfl ?_ | refine a_pickF hf rfl rfl rfl rfl ?_); clear hf; intro _ hf
      refine wpList_nil ?_
      simp only [Exit.then, Exit.inBlock]
      go_step
      refine c_condF hf rfl ?_
      refine wp_skip ?_
      simp only [Exit.then, Exit.inBlock]
      go_step
      refine wp_region_lit ?_
      refine a_move hf rfl rfl rfl ?_; clear hf; intro _ hf
      refine a_ar hf rfl rfl rfl rfl (by (try dsimp only); omega) rfl ?_; clear hf; intro _ hf
      refine a_assign hf rfl rfl rfl ?_; clear hf; intro _ hf
      refine wpList_nil ?_
      simp only [Exit.then, Exit.inBlock]
      exact ⟨C.arts.length - (k + 1), by omega, k + 1, r, by omega, rfl, ((((((((hf.nilOf).cons (d := 2) (hf.at_ 2 _ rfl)).cons (d := 1) (hf.at_ 1 _ rfl)).cons (d := 3) (hf.at_ 3 _ rfl)).cons (d := 6) (hf.at_ 6 _ rfl)).cons (d := 8) (hf.at_ 8 _ rfl)).cons (d := 9) (hf.at_ 9 _ rfl)).cons (d := 10) (hf.at_ 10 _ rfl)), ⟨by rw [HX.out]; exact hv⟩, h8', h6', h3', hB2⟩
    have hv : some x = verStepO art min r x := by unfold verStepO; rw [if_pos ⟨hnum, hmin⟩]
    refine wp_region_lit ?_
    refine a_field hf rfl rfl rfl rfl ?_; clear hf; intro _ hf
    refine a_load hf rfl rfl rfl (by exact blk_cell hA 0) rfl ?_; clear hf; intro _ hf
    refine a_move hf rfl rfl rfl ?_; clear hf; intro _ hf
    refine a_cmp (b := true) hf rfl rfl rfl rfl rfl (by first | assumption | ((try dsimp only); simp only [decide_eq_true_eq, decide_eq_false_iff_not, beq_iff_eq, bne_iff_ne, beq_eq_false_iff_ne, bne_eq_false_iff_eq, ne_eq] <;> omega)) rfl ?_; clear hf; intro _ hf
    refine a_move hf rfl rfl rfl ?_; clear hf; intro _ hf
    (first | refine a_not hf rfl rfl rfl ?_ | refine a_field hf rfl rfl rfl rfl ?_); clear hf; intro _ hf
    (first | refine a_not hf rfl rfl rfl ?_ | refine a_load hf rfl rfl rfl (by exact blk_cell hA 1) rfl ?_); clear hf; intro _ hf
    (first | refine a_not hf rfl rfl rfl ?_ | refine a_move hf rfl rfl rfl ?_); clear hf; intro _ hf
    (first | refine a_not hf rfl rfl rfl ?_ | refine a_cmp (b := true) hf rfl rfl rfl rfl rfl (by first | assumption | ((try dsimp only); simp only [decide_eq_true_eq, decide_eq_false_iff_not, beq_iff_eq, bne_iff_ne, beq_eq_false_iff_ne, bne_eq_false_iff_eq, ne_eq] <;> omega)) rfl ?_); clear hf; intro _ hf
    (first | refine a_pickT hf rfl rfl rfl rfl ?_ | refine a_pickF hf rfl rfl rfl rfl ?_); clear hf; intro _ hf
    refine wpList_nil ?_
    simp only [Exit.then, Exit.inBlock]
    go_step
    refine c_condT hf rfl ?_
    refine wp_region_lit ?_
    refine a_load71b hf rfl rfl (by exact hA) rfl ?_; clear hf; intro _ hf
    refine a_store71 (X := x) hf rfl rfl rfl h8' rfl ?_; clear hf; intro _ w3 hf hA3 hM3
    refine a_assign hf rfl rfl rfl ?_; clear hf; intro _ hf
    refine wpList_nil ?_
    simp only [Exit.then, Exit.inBlock]
    have hB3 := bel_modG hB2 hM3 (by omega)
    go_step
    refine wp_region_lit ?_
    refine a_move hf rfl rfl rfl ?_; clear hf; intro _ hf
    refine a_ar hf rfl rfl rfl rfl (by (try dsimp only); omega) rfl ?_; clear hf; intro _ hf
    refine a_assign hf rfl rfl rfl ?_; clear hf; intro _ hf
    refine wpList_nil ?_
    simp only [Exit.then, Exit.inBlock]
    exact ⟨C.arts.length - (k + 1), by omega, k + 1, some x, by omega, rfl, ((((((((hf.nilOf).cons (d := 2) (hf.at_ 2 _ rfl)).cons (d := 1) (hf.at_ 1 _ rfl)).cons (d := 3) (hf.at_ 3 _ rfl)).cons (d := 6) (hf.at_ 6 _ rfl)).cons (d := 8) (hf.at_ 8 _ rfl)).cons (d := 9) (hf.at_ 9 _ rfl)).cons (d := 10) (hf.at_ 10 _ rfl)), ⟨by rw [HX.out]; exact hv⟩, hA3, (hM3.block _ (blk_lt h6') (by omega)).trans h6', (hM3.block _ (blk_lt h3') (by omega)).trans h3', hB3⟩
  · have hke : k = C.arts.length := by omega
    have HE := Aside.mk (show r = verO C.arts art min by have := HR.out; rwa [hke, List.take_length] at this)
    have h3c := blk_cell h3 1 (v := .slice A C.arts.length c) rfl
    refine wp_seq_k ?_
    intro _ _
    refine wp_seq_k ?_
    intro _ _
    refine wp_region_lit ?_
    refine a_move hf rfl rfl rfl ?_; clear hf; intro _ hf
    refine a_field hf rfl rfl rfl rfl ?_; clear hf; intro _ hf
    refine a_load hf rfl rfl rfl (by exact h3c) rfl ?_; clear hf; intro _ hf
    refine a_len hf rfl rfl rfl rfl ?_; clear hf; intro _ hf
    refine a_cmp (b := false) hf rfl rfl rfl rfl rfl (by first | assumption | ((try dsimp only); simp only [decide_eq_true_eq, decide_eq_false_iff_not, beq_iff_eq, bne_iff_ne, beq_eq_false_iff_ne, bne_eq_false_iff_eq, ne_eq] <;> omega)) rfl ?_; clear hf; intro _ hf
    refine wpList_nil ?_
    simp only [Exit.then, Exit.inBlock]
    go_step
    refine c_condF hf rfl ?_
    refine wp_exit ?_
    simp only [Exit.then, Exit.inBlock, ↓reduceIte]
    go_step
    refine wp_seq_k ?_
    intro _ _
    refine wp_region_lit ?_
    refine a_load71b hf rfl rfl (by exact h8) rfl ?_; clear hf; intro _ hf
    refine a_move hf rfl rfl rfl ?_; clear hf; intro _ hf
    refine a_store71 (X := r.getD zeroArt) hf rfl rfl rfl h6 rfl ?_; clear hf; intro _ w3 hf hA3 hM3
    refine a_assign hf rfl rfl rfl ?_; clear hf; intro _ hf
    refine wpList_nil ?_
    simp only [Exit.then, Exit.inBlock]
    go_step
    refine wp_ret ?_
    refine bodyPost_ret (art_result rfl _ _ _ (.bool r.isSome) (r.getD zeroArt) (hf.at_ 6 _ rfl) (hf.at_ 7 _ rfl) hA3) hf.defers ⟨ret_eq ?_, bel_modG hB hM3 (by omega)⟩
    rw [HE.out]
/-- what Version answers -/
def versionR (C : CodeL) (art min : Int) : Art × Int :=
  if codeOk C && inB art 1 10000 && inB min 0 10000000 then (match verO C.arts art min with | some x => (x, 0) | none => (zeroArt, 5)) else (zeroArt, 2)
theorem check_code (C : CodeL) (A : Option Addr) (c : Nat) (k : Int) (hb : (if codeOk C then 0 else 2) = k) (w : World) (hl : RArt Any w A C.arts) (hn : C.arts.length ≤ 1000000) :
    Calls Try.prog 41 #[.agg #[.int .i64 C.cars, .slice A C.arts.length c, .int .i64 C.win, .int .i64 C.sec, .int .i64 C.fee, .int .i64 C.price]] w fun e w' => e = .returned (.int .i64 k) ∧ Below w.heap.size w w' := by
  subst hb
  exact check_any C.cars C.win C.sec C.fee C.price A c C.arts w hl hn
set_option maxHeartbeats 4000000 in
set_option maxRecDepth 100000 in
theorem version39_any (C : CodeL) (A : Option Addr) (c : Nat) (art min : Int) (w : World) (hl : RArt Any w A C.arts) (hn : C.arts.length ≤ 1000000) :
    Calls Try.prog 39 #[.agg #[.int .i64 C.cars, .slice A C.arts.length c, .int .i64 C.win, .int .i64 C.sec, .int .i64 C.fee, .int .i64 C.price], .int .i64 art, .int .i64 min] w fun e w' => e = .returned (.tuple #[artV (versionR C art min).1, .int .i64 (versionR C art min).2]) ∧ Below w.heap.size w w' := by
  have HL := Aside.mk hl
  clear hl
  have hb2 := at3 (w := w) (o1 := .cells #[.int .i64 C.cars, .slice A C.arts.length c, .int .i64 C.win, .int .i64 C.sec, .int .i64 C.fee, .int .i64 C.price] 33) (o2 := .cells (artC zeroArt) 71) (o3 := .cells (artC zeroArt) 71)
  have h3 : ((w.alloc (.cells #[.int .i64 C.cars, .slice A C.arts.length c, .int .i64 C.win, .int .i64 C.sec, .int .i64 C.fee, .int .i64 C.price] 33)).alloc (.cells (artC zeroArt) 71)).heap[w.heap.size]? = some (.cells #[.int .i64 C.cars, .slice A C.arts.length c, .int .i64 C.win, .int .i64 C.sec, .int .i64 C.fee, .int .i64 C.price] 33 (0, 0)) := (Below.heap_alloc _ _ _ (by simp)).trans (heap_alloc_new w _)
  have h6 : ((w.alloc (.cells #[.int .i64 C.cars, .slice A C.arts.length c, .int .i64 C.win, .int .i64 C.sec, .int .i64 C.fee, .int .i64 C.price] 33)).alloc (.cells (artC zeroArt) 71)).heap[w.heap.size + 1]? = some (.cells (artC zeroArt) 71 (0, 0)) := new_at (by simp)
  have hB : Below w.heap.size w ((w.alloc (.cells #[.int .i64 C.cars, .slice A C.arts.length c, .int .i64 C.win, .int .i64 C.sec, .int .i64 C.fee, .int .i64 C.price] 33)).alloc (.cells (artC zeroArt) 71)) := bel_alloc (bel_alloc (Below.refl _ _) _) _
  clear hb2
  go_enter Try.func39, Try.ntmps39
  refine wp_abs (n := 39) (ds := []) (l := [(0, .agg #[.int .i64 C.cars, .slice A C.arts.length c, .int .i64 C.win, .int .i64 C.sec, .int .i64 C.fee, .int .i64 C.price]), (1, .int .i64 art), (2, .int .i64 min)]) ?_ ?_
  · refine (((Has.nil ?_ ?_).cons ?_).cons ?_).cons ?_
    all_goals first | rfl | (simp [Act.eval]; done)
  intro _ hf
  refine wp_seq_k ?_
  intro _ _
  refine wp_region_lit ?_
  refine a_box hf rfl rfl rfl rfl ?_; clear hf; intro _ hf
  refine a_alloc71 hf rfl rfl ?_; clear hf; intro _ hf
  refine a_assign hf rfl rfl rfl ?_; clear hf; intro _ hf
  refine wpList_nil ?_
  simp only [Exit.then, Exit.inBlock]
  go_step
  change Code.wp _ _ _ _ ((w.alloc (.cells #[.int .i64 C.cars, .slice A C.arts.length c, .int .i64 C.win, .int .i64 C.sec, .int .i64 C.fee, .int .i64 C.price] 33)).alloc (.cells (artC zeroArt) 71))
  replace hf : Has 39 [] [(6, .pointer (some ⟨w.heap.size + 1, 0, none⟩)), (3, .pointer (some ⟨w.heap.size, 0, none⟩)), (1, .int .i64 art), (2, .int .i64 min)] _ := (((hf.nilOf.cons (hf.at_ 2 _ rfl)).cons (hf.at_ 1 _ rfl)).cons (hf.at_ 3 _ rfl)).cons (d := 6) ((hf.at_ 6 _ rfl).trans (by simp))
  generalize ((w.alloc (.cells #[.int .i64 C.cars, .slice A C.arts.length c, .int .i64 C.win, .int .i64 C.sec, .int .i64 C.fee, .int .i64 C.price] 33)).alloc (.cells (artC zeroArt) 71)) = W0 at *
  cases hcode : codeOk C with
  | false =>
    have HE := Aside.mk (show versionR C art min = (zeroArt, 2) by simp [versionR, *])
    refine wp_seq_k ?_
    intro _ _
    refine wp_seq_k ?_
    intro _ _
    refine wp_region_lit ?_
    refine a_load33b hf rfl rfl (by exact h3) rfl ?_; clear hf; intro _ hf
    refine a_call1 hf e41 rfl rfl rfl ?_; clear hf; refine (check_code C A c 2 (by rw [hcode]; rfl) _ (HL.out.below hB) hn).mono ?_; rintro _ w1 ⟨rfl, hb⟩; replace hB := bel_then hB hb; replace h3 := (hb.block _ (blk_lt h3)).trans h3; replace h6 := (hb.block _ (blk_lt h6)).trans h6; clear hb; intro _ hf
    refine a_cmp (b := true) hf rfl rfl rfl rfl rfl (by first | assumption | ((try dsimp only); simp only [decide_eq_true_eq, decide_eq_false_iff_not, beq_iff_eq, bne_iff_ne, beq_eq_false_iff_ne, bne_eq_false_iff_eq, ne_eq] <;> omega)) rfl ?_; clear hf; intro _ hf
    refine a_move hf rfl rfl rfl ?_; clear hf; intro _ hf
    (first | refine a_not hf rfl rfl rfl ?_ | refine a_move hf rfl rfl rfl ?_); clear hf; intro _ hf
    refine a_not hf rfl rfl rfl ?_; clear hf; intro _ hf
    (first | refine a_not hf rfl rfl rfl ?_ | refine a_not_ hf rfl rfl rfl ?_); clear hf; intro _ hf
    (first | refine a_pickT hf rfl rfl rfl rfl ?_ | refine a_pickF hf rfl rfl rfl rfl ?_); clear hf; intro _ hf
    refine a_move hf rfl rfl rfl ?_; clear hf; intro _ hf
    (first | refine a_not hf rfl rfl rfl ?_ | refine a_move hf rfl rfl rfl ?_); clear hf; intro _ hf
    refine a_not hf rfl rfl rfl ?_; clear hf; intro _ hf
    (first | refine a_not hf rfl rfl rfl ?_ | refine a_not_ hf rfl rfl rfl ?_); clear hf; intro _ hf
    (first | refine a_pickT hf rfl rfl rfl rfl ?_ | refine a_pickF hf rfl rfl rfl rfl ?_); clear hf; intro _ hf
    refine wpList_nil ?_
    simp only [Exit.then, Exit.inBlock]
    go_step
    refine c_condT hf rfl ?_
    refine wp_seq_k ?_
    intro _ _
    refine wp_region_lit ?_
    refine a_zero71 hf rfl rfl ?_; clear hf; intro _ hf
    refine a_store71 (X := zeroArt) hf rfl rfl rfl h6 rfl ?_; clear hf; intro _ w3 hf hA3 hM3
    refine a_assign hf rfl rfl rfl ?_; clear hf; intro _ hf
    refine wpList_nil ?_
    simp only [Exit.then, Exit.inBlock]
    go_step
    refine wp_ret ?_
    try simp only [Exit.then]
    refine bodyPost_ret (art_result rfl _ _ _ (.int .i64 2) zeroArt (hf.at_ 6 _ rfl) (hf.at_ 7 _ rfl) hA3) hf.defers ⟨ret_eq ?_, bel_modG hB hM3 (by omega)⟩
    rw [HE.out]
  | true =>
  cases hart : inB art 1 10000 with
  | false =>
    have HE := Aside.mk (show versionR C art min = (zeroArt, 2) by simp [versionR, *])
    refine wp_seq_k ?_
    intro _ _
    refine wp_seq_k ?_
    intro _ _
    refine wp_region_lit ?_
    refine a_load33b hf rfl rfl (by exact h3) rfl ?_; clear hf; intro _ hf
    refine a_call1 hf e41 rfl rfl rfl ?_; clear hf; refine (check_code C A c 0 (by rw [hcode]; rfl) _ (HL.out.below hB) hn).mono ?_; rintro _ w1 ⟨rfl, hb⟩; replace hB := bel_then hB hb; replace h3 := (hb.block _ (blk_lt h3)).trans h3; replace h6 := (hb.block _ (blk_lt h6)).trans h6; clear hb; intro _ hf
    refine a_cmp (b := false) hf rfl rfl rfl rfl rfl (by first | assumption | ((try dsimp only); simp only [decide_eq_true_eq, decide_eq_false_iff_not, beq_iff_eq, bne_iff_ne, beq_eq_false_iff_ne, bne_eq_false_iff_eq, ne_eq] <;> omega)) rfl ?_; clear hf; intro _ hf
    refine a_move hf rfl rfl rfl ?_; clear hf; intro _ hf
    (first | refine a_not hf rfl rfl rfl ?_ | refine a_move hf rfl rfl rfl ?_); clear hf; intro _ hf
    refine a_call3 hf e52 rfl rfl rfl rfl rfl ?_; clear hf; refine (within_as art 1 10000 false hart _).mono ?_; rintro _ _ ⟨rfl, rfl⟩; intro _ hf
    (first | refine a_not hf rfl rfl rfl ?_ | refine a_not_ hf rfl rfl rfl ?_); clear hf; intro _ hf
    (first | refine a_pickT hf rfl rfl rfl rfl ?_ | refine a_pickF hf rfl rfl rfl rfl ?_); clear hf; intro _ hf
    refine a_move hf rfl rfl rfl ?_; clear hf; intro _ hf
    (first | refine a_not hf rfl rfl rfl ?_ | refine a_move hf rfl rfl rfl ?_); clear hf; intro _ hf
    refine a_not hf rfl rfl rfl ?_; clear hf; intro _ hf
    (first | refine a_not hf rfl rfl rfl ?_ | refine a_not_ hf rfl rfl rfl ?_); clear hf; intro _ hf
    (first | refine a_pickT hf rfl rfl rfl rfl ?_ | refine a_pickF hf rfl rfl rfl rfl ?_); clear hf; intro _ hf
    refine wpList_nil ?_
    simp only [Exit.then, Exit.inBlock]
    go_step
    refine c_condT hf rfl ?_
    refine wp_seq_k ?_
    intro _ _
    refine wp_region_lit ?_
    refine a_zero71 hf rfl rfl ?_; clear hf; intro _ hf
    refine a_store71 (X := zeroArt) hf rfl rfl rfl h6 rfl ?_; clear hf; intro _ w3 hf hA3 hM3
    refine a_assign hf rfl rfl rfl ?_; clear hf; intro _ hf
    refine wpList_nil ?_
    simp only [Exit.then, Exit.inBlock]
    go_step
    refine wp_ret ?_
    try simp only [Exit.then]
    refine bodyPost_ret (art_result rfl _ _ _ (.int .i64 2) zeroArt (hf.at_ 6 _ rfl) (hf.at_ 7 _ rfl) hA3) hf.defers ⟨ret_eq ?_, bel_modG hB hM3 (by omega)⟩
    rw [HE.out]
  | true =>
  cases hmin : inB min 0 10000000 with
  | false =>
    have HE := Aside.mk (show versionR C art min = (zeroArt, 2) by simp [versionR, *])
    refine wp_seq_k ?_
    intro _ _
    refine wp_seq_k ?_
    intro _ _
    refine wp_region_lit ?_
    refine a_load33b hf rfl rfl (by exact h3) rfl ?_; clear hf; intro _ hf
    refine a_call1 hf e41 rfl rfl rfl ?_; clear hf; refine (check_code C A c 0 (by rw [hcode]; rfl) _ (HL.out.below hB) hn).mono ?_; rintro _ w1 ⟨rfl, hb⟩; replace hB := bel_then hB hb; replace h3 := (hb.block _ (blk_lt h3)).trans h3; replace h6 := (hb.block _ (blk_lt h6)).trans h6; clear hb; intro _ hf
    refine a_cmp (b := false) hf rfl rfl rfl rfl rfl (by first | assumption | ((try dsimp only); simp only [decide_eq_true_eq, decide_eq_false_iff_not, beq_iff_eq, bne_iff_ne, beq_eq_false_iff_ne, bne_eq_false_iff_eq, ne_eq] <;> omega)) rfl ?_; clear hf; intro _ hf
    refine a_move hf rfl rfl rfl ?_; clear hf; intro _ hf
    (first | refine a_not hf rfl rfl rfl ?_ | refine a_move hf rfl rfl rfl ?_); clear hf; intro _ hf
    refine a_call3 hf e52 rfl rfl rfl rfl rfl ?_; clear hf; refine (within_as art 1 10000 true hart _).mono ?_; rintro _ _ ⟨rfl, rfl⟩; intro _ hf
    (first | refine a_not hf rfl rfl rfl ?_ | refine a_not_ hf rfl rfl rfl ?_); clear hf; intro _ hf
    (first | refine a_pickT hf rfl rfl rfl rfl ?_ | refine a_pickF hf rfl rfl rfl rfl ?_); clear hf; intro _ hf
    refine a_move hf rfl rfl rfl ?_; clear hf; intro _ hf
    (first | refine a_not hf rfl rfl rfl ?_ | refine a_move hf rfl rfl rfl ?_); clear hf; intro _ hf
    refine a_call3 hf e52 rfl rfl rfl rfl rfl ?_; clear hf; refine (within_as min 0 10000000 false hmin _).mono ?_; rintro _ _ ⟨rfl, rfl⟩; intro _ hf
    (first | refine a_not hf rfl rfl rfl ?_ | refine a_not_ hf rfl rfl rfl ?_); clear hf; intro _ hf
    (first | refine a_pickT hf rfl rfl rfl rfl ?_ | refine a_pickF hf rfl rfl rfl rfl ?_); clear hf; intro _ hf
    refine wpList_nil ?_
    simp only [Exit.then, Exit.inBlock]
    go_step
    refine c_condT hf rfl ?_
    refine wp_seq_k ?_
    intro _ _
    refine wp_region_lit ?_
    refine a_zero71 hf rfl rfl ?_; clear hf; intro _ hf
    refine a_store71 (X := zeroArt) hf rfl rfl rfl h6 rfl ?_; clear hf; intro _ w3 hf hA3 hM3
    refine a_assign hf rfl rfl rfl ?_; clear hf; intro _ hf
    refine wpList_nil ?_
    simp only [Exit.then, Exit.inBlock]
    go_step
    refine wp_ret ?_
    try simp only [Exit.then]
    refine bodyPost_ret (art_result rfl _ _ _ (.int .i64 2) zeroArt (hf.at_ 6 _ rfl) (hf.at_ 7 _ rfl) hA3) hf.defers ⟨ret_eq ?_, bel_modG hB hM3 (by omega)⟩
    rw [HE.out]
  | true =>
  refine wp_seq_k ?_
  intro _ _
  refine wp_seq_k ?_
  intro _ _
  refine wp_region_lit ?_
  refine a_load33b hf rfl rfl (by exact h3) rfl ?_; clear hf; intro _ hf
  refine a_call1 hf e41 rfl rfl rfl ?_; clear hf; refine (check_code C A c 0 (by rw [hcode]; rfl) _ (HL.out.below hB) hn).mono ?_; rintro _ w1 ⟨rfl, hb⟩; replace hB := bel_then hB hb; replace h3 := (hb.block _ (blk_lt h3)).trans h3; replace h6 := (hb.block _ (blk_lt h6)).trans h6; clear hb; intro _ hf
  refine a_cmp (b := false) hf rfl rfl rfl rfl rfl (by first | assumption | ((try dsimp only); simp only [decide_eq_true_eq, decide_eq_false_iff_not, beq_iff_eq, bne_iff_ne, beq_eq_false_iff_ne, bne_eq_false_iff_eq, ne_eq] <;> omega)) rfl ?_; clear hf; intro _ hf
  refine a_move hf rfl rfl rfl ?_; clear hf; intro _ hf
  (first | refine a_not hf rfl rfl rfl ?_ | refine a_move hf rfl rfl rfl ?_); clear hf; intro _ hf
  refine a_call3 hf e52 rfl rfl rfl rfl rfl ?_; clear hf; refine (within_as art 1 10000 true hart _).mono ?_; rintro _ _ ⟨rfl, rfl⟩; intro _ hf
  (first | refine a_not hf rfl rfl rfl ?_ | refine a_not_ hf rfl rfl rfl ?_); clear hf; intro _ hf
  (first | refine a_pickT hf rfl rfl rfl rfl ?_ | refine a_pickF hf rfl rfl rfl rfl ?_); clear hf; intro _ hf
  refine a_move hf rfl rfl rfl ?_; clear hf; intro _ hf
  (first | refine a_not hf rfl rfl rfl ?_ | refine a_move hf rfl rfl rfl ?_); clear hf; intro _ hf
  refine a_call3 hf e52 rfl rfl rfl rfl rfl ?_; clear hf; refine (within_as min 0 10000000 true hmin _).mono ?_; rintro _ _ ⟨rfl, rfl⟩; intro _ hf
  (first | refine a_not hf rfl rfl rfl ?_ | refine a_not_ hf rfl rfl rfl ?_); clear hf; intro _ hf
  (first | refine a_pickT hf rfl rfl rfl rfl ?_ | refine a_pickF hf rfl rfl rfl rfl ?_); clear hf; intro _ hf
  refine wpList_nil ?_
  simp only [Exit.then, Exit.inBlock]
  go_step
  refine c_condF hf rfl ?_
  refine wp_skip ?_
  simp only [Exit.then, Exit.inBlock]
  go_step
  refine wp_seq_k ?_
  intro _ _
  refine wp_region_lit ?_
  refine a_load33b hf rfl rfl (by exact h3) rfl ?_; clear hf; intro _ hf
  refine a_move hf rfl rfl rfl ?_; clear hf; intro _ hf
  refine a_move hf rfl rfl rfl ?_; clear hf; intro _ hf
  refine a_call3 hf e81 rfl rfl rfl rfl rfl ?_; clear hf; refine (version_any C.cars C.win C.sec C.fee C.price A c C.arts art min _ (HL.out.below hB) hn).mono ?_; rintro _ w1 ⟨rfl, hb⟩; replace hB := bel_then hB hb; replace h3 := (hb.block _ (blk_lt h3)).trans h3; replace h6 := (hb.block _ (blk_lt h6)).trans h6; clear hb; intro _ hf
  refine a_move hf rfl rfl rfl ?_; clear hf; intro _ hf
  refine a_extract hf rfl rfl rfl rfl ?_; clear hf; intro _ hf
  refine a_extract hf rfl rfl rfl rfl ?_; clear hf; intro _ hf
  refine a_assign hf rfl rfl rfl ?_; clear hf; intro _ hf
  refine a_assign hf rfl rfl rfl ?_; clear hf; intro _ hf
  refine wpList_nil ?_
  simp only [Exit.then, Exit.inBlock]
  go_step
  have hvo := verO_at art min C.arts
  by_cases hv : 0 ≤ verAt C.arts art min
  rotate_left
  · have hvd : decide (0 ≤ verAt C.arts art min) = false := by simpa using hv
    have HE := Aside.mk (show versionR C art min = (zeroArt, 5) by rw [if_neg hv] at hvo; unfold versionR; rw [hcode, hart, hmin, hvo]; rfl)
    replace hf := hf.cons (d := 9) (v := .bool false) ((hf.at_ 9 _ rfl).trans (by rw [hvd]; rfl))
    refine wp_seq_k ?_
    intro _ _
    refine wp_seq_k ?_
    intro _ _
    refine wp_region_lit ?_
    refine a_move hf rfl rfl rfl ?_; clear hf; intro _ hf
    refine a_not_ hf rfl rfl rfl ?_; clear hf; intro _ hf
    refine wpList_nil ?_
    simp only [Exit.then, Exit.inBlock]
    go_step
    refine c_condT hf rfl ?_
    refine wp_seq_k ?_
    intro _ _
    refine wp_region_lit ?_
    refine a_zero71 hf rfl rfl ?_; clear hf; intro _ hf
    refine a_store71 (X := zeroArt) hf rfl rfl rfl h6 rfl ?_; clear hf; intro _ w3 hf hA3 hM3
    refine a_assign hf rfl rfl rfl ?_; clear hf; intro _ hf
    refine wpList_nil ?_
    simp only [Exit.then, Exit.inBlock]
    go_step
    refine wp_ret ?_
    try simp only [Exit.then]
    refine bodyPost_ret (art_result rfl _ _ _ (.int .i64 5) zeroArt (hf.at_ 6 _ rfl) (hf.at_ 7 _ rfl) hA3) hf.defers ⟨ret_eq ?_, bel_modG hB hM3 (by omega)⟩
    rw [HE.out]
  have hvd : decide (0 ≤ verAt C.arts art min) = true := by simpa using hv
  have hvl := (verAt_lt C.arts art min).1
  obtain ⟨x, hx⟩ := get_some (l := C.arts) (k := (verAt C.arts art min).toNat) (by omega)
  have hvN : ((verAt C.arts art min).toNat : Int) = verAt C.arts art min := by omega
  have HE := Aside.mk (show versionR C art min = (x, 0) by rw [if_pos hv] at hvo; unfold versionR; rw [hcode, hart, hmin, hvo]; simp [artAt, hx])
  replace hf := hf.cons (d := 9) (v := .bool true) ((hf.at_ 9 _ rfl).trans (by rw [hvd]; rfl))
  obtain ⟨ad, hA, _, k0, k1, k2, k3⟩ := (HL.out.below hB) _ x hx
  subst hA
  clear hx hvo
  generalize hvv : verAt C.arts art min = vv at *
  clear hvv
  refine wp_seq_k ?_
  intro _ _
  refine wp_seq_k ?_
  intro _ _
  refine wp_region_lit ?_
  refine a_move hf rfl rfl rfl ?_; clear hf; intro _ hf
  refine a_not_ hf rfl rfl rfl ?_; clear hf; intro _ hf
  refine wpList_nil ?_
  simp only [Exit.then, Exit.inBlock]
  go_step
  refine c_condF hf rfl ?_
  refine wp_skip ?_
  simp only [Exit.then, Exit.inBlock]
  go_step
  refine wp_seq_k ?_
  intro _ _
  refine wp_region_lit ?_
  refine a_field hf rfl rfl rfl rfl ?_; clear hf; intro _ hf
  refine a_load hf rfl rfl rfl (by exact blk_cell h3 1) rfl ?_; clear hf; intro _ hf
  refine a_move hf rfl rfl rfl ?_; clear hf; intro _ hf
  refine a_index (j := vv.toNat) hf rfl rfl rfl rfl (by first | rfl | omega) (by omega) rfl ?_; clear hf; intro _ hf
  refine a_load71 hf rfl rfl (by exact k0) (by exact k1) (by exact k2) (by exact k3) rfl ?_; clear hf; intro _ hf
  refine a_store71 (X := x) hf rfl rfl rfl h6 rfl ?_; clear hf; intro _ w3 hf hA3 hM3
  refine a_assign hf rfl rfl rfl ?_; clear hf; intro _ hf
  refine wpList_nil ?_
  simp only [Exit.then, Exit.inBlock]
  go_step
  refine wp_ret ?_
  try simp only [Exit.then]
  refine bodyPost_ret (art_result rfl _ _ _ (.int .i64 0) x (hf.at_ 6 _ rfl) (hf.at_ 7 _ rfl) hA3) hf.defers ⟨ret_eq ?_, bel_modG hB hM3 (by omega)⟩
  rw [HE.out]
end Go.Proofs.Ytpadgcomncljmaa.A
/- What a court that is not there, or one whose questions are out of bounds, answers. -/
namespace Go.Proofs.Ytpadgcomncljmaa.A
open Go.RowKit
set_option maxHeartbeats 1000000 in
set_option maxRecDepth 100000 in
theorem state_none (p : Option Addr) (num min : Int) (w : World) (hr : Calls Try.prog 61 #[.pointer p] w fun r w' => r = .returned (.bool false) ∧ w = w') :
    Calls Try.prog 31 #[.pointer p, .int .i64 num, .int .i64 min] w fun e w' => e = .returned (.tuple #[.int .i64 0, .int .i64 1]) ∧ w = w' := by
  have HR := Aside.mk hr
  clear hr
  go_enter Try.func31, Try.ntmps31
  refine wp_abs (n := 48) (ds := []) (l := [(0, .pointer p), (1, .int .i64 num), (2, .int .i64 min)]) ?_ ?_
  · refine (((Has.nil ?_ ?_).cons ?_).cons ?_).cons ?_
    all_goals first | rfl | (simp [Act.eval]; done)
  intro _ hf
  refine wp_seq_k ?_
  intro _ _
  refine wp_region_lit ?_
  refine a_assign hf rfl rfl rfl ?_; clear hf; intro _ hf
  refine a_assign hf rfl rfl rfl ?_; clear hf; intro _ hf
  refine wpList_nil ?_
  simp only [Exit.then, Exit.inBlock]
  go_step
  refine wp_seq_k ?_
  intro _ _
  refine wp_seq_k ?_
  intro _ _
  refine wp_region_lit ?_
  refine a_move hf rfl rfl rfl ?_; clear hf; intro _ hf
  refine a_call1 hf e61 rfl rfl rfl ?_; clear hf; refine HR.out.mono ?_; rintro _ w1 ⟨rfl, rfl⟩; intro _ hf
  refine a_not_ hf rfl rfl rfl ?_; clear hf; intro _ hf
  refine wpList_nil ?_
  simp only [Exit.then, Exit.inBlock]
  go_step
  refine c_condT hf rfl ?_
  refine wp_seq_k ?_
  intro _ _
  refine wp_region_lit ?_
  refine a_assign hf rfl rfl rfl ?_; clear hf; intro _ hf
  refine a_assign hf rfl rfl rfl ?_; clear hf; intro _ hf
  refine wpList_nil ?_
  simp only [Exit.then, Exit.inBlock]
  go_step
  refine wp_ret ?_
  simp only [Exit.then]
  exact c_ret2 hf rfl rfl rfl ⟨rfl, rfl⟩
set_option maxHeartbeats 1000000 in
set_option maxRecDepth 100000 in
theorem state_out (p : Option Addr) (num min : Int) (w : World) (hr : Calls Try.prog 61 #[.pointer p] w fun r w' => r = .returned (.bool true) ∧ w = w') (hm : inB min 0 10000000 = false) :
    Calls Try.prog 31 #[.pointer p, .int .i64 num, .int .i64 min] w fun e w' => e = .returned (.tuple #[.int .i64 0, .int .i64 2]) ∧ w = w' := by
  have HR := Aside.mk hr
  clear hr
  go_enter Try.func31, Try.ntmps31
  refine wp_abs (n := 48) (ds := []) (l := [(0, .pointer p), (1, .int .i64 num), (2, .int .i64 min)]) ?_ ?_
  · refine (((Has.nil ?_ ?_).cons ?_).cons ?_).cons ?_
    all_goals first | rfl | (simp [Act.eval]; done)
  intro _ hf
  refine wp_seq_k ?_
  intro _ _
  refine wp_region_lit ?_
  refine a_assign hf rfl rfl rfl ?_; clear hf; intro _ hf
  refine a_assign hf rfl rfl rfl ?_; clear hf; intro _ hf
  refine wpList_nil ?_
  simp only [Exit.then, Exit.inBlock]
  go_step
  refine wp_seq_k ?_
  intro _ _
  refine wp_seq_k ?_
  intro _ _
  refine wp_region_lit ?_
  refine a_move hf rfl rfl rfl ?_; clear hf; intro _ hf
  refine a_call1 hf e61 rfl rfl rfl ?_; clear hf; refine HR.out.mono ?_; rintro _ w1 ⟨rfl, rfl⟩; intro _ hf
  refine a_not_ hf rfl rfl rfl ?_; clear hf; intro _ hf
  refine wpList_nil ?_
  simp only [Exit.then, Exit.inBlock]
  go_step
  refine c_condF hf rfl ?_
  refine wp_skip ?_
  simp only [Exit.then, Exit.inBlock]
  go_step
  refine wp_seq_k ?_
  intro _ _
  refine wp_seq_k ?_
  intro _ _
  refine wp_region_lit ?_
  refine a_move hf rfl rfl rfl ?_; clear hf; intro _ hf
  refine a_call3 hf e52 rfl rfl rfl rfl rfl ?_; clear hf; refine (within_as min 0 10000000 false hm _).mono ?_; rintro _ w1 ⟨rfl, rfl⟩; intro _ hf
  refine a_not_ hf rfl rfl rfl ?_; clear hf; intro _ hf
  refine wpList_nil ?_
  simp only [Exit.then, Exit.inBlock]
  go_step
  refine c_condT hf rfl ?_
  refine wp_seq_k ?_
  intro _ _
  refine wp_region_lit ?_
  refine a_assign hf rfl rfl rfl ?_; clear hf; intro _ hf
  refine a_assign hf rfl rfl rfl ?_; clear hf; intro _ hf
  refine wpList_nil ?_
  simp only [Exit.then, Exit.inBlock]
  go_step
  refine wp_ret ?_
  simp only [Exit.then]
  exact c_ret2 hf rfl rfl rfl ⟨rfl, rfl⟩
set_option maxHeartbeats 1000000 in
set_option maxRecDepth 100000 in
theorem grounds_no (p : Option Addr) (car min ec : Int) (w : World) (hec : ec ≠ 0) (hr : Calls Try.prog 74 #[.pointer p, .int .i64 car, .int .i64 min] w fun r w' => r = .returned (.int .i64 ec) ∧ w = w') :
    Calls Try.prog 49 #[.pointer p, .int .i64 car, .int .i64 min] w fun e w' => e = .returned (.tuple #[.slice none 0 0, .int .i64 ec]) ∧ w = w' := by
  have HR := Aside.mk hr
  clear hr
  go_enter Try.func49, Try.ntmps49
  refine wp_abs (n := 87) (ds := []) (l := [(0, .pointer p), (1, .int .i64 car), (2, .int .i64 min)]) ?_ ?_
  · refine (((Has.nil ?_ ?_).cons ?_).cons ?_).cons ?_
    all_goals first | rfl | (simp [Act.eval]; done)
  intro _ hf
  refine wp_seq_k ?_
  intro _ _
  refine wp_region_lit ?_
  refine a_assign hf rfl rfl rfl ?_; clear hf; intro _ hf
  refine a_assign hf rfl rfl rfl ?_; clear hf; intro _ hf
  refine wpList_nil ?_
  simp only [Exit.then, Exit.inBlock]
  go_step
  refine wp_seq_k ?_
  intro _ _
  refine wp_seq_k ?_
  intro _ _
  refine wp_region_lit ?_
  refine a_move hf rfl rfl rfl ?_; clear hf; intro _ hf
  refine a_move hf rfl rfl rfl ?_; clear hf; intro _ hf
  refine a_move hf rfl rfl rfl ?_; clear hf; intro _ hf
  refine a_call3 hf e74 rfl rfl rfl rfl rfl ?_; clear hf; refine HR.out.mono ?_; rintro _ w1 ⟨rfl, rfl⟩; intro _ hf
  refine a_assign hf rfl rfl rfl ?_; clear hf; intro _ hf
  refine wpList_nil ?_
  simp only [Exit.then, Exit.inBlock]
  go_step
  refine wp_seq_k ?_
  intro _ _
  refine wp_region_lit ?_
  refine a_move hf rfl rfl rfl ?_; clear hf; intro _ hf
  refine a_cmp (b := true) hf rfl rfl rfl rfl rfl (by first | assumption | ((try dsimp only); simp only [decide_eq_true_eq, decide_eq_false_iff_not, beq_iff_eq, bne_iff_ne, beq_eq_false_iff_ne, bne_eq_false_iff_eq, ne_eq] <;> omega)) rfl ?_; clear hf; intro _ hf
  refine wpList_nil ?_
  simp only [Exit.then, Exit.inBlock]
  go_step
  refine c_condT hf rfl ?_
  refine wp_seq_k ?_
  intro _ _
  refine wp_region_lit ?_
  refine a_move hf rfl rfl rfl ?_; clear hf; intro _ hf
  refine a_assign hf rfl rfl rfl ?_; clear hf; intro _ hf
  refine a_assign hf rfl rfl rfl ?_; clear hf; intro _ hf
  refine wpList_nil ?_
  simp only [Exit.then, Exit.inBlock]
  go_step
  refine wp_ret ?_
  simp only [Exit.then]
  exact c_ret2 hf rfl rfl rfl ⟨rfl, rfl⟩
set_option maxHeartbeats 1000000 in
set_option maxRecDepth 100000 in
theorem balance_no (p : Option Addr) (car min ec : Int) (w : World) (hec : ec ≠ 0) (hr : Calls Try.prog 74 #[.pointer p, .int .i64 car, .int .i64 min] w fun r w' => r = .returned (.int .i64 ec) ∧ w = w') :
    Calls Try.prog 45 #[.pointer p, .int .i64 car, .int .i64 min] w fun e w' => e = .returned (.tuple #[.int .i64 0, .int .i64 ec]) ∧ w = w' := by
  have HR := Aside.mk hr
  clear hr
  go_enter Try.func45, Try.ntmps45
  refine wp_abs (n := 164) (ds := []) (l := [(0, .pointer p), (1, .int .i64 car), (2, .int .i64 min)]) ?_ ?_
  · refine (((Has.nil ?_ ?_).cons ?_).cons ?_).cons ?_
    all_goals first | rfl | (simp [Act.eval]; done)
  intro _ hf
  refine wp_seq_k ?_
  intro _ _
  refine wp_region_lit ?_
  refine a_assign hf rfl rfl rfl ?_; clear hf; intro _ hf
  refine a_assign hf rfl rfl rfl ?_; clear hf; intro _ hf
  refine wpList_nil ?_
  simp only [Exit.then, Exit.inBlock]
  go_step
  refine wp_seq_k ?_
  intro _ _
  refine wp_seq_k ?_
  intro _ _
  refine wp_region_lit ?_
  refine a_move hf rfl rfl rfl ?_; clear hf; intro _ hf
  refine a_move hf rfl rfl rfl ?_; clear hf; intro _ hf
  refine a_move hf rfl rfl rfl ?_; clear hf; intro _ hf
  refine a_call3 hf e74 rfl rfl rfl rfl rfl ?_; clear hf; refine HR.out.mono ?_; rintro _ w1 ⟨rfl, rfl⟩; intro _ hf
  refine a_assign hf rfl rfl rfl ?_; clear hf; intro _ hf
  refine wpList_nil ?_
  simp only [Exit.then, Exit.inBlock]
  go_step
  refine wp_seq_k ?_
  intro _ _
  refine wp_region_lit ?_
  refine a_move hf rfl rfl rfl ?_; clear hf; intro _ hf
  refine a_cmp (b := true) hf rfl rfl rfl rfl rfl (by first | assumption | ((try dsimp only); simp only [decide_eq_true_eq, decide_eq_false_iff_not, beq_iff_eq, bne_iff_ne, beq_eq_false_iff_ne, bne_eq_false_iff_eq, ne_eq] <;> omega)) rfl ?_; clear hf; intro _ hf
  refine wpList_nil ?_
  simp only [Exit.then, Exit.inBlock]
  go_step
  refine c_condT hf rfl ?_
  refine wp_seq_k ?_
  intro _ _
  refine wp_region_lit ?_
  refine a_move hf rfl rfl rfl ?_; clear hf; intro _ hf
  refine a_assign hf rfl rfl rfl ?_; clear hf; intro _ hf
  refine a_assign hf rfl rfl rfl ?_; clear hf; intro _ hf
  refine wpList_nil ?_
  simp only [Exit.then, Exit.inBlock]
  go_step
  refine wp_ret ?_
  simp only [Exit.then]
  exact c_ret2 hf rfl rfl rfl ⟨rfl, rfl⟩
set_option maxHeartbeats 1000000 in
set_option maxRecDepth 100000 in
theorem clashes_no (p : Option Addr) (min ec : Int) (w : World) (hec : ec ≠ 0) (hr : Calls Try.prog 74 #[.pointer p, .int .i64 1, .int .i64 min] w fun r w' => r = .returned (.int .i64 ec) ∧ w = w') :
    Calls Try.prog 47 #[.pointer p, .int .i64 min] w fun e w' => e = .returned (.tuple #[.slice none 0 0, .int .i64 ec]) ∧ w = w' := by
  have HR := Aside.mk hr
  clear hr
  go_enter Try.func47, Try.ntmps47
  refine wp_abs (n := 57) (ds := []) (l := [(0, .pointer p), (1, .int .i64 min)]) ?_ ?_
  · refine ((Has.nil ?_ ?_).cons ?_).cons ?_
    all_goals first | rfl | (simp [Act.eval]; done)
  intro _ hf
  refine wp_seq_k ?_
  intro _ _
  refine wp_region_lit ?_
  refine a_assign hf rfl rfl rfl ?_; clear hf; intro _ hf
  refine a_assign hf rfl rfl rfl ?_; clear hf; intro _ hf
  refine wpList_nil ?_
  simp only [Exit.then, Exit.inBlock]
  go_step
  refine wp_seq_k ?_
  intro _ _
  refine wp_seq_k ?_
  intro _ _
  refine wp_region_lit ?_
  refine a_move hf rfl rfl rfl ?_; clear hf; intro _ hf
  refine a_move hf rfl rfl rfl ?_; clear hf; intro _ hf
  refine a_call3 hf e74 rfl rfl rfl rfl rfl ?_; clear hf; refine HR.out.mono ?_; rintro _ w1 ⟨rfl, rfl⟩; intro _ hf
  refine a_assign hf rfl rfl rfl ?_; clear hf; intro _ hf
  refine wpList_nil ?_
  simp only [Exit.then, Exit.inBlock]
  go_step
  refine wp_seq_k ?_
  intro _ _
  refine wp_region_lit ?_
  refine a_move hf rfl rfl rfl ?_; clear hf; intro _ hf
  refine a_cmp (b := true) hf rfl rfl rfl rfl rfl (by first | assumption | ((try dsimp only); simp only [decide_eq_true_eq, decide_eq_false_iff_not, beq_iff_eq, bne_iff_ne, beq_eq_false_iff_ne, bne_eq_false_iff_eq, ne_eq] <;> omega)) rfl ?_; clear hf; intro _ hf
  refine wpList_nil ?_
  simp only [Exit.then, Exit.inBlock]
  go_step
  refine c_condT hf rfl ?_
  refine wp_seq_k ?_
  intro _ _
  refine wp_region_lit ?_
  refine a_move hf rfl rfl rfl ?_; clear hf; intro _ hf
  refine a_assign hf rfl rfl rfl ?_; clear hf; intro _ hf
  refine a_assign hf rfl rfl rfl ?_; clear hf; intro _ hf
  refine wpList_nil ?_
  simp only [Exit.then, Exit.inBlock]
  go_step
  refine wp_ret ?_
  simp only [Exit.then]
  exact c_ret2 hf rfl rfl rfl ⟨rfl, rfl⟩
set_option maxHeartbeats 1000000 in
set_option maxRecDepth 100000 in
theorem acts_none (p : Option Addr) (w : World) (hr : Calls Try.prog 61 #[.pointer p] w fun r w' => r = .returned (.bool false) ∧ w = w') :
    Calls Try.prog 29 #[.pointer p] w fun e w' => e = .returned (.slice none 0 0) ∧ w = w' := by
  have HR := Aside.mk hr
  clear hr
  go_enter Try.func29, Try.ntmps29
  refine wp_abs (n := 28) (ds := []) (l := [(0, .pointer p)]) ?_ ?_
  · refine (Has.nil ?_ ?_).cons ?_
    all_goals first | rfl | (simp [Act.eval]; done)
  intro _ hf
  refine wp_seq_k ?_
  intro _ _
  refine wp_region_lit ?_
  refine a_assign hf rfl rfl rfl ?_; clear hf; intro _ hf
  refine wpList_nil ?_
  simp only [Exit.then, Exit.inBlock]
  go_step
  refine wp_seq_k ?_
  intro _ _
  refine wp_seq_k ?_
  intro _ _
  refine wp_region_lit ?_
  refine a_move hf rfl rfl rfl ?_; clear hf; intro _ hf
  refine a_call1 hf e61 rfl rfl rfl ?_; clear hf; refine HR.out.mono ?_; rintro _ w1 ⟨rfl, rfl⟩; intro _ hf
  refine a_not_ hf rfl rfl rfl ?_; clear hf; intro _ hf
  refine wpList_nil ?_
  simp only [Exit.then, Exit.inBlock]
  go_step
  refine c_condT hf rfl ?_
  refine wp_seq_k ?_
  intro _ _
  refine wp_region_lit ?_
  refine a_assign hf rfl rfl rfl ?_; clear hf; intro _ hf
  refine wpList_nil ?_
  simp only [Exit.then, Exit.inBlock]
  go_step
  refine wp_ret ?_
  simp only [Exit.then]
  exact c_ret hf rfl rfl ⟨rfl, rfl⟩
theorem a_len87 {ops : Array Oper} {Q : Exit → Act → World → Prop} {a : Act} {w : World} {rest : List Oper} {n d : Nat} {ds : List Deferred} {l : List (Nat × Value)} {t : TypeId} {ps : String} {af : Array Edge} {g : Option (Nat × Bool)} {x : Operand} {A : Option Addr} {k c : Nat} (H : Has n ds l a) (hg : wantB ops n l g = some true) (hx : lookO l x = some (.slice A k c)) (hd : Nat.ble (d + 1) n = true) (h : ∀ a', Has n ds ((d, .int .i64 (k : Int)) :: l) a' → wpList Try.prog ops Q rest a' w) : wpList Try.prog ops Q (⟨some d, .call ⟨.builtin .len, #[x], #[87]⟩, t, ps, af, g⟩ :: rest) a w :=
  a_do H hg (by have hx := H.evO hx; generalize a.eval = ev at hx; simp [go_sem, hx]) rfl hd h
set_option maxHeartbeats 4000000 in
set_option maxRecDepth 100000 in
theorem empty_any (p : Option Addr) (a : ActL) (A8 : Option Addr) (c8 : Nat) (car min : Int) (w : World) (hr : ∀ W, Below w.heap.size w W → Calls Try.prog 61 #[.pointer p] W fun r w' => r = .returned (.bool false) ∧ W = w') (hk : ∀ car min W, Below w.heap.size w W → Calls Try.prog 74 #[.pointer p, .int .i64 car, .int .i64 min] W fun r w' => r = .returned (.int .i64 1) ∧ W = w')
    (hdo : ∀ W, Below w.heap.size w W → Calls Try.prog 26 #[.pointer p, .agg #[.int .i64 a.kind, .int .i64 a.minute, .int .i64 a.paper, .int .i64 a.case_, .int .i64 a.by_, .int .i64 a.against, .int .i64 a.art, .int .i64 a.at_, .slice A8 a.facts.length c8, .int .i64 a.paid, .bool a.up, .int .i64 a.pen]] W fun r w' => r = .returned (.tuple #[.int .i64 0, .int .i64 1]) ∧ Below W.heap.size W w') :
    Calls Try.prog 51 #[.pointer p, .agg #[.int .i64 a.kind, .int .i64 a.minute, .int .i64 a.paper, .int .i64 a.case_, .int .i64 a.by_, .int .i64 a.against, .int .i64 a.art, .int .i64 a.at_, .slice A8 a.facts.length c8, .int .i64 a.paid, .bool a.up, .int .i64 a.pen], .int .i64 car, .int .i64 min] w fun e w' => e = .returned (.bool true) ∧ Below w.heap.size w w' := by
  have HR := Aside.mk hr
  have HK := Aside.mk hk
  have HD := Aside.mk hdo
  clear hr hk hdo
  go_enter Try.func51, Try.ntmps51
  refine wp_abs (n := 119) (ds := []) (l := [(0, .pointer p), (1, .agg #[.int .i64 a.kind, .int .i64 a.minute, .int .i64 a.paper, .int .i64 a.case_, .int .i64 a.by_, .int .i64 a.against, .int .i64 a.art, .int .i64 a.at_, .slice A8 a.facts.length c8, .int .i64 a.paid, .bool a.up, .int .i64 a.pen]), (2, .int .i64 car), (3, .int .i64 min)]) ?_ ?_
  · refine ((((Has.nil ?_ ?_).cons ?_).cons ?_).cons ?_).cons ?_
    all_goals first | rfl | (simp [Act.eval]; done)
  intro _ hf
  refine wp_seq_k ?_
  intro _ _
  refine wp_region_lit ?_
  refine a_box hf rfl rfl rfl rfl ?_; clear hf; intro _ hf
  refine a_assign hf rfl rfl rfl ?_; clear hf; intro _ hf
  refine wpList_nil ?_
  simp only [Exit.then, Exit.inBlock]
  go_step
  have hA := heap_alloc_new w (.cells #[.int .i64 a.kind, .int .i64 a.minute, .int .i64 a.paper, .int .i64 a.case_, .int .i64 a.by_, .int .i64 a.against, .int .i64 a.art, .int .i64 a.at_, .slice A8 a.facts.length c8, .int .i64 a.paid, .bool a.up, .int .i64 a.pen] 43)
  have hB := bel_alloc (Below.refl _ w) (.cells #[.int .i64 a.kind, .int .i64 a.minute, .int .i64 a.paper, .int .i64 a.case_, .int .i64 a.by_, .int .i64 a.against, .int .i64 a.art, .int .i64 a.at_, .slice A8 a.facts.length c8, .int .i64 a.paid, .bool a.up, .int .i64 a.pen] 43)
  change Code.wp _ _ _ _ (w.alloc (.cells #[.int .i64 a.kind, .int .i64 a.minute, .int .i64 a.paper, .int .i64 a.case_, .int .i64 a.by_, .int .i64 a.against, .int .i64 a.art, .int .i64 a.at_, .slice A8 a.facts.length c8, .int .i64 a.paid, .bool a.up, .int .i64 a.pen] 43))
  generalize (w.alloc (.cells #[.int .i64 a.kind, .int .i64 a.minute, .int .i64 a.paper, .int .i64 a.case_, .int .i64 a.by_, .int .i64 a.against, .int .i64 a.art, .int .i64 a.at_, .slice A8 a.facts.length c8, .int .i64 a.paid, .bool a.up, .int .i64 a.pen] 43)) = w1 at *
  refine wp_seq_k ?_
  intro _ _
  refine wp_region_lit ?_
  refine a_move hf rfl rfl rfl ?_; clear hf; intro _ hf
  refine a_load43b hf rfl rfl (by exact hA) rfl ?_; clear hf; intro _ hf
  refine a_call2 hf e26 rfl rfl rfl rfl ?_; clear hf; refine (HD.out _ hB).mono ?_; rintro _ w2 ⟨rfl, hb⟩; intro _ hf
  refine a_move hf rfl rfl rfl ?_; clear hf; intro _ hf
  refine a_extract hf rfl rfl rfl rfl ?_; clear hf; intro _ hf
  refine a_extract hf rfl rfl rfl rfl ?_; clear hf; intro _ hf
  refine a_assign hf rfl rfl rfl ?_; clear hf; intro _ hf
  refine a_assign hf rfl rfl rfl ?_; clear hf; intro _ hf
  refine wpList_nil ?_
  simp only [Exit.then, Exit.inBlock]
  go_step
  replace hB := bel_then hB hb
  clear hb hA
  refine wp_seq_k ?_
  intro _ _
  refine wp_region_lit ?_
  refine a_move hf rfl rfl rfl ?_; clear hf; intro _ hf
  refine a_move hf rfl rfl rfl ?_; clear hf; intro _ hf
  refine a_move hf rfl rfl rfl ?_; clear hf; intro _ hf
  refine a_call3 hf e31 rfl rfl rfl rfl rfl ?_; clear hf; refine (state_none p _ _ _ (HR.out _ hB)).mono ?_; rintro _ _ ⟨rfl, rfl⟩; intro _ hf
  refine a_move hf rfl rfl rfl ?_; clear hf; intro _ hf
  refine a_extract hf rfl rfl rfl rfl ?_; clear hf; intro _ hf
  refine a_extract hf rfl rfl rfl rfl ?_; clear hf; intro _ hf
  refine a_assign hf rfl rfl rfl ?_; clear hf; intro _ hf
  refine a_assign hf rfl rfl rfl ?_; clear hf; intro _ hf
  refine wpList_nil ?_
  simp only [Exit.then, Exit.inBlock]
  go_step
  refine wp_seq_k ?_
  intro _ _
  refine wp_region_lit ?_
  refine a_move hf rfl rfl rfl ?_; clear hf; intro _ hf
  refine a_move hf rfl rfl rfl ?_; clear hf; intro _ hf
  refine a_move hf rfl rfl rfl ?_; clear hf; intro _ hf
  refine a_call3 hf e32 rfl rfl rfl rfl rfl ?_; clear hf; refine (penalty_no p car min 1 _ (by decide) (fun W hW => (HK.out car min W (bel_then hB hW)).mono fun r w' h => ⟨h.1, h.2 ▸ Below.refl _ _⟩)).mono ?_; rintro _ w3 ⟨rfl, hb⟩; intro _ hf
  refine a_move hf rfl rfl rfl ?_; clear hf; intro _ hf
  refine a_extract hf rfl rfl rfl rfl ?_; clear hf; intro _ hf
  refine a_extract hf rfl rfl rfl rfl ?_; clear hf; intro _ hf
  refine a_extract hf rfl rfl rfl rfl ?_; clear hf; intro _ hf
  refine a_assign hf rfl rfl rfl ?_; clear hf; intro _ hf
  refine a_assign hf rfl rfl rfl ?_; clear hf; intro _ hf
  refine a_assign hf rfl rfl rfl ?_; clear hf; intro _ hf
  refine wpList_nil ?_
  simp only [Exit.then, Exit.inBlock]
  go_step
  replace hB := bel_then hB hb
  clear hb
  refine wp_seq_k ?_
  intro _ _
  refine wp_region_lit ?_
  refine a_move hf rfl rfl rfl ?_; clear hf; intro _ hf
  refine a_move hf rfl rfl rfl ?_; clear hf; intro _ hf
  refine a_move hf rfl rfl rfl ?_; clear hf; intro _ hf
  refine a_call3 hf e49 rfl rfl rfl rfl rfl ?_; clear hf; refine (grounds_no p _ _ 1 _ (by decide) (HK.out _ _ _ hB)).mono ?_; rintro _ _ ⟨rfl, rfl⟩; intro _ hf
  refine a_move hf rfl rfl rfl ?_; clear hf; intro _ hf
  refine a_extract hf rfl rfl rfl rfl ?_; clear hf; intro _ hf
  refine a_extract hf rfl rfl rfl rfl ?_; clear hf; intro _ hf
  refine a_assign hf rfl rfl rfl ?_; clear hf; intro _ hf
  refine a_assign hf rfl rfl rfl ?_; clear hf; intro _ hf
  refine wpList_nil ?_
  simp only [Exit.then, Exit.inBlock]
  go_step
  refine wp_seq_k ?_
  intro _ _
  refine wp_region_lit ?_
  refine a_move hf rfl rfl rfl ?_; clear hf; intro _ hf
  refine a_move hf rfl rfl rfl ?_; clear hf; intro _ hf
  refine a_move hf rfl rfl rfl ?_; clear hf; intro _ hf
  refine a_call3 hf e45 rfl rfl rfl rfl rfl ?_; clear hf; refine (balance_no p _ _ 1 _ (by decide) (HK.out _ _ _ hB)).mono ?_; rintro _ _ ⟨rfl, rfl⟩; intro _ hf
  refine a_move hf rfl rfl rfl ?_; clear hf; intro _ hf
  refine a_extract hf rfl rfl rfl rfl ?_; clear hf; intro _ hf
  refine a_extract hf rfl rfl rfl rfl ?_; clear hf; intro _ hf
  refine a_assign hf rfl rfl rfl ?_; clear hf; intro _ hf
  refine a_assign hf rfl rfl rfl ?_; clear hf; intro _ hf
  refine wpList_nil ?_
  simp only [Exit.then, Exit.inBlock]
  go_step
  refine wp_seq_k ?_
  intro _ _
  refine wp_region_lit ?_
  refine a_move hf rfl rfl rfl ?_; clear hf; intro _ hf
  refine a_move hf rfl rfl rfl ?_; clear hf; intro _ hf
  refine a_call2 hf e47 rfl rfl rfl rfl ?_; clear hf; refine (clashes_no p _ 1 _ (by decide) (HK.out _ _ _ hB)).mono ?_; rintro _ _ ⟨rfl, rfl⟩; intro _ hf
  refine a_move hf rfl rfl rfl ?_; clear hf; intro _ hf
  refine a_extract hf rfl rfl rfl rfl ?_; clear hf; intro _ hf
  refine a_extract hf rfl rfl rfl rfl ?_; clear hf; intro _ hf
  refine a_assign hf rfl rfl rfl ?_; clear hf; intro _ hf
  refine a_assign hf rfl rfl rfl ?_; clear hf; intro _ hf
  refine wpList_nil ?_
  simp only [Exit.then, Exit.inBlock]
  go_step
  refine wp_seq_k ?_
  intro _ _
  refine wp_seq_k ?_
  intro _ _
  refine wp_region_lit ?_
  refine a_move hf rfl rfl rfl ?_; clear hf; intro _ hf
  refine a_cmp hf rfl rfl rfl rfl rfl rfl rfl ?_; clear hf; intro _ hf
  refine a_move hf rfl rfl rfl ?_; clear hf; intro _ hf
  (first | refine a_not hf rfl rfl rfl ?_ | refine a_move hf rfl rfl rfl ?_); clear hf; intro _ hf
  (first | refine a_not hf rfl rfl rfl ?_ | refine a_cmp hf rfl rfl rfl rfl rfl rfl rfl ?_); clear hf; intro _ hf
  (first | refine a_pickT hf rfl rfl rfl rfl ?_ | refine a_pickF hf rfl rfl rfl rfl ?_); clear hf; intro _ hf
  refine a_move hf rfl rfl rfl ?_; clear hf; intro _ hf
  (first | refine a_not hf rfl rfl rfl ?_ | refine a_move hf rfl rfl rfl ?_); clear hf; intro _ hf
  (first | refine a_not hf rfl rfl rfl ?_ | refine a_cmp hf rfl rfl rfl rfl rfl rfl rfl ?_); clear hf; intro _ hf
  (first | refine a_pickT hf rfl rfl rfl rfl ?_ | refine a_pickF hf rfl rfl rfl rfl ?_); clear hf; intro _ hf
  refine a_move hf rfl rfl rfl ?_; clear hf; intro _ hf
  (first | refine a_not hf rfl rfl rfl ?_ | refine a_move hf rfl rfl rfl ?_); clear hf; intro _ hf
  (first | refine a_not hf rfl rfl rfl ?_ | refine a_cmp hf rfl rfl rfl rfl rfl rfl rfl ?_); clear hf; intro _ hf
  (first | refine a_pickT hf rfl rfl rfl rfl ?_ | refine a_pickF hf rfl rfl rfl rfl ?_); clear hf; intro _ hf
  refine a_move hf rfl rfl rfl ?_; clear hf; intro _ hf
  (first | refine a_not hf rfl rfl rfl ?_ | refine a_move hf rfl rfl rfl ?_); clear hf; intro _ hf
  (first | refine a_not hf rfl rfl rfl ?_ | refine a_cmp hf rfl rfl rfl rfl rfl rfl rfl ?_); clear hf; intro _ hf
  (first | refine a_pickT hf rfl rfl rfl rfl ?_ | refine a_pickF hf rfl rfl rfl rfl ?_); clear hf; intro _ hf
  refine a_move hf rfl rfl rfl ?_; clear hf; intro _ hf
  (first | refine a_not hf rfl rfl rfl ?_ | refine a_move hf rfl rfl rfl ?_); clear hf; intro _ hf
  (first | refine a_not hf rfl rfl rfl ?_ | refine a_cmp hf rfl rfl rfl rfl rfl rfl rfl ?_); clear hf; intro _ hf
  (first | refine a_pickT hf rfl rfl rfl rfl ?_ | refine a_pickF hf rfl rfl rfl rfl ?_); clear hf; intro _ hf
  refine wpList_nil ?_
  simp only [Exit.then, Exit.inBlock]
  go_step
  refine c_condF hf rfl ?_
  refine wp_skip ?_
  simp only [Exit.then, Exit.inBlock]
  go_step
  refine wp_seq_k ?_
  intro _ _
  refine wp_region_lit ?_
  refine a_move hf rfl rfl rfl ?_; clear hf; intro _ hf
  refine a_cmp hf rfl rfl rfl rfl rfl rfl rfl ?_; clear hf; intro _ hf
  refine a_move hf rfl rfl rfl ?_; clear hf; intro _ hf
  (first | refine a_not hf rfl rfl rfl ?_ | refine a_move hf rfl rfl rfl ?_); clear hf; intro _ hf
  (first | refine a_not hf rfl rfl rfl ?_ | refine a_cmp52 hf rfl rfl rfl rfl rfl rfl ?_); clear hf; intro _ hf
  (first | refine a_pickT hf rfl rfl rfl rfl ?_ | refine a_pickF hf rfl rfl rfl rfl ?_); clear hf; intro _ hf
  refine a_move hf rfl rfl rfl ?_; clear hf; intro _ hf
  (first | refine a_not hf rfl rfl rfl ?_ | refine a_move hf rfl rfl rfl ?_); clear hf; intro _ hf
  (first | refine a_not hf rfl rfl rfl ?_ | refine a_cmp hf rfl rfl rfl rfl rfl rfl rfl ?_); clear hf; intro _ hf
  (first | refine a_pickT hf rfl rfl rfl rfl ?_ | refine a_pickF hf rfl rfl rfl rfl ?_); clear hf; intro _ hf
  refine a_move hf rfl rfl rfl ?_; clear hf; intro _ hf
  (first | refine a_not hf rfl rfl rfl ?_ | refine a_move hf rfl rfl rfl ?_); clear hf; intro _ hf
  (first | refine a_not hf rfl rfl rfl ?_ | refine a_not_ hf rfl rfl rfl ?_); clear hf; intro _ hf
  (first | refine a_pickT hf rfl rfl rfl rfl ?_ | refine a_pickF hf rfl rfl rfl rfl ?_); clear hf; intro _ hf
  refine a_move hf rfl rfl rfl ?_; clear hf; intro _ hf
  (first | refine a_not hf rfl rfl rfl ?_ | refine a_move hf rfl rfl rfl ?_); clear hf; intro _ hf
  (first | refine a_not hf rfl rfl rfl ?_ | refine a_len hf rfl rfl rfl rfl ?_); clear hf; intro _ hf
  (first | refine a_not hf rfl rfl rfl ?_ | refine a_cmp hf rfl rfl rfl rfl rfl rfl rfl ?_); clear hf; intro _ hf
  (first | refine a_pickT hf rfl rfl rfl rfl ?_ | refine a_pickF hf rfl rfl rfl rfl ?_); clear hf; intro _ hf
  refine a_move hf rfl rfl rfl ?_; clear hf; intro _ hf
  (first | refine a_not hf rfl rfl rfl ?_ | refine a_move hf rfl rfl rfl ?_); clear hf; intro _ hf
  (first | refine a_not hf rfl rfl rfl ?_ | refine a_cmp hf rfl rfl rfl rfl rfl rfl rfl ?_); clear hf; intro _ hf
  (first | refine a_pickT hf rfl rfl rfl rfl ?_ | refine a_pickF hf rfl rfl rfl rfl ?_); clear hf; intro _ hf
  refine a_move hf rfl rfl rfl ?_; clear hf; intro _ hf
  (first | refine a_not hf rfl rfl rfl ?_ | refine a_move hf rfl rfl rfl ?_); clear hf; intro _ hf
  refine a_len87 hf rfl rfl rfl ?_; clear hf; intro _ hf
  (first | refine a_not hf rfl rfl rfl ?_ | refine a_cmp hf rfl rfl rfl rfl rfl rfl rfl ?_); clear hf; intro _ hf
  (first | refine a_pickT hf rfl rfl rfl rfl ?_ | refine a_pickF hf rfl rfl rfl rfl ?_); clear hf; intro _ hf
  refine a_move hf rfl rfl rfl ?_; clear hf; intro _ hf
  (first | refine a_not hf rfl rfl rfl ?_ | refine a_move hf rfl rfl rfl ?_); clear hf; intro _ hf
  refine a_call1 hf e29 rfl rfl rfl ?_; clear hf; refine (acts_none p _ (HR.out _ hB)).mono ?_; rintro _ _ ⟨rfl, rfl⟩; intro _ hf
  (first | refine a_not hf rfl rfl rfl ?_ | refine a_len hf rfl rfl rfl rfl ?_); clear hf; intro _ hf
  (first | refine a_not hf rfl rfl rfl ?_ | refine a_cmp hf rfl rfl rfl rfl rfl rfl rfl ?_); clear hf; intro _ hf
  (first | refine a_pickT hf rfl rfl rfl rfl ?_ | refine a_pickF hf rfl rfl rfl rfl ?_); clear hf; intro _ hf
  refine a_assign hf rfl rfl rfl ?_; clear hf; intro _ hf
  refine wpList_nil ?_
  simp only [Exit.then, Exit.inBlock]
  go_step
  refine wp_ret ?_
  exact c_ret hf rfl rfl ⟨rfl, hB⟩
end Go.Proofs.Ytpadgcomncljmaa.A
/- Acts: the record, copied. -/
namespace Go.Proofs.Ytpadgcomncljmaa.A
open Go.RowKit
theorem a_one34 {ops : Array Oper} {Q : Exit → Act → World → Prop} {a : Act} {w : World} {rest : List Oper} {n d : Nat} {ds : List Deferred} {l : List (Nat × Value)} {t : TypeId} {ps : String} {af : Array Edge} {g : Option (Nat × Bool)} {x : Operand} {v0 v1 v2 v3 v4 v5 v6 v7 v8 v9 v10 v11 : Value} (H : Has n ds l a) (hg : wantB ops n l g = some true) (hx : lookO l x = some (.agg #[v0, v1, v2, v3, v4, v5, v6, v7, v8, v9, v10, v11])) (hd : Nat.ble (d + 1) n = true) (h : ∀ a', Has n ds ((d, .slice (some ⟨w.heap.size, 0, none⟩) 1 1) :: l) a' → wpList Try.prog ops Q rest a' (w.alloc (.cells #[v0, v1, v2, v3, v4, v5, v6, v7, v8, v9, v10, v11] 43))) : wpList Try.prog ops Q (⟨some d, .buildSlice 34 1 #[(0, x)], t, ps, af, g⟩ :: rest) a w :=
  a_do H hg (x_one34 H hx) rfl hd h
/-- a new row of acts -/
def GivesActs (w : World) (xs : List ActL) (e : Ending) (w' : World) : Prop :=
  ∃ A c, e = .returned (.slice A xs.length c) ∧ xs.length ≤ c ∧ RAct Any w' A xs ∧ Below w.heap.size w w'
set_option maxHeartbeats 4000000 in
set_option maxRecDepth 100000 in
theorem acts_any (g : Nat) (C : CodeL) (acts : List ActL) (files : List FileL) (w : World) (hC : CourtR w g C acts files) (hfew : ∀ x ∈ acts, x.facts.length ≤ 20) :
    Calls Try.prog 29 #[.pointer (some ⟨g, 0, none⟩)] w (GivesActs w acts) := by
  have HC := Aside.mk hC
  have HFW := Aside.mk hfew
  obtain ⟨A1, c1, A7, c7, A8, c8, hg, _, h2w, _, _, hn, _⟩ := hC
  have H7 := Aside.mk h2w
  have h7 := court7 hg
  have h6 := court6 hg
  obtain ⟨i43, hi43, hz0, hz1, hz2⟩ := info_parts info43
  clear hfew h2w
  go_enter Try.func29, Try.ntmps29
  refine wp_abs (n := 28) (ds := []) (l := [(0, .pointer (some ⟨g, 0, none⟩))]) ?_ ?_
  · refine (Has.nil ?_ ?_).cons ?_
    all_goals first | rfl | (simp [Act.eval]; done)
  intro _ hf
  refine wp_seq_k ?_
  intro _ _
  refine wp_region_lit ?_
  refine a_assign hf rfl rfl rfl ?_; clear hf; intro _ hf
  refine wpList_nil ?_
  simp only [Exit.then, Exit.inBlock]
  go_step
  refine wp_seq_k ?_
  intro _ _
  refine wp_seq_k ?_
  intro _ _
  refine wp_region_lit ?_
  refine a_move hf rfl rfl rfl ?_; clear hf; intro _ hf
  refine a_call1 hf e61 rfl rfl rfl ?_; clear hf; refine (ready_any g true _ h6).mono ?_; rintro _ w1 ⟨rfl, rfl⟩; intro _ hf
  refine a_not_ hf rfl rfl rfl ?_; clear hf; intro _ hf
  refine wpList_nil ?_
  simp only [Exit.then, Exit.inBlock]
  go_step
  refine c_condF hf rfl ?_
  refine wp_skip ?_
  simp only [Exit.then, Exit.inBlock]
  go_step
  refine wp_seq_k ?_
  intro _ _
  refine wp_region_lit ?_
  refine a_assign hf rfl rfl rfl ?_; clear hf; intro _ hf
  refine wpList_nil ?_
  simp only [Exit.then, Exit.inBlock]
  go_step
  refine wp_seq_k ?_
  intro _ _
  refine wp_seq_k ?_
  intro _ _
  refine wp_region_lit ?_
  refine a_move hf rfl rfl rfl ?_; clear hf; intro _ hf
  refine a_nilCheck hf rfl rfl rfl ?_; clear hf; intro _ hf
  refine a_field hf rfl rfl rfl rfl ?_; clear hf; intro _ hf
  refine a_load hf rfl rfl rfl (by exact h7) rfl ?_; clear hf; intro _ hf
  refine a_len hf rfl rfl rfl rfl ?_; clear hf; intro _ hf
  refine a_move hf rfl rfl rfl ?_; clear hf; intro _ hf
  refine wpList_nil ?_
  simp only [Exit.then, Exit.inBlock]
  go_step
  refine wp_block ?_
  refine wp_loop_ghost (fun m fr wr => ∃ (k : Nat) (v : Value) (cs : List (List Value)) (D : Nat → Prop), k ≤ acts.length ∧ m = acts.length - k ∧ Has 28 [] [(14, .int .i64 (k : Int)), (3, v), (13, .int .i64 (acts.length : Int)), (12, .slice A7 acts.length c7)] fr ∧ Aside (wr.ownsRow w.heap.size 43 12 v k cs.flatten) ∧ Aside (ActsAre D wr (acts.take k) cs ∧ ∀ j, D j → j < wr.heap.size ∧ v.ownBlock ≠ some j) ∧ Below w.heap.size w wr) acts.length ?_ ?_
  · exact ⟨0, _, [], fun _ => False, Nat.zero_le _, rfl, (((((hf.nilOf).cons (d := 12) (hf.at_ 12 _ rfl)).cons (d := 13) (hf.at_ 13 _ rfl)).cons (d := 3) (hf.at_ 3 _ rfl)).cons (d := 14) (hf.at_ 14 _ rfl)), ⟨World.ownsRow_nil _ _ _ _⟩, ⟨⟨rfl, fun i x hx => by simp at hx⟩, fun _ h => h.elim⟩, Below.refl _ _⟩
  rintro m fr wr ⟨k, v, cs, D, hk', rfl, hf, HO, HA, hB⟩
  have HW := Aside.mk hB
  clear hB
  by_cases hlt : k < acts.length
  · obtain ⟨x, hx⟩ := get_some hlt
    have HT := Aside.mk (drop_snoc hx)
    have hxf := HFW.out x (List.mem_of_getElem? hx)
    obtain ⟨ad, B8, d8, rfl, _, ha⟩ := (H7.out.below HW.out) k x hx
    obtain ⟨g0, g1, g2, g3, g4, g5, g6, g7, g8, g9, g10, g11, hd8, hr8⟩ := ha
    have HR8 := Aside.mk hr8
    clear hx hr8
    refine wp_seq_k ?_
    intro _ _
    refine wp_region_lit ?_
    refine a_cmp (b := true) hf rfl rfl rfl rfl rfl (by first | assumption | ((try dsimp only); simp only [decide_eq_true_eq, decide_eq_false_iff_not, beq_iff_eq, bne_iff_ne, beq_eq_false_iff_ne, bne_eq_false_iff_eq, ne_eq] <;> omega)) rfl ?_; clear hf; intro _ hf
    refine wpList_nil ?_
    simp only [Exit.then, Exit.inBlock]
    go_step
    refine wp_seq_k ?_
    intro _ _
    refine c_condT hf rfl ?_
    refine wp_skip ?_
    simp only [Exit.then]
    go_step
    refine wp_seq_k ?_
    intro _ _
    refine wp_block ?_
    refine wp_seq_k ?_
    intro _ _
    refine wp_region_lit ?_
    refine a_index (j := k) hf rfl rfl rfl rfl (by first | rfl | omega) (by omega) rfl ?_; clear hf; intro _ hf
    refine a_load43 hf rfl rfl (by exact g0) (by exact g1) (by exact g2) (by exact g3) (by exact g4) (by exact g5) (by exact g6) (by exact g7) (by exact g8) (by exact g9) (by exact g10) (by exact g11) rfl ?_; clear hf; intro _ hf
    refine a_alloc43 hf rfl rfl ?_; clear hf; intro _ hf
    refine a_store43 hf rfl rfl rfl (heap_alloc_new wr _) rfl ?_; clear hf; intro _ w2 hf hA hM
    refine wpList_nil ?_
    simp only [Exit.then, Exit.inBlock]
    go_step
    have hM2 : Below wr.heap.size wr w2 := bel_modG (bel_alloc (Below.refl _ _) _) hM (Nat.le_refl _)
    have hr2 := HR8.out.below hM2
    clear hM g0 g1 g2 g3 g4 g5 g6 g7 g8 g9 g10 g11
    refine wp_seq_k ?_
    intro _ _
    refine wp_region_lit ?_
    refine a_field hf rfl rfl rfl rfl ?_; clear hf; intro _ hf
    refine a_load hf rfl rfl rfl (by exact blk_cell hA 8) rfl ?_; clear hf; intro _ hf
    refine a_call1 hf e70 rfl rfl rfl ?_; clear hf; refine (clone_ints B8 d8 x.facts _ (by omega) hr2).mono ?_; rintro _ w3 ⟨A9, c9, rfl, hc9, _, hrf, hb3, _⟩; intro _ hf
    refine a_field hf rfl rfl rfl rfl ?_; clear hf; intro _ hf
    have hA3 := (hb3.block _ (blk_lt hA)).trans hA
    refine a_store hf rfl rfl rfl rfl rfl (by exact blk_cell hA3 8) (by exact blk_free hA3 _) ?_; clear hf; intro _ hf
    refine wpList_nil ?_
    simp only [Exit.then, Exit.inBlock]
    go_step
    have hA4 : (w3.setCell ⟨wr.heap.size, 8, none⟩ (.slice A9 x.facts.length c9)).heap[wr.heap.size]? = some (.cells #[.int .i64 x.kind, .int .i64 x.minute, .int .i64 x.paper, .int .i64 x.case_, .int .i64 x.by_, .int .i64 x.against, .int .i64 x.art, .int .i64 x.at_, .slice A9 x.facts.length c9, .int .i64 x.paid, .bool x.up, .int .i64 x.pen] 43 (0, 0)) := blk_set hA3 8 _
    have hs2 := hM2.size
    have hs3 := hb3.size
    have hlA := blk_lt hA
    have hM4 : Mod (fun k => k = wr.heap.size) w3 (w3.setCell ⟨wr.heap.size, 8, none⟩ (.slice A9 x.facts.length c9)) := Mod.put1 Mod.refl 8 _
    have hb4 : Below wr.heap.size wr (w3.setCell ⟨wr.heap.size, 8, none⟩ (.slice A9 x.facts.length c9)) := bel_modG (bel_then hM2 hb3) hM4 (Nat.le_refl _)
    have hr4 : RI (fun k => wr.heap.size < k) (w3.setCell ⟨wr.heap.size, 8, none⟩ (.slice A9 x.facts.length c9)) A9 x.facts := (hrf.mono (fun k hk _ => by omega)).move (fun k hk hl => hM4.block k hl (by omega))
    change Code.wp _ _ _ _ (w3.setCell ⟨wr.heap.size, 8, none⟩ (.slice A9 x.facts.length c9))
    have hs4 : w3.heap.size = (w3.setCell ⟨wr.heap.size, 8, none⟩ (.slice A9 x.facts.length c9)).heap.size := (set_size _ _ _).symm
    generalize (w3.setCell ⟨wr.heap.size, 8, none⟩ (.slice A9 x.facts.length c9)) = w4 at *
    have HO4 := own_below HO.out hb4
    clear hM4 hA3 hA hrf hr2
    refine wp_region_lit ?_
    refine a_move hf rfl rfl rfl ?_; clear hf; intro _ hf
    refine a_load43b hf rfl rfl hA4 rfl ?_; clear hf; intro _ hf
    refine a_one34 hf rfl rfl rfl ?_; clear hf; intro _ hf
    refine wpList_append_lies _ rfl _ _ 34 rfl w.heap.size 43 i43 _ 12 112 Try.underlying34 hi43 hz0 hz1 hz2 rfl (by decide) v k cs.flatten (hf.at_ 22 _ rfl) (own_below HO4 (bel_alloc (Below.refl _ w4) _)) ⟨w4.heap.size, 0, none⟩ 1 1 (actCells x A9 c9) (hf.at_ 24 _ rfl) rfl (World.news_of_block (cs := #[.int .i64 x.kind, .int .i64 x.minute, .int .i64 x.paper, .int .i64 x.case_, .int .i64 x.by_, .int .i64 x.against, .int .i64 x.art, .int .i64 x.at_, .slice A9 x.facts.length c9, .int .i64 x.paid, .bool x.up, .int .i64 x.pen]) (t := 43) (fr := (0, 0)) (heap_alloc_new w4 _)) (actCells_one x A9 c9) (by decide) (by simp only [maxLen]; omega) (by omega) (by have := HW.out.size; have := hb4.size; simp; omega) _ rfl ?_
    intro g8 cap8 w8 hown8 hgrow8 hat8 hlt8
    have HB4 := bel_then HW.out hb4
    have hB8 : Below w.heap.size w w8 := (bel_alloc HB4 _).grown hgrow8 (by have := HB4.size; simp; omega) (own_base HO4)
    replace hf := hf.put (d := 25) (v := .slice (some ⟨g8, 0, none⟩) (k + 1) cap8) rfl
    refine a_assign hf rfl rfl rfl ?_; clear hf; intro _ hf
    refine wpList_nil ?_
    simp only [Exit.then, Exit.inBlock]
    have hkeep : ∀ j, j < w4.heap.size → v.ownBlock ≠ some j → w8.heap[j]? = w4.heap[j]? := fun j hj hne => (hgrow8.block j (by simp; omega) (fun e => hne e.symm)).trans (Below.heap_alloc w4 _ j hj)
    have hvlt : ∀ j, v.ownBlock = some j → j < wr.heap.size := fun j hj => own_lt' HO.out j hj
    have hs8 := hgrow8.size
    have hAD : ActsAre (fun j => D j ∨ (wr.heap.size < j ∧ j < w4.heap.size)) w8 (acts.take k) cs := ((ActsAre.move HA.out.1 (fun j _ hl => hb4.block j hl)).move (fun j hj hl => hkeep j hl (HA.out.2 j hj).2)).mono (fun j hj _ => .inl hj)
    have hrD : RI (fun j => D j ∨ (wr.heap.size < j ∧ j < w4.heap.size)) w8 A9 x.facts := (hr4.mono (D' := fun j => wr.heap.size < j ∧ j < w4.heap.size) (fun j hj hl => ⟨hj, hl⟩)).move (fun j hj hl => hkeep j hl (fun e => by have := hvlt j e; omega)) |>.mono (fun j hj _ => .inr hj)
    go_step
    refine wp_region_lit ?_
    refine a_ar hf rfl rfl rfl rfl (by (try dsimp only); omega) rfl ?_; clear hf; intro _ hf
    refine a_move hf rfl rfl rfl ?_; clear hf; intro _ hf
    refine wpList_nil ?_
    simp only [Exit.then, Exit.inBlock]
    refine ⟨acts.length - (k + 1), by omega, k + 1, _, cs ++ [actCells x A9 c9], _, by omega, rfl, (((((hf.nilOf).cons (d := 12) (hf.at_ 12 _ rfl)).cons (d := 13) (hf.at_ 13 _ rfl)).cons (d := 3) (hf.at_ 3 _ rfl)).cons (d := 14) (hf.at_ 14 _ rfl)), ⟨by rw [List.flatten_append, List.flatten_singleton]; exact hown8⟩, ⟨by rw [HT.out]; exact hAD.snoc x A9 c9 hc9 hrD, fun j hj => ⟨?_, fun e => ?_⟩⟩, hB8⟩
    · rcases hj with hj | hj
      · have := (HA.out.2 j hj).1
        simp at hs8
        omega
      · simp at hs8
        omega
    · have hgj : g8 = j := by simpa [Value.ownBlock] using e
      subst hgj
      rcases hat8 with e' | e'
      · rcases hj with hj | hj
        · exact (HA.out.2 g8 hj).2 e'
        · have := hvlt g8 e'; omega
      · simp at e'
        rcases hj with hj | hj
        · have := (HA.out.2 g8 hj).1; omega
        · omega
  · have hke : k = acts.length := by omega
    have HAL := Aside.mk (show acts.take k = acts by rw [hke, List.take_length])
    have HO' := HO.out
    have HA' := HA.out.1
    rw [HAL.out] at HA'
    rw [hke] at HO'
    obtain ⟨A9, c9, rfl, hc9, _, hrf⟩ := own_acts HO' HA'
    refine wp_seq_k ?_
    intro _ _
    refine wp_region_lit ?_
    refine a_cmp (b := false) hf rfl rfl rfl rfl rfl (by first | assumption | ((try dsimp only); simp only [decide_eq_true_eq, decide_eq_false_iff_not, beq_iff_eq, bne_iff_ne, beq_eq_false_iff_ne, bne_eq_false_iff_eq, ne_eq] <;> omega)) rfl ?_; clear hf; intro _ hf
    refine wpList_nil ?_
    simp only [Exit.then, Exit.inBlock]
    go_step
    refine wp_seq_k ?_
    intro _ _
    refine c_condF hf rfl ?_
    refine wp_exit ?_
    simp only [Exit.then, Exit.inBlock, ↓reduceIte]
    go_step
    refine wp_seq_k ?_
    intro _ _
    refine wp_region_lit ?_
    refine a_move hf rfl rfl rfl ?_; clear hf; intro _ hf
    refine a_assign hf rfl rfl rfl ?_; clear hf; intro _ hf
    refine wpList_nil ?_
    simp only [Exit.then, Exit.inBlock]
    go_step
    refine wp_ret ?_
    exact c_ret hf rfl rfl ⟨A9, c9, rfl, hc9, hrf, HW.out⟩
end Go.Proofs.Ytpadgcomncljmaa.A
/- The reference's code and version; the statements' own guards. -/
namespace Go.Proofs.Ytpadgcomncljmaa.A
open Go.RowKit

def fitB (n : Nat) : Bool := decide (n ≤ 20) || (decide (500 < n) && decide (n < 600))
set_option maxHeartbeats 1000000 in
theorem fit_any (cars win sec fee price : Int) (A : Option Addr) (cap n : Nat) (w : World) :
    Calls Try.prog 21 #[.agg #[.int .i64 cars, .slice A n cap, .int .i64 win, .int .i64 sec, .int .i64 fee, .int .i64 price]] w fun e w' => e = .returned (.bool (fitB n)) ∧ Below w.heap.size w w' := by
  go_enter Try.func21, Try.ntmps21
  go_wp2
  all_goals
    go_ret
    exact ⟨ret_eq (by unfold fitB; show Value.bool _ = Value.bool _; congr 1; rw [Bool.eq_iff_iff]; simp; omega), bel_alloc (Below.refl _ _) _⟩

def rightB (cars car min : Int) : Bool := decide (1 ≤ car) && decide (car ≤ cars) && decide (0 ≤ min) && decide (min ≤ 10000000)
set_option maxHeartbeats 1000000 in
theorem right_any (cars win sec fee price : Int) (A : Option Addr) (cap n : Nat) (car min : Int) (w : World) :
    Calls Try.prog 34 #[.agg #[.int .i64 cars, .slice A n cap, .int .i64 win, .int .i64 sec, .int .i64 fee, .int .i64 price], .int .i64 car, .int .i64 min] w fun e w' => e = .returned (.bool (rightB cars car min)) ∧ Below w.heap.size w w' := by
  go_enter Try.func34, Try.ntmps34
  go_wp2
  all_goals
    go_ret
    exact ⟨ret_eq (by unfold rightB; simp; omega), bel_alloc (Below.refl _ _) _⟩

theorem artLt_iff (y x : Art) : artLt y x = true ↔ ¬ (x.num < y.num ∨ (x.num = y.num ∧ x.since ≤ y.since)) := by
  unfold artLt; rw [decide_eq_true_iff]; omega

set_option maxHeartbeats 2000000 in
set_option maxRecDepth 100000 in
theorem refCode_any (cars win sec fee price : Int) (A : Option Addr) (cap : Nat) (l : List Art) (w : World) (hl : RArt Any w A l) (hn : l.length ≤ 1000000) :
    Calls Try.prog 23 #[.agg #[.int .i64 cars, .slice A l.length cap, .int .i64 win, .int .i64 sec, .int .i64 fee, .int .i64 price]] w fun e w' => e = .returned (.bool (codeB cars win sec fee price l)) ∧ Below w.heap.size w w' := by
  have HL := Aside.mk hl
  clear hl
  have hu71 := Try.underlying71
  by_cases hh : codeHead cars l.length win sec fee price = true
  rotate_left
  · have HH := Aside.mk hh
    clear hh
    go_enter Try.func23, Try.ntmps23
    go_wp2_with (go_at_call 55; refine (in_any _ _ _ _).mono ?_; rintro e w' ⟨rfl, rfl⟩)
    all_goals first
      | (go_ret; exact ⟨ret_eq (by rw [show codeB cars win sec fee price l = false by simp [codeB, HH.out]]; rfl), bel_alloc (Below.refl _ _) _⟩)
      | (exfalso; have := HH.out; simp_all [codeHead]; done)
  have hh' := hh
  simp only [codeHead, Bool.and_eq_true] at hh'
  obtain ⟨⟨⟨⟨⟨h1, h2⟩, h3⟩, h4⟩, h5⟩, h6⟩ := hh'
  have HE := Aside.mk (head_split h1 h2 h3 h4 h5 h6)
  clear hh
  go_enter Try.func23, Try.ntmps23
  go_wp2_with (go_at_call 55; refine (in_any _ _ _ _).mono ?_; rintro e w' ⟨rfl, rfl⟩)
  go_loopw [3] (fun v3 wr => ∃ k : Nat, k ≤ l.length ∧ v3 = .int .i64 k ∧ Aside (codeB cars win sec fee price l = artsB (prev l k) (l.drop k)) ∧ Aside (wr.heap[w.heap.size]? = some (.cells #[.int .i64 cars, .slice A l.length cap, .int .i64 win, .int .i64 sec, .int .i64 fee, .int .i64 price] 33 (0, 0))) ∧ Below w.heap.size w wr) (fun i _ => l.length - (intOf i).toNat)
  case atStart => exact ⟨0, Nat.zero_le _, rfl, HE, ⟨heap_alloc_new w _⟩, bel_alloc (Below.refl _ _) _⟩
  case round =>
    obtain ⟨k, hk, rfl, HE, HW, hB⟩ := hrel
    have HB := Aside.mk hB
    clear hB
    have hc1 : wr.cell? ⟨w.heap.size, 1, none⟩ = some (.slice A l.length cap) := (cell_of_row wr _ 1 _ _ _ HW.out).trans rfl
    have hlw : w.heap.size < wr.heap.size := (Array.getElem?_eq_some_iff.1 HW.out).1
    by_cases hlt : k < l.length
    · obtain ⟨x, hx⟩ := get_some hlt
      have HX := Aside.mk hx
      have HD := Aside.mk (drop_get hx)
      obtain ⟨ad, rfl, _, h0, h1, h2, h3⟩ := (HL.out.below HB.out) k x hx
      clear hx
      by_cases hok : artOk x = true
      rotate_left
      · have HO := Aside.mk (show artOk x = false by simpa using hok)
        clear hok
        go_wp2_with (go_at_call 55; refine (in_any _ _ _ _).mono ?_; rintro e w' ⟨rfl, rfl⟩)
        all_goals first
          | (go_ret; exact ⟨ret_eq (by rw [HE.out, HD.out, arts_bad HO.out]; rfl), bel_alloc HB.out _⟩)
          | (exfalso; have := HO.out; simp_all [artOk]; done)
          | (exfalso; have := HO.out; simp_all [artOk]; omega)
      have HO := Aside.mk hok
      simp only [artOk, Bool.and_eq_true, decide_eq_true_eq] at hok
      obtain ⟨⟨⟨o1, o2⟩, o3⟩, o4⟩ := hok
      by_cases hk0 : 0 < k
      · obtain ⟨y, hy⟩ := get_some (show k - 1 < l.length by omega)
        obtain ⟨ad', had, _, g0, g1, g2, g3⟩ := (HL.out.below HB.out) (k - 1) y hy
        cases had
        have HY := Aside.mk (show prev l k = some y by unfold prev; rw [if_neg (by omega)]; exact hy)
        clear hy
        replace g0 := cell_alloc g0
        replace g1 := cell_alloc g1
        have hi : ((k : Int) - 1).toNat = k - 1 := by omega
        have hb0 : (0 : Int) ≤ (k : Int) - 1 := by omega
        have hb1 : (k : Int) - 1 < (l.length : Int) := by omega
        by_cases ha : x.num < y.num
        · have had : decide (x.num < y.num) = true := decide_eq_true ha
          have HLT := Aside.mk (show artLt y x = false by rw [← Bool.not_eq_true, artLt_iff]; omega)
          clear ha
          go_wp2_with (go_at_call 55; refine (in_any _ _ _ _).mono ?_; rintro e w' ⟨rfl, rfl⟩)
          go_quiet (fail)
          go_wp2
          go_ret
          exact ⟨ret_eq (by rw [HE.out, HD.out, HY.out, arts_stop HLT.out]; rfl), bel_drewN (bel_alloc HB.out _) _⟩
        have had : decide (x.num < y.num) = false := decide_eq_false ha
        by_cases hb : x.num = y.num
        · have hbd : (x.num == y.num) = true := by simp [hb]
          by_cases hc : x.since ≤ y.since
          · have hcd : decide (x.since ≤ y.since) = true := decide_eq_true hc
            have HLT := Aside.mk (show artLt y x = false by rw [← Bool.not_eq_true, artLt_iff]; omega)
            clear ha hb hc
            go_wp2_with (go_at_call 55; refine (in_any _ _ _ _).mono ?_; rintro e w' ⟨rfl, rfl⟩)
            go_quiet (fail)
            go_wp2
            go_ret
            exact ⟨ret_eq (by rw [HE.out, HD.out, HY.out, arts_stop HLT.out]; rfl), bel_drewN (bel_alloc HB.out _) _⟩
          · have hcd : decide (x.since ≤ y.since) = false := decide_eq_false hc
            have HLT := Aside.mk (show artLt y x = true by exact (artLt_iff y x).2 (by omega))
            clear ha hb hc
            go_wp2_with (go_at_call 55; refine (in_any _ _ _ _).mono ?_; rintro e w' ⟨rfl, rfl⟩)
            go_quiet (fail)
            go_wp2
            go_roundw
            case rel => exact ⟨k + 1, by omega, by go_num, ⟨by rw [HE.out, HD.out, HY.out, prev_succ l k x HX.out, arts_next HO.out HLT.out]⟩, ⟨(Below.heap_alloc wr _ _ hlw).trans HW.out⟩, bel_drewN (bel_alloc HB.out _) _⟩
            case measure => simp [intOf]; omega
        · have hbd : (x.num == y.num) = false := by simp [hb]
          have HLT := Aside.mk (show artLt y x = true by exact (artLt_iff y x).2 (by omega))
          clear ha hb
          go_wp2_with (go_at_call 55; refine (in_any _ _ _ _).mono ?_; rintro e w' ⟨rfl, rfl⟩)
          go_quiet (fail)
          go_wp2
          go_roundw
          case rel => exact ⟨k + 1, by omega, by go_num, ⟨by rw [HE.out, HD.out, HY.out, prev_succ l k x HX.out, arts_next HO.out HLT.out]⟩, ⟨(Below.heap_alloc wr _ _ hlw).trans HW.out⟩, bel_drewN (bel_alloc HB.out _) _⟩
          case measure => simp [intOf]; omega
      · have hk1 : k < 1 := by omega
        have HP := Aside.mk (show prev l k = none by unfold prev; rw [if_pos (by omega)])
        have hd0 : decide (0 < k) = false := decide_eq_false hk0
        clear hk0
        go_wp2_with (go_at_call 55; refine (in_any _ _ _ _).mono ?_; rintro e w' ⟨rfl, rfl⟩)
        go_quiet (fail)
        go_wp2
        go_roundw
        case rel => exact ⟨k + 1, by omega, by go_num, ⟨by rw [HE.out, HD.out, HP.out, prev_succ l k x HX.out, arts_first HO.out]⟩, ⟨(Below.heap_alloc wr _ _ hlw).trans HW.out⟩, bel_drewN (bel_alloc HB.out _) _⟩
        case measure => simp [intOf]; omega
    · have hke : k = l.length := by omega
      have HK := Aside.mk (show codeB cars win sec fee price l = true by rw [HE.out, hke]; simp [artsB])
      clear hke
      go_wp2
      go_ret
      exact ⟨ret_eq (by rw [HK.out]; rfl), HB.out⟩
end Go.Proofs.Ytpadgcomncljmaa.A
/- The law of codes: its walk. -/
namespace Go.Proofs.Ytpadgcomncljmaa.A
open Go.RowKit
section
variable {ops : Array Oper} {Q : Exit → Act → World → Prop} {a : Act} {w : World} {rest : List Oper} {n d : Nat} {ds : List Deferred} {l : List (Nat × Value)} {t : TypeId} {ps : String} {af : Array Edge} {g : Option (Nat × Bool)} {x : Operand} {p : Option Addr}
theorem a_eqN (H : Has n ds l a) (hg : wantB ops n l g = some true) (hx : lookO l x = some (.pointer p)) (hd : Nat.ble (d + 1) n = true) (h : ∀ a', Has n ds ((d, .bool p.isNone) :: l) a' → wpList Try.prog ops Q rest a' w) : wpList Try.prog ops Q (⟨some d, .binOp .eql 37 x (.const (.pointer none)) 37, t, ps, af, g⟩ :: rest) a w :=
  a_do H hg (by have h1 := H.evO hx; have h2 := H.evO (x := .const (.pointer none)) rfl; generalize a.eval = ev at h1 h2; cases p <;> simp [go_sem, h1, h2]) rfl hd h
theorem a_neN (H : Has n ds l a) (hg : wantB ops n l g = some true) (hx : lookO l x = some (.pointer p)) (hd : Nat.ble (d + 1) n = true) (h : ∀ a', Has n ds ((d, .bool p.isSome) :: l) a' → wpList Try.prog ops Q rest a' w) : wpList Try.prog ops Q (⟨some d, .binOp .neq 37 x (.const (.pointer none)) 37, t, ps, af, g⟩ :: rest) a w :=
  a_do H hg (by have h1 := H.evO hx; have h2 := H.evO (x := .const (.pointer none)) rfl; generalize a.eval = ev at h1 h2; cases p <;> simp [go_sem, h1, h2]) rfl hd h
end
theorem fit_as (C : CodeL) (A : Option Addr) (c : Nat) (b : Bool) (hb : fitB C.arts.length = b) (w : World) : Calls Try.prog 21 #[.agg #[.int .i64 C.cars, .slice A C.arts.length c, .int .i64 C.win, .int .i64 C.sec, .int .i64 C.fee, .int .i64 C.price]] w fun e w' => e = .returned (.bool b) ∧ Below w.heap.size w w' := by
  subst hb
  exact fit_any C.cars C.win C.sec C.fee C.price A c C.arts.length w
theorem refCode_as (C : CodeL) (A : Option Addr) (c : Nat) (b : Bool) (hb : codeOk C = b) (w : World) (hl : RArt Any w A C.arts) (hn : C.arts.length ≤ 1000000) : Calls Try.prog 23 #[.agg #[.int .i64 C.cars, .slice A C.arts.length c, .int .i64 C.win, .int .i64 C.sec, .int .i64 C.fee, .int .i64 C.price]] w fun e w' => e = .returned (.bool b) ∧ Below w.heap.size w w' := by
  subst hb
  exact refCode_any C.cars C.win C.sec C.fee C.price A c C.arts w hl hn
theorem version_as (C : CodeL) (A : Option Addr) (c : Nat) (art min : Int) (X : Art) (k : Int) (hx : versionR C art min = (X, k)) (w : World) (hl : RArt Any w A C.arts) (hn : C.arts.length ≤ 1000000) :
    Calls Try.prog 39 #[.agg #[.int .i64 C.cars, .slice A C.arts.length c, .int .i64 C.win, .int .i64 C.sec, .int .i64 C.fee, .int .i64 C.price], .int .i64 art, .int .i64 min] w fun e w' => e = .returned (.tuple #[artV X, .int .i64 k]) ∧ Below w.heap.size w w' := by
  have := version39_any C A c art min w hl hn
  rw [hx] at this
  exact this
theorem refVersion_as (C : CodeL) (A : Option Addr) (c : Nat) (art min : Int) (o : Option Art) (hx : verO C.arts art min = o) (w : World) (hl : RArt Any w A C.arts) (hn : C.arts.length ≤ 1000000) :
    Calls Try.prog 40 #[.agg #[.int .i64 C.cars, .slice A C.arts.length c, .int .i64 C.win, .int .i64 C.sec, .int .i64 C.fee, .int .i64 C.price], .int .i64 art, .int .i64 min] w fun e w' => e = .returned (.tuple #[artV (o.getD zeroArt), .bool o.isSome]) ∧ Below w.heap.size w w' := by
  subst hx
  exact refVersion_any C A c art min w hl hn
theorem fit_len {n : Nat} (h : fitB n = true) : n ≤ 1000000 := by
  simp only [fitB, Bool.or_eq_true, Bool.and_eq_true, decide_eq_true_eq] at h
  omega
theorem no_acts (n0 : Nat) (g : Nat) (C : CodeL) (w : World) (h : Crt n0 w g C [] []) : Calls Try.prog 29 #[.pointer (some ⟨g, 0, none⟩)] w fun e w' => (∃ A c, e = .returned (.slice A 0 c)) ∧ Below w.heap.size w w' :=
  (acts_any g C [] [] w h.reads (by simp)).mono fun e w' ⟨A, c, he, _, _, hb⟩ => ⟨⟨A, c, he⟩, hb⟩
set_option maxHeartbeats 4000000 in
set_option maxRecDepth 100000 in
theorem walk_AppealCodes (C : CodeL) (A : Option Addr) (c : Nat) (art min : Int) (w : World) (hlc : C.arts.length ≤ c) (hm : c ≤ maxLen) (hl : RArt Any w A C.arts) (hw1 : (Lit.int .i64 art).wf = true) (hw2 : (Lit.int .i64 min).wf = true) :
    Calls Try.prog 7 #[.agg #[.int .i64 C.cars, .slice A C.arts.length c, .int .i64 C.win, .int .i64 C.sec, .int .i64 C.fee, .int .i64 C.price], .int .i64 art, .int .i64 min] w fun e w' => e = .returned (.bool true) ∧ Below w.heap.size w w' := by
  have HL := Aside.mk hl
  have h3 : (w.alloc (.cells #[.int .i64 C.cars, .slice A C.arts.length c, .int .i64 C.win, .int .i64 C.sec, .int .i64 C.fee, .int .i64 C.price] 33)).heap[w.heap.size]? = some (.cells #[.int .i64 C.cars, .slice A C.arts.length c, .int .i64 C.win, .int .i64 C.sec, .int .i64 C.fee, .int .i64 C.price] 33 (0, 0)) := heap_alloc_new w _
  have hB : Below w.heap.size w (w.alloc (.cells #[.int .i64 C.cars, .slice A C.arts.length c, .int .i64 C.win, .int .i64 C.sec, .int .i64 C.fee, .int .i64 C.price] 33)) := bel_alloc (Below.refl _ _) _
  clear hl
  go_enter Try.func7, Try.ntmps7
  refine wp_abs (n := 123) (ds := []) (l := [(0, .agg #[.int .i64 C.cars, .slice A C.arts.length c, .int .i64 C.win, .int .i64 C.sec, .int .i64 C.fee, .int .i64 C.price]), (1, .int .i64 art), (2, .int .i64 min)]) ?_ ?_
  · refine (((Has.nil ?_ ?_).cons ?_).cons ?_).cons ?_
    all_goals first | rfl | (simp [Act.eval]; done)
  intro _ hf
  refine wp_seq_k ?_
  intro _ _
  refine wp_region_lit ?_
  refine a_box hf rfl rfl rfl rfl ?_; clear hf; intro _ hf
  refine a_assign hf rfl rfl rfl ?_; clear hf; intro _ hf
  refine wpList_nil ?_
  simp only [Exit.then, Exit.inBlock]
  go_step
  change Code.wp _ _ _ _ (w.alloc (.cells #[.int .i64 C.cars, .slice A C.arts.length c, .int .i64 C.win, .int .i64 C.sec, .int .i64 C.fee, .int .i64 C.price] 33))
  generalize (w.alloc (.cells #[.int .i64 C.cars, .slice A C.arts.length c, .int .i64 C.win, .int .i64 C.sec, .int .i64 C.fee, .int .i64 C.price] 33)) = W0 at *
  refine wp_seq_k ?_
  intro _ _
  refine wp_seq_k ?_
  intro _ _
  cases hfit : fitB C.arts.length with
  | false =>
    refine wp_region_lit ?_
    refine a_load33b hf rfl rfl (by exact h3) rfl ?_; clear hf; intro _ hf
    refine a_call1 hf e21 rfl rfl rfl ?_; clear hf; refine (fit_as C A c false hfit _).mono ?_; rintro _ w1 ⟨rfl, hb⟩; replace hB := bel_then hB hb; replace h3 := (hb.block _ (blk_lt h3)).trans h3; clear hb; intro _ hf
    refine a_not_ hf rfl rfl rfl ?_; clear hf; intro _ hf
    refine wpList_nil ?_
    simp only [Exit.then, Exit.inBlock]
    go_step
    refine c_condT hf rfl ?_
    refine wp_seq_k ?_
    intro _ _
    refine wp_region_lit ?_
    refine a_call0 hf e16 rfl rfl ?_; clear hf; refine (known_any _).mono ?_; rintro _ w1 ⟨rfl, hb⟩; replace hB := bel_then hB hb; replace h3 := (hb.block _ (blk_lt h3)).trans h3; clear hb; intro _ hf
    refine a_assign hf rfl rfl rfl ?_; clear hf; intro _ hf
    refine wpList_nil ?_
    simp only [Exit.then, Exit.inBlock]
    go_step
    refine wp_ret ?_
    try simp only [Exit.then, Exit.inBlock]
    exact c_ret hf rfl rfl ⟨rfl, hB⟩
  | true =>
  have hn := fit_len hfit
  refine wp_region_lit ?_
  refine a_load33b hf rfl rfl (by exact h3) rfl ?_; clear hf; intro _ hf
  refine a_call1 hf e21 rfl rfl rfl ?_; clear hf; refine (fit_as C A c true hfit _).mono ?_; rintro _ w1 ⟨rfl, hb⟩; replace hB := bel_then hB hb; replace h3 := (hb.block _ (blk_lt h3)).trans h3; clear hb; intro _ hf
  refine a_not_ hf rfl rfl rfl ?_; clear hf; intro _ hf
  refine wpList_nil ?_
  simp only [Exit.then, Exit.inBlock]
  go_step
  refine c_condF hf rfl ?_
  refine wp_skip ?_
  simp only [Exit.then, Exit.inBlock]
  go_step
  cases hcode : codeOk C with
  | false =>
    have hv : versionR C art min = (zeroArt, 2) := by simp [versionR, hcode]
    refine wp_seq_k ?_
    intro _ _
    refine wp_region_lit ?_
    refine a_load33b hf rfl rfl (by exact h3) rfl ?_; clear hf; intro _ hf
    refine a_call1 hf e23 rfl rfl rfl ?_; clear hf; refine (refCode_as C A c false hcode _ (HL.out.below hB) hn).mono ?_; rintro _ w1 ⟨rfl, hb⟩; replace hB := bel_then hB hb; replace h3 := (hb.block _ (blk_lt h3)).trans h3; clear hb; intro _ hf
    refine a_assign hf rfl rfl rfl ?_; clear hf; intro _ hf
    refine wpList_nil ?_
    simp only [Exit.then, Exit.inBlock]
    go_step
    refine wp_seq_k ?_
    intro _ _
    refine wp_region_lit ?_
    refine a_load33b hf rfl rfl (by exact h3) rfl ?_; clear hf; intro _ hf
    refine a_call1 hf e24 rfl rfl rfl ?_; clear hf; refine (open_crt C A c _ (HL.out.below hB) hn).mono ?_; rintro _ w1 ⟨hb, ho, _⟩; obtain rfl := ho hcode; replace hB := bel_then hB hb; replace h3 := (hb.block _ (blk_lt h3)).trans h3; clear hb; intro _ hf
    refine a_move hf rfl rfl rfl ?_; clear hf; intro _ hf
    refine a_extract hf rfl rfl rfl rfl ?_; clear hf; intro _ hf
    refine a_extract hf rfl rfl rfl rfl ?_; clear hf; intro _ hf
    refine a_assign hf rfl rfl rfl ?_; clear hf; intro _ hf
    refine a_assign hf rfl rfl rfl ?_; clear hf; intro _ hf
    refine wpList_nil ?_
    simp only [Exit.then, Exit.inBlock]
    go_step
    refine wp_seq_k ?_
    intro _ _
    refine wp_region_lit ?_
    refine a_load33b hf rfl rfl (by exact h3) rfl ?_; clear hf; intro _ hf
    refine a_move hf rfl rfl rfl ?_; clear hf; intro _ hf
    refine a_move hf rfl rfl rfl ?_; clear hf; intro _ hf
    refine a_call3 hf e39 rfl rfl rfl rfl rfl ?_; clear hf; refine (version_as C A c art min zeroArt 2 hv _ (HL.out.below hB) hn).mono ?_; rintro _ w1 ⟨rfl, hb⟩; replace hB := bel_then hB hb; replace h3 := (hb.block _ (blk_lt h3)).trans h3; clear hb; intro _ hf
    refine a_move hf rfl rfl rfl ?_; clear hf; intro _ hf
    refine a_extract hf rfl rfl rfl rfl ?_; clear hf; intro _ hf
    refine a_extract hf rfl rfl rfl rfl ?_; clear hf; intro _ hf
    refine a_alloc71 hf rfl rfl ?_; clear hf; intro _ hf
    refine a_store71 (X := zeroArt) hf rfl rfl rfl (heap_alloc_new w1 _) rfl ?_; clear hf; intro _ w2 hf h10 hM10
    refine a_assign hf rfl rfl rfl ?_; clear hf; intro _ hf
    refine wpList_nil ?_
    simp only [Exit.then, Exit.inBlock]
    go_step
    have hb10 : Below w1.heap.size w1 w2 := bel_modG (bel_alloc (Below.refl _ _) _) hM10 (Nat.le_refl _)
    replace hB := bel_then hB hb10
    replace h3 := (hb10.block _ (blk_lt h3)).trans h3
    clear hM10 hb10
    refine wp_seq_k ?_
    intro _ _
    refine wp_seq_k ?_
    intro _ _
    refine wp_region_lit ?_
    refine a_move hf rfl rfl rfl ?_; clear hf; intro _ hf
    refine a_not_ hf rfl rfl rfl ?_; clear hf; intro _ hf
    refine a_move hf rfl rfl rfl ?_; clear hf; intro _ hf
    (first | refine a_not hf rfl rfl rfl ?_ | refine a_move hf rfl rfl rfl ?_); clear hf; intro _ hf
    (first | refine a_not hf rfl rfl rfl ?_ | refine a_cmp hf rfl rfl rfl rfl rfl rfl rfl ?_); clear hf; intro _ hf
    (first | refine a_pickT hf rfl rfl rfl rfl ?_ | refine a_pickF hf rfl rfl rfl rfl ?_); clear hf; intro _ hf
    refine a_move hf rfl rfl rfl ?_; clear hf; intro _ hf
    (first | refine a_not hf rfl rfl rfl ?_ | refine a_move hf rfl rfl rfl ?_); clear hf; intro _ hf
    (first | refine a_not hf rfl rfl rfl ?_ | refine a_cmp hf rfl rfl rfl rfl rfl rfl rfl ?_); clear hf; intro _ hf
    (first | refine a_pickT hf rfl rfl rfl rfl ?_ | refine a_pickF hf rfl rfl rfl rfl ?_); clear hf; intro _ hf
    refine a_move hf rfl rfl rfl ?_; clear hf; intro _ hf
    (first | refine a_not hf rfl rfl rfl ?_ | refine a_move hf rfl rfl rfl ?_); clear hf; intro _ hf
    (first | refine a_not hf rfl rfl rfl ?_ | refine a_cmp hf rfl rfl rfl rfl rfl rfl rfl ?_); clear hf; intro _ hf
    (first | refine a_pickT hf rfl rfl rfl rfl ?_ | refine a_pickF hf rfl rfl rfl rfl ?_); clear hf; intro _ hf
    refine a_move hf rfl rfl rfl ?_; clear hf; intro _ hf
    (first | refine a_not hf rfl rfl rfl ?_ | refine a_move hf rfl rfl rfl ?_); clear hf; intro _ hf
    (first | refine a_not hf rfl rfl rfl ?_ | refine a_cmp hf rfl rfl rfl rfl rfl rfl rfl ?_); clear hf; intro _ hf
    (first | refine a_pickT hf rfl rfl rfl rfl ?_ | refine a_pickF hf rfl rfl rfl rfl ?_); clear hf; intro _ hf
    refine wpList_nil ?_
    simp only [Exit.then, Exit.inBlock]
    go_step
    refine c_condT hf rfl ?_
    refine wp_seq_k ?_
    intro _ _
    refine wp_region_lit ?_
    refine a_move hf rfl rfl rfl ?_; clear hf; intro _ hf
    refine a_cmp (b := false) hf rfl rfl rfl rfl rfl (by first | assumption | ((try dsimp only); simp only [decide_eq_true_eq, decide_eq_false_iff_not, beq_iff_eq, bne_iff_ne, beq_eq_false_iff_ne, bne_eq_false_iff_eq, ne_eq] <;> omega)) rfl ?_; clear hf; intro _ hf
    refine a_move hf rfl rfl rfl ?_; clear hf; intro _ hf
    (first | refine a_not hf rfl rfl rfl ?_ | refine a_load71b hf rfl rfl (by exact h10) rfl ?_); clear hf; intro _ hf
    (first | refine a_not hf rfl rfl rfl ?_ | refine a_zero71 hf rfl rfl ?_); clear hf; intro _ hf
    (first | refine a_not hf rfl rfl rfl ?_ | refine a_neq71 (b := false) hf rfl rfl rfl (by first | assumption | (rw [artEq_self]; rfl) | rfl) rfl ?_); clear hf; intro _ hf
    (first | refine a_pickT hf rfl rfl rfl rfl ?_ | refine a_pickF hf rfl rfl rfl rfl ?_); clear hf; intro _ hf
    refine wpList_nil ?_
    simp only [Exit.then, Exit.inBlock]
    go_step
    refine c_condF hf rfl ?_
    refine wp_skip ?_
    simp only [Exit.then, Exit.inBlock]
    go_step
    refine wp_seq_k ?_
    intro _ _
    refine wp_seq_k ?_
    intro _ _
    refine wp_region_lit ?_
    refine a_move hf rfl rfl rfl ?_; clear hf; intro _ hf
    refine a_not_ hf rfl rfl rfl ?_; clear hf; intro _ hf
    refine wpList_nil ?_
    simp only [Exit.then, Exit.inBlock]
    go_step
    refine c_condT hf rfl ?_
    refine wp_seq_k ?_
    intro _ _
    refine wp_region_lit ?_
    refine a_load33b hf rfl rfl (by exact h3) rfl ?_; clear hf; intro _ hf
    refine a_call1 hf e41 rfl rfl rfl ?_; clear hf; refine (check_code C A c 2 (by rw [hcode]; rfl) _ (HL.out.below hB) hn).mono ?_; rintro _ w1 ⟨rfl, hb⟩; replace hB := bel_then hB hb; replace h3 := (hb.block _ (blk_lt h3)).trans h3; clear hb; intro _ hf
    refine a_cmp hf rfl rfl rfl rfl rfl rfl rfl ?_; clear hf; intro _ hf
    refine a_move hf rfl rfl rfl ?_; clear hf; intro _ hf
    (first | refine a_not hf rfl rfl rfl ?_ | refine a_move hf rfl rfl rfl ?_); clear hf; intro _ hf
    (first | refine a_not hf rfl rfl rfl ?_ | refine a_cmp hf rfl rfl rfl rfl rfl rfl rfl ?_); clear hf; intro _ hf
    (first | refine a_pickT hf rfl rfl rfl rfl ?_ | refine a_pickF hf rfl rfl rfl rfl ?_); clear hf; intro _ hf
    refine a_move hf rfl rfl rfl ?_; clear hf; intro _ hf
    (first | refine a_not hf rfl rfl rfl ?_ | refine a_move hf rfl rfl rfl ?_); clear hf; intro _ hf
    (first | refine a_not hf rfl rfl rfl ?_ | refine a_eqN hf rfl rfl rfl ?_); clear hf; intro _ hf
    (first | refine a_pickT hf rfl rfl rfl rfl ?_ | refine a_pickF hf rfl rfl rfl rfl ?_); clear hf; intro _ hf
    refine a_move hf rfl rfl rfl ?_; clear hf; intro _ hf
    refine a_call0 hf e16 rfl rfl ?_; clear hf; refine (known_any _).mono ?_; rintro _ w1 ⟨rfl, hb⟩; replace hB := bel_then hB hb; replace h3 := (hb.block _ (blk_lt h3)).trans h3; clear hb; intro _ hf
    (first | refine a_pickT hf rfl rfl rfl rfl ?_ | refine a_pickF hf rfl rfl rfl rfl ?_); clear hf; intro _ hf
    refine a_assign hf rfl rfl rfl ?_; clear hf; intro _ hf
    refine wpList_nil ?_
    simp only [Exit.then, Exit.inBlock]
    go_step
    refine wp_ret ?_
    try simp only [Exit.then, Exit.inBlock]
    exact c_ret hf rfl rfl ⟨rfl, hB⟩
  | true =>
  refine wp_seq_k ?_
  intro _ _
  refine wp_region_lit ?_
  refine a_load33b hf rfl rfl (by exact h3) rfl ?_; clear hf; intro _ hf
  refine a_call1 hf e23 rfl rfl rfl ?_; clear hf; refine (refCode_as C A c true hcode _ (HL.out.below hB) hn).mono ?_; rintro _ w1 ⟨rfl, hb⟩; replace hB := bel_then hB hb; replace h3 := (hb.block _ (blk_lt h3)).trans h3; clear hb; intro _ hf
  refine a_assign hf rfl rfl rfl ?_; clear hf; intro _ hf
  refine wpList_nil ?_
  simp only [Exit.then, Exit.inBlock]
  go_step
  refine wp_seq_k ?_
  intro _ _
  refine wp_region_lit ?_
  refine a_load33b hf rfl rfl (by exact h3) rfl ?_; clear hf; intro _ hf
  refine a_call1 hf e24 rfl rfl rfl ?_; clear hf; refine (open_crt C A c _ (HL.out.below hB) hn).mono ?_; rintro _ w1 ⟨hb, _, ho⟩; obtain ⟨g, rfl, hK⟩ := ho hcode; have hn0 := hB.size; replace hK := hK.floor hn0; clear ho hn0; replace hB := bel_then hB hb; replace h3 := (hb.block _ (blk_lt h3)).trans h3; clear hb; intro _ hf
  refine a_move hf rfl rfl rfl ?_; clear hf; intro _ hf
  refine a_extract hf rfl rfl rfl rfl ?_; clear hf; intro _ hf
  refine a_extract hf rfl rfl rfl rfl ?_; clear hf; intro _ hf
  refine a_assign hf rfl rfl rfl ?_; clear hf; intro _ hf
  refine a_assign hf rfl rfl rfl ?_; clear hf; intro _ hf
  refine wpList_nil ?_
  simp only [Exit.then, Exit.inBlock]
  go_step
  by_cases q1 : art < 1
  · have hv : versionR C art min = (zeroArt, 2) := by
      unfold versionR
      rw [if_neg]
      simp only [Bool.and_eq_true, inB_iff]
      omega
    refine wp_seq_k ?_
    intro _ _
    refine wp_region_lit ?_
    refine a_load33b hf rfl rfl (by exact h3) rfl ?_; clear hf; intro _ hf
    refine a_move hf rfl rfl rfl ?_; clear hf; intro _ hf
    refine a_move hf rfl rfl rfl ?_; clear hf; intro _ hf
    refine a_call3 hf e39 rfl rfl rfl rfl rfl ?_; clear hf; refine (version_as C A c art min zeroArt 2 hv _ (HL.out.below hB) hn).mono ?_; rintro _ w1 ⟨rfl, hb⟩; replace hK := hK.below hb; replace hB := bel_then hB hb; replace h3 := (hb.block _ (blk_lt h3)).trans h3; clear hb; intro _ hf
    refine a_move hf rfl rfl rfl ?_; clear hf; intro _ hf
    refine a_extract hf rfl rfl rfl rfl ?_; clear hf; intro _ hf
    refine a_extract hf rfl rfl rfl rfl ?_; clear hf; intro _ hf
    refine a_alloc71 hf rfl rfl ?_; clear hf; intro _ hf
    refine a_store71 (X := zeroArt) hf rfl rfl rfl (heap_alloc_new w1 _) rfl ?_; clear hf; intro _ w2 hf h10 hM10
    refine a_assign hf rfl rfl rfl ?_; clear hf; intro _ hf
    refine wpList_nil ?_
    simp only [Exit.then, Exit.inBlock]
    go_step
    have hb10 : Below w1.heap.size w1 w2 := bel_modG (bel_alloc (Below.refl _ _) _) hM10 (Nat.le_refl _)
    replace hB := bel_then hB hb10
    replace h3 := (hb10.block _ (blk_lt h3)).trans h3
    replace hK := hK.below hb10
    clear hM10 hb10
    refine wp_seq_k ?_
    intro _ _
    refine wp_seq_k ?_
    intro _ _
    refine wp_region_lit ?_
    refine a_move hf rfl rfl rfl ?_; clear hf; intro _ hf
    refine a_not_ hf rfl rfl rfl ?_; clear hf; intro _ hf
    refine a_move hf rfl rfl rfl ?_; clear hf; intro _ hf
    (first | refine a_not hf rfl rfl rfl ?_ | refine a_move hf rfl rfl rfl ?_); clear hf; intro _ hf
    (first | refine a_not hf rfl rfl rfl ?_ | refine a_cmp (b := true) hf rfl rfl rfl rfl rfl (by first | assumption | ((try dsimp only); simp only [decide_eq_true_eq, decide_eq_false_iff_not, beq_iff_eq, bne_iff_ne, beq_eq_false_iff_ne, bne_eq_false_iff_eq, ne_eq] <;> omega)) rfl ?_); clear hf; intro _ hf
    (first | refine a_pickT hf rfl rfl rfl rfl ?_ | refine a_pickF hf rfl rfl rfl rfl ?_); clear hf; intro _ hf
    refine a_move hf rfl rfl rfl ?_; clear hf; intro _ hf
    (first | refine a_not hf rfl rfl rfl ?_ | refine a_move hf rfl rfl rfl ?_); clear hf; intro _ hf
    (first | refine a_not hf rfl rfl rfl ?_ | refine a_cmp hf rfl rfl rfl rfl rfl rfl rfl ?_); clear hf; intro _ hf
    (first | refine a_pickT hf rfl rfl rfl rfl ?_ | refine a_pickF hf rfl rfl rfl rfl ?_); clear hf; intro _ hf
    refine a_move hf rfl rfl rfl ?_; clear hf; intro _ hf
    (first | refine a_not hf rfl rfl rfl ?_ | refine a_move hf rfl rfl rfl ?_); clear hf; intro _ hf
    (first | refine a_not hf rfl rfl rfl ?_ | refine a_cmp hf rfl rfl rfl rfl rfl rfl rfl ?_); clear hf; intro _ hf
    (first | refine a_pickT hf rfl rfl rfl rfl ?_ | refine a_pickF hf rfl rfl rfl rfl ?_); clear hf; intro _ hf
    refine a_move hf rfl rfl rfl ?_; clear hf; intro _ hf
    (first | refine a_not hf rfl rfl rfl ?_ | refine a_move hf rfl rfl rfl ?_); clear hf; intro _ hf
    (first | refine a_not hf rfl rfl rfl ?_ | refine a_cmp hf rfl rfl rfl rfl rfl rfl rfl ?_); clear hf; intro _ hf
    (first | refine a_pickT hf rfl rfl rfl rfl ?_ | refine a_pickF hf rfl rfl rfl rfl ?_); clear hf; intro _ hf
    refine wpList_nil ?_
    simp only [Exit.then, Exit.inBlock]
    go_step
    refine c_condT hf rfl ?_
    refine wp_seq_k ?_
    intro _ _
    refine wp_region_lit ?_
    refine a_move hf rfl rfl rfl ?_; clear hf; intro _ hf
    refine a_cmp (b := false) hf rfl rfl rfl rfl rfl (by first | assumption | ((try dsimp only); simp only [decide_eq_true_eq, decide_eq_false_iff_not, beq_iff_eq, bne_iff_ne, beq_eq_false_iff_ne, bne_eq_false_iff_eq, ne_eq] <;> omega)) rfl ?_; clear hf; intro _ hf
    refine a_move hf rfl rfl rfl ?_; clear hf; intro _ hf
    (first | refine a_not hf rfl rfl rfl ?_ | refine a_load71b hf rfl rfl (by exact h10) rfl ?_); clear hf; intro _ hf
    (first | refine a_not hf rfl rfl rfl ?_ | refine a_zero71 hf rfl rfl ?_); clear hf; intro _ hf
    (first | refine a_not hf rfl rfl rfl ?_ | refine a_neq71 (b := false) hf rfl rfl rfl (by first | assumption | (rw [artEq_self]; rfl) | rfl) rfl ?_); clear hf; intro _ hf
    (first | refine a_pickT hf rfl rfl rfl rfl ?_ | refine a_pickF hf rfl rfl rfl rfl ?_); clear hf; intro _ hf
    refine wpList_nil ?_
    simp only [Exit.then, Exit.inBlock]
    go_step
    refine c_condF hf rfl ?_
    refine wp_skip ?_
    simp only [Exit.then, Exit.inBlock]
    go_step
    refine wp_seq_k ?_
    intro _ _
    refine wp_seq_k ?_
    intro _ _
    refine wp_region_lit ?_
    refine a_move hf rfl rfl rfl ?_; clear hf; intro _ hf
    refine a_not_ hf rfl rfl rfl ?_; clear hf; intro _ hf
    refine wpList_nil ?_
    simp only [Exit.then, Exit.inBlock]
    go_step
    refine c_condF hf rfl ?_
    refine wp_skip ?_
    simp only [Exit.then, Exit.inBlock]
    go_step
    refine wp_seq_k ?_
    intro _ _
    refine wp_region_lit ?_
    refine a_load33b hf rfl rfl (by exact h3) rfl ?_; clear hf; intro _ hf
    refine a_call1 hf e41 rfl rfl rfl ?_; clear hf; refine (check_code C A c 0 (by rw [hcode]; rfl) _ (HL.out.below hB) hn).mono ?_; rintro _ w1 ⟨rfl, hb⟩; replace hB := bel_then hB hb; replace h3 := (hb.block _ (blk_lt h3)).trans h3; replace hK := hK.below hb; clear hb; intro _ hf
    refine a_cmp hf rfl rfl rfl rfl rfl rfl rfl ?_; clear hf; intro _ hf
    refine a_move hf rfl rfl rfl ?_; clear hf; intro _ hf
    (first | refine a_not hf rfl rfl rfl ?_ | refine a_move hf rfl rfl rfl ?_); clear hf; intro _ hf
    (first | refine a_not hf rfl rfl rfl ?_ | refine a_cmp hf rfl rfl rfl rfl rfl rfl rfl ?_); clear hf; intro _ hf
    (first | refine a_pickT hf rfl rfl rfl rfl ?_ | refine a_pickF hf rfl rfl rfl rfl ?_); clear hf; intro _ hf
    refine a_move hf rfl rfl rfl ?_; clear hf; intro _ hf
    (first | refine a_not hf rfl rfl rfl ?_ | refine a_move hf rfl rfl rfl ?_); clear hf; intro _ hf
    (first | refine a_not hf rfl rfl rfl ?_ | refine a_neN hf rfl rfl rfl ?_); clear hf; intro _ hf
    (first | refine a_pickT hf rfl rfl rfl rfl ?_ | refine a_pickF hf rfl rfl rfl rfl ?_); clear hf; intro _ hf
    refine a_move hf rfl rfl rfl ?_; clear hf; intro _ hf
    (first | refine a_not hf rfl rfl rfl ?_ | refine a_move hf rfl rfl rfl ?_); clear hf; intro _ hf
    refine a_call1 hf e29 rfl rfl rfl ?_; clear hf; refine (no_acts _ g C _ hK).mono ?_; rintro _ w1 ⟨⟨A9, c9, rfl⟩, hb⟩; replace hB := bel_then hB hb; replace h3 := (hb.block _ (blk_lt h3)).trans h3; replace hK := hK.below hb; clear hb; intro _ hf
    (first | refine a_not hf rfl rfl rfl ?_ | refine a_len hf rfl rfl rfl rfl ?_); clear hf; intro _ hf
    (first | refine a_not hf rfl rfl rfl ?_ | refine a_cmp hf rfl rfl rfl rfl rfl rfl rfl ?_); clear hf; intro _ hf
    (first | refine a_pickT hf rfl rfl rfl rfl ?_ | refine a_pickF hf rfl rfl rfl rfl ?_); clear hf; intro _ hf
    refine a_move hf rfl rfl rfl ?_; clear hf; intro _ hf
    refine a_call0 hf e16 rfl rfl ?_; clear hf; refine (known_any _).mono ?_; rintro _ w1 ⟨rfl, hb⟩; replace hB := bel_then hB hb; replace h3 := (hb.block _ (blk_lt h3)).trans h3; clear hb; intro _ hf
    (first | refine a_pickT hf rfl rfl rfl rfl ?_ | refine a_pickF hf rfl rfl rfl rfl ?_); clear hf; intro _ hf
    refine a_assign hf rfl rfl rfl ?_; clear hf; intro _ hf
    refine wpList_nil ?_
    simp only [Exit.then, Exit.inBlock]
    go_step
    refine wp_ret ?_
    try simp only [Exit.then, Exit.inBlock]
    exact c_ret hf rfl rfl ⟨rfl, hB⟩
  by_cases q2 : 10000 < art
  · have hv : versionR C art min = (zeroArt, 2) := by
      unfold versionR
      rw [if_neg]
      simp only [Bool.and_eq_true, inB_iff]
      omega
    refine wp_seq_k ?_
    intro _ _
    refine wp_region_lit ?_
    refine a_load33b hf rfl rfl (by exact h3) rfl ?_; clear hf; intro _ hf
    refine a_move hf rfl rfl rfl ?_; clear hf; intro _ hf
    refine a_move hf rfl rfl rfl ?_; clear hf; intro _ hf
    refine a_call3 hf e39 rfl rfl rfl rfl rfl ?_; clear hf; refine (version_as C A c art min zeroArt 2 hv _ (HL.out.below hB) hn).mono ?_; rintro _ w1 ⟨rfl, hb⟩; replace hK := hK.below hb; replace hB := bel_then hB hb; replace h3 := (hb.block _ (blk_lt h3)).trans h3; clear hb; intro _ hf
    refine a_move hf rfl rfl rfl ?_; clear hf; intro _ hf
    refine a_extract hf rfl rfl rfl rfl ?_; clear hf; intro _ hf
    refine a_extract hf rfl rfl rfl rfl ?_; clear hf; intro _ hf
    refine a_alloc71 hf rfl rfl ?_; clear hf; intro _ hf
    refine a_store71 (X := zeroArt) hf rfl rfl rfl (heap_alloc_new w1 _) rfl ?_; clear hf; intro _ w2 hf h10 hM10
    refine a_assign hf rfl rfl rfl ?_; clear hf; intro _ hf
    refine wpList_nil ?_
    simp only [Exit.then, Exit.inBlock]
    go_step
    have hb10 : Below w1.heap.size w1 w2 := bel_modG (bel_alloc (Below.refl _ _) _) hM10 (Nat.le_refl _)
    replace hB := bel_then hB hb10
    replace h3 := (hb10.block _ (blk_lt h3)).trans h3
    replace hK := hK.below hb10
    clear hM10 hb10
    refine wp_seq_k ?_
    intro _ _
    refine wp_seq_k ?_
    intro _ _
    refine wp_region_lit ?_
    refine a_move hf rfl rfl rfl ?_; clear hf; intro _ hf
    refine a_not_ hf rfl rfl rfl ?_; clear hf; intro _ hf
    refine a_move hf rfl rfl rfl ?_; clear hf; intro _ hf
    (first | refine a_not hf rfl rfl rfl ?_ | refine a_move hf rfl rfl rfl ?_); clear hf; intro _ hf
    (first | refine a_not hf rfl rfl rfl ?_ | refine a_cmp (b := false) hf rfl rfl rfl rfl rfl (by first | assumption | ((try dsimp only); simp only [decide_eq_true_eq, decide_eq_false_iff_not, beq_iff_eq, bne_iff_ne, beq_eq_false_iff_ne, bne_eq_false_iff_eq, ne_eq] <;> omega)) rfl ?_); clear hf; intro _ hf
    (first | refine a_pickT hf rfl rfl rfl rfl ?_ | refine a_pickF hf rfl rfl rfl rfl ?_); clear hf; intro _ hf
    refine a_move hf rfl rfl rfl ?_; clear hf; intro _ hf
    (first | refine a_not hf rfl rfl rfl ?_ | refine a_move hf rfl rfl rfl ?_); clear hf; intro _ hf
    (first | refine a_not hf rfl rfl rfl ?_ | refine a_cmp (b := true) hf rfl rfl rfl rfl rfl (by first | assumption | ((try dsimp only); simp only [decide_eq_true_eq, decide_eq_false_iff_not, beq_iff_eq, bne_iff_ne, beq_eq_false_iff_ne, bne_eq_false_iff_eq, ne_eq] <;> omega)) rfl ?_); clear hf; intro _ hf
    (first | refine a_pickT hf rfl rfl rfl rfl ?_ | refine a_pickF hf rfl rfl rfl rfl ?_); clear hf; intro _ hf
    refine a_move hf rfl rfl rfl ?_; clear hf; intro _ hf
    (first | refine a_not hf rfl rfl rfl ?_ | refine a_move hf rfl rfl rfl ?_); clear hf; intro _ hf
    (first | refine a_not hf rfl rfl rfl ?_ | refine a_cmp hf rfl rfl rfl rfl rfl rfl rfl ?_); clear hf; intro _ hf
    (first | refine a_pickT hf rfl rfl rfl rfl ?_ | refine a_pickF hf rfl rfl rfl rfl ?_); clear hf; intro _ hf
    refine a_move hf rfl rfl rfl ?_; clear hf; intro _ hf
    (first | refine a_not hf rfl rfl rfl ?_ | refine a_move hf rfl rfl rfl ?_); clear hf; intro _ hf
    (first | refine a_not hf rfl rfl rfl ?_ | refine a_cmp hf rfl rfl rfl rfl rfl rfl rfl ?_); clear hf; intro _ hf
    (first | refine a_pickT hf rfl rfl rfl rfl ?_ | refine a_pickF hf rfl rfl rfl rfl ?_); clear hf; intro _ hf
    refine wpList_nil ?_
    simp only [Exit.then, Exit.inBlock]
    go_step
    refine c_condT hf rfl ?_
    refine wp_seq_k ?_
    intro _ _
    refine wp_region_lit ?_
    refine a_move hf rfl rfl rfl ?_; clear hf; intro _ hf
    refine a_cmp (b := false) hf rfl rfl rfl rfl rfl (by first | assumption | ((try dsimp only); simp only [decide_eq_true_eq, decide_eq_false_iff_not, beq_iff_eq, bne_iff_ne, beq_eq_false_iff_ne, bne_eq_false_iff_eq, ne_eq] <;> omega)) rfl ?_; clear hf; intro _ hf
    refine a_move hf rfl rfl rfl ?_; clear hf; intro _ hf
    (first | refine a_not hf rfl rfl rfl ?_ | refine a_load71b hf rfl rfl (by exact h10) rfl ?_); clear hf; intro _ hf
    (first | refine a_not hf rfl rfl rfl ?_ | refine a_zero71 hf rfl rfl ?_); clear hf; intro _ hf
    (first | refine a_not hf rfl rfl rfl ?_ | refine a_neq71 (b := false) hf rfl rfl rfl (by first | assumption | (rw [artEq_self]; rfl) | rfl) rfl ?_); clear hf; intro _ hf
    (first | refine a_pickT hf rfl rfl rfl rfl ?_ | refine a_pickF hf rfl rfl rfl rfl ?_); clear hf; intro _ hf
    refine wpList_nil ?_
    simp only [Exit.then, Exit.inBlock]
    go_step
    refine c_condF hf rfl ?_
    refine wp_skip ?_
    simp only [Exit.then, Exit.inBlock]
    go_step
    refine wp_seq_k ?_
    intro _ _
    refine wp_seq_k ?_
    intro _ _
    refine wp_region_lit ?_
    refine a_move hf rfl rfl rfl ?_; clear hf; intro _ hf
    refine a_not_ hf rfl rfl rfl ?_; clear hf; intro _ hf
    refine wpList_nil ?_
    simp only [Exit.then, Exit.inBlock]
    go_step
    refine c_condF hf rfl ?_
    refine wp_skip ?_
    simp only [Exit.then, Exit.inBlock]
    go_step
    refine wp_seq_k ?_
    intro _ _
    refine wp_region_lit ?_
    refine a_load33b hf rfl rfl (by exact h3) rfl ?_; clear hf; intro _ hf
    refine a_call1 hf e41 rfl rfl rfl ?_; clear hf; refine (check_code C A c 0 (by rw [hcode]; rfl) _ (HL.out.below hB) hn).mono ?_; rintro _ w1 ⟨rfl, hb⟩; replace hB := bel_then hB hb; replace h3 := (hb.block _ (blk_lt h3)).trans h3; replace hK := hK.below hb; clear hb; intro _ hf
    refine a_cmp hf rfl rfl rfl rfl rfl rfl rfl ?_; clear hf; intro _ hf
    refine a_move hf rfl rfl rfl ?_; clear hf; intro _ hf
    (first | refine a_not hf rfl rfl rfl ?_ | refine a_move hf rfl rfl rfl ?_); clear hf; intro _ hf
    (first | refine a_not hf rfl rfl rfl ?_ | refine a_cmp hf rfl rfl rfl rfl rfl rfl rfl ?_); clear hf; intro _ hf
    (first | refine a_pickT hf rfl rfl rfl rfl ?_ | refine a_pickF hf rfl rfl rfl rfl ?_); clear hf; intro _ hf
    refine a_move hf rfl rfl rfl ?_; clear hf; intro _ hf
    (first | refine a_not hf rfl rfl rfl ?_ | refine a_move hf rfl rfl rfl ?_); clear hf; intro _ hf
    (first | refine a_not hf rfl rfl rfl ?_ | refine a_neN hf rfl rfl rfl ?_); clear hf; intro _ hf
    (first | refine a_pickT hf rfl rfl rfl rfl ?_ | refine a_pickF hf rfl rfl rfl rfl ?_); clear hf; intro _ hf
    refine a_move hf rfl rfl rfl ?_; clear hf; intro _ hf
    (first | refine a_not hf rfl rfl rfl ?_ | refine a_move hf rfl rfl rfl ?_); clear hf; intro _ hf
    refine a_call1 hf e29 rfl rfl rfl ?_; clear hf; refine (no_acts _ g C _ hK).mono ?_; rintro _ w1 ⟨⟨A9, c9, rfl⟩, hb⟩; replace hB := bel_then hB hb; replace h3 := (hb.block _ (blk_lt h3)).trans h3; replace hK := hK.below hb; clear hb; intro _ hf
    (first | refine a_not hf rfl rfl rfl ?_ | refine a_len hf rfl rfl rfl rfl ?_); clear hf; intro _ hf
    (first | refine a_not hf rfl rfl rfl ?_ | refine a_cmp hf rfl rfl rfl rfl rfl rfl rfl ?_); clear hf; intro _ hf
    (first | refine a_pickT hf rfl rfl rfl rfl ?_ | refine a_pickF hf rfl rfl rfl rfl ?_); clear hf; intro _ hf
    refine a_move hf rfl rfl rfl ?_; clear hf; intro _ hf
    refine a_call0 hf e16 rfl rfl ?_; clear hf; refine (known_any _).mono ?_; rintro _ w1 ⟨rfl, hb⟩; replace hB := bel_then hB hb; replace h3 := (hb.block _ (blk_lt h3)).trans h3; clear hb; intro _ hf
    (first | refine a_pickT hf rfl rfl rfl rfl ?_ | refine a_pickF hf rfl rfl rfl rfl ?_); clear hf; intro _ hf
    refine a_assign hf rfl rfl rfl ?_; clear hf; intro _ hf
    refine wpList_nil ?_
    simp only [Exit.then, Exit.inBlock]
    go_step
    refine wp_ret ?_
    try simp only [Exit.then, Exit.inBlock]
    exact c_ret hf rfl rfl ⟨rfl, hB⟩
  by_cases q3 : min < 0
  · have hv : versionR C art min = (zeroArt, 2) := by
      unfold versionR
      rw [if_neg]
      simp only [Bool.and_eq_true, inB_iff]
      omega
    refine wp_seq_k ?_
    intro _ _
    refine wp_region_lit ?_
    refine a_load33b hf rfl rfl (by exact h3) rfl ?_; clear hf; intro _ hf
    refine a_move hf rfl rfl rfl ?_; clear hf; intro _ hf
    refine a_move hf rfl rfl rfl ?_; clear hf; intro _ hf
    refine a_call3 hf e39 rfl rfl rfl rfl rfl ?_; clear hf; refine (version_as C A c art min zeroArt 2 hv _ (HL.out.below hB) hn).mono ?_; rintro _ w1 ⟨rfl, hb⟩; replace hK := hK.below hb; replace hB := bel_then hB hb; replace h3 := (hb.block _ (blk_lt h3)).trans h3; clear hb; intro _ hf
    refine a_move hf rfl rfl rfl ?_; clear hf; intro _ hf
    refine a_extract hf rfl rfl rfl rfl ?_; clear hf; intro _ hf
    refine a_extract hf rfl rfl rfl rfl ?_; clear hf; intro _ hf
    refine a_alloc71 hf rfl rfl ?_; clear hf; intro _ hf
    refine a_store71 (X := zeroArt) hf rfl rfl rfl (heap_alloc_new w1 _) rfl ?_; clear hf; intro _ w2 hf h10 hM10
    refine a_assign hf rfl rfl rfl ?_; clear hf; intro _ hf
    refine wpList_nil ?_
    simp only [Exit.then, Exit.inBlock]
    go_step
    have hb10 : Below w1.heap.size w1 w2 := bel_modG (bel_alloc (Below.refl _ _) _) hM10 (Nat.le_refl _)
    replace hB := bel_then hB hb10
    replace h3 := (hb10.block _ (blk_lt h3)).trans h3
    replace hK := hK.below hb10
    clear hM10 hb10
    refine wp_seq_k ?_
    intro _ _
    refine wp_seq_k ?_
    intro _ _
    refine wp_region_lit ?_
    refine a_move hf rfl rfl rfl ?_; clear hf; intro _ hf
    refine a_not_ hf rfl rfl rfl ?_; clear hf; intro _ hf
    refine a_move hf rfl rfl rfl ?_; clear hf; intro _ hf
    (first | refine a_not hf rfl rfl rfl ?_ | refine a_move hf rfl rfl rfl ?_); clear hf; intro _ hf
    (first | refine a_not hf rfl rfl rfl ?_ | refine a_cmp (b := false) hf rfl rfl rfl rfl rfl (by first | assumption | ((try dsimp only); simp only [decide_eq_true_eq, decide_eq_false_iff_not, beq_iff_eq, bne_iff_ne, beq_eq_false_iff_ne, bne_eq_false_iff_eq, ne_eq] <;> omega)) rfl ?_); clear hf; intro _ hf
    (first | refine a_pickT hf rfl rfl rfl rfl ?_ | refine a_pickF hf rfl rfl rfl rfl ?_); clear hf; intro _ hf
    refine a_move hf rfl rfl rfl ?_; clear hf; intro _ hf
    (first | refine a_not hf rfl rfl rfl ?_ | refine a_move hf rfl rfl rfl ?_); clear hf; intro _ hf
    (first | refine a_not hf rfl rfl rfl ?_ | refine a_cmp (b := false) hf rfl rfl rfl rfl rfl (by first | assumption | ((try dsimp only); simp only [decide_eq_true_eq, decide_eq_false_iff_not, beq_iff_eq, bne_iff_ne, beq_eq_false_iff_ne, bne_eq_false_iff_eq, ne_eq] <;> omega)) rfl ?_); clear hf; intro _ hf
    (first | refine a_pickT hf rfl rfl rfl rfl ?_ | refine a_pickF hf rfl rfl rfl rfl ?_); clear hf; intro _ hf
    refine a_move hf rfl rfl rfl ?_; clear hf; intro _ hf
    (first | refine a_not hf rfl rfl rfl ?_ | refine a_move hf rfl rfl rfl ?_); clear hf; intro _ hf
    (first | refine a_not hf rfl rfl rfl ?_ | refine a_cmp (b := true) hf rfl rfl rfl rfl rfl (by first | assumption | ((try dsimp only); simp only [decide_eq_true_eq, decide_eq_false_iff_not, beq_iff_eq, bne_iff_ne, beq_eq_false_iff_ne, bne_eq_false_iff_eq, ne_eq] <;> omega)) rfl ?_); clear hf; intro _ hf
    (first | refine a_pickT hf rfl rfl rfl rfl ?_ | refine a_pickF hf rfl rfl rfl rfl ?_); clear hf; intro _ hf
    refine a_move hf rfl rfl rfl ?_; clear hf; intro _ hf
    (first | refine a_not hf rfl rfl rfl ?_ | refine a_move hf rfl rfl rfl ?_); clear hf; intro _ hf
    (first | refine a_not hf rfl rfl rfl ?_ | refine a_cmp hf rfl rfl rfl rfl rfl rfl rfl ?_); clear hf; intro _ hf
    (first | refine a_pickT hf rfl rfl rfl rfl ?_ | refine a_pickF hf rfl rfl rfl rfl ?_); clear hf; intro _ hf
    refine wpList_nil ?_
    simp only [Exit.then, Exit.inBlock]
    go_step
    refine c_condT hf rfl ?_
    refine wp_seq_k ?_
    intro _ _
    refine wp_region_lit ?_
    refine a_move hf rfl rfl rfl ?_; clear hf; intro _ hf
    refine a_cmp (b := false) hf rfl rfl rfl rfl rfl (by first | assumption | ((try dsimp only); simp only [decide_eq_true_eq, decide_eq_false_iff_not, beq_iff_eq, bne_iff_ne, beq_eq_false_iff_ne, bne_eq_false_iff_eq, ne_eq] <;> omega)) rfl ?_; clear hf; intro _ hf
    refine a_move hf rfl rfl rfl ?_; clear hf; intro _ hf
    (first | refine a_not hf rfl rfl rfl ?_ | refine a_load71b hf rfl rfl (by exact h10) rfl ?_); clear hf; intro _ hf
    (first | refine a_not hf rfl rfl rfl ?_ | refine a_zero71 hf rfl rfl ?_); clear hf; intro _ hf
    (first | refine a_not hf rfl rfl rfl ?_ | refine a_neq71 (b := false) hf rfl rfl rfl (by first | assumption | (rw [artEq_self]; rfl) | rfl) rfl ?_); clear hf; intro _ hf
    (first | refine a_pickT hf rfl rfl rfl rfl ?_ | refine a_pickF hf rfl rfl rfl rfl ?_); clear hf; intro _ hf
    refine wpList_nil ?_
    simp only [Exit.then, Exit.inBlock]
    go_step
    refine c_condF hf rfl ?_
    refine wp_skip ?_
    simp only [Exit.then, Exit.inBlock]
    go_step
    refine wp_seq_k ?_
    intro _ _
    refine wp_seq_k ?_
    intro _ _
    refine wp_region_lit ?_
    refine a_move hf rfl rfl rfl ?_; clear hf; intro _ hf
    refine a_not_ hf rfl rfl rfl ?_; clear hf; intro _ hf
    refine wpList_nil ?_
    simp only [Exit.then, Exit.inBlock]
    go_step
    refine c_condF hf rfl ?_
    refine wp_skip ?_
    simp only [Exit.then, Exit.inBlock]
    go_step
    refine wp_seq_k ?_
    intro _ _
    refine wp_region_lit ?_
    refine a_load33b hf rfl rfl (by exact h3) rfl ?_; clear hf; intro _ hf
    refine a_call1 hf e41 rfl rfl rfl ?_; clear hf; refine (check_code C A c 0 (by rw [hcode]; rfl) _ (HL.out.below hB) hn).mono ?_; rintro _ w1 ⟨rfl, hb⟩; replace hB := bel_then hB hb; replace h3 := (hb.block _ (blk_lt h3)).trans h3; replace hK := hK.below hb; clear hb; intro _ hf
    refine a_cmp hf rfl rfl rfl rfl rfl rfl rfl ?_; clear hf; intro _ hf
    refine a_move hf rfl rfl rfl ?_; clear hf; intro _ hf
    (first | refine a_not hf rfl rfl rfl ?_ | refine a_move hf rfl rfl rfl ?_); clear hf; intro _ hf
    (first | refine a_not hf rfl rfl rfl ?_ | refine a_cmp hf rfl rfl rfl rfl rfl rfl rfl ?_); clear hf; intro _ hf
    (first | refine a_pickT hf rfl rfl rfl rfl ?_ | refine a_pickF hf rfl rfl rfl rfl ?_); clear hf; intro _ hf
    refine a_move hf rfl rfl rfl ?_; clear hf; intro _ hf
    (first | refine a_not hf rfl rfl rfl ?_ | refine a_move hf rfl rfl rfl ?_); clear hf; intro _ hf
    (first | refine a_not hf rfl rfl rfl ?_ | refine a_neN hf rfl rfl rfl ?_); clear hf; intro _ hf
    (first | refine a_pickT hf rfl rfl rfl rfl ?_ | refine a_pickF hf rfl rfl rfl rfl ?_); clear hf; intro _ hf
    refine a_move hf rfl rfl rfl ?_; clear hf; intro _ hf
    (first | refine a_not hf rfl rfl rfl ?_ | refine a_move hf rfl rfl rfl ?_); clear hf; intro _ hf
    refine a_call1 hf e29 rfl rfl rfl ?_; clear hf; refine (no_acts _ g C _ hK).mono ?_; rintro _ w1 ⟨⟨A9, c9, rfl⟩, hb⟩; replace hB := bel_then hB hb; replace h3 := (hb.block _ (blk_lt h3)).trans h3; replace hK := hK.below hb; clear hb; intro _ hf
    (first | refine a_not hf rfl rfl rfl ?_ | refine a_len hf rfl rfl rfl rfl ?_); clear hf; intro _ hf
    (first | refine a_not hf rfl rfl rfl ?_ | refine a_cmp hf rfl rfl rfl rfl rfl rfl rfl ?_); clear hf; intro _ hf
    (first | refine a_pickT hf rfl rfl rfl rfl ?_ | refine a_pickF hf rfl rfl rfl rfl ?_); clear hf; intro _ hf
    refine a_move hf rfl rfl rfl ?_; clear hf; intro _ hf
    refine a_call0 hf e16 rfl rfl ?_; clear hf; refine (known_any _).mono ?_; rintro _ w1 ⟨rfl, hb⟩; replace hB := bel_then hB hb; replace h3 := (hb.block _ (blk_lt h3)).trans h3; clear hb; intro _ hf
    (first | refine a_pickT hf rfl rfl rfl rfl ?_ | refine a_pickF hf rfl rfl rfl rfl ?_); clear hf; intro _ hf
    refine a_assign hf rfl rfl rfl ?_; clear hf; intro _ hf
    refine wpList_nil ?_
    simp only [Exit.then, Exit.inBlock]
    go_step
    refine wp_ret ?_
    try simp only [Exit.then, Exit.inBlock]
    exact c_ret hf rfl rfl ⟨rfl, hB⟩
  by_cases q4 : 10000000 < min
  · have hv : versionR C art min = (zeroArt, 2) := by
      unfold versionR
      rw [if_neg]
      simp only [Bool.and_eq_true, inB_iff]
      omega
    refine wp_seq_k ?_
    intro _ _
    refine wp_region_lit ?_
    refine a_load33b hf rfl rfl (by exact h3) rfl ?_; clear hf; intro _ hf
    refine a_move hf rfl rfl rfl ?_; clear hf; intro _ hf
    refine a_move hf rfl rfl rfl ?_; clear hf; intro _ hf
    refine a_call3 hf e39 rfl rfl rfl rfl rfl ?_; clear hf; refine (version_as C A c art min zeroArt 2 hv _ (HL.out.below hB) hn).mono ?_; rintro _ w1 ⟨rfl, hb⟩; replace hK := hK.below hb; replace hB := bel_then hB hb; replace h3 := (hb.block _ (blk_lt h3)).trans h3; clear hb; intro _ hf
    refine a_move hf rfl rfl rfl ?_; clear hf; intro _ hf
    refine a_extract hf rfl rfl rfl rfl ?_; clear hf; intro _ hf
    refine a_extract hf rfl rfl rfl rfl ?_; clear hf; intro _ hf
    refine a_alloc71 hf rfl rfl ?_; clear hf; intro _ hf
    refine a_store71 (X := zeroArt) hf rfl rfl rfl (heap_alloc_new w1 _) rfl ?_; clear hf; intro _ w2 hf h10 hM10
    refine a_assign hf rfl rfl rfl ?_; clear hf; intro _ hf
    refine wpList_nil ?_
    simp only [Exit.then, Exit.inBlock]
    go_step
    have hb10 : Below w1.heap.size w1 w2 := bel_modG (bel_alloc (Below.refl _ _) _) hM10 (Nat.le_refl _)
    replace hB := bel_then hB hb10
    replace h3 := (hb10.block _ (blk_lt h3)).trans h3
    replace hK := hK.below hb10
    clear hM10 hb10
    refine wp_seq_k ?_
    intro _ _
    refine wp_seq_k ?_
    intro _ _
    refine wp_region_lit ?_
    refine a_move hf rfl rfl rfl ?_; clear hf; intro _ hf
    refine a_not_ hf rfl rfl rfl ?_; clear hf; intro _ hf
    refine a_move hf rfl rfl rfl ?_; clear hf; intro _ hf
    (first | refine a_not hf rfl rfl rfl ?_ | refine a_move hf rfl rfl rfl ?_); clear hf; intro _ hf
    (first | refine a_not hf rfl rfl rfl ?_ | refine a_cmp (b := false) hf rfl rfl rfl rfl rfl (by first | assumption | ((try dsimp only); simp only [decide_eq_true_eq, decide_eq_false_iff_not, beq_iff_eq, bne_iff_ne, beq_eq_false_iff_ne, bne_eq_false_iff_eq, ne_eq] <;> omega)) rfl ?_); clear hf; intro _ hf
    (first | refine a_pickT hf rfl rfl rfl rfl ?_ | refine a_pickF hf rfl rfl rfl rfl ?_); clear hf; intro _ hf
    refine a_move hf rfl rfl rfl ?_; clear hf; intro _ hf
    (first | refine a_not hf rfl rfl rfl ?_ | refine a_move hf rfl rfl rfl ?_); clear hf; intro _ hf
    (first | refine a_not hf rfl rfl rfl ?_ | refine a_cmp (b := false) hf rfl rfl rfl rfl rfl (by first | assumption | ((try dsimp only); simp only [decide_eq_true_eq, decide_eq_false_iff_not, beq_iff_eq, bne_iff_ne, beq_eq_false_iff_ne, bne_eq_false_iff_eq, ne_eq] <;> omega)) rfl ?_); clear hf; intro _ hf
    (first | refine a_pickT hf rfl rfl rfl rfl ?_ | refine a_pickF hf rfl rfl rfl rfl ?_); clear hf; intro _ hf
    refine a_move hf rfl rfl rfl ?_; clear hf; intro _ hf
    (first | refine a_not hf rfl rfl rfl ?_ | refine a_move hf rfl rfl rfl ?_); clear hf; intro _ hf
    (first | refine a_not hf rfl rfl rfl ?_ | refine a_cmp (b := false) hf rfl rfl rfl rfl rfl (by first | assumption | ((try dsimp only); simp only [decide_eq_true_eq, decide_eq_false_iff_not, beq_iff_eq, bne_iff_ne, beq_eq_false_iff_ne, bne_eq_false_iff_eq, ne_eq] <;> omega)) rfl ?_); clear hf; intro _ hf
    (first | refine a_pickT hf rfl rfl rfl rfl ?_ | refine a_pickF hf rfl rfl rfl rfl ?_); clear hf; intro _ hf
    refine a_move hf rfl rfl rfl ?_; clear hf; intro _ hf
    (first | refine a_not hf rfl rfl rfl ?_ | refine a_move hf rfl rfl rfl ?_); clear hf; intro _ hf
    (first | refine a_not hf rfl rfl rfl ?_ | refine a_cmp (b := true) hf rfl rfl rfl rfl rfl (by first | assumption | ((try dsimp only); simp only [decide_eq_true_eq, decide_eq_false_iff_not, beq_iff_eq, bne_iff_ne, beq_eq_false_iff_ne, bne_eq_false_iff_eq, ne_eq] <;> omega)) rfl ?_); clear hf; intro _ hf
    (first | refine a_pickT hf rfl rfl rfl rfl ?_ | refine a_pickF hf rfl rfl rfl rfl ?_); clear hf; intro _ hf
    refine wpList_nil ?_
    simp only [Exit.then, Exit.inBlock]
    go_step
    refine c_condT hf rfl ?_
    refine wp_seq_k ?_
    intro _ _
    refine wp_region_lit ?_
    refine a_move hf rfl rfl rfl ?_; clear hf; intro _ hf
    refine a_cmp (b := false) hf rfl rfl rfl rfl rfl (by first | assumption | ((try dsimp only); simp only [decide_eq_true_eq, decide_eq_false_iff_not, beq_iff_eq, bne_iff_ne, beq_eq_false_iff_ne, bne_eq_false_iff_eq, ne_eq] <;> omega)) rfl ?_; clear hf; intro _ hf
    refine a_move hf rfl rfl rfl ?_; clear hf; intro _ hf
    (first | refine a_not hf rfl rfl rfl ?_ | refine a_load71b hf rfl rfl (by exact h10) rfl ?_); clear hf; intro _ hf
    (first | refine a_not hf rfl rfl rfl ?_ | refine a_zero71 hf rfl rfl ?_); clear hf; intro _ hf
    (first | refine a_not hf rfl rfl rfl ?_ | refine a_neq71 (b := false) hf rfl rfl rfl (by first | assumption | (rw [artEq_self]; rfl) | rfl) rfl ?_); clear hf; intro _ hf
    (first | refine a_pickT hf rfl rfl rfl rfl ?_ | refine a_pickF hf rfl rfl rfl rfl ?_); clear hf; intro _ hf
    refine wpList_nil ?_
    simp only [Exit.then, Exit.inBlock]
    go_step
    refine c_condF hf rfl ?_
    refine wp_skip ?_
    simp only [Exit.then, Exit.inBlock]
    go_step
    refine wp_seq_k ?_
    intro _ _
    refine wp_seq_k ?_
    intro _ _
    refine wp_region_lit ?_
    refine a_move hf rfl rfl rfl ?_; clear hf; intro _ hf
    refine a_not_ hf rfl rfl rfl ?_; clear hf; intro _ hf
    refine wpList_nil ?_
    simp only [Exit.then, Exit.inBlock]
    go_step
    refine c_condF hf rfl ?_
    refine wp_skip ?_
    simp only [Exit.then, Exit.inBlock]
    go_step
    refine wp_seq_k ?_
    intro _ _
    refine wp_region_lit ?_
    refine a_load33b hf rfl rfl (by exact h3) rfl ?_; clear hf; intro _ hf
    refine a_call1 hf e41 rfl rfl rfl ?_; clear hf; refine (check_code C A c 0 (by rw [hcode]; rfl) _ (HL.out.below hB) hn).mono ?_; rintro _ w1 ⟨rfl, hb⟩; replace hB := bel_then hB hb; replace h3 := (hb.block _ (blk_lt h3)).trans h3; replace hK := hK.below hb; clear hb; intro _ hf
    refine a_cmp hf rfl rfl rfl rfl rfl rfl rfl ?_; clear hf; intro _ hf
    refine a_move hf rfl rfl rfl ?_; clear hf; intro _ hf
    (first | refine a_not hf rfl rfl rfl ?_ | refine a_move hf rfl rfl rfl ?_); clear hf; intro _ hf
    (first | refine a_not hf rfl rfl rfl ?_ | refine a_cmp hf rfl rfl rfl rfl rfl rfl rfl ?_); clear hf; intro _ hf
    (first | refine a_pickT hf rfl rfl rfl rfl ?_ | refine a_pickF hf rfl rfl rfl rfl ?_); clear hf; intro _ hf
    refine a_move hf rfl rfl rfl ?_; clear hf; intro _ hf
    (first | refine a_not hf rfl rfl rfl ?_ | refine a_move hf rfl rfl rfl ?_); clear hf; intro _ hf
    (first | refine a_not hf rfl rfl rfl ?_ | refine a_neN hf rfl rfl rfl ?_); clear hf; intro _ hf
    (first | refine a_pickT hf rfl rfl rfl rfl ?_ | refine a_pickF hf rfl rfl rfl rfl ?_); clear hf; intro _ hf
    refine a_move hf rfl rfl rfl ?_; clear hf; intro _ hf
    (first | refine a_not hf rfl rfl rfl ?_ | refine a_move hf rfl rfl rfl ?_); clear hf; intro _ hf
    refine a_call1 hf e29 rfl rfl rfl ?_; clear hf; refine (no_acts _ g C _ hK).mono ?_; rintro _ w1 ⟨⟨A9, c9, rfl⟩, hb⟩; replace hB := bel_then hB hb; replace h3 := (hb.block _ (blk_lt h3)).trans h3; replace hK := hK.below hb; clear hb; intro _ hf
    (first | refine a_not hf rfl rfl rfl ?_ | refine a_len hf rfl rfl rfl rfl ?_); clear hf; intro _ hf
    (first | refine a_not hf rfl rfl rfl ?_ | refine a_cmp hf rfl rfl rfl rfl rfl rfl rfl ?_); clear hf; intro _ hf
    (first | refine a_pickT hf rfl rfl rfl rfl ?_ | refine a_pickF hf rfl rfl rfl rfl ?_); clear hf; intro _ hf
    refine a_move hf rfl rfl rfl ?_; clear hf; intro _ hf
    refine a_call0 hf e16 rfl rfl ?_; clear hf; refine (known_any _).mono ?_; rintro _ w1 ⟨rfl, hb⟩; replace hB := bel_then hB hb; replace h3 := (hb.block _ (blk_lt h3)).trans h3; clear hb; intro _ hf
    (first | refine a_pickT hf rfl rfl rfl rfl ?_ | refine a_pickF hf rfl rfl rfl rfl ?_); clear hf; intro _ hf
    refine a_assign hf rfl rfl rfl ?_; clear hf; intro _ hf
    refine wpList_nil ?_
    simp only [Exit.then, Exit.inBlock]
    go_step
    refine wp_ret ?_
    try simp only [Exit.then, Exit.inBlock]
    exact c_ret hf rfl rfl ⟨rfl, hB⟩
  have hin : (codeOk C && inB art 1 10000 && inB min 0 10000000) = true := by
    simp only [Bool.and_eq_true, inB_iff]
    exact ⟨⟨hcode, by omega⟩, by omega⟩
  cases hvo : verO C.arts art min with
  | none =>
    have hv : versionR C art min = (zeroArt, 5) := by unfold versionR; rw [if_pos hin, hvo]
    refine wp_seq_k ?_
    intro _ _
    refine wp_region_lit ?_
    refine a_load33b hf rfl rfl (by exact h3) rfl ?_; clear hf; intro _ hf
    refine a_move hf rfl rfl rfl ?_; clear hf; intro _ hf
    refine a_move hf rfl rfl rfl ?_; clear hf; intro _ hf
    refine a_call3 hf e39 rfl rfl rfl rfl rfl ?_; clear hf; refine (version_as C A c art min zeroArt 5 hv _ (HL.out.below hB) hn).mono ?_; rintro _ w1 ⟨rfl, hb⟩; replace hK := hK.below hb; replace hB := bel_then hB hb; replace h3 := (hb.block _ (blk_lt h3)).trans h3; clear hb; intro _ hf
    refine a_move hf rfl rfl rfl ?_; clear hf; intro _ hf
    refine a_extract hf rfl rfl rfl rfl ?_; clear hf; intro _ hf
    refine a_extract hf rfl rfl rfl rfl ?_; clear hf; intro _ hf
    refine a_alloc71 hf rfl rfl ?_; clear hf; intro _ hf
    refine a_store71 (X := zeroArt) hf rfl rfl rfl (heap_alloc_new w1 _) rfl ?_; clear hf; intro _ w2 hf h10 hM10
    refine a_assign hf rfl rfl rfl ?_; clear hf; intro _ hf
    refine wpList_nil ?_
    simp only [Exit.then, Exit.inBlock]
    go_step
    have hb10 : Below w1.heap.size w1 w2 := bel_modG (bel_alloc (Below.refl _ _) _) hM10 (Nat.le_refl _)
    replace hB := bel_then hB hb10
    replace h3 := (hb10.block _ (blk_lt h3)).trans h3
    replace hK := hK.below hb10
    clear hM10 hb10
    refine wp_seq_k ?_
    intro _ _
    refine wp_seq_k ?_
    intro _ _
    refine wp_region_lit ?_
    refine a_move hf rfl rfl rfl ?_; clear hf; intro _ hf
    refine a_not_ hf rfl rfl rfl ?_; clear hf; intro _ hf
    refine a_move hf rfl rfl rfl ?_; clear hf; intro _ hf
    (first | refine a_not hf rfl rfl rfl ?_ | refine a_move hf rfl rfl rfl ?_); clear hf; intro _ hf
    (first | refine a_not hf rfl rfl rfl ?_ | refine a_cmp (b := false) hf rfl rfl rfl rfl rfl (by first | assumption | ((try dsimp only); simp only [decide_eq_true_eq, decide_eq_false_iff_not, beq_iff_eq, bne_iff_ne, beq_eq_false_iff_ne, bne_eq_false_iff_eq, ne_eq] <;> omega)) rfl ?_); clear hf; intro _ hf
    (first | refine a_pickT hf rfl rfl rfl rfl ?_ | refine a_pickF hf rfl rfl rfl rfl ?_); clear hf; intro _ hf
    refine a_move hf rfl rfl rfl ?_; clear hf; intro _ hf
    (first | refine a_not hf rfl rfl rfl ?_ | refine a_move hf rfl rfl rfl ?_); clear hf; intro _ hf
    (first | refine a_not hf rfl rfl rfl ?_ | refine a_cmp (b := false) hf rfl rfl rfl rfl rfl (by first | assumption | ((try dsimp only); simp only [decide_eq_true_eq, decide_eq_false_iff_not, beq_iff_eq, bne_iff_ne, beq_eq_false_iff_ne, bne_eq_false_iff_eq, ne_eq] <;> omega)) rfl ?_); clear hf; intro _ hf
    (first | refine a_pickT hf rfl rfl rfl rfl ?_ | refine a_pickF hf rfl rfl rfl rfl ?_); clear hf; intro _ hf
    refine a_move hf rfl rfl rfl ?_; clear hf; intro _ hf
    (first | refine a_not hf rfl rfl rfl ?_ | refine a_move hf rfl rfl rfl ?_); clear hf; intro _ hf
    (first | refine a_not hf rfl rfl rfl ?_ | refine a_cmp (b := false) hf rfl rfl rfl rfl rfl (by first | assumption | ((try dsimp only); simp only [decide_eq_true_eq, decide_eq_false_iff_not, beq_iff_eq, bne_iff_ne, beq_eq_false_iff_ne, bne_eq_false_iff_eq, ne_eq] <;> omega)) rfl ?_); clear hf; intro _ hf
    (first | refine a_pickT hf rfl rfl rfl rfl ?_ | refine a_pickF hf rfl rfl rfl rfl ?_); clear hf; intro _ hf
    refine a_move hf rfl rfl rfl ?_; clear hf; intro _ hf
    (first | refine a_not hf rfl rfl rfl ?_ | refine a_move hf rfl rfl rfl ?_); clear hf; intro _ hf
    (first | refine a_not hf rfl rfl rfl ?_ | refine a_cmp (b := false) hf rfl rfl rfl rfl rfl (by first | assumption | ((try dsimp only); simp only [decide_eq_true_eq, decide_eq_false_iff_not, beq_iff_eq, bne_iff_ne, beq_eq_false_iff_ne, bne_eq_false_iff_eq, ne_eq] <;> omega)) rfl ?_); clear hf; intro _ hf
    (first | refine a_pickT hf rfl rfl rfl rfl ?_ | refine a_pickF hf rfl rfl rfl rfl ?_); clear hf; intro _ hf
    refine wpList_nil ?_
    simp only [Exit.then, Exit.inBlock]
    go_step
    refine c_condF hf rfl ?_
    refine wp_seq_k ?_
    intro _ _
    refine wp_region_lit ?_
    refine a_load33b hf rfl rfl (by exact h3) rfl ?_; clear hf; intro _ hf
    refine a_move hf rfl rfl rfl ?_; clear hf; intro _ hf
    refine a_move hf rfl rfl rfl ?_; clear hf; intro _ hf
    refine a_call3 hf e40 rfl rfl rfl rfl rfl ?_; clear hf; refine (refVersion_as C A c art min _ hvo _ (HL.out.below hB) hn).mono ?_; rintro _ w3 ⟨rfl, hb⟩; replace hK := hK.below hb; replace h10 := (hb.block _ (blk_lt h10)).trans h10; replace hB := bel_then hB hb; replace h3 := (hb.block _ (blk_lt h3)).trans h3; clear hb; intro _ hf
    refine a_move hf rfl rfl rfl ?_; clear hf; intro _ hf
    refine a_extract hf rfl rfl rfl rfl ?_; clear hf; intro _ hf
    refine a_extract hf rfl rfl rfl rfl ?_; clear hf; intro _ hf
    refine a_alloc71 hf rfl rfl ?_; clear hf; intro _ hf
    refine a_store71 (X := zeroArt) hf rfl rfl rfl (heap_alloc_new w3 _) rfl ?_; clear hf; intro _ w4 hf h12 hM12
    refine a_assign hf rfl rfl rfl ?_; clear hf; intro _ hf
    refine wpList_nil ?_
    simp only [Exit.then, Exit.inBlock]
    go_step
    have hb12 : Below w3.heap.size w3 w4 := bel_modG (bel_alloc (Below.refl _ _) _) hM12 (Nat.le_refl _)
    replace hB := bel_then hB hb12
    replace h3 := (hb12.block _ (blk_lt h3)).trans h3
    replace hK := hK.below hb12
    replace h10 := (hb12.block _ (blk_lt h10)).trans h10
    clear hM12 hb12
    refine wp_seq_k ?_
    intro _ _
    refine wp_region_lit ?_
    refine a_move hf rfl rfl rfl ?_; clear hf; intro _ hf
    refine a_move hf rfl rfl rfl ?_; clear hf; intro _ hf
    (first | refine a_not hf rfl rfl rfl ?_ | refine a_move hf rfl rfl rfl ?_); clear hf; intro _ hf
    (first | refine a_not hf rfl rfl rfl ?_ | refine a_cmp (b := false) hf rfl rfl rfl rfl rfl (by first | assumption | ((try dsimp only); simp only [decide_eq_true_eq, decide_eq_false_iff_not, beq_iff_eq, bne_iff_ne, beq_eq_false_iff_ne, bne_eq_false_iff_eq, ne_eq] <;> omega)) rfl ?_); clear hf; intro _ hf
    (first | refine a_not hf rfl rfl rfl ?_ | refine a_move hf rfl rfl rfl ?_); clear hf; intro _ hf
    (first | refine a_not hf rfl rfl rfl ?_ | refine a_load71b hf rfl rfl (by exact h10) rfl ?_); clear hf; intro _ hf
    (first | refine a_not hf rfl rfl rfl ?_ | refine a_load71b hf rfl rfl (by exact h12) rfl ?_); clear hf; intro _ hf
    (first | refine a_not hf rfl rfl rfl ?_ | refine a_neq71 (b := false) hf rfl rfl rfl (by first | assumption | (rw [artEq_self]; rfl) | rfl) rfl ?_); clear hf; intro _ hf
    (first | refine a_not hf rfl rfl rfl ?_ | refine a_pickT hf rfl rfl rfl rfl ?_ | refine a_pickF hf rfl rfl rfl rfl ?_); clear hf; intro _ hf
    (first | refine a_pickT hf rfl rfl rfl rfl ?_ | refine a_pickF hf rfl rfl rfl rfl ?_); clear hf; intro _ hf
    refine a_move hf rfl rfl rfl ?_; clear hf; intro _ hf
    (first | refine a_not hf rfl rfl rfl ?_ | refine a_move hf rfl rfl rfl ?_); clear hf; intro _ hf
    (first | refine a_not hf rfl rfl rfl ?_ | refine a_not_ hf rfl rfl rfl ?_); clear hf; intro _ hf
    (first | refine a_not hf rfl rfl rfl ?_ | refine a_move hf rfl rfl rfl ?_); clear hf; intro _ hf
    (first | refine a_not hf rfl rfl rfl ?_ | refine a_move hf rfl rfl rfl ?_); clear hf; intro _ hf
    (first | refine a_not hf rfl rfl rfl ?_ | refine a_cmp (b := false) hf rfl rfl rfl rfl rfl (by first | assumption | ((try dsimp only); simp only [decide_eq_true_eq, decide_eq_false_iff_not, beq_iff_eq, bne_iff_ne, beq_eq_false_iff_ne, bne_eq_false_iff_eq, ne_eq] <;> omega)) rfl ?_); clear hf; intro _ hf
    (first | refine a_not hf rfl rfl rfl ?_ | refine a_move hf rfl rfl rfl ?_); clear hf; intro _ hf
    (first | refine a_not hf rfl rfl rfl ?_ | refine a_load71b hf rfl rfl (by exact h10) rfl ?_); clear hf; intro _ hf
    (first | refine a_not hf rfl rfl rfl ?_ | refine a_zero71 hf rfl rfl ?_); clear hf; intro _ hf
    (first | refine a_not hf rfl rfl rfl ?_ | refine a_neq71 (b := false) hf rfl rfl rfl (by first | assumption | (rw [artEq_self]; rfl) | rfl) rfl ?_); clear hf; intro _ hf
    (first | refine a_not hf rfl rfl rfl ?_ | refine a_pickT hf rfl rfl rfl rfl ?_ | refine a_pickF hf rfl rfl rfl rfl ?_); clear hf; intro _ hf
    (first | refine a_not hf rfl rfl rfl ?_ | refine a_pickT hf rfl rfl rfl rfl ?_ | refine a_pickF hf rfl rfl rfl rfl ?_); clear hf; intro _ hf
    (first | refine a_pickT hf rfl rfl rfl rfl ?_ | refine a_pickF hf rfl rfl rfl rfl ?_); clear hf; intro _ hf
    refine wpList_nil ?_
    simp only [Exit.then, Exit.inBlock]
    go_step
    refine c_condF hf rfl ?_
    refine wp_skip ?_
    simp only [Exit.then, Exit.inBlock]
    go_step
    refine wp_seq_k ?_
    intro _ _
    refine wp_seq_k ?_
    intro _ _
    refine wp_region_lit ?_
    refine a_move hf rfl rfl rfl ?_; clear hf; intro _ hf
    refine a_not_ hf rfl rfl rfl ?_; clear hf; intro _ hf
    refine wpList_nil ?_
    simp only [Exit.then, Exit.inBlock]
    go_step
    refine c_condF hf rfl ?_
    refine wp_skip ?_
    simp only [Exit.then, Exit.inBlock]
    go_step
    refine wp_seq_k ?_
    intro _ _
    refine wp_region_lit ?_
    refine a_load33b hf rfl rfl (by exact h3) rfl ?_; clear hf; intro _ hf
    refine a_call1 hf e41 rfl rfl rfl ?_; clear hf; refine (check_code C A c 0 (by rw [hcode]; rfl) _ (HL.out.below hB) hn).mono ?_; rintro _ w1 ⟨rfl, hb⟩; replace hB := bel_then hB hb; replace h3 := (hb.block _ (blk_lt h3)).trans h3; replace hK := hK.below hb; clear hb; intro _ hf
    refine a_cmp hf rfl rfl rfl rfl rfl rfl rfl ?_; clear hf; intro _ hf
    refine a_move hf rfl rfl rfl ?_; clear hf; intro _ hf
    (first | refine a_not hf rfl rfl rfl ?_ | refine a_move hf rfl rfl rfl ?_); clear hf; intro _ hf
    (first | refine a_not hf rfl rfl rfl ?_ | refine a_cmp hf rfl rfl rfl rfl rfl rfl rfl ?_); clear hf; intro _ hf
    (first | refine a_pickT hf rfl rfl rfl rfl ?_ | refine a_pickF hf rfl rfl rfl rfl ?_); clear hf; intro _ hf
    refine a_move hf rfl rfl rfl ?_; clear hf; intro _ hf
    (first | refine a_not hf rfl rfl rfl ?_ | refine a_move hf rfl rfl rfl ?_); clear hf; intro _ hf
    (first | refine a_not hf rfl rfl rfl ?_ | refine a_neN hf rfl rfl rfl ?_); clear hf; intro _ hf
    (first | refine a_pickT hf rfl rfl rfl rfl ?_ | refine a_pickF hf rfl rfl rfl rfl ?_); clear hf; intro _ hf
    refine a_move hf rfl rfl rfl ?_; clear hf; intro _ hf
    (first | refine a_not hf rfl rfl rfl ?_ | refine a_move hf rfl rfl rfl ?_); clear hf; intro _ hf
    refine a_call1 hf e29 rfl rfl rfl ?_; clear hf; refine (no_acts _ g C _ hK).mono ?_; rintro _ w1 ⟨⟨A9, c9, rfl⟩, hb⟩; replace hB := bel_then hB hb; replace h3 := (hb.block _ (blk_lt h3)).trans h3; replace hK := hK.below hb; clear hb; intro _ hf
    (first | refine a_not hf rfl rfl rfl ?_ | refine a_len hf rfl rfl rfl rfl ?_); clear hf; intro _ hf
    (first | refine a_not hf rfl rfl rfl ?_ | refine a_cmp hf rfl rfl rfl rfl rfl rfl rfl ?_); clear hf; intro _ hf
    (first | refine a_pickT hf rfl rfl rfl rfl ?_ | refine a_pickF hf rfl rfl rfl rfl ?_); clear hf; intro _ hf
    refine a_move hf rfl rfl rfl ?_; clear hf; intro _ hf
    refine a_call0 hf e16 rfl rfl ?_; clear hf; refine (known_any _).mono ?_; rintro _ w1 ⟨rfl, hb⟩; replace hB := bel_then hB hb; replace h3 := (hb.block _ (blk_lt h3)).trans h3; clear hb; intro _ hf
    (first | refine a_pickT hf rfl rfl rfl rfl ?_ | refine a_pickF hf rfl rfl rfl rfl ?_); clear hf; intro _ hf
    refine a_assign hf rfl rfl rfl ?_; clear hf; intro _ hf
    refine wpList_nil ?_
    simp only [Exit.then, Exit.inBlock]
    go_step
    refine wp_ret ?_
    try simp only [Exit.then, Exit.inBlock]
    exact c_ret hf rfl rfl ⟨rfl, hB⟩
  | some X =>
    have hv : versionR C art min = (X, 0) := by unfold versionR; rw [if_pos hin, hvo]
    refine wp_seq_k ?_
    intro _ _
    refine wp_region_lit ?_
    refine a_load33b hf rfl rfl (by exact h3) rfl ?_; clear hf; intro _ hf
    refine a_move hf rfl rfl rfl ?_; clear hf; intro _ hf
    refine a_move hf rfl rfl rfl ?_; clear hf; intro _ hf
    refine a_call3 hf e39 rfl rfl rfl rfl rfl ?_; clear hf; refine (version_as C A c art min X 0 hv _ (HL.out.below hB) hn).mono ?_; rintro _ w1 ⟨rfl, hb⟩; replace hK := hK.below hb; replace hB := bel_then hB hb; replace h3 := (hb.block _ (blk_lt h3)).trans h3; clear hb; intro _ hf
    refine a_move hf rfl rfl rfl ?_; clear hf; intro _ hf
    refine a_extract hf rfl rfl rfl rfl ?_; clear hf; intro _ hf
    refine a_extract hf rfl rfl rfl rfl ?_; clear hf; intro _ hf
    refine a_alloc71 hf rfl rfl ?_; clear hf; intro _ hf
    refine a_store71 (X := X) hf rfl rfl rfl (heap_alloc_new w1 _) rfl ?_; clear hf; intro _ w2 hf h10 hM10
    refine a_assign hf rfl rfl rfl ?_; clear hf; intro _ hf
    refine wpList_nil ?_
    simp only [Exit.then, Exit.inBlock]
    go_step
    have hb10 : Below w1.heap.size w1 w2 := bel_modG (bel_alloc (Below.refl _ _) _) hM10 (Nat.le_refl _)
    replace hB := bel_then hB hb10
    replace h3 := (hb10.block _ (blk_lt h3)).trans h3
    replace hK := hK.below hb10
    clear hM10 hb10
    refine wp_seq_k ?_
    intro _ _
    refine wp_seq_k ?_
    intro _ _
    refine wp_region_lit ?_
    refine a_move hf rfl rfl rfl ?_; clear hf; intro _ hf
    refine a_not_ hf rfl rfl rfl ?_; clear hf; intro _ hf
    refine a_move hf rfl rfl rfl ?_; clear hf; intro _ hf
    (first | refine a_not hf rfl rfl rfl ?_ | refine a_move hf rfl rfl rfl ?_); clear hf; intro _ hf
    (first | refine a_not hf rfl rfl rfl ?_ | refine a_cmp (b := false) hf rfl rfl rfl rfl rfl (by first | assumption | ((try dsimp only); simp only [decide_eq_true_eq, decide_eq_false_iff_not, beq_iff_eq, bne_iff_ne, beq_eq_false_iff_ne, bne_eq_false_iff_eq, ne_eq] <;> omega)) rfl ?_); clear hf; intro _ hf
    (first | refine a_pickT hf rfl rfl rfl rfl ?_ | refine a_pickF hf rfl rfl rfl rfl ?_); clear hf; intro _ hf
    refine a_move hf rfl rfl rfl ?_; clear hf; intro _ hf
    (first | refine a_not hf rfl rfl rfl ?_ | refine a_move hf rfl rfl rfl ?_); clear hf; intro _ hf
    (first | refine a_not hf rfl rfl rfl ?_ | refine a_cmp (b := false) hf rfl rfl rfl rfl rfl (by first | assumption | ((try dsimp only); simp only [decide_eq_true_eq, decide_eq_false_iff_not, beq_iff_eq, bne_iff_ne, beq_eq_false_iff_ne, bne_eq_false_iff_eq, ne_eq] <;> omega)) rfl ?_); clear hf; intro _ hf
    (first | refine a_pickT hf rfl rfl rfl rfl ?_ | refine a_pickF hf rfl rfl rfl rfl ?_); clear hf; intro _ hf
    refine a_move hf rfl rfl rfl ?_; clear hf; intro _ hf
    (first | refine a_not hf rfl rfl rfl ?_ | refine a_move hf rfl rfl rfl ?_); clear hf; intro _ hf
    (first | refine a_not hf rfl rfl rfl ?_ | refine a_cmp (b := false) hf rfl rfl rfl rfl rfl (by first | assumption | ((try dsimp only); simp only [decide_eq_true_eq, decide_eq_false_iff_not, beq_iff_eq, bne_iff_ne, beq_eq_false_iff_ne, bne_eq_false_iff_eq, ne_eq] <;> omega)) rfl ?_); clear hf; intro _ hf
    (first | refine a_pickT hf rfl rfl rfl rfl ?_ | refine a_pickF hf rfl rfl rfl rfl ?_); clear hf; intro _ hf
    refine a_move hf rfl rfl rfl ?_; clear hf; intro _ hf
    (first | refine a_not hf rfl rfl rfl ?_ | refine a_move hf rfl rfl rfl ?_); clear hf; intro _ hf
    (first | refine a_not hf rfl rfl rfl ?_ | refine a_cmp (b := false) hf rfl rfl rfl rfl rfl (by first | assumption | ((try dsimp only); simp only [decide_eq_true_eq, decide_eq_false_iff_not, beq_iff_eq, bne_iff_ne, beq_eq_false_iff_ne, bne_eq_false_iff_eq, ne_eq] <;> omega)) rfl ?_); clear hf; intro _ hf
    (first | refine a_pickT hf rfl rfl rfl rfl ?_ | refine a_pickF hf rfl rfl rfl rfl ?_); clear hf; intro _ hf
    refine wpList_nil ?_
    simp only [Exit.then, Exit.inBlock]
    go_step
    refine c_condF hf rfl ?_
    refine wp_seq_k ?_
    intro _ _
    refine wp_region_lit ?_
    refine a_load33b hf rfl rfl (by exact h3) rfl ?_; clear hf; intro _ hf
    refine a_move hf rfl rfl rfl ?_; clear hf; intro _ hf
    refine a_move hf rfl rfl rfl ?_; clear hf; intro _ hf
    refine a_call3 hf e40 rfl rfl rfl rfl rfl ?_; clear hf; refine (refVersion_as C A c art min _ hvo _ (HL.out.below hB) hn).mono ?_; rintro _ w3 ⟨rfl, hb⟩; replace hK := hK.below hb; replace h10 := (hb.block _ (blk_lt h10)).trans h10; replace hB := bel_then hB hb; replace h3 := (hb.block _ (blk_lt h3)).trans h3; clear hb; intro _ hf
    refine a_move hf rfl rfl rfl ?_; clear hf; intro _ hf
    refine a_extract hf rfl rfl rfl rfl ?_; clear hf; intro _ hf
    refine a_extract hf rfl rfl rfl rfl ?_; clear hf; intro _ hf
    refine a_alloc71 hf rfl rfl ?_; clear hf; intro _ hf
    refine a_store71 (X := X) hf rfl rfl rfl (heap_alloc_new w3 _) rfl ?_; clear hf; intro _ w4 hf h12 hM12
    refine a_assign hf rfl rfl rfl ?_; clear hf; intro _ hf
    refine wpList_nil ?_
    simp only [Exit.then, Exit.inBlock]
    go_step
    have hb12 : Below w3.heap.size w3 w4 := bel_modG (bel_alloc (Below.refl _ _) _) hM12 (Nat.le_refl _)
    replace hB := bel_then hB hb12
    replace h3 := (hb12.block _ (blk_lt h3)).trans h3
    replace hK := hK.below hb12
    replace h10 := (hb12.block _ (blk_lt h10)).trans h10
    clear hM12 hb12
    refine wp_seq_k ?_
    intro _ _
    refine wp_region_lit ?_
    refine a_move hf rfl rfl rfl ?_; clear hf; intro _ hf
    refine a_move hf rfl rfl rfl ?_; clear hf; intro _ hf
    (first | refine a_not hf rfl rfl rfl ?_ | refine a_move hf rfl rfl rfl ?_); clear hf; intro _ hf
    (first | refine a_not hf rfl rfl rfl ?_ | refine a_cmp (b := false) hf rfl rfl rfl rfl rfl (by first | assumption | ((try dsimp only); simp only [decide_eq_true_eq, decide_eq_false_iff_not, beq_iff_eq, bne_iff_ne, beq_eq_false_iff_ne, bne_eq_false_iff_eq, ne_eq] <;> omega)) rfl ?_); clear hf; intro _ hf
    (first | refine a_not hf rfl rfl rfl ?_ | refine a_move hf rfl rfl rfl ?_); clear hf; intro _ hf
    (first | refine a_not hf rfl rfl rfl ?_ | refine a_load71b hf rfl rfl (by exact h10) rfl ?_); clear hf; intro _ hf
    (first | refine a_not hf rfl rfl rfl ?_ | refine a_load71b hf rfl rfl (by exact h12) rfl ?_); clear hf; intro _ hf
    (first | refine a_not hf rfl rfl rfl ?_ | refine a_neq71 (b := false) hf rfl rfl rfl (by first | assumption | (rw [artEq_self]; rfl) | rfl) rfl ?_); clear hf; intro _ hf
    (first | refine a_not hf rfl rfl rfl ?_ | refine a_pickT hf rfl rfl rfl rfl ?_ | refine a_pickF hf rfl rfl rfl rfl ?_); clear hf; intro _ hf
    (first | refine a_pickT hf rfl rfl rfl rfl ?_ | refine a_pickF hf rfl rfl rfl rfl ?_); clear hf; intro _ hf
    refine a_move hf rfl rfl rfl ?_; clear hf; intro _ hf
    (first | refine a_not hf rfl rfl rfl ?_ | refine a_move hf rfl rfl rfl ?_); clear hf; intro _ hf
    (first | refine a_not hf rfl rfl rfl ?_ | refine a_not_ hf rfl rfl rfl ?_); clear hf; intro _ hf
    (first | refine a_not hf rfl rfl rfl ?_ | refine a_move hf rfl rfl rfl ?_); clear hf; intro _ hf
    (first | refine a_not hf rfl rfl rfl ?_ | refine a_move hf rfl rfl rfl ?_); clear hf; intro _ hf
    (first | refine a_not hf rfl rfl rfl ?_ | refine a_cmp (b := false) hf rfl rfl rfl rfl rfl (by first | assumption | ((try dsimp only); simp only [decide_eq_true_eq, decide_eq_false_iff_not, beq_iff_eq, bne_iff_ne, beq_eq_false_iff_ne, bne_eq_false_iff_eq, ne_eq] <;> omega)) rfl ?_); clear hf; intro _ hf
    (first | refine a_not hf rfl rfl rfl ?_ | refine a_move hf rfl rfl rfl ?_); clear hf; intro _ hf
    (first | refine a_not hf rfl rfl rfl ?_ | refine a_load71b hf rfl rfl (by exact h10) rfl ?_); clear hf; intro _ hf
    (first | refine a_not hf rfl rfl rfl ?_ | refine a_zero71 hf rfl rfl ?_); clear hf; intro _ hf
    (first | refine a_not hf rfl rfl rfl ?_ | refine a_neq71 (b := false) hf rfl rfl rfl (by first | assumption | (rw [artEq_self]; rfl) | rfl) rfl ?_); clear hf; intro _ hf
    (first | refine a_not hf rfl rfl rfl ?_ | refine a_pickT hf rfl rfl rfl rfl ?_ | refine a_pickF hf rfl rfl rfl rfl ?_); clear hf; intro _ hf
    (first | refine a_not hf rfl rfl rfl ?_ | refine a_pickT hf rfl rfl rfl rfl ?_ | refine a_pickF hf rfl rfl rfl rfl ?_); clear hf; intro _ hf
    (first | refine a_pickT hf rfl rfl rfl rfl ?_ | refine a_pickF hf rfl rfl rfl rfl ?_); clear hf; intro _ hf
    refine wpList_nil ?_
    simp only [Exit.then, Exit.inBlock]
    go_step
    refine c_condF hf rfl ?_
    refine wp_skip ?_
    simp only [Exit.then, Exit.inBlock]
    go_step
    refine wp_seq_k ?_
    intro _ _
    refine wp_seq_k ?_
    intro _ _
    refine wp_region_lit ?_
    refine a_move hf rfl rfl rfl ?_; clear hf; intro _ hf
    refine a_not_ hf rfl rfl rfl ?_; clear hf; intro _ hf
    refine wpList_nil ?_
    simp only [Exit.then, Exit.inBlock]
    go_step
    refine c_condF hf rfl ?_
    refine wp_skip ?_
    simp only [Exit.then, Exit.inBlock]
    go_step
    refine wp_seq_k ?_
    intro _ _
    refine wp_region_lit ?_
    refine a_load33b hf rfl rfl (by exact h3) rfl ?_; clear hf; intro _ hf
    refine a_call1 hf e41 rfl rfl rfl ?_; clear hf; refine (check_code C A c 0 (by rw [hcode]; rfl) _ (HL.out.below hB) hn).mono ?_; rintro _ w1 ⟨rfl, hb⟩; replace hB := bel_then hB hb; replace h3 := (hb.block _ (blk_lt h3)).trans h3; replace hK := hK.below hb; clear hb; intro _ hf
    refine a_cmp hf rfl rfl rfl rfl rfl rfl rfl ?_; clear hf; intro _ hf
    refine a_move hf rfl rfl rfl ?_; clear hf; intro _ hf
    (first | refine a_not hf rfl rfl rfl ?_ | refine a_move hf rfl rfl rfl ?_); clear hf; intro _ hf
    (first | refine a_not hf rfl rfl rfl ?_ | refine a_cmp hf rfl rfl rfl rfl rfl rfl rfl ?_); clear hf; intro _ hf
    (first | refine a_pickT hf rfl rfl rfl rfl ?_ | refine a_pickF hf rfl rfl rfl rfl ?_); clear hf; intro _ hf
    refine a_move hf rfl rfl rfl ?_; clear hf; intro _ hf
    (first | refine a_not hf rfl rfl rfl ?_ | refine a_move hf rfl rfl rfl ?_); clear hf; intro _ hf
    (first | refine a_not hf rfl rfl rfl ?_ | refine a_neN hf rfl rfl rfl ?_); clear hf; intro _ hf
    (first | refine a_pickT hf rfl rfl rfl rfl ?_ | refine a_pickF hf rfl rfl rfl rfl ?_); clear hf; intro _ hf
    refine a_move hf rfl rfl rfl ?_; clear hf; intro _ hf
    (first | refine a_not hf rfl rfl rfl ?_ | refine a_move hf rfl rfl rfl ?_); clear hf; intro _ hf
    refine a_call1 hf e29 rfl rfl rfl ?_; clear hf; refine (no_acts _ g C _ hK).mono ?_; rintro _ w1 ⟨⟨A9, c9, rfl⟩, hb⟩; replace hB := bel_then hB hb; replace h3 := (hb.block _ (blk_lt h3)).trans h3; replace hK := hK.below hb; clear hb; intro _ hf
    (first | refine a_not hf rfl rfl rfl ?_ | refine a_len hf rfl rfl rfl rfl ?_); clear hf; intro _ hf
    (first | refine a_not hf rfl rfl rfl ?_ | refine a_cmp hf rfl rfl rfl rfl rfl rfl rfl ?_); clear hf; intro _ hf
    (first | refine a_pickT hf rfl rfl rfl rfl ?_ | refine a_pickF hf rfl rfl rfl rfl ?_); clear hf; intro _ hf
    refine a_move hf rfl rfl rfl ?_; clear hf; intro _ hf
    refine a_call0 hf e16 rfl rfl ?_; clear hf; refine (known_any _).mono ?_; rintro _ w1 ⟨rfl, hb⟩; replace hB := bel_then hB hb; replace h3 := (hb.block _ (blk_lt h3)).trans h3; clear hb; intro _ hf
    (first | refine a_pickT hf rfl rfl rfl rfl ?_ | refine a_pickF hf rfl rfl rfl rfl ?_); clear hf; intro _ hf
    refine a_assign hf rfl rfl rfl ?_; clear hf; intro _ hf
    refine wpList_nil ?_
    simp only [Exit.then, Exit.inBlock]
    go_step
    refine wp_ret ?_
    try simp only [Exit.then, Exit.inBlock]
    exact c_ret hf rfl rfl ⟨rfl, hB⟩
end Go.Proofs.Ytpadgcomncljmaa.A
/- Which codes are as defined, and the version of any article: the law AppealCodes is true for every code, article and minute, and leaves its arguments as they read. No condition. -/
namespace Go.Proofs.Ytpadgcomncljmaa.A
open Go.ChangeShapes Go.WideShapes Go.ChangeAt Go.RowKit
theorem own_AppealCodes : ownKnob Try.prog.godebug = none := by kernel_rfl
set_option maxRecDepth 100000 in
theorem lifted_AppealCodes (os : Os) (started : os.Started) (H : Type) (enc : TypeId × Value → H) :
    ReturnsInHanded {} Try.checked os 7 .any (Rows.appealCodesSpec.pre6 enc Try.prog Try.f7 Rows.appealCodesRow.domain false) (Rows.appealCodesSpec.post enc Try.prog Try.f7 false true false false) := by
  refine returnsInHanded_of_change (C := Try.checked) own_AppealCodes started (by kernel_rfl) Try.func7
    (ChangeSpec.witness6 (enc := enc) (C := Try.checked) false ⟨#[], #[.agg #[.int .i64 0, .slice none 0 0, .int .i64 0, .int .i64 0, .int .i64 0, .int .i64 0], .int .i64 0, .int .i64 0], []⟩ 8 (by kernel_rfl) (by kernel_rfl) (by kernel_rfl) (by kernel_rfl)) ?_
  intro W base args ds gs before hval0 hW hcnd _
  have hval : ∀ (j : Nat) t v, Try.f7.params[j]? = some t → args[j]? = some v → Value.okWide Try.prog W .any base t v := hval0
  have hW' := hW
  obtain ⟨p, q, hA0, hV, rfl, hfz, hnd⟩ := hW
  have hA : DataW.TrodAll enc Try.prog W 0 (fun _ => true) true Try.f7.params.toList args.toList ds p := hA0
  rw [Try.params7] at hA hval
  obtain ⟨v0, vs0, d0, ds0, p0, q0, hargs, rfl, rfl, h0, r0⟩ := trodAll_cons hA
  obtain ⟨v1, vs1, d1, ds1, p1, q1, rfl, rfl, rfl, h1, r1⟩ := trodAll_cons r0
  obtain ⟨v2, vs2, d2, ds2, p2, q2, rfl, rfl, rfl, h2, r2⟩ := trodAll_cons r1
  obtain ⟨rfl, rfl, rfl⟩ := trodAll_nil r2
  obtain rfl : args = #[v0, v1, v2] := by cases args; simp_all
  obtain ⟨rfl, rfl⟩ := trodVars_none hV
  clear hA0 hval0
  simp only [List.append_nil] at hW'
  have hlt : ∀ x ∈ p0 ++ p1 ++ p2, x.block < W.heap.size := fun x hx => by simpa using hW'.lt x (by simpa using hx)
  have hk0 := fun (W' : World) (hn : Below W.heap.size W W') => Below.trod laidOut (by kernel_rfl) (of_decide_eq_true (by kernel_rfl)) h0 hn (fun x hx => hlt x (by simp [hx]))
  have hk1 := fun (W' : World) (hn : Below W.heap.size W W') => Below.trod laidOut (by kernel_rfl) (of_decide_eq_true (by kernel_rfl)) h1 hn (fun x hx => hlt x (by simp [hx]))
  have hk2 := fun (W' : World) (hn : Below W.heap.size W W') => Below.trod laidOut (by kernel_rfl) (of_decide_eq_true (by kernel_rfl)) h2 hn (fun x hx => hlt x (by simp [hx]))
  obtain ⟨C0, A0, c0, ra0, l0, m0, f0⟩ := arg33 (hval 0 33 v0 rfl rfl) h0
  subst ra0
  obtain ⟨a1, ra1, _, _, w1⟩ := open_int Try.underlying3 (hval 1 3 v1 rfl rfl) h1
  subst ra1
  obtain ⟨a2, ra2, _, _, w2⟩ := open_int Try.underlying3 (hval 2 3 v2 rfl rfl) h2
  subst ra2
  refine (walk_AppealCodes C0 A0 c0 a1 a2 W l0 m0 f0 w1 w2).mono fun e W' ⟨he, hb⟩ => ?_
  subst he
  exact ⟨_, rfl, [d0, d1, d2], [], _, [], _, [], hW', trodAll_cons_mk (shut_bool Try.underlying4 _) trodAll_mk0, trodAll_cons_mk (hk0 W' hb) (trodAll_cons_mk (hk1 W' hb) (trodAll_cons_mk (hk2 W' hb) trodAll_mk0)), rfl, hb.frame _, fun h => by cases h⟩
theorem over_AppealCodes : Rows.appealCodesRow.holds Try.pinned (OpenSpec.ofChange Rows.appealCodesSpec) :=
  OpenClaim.holds_of_wide 7 Try.f7 rfl rfl rfl rfl rfl rfl rfl ⟨rfl, rfl, rfl, rfl, rfl⟩ rfl rfl rfl rfl rfl (by kernel_rfl) Try.func7 (by kernel_rfl)
    (of_decide_eq_true (by kernel_rfl)) (by unfold Func.isWrapper; first | (rw [if_pos (by decide +kernel)]; kernel_rfl) | (rw [if_neg (by decide +kernel)]; exact ⟨rfl, rfl⟩))
    (fun os started H enc _ => lifted_AppealCodes os started H enc)
end Go.Proofs.Ytpadgcomncljmaa.A
namespace Go.Proofs.Ytpadgcomncljmaa
theorem appealCodes_holds : Rows.AppealCodesSaid := A.over_AppealCodes
#print axioms appealCodes_holds
end Go.Proofs.Ytpadgcomncljmaa
