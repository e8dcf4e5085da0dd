/- Penalty: the sum over the cases against a car. -/
import Derived.ProofKit
import Derived.Carry
import Derived.Deep.Slices
import Derived.Test.YtpadgcomncljmaaStatesZ4
set_option linter.all false
namespace Go.Proofs.Ytpadgcomncljmaa.A
open Go.RowKit

structure PenW (w : World) (g : Nat) (C : CodeL) (acts : List ActL) (files : List FileL) (ls : List FileL) (A : Option Addr) (min : Int) (b : Bool) (W : World) : Prop where
  c3 : W.heap[w.heap.size]? = some (.cells #[.pointer (some ⟨g,0,none⟩)] 37 (0,0))
  c5 : W.heap[w.heap.size + 1]? = some (.cells #[.int .i64 min] 3 (0,0))
  c11 : W.heap[w.heap.size + 2]? = some (.cells #[.bool b] 4 (0,0))
  court : CourtR W g C acts files
  row : RFile Any W A ls
  bel : Below w.heap.size w W
section
variable {w W W' : World} {g : Nat} {C : CodeL} {acts : List ActL} {files ls : List FileL} {A : Option Addr} {min : Int} {b : Bool}
theorem PenW.below (h : PenW w g C acts files ls A min b W) (hb : Below W.heap.size W W') : PenW w g C acts files ls A min b W' :=
  ⟨(hb.block _ (blk_lt h.c3)).trans h.c3,(hb.block _ (blk_lt h.c5)).trans h.c5,(hb.block _ (blk_lt h.c11)).trans h.c11,h.court.below hb,h.row.below hb,bel_then h.bel hb⟩
theorem mod_set (b : Nat) (u : Value) : Mod (fun k => k = b) W (W.setCell ⟨b,0,none⟩ u):=Mod.put1 Mod.refl 0 u
theorem PenW.turn (h : PenW w g C acts files ls A min b W) (b' : Bool) : PenW w g C acts files ls A min b' (W.setCell ⟨w.heap.size + 2,0,none⟩ (.bool b')):=by
  have hM:=mod_set (W:=W) (w.heap.size + 2) (.bool b');have ha:=alien_bool h.c11;exact ⟨(hM.block _ (blk_lt h.c3) (by omega)).trans h.c3,(hM.block _ (blk_lt h.c5) (by omega)).trans h.c5,blk_set h.c11 0 (.bool b'),h.court.turn ha hM,h.row.turn ha hM,bel_modG h.bel hM (by omega)⟩
end
theorem penSum_snoc {C : CodeL} {acts : List ActL} {min : Int} {ls : List FileL} {k : Nat} {f : FileL} (h : ls[k]? = some f) : penSum C acts min (ls.take (k + 1)) = penSum C acts min (ls.take k) + penOf C acts min f:=by
  unfold penSum
  rw [drop_snoc h,List.map_append];exact sumI_snoc _ _
theorem penProv_snoc {C : CodeL} {acts : List ActL} {min : Int} {ls : List FileL} {k : Nat} {f : FileL} (h : ls[k]? = some f) : penProv C acts min (ls.take (k + 1)) = (penProv C acts min (ls.take k) || provOf C acts min f):=by
  unfold penProv
  rw [drop_snoc h,List.any_append]
  simp
theorem force_as (g : Nat) (C : CodeL) (acts : List ActL) (files : List FileL) (f : FileL) (p : Int) (A : Option Addr) (c : Nat) (min : Int) (w : World) (pn : Int) (up : Bool) (hfr : forceR C acts min f.acts = (pn, up)) (hC : CourtR w g C acts files) (hwf : Wf C acts files)
    (hf : RI Any w A f.acts) (hv : ∀ i : Int,i ∈ f.acts → ∃ (n : Nat) (x : ActL),i = n ∧ acts[n]? = some x) (hfl : f.acts.length ≤ acts.length) (hm0 : 0 ≤ min) (hm1 : min ≤ 10000000) :
    Calls Try.prog 76 #[.pointer (some ⟨g,0,none⟩),.agg #[.int .i64 p,.slice A f.acts.length c],.int .i64 min] w fun r w' => r = .returned (.tuple #[.int .i64 pn,.bool up]) ∧ Below w.heap.size w w':=by
  have h:=force_any g C acts files f p A c min w hC hwf hf hv hfl hm0 hm1;rw [hfr] at h;exact h
theorem state_as (g : Nat) (C : CodeL) (acts : List ActL) (files : List FileL) (f : FileL) (p : Int) (A : Option Addr) (c : Nat) (min : Int) (w : World) (st : Int) (hst : stGo C.sec acts min f.acts 1 = st) (hC : CourtR w g C acts files) (hwf : Wf C acts files)
    (hf : RI Any w A f.acts) (hv : ∀ i : Int,i ∈ f.acts → ∃ (n : Nat) (x : ActL),i = n ∧ acts[n]? = some x) (hfl : f.acts.length ≤ acts.length) (hm0 : 0 ≤ min) (hm1 : min ≤ 10000000) :
    Calls Try.prog 73 #[.pointer (some ⟨g,0,none⟩),.agg #[.int .i64 p,.slice A f.acts.length c],.int .i64 min] w fun r w' => r = .returned (.int .i64 st) ∧ Below w.heap.size w w':=by
  have h:=state_any g C acts files f p A c min w hC hwf hf hv hfl hm0 hm1;rw [hst] at h;exact h
theorem t_takeR {P : Program} {ops : Array Oper} {R : Act → World → Prop} {S : World → Prop} {a : Act} {w : World} {o : Oper} {n d i fuel : Nat} {ds : List Deferred} {l : List (Nat × Value)} {v : Value} {listed : Array Bool} (H : Has n ds l a) (ho : ops[i]? = some o) (hs : Region.noSelect ops = true) (hf : Region.free .any ops listed i = true) (hr : (Region.ready .any ops listed).contains i = true) (hg : wantB ops n l o.guard = some true)
    (he : ∀ w,S w → (execOp a.eval o).run P w = .ok (.value v) w) (hdst : o.dst = some d) (hd : Nat.ble (d + 1) n = true) (hS : S w)
    (h : ∀ a',Has n ds ((d,v) :: l) a' → wpAnyH P .any ops (fun e a w => e = .normal ∧ R a w) S fuel (listed.setIfInBounds i true) a' w) : wpAnyH P .any ops (fun e a w => e = .normal ∧ R a w) S (fuel + 1) listed a w :=
  wpAnyH_take ho hs hf hr (fun _ _ _ h => by cases h.1) (.inl ⟨want_sound H hg,he⟩) hS (by rw [hdst];exact h _ (H.put hd))
theorem t_notR {P : Program} {ops : Array Oper} {R : Act → World → Prop} {S : World → Prop} {a : Act} {w : World} {o : Oper} {n d i fuel : Nat} {ds : List Deferred} {l : List (Nat × Value)} {listed : Array Bool} (H : Has n ds l a) (ho : ops[i]? = some o) (hs : Region.noSelect ops = true) (hf : Region.free .any ops listed i = true) (hr : (Region.ready .any ops listed).contains i = true) (hg : wantB ops n l o.guard = some false)
    (hdst : o.dst = some d) (hd : Nat.ble (d + 1) n = true) (hS : S w)
    (h : ∀ a',Has n ds ((d,undef) :: l) a' → wpAnyH P .any ops (fun e a w => e = .normal ∧ R a w) S fuel (listed.setIfInBounds i true) a' w) : wpAnyH P .any ops (fun e a w => e = .normal ∧ R a w) S (fuel + 1) listed a w :=
  wpAnyH_take ho hs hf hr (fun _ _ _ h => by cases h.1) (.inr ⟨by simp [want_sound H hg],rfl⟩) hS (by rw [hdst];exact h _ (H.put hd))
theorem x_pickT {ops : Array Oper} {a : Act} {w : World} {n : Nat} {ds : List Deferred} {l : List (Nat × Value)} {v : Value} {P : Program} {od : Option Tmp} {x y z : Operand} {t : TypeId} {ps : String} {af : Array Edge} {g : Option (Nat × Bool)} (H : Has n ds l a) (hx : lookO l x = some (.bool true)) (hy : lookO l y = some v) : (execOp a.eval ⟨od,.pick x y z,t,ps,af,g⟩).run P w = .ok (.value v) w:=by
  have h1:=H.evO hx;have h2:=H.evO hy;generalize a.eval = ev at h1 h2;simp [go_sem,h1,h2]
theorem x_pickF {ops : Array Oper} {a : Act} {w : World} {n : Nat} {ds : List Deferred} {l : List (Nat × Value)} {v : Value} {P : Program} {od : Option Tmp} {x y z : Operand} {t : TypeId} {ps : String} {af : Array Edge} {g : Option (Nat × Bool)} (H : Has n ds l a) (hx : lookO l x = some (.bool false)) (hy : lookO l z = some v) : (execOp a.eval ⟨od,.pick x y z,t,ps,af,g⟩).run P w = .ok (.value v) w:=by
  have h1:=H.evO hx;have h2:=H.evO hy;generalize a.eval = ev at h1 h2;simp [go_sem,h1,h2]
theorem x_cmp {op : BinOp} {r : Int → Int → Bool} {m k : Int} {b : Bool} {a : Act} {w : World} {n : Nat} {ds : List Deferred} {l : List (Nat × Value)} {od : Option Tmp} {x y : Operand} {T t : TypeId} {ps : String} {af : Array Edge} {g : Option (Nat × Bool)} (H : Has n ds l a) (ho : cmpB op = some r) (hT : intT T = true) (hx : lookO l x = some (.int .i64 m)) (hy : lookO l y = some (.int .i64 k)) (hb : r m k = b) : (execOp a.eval ⟨od,.binOp op T x y T,t,ps,af,g⟩).run Try.prog w = .ok (.value (.bool b)) w:=by
  subst hb
  exact run_cmp (o:=⟨od,.nilCheck x,t,ps,af,g⟩) hT ho (H.evO hx) (H.evO hy)
theorem x_arw {op : BinOp} {r : Int → Int → Int} {m k : Int} {a : Act} {w : World} {n : Nat} {ds : List Deferred} {l : List (Nat × Value)} {od : Option Tmp} {x y : Operand} {t : TypeId} {ps : String} {af : Array Edge} {g : Option (Nat × Bool)} (H : Has n ds l a) (ho : arI op = some r) (hx : lookO l x = some (.int .i64 m)) (hy : lookO l y = some (.int .i64 k)) : (execOp a.eval ⟨od,.binOp op 3 x y 3,t,ps,af,g⟩).run Try.prog w = .ok (.value (.int .i64 (IntKind.i64.wrap (r m k)))) w :=
  run_ar (o:=⟨od,.nilCheck x,t,ps,af,g⟩) ho (H.evO hx) (H.evO hy)
def pubW (win min : Int) (a : ActL) : Bool:=a.kind == 1 && decide (IntKind.i64.wrap (min - a.minute) ≤ win)
theorem Has.defer {n : Nat} {ds : List Deferred} {l : List (Nat × Value)} {a : Act} (H : Has n ds l a) (x : Deferred) : Has n (x :: ds) l { tmps:=a.tmps,defers:=x :: a.defers }:=⟨H.size,by rw [H.defers],H.at_⟩
def isDefer : Op → Bool
  | .defer _ => true
  | _ => false
theorem no_defer {ops : Array Oper} (h : (ops.all fun o => !isDefer o.op) = true) : ∀ (i : Nat) (o : Oper),ops[i]? = some o → ∀ c,o.op ≠ Op.defer c:=fun i o hi c e => by
  rw [Array.all_eq_true] at h
  obtain ⟨hlt,he⟩:=Array.getElem?_eq_some_iff.1 hi
  have:=h i hlt;rw [he,e] at this
  simp [isDefer] at this
theorem has_round {n : Nat} {ds : List Deferred} {l : List (Nat × Value)} {a : Act} (H : Has n ds l a) (d1 d2 : Nat) (v1 v2 : Value) (h1 : Nat.ble (d1 + 1) n = true) (h2 : Nat.ble (d2 + 1) n = true) : Has n [] ((d2,v2) :: (d1,v1) :: l) { tmps:=((#[d1,d2] : Array Tmp).zip #[v1,v2]).foldl (fun t (p,v) => t.setIfInBounds p v) a.tmps,defers:=[] }:=by
  have h:=(H.put (v:=v1) h1).put (v:=v2) h2;exact ⟨by simpa [Act.put] using h.size,rfl,fun j v hj => by simpa [Act.put,Act.eval] using h.at_ j v hj⟩
set_option maxHeartbeats 4000000 in
set_option maxRecDepth 100000 in
theorem penalty_court (g : Nat) (C : CodeL) (acts : List ActL) (files : List FileL) (car min : Int) (w : World) (hC : CourtR w g C acts files) (hwf : Wf C acts files) (hpen : ∀ x ∈ acts, 0 ≤ x.pen ∧ x.pen ≤ 36000000) (hck : checkR C.cars car min = 0) :
    Calls Try.prog 32 #[.pointer (some ⟨g,0,none⟩),.int .i64 car,.int .i64 min] w fun e w' => e = .returned (.tuple #[.int .i64 (penaltyR C acts files car min).1,.bool (penaltyR C acts files car min).2,.int .i64 0]) ∧ Below w.heap.size w w':=by
  have HWF:=Aside.mk hwf;have HPEN:=Aside.mk hpen
  have hmm : 0 ≤ min ∧ min ≤ 10000000:=by
    unfold checkR at hck
    split at hck
    · rename_i h;simp only [Bool.and_eq_true,inB_iff] at h;exact h.2
    · cases hck
  obtain ⟨hm0,hm1⟩:=hmm
  have hn6 : acts.length ≤ 1000000 ∧ files.length ≤ acts.length:=by obtain ⟨_,_,_,_,_,_,_,_,_,_,_,h1,h2⟩:=hC;exact ⟨h1,h2⟩
  have hck74 : ∀ W,CourtR W g C acts files → Calls Try.prog 74 #[.pointer (some ⟨g,0,none⟩),.int .i64 car,.int .i64 min] W fun r w' => r = .returned (.int .i64 0) ∧ W = w':=fun W h => by
    have:=check_court g C acts files car min W h;rw [hck] at this;exact this
  have HCK:=Aside.mk hck74;have hB : Below w.heap.size w ((w.alloc (.cells #[.pointer (some ⟨g,0,none⟩)] 37)).alloc (.cells #[.int .i64 min] 3)):=bel_alloc (bel_alloc (Below.refl _ _) _) _;have h1 : ((w.alloc (.cells #[.pointer (some ⟨g,0,none⟩)] 37)).alloc (.cells #[.int .i64 min] 3)).heap[w.heap.size + 1]? = some (.cells #[.int .i64 min] 3 (0,0)):=by have:=heap_alloc_new (w.alloc (.cells #[.pointer (some ⟨g,0,none⟩)] 37)) (.cells #[.int .i64 min] 3);rwa [alloc_size'] at this
  have h0 : ((w.alloc (.cells #[.pointer (some ⟨g,0,none⟩)] 37)).alloc (.cells #[.int .i64 min] 3)).heap[w.heap.size]? = some (.cells #[.pointer (some ⟨g,0,none⟩)] 37 (0,0)):=by rw [heap_alloc_old _ _ (by rw [alloc_size'];omega)];exact heap_alloc_new _ _
  have hs2 : ((w.alloc (.cells #[.pointer (some ⟨g,0,none⟩)] 37)).alloc (.cells #[.int .i64 min] 3)).heap.size = w.heap.size + 2:=by simp
  have hC2:=hC.below hB;clear hC hwf hpen hck hck74;refine (callsIn_wide (n:=4)).1 ?_;refine callsIn_of_wp_marks Try.func32 rfl trivial ?_;refine wpIn_wide.2 ?_;simp only [Try.ntmps32,List.size_toArray,List.length_cons,List.length_nil,Nat.reduceAdd,Nat.reduceSub,Array.replicate_succ,Array.replicate_zero,List.push_toArray,List.append_toArray,List.nil_append,List.cons_append];refine wp_abs (n:=98) (ds:=[]) (l:=[(0,.pointer (some ⟨g,0,none⟩)),(1,.int .i64 car),(2,.int .i64 min)]) ?_ ?_
  · refine (((Has.nil ?_ ?_).cons ?_).cons ?_).cons ?_
    all_goals first | rfl | (simp [Act.eval];done)
  intro _ hf;refine wp_seq_k ?_;intro _ _;refine wp_region_lit ?_;refine a_box hf rfl rfl rfl rfl ?_;clear hf;intro _ hf;refine a_box hf rfl rfl rfl rfl ?_;clear hf;intro _ hf;refine a_assign hf rfl rfl rfl ?_;clear hf;intro _ hf;refine a_assign hf rfl rfl rfl ?_;clear hf;intro _ hf;refine a_assign hf rfl rfl rfl ?_;clear hf;intro _ hf;refine wpList_nil ?_;simp only [Exit.then,Exit.inBlock];go_step
  change Code.wp _ _ _ _ ((w.alloc (.cells #[.pointer (some ⟨g,0,none⟩)] 37)).alloc (.cells #[.int .i64 min] 3))
  replace hf : Has 98 [] [(5,.pointer (some ⟨w.heap.size + 1,0,none⟩)),(3,.pointer (some ⟨w.heap.size,0,none⟩)),(1,.int .i64 car)] _:=(((hf.nilOf).cons (hf.at_ 1 _ rfl)).cons (hf.at_ 3 _ rfl)).cons (d:=5) ((hf.at_ 5 _ rfl).trans (by rw [alloc_size']))
  generalize ((w.alloc (.cells #[.pointer (some ⟨g,0,none⟩)] 37)).alloc (.cells #[.int .i64 min] 3)) = W2 at *
  refine wp_seq_k ?_;intro _ _;refine wp_seq_k ?_;intro _ _;refine wp_region_lit ?_;refine a_load hf rfl rfl rfl (by exact blk_cell h0 0) rfl ?_;clear hf;intro _ hf;refine a_move hf rfl rfl rfl ?_;clear hf;intro _ hf;refine a_load hf rfl rfl rfl (by exact blk_cell h1 0) rfl ?_;clear hf;intro _ hf;refine a_call3 hf e74 rfl rfl rfl rfl rfl ?_;clear hf;refine (HCK.out _ hC2).mono ?_;rintro _ _ ⟨rfl,rfl⟩;intro _ hf;refine a_assign hf rfl rfl rfl ?_;clear hf;intro _ hf;refine wpList_nil ?_;simp only [Exit.then,Exit.inBlock];go_step;refine wp_seq_k ?_;intro _ _;refine wp_region_lit ?_;refine a_move hf rfl rfl rfl ?_;clear hf;intro _ hf;refine a_cmp (b:=false) hf rfl rfl rfl rfl rfl (by first | assumption | ((try dsimp only);simp only [bq1,bq2,bq3,bq4,bq5,bq6,bq7] <;> omega)) rfl ?_;clear hf;intro _ hf;refine wpList_nil ?_;simp only [Exit.then,Exit.inBlock];go_step;refine c_condF hf rfl ?_;refine wp_skip ?_;simp only [Exit.then];go_step;refine wp_seq_k ?_;intro _ _;refine wp_region_lit ?_;refine a_alloc4 hf rfl rfl ?_;clear hf;intro _ hf;refine a_assign hf rfl rfl rfl ?_;clear hf;intro _ hf;refine a_store hf rfl rfl rfl rfl rfl (blk_cell (heap_alloc_new W2 _) 0) (blk_free (heap_alloc_new W2 _) 0) ?_;clear hf;intro _ hf;refine wpList_nil ?_;simp only [Exit.then,Exit.inBlock];go_step;have hn2:=heap_alloc_new W2 (.cells #[.bool false] 4);have h11:=blk_set hn2 0 (.bool false);have hM:=mod_set (W:=W2.alloc (.cells #[.bool false] 4)) W2.heap.size (.bool false);have hb3 : Below W2.heap.size W2 ((W2.alloc (.cells #[.bool false] 4)).setCell ⟨W2.heap.size,0,none⟩ (.bool false)):=bel_modG (bel_alloc (Below.refl _ _) _) hM (Nat.le_refl _)
  generalize ((W2.alloc (.cells #[.bool false] 4)).setCell ⟨W2.heap.size,0,none⟩ (.bool false)) = W3 at *
  rw [hs2] at h11 hb3;rw [← hs2] at hb3;have HW3 : PenW w g C acts files [] none min false W3:=⟨(hb3.block _ (blk_lt h0)).trans h0,(hb3.block _ (blk_lt h1)).trans h1,h11,hC2.below hb3,RFile.nil,bel_then hB hb3⟩;replace hf : Has 98 [] [(10,.int .i64 0),(11,.pointer (some ⟨w.heap.size + 2,0,none⟩)),(5,.pointer (some ⟨w.heap.size + 1,0,none⟩)),(3,.pointer (some ⟨w.heap.size,0,none⟩)),(1,.int .i64 car)] _:=((((hf.nilOf.cons (hf.at_ 1 _ rfl)).cons (hf.at_ 3 _ rfl)).cons (hf.at_ 5 _ rfl)).cons (d:=11) ((hf.at_ 11 _ rfl).trans (by rw [hs2]))).cons (hf.at_ 10 _ rfl);clear hn2 h11 hM hb3 hB h0 h1 hs2 hC2;refine wp_seq_k ?_;intro _ _;refine wp_seq_k ?_;intro _ _;refine wp_region_lit ?_;refine a_load hf rfl rfl rfl (by exact blk_cell HW3.c3 0) rfl ?_;clear hf;intro _ hf;refine a_move hf rfl rfl rfl ?_;clear hf;intro _ hf;refine a_load hf rfl rfl rfl (by exact blk_cell HW3.c5 0) rfl ?_;clear hf;intro _ hf;refine a_call3 hf e75 rfl rfl rfl rfl rfl ?_;clear hf;refine (against_any g C acts files car min _ HW3.court HWF.out).mono ?_;rintro _ W4 ⟨A,cl,rfl,hcl,hrow,hb4⟩;intro _ hf;refine a_len hf rfl rfl rfl rfl ?_;clear hf;intro _ hf;refine a_move hf rfl rfl rfl ?_;clear hf;intro _ hf;refine wpList_nil ?_;simp only [Exit.then,Exit.inBlock];go_step;have HW4 : PenW w g C acts files (againstL acts files car min) A min false W4:={ HW3.below hb4 with row:=hrow };clear HW3 hb4 hrow;have hlsm : ∀ f ∈ againstL acts files car min,f ∈ files:=fun f hf => (List.mem_filter.1 hf).1;have hlsl : (againstL acts files car min).length ≤ files.length:=List.length_filter_le _ _;have HRES : (penaltyR C acts files car min) = (penSum C acts min (againstL acts files car min),penProv C acts min (againstL acts files car min) || (upToL acts min).any (pubIn C.win min)):=rfl
  generalize againstL acts files car min = ls at *
  refine wp_block ?_;refine wp_loop_ghost (fun m fr wr => ∃ (k : Nat) (S : Int) (b : Bool),k ≤ ls.length ∧ m = ls.length - k ∧ Has 98 [] [(33,.int .i64 (k : Int)),(10,.int .i64 S),(32,.int .i64 (ls.length : Int)),(31,.slice A ls.length cl),(11,.pointer (some ⟨w.heap.size + 2,0,none⟩)),(5,.pointer (some ⟨w.heap.size + 1,0,none⟩)),(3,.pointer (some ⟨w.heap.size,0,none⟩))] fr ∧ Aside (S = penSum C acts min (ls.take k) ∧ b = penProv C acts min (ls.take k)) ∧ (0 ≤ S ∧ S ≤ 36000000 * (k : Int)) ∧ PenW w g C acts files ls A min b wr) ls.length ?_ ?_
  · exact ⟨0,0,false,Nat.zero_le _,rfl,((((((((hf.nilOf).cons (d:=3) (hf.at_ 3 _ rfl)).cons (d:=5) (hf.at_ 5 _ rfl)).cons (d:=11) (hf.at_ 11 _ rfl)).cons (d:=31) (hf.at_ 31 _ rfl)).cons (d:=32) (hf.at_ 32 _ rfl)).cons (d:=10) (hf.at_ 10 _ rfl)).cons (d:=33) (hf.at_ 33 _ rfl)),⟨⟨rfl,rfl⟩⟩,⟨Int.le_refl _,by simp⟩,HW4⟩
  clear HW4 hf
  rintro m fr wr ⟨k,S,b,hk',rfl,hf,HS,hS,HW⟩
  by_cases hlt : k < ls.length
  · obtain ⟨f,hfk⟩:=get_some hlt
    have HS1:=Aside.mk (penSum_snoc (C:=C) (acts:=acts) (min:=min) hfk);have HP1:=Aside.mk (penProv_snoc (C:=C) (acts:=acts) (min:=min) hfk)
    obtain ⟨_,_,hfl,hv⟩:=HWF.out.file f (hlsm f (List.mem_of_getElem? hfk))
    have HV:=Aside.mk hv
    obtain ⟨ad,Af,cf,rfl,_,f0,f1,hcf,hrf⟩:=HW.row k f hfk
    have HF:=Aside.mk hrf;have hpb:=penOf_bound (C:=C) HPEN.out min f;clear hv hrf;refine wp_seq_k ?_;intro _ _;refine wp_region_lit ?_;refine a_cmp (b:=true) hf rfl rfl rfl rfl rfl (by first | assumption | ((try dsimp only);simp only [bq1,bq2,bq3,bq4,bq5,bq6,bq7] <;> omega)) rfl ?_;clear hf;intro _ hf;refine wpList_nil ?_;simp only [Exit.then,Exit.inBlock];go_step;refine wp_seq_k ?_;intro _ _;refine c_condT hf rfl ?_;refine wp_skip ?_;simp only [Exit.then];go_step;refine wp_seq_k ?_;intro _ _;refine wp_block ?_;refine wp_seq_k ?_;intro _ _;refine wp_region_lit ?_;refine a_index (j:=k) hf rfl rfl rfl rfl (by first | rfl | omega) (by omega) rfl ?_;clear hf;intro _ hf;refine a_load115 hf rfl rfl (by exact f0) (by exact f1) rfl ?_;clear hf;intro _ hf;refine a_alloc115 hf rfl rfl ?_;clear hf;intro _ hf;refine a_store115 hf rfl rfl rfl (heap_alloc_new wr _) rfl ?_;clear hf;intro _ w2 hf hA hM;refine wpList_nil ?_;simp only [Exit.then,Exit.inBlock];go_step;have hM2 : Below wr.heap.size wr w2:=bel_mod (bel_alloc (Below.refl _ wr) (.cells #[.int .i64 0,.slice none 0 0] 115)) hM (by intro k hk;omega);have HW2:=HW.below hM2;have HF2:=Aside.mk (HF.out.below hM2);clear hM hM2 HW HF f0 f1
    obtain ⟨pn,up,hfr⟩ : ∃ pn up,forceR C acts min f.acts = (pn,up):=⟨_,_,rfl⟩
    obtain ⟨st,hst⟩ : ∃ st,stGo C.sec acts min f.acts 1 = st:=⟨_,rfl⟩
    have HPO:=Aside.mk (show penOf C acts min f = if up then pn else 0 by simp [penOf,hfr]);have HPV:=Aside.mk (show provOf C acts min f = stB st by simp [provOf,hst]);refine wp_seq_k ?_;intro _ _;refine wp_region_lit ?_;refine a_load hf rfl rfl rfl (by exact blk_cell HW2.c3 0) rfl ?_;clear hf;intro _ hf;refine a_load115b hf rfl rfl (by exact hA) rfl ?_;clear hf;intro _ hf;refine a_load hf rfl rfl rfl (by exact blk_cell HW2.c5 0) rfl ?_;clear hf;intro _ hf;refine a_call3 hf e76 rfl rfl rfl rfl rfl ?_;clear hf;refine (force_as g C acts files f f.protest Af cf min _ pn up hfr HW2.court HWF.out HF2.out HV.out hfl hm0 hm1).mono ?_;rintro _ w3 ⟨rfl,hb⟩;intro _ hf;refine a_move hf rfl rfl rfl ?_;clear hf;intro _ hf;refine a_extract hf rfl rfl rfl rfl ?_;clear hf;intro _ hf;refine a_extract hf rfl rfl rfl rfl ?_;clear hf;intro _ hf;refine a_assign hf rfl rfl rfl ?_;clear hf;intro _ hf;refine a_assign hf rfl rfl rfl ?_;clear hf;intro _ hf;refine wpList_nil ?_;simp only [Exit.then,Exit.inBlock];go_step;have HW3:=HW2.below hb;have HF3:=Aside.mk (HF2.out.below hb);replace hA:=(hb.block _ (blk_lt hA)).trans hA;clear hb HW2 HF2;refine wp_seq_k ?_;intro _ _;refine wp_seq_k ?_;intro _ _;refine wp_region_lit ?_;refine a_load hf rfl rfl rfl (by exact blk_cell HW3.c3 0) rfl ?_;clear hf;intro _ hf;refine a_load115b hf rfl rfl (by exact hA) rfl ?_;clear hf;intro _ hf;refine a_load hf rfl rfl rfl (by exact blk_cell HW3.c5 0) rfl ?_;clear hf;intro _ hf;refine a_call3 hf e76 rfl rfl rfl rfl rfl ?_;clear hf;refine (force_as g C acts files f f.protest Af cf min _ pn up hfr HW3.court HWF.out HF3.out HV.out hfl hm0 hm1).mono ?_;rintro _ w4 ⟨rfl,hb⟩;intro _ hf;refine a_move hf rfl rfl rfl ?_;clear hf;intro _ hf;refine a_extract hf rfl rfl rfl rfl ?_;clear hf;intro _ hf;refine a_extract hf rfl rfl rfl rfl ?_;clear hf;intro _ hf;refine a_assign hf rfl rfl rfl ?_;clear hf;intro _ hf;refine a_assign hf rfl rfl rfl ?_;clear hf;intro _ hf;refine wpList_nil ?_;simp only [Exit.then,Exit.inBlock];go_step;have HW4:=HW3.below hb;have HF4:=Aside.mk (HF3.out.below hb);replace hA:=(hb.block _ (blk_lt hA)).trans hA;clear hb HW3 HF3;refine wp_seq_k ?_;intro _ _;refine wp_region_lit ?_;refine a_move hf rfl rfl rfl ?_;clear hf;intro _ hf;refine wpList_nil ?_;simp only [Exit.then,Exit.inBlock];go_step;have hpn : up = true → 0 ≤ pn ∧ pn ≤ 36000000:=fun h => by have:=HPO.out;rw [h,if_pos rfl] at this;rw [← this];exact hpb
    cases up with
    | true =>
      have hpn:=hpn rfl;refine c_condT hf rfl ?_;refine wp_region_lit ?_;refine a_move hf rfl rfl rfl ?_;clear hf;intro _ hf;refine a_move hf rfl rfl rfl ?_;clear hf;intro _ hf;refine a_ar hf rfl rfl rfl rfl (by (try dsimp only);omega) rfl ?_;clear hf;intro _ hf;refine a_assign hf rfl rfl rfl ?_;clear hf;intro _ hf;refine wpList_nil ?_;simp only [Exit.then,Exit.inBlock];go_step;refine wp_seq_k ?_;intro _ _;refine wp_region_lit ?_;refine a_load hf rfl rfl rfl (by exact blk_cell HW4.c3 0) rfl ?_;clear hf;intro _ hf;refine a_load115b hf rfl rfl (by exact hA) rfl ?_;clear hf;intro _ hf;refine a_load hf rfl rfl rfl (by exact blk_cell HW4.c5 0) rfl ?_;clear hf;intro _ hf;refine a_call3 hf e73 rfl rfl rfl rfl rfl ?_;clear hf;refine (state_as g C acts files f f.protest Af cf min _ st hst HW4.court HWF.out HF4.out HV.out hfl hm0 hm1).mono ?_;rintro _ w5 ⟨rfl,hb⟩;intro _ hf;refine a_assign hf rfl rfl rfl ?_;clear hf;intro _ hf;refine wpList_nil ?_;simp only [Exit.then,Exit.inBlock];go_step;have HW5:=HW4.below hb;have HF5:=Aside.mk (HF4.out.below hb);replace hA:=(hb.block _ (blk_lt hA)).trans hA;clear hb HW4 HF4
      cases b with
      | true =>
        refine wp_region_lit ?_;refine a_load hf rfl rfl rfl (by exact blk_cell HW5.c11 0) rfl ?_;clear hf;intro _ hf;refine a_move hf rfl rfl rfl ?_;clear hf;intro _ hf
        (first | refine a_not hf rfl rfl rfl ?_ | refine a_move hf rfl rfl rfl ?_);clear hf;intro _ hf
        (first | refine a_not hf rfl rfl rfl ?_ | refine a_cmp52 hf rfl rfl rfl rfl rfl rfl ?_);clear hf;intro _ hf
        (first | refine a_pickT hf rfl rfl rfl rfl ?_ | refine a_pickF hf rfl rfl rfl rfl ?_);clear hf;intro _ hf
        refine a_move hf rfl rfl rfl ?_;clear hf;intro _ hf
        (first | refine a_not hf rfl rfl rfl ?_ | refine a_move hf rfl rfl rfl ?_);clear hf;intro _ hf
        (first | refine a_not hf rfl rfl rfl ?_ | refine a_cmp52 hf rfl rfl rfl rfl rfl rfl ?_);clear hf;intro _ hf
        (first | refine a_pickT hf rfl rfl rfl rfl ?_ | refine a_pickF hf rfl rfl rfl rfl ?_);clear hf;intro _ hf
        refine a_move hf rfl rfl rfl ?_;clear hf;intro _ hf
        (first | refine a_not hf rfl rfl rfl ?_ | refine a_move hf rfl rfl rfl ?_);clear hf;intro _ hf
        (first | refine a_not hf rfl rfl rfl ?_ | refine a_cmp52 hf rfl rfl rfl rfl rfl rfl ?_);clear hf;intro _ hf
        (first | refine a_pickT hf rfl rfl rfl rfl ?_ | refine a_pickF hf rfl rfl rfl rfl ?_);clear hf;intro _ hf
        refine a_store hf rfl rfl rfl rfl rfl (blk_cell HW5.c11 0) (blk_free HW5.c11 0) ?_;clear hf;intro _ hf;refine wpList_nil ?_;simp only [Exit.then,Exit.inBlock];go_step;refine wp_region_lit ?_;refine a_ar hf rfl rfl rfl rfl (by (try dsimp only);omega) rfl ?_;clear hf;intro _ hf;refine a_move hf rfl rfl rfl ?_;clear hf;intro _ hf;refine wpList_nil ?_;simp only [Exit.then,Exit.inBlock];exact ⟨ls.length - (k + 1),by omega,k + 1,(S + pn),true,by omega,rfl,((((((((hf.nilOf).cons (d:=3) (hf.at_ 3 _ rfl)).cons (d:=5) (hf.at_ 5 _ rfl)).cons (d:=11) (hf.at_ 11 _ rfl)).cons (d:=31) (hf.at_ 31 _ rfl)).cons (d:=32) (hf.at_ 32 _ rfl)).cons (d:=10) (hf.at_ 10 _ rfl)).cons (d:=33) (hf.at_ 33 _ rfl)),⟨⟨by rw [HS1.out,← HS.out.1,HPO.out];rfl,by rw [HP1.out,← HS.out.2,HPV.out];simp [stB, *]⟩⟩,by omega,HW5.turn true⟩
      | false =>
        by_cases q1 : st = 1
        · refine wp_region_lit ?_
          refine a_load hf rfl rfl rfl (by exact blk_cell HW5.c11 0) rfl ?_;clear hf;intro _ hf;refine a_move hf rfl rfl rfl ?_;clear hf;intro _ hf
          (first | refine a_not hf rfl rfl rfl ?_ | refine a_move hf rfl rfl rfl ?_);clear hf;intro _ hf
          (first | refine a_not hf rfl rfl rfl ?_ | refine a_cmp52 (b:=true) hf rfl rfl rfl rfl (by first | assumption | ((try dsimp only);simp only [bq1,bq2,bq3,bq4,bq5,bq6,bq7] <;> omega)) rfl ?_);clear hf;intro _ hf
          (first | refine a_pickT hf rfl rfl rfl rfl ?_ | refine a_pickF hf rfl rfl rfl rfl ?_);clear hf;intro _ hf
          refine a_move hf rfl rfl rfl ?_;clear hf;intro _ hf
          (first | refine a_not hf rfl rfl rfl ?_ | refine a_move hf rfl rfl rfl ?_);clear hf;intro _ hf
          (first | refine a_not hf rfl rfl rfl ?_ | refine a_cmp52 hf rfl rfl rfl rfl rfl rfl ?_);clear hf;intro _ hf
          (first | refine a_pickT hf rfl rfl rfl rfl ?_ | refine a_pickF hf rfl rfl rfl rfl ?_);clear hf;intro _ hf
          refine a_move hf rfl rfl rfl ?_;clear hf;intro _ hf
          (first | refine a_not hf rfl rfl rfl ?_ | refine a_move hf rfl rfl rfl ?_);clear hf;intro _ hf
          (first | refine a_not hf rfl rfl rfl ?_ | refine a_cmp52 hf rfl rfl rfl rfl rfl rfl ?_);clear hf;intro _ hf
          (first | refine a_pickT hf rfl rfl rfl rfl ?_ | refine a_pickF hf rfl rfl rfl rfl ?_);clear hf;intro _ hf
          refine a_store hf rfl rfl rfl rfl rfl (blk_cell HW5.c11 0) (blk_free HW5.c11 0) ?_;clear hf;intro _ hf;refine wpList_nil ?_;simp only [Exit.then,Exit.inBlock];go_step;refine wp_region_lit ?_;refine a_ar hf rfl rfl rfl rfl (by (try dsimp only);omega) rfl ?_;clear hf;intro _ hf;refine a_move hf rfl rfl rfl ?_;clear hf;intro _ hf;refine wpList_nil ?_;simp only [Exit.then,Exit.inBlock];exact ⟨ls.length - (k + 1),by omega,k + 1,(S + pn),true,by omega,rfl,((((((((hf.nilOf).cons (d:=3) (hf.at_ 3 _ rfl)).cons (d:=5) (hf.at_ 5 _ rfl)).cons (d:=11) (hf.at_ 11 _ rfl)).cons (d:=31) (hf.at_ 31 _ rfl)).cons (d:=32) (hf.at_ 32 _ rfl)).cons (d:=10) (hf.at_ 10 _ rfl)).cons (d:=33) (hf.at_ 33 _ rfl)),⟨⟨by rw [HS1.out,← HS.out.1,HPO.out];rfl,by rw [HP1.out,← HS.out.2,HPV.out];simp [stB, *]⟩⟩,by omega,HW5.turn true⟩
        by_cases q3 : st = 3
        · refine wp_region_lit ?_
          refine a_load hf rfl rfl rfl (by exact blk_cell HW5.c11 0) rfl ?_;clear hf;intro _ hf;refine a_move hf rfl rfl rfl ?_;clear hf;intro _ hf
          (first | refine a_not hf rfl rfl rfl ?_ | refine a_move hf rfl rfl rfl ?_);clear hf;intro _ hf
          (first | refine a_not hf rfl rfl rfl ?_ | refine a_cmp52 (b:=false) hf rfl rfl rfl rfl (by first | assumption | ((try dsimp only);simp only [bq1,bq2,bq3,bq4,bq5,bq6,bq7] <;> omega)) rfl ?_);clear hf;intro _ hf
          (first | refine a_pickT hf rfl rfl rfl rfl ?_ | refine a_pickF hf rfl rfl rfl rfl ?_);clear hf;intro _ hf
          refine a_move hf rfl rfl rfl ?_;clear hf;intro _ hf
          (first | refine a_not hf rfl rfl rfl ?_ | refine a_move hf rfl rfl rfl ?_);clear hf;intro _ hf
          (first | refine a_not hf rfl rfl rfl ?_ | refine a_cmp52 (b:=true) hf rfl rfl rfl rfl (by first | assumption | ((try dsimp only);simp only [bq1,bq2,bq3,bq4,bq5,bq6,bq7] <;> omega)) rfl ?_);clear hf;intro _ hf
          (first | refine a_pickT hf rfl rfl rfl rfl ?_ | refine a_pickF hf rfl rfl rfl rfl ?_);clear hf;intro _ hf
          refine a_move hf rfl rfl rfl ?_;clear hf;intro _ hf
          (first | refine a_not hf rfl rfl rfl ?_ | refine a_move hf rfl rfl rfl ?_);clear hf;intro _ hf
          (first | refine a_not hf rfl rfl rfl ?_ | refine a_cmp52 hf rfl rfl rfl rfl rfl rfl ?_);clear hf;intro _ hf
          (first | refine a_pickT hf rfl rfl rfl rfl ?_ | refine a_pickF hf rfl rfl rfl rfl ?_);clear hf;intro _ hf
          refine a_store hf rfl rfl rfl rfl rfl (blk_cell HW5.c11 0) (blk_free HW5.c11 0) ?_;clear hf;intro _ hf;refine wpList_nil ?_;simp only [Exit.then,Exit.inBlock];go_step;refine wp_region_lit ?_;refine a_ar hf rfl rfl rfl rfl (by (try dsimp only);omega) rfl ?_;clear hf;intro _ hf;refine a_move hf rfl rfl rfl ?_;clear hf;intro _ hf;refine wpList_nil ?_;simp only [Exit.then,Exit.inBlock];exact ⟨ls.length - (k + 1),by omega,k + 1,(S + pn),true,by omega,rfl,((((((((hf.nilOf).cons (d:=3) (hf.at_ 3 _ rfl)).cons (d:=5) (hf.at_ 5 _ rfl)).cons (d:=11) (hf.at_ 11 _ rfl)).cons (d:=31) (hf.at_ 31 _ rfl)).cons (d:=32) (hf.at_ 32 _ rfl)).cons (d:=10) (hf.at_ 10 _ rfl)).cons (d:=33) (hf.at_ 33 _ rfl)),⟨⟨by rw [HS1.out,← HS.out.1,HPO.out];rfl,by rw [HP1.out,← HS.out.2,HPV.out];simp [stB, *]⟩⟩,by omega,HW5.turn true⟩
        by_cases q4 : st = 4
        · refine wp_region_lit ?_
          refine a_load hf rfl rfl rfl (by exact blk_cell HW5.c11 0) rfl ?_;clear hf;intro _ hf;refine a_move hf rfl rfl rfl ?_;clear hf;intro _ hf
          (first | refine a_not hf rfl rfl rfl ?_ | refine a_move hf rfl rfl rfl ?_);clear hf;intro _ hf
          (first | refine a_not hf rfl rfl rfl ?_ | refine a_cmp52 (b:=false) hf rfl rfl rfl rfl (by first | assumption | ((try dsimp only);simp only [bq1,bq2,bq3,bq4,bq5,bq6,bq7] <;> omega)) rfl ?_);clear hf;intro _ hf
          (first | refine a_pickT hf rfl rfl rfl rfl ?_ | refine a_pickF hf rfl rfl rfl rfl ?_);clear hf;intro _ hf
          refine a_move hf rfl rfl rfl ?_;clear hf;intro _ hf
          (first | refine a_not hf rfl rfl rfl ?_ | refine a_move hf rfl rfl rfl ?_);clear hf;intro _ hf
          (first | refine a_not hf rfl rfl rfl ?_ | refine a_cmp52 (b:=false) hf rfl rfl rfl rfl (by first | assumption | ((try dsimp only);simp only [bq1,bq2,bq3,bq4,bq5,bq6,bq7] <;> omega)) rfl ?_);clear hf;intro _ hf
          (first | refine a_pickT hf rfl rfl rfl rfl ?_ | refine a_pickF hf rfl rfl rfl rfl ?_);clear hf;intro _ hf
          refine a_move hf rfl rfl rfl ?_;clear hf;intro _ hf
          (first | refine a_not hf rfl rfl rfl ?_ | refine a_move hf rfl rfl rfl ?_);clear hf;intro _ hf
          (first | refine a_not hf rfl rfl rfl ?_ | refine a_cmp52 (b:=true) hf rfl rfl rfl rfl (by first | assumption | ((try dsimp only);simp only [bq1,bq2,bq3,bq4,bq5,bq6,bq7] <;> omega)) rfl ?_);clear hf;intro _ hf
          (first | refine a_pickT hf rfl rfl rfl rfl ?_ | refine a_pickF hf rfl rfl rfl rfl ?_);clear hf;intro _ hf
          refine a_store hf rfl rfl rfl rfl rfl (blk_cell HW5.c11 0) (blk_free HW5.c11 0) ?_;clear hf;intro _ hf;refine wpList_nil ?_;simp only [Exit.then,Exit.inBlock];go_step;refine wp_region_lit ?_;refine a_ar hf rfl rfl rfl rfl (by (try dsimp only);omega) rfl ?_;clear hf;intro _ hf;refine a_move hf rfl rfl rfl ?_;clear hf;intro _ hf;refine wpList_nil ?_;simp only [Exit.then,Exit.inBlock];exact ⟨ls.length - (k + 1),by omega,k + 1,(S + pn),true,by omega,rfl,((((((((hf.nilOf).cons (d:=3) (hf.at_ 3 _ rfl)).cons (d:=5) (hf.at_ 5 _ rfl)).cons (d:=11) (hf.at_ 11 _ rfl)).cons (d:=31) (hf.at_ 31 _ rfl)).cons (d:=32) (hf.at_ 32 _ rfl)).cons (d:=10) (hf.at_ 10 _ rfl)).cons (d:=33) (hf.at_ 33 _ rfl)),⟨⟨by rw [HS1.out,← HS.out.1,HPO.out];rfl,by rw [HP1.out,← HS.out.2,HPV.out];simp [stB, *]⟩⟩,by omega,HW5.turn true⟩
        refine wp_region_lit ?_;refine a_load hf rfl rfl rfl (by exact blk_cell HW5.c11 0) rfl ?_;clear hf;intro _ hf;refine a_move hf rfl rfl rfl ?_;clear hf;intro _ hf
        (first | refine a_not hf rfl rfl rfl ?_ | refine a_move hf rfl rfl rfl ?_);clear hf;intro _ hf
        (first | refine a_not hf rfl rfl rfl ?_ | refine a_cmp52 (b:=false) hf rfl rfl rfl rfl (by first | assumption | ((try dsimp only);simp only [bq1,bq2,bq3,bq4,bq5,bq6,bq7] <;> omega)) rfl ?_);clear hf;intro _ hf
        (first | refine a_pickT hf rfl rfl rfl rfl ?_ | refine a_pickF hf rfl rfl rfl rfl ?_);clear hf;intro _ hf
        refine a_move hf rfl rfl rfl ?_;clear hf;intro _ hf
        (first | refine a_not hf rfl rfl rfl ?_ | refine a_move hf rfl rfl rfl ?_);clear hf;intro _ hf
        (first | refine a_not hf rfl rfl rfl ?_ | refine a_cmp52 (b:=false) hf rfl rfl rfl rfl (by first | assumption | ((try dsimp only);simp only [bq1,bq2,bq3,bq4,bq5,bq6,bq7] <;> omega)) rfl ?_);clear hf;intro _ hf
        (first | refine a_pickT hf rfl rfl rfl rfl ?_ | refine a_pickF hf rfl rfl rfl rfl ?_);clear hf;intro _ hf
        refine a_move hf rfl rfl rfl ?_;clear hf;intro _ hf
        (first | refine a_not hf rfl rfl rfl ?_ | refine a_move hf rfl rfl rfl ?_);clear hf;intro _ hf
        (first | refine a_not hf rfl rfl rfl ?_ | refine a_cmp52 (b:=false) hf rfl rfl rfl rfl (by first | assumption | ((try dsimp only);simp only [bq1,bq2,bq3,bq4,bq5,bq6,bq7] <;> omega)) rfl ?_);clear hf;intro _ hf
        (first | refine a_pickT hf rfl rfl rfl rfl ?_ | refine a_pickF hf rfl rfl rfl rfl ?_);clear hf;intro _ hf
        refine a_store hf rfl rfl rfl rfl rfl (blk_cell HW5.c11 0) (blk_free HW5.c11 0) ?_;clear hf;intro _ hf;refine wpList_nil ?_;simp only [Exit.then,Exit.inBlock];go_step;refine wp_region_lit ?_;refine a_ar hf rfl rfl rfl rfl (by (try dsimp only);omega) rfl ?_;clear hf;intro _ hf;refine a_move hf rfl rfl rfl ?_;clear hf;intro _ hf;refine wpList_nil ?_;simp only [Exit.then,Exit.inBlock];exact ⟨ls.length - (k + 1),by omega,k + 1,(S + pn),false,by omega,rfl,((((((((hf.nilOf).cons (d:=3) (hf.at_ 3 _ rfl)).cons (d:=5) (hf.at_ 5 _ rfl)).cons (d:=11) (hf.at_ 11 _ rfl)).cons (d:=31) (hf.at_ 31 _ rfl)).cons (d:=32) (hf.at_ 32 _ rfl)).cons (d:=10) (hf.at_ 10 _ rfl)).cons (d:=33) (hf.at_ 33 _ rfl)),⟨⟨by rw [HS1.out,← HS.out.1,HPO.out];rfl,by rw [HP1.out,← HS.out.2,HPV.out];simp [stB, *]⟩⟩,by omega,HW5.turn false⟩
    | false =>
      refine c_condF hf rfl ?_;refine wp_skip ?_;simp only [Exit.then,Exit.inBlock];go_step;refine wp_seq_k ?_;intro _ _;refine wp_region_lit ?_;refine a_load hf rfl rfl rfl (by exact blk_cell HW4.c3 0) rfl ?_;clear hf;intro _ hf;refine a_load115b hf rfl rfl (by exact hA) rfl ?_;clear hf;intro _ hf;refine a_load hf rfl rfl rfl (by exact blk_cell HW4.c5 0) rfl ?_;clear hf;intro _ hf;refine a_call3 hf e73 rfl rfl rfl rfl rfl ?_;clear hf;refine (state_as g C acts files f f.protest Af cf min _ st hst HW4.court HWF.out HF4.out HV.out hfl hm0 hm1).mono ?_;rintro _ w5 ⟨rfl,hb⟩;intro _ hf;refine a_assign hf rfl rfl rfl ?_;clear hf;intro _ hf;refine wpList_nil ?_;simp only [Exit.then,Exit.inBlock];go_step;have HW5:=HW4.below hb;have HF5:=Aside.mk (HF4.out.below hb);replace hA:=(hb.block _ (blk_lt hA)).trans hA;clear hb HW4 HF4
      cases b with
      | true =>
        refine wp_region_lit ?_;refine a_load hf rfl rfl rfl (by exact blk_cell HW5.c11 0) rfl ?_;clear hf;intro _ hf;refine a_move hf rfl rfl rfl ?_;clear hf;intro _ hf
        (first | refine a_not hf rfl rfl rfl ?_ | refine a_move hf rfl rfl rfl ?_);clear hf;intro _ hf
        (first | refine a_not hf rfl rfl rfl ?_ | refine a_cmp52 hf rfl rfl rfl rfl rfl rfl ?_);clear hf;intro _ hf
        (first | refine a_pickT hf rfl rfl rfl rfl ?_ | refine a_pickF hf rfl rfl rfl rfl ?_);clear hf;intro _ hf
        refine a_move hf rfl rfl rfl ?_;clear hf;intro _ hf
        (first | refine a_not hf rfl rfl rfl ?_ | refine a_move hf rfl rfl rfl ?_);clear hf;intro _ hf
        (first | refine a_not hf rfl rfl rfl ?_ | refine a_cmp52 hf rfl rfl rfl rfl rfl rfl ?_);clear hf;intro _ hf
        (first | refine a_pickT hf rfl rfl rfl rfl ?_ | refine a_pickF hf rfl rfl rfl rfl ?_);clear hf;intro _ hf
        refine a_move hf rfl rfl rfl ?_;clear hf;intro _ hf
        (first | refine a_not hf rfl rfl rfl ?_ | refine a_move hf rfl rfl rfl ?_);clear hf;intro _ hf
        (first | refine a_not hf rfl rfl rfl ?_ | refine a_cmp52 hf rfl rfl rfl rfl rfl rfl ?_);clear hf;intro _ hf
        (first | refine a_pickT hf rfl rfl rfl rfl ?_ | refine a_pickF hf rfl rfl rfl rfl ?_);clear hf;intro _ hf
        refine a_store hf rfl rfl rfl rfl rfl (blk_cell HW5.c11 0) (blk_free HW5.c11 0) ?_;clear hf;intro _ hf;refine wpList_nil ?_;simp only [Exit.then,Exit.inBlock];go_step;refine wp_region_lit ?_;refine a_ar hf rfl rfl rfl rfl (by (try dsimp only);omega) rfl ?_;clear hf;intro _ hf;refine a_move hf rfl rfl rfl ?_;clear hf;intro _ hf;refine wpList_nil ?_;simp only [Exit.then,Exit.inBlock];exact ⟨ls.length - (k + 1),by omega,k + 1,S,true,by omega,rfl,((((((((hf.nilOf).cons (d:=3) (hf.at_ 3 _ rfl)).cons (d:=5) (hf.at_ 5 _ rfl)).cons (d:=11) (hf.at_ 11 _ rfl)).cons (d:=31) (hf.at_ 31 _ rfl)).cons (d:=32) (hf.at_ 32 _ rfl)).cons (d:=10) (hf.at_ 10 _ rfl)).cons (d:=33) (hf.at_ 33 _ rfl)),⟨⟨by rw [HS1.out,← HS.out.1,HPO.out];simp,by rw [HP1.out,← HS.out.2,HPV.out];simp [stB, *]⟩⟩,by omega,HW5.turn true⟩
      | false =>
        by_cases q1 : st = 1
        · refine wp_region_lit ?_
          refine a_load hf rfl rfl rfl (by exact blk_cell HW5.c11 0) rfl ?_;clear hf;intro _ hf;refine a_move hf rfl rfl rfl ?_;clear hf;intro _ hf
          (first | refine a_not hf rfl rfl rfl ?_ | refine a_move hf rfl rfl rfl ?_);clear hf;intro _ hf
          (first | refine a_not hf rfl rfl rfl ?_ | refine a_cmp52 (b:=true) hf rfl rfl rfl rfl (by first | assumption | ((try dsimp only);simp only [bq1,bq2,bq3,bq4,bq5,bq6,bq7] <;> omega)) rfl ?_);clear hf;intro _ hf
          (first | refine a_pickT hf rfl rfl rfl rfl ?_ | refine a_pickF hf rfl rfl rfl rfl ?_);clear hf;intro _ hf
          refine a_move hf rfl rfl rfl ?_;clear hf;intro _ hf
          (first | refine a_not hf rfl rfl rfl ?_ | refine a_move hf rfl rfl rfl ?_);clear hf;intro _ hf
          (first | refine a_not hf rfl rfl rfl ?_ | refine a_cmp52 hf rfl rfl rfl rfl rfl rfl ?_);clear hf;intro _ hf
          (first | refine a_pickT hf rfl rfl rfl rfl ?_ | refine a_pickF hf rfl rfl rfl rfl ?_);clear hf;intro _ hf
          refine a_move hf rfl rfl rfl ?_;clear hf;intro _ hf
          (first | refine a_not hf rfl rfl rfl ?_ | refine a_move hf rfl rfl rfl ?_);clear hf;intro _ hf
          (first | refine a_not hf rfl rfl rfl ?_ | refine a_cmp52 hf rfl rfl rfl rfl rfl rfl ?_);clear hf;intro _ hf
          (first | refine a_pickT hf rfl rfl rfl rfl ?_ | refine a_pickF hf rfl rfl rfl rfl ?_);clear hf;intro _ hf
          refine a_store hf rfl rfl rfl rfl rfl (blk_cell HW5.c11 0) (blk_free HW5.c11 0) ?_;clear hf;intro _ hf;refine wpList_nil ?_;simp only [Exit.then,Exit.inBlock];go_step;refine wp_region_lit ?_;refine a_ar hf rfl rfl rfl rfl (by (try dsimp only);omega) rfl ?_;clear hf;intro _ hf;refine a_move hf rfl rfl rfl ?_;clear hf;intro _ hf;refine wpList_nil ?_;simp only [Exit.then,Exit.inBlock];exact ⟨ls.length - (k + 1),by omega,k + 1,S,true,by omega,rfl,((((((((hf.nilOf).cons (d:=3) (hf.at_ 3 _ rfl)).cons (d:=5) (hf.at_ 5 _ rfl)).cons (d:=11) (hf.at_ 11 _ rfl)).cons (d:=31) (hf.at_ 31 _ rfl)).cons (d:=32) (hf.at_ 32 _ rfl)).cons (d:=10) (hf.at_ 10 _ rfl)).cons (d:=33) (hf.at_ 33 _ rfl)),⟨⟨by rw [HS1.out,← HS.out.1,HPO.out];simp,by rw [HP1.out,← HS.out.2,HPV.out];simp [stB, *]⟩⟩,by omega,HW5.turn true⟩
        by_cases q3 : st = 3
        · refine wp_region_lit ?_
          refine a_load hf rfl rfl rfl (by exact blk_cell HW5.c11 0) rfl ?_;clear hf;intro _ hf;refine a_move hf rfl rfl rfl ?_;clear hf;intro _ hf
          (first | refine a_not hf rfl rfl rfl ?_ | refine a_move hf rfl rfl rfl ?_);clear hf;intro _ hf
          (first | refine a_not hf rfl rfl rfl ?_ | refine a_cmp52 (b:=false) hf rfl rfl rfl rfl (by first | assumption | ((try dsimp only);simp only [bq1,bq2,bq3,bq4,bq5,bq6,bq7] <;> omega)) rfl ?_);clear hf;intro _ hf
          (first | refine a_pickT hf rfl rfl rfl rfl ?_ | refine a_pickF hf rfl rfl rfl rfl ?_);clear hf;intro _ hf
          refine a_move hf rfl rfl rfl ?_;clear hf;intro _ hf
          (first | refine a_not hf rfl rfl rfl ?_ | refine a_move hf rfl rfl rfl ?_);clear hf;intro _ hf
          (first | refine a_not hf rfl rfl rfl ?_ | refine a_cmp52 (b:=true) hf rfl rfl rfl rfl (by first | assumption | ((try dsimp only);simp only [bq1,bq2,bq3,bq4,bq5,bq6,bq7] <;> omega)) rfl ?_);clear hf;intro _ hf
          (first | refine a_pickT hf rfl rfl rfl rfl ?_ | refine a_pickF hf rfl rfl rfl rfl ?_);clear hf;intro _ hf
          refine a_move hf rfl rfl rfl ?_;clear hf;intro _ hf
          (first | refine a_not hf rfl rfl rfl ?_ | refine a_move hf rfl rfl rfl ?_);clear hf;intro _ hf
          (first | refine a_not hf rfl rfl rfl ?_ | refine a_cmp52 hf rfl rfl rfl rfl rfl rfl ?_);clear hf;intro _ hf
          (first | refine a_pickT hf rfl rfl rfl rfl ?_ | refine a_pickF hf rfl rfl rfl rfl ?_);clear hf;intro _ hf
          refine a_store hf rfl rfl rfl rfl rfl (blk_cell HW5.c11 0) (blk_free HW5.c11 0) ?_;clear hf;intro _ hf;refine wpList_nil ?_;simp only [Exit.then,Exit.inBlock];go_step;refine wp_region_lit ?_;refine a_ar hf rfl rfl rfl rfl (by (try dsimp only);omega) rfl ?_;clear hf;intro _ hf;refine a_move hf rfl rfl rfl ?_;clear hf;intro _ hf;refine wpList_nil ?_;simp only [Exit.then,Exit.inBlock];exact ⟨ls.length - (k + 1),by omega,k + 1,S,true,by omega,rfl,((((((((hf.nilOf).cons (d:=3) (hf.at_ 3 _ rfl)).cons (d:=5) (hf.at_ 5 _ rfl)).cons (d:=11) (hf.at_ 11 _ rfl)).cons (d:=31) (hf.at_ 31 _ rfl)).cons (d:=32) (hf.at_ 32 _ rfl)).cons (d:=10) (hf.at_ 10 _ rfl)).cons (d:=33) (hf.at_ 33 _ rfl)),⟨⟨by rw [HS1.out,← HS.out.1,HPO.out];simp,by rw [HP1.out,← HS.out.2,HPV.out];simp [stB, *]⟩⟩,by omega,HW5.turn true⟩
        by_cases q4 : st = 4
        · refine wp_region_lit ?_
          refine a_load hf rfl rfl rfl (by exact blk_cell HW5.c11 0) rfl ?_;clear hf;intro _ hf;refine a_move hf rfl rfl rfl ?_;clear hf;intro _ hf
          (first | refine a_not hf rfl rfl rfl ?_ | refine a_move hf rfl rfl rfl ?_);clear hf;intro _ hf
          (first | refine a_not hf rfl rfl rfl ?_ | refine a_cmp52 (b:=false) hf rfl rfl rfl rfl (by first | assumption | ((try dsimp only);simp only [bq1,bq2,bq3,bq4,bq5,bq6,bq7] <;> omega)) rfl ?_);clear hf;intro _ hf
          (first | refine a_pickT hf rfl rfl rfl rfl ?_ | refine a_pickF hf rfl rfl rfl rfl ?_);clear hf;intro _ hf
          refine a_move hf rfl rfl rfl ?_;clear hf;intro _ hf
          (first | refine a_not hf rfl rfl rfl ?_ | refine a_move hf rfl rfl rfl ?_);clear hf;intro _ hf
          (first | refine a_not hf rfl rfl rfl ?_ | refine a_cmp52 (b:=false) hf rfl rfl rfl rfl (by first | assumption | ((try dsimp only);simp only [bq1,bq2,bq3,bq4,bq5,bq6,bq7] <;> omega)) rfl ?_);clear hf;intro _ hf
          (first | refine a_pickT hf rfl rfl rfl rfl ?_ | refine a_pickF hf rfl rfl rfl rfl ?_);clear hf;intro _ hf
          refine a_move hf rfl rfl rfl ?_;clear hf;intro _ hf
          (first | refine a_not hf rfl rfl rfl ?_ | refine a_move hf rfl rfl rfl ?_);clear hf;intro _ hf
          (first | refine a_not hf rfl rfl rfl ?_ | refine a_cmp52 (b:=true) hf rfl rfl rfl rfl (by first | assumption | ((try dsimp only);simp only [bq1,bq2,bq3,bq4,bq5,bq6,bq7] <;> omega)) rfl ?_);clear hf;intro _ hf
          (first | refine a_pickT hf rfl rfl rfl rfl ?_ | refine a_pickF hf rfl rfl rfl rfl ?_);clear hf;intro _ hf
          refine a_store hf rfl rfl rfl rfl rfl (blk_cell HW5.c11 0) (blk_free HW5.c11 0) ?_;clear hf;intro _ hf;refine wpList_nil ?_;simp only [Exit.then,Exit.inBlock];go_step;refine wp_region_lit ?_;refine a_ar hf rfl rfl rfl rfl (by (try dsimp only);omega) rfl ?_;clear hf;intro _ hf;refine a_move hf rfl rfl rfl ?_;clear hf;intro _ hf;refine wpList_nil ?_;simp only [Exit.then,Exit.inBlock];exact ⟨ls.length - (k + 1),by omega,k + 1,S,true,by omega,rfl,((((((((hf.nilOf).cons (d:=3) (hf.at_ 3 _ rfl)).cons (d:=5) (hf.at_ 5 _ rfl)).cons (d:=11) (hf.at_ 11 _ rfl)).cons (d:=31) (hf.at_ 31 _ rfl)).cons (d:=32) (hf.at_ 32 _ rfl)).cons (d:=10) (hf.at_ 10 _ rfl)).cons (d:=33) (hf.at_ 33 _ rfl)),⟨⟨by rw [HS1.out,← HS.out.1,HPO.out];simp,by rw [HP1.out,← HS.out.2,HPV.out];simp [stB, *]⟩⟩,by omega,HW5.turn true⟩
        refine wp_region_lit ?_;refine a_load hf rfl rfl rfl (by exact blk_cell HW5.c11 0) rfl ?_;clear hf;intro _ hf;refine a_move hf rfl rfl rfl ?_;clear hf;intro _ hf
        (first | refine a_not hf rfl rfl rfl ?_ | refine a_move hf rfl rfl rfl ?_);clear hf;intro _ hf
        (first | refine a_not hf rfl rfl rfl ?_ | refine a_cmp52 (b:=false) hf rfl rfl rfl rfl (by first | assumption | ((try dsimp only);simp only [bq1,bq2,bq3,bq4,bq5,bq6,bq7] <;> omega)) rfl ?_);clear hf;intro _ hf
        (first | refine a_pickT hf rfl rfl rfl rfl ?_ | refine a_pickF hf rfl rfl rfl rfl ?_);clear hf;intro _ hf
        refine a_move hf rfl rfl rfl ?_;clear hf;intro _ hf
        (first | refine a_not hf rfl rfl rfl ?_ | refine a_move hf rfl rfl rfl ?_);clear hf;intro _ hf
        (first | refine a_not hf rfl rfl rfl ?_ | refine a_cmp52 (b:=false) hf rfl rfl rfl rfl (by first | assumption | ((try dsimp only);simp only [bq1,bq2,bq3,bq4,bq5,bq6,bq7] <;> omega)) rfl ?_);clear hf;intro _ hf
        (first | refine a_pickT hf rfl rfl rfl rfl ?_ | refine a_pickF hf rfl rfl rfl rfl ?_);clear hf;intro _ hf
        refine a_move hf rfl rfl rfl ?_;clear hf;intro _ hf
        (first | refine a_not hf rfl rfl rfl ?_ | refine a_move hf rfl rfl rfl ?_);clear hf;intro _ hf
        (first | refine a_not hf rfl rfl rfl ?_ | refine a_cmp52 (b:=false) hf rfl rfl rfl rfl (by first | assumption | ((try dsimp only);simp only [bq1,bq2,bq3,bq4,bq5,bq6,bq7] <;> omega)) rfl ?_);clear hf;intro _ hf
        (first | refine a_pickT hf rfl rfl rfl rfl ?_ | refine a_pickF hf rfl rfl rfl rfl ?_);clear hf;intro _ hf
        refine a_store hf rfl rfl rfl rfl rfl (blk_cell HW5.c11 0) (blk_free HW5.c11 0) ?_;clear hf;intro _ hf;refine wpList_nil ?_;simp only [Exit.then,Exit.inBlock];go_step;refine wp_region_lit ?_;refine a_ar hf rfl rfl rfl rfl (by (try dsimp only);omega) rfl ?_;clear hf;intro _ hf;refine a_move hf rfl rfl rfl ?_;clear hf;intro _ hf;refine wpList_nil ?_;simp only [Exit.then,Exit.inBlock];exact ⟨ls.length - (k + 1),by omega,k + 1,S,false,by omega,rfl,((((((((hf.nilOf).cons (d:=3) (hf.at_ 3 _ rfl)).cons (d:=5) (hf.at_ 5 _ rfl)).cons (d:=11) (hf.at_ 11 _ rfl)).cons (d:=31) (hf.at_ 31 _ rfl)).cons (d:=32) (hf.at_ 32 _ rfl)).cons (d:=10) (hf.at_ 10 _ rfl)).cons (d:=33) (hf.at_ 33 _ rfl)),⟨⟨by rw [HS1.out,← HS.out.1,HPO.out];simp,by rw [HP1.out,← HS.out.2,HPV.out];simp [stB, *]⟩⟩,by omega,HW5.turn false⟩
  · have hke : k = ls.length:=by omega
    have HU:=Aside.mk (show S = penSum C acts min ls ∧ b = penProv C acts min ls by have:=HS.out;rw [hke,List.take_length] at this;exact this);refine wp_seq_k ?_;intro _ _;refine wp_region_lit ?_;refine a_cmp (b:=false) hf rfl rfl rfl rfl rfl (by first | assumption | ((try dsimp only);simp only [bq1,bq2,bq3,bq4,bq5,bq6,bq7] <;> omega)) rfl ?_;clear hf;intro _ hf;refine wpList_nil ?_;simp only [Exit.then,Exit.inBlock];go_step;refine wp_seq_k ?_;intro _ _;refine c_condF hf rfl ?_;refine wp_exit ?_;simp only [Exit.then,Exit.inBlock,↓reduceIte];go_step;refine wp_seq_k ?_;intro _ _;refine wp_seq_k ?_;intro _ _;refine wp_region_lit ?_;refine a_load hf rfl rfl rfl (by exact blk_cell HW.c3 0) rfl ?_;clear hf;intro _ hf;refine a_load hf rfl rfl rfl (by exact blk_cell HW.c5 0) rfl ?_;clear hf;intro _ hf;refine a_call2 hf e77 rfl rfl rfl rfl ?_;clear hf;refine (upTo_any g min _).mono ?_;rintro _ w6 ⟨rfl,rfl⟩;intro _ hf;refine wpList_nil ?_;simp only [Exit.then,Exit.inBlock];go_step;have hbs : Below wr.heap.size wr ((wr.alloc (.cells #[.pointer (some ⟨g,0,none⟩)] 37)).alloc (.cells #[.int .i64 min] 3)):=bel_alloc (bel_alloc (Below.refl _ _) _) _;have k1 : ((wr.alloc (.cells #[.pointer (some ⟨g,0,none⟩)] 37)).alloc (.cells #[.int .i64 min] 3)).heap[wr.heap.size + 1]? = some (.cells #[.int .i64 min] 3 (0,0)):=by have:=heap_alloc_new (wr.alloc (.cells #[.pointer (some ⟨g,0,none⟩)] 37)) (.cells #[.int .i64 min] 3);rwa [alloc_size'] at this
    have k0 : ((wr.alloc (.cells #[.pointer (some ⟨g,0,none⟩)] 37)).alloc (.cells #[.int .i64 min] 3)).heap[wr.heap.size]? = some (.cells #[.pointer (some ⟨g,0,none⟩)] 37 (0,0)):=by rw [heap_alloc_old _ _ (by rw [alloc_size'];omega)];exact heap_alloc_new _ _
    have HW6:=HW.below hbs;have hlw:=blk_lt HW.c11
    generalize ((wr.alloc (.cells #[.pointer (some ⟨g,0,none⟩)] 37)).alloc (.cells #[.int .i64 min] 3)) = W6 at *
    obtain ⟨A1,c1,A7,c7,A8,c8,hg,hR1,hR7,hR8,_⟩:=HW6.court
    have hal:=alien_bool HW6.c11;have hgne : g ≠ w.heap.size + 2:=fun e => hal ⟨g,0,none⟩ .i64 C.cars e (blk_cell hg 0);have h7:=court7 hg;refine wp_block ?_;refine (wpIn_wide (n:=3)).1 ?_;have hsq:=seq101 1 W6 g acts A7 c7 wr.heap.size (wr.heap.size + 1) min (fun k => k = w.heap.size + 2) hn6.1 h7 (fun W hM => ((hR7.off hal).move fun k hD hk => hM.block k hk hD).any) (by omega) (by omega) k0 k1
    refine wpIn_rangeFunc_ownH (F := Fence.wide) rfl (by decide) (gf := 101) (lb := #[.pointer (some ⟨wr.heap.size, 0, none⟩), .pointer (some ⟨wr.heap.size + 1, 0, none⟩)]) (hf.at_ 75 _ rfl) trivial (fun args w => e101 args w) hsq
      (fun h k => h.trans k) (fun W l o o' hl h1 h2 h3 => KeepsBut.of_below (belowK_b (Nat.le_refl _) W l o o' hl h1 h2 h3)) (Below.refl _ _) (fun _ => rfl)
      (fun pre W => Boxed W (w.heap.size + 2) 4 (.bool (b || (pre.map (·.2.1)).any (pubW C.win min))) ∧ Mod (fun k => k = w.heap.size + 2) W6 W)
      (fun _ _ _ => False)
      (OwnFrom.and (Own.from (boxed_own _ _ _) _) (fun _ _ _ _ hs hg hr => hs.grown hg (fun k e => .inr (hr k e).1)))
      (fun _ _ _ _ _ hs _ _ => hs)
      ⟨by have:=HW6.c11;simpa [Boxed] using this,Mod.refl⟩
      (fun x a' W => ∃ bX,W6.heap.size ≤ bX ∧ (∃ B8 d8,W.heap[bX]? = some (.cells #[.int .i64 x.2.1.kind,.int .i64 x.2.1.minute,.int .i64 x.2.1.paper,.int .i64 x.2.1.case_,.int .i64 x.2.1.by_,.int .i64 x.2.1.against,.int .i64 x.2.1.art,.int .i64 x.2.1.at_,.slice B8 x.2.1.facts.length d8,.int .i64 x.2.1.paid,.bool x.2.1.up,.int .i64 x.2.1.pen] 43 (0,0))) ∧ Has 98 [] [(20,.pointer (some ⟨bX,0,none⟩)),(10,.int .i64 S),(11,.pointer (some ⟨w.heap.size + 2,0,none⟩)),(5,.pointer (some ⟨w.heap.size + 1,0,none⟩)),(3,.pointer (some ⟨w.heap.size,0,none⟩))] a')
      ?hAx ?assign ?body ?done ?stop
    case hAx =>
      rintro x a' _ X Y row ⟨bX,h1,⟨B8,d8,h2⟩,h3⟩ hg hr
      refine ⟨bX,h1,⟨B8,d8,(hg.block bX (blk_lt h2) (fun e => ?_)).trans h2⟩,h3⟩
      obtain ⟨_,o,ho,hc⟩:=hr bX e.symm
      rw [h2] at ho
      cases ho
      cases hc
    case assign =>
      rintro l pre ⟨i,x,B8,d8⟩ W K ⟨hi1,hi2⟩ hK
      replace hf:=has_round (((((hf.nilOf).cons (d:=3) (hf.at_ 3 _ rfl)).cons (d:=5) (hf.at_ 5 _ rfl)).cons (d:=11) (hf.at_ 11 _ rfl)).cons (d:=10) (hf.at_ 10 _ rfl)) 76 77 (.int .i64 i) (.agg #[.int .i64 x.kind,.int .i64 x.minute,.int .i64 x.paper,.int .i64 x.case_,.int .i64 x.by_,.int .i64 x.against,.int .i64 x.art,.int .i64 x.at_,.slice B8 x.facts.length d8,.int .i64 x.paid,.bool x.up,.int .i64 x.pen]) rfl rfl;refine wpIn_region_lit ?_;refine in_ofR (by intro c h;cases h) ?_;refine a_alloc43 hf rfl rfl ?_;clear hf;intro _ hf;refine wpList_nil ⟨rfl,?_⟩;refine in_ofR (by intro c h;cases h) ?_;refine a_store43 hf rfl rfl rfl (heap_alloc_new W _) rfl ?_;clear hf;intro _ w9 hf hA hM;refine wpList_nil ⟨rfl,?_⟩;refine wpListIn_nil ?_;simp only [Exit.then];have hb9 : Below W.heap.size W w9:=bel_modG (bel_alloc (Below.refl _ _) _) hM (Nat.le_refl _);refine hK _ _ ⟨hb9.size,fun k o _ hk _ => (hb9.block k (blk_lt hk)).trans hk⟩ (KeepsBut.of_below (hb9.mono hi2.size)) ⟨(hb9.block _ hi1.lt).trans hi1,hi2.trans (Mod.of_below (F:=fun k => k = w.heap.size + 2) hb9) (fun _ _ h => h)⟩ ⟨W.heap.size,hi2.size,⟨B8,d8,hA⟩,((((((hf.nilOf).cons (d:=3) (hf.at_ 3 _ rfl)).cons (d:=5) (hf.at_ 5 _ rfl)).cons (d:=11) (hf.at_ 11 _ rfl)).cons (d:=10) (hf.at_ 10 _ rfl)).cons (d:=20) (hf.at_ 20 _ rfl))⟩
    case body =>
      rintro l pre ⟨i,x,B8,d8⟩ a' W hl hr ⟨hi1,hi2⟩ ⟨bX,hX1,⟨B8',d8',hX2⟩,hf⟩ hlen
      have hSet0 : ∀ W' : World,(∀ k,k ≠ w.heap.size + 2 → W'.heap[k]? = W.heap[k]?) → W'.heap[w.heap.size]? = some (.cells #[.pointer (some ⟨g,0,none⟩)] 37 (0,0)) ∧ W'.heap[w.heap.size + 1]? = some (.cells #[.int .i64 min] 3 (0,0)) ∧ W'.heap[bX]? = some (.cells #[.int .i64 x.kind,.int .i64 x.minute,.int .i64 x.paper,.int .i64 x.case_,.int .i64 x.by_,.int .i64 x.against,.int .i64 x.art,.int .i64 x.at_,.slice B8' x.facts.length d8',.int .i64 x.paid,.bool x.up,.int .i64 x.pen] 43 (0,0)) ∧ W'.cell? ⟨g,2,none⟩ = some (.int .i64 C.win):=fun (W' : World) hk => by
        have hl6:=blk_lt HW6.c11;have hgl:=blk_lt hg;exact ⟨(hk _ (by omega)).trans ((hi2.block _ (blk_lt HW6.c3) (by omega)).trans HW6.c3),(hk _ (by omega)).trans ((hi2.block _ (blk_lt HW6.c5) (by omega)).trans HW6.c5),(hk _ (by omega)).trans hX2,blk_cell ((hk g hgne).trans ((hi2.block g hgl hgne).trans hg)) 2⟩
      have hSet:=fun (u : Bool) => hSet0 ((W.drew).setCell ⟨w.heap.size + 2,0,none⟩ (.bool u)) (fun k hk => set_other _ _ _ _ hk);have hS:=hSet0 W.drew (fun k _ => rfl)
      have hEnd : ∀ u,u = ((b || (pre.map (·.2.1)).any (pubW C.win min)) || pubW C.win min x) → KeepsFrom W6.heap.size W ((W.drew).setCell ⟨w.heap.size + 2,0,none⟩ (.bool u)) ∧ KeepsBut W6.heap.size (fun k => k = w.heap.size + 2) W ((W.drew).setCell ⟨w.heap.size + 2,0,none⟩ (.bool u)) ∧ Boxed ((W.drew).setCell ⟨w.heap.size + 2,0,none⟩ (.bool u)) (w.heap.size + 2) 4 (.bool (b || ((pre ++ [(i,x,B8,d8)]).map (·.2.1)).any (pubW C.win min))) ∧ Mod (fun k => k = w.heap.size + 2) W6 ((W.drew).setCell ⟨w.heap.size + 2,0,none⟩ (.bool u)):=fun u hu => by
        have hM:=mod_set (W:=W.drew) (w.heap.size + 2) (.bool u);have hl6:=blk_lt HW6.c11;have hl : (w.heap.size + 2) < W.heap.size:=Nat.lt_of_lt_of_le hl6 hi2.size;refine ⟨⟨hM.size,fun k o h1 h2 _ => (hM.block k (blk_lt h2) (by omega)).trans h2⟩,⟨hM.os,hM.tape,hM.output,hM.size,fun k h1 h2 => hM.block k (Nat.lt_of_lt_of_le h1 hi2.size) h2⟩,?_,hi2.trans (F':=fun k => k = w.heap.size + 2) ⟨hM.os,hM.tape,hM.output,hM.size,hM.block⟩ (fun _ _ h => h)⟩;have : (b || ((pre ++ [(i,x,B8,d8)]).map (·.2.1)).any (pubW C.win min)) = u:=by rw [hu,List.map_append,List.any_append];simp [Bool.or_assoc]
        rw [this];exact blk_set (show W.drew.heap[w.heap.size + 2]? = _ from hi1) 0 (.bool u)
      refine wpIn_block ?_;refine t_beginR (S:=fun W' => W'.heap[w.heap.size]? = some (.cells #[.pointer (some ⟨g,0,none⟩)] 37 (0,0)) ∧ W'.heap[w.heap.size + 1]? = some (.cells #[.int .i64 min] 3 (0,0)) ∧ W'.heap[bX]? = some (.cells #[.int .i64 x.kind,.int .i64 x.minute,.int .i64 x.paper,.int .i64 x.case_,.int .i64 x.by_,.int .i64 x.against,.int .i64 x.art,.int .i64 x.at_,.slice B8' x.facts.length d8',.int .i64 x.paid,.bool x.up,.int .i64 x.pen] 43 (0,0)) ∧ W'.cell? ⟨g,2,none⟩ = some (.int .i64 C.win)) (by kernel_rfl) (no_defer (by kernel_rfl)) ?_
      generalize hb0 : (b || (pre.map (·.2.1)).any (pubW C.win min)) = b0 at *
      refine t_one (i:=0) (by kernel_rfl) (t_op (d:=78) hf rfl rfl (x_load hf rfl rfl (by exact blk_cell hi1 0)) rfl rfl (fun _ hf => ⟨hS,?_⟩))
      cases b0 with
      | true =>
        refine t_takeR (i:=1) (d:=79) hf rfl (by kernel_rfl) (by kernel_rfl) (by kernel_rfl) rfl (fun w' hw' => x_move hf rfl) rfl rfl hS ?_;clear hf;intro _ hf;refine t_notR (i:=2) (d:=80) hf rfl (by kernel_rfl) (by kernel_rfl) (by kernel_rfl) rfl rfl rfl hS ?_;clear hf;intro _ hf;refine t_notR (i:=3) (d:=81) hf rfl (by kernel_rfl) (by kernel_rfl) (by kernel_rfl) rfl rfl rfl hS ?_;clear hf;intro _ hf;refine t_notR (i:=4) (d:=82) hf rfl (by kernel_rfl) (by kernel_rfl) (by kernel_rfl) rfl rfl rfl hS ?_;clear hf;intro _ hf;refine t_notR (i:=5) (d:=83) hf rfl (by kernel_rfl) (by kernel_rfl) (by kernel_rfl) rfl rfl rfl hS ?_;clear hf;intro _ hf;refine t_notR (i:=6) (d:=84) hf rfl (by kernel_rfl) (by kernel_rfl) (by kernel_rfl) rfl rfl rfl hS ?_;clear hf;intro _ hf;refine t_notR (i:=7) (d:=85) hf rfl (by kernel_rfl) (by kernel_rfl) (by kernel_rfl) rfl rfl rfl hS ?_;clear hf;intro _ hf;refine t_notR (i:=8) (d:=86) hf rfl (by kernel_rfl) (by kernel_rfl) (by kernel_rfl) rfl rfl rfl hS ?_;clear hf;intro _ hf;refine t_notR (i:=9) (d:=87) hf rfl (by kernel_rfl) (by kernel_rfl) (by kernel_rfl) rfl rfl rfl hS ?_;clear hf;intro _ hf;refine t_notR (i:=10) (d:=88) hf rfl (by kernel_rfl) (by kernel_rfl) (by kernel_rfl) rfl rfl rfl hS ?_;clear hf;intro _ hf;refine t_notR (i:=11) (d:=89) hf rfl (by kernel_rfl) (by kernel_rfl) (by kernel_rfl) rfl rfl rfl hS ?_;clear hf;intro _ hf;refine t_notR (i:=12) (d:=90) hf rfl (by kernel_rfl) (by kernel_rfl) (by kernel_rfl) rfl rfl rfl hS ?_;clear hf;intro _ hf;refine t_notR (i:=13) (d:=91) hf rfl (by kernel_rfl) (by kernel_rfl) (by kernel_rfl) rfl rfl rfl hS ?_;clear hf;intro _ hf;refine t_notR (i:=14) (d:=92) hf rfl (by kernel_rfl) (by kernel_rfl) (by kernel_rfl) rfl rfl rfl hS ?_;clear hf;intro _ hf;refine t_notR (i:=15) (d:=93) hf rfl (by kernel_rfl) (by kernel_rfl) (by kernel_rfl) rfl rfl rfl hS ?_;clear hf;intro _ hf;refine t_notR (i:=16) (d:=94) hf rfl (by kernel_rfl) (by kernel_rfl) (by kernel_rfl) rfl rfl rfl hS ?_;clear hf;intro _ hf;refine t_takeR (i:=17) (d:=95) hf rfl (by kernel_rfl) (by kernel_rfl) (by kernel_rfl) rfl (fun w' hw' => x_pickT (ops:=#[]) hf rfl rfl) rfl rfl hS ?_;clear hf;intro _ hf;refine t_one (i:=18) (by kernel_rfl) (t_skip hf rfl rfl (x_store hf rfl rfl rfl rfl (by exact blk_cell hi1 0) (by exact blk_free hi1 _)) rfl (fun _ hf => ⟨hSet true,?_⟩));refine wpAnyH_done (by kernel_rfl) ⟨rfl,?_⟩ _;exact hEnd true (by simp [pubW, *])
      | false =>
        by_cases qk : x.kind = 1
        rotate_left
        · refine t_takeR (i:=1) (d:=79) hf rfl (by kernel_rfl) (by kernel_rfl) (by kernel_rfl) rfl (fun w' hw' => x_move hf rfl) rfl rfl hS ?_;clear hf;intro _ hf
          refine t_takeR (i:=2) (d:=80) hf rfl (by kernel_rfl) (by kernel_rfl) (by kernel_rfl) rfl (fun w' hw' => x_field hf rfl rfl) rfl rfl hS ?_;clear hf;intro _ hf;refine t_takeR (i:=3) (d:=81) hf rfl (by kernel_rfl) (by kernel_rfl) (by kernel_rfl) rfl (fun w' hw' => x_load hf rfl rfl (by exact blk_cell hw'.2.2.1 0)) rfl rfl hS ?_;clear hf;intro _ hf;refine t_takeR (i:=4) (d:=82) hf rfl (by kernel_rfl) (by kernel_rfl) (by kernel_rfl) rfl (fun w' hw' => x_cmp (b:=false) hf rfl rfl rfl rfl (by first | assumption | ((try dsimp only);simp only [bq1,bq2,bq3,bq4,bq5,bq6,bq7] <;> omega))) rfl rfl hS ?_;clear hf;intro _ hf;refine t_takeR (i:=5) (d:=83) hf rfl (by kernel_rfl) (by kernel_rfl) (by kernel_rfl) rfl (fun w' hw' => x_move hf rfl) rfl rfl hS ?_;clear hf;intro _ hf;refine t_notR (i:=6) (d:=84) hf rfl (by kernel_rfl) (by kernel_rfl) (by kernel_rfl) rfl rfl rfl hS ?_;clear hf;intro _ hf;refine t_notR (i:=7) (d:=85) hf rfl (by kernel_rfl) (by kernel_rfl) (by kernel_rfl) rfl rfl rfl hS ?_;clear hf;intro _ hf;refine t_notR (i:=8) (d:=86) hf rfl (by kernel_rfl) (by kernel_rfl) (by kernel_rfl) rfl rfl rfl hS ?_;clear hf;intro _ hf;refine t_notR (i:=9) (d:=87) hf rfl (by kernel_rfl) (by kernel_rfl) (by kernel_rfl) rfl rfl rfl hS ?_;clear hf;intro _ hf;refine t_notR (i:=10) (d:=88) hf rfl (by kernel_rfl) (by kernel_rfl) (by kernel_rfl) rfl rfl rfl hS ?_;clear hf;intro _ hf;refine t_notR (i:=11) (d:=89) hf rfl (by kernel_rfl) (by kernel_rfl) (by kernel_rfl) rfl rfl rfl hS ?_;clear hf;intro _ hf;refine t_notR (i:=12) (d:=90) hf rfl (by kernel_rfl) (by kernel_rfl) (by kernel_rfl) rfl rfl rfl hS ?_;clear hf;intro _ hf;refine t_notR (i:=13) (d:=91) hf rfl (by kernel_rfl) (by kernel_rfl) (by kernel_rfl) rfl rfl rfl hS ?_;clear hf;intro _ hf;refine t_notR (i:=14) (d:=92) hf rfl (by kernel_rfl) (by kernel_rfl) (by kernel_rfl) rfl rfl rfl hS ?_;clear hf;intro _ hf;refine t_notR (i:=15) (d:=93) hf rfl (by kernel_rfl) (by kernel_rfl) (by kernel_rfl) rfl rfl rfl hS ?_;clear hf;intro _ hf;refine t_takeR (i:=16) (d:=94) hf rfl (by kernel_rfl) (by kernel_rfl) (by kernel_rfl) rfl (fun w' hw' => x_pickF (ops:=#[]) hf rfl rfl) rfl rfl hS ?_;clear hf;intro _ hf;refine t_takeR (i:=17) (d:=95) hf rfl (by kernel_rfl) (by kernel_rfl) (by kernel_rfl) rfl (fun w' hw' => x_pickF (ops:=#[]) hf rfl rfl) rfl rfl hS ?_;clear hf;intro _ hf;refine t_one (i:=18) (by kernel_rfl) (t_skip hf rfl rfl (x_store hf rfl rfl rfl rfl (by exact blk_cell hi1 0) (by exact blk_free hi1 _)) rfl (fun _ hf => ⟨hSet false,?_⟩));refine wpAnyH_done (by kernel_rfl) ⟨rfl,?_⟩ _;exact hEnd false (by simp [pubW, *])
        by_cases qm : IntKind.i64.wrap (min - x.minute) ≤ C.win
        · refine t_takeR (i:=1) (d:=79) hf rfl (by kernel_rfl) (by kernel_rfl) (by kernel_rfl) rfl (fun w' hw' => x_move hf rfl) rfl rfl hS ?_;clear hf;intro _ hf
          refine t_takeR (i:=2) (d:=80) hf rfl (by kernel_rfl) (by kernel_rfl) (by kernel_rfl) rfl (fun w' hw' => x_field hf rfl rfl) rfl rfl hS ?_;clear hf;intro _ hf;refine t_takeR (i:=3) (d:=81) hf rfl (by kernel_rfl) (by kernel_rfl) (by kernel_rfl) rfl (fun w' hw' => x_load hf rfl rfl (by exact blk_cell hw'.2.2.1 0)) rfl rfl hS ?_;clear hf;intro _ hf;refine t_takeR (i:=4) (d:=82) hf rfl (by kernel_rfl) (by kernel_rfl) (by kernel_rfl) rfl (fun w' hw' => x_cmp (b:=true) hf rfl rfl rfl rfl (by first | assumption | ((try dsimp only);simp only [bq1,bq2,bq3,bq4,bq5,bq6,bq7] <;> omega))) rfl rfl hS ?_;clear hf;intro _ hf;refine t_takeR (i:=5) (d:=83) hf rfl (by kernel_rfl) (by kernel_rfl) (by kernel_rfl) rfl (fun w' hw' => x_move hf rfl) rfl rfl hS ?_;clear hf;intro _ hf;refine t_takeR (i:=6) (d:=84) hf rfl (by kernel_rfl) (by kernel_rfl) (by kernel_rfl) rfl (fun w' hw' => x_load hf rfl rfl (by exact blk_cell hw'.2.1 0)) rfl rfl hS ?_;clear hf;intro _ hf;refine t_takeR (i:=7) (d:=85) hf rfl (by kernel_rfl) (by kernel_rfl) (by kernel_rfl) rfl (fun w' hw' => x_field hf rfl rfl) rfl rfl hS ?_;clear hf;intro _ hf;refine t_takeR (i:=8) (d:=86) hf rfl (by kernel_rfl) (by kernel_rfl) (by kernel_rfl) rfl (fun w' hw' => x_load hf rfl rfl (by exact blk_cell hw'.2.2.1 1)) rfl rfl hS ?_;clear hf;intro _ hf;refine t_takeR (i:=9) (d:=87) hf rfl (by kernel_rfl) (by kernel_rfl) (by kernel_rfl) rfl (fun w' hw' => x_arw hf rfl rfl rfl) rfl rfl hS ?_;clear hf;intro _ hf;refine t_takeR (i:=10) (d:=88) hf rfl (by kernel_rfl) (by kernel_rfl) (by kernel_rfl) rfl (fun w' hw' => x_load hf rfl rfl (by exact blk_cell hw'.1 0)) rfl rfl hS ?_;clear hf;intro _ hf;refine t_takeR (i:=11) (d:=89) hf rfl (by kernel_rfl) (by kernel_rfl) (by kernel_rfl) rfl (fun w' hw' => x_nilCheck hf rfl) rfl rfl hS ?_;clear hf;intro _ hf;refine t_takeR (i:=12) (d:=90) hf rfl (by kernel_rfl) (by kernel_rfl) (by kernel_rfl) rfl (fun w' hw' => x_field hf rfl rfl) rfl rfl hS ?_;clear hf;intro _ hf;refine t_takeR (i:=13) (d:=91) hf rfl (by kernel_rfl) (by kernel_rfl) (by kernel_rfl) rfl (fun w' hw' => x_field hf rfl rfl) rfl rfl hS ?_;clear hf;intro _ hf;refine t_takeR (i:=14) (d:=92) hf rfl (by kernel_rfl) (by kernel_rfl) (by kernel_rfl) rfl (fun w' hw' => x_load hf rfl rfl (by exact hw'.2.2.2)) rfl rfl hS ?_;clear hf;intro _ hf;refine t_takeR (i:=15) (d:=93) hf rfl (by kernel_rfl) (by kernel_rfl) (by kernel_rfl) rfl (fun w' hw' => x_cmp (b:=true) hf rfl rfl rfl rfl (by first | assumption | ((try dsimp only);simp only [bq1,bq2,bq3,bq4,bq5,bq6,bq7] <;> omega))) rfl rfl hS ?_;clear hf;intro _ hf;refine t_takeR (i:=16) (d:=94) hf rfl (by kernel_rfl) (by kernel_rfl) (by kernel_rfl) rfl (fun w' hw' => x_pickT (ops:=#[]) hf rfl rfl) rfl rfl hS ?_;clear hf;intro _ hf;refine t_takeR (i:=17) (d:=95) hf rfl (by kernel_rfl) (by kernel_rfl) (by kernel_rfl) rfl (fun w' hw' => x_pickF (ops:=#[]) hf rfl rfl) rfl rfl hS ?_;clear hf;intro _ hf
          refine t_one (i:=18) (by kernel_rfl) (t_skip hf rfl rfl (x_store hf rfl rfl rfl rfl (by exact blk_cell hi1 0) (by exact blk_free hi1 _)) rfl (fun _ hf => ⟨hSet true,?_⟩));refine wpAnyH_done (by kernel_rfl) ⟨rfl,?_⟩ _;exact hEnd true (by simp [pubW, *])
        · refine t_takeR (i:=1) (d:=79) hf rfl (by kernel_rfl) (by kernel_rfl) (by kernel_rfl) rfl (fun w' hw' => x_move hf rfl) rfl rfl hS ?_;clear hf;intro _ hf
          refine t_takeR (i:=2) (d:=80) hf rfl (by kernel_rfl) (by kernel_rfl) (by kernel_rfl) rfl (fun w' hw' => x_field hf rfl rfl) rfl rfl hS ?_;clear hf;intro _ hf;refine t_takeR (i:=3) (d:=81) hf rfl (by kernel_rfl) (by kernel_rfl) (by kernel_rfl) rfl (fun w' hw' => x_load hf rfl rfl (by exact blk_cell hw'.2.2.1 0)) rfl rfl hS ?_;clear hf;intro _ hf;refine t_takeR (i:=4) (d:=82) hf rfl (by kernel_rfl) (by kernel_rfl) (by kernel_rfl) rfl (fun w' hw' => x_cmp (b:=true) hf rfl rfl rfl rfl (by first | assumption | ((try dsimp only);simp only [bq1,bq2,bq3,bq4,bq5,bq6,bq7] <;> omega))) rfl rfl hS ?_;clear hf;intro _ hf;refine t_takeR (i:=5) (d:=83) hf rfl (by kernel_rfl) (by kernel_rfl) (by kernel_rfl) rfl (fun w' hw' => x_move hf rfl) rfl rfl hS ?_;clear hf;intro _ hf;refine t_takeR (i:=6) (d:=84) hf rfl (by kernel_rfl) (by kernel_rfl) (by kernel_rfl) rfl (fun w' hw' => x_load hf rfl rfl (by exact blk_cell hw'.2.1 0)) rfl rfl hS ?_;clear hf;intro _ hf;refine t_takeR (i:=7) (d:=85) hf rfl (by kernel_rfl) (by kernel_rfl) (by kernel_rfl) rfl (fun w' hw' => x_field hf rfl rfl) rfl rfl hS ?_;clear hf;intro _ hf;refine t_takeR (i:=8) (d:=86) hf rfl (by kernel_rfl) (by kernel_rfl) (by kernel_rfl) rfl (fun w' hw' => x_load hf rfl rfl (by exact blk_cell hw'.2.2.1 1)) rfl rfl hS ?_;clear hf;intro _ hf;refine t_takeR (i:=9) (d:=87) hf rfl (by kernel_rfl) (by kernel_rfl) (by kernel_rfl) rfl (fun w' hw' => x_arw hf rfl rfl rfl) rfl rfl hS ?_;clear hf;intro _ hf;refine t_takeR (i:=10) (d:=88) hf rfl (by kernel_rfl) (by kernel_rfl) (by kernel_rfl) rfl (fun w' hw' => x_load hf rfl rfl (by exact blk_cell hw'.1 0)) rfl rfl hS ?_;clear hf;intro _ hf;refine t_takeR (i:=11) (d:=89) hf rfl (by kernel_rfl) (by kernel_rfl) (by kernel_rfl) rfl (fun w' hw' => x_nilCheck hf rfl) rfl rfl hS ?_;clear hf;intro _ hf;refine t_takeR (i:=12) (d:=90) hf rfl (by kernel_rfl) (by kernel_rfl) (by kernel_rfl) rfl (fun w' hw' => x_field hf rfl rfl) rfl rfl hS ?_;clear hf;intro _ hf;refine t_takeR (i:=13) (d:=91) hf rfl (by kernel_rfl) (by kernel_rfl) (by kernel_rfl) rfl (fun w' hw' => x_field hf rfl rfl) rfl rfl hS ?_;clear hf;intro _ hf;refine t_takeR (i:=14) (d:=92) hf rfl (by kernel_rfl) (by kernel_rfl) (by kernel_rfl) rfl (fun w' hw' => x_load hf rfl rfl (by exact hw'.2.2.2)) rfl rfl hS ?_;clear hf;intro _ hf;refine t_takeR (i:=15) (d:=93) hf rfl (by kernel_rfl) (by kernel_rfl) (by kernel_rfl) rfl (fun w' hw' => x_cmp (b:=false) hf rfl rfl rfl rfl (by first | assumption | ((try dsimp only);simp only [bq1,bq2,bq3,bq4,bq5,bq6,bq7] <;> omega))) rfl rfl hS ?_;clear hf;intro _ hf;refine t_takeR (i:=16) (d:=94) hf rfl (by kernel_rfl) (by kernel_rfl) (by kernel_rfl) rfl (fun w' hw' => x_pickT (ops:=#[]) hf rfl rfl) rfl rfl hS ?_;clear hf;intro _ hf;refine t_takeR (i:=17) (d:=95) hf rfl (by kernel_rfl) (by kernel_rfl) (by kernel_rfl) rfl (fun w' hw' => x_pickF (ops:=#[]) hf rfl rfl) rfl rfl hS ?_;clear hf;intro _ hf
          refine t_one (i:=18) (by kernel_rfl) (t_skip hf rfl rfl (x_store hf rfl rfl rfl rfl (by exact blk_cell hi1 0) (by exact blk_free hi1 _)) rfl (fun _ hf => ⟨hSet false,?_⟩));refine wpAnyH_done (by kernel_rfl) ⟨rfl,?_⟩ _;exact hEnd false (by simp [pubW, *])
    case done =>
      rintro D xs W hD hxs ⟨hi1,hi2⟩ hdf
      have hpub : (xs.map (·.2.1)).any (pubW C.win min) = (upToL acts min).any (pubIn C.win min):=by
        rw [hxs];rw [Bool.eq_iff_iff,List.any_eq_true,List.any_eq_true]
        have hq : ∀ x ∈ upToL acts min,pubW C.win min x = pubIn C.win min x:=fun x hx => by
          have hb:=HWF.out.minute x ((List.takeWhile_sublist _).subset hx)
          unfold pubW pubIn
          rw [IntWalk.i64_in _ (by omega)]
        exact exists_congr fun x => ⟨fun ⟨h1,h2⟩ => ⟨h1,hq x h1 ▸ h2⟩,fun ⟨h1,h2⟩ => ⟨h1,(hq x h1).symm ▸ h2⟩⟩
      replace hf:=hf.defer { target:=.collected D,args:=#[] };have c11:=hi1.cell;simp only [Exit.then,Exit.inBlock];go_step;refine wp_seq_k ?_;intro _ _;refine r_quiet (n:=98) (ds:=[{ target:=.collected D,args:=#[] }]) (ls:=[(10,.int .i64 S),(11,.pointer (some ⟨w.heap.size + 2,0,none⟩))]) (Below W.heap.size W) (by kernel_rfl) (by kernel_rfl) (bel_drew (Below.refl _ _)) ((hf.nilOf.cons (hf.at_ 11 _ rfl)).cons (hf.at_ 10 _ rfl)) ?_;clear hf;intro _ hf;refine q_move hf rfl rfl rfl ?_;clear hf;intro _ hf;refine q_load hf rfl rfl rfl (by exact fun w' hw' => (hw'.cell (p:=⟨w.heap.size + 2,0,none⟩) hi1.lt).trans c11) rfl ?_;clear hf;intro _ hf;refine q_assign hf rfl rfl rfl ?_;clear hf;intro _ hf;refine q_assign hf rfl rfl rfl ?_;clear hf;intro _ hf;refine q_assign hf rfl rfl rfl ?_;clear hf;intro _ hf;refine q_nil ?_;intro w9 hw9;simp only [Exit.then,Exit.inBlock];go_step;refine wp_ret ?_
      try simp only [Exit.then,Exit.inBlock]
      have hdf9:=(hw9.block D (blk_lt hdf)).trans hdf;have e6:=hf.at_ 6 _ rfl;have e7:=hf.at_ 7 _ rfl;have e8:=hf.at_ 8 _ rfl;have hdfs:=hf.defers
      unfold bodyPostM
      simp only
      rw [hdfs];refine ⟨by simp,.inl ⟨_,_,rfl,run_takeDeferred hdf9,?_⟩⟩;simp only [Act.eval] at e6 e7 e8;refine ⟨.tuple #[.int .i64 (penaltyR C acts files car min).1,.bool (penaltyR C acts files car min).2,.int .i64 0],?_,rfl,?_⟩
      · rw [results_tmp3 rfl]
        simp only [e6,e7,e8];rw [HRES,HU.out.1,HU.out.2,hpub]
      · have hbw : Below w.heap.size w W:=bel_modG HW6.bel hi2 (by omega)
        exact (bel_then hbw hw9).trans (belowK_b (w:=w) (Nat.le_refl _) w9 D _ _ (by have:=HW6.bel.size;omega) hdf9 rfl rfl)
    case stop =>
      rintro D c pre W _ _ h _
      exact h.elim
end Go.Proofs.Ytpadgcomncljmaa.A
/- A court of one's own: what its methods do,in short contracts. -/
namespace Go.Proofs.Ytpadgcomncljmaa.A
open Go.RowKit

def Crt (n0 : Nat) (w : World) (g : Nat) (C : CodeL) (acts : List ActL) (files : List FileL) : Prop :=
  Inv C acts files ∧ ∃ (F D : Nat → Prop) (A1 : Option Addr) (c1 : Nat) (B7 : Option Addr) (d7 : Nat) (B8 : Option Addr) (d8 : Nat) (cs : List (List Value)) (rows : List Value),
    CourtP F D w g C acts files A1 c1 B7 d7 B8 d8 cs rows ∧ (∀ k,F k → n0 ≤ k) ∧ ∀ k,D k → n0 ≤ k
theorem Crt.inv {n0 : Nat} {w : World} {g : Nat} {C : CodeL} {acts : List ActL} {files : List FileL} (h : Crt n0 w g C acts files) : Inv C acts files:=h.1
theorem Crt.reads {n0 : Nat} {w : World} {g : Nat} {C : CodeL} {acts : List ActL} {files : List FileL} (h : Crt n0 w g C acts files) : CourtR w g C acts files:=by
  obtain ⟨hi,_,_,_,_,_,_,_,_,_,_,hp,_⟩:=h
  exact hp.reads (by have:=hi.len;omega) hi.files_le
theorem Crt.below {n0 : Nat} {w w' : World} {g : Nat} {C : CodeL} {acts : List ActL} {files : List FileL} (h : Crt n0 w g C acts files) (hb : Below w.heap.size w w') : Crt n0 w' g C acts files:=by
  obtain ⟨hi,F,D,A1,c1,B7,d7,B8,d8,cs,rows,hp,h1,h2⟩:=h
  exact ⟨hi,F,D,A1,c1,B7,d7,B8,d8,cs,rows,hp.below hb,h1,h2⟩
theorem Crt.lt {n0 : Nat} {w : World} {g : Nat} {C : CodeL} {acts : List ActL} {files : List FileL} (h : Crt n0 w g C acts files) : n0 ≤ g ∧ g < w.heap.size:=by
  obtain ⟨hi,F,D,A1,c1,B7,d7,B8,d8,cs,rows,hp,h1,h2⟩:=h
  exact ⟨h1 g hp.gF,blk_lt hp.blk⟩
theorem Crt.floor {n0 n1 : Nat} {w : World} {g : Nat} {C : CodeL} {acts : List ActL} {files : List FileL} (h : Crt n0 w g C acts files) (hn : n1 ≤ n0) : Crt n1 w g C acts files:=by
  obtain ⟨hi,F,D,A1,c1,B7,d7,B8,d8,cs,rows,hp,h1,h2⟩:=h
  exact ⟨hi,F,D,A1,c1,B7,d7,B8,d8,cs,rows,hp,fun k hk => Nat.le_trans hn (h1 k hk),fun k hk => Nat.le_trans hn (h2 k hk)⟩
def doActs (C : CodeL) (acts : List ActL) (files : List FileL) (a : ActL) : List ActL:=match doR C acts files a with | .ok _ => acts ++ [a] | .error _ => acts
def doFiles (C : CodeL) (acts : List ActL) (files : List FileL) (a : ActL) : List FileL:=match doR C acts files a with | .ok n => endFiles acts files a n | .error _ => files
theorem doR_ok {C : CodeL} {acts : List ActL} {files : List FileL} {a : ActL} {n : Int} (h : doR C acts files a = .ok n) : shapedB C.cars a = true ∧ lateB acts a.minute = false ∧ acts.length < 2000 ∧ actR C acts files a = .ok n:=by
  unfold doR at h
  split at h
  · cases h
  split at h
  · cases h
  · rename_i h1 h2
    have:=bad_no (by simpa using h1);exact ⟨this.1,this.2,by omega,h⟩
theorem inv_do {C : CodeL} {acts : List ActL} {files : List FileL} (H : Inv C acts files) (a : ActL) : Inv C (doActs C acts files a) (doFiles C acts files a):=by
  unfold doActs doFiles
  cases h : doR C acts files a with
  | error e => exact H
  | ok n =>
    obtain ⟨h1,h2,h3,h4⟩:=doR_ok h
    exact inv_step H h1 h2 h3 h4
theorem below_floor {n0 : Nat} {w w' : World} (h : Below w.heap.size w w') (hn : n0 ≤ w.heap.size) : Below n0 w w':=h.mono hn
theorem do_crt (n0 : Nat) (g : Nat) (C : CodeL) (acts : List ActL) (files : List FileL) (a : ActL) (A8 : Option Addr) (c8 : Nat) (w : World) (hn : n0 ≤ w.heap.size) (h : Crt n0 w g C acts files)
    (hf8 : RI (fun k => k < n0) w A8 a.facts) (hc8 : a.facts.length ≤ c8) (hf9 : a.facts.length ≤ 1000000) :
    Calls Try.prog 26 #[.pointer (some ⟨g, 0, none⟩), .agg #[.int .i64 a.kind, .int .i64 a.minute, .int .i64 a.paper, .int .i64 a.case_, .int .i64 a.by_, .int .i64 a.against, .int .i64 a.art, .int .i64 a.at_, .slice A8 a.facts.length c8, .int .i64 a.paid, .bool a.up, .int .i64 a.pen]] w
      fun e w' => e = .returned (.tuple #[.int .i64 (numE (doR C acts files a)).1,.int .i64 (numE (doR C acts files a)).2]) ∧ Below n0 w w' ∧ Crt n0 w' g C (doActs C acts files a) (doFiles C acts files a):=by
  have hi2:=inv_do h.1 a
  obtain ⟨hi,F,D,A1,c1,B7,d7,B8,d8,cs,rows,hp,h1,h2⟩:=h
  refine (do_any F D g C acts files a A8 c8 w A1 c1 B7 d7 B8 d8 cs rows hp hi.wf (by have:=hi.len;omega) hi.files_le (hf8.mono fun k hk _ hF => by have:=h1 k hF;omega) hc8 hf9).mono ?_
  rintro e w' ⟨he,hno,hyes⟩
  refine ⟨he,?_⟩
  unfold doActs doFiles at hi2 ⊢
  cases hd : doR C acts files a with
  | error er =>
    have hb:=hno er hd;exact ⟨below_floor hb hn,hi,F,D,A1,c1,B7,d7,B8,d8,cs,rows,hp.below hb,h1,h2⟩
  | ok n =>
    rw [hd] at hi2
    obtain ⟨F',D',A1',c1',B7',d7',B8',d8',cs',rows',hp',hM,hF,hD⟩:=hyes n hd
    refine ⟨⟨hM.os,hM.tape,hM.output,hM.size,fun k hk => hM.block k (by omega) (fun hk' => by have:=h1 k hk';omega)⟩,hi2,F',D',A1',c1',B7',d7',B8',d8',cs',rows',hp',fun k hk => ?_,fun k hk => ?_⟩
    · rcases hF k hk with h | h
      · exact h1 k h
      · omega
    · rcases hD k hk with h | h
      · exact h2 k h
      · omega
theorem do_no (n0 : Nat) (g : Nat) (C : CodeL) (acts : List ActL) (files : List FileL) (a : ActL) (er : Int) (A8 : Option Addr) (c8 : Nat) (w : World) (hd : doR C acts files a = .error er) (hn : n0 ≤ w.heap.size) (h : Crt n0 w g C acts files)
    (hf8 : RI (fun k => k < n0) w A8 a.facts) (hc8 : a.facts.length ≤ c8) (hf9 : a.facts.length ≤ 1000000) :
    Calls Try.prog 26 #[.pointer (some ⟨g, 0, none⟩), .agg #[.int .i64 a.kind, .int .i64 a.minute, .int .i64 a.paper, .int .i64 a.case_, .int .i64 a.by_, .int .i64 a.against, .int .i64 a.art, .int .i64 a.at_, .slice A8 a.facts.length c8, .int .i64 a.paid, .bool a.up, .int .i64 a.pen]] w
      fun e w' => e = .returned (.tuple #[.int .i64 0,.int .i64 er]) ∧ Below n0 w w' ∧ Crt n0 w' g C acts files:=by
  have:=do_crt n0 g C acts files a A8 c8 w hn h hf8 hc8 hf9;simp only [doActs,doFiles,hd,numE] at this;exact this
theorem do_ok (n0 : Nat) (g : Nat) (C : CodeL) (acts : List ActL) (files : List FileL) (a : ActL) (n : Int) (acts' : List ActL) (files' : List FileL) (A8 : Option Addr) (c8 : Nat) (w : World) (hd : doR C acts files a = .ok n) (ha : acts ++ [a] = acts') (hfl : endFiles acts files a n = files') (hn : n0 ≤ w.heap.size) (h : Crt n0 w g C acts files)
    (hf8 : RI (fun k => k < n0) w A8 a.facts) (hc8 : a.facts.length ≤ c8) (hf9 : a.facts.length ≤ 1000000) :
    Calls Try.prog 26 #[.pointer (some ⟨g, 0, none⟩), .agg #[.int .i64 a.kind, .int .i64 a.minute, .int .i64 a.paper, .int .i64 a.case_, .int .i64 a.by_, .int .i64 a.against, .int .i64 a.art, .int .i64 a.at_, .slice A8 a.facts.length c8, .int .i64 a.paid, .bool a.up, .int .i64 a.pen]] w
      fun e w' => e = .returned (.tuple #[.int .i64 n,.int .i64 0]) ∧ Below n0 w w' ∧ Crt n0 w' g C acts' files':=by
  have:=do_crt n0 g C acts files a A8 c8 w hn h hf8 hc8 hf9;simp only [doActs,doFiles,hd,numE] at this
  subst ha hfl
  exact this
def penC (C : CodeL) (acts : List ActL) (files : List FileL) (car min : Int) : Int × Bool:=if checkR C.cars car min = 0 then penaltyR C acts files car min else (0,false)
theorem pen_crt (n0 : Nat) (g : Nat) (C : CodeL) (acts : List ActL) (files : List FileL) (car min : Int) (w : World) (h : Crt n0 w g C acts files) :
    Calls Try.prog 32 #[.pointer (some ⟨g,0,none⟩),.int .i64 car,.int .i64 min] w fun e w' => e = .returned (.tuple #[.int .i64 (penC C acts files car min).1,.bool (penC C acts files car min).2,.int .i64 (checkR C.cars car min)]) ∧ Below w.heap.size w w' ∧ Crt n0 w' g C acts files:=by
  by_cases hc : checkR C.cars car min = 0
  · refine (penalty_court g C acts files car min w h.reads h.1.wf h.1.pen hc).mono ?_
    rintro e w' ⟨rfl,hb⟩
    exact ⟨by simp [penC,hc],hb,h.below hb⟩
  · refine (penalty_no (some ⟨g,0,none⟩) car min (checkR C.cars car min) w hc fun W hW => (check_court g C acts files car min W (h.reads.below hW)).mono fun r w' hr => ?_).mono ?_
    · obtain ⟨rfl,rfl⟩:=hr
      exact ⟨rfl,Below.refl _ _⟩
    · rintro e w' ⟨rfl,hb⟩
      exact ⟨by simp [penC,hc],hb,h.below hb⟩
theorem open_crt (C : CodeL) (A : Option Addr) (c : Nat) (w : World) (hl : RArt Any w A C.arts) (hn : C.arts.length ≤ 1000000) : Calls Try.prog 24 #[codeV C A c] w fun e w' => Below w.heap.size w w' ∧
    (codeOk C = false → e = .returned (.tuple #[.pointer none,.int .i64 2])) ∧ (codeOk C = true → ∃ g,e = .returned (.tuple #[.pointer (some ⟨g,0,none⟩),.int .i64 0]) ∧ Crt w.heap.size w' g C [] []):=by
  refine (open_any C A c w hl hn).mono ?_
  rintro e w' ⟨hb,h1,h2⟩
  refine ⟨hb,h1,fun hc => ?_⟩
  obtain ⟨g,A',c',he,hg,hp⟩:=h2 hc
  refine ⟨g,he,Inv.nil hc,_,_,A',c',none,0,none,0,[],[],hp,fun k hk => ?_,fun k hk => ?_⟩
  · omega
  · exact Nat.le_of_lt hk.1
end Go.Proofs.Ytpadgcomncljmaa.A
/- The chapter's examples: known(). -/
namespace Go.Proofs.Ytpadgcomncljmaa.A
open Go.RowKit
def exA1 : ActL:={ kind:=1,minute:=110,paper:=1,case_:=0,by_:=0,against:=0,art:=0,at_:=0,facts:=[],paid:=0,up:=false,pen:=0 }
def exA2 : ActL:={ kind:=2,minute:=140,paper:=1,case_:=0,by_:=1,against:=2,art:=5,at_:=90,facts:=[],paid:=500,up:=false,pen:=0 }
def exA3 : ActL:={ kind:=3,minute:=150,paper:=0,case_:=0,by_:=0,against:=0,art:=0,at_:=0,facts:=[],paid:=0,up:=true,pen:=6000 }
def exA4 : ActL:={ kind:=3,minute:=150,paper:=0,case_:=0,by_:=0,against:=0,art:=0,at_:=0,facts:=[],paid:=0,up:=true,pen:=3000 }
def exF1 : List FileL:=[{ protest:=1,acts:=[1] }]
def exF2 : List FileL:=[{ protest:=1,acts:=[1,2] }]
theorem ex1 : doR exC [] [] exA1 = .ok (-1):=by kernel_rfl
theorem ex2 : doR exC [exA1] [] exA2 = .ok 0:=by kernel_rfl
theorem ex2f : endFiles [exA1] [] exA2 0 = exF1:=by kernel_rfl
theorem ex3 : doR exC [exA1,exA2] exF1 exA3 = .error 7:=by kernel_rfl
theorem ex4 : doR exC [exA1,exA2] exF1 exA4 = .ok 0:=by kernel_rfl
theorem ex4f : endFiles [exA1,exA2] exF1 exA4 0 = exF2:=by kernel_rfl
theorem ex5 : penC exC [exA1,exA2,exA4] exF2 2 150 = (3000,true):=by kernel_rfl
theorem ex6 : penC exC [exA1,exA2,exA4] exF2 2 211 = (3000,false):=by kernel_rfl
theorem ex7 : splitR 10 [1,1,1] = [4,3,3]:=by kernel_rfl
theorem ex0 : codeOk exC = true:=by kernel_rfl
theorem pen_as (n0 : Nat) (g : Nat) (C : CodeL) (acts : List ActL) (files : List FileL) (car min : Int) (w : World) (n : Int) (b : Bool) (hp : penC C acts files car min = (n, b)) (hk : checkR C.cars car min = 0) (h : Crt n0 w g C acts files) :
    Calls Try.prog 32 #[.pointer (some ⟨g,0,none⟩),.int .i64 car,.int .i64 min] w fun e w' => e = .returned (.tuple #[.int .i64 n,.bool b,.int .i64 0]) ∧ Below w.heap.size w w' ∧ Crt n0 w' g C acts files:=by
  have:=pen_crt n0 g C acts files car min w h;rw [hp,hk] at this;exact this
theorem Nums.reads {w : World} {G : Nat} {xs : List Int} (h : Nums w G xs) : RI Any w (some ⟨G,0,none⟩) xs:=fun i x hx => ⟨_,rfl,trivial,by rw [add_at];exact h.cell hx⟩
theorem run_eqP {ev : Operand → Value} {o : Oper} {t : TypeId} {ps : String} {af : Array Edge} {g : Option (Nat × Bool)} {x : Operand} {w : World} {p : Addr} (hx : ev x = .pointer (some p)) (hc : ev (.const (.pointer none)) = .pointer none) : (execOp ev ⟨o.dst,.binOp .eql 37 x (.const (.pointer none)) 37,t,ps,af,g⟩).run Try.prog w = .ok (.value (.bool false)) w:=by
  simp [go_sem,hx,hc]
set_option maxHeartbeats 4000000 in
set_option maxRecDepth 100000 in
theorem known_any (w : World) : Calls Try.prog 16 #[] w fun e w' => e = .returned (.bool true) ∧ Below w.heap.size w w':=by
  go_enter Try.func16,Try.ntmps16
  refine wp_abs (n:=119) (ds:=[]) (l:=[]) ?_ ?_
  · refine Has.nil ?_ ?_
    all_goals first | rfl | (simp [Act.eval];done)
  intro _ hf;refine wp_seq_k ?_;intro _ _;refine wp_region_lit ?_;refine a_assign hf rfl rfl rfl ?_;clear hf;intro _ hf;refine wpList_nil ?_;simp only [Exit.then,Exit.inBlock];go_step;refine wp_seq_k ?_;intro _ _;refine wp_region_lit ?_;refine a_call0 hf e44 rfl rfl ?_;clear hf;refine (example_any _).mono ?_;rintro _ w1 ⟨A,rfl,hA,hb1⟩;intro _ hf;refine a_call1 hf e24 rfl rfl rfl ?_;clear hf;refine (open_crt exC A 2 _ hA (by decide)).mono ?_;rintro _ w2 ⟨hb2,_,ho⟩;obtain ⟨g,rfl,hK⟩:=ho ex0;intro _ hf;refine a_move hf rfl rfl rfl ?_;clear hf;intro _ hf;refine a_extract hf rfl rfl rfl rfl ?_;clear hf;intro _ hf;refine a_extract hf rfl rfl rfl rfl ?_;clear hf;intro _ hf;refine a_assign hf rfl rfl rfl ?_;clear hf;intro _ hf;refine a_assign hf rfl rfl rfl ?_;clear hf;intro _ hf;refine wpList_nil ?_;simp only [Exit.then,Exit.inBlock];go_step;have hB:=bel_then hb1 hb2;replace hK:=hK.floor hb1.size;clear hb1 hb2 ho hA;refine wp_seq_k ?_;intro _ _;refine wp_seq_k ?_;intro _ _;refine wp_region_lit ?_;refine a_move hf rfl rfl rfl ?_;clear hf;intro _ hf;refine a_cmp hf rfl rfl rfl rfl rfl rfl rfl ?_;clear hf;intro _ hf;refine a_move hf rfl rfl rfl ?_;clear hf;intro _ hf
  (first | refine a_not hf rfl rfl rfl ?_ | refine a_move hf rfl rfl rfl ?_);clear hf;intro _ hf
  refine a_do hf rfl (run_eqP (o:=⟨some 28,.nilCheck (.tmp 27),0,"",#[],none⟩) (hf.at_ 27 _ rfl) rfl) rfl rfl ?_;clear hf;intro _ hf
  (first | refine a_pickT hf rfl rfl rfl rfl ?_ | refine a_pickF hf rfl rfl rfl rfl ?_);clear hf;intro _ hf
  refine wpList_nil ?_;simp only [Exit.then,Exit.inBlock];go_step;refine c_condF hf rfl ?_;refine wp_skip ?_;simp only [Exit.then,Exit.inBlock];go_step;refine wp_seq_k ?_;intro _ _;refine wp_region_lit ?_;refine a_move hf rfl rfl rfl ?_;clear hf;intro _ hf;refine a_do hf rfl (w':=w2) (v:=.agg #[.int .i64 1,.int .i64 110,.int .i64 1,.int .i64 0,.int .i64 0,.int .i64 0,.int .i64 0,.int .i64 0,.slice none 0 0,.int .i64 0,.bool false,.int .i64 0]) (by have e:=fun v => hf.evO (x:=.const v) (v:=v) rfl;revert e;generalize (Act.eval _) = ev;intro e;simp [go_sem,e]) rfl rfl ?_;clear hf;intro _ hf;refine a_call2 hf e26 rfl rfl rfl rfl ?_;clear hf;refine (do_ok w.heap.size g exC [] [] exA1 (-1) [exA1] [] none 0 _ ex1 rfl rfl hB.size hK RI.nil (Nat.le_refl 0) (by decide)).mono ?_;rintro _ w2 ⟨rfl,hb,hk⟩;intro _ hf;refine a_move hf rfl rfl rfl ?_;clear hf;intro _ hf;refine a_extract hf rfl rfl rfl rfl ?_;clear hf;intro _ hf;refine a_extract hf rfl rfl rfl rfl ?_;clear hf;intro _ hf;refine a_assign hf rfl rfl rfl ?_;clear hf;intro _ hf;refine a_assign hf rfl rfl rfl ?_;clear hf;intro _ hf;refine wpList_nil ?_;simp only [Exit.then,Exit.inBlock];go_step;replace hB:=hB.trans hb;clear hb hK;have hK:=hk;clear hk;refine wp_seq_k ?_;intro _ _;refine wp_region_lit ?_;refine a_move hf rfl rfl rfl ?_;clear hf;intro _ hf;refine a_do hf rfl (w':=w2) (v:=.agg #[.int .i64 2,.int .i64 140,.int .i64 1,.int .i64 0,.int .i64 1,.int .i64 2,.int .i64 5,.int .i64 90,.slice none 0 0,.int .i64 500,.bool false,.int .i64 0]) (by have e:=fun v => hf.evO (x:=.const v) (v:=v) rfl;revert e;generalize (Act.eval _) = ev;intro e;simp [go_sem,e]) rfl rfl ?_;clear hf;intro _ hf;refine a_call2 hf e26 rfl rfl rfl rfl ?_;clear hf;refine (do_ok w.heap.size g exC [exA1] [] exA2 0 [exA1,exA2] exF1 none 0 _ ex2 rfl ex2f hB.size hK RI.nil (Nat.le_refl 0) (by decide)).mono ?_;rintro _ w2 ⟨rfl,hb,hk⟩;intro _ hf;refine a_move hf rfl rfl rfl ?_;clear hf;intro _ hf;refine a_extract hf rfl rfl rfl rfl ?_;clear hf;intro _ hf;refine a_extract hf rfl rfl rfl rfl ?_;clear hf;intro _ hf;refine a_assign hf rfl rfl rfl ?_;clear hf;intro _ hf;refine a_assign hf rfl rfl rfl ?_;clear hf;intro _ hf;refine wpList_nil ?_;simp only [Exit.then,Exit.inBlock];go_step;replace hB:=hB.trans hb;clear hb hK;have hK:=hk;clear hk;refine wp_seq_k ?_;intro _ _;refine wp_region_lit ?_;refine a_move hf rfl rfl rfl ?_;clear hf;intro _ hf;refine a_do hf rfl (w':=w2) (v:=.agg #[.int .i64 3,.int .i64 150,.int .i64 0,.int .i64 0,.int .i64 0,.int .i64 0,.int .i64 0,.int .i64 0,.slice none 0 0,.int .i64 0,.bool true,.int .i64 6000]) (by have e:=fun v => hf.evO (x:=.const v) (v:=v) rfl;revert e;generalize (Act.eval _) = ev;intro e;simp [go_sem,e]) rfl rfl ?_;clear hf;intro _ hf;refine a_call2 hf e26 rfl rfl rfl rfl ?_;clear hf;refine (do_no w.heap.size g exC [exA1,exA2] exF1 exA3 7 none 0 _ ex3 hB.size hK RI.nil (Nat.le_refl 0) (by decide)).mono ?_;rintro _ w2 ⟨rfl,hb,hk⟩;intro _ hf
  refine a_move hf rfl rfl rfl ?_;clear hf;intro _ hf;refine a_extract hf rfl rfl rfl rfl ?_;clear hf;intro _ hf;refine a_extract hf rfl rfl rfl rfl ?_;clear hf;intro _ hf;refine a_assign hf rfl rfl rfl ?_;clear hf;intro _ hf;refine a_assign hf rfl rfl rfl ?_;clear hf;intro _ hf;refine wpList_nil ?_;simp only [Exit.then,Exit.inBlock];go_step;replace hB:=hB.trans hb;clear hb hK;have hK:=hk;clear hk;refine wp_seq_k ?_;intro _ _;refine wp_region_lit ?_;refine a_move hf rfl rfl rfl ?_;clear hf;intro _ hf;refine a_do hf rfl (w':=w2) (v:=.agg #[.int .i64 3,.int .i64 150,.int .i64 0,.int .i64 0,.int .i64 0,.int .i64 0,.int .i64 0,.int .i64 0,.slice none 0 0,.int .i64 0,.bool true,.int .i64 3000]) (by have e:=fun v => hf.evO (x:=.const v) (v:=v) rfl;revert e;generalize (Act.eval _) = ev;intro e;simp [go_sem,e]) rfl rfl ?_;clear hf;intro _ hf;refine a_call2 hf e26 rfl rfl rfl rfl ?_;clear hf;refine (do_ok w.heap.size g exC [exA1,exA2] exF1 exA4 0 [exA1,exA2,exA4] exF2 none 0 _ ex4 rfl ex4f hB.size hK RI.nil (Nat.le_refl 0) (by decide)).mono ?_;rintro _ w2 ⟨rfl,hb,hk⟩;intro _ hf;refine a_move hf rfl rfl rfl ?_;clear hf;intro _ hf;refine a_extract hf rfl rfl rfl rfl ?_;clear hf;intro _ hf;refine a_extract hf rfl rfl rfl rfl ?_;clear hf;intro _ hf;refine a_assign hf rfl rfl rfl ?_;clear hf;intro _ hf;refine a_assign hf rfl rfl rfl ?_;clear hf;intro _ hf;refine wpList_nil ?_;simp only [Exit.then,Exit.inBlock];go_step;replace hB:=hB.trans hb;clear hb hK;have hK:=hk;clear hk;refine wp_seq_k ?_;intro _ _;refine wp_region_lit ?_;refine a_move hf rfl rfl rfl ?_;clear hf;intro _ hf;refine a_call3 hf e32 rfl rfl rfl rfl rfl ?_;clear hf;refine (pen_as w.heap.size g exC _ exF2 2 150 _ _ _ ex5 rfl hK).mono ?_;rintro _ w2 ⟨rfl,hb,hk⟩;intro _ hf;refine a_move hf rfl rfl rfl ?_;clear hf;intro _ hf;refine a_extract hf rfl rfl rfl rfl ?_;clear hf;intro _ hf;refine a_extract hf rfl rfl rfl rfl ?_;clear hf;intro _ hf;refine a_extract hf rfl rfl rfl rfl ?_;clear hf;intro _ hf;refine a_assign hf rfl rfl rfl ?_;clear hf;intro _ hf;refine a_assign hf rfl rfl rfl ?_;clear hf;intro _ hf;refine a_assign hf rfl rfl rfl ?_;clear hf;intro _ hf;refine wpList_nil ?_;simp only [Exit.then,Exit.inBlock];go_step;replace hB:=bel_then hB hb;clear hb hK;have hK:=hk;clear hk;refine wp_seq_k ?_;intro _ _;refine wp_region_lit ?_;refine a_move hf rfl rfl rfl ?_;clear hf;intro _ hf;refine a_call3 hf e32 rfl rfl rfl rfl rfl ?_;clear hf;refine (pen_as w.heap.size g exC _ exF2 2 211 _ _ _ ex6 rfl hK).mono ?_;rintro _ w2 ⟨rfl,hb,hk⟩;intro _ hf;refine a_move hf rfl rfl rfl ?_;clear hf;intro _ hf;refine a_extract hf rfl rfl rfl rfl ?_;clear hf;intro _ hf;refine a_extract hf rfl rfl rfl rfl ?_;clear hf;intro _ hf;refine a_extract hf rfl rfl rfl rfl ?_;clear hf;intro _ hf;refine a_assign hf rfl rfl rfl ?_;clear hf;intro _ hf;refine a_assign hf rfl rfl rfl ?_;clear hf;intro _ hf
  refine a_assign hf rfl rfl rfl ?_;clear hf;intro _ hf;refine wpList_nil ?_;simp only [Exit.then,Exit.inBlock];go_step;replace hB:=bel_then hB hb;clear hb hK;have hK:=hk;clear hk;refine wp_seq_k ?_;intro _ _;refine wp_region_lit ?_;refine a_do hf rfl (w':=w2.alloc (.cells #[.int .i64 1,.int .i64 1,.int .i64 1] 3)) (v:=.slice (some ⟨w2.heap.size,0,none⟩) 3 3) (by have e:=fun v => hf.evO (x:=.const v) (v:=v) rfl;revert e;generalize (Act.eval _) = ev;intro e;simp [go_sem,e]) rfl rfl ?_;clear hf;intro _ hf;refine a_call2 hf e17 rfl rfl rfl rfl ?_;clear hf;refine (split_yes 10 _ [1,1,1] 3 _ (fun i x hx => ⟨_,rfl,trivial,by rw [add_at];exact blk_cell (heap_alloc_new _ _) i (by rcases i with _|_|_|i <;> simp at hx <;> subst hx <;> rfl)⟩) (by decide) (by kernel_rfl)).mono ?_;rintro _ w4 ⟨G,rfl,hG,hN,hb⟩;intro _ hf;refine a_move hf rfl rfl rfl ?_;clear hf;intro _ hf;refine a_extract hf rfl rfl rfl rfl ?_;clear hf;intro _ hf;refine a_extract hf rfl rfl rfl rfl ?_;clear hf;intro _ hf;refine a_assign hf rfl rfl rfl ?_;clear hf;intro _ hf;refine a_assign hf rfl rfl rfl ?_;clear hf;intro _ hf;refine wpList_nil ?_;simp only [Exit.then,Exit.inBlock];go_step;replace hB:=bel_then (bel_alloc hB _) hb;clear hb hK;refine wp_seq_k ?_;intro _ _;refine wp_seq_k ?_;intro _ _;refine wp_region_lit ?_;refine a_move hf rfl rfl rfl ?_;clear hf;intro _ hf;refine a_cmp hf rfl rfl rfl rfl rfl rfl rfl ?_;clear hf;intro _ hf;refine a_move hf rfl rfl rfl ?_;clear hf;intro _ hf
  (first | refine a_not hf rfl rfl rfl ?_ | refine a_move hf rfl rfl rfl ?_);clear hf;intro _ hf
  (first | refine a_not hf rfl rfl rfl ?_ | refine a_cmp hf rfl rfl rfl rfl rfl rfl rfl ?_);clear hf;intro _ hf
  (first | refine a_pickT hf rfl rfl rfl rfl ?_ | refine a_pickF hf rfl rfl rfl rfl ?_);clear hf;intro _ hf
  refine a_move hf rfl rfl rfl ?_;clear hf;intro _ hf
  (first | refine a_not hf rfl rfl rfl ?_ | refine a_move hf rfl rfl rfl ?_);clear hf;intro _ hf
  (first | refine a_not hf rfl rfl rfl ?_ | refine a_cmp hf rfl rfl rfl rfl rfl rfl rfl ?_);clear hf;intro _ hf
  (first | refine a_pickT hf rfl rfl rfl rfl ?_ | refine a_pickF hf rfl rfl rfl rfl ?_);clear hf;intro _ hf
  refine a_move hf rfl rfl rfl ?_;clear hf;intro _ hf
  (first | refine a_not hf rfl rfl rfl ?_ | refine a_move hf rfl rfl rfl ?_);clear hf;intro _ hf
  (first | refine a_not hf rfl rfl rfl ?_ | refine a_cmp hf rfl rfl rfl rfl rfl rfl rfl ?_);clear hf;intro _ hf
  (first | refine a_pickT hf rfl rfl rfl rfl ?_ | refine a_pickF hf rfl rfl rfl rfl ?_);clear hf;intro _ hf
  refine a_move hf rfl rfl rfl ?_;clear hf;intro _ hf
  (first | refine a_not hf rfl rfl rfl ?_ | refine a_move hf rfl rfl rfl ?_);clear hf;intro _ hf
  (first | refine a_not hf rfl rfl rfl ?_ | refine a_cmp hf rfl rfl rfl rfl rfl rfl rfl ?_);clear hf;intro _ hf
  (first | refine a_pickT hf rfl rfl rfl rfl ?_ | refine a_pickF hf rfl rfl rfl rfl ?_);clear hf;intro _ hf
  refine a_move hf rfl rfl rfl ?_;clear hf;intro _ hf
  (first | refine a_not hf rfl rfl rfl ?_ | refine a_move hf rfl rfl rfl ?_);clear hf;intro _ hf
  (first | refine a_not hf rfl rfl rfl ?_ | refine a_cmp hf rfl rfl rfl rfl rfl rfl rfl ?_);clear hf;intro _ hf
  (first | refine a_pickT hf rfl rfl rfl rfl ?_ | refine a_pickF hf rfl rfl rfl rfl ?_);clear hf;intro _ hf
  refine a_move hf rfl rfl rfl ?_;clear hf;intro _ hf
  (first | refine a_not hf rfl rfl rfl ?_ | refine a_move hf rfl rfl rfl ?_);clear hf;intro _ hf
  (first | refine a_not hf rfl rfl rfl ?_ | refine a_cmp hf rfl rfl rfl rfl rfl rfl rfl ?_);clear hf;intro _ hf
  (first | refine a_pickT hf rfl rfl rfl rfl ?_ | refine a_pickF hf rfl rfl rfl rfl ?_);clear hf;intro _ hf
  refine wpList_nil ?_;simp only [Exit.then,Exit.inBlock];go_step;refine c_condF hf rfl ?_;refine wp_skip ?_;simp only [Exit.then,Exit.inBlock];go_step;refine wp_seq_k ?_;intro _ _;refine wp_region_lit ?_;refine a_move hf rfl rfl rfl ?_;clear hf;intro _ hf;refine a_cmp hf rfl rfl rfl rfl rfl rfl rfl ?_;clear hf;intro _ hf;refine a_move hf rfl rfl rfl ?_;clear hf;intro _ hf
  (first | refine a_not hf rfl rfl rfl ?_ | refine a_move hf rfl rfl rfl ?_);clear hf;intro _ hf
  (first | refine a_not hf rfl rfl rfl ?_ | refine a_cmp hf rfl rfl rfl rfl rfl rfl rfl ?_);clear hf;intro _ hf
  (first | refine a_pickT hf rfl rfl rfl rfl ?_ | refine a_pickF hf rfl rfl rfl rfl ?_);clear hf;intro _ hf
  refine a_move hf rfl rfl rfl ?_;clear hf;intro _ hf
  (first | refine a_not hf rfl rfl rfl ?_ | refine a_move hf rfl rfl rfl ?_);clear hf;intro _ hf
  (first | refine a_pickT hf rfl rfl rfl rfl ?_ | refine a_pickF hf rfl rfl rfl rfl ?_);clear hf;intro _ hf
  refine a_move hf rfl rfl rfl ?_;clear hf;intro _ hf
  (first | refine a_not hf rfl rfl rfl ?_ | refine a_move hf rfl rfl rfl ?_);clear hf;intro _ hf
  (first | refine a_not hf rfl rfl rfl ?_ | refine a_cmp hf rfl rfl rfl rfl rfl rfl rfl ?_);clear hf;intro _ hf
  (first | refine a_pickT hf rfl rfl rfl rfl ?_ | refine a_pickF hf rfl rfl rfl rfl ?_);clear hf;intro _ hf
  refine a_move hf rfl rfl rfl ?_;clear hf;intro _ hf
  (first | refine a_not hf rfl rfl rfl ?_ | refine a_move hf rfl rfl rfl ?_);clear hf;intro _ hf
  (first | refine a_not hf rfl rfl rfl ?_ | refine a_not_ hf rfl rfl rfl ?_);clear hf;intro _ hf
  (first | refine a_pickT hf rfl rfl rfl rfl ?_ | refine a_pickF hf rfl rfl rfl rfl ?_);clear hf;intro _ hf
  refine a_move hf rfl rfl rfl ?_;clear hf;intro _ hf
  (first | refine a_not hf rfl rfl rfl ?_ | refine a_move hf rfl rfl rfl ?_);clear hf;intro _ hf
  refine a_do hf rfl (w':=w4.alloc (.cells #[.int .i64 4,.int .i64 3,.int .i64 3] 3)) (v:=.slice (some ⟨w4.heap.size,0,none⟩) 3 3) (by have e:=fun v => hf.evO (x:=.const v) (v:=v) rfl;revert e;generalize (Act.eval _) = ev;intro e;simp [go_sem,e]) rfl rfl ?_;clear hf;intro _ hf;refine a_call2 hf e19 rfl rfl rfl rfl ?_;clear hf;refine (same_any _ _ 3 3 (splitR 10 [1,1,1]) [4,3,3] _ (hN.reads.below (bel_alloc (Below.refl _ _) _)) (fun i x hx => ⟨_,rfl,trivial,by rw [add_at];exact blk_cell (heap_alloc_new _ _) i (by rcases i with _|_|_|i <;> simp at hx <;> subst hx <;> rfl)⟩) (by decide)).mono ?_;rintro _ w5 ⟨rfl,hb⟩;intro _ hf
  (first | refine a_pickT hf rfl rfl rfl rfl ?_ | refine a_pickF hf rfl rfl rfl rfl ?_);clear hf;intro _ hf
  refine a_assign hf rfl rfl rfl ?_;clear hf;intro _ hf;refine wpList_nil ?_;simp only [Exit.then,Exit.inBlock];go_step;refine wp_ret ?_;refine c_ret hf rfl rfl ⟨ret_eq ?_,bel_then (bel_alloc hB _) hb⟩
  show Value.bool (eqB (splitR 10 [1,1,1]) [4,3,3]) = .bool true
  rw [ex7]
  rfl
end Go.Proofs.Ytpadgcomncljmaa.A
/- What the arguments read as: numbers,acts,codes;and what a row asks behind the walk. -/
namespace Go.Proofs.Ytpadgcomncljmaa.A
open Go.RowKit Go.ChangeShapes Go.WideShapes Go.Deep

theorem cells3 : Try.prog.cellsOf 3 = 1:=by kernel_rfl
theorem cells4 : Try.prog.cellsOf 4 = 1:=by kernel_rfl
theorem cells22 : Try.prog.cellsOf 22 = 1:=by kernel_rfl
theorem cells31 : Try.prog.cellsOf 31 = 1:=by kernel_rfl
theorem cells33 : Try.prog.cellsOf 33 = 6:=by kernel_rfl
theorem cells41 : Try.prog.cellsOf 41 = 1:=by kernel_rfl
theorem cells43 : Try.prog.cellsOf 43 = 12:=by kernel_rfl
theorem cells71 : Try.prog.cellsOf 71 = 4:=by kernel_rfl
theorem laidOut : laidOutB Try.prog = true:=by kernel_rfl
section
variable {H : Type} {enc : TypeId × Value → H} {w : World} {base fuel : Nat} {spare : Nat → Bool} {held : Bool}
theorem trod_at {P : Program} {t : TypeId} {fs : Array Field} {cs : List Value} {x : DataW H × List MemPlace} (ht : P.underlying t = some (.struct fs)) (h : DataW.trod enc P w base spare held fuel t cs = some x) :
    ∃ n,cs.length = P.cellsOf t ∧ ∀ (i : Nat) (f : Field),fs[i]? = some f → P.cellsOf f.type = 1 → f.offset < cs.length → ∃ v y,cs[f.offset]? = some v ∧ DataW.trod enc P w base spare held n f.type [v] = some y:=by
  obtain ⟨xs,n,_,rfl,hl,hlen,hf⟩:=DataW.trod_struct ht h
  refine ⟨n,hl,fun i f hi hc ho => ?_⟩;have:=hf i f hi
  obtain ⟨v,hv⟩:=get_some ho
  have e : (cs.drop f.offset).take (P.cellsOf f.type) = [v]:=by
    rw [hc,drop_get hv];rfl
  rw [e] at this;have hx : i < xs.length:=by rw [hlen];exact (Array.getElem?_eq_some_iff.1 hi).1
  rw [List.getElem?_eq_getElem hx] at this;exact ⟨v,_,hv,this⟩
theorem int_of {P : Program} {t : TypeId} {k : IntKind} {v : Value} {x : DataW H × List MemPlace} (ht : P.underlying t = some (.int k)) (h : DataW.trod enc P w base spare held fuel t [v] = some x) : ∃ n,v = .int k n ∧ (Lit.int k n).wf = true:=by
  obtain ⟨n,e,_,hw⟩:=DataW.trod_int ht h
  exact ⟨n,by simpa using e,hw⟩
theorem bool_of {P : Program} {t : TypeId} {v : Value} {x : DataW H × List MemPlace} (ht : P.underlying t = some .bool) (h : DataW.trod enc P w base spare held fuel t [v] = some x) : ∃ b,v = .bool b:=by
  cases fuel with
  | zero => simp [DataW.trod] at h
  | succ n =>
    unfold DataW.trod at h
    rw [ht] at h
    split at h <;> simp_all
theorem ints_of {v : Value} {x : DataW H × List MemPlace} (h : DataW.trod enc Try.prog w base spare held fuel 22 [v] = some x) : ∃ A xs c,v = .slice A xs.length c ∧ xs.length ≤ c ∧ c ≤ maxLen ∧ RI Any w A xs:=by
  rcases open_slice1 Try.underlying22 cells3 h with ⟨e,_⟩ | ⟨a,len,cap,m,n,V,D,Pl,e,_,hl,hm,hmm,_,hx⟩
  · exact ⟨none,[],0,by simpa using e,Nat.le_refl _,by simp [maxLen],RI.nil⟩
  · have hlm : len ≤ m:=by rw [hmm];split <;> omega
    obtain ⟨N,hN⟩:=choose_lt (α:=Int) (p:=fun i k => V i = .int .i64 k) (fun i hi => by
      obtain ⟨k,hk,_⟩:=int_of Try.underlying3 (hx i (Nat.lt_of_lt_of_le hi hlm)).2
      exact ⟨k,hk⟩)
    refine ⟨some a,(List.range len).map N,cap,by simpa using e,by simpa using hl,hm,fun i y hy => ?_⟩;have hi : i < len:=by have:=(List.getElem?_eq_some_iff.1 hy).1;simpa using this
    have hy' : N i = y:=by simpa [hi] using hy
    exact ⟨a,rfl,trivial,by rw [(hx i (Nat.lt_of_lt_of_le hi hlm)).1,hN i hi,hy']⟩
theorem list12 {α : Type} {cs : List α} (h : cs.length = 12) : ∃ c0 c1 c2 c3 c4 c5 c6 c7 c8 c9 c10 c11,cs = [c0,c1,c2,c3,c4,c5,c6,c7,c8,c9,c10,c11]:=by
  match cs,h with
  | [c0,c1,c2,c3,c4,c5,c6,c7,c8,c9,c10,c11],_ => exact ⟨c0,c1,c2,c3,c4,c5,c6,c7,c8,c9,c10,c11,rfl⟩
theorem list6 {α : Type} {cs : List α} (h : cs.length = 6) : ∃ c0 c1 c2 c3 c4 c5,cs = [c0,c1,c2,c3,c4,c5]:=by
  match cs,h with
  | [c0,c1,c2,c3,c4,c5],_ => exact ⟨c0,c1,c2,c3,c4,c5,rfl⟩
theorem list4 {α : Type} {cs : List α} (h : cs.length = 4) : ∃ c0 c1 c2 c3,cs = [c0,c1,c2,c3]:=by
  match cs,h with
  | [c0,c1,c2,c3],_ => exact ⟨c0,c1,c2,c3,rfl⟩
theorem act_of {cs : List Value} {x : DataW H × List MemPlace} (h : DataW.trod enc Try.prog w base spare held fuel 43 cs = some x) : ∃ (a : ActL) (A8 : Option Addr) (c8 : Nat),cs = actCells a A8 c8 ∧ a.facts.length ≤ c8 ∧ c8 ≤ maxLen ∧ RI Any w A8 a.facts:=by
  obtain ⟨n,hl,hf⟩:=trod_at Try.underlying43 h
  obtain ⟨c0,c1,c2,c3,c4,c5,c6,c7,c8,c9,c10,c11,rfl⟩:=list12 (hl.trans cells43)
  obtain ⟨v0,y0,e0,t0⟩:=hf 0 _ rfl cells41 (Nat.le_of_ble_eq_true rfl)
  obtain ⟨v1,y1,e1,t1⟩:=hf 1 _ rfl cells3 (Nat.le_of_ble_eq_true rfl)
  obtain ⟨v2,y2,e2,t2⟩:=hf 2 _ rfl cells3 (Nat.le_of_ble_eq_true rfl)
  obtain ⟨v3,y3,e3,t3⟩:=hf 3 _ rfl cells3 (Nat.le_of_ble_eq_true rfl)
  obtain ⟨v4,y4,e4,t4⟩:=hf 4 _ rfl cells3 (Nat.le_of_ble_eq_true rfl)
  obtain ⟨v5,y5,e5,t5⟩:=hf 5 _ rfl cells3 (Nat.le_of_ble_eq_true rfl)
  obtain ⟨v6,y6,e6,t6⟩:=hf 6 _ rfl cells3 (Nat.le_of_ble_eq_true rfl)
  obtain ⟨v7,y7,e7,t7⟩:=hf 7 _ rfl cells3 (Nat.le_of_ble_eq_true rfl)
  obtain ⟨v8,y8,e8,t8⟩:=hf 8 _ rfl cells22 (Nat.le_of_ble_eq_true rfl)
  obtain ⟨v9,y9,e9,t9⟩:=hf 9 _ rfl cells3 (Nat.le_of_ble_eq_true rfl)
  obtain ⟨v10,y10,e10,t10⟩:=hf 10 _ rfl cells4 (Nat.le_of_ble_eq_true rfl)
  obtain ⟨v11,y11,e11,t11⟩:=hf 11 _ rfl cells3 (Nat.le_of_ble_eq_true rfl)
  obtain ⟨n0,rfl,_⟩:=int_of Try.underlying41 t0
  obtain ⟨n1,rfl,_⟩:=int_of Try.underlying3 t1
  obtain ⟨n2,rfl,_⟩:=int_of Try.underlying3 t2
  obtain ⟨n3,rfl,_⟩:=int_of Try.underlying3 t3
  obtain ⟨n4,rfl,_⟩:=int_of Try.underlying3 t4
  obtain ⟨n5,rfl,_⟩:=int_of Try.underlying3 t5
  obtain ⟨n6,rfl,_⟩:=int_of Try.underlying3 t6
  obtain ⟨n7,rfl,_⟩:=int_of Try.underlying3 t7
  obtain ⟨A8,xs,k8,rfl,hk,hm,hr⟩:=ints_of t8
  obtain ⟨n9,rfl,_⟩:=int_of Try.underlying3 t9
  obtain ⟨b10,rfl⟩:=bool_of Try.underlying4 t10
  obtain ⟨n11,rfl,_⟩:=int_of Try.underlying3 t11
  cases e0;cases e1;cases e2;cases e3;cases e4;cases e5;cases e6;cases e7;cases e8;cases e9;cases e10;cases e11
  exact ⟨⟨n0,n1,n2,n3,n4,n5,n6,n7,xs,n9,b10,n11⟩,A8,k8,rfl,hk,hm,hr⟩
theorem art_of {cs : List Value} {x : DataW H × List MemPlace} (h : DataW.trod enc Try.prog w base spare held fuel 71 cs = some x) : ∃ a : Art,cs = [.int .i64 a.num,.int .i64 a.since,.int .i64 a.least,.int .i64 a.most]:=by
  obtain ⟨n,hl,hf⟩:=trod_at Try.underlying71 h
  obtain ⟨c0,c1,c2,c3,rfl⟩:=list4 (hl.trans cells71)
  obtain ⟨v0,y0,e0,t0⟩:=hf 0 _ rfl cells3 (Nat.le_of_ble_eq_true rfl)
  obtain ⟨v1,y1,e1,t1⟩:=hf 1 _ rfl cells3 (Nat.le_of_ble_eq_true rfl)
  obtain ⟨v2,y2,e2,t2⟩:=hf 2 _ rfl cells3 (Nat.le_of_ble_eq_true rfl)
  obtain ⟨v3,y3,e3,t3⟩:=hf 3 _ rfl cells3 (Nat.le_of_ble_eq_true rfl)
  obtain ⟨n0,rfl,_⟩:=int_of Try.underlying3 t0
  obtain ⟨n1,rfl,_⟩:=int_of Try.underlying3 t1
  obtain ⟨n2,rfl,_⟩:=int_of Try.underlying3 t2
  obtain ⟨n3,rfl,_⟩:=int_of Try.underlying3 t3
  cases e0;cases e1;cases e2;cases e3
  exact ⟨⟨n0,n1,n2,n3⟩,rfl⟩
instance : Inhabited Art:=⟨⟨0,0,0,0⟩⟩
instance : Inhabited ActL:=⟨⟨0,0,0,0,0,0,0,0,[],0,false,0⟩⟩
theorem cells_at {w : World} {base : Nat} {a : Addr} {n : Nat} {cs : List Value} (hn : 0 < n) (h : w.cells? base a n = some cs) : w.cell? a = cs[0]? ∧ ∀ (j : Nat) (v : Value),0 < j → cs[j]? = some v → w.cell? ⟨a.block,a.off + j,none⟩ = some v:=by
  obtain ⟨_,hl,hc⟩:=World.cells?_some h
  refine ⟨?_,fun j v hj hv => ?_⟩
  · have:=hc 0 hn
    simpa [Addr.add] using this
  · have hjn : j < n:=by rw [← hl];exact (List.getElem?_eq_some_iff.1 hv).1
    have:=hc j hjn;rw [hv] at this;rw [← this]
    unfold Addr.add
    rw [if_neg (by omega)]
theorem arts_of {v : Value} {x : DataW H × List MemPlace} (h : DataW.trod enc Try.prog w base spare held fuel 31 [v] = some x) : ∃ A xs c,v = .slice A xs.length c ∧ xs.length ≤ c ∧ c ≤ maxLen ∧ RArt Any w A xs:=by
  rcases open_slice Try.underlying31 h with ⟨e,_⟩ | ⟨a,len,cap,m,n,D,Pl,e,_,hl,hm,hmm,_,hx⟩
  · exact ⟨none,[],0,by simpa using e,Nat.le_refl _,by simp [maxLen],RArt.nil⟩
  · have hlm : len ≤ m:=by rw [hmm];split <;> omega
    obtain ⟨N,hN⟩:=choose_lt (α:=Art) (p:=fun i k => w.cells? base (a.add (i * 4)) 4 = some [.int .i64 k.num,.int .i64 k.since,.int .i64 k.least,.int .i64 k.most]) (fun i hi => by
      obtain ⟨cs,h1,h2⟩:=hx i (Nat.lt_of_lt_of_le hi hlm)
      obtain ⟨k,rfl⟩:=art_of h2
      rw [cells71] at h1
      exact ⟨k,h1⟩)
    refine ⟨some a,(List.range len).map N,cap,by simpa using e,by simpa using hl,hm,fun i y hy => ?_⟩;have hi : i < len:=by have:=(List.getElem?_eq_some_iff.1 hy).1;simpa using this
    have hy' : N i = y:=by simpa [hi] using hy
    have hc:=(cells_at (by decide) (hN i hi));rw [hy'] at hc;exact ⟨a,rfl,trivial,hc.1,hc.2 1 _ (by decide) rfl,hc.2 2 _ (by decide) rfl,hc.2 3 _ (by decide) rfl⟩
theorem acts_of {v : Value} {x : DataW H × List MemPlace} (h : DataW.trod enc Try.prog w base spare held fuel 34 [v] = some x) : ∃ A xs c,v = .slice A xs.length c ∧ xs.length ≤ c ∧ c ≤ maxLen ∧ RAct Any w A xs:=by
  rcases open_slice Try.underlying34 h with ⟨e,_⟩ | ⟨a,len,cap,m,n,D,Pl,e,_,hl,hm,hmm,_,hx⟩
  · exact ⟨none,[],0,by simpa using e,Nat.le_refl _,by simp [maxLen],RAct.nil⟩
  · have hlm : len ≤ m:=by rw [hmm];split <;> omega
    obtain ⟨N,hN⟩:=choose_lt (α:=ActL) (p:=fun i k => ∃ A8 c8,w.cells? base (a.add (i * 12)) 12 = some (actCells k A8 c8) ∧ k.facts.length ≤ c8 ∧ RI Any w A8 k.facts) (fun i hi => by
      obtain ⟨cs,h1,h2⟩:=hx i (Nat.lt_of_lt_of_le hi hlm)
      obtain ⟨k,A8,c8,rfl,h3,_,h4⟩:=act_of h2
      rw [cells43] at h1
      exact ⟨k,A8,c8,h1,h3,h4⟩)
    refine ⟨some a,(List.range len).map N,cap,by simpa using e,by simpa using hl,hm,fun i y hy => ?_⟩;have hi : i < len:=by have:=(List.getElem?_eq_some_iff.1 hy).1;simpa using this
    have hy' : N i = y:=by simpa [hi] using hy
    obtain ⟨A8,c8,h1,h2,h3⟩:=hN i hi
    have hc:=(cells_at (by decide) h1);rw [hy'] at hc h2 h3;exact ⟨a,A8,c8,rfl,trivial,hc.1,hc.2 1 _ (by decide) rfl,hc.2 2 _ (by decide) rfl,hc.2 3 _ (by decide) rfl,hc.2 4 _ (by decide) rfl,hc.2 5 _ (by decide) rfl,hc.2 6 _ (by decide) rfl,hc.2 7 _ (by decide) rfl,hc.2 8 _ (by decide) rfl,hc.2 9 _ (by decide) rfl,hc.2 10 _ (by decide) rfl,hc.2 11 _ (by decide) rfl,h2,h3⟩
end
section
variable {H : Type} {enc : TypeId × Value → H} {W : World} {b0 : Nat} {v : Value} {d : DataW H} {ps : List MemPlace} {r : Reach}
set_option maxRecDepth 100000 in
theorem arg34 (hv : Value.okWide Try.prog W r b0 34 v) (h : DataW.Trod enc Try.prog W 0 (fun _ => true) true 34 v d ps) : ∃ A xs c,v = .slice A xs.length c ∧ xs.length ≤ c ∧ c ≤ maxLen ∧ RAct Any W A xs:=by
  obtain ⟨a,len,cap,rfl⟩:=okWide_slice Try.underlying34 hv
  obtain ⟨fuel,hf⟩:=h
  exact acts_of (by simpa [Value.cells] using hf)
set_option maxRecDepth 100000 in
theorem arg33 (hv : Value.okWide Try.prog W r b0 33 v) (h : DataW.Trod enc Try.prog W 0 (fun _ => true) true 33 v d ps) : ∃ (C : CodeL) (A : Option Addr) (c : Nat),v = .agg #[.int .i64 C.cars,.slice A C.arts.length c,.int .i64 C.win,.int .i64 C.sec,.int .i64 C.fee,.int .i64 C.price] ∧ C.arts.length ≤ c ∧ c ≤ maxLen ∧ RArt Any W A C.arts:=by
  obtain ⟨cs,rfl,hsz⟩:=okWide_struct Try.underlying33 hv
  obtain ⟨fuel,hf⟩:=h
  obtain ⟨l⟩:=cs
  have hf' : DataW.trod enc Try.prog W 0 (fun _ => true) true fuel 33 l = some (d,ps):=by simpa [Value.cells] using hf
  obtain ⟨n,hl,hq⟩:=trod_at Try.underlying33 hf'
  obtain ⟨c0,c1,c2,c3,c4,c5,rfl⟩:=list6 (hl.trans cells33)
  obtain ⟨v0,y0,e0,t0⟩:=hq 0 _ rfl cells3 (Nat.le_of_ble_eq_true rfl)
  obtain ⟨v1,y1,e1,t1⟩:=hq 1 _ rfl cells31 (Nat.le_of_ble_eq_true rfl)
  obtain ⟨v2,y2,e2,t2⟩:=hq 2 _ rfl cells3 (Nat.le_of_ble_eq_true rfl)
  obtain ⟨v3,y3,e3,t3⟩:=hq 3 _ rfl cells3 (Nat.le_of_ble_eq_true rfl)
  obtain ⟨v4,y4,e4,t4⟩:=hq 4 _ rfl cells3 (Nat.le_of_ble_eq_true rfl)
  obtain ⟨v5,y5,e5,t5⟩:=hq 5 _ rfl cells3 (Nat.le_of_ble_eq_true rfl)
  obtain ⟨n0,rfl,_⟩:=int_of Try.underlying3 t0
  obtain ⟨A,xs,k,rfl,hk,hm,hr⟩:=arts_of t1
  obtain ⟨n2,rfl,_⟩:=int_of Try.underlying3 t2
  obtain ⟨n3,rfl,_⟩:=int_of Try.underlying3 t3
  obtain ⟨n4,rfl,_⟩:=int_of Try.underlying3 t4
  obtain ⟨n5,rfl,_⟩:=int_of Try.underlying3 t5
  cases e0;cases e1;cases e2;cases e3;cases e4;cases e5
  exact ⟨⟨n0,xs,n2,n3,n4,n5⟩,A,k,rfl,hk,hm,hr⟩
end
end Go.Proofs.Ytpadgcomncljmaa.A
