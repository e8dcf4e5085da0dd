/- The reference: a record of acts, those that are refused left out. -/
import Derived.Test.YtpadgcomncljmaaStates2
set_option linter.all false
namespace Go.Proofs.Ytpadgcomncljmaa.A
open Go.RowKit
theorem c_cut {P : Program} {Q : Exit → Act → World → Prop} {a : Act} {w : World} {c : Code} (R : Act → World → Prop) (h1 : c.wp P (fun e a w => e = .normal ∧ R a w) a w) (h2 : ∀ a' w',R a' w' → Q .normal a' w') : c.wp P Q a w :=
  wp_mono h1 (fun e a' w' h => by obtain ⟨rfl,h⟩:=h;exact h2 _ _ h)
theorem t_enter {P : Program} {ops : Array Oper} {Q : Exit → Act → World → Prop} {a : Act} {w : World} {n d i : Nat} {ds : List Deferred} {l : List (Nat × Value)} {K : Act → World → Prop} {f : FuncId} {args : Array Value} {o : Oper}
    (H : Has n ds l a) (ho : ops[i]? = some o) (hg : wantB ops n l o.guard = some true) (he : (execOp a.eval o).run P w = .ok (.enter f args) w) (hdst : o.dst = some d) (hd : Nat.ble (d + 1) n = true)
    (h : Calls P f args w fun e w' => ∃ v,e = .returned v ∧ ∀ a',Has n ds ((d,v) :: l) a' → K a' w') : wpOp P ops Q i K a w:=by
  unfold wpOp
  simp only [ho];rw [if_pos (want_sound H hg)];refine .inl ?_
  unfold Oper.wp
  rw [he,Oper.upon_enter];refine h.mono fun e w2 hp => ?_
  obtain ⟨v,rfl,hk⟩:=hp
  show K (a.put o.dst v) w2
  rw [hdst];exact hk _ (H.put hd)
theorem prot_at : ∀ (l : List ActL) (i : Int) (k : Nat) (q : Int), (protGo l i)[k]? = some q → ∃ (j : Nat) (x : ActL), q = i + j ∧ l[j]? = some x ∧ x.kind = 2
  | [],i,k,q,h => by simp [protGo] at h
  | y :: l,i,k,q,h => by
    by_cases hy : y.kind = 2
    · rw [prot_hit hy] at h
      cases k with
      | zero => cases h;exact ⟨0,y,by simp,rfl,hy⟩
      | succ k =>
        obtain ⟨j,x,h1,h2,h3⟩:=prot_at l (i + 1) k q (by simpa using h)
        exact ⟨j + 1,x,by push_cast;omega,by simpa using h2,h3⟩
    · rw [prot_miss hy] at h
      obtain ⟨j,x,h1,h2,h3⟩:=prot_at l (i + 1) k q h
      exact ⟨j + 1,x,by push_cast;omega,by simpa using h2,h3⟩
def fitsB (C : CodeL) (x a : ActL) : Bool:=if a.up then inB a.pen ((verO C.arts x.art x.at_).getD zeroArt).least ((verO C.arts x.art x.at_).getD zeroArt).most else a.pen == 0
set_option maxHeartbeats 4000000 in
set_option maxRecDepth 100000 in
theorem fits_any (C : CodeL) (A1 : Option Addr) (c1 : Nat) (acts : List ActL) (A : Option Addr) (c : Nat) (a : ActL) (A8 : Option Addr) (c8 : Nat) (k p : Nat) (x : ActL) (w : World) (hC : RArt Any w A1 C.arts) (hn : C.arts.length ≤ 1000000) (hr : RAct Any w A acts) (hna : acts.length ≤ 1000000)
    (hk : a.case_ = k) (hp : (protGo acts 0)[k]? = some (p : Int)) (hx : acts[p]? = some x) (b : Bool) (hb : fitsB C x a = b) :
    Calls Try.prog 60 #[.agg #[.int .i64 C.cars,.slice A1 C.arts.length c1,.int .i64 C.win,.int .i64 C.sec,.int .i64 C.fee,.int .i64 C.price],.slice A acts.length c,.agg #[.int .i64 a.kind,.int .i64 a.minute,.int .i64 a.paper,.int .i64 a.case_,.int .i64 a.by_,.int .i64 a.against,.int .i64 a.art,.int .i64 a.at_,.slice A8 a.facts.length c8,.int .i64 a.paid,.bool a.up,.int .i64 a.pen]] w fun e w' => e = .returned (.bool b) ∧ Below w.heap.size w w':=by
  have HC:=Aside.mk hC;have HR:=Aside.mk hr;have HP:=Aside.mk hp;have h3 : ((w.alloc (.cells #[.int .i64 C.cars,.slice A1 C.arts.length c1,.int .i64 C.win,.int .i64 C.sec,.int .i64 C.fee,.int .i64 C.price] 33)).alloc (.cells #[.int .i64 a.kind,.int .i64 a.minute,.int .i64 a.paper,.int .i64 a.case_,.int .i64 a.by_,.int .i64 a.against,.int .i64 a.art,.int .i64 a.at_,.slice A8 a.facts.length c8,.int .i64 a.paid,.bool a.up,.int .i64 a.pen] 43)).heap[w.heap.size]? = some (.cells #[.int .i64 C.cars,.slice A1 C.arts.length c1,.int .i64 C.win,.int .i64 C.sec,.int .i64 C.fee,.int .i64 C.price] 33 (0,0)):=(Below.heap_alloc _ _ _ (by simp)).trans (heap_alloc_new w _);have h5 : ((w.alloc (.cells #[.int .i64 C.cars,.slice A1 C.arts.length c1,.int .i64 C.win,.int .i64 C.sec,.int .i64 C.fee,.int .i64 C.price] 33)).alloc (.cells #[.int .i64 a.kind,.int .i64 a.minute,.int .i64 a.paper,.int .i64 a.case_,.int .i64 a.by_,.int .i64 a.against,.int .i64 a.art,.int .i64 a.at_,.slice A8 a.facts.length c8,.int .i64 a.paid,.bool a.up,.int .i64 a.pen] 43)).heap[w.heap.size + 1]? = some (.cells #[.int .i64 a.kind,.int .i64 a.minute,.int .i64 a.paper,.int .i64 a.case_,.int .i64 a.by_,.int .i64 a.against,.int .i64 a.art,.int .i64 a.at_,.slice A8 a.facts.length c8,.int .i64 a.paid,.bool a.up,.int .i64 a.pen] 43 (0,0)):=new_at (by simp);have hB : Below w.heap.size w ((w.alloc (.cells #[.int .i64 C.cars,.slice A1 C.arts.length c1,.int .i64 C.win,.int .i64 C.sec,.int .i64 C.fee,.int .i64 C.price] 33)).alloc (.cells #[.int .i64 a.kind,.int .i64 a.minute,.int .i64 a.paper,.int .i64 a.case_,.int .i64 a.by_,.int .i64 a.against,.int .i64 a.art,.int .i64 a.at_,.slice A8 a.facts.length c8,.int .i64 a.paid,.bool a.up,.int .i64 a.pen] 43)):=bel_alloc (bel_alloc (Below.refl _ _) _) _;have hpl : k < (protGo acts 0).length:=(List.getElem?_eq_some_iff.1 hp).1;have hxl : p < acts.length:=(List.getElem?_eq_some_iff.1 hx).1;clear hC hr hp
  go_enter Try.func60,Try.ntmps60
  refine wp_abs (n:=41) (ds:=[]) (l:=[(0,.agg #[.int .i64 C.cars,.slice A1 C.arts.length c1,.int .i64 C.win,.int .i64 C.sec,.int .i64 C.fee,.int .i64 C.price]),(1,.slice A acts.length c),(2,.agg #[.int .i64 a.kind,.int .i64 a.minute,.int .i64 a.paper,.int .i64 a.case_,.int .i64 a.by_,.int .i64 a.against,.int .i64 a.art,.int .i64 a.at_,.slice A8 a.facts.length c8,.int .i64 a.paid,.bool a.up,.int .i64 a.pen])]) ?_ ?_
  · refine (((Has.nil ?_ ?_).cons ?_).cons ?_).cons ?_
    all_goals first | rfl | (simp [Act.eval];done)
  intro _ hf;refine wp_seq_k ?_;intro _ _;refine wp_region_lit ?_;refine a_box hf rfl rfl rfl rfl ?_;clear hf;intro _ hf;refine a_box hf rfl rfl rfl rfl ?_;clear hf;intro _ hf;refine a_assign hf rfl rfl rfl ?_;clear hf;intro _ hf;refine wpList_nil ?_;simp only [Exit.then,Exit.inBlock];go_step
  change Code.wp _ _ _ _ ((w.alloc (.cells #[.int .i64 C.cars,.slice A1 C.arts.length c1,.int .i64 C.win,.int .i64 C.sec,.int .i64 C.fee,.int .i64 C.price] 33)).alloc (.cells #[.int .i64 a.kind,.int .i64 a.minute,.int .i64 a.paper,.int .i64 a.case_,.int .i64 a.by_,.int .i64 a.against,.int .i64 a.art,.int .i64 a.at_,.slice A8 a.facts.length c8,.int .i64 a.paid,.bool a.up,.int .i64 a.pen] 43))
  replace hf : Has 41 [] [(1,.slice A acts.length c),(5,.pointer (some ⟨w.heap.size + 1,0,none⟩)),(3,.pointer (some ⟨w.heap.size,0,none⟩))] _:=((hf.nilOf.cons (hf.at_ 3 _ rfl)).cons (d:=5) ((hf.at_ 5 _ rfl).trans (by simp))).cons (hf.at_ 1 _ rfl)
  generalize ((w.alloc (.cells #[.int .i64 C.cars,.slice A1 C.arts.length c1,.int .i64 C.win,.int .i64 C.sec,.int .i64 C.fee,.int .i64 C.price] 33)).alloc (.cells #[.int .i64 a.kind,.int .i64 a.minute,.int .i64 a.paper,.int .i64 a.case_,.int .i64 a.by_,.int .i64 a.against,.int .i64 a.art,.int .i64 a.at_,.slice A8 a.facts.length c8,.int .i64 a.paid,.bool a.up,.int .i64 a.pen] 43)) = W0 at *
  refine wp_seq_k ?_;intro _ _;refine wp_seq_k ?_;intro _ _
  cases hup : a.up with
  | false =>
    rw [hup] at h5;refine wp_region_lit ?_;refine a_field hf rfl rfl rfl rfl ?_;clear hf;intro _ hf;refine a_load hf rfl rfl rfl (by exact blk_cell h5 10) rfl ?_;clear hf;intro _ hf;refine a_not_ hf rfl rfl rfl ?_;clear hf;intro _ hf;refine wpList_nil ?_;simp only [Exit.then,Exit.inBlock];go_step;refine c_condT hf rfl ?_;refine wp_seq_k ?_;intro _ _;refine wp_region_lit ?_;refine a_field hf rfl rfl rfl rfl ?_;clear hf;intro _ hf;refine a_load hf rfl rfl rfl (by exact blk_cell h5 11) rfl ?_;clear hf;intro _ hf;refine a_cmp hf rfl rfl rfl rfl rfl rfl rfl ?_;clear hf;intro _ hf;refine a_assign hf rfl rfl rfl ?_;clear hf;intro _ hf;refine wpList_nil ?_;simp only [Exit.then,Exit.inBlock];go_step;refine wp_ret ?_
    try simp only [Exit.then,Exit.inBlock]
    exact c_ret hf rfl rfl ⟨ret_eq (by rw [← hb];simp [fitsB,hup]),hB⟩
  | true =>
    rw [hup] at h5;refine wp_region_lit ?_;refine a_field hf rfl rfl rfl rfl ?_;clear hf;intro _ hf;refine a_load hf rfl rfl rfl (by exact blk_cell h5 10) rfl ?_;clear hf;intro _ hf;refine a_not_ hf rfl rfl rfl ?_;clear hf;intro _ hf;refine wpList_nil ?_;simp only [Exit.then,Exit.inBlock];go_step;refine c_condF hf rfl ?_;refine wp_skip ?_;simp only [Exit.then,Exit.inBlock];go_step;refine wp_seq_k ?_;intro _ _;have hra:=HR.out.below hB;refine c_cut (fun a' w' => ∃ b7,Has 41 [] [(7,.pointer (some ⟨b7,0,none⟩)),(1,.slice A acts.length c),(5,.pointer (some ⟨w.heap.size + 1,0,none⟩)),(3,.pointer (some ⟨w.heap.size,0,none⟩))] a' ∧ (∃ B9 d9,w'.heap[b7]? = some (.cells #[.int .i64 x.kind,.int .i64 x.minute,.int .i64 x.paper,.int .i64 x.case_,.int .i64 x.by_,.int .i64 x.against,.int .i64 x.art,.int .i64 x.at_,.slice B9 x.facts.length d9,.int .i64 x.paid,.bool x.up,.int .i64 x.pen] 43 (0,0))) ∧ Below W0.heap.size W0 w') ?_ ?_
    · obtain ⟨ad,B9,d9,rfl,_,ha⟩:=hra p x hx
      have hcells : ∀ w',Below W0.heap.size W0 w' → _:=fun w' hw' => (show ActAt Any w' (ad.add (p * 12)) x B9 d9 from ha.move (hw'.block _ (lt_of_cell ha.1)) (fun k _ hk => hw'.block k hk));have h5c : ∀ w',Below W0.heap.size W0 w' → w'.cell? ⟨w.heap.size + 1,3,none⟩ = some (.int .i64 a.case_):=fun w' hw' => blk_cell ((hw'.block _ (blk_lt h5)).trans h5) 3;refine t_begin (S:=fun w' => Below W0.heap.size W0 w') (by kernel_rfl) ?_;have hS : (fun w' => Below W0.heap.size W0 w') W0.drew:=bel_drew (Below.refl _ _);refine t_take (i:=0) (d:=16) hf rfl (by kernel_rfl) (by kernel_rfl) (by kernel_rfl) rfl (fun w' hw' => x_move hf rfl) rfl rfl hS ?_;clear hf;intro _ hf;refine t_take (i:=1) (d:=17) hf rfl (by kernel_rfl) (by kernel_rfl) (by kernel_rfl) rfl (fun w' hw' => x_move hf rfl) rfl rfl hS ?_;clear hf;intro _ hf;refine t_take (i:=3) (d:=19) hf rfl (by kernel_rfl) (by kernel_rfl) (by kernel_rfl) rfl (fun w' hw' => x_field hf rfl rfl) rfl rfl hS ?_;clear hf;intro _ hf;refine t_take (i:=4) (d:=20) hf rfl (by kernel_rfl) (by kernel_rfl) (by kernel_rfl) rfl (fun w' hw' => x_load hf rfl rfl (by exact h5c w' hw')) rfl rfl hS ?_;clear hf;intro _ hf;refine t_two (i:=2) (j:=9) (by kernel_rfl) (t_enter (f:=27) (args:=#[.slice (some ad) acts.length c]) (d:=18) hf rfl rfl (by have h0:=hf.evO (x:=.func 27) rfl;have h1:=hf.evO (x:=.tmp 17) rfl;revert h0 h1;generalize (Act.eval _) = ev;intro h0 h1;simp [go_sem,h0,h1,e27 _ _]) rfl rfl ?_) (t_op (d:=7) (v:=.pointer (some ⟨W0.drew.heap.size,0,none⟩)) (w':=W0.drew.alloc (.cells #[.int .i64 0,.int .i64 0,.int .i64 0,.int .i64 0,.int .i64 0,.int .i64 0,.int .i64 0,.int .i64 0,.slice none 0 0,.int .i64 0,.bool false,.int .i64 0] 43)) hf rfl rfl (by generalize (Act.eval _) = ev;simp [go_sem]) rfl rfl (fun _ hf => ⟨bel_alloc hS _,?_⟩))
      · refine (refProtests_any (some ad) c acts _ ((show RAct Any W0 (some ad) acts from hra).move (fun k _ hk => hS.block k hk)) hna).mono ?_
        rintro _ w1 ⟨A9,c9,rfl,hc9,hpr,hb1⟩
        refine ⟨_,rfl,?_⟩;clear hf;intro _ hf;have hS1:=bel_then hS hb1;refine ⟨hS1,?_⟩;clear hS;have hS:=hS1
        obtain ⟨pd,rfl,_,hpc⟩:=hpr k _ HP.out
        refine t_take (i:=5) (d:=21) hf rfl (by kernel_rfl) (by kernel_rfl) (by kernel_rfl) rfl (fun w' hw' => x_index (j:=k) hf rfl rfl rfl (by first | rfl | omega) (by omega)) rfl rfl hS ?_;clear hf;intro _ hf;refine t_two (i:=6) (j:=9) (by kernel_rfl) (t_op (d:=22) hf rfl rfl (x_load hf rfl rfl (by rw [Nat.mul_one];exact hpc)) rfl rfl (fun _ hf => ⟨hS,?_⟩)) (t_op (d:=7) (v:=.pointer (some ⟨w1.heap.size,0,none⟩)) (w':=w1.alloc (.cells #[.int .i64 0,.int .i64 0,.int .i64 0,.int .i64 0,.int .i64 0,.int .i64 0,.int .i64 0,.int .i64 0,.slice none 0 0,.int .i64 0,.bool false,.int .i64 0] 43)) hf rfl rfl (by generalize (Act.eval _) = ev;simp [go_sem]) rfl rfl (fun _ hf => ⟨bel_alloc hS _,?_⟩))
        · refine t_take (i:=7) (d:=23) hf rfl (by kernel_rfl) (by kernel_rfl) (by kernel_rfl) rfl (fun w' hw' => x_index (j:=p) hf rfl rfl rfl (by first | rfl | omega) (by omega)) rfl rfl hS ?_;clear hf;intro _ hf
          refine t_take (i:=8) (d:=24) hf rfl (by kernel_rfl) (by kernel_rfl) (by kernel_rfl) rfl (fun w' hw' => x_load43 hf rfl (by obtain ⟨g0,g1,g2,g3,g4,g5,g6,g7,g8,g9,g10,g11,_⟩:=hcells w' hw';exact ⟨g0,g1,g2,g3,g4,g5,g6,g7,g8,g9,g10,g11⟩)) rfl rfl hS ?_;clear hf;intro _ hf;refine t_one (i:=9) (by kernel_rfl) (t_op (d:=7) (v:=.pointer (some ⟨w1.heap.size,0,none⟩)) (w':=w1.alloc (.cells #[.int .i64 0,.int .i64 0,.int .i64 0,.int .i64 0,.int .i64 0,.int .i64 0,.int .i64 0,.int .i64 0,.slice none 0 0,.int .i64 0,.bool false,.int .i64 0] 43)) hf rfl rfl (by generalize (Act.eval _) = ev;simp [go_sem]) rfl rfl (fun _ hf => ⟨bel_alloc hS _,?_⟩));have hbx:=heap_alloc_new w1 (.cells #[.int .i64 0,.int .i64 0,.int .i64 0,.int .i64 0,.int .i64 0,.int .i64 0,.int .i64 0,.int .i64 0,.slice none 0 0,.int .i64 0,.bool false,.int .i64 0] 43);have hsz7:=hS.size;replace hS:=bel_alloc hS (.cells #[.int .i64 0,.int .i64 0,.int .i64 0,.int .i64 0,.int .i64 0,.int .i64 0,.int .i64 0,.int .i64 0,.slice none 0 0,.int .i64 0,.bool false,.int .i64 0] 43)
          obtain ⟨w9,e9,hX9,hM9⟩:=run_store43 (x:=.tmp 7) (y:=.tmp 24) (t:=0) (ps:="") (af:=#[]) (g:=none) (hf.evO (x:=.tmp 7) rfl) x.kind x.minute x.paper x.case_ x.by_ x.against x.art x.at_ x.paid x.pen B9 x.facts.length d9 x.up (hf.evO (x:=.tmp 24) rfl) hbx rfl
          have hS9 : Below W0.heap.size W0 w9:=bel_modG hS hM9 (by have:=hsz7;omega);refine t_one (i:=10) (by kernel_rfl) (t_skip (w':=w9) hf rfl rfl e9 rfl (fun _ hf => ⟨hS9,?_⟩));refine wpAnyH_done (by kernel_rfl) (NoPanic.normal ⟨rfl,_,((((hf.nilOf.cons (hf.at_ 3 _ rfl)).cons (hf.at_ 5 _ rfl)).cons (hf.at_ 1 _ rfl)).cons (hf.at_ 7 _ rfl)),⟨B9,d9,hX9⟩,hS9⟩) _
        · have hbx:=heap_alloc_new w1 (.cells #[.int .i64 0,.int .i64 0,.int .i64 0,.int .i64 0,.int .i64 0,.int .i64 0,.int .i64 0,.int .i64 0,.slice none 0 0,.int .i64 0,.bool false,.int .i64 0] 43)
          have hsz7:=hS.size;have hpc2:=(World.cell?_of_block (Below.heap_alloc w1 (.cells #[.int .i64 0,.int .i64 0,.int .i64 0,.int .i64 0,.int .i64 0,.int .i64 0,.int .i64 0,.int .i64 0,.slice none 0 0,.int .i64 0,.bool false,.int .i64 0] 43) _ (lt_of_cell hpc))).trans hpc;replace hS:=bel_alloc hS (.cells #[.int .i64 0,.int .i64 0,.int .i64 0,.int .i64 0,.int .i64 0,.int .i64 0,.int .i64 0,.int .i64 0,.slice none 0 0,.int .i64 0,.bool false,.int .i64 0] 43);refine t_one (i:=6) (by kernel_rfl) (t_op (d:=22) hf rfl rfl (x_load hf rfl rfl (by rw [Nat.mul_one];exact hpc2)) rfl rfl (fun _ hf => ⟨hS,?_⟩));refine t_take (i:=7) (d:=23) hf rfl (by kernel_rfl) (by kernel_rfl) (by kernel_rfl) rfl (fun w' hw' => x_index (j:=p) hf rfl rfl rfl (by first | rfl | omega) (by omega)) rfl rfl hS ?_;clear hf;intro _ hf;refine t_take (i:=8) (d:=24) hf rfl (by kernel_rfl) (by kernel_rfl) (by kernel_rfl) rfl (fun w' hw' => x_load43 hf rfl (by obtain ⟨g0,g1,g2,g3,g4,g5,g6,g7,g8,g9,g10,g11,_⟩:=hcells w' hw';exact ⟨g0,g1,g2,g3,g4,g5,g6,g7,g8,g9,g10,g11⟩)) rfl rfl hS ?_;clear hf;intro _ hf
          obtain ⟨w9,e9,hX9,hM9⟩:=run_store43 (x:=.tmp 7) (y:=.tmp 24) (t:=0) (ps:="") (af:=#[]) (g:=none) (hf.evO (x:=.tmp 7) rfl) x.kind x.minute x.paper x.case_ x.by_ x.against x.art x.at_ x.paid x.pen B9 x.facts.length d9 x.up (hf.evO (x:=.tmp 24) rfl) hbx rfl
          have hS9 : Below W0.heap.size W0 w9:=bel_modG hS hM9 (by have:=hsz7;omega);refine t_one (i:=10) (by kernel_rfl) (t_skip (w':=w9) hf rfl rfl e9 rfl (fun _ hf => ⟨hS9,?_⟩));refine wpAnyH_done (by kernel_rfl) (NoPanic.normal ⟨rfl,_,((((hf.nilOf.cons (hf.at_ 3 _ rfl)).cons (hf.at_ 5 _ rfl)).cons (hf.at_ 1 _ rfl)).cons (hf.at_ 7 _ rfl)),⟨B9,d9,hX9⟩,hS9⟩) _
      · have hsz7 : W0.heap.size ≤ W0.drew.heap.size:=Nat.le_refl _
        have hbx:=heap_alloc_new W0.drew (.cells #[.int .i64 0,.int .i64 0,.int .i64 0,.int .i64 0,.int .i64 0,.int .i64 0,.int .i64 0,.int .i64 0,.slice none 0 0,.int .i64 0,.bool false,.int .i64 0] 43);replace hS:=bel_alloc hS (.cells #[.int .i64 0,.int .i64 0,.int .i64 0,.int .i64 0,.int .i64 0,.int .i64 0,.int .i64 0,.int .i64 0,.slice none 0 0,.int .i64 0,.bool false,.int .i64 0] 43);refine t_one (i:=2) (by kernel_rfl) (t_enter (f:=27) (args:=#[.slice (some ad) acts.length c]) (d:=18) hf rfl rfl (by have h0:=hf.evO (x:=.func 27) rfl;have h1:=hf.evO (x:=.tmp 17) rfl;revert h0 h1;generalize (Act.eval _) = ev;intro h0 h1;simp [go_sem,h0,h1,e27 _ _]) rfl rfl ?_);refine (refProtests_any (some ad) c acts _ ((show RAct Any W0 (some ad) acts from hra).move (fun k _ hk => hS.block k hk)) hna).mono ?_
        rintro _ w1 ⟨A9,c9,rfl,hc9,hpr,hb1⟩
        refine ⟨_,rfl,?_⟩;clear hf;intro _ hf;have hbx1:=(hb1.block _ (blk_lt hbx)).trans hbx;have hS1:=bel_then hS hb1;refine ⟨hS1,?_⟩;clear hS;have hS:=hS1
        obtain ⟨pd,rfl,_,hpc⟩:=hpr k _ HP.out
        refine t_take (i:=5) (d:=21) hf rfl (by kernel_rfl) (by kernel_rfl) (by kernel_rfl) rfl (fun w' hw' => x_index (j:=k) hf rfl rfl rfl (by first | rfl | omega) (by omega)) rfl rfl hS ?_;clear hf;intro _ hf;refine t_one (i:=6) (by kernel_rfl) (t_op (d:=22) hf rfl rfl (x_load hf rfl rfl (by rw [Nat.mul_one];exact hpc)) rfl rfl (fun _ hf => ⟨hS,?_⟩));refine t_take (i:=7) (d:=23) hf rfl (by kernel_rfl) (by kernel_rfl) (by kernel_rfl) rfl (fun w' hw' => x_index (j:=p) hf rfl rfl rfl (by first | rfl | omega) (by omega)) rfl rfl hS ?_;clear hf;intro _ hf;refine t_take (i:=8) (d:=24) hf rfl (by kernel_rfl) (by kernel_rfl) (by kernel_rfl) rfl (fun w' hw' => x_load43 hf rfl (by obtain ⟨g0,g1,g2,g3,g4,g5,g6,g7,g8,g9,g10,g11,_⟩:=hcells w' hw';exact ⟨g0,g1,g2,g3,g4,g5,g6,g7,g8,g9,g10,g11⟩)) rfl rfl hS ?_;clear hf;intro _ hf
        obtain ⟨w9,e9,hX9,hM9⟩:=run_store43 (x:=.tmp 7) (y:=.tmp 24) (t:=0) (ps:="") (af:=#[]) (g:=none) (hf.evO (x:=.tmp 7) rfl) x.kind x.minute x.paper x.case_ x.by_ x.against x.art x.at_ x.paid x.pen B9 x.facts.length d9 x.up (hf.evO (x:=.tmp 24) rfl) hbx1 rfl
        have hS9 : Below W0.heap.size W0 w9:=bel_modG hS hM9 (by have:=hsz7;omega);refine t_one (i:=10) (by kernel_rfl) (t_skip (w':=w9) hf rfl rfl e9 rfl (fun _ hf => ⟨hS9,?_⟩));refine wpAnyH_done (by kernel_rfl) (NoPanic.normal ⟨rfl,_,((((hf.nilOf.cons (hf.at_ 3 _ rfl)).cons (hf.at_ 5 _ rfl)).cons (hf.at_ 1 _ rfl)).cons (hf.at_ 7 _ rfl)),⟨B9,d9,hX9⟩,hS9⟩) _
    rintro _ w1 ⟨b7,hf,⟨B9,d9,h7⟩,hb1⟩
    simp only [Exit.then];replace h3:=(hb1.block _ (blk_lt h3)).trans h3;replace h5:=(hb1.block _ (blk_lt h5)).trans h5;replace hB:=bel_then hB hb1;clear hb1 hra;go_step;refine wp_seq_k ?_;intro _ _;refine wp_region_lit ?_;refine a_load33b hf rfl rfl (by exact h3) rfl ?_;clear hf;intro _ hf;refine a_field hf rfl rfl rfl rfl ?_;clear hf;intro _ hf;refine a_load hf rfl rfl rfl (by exact blk_cell h7 6) rfl ?_;clear hf;intro _ hf;refine a_field hf rfl rfl rfl rfl ?_;clear hf;intro _ hf;refine a_load hf rfl rfl rfl (by exact blk_cell h7 7) rfl ?_;clear hf;intro _ hf;refine a_call3 hf e40 rfl rfl rfl rfl rfl ?_;clear hf;refine (refVersion_any C A1 c1 x.art x.at_ _ (HC.out.below hB) hn).mono ?_;rintro _ w2 ⟨rfl,hb2⟩;intro _ hf;refine a_move hf rfl rfl rfl ?_;clear hf;intro _ hf;refine a_extract hf rfl rfl rfl rfl ?_;clear hf;intro _ hf;refine a_extract hf rfl rfl rfl rfl ?_;clear hf;intro _ hf;refine a_alloc71 hf rfl rfl ?_;clear hf;intro _ hf;refine a_store71 (X:=(verO C.arts x.art x.at_).getD zeroArt) hf rfl rfl rfl (heap_alloc_new w2 _) rfl ?_;clear hf;intro _ w3 hf h8 hM;refine a_assign hf rfl rfl rfl ?_;clear hf;intro _ hf;refine wpList_nil ?_;simp only [Exit.then,Exit.inBlock];go_step;have hb3 : Below w2.heap.size w2 w3:=bel_modG (bel_alloc (Below.refl _ _) _) hM (Nat.le_refl _);replace h5:=(hb3.block _ (Nat.lt_of_lt_of_le (blk_lt h5) hb2.size)).trans ((hb2.block _ (blk_lt h5)).trans h5);replace hB:=bel_then (bel_then hB hb2) hb3;clear hM hb2 hb3;refine wp_seq_k ?_;intro _ _;refine wp_region_lit ?_;refine a_field hf rfl rfl rfl rfl ?_;clear hf;intro _ hf;refine a_load hf rfl rfl rfl (by exact blk_cell h5 11) rfl ?_;clear hf;intro _ hf;refine a_field hf rfl rfl rfl rfl ?_;clear hf;intro _ hf;refine a_load hf rfl rfl rfl (by exact blk_cell h8 2) rfl ?_;clear hf;intro _ hf;refine a_field hf rfl rfl rfl rfl ?_;clear hf;intro _ hf;refine a_load hf rfl rfl rfl (by exact blk_cell h8 3) rfl ?_;clear hf;intro _ hf;refine a_call3 hf e55 rfl rfl rfl rfl rfl ?_;clear hf;refine (in_as _ _ _ b (by rw [← hb];simp [fitsB,hup]) _).mono ?_;rintro _ _ ⟨rfl,rfl⟩;intro _ hf;refine a_assign hf rfl rfl rfl ?_;clear hf;intro _ hf;refine wpList_nil ?_;simp only [Exit.then,Exit.inBlock];go_step;refine wp_ret ?_
    try simp only [Exit.then,Exit.inBlock]
    exact c_ret hf rfl rfl ⟨rfl,hB⟩
end Go.Proofs.Ytpadgcomncljmaa.A
/- The reference: the error of an act after other ones. -/
namespace Go.Proofs.Ytpadgcomncljmaa.A
open Go.RowKit
theorem q_load33b {ops : Array Oper} {K : World → Prop} {Q : Act → Prop} {a : Act} {rest : List Oper} {n d : Nat} {ds : List Deferred} {l : List (Nat × Value)} {t : TypeId} {ps : String} {af : Array Edge} {g : Option (Nat × Bool)} {x : Operand} {b : Nat} {v0 v1 v2 v3 v4 v5 : Value} (H : Has n ds l a) (hg : wantB ops n l g = some true) (hx : lookO l x = some (.pointer (some ⟨b, 0, none⟩))) (hb : ∀ w, K w → w.heap[b]? = some (.cells #[v0, v1, v2, v3, v4, v5] 33 (0, 0)))
    (hd : Nat.ble (d + 1) n = true) (h : ∀ a',Has n ds ((d,.agg #[v0,v1,v2,v3,v4,v5]) :: l) a' → wpQuiet Try.prog ops K Q rest a') : wpQuiet Try.prog ops K Q (⟨some d,.load 33 x,t,ps,af,g⟩ :: rest) a :=
  q_do H hg (fun w hw => by
    have hb:=hb w hw;have hc : ∀ i u,(#[v0,v1,v2,v3,v4,v5] : Array Value)[i]? = some u → w.cell? ⟨b,i,none⟩ = some u:=fun i u hu => by simp [World.cell?,hb,hu]
    have c0:=hc 0 _ rfl;have c1:=hc 1 _ rfl;have c2:=hc 2 _ rfl;have c3:=hc 3 _ rfl;have c4:=hc 4 _ rfl;have c5:=hc 5 _ rfl
    have hx:=H.evO hx;have hu:=Try.underlying33;generalize a.eval = ev at hx;simp [go_sem,hx,hu,c0,c1,c2,c3,c4,c5]) rfl hd h
theorem pub_at (p : Int) : ∀ (l : List ActL) (i : Int), pubGo p l i = -1 ∨ ∃ (j : Nat) (x : ActL), l[j]? = some x ∧ pubGo p l i = i + j ∧ x.kind = 1 ∧ x.paper = p
  | [],i => .inl rfl
  | y :: l,i => by
    by_cases h : y.kind = 1 ∧ y.paper = p
    · exact .inr ⟨0,y,rfl,by rw [pub_hit h.1 h.2];simp,h⟩
    · rw [pub_miss h]
      rcases pub_at p l (i + 1) with h1 | ⟨j,x,h1,h2,h3⟩
      · exact .inl h1
      · exact .inr ⟨j + 1,x,by simpa using h1,by push_cast;omega,h3⟩
def lastM (q k : Int) (acts : List ActL) : Int:=lastGo q k 10000000 acts 0 (-1)
def badR (C : CodeL) (acts : List ActL) (a : ActL) : Bool:=!shapedB C.cars a || lateB acts a.minute
def refPub (C : CodeL) (acts : List ActL) (a : ActL) : Int :=
  if pubGo a.paper acts 0 < 0 then 5 else if verO C.arts a.art a.at_ = none then 5 else if C.win < a.minute - (actAt acts (pubGo a.paper acts 0)).minute then 8 else if a.paid ≠ C.fee then 7 else 0
def refCase (C : CodeL) (acts : List ActL) (a x : ActL) : Int :=
  if a.kind = 3 then (if 0 ≤ lastM 6 a.case_ acts then 6 else if 0 ≤ lastM 3 a.case_ acts then 6 else if fitsB C x a then 0 else 7)
  else if a.kind = 4 then (if lastM 3 a.case_ acts < 0 then 6 else if 0 ≤ lastM 4 a.case_ acts then 6 else if a.by_ ≠ x.by_ ∧ a.by_ ≠ x.against then 7
    else if C.sec < a.minute - (actAt acts (lastM 3 a.case_ acts)).minute then 8 else if a.paid ≠ C.price then 7 else 0)
  else if a.kind = 5 then (if 0 ≤ lastM 4 a.case_ acts then (if 0 ≤ lastM 5 a.case_ acts then 6 else if fitsB C x a then 0 else 7) else 6)
  else (if 0 ≤ lastM 6 a.case_ acts then 6 else if 0 ≤ lastM 3 a.case_ acts then 6 else if a.by_ ≠ x.by_ then 7 else 0)
def refusedR (C : CodeL) (acts : List ActL) (a : ActL) : Int :=
  if badR C acts a then 2 else if 2000 ≤ acts.length then 4
  else if a.kind = 1 then (if 0 ≤ pubGo a.paper acts 0 then 6 else 0)
  else if a.kind = 2 then refPub C acts a
  else if ((protGo acts 0).length : Int) ≤ a.case_ then 5
  else refCase C acts a (actAt acts ((protGo acts 0)[a.case_.toNat]?.getD 0))
theorem refAct_as (C : CodeL) (A : Option Addr) (c : Nat) (a : ActL) (A8 : Option Addr) (c8 : Nat) (b : Bool) (hb : shapedB C.cars a = b) (w : World) (hr : RI Any w A8 a.facts) (hfl : a.facts.length ≤ 1000000) :
    Calls Try.prog 57 #[.agg #[.int .i64 C.cars,.slice A C.arts.length c,.int .i64 C.win,.int .i64 C.sec,.int .i64 C.fee,.int .i64 C.price],.agg #[.int .i64 a.kind,.int .i64 a.minute,.int .i64 a.paper,.int .i64 a.case_,.int .i64 a.by_,.int .i64 a.against,.int .i64 a.art,.int .i64 a.at_,.slice A8 a.facts.length c8,.int .i64 a.paid,.bool a.up,.int .i64 a.pen]] w fun e w' => e = .returned (.bool b) ∧ Below w.heap.size w w':=by
  subst hb
  exact refAct_any C A c a A8 c8 w hr hfl
theorem RAct.far {w w' : World} {A : Option Addr} {xs : List ActL} (h : RAct Any w A xs) (hb : Below w.heap.size w w') : RAct Any w' A xs:=h.below hb
set_option maxHeartbeats 4000000 in
set_option maxRecDepth 100000 in
theorem refused_any (C : CodeL) (A1 : Option Addr) (c1 : Nat) (acts : List ActL) (A : Option Addr) (c : Nat) (a : ActL) (A8 : Option Addr) (c8 : Nat) (w : World) (hC : RArt Any w A1 C.arts) (hn : C.arts.length ≤ 1000000) (hr : RAct Any w A acts) (hna : acts.length ≤ 1000000)
    (hr8 : RI Any w A8 a.facts) (hfl : a.facts.length ≤ 1000000) (hmin : ∀ x ∈ acts,0 ≤ x.minute ∧ x.minute ≤ 10000000) :
    Calls Try.prog 25 #[.agg #[.int .i64 C.cars,.slice A1 C.arts.length c1,.int .i64 C.win,.int .i64 C.sec,.int .i64 C.fee,.int .i64 C.price],.slice A acts.length c,.agg #[.int .i64 a.kind,.int .i64 a.minute,.int .i64 a.paper,.int .i64 a.case_,.int .i64 a.by_,.int .i64 a.against,.int .i64 a.art,.int .i64 a.at_,.slice A8 a.facts.length c8,.int .i64 a.paid,.bool a.up,.int .i64 a.pen]] w fun e w' => e = .returned (.int .i64 (refusedR C acts a)) ∧ Below w.heap.size w w':=by
  have HC:=Aside.mk hC;have HR:=Aside.mk hr;have HR8:=Aside.mk hr8;have HM:=Aside.mk hmin;have h3 : ((w.alloc (.cells #[.int .i64 C.cars,.slice A1 C.arts.length c1,.int .i64 C.win,.int .i64 C.sec,.int .i64 C.fee,.int .i64 C.price] 33)).alloc (.cells #[.int .i64 a.kind,.int .i64 a.minute,.int .i64 a.paper,.int .i64 a.case_,.int .i64 a.by_,.int .i64 a.against,.int .i64 a.art,.int .i64 a.at_,.slice A8 a.facts.length c8,.int .i64 a.paid,.bool a.up,.int .i64 a.pen] 43)).heap[w.heap.size]? = some (.cells #[.int .i64 C.cars,.slice A1 C.arts.length c1,.int .i64 C.win,.int .i64 C.sec,.int .i64 C.fee,.int .i64 C.price] 33 (0,0)):=(Below.heap_alloc _ _ _ (by simp)).trans (heap_alloc_new w _);have h5 : ((w.alloc (.cells #[.int .i64 C.cars,.slice A1 C.arts.length c1,.int .i64 C.win,.int .i64 C.sec,.int .i64 C.fee,.int .i64 C.price] 33)).alloc (.cells #[.int .i64 a.kind,.int .i64 a.minute,.int .i64 a.paper,.int .i64 a.case_,.int .i64 a.by_,.int .i64 a.against,.int .i64 a.art,.int .i64 a.at_,.slice A8 a.facts.length c8,.int .i64 a.paid,.bool a.up,.int .i64 a.pen] 43)).heap[w.heap.size + 1]? = some (.cells #[.int .i64 a.kind,.int .i64 a.minute,.int .i64 a.paper,.int .i64 a.case_,.int .i64 a.by_,.int .i64 a.against,.int .i64 a.art,.int .i64 a.at_,.slice A8 a.facts.length c8,.int .i64 a.paid,.bool a.up,.int .i64 a.pen] 43 (0,0)):=new_at (by simp);have hB : Below w.heap.size w ((w.alloc (.cells #[.int .i64 C.cars,.slice A1 C.arts.length c1,.int .i64 C.win,.int .i64 C.sec,.int .i64 C.fee,.int .i64 C.price] 33)).alloc (.cells #[.int .i64 a.kind,.int .i64 a.minute,.int .i64 a.paper,.int .i64 a.case_,.int .i64 a.by_,.int .i64 a.against,.int .i64 a.art,.int .i64 a.at_,.slice A8 a.facts.length c8,.int .i64 a.paid,.bool a.up,.int .i64 a.pen] 43)):=bel_alloc (bel_alloc (Below.refl _ _) _) _;clear hC hr hr8 hmin
  go_enter Try.func25,Try.ntmps25
  refine wp_abs (n:=193) (ds:=[]) (l:=[(0,.agg #[.int .i64 C.cars,.slice A1 C.arts.length c1,.int .i64 C.win,.int .i64 C.sec,.int .i64 C.fee,.int .i64 C.price]),(1,.slice A acts.length c),(2,.agg #[.int .i64 a.kind,.int .i64 a.minute,.int .i64 a.paper,.int .i64 a.case_,.int .i64 a.by_,.int .i64 a.against,.int .i64 a.art,.int .i64 a.at_,.slice A8 a.facts.length c8,.int .i64 a.paid,.bool a.up,.int .i64 a.pen])]) ?_ ?_
  · refine (((Has.nil ?_ ?_).cons ?_).cons ?_).cons ?_
    all_goals first | rfl | (simp [Act.eval];done)
  intro _ hf;refine wp_seq_k ?_;intro _ _;refine wp_region_lit ?_;refine a_box hf rfl rfl rfl rfl ?_;clear hf;intro _ hf;refine a_box hf rfl rfl rfl rfl ?_;clear hf;intro _ hf;refine a_assign hf rfl rfl rfl ?_;clear hf;intro _ hf;refine wpList_nil ?_;simp only [Exit.then,Exit.inBlock];go_step
  change Code.wp _ _ _ _ ((w.alloc (.cells #[.int .i64 C.cars,.slice A1 C.arts.length c1,.int .i64 C.win,.int .i64 C.sec,.int .i64 C.fee,.int .i64 C.price] 33)).alloc (.cells #[.int .i64 a.kind,.int .i64 a.minute,.int .i64 a.paper,.int .i64 a.case_,.int .i64 a.by_,.int .i64 a.against,.int .i64 a.art,.int .i64 a.at_,.slice A8 a.facts.length c8,.int .i64 a.paid,.bool a.up,.int .i64 a.pen] 43))
  replace hf : Has 193 [] [(1,.slice A acts.length c),(5,.pointer (some ⟨w.heap.size + 1,0,none⟩)),(3,.pointer (some ⟨w.heap.size,0,none⟩))] _:=((hf.nilOf.cons (hf.at_ 3 _ rfl)).cons (d:=5) ((hf.at_ 5 _ rfl).trans (by simp))).cons (hf.at_ 1 _ rfl)
  generalize ((w.alloc (.cells #[.int .i64 C.cars,.slice A1 C.arts.length c1,.int .i64 C.win,.int .i64 C.sec,.int .i64 C.fee,.int .i64 C.price] 33)).alloc (.cells #[.int .i64 a.kind,.int .i64 a.minute,.int .i64 a.paper,.int .i64 a.case_,.int .i64 a.by_,.int .i64 a.against,.int .i64 a.art,.int .i64 a.at_,.slice A8 a.facts.length c8,.int .i64 a.paid,.bool a.up,.int .i64 a.pen] 43)) = W0 at *
  refine wp_seq_k ?_;intro _ _;refine wp_seq_k ?_;intro _ _;refine c_cut (fun a' w' => Has 193 [] [(36,.bool (badR C acts a)),(1,.slice A acts.length c),(5,.pointer (some ⟨w.heap.size + 1,0,none⟩)),(3,.pointer (some ⟨w.heap.size,0,none⟩))] a' ∧ Below W0.heap.size W0 w') ?_ ?_
  · cases hsh : shapedB C.cars a with
    | false =>
      have hbe : badR C acts a = true:=by simp [badR,hsh]
      refine r_quiet (n:=193) (ds:=[]) (ls:=[(1,.slice A acts.length c),(5,.pointer (some ⟨w.heap.size + 1,0,none⟩)),(3,.pointer (some ⟨w.heap.size,0,none⟩))]) (Below W0.heap.size W0) (by kernel_rfl) (by kernel_rfl) (bel_drew (Below.refl _ _)) (((hf.nilOf.cons (hf.at_ 3 _ rfl)).cons (hf.at_ 5 _ rfl)).cons (hf.at_ 1 _ rfl)) ?_;clear hf;intro _ hf;refine q_load33b hf rfl rfl (by exact fun w' hw' => (hw'.block _ (blk_lt h3)).trans h3) rfl ?_;clear hf;intro _ hf;refine q_load43 hf rfl rfl (by exact fun w' hw' => actBox ((hw'.block _ (blk_lt h5)).trans h5)) rfl ?_;clear hf;intro _ hf;refine q_call2 hf e57 rfl rfl rfl rfl (fun w' hw' => (refAct_as C A1 c1 a A8 c8 false hsh w' (HR8.out.below (bel_then hB hw')) hfl).mono fun _ _ h => ⟨h.1,bel_then hw' h.2⟩) ?_;clear hf;intro _ hf;refine q_not hf rfl rfl rfl ?_;clear hf;intro _ hf;refine q_move hf rfl rfl rfl ?_;clear hf;intro _ hf
      (first | refine q_skip hf rfl rfl rfl ?_ | refine q_move hf rfl rfl rfl ?_);clear hf;intro _ hf
      (first | refine q_skip hf rfl rfl rfl ?_ | refine q_len hf rfl rfl rfl rfl ?_);clear hf;intro _ hf
      (first | refine q_skip hf rfl rfl rfl ?_ | refine q_cmp hf rfl rfl rfl rfl rfl rfl rfl ?_);clear hf;intro _ hf
      (first | refine q_skip hf rfl rfl rfl ?_ | refine q_move hf rfl rfl rfl ?_);clear hf;intro _ hf
      (first | refine q_skip hf rfl rfl rfl ?_ | refine q_field hf rfl rfl rfl rfl ?_);clear hf;intro _ hf
      (first | refine q_skip hf rfl rfl rfl ?_ | refine q_load hf rfl rfl rfl (by exact fun w' hw' => blk_cell ((hw'.block _ (blk_lt h5)).trans h5) 1) rfl ?_);clear hf;intro _ hf
      (first | refine q_skip hf rfl rfl rfl ?_ | refine q_move hf rfl rfl rfl ?_);clear hf;intro _ hf
      (first | refine q_skip hf rfl rfl rfl ?_ | refine q_move hf rfl rfl rfl ?_);clear hf;intro _ hf
      (first | refine q_skip hf rfl rfl rfl ?_ | refine q_len hf rfl rfl rfl rfl ?_);clear hf;intro _ hf
      (first | refine q_skip hf rfl rfl rfl ?_ | refine q_ar hf rfl rfl rfl rfl (by (try dsimp only);omega) rfl ?_);clear hf;intro _ hf
      refine q_skip hf rfl rfl rfl ?_;clear hf;intro _ hf
      (first | refine q_skip hf rfl rfl rfl ?_ | refine q_field hf rfl rfl rfl rfl ?_);clear hf;intro _ hf
      (first | refine q_skip hf rfl rfl rfl ?_ | refine q_load hf rfl rfl rfl (by exact fun w' hw' => (hw'.cell (p:=⟨(ad.add ((acts.length - 1) * 12)).block,(ad.add ((acts.length - 1) * 12)).off + 1,none⟩) (lt_of_cell g1)).trans g1) rfl ?_);clear hf;intro _ hf
      (first | refine q_skip hf rfl rfl rfl ?_ | refine q_cmp hf rfl rfl rfl rfl rfl rfl rfl ?_);clear hf;intro _ hf
      (first | refine q_skip hf rfl rfl rfl ?_ | refine q_pickT hf rfl rfl rfl rfl ?_ | refine q_pickF hf rfl rfl rfl rfl ?_);clear hf;intro _ hf
      (first | refine q_pickT hf rfl rfl rfl rfl ?_ | refine q_pickF hf rfl rfl rfl rfl ?_);clear hf;intro _ hf
      refine q_nil ?_;intro w9 hw9;exact ⟨rfl,(((hf.nilOf.cons (hf.at_ 3 _ rfl)).cons (hf.at_ 5 _ rfl)).cons (hf.at_ 1 _ rfl)).cons (d:=36) ((hf.at_ 36 _ rfl).trans (by rw [hbe])),hw9⟩
    | true =>
      cases hla : acts.getLast? with
      | none =>
        have hbe : badR C acts a = false:=by simp [badR,hsh,lateB,hla]
        have hl0 : acts.length = 0:=by rw [List.getLast?_eq_none_iff] at hla;rw [hla];rfl
        refine r_quiet (n:=193) (ds:=[]) (ls:=[(1,.slice A acts.length c),(5,.pointer (some ⟨w.heap.size + 1,0,none⟩)),(3,.pointer (some ⟨w.heap.size,0,none⟩))]) (Below W0.heap.size W0) (by kernel_rfl) (by kernel_rfl) (bel_drew (Below.refl _ _)) (((hf.nilOf.cons (hf.at_ 3 _ rfl)).cons (hf.at_ 5 _ rfl)).cons (hf.at_ 1 _ rfl)) ?_;clear hf;intro _ hf;refine q_load33b hf rfl rfl (by exact fun w' hw' => (hw'.block _ (blk_lt h3)).trans h3) rfl ?_;clear hf;intro _ hf;refine q_load43 hf rfl rfl (by exact fun w' hw' => actBox ((hw'.block _ (blk_lt h5)).trans h5)) rfl ?_;clear hf;intro _ hf;refine q_call2 hf e57 rfl rfl rfl rfl (fun w' hw' => (refAct_as C A1 c1 a A8 c8 true hsh w' (HR8.out.below (bel_then hB hw')) hfl).mono fun _ _ h => ⟨h.1,bel_then hw' h.2⟩) ?_;clear hf;intro _ hf;refine q_not hf rfl rfl rfl ?_;clear hf;intro _ hf;refine q_move hf rfl rfl rfl ?_;clear hf;intro _ hf
        (first | refine q_skip hf rfl rfl rfl ?_ | refine q_move hf rfl rfl rfl ?_);clear hf;intro _ hf
        (first | refine q_skip hf rfl rfl rfl ?_ | refine q_len hf rfl rfl rfl rfl ?_);clear hf;intro _ hf
        (first | refine q_skip hf rfl rfl rfl ?_ | refine q_cmp (b:=false) hf rfl rfl rfl rfl rfl (by first | assumption | ((try dsimp only);simp only [bq1,bq2,bq3,bq4,bq5,bq6,bq7] <;> omega)) rfl ?_);clear hf;intro _ hf
        (first | refine q_skip hf rfl rfl rfl ?_ | refine q_move hf rfl rfl rfl ?_);clear hf;intro _ hf
        (first | refine q_skip hf rfl rfl rfl ?_ | refine q_field hf rfl rfl rfl rfl ?_);clear hf;intro _ hf
        (first | refine q_skip hf rfl rfl rfl ?_ | refine q_load hf rfl rfl rfl (by exact fun w' hw' => blk_cell ((hw'.block _ (blk_lt h5)).trans h5) 1) rfl ?_);clear hf;intro _ hf
        (first | refine q_skip hf rfl rfl rfl ?_ | refine q_move hf rfl rfl rfl ?_);clear hf;intro _ hf
        (first | refine q_skip hf rfl rfl rfl ?_ | refine q_move hf rfl rfl rfl ?_);clear hf;intro _ hf
        (first | refine q_skip hf rfl rfl rfl ?_ | refine q_len hf rfl rfl rfl rfl ?_);clear hf;intro _ hf
        (first | refine q_skip hf rfl rfl rfl ?_ | refine q_ar hf rfl rfl rfl rfl (by (try dsimp only);omega) rfl ?_);clear hf;intro _ hf
        refine q_skip hf rfl rfl rfl ?_;clear hf;intro _ hf
        (first | refine q_skip hf rfl rfl rfl ?_ | refine q_field hf rfl rfl rfl rfl ?_);clear hf;intro _ hf
        (first | refine q_skip hf rfl rfl rfl ?_ | refine q_load hf rfl rfl rfl (by exact fun w' hw' => (hw'.cell (p:=⟨(ad.add ((acts.length - 1) * 12)).block,(ad.add ((acts.length - 1) * 12)).off + 1,none⟩) (lt_of_cell g1)).trans g1) rfl ?_);clear hf;intro _ hf
        (first | refine q_skip hf rfl rfl rfl ?_ | refine q_cmp hf rfl rfl rfl rfl rfl rfl rfl ?_);clear hf;intro _ hf
        (first | refine q_skip hf rfl rfl rfl ?_ | refine q_pickT hf rfl rfl rfl rfl ?_ | refine q_pickF hf rfl rfl rfl rfl ?_);clear hf;intro _ hf
        (first | refine q_pickT hf rfl rfl rfl rfl ?_ | refine q_pickF hf rfl rfl rfl rfl ?_);clear hf;intro _ hf
        refine q_nil ?_;intro w9 hw9;exact ⟨rfl,(((hf.nilOf.cons (hf.at_ 3 _ rfl)).cons (hf.at_ 5 _ rfl)).cons (hf.at_ 1 _ rfl)).cons (d:=36) ((hf.at_ 36 _ rfl).trans (by rw [hbe])),hw9⟩
      | some y =>
        have hly : acts[acts.length - 1]? = some y:=by rw [← List.getLast?_eq_getElem?];exact hla
        have hlp : 0 < acts.length:=by have:=(List.getElem?_eq_some_iff.1 hly).1;omega
        obtain ⟨ad,B9,d9,rfl,_,ha⟩:=(HR.out.below hB) _ y hly
        have g1:=ha.2.1;clear ha
        by_cases hlt : a.minute < y.minute
        · have hbe : badR C acts a = true:=by simp [badR,hsh,lateB,hla,hlt]
          refine r_quiet (n:=193) (ds:=[]) (ls:=[(1,.slice (some ad) acts.length c),(5,.pointer (some ⟨w.heap.size + 1,0,none⟩)),(3,.pointer (some ⟨w.heap.size,0,none⟩))]) (Below W0.heap.size W0) (by kernel_rfl) (by kernel_rfl) (bel_drew (Below.refl _ _)) (((hf.nilOf.cons (hf.at_ 3 _ rfl)).cons (hf.at_ 5 _ rfl)).cons (hf.at_ 1 _ rfl)) ?_;clear hf;intro _ hf;refine q_load33b hf rfl rfl (by exact fun w' hw' => (hw'.block _ (blk_lt h3)).trans h3) rfl ?_;clear hf;intro _ hf;refine q_load43 hf rfl rfl (by exact fun w' hw' => actBox ((hw'.block _ (blk_lt h5)).trans h5)) rfl ?_;clear hf;intro _ hf;refine q_call2 hf e57 rfl rfl rfl rfl (fun w' hw' => (refAct_as C A1 c1 a A8 c8 true hsh w' (HR8.out.below (bel_then hB hw')) hfl).mono fun _ _ h => ⟨h.1,bel_then hw' h.2⟩) ?_;clear hf;intro _ hf;refine q_not hf rfl rfl rfl ?_;clear hf;intro _ hf;refine q_move hf rfl rfl rfl ?_;clear hf;intro _ hf
          (first | refine q_skip hf rfl rfl rfl ?_ | refine q_move hf rfl rfl rfl ?_);clear hf;intro _ hf
          (first | refine q_skip hf rfl rfl rfl ?_ | refine q_len hf rfl rfl rfl rfl ?_);clear hf;intro _ hf
          (first | refine q_skip hf rfl rfl rfl ?_ | refine q_cmp (b:=true) hf rfl rfl rfl rfl rfl (by first | assumption | ((try dsimp only);simp only [bq1,bq2,bq3,bq4,bq5,bq6,bq7] <;> omega)) rfl ?_);clear hf;intro _ hf
          (first | refine q_skip hf rfl rfl rfl ?_ | refine q_move hf rfl rfl rfl ?_);clear hf;intro _ hf
          (first | refine q_skip hf rfl rfl rfl ?_ | refine q_field hf rfl rfl rfl rfl ?_);clear hf;intro _ hf
          (first | refine q_skip hf rfl rfl rfl ?_ | refine q_load hf rfl rfl rfl (by exact fun w' hw' => blk_cell ((hw'.block _ (blk_lt h5)).trans h5) 1) rfl ?_);clear hf;intro _ hf
          (first | refine q_skip hf rfl rfl rfl ?_ | refine q_move hf rfl rfl rfl ?_);clear hf;intro _ hf
          (first | refine q_skip hf rfl rfl rfl ?_ | refine q_move hf rfl rfl rfl ?_);clear hf;intro _ hf
          (first | refine q_skip hf rfl rfl rfl ?_ | refine q_len hf rfl rfl rfl rfl ?_);clear hf;intro _ hf
          (first | refine q_skip hf rfl rfl rfl ?_ | refine q_ar hf rfl rfl rfl rfl (by (try dsimp only);omega) rfl ?_);clear hf;intro _ hf
          refine q_index (j:=acts.length - 1) hf rfl rfl rfl rfl (by omega) (by omega) rfl ?_;clear hf;intro _ hf
          (first | refine q_skip hf rfl rfl rfl ?_ | refine q_field hf rfl rfl rfl rfl ?_);clear hf;intro _ hf
          (first | refine q_skip hf rfl rfl rfl ?_ | refine q_load hf rfl rfl rfl (by exact fun w' hw' => (hw'.cell (p:=⟨(ad.add ((acts.length - 1) * 12)).block,(ad.add ((acts.length - 1) * 12)).off + 1,none⟩) (lt_of_cell g1)).trans g1) rfl ?_);clear hf;intro _ hf
          (first | refine q_skip hf rfl rfl rfl ?_ | refine q_cmp (b:=true) hf rfl rfl rfl rfl rfl (by first | assumption | ((try dsimp only);simp only [bq1,bq2,bq3,bq4,bq5,bq6,bq7] <;> omega)) rfl ?_);clear hf;intro _ hf
          (first | refine q_skip hf rfl rfl rfl ?_ | refine q_pickT hf rfl rfl rfl rfl ?_ | refine q_pickF hf rfl rfl rfl rfl ?_);clear hf;intro _ hf
          (first | refine q_pickT hf rfl rfl rfl rfl ?_ | refine q_pickF hf rfl rfl rfl rfl ?_);clear hf;intro _ hf
          refine q_nil ?_;intro w9 hw9;exact ⟨rfl,(((hf.nilOf.cons (hf.at_ 3 _ rfl)).cons (hf.at_ 5 _ rfl)).cons (hf.at_ 1 _ rfl)).cons (d:=36) ((hf.at_ 36 _ rfl).trans (by rw [hbe])),hw9⟩
        · have hbe : badR C acts a = false:=by simp [badR,hsh,lateB,hla,hlt]
          refine r_quiet (n:=193) (ds:=[]) (ls:=[(1,.slice (some ad) acts.length c),(5,.pointer (some ⟨w.heap.size + 1,0,none⟩)),(3,.pointer (some ⟨w.heap.size,0,none⟩))]) (Below W0.heap.size W0) (by kernel_rfl) (by kernel_rfl) (bel_drew (Below.refl _ _)) (((hf.nilOf.cons (hf.at_ 3 _ rfl)).cons (hf.at_ 5 _ rfl)).cons (hf.at_ 1 _ rfl)) ?_;clear hf;intro _ hf;refine q_load33b hf rfl rfl (by exact fun w' hw' => (hw'.block _ (blk_lt h3)).trans h3) rfl ?_;clear hf;intro _ hf;refine q_load43 hf rfl rfl (by exact fun w' hw' => actBox ((hw'.block _ (blk_lt h5)).trans h5)) rfl ?_;clear hf;intro _ hf;refine q_call2 hf e57 rfl rfl rfl rfl (fun w' hw' => (refAct_as C A1 c1 a A8 c8 true hsh w' (HR8.out.below (bel_then hB hw')) hfl).mono fun _ _ h => ⟨h.1,bel_then hw' h.2⟩) ?_;clear hf;intro _ hf;refine q_not hf rfl rfl rfl ?_;clear hf;intro _ hf;refine q_move hf rfl rfl rfl ?_;clear hf;intro _ hf
          (first | refine q_skip hf rfl rfl rfl ?_ | refine q_move hf rfl rfl rfl ?_);clear hf;intro _ hf
          (first | refine q_skip hf rfl rfl rfl ?_ | refine q_len hf rfl rfl rfl rfl ?_);clear hf;intro _ hf
          (first | refine q_skip hf rfl rfl rfl ?_ | refine q_cmp (b:=true) hf rfl rfl rfl rfl rfl (by first | assumption | ((try dsimp only);simp only [bq1,bq2,bq3,bq4,bq5,bq6,bq7] <;> omega)) rfl ?_);clear hf;intro _ hf
          (first | refine q_skip hf rfl rfl rfl ?_ | refine q_move hf rfl rfl rfl ?_);clear hf;intro _ hf
          (first | refine q_skip hf rfl rfl rfl ?_ | refine q_field hf rfl rfl rfl rfl ?_);clear hf;intro _ hf
          (first | refine q_skip hf rfl rfl rfl ?_ | refine q_load hf rfl rfl rfl (by exact fun w' hw' => blk_cell ((hw'.block _ (blk_lt h5)).trans h5) 1) rfl ?_);clear hf;intro _ hf
          (first | refine q_skip hf rfl rfl rfl ?_ | refine q_move hf rfl rfl rfl ?_);clear hf;intro _ hf
          (first | refine q_skip hf rfl rfl rfl ?_ | refine q_move hf rfl rfl rfl ?_);clear hf;intro _ hf
          (first | refine q_skip hf rfl rfl rfl ?_ | refine q_len hf rfl rfl rfl rfl ?_);clear hf;intro _ hf
          (first | refine q_skip hf rfl rfl rfl ?_ | refine q_ar hf rfl rfl rfl rfl (by (try dsimp only);omega) rfl ?_);clear hf;intro _ hf
          refine q_index (j:=acts.length - 1) hf rfl rfl rfl rfl (by omega) (by omega) rfl ?_;clear hf;intro _ hf
          (first | refine q_skip hf rfl rfl rfl ?_ | refine q_field hf rfl rfl rfl rfl ?_);clear hf;intro _ hf
          (first | refine q_skip hf rfl rfl rfl ?_ | refine q_load hf rfl rfl rfl (by exact fun w' hw' => (hw'.cell (p:=⟨(ad.add ((acts.length - 1) * 12)).block,(ad.add ((acts.length - 1) * 12)).off + 1,none⟩) (lt_of_cell g1)).trans g1) rfl ?_);clear hf;intro _ hf
          (first | refine q_skip hf rfl rfl rfl ?_ | refine q_cmp (b:=false) hf rfl rfl rfl rfl rfl (by first | assumption | ((try dsimp only);simp only [bq1,bq2,bq3,bq4,bq5,bq6,bq7] <;> omega)) rfl ?_);clear hf;intro _ hf
          (first | refine q_skip hf rfl rfl rfl ?_ | refine q_pickT hf rfl rfl rfl rfl ?_ | refine q_pickF hf rfl rfl rfl rfl ?_);clear hf;intro _ hf
          (first | refine q_pickT hf rfl rfl rfl rfl ?_ | refine q_pickF hf rfl rfl rfl rfl ?_);clear hf;intro _ hf
          refine q_nil ?_;intro w9 hw9;exact ⟨rfl,(((hf.nilOf.cons (hf.at_ 3 _ rfl)).cons (hf.at_ 5 _ rfl)).cons (hf.at_ 1 _ rfl)).cons (d:=36) ((hf.at_ 36 _ rfl).trans (by rw [hbe])),hw9⟩
  rintro _ w1 ⟨hf,hb1⟩
  simp only [Exit.then];replace h3:=(hb1.block _ (blk_lt h3)).trans h3;replace h5:=(hb1.block _ (blk_lt h5)).trans h5;replace hB:=bel_then hB hb1;clear hb1 W0;go_step
  cases hbad : badR C acts a with
  | true =>
    rw [hbad] at hf;have HE:=Aside.mk (show refusedR C acts a = 2 by simp [refusedR,hbad]);refine c_condT hf rfl ?_;refine wp_seq_k ?_;intro _ _;refine wp_region_lit ?_;refine a_assign hf rfl rfl rfl ?_;clear hf;intro _ hf;refine wpList_nil ?_;simp only [Exit.then,Exit.inBlock];go_step;refine wp_ret ?_
    try simp only [Exit.then,Exit.inBlock]
    exact c_ret hf rfl rfl ⟨ret_eq (by rw [HE.out]),hB⟩
  | false =>
    rw [hbad] at hf;have hshp : shapedB C.cars a = true:=by simp only [badR,Bool.or_eq_false_iff,Bool.not_eq_false'] at hbad;exact hbad.1
    obtain ⟨⟨hk1,hk6⟩,hm0,hm1,hcase⟩:=shaped_facts hshp
    refine c_condF hf rfl ?_;refine wp_skip ?_;simp only [Exit.then,Exit.inBlock];go_step;refine wp_seq_k ?_;intro _ _;refine wp_seq_k ?_;intro _ _
    by_cases h2000 : 2000 ≤ acts.length
    · have HE:=Aside.mk (show refusedR C acts a = 4 by simp [refusedR,hbad,h2000])
      refine wp_region_lit ?_;refine a_move hf rfl rfl rfl ?_;clear hf;intro _ hf;refine a_len hf rfl rfl rfl rfl ?_;clear hf;intro _ hf;refine a_cmp (b:=true) hf rfl rfl rfl rfl rfl (by first | assumption | ((try dsimp only);simp only [bq1,bq2,bq3,bq4,bq5,bq6,bq7] <;> omega)) rfl ?_;clear hf;intro _ hf;refine wpList_nil ?_;simp only [Exit.then,Exit.inBlock];go_step;refine c_condT hf rfl ?_;refine wp_seq_k ?_;intro _ _;refine wp_region_lit ?_;refine a_assign hf rfl rfl rfl ?_;clear hf;intro _ hf;refine wpList_nil ?_;simp only [Exit.then,Exit.inBlock];go_step;refine wp_ret ?_
      try simp only [Exit.then,Exit.inBlock]
      exact c_ret hf rfl rfl ⟨ret_eq (by rw [HE.out]),hB⟩
    refine wp_region_lit ?_;refine a_move hf rfl rfl rfl ?_;clear hf;intro _ hf;refine a_len hf rfl rfl rfl rfl ?_;clear hf;intro _ hf;refine a_cmp (b:=false) hf rfl rfl rfl rfl rfl (by first | assumption | ((try dsimp only);simp only [bq1,bq2,bq3,bq4,bq5,bq6,bq7] <;> omega)) rfl ?_;clear hf;intro _ hf;refine wpList_nil ?_;simp only [Exit.then,Exit.inBlock];go_step;refine c_condF hf rfl ?_;refine wp_skip ?_;simp only [Exit.then,Exit.inBlock];go_step;refine wp_seq_k ?_;intro _ _;refine wp_seq_k ?_;intro _ _
    by_cases q1 : a.kind = 1
    · refine wp_region_lit ?_
      refine a_field hf rfl rfl rfl rfl ?_;clear hf;intro _ hf;refine a_load hf rfl rfl rfl (by exact blk_cell h5 0) rfl ?_;clear hf;intro _ hf;refine a_cmp (b:=true) hf rfl rfl rfl rfl rfl (by first | assumption | ((try dsimp only);simp only [bq1,bq2,bq3,bq4,bq5,bq6,bq7] <;> omega)) rfl ?_;clear hf;intro _ hf;refine wpList_nil ?_;simp only [Exit.then,Exit.inBlock];go_step;refine c_condT hf rfl ?_;refine wp_seq_k ?_;intro _ _;refine wp_seq_k ?_;intro _ _
      by_cases qp : 0 ≤ pubGo a.paper acts 0
      · have HE:=Aside.mk (show refusedR C acts a = 6 by simp [refusedR,hbad,h2000,q1,qp])
        refine wp_region_lit ?_;refine a_move hf rfl rfl rfl ?_;clear hf;intro _ hf;refine a_field hf rfl rfl rfl rfl ?_;clear hf;intro _ hf;refine a_load hf rfl rfl rfl (by exact blk_cell h5 2) rfl ?_;clear hf;intro _ hf;refine a_call2 hf e58 rfl rfl rfl rfl ?_;clear hf;refine (refPub_any A c acts a.paper _ (HR.out.below hB) hna).mono ?_;rintro _ w2 ⟨rfl,hb⟩;replace h3:=(hb.block _ (blk_lt h3)).trans h3;replace h5:=(hb.block _ (blk_lt h5)).trans h5;replace hB:=bel_then hB hb;clear hb;intro _ hf;refine a_cmp (b:=true) hf rfl rfl rfl rfl rfl (by first | assumption | ((try dsimp only);simp only [bq1,bq2,bq3,bq4,bq5,bq6,bq7] <;> omega)) rfl ?_;clear hf;intro _ hf;refine wpList_nil ?_;simp only [Exit.then,Exit.inBlock];go_step;refine c_condT hf rfl ?_;refine wp_seq_k ?_;intro _ _;refine wp_region_lit ?_;refine a_assign hf rfl rfl rfl ?_;clear hf;intro _ hf;refine wpList_nil ?_;simp only [Exit.then,Exit.inBlock];go_step;refine wp_ret ?_
        try simp only [Exit.then,Exit.inBlock]
        exact c_ret hf rfl rfl ⟨ret_eq (by rw [HE.out]),hB⟩
      · have HE:=Aside.mk (show refusedR C acts a = 0 by simp [refusedR,hbad,h2000,q1,qp])
        refine wp_region_lit ?_;refine a_move hf rfl rfl rfl ?_;clear hf;intro _ hf;refine a_field hf rfl rfl rfl rfl ?_;clear hf;intro _ hf;refine a_load hf rfl rfl rfl (by exact blk_cell h5 2) rfl ?_;clear hf;intro _ hf;refine a_call2 hf e58 rfl rfl rfl rfl ?_;clear hf;refine (refPub_any A c acts a.paper _ (HR.out.below hB) hna).mono ?_;rintro _ w2 ⟨rfl,hb⟩;replace h3:=(hb.block _ (blk_lt h3)).trans h3;replace h5:=(hb.block _ (blk_lt h5)).trans h5;replace hB:=bel_then hB hb;clear hb;intro _ hf;refine a_cmp (b:=false) hf rfl rfl rfl rfl rfl (by first | assumption | ((try dsimp only);simp only [bq1,bq2,bq3,bq4,bq5,bq6,bq7] <;> omega)) rfl ?_;clear hf;intro _ hf;refine wpList_nil ?_;simp only [Exit.then,Exit.inBlock];go_step;refine c_condF hf rfl ?_;refine wp_skip ?_;simp only [Exit.then,Exit.inBlock];go_step;refine wp_seq_k ?_;intro _ _;refine wp_region_lit ?_;refine a_assign hf rfl rfl rfl ?_;clear hf;intro _ hf;refine wpList_nil ?_;simp only [Exit.then,Exit.inBlock];go_step;refine wp_ret ?_
        try simp only [Exit.then,Exit.inBlock]
        exact c_ret hf rfl rfl ⟨ret_eq (by rw [HE.out]),hB⟩
    refine wp_region_lit ?_;refine a_field hf rfl rfl rfl rfl ?_;clear hf;intro _ hf;refine a_load hf rfl rfl rfl (by exact blk_cell h5 0) rfl ?_;clear hf;intro _ hf;refine a_cmp (b:=false) hf rfl rfl rfl rfl rfl (by first | assumption | ((try dsimp only);simp only [bq1,bq2,bq3,bq4,bq5,bq6,bq7] <;> omega)) rfl ?_;clear hf;intro _ hf;refine wpList_nil ?_;simp only [Exit.then,Exit.inBlock];go_step;refine c_condF hf rfl ?_;refine wp_skip ?_;simp only [Exit.then,Exit.inBlock];go_step;refine wp_seq_k ?_;intro _ _;refine wp_seq_k ?_;intro _ _
    by_cases q2 : a.kind = 2
    · have HRE:=Aside.mk (show refusedR C acts a = refPub C acts a by simp [refusedR,hbad,h2000,q2])
      refine wp_region_lit ?_;refine a_field hf rfl rfl rfl rfl ?_;clear hf;intro _ hf;refine a_load hf rfl rfl rfl (by exact blk_cell h5 0) rfl ?_;clear hf;intro _ hf;refine a_cmp (b:=true) hf rfl rfl rfl rfl rfl (by first | assumption | ((try dsimp only);simp only [bq1,bq2,bq3,bq4,bq5,bq6,bq7] <;> omega)) rfl ?_;clear hf;intro _ hf;refine wpList_nil ?_;simp only [Exit.then,Exit.inBlock];go_step;refine c_condT hf rfl ?_;refine wp_seq_k ?_;intro _ _;refine wp_region_lit ?_;refine a_move hf rfl rfl rfl ?_;clear hf;intro _ hf;refine a_field hf rfl rfl rfl rfl ?_;clear hf;intro _ hf;refine a_load hf rfl rfl rfl (by exact blk_cell h5 2) rfl ?_;clear hf;intro _ hf;refine a_call2 hf e58 rfl rfl rfl rfl ?_;clear hf;refine (refPub_any A c acts a.paper _ (HR.out.below hB) hna).mono ?_;rintro _ w2 ⟨rfl,hb⟩;replace h3:=(hb.block _ (blk_lt h3)).trans h3;replace h5:=(hb.block _ (blk_lt h5)).trans h5;replace hB:=bel_then hB hb;clear hb;intro _ hf;refine a_assign hf rfl rfl rfl ?_;clear hf;intro _ hf;refine wpList_nil ?_;simp only [Exit.then,Exit.inBlock];go_step;refine wp_seq_k ?_;intro _ _;refine wp_seq_k ?_;intro _ _;refine wp_region_lit ?_;refine a_load33b hf rfl rfl (by exact h3) rfl ?_;clear hf;intro _ hf;refine a_field hf rfl rfl rfl rfl ?_;clear hf;intro _ hf;refine a_load hf rfl rfl rfl (by exact blk_cell h5 6) rfl ?_;clear hf;intro _ hf;refine a_field hf rfl rfl rfl rfl ?_;clear hf;intro _ hf;refine a_load hf rfl rfl rfl (by exact blk_cell h5 7) rfl ?_;clear hf;intro _ hf;refine a_call3 hf e40 rfl rfl rfl rfl rfl ?_;clear hf;refine (refVersion_any C A1 c1 a.art a.at_ _ (HC.out.below hB) hn).mono ?_;rintro _ w2 ⟨rfl,hb⟩;replace h3:=(hb.block _ (blk_lt h3)).trans h3;replace h5:=(hb.block _ (blk_lt h5)).trans h5;replace hB:=bel_then hB hb;clear hb;intro _ hf;refine a_move hf rfl rfl rfl ?_;clear hf;intro _ hf;refine a_extract hf rfl rfl rfl rfl ?_;clear hf;intro _ hf;refine a_extract hf rfl rfl rfl rfl ?_;clear hf;intro _ hf;refine a_alloc71 hf rfl rfl ?_;clear hf;intro _ hf;refine a_store71 (X:=(verO C.arts a.art a.at_).getD zeroArt) hf rfl rfl rfl (heap_alloc_new w2 _) rfl ?_;clear hf;intro _ w3 hf h8 hM;refine a_assign hf rfl rfl rfl ?_;clear hf;intro _ hf;refine wpList_nil ?_;simp only [Exit.then,Exit.inBlock];go_step;have hb3 : Below w2.heap.size w2 w3:=bel_modG (bel_alloc (Below.refl _ _) _) hM (Nat.le_refl _);replace h3:=(hb3.block _ (blk_lt h3)).trans h3;replace h5:=(hb3.block _ (blk_lt h5)).trans h5;replace hB:=bel_then hB hb3;clear hM hb3 h8;replace hf : Has 193 [] [(9,.bool (verO C.arts a.art a.at_).isSome),(7,.int .i64 (pubGo a.paper acts 0)),(1,.slice A acts.length c),(5,.pointer (some ⟨w.heap.size + 1,0,none⟩)),(3,.pointer (some ⟨w.heap.size,0,none⟩))] _:=((((hf.nilOf.cons (hf.at_ 3 _ rfl)).cons (hf.at_ 5 _ rfl)).cons (hf.at_ 1 _ rfl)).cons (hf.at_ 7 _ rfl)).cons (hf.at_ 9 _ rfl)
      obtain ⟨pg,hpg⟩ : ∃ pg,pubGo a.paper acts 0 = pg:=⟨_,rfl⟩
      obtain ⟨vo,hvo⟩ : ∃ vo,verO C.arts a.art a.at_ = vo:=⟨_,rfl⟩
      have hpa:=pub_at a.paper acts 0;rw [hpg,hvo] at hf;rw [hpg] at hpa;refine wp_seq_k ?_;intro _ _
      by_cases qp : pg < 0
      · have HE:=Aside.mk (show refusedR C acts a = 5 by rw [HRE.out];simp [refPub,hpg,qp])
        refine wp_region_lit ?_;refine a_move hf rfl rfl rfl ?_;clear hf;intro _ hf;refine a_cmp (b:=true) hf rfl rfl rfl rfl rfl (by first | assumption | ((try dsimp only);simp only [bq1,bq2,bq3,bq4,bq5,bq6,bq7] <;> omega)) rfl ?_;clear hf;intro _ hf;refine a_move hf rfl rfl rfl ?_;clear hf;intro _ hf
        (first | refine a_not hf rfl rfl rfl ?_ | refine a_move hf rfl rfl rfl ?_);clear hf;intro _ hf
        (first | refine a_not hf rfl rfl rfl ?_ | refine a_not_ hf rfl rfl rfl ?_);clear hf;intro _ hf
        (first | refine a_pickT hf rfl rfl rfl rfl ?_ | refine a_pickF hf rfl rfl rfl rfl ?_);clear hf;intro _ hf
        refine wpList_nil ?_;simp only [Exit.then,Exit.inBlock];go_step;refine c_condT hf rfl ?_;refine wp_seq_k ?_;intro _ _;refine wp_region_lit ?_;refine a_assign hf rfl rfl rfl ?_;clear hf;intro _ hf;refine wpList_nil ?_;simp only [Exit.then,Exit.inBlock];go_step;refine wp_ret ?_
        try simp only [Exit.then,Exit.inBlock]
        exact c_ret hf rfl rfl ⟨ret_eq (by rw [HE.out]),hB⟩
      cases vo with
      | none =>
        have HE:=Aside.mk (show refusedR C acts a = 5 by rw [HRE.out];simp [refPub,hpg,qp,hvo]);refine wp_region_lit ?_;refine a_move hf rfl rfl rfl ?_;clear hf;intro _ hf;refine a_cmp (b:=false) hf rfl rfl rfl rfl rfl (by first | assumption | ((try dsimp only);simp only [bq1,bq2,bq3,bq4,bq5,bq6,bq7] <;> omega)) rfl ?_;clear hf;intro _ hf;refine a_move hf rfl rfl rfl ?_;clear hf;intro _ hf
        (first | refine a_not hf rfl rfl rfl ?_ | refine a_move hf rfl rfl rfl ?_);clear hf;intro _ hf
        (first | refine a_not hf rfl rfl rfl ?_ | refine a_not_ hf rfl rfl rfl ?_);clear hf;intro _ hf
        (first | refine a_pickT hf rfl rfl rfl rfl ?_ | refine a_pickF hf rfl rfl rfl rfl ?_);clear hf;intro _ hf
        refine wpList_nil ?_;simp only [Exit.then,Exit.inBlock];go_step;refine c_condT hf rfl ?_;refine wp_seq_k ?_;intro _ _;refine wp_region_lit ?_;refine a_assign hf rfl rfl rfl ?_;clear hf;intro _ hf;refine wpList_nil ?_;simp only [Exit.then,Exit.inBlock];go_step;refine wp_ret ?_
        try simp only [Exit.then,Exit.inBlock]
        exact c_ret hf rfl rfl ⟨ret_eq (by rw [HE.out]),hB⟩
      | some v =>
        refine wp_region_lit ?_;refine a_move hf rfl rfl rfl ?_;clear hf;intro _ hf;refine a_cmp (b:=false) hf rfl rfl rfl rfl rfl (by first | assumption | ((try dsimp only);simp only [bq1,bq2,bq3,bq4,bq5,bq6,bq7] <;> omega)) rfl ?_;clear hf;intro _ hf;refine a_move hf rfl rfl rfl ?_;clear hf;intro _ hf
        (first | refine a_not hf rfl rfl rfl ?_ | refine a_move hf rfl rfl rfl ?_);clear hf;intro _ hf
        (first | refine a_not hf rfl rfl rfl ?_ | refine a_not_ hf rfl rfl rfl ?_);clear hf;intro _ hf
        (first | refine a_pickT hf rfl rfl rfl rfl ?_ | refine a_pickF hf rfl rfl rfl rfl ?_);clear hf;intro _ hf
        refine wpList_nil ?_;simp only [Exit.then,Exit.inBlock];go_step;refine c_condF hf rfl ?_;refine wp_skip ?_;simp only [Exit.then,Exit.inBlock];go_step
        obtain ⟨pn,y,hy,hpn,_,_⟩ : ∃ (pn : Nat) (y : ActL),acts[pn]? = some y ∧ pg = 0 + pn ∧ y.kind = 1 ∧ y.paper = a.paper:=by
          rcases hpa with h | h
          · omega
          · exact h
        have hym:=HM.out y (List.mem_of_getElem? hy);have hya:=actAt_some (i:=pg) (by omega) hy;have hyl:=(List.getElem?_eq_some_iff.1 hy).1
        obtain ⟨ad,B9,d9,rfl,_,ha⟩:=(HR.out.below hB) _ y hy
        have g1:=ha.2.1;have hwin : C.win = C.win:=rfl;clear ha hpa;refine wp_seq_k ?_;intro _ _;refine wp_seq_k ?_;intro _ _
        by_cases qw : C.win < a.minute - y.minute
        · have HE:=Aside.mk (show refusedR C acts a = 8 by rw [HRE.out];simp [refPub,hpg,qp,hvo,hya,qw])
          refine r_quiet (n:=193) (ds:=[]) (ls:=[(7,.int .i64 pg),(1,.slice (some ad) acts.length c),(5,.pointer (some ⟨w.heap.size + 1,0,none⟩)),(3,.pointer (some ⟨w.heap.size,0,none⟩))]) (Below w3.heap.size w3) (by kernel_rfl) (by kernel_rfl) (bel_drew (Below.refl _ _)) ((((hf.nilOf.cons (hf.at_ 3 _ rfl)).cons (hf.at_ 5 _ rfl)).cons (hf.at_ 1 _ rfl)).cons (hf.at_ 7 _ rfl)) ?_;clear hf;intro _ hf;refine q_field hf rfl rfl rfl rfl ?_;clear hf;intro _ hf;refine q_load hf rfl rfl rfl (by exact fun w' hw' => blk_cell ((hw'.block _ (blk_lt h5)).trans h5) 1) rfl ?_;clear hf;intro _ hf;refine q_move hf rfl rfl rfl ?_;clear hf;intro _ hf;refine q_move hf rfl rfl rfl ?_;clear hf;intro _ hf;refine q_index (j:=pn) hf rfl rfl rfl rfl (by omega) (by omega) rfl ?_;clear hf;intro _ hf;refine q_field hf rfl rfl rfl rfl ?_;clear hf;intro _ hf;refine q_load hf rfl rfl rfl (by exact fun w' hw' => (hw'.cell (p:=⟨(ad.add (pn * 12)).block,(ad.add (pn * 12)).off + 1,none⟩) (lt_of_cell g1)).trans g1) rfl ?_;clear hf;intro _ hf;refine q_ar hf rfl rfl rfl rfl (by (try dsimp only);omega) rfl ?_;clear hf;intro _ hf;refine q_field hf rfl rfl rfl rfl ?_;clear hf;intro _ hf;refine q_load hf rfl rfl rfl (by exact fun w' hw' => blk_cell ((hw'.block _ (blk_lt h3)).trans h3) 2) rfl ?_;clear hf;intro _ hf;refine q_cmp (b:=true) hf rfl rfl rfl rfl rfl (by first | assumption | ((try dsimp only);simp only [bq1,bq2,bq3,bq4,bq5,bq6,bq7] <;> omega)) rfl ?_;clear hf;intro _ hf;refine q_nil ?_;intro w9 hw9;simp only [Exit.then,Exit.inBlock];replace h3:=(hw9.block _ (blk_lt h3)).trans h3;replace h5:=(hw9.block _ (blk_lt h5)).trans h5;replace hB:=bel_then hB hw9;go_step;refine c_condT hf rfl ?_;refine wp_seq_k ?_;intro _ _;refine wp_region_lit ?_;refine a_assign hf rfl rfl rfl ?_;clear hf;intro _ hf;refine wpList_nil ?_;simp only [Exit.then,Exit.inBlock];go_step;refine wp_ret ?_
          try simp only [Exit.then,Exit.inBlock]
          exact c_ret hf rfl rfl ⟨ret_eq (by rw [HE.out]),hB⟩
        refine r_quiet (n:=193) (ds:=[]) (ls:=[(7,.int .i64 pg),(1,.slice (some ad) acts.length c),(5,.pointer (some ⟨w.heap.size + 1,0,none⟩)),(3,.pointer (some ⟨w.heap.size,0,none⟩))]) (Below w3.heap.size w3) (by kernel_rfl) (by kernel_rfl) (bel_drew (Below.refl _ _)) ((((hf.nilOf.cons (hf.at_ 3 _ rfl)).cons (hf.at_ 5 _ rfl)).cons (hf.at_ 1 _ rfl)).cons (hf.at_ 7 _ rfl)) ?_;clear hf;intro _ hf;refine q_field hf rfl rfl rfl rfl ?_;clear hf;intro _ hf;refine q_load hf rfl rfl rfl (by exact fun w' hw' => blk_cell ((hw'.block _ (blk_lt h5)).trans h5) 1) rfl ?_;clear hf;intro _ hf;refine q_move hf rfl rfl rfl ?_;clear hf;intro _ hf;refine q_move hf rfl rfl rfl ?_;clear hf;intro _ hf;refine q_index (j:=pn) hf rfl rfl rfl rfl (by omega) (by omega) rfl ?_;clear hf;intro _ hf;refine q_field hf rfl rfl rfl rfl ?_;clear hf;intro _ hf;refine q_load hf rfl rfl rfl (by exact fun w' hw' => (hw'.cell (p:=⟨(ad.add (pn * 12)).block,(ad.add (pn * 12)).off + 1,none⟩) (lt_of_cell g1)).trans g1) rfl ?_;clear hf;intro _ hf;refine q_ar hf rfl rfl rfl rfl (by (try dsimp only);omega) rfl ?_;clear hf;intro _ hf;refine q_field hf rfl rfl rfl rfl ?_;clear hf;intro _ hf;refine q_load hf rfl rfl rfl (by exact fun w' hw' => blk_cell ((hw'.block _ (blk_lt h3)).trans h3) 2) rfl ?_;clear hf;intro _ hf;refine q_cmp (b:=false) hf rfl rfl rfl rfl rfl (by first | assumption | ((try dsimp only);simp only [bq1,bq2,bq3,bq4,bq5,bq6,bq7] <;> omega)) rfl ?_;clear hf;intro _ hf;refine q_nil ?_;intro w9 hw9;simp only [Exit.then,Exit.inBlock];replace h3:=(hw9.block _ (blk_lt h3)).trans h3;replace h5:=(hw9.block _ (blk_lt h5)).trans h5;replace hB:=bel_then hB hw9;go_step;refine c_condF hf rfl ?_;refine wp_skip ?_;simp only [Exit.then,Exit.inBlock];go_step;refine wp_seq_k ?_;intro _ _;refine wp_seq_k ?_;intro _ _
        by_cases qf : a.paid = C.fee
        · have HE:=Aside.mk (show refusedR C acts a = 0 by rw [HRE.out];simp [refPub,hpg,qp,hvo,hya,qw,qf])
          refine wp_region_lit ?_;refine a_field hf rfl rfl rfl rfl ?_;clear hf;intro _ hf;refine a_load hf rfl rfl rfl (by exact blk_cell h5 9) rfl ?_;clear hf;intro _ hf;refine a_field hf rfl rfl rfl rfl ?_;clear hf;intro _ hf;refine a_load hf rfl rfl rfl (by exact blk_cell h3 4) rfl ?_;clear hf;intro _ hf;refine a_cmp (b:=false) hf rfl rfl rfl rfl rfl (by first | assumption | ((try dsimp only);simp only [bq1,bq2,bq3,bq4,bq5,bq6,bq7] <;> omega)) rfl ?_;clear hf;intro _ hf;refine wpList_nil ?_;simp only [Exit.then,Exit.inBlock];go_step;refine c_condF hf rfl ?_;refine wp_skip ?_;simp only [Exit.then,Exit.inBlock];go_step;refine wp_seq_k ?_;intro _ _;refine wp_region_lit ?_;refine a_assign hf rfl rfl rfl ?_;clear hf;intro _ hf;refine wpList_nil ?_;simp only [Exit.then,Exit.inBlock];go_step;refine wp_ret ?_
          try simp only [Exit.then,Exit.inBlock]
          exact c_ret hf rfl rfl ⟨ret_eq (by rw [HE.out]),hB⟩
        · have HE:=Aside.mk (show refusedR C acts a = 7 by rw [HRE.out];simp [refPub,hpg,qp,hvo,hya,qw,qf])
          refine wp_region_lit ?_;refine a_field hf rfl rfl rfl rfl ?_;clear hf;intro _ hf;refine a_load hf rfl rfl rfl (by exact blk_cell h5 9) rfl ?_;clear hf;intro _ hf;refine a_field hf rfl rfl rfl rfl ?_;clear hf;intro _ hf;refine a_load hf rfl rfl rfl (by exact blk_cell h3 4) rfl ?_;clear hf;intro _ hf;refine a_cmp (b:=true) hf rfl rfl rfl rfl rfl (by first | assumption | ((try dsimp only);simp only [bq1,bq2,bq3,bq4,bq5,bq6,bq7] <;> omega)) rfl ?_;clear hf;intro _ hf;refine wpList_nil ?_;simp only [Exit.then,Exit.inBlock];go_step;refine c_condT hf rfl ?_;refine wp_seq_k ?_;intro _ _;refine wp_region_lit ?_;refine a_assign hf rfl rfl rfl ?_;clear hf;intro _ hf;refine wpList_nil ?_;simp only [Exit.then,Exit.inBlock];go_step;refine wp_ret ?_
          try simp only [Exit.then,Exit.inBlock]
          exact c_ret hf rfl rfl ⟨ret_eq (by rw [HE.out]),hB⟩
    refine wp_region_lit ?_;refine a_field hf rfl rfl rfl rfl ?_;clear hf;intro _ hf;refine a_load hf rfl rfl rfl (by exact blk_cell h5 0) rfl ?_;clear hf;intro _ hf;refine a_cmp (b:=false) hf rfl rfl rfl rfl rfl (by first | assumption | ((try dsimp only);simp only [bq1,bq2,bq3,bq4,bq5,bq6,bq7] <;> omega)) rfl ?_;clear hf;intro _ hf;refine wpList_nil ?_;simp only [Exit.then,Exit.inBlock];go_step;refine c_condF hf rfl ?_;refine wp_skip ?_;simp only [Exit.then,Exit.inBlock];go_step;have hc0:=hcase q1 q2
    obtain ⟨kk,hkk⟩ : ∃ kk : Nat,a.case_ = kk:=⟨a.case_.toNat,by omega⟩
    refine wp_seq_k ?_;intro _ _;refine wp_region_lit ?_;refine a_move hf rfl rfl rfl ?_;clear hf;intro _ hf;refine a_call1 hf e27 rfl rfl rfl ?_;clear hf;refine (refProtests_any A c acts _ (HR.out.below hB) hna).mono ?_;rintro _ w2 ⟨A9,c9,rfl,hc9,hpr,hb⟩;replace h3:=(hb.block _ (blk_lt h3)).trans h3;replace h5:=(hb.block _ (blk_lt h5)).trans h5;replace hB:=bel_then hB hb;clear hb;intro _ hf;refine a_assign hf rfl rfl rfl ?_;clear hf;intro _ hf;refine wpList_nil ?_;simp only [Exit.then,Exit.inBlock];go_step;refine wp_seq_k ?_;intro _ _;refine wp_seq_k ?_;intro _ _
    by_cases qc : ((protGo acts 0).length : Int) ≤ a.case_
    · have HE:=Aside.mk (show refusedR C acts a = 5 by simp [refusedR,hbad,h2000,q1,q2,qc])
      refine wp_region_lit ?_;refine a_field hf rfl rfl rfl rfl ?_;clear hf;intro _ hf;refine a_load hf rfl rfl rfl (by exact blk_cell h5 3) rfl ?_;clear hf;intro _ hf;refine a_move hf rfl rfl rfl ?_;clear hf;intro _ hf;refine a_len hf rfl rfl rfl rfl ?_;clear hf;intro _ hf;refine a_cmp (b:=true) hf rfl rfl rfl rfl rfl (by first | assumption | ((try dsimp only);simp only [bq1,bq2,bq3,bq4,bq5,bq6,bq7] <;> omega)) rfl ?_;clear hf;intro _ hf;refine wpList_nil ?_;simp only [Exit.then,Exit.inBlock];go_step;refine c_condT hf rfl ?_;refine wp_seq_k ?_;intro _ _;refine wp_region_lit ?_;refine a_assign hf rfl rfl rfl ?_;clear hf;intro _ hf;refine wpList_nil ?_;simp only [Exit.then,Exit.inBlock];go_step;refine wp_ret ?_
      try simp only [Exit.then,Exit.inBlock]
      exact c_ret hf rfl rfl ⟨ret_eq (by rw [HE.out]),hB⟩
    refine wp_region_lit ?_;refine a_field hf rfl rfl rfl rfl ?_;clear hf;intro _ hf;refine a_load hf rfl rfl rfl (by exact blk_cell h5 3) rfl ?_;clear hf;intro _ hf;refine a_move hf rfl rfl rfl ?_;clear hf;intro _ hf;refine a_len hf rfl rfl rfl rfl ?_;clear hf;intro _ hf;refine a_cmp (b:=false) hf rfl rfl rfl rfl rfl (by first | assumption | ((try dsimp only);simp only [bq1,bq2,bq3,bq4,bq5,bq6,bq7] <;> omega)) rfl ?_;clear hf;intro _ hf;refine wpList_nil ?_;simp only [Exit.then,Exit.inBlock];go_step;refine c_condF hf rfl ?_;refine wp_skip ?_;simp only [Exit.then,Exit.inBlock];go_step
    obtain ⟨pi,hpi⟩:=get_some (l:=protGo acts 0) (k:=kk) (by omega)
    obtain ⟨p,x,hpx,hx,_⟩:=prot_at acts 0 kk pi hpi
    have hpi' : pi = (p : Int):=by omega
    subst hpi'
    have hxa : actAt acts ((protGo acts 0)[a.case_.toNat]?.getD 0) = x:=by rw [hkk,Int.toNat_natCast,hpi];exact actAt_some rfl hx
    have HRE:=Aside.mk (show refusedR C acts a = refCase C acts a x by simp [refusedR,hbad,h2000,q1,q2,qc,hxa]);have hxl:=(List.getElem?_eq_some_iff.1 hx).1;have hkl:=(List.getElem?_eq_some_iff.1 hpi).1;have hP:=Aside.mk hpi;have hX:=Aside.mk hx
    obtain ⟨pd,rfl,_,hpc⟩:=hpr kk _ hpi
    obtain ⟨ad,B9,d9,rfl,_,ha⟩:=(HR.out.below hB) _ x hx
    obtain ⟨g0,g1,g2,g3,g4,g5,g6,g7,g8,g9,g10,g11,_,_⟩:=ha
    clear hpi hx hpx;refine wp_seq_k ?_;intro _ _;refine wp_region_lit ?_;refine a_move hf rfl rfl rfl ?_;clear hf;intro _ hf;refine a_move hf rfl rfl rfl ?_;clear hf;intro _ hf;refine a_field hf rfl rfl rfl rfl ?_;clear hf;intro _ hf;refine a_load hf rfl rfl rfl (by exact blk_cell h5 3) rfl ?_;clear hf;intro _ hf;refine a_index (j:=kk) hf rfl rfl rfl rfl (by omega) (by omega) rfl ?_;clear hf;intro _ hf;refine a_load hf rfl rfl rfl (by rw [Nat.mul_one];exact hpc) rfl ?_;clear hf;intro _ hf;refine a_index (j:=p) hf rfl rfl rfl rfl (by first | rfl | omega) (by omega) rfl ?_;clear hf;intro _ hf;refine a_load43 hf rfl rfl (by exact g0) (by exact g1) (by exact g2) (by exact g3) (by exact g4) (by exact g5) (by exact g6) (by exact g7) (by exact g8) (by exact g9) (by exact g10) (by exact g11) rfl ?_;clear hf;intro _ hf;refine a_alloc43 hf rfl rfl ?_;clear hf;intro _ hf;refine a_store43 hf rfl rfl rfl (heap_alloc_new w2 _) rfl ?_;clear hf;intro _ w3 hf h11 hM;refine wpList_nil ?_;simp only [Exit.then,Exit.inBlock];go_step;have hb3 : Below w2.heap.size w2 w3:=bel_modG (bel_alloc (Below.refl _ _) _) hM (Nat.le_refl _);replace h3:=(hb3.block _ (blk_lt h3)).trans h3;replace h5:=(hb3.block _ (blk_lt h5)).trans h5;replace hB:=bel_then hB hb3;clear hM hb3 g0 g1 g2 g3 g4 g5 g6 g7 g8 g9 g10 g11 hpc hpr
    obtain ⟨l6,hl6⟩ : ∃ l,lastM 6 a.case_ acts = l:=⟨_,rfl⟩
    obtain ⟨l3,hl3⟩ : ∃ l,lastM 3 a.case_ acts = l:=⟨_,rfl⟩
    obtain ⟨l4,hl4⟩ : ∃ l,lastM 4 a.case_ acts = l:=⟨_,rfl⟩
    obtain ⟨l5,hl5⟩ : ∃ l,lastM 5 a.case_ acts = l:=⟨_,rfl⟩
    obtain ⟨b6,hb6⟩ : ∃ b,decide (0 ≤ l6) = b:=⟨_,rfl⟩
    obtain ⟨b4,hb4⟩ : ∃ b,decide (0 ≤ l4) = b:=⟨_,rfl⟩
    obtain ⟨b5,hb5⟩ : ∃ b,decide (0 ≤ l5) = b:=⟨_,rfl⟩
    have hlast : ∀ (q l : Int),lastM q a.case_ acts = l → ∀ W,RAct Any W (some ad) acts → Calls Try.prog 59 #[.slice (some ad) acts.length c,.int .i64 q,.int .i64 a.case_,.int .i64 10000000] W fun e w' => e = .returned (.int .i64 l) ∧ Below W.heap.size W w':=fun q l hl W hW => by
      have:=refLast_any (some ad) c acts q a.case_ 10000000 W hW hna
      unfold lastM at hl
      rw [hl] at this;exact this
    refine wp_seq_k ?_;intro _ _;refine r_quiet (n:=193) (ds:=[]) (ls:=[(11,.pointer (some ⟨w2.heap.size,0,none⟩)),(1,.slice (some ad) acts.length c),(5,.pointer (some ⟨w.heap.size + 1,0,none⟩)),(3,.pointer (some ⟨w.heap.size,0,none⟩))]) (Below w3.heap.size w3) (by kernel_rfl) (by kernel_rfl) (bel_drew (Below.refl _ _)) ((((hf.nilOf.cons (hf.at_ 3 _ rfl)).cons (hf.at_ 5 _ rfl)).cons (hf.at_ 1 _ rfl)).cons (hf.at_ 11 _ rfl)) ?_;clear hf;intro _ hf;refine q_move hf rfl rfl rfl ?_;clear hf;intro _ hf;refine q_field hf rfl rfl rfl rfl ?_;clear hf;intro _ hf;refine q_load hf rfl rfl rfl (by exact fun w' hw' => blk_cell ((hw'.block _ (blk_lt h5)).trans h5) 3) rfl ?_;clear hf;intro _ hf;refine q_call4 hf e59 rfl rfl rfl rfl rfl rfl (fun w' hw' => (hlast 6 l6 hl6 w' (HR.out.below (bel_then hB hw'))).mono fun _ _ h => ⟨h.1,bel_then hw' h.2⟩) ?_;clear hf;intro _ hf;refine q_cmp (b:=b6) hf rfl rfl rfl rfl rfl hb6 rfl ?_;clear hf;intro _ hf;refine q_move hf rfl rfl rfl ?_;clear hf;intro _ hf;refine q_field hf rfl rfl rfl rfl ?_;clear hf;intro _ hf;refine q_load hf rfl rfl rfl (by exact fun w' hw' => blk_cell ((hw'.block _ (blk_lt h5)).trans h5) 3) rfl ?_;clear hf;intro _ hf;refine q_call4 hf e59 rfl rfl rfl rfl rfl rfl (fun w' hw' => (hlast 3 l3 hl3 w' (HR.out.below (bel_then hB hw'))).mono fun _ _ h => ⟨h.1,bel_then hw' h.2⟩) ?_;clear hf;intro _ hf;refine q_assign hf rfl rfl rfl ?_;clear hf;intro _ hf;refine q_assign hf rfl rfl rfl ?_;clear hf;intro _ hf;refine q_nil ?_;intro w9 hw9;simp only [Exit.then,Exit.inBlock];replace h3:=(hw9.block _ (blk_lt h3)).trans h3;replace h5:=(hw9.block _ (blk_lt h5)).trans h5;replace h11:=(hw9.block _ (blk_lt h11)).trans h11;replace hB:=bel_then hB hw9;clear hw9;go_step;refine wp_seq_k ?_;intro _ _
    skip
    refine r_quiet (n:=193) (ds:=[]) (ls:=[(13,.int .i64 l3),(12,.bool b6),(11,.pointer (some ⟨w2.heap.size,0,none⟩)),(1,.slice (some ad) acts.length c),(5,.pointer (some ⟨w.heap.size + 1,0,none⟩)),(3,.pointer (some ⟨w.heap.size,0,none⟩))]) (Below w9.heap.size w9) (by kernel_rfl) (by kernel_rfl) (bel_drew (Below.refl _ _)) ((((((hf.nilOf.cons (hf.at_ 3 _ rfl)).cons (hf.at_ 5 _ rfl)).cons (hf.at_ 1 _ rfl)).cons (hf.at_ 11 _ rfl)).cons (hf.at_ 12 _ rfl)).cons (hf.at_ 13 _ rfl)) ?_;clear hf;intro _ hf;refine q_move hf rfl rfl rfl ?_;clear hf;intro _ hf;refine q_field hf rfl rfl rfl rfl ?_;clear hf;intro _ hf;refine q_load hf rfl rfl rfl (by exact fun w' hw' => blk_cell ((hw'.block _ (blk_lt h5)).trans h5) 3) rfl ?_;clear hf;intro _ hf;refine q_call4 hf e59 rfl rfl rfl rfl rfl rfl (fun w' hw' => (hlast 4 l4 hl4 w' (HR.out.below (bel_then hB hw'))).mono fun _ _ h => ⟨h.1,bel_then hw' h.2⟩) ?_;clear hf;intro _ hf;refine q_cmp (b:=b4) hf rfl rfl rfl rfl rfl hb4 rfl ?_;clear hf;intro _ hf;refine q_move hf rfl rfl rfl ?_;clear hf;intro _ hf;refine q_field hf rfl rfl rfl rfl ?_;clear hf;intro _ hf;refine q_load hf rfl rfl rfl (by exact fun w' hw' => blk_cell ((hw'.block _ (blk_lt h5)).trans h5) 3) rfl ?_;clear hf;intro _ hf;refine q_call4 hf e59 rfl rfl rfl rfl rfl rfl (fun w' hw' => (hlast 5 l5 hl5 w' (HR.out.below (bel_then hB hw'))).mono fun _ _ h => ⟨h.1,bel_then hw' h.2⟩) ?_;clear hf;intro _ hf;refine q_cmp (b:=b5) hf rfl rfl rfl rfl rfl hb5 rfl ?_;clear hf;intro _ hf;refine q_assign hf rfl rfl rfl ?_;clear hf;intro _ hf;refine q_assign hf rfl rfl rfl ?_;clear hf;intro _ hf;refine q_nil ?_;intro w10 hw9;simp only [Exit.then,Exit.inBlock];replace h3:=(hw9.block _ (blk_lt h3)).trans h3;replace h5:=(hw9.block _ (blk_lt h5)).trans h5;replace h11:=(hw9.block _ (blk_lt h11)).trans h11;replace hB:=bel_then hB hw9;clear hw9;go_step;refine wp_seq_k ?_;intro _ _;refine wp_seq_k ?_;intro _ _;refine wp_region_lit ?_;refine a_field hf rfl rfl rfl rfl ?_;clear hf;intro _ hf;refine a_load hf rfl rfl rfl (by exact blk_cell h5 0) rfl ?_;clear hf;intro _ hf;refine wpList_nil ?_;simp only [Exit.then,Exit.inBlock];go_step;refine wp_block ?_
    by_cases q3 : a.kind = 3
    · refine wp_seq_k ?_
      intro _ _;refine wp_region_lit ?_;refine a_cmp (b:=true) hf rfl rfl rfl rfl rfl (by first | assumption | ((try dsimp only);simp only [bq1,bq2,bq3,bq4,bq5,bq6,bq7] <;> omega)) rfl ?_;clear hf;intro _ hf;refine a_assign hf rfl rfl rfl ?_;clear hf;intro _ hf;refine wpList_nil ?_;simp only [Exit.then,Exit.inBlock];go_step;refine c_condT hf rfl ?_;refine wp_seq_k ?_;intro _ _;refine wp_seq_k ?_;intro _ _
      cases b6 with
      | true =>
        have e6 : 0 ≤ l6:=by simpa using hb6
        have HE:=Aside.mk (show refusedR C acts a = 6 by rw [HRE.out];simp [refCase,q3,hl6,hl3,hl4,hl5,e6]);refine wp_region_lit ?_;refine a_move hf rfl rfl rfl ?_;clear hf;intro _ hf;refine a_move hf rfl rfl rfl ?_;clear hf;intro _ hf
        (first | refine a_not hf rfl rfl rfl ?_ | refine a_move hf rfl rfl rfl ?_);clear hf;intro _ hf
        (first | refine a_not hf rfl rfl rfl ?_ | refine a_cmp hf rfl rfl rfl rfl rfl rfl rfl ?_);clear hf;intro _ hf
        (first | refine a_pickT hf rfl rfl rfl rfl ?_ | refine a_pickF hf rfl rfl rfl rfl ?_);clear hf;intro _ hf
        refine wpList_nil ?_;simp only [Exit.then,Exit.inBlock];go_step;refine c_condT hf rfl ?_;refine wp_seq_k ?_;intro _ _;refine wp_region_lit ?_;refine a_assign hf rfl rfl rfl ?_;clear hf;intro _ hf;refine wpList_nil ?_;simp only [Exit.then,Exit.inBlock];go_step;refine wp_ret ?_
        try simp only [Exit.then,Exit.inBlock]
        exact c_ret hf rfl rfl ⟨ret_eq (by rw [HE.out]),hB⟩
      | false =>
        have e6 : ¬ 0 ≤ l6:=by simpa using hb6
        by_cases e3 : 0 ≤ l3
        · have HE:=Aside.mk (show refusedR C acts a = 6 by rw [HRE.out];simp [refCase,q3,hl6,hl3,hl4,hl5,e6,e3])
          refine wp_region_lit ?_;refine a_move hf rfl rfl rfl ?_;clear hf;intro _ hf;refine a_move hf rfl rfl rfl ?_;clear hf;intro _ hf
          (first | refine a_not hf rfl rfl rfl ?_ | refine a_move hf rfl rfl rfl ?_);clear hf;intro _ hf
          (first | refine a_not hf rfl rfl rfl ?_ | refine a_cmp (b:=true) hf rfl rfl rfl rfl rfl (by first | assumption | ((try dsimp only);simp only [bq1,bq2,bq3,bq4,bq5,bq6,bq7] <;> omega)) rfl ?_);clear hf;intro _ hf
          (first | refine a_pickT hf rfl rfl rfl rfl ?_ | refine a_pickF hf rfl rfl rfl rfl ?_);clear hf;intro _ hf
          refine wpList_nil ?_;simp only [Exit.then,Exit.inBlock];go_step;refine c_condT hf rfl ?_;refine wp_seq_k ?_;intro _ _;refine wp_region_lit ?_;refine a_assign hf rfl rfl rfl ?_;clear hf;intro _ hf;refine wpList_nil ?_;simp only [Exit.then,Exit.inBlock];go_step;refine wp_ret ?_
          try simp only [Exit.then,Exit.inBlock]
          exact c_ret hf rfl rfl ⟨ret_eq (by rw [HE.out]),hB⟩
        refine wp_region_lit ?_;refine a_move hf rfl rfl rfl ?_;clear hf;intro _ hf;refine a_move hf rfl rfl rfl ?_;clear hf;intro _ hf
        (first | refine a_not hf rfl rfl rfl ?_ | refine a_move hf rfl rfl rfl ?_);clear hf;intro _ hf
        (first | refine a_not hf rfl rfl rfl ?_ | refine a_cmp (b:=false) hf rfl rfl rfl rfl rfl (by first | assumption | ((try dsimp only);simp only [bq1,bq2,bq3,bq4,bq5,bq6,bq7] <;> omega)) rfl ?_);clear hf;intro _ hf
        (first | refine a_pickT hf rfl rfl rfl rfl ?_ | refine a_pickF hf rfl rfl rfl rfl ?_);clear hf;intro _ hf
        refine wpList_nil ?_;simp only [Exit.then,Exit.inBlock];go_step;refine c_condF hf rfl ?_;refine wp_skip ?_;simp only [Exit.then,Exit.inBlock];go_step;refine wp_seq_k ?_;intro _ _
        cases hfit : fitsB C x a with
        | false =>
          have HE:=Aside.mk (show refusedR C acts a = 7 by rw [HRE.out];simp [refCase,q3,hl6,hl3,hl4,hl5,e6,e3,hfit]);refine wp_region_lit ?_;refine a_load33b hf rfl rfl (by exact h3) rfl ?_;clear hf;intro _ hf;refine a_move hf rfl rfl rfl ?_;clear hf;intro _ hf;refine a_load43b hf rfl rfl (by exact h5) rfl ?_;clear hf;intro _ hf;refine a_call3 hf e60 rfl rfl rfl rfl rfl ?_;clear hf;refine (fits_any C A1 c1 acts (some ad) c a A8 c8 kk p x _ (HC.out.below hB) hn (HR.out.below hB) hna hkk hP.out hX.out false hfit).mono ?_;rintro _ w11 ⟨rfl,hb⟩;replace hB:=bel_then hB hb;intro _ hf;refine a_not_ hf rfl rfl rfl ?_;clear hf;intro _ hf;refine wpList_nil ?_;simp only [Exit.then,Exit.inBlock];go_step;refine c_condT hf rfl ?_;refine wp_seq_k ?_;intro _ _;refine wp_region_lit ?_;refine a_assign hf rfl rfl rfl ?_;clear hf;intro _ hf;refine wpList_nil ?_;simp only [Exit.then,Exit.inBlock];go_step;refine wp_ret ?_
          try simp only [Exit.then,Exit.inBlock]
          exact c_ret hf rfl rfl ⟨ret_eq (by rw [HE.out]),hB⟩
        | true =>
          have HE:=Aside.mk (show refusedR C acts a = 0 by rw [HRE.out];simp [refCase,q3,hl6,hl3,hl4,hl5,e6,e3,hfit]);refine wp_region_lit ?_;refine a_load33b hf rfl rfl (by exact h3) rfl ?_;clear hf;intro _ hf;refine a_move hf rfl rfl rfl ?_;clear hf;intro _ hf;refine a_load43b hf rfl rfl (by exact h5) rfl ?_;clear hf;intro _ hf;refine a_call3 hf e60 rfl rfl rfl rfl rfl ?_;clear hf;refine (fits_any C A1 c1 acts (some ad) c a A8 c8 kk p x _ (HC.out.below hB) hn (HR.out.below hB) hna hkk hP.out hX.out true hfit).mono ?_;rintro _ w11 ⟨rfl,hb⟩;replace hB:=bel_then hB hb;intro _ hf;refine a_not_ hf rfl rfl rfl ?_;clear hf;intro _ hf;refine wpList_nil ?_;simp only [Exit.then,Exit.inBlock];go_step;refine c_condF hf rfl ?_;refine wp_skip ?_;simp only [Exit.then,Exit.inBlock];go_step;refine wp_seq_k ?_;intro _ _;refine wp_region_lit ?_;refine a_assign hf rfl rfl rfl ?_;clear hf;intro _ hf;refine wpList_nil ?_;simp only [Exit.then,Exit.inBlock];go_step;refine wp_ret ?_
          try simp only [Exit.then,Exit.inBlock]
          exact c_ret hf rfl rfl ⟨ret_eq (by rw [HE.out]),hB⟩
    by_cases q4 : a.kind = 4
    · refine wp_seq_k ?_
      intro _ _;refine wp_region_lit ?_;refine a_cmp (b:=false) hf rfl rfl rfl rfl rfl (by first | assumption | ((try dsimp only);simp only [bq1,bq2,bq3,bq4,bq5,bq6,bq7] <;> omega)) rfl ?_;clear hf;intro _ hf;refine a_assign hf rfl rfl rfl ?_;clear hf;intro _ hf;refine wpList_nil ?_;simp only [Exit.then,Exit.inBlock];go_step;refine c_condF hf rfl ?_;refine wp_seq_k ?_;intro _ _;refine wp_region_lit ?_;refine a_cmp (b:=true) hf rfl rfl rfl rfl rfl (by first | assumption | ((try dsimp only);simp only [bq1,bq2,bq3,bq4,bq5,bq6,bq7] <;> omega)) rfl ?_;clear hf;intro _ hf;refine a_assign hf rfl rfl rfl ?_;clear hf;intro _ hf;refine wpList_nil ?_;simp only [Exit.then,Exit.inBlock];go_step;refine c_condT hf rfl ?_;refine wp_seq_k ?_;intro _ _;refine wp_seq_k ?_;intro _ _
      by_cases e3 : l3 < 0
      · have HE:=Aside.mk (show refusedR C acts a = 6 by rw [HRE.out];simp [refCase,q3,q4,hl6,hl3,hl4,hl5,e3])
        refine wp_region_lit ?_;refine a_move hf rfl rfl rfl ?_;clear hf;intro _ hf;refine a_cmp (b:=true) hf rfl rfl rfl rfl rfl (by first | assumption | ((try dsimp only);simp only [bq1,bq2,bq3,bq4,bq5,bq6,bq7] <;> omega)) rfl ?_;clear hf;intro _ hf;refine a_move hf rfl rfl rfl ?_;clear hf;intro _ hf
        (first | refine a_not hf rfl rfl rfl ?_ | refine a_move hf rfl rfl rfl ?_);clear hf;intro _ hf
        (first | refine a_pickT hf rfl rfl rfl rfl ?_ | refine a_pickF hf rfl rfl rfl rfl ?_);clear hf;intro _ hf
        refine wpList_nil ?_;simp only [Exit.then,Exit.inBlock];go_step;refine c_condT hf rfl ?_;refine wp_seq_k ?_;intro _ _;refine wp_region_lit ?_;refine a_assign hf rfl rfl rfl ?_;clear hf;intro _ hf;refine wpList_nil ?_;simp only [Exit.then,Exit.inBlock];go_step;refine wp_ret ?_
        try simp only [Exit.then,Exit.inBlock]
        exact c_ret hf rfl rfl ⟨ret_eq (by rw [HE.out]),hB⟩
      cases b4 with
      | true =>
        have e4 : 0 ≤ l4:=by simpa using hb4
        have HE:=Aside.mk (show refusedR C acts a = 6 by rw [HRE.out];simp [refCase,q3,q4,hl6,hl3,hl4,hl5,e3,e4]);refine wp_region_lit ?_;refine a_move hf rfl rfl rfl ?_;clear hf;intro _ hf;refine a_cmp (b:=false) hf rfl rfl rfl rfl rfl (by first | assumption | ((try dsimp only);simp only [bq1,bq2,bq3,bq4,bq5,bq6,bq7] <;> omega)) rfl ?_;clear hf;intro _ hf;refine a_move hf rfl rfl rfl ?_;clear hf;intro _ hf
        (first | refine a_not hf rfl rfl rfl ?_ | refine a_move hf rfl rfl rfl ?_);clear hf;intro _ hf
        (first | refine a_pickT hf rfl rfl rfl rfl ?_ | refine a_pickF hf rfl rfl rfl rfl ?_);clear hf;intro _ hf
        refine wpList_nil ?_;simp only [Exit.then,Exit.inBlock];go_step;refine c_condT hf rfl ?_;refine wp_seq_k ?_;intro _ _;refine wp_region_lit ?_;refine a_assign hf rfl rfl rfl ?_;clear hf;intro _ hf;refine wpList_nil ?_;simp only [Exit.then,Exit.inBlock];go_step;refine wp_ret ?_
        try simp only [Exit.then,Exit.inBlock]
        exact c_ret hf rfl rfl ⟨ret_eq (by rw [HE.out]),hB⟩
      | false =>
        have e4 : ¬ 0 ≤ l4:=by simpa using hb4
        refine wp_region_lit ?_;refine a_move hf rfl rfl rfl ?_;clear hf;intro _ hf;refine a_cmp (b:=false) hf rfl rfl rfl rfl rfl (by first | assumption | ((try dsimp only);simp only [bq1,bq2,bq3,bq4,bq5,bq6,bq7] <;> omega)) rfl ?_;clear hf;intro _ hf;refine a_move hf rfl rfl rfl ?_;clear hf;intro _ hf
        (first | refine a_not hf rfl rfl rfl ?_ | refine a_move hf rfl rfl rfl ?_);clear hf;intro _ hf
        (first | refine a_pickT hf rfl rfl rfl rfl ?_ | refine a_pickF hf rfl rfl rfl rfl ?_);clear hf;intro _ hf
        refine wpList_nil ?_;simp only [Exit.then,Exit.inBlock];go_step;refine c_condF hf rfl ?_;refine wp_skip ?_;simp only [Exit.then,Exit.inBlock];go_step;refine wp_seq_k ?_;intro _ _;refine wp_seq_k ?_;intro _ _
        by_cases qb : a.by_ ≠ x.by_ ∧ a.by_ ≠ x.against
        · obtain ⟨qb1,qb2⟩:=qb
          have HE:=Aside.mk (show refusedR C acts a = 7 by rw [HRE.out];simp [refCase,q3,q4,hl6,hl3,hl4,hl5,e3,e4,qb1,qb2]);refine wp_region_lit ?_;refine a_field hf rfl rfl rfl rfl ?_;clear hf;intro _ hf;refine a_load hf rfl rfl rfl (by exact blk_cell h5 4) rfl ?_;clear hf;intro _ hf;refine a_field hf rfl rfl rfl rfl ?_;clear hf;intro _ hf;refine a_load hf rfl rfl rfl (by exact blk_cell h11 4) rfl ?_;clear hf;intro _ hf;refine a_cmp (b:=true) hf rfl rfl rfl rfl rfl (by first | assumption | ((try dsimp only);simp only [bq1,bq2,bq3,bq4,bq5,bq6,bq7] <;> omega)) rfl ?_;clear hf;intro _ hf;refine a_move hf rfl rfl rfl ?_;clear hf;intro _ hf
          (first | refine a_not hf rfl rfl rfl ?_ | refine a_field hf rfl rfl rfl rfl ?_);clear hf;intro _ hf
          (first | refine a_not hf rfl rfl rfl ?_ | refine a_load hf rfl rfl rfl (by exact blk_cell h5 4) rfl ?_);clear hf;intro _ hf
          (first | refine a_not hf rfl rfl rfl ?_ | refine a_field hf rfl rfl rfl rfl ?_);clear hf;intro _ hf
          (first | refine a_not hf rfl rfl rfl ?_ | refine a_load hf rfl rfl rfl (by exact blk_cell h11 5) rfl ?_);clear hf;intro _ hf
          (first | refine a_not hf rfl rfl rfl ?_ | refine a_cmp (b:=true) hf rfl rfl rfl rfl rfl (by first | assumption | ((try dsimp only);simp only [bq1,bq2,bq3,bq4,bq5,bq6,bq7] <;> omega)) rfl ?_);clear hf;intro _ hf
          (first | refine a_pickT hf rfl rfl rfl rfl ?_ | refine a_pickF hf rfl rfl rfl rfl ?_);clear hf;intro _ hf
          refine wpList_nil ?_;simp only [Exit.then,Exit.inBlock];go_step;refine c_condT hf rfl ?_;refine wp_seq_k ?_;intro _ _;refine wp_region_lit ?_;refine a_assign hf rfl rfl rfl ?_;clear hf;intro _ hf;refine wpList_nil ?_;simp only [Exit.then,Exit.inBlock];go_step;refine wp_ret ?_
          try simp only [Exit.then,Exit.inBlock]
          exact c_ret hf rfl rfl ⟨ret_eq (by rw [HE.out]),hB⟩
        refine c_cut (fun a' w' => Has 193 [] [(152,.bool false),(13,.int .i64 l3),(1,.slice (some ad) acts.length c),(5,.pointer (some ⟨w.heap.size + 1,0,none⟩)),(3,.pointer (some ⟨w.heap.size,0,none⟩))] a' ∧ w10 = w') ?_ ?_
        · by_cases qb1 : a.by_ = x.by_
          · refine wp_region_lit ?_
            refine a_field hf rfl rfl rfl rfl ?_;clear hf;intro _ hf;refine a_load hf rfl rfl rfl (by exact blk_cell h5 4) rfl ?_;clear hf;intro _ hf;refine a_field hf rfl rfl rfl rfl ?_;clear hf;intro _ hf;refine a_load hf rfl rfl rfl (by exact blk_cell h11 4) rfl ?_;clear hf;intro _ hf;refine a_cmp (b:=false) hf rfl rfl rfl rfl rfl (by first | assumption | ((try dsimp only);simp only [bq1,bq2,bq3,bq4,bq5,bq6,bq7] <;> omega)) rfl ?_;clear hf;intro _ hf;refine a_move hf rfl rfl rfl ?_;clear hf;intro _ hf
            (first | refine a_not hf rfl rfl rfl ?_ | refine a_field hf rfl rfl rfl rfl ?_);clear hf;intro _ hf
            (first | refine a_not hf rfl rfl rfl ?_ | refine a_load hf rfl rfl rfl (by exact blk_cell h5 4) rfl ?_);clear hf;intro _ hf
            (first | refine a_not hf rfl rfl rfl ?_ | refine a_field hf rfl rfl rfl rfl ?_);clear hf;intro _ hf
            (first | refine a_not hf rfl rfl rfl ?_ | refine a_load hf rfl rfl rfl (by exact blk_cell h11 5) rfl ?_);clear hf;intro _ hf
            (first | refine a_not hf rfl rfl rfl ?_ | refine a_cmp hf rfl rfl rfl rfl rfl rfl rfl ?_);clear hf;intro _ hf
            (first | refine a_pickT hf rfl rfl rfl rfl ?_ | refine a_pickF hf rfl rfl rfl rfl ?_);clear hf;intro _ hf
            refine wpList_nil ?_;exact ⟨rfl,(((((hf.nilOf.cons (hf.at_ 3 _ rfl)).cons (hf.at_ 5 _ rfl)).cons (hf.at_ 1 _ rfl)).cons (hf.at_ 13 _ rfl)).cons (hf.at_ 152 _ rfl)),rfl⟩
          · have qb2 : a.by_ = x.against:=by omega
            refine wp_region_lit ?_;refine a_field hf rfl rfl rfl rfl ?_;clear hf;intro _ hf;refine a_load hf rfl rfl rfl (by exact blk_cell h5 4) rfl ?_;clear hf;intro _ hf;refine a_field hf rfl rfl rfl rfl ?_;clear hf;intro _ hf;refine a_load hf rfl rfl rfl (by exact blk_cell h11 4) rfl ?_;clear hf;intro _ hf;refine a_cmp (b:=true) hf rfl rfl rfl rfl rfl (by first | assumption | ((try dsimp only);simp only [bq1,bq2,bq3,bq4,bq5,bq6,bq7] <;> omega)) rfl ?_;clear hf;intro _ hf;refine a_move hf rfl rfl rfl ?_;clear hf;intro _ hf
            (first | refine a_not hf rfl rfl rfl ?_ | refine a_field hf rfl rfl rfl rfl ?_);clear hf;intro _ hf
            (first | refine a_not hf rfl rfl rfl ?_ | refine a_load hf rfl rfl rfl (by exact blk_cell h5 4) rfl ?_);clear hf;intro _ hf
            (first | refine a_not hf rfl rfl rfl ?_ | refine a_field hf rfl rfl rfl rfl ?_);clear hf;intro _ hf
            (first | refine a_not hf rfl rfl rfl ?_ | refine a_load hf rfl rfl rfl (by exact blk_cell h11 5) rfl ?_);clear hf;intro _ hf
            (first | refine a_not hf rfl rfl rfl ?_ | refine a_cmp (b:=false) hf rfl rfl rfl rfl rfl (by first | assumption | ((try dsimp only);simp only [bq1,bq2,bq3,bq4,bq5,bq6,bq7] <;> omega)) rfl ?_);clear hf;intro _ hf
            (first | refine a_pickT hf rfl rfl rfl rfl ?_ | refine a_pickF hf rfl rfl rfl rfl ?_);clear hf;intro _ hf
            refine wpList_nil ?_;exact ⟨rfl,(((((hf.nilOf.cons (hf.at_ 3 _ rfl)).cons (hf.at_ 5 _ rfl)).cons (hf.at_ 1 _ rfl)).cons (hf.at_ 13 _ rfl)).cons (hf.at_ 152 _ rfl)),rfl⟩
        rintro _ _ ⟨hf,rfl⟩
        simp only [Exit.then];go_step;refine c_condF hf rfl ?_;refine wp_skip ?_;simp only [Exit.then,Exit.inBlock];go_step
        obtain ⟨ln,y,hy,hln⟩ : ∃ (ln : Nat) (y : ActL),acts[ln]? = some y ∧ l3 = ln:=by
          rcases lastGo_spec 3 a.case_ 10000000 acts 0 (-1) with ⟨h1,_⟩ | ⟨jj,y,h1,_,h2⟩
          · unfold lastM at hl3;omega
          · unfold lastM at hl3;exact ⟨jj,y,h1,by omega⟩
        have hym:=HM.out y (List.mem_of_getElem? hy);have hya:=actAt_some (i:=l3) hln hy;have hyl:=(List.getElem?_eq_some_iff.1 hy).1
        obtain ⟨_,B9',d9',he',_,ha⟩:=(HR.out.below hB) _ y hy
        cases he'
        have g1:=ha.2.1;clear ha;refine wp_seq_k ?_;intro _ _;refine wp_seq_k ?_;intro _ _
        by_cases qs : C.sec < a.minute - y.minute
        · have HE:=Aside.mk (show refusedR C acts a = 8 by rw [HRE.out];simp [refCase,q3,q4,hl6,hl3,hl4,hl5,e3,e4,qb,hya,qs])
          refine r_quiet (n:=193) (ds:=[]) (ls:=[(13,.int .i64 l3),(1,.slice (some ad) acts.length c),(5,.pointer (some ⟨w.heap.size + 1,0,none⟩)),(3,.pointer (some ⟨w.heap.size,0,none⟩))]) (Below w10.heap.size w10) (by kernel_rfl) (by kernel_rfl) (bel_drew (Below.refl _ _)) ((((hf.nilOf.cons (hf.at_ 3 _ rfl)).cons (hf.at_ 5 _ rfl)).cons (hf.at_ 1 _ rfl)).cons (hf.at_ 13 _ rfl)) ?_;clear hf;intro _ hf;refine q_field hf rfl rfl rfl rfl ?_;clear hf;intro _ hf;refine q_load hf rfl rfl rfl (by exact fun w' hw' => blk_cell ((hw'.block _ (blk_lt h5)).trans h5) 1) rfl ?_;clear hf;intro _ hf;refine q_move hf rfl rfl rfl ?_;clear hf;intro _ hf;refine q_move hf rfl rfl rfl ?_;clear hf;intro _ hf;refine q_index (j:=ln) hf rfl rfl rfl rfl (by omega) (by omega) rfl ?_;clear hf;intro _ hf;refine q_field hf rfl rfl rfl rfl ?_;clear hf;intro _ hf;refine q_load hf rfl rfl rfl (by exact fun w' hw' => (hw'.cell (p:=⟨(ad.add (ln * 12)).block,(ad.add (ln * 12)).off + 1,none⟩) (lt_of_cell g1)).trans g1) rfl ?_;clear hf;intro _ hf;refine q_ar hf rfl rfl rfl rfl (by (try dsimp only);omega) rfl ?_;clear hf;intro _ hf;refine q_field hf rfl rfl rfl rfl ?_;clear hf;intro _ hf;refine q_load hf rfl rfl rfl (by exact fun w' hw' => blk_cell ((hw'.block _ (blk_lt h3)).trans h3) 3) rfl ?_;clear hf;intro _ hf;refine q_cmp (b:=true) hf rfl rfl rfl rfl rfl (by first | assumption | ((try dsimp only);simp only [bq1,bq2,bq3,bq4,bq5,bq6,bq7] <;> omega)) rfl ?_;clear hf;intro _ hf;refine q_nil ?_;intro w9 hw9;simp only [Exit.then,Exit.inBlock];replace h3:=(hw9.block _ (blk_lt h3)).trans h3;replace h5:=(hw9.block _ (blk_lt h5)).trans h5;replace hB:=bel_then hB hw9;go_step;refine c_condT hf rfl ?_;refine wp_seq_k ?_;intro _ _;refine wp_region_lit ?_;refine a_assign hf rfl rfl rfl ?_;clear hf;intro _ hf;refine wpList_nil ?_;simp only [Exit.then,Exit.inBlock];go_step;refine wp_ret ?_
          try simp only [Exit.then,Exit.inBlock]
          exact c_ret hf rfl rfl ⟨ret_eq (by rw [HE.out]),hB⟩
        refine r_quiet (n:=193) (ds:=[]) (ls:=[(13,.int .i64 l3),(1,.slice (some ad) acts.length c),(5,.pointer (some ⟨w.heap.size + 1,0,none⟩)),(3,.pointer (some ⟨w.heap.size,0,none⟩))]) (Below w10.heap.size w10) (by kernel_rfl) (by kernel_rfl) (bel_drew (Below.refl _ _)) ((((hf.nilOf.cons (hf.at_ 3 _ rfl)).cons (hf.at_ 5 _ rfl)).cons (hf.at_ 1 _ rfl)).cons (hf.at_ 13 _ rfl)) ?_;clear hf;intro _ hf;refine q_field hf rfl rfl rfl rfl ?_;clear hf;intro _ hf;refine q_load hf rfl rfl rfl (by exact fun w' hw' => blk_cell ((hw'.block _ (blk_lt h5)).trans h5) 1) rfl ?_;clear hf;intro _ hf;refine q_move hf rfl rfl rfl ?_;clear hf;intro _ hf;refine q_move hf rfl rfl rfl ?_;clear hf;intro _ hf;refine q_index (j:=ln) hf rfl rfl rfl rfl (by omega) (by omega) rfl ?_;clear hf;intro _ hf;refine q_field hf rfl rfl rfl rfl ?_;clear hf;intro _ hf;refine q_load hf rfl rfl rfl (by exact fun w' hw' => (hw'.cell (p:=⟨(ad.add (ln * 12)).block,(ad.add (ln * 12)).off + 1,none⟩) (lt_of_cell g1)).trans g1) rfl ?_;clear hf;intro _ hf;refine q_ar hf rfl rfl rfl rfl (by (try dsimp only);omega) rfl ?_;clear hf;intro _ hf;refine q_field hf rfl rfl rfl rfl ?_;clear hf;intro _ hf;refine q_load hf rfl rfl rfl (by exact fun w' hw' => blk_cell ((hw'.block _ (blk_lt h3)).trans h3) 3) rfl ?_;clear hf;intro _ hf;refine q_cmp (b:=false) hf rfl rfl rfl rfl rfl (by first | assumption | ((try dsimp only);simp only [bq1,bq2,bq3,bq4,bq5,bq6,bq7] <;> omega)) rfl ?_;clear hf;intro _ hf;refine q_nil ?_;intro w9 hw9;simp only [Exit.then,Exit.inBlock];replace h3:=(hw9.block _ (blk_lt h3)).trans h3;replace h5:=(hw9.block _ (blk_lt h5)).trans h5;replace hB:=bel_then hB hw9;go_step;refine c_condF hf rfl ?_;refine wp_skip ?_;simp only [Exit.then,Exit.inBlock];go_step;refine wp_seq_k ?_;intro _ _
        by_cases qf : a.paid = C.price
        · have HE:=Aside.mk (show refusedR C acts a = 0 by rw [HRE.out];simp [refCase,q3,q4,hl6,hl3,hl4,hl5,e3,e4,qb,hya,qs,qf])
          refine wp_region_lit ?_;refine a_field hf rfl rfl rfl rfl ?_;clear hf;intro _ hf;refine a_load hf rfl rfl rfl (by exact blk_cell h5 9) rfl ?_;clear hf;intro _ hf;refine a_field hf rfl rfl rfl rfl ?_;clear hf;intro _ hf;refine a_load hf rfl rfl rfl (by exact blk_cell h3 5) rfl ?_;clear hf;intro _ hf;refine a_cmp (b:=false) hf rfl rfl rfl rfl rfl (by first | assumption | ((try dsimp only);simp only [bq1,bq2,bq3,bq4,bq5,bq6,bq7] <;> omega)) rfl ?_;clear hf;intro _ hf;refine wpList_nil ?_;simp only [Exit.then,Exit.inBlock];go_step;refine c_condF hf rfl ?_;refine wp_skip ?_;simp only [Exit.then,Exit.inBlock];go_step;refine wp_seq_k ?_;intro _ _;refine wp_region_lit ?_;refine a_assign hf rfl rfl rfl ?_;clear hf;intro _ hf;refine wpList_nil ?_;simp only [Exit.then,Exit.inBlock];go_step;refine wp_ret ?_
          try simp only [Exit.then,Exit.inBlock]
          exact c_ret hf rfl rfl ⟨ret_eq (by rw [HE.out]),hB⟩
        · have HE:=Aside.mk (show refusedR C acts a = 7 by rw [HRE.out];simp [refCase,q3,q4,hl6,hl3,hl4,hl5,e3,e4,qb,hya,qs,qf])
          refine wp_region_lit ?_;refine a_field hf rfl rfl rfl rfl ?_;clear hf;intro _ hf;refine a_load hf rfl rfl rfl (by exact blk_cell h5 9) rfl ?_;clear hf;intro _ hf;refine a_field hf rfl rfl rfl rfl ?_;clear hf;intro _ hf;refine a_load hf rfl rfl rfl (by exact blk_cell h3 5) rfl ?_;clear hf;intro _ hf;refine a_cmp (b:=true) hf rfl rfl rfl rfl rfl (by first | assumption | ((try dsimp only);simp only [bq1,bq2,bq3,bq4,bq5,bq6,bq7] <;> omega)) rfl ?_;clear hf;intro _ hf;refine wpList_nil ?_;simp only [Exit.then,Exit.inBlock];go_step;refine c_condT hf rfl ?_;refine wp_seq_k ?_;intro _ _;refine wp_region_lit ?_;refine a_assign hf rfl rfl rfl ?_;clear hf;intro _ hf;refine wpList_nil ?_;simp only [Exit.then,Exit.inBlock];go_step;refine wp_ret ?_
          try simp only [Exit.then,Exit.inBlock]
          exact c_ret hf rfl rfl ⟨ret_eq (by rw [HE.out]),hB⟩
    by_cases q5 : a.kind = 5
    · refine wp_seq_k ?_
      intro _ _;refine wp_region_lit ?_;refine a_cmp (b:=false) hf rfl rfl rfl rfl rfl (by first | assumption | ((try dsimp only);simp only [bq1,bq2,bq3,bq4,bq5,bq6,bq7] <;> omega)) rfl ?_;clear hf;intro _ hf;refine a_assign hf rfl rfl rfl ?_;clear hf;intro _ hf;refine wpList_nil ?_;simp only [Exit.then,Exit.inBlock];go_step;refine c_condF hf rfl ?_;refine wp_seq_k ?_;intro _ _;refine wp_region_lit ?_;refine a_cmp (b:=false) hf rfl rfl rfl rfl rfl (by first | assumption | ((try dsimp only);simp only [bq1,bq2,bq3,bq4,bq5,bq6,bq7] <;> omega)) rfl ?_;clear hf;intro _ hf;refine a_assign hf rfl rfl rfl ?_;clear hf;intro _ hf;refine wpList_nil ?_;simp only [Exit.then,Exit.inBlock];go_step;refine c_condF hf rfl ?_;refine wp_seq_k ?_;intro _ _;refine wp_region_lit ?_;refine a_cmp (b:=true) hf rfl rfl rfl rfl rfl (by first | assumption | ((try dsimp only);simp only [bq1,bq2,bq3,bq4,bq5,bq6,bq7] <;> omega)) rfl ?_;clear hf;intro _ hf;refine a_assign hf rfl rfl rfl ?_;clear hf;intro _ hf;refine wpList_nil ?_;simp only [Exit.then,Exit.inBlock];go_step;refine c_condT hf rfl ?_;refine wp_seq_k ?_;intro _ _;refine wp_seq_k ?_;intro _ _
      cases b4 with
      | false =>
        have e4 : ¬ 0 ≤ l4:=by simpa using hb4
        have HE:=Aside.mk (show refusedR C acts a = 6 by rw [HRE.out];simp [refCase,q5,hl6,hl3,hl4,hl5,e4]);refine wp_region_lit ?_;refine a_move hf rfl rfl rfl ?_;clear hf;intro _ hf;refine a_not_ hf rfl rfl rfl ?_;clear hf;intro _ hf;refine a_move hf rfl rfl rfl ?_;clear hf;intro _ hf
        (first | refine a_not hf rfl rfl rfl ?_ | refine a_move hf rfl rfl rfl ?_);clear hf;intro _ hf
        (first | refine a_pickT hf rfl rfl rfl rfl ?_ | refine a_pickF hf rfl rfl rfl rfl ?_);clear hf;intro _ hf
        refine wpList_nil ?_;simp only [Exit.then,Exit.inBlock];go_step;refine c_condT hf rfl ?_;refine wp_seq_k ?_;intro _ _;refine wp_region_lit ?_;refine a_assign hf rfl rfl rfl ?_;clear hf;intro _ hf;refine wpList_nil ?_;simp only [Exit.then,Exit.inBlock];go_step;refine wp_ret ?_
        try simp only [Exit.then,Exit.inBlock]
        exact c_ret hf rfl rfl ⟨ret_eq (by rw [HE.out]),hB⟩
      | true =>
        have e4 : 0 ≤ l4:=by simpa using hb4
        cases b5 with
        | true =>
          have e5 : 0 ≤ l5:=by simpa using hb5
          have HE:=Aside.mk (show refusedR C acts a = 6 by rw [HRE.out];simp [refCase,q5,hl6,hl3,hl4,hl5,e4,e5]);refine wp_region_lit ?_;refine a_move hf rfl rfl rfl ?_;clear hf;intro _ hf;refine a_not_ hf rfl rfl rfl ?_;clear hf;intro _ hf;refine a_move hf rfl rfl rfl ?_;clear hf;intro _ hf
          (first | refine a_not hf rfl rfl rfl ?_ | refine a_move hf rfl rfl rfl ?_);clear hf;intro _ hf
          (first | refine a_pickT hf rfl rfl rfl rfl ?_ | refine a_pickF hf rfl rfl rfl rfl ?_);clear hf;intro _ hf
          refine wpList_nil ?_;simp only [Exit.then,Exit.inBlock];go_step;refine c_condT hf rfl ?_;refine wp_seq_k ?_;intro _ _;refine wp_region_lit ?_;refine a_assign hf rfl rfl rfl ?_;clear hf;intro _ hf;refine wpList_nil ?_;simp only [Exit.then,Exit.inBlock];go_step;refine wp_ret ?_
          try simp only [Exit.then,Exit.inBlock]
          exact c_ret hf rfl rfl ⟨ret_eq (by rw [HE.out]),hB⟩
        | false =>
          have e5 : ¬ 0 ≤ l5:=by simpa using hb5
          refine wp_region_lit ?_;refine a_move hf rfl rfl rfl ?_;clear hf;intro _ hf;refine a_not_ hf rfl rfl rfl ?_;clear hf;intro _ hf;refine a_move hf rfl rfl rfl ?_;clear hf;intro _ hf
          (first | refine a_not hf rfl rfl rfl ?_ | refine a_move hf rfl rfl rfl ?_);clear hf;intro _ hf
          (first | refine a_pickT hf rfl rfl rfl rfl ?_ | refine a_pickF hf rfl rfl rfl rfl ?_);clear hf;intro _ hf
          refine wpList_nil ?_;simp only [Exit.then,Exit.inBlock];go_step;refine c_condF hf rfl ?_;refine wp_skip ?_;simp only [Exit.then,Exit.inBlock];go_step;refine wp_seq_k ?_;intro _ _
          cases hfit : fitsB C x a with
          | false =>
            have HE:=Aside.mk (show refusedR C acts a = 7 by rw [HRE.out];simp [refCase,q5,hl6,hl3,hl4,hl5,e4,e5,hfit]);refine wp_region_lit ?_;refine a_load33b hf rfl rfl (by exact h3) rfl ?_;clear hf;intro _ hf;refine a_move hf rfl rfl rfl ?_;clear hf;intro _ hf;refine a_load43b hf rfl rfl (by exact h5) rfl ?_;clear hf;intro _ hf;refine a_call3 hf e60 rfl rfl rfl rfl rfl ?_;clear hf;refine (fits_any C A1 c1 acts (some ad) c a A8 c8 kk p x _ (HC.out.below hB) hn (HR.out.below hB) hna hkk hP.out hX.out false hfit).mono ?_;rintro _ w11 ⟨rfl,hb⟩;replace hB:=bel_then hB hb;intro _ hf;refine a_not_ hf rfl rfl rfl ?_;clear hf;intro _ hf;refine wpList_nil ?_;simp only [Exit.then,Exit.inBlock];go_step;refine c_condT hf rfl ?_;refine wp_seq_k ?_;intro _ _;refine wp_region_lit ?_;refine a_assign hf rfl rfl rfl ?_;clear hf;intro _ hf;refine wpList_nil ?_;simp only [Exit.then,Exit.inBlock];go_step;refine wp_ret ?_
            try simp only [Exit.then,Exit.inBlock]
            exact c_ret hf rfl rfl ⟨ret_eq (by rw [HE.out]),hB⟩
          | true =>
            have HE:=Aside.mk (show refusedR C acts a = 0 by rw [HRE.out];simp [refCase,q5,hl6,hl3,hl4,hl5,e4,e5,hfit]);refine wp_region_lit ?_;refine a_load33b hf rfl rfl (by exact h3) rfl ?_;clear hf;intro _ hf;refine a_move hf rfl rfl rfl ?_;clear hf;intro _ hf;refine a_load43b hf rfl rfl (by exact h5) rfl ?_;clear hf;intro _ hf;refine a_call3 hf e60 rfl rfl rfl rfl rfl ?_;clear hf;refine (fits_any C A1 c1 acts (some ad) c a A8 c8 kk p x _ (HC.out.below hB) hn (HR.out.below hB) hna hkk hP.out hX.out true hfit).mono ?_;rintro _ w11 ⟨rfl,hb⟩;replace hB:=bel_then hB hb;intro _ hf;refine a_not_ hf rfl rfl rfl ?_;clear hf;intro _ hf;refine wpList_nil ?_;simp only [Exit.then,Exit.inBlock];go_step;refine c_condF hf rfl ?_;refine wp_skip ?_;simp only [Exit.then,Exit.inBlock];go_step;refine wp_seq_k ?_;intro _ _;refine wp_region_lit ?_;refine a_assign hf rfl rfl rfl ?_;clear hf;intro _ hf;refine wpList_nil ?_;simp only [Exit.then,Exit.inBlock];go_step;refine wp_ret ?_
            try simp only [Exit.then,Exit.inBlock]
            exact c_ret hf rfl rfl ⟨ret_eq (by rw [HE.out]),hB⟩
    have q6 : a.kind = 6:=by omega
    refine wp_seq_k ?_;intro _ _;refine wp_region_lit ?_;refine a_cmp (b:=false) hf rfl rfl rfl rfl rfl (by first | assumption | ((try dsimp only);simp only [bq1,bq2,bq3,bq4,bq5,bq6,bq7] <;> omega)) rfl ?_;clear hf;intro _ hf;refine a_assign hf rfl rfl rfl ?_;clear hf;intro _ hf;refine wpList_nil ?_;simp only [Exit.then,Exit.inBlock];go_step;refine c_condF hf rfl ?_;refine wp_seq_k ?_;intro _ _;refine wp_region_lit ?_;refine a_cmp (b:=false) hf rfl rfl rfl rfl rfl (by first | assumption | ((try dsimp only);simp only [bq1,bq2,bq3,bq4,bq5,bq6,bq7] <;> omega)) rfl ?_;clear hf;intro _ hf;refine a_assign hf rfl rfl rfl ?_;clear hf;intro _ hf;refine wpList_nil ?_;simp only [Exit.then,Exit.inBlock];go_step;refine c_condF hf rfl ?_;refine wp_seq_k ?_;intro _ _;refine wp_region_lit ?_;refine a_cmp (b:=false) hf rfl rfl rfl rfl rfl (by first | assumption | ((try dsimp only);simp only [bq1,bq2,bq3,bq4,bq5,bq6,bq7] <;> omega)) rfl ?_;clear hf;intro _ hf;refine a_assign hf rfl rfl rfl ?_;clear hf;intro _ hf;refine wpList_nil ?_;simp only [Exit.then,Exit.inBlock];go_step;refine c_condF hf rfl ?_;refine wp_seq_k ?_;intro _ _;refine wp_region_lit ?_;refine a_cmp (b:=true) hf rfl rfl rfl rfl rfl (by first | assumption | ((try dsimp only);simp only [bq1,bq2,bq3,bq4,bq5,bq6,bq7] <;> omega)) rfl ?_;clear hf;intro _ hf;refine a_assign hf rfl rfl rfl ?_;clear hf;intro _ hf;refine wpList_nil ?_;simp only [Exit.then,Exit.inBlock];go_step;refine c_condT hf rfl ?_;refine wp_seq_k ?_;intro _ _;refine wp_seq_k ?_;intro _ _
    cases b6 with
    | true =>
      have e6 : 0 ≤ l6:=by simpa using hb6
      have HE:=Aside.mk (show refusedR C acts a = 6 by rw [HRE.out];simp [refCase,q6,hl6,hl3,hl4,hl5,e6]);refine wp_region_lit ?_;refine a_move hf rfl rfl rfl ?_;clear hf;intro _ hf;refine a_move hf rfl rfl rfl ?_;clear hf;intro _ hf
      (first | refine a_not hf rfl rfl rfl ?_ | refine a_move hf rfl rfl rfl ?_);clear hf;intro _ hf
      (first | refine a_not hf rfl rfl rfl ?_ | refine a_cmp hf rfl rfl rfl rfl rfl rfl rfl ?_);clear hf;intro _ hf
      (first | refine a_pickT hf rfl rfl rfl rfl ?_ | refine a_pickF hf rfl rfl rfl rfl ?_);clear hf;intro _ hf
      refine wpList_nil ?_;simp only [Exit.then,Exit.inBlock];go_step;refine c_condT hf rfl ?_;refine wp_seq_k ?_;intro _ _;refine wp_region_lit ?_;refine a_assign hf rfl rfl rfl ?_;clear hf;intro _ hf;refine wpList_nil ?_;simp only [Exit.then,Exit.inBlock];go_step;refine wp_ret ?_
      try simp only [Exit.then,Exit.inBlock]
      exact c_ret hf rfl rfl ⟨ret_eq (by rw [HE.out]),hB⟩
    | false =>
      have e6 : ¬ 0 ≤ l6:=by simpa using hb6
      by_cases e3 : 0 ≤ l3
      · have HE:=Aside.mk (show refusedR C acts a = 6 by rw [HRE.out];simp [refCase,q6,hl6,hl3,hl4,hl5,e6,e3])
        refine wp_region_lit ?_;refine a_move hf rfl rfl rfl ?_;clear hf;intro _ hf;refine a_move hf rfl rfl rfl ?_;clear hf;intro _ hf
        (first | refine a_not hf rfl rfl rfl ?_ | refine a_move hf rfl rfl rfl ?_);clear hf;intro _ hf
        (first | refine a_not hf rfl rfl rfl ?_ | refine a_cmp (b:=true) hf rfl rfl rfl rfl rfl (by first | assumption | ((try dsimp only);simp only [bq1,bq2,bq3,bq4,bq5,bq6,bq7] <;> omega)) rfl ?_);clear hf;intro _ hf
        (first | refine a_pickT hf rfl rfl rfl rfl ?_ | refine a_pickF hf rfl rfl rfl rfl ?_);clear hf;intro _ hf
        refine wpList_nil ?_;simp only [Exit.then,Exit.inBlock];go_step;refine c_condT hf rfl ?_;refine wp_seq_k ?_;intro _ _;refine wp_region_lit ?_;refine a_assign hf rfl rfl rfl ?_;clear hf;intro _ hf;refine wpList_nil ?_;simp only [Exit.then,Exit.inBlock];go_step;refine wp_ret ?_
        try simp only [Exit.then,Exit.inBlock]
        exact c_ret hf rfl rfl ⟨ret_eq (by rw [HE.out]),hB⟩
      refine wp_region_lit ?_;refine a_move hf rfl rfl rfl ?_;clear hf;intro _ hf;refine a_move hf rfl rfl rfl ?_;clear hf;intro _ hf
      (first | refine a_not hf rfl rfl rfl ?_ | refine a_move hf rfl rfl rfl ?_);clear hf;intro _ hf
      (first | refine a_not hf rfl rfl rfl ?_ | refine a_cmp (b:=false) hf rfl rfl rfl rfl rfl (by first | assumption | ((try dsimp only);simp only [bq1,bq2,bq3,bq4,bq5,bq6,bq7] <;> omega)) rfl ?_);clear hf;intro _ hf
      (first | refine a_pickT hf rfl rfl rfl rfl ?_ | refine a_pickF hf rfl rfl rfl rfl ?_);clear hf;intro _ hf
      refine wpList_nil ?_;simp only [Exit.then,Exit.inBlock];go_step;refine c_condF hf rfl ?_;refine wp_skip ?_;simp only [Exit.then,Exit.inBlock];go_step;refine wp_seq_k ?_;intro _ _
      by_cases qb : a.by_ = x.by_
      · have HE:=Aside.mk (show refusedR C acts a = 0 by rw [HRE.out];simp [refCase,q6,hl6,hl3,hl4,hl5,e6,e3,qb])
        refine wp_region_lit ?_;refine a_field hf rfl rfl rfl rfl ?_;clear hf;intro _ hf;refine a_load hf rfl rfl rfl (by exact blk_cell h5 4) rfl ?_;clear hf;intro _ hf;refine a_field hf rfl rfl rfl rfl ?_;clear hf;intro _ hf;refine a_load hf rfl rfl rfl (by exact blk_cell h11 4) rfl ?_;clear hf;intro _ hf;refine a_cmp (b:=false) hf rfl rfl rfl rfl rfl (by first | assumption | ((try dsimp only);simp only [bq1,bq2,bq3,bq4,bq5,bq6,bq7] <;> omega)) rfl ?_;clear hf;intro _ hf;refine wpList_nil ?_;simp only [Exit.then,Exit.inBlock];go_step;refine c_condF hf rfl ?_;refine wp_skip ?_;simp only [Exit.then,Exit.inBlock];go_step;refine wp_seq_k ?_;intro _ _;refine wp_region_lit ?_;refine a_assign hf rfl rfl rfl ?_;clear hf;intro _ hf;refine wpList_nil ?_;simp only [Exit.then,Exit.inBlock];go_step;refine wp_ret ?_
        try simp only [Exit.then,Exit.inBlock]
        exact c_ret hf rfl rfl ⟨ret_eq (by rw [HE.out]),hB⟩
      · have HE:=Aside.mk (show refusedR C acts a = 7 by rw [HRE.out];simp [refCase,q6,hl6,hl3,hl4,hl5,e6,e3,qb])
        refine wp_region_lit ?_;refine a_field hf rfl rfl rfl rfl ?_;clear hf;intro _ hf;refine a_load hf rfl rfl rfl (by exact blk_cell h5 4) rfl ?_;clear hf;intro _ hf;refine a_field hf rfl rfl rfl rfl ?_;clear hf;intro _ hf;refine a_load hf rfl rfl rfl (by exact blk_cell h11 4) rfl ?_;clear hf;intro _ hf;refine a_cmp (b:=true) hf rfl rfl rfl rfl rfl (by first | assumption | ((try dsimp only);simp only [bq1,bq2,bq3,bq4,bq5,bq6,bq7] <;> omega)) rfl ?_;clear hf;intro _ hf;refine wpList_nil ?_;simp only [Exit.then,Exit.inBlock];go_step;refine c_condT hf rfl ?_;refine wp_seq_k ?_;intro _ _;refine wp_region_lit ?_;refine a_assign hf rfl rfl rfl ?_;clear hf;intro _ hf;refine wpList_nil ?_;simp only [Exit.then,Exit.inBlock];go_step;refine wp_ret ?_
        try simp only [Exit.then,Exit.inBlock]
        exact c_ret hf rfl rfl ⟨ret_eq (by rw [HE.out]),hB⟩
end Go.Proofs.Ytpadgcomncljmaa.A
/- Plain law: what the reference refuses is what the court refuses. -/
namespace Go.Proofs.Ytpadgcomncljmaa.A
open Go.RowKit
theorem pub_both (p : Int) : ∀ (l : List ActL) (i : Int), (pubGo p l i = -1 ∧ l.find? (isPub p) = none) ∨ ∃ (j : Nat) (x : ActL), l[j]? = some x ∧ pubGo p l i = i + j ∧ l.find? (isPub p) = some x
  | [],i => .inl ⟨rfl,rfl⟩
  | y :: l,i => by
    by_cases h : y.kind = 1 ∧ y.paper = p
    · exact .inr ⟨0,y,rfl,by rw [pub_hit h.1 h.2];simp,by simp [List.find?,isPub,h.1,h.2]⟩
    · have h' : isPub p y = false:=by simp only [isPub,Bool.and_eq_false_iff,beq_eq_false_iff_ne];by_cases h1 : y.kind = 1 <;> simp_all
      rw [pub_miss h]
      rcases pub_both p l (i + 1) with ⟨h1,h2⟩ | ⟨j,x,h1,h2,h3⟩
      · exact .inl ⟨h1,by simp [List.find?,h',h2]⟩
      · exact .inr ⟨j + 1,x,by simpa using h1,by push_cast;omega,by simp [List.find?,h',h3]⟩
section
variable {C : CodeL} {acts : List ActL} {files : List FileL} {a : ActL}
theorem Inv.lastM (H : Inv C acts files) {k : Int} {p : Nat} {l : List Int} {d : Int → Option Nat} (h5 : CaseI acts k p l d) {q : Int} (h3 : 3 ≤ q) (h6 : q ≤ 6) : lastM q k acts = match d q with | none => -1 | some i => (i : Int):=by
  have:=h5.last h3 h6 10000000
  unfold lastR at this
  unfold A.lastM
  rw [this]
  cases hd : d q with
  | none => rfl
  | some i =>
    obtain ⟨x,hx,_,_,ha⟩:=h5.look h3 h6 hd
    have:=(H.minute x (List.mem_of_getElem? hx)).2;simp only [ha];rw [if_pos this]
theorem Inv.fits (H : Inv C acts files) {f : FileL} {p : Nat} {x : ActL} (hp : f.protest = p) (hx : acts[p]? = some x) (hv : 0 ≤ verAt C.arts x.art x.at_) : fitsB C x a = !penBad C acts f a:=by
  have hvl:=(verAt_lt C.arts x.art x.at_).1
  obtain ⟨v,hv'⟩:=get_some (l:=C.arts) (k:=(verAt C.arts x.art x.at_).toNat) (by omega)
  have hvo:=verO_at x.art x.at_ C.arts;rw [if_pos hv] at hvo
  unfold fitsB penBad
  rw [hp,Int.toNat_natCast,hx];simp only [hv',hvo,artAt,Option.getD_some,badPen]
  cases a.up <;> simp [bne]
theorem Inv.refused (H : Inv C acts files) : refusedR C acts a = (numE (doR C acts files a)).2:=by
  unfold refusedR doR
  have hbb : badB C acts a = badR C acts a:=rfl;rw [hbb]
  cases hbad : badR C acts a with
  | true => rfl
  | false =>
  simp only [Bool.false_eq_true,if_false]
  by_cases h2 : 2000 ≤ acts.length
  · rw [if_pos h2,if_pos h2];rfl
  rw [if_neg h2,if_neg h2];have hshp : shapedB C.cars a = true:=by simp only [badR,Bool.or_eq_false_iff,Bool.not_eq_false'] at hbad;exact hbad.1
  obtain ⟨⟨hk1,hk6⟩,hm0,hm1,hcase⟩:=shaped_facts hshp
  unfold actR
  have hpub : (pubGo a.paper acts 0 = -1 ∧ pubMin acts a.paper = -1) ∨ (0 ≤ pubGo a.paper acts 0 ∧ 0 ≤ pubMin acts a.paper ∧ (actAt acts (pubGo a.paper acts 0)).minute = pubMin acts a.paper):=by
    unfold pubMin
    rcases pub_both a.paper acts 0 with ⟨h1,h2⟩ | ⟨j,x,h1,h2,h3⟩
    · left;rw [h2];exact ⟨h1,rfl⟩
    · right
      rw [h3];have:=H.minute x (List.mem_of_getElem? h1);exact ⟨by omega,this.1,by rw [actAt_some (by omega) h1]⟩
  by_cases q1 : a.kind = 1
  · rw [if_pos q1,if_pos q1]
    unfold publishR
    rcases hpub with ⟨h1,h2⟩ | ⟨h1,h2,_⟩
    · rw [h1,h2];rfl
    · rw [if_pos h1,if_pos h2];rfl
  rw [if_neg q1,if_neg q1]
  by_cases q2 : a.kind = 2
  · rw [if_pos q2,if_pos q2]
    unfold refPub protestR
    have hvo:=verO_at a.art a.at_ C.arts
    rcases hpub with ⟨h1,h2⟩ | ⟨h1,h2,h3⟩
    · rw [h1,h2];rfl
    · rw [if_neg (by omega),h3]
      by_cases hv : 0 ≤ verAt C.arts a.art a.at_
      · rw [if_pos hv] at hvo
        have n2 : ¬ (pubMin acts a.paper < 0 ∨ verAt C.arts a.art a.at_ < 0):=by omega
        rw [hvo,if_neg n2]
        by_cases hw : C.win < a.minute - pubMin acts a.paper
        · simp [hw,numE]
        by_cases hf : a.paid = C.fee <;> simp [hw,hf,numE]
      · rw [if_neg hv] at hvo
        rw [hvo,if_pos rfl,if_pos (.inr (by omega))];rfl
  rw [if_neg q2,if_neg q2];have hc0:=hcase q1 q2;have hlen : (protGo acts 0).length = files.length:=by rw [← H.prot,List.length_map]
  rw [hlen]
  by_cases hc : (files.length : Int) ≤ a.case_
  · have hn : files[a.case_.toNat]? = none:=List.getElem?_eq_none (by omega)
    rw [if_pos hc]
    unfold rulingR appealR dropR
    rw [hn]
    simp only
    split
    · rfl
    split
    · rfl
    split <;> rfl
  rw [if_neg hc]
  obtain ⟨f,hf⟩:=get_some (l:=files) (k:=a.case_.toNat) (by omega)
  obtain ⟨p,x,d,e1,e2,e3,e4,e5,hs⟩:=H.file_at hf
  have hcN : ((a.case_.toNat : Nat) : Int) = a.case_:=by omega
  have hpi : (protGo acts 0)[a.case_.toNat]? = some (p : Int):=by rw [← H.prot,List.getElem?_map,hf,← e1];rfl
  have hxa : actAt acts ((protGo acts 0)[a.case_.toNat]?.getD 0) = x:=by rw [hpi];exact actAt_some rfl e2
  have hxf : actAt acts f.protest = x:=actAt_some e1 e2;rw [hxa];have hst:=H.lastOf hf e1 e5;have hft:=H.fits (a:=a) e1 e2 e4;have l3:=H.lastM e5 (q:=3) (by decide) (by decide);have l4:=H.lastM e5 (q:=4) (by decide) (by decide);have l5:=H.lastM e5 (q:=5) (by decide) (by decide);have l6:=H.lastM e5 (q:=6) (by decide) (by decide);rw [hcN] at l3 l4 l5 l6
  unfold refCase rulingR appealR dropR
  simp only [hf,hst.1,hft,l3,l4,l5,l6,hxf];have h35 : ¬ a.kind = 3 → ¬ a.kind = 4 → ¬ a.kind = 5 → a.kind = 6:=by omega
  cases hs with
  | open_ d6 d3 d4 d5 =>
    simp only [stOf,d3,d4,d5,d6]
    by_cases q3 : a.kind = 3
    · cases hpb : penBad C acts f a <;> simp [q3,numE]
    by_cases q4 : a.kind = 4
    · simp [q4,numE]
    by_cases q5 : a.kind = 5
    · simp [q5,numE]
    · by_cases qb : a.by_ = x.by_ <;> simp [h35 q3 q4 q5,numE,qb]
  | drop i d6 d3 d4 d5 =>
    simp only [stOf,d3,d4,d5,d6]
    by_cases q3 : a.kind = 3
    · simp [q3,numE]
    by_cases q4 : a.kind = 4
    · simp [q4,numE]
    by_cases q5 : a.kind = 5
    · simp [q5,numE]
    · simp [h35 q3 q4 q5,numE]
  | dec i d6 d3 d4 d5 =>
    have hlm:=hst.2 i d3 d4;simp only [stOf,d3,d4,d5,d6,hlm]
    by_cases q3 : a.kind = 3
    · simp [q3,numE]
    by_cases q4 : a.kind = 4
    · have hi0 : ¬ (i : Int) < 0:=by omega
      by_cases qb : a.by_ ≠ x.by_ ∧ a.by_ ≠ x.against
      · simp [q4,numE,qb,hi0]
      · by_cases qs : C.sec < a.minute - (actAt acts i).minute
        · simp [q4,numE,qb,qs,hi0]
        · by_cases qp : a.paid = C.price <;> simp [q4,numE,qb,qs,qp,hi0]
    by_cases q5 : a.kind = 5
    · simp [q5,numE]
    · simp [h35 q3 q4 q5,numE]
  | app i j d6 d3 d4 d5 o =>
    simp only [stOf,d3,d4,d5,d6]
    by_cases q3 : a.kind = 3
    · simp [q3,numE]
    by_cases q4 : a.kind = 4
    · simp [q4,numE]
    by_cases q5 : a.kind = 5
    · cases hpb : penBad C acts f a <;> simp [q5,numE]
    · simp [h35 q3 q4 q5,numE]
  | jud i j n d6 d3 d4 d5 o o' =>
    simp only [stOf,d3,d4,d5,d6]
    by_cases q3 : a.kind = 3
    · simp [q3,numE]
    by_cases q4 : a.kind = 4
    · simp [q4,numE]
    by_cases q5 : a.kind = 5
    · simp [q5,numE]
    · simp [h35 q3 q4 q5,numE]
end
end Go.Proofs.Ytpadgcomncljmaa.A
/- Replay: a court that has done acts. -/
namespace Go.Proofs.Ytpadgcomncljmaa.A
open Go.RowKit
theorem doR_err {C : CodeL} {acts : List ActL} {files : List FileL} {a : ActL} {e : Int} (h : doR C acts files a = .error e) : e ≠ 0:=by
  unfold doR actR publishR protestR rulingR appealR dropR at h
  repeat' split at h
  all_goals first | (cases h;decide) | cases h
theorem c_ret3 {P : Program} {fn : Func} {n : Nat} {l : List (Nat × Value)} {a : Act} {w : World} {R : Ending → World → Prop} {s1 s2 s3 : Nat} {v1 v2 v3 : Value} (H : Has n [] l a) (hr : fn.results = #[.tmp s1,.tmp s2,.tmp s3]) (h1 : look l s1 = some v1) (h2 : look l s2 = some v2) (h3 : look l s3 = some v3) (h : R (.returned (.tuple #[v1,v2,v3])) w) : bodyPost P fn R .ret a w :=
  bodyPost_ret ((results_tmp3 hr _ _ _).trans (by have e1:=H.at_ s1 v1 h1;have e2:=H.at_ s2 v2 h2;have e3:=H.at_ s3 v3 h3;rw [← e1,← e2,← e3];rfl)) H.defers h
end Go.Proofs.Ytpadgcomncljmaa.A
/- What a court that is not there,or one whose questions are out of bounds,answers. -/
namespace Go.Proofs.Ytpadgcomncljmaa.A
open Go.RowKit
set_option maxHeartbeats 1000000 in
set_option maxRecDepth 100000 in
theorem state_out (p : Option Addr) (num min : Int) (w : World) (hr : Calls Try.prog 61 #[.pointer p] w fun r w' => r = .returned (.bool true) ∧ w = w') (hm : inB min 0 10000000 = false) :
    Calls Try.prog 31 #[.pointer p,.int .i64 num,.int .i64 min] w fun e w' => e = .returned (.tuple #[.int .i64 0,.int .i64 2]) ∧ w = w':=by
  have HR:=Aside.mk hr;clear hr
  go_enter Try.func31,Try.ntmps31
  refine wp_abs (n:=48) (ds:=[]) (l:=[(0,.pointer p),(1,.int .i64 num),(2,.int .i64 min)]) ?_ ?_
  · refine (((Has.nil ?_ ?_).cons ?_).cons ?_).cons ?_
    all_goals first | rfl | (simp [Act.eval];done)
  intro _ hf;refine wp_seq_k ?_;intro _ _;refine wp_region_lit ?_;refine a_assign hf rfl rfl rfl ?_;clear hf;intro _ hf;refine a_assign hf rfl rfl rfl ?_;clear hf;intro _ hf;refine wpList_nil ?_;simp only [Exit.then,Exit.inBlock];go_step;refine wp_seq_k ?_;intro _ _;refine wp_seq_k ?_;intro _ _;refine wp_region_lit ?_;refine a_move hf rfl rfl rfl ?_;clear hf;intro _ hf;refine a_call1 hf e61 rfl rfl rfl ?_;clear hf;refine HR.out.mono ?_;rintro _ w1 ⟨rfl,rfl⟩;intro _ hf;refine a_not_ hf rfl rfl rfl ?_;clear hf;intro _ hf;refine wpList_nil ?_;simp only [Exit.then,Exit.inBlock];go_step;refine c_condF hf rfl ?_;refine wp_skip ?_;simp only [Exit.then,Exit.inBlock];go_step;refine wp_seq_k ?_;intro _ _;refine wp_seq_k ?_;intro _ _;refine wp_region_lit ?_;refine a_move hf rfl rfl rfl ?_;clear hf;intro _ hf;refine a_call3 hf e52 rfl rfl rfl rfl rfl ?_;clear hf;refine (within_as min 0 10000000 false hm _).mono ?_;rintro _ w1 ⟨rfl,rfl⟩;intro _ hf;refine a_not_ hf rfl rfl rfl ?_;clear hf;intro _ hf;refine wpList_nil ?_;simp only [Exit.then,Exit.inBlock];go_step;refine c_condT hf rfl ?_;refine wp_seq_k ?_;intro _ _;refine wp_region_lit ?_;refine a_assign hf rfl rfl rfl ?_;clear hf;intro _ hf;refine a_assign hf rfl rfl rfl ?_;clear hf;intro _ hf;refine wpList_nil ?_;simp only [Exit.then,Exit.inBlock];go_step;refine wp_ret ?_;simp only [Exit.then];exact c_ret2 hf rfl rfl rfl ⟨rfl,rfl⟩
end Go.Proofs.Ytpadgcomncljmaa.A
/- Acts: the record,copied. -/
namespace Go.Proofs.Ytpadgcomncljmaa.A
open Go.RowKit
theorem a_one34 {ops : Array Oper} {Q : Exit → Act → World → Prop} {a : Act} {w : World} {rest : List Oper} {n d : Nat} {ds : List Deferred} {l : List (Nat × Value)} {t : TypeId} {ps : String} {af : Array Edge} {g : Option (Nat × Bool)} {x : Operand} {v0 v1 v2 v3 v4 v5 v6 v7 v8 v9 v10 v11 : Value} (H : Has n ds l a) (hg : wantB ops n l g = some true) (hx : lookO l x = some (.agg #[v0,v1,v2,v3,v4,v5,v6,v7,v8,v9,v10,v11])) (hd : Nat.ble (d + 1) n = true) (h : ∀ a',Has n ds ((d,.slice (some ⟨w.heap.size,0,none⟩) 1 1) :: l) a' → wpList Try.prog ops Q rest a' (w.alloc (.cells #[v0,v1,v2,v3,v4,v5,v6,v7,v8,v9,v10,v11] 43))) : wpList Try.prog ops Q (⟨some d,.buildSlice 34 1 #[(0,x)],t,ps,af,g⟩ :: rest) a w :=
  a_do H hg (x_one34 H hx) rfl hd h
end Go.Proofs.Ytpadgcomncljmaa.A
/- A court among other memory: which blocks are its own. -/
namespace Go.Proofs.Ytpadgcomncljmaa.A
open Go.RowKit
def CrtO (O : Nat → Prop) (w : World) (g : Nat) (C : CodeL) (acts : List ActL) (files : List FileL) : Prop :=
  Inv C acts files ∧ ∃ (F D : Nat → Prop) (A1 : Option Addr) (c1 : Nat) (B7 : Option Addr) (d7 : Nat) (B8 : Option Addr) (d8 : Nat) (cs : List (List Value)) (rows : List Value),
    CourtP F D w g C acts files A1 c1 B7 d7 B8 d8 cs rows ∧ (∀ k,F k → O k) ∧ ∀ k,D k → O k
section
variable {O O' : Nat → Prop} {w w' : World} {g : Nat} {C : CodeL} {acts : List ActL} {files : List FileL}
theorem CrtO.reads (h : CrtO O w g C acts files) : CourtR w g C acts files:=by
  obtain ⟨hi,_,_,_,_,_,_,_,_,_,_,hp,_⟩:=h
  exact hp.reads (by have:=hi.len;omega) hi.files_le
theorem CrtO.below (h : CrtO O w g C acts files) (hb : Below w.heap.size w w') : CrtO O w' g C acts files:=by
  obtain ⟨hi,F,D,A1,c1,B7,d7,B8,d8,cs,rows,hp,h1,h2⟩:=h
  exact ⟨hi,F,D,A1,c1,B7,d7,B8,d8,cs,rows,hp.below hb,h1,h2⟩
theorem CrtO.keep {F' : Nat → Prop} (h : CrtO O w g C acts files) (hm : Mod F' w w') (hne : ∀ k,O k → ¬ F' k) : CrtO O w' g C acts files:=by
  obtain ⟨hi,F,D,A1,c1,B7,d7,B8,d8,cs,rows,hp,h1,h2⟩:=h
  exact ⟨hi,F,D,A1,c1,B7,d7,B8,d8,cs,rows,hp.keep hm (fun k hk => hne k (h1 k hk)) (fun k hk => hne k (h2 k hk)),h1,h2⟩
theorem CrtO.mono (h : CrtO O w g C acts files) (hO : ∀ k,O k → k < w.heap.size → O' k) : CrtO O' w g C acts files:=by
  obtain ⟨hi,F,D,A1,c1,B7,d7,B8,d8,cs,rows,hp,h1,h2⟩:=h
  exact ⟨hi,F,D,A1,c1,B7,d7,B8,d8,cs,rows,hp,fun k hk => hO k (h1 k hk) (hp.lt k hk),fun k hk => hO k (h2 k hk) (hp.ltD k hk)⟩
theorem CrtO.toCrt {n0 : Nat} (h : CrtO O w g C acts files) (hO : ∀ k,O k → n0 ≤ k) : Crt n0 w g C acts files:=by
  obtain ⟨hi,F,D,A1,c1,B7,d7,B8,d8,cs,rows,hp,h1,h2⟩:=h
  exact ⟨hi,F,D,A1,c1,B7,d7,B8,d8,cs,rows,hp,fun k hk => hO k (h1 k hk),fun k hk => hO k (h2 k hk)⟩
end
def grow (O : Nat → Prop) (w w' : World) : Nat → Prop:=fun k => (O k ∨ w.heap.size ≤ k) ∧ k < w'.heap.size
theorem do_crtO (O : Nat → Prop) (g : Nat) (C : CodeL) (acts : List ActL) (files : List FileL) (a : ActL) (A8 : Option Addr) (c8 : Nat) (w : World) (h : CrtO O w g C acts files)
    (hf8 : RI (fun k => ¬ O k) w A8 a.facts) (hc8 : a.facts.length ≤ c8) (hf9 : a.facts.length ≤ 1000000) :
    Calls Try.prog 26 #[.pointer (some ⟨g, 0, none⟩), .agg #[.int .i64 a.kind, .int .i64 a.minute, .int .i64 a.paper, .int .i64 a.case_, .int .i64 a.by_, .int .i64 a.against, .int .i64 a.art, .int .i64 a.at_, .slice A8 a.facts.length c8, .int .i64 a.paid, .bool a.up, .int .i64 a.pen]] w
      fun e w' => e = .returned (.tuple #[.int .i64 (numE (doR C acts files a)).1,.int .i64 (numE (doR C acts files a)).2]) ∧ Mod O w w' ∧ CrtO (grow O w w') w' g C (doActs C acts files a) (doFiles C acts files a):=by
  have hi2:=inv_do h.1 a
  obtain ⟨hi,F,D,A1,c1,B7,d7,B8,d8,cs,rows,hp,h1,h2⟩:=h
  refine (do_any F D g C acts files a A8 c8 w A1 c1 B7 d7 B8 d8 cs rows hp hi.wf (by have:=hi.len;omega) hi.files_le (hf8.mono fun k hk _ hF => hk (h1 k hF)) hc8 hf9).mono ?_
  rintro e w' ⟨he,hno,hyes⟩
  refine ⟨he,?_⟩
  unfold doActs doFiles at hi2 ⊢
  cases hd : doR C acts files a with
  | error er =>
    have hb:=hno er hd;have hp':=hp.below hb;exact ⟨Mod.of_below hb,hi,F,D,A1,c1,B7,d7,B8,d8,cs,rows,hp',fun k hk => ⟨.inl (h1 k hk),hp'.lt k hk⟩,fun k hk => ⟨.inl (h2 k hk),hp'.ltD k hk⟩⟩
  | ok n =>
    rw [hd] at hi2
    obtain ⟨F',D',A1',c1',B7',d7',B8',d8',cs',rows',hp',hM,hF,hD⟩:=hyes n hd
    refine ⟨hM.mono (fun k _ hk => h1 k hk),hi2,F',D',A1',c1',B7',d7',B8',d8',cs',rows',hp',fun k hk => ⟨?_,hp'.lt k hk⟩,fun k hk => ⟨?_,hp'.ltD k hk⟩⟩
    · exact (hF k hk).imp (h1 k) id
    · exact (hD k hk).imp (h2 k) id
theorem open_crtO (C : CodeL) (A : Option Addr) (c : Nat) (w : World) (hl : RArt Any w A C.arts) (hn : C.arts.length ≤ 1000000) (hc : codeOk C = true) : Calls Try.prog 24 #[codeV C A c] w fun e w' => Below w.heap.size w w' ∧ ∃ g,e = .returned (.tuple #[.pointer (some ⟨g,0,none⟩),.int .i64 0]) ∧ CrtO (fun k => w.heap.size ≤ k ∧ k < w'.heap.size) w' g C [] []:=by
  refine (open_any C A c w hl hn).mono ?_
  rintro e w' ⟨hb,h1,h2⟩
  refine ⟨hb,?_⟩
  obtain ⟨g,A',c',he,hg,hp⟩:=h2 hc
  exact ⟨g,he,Inv.nil hc,_,_,A',c',none,0,none,0,[],[],hp,fun k hk => ⟨by omega,hp.lt k hk⟩,fun k hk => ⟨Nat.le_of_lt hk.1,hp.ltD k hk⟩⟩
end Go.Proofs.Ytpadgcomncljmaa.A
/- The reference: a record of acts,those that are refused left out. -/
namespace Go.Proofs.Ytpadgcomncljmaa.A
open Go.RowKit
theorem info24 : (Try.prog.info? 24).map (fun i => (i.zero,i.size,i.bytes)) = some (some (.int .i64 0),1,8):=by kernel_rfl
theorem a_one79 {ops : Array Oper} {Q : Exit → Act → World → Prop} {a : Act} {w : World} {rest : List Oper} {n d : Nat} {ds : List Deferred} {l : List (Nat × Value)} {t : TypeId} {ps : String} {af : Array Edge} {g : Option (Nat × Bool)} {x : Operand} {v : Int} (H : Has n ds l a) (hg : wantB ops n l g = some true) (hx : lookO l x = some (.int .i64 v)) (hd : Nat.ble (d + 1) n = true) (h : ∀ a',Has n ds ((d,.slice (some ⟨w.heap.size,0,none⟩) 1 1) :: l) a' → wpList Try.prog ops Q rest a' (w.alloc (.cells #[.int .i64 v] 24))) : wpList Try.prog ops Q (⟨some d,.buildSlice 79 1 #[(0,x)],t,ps,af,g⟩ :: rest) a w :=
  a_do H hg (by have hx:=H.evO hx;generalize a.eval = ev at hx;simp [go_sem,hx]) rfl hd h
theorem own_errs {w : World} {base : Nat} {v : Value} {xs : List Int} (h : w.ownsRow base 24 1 v xs.length (ints xs)) :
    ∃ A c,v = .slice A xs.length c ∧ xs.length ≤ c ∧ RI Any w A xs:=by
  obtain ⟨A,c,rfl,hn,_,hc⟩:=own_form h
  refine ⟨A,c,rfl,hn,fun i x hx => ?_⟩
  obtain ⟨g,rfl,hg,hcell⟩:=hc i (.int .i64 x) (by simp [ints,hx])
  exact ⟨_,rfl,trivial,by rw [add_at];exact hcell⟩
abbrev RunS:=List ActL × List FileL × List Int
def stepT (C : CodeL) (s : RunS) (a : ActL) : RunS:=(doActs C s.1 s.2.1 a,doFiles C s.1 s.2.1 a,s.2.2 ++ [(numE (doR C s.1 s.2.1 a)).2])
def runT (C : CodeL) (l : List ActL) : RunS:=l.foldl (stepT C) ([],[],[])
theorem runT_snoc (C : CodeL) (l : List ActL) (x : ActL) : runT C (l ++ [x]) = stepT C (runT C l) x:=by simp [runT]
theorem runT_take {C : CodeL} {l : List ActL} {k : Nat} {x : ActL} (h : l[k]? = some x) : runT C (l.take (k + 1)) = stepT C (runT C (l.take k)) x:=by rw [drop_snoc h,runT_snoc]
theorem fold_errs (C : CodeL) : ∀ (l : List ActL) (s : RunS), ∃ t, (l.foldl (stepT C) s).2.2 = s.2.2 ++ t
  | [],s => ⟨[],by simp⟩
  | a :: l,s => by
    obtain ⟨t,ht⟩:=fold_errs C l (stepT C s a)
    exact ⟨[(numE (doR C s.1 s.2.1 a)).2] ++ t,by rw [List.foldl_cons,ht];simp [stepT]⟩
theorem runT_len (C : CodeL) (l : List ActL) : ∀ k, k ≤ l.length → (runT C (l.take k)).2.2.length = k ∧ (runT C (l.take k)).1.length ≤ k
  | 0,_ => by simp [runT]
  | k + 1,hk => by
    obtain ⟨x,hx⟩:=get_some (l:=l) (k:=k) (by omega)
    have ih:=runT_len C l k (by omega);rw [runT_take hx];refine ⟨by simp [stepT,ih.1],?_⟩
    have : (doActs C (runT C (l.take k)).1 (runT C (l.take k)).2.1 x).length ≤ (runT C (l.take k)).1.length + 1:=by
      unfold doActs
      cases doR C (runT C (l.take k)).1 (runT C (l.take k)).2.1 x <;> simp
    simp only [stepT]
    omega
theorem runT_err {C : CodeL} {l : List ActL} {k : Nat} {x : ActL} (h : l[k]? = some x) : (runT C l).2.2[k]? = some (numE (doR C (runT C (l.take k)).1 (runT C (l.take k)).2.1 x)).2:=by
  have hl:=(List.getElem?_eq_some_iff.1 h).1
  have e : runT C l = (l.drop (k + 1)).foldl (stepT C) (runT C (l.take (k + 1))):=by
    unfold runT
    rw [← List.foldl_append,List.take_append_drop]
  obtain ⟨t,ht⟩:=fold_errs C (l.drop (k + 1)) (runT C (l.take (k + 1)))
  rw [e,ht,runT_take h];have hlen:=(runT_len C l k (by omega)).1
  unfold stepT
  dsimp only
  rw [List.append_assoc,List.getElem?_append_right (by omega),hlen]
  simp
theorem runT_inv {C : CodeL} (hc : codeOk C = true) (l : List ActL) : ∀ k, k ≤ l.length → Inv C (runT C (l.take k)).1 (runT C (l.take k)).2.1
  | 0,_ => Inv.nil hc
  | k + 1,hk => by
    obtain ⟨x,hx⟩:=get_some (l:=l) (k:=k) (by omega)
    rw [runT_take hx];exact inv_do (runT_inv hc l k (by omega)) x
structure DoW (D : Nat → Prop) (base : Nat) (w : World) (acts : List ActL) (v : Value) (cs : List (List Value)) (es : List Int) (u : Value) : Prop where
  own : w.ownsRow base 43 12 v acts.length cs.flatten
  are : ActsAre D w acts cs
  eown : w.ownsRow base 24 1 u es.length (ints es)
  far : ∀ j,v.ownBlock = some j → ¬ u.ownBlock = some j
theorem DoW.below {D : Nat → Prop} {base : Nat} {w w' : World} {acts : List ActL} {v : Value} {cs : List (List Value)} {es : List Int} {u : Value} (h : DoW D base w acts v cs es u) (hb : Below w.heap.size w w') : DoW D base w' acts v cs es u :=
  ⟨own_below h.own hb,h.are.move (fun j _ hl => hb.block j hl),own_below h.eown hb,h.far⟩
theorem DoW.reads {D : Nat → Prop} {base : Nat} {w : World} {acts : List ActL} {v : Value} {cs : List (List Value)} {es : List Int} {u : Value} (h : DoW D base w acts v cs es u) : ∃ A c,v = .slice A acts.length c ∧ acts.length ≤ c ∧ RAct Any w A acts:=by
  obtain ⟨A,c,hv,hc,_,hr⟩:=own_acts h.own h.are
  exact ⟨A,c,hv,hc,hr⟩
set_option maxHeartbeats 4000000 in
set_option maxRecDepth 100000 in
theorem refDo_any (D : Nat → Prop) (C : CodeL) (A1 : Option Addr) (c1 : Nat) (l : List ActL) (A : Option Addr) (c : Nat) (w : World) (hC : RArt Any w A1 C.arts) (hn : C.arts.length ≤ 1000000) (hl : RAct D w A l) (hD : ∀ k, D k → k < w.heap.size) (hll : l.length ≤ 1000000) (hfw : ∀ x ∈ l, x.facts.length ≤ 1000000) (hcode : codeOk C = true) :
    Calls Try.prog 43 #[.agg #[.int .i64 C.cars,.slice A1 C.arts.length c1,.int .i64 C.win,.int .i64 C.sec,.int .i64 C.fee,.int .i64 C.price],.slice A l.length c] w fun e w' => Below w.heap.size w w' ∧ ∃ v cs u,e = .returned (.tuple #[v,u]) ∧ DoW D w.heap.size w' (runT C l).1 v cs (runT C l).2.2 u:=by
  have HC:=Aside.mk hC;have HL:=Aside.mk hl;have HF:=Aside.mk hfw;have h2 : (w.alloc (.cells #[.int .i64 C.cars,.slice A1 C.arts.length c1,.int .i64 C.win,.int .i64 C.sec,.int .i64 C.fee,.int .i64 C.price] 33)).heap[w.heap.size]? = some (.cells #[.int .i64 C.cars,.slice A1 C.arts.length c1,.int .i64 C.win,.int .i64 C.sec,.int .i64 C.fee,.int .i64 C.price] 33 (0,0)):=heap_alloc_new w _;have hB : Below w.heap.size w (w.alloc (.cells #[.int .i64 C.cars,.slice A1 C.arts.length c1,.int .i64 C.win,.int .i64 C.sec,.int .i64 C.fee,.int .i64 C.price] 33)):=bel_alloc (Below.refl _ _) _
  obtain ⟨i43,hi43,hz0,hz1,hz2⟩:=info_parts info43
  obtain ⟨i24,hi24,hy0,hy1,hy2⟩:=info_parts info24
  clear hC hl hfw
  go_enter Try.func43,Try.ntmps43
  refine wp_abs (n:=38) (ds:=[]) (l:=[(0,.agg #[.int .i64 C.cars,.slice A1 C.arts.length c1,.int .i64 C.win,.int .i64 C.sec,.int .i64 C.fee,.int .i64 C.price]),(1,.slice A l.length c)]) ?_ ?_
  · refine ((Has.nil ?_ ?_).cons ?_).cons ?_
    all_goals first | rfl | (simp [Act.eval];done)
  intro _ hf;refine wp_seq_k ?_;intro _ _;refine wp_region_lit ?_;refine a_box hf rfl rfl rfl rfl ?_;clear hf;intro _ hf;refine a_assign hf rfl rfl rfl ?_;clear hf;intro _ hf;refine a_assign hf rfl rfl rfl ?_;clear hf;intro _ hf;refine wpList_nil ?_;simp only [Exit.then,Exit.inBlock];go_step
  change Code.wp _ _ _ _ (w.alloc (.cells #[.int .i64 C.cars,.slice A1 C.arts.length c1,.int .i64 C.win,.int .i64 C.sec,.int .i64 C.fee,.int .i64 C.price] 33))
  generalize (w.alloc (.cells #[.int .i64 C.cars,.slice A1 C.arts.length c1,.int .i64 C.win,.int .i64 C.sec,.int .i64 C.fee,.int .i64 C.price] 33)) = W0 at *
  refine wp_seq_k ?_;intro _ _;refine wp_region_lit ?_;refine a_assign hf rfl rfl rfl ?_;clear hf;intro _ hf;refine wpList_nil ?_;simp only [Exit.then,Exit.inBlock];go_step;refine wp_seq_k ?_;intro _ _;refine wp_region_lit ?_;refine a_assign hf rfl rfl rfl ?_;clear hf;intro _ hf;refine wpList_nil ?_;simp only [Exit.then,Exit.inBlock];go_step;refine wp_seq_k ?_;intro _ _;refine wp_seq_k ?_;intro _ _;refine wp_region_lit ?_;refine a_assign hf rfl rfl rfl ?_;clear hf;intro _ hf;refine wpList_nil ?_;simp only [Exit.then,Exit.inBlock];go_step;refine wp_block ?_;refine wp_loop_ghost (fun m fr wr => ∃ (k : Nat) (acts : List ActL) (files : List FileL) (es : List Int) (v : Value) (cs : List (List Value)) (u : Value),k ≤ l.length ∧ m = l.length - k ∧ Has 38 [] [(8,.int .i64 (k : Int)),(7,u),(6,v),(2,.pointer (some ⟨w.heap.size,0,none⟩)),(1,.slice A l.length c)] fr ∧ Aside (runT C (l.take k) = (acts,files,es)) ∧ DoW D w.heap.size wr acts v cs es u ∧ wr.heap[w.heap.size]? = some (.cells #[.int .i64 C.cars,.slice A1 C.arts.length c1,.int .i64 C.win,.int .i64 C.sec,.int .i64 C.fee,.int .i64 C.price] 33 (0,0)) ∧ Below w.heap.size w wr) l.length ?_ ?_
  · exact ⟨0,[],[],[],_,[],_,Nat.zero_le _,rfl,((((((hf.nilOf).cons (d:=1) (hf.at_ 1 _ rfl)).cons (d:=2) (hf.at_ 2 _ rfl)).cons (d:=6) (hf.at_ 6 _ rfl)).cons (d:=7) (hf.at_ 7 _ rfl)).cons (d:=8) (hf.at_ 8 _ rfl)),⟨rfl⟩,⟨World.ownsRow_nil _ _ _ _,⟨rfl,fun i x hx => by simp at hx⟩,World.ownsRow_nil _ _ _ _,fun j hj => by simp [Value.ownBlock] at hj⟩,h2,hB⟩
  clear h2 hB hf
  rintro m fr wr ⟨k,acts,files,es,v,cs,u,hk',rfl,hf,HT,HW,h2,hB⟩
  have hlen:=runT_len C l k hk';have hi:=runT_inv hcode l k hk';rw [HT.out] at hlen hi
  dsimp only at hlen hi
  obtain ⟨hle,hla⟩:=hlen
  by_cases hlt : k < l.length
  · obtain ⟨x,hx⟩:=get_some hlt
    have hxf:=HF.out x (List.mem_of_getElem? hx);have hst:=runT_take (C:=C) hx;rw [HT.out] at hst;have HST:=Aside.mk hst;clear hst
    obtain ⟨A7,c7,rfl,hc7,hra⟩:=HW.reads
    have hsw:=blk_lt h2
    obtain ⟨ad,B8,d8,rfl,hda,ha⟩:=HL.out k x hx
    replace ha : ActAt D wr (ad.add (k * 12)) x B8 d8:=ha.move (hB.block _ (lt_of_cell ha.1)) (fun j _ hj => hB.block j hj);have hcells : ∀ w',Below wr.heap.size wr w' → _:=fun w' hw' => (show ActAt D w' (ad.add (k * 12)) x B8 d8 from ha.move (hw'.block _ (lt_of_cell ha.1)) (fun k _ hk => hw'.block k hk));have hc8:=ha.2.2.2.2.2.2.2.2.2.2.2.2.1;clear hx;refine wp_seq_k ?_;intro _ _;refine wp_seq_k ?_;intro _ _;refine wp_region_lit ?_;refine a_move hf rfl rfl rfl ?_;clear hf;intro _ hf;refine a_move hf rfl rfl rfl ?_;clear hf;intro _ hf;refine a_len hf rfl rfl rfl rfl ?_;clear hf;intro _ hf;refine a_cmp (b:=true) hf rfl rfl rfl rfl rfl (by first | assumption | ((try dsimp only);simp only [bq1,bq2,bq3,bq4,bq5,bq6,bq7] <;> omega)) rfl ?_;clear hf;intro _ hf;refine wpList_nil ?_;simp only [Exit.then,Exit.inBlock];go_step;refine c_condT hf rfl ?_;refine wp_skip ?_;simp only [Exit.then];go_step;refine wp_seq_k ?_;intro _ _;refine wp_block ?_;refine wp_seq_k ?_;intro _ _;refine r_quiet (n:=38) (ds:=[]) (ls:=[(8,.int .i64 (k : Int)),(7,u),(6,.slice A7 acts.length c7),(2,.pointer (some ⟨w.heap.size,0,none⟩)),(1,.slice (some ad) l.length c)]) (Below wr.heap.size wr) (by kernel_rfl) (by kernel_rfl) (bel_drew (Below.refl _ _)) (((((((hf.nilOf).cons (d:=1) (hf.at_ 1 _ rfl)).cons (d:=2) (hf.at_ 2 _ rfl)).cons (d:=6) (hf.at_ 6 _ rfl)).cons (d:=7) (hf.at_ 7 _ rfl)).cons (d:=8) (hf.at_ 8 _ rfl))) ?_;clear hf;intro _ hf;refine q_load33b hf rfl rfl (by exact fun w' hw' => (hw'.block _ (blk_lt h2)).trans h2) rfl ?_;clear hf;intro _ hf;refine q_move hf rfl rfl rfl ?_;clear hf;intro _ hf;refine q_move hf rfl rfl rfl ?_;clear hf;intro _ hf;refine q_move hf rfl rfl rfl ?_;clear hf;intro _ hf;refine q_index (j:=k) hf rfl rfl rfl rfl (by first | rfl | omega) (by omega) rfl ?_;clear hf;intro _ hf;refine q_load43 hf rfl rfl (by exact fun w' hw' => by obtain ⟨g0,g1,g2,g3,g4,g5,g6,g7,g8,g9,g10,g11,_⟩:=hcells w' hw';exact ⟨g0,g1,g2,g3,g4,g5,g6,g7,g8,g9,g10,g11⟩) rfl ?_;clear hf;intro _ hf;refine q_call3 hf e25 rfl rfl rfl rfl rfl (v:=.int .i64 (refusedR C acts x)) (fun w' hw' => (refused_any C A1 c1 acts A7 c7 x B8 d8 w' (HC.out.below (bel_then hB hw')) hn (hra.below hw') (by omega) (((ha.2.2.2.2.2.2.2.2.2.2.2.2.2).below hw').mono fun _ _ _ => trivial) (by omega) hi.minute).mono fun _ _ h => ⟨h.1,bel_then hw' h.2⟩) ?_;clear hf;intro _ hf;refine q_assign hf rfl rfl rfl ?_;clear hf;intro _ hf;refine q_nil ?_;intro w9 hw9;simp only [Exit.then,Exit.inBlock];go_step;have HW9:=HW.below hw9;have hB9:=bel_then hB hw9;have h29:=(hw9.block _ hsw).trans h2;have hs9:=hB9.size;have ha9:=hcells w9 hw9
    obtain ⟨g0,g1,g2,g3,g4,g5,g6,g7,g8,g9,g10,g11,_,hr8⟩:=ha9
    have hEQ:=hi.refused (a:=x)
    generalize refusedR C acts x = want at *
    clear HW hra hcells ha h2 hB hw9;refine wp_seq_k ?_;intro _ _;refine c_cut (fun a' w' => ∃ (v' : Value) (cs' : List (List Value)),Has 38 [] [(9,.int .i64 want),(8,.int .i64 (k : Int)),(7,u),(6,v'),(2,.pointer (some ⟨w.heap.size,0,none⟩)),(1,.slice (some ad) l.length c)] a' ∧ DoW D w.heap.size w' (doActs C acts files x) v' cs' es u ∧ w'.heap[w.heap.size]? = some (.cells #[.int .i64 C.cars,.slice A1 C.arts.length c1,.int .i64 C.win,.int .i64 C.sec,.int .i64 C.fee,.int .i64 C.price] 33 (0,0)) ∧ Below w.heap.size w w') ?_ ?_
    · cases hd : doR C acts files x with
      | error er =>
        have her:=doR_err hd;have hw0 : ¬ want = 0:=by rw [hEQ,hd];exact her
        have had : doActs C acts files x = acts:=by simp [doActs,hd]
        refine wp_seq_k ?_;intro _ _;refine wp_region_lit ?_;refine a_move hf rfl rfl rfl ?_;clear hf;intro _ hf;refine a_cmp (b:=false) hf rfl rfl rfl rfl rfl (by first | assumption | ((try dsimp only);simp only [bq1,bq2,bq3,bq4,bq5,bq6,bq7] <;> omega)) rfl ?_;clear hf;intro _ hf;refine wpList_nil ?_;simp only [Exit.then,Exit.inBlock];go_step;refine c_condF hf rfl ?_;refine wp_skip ?_;simp only [Exit.then,Exit.inBlock];rw [had];exact ⟨(by trivial),_,cs,(((((((hf.nilOf).cons (d:=1) (hf.at_ 1 _ rfl)).cons (d:=2) (hf.at_ 2 _ rfl)).cons (d:=6) (hf.at_ 6 _ rfl)).cons (d:=7) (hf.at_ 7 _ rfl)).cons (d:=8) (hf.at_ 8 _ rfl)).cons (d:=9) (hf.at_ 9 _ rfl)),HW9,h29,hB9⟩
      | ok n =>
        have hw0 : want = 0:=by rw [hEQ,hd];rfl
        have had : doActs C acts files x = acts ++ [x]:=by simp [doActs,hd]
        refine wp_seq_k ?_;intro _ _;refine wp_region_lit ?_;refine a_move hf rfl rfl rfl ?_;clear hf;intro _ hf;refine a_cmp (b:=true) hf rfl rfl rfl rfl rfl (by first | assumption | ((try dsimp only);simp only [bq1,bq2,bq3,bq4,bq5,bq6,bq7] <;> omega)) rfl ?_;clear hf;intro _ hf;refine wpList_nil ?_;simp only [Exit.then,Exit.inBlock];go_step;refine c_condT hf rfl ?_;refine wp_region_lit ?_;refine a_move hf rfl rfl rfl ?_;clear hf;intro _ hf;refine a_move hf rfl rfl rfl ?_;clear hf;intro _ hf;refine a_move hf rfl rfl rfl ?_;clear hf;intro _ hf;refine a_index (j:=k) hf rfl rfl rfl rfl (by first | rfl | omega) (by omega) rfl ?_;clear hf;intro _ hf;refine a_load43 hf rfl rfl (by exact g0) (by exact g1) (by exact g2) (by exact g3) (by exact g4) (by exact g5) (by exact g6) (by exact g7) (by exact g8) (by exact g9) (by exact g10) (by exact g11) rfl ?_;clear hf;intro _ hf;refine a_one34 hf rfl rfl rfl ?_;clear hf;intro _ hf;refine wpList_append_lies _ rfl _ _ 34 rfl w.heap.size 43 i43 _ 12 112 Try.underlying34 hi43 hz0 hz1 hz2 rfl (by decide) (.slice A7 acts.length c7) acts.length cs.flatten (hf.at_ 25 _ rfl) (own_below HW9.own (bel_alloc (Below.refl _ w9) _)) ⟨w9.heap.size,0,none⟩ 1 1 (actCells x B8 d8) (hf.at_ 30 _ rfl) rfl (World.news_of_block (cs:=#[.int .i64 x.kind,.int .i64 x.minute,.int .i64 x.paper,.int .i64 x.case_,.int .i64 x.by_,.int .i64 x.against,.int .i64 x.art,.int .i64 x.at_,.slice B8 x.facts.length d8,.int .i64 x.paid,.bool x.up,.int .i64 x.pen]) (t:=43) (fr:=(0,0)) (heap_alloc_new w9 _)) (actCells_one x B8 d8) (by decide) (by simp only [maxLen];omega) (by omega) (by simp;omega) _ rfl ?_;intro g8' cap8 w8 hown8 hgrow8 hat8 hlt8;have hM8 : Mod (fun q => (Value.slice A7 acts.length c7).ownBlock = some q) w9 w8:=(Mod.refl.alloc _).grown hgrow8 (fun q hq => .inl hq);have hB8 : Below w.heap.size w w8:=(bel_alloc hB9 _).grown hgrow8 (by simp;omega) (own_base HW9.own);replace hf:=hf.put (d:=31) (v:=.slice (some ⟨g8',0,none⟩) (acts.length + 1) cap8) rfl;refine a_assign hf rfl rfl rfl ?_;clear hf;intro _ hf;refine wpList_nil ?_;have hge:=own_base HW9.own;have hbox : ¬ (Value.slice A7 acts.length c7).ownBlock = some w.heap.size:=fun e => own_ne HW9.own h29 (by decide) w.heap.size e rfl;have hDb : ∀ q,D q → ¬ (Value.slice A7 acts.length c7).ownBlock = some q:=fun q hq e => by have:=hge q e;have:=hD q hq;omega
        rw [had];refine ⟨rfl,_,cs ++ [actCells x B8 d8],(((((((hf.nilOf).cons (d:=1) (hf.at_ 1 _ rfl)).cons (d:=2) (hf.at_ 2 _ rfl)).cons (d:=6) (hf.at_ 6 _ rfl)).cons (d:=7) (hf.at_ 7 _ rfl)).cons (d:=8) (hf.at_ 8 _ rfl)).cons (d:=9) (hf.at_ 9 _ rfl)),⟨by rw [List.flatten_append,List.flatten_singleton,List.length_append];exact hown8,(HW9.are.move (fun q hq hl => hM8.block q hl (hDb q hq))).snoc x B8 d8 hc8 (hr8.move (fun q hq hl => hM8.block q hl (hDb q hq))),own_keep HW9.eown (fun q hq => hM8.block q (own_lt' HW9.eown q hq) (fun e => HW9.far q e hq)),fun q hq hu => ?_⟩,(hM8.block _ (blk_lt h29) hbox).trans h29,hB8⟩;have hgq : g8' = q:=by simpa [Value.ownBlock] using hq
        subst hgq
        rcases hat8 with e | e
        · exact HW9.far g8' e hu
        · have:=own_lt' HW9.eown g8' hu
          simp at e;omega
    clear HW9 h29 hB9 g0 g1 g2 g3 g4 g5 g6 g7 g8 g9 g10 g11 hs9 hr8 hf
    rintro _ w3 ⟨v',cs',hf,HW,h2,hB⟩
    simp only [Exit.then,Exit.inBlock];go_step;have hs3:=hB.size
    obtain ⟨acts',ha'⟩ : ∃ acts',doActs C acts files x = acts':=⟨_,rfl⟩
    have hlr:=runT_len C l (k + 1) (by omega);rw [HST.out] at hlr
    unfold stepT at hlr
    dsimp only at hlr
    rw [ha'] at HW hlr;refine wp_region_lit ?_;refine a_move hf rfl rfl rfl ?_;clear hf;intro _ hf;refine a_move hf rfl rfl rfl ?_;clear hf;intro _ hf;refine a_one79 hf rfl rfl rfl ?_;clear hf;intro _ hf;refine wpList_append_lies _ rfl _ _ 79 rfl w.heap.size 24 i24 _ 1 8 Try.underlying79 hi24 hy0 hy1 hy2 rfl (by decide) u es.length (ints es) (hf.at_ 32 _ rfl) (own_below HW.eown (bel_alloc (Below.refl _ w3) _)) ⟨w3.heap.size,0,none⟩ 1 1 (ints [want]) (hf.at_ 34 _ rfl) rfl (World.news_of_block (cs:=#[.int .i64 want]) (t:=24) (fr:=(0,0)) (heap_alloc_new w3 _)) (ints_one [want]) (by decide) (by simp only [maxLen];omega) (by omega) (by simp;omega) _ rfl ?_;intro g4' cap4 w4 hown4 hgrow4 hat4 hlt4;have hM4 : Mod (fun q => u.ownBlock = some q) w3 w4:=(Mod.refl.alloc _).grown hgrow4 (fun q hq => .inl hq);have hB4 : Below w.heap.size w w4:=(bel_alloc hB _).grown hgrow4 (by simp;omega) (own_base HW.eown);replace hf:=hf.put (d:=35) (v:=.slice (some ⟨g4',0,none⟩) (es.length + 1) cap4) rfl;refine a_assign hf rfl rfl rfl ?_;clear hf;intro _ hf;refine wpList_nil ?_;simp only [Exit.then,Exit.inBlock];have hge:=own_base HW.eown;have hbox : ¬ u.ownBlock = some w.heap.size:=fun e => own_ne HW.eown h2 (by decide) w.heap.size e rfl;have hDb : ∀ q,D q → ¬ u.ownBlock = some q:=fun q hq e => by have:=hge q e;have:=hD q hq;omega
    have HW4 : DoW D w.heap.size w4 acts' v' cs' (es ++ [want]) (.slice (some ⟨g4',0,none⟩) (es.length + 1) cap4):=by
      refine ⟨own_keep HW.own (fun q hq => hM4.block q (own_lt' HW.own q hq) (HW.far q hq)),HW.are.move (fun q hq hl => hM4.block q hl (hDb q hq)),by rw [ints_append,List.length_append];exact hown4,fun q hq hu => ?_⟩;have hgq : g4' = q:=by simpa [Value.ownBlock] using hu
      subst hgq
      rcases hat4 with e | e
      · exact HW.far g4' hq e
      · have:=own_lt' HW.own g4' hq
        simp at e;omega
    have h24:=(hM4.block _ (blk_lt h2) hbox).trans h2;go_step;refine wp_region_lit ?_;refine a_move hf rfl rfl rfl ?_;clear hf;intro _ hf;refine a_ar hf rfl rfl rfl rfl (by (try dsimp only);omega) rfl ?_;clear hf;intro _ hf;refine a_assign hf rfl rfl rfl ?_;clear hf;intro _ hf;refine wpList_nil ?_;simp only [Exit.then,Exit.inBlock];exact ⟨l.length - (k + 1),by omega,k + 1,acts',doFiles C acts files x,es ++ [want],v',cs',_,by omega,rfl,((((((hf.nilOf).cons (d:=1) (hf.at_ 1 _ rfl)).cons (d:=2) (hf.at_ 2 _ rfl)).cons (d:=6) (hf.at_ 6 _ rfl)).cons (d:=7) (hf.at_ 7 _ rfl)).cons (d:=8) (hf.at_ 8 _ rfl)),⟨by rw [HST.out];unfold stepT;rw [ha',← hEQ]⟩,HW4,h24,hB4⟩
  · have hke : k = l.length:=by omega
    have HE:=Aside.mk (show runT C l = (acts,files,es) by have:=HT.out;rwa [hke,List.take_length] at this);refine wp_seq_k ?_;intro _ _;refine wp_seq_k ?_;intro _ _;refine wp_region_lit ?_;refine a_move hf rfl rfl rfl ?_;clear hf;intro _ hf;refine a_move hf rfl rfl rfl ?_;clear hf;intro _ hf;refine a_len hf rfl rfl rfl rfl ?_;clear hf;intro _ hf;refine a_cmp (b:=false) hf rfl rfl rfl rfl rfl (by first | assumption | ((try dsimp only);simp only [bq1,bq2,bq3,bq4,bq5,bq6,bq7] <;> omega)) rfl ?_;clear hf;intro _ hf;refine wpList_nil ?_;simp only [Exit.then,Exit.inBlock];go_step;refine c_condF hf rfl ?_;refine wp_exit ?_;simp only [Exit.then,Exit.inBlock,↓reduceIte];go_step;refine wp_seq_k ?_;intro _ _;refine wp_region_lit ?_;refine a_move hf rfl rfl rfl ?_;clear hf;intro _ hf;refine a_move hf rfl rfl rfl ?_;clear hf;intro _ hf;refine a_assign hf rfl rfl rfl ?_;clear hf;intro _ hf;refine a_assign hf rfl rfl rfl ?_;clear hf;intro _ hf;refine wpList_nil ?_;simp only [Exit.then,Exit.inBlock];go_step;refine wp_ret ?_
    try simp only [Exit.then,Exit.inBlock]
    refine c_ret2 hf rfl rfl rfl ⟨hB,v,cs,u,rfl,?_⟩;rw [HE.out];exact HW
end Go.Proofs.Ytpadgcomncljmaa.A
