/- Insertion sort by a closure,over a block of numbers. -/
import Derived.RangeFuncNested
import Derived.RangeFuncLeaves
import Derived.OwnWalkIn
import Derived.TacticsInMore
import Derived.OrdersIn
import Derived.Test.YtpadgcomncljmaaStatesZ3
set_option linter.all false
namespace Go.Proofs.Ytpadgcomncljmaa.A
open Go.RowKit

def Nums (w : World) (G : Nat) (d : List Int) : Prop:=w.heap[G]? = some (.cells (ints d).toArray 3 (0,0))
theorem Nums.cell {w : World} {G : Nat} {d : List Int} (h : Nums w G d) {j : Nat} {x : Int} (hx : d[j]? = some x) : w.cell? ⟨G,j,none⟩ = some (.int .i64 x):=blk_cell h j (by simp [ints,hx])
theorem Nums.free {w : World} {G : Nat} {d : List Int} (h : Nums w G d) (j : Nat) : w.frozen? ⟨G,j,none⟩ = false:=by
  have h' : w.heap[G]? = some (.cells (ints d).toArray 3 (0,0)):=h
  simp [World.frozen?,h']
theorem Nums.set {w : World} {G : Nat} {d : List Int} (h : Nums w G d) (j : Nat) (y : Int) : Nums (w.setCell ⟨G,j,none⟩ (.int .i64 y)) G (d.set j y):=by
  have:=blk_set h j (.int .i64 y)
  unfold Nums
  rw [this]
  simp [ints,List.map_set]
theorem Nums.keep {w w' : World} {G : Nat} {d : List Int} (h : Nums w G d) (hb : w'.heap[G]? = w.heap[G]?) : Nums w' G d:=hb.trans h
theorem Nums.below {w w' : World} {G : Nat} {d : List Int} (h : Nums w G d) (hb : Below w.heap.size w w') : Nums w' G d:=h.keep (hb.block G (blk_lt h))
theorem g_add (G j : Nat) : (⟨G,0,none⟩ : Addr).add (j * 1) = ⟨G,j,none⟩:=by rw [Nat.mul_one,add_at]

theorem Mod.put1' {b : Nat} {w W : World} (h : Mod (fun k => k = b) w W) (i : Nat) (u : Value) : Mod (fun k => k = b) w (W.setCell ⟨b,i,none⟩ u):=h.put1 i u
theorem x_ar {a : Act} {w : World} {n : Nat} {ds : List Deferred} {l : List (Nat × Value)} {od : Option Tmp} {t : TypeId} {ps : String} {af : Array Edge} {g : Option (Nat × Bool)} {x y : Operand} {op : BinOp} {r : Int → Int → Int} {m k : Int} (H : Has n ds l a) (ho : arI op = some r) (hx : lookO l x = some (.int .i64 m)) (hy : lookO l y = some (.int .i64 k)) (hb : -9223372036854775808 ≤ r m k ∧ r m k ≤ 9223372036854775807) : (execOp a.eval ⟨od,.binOp op 3 x y 3,t,ps,af,g⟩).run Try.prog w = .ok (.value (.int .i64 (r m k))) w:=by
  rw [← IntWalk.i64_in _ hb];exact run_ar (o:=⟨od,.nilCheck x,t,ps,af,g⟩) ho (H.evO hx) (H.evO hy)
def Cmp (fn : FuncId) (cap : Array Value) (ok : World → Prop) (dom : Int → Prop) (cf : Int → Int → Int) : Prop :=
  Enters fn ∧ ∀ x y W,ok W → dom x → dom y → Calls Try.prog fn (#[.int .i64 x,.int .i64 y] ++ cap) W fun e w' => e = .returned (.int .i64 (cf x y)) ∧ Below W.heap.size W w'
def swp (d : List Int) (i j : Nat) : List Int:=(d.set i (d.getD j 0)).set j (d.getD i 0)
def sink (cf : Int → Int → Int) (a : Nat) : Nat → List Int → List Int
  | 0,d => d
  | j + 1,d => if a < j + 1 ∧ cf (d.getD (j + 1) 0) (d.getD j 0) < 0 then sink cf a j (swp d (j + 1) j) else d
def insTo (cf : Int → Int → Int) (a : Nat) : Nat → List Int → List Int
  | 0,d => d
  | k + 1,d => sink cf a (a + 1 + k) (insTo cf a k d)
theorem swp_length (d : List Int) (i j : Nat) : (swp d i j).length = d.length:=by simp [swp]
theorem swp_mem {d : List Int} {i j : Nat} {dom : Int → Prop} (h : ∀ x ∈ d,dom x) (hi : i < d.length) (hj : j < d.length) : ∀ x ∈ swp d i j,dom x:=by
  intro x hx
  unfold swp at hx
  rcases List.mem_or_eq_of_mem_set hx with hx | rfl
  · rcases List.mem_or_eq_of_mem_set hx with hx | rfl
    · exact h x hx
    · rw [List.getD_eq_getElem?_getD,List.getElem?_eq_getElem hj];exact h _ (List.getElem_mem _)
  · rw [List.getD_eq_getElem?_getD,List.getElem?_eq_getElem hi];exact h _ (List.getElem_mem _)
theorem sink_length (cf : Int → Int → Int) (a : Nat) : ∀ (j : Nat) (d : List Int), (sink cf a j d).length = d.length
  | 0,_ => rfl
  | j + 1,d => by
    unfold sink
    split
    · rw [sink_length cf a j,swp_length]
    · rfl
theorem sink_mem {cf : Int → Int → Int} {a : Nat} {dom : Int → Prop} : ∀ (j : Nat) (d : List Int), j < d.length → (∀ x ∈ d, dom x) → ∀ x ∈ sink cf a j d, dom x
  | 0,_,_,h => h
  | j + 1,d,hj,h => by
    unfold sink
    split
    · exact sink_mem j _ (by rw [swp_length];omega) (swp_mem h hj (by omega))
    · exact h
theorem insTo_length (cf : Int → Int → Int) (a : Nat) : ∀ (k : Nat) (d : List Int), (insTo cf a k d).length = d.length
  | 0,_ => rfl
  | k + 1,d => by rw [insTo,sink_length,insTo_length]
theorem insTo_mem {cf : Int → Int → Int} {a : Nat} {dom : Int → Prop} : ∀ (k : Nat) (d : List Int), a + k < d.length → (∀ x ∈ d, dom x) → ∀ x ∈ insTo cf a k d, dom x
  | 0,_,_,h => h
  | k + 1,d,hk,h => sink_mem _ _ (by rw [insTo_length];omega) (insTo_mem k d (by omega) h)
theorem getD_some {d : List Int} {j : Nat} (h : j < d.length) : d[j]? = some (d.getD j 0):=by
  rw [List.getD_eq_getElem?_getD,List.getElem?_eq_getElem h];rfl

set_option maxHeartbeats 4000000 in
set_option maxRecDepth 100000 in
theorem insertion_any (fn : FuncId) (cap : Array Value) (ok : World → Prop) (dom : Int → Prop) (cf : Int → Int → Int) (hcmp : Cmp fn cap ok dom cf) (G : Nat) (hok : ∀ W W', Mod (fun k => k = G) W W' → ok W → ok W') (d : List Int) (a b : Nat) (w : World) (hw : ok w) (hd : Nums w G d) (hdom : ∀ x ∈ d, dom x) (hab : a ≤ b) (hb : b ≤ d.length) (hn : d.length ≤ 1000000) :
    Calls Try.prog 128 #[.slice (some ⟨G,0,none⟩) d.length d.length,.int .i64 a,.int .i64 b,.func (.func fn) #[] cap] w fun e w' => e = .returned (.tuple #[]) ∧ Nums w' G (insTo cf a (b - (a + 1)) d) ∧ Mod (fun k => k = G) w w':=by
  obtain ⟨hen,hc⟩:=hcmp
  have HC:=Aside.mk hc;have HOK:=Aside.mk hok;have HD:=Aside.mk hd;have HDM:=Aside.mk hdom;clear hc hok hd hdom
  go_enter Try.func128,Try.ntmps128
  refine wp_abs (n:=53) (ds:=[]) (l:=[(0,.slice (some ⟨G,0,none⟩) d.length d.length),(1,.int .i64 a),(2,.int .i64 b),(3,.func (.func fn) #[] cap)]) ?_ ?_
  · refine ((((Has.nil ?_ ?_).cons ?_).cons ?_).cons ?_).cons ?_
    all_goals first | rfl | (simp [Act.eval];done)
  intro _ hf;refine wp_seq_k ?_;intro _ _;refine wp_region_lit ?_;refine a_move hf rfl rfl rfl ?_;clear hf;intro _ hf;refine a_ar hf rfl rfl rfl rfl (by (try dsimp only);omega) rfl ?_;clear hf;intro _ hf;refine a_assign hf rfl rfl rfl ?_;clear hf;intro _ hf;refine wpList_nil ?_;simp only [Exit.then,Exit.inBlock];go_step;refine wp_block ?_;refine wp_loop_ghost (fun m fr wr => ∃ k : Nat,k ≤ b - (a + 1) ∧ m = b - (a + 1) - k ∧ Has 53 [] [(8,.int .i64 ((a + 1 + k : Nat) : Int)),(0,.slice (some ⟨G,0,none⟩) d.length d.length),(1,.int .i64 (a : Int)),(2,.int .i64 (b : Int)),(3,.func (.func fn) #[] cap)] fr ∧ Aside (Nums wr G (insTo cf a k d)) ∧ Mod (fun k => k = G) w wr) (b - (a + 1)) ?_ ?_
  · exact ⟨0,Nat.zero_le _,rfl,((((hf.nilOf.cons (hf.at_ 3 _ rfl)).cons (hf.at_ 2 _ rfl)).cons (hf.at_ 1 _ rfl)).cons (hf.at_ 0 _ rfl)).cons (d:=8) (hf.at_ 8 _ rfl),⟨HD.out⟩,Mod.refl⟩
  rintro m fr wr ⟨k,hk',rfl,hf,HN,hM⟩
  have hlen:=insTo_length cf a k d
  by_cases hlt : k < b - (a + 1)
  · have hdm:=insTo_mem (cf:=cf) (a:=a) k d (by omega) HDM.out
    obtain ⟨dd,hdd⟩ : ∃ dd,dd = insTo cf a k d:=⟨_,rfl⟩
    rw [← hdd] at hlen hdm HN;have HDD:=Aside.mk hdd;have HDm:=Aside.mk hdm;clear hdd hdm;refine wp_seq_k ?_;intro _ _;refine wp_seq_k ?_;intro _ _;refine wp_region_lit ?_;refine a_move hf rfl rfl rfl ?_;clear hf;intro _ hf;refine a_move hf rfl rfl rfl ?_;clear hf;intro _ hf;refine a_cmp (b:=true) hf rfl rfl rfl rfl rfl (by first | assumption | ((try dsimp only);simp only [bq1,bq2,bq3,bq4,bq5,bq6,bq7];omega)) rfl ?_;clear hf;intro _ hf;refine wpList_nil ?_;simp only [Exit.then,Exit.inBlock];go_step;refine c_condT hf rfl ?_;refine wp_skip ?_;simp only [Exit.then];go_step;refine wp_seq_k ?_;intro _ _;refine wp_block ?_;refine wp_seq_k ?_;intro _ _;refine wp_region_lit ?_;refine a_move hf rfl rfl rfl ?_;clear hf;intro _ hf;refine a_assign hf rfl rfl rfl ?_;clear hf;intro _ hf;refine wpList_nil ?_;simp only [Exit.then,Exit.inBlock];go_step;refine wp_block ?_;refine wp_loop_ghost (fun m fr wr' => ∃ (j : Nat) (dj : List Int),j ≤ a + 1 + k ∧ m = j ∧ dj.length = d.length ∧ Has 53 [] [(9,.int .i64 (j : Int)),(8,.int .i64 ((a + 1 + k : Nat) : Int)),(0,.slice (some ⟨G,0,none⟩) d.length d.length),(1,.int .i64 (a : Int)),(2,.int .i64 (b : Int)),(3,.func (.func fn) #[] cap)] fr ∧ Aside (sink cf a (a + 1 + k) dd = sink cf a j dj) ∧ Aside (Nums wr' G dj) ∧ Aside (∀ x ∈ dj,dom x) ∧ Mod (fun k => k = G) w wr') (a + 1 + k) ?_ ?_
    · exact ⟨a + 1 + k,dd,Nat.le_refl _,rfl,hlen,(((((hf.nilOf.cons (hf.at_ 3 _ rfl)).cons (hf.at_ 2 _ rfl)).cons (hf.at_ 1 _ rfl)).cons (hf.at_ 0 _ rfl)).cons (d:=8) (hf.at_ 8 _ rfl)).cons (d:=9) (hf.at_ 9 _ rfl),⟨rfl⟩,HN,HDm,hM⟩
    rintro j fr' w1 ⟨_,dj,hj,rfl,hdl,hf,HE,HNj,HDj,hM1⟩
    refine wp_seq_k ?_;intro _ _;refine wp_seq_k ?_;intro _ _
    by_cases hja : a < j
    rotate_left
    · have HSK:=Aside.mk (show sink cf a j dj = dj by cases j with | zero => rfl | succ j => rw [sink,if_neg (fun h => hja h.1)])
      refine r_quiet (n:=53) (ds:=[]) (ls:=[(9,.int .i64 (j : Int)),(8,.int .i64 ((a + 1 + k : Nat) : Int)),(0,.slice (some ⟨G,0,none⟩) d.length d.length),(1,.int .i64 (a : Int)),(2,.int .i64 (b : Int)),(3,.func (.func fn) #[] cap)]) (Below w1.heap.size w1) (by kernel_rfl) (by kernel_rfl) (bel_drew (Below.refl _ _)) ((((((hf.nilOf.cons (hf.at_ 3 _ rfl)).cons (hf.at_ 2 _ rfl)).cons (hf.at_ 1 _ rfl)).cons (hf.at_ 0 _ rfl)).cons (d:=8) (hf.at_ 8 _ rfl)).cons (d:=9) (hf.at_ 9 _ rfl)) ?_;clear hf;intro _ hf;refine q_move hf rfl rfl rfl ?_;clear hf;intro _ hf;refine q_move hf rfl rfl rfl ?_;clear hf;intro _ hf;refine q_cmp (b:=false) hf rfl rfl rfl rfl rfl (by first | assumption | ((try dsimp only);simp only [bq1,bq2,bq3,bq4,bq5,bq6,bq7];omega)) rfl ?_;clear hf;intro _ hf;refine q_move hf rfl rfl rfl ?_;clear hf;intro _ hf
      (first | refine q_skip hf rfl rfl rfl ?_ | refine q_move hf rfl rfl rfl ?_);clear hf;intro _ hf
      (first | refine q_skip hf rfl rfl rfl ?_ | refine q_move hf rfl rfl rfl ?_);clear hf;intro _ hf
      (first | refine q_skip hf rfl rfl rfl ?_ | refine q_move hf rfl rfl rfl ?_);clear hf;intro _ hf
      refine q_skip hf rfl rfl rfl ?_;clear hf;intro _ hf;refine q_skip hf rfl rfl rfl ?_;clear hf;intro _ hf
      (first | refine q_skip hf rfl rfl rfl ?_ | refine q_move hf rfl rfl rfl ?_);clear hf;intro _ hf
      (first | refine q_skip hf rfl rfl rfl ?_ | refine q_move hf rfl rfl rfl ?_);clear hf;intro _ hf
      (first | refine q_skip hf rfl rfl rfl ?_ | refine q_ar hf rfl rfl rfl rfl (by (try dsimp only);omega) rfl ?_);clear hf;intro _ hf
      refine q_skip hf rfl rfl rfl ?_;clear hf;intro _ hf;refine q_skip hf rfl rfl rfl ?_;clear hf;intro _ hf;refine q_skip hf rfl rfl rfl ?_;clear hf;intro _ hf
      (first | refine q_skip hf rfl rfl rfl ?_ | refine q_cmp hf rfl rfl rfl rfl rfl rfl rfl ?_);clear hf;intro _ hf
      (first | refine q_pickT hf rfl rfl rfl rfl ?_ | refine q_pickF hf rfl rfl rfl rfl ?_);clear hf;intro _ hf
      refine q_nil ?_;intro w9 hw9;simp only [Exit.then,Exit.inBlock];go_step;refine c_condF hf rfl ?_;refine wp_exit ?_;simp only [Exit.then,Exit.inBlock,↓reduceIte];go_step;refine wp_region_lit ?_;refine a_move hf rfl rfl rfl ?_;clear hf;intro _ hf;refine a_ar hf rfl rfl rfl rfl (by (try dsimp only);omega) rfl ?_;clear hf;intro _ hf;refine a_assign hf rfl rfl rfl ?_;clear hf;intro _ hf;refine wpList_nil ?_;simp only [Exit.then,Exit.inBlock];exact ⟨b - (a + 1) - (k + 1),by omega,k + 1,by omega,rfl,((((hf.nilOf.cons (hf.at_ 3 _ rfl)).cons (hf.at_ 2 _ rfl)).cons (hf.at_ 1 _ rfl)).cons (hf.at_ 0 _ rfl)).cons (d:=8) (hf.at_ 8 _ rfl),⟨by rw [insTo,← HDD.out,HE.out,HSK.out];exact (HNj.out.below hw9)⟩,hM1.trans (Mod.of_below (F:=fun k => k = G) hw9) (fun _ _ h => h)⟩
    obtain ⟨i,rfl⟩ : ∃ i,j = i + 1:=⟨j - 1,by omega⟩
    have hx:=getD_some (d:=dj) (j:=i + 1) (by omega);have hy:=getD_some (d:=dj) (j:=i) (by omega);have hcx:=HNj.out.cell hx;have hcy:=HNj.out.cell hy;have hdx:=HDj.out _ (List.mem_of_getElem? hx);have hdy:=HDj.out _ (List.mem_of_getElem? hy)
    obtain ⟨x,hxx⟩ : ∃ x,x = dj.getD (i + 1) 0:=⟨_,rfl⟩
    obtain ⟨y,hyy⟩ : ∃ y,y = dj.getD i 0:=⟨_,rfl⟩
    rw [← hxx] at hx hcx hdx;rw [← hyy] at hy hcy hdy;have HXX:=Aside.mk hxx;have HYY:=Aside.mk hyy;have hGl:=blk_lt HNj.out;clear hxx hyy hx hy;have hokW : ∀ W',Below w1.heap.size w1 W' → ok W':=fun W' hW' => HOK.out _ _ (hM1.trans (Mod.of_below (F:=fun k => k = G) hW') (fun _ _ h => h)) hw
    by_cases hcf : cf x y < 0
    rotate_left
    · have HSK:=Aside.mk (show sink cf a (i + 1) dj = dj by rw [sink,if_neg (fun h => hcf (by rw [HXX.out,HYY.out];exact h.2))])
      refine r_quiet (n:=53) (ds:=[]) (ls:=[(9,.int .i64 ((i + 1 : Nat) : Int)),(8,.int .i64 ((a + 1 + k : Nat) : Int)),(0,.slice (some ⟨G,0,none⟩) d.length d.length),(1,.int .i64 (a : Int)),(2,.int .i64 (b : Int)),(3,.func (.func fn) #[] cap)]) (Below w1.heap.size w1) (by kernel_rfl) (by kernel_rfl) (bel_drew (Below.refl _ _)) ((((((hf.nilOf.cons (hf.at_ 3 _ rfl)).cons (hf.at_ 2 _ rfl)).cons (hf.at_ 1 _ rfl)).cons (hf.at_ 0 _ rfl)).cons (d:=8) (hf.at_ 8 _ rfl)).cons (d:=9) (hf.at_ 9 _ rfl)) ?_;clear hf;intro _ hf;refine q_move hf rfl rfl rfl ?_;clear hf;intro _ hf;refine q_move hf rfl rfl rfl ?_;clear hf;intro _ hf;refine q_cmp (b:=true) hf rfl rfl rfl rfl rfl (by first | assumption | ((try dsimp only);simp only [bq1,bq2,bq3,bq4,bq5,bq6,bq7];omega)) rfl ?_;clear hf;intro _ hf;refine q_move hf rfl rfl rfl ?_;clear hf;intro _ hf
      (first | refine q_skip hf rfl rfl rfl ?_ | refine q_move hf rfl rfl rfl ?_);clear hf;intro _ hf
      (first | refine q_skip hf rfl rfl rfl ?_ | refine q_move hf rfl rfl rfl ?_);clear hf;intro _ hf
      (first | refine q_skip hf rfl rfl rfl ?_ | refine q_move hf rfl rfl rfl ?_);clear hf;intro _ hf
      refine q_index (j:=i + 1) hf rfl rfl rfl rfl rfl (by omega) rfl ?_;clear hf;intro _ hf
      (first | refine q_skip hf rfl rfl rfl ?_ | refine q_load hf rfl rfl rfl (by exact fun w' hw' => (by rw [g_add];exact (hw'.cell (p:=⟨G,i + 1,none⟩) hGl).trans hcx)) rfl ?_);clear hf;intro _ hf
      (first | refine q_skip hf rfl rfl rfl ?_ | refine q_move hf rfl rfl rfl ?_);clear hf;intro _ hf
      (first | refine q_skip hf rfl rfl rfl ?_ | refine q_move hf rfl rfl rfl ?_);clear hf;intro _ hf
      (first | refine q_skip hf rfl rfl rfl ?_ | refine q_ar hf rfl rfl rfl rfl (by (try dsimp only);omega) rfl ?_);clear hf;intro _ hf
      refine q_index (j:=i) hf rfl rfl rfl rfl (by omega) (by omega) rfl ?_;clear hf;intro _ hf
      (first | refine q_skip hf rfl rfl rfl ?_ | refine q_load hf rfl rfl rfl (by exact fun w' hw' => (by rw [g_add];exact (hw'.cell (p:=⟨G,i,none⟩) hGl).trans hcy)) rfl ?_);clear hf;intro _ hf
      refine q_enter hf rfl (fun w' => by have h0:=hf.evO (x:=.tmp 22) rfl;have h1:=hf.evO (x:=.tmp 26) rfl;have h2:=hf.evO (x:=.tmp 31) rfl;revert h0 h1 h2;generalize (Act.eval _) = ev;intro h0 h1 h2;simp [go_sem,h0,h1,h2,hen _ _]) rfl rfl (fun w' hw' => (HC.out x y w' (hokW w' hw') hdx hdy).mono fun _ _ h => ⟨h.1,bel_then hw' h.2⟩) ?_;clear hf;intro _ hf
      (first | refine q_skip hf rfl rfl rfl ?_ | refine q_cmp (b:=false) hf rfl rfl rfl rfl rfl (by first | assumption | ((try dsimp only);simp only [bq1,bq2,bq3,bq4,bq5,bq6,bq7];omega)) rfl ?_);clear hf;intro _ hf
      (first | refine q_pickT hf rfl rfl rfl rfl ?_ | refine q_pickF hf rfl rfl rfl rfl ?_);clear hf;intro _ hf
      refine q_nil ?_;intro w9 hw9;simp only [Exit.then,Exit.inBlock];go_step;refine c_condF hf rfl ?_;refine wp_exit ?_;simp only [Exit.then,Exit.inBlock,↓reduceIte];go_step;refine wp_region_lit ?_;refine a_move hf rfl rfl rfl ?_;clear hf;intro _ hf;refine a_ar hf rfl rfl rfl rfl (by (try dsimp only);omega) rfl ?_;clear hf;intro _ hf;refine a_assign hf rfl rfl rfl ?_;clear hf;intro _ hf;refine wpList_nil ?_;simp only [Exit.then,Exit.inBlock];exact ⟨b - (a + 1) - (k + 1),by omega,k + 1,by omega,rfl,((((hf.nilOf.cons (hf.at_ 3 _ rfl)).cons (hf.at_ 2 _ rfl)).cons (hf.at_ 1 _ rfl)).cons (hf.at_ 0 _ rfl)).cons (d:=8) (hf.at_ 8 _ rfl),⟨by rw [insTo,← HDD.out,HE.out,HSK.out];exact (HNj.out.below hw9)⟩,hM1.trans (Mod.of_below (F:=fun k => k = G) hw9) (fun _ _ h => h)⟩
    have HSK:=Aside.mk (show sink cf a (i + 1) dj = sink cf a i (swp dj (i + 1) i) by rw [sink,if_pos ⟨by omega,by rw [← HXX.out,← HYY.out];exact hcf⟩]);refine r_quiet (n:=53) (ds:=[]) (ls:=[(9,.int .i64 ((i + 1 : Nat) : Int)),(8,.int .i64 ((a + 1 + k : Nat) : Int)),(0,.slice (some ⟨G,0,none⟩) d.length d.length),(1,.int .i64 (a : Int)),(2,.int .i64 (b : Int)),(3,.func (.func fn) #[] cap)]) (Below w1.heap.size w1) (by kernel_rfl) (by kernel_rfl) (bel_drew (Below.refl _ _)) ((((((hf.nilOf.cons (hf.at_ 3 _ rfl)).cons (hf.at_ 2 _ rfl)).cons (hf.at_ 1 _ rfl)).cons (hf.at_ 0 _ rfl)).cons (d:=8) (hf.at_ 8 _ rfl)).cons (d:=9) (hf.at_ 9 _ rfl)) ?_;clear hf;intro _ hf;refine q_move hf rfl rfl rfl ?_;clear hf;intro _ hf;refine q_move hf rfl rfl rfl ?_;clear hf;intro _ hf;refine q_cmp (b:=true) hf rfl rfl rfl rfl rfl (by first | assumption | ((try dsimp only);simp only [bq1,bq2,bq3,bq4,bq5,bq6,bq7];omega)) rfl ?_;clear hf;intro _ hf;refine q_move hf rfl rfl rfl ?_;clear hf;intro _ hf
    (first | refine q_skip hf rfl rfl rfl ?_ | refine q_move hf rfl rfl rfl ?_);clear hf;intro _ hf
    (first | refine q_skip hf rfl rfl rfl ?_ | refine q_move hf rfl rfl rfl ?_);clear hf;intro _ hf
    (first | refine q_skip hf rfl rfl rfl ?_ | refine q_move hf rfl rfl rfl ?_);clear hf;intro _ hf
    refine q_index (j:=i + 1) hf rfl rfl rfl rfl rfl (by omega) rfl ?_;clear hf;intro _ hf
    (first | refine q_skip hf rfl rfl rfl ?_ | refine q_load hf rfl rfl rfl (by exact fun w' hw' => (by rw [g_add];exact (hw'.cell (p:=⟨G,i + 1,none⟩) hGl).trans hcx)) rfl ?_);clear hf;intro _ hf
    (first | refine q_skip hf rfl rfl rfl ?_ | refine q_move hf rfl rfl rfl ?_);clear hf;intro _ hf
    (first | refine q_skip hf rfl rfl rfl ?_ | refine q_move hf rfl rfl rfl ?_);clear hf;intro _ hf
    (first | refine q_skip hf rfl rfl rfl ?_ | refine q_ar hf rfl rfl rfl rfl (by (try dsimp only);omega) rfl ?_);clear hf;intro _ hf
    refine q_index (j:=i) hf rfl rfl rfl rfl (by omega) (by omega) rfl ?_;clear hf;intro _ hf
    (first | refine q_skip hf rfl rfl rfl ?_ | refine q_load hf rfl rfl rfl (by exact fun w' hw' => (by rw [g_add];exact (hw'.cell (p:=⟨G,i,none⟩) hGl).trans hcy)) rfl ?_);clear hf;intro _ hf
    refine q_enter hf rfl (fun w' => by have h0:=hf.evO (x:=.tmp 22) rfl;have h1:=hf.evO (x:=.tmp 26) rfl;have h2:=hf.evO (x:=.tmp 31) rfl;revert h0 h1 h2;generalize (Act.eval _) = ev;intro h0 h1 h2;simp [go_sem,h0,h1,h2,hen _ _]) rfl rfl (fun w' hw' => (HC.out x y w' (hokW w' hw') hdx hdy).mono fun _ _ h => ⟨h.1,bel_then hw' h.2⟩) ?_;clear hf;intro _ hf
    (first | refine q_skip hf rfl rfl rfl ?_ | refine q_cmp (b:=true) hf rfl rfl rfl rfl rfl (by first | assumption | ((try dsimp only);simp only [bq1,bq2,bq3,bq4,bq5,bq6,bq7];omega)) rfl ?_);clear hf;intro _ hf
    (first | refine q_pickT hf rfl rfl rfl rfl ?_ | refine q_pickF hf rfl rfl rfl rfl ?_);clear hf;intro _ hf
    refine q_nil ?_;intro w9 hw9;simp only [Exit.then,Exit.inBlock];go_step;refine c_condT hf rfl ?_;refine wp_skip ?_;simp only [Exit.then];go_step;refine wp_seq_k ?_;intro _ _;refine wp_block ?_;have hN9:=HNj.out.below hw9;refine wp_abs (n:=53) (ds:=[]) (l:=[(9,.int .i64 ((i + 1 : Nat) : Int)),(8,.int .i64 ((a + 1 + k : Nat) : Int)),(0,.slice (some ⟨G,0,none⟩) d.length d.length),(1,.int .i64 (a : Int)),(2,.int .i64 (b : Int)),(3,.func (.func fn) #[] cap)]) ((((((hf.nilOf.cons (hf.at_ 3 _ rfl)).cons (hf.at_ 2 _ rfl)).cons (hf.at_ 1 _ rfl)).cons (hf.at_ 0 _ rfl)).cons (d:=8) (hf.at_ 8 _ rfl)).cons (d:=9) (hf.at_ 9 _ rfl)) ?_;clear hf;intro _ hf;have hS : (fun _ : World => True) w9.drew:=trivial;refine t_begin (S:=fun _ => True) (by kernel_rfl) ?_;refine t_take (i:=0) (d:=37) hf rfl (by kernel_rfl) (by kernel_rfl) (by kernel_rfl) rfl (fun w' hw' => x_move hf rfl) rfl rfl hS ?_;clear hf;intro _ hf;refine t_take (i:=1) (d:=38) hf rfl (by kernel_rfl) (by kernel_rfl) (by kernel_rfl) rfl (fun w' hw' => x_move hf rfl) rfl rfl hS ?_;clear hf;intro _ hf;refine t_take (i:=2) (d:=39) hf rfl (by kernel_rfl) (by kernel_rfl) (by kernel_rfl) rfl (fun w' hw' => x_move hf rfl) rfl rfl hS ?_;clear hf;intro _ hf;refine t_take (i:=3) (d:=40) hf rfl (by kernel_rfl) (by kernel_rfl) (by kernel_rfl) rfl (fun w' hw' => x_move hf rfl) rfl rfl hS ?_;clear hf;intro _ hf;refine t_take (i:=4) (d:=41) hf rfl (by kernel_rfl) (by kernel_rfl) (by kernel_rfl) rfl (fun w' hw' => x_ar hf rfl rfl rfl (by (try dsimp only);omega)) rfl rfl hS ?_;clear hf;intro _ hf;refine t_take (i:=5) (d:=42) hf rfl (by kernel_rfl) (by kernel_rfl) (by kernel_rfl) rfl (fun w' hw' => x_move hf rfl) rfl rfl hS ?_;clear hf;intro _ hf;refine t_take (i:=6) (d:=43) hf rfl (by kernel_rfl) (by kernel_rfl) (by kernel_rfl) rfl (fun w' hw' => x_move hf rfl) rfl rfl hS ?_;clear hf;intro _ hf;refine t_take (i:=7) (d:=44) hf rfl (by kernel_rfl) (by kernel_rfl) (by kernel_rfl) rfl (fun w' hw' => x_ar hf rfl rfl rfl (by (try dsimp only);omega)) rfl rfl hS ?_;clear hf;intro _ hf;refine t_take (i:=8) (d:=45) hf rfl (by kernel_rfl) (by kernel_rfl) (by kernel_rfl) rfl (fun w' hw' => x_index (j:=i) hf rfl rfl rfl (by (try dsimp only);omega) (by omega)) rfl rfl hS ?_;clear hf;intro _ hf;refine t_take (i:=10) (d:=47) hf rfl (by kernel_rfl) (by kernel_rfl) (by kernel_rfl) rfl (fun w' hw' => x_move hf rfl) rfl rfl hS ?_;clear hf;intro _ hf;refine t_take (i:=11) (d:=48) hf rfl (by kernel_rfl) (by kernel_rfl) (by kernel_rfl) rfl (fun w' hw' => x_move hf rfl) rfl rfl hS ?_;clear hf;intro _ hf;refine t_take (i:=12) (d:=49) hf rfl (by kernel_rfl) (by kernel_rfl) (by kernel_rfl) rfl (fun w' hw' => x_index (j:=i + 1) hf rfl rfl rfl rfl (by omega)) rfl rfl hS ?_;clear hf;intro _ hf;have hx9 : dj[i + 1]? = some x:=by rw [HXX.out];exact getD_some (by omega)
    have hy9 : dj[i]? = some y:=by rw [HYY.out];exact getD_some (by omega)
    have hly : w9.drew.cell? ((⟨G,0,none⟩ : Addr).add (i * 1)) = some (.int .i64 y):=by rw [g_add];exact hN9.cell hy9
    have hlx : w9.drew.cell? ((⟨G,0,none⟩ : Addr).add ((i + 1) * 1)) = some (.int .i64 x):=by rw [g_add];exact hN9.cell hx9
    refine t_two (i:=9) (j:=13) (by kernel_rfl) (t_op (d:=46) hf rfl rfl (x_load hf rfl rfl hly) rfl rfl (fun _ hf => ⟨trivial,?_⟩)) (t_op (d:=50) hf rfl rfl (x_load hf rfl rfl hlx) rfl rfl (fun _ hf => ⟨trivial,?_⟩))
    · refine t_one (i:=13) (by kernel_rfl) (t_op (d:=50) hf rfl rfl (x_load hf rfl rfl hlx) rfl rfl (fun _ hf => ⟨trivial,?_⟩))
      replace hf:=hf;refine t_take (i:=14) (d:=51) hf rfl (by kernel_rfl) (by kernel_rfl) (by kernel_rfl) rfl (fun w' hw' => x_index (j:=i + 1) hf rfl rfl rfl rfl (by omega)) rfl rfl hS ?_;clear hf;intro _ hf;refine t_one (i:=15) (by kernel_rfl) (t_skip (w':=w9.drew.setCell ⟨G,i + 1,none⟩ (.int .i64 y)) hf rfl rfl (by have:=x_store (w:=w9.drew) (T:=3) (t:=0) (ps:="") (af:=#[]) (g:=none) hf (x:=.tmp 51) (y:=.tmp 46) rfl rfl rfl rfl (by rw [g_add];exact hN9.cell hx9) (by rw [g_add];exact hN9.free _);rw [g_add] at this;exact this) rfl (fun _ hf => ⟨trivial,?_⟩));have hN10:=hN9.set (i + 1) y;refine t_take (i:=16) (d:=52) hf rfl (by kernel_rfl) (by kernel_rfl) (by kernel_rfl) rfl (fun w' hw' => x_index (j:=i) hf rfl rfl rfl (by (try dsimp only);omega) (by omega)) rfl rfl trivial ?_;clear hf;intro _ hf;refine t_one (i:=17) (by kernel_rfl) (t_skip (w':=(w9.drew.setCell ⟨G,i + 1,none⟩ (.int .i64 y)).setCell ⟨G,i,none⟩ (.int .i64 x)) hf rfl rfl (by have:=x_store (w:=w9.drew.setCell ⟨G,i + 1,none⟩ (.int .i64 y)) (T:=3) (t:=0) (ps:="") (af:=#[]) (g:=none) hf (x:=.tmp 52) (y:=.tmp 50) rfl rfl rfl rfl (by rw [g_add];exact hN10.cell (x:=y) (by rw [List.getElem?_set_ne (by omega)];exact hy9)) (by rw [g_add];exact hN10.free _);rw [g_add] at this;exact this) rfl (fun _ hf => ⟨trivial,?_⟩));have hN11:=hN10.set i x;refine wpAnyH_done (by kernel_rfl) (NoPanic.normal ?_) _;simp only [Exit.then,Exit.inBlock];go_step;refine wp_region_lit ?_;refine a_move hf rfl rfl rfl ?_;clear hf;intro _ hf;refine a_ar hf rfl rfl rfl rfl (by (try dsimp only);omega) rfl ?_;clear hf;intro _ hf;refine a_assign hf rfl rfl rfl ?_;clear hf;intro _ hf;refine wpList_nil ?_;simp only [Exit.then,Exit.inBlock];exact ⟨i,by omega,i,swp dj (i + 1) i,by omega,rfl,by rw [swp_length];exact hdl,(((((hf.nilOf.cons (hf.at_ 3 _ rfl)).cons (hf.at_ 2 _ rfl)).cons (hf.at_ 1 _ rfl)).cons (hf.at_ 0 _ rfl)).cons (d:=8) (hf.at_ 8 _ rfl)).cons (d:=9) (by rw [show (i : Int) = ((i + 1 : Nat) : Int) - 1 by omega];exact hf.at_ 9 _ rfl),⟨by rw [HE.out,HSK.out]⟩,⟨by unfold swp;rw [← HXX.out,← HYY.out];exact hN11⟩,⟨swp_mem HDj.out (by omega) (by omega)⟩,((hM1.trans (Mod.of_below (F:=fun k => k = G) hw9) (fun _ _ h => h)).drew.put1' _ _).put1' _ _⟩
    · refine t_one (i:=9) (by kernel_rfl) (t_op (d:=46) hf rfl rfl (x_load hf rfl rfl hly) rfl rfl (fun _ hf => ⟨trivial,?_⟩))
      replace hf:=hf;refine t_take (i:=14) (d:=51) hf rfl (by kernel_rfl) (by kernel_rfl) (by kernel_rfl) rfl (fun w' hw' => x_index (j:=i + 1) hf rfl rfl rfl rfl (by omega)) rfl rfl hS ?_;clear hf;intro _ hf;refine t_one (i:=15) (by kernel_rfl) (t_skip (w':=w9.drew.setCell ⟨G,i + 1,none⟩ (.int .i64 y)) hf rfl rfl (by have:=x_store (w:=w9.drew) (T:=3) (t:=0) (ps:="") (af:=#[]) (g:=none) hf (x:=.tmp 51) (y:=.tmp 46) rfl rfl rfl rfl (by rw [g_add];exact hN9.cell hx9) (by rw [g_add];exact hN9.free _);rw [g_add] at this;exact this) rfl (fun _ hf => ⟨trivial,?_⟩));have hN10:=hN9.set (i + 1) y;refine t_take (i:=16) (d:=52) hf rfl (by kernel_rfl) (by kernel_rfl) (by kernel_rfl) rfl (fun w' hw' => x_index (j:=i) hf rfl rfl rfl (by (try dsimp only);omega) (by omega)) rfl rfl trivial ?_;clear hf;intro _ hf;refine t_one (i:=17) (by kernel_rfl) (t_skip (w':=(w9.drew.setCell ⟨G,i + 1,none⟩ (.int .i64 y)).setCell ⟨G,i,none⟩ (.int .i64 x)) hf rfl rfl (by have:=x_store (w:=w9.drew.setCell ⟨G,i + 1,none⟩ (.int .i64 y)) (T:=3) (t:=0) (ps:="") (af:=#[]) (g:=none) hf (x:=.tmp 52) (y:=.tmp 50) rfl rfl rfl rfl (by rw [g_add];exact hN10.cell (x:=y) (by rw [List.getElem?_set_ne (by omega)];exact hy9)) (by rw [g_add];exact hN10.free _);rw [g_add] at this;exact this) rfl (fun _ hf => ⟨trivial,?_⟩));have hN11:=hN10.set i x;refine wpAnyH_done (by kernel_rfl) (NoPanic.normal ?_) _;simp only [Exit.then,Exit.inBlock];go_step;refine wp_region_lit ?_;refine a_move hf rfl rfl rfl ?_;clear hf;intro _ hf;refine a_ar hf rfl rfl rfl rfl (by (try dsimp only);omega) rfl ?_;clear hf;intro _ hf;refine a_assign hf rfl rfl rfl ?_;clear hf;intro _ hf;refine wpList_nil ?_;simp only [Exit.then,Exit.inBlock];exact ⟨i,by omega,i,swp dj (i + 1) i,by omega,rfl,by rw [swp_length];exact hdl,(((((hf.nilOf.cons (hf.at_ 3 _ rfl)).cons (hf.at_ 2 _ rfl)).cons (hf.at_ 1 _ rfl)).cons (hf.at_ 0 _ rfl)).cons (d:=8) (hf.at_ 8 _ rfl)).cons (d:=9) (by rw [show (i : Int) = ((i + 1 : Nat) : Int) - 1 by omega];exact hf.at_ 9 _ rfl),⟨by rw [HE.out,HSK.out]⟩,⟨by unfold swp;rw [← HXX.out,← HYY.out];exact hN11⟩,⟨swp_mem HDj.out (by omega) (by omega)⟩,((hM1.trans (Mod.of_below (F:=fun k => k = G) hw9) (fun _ _ h => h)).drew.put1' _ _).put1' _ _⟩
  · have hke : k = b - (a + 1):=by omega
    have HKE:=Aside.mk hke;clear hke;refine wp_seq_k ?_;intro _ _;refine wp_seq_k ?_;intro _ _;refine wp_region_lit ?_;refine a_move hf rfl rfl rfl ?_;clear hf;intro _ hf;refine a_move hf rfl rfl rfl ?_;clear hf;intro _ hf;refine a_cmp (b:=false) hf rfl rfl rfl rfl rfl (by first | assumption | ((try dsimp only);simp only [bq1,bq2,bq3,bq4,bq5,bq6,bq7];omega)) rfl ?_;clear hf;intro _ hf;refine wpList_nil ?_;simp only [Exit.then,Exit.inBlock];go_step;refine c_condF hf rfl ?_;refine wp_exit ?_;simp only [Exit.then,Exit.inBlock,↓reduceIte];refine bodyPost_end (by simp [results,Try.results128,go_sem]) hf.defers ⟨rfl,?_,hM⟩;rw [← HKE.out];exact HN.out
end Go.Proofs.Ytpadgcomncljmaa.A
/- Sorting places by an order,up to nineteen places. -/
namespace Go.Proofs.Ytpadgcomncljmaa.A
open Go.RowKit

section
variable {ops : Array Oper} {Q : Exit → Act → World → Prop} {a : Act} {w w' : World} {rest : List Oper} {o : Oper} {n d : Nat} {ds : List Deferred} {l : List (Nat × Value)} {v u : Value}
variable {t : TypeId} {ps : String} {af : Array Edge} {g : Option (Nat × Bool)} {x y z : Operand} {T T' : TypeId} {p : Addr} {od : Option Tmp}
theorem a_box22 (H : Has n ds l a) (hg : wantB ops n l g = some true) (hx : lookO l x = some v) (hd : Nat.ble (d + 1) n = true) (h : ∀ a',Has n ds ((d,.pointer (some ⟨w.heap.size,0,none⟩)) :: l) a' → wpList Try.prog ops Q rest a' (w.alloc (.cells v.cells 22))) : wpList Try.prog ops Q (⟨some d,.box 22 x,t,ps,af,g⟩ :: rest) a w :=
  a_do H hg (by have hx:=H.evO hx;generalize a.eval = ev at hx;simp [go_sem,hx,Value.cells]) rfl hd h
theorem a_box128 (H : Has n ds l a) (hg : wantB ops n l g = some true) (hx : lookO l x = some v) (hd : Nat.ble (d + 1) n = true) (h : ∀ a',Has n ds ((d,.pointer (some ⟨w.heap.size,0,none⟩)) :: l) a' → wpList Try.prog ops Q rest a' (w.alloc (.cells v.cells 128))) : wpList Try.prog ops Q (⟨some d,.box 128 x,t,ps,af,g⟩ :: rest) a w :=
  a_do H hg (by have hx:=H.evO hx;generalize a.eval = ev at hx;simp [go_sem,hx,Value.cells]) rfl hd h
theorem q_load128 {C : World → Prop} {Qq : Act → Prop} (H : Has n ds l a) (hg : wantB ops n l g = some true) (hx : lookO l x = some (.pointer (some p))) (hc : ∀ w,C w → w.cell? p = some v) (hd : Nat.ble (d + 1) n = true) (h : ∀ a',Has n ds ((d,v) :: l) a' → wpQuiet Try.prog ops C Qq rest a') : wpQuiet Try.prog ops C Qq (⟨some d,.load 128 x,t,ps,af,g⟩ :: rest) a :=
  q_do H hg (fun w hw => by have hx:=H.evO hx;have hc:=hc w hw;generalize a.eval = ev at hx;simp [go_sem,hx,hc]) rfl hd h
theorem a_fn2 {f : Fn} (H : Has n ds l a) (hg : wantB ops n l g = some true) (hx : lookO l x = some v) (hy : lookO l y = some u) (hd : Nat.ble (d + 1) n = true) (h : ∀ a',Has n ds ((d,.func f #[] #[v,u]) :: l) a' → wpList Try.prog ops Q rest a' w) : wpList Try.prog ops Q (⟨some d,.makeFunc f #[] #[x,y],t,ps,af,g⟩ :: rest) a w :=
  a_do H hg (by have hx:=H.evO hx;have hy:=H.evO hy;generalize a.eval = ev at hx hy;simp [go_sem,hx,hy]) rfl hd h
theorem x_make22 {k : Nat} (H : Has n ds l a) (hx : lookO l x = some (.int .i64 (k : Int))) (hk : k ≤ 1000000) : (execOp a.eval ⟨od,.makeSlice 22 x x,t,ps,af,g⟩).run Try.prog w = .ok (.value (.slice (some ⟨w.heap.size,0,none⟩) k k)) (w.alloc (.cells (ints (List.replicate k 0)).toArray 3)):=by
  have hx:=H.evO hx
  generalize a.eval = ev at hx
  obtain ⟨i,hi,hz,hs,hb⟩:=info_parts (P:=Try.prog) (e:=3) (z:=.int .i64 0) (size:=1) (bytes:=8) (by kernel_rfl)
  have hr:=run_make (P:=Try.prog) w 22 3 i (.int .i64 0) (by kernel_rfl) hi hz .i64 .i64 k k (by omega) (Int.le_refl _) (by rw [hb];omega) (by omega)
  have hm : madeCells (Value.int .i64 0).cells (k * i.size) = (ints (List.replicate k 0)).toArray:=by
    apply Array.ext'
    rw [hs,Nat.mul_one,show (Value.int .i64 0).cells = #[Value.int .i64 0] from rfl,toList_madeCells_one]
    simp [ints]
  simp only [Int.toNat_natCast,hm] at hr
  simp [execOp,hx,hr,Result.andThen]
theorem a_make22 {k : Nat} (H : Has n ds l a) (hg : wantB ops n l g = some true) (hx : lookO l x = some (.int .i64 (k : Int))) (hk : k ≤ 1000000) (hd : Nat.ble (d + 1) n = true) (h : ∀ a',Has n ds ((d,.slice (some ⟨w.heap.size,0,none⟩) k k) :: l) a' → wpList Try.prog ops Q rest a' (w.alloc (.cells (ints (List.replicate k 0)).toArray 3))) : wpList Try.prog ops Q (⟨some d,.makeSlice 22 x x,t,ps,af,g⟩ :: rest) a w :=
  a_do H hg (x_make22 H hx hk) rfl hd h
end

set_option maxHeartbeats 1000000 in
theorem stable_small (fn : FuncId) (cap : Array Value) (ok : World → Prop) (dom : Int → Prop) (cf : Int → Int → Int) (hcmp : Cmp fn cap ok dom cf) (G : Nat) (hok : ∀ W W', Mod (fun k => k = G) W W' → ok W → ok W') (d : List Int) (w : World) (hw : ok w) (hd : Nums w G d) (hdom : ∀ x ∈ d, dom x) (hn : d.length < 20) :
    Calls Try.prog 122 #[.slice (some ⟨G,0,none⟩) d.length d.length,.int .i64 d.length,.func (.func fn) #[] cap] w fun e w' => e = .returned (.tuple #[]) ∧ Nums w' G (insTo cf 0 (d.length - 1) d) ∧ Mod (fun k => k = G) w w':=by
  have HC:=Aside.mk hcmp;have HOK:=Aside.mk hok;have HD:=Aside.mk hd;have HDM:=Aside.mk hdom;clear hcmp hok hd hdom
  go_enter Try.func122,Try.ntmps122
  refine wp_abs (n:=63) (ds:=[]) (l:=[(0,.slice (some ⟨G,0,none⟩) d.length d.length),(1,.int .i64 d.length),(2,.func (.func fn) #[] cap)]) ?_ ?_
  · refine (((Has.nil ?_ ?_).cons ?_).cons ?_).cons ?_
    all_goals first | rfl | (simp [Act.eval];done)
  intro _ hf;refine wp_seq_k ?_;intro _ _;refine wp_region_lit ?_;refine a_assign hf rfl rfl rfl ?_;clear hf;intro _ hf;refine wpList_nil ?_;simp only [Exit.then,Exit.inBlock];go_step;refine wp_seq_k ?_;intro _ _;refine wp_region_lit ?_;refine a_move hf rfl rfl rfl ?_;clear hf;intro _ hf;refine a_assign hf rfl rfl rfl ?_;clear hf;intro _ hf;refine a_assign hf rfl rfl rfl ?_;clear hf;intro _ hf;refine wpList_nil ?_;simp only [Exit.then,Exit.inBlock];go_step;refine wp_seq_k ?_;intro _ _;refine wp_block ?_;refine wp_loop_ghost (fun m fr wr => m = 0 ∧ wr = w ∧ Has 63 [] [(8,.int .i64 20),(7,.int .i64 0),(6,.int .i64 20),(0,.slice (some ⟨G,0,none⟩) d.length d.length),(1,.int .i64 (d.length : Int)),(2,.func (.func fn) #[] cap)] fr) 0 ?_ ?_
  · exact ⟨rfl,(by first | rfl | trivial),((((((hf.nilOf.cons (hf.at_ 2 _ rfl)).cons (hf.at_ 1 _ rfl)).cons (hf.at_ 0 _ rfl)).cons (hf.at_ 6 _ rfl)).cons (hf.at_ 7 _ rfl)).cons (d:=8) (hf.at_ 8 _ rfl))⟩
  rintro m fr wr ⟨rfl,rfl,hf⟩
  refine wp_seq_k ?_;intro _ _;refine wp_seq_k ?_;intro _ _;refine wp_region_lit ?_;refine a_move hf rfl rfl rfl ?_;clear hf;intro _ hf;refine a_move hf rfl rfl rfl ?_;clear hf;intro _ hf;refine a_cmp (b:=false) hf rfl rfl rfl rfl rfl (by first | assumption | ((try dsimp only);simp only [bq1,bq2,bq3,bq4,bq5,bq6,bq7];omega)) rfl ?_;clear hf;intro _ hf;refine wpList_nil ?_;simp only [Exit.then,Exit.inBlock];go_step;refine c_condF hf rfl ?_;refine wp_exit ?_;simp only [Exit.then,Exit.inBlock,↓reduceIte];go_step;refine wp_seq_k ?_;intro _ _;refine wp_region_lit ?_;refine a_move hf rfl rfl rfl ?_;clear hf;intro _ hf;refine a_move hf rfl rfl rfl ?_;clear hf;intro _ hf;refine a_move hf rfl rfl rfl ?_;clear hf;intro _ hf;refine a_move hf rfl rfl rfl ?_;clear hf;intro _ hf;refine a_call4 hf e128 rfl rfl rfl rfl rfl rfl ?_;clear hf;refine (insertion_any fn cap ok dom cf HC.out G HOK.out d 0 d.length _ hw HD.out HDM.out (Nat.zero_le _) (Nat.le_refl _) (by omega)).mono ?_;rintro _ w1 ⟨rfl,hN1,hM1⟩;intro _ hf;refine wpList_nil ?_;simp only [Exit.then,Exit.inBlock];go_step;have HN1:=Aside.mk hN1;have HM1:=Aside.mk hM1;clear hN1 hM1;refine wp_block ?_;refine wp_loop_ghost (fun m fr wr => m = 0 ∧ wr = w1 ∧ Has 63 [] [(8,.int .i64 20),(7,.int .i64 0),(6,.int .i64 20),(0,.slice (some ⟨G,0,none⟩) d.length d.length),(1,.int .i64 (d.length : Int)),(2,.func (.func fn) #[] cap)] fr) 0 ?_ ?_
  · exact ⟨rfl,(by first | rfl | trivial),((((((hf.nilOf.cons (hf.at_ 2 _ rfl)).cons (hf.at_ 1 _ rfl)).cons (hf.at_ 0 _ rfl)).cons (hf.at_ 6 _ rfl)).cons (hf.at_ 7 _ rfl)).cons (d:=8) (hf.at_ 8 _ rfl))⟩
  rintro m fr wr ⟨rfl,rfl,hf⟩
  refine wp_seq_k ?_;intro _ _;refine wp_seq_k ?_;intro _ _;refine wp_region_lit ?_;refine a_move hf rfl rfl rfl ?_;clear hf;intro _ hf;refine a_move hf rfl rfl rfl ?_;clear hf;intro _ hf;refine a_cmp (b:=false) hf rfl rfl rfl rfl rfl (by first | assumption | ((try dsimp only);simp only [bq1,bq2,bq3,bq4,bq5,bq6,bq7];omega)) rfl ?_;clear hf;intro _ hf;refine wpList_nil ?_;simp only [Exit.then,Exit.inBlock];go_step;refine c_condF hf rfl ?_;refine wp_exit ?_;simp only [Exit.then,Exit.inBlock,↓reduceIte];exact bodyPost_end (by simp [results,Try.results122,go_sem]) hf.defers ⟨rfl,HN1.out,HM1.out⟩
theorem sortStable_small (fn : FuncId) (cap : Array Value) (ok : World → Prop) (dom : Int → Prop) (cf : Int → Int → Int) (hcmp : Cmp fn cap ok dom cf) (G : Nat) (hok : ∀ W W', Mod (fun k => k = G) W W' → ok W → ok W') (d : List Int) (w : World) (hw : ok w) (hd : Nums w G d) (hdom : ∀ x ∈ d, dom x) (hn : d.length < 20) :
    Calls Try.prog 108 #[.slice (some ⟨G,0,none⟩) d.length d.length,.func (.func fn) #[] cap] w fun e w' => e = .returned (.tuple #[]) ∧ Nums w' G (insTo cf 0 (d.length - 1) d) ∧ Mod (fun k => k = G) w w':=by
  have HC:=Aside.mk hcmp;have HOK:=Aside.mk hok;have HD:=Aside.mk hd;have HDM:=Aside.mk hdom;clear hcmp hok hd hdom
  go_enter Try.func108,Try.ntmps108
  refine wp_abs (n:=9) (ds:=[]) (l:=[(0,.slice (some ⟨G,0,none⟩) d.length d.length),(1,.func (.func fn) #[] cap)]) ?_ ?_
  · refine ((Has.nil ?_ ?_).cons ?_).cons ?_
    all_goals first | rfl | (simp [Act.eval];done)
  intro _ hf;refine wp_region_lit ?_;refine a_move hf rfl rfl rfl ?_;clear hf;intro _ hf;refine a_move hf rfl rfl rfl ?_;clear hf;intro _ hf;refine a_len hf rfl rfl rfl rfl ?_;clear hf;intro _ hf;refine a_move hf rfl rfl rfl ?_;clear hf;intro _ hf;refine a_call3 hf e122 rfl rfl rfl rfl rfl ?_;clear hf;refine (stable_small fn cap ok dom cf HC.out G HOK.out d _ hw HD.out HDM.out hn).mono ?_;rintro _ w1 ⟨rfl,hN1,hM1⟩;intro _ hf;refine wpList_nil ?_
  try simp only [Exit.then,Exit.inBlock]
  exact bodyPost_end (by simp [results,Try.results108,go_sem]) hf.defers ⟨rfl,hN1,hM1⟩
theorem desc93 (x y : Int) (w : World) : Calls Try.prog 93 #[.int .i64 x,.int .i64 y] w fun e w' => e = .returned (.int .i64 (cmpI y x)) ∧ w = w':=by
  go_enter Try.func93,Try.ntmps93
  refine wp_abs (n:=8) (ds:=[]) (l:=[(0,.int .i64 x),(1,.int .i64 y)]) ?_ ?_
  · refine ((Has.nil ?_ ?_).cons ?_).cons ?_
    all_goals first | rfl | (simp [Act.eval];done)
  intro _ hf;refine wp_seq_k ?_;intro _ _;refine wp_region_lit ?_;refine a_assign hf rfl rfl rfl ?_;clear hf;intro _ hf;refine wpList_nil ?_;simp only [Exit.then,Exit.inBlock];go_step;refine wp_seq_k ?_;intro _ _;refine wp_region_lit ?_;refine a_move hf rfl rfl rfl ?_;clear hf;intro _ hf;refine a_move hf rfl rfl rfl ?_;clear hf;intro _ hf;refine a_call2 hf e83 rfl rfl rfl rfl ?_;clear hf;refine (cmpCompare_any y x _).mono ?_;rintro _ _ ⟨rfl,rfl⟩;intro _ hf;refine a_assign hf rfl rfl rfl ?_;clear hf;intro _ hf;refine wpList_nil ?_;simp only [Exit.then,Exit.inBlock];go_step;refine wp_ret ?_;exact c_ret hf rfl rfl ⟨rfl,rfl⟩
def Ord (ofn : FuncId) (oc : Int → Int → Int) : Prop:=Enters ofn ∧ ∀ x y W,Calls Try.prog ofn #[.int .i64 x,.int .i64 y] W fun e w' => e = .returned (.int .i64 (oc x y)) ∧ W = w'
set_option maxHeartbeats 1000000 in
theorem order_any (ofn : FuncId) (oc : Int → Int → Int) (ho : Ord ofn oc) (B0 B1 : Nat) (A : Option Addr) (l : List Int) (c i j : Nat) (hi : i < l.length) (hj : j < l.length) (w : World) (h0 : w.heap[B0]? = some (.cells #[.slice A l.length c] 22 (0, 0))) (h1 : w.heap[B1]? = some (.cells #[.func (.func ofn) #[] #[]] 128 (0, 0))) (hl : RI Any w A l) (hn : l.length ≤ 1000000) :
    Calls Try.prog 109 #[.int .i64 i,.int .i64 j,.pointer (some ⟨B1,0,none⟩),.pointer (some ⟨B0,0,none⟩)] w fun e w' => e = .returned (.int .i64 (oc (l.getD i 0) (l.getD j 0))) ∧ Below w.heap.size w w':=by
  obtain ⟨hen,ho⟩:=ho
  have HO:=Aside.mk ho;have hx:=getD_some hi;have hy:=getD_some hj
  generalize l.getD i 0 = x at hx ⊢
  generalize l.getD j 0 = y at hy ⊢
  obtain ⟨ad,rfl,_,q0⟩:=hl i x hx
  obtain ⟨ad',had,_,q1⟩:=hl j y hy
  cases had
  have c0:=blk_cell h0 0 (v:=.slice (some ad) l.length c) rfl;have c1:=blk_cell h1 0 (v:=.func (.func ofn) #[] #[]) rfl;have l0:=lt_of_cell q0;have l1:=lt_of_cell q1;have lb0:=blk_lt h0;have lb1:=blk_lt h1;clear ho hx hy hl h0 h1
  go_enter Try.func109,Try.ntmps109
  refine wp_abs (n:=17) (ds:=[]) (l:=[(0,.int .i64 (i : Int)),(1,.int .i64 (j : Int)),(2,.pointer (some ⟨B1,0,none⟩)),(3,.pointer (some ⟨B0,0,none⟩))]) ?_ ?_
  · refine ((((Has.nil ?_ ?_).cons ?_).cons ?_).cons ?_).cons ?_
    all_goals first | rfl | (simp [Act.eval];done)
  intro _ hf;refine wp_seq_k ?_;intro _ _;refine wp_region_lit ?_;refine a_assign hf rfl rfl rfl ?_;clear hf;intro _ hf;refine wpList_nil ?_;simp only [Exit.then,Exit.inBlock];go_step;refine wp_seq_k ?_;intro _ _;refine r_quiet (n:=17) (ds:=[]) (ls:=[(0,.int .i64 (i : Int)),(1,.int .i64 (j : Int)),(2,.pointer (some ⟨B1,0,none⟩)),(3,.pointer (some ⟨B0,0,none⟩))]) (Below w.heap.size w) (by kernel_rfl) (by kernel_rfl) (bel_drew (Below.refl _ _)) ((((hf.nilOf.cons (hf.at_ 3 _ rfl)).cons (hf.at_ 2 _ rfl)).cons (hf.at_ 1 _ rfl)).cons (hf.at_ 0 _ rfl)) ?_;clear hf;intro _ hf;refine q_load128 hf rfl rfl (fun w' hw' => (hw'.cell (p:=⟨B1,0,none⟩) lb1).trans c1) rfl ?_;clear hf;intro _ hf;refine q_load hf rfl rfl rfl (by exact fun w' hw' => (hw'.cell (p:=⟨B0,0,none⟩) lb0).trans c0) rfl ?_;clear hf;intro _ hf;refine q_move hf rfl rfl rfl ?_;clear hf;intro _ hf;refine q_index (j:=i) hf rfl rfl rfl rfl (by first | rfl | omega) (by omega) rfl ?_;clear hf;intro _ hf;refine q_load hf rfl rfl rfl (by exact fun w' hw' => (by rw [Nat.mul_one];exact (hw'.cell l0).trans q0)) rfl ?_;clear hf;intro _ hf;refine q_load hf rfl rfl rfl (by exact fun w' hw' => (hw'.cell (p:=⟨B0,0,none⟩) lb0).trans c0) rfl ?_;clear hf;intro _ hf;refine q_move hf rfl rfl rfl ?_;clear hf;intro _ hf;refine q_index (j:=j) hf rfl rfl rfl rfl (by first | rfl | omega) (by omega) rfl ?_;clear hf;intro _ hf;refine q_load hf rfl rfl rfl (by exact fun w' hw' => (by rw [Nat.mul_one];exact (hw'.cell l1).trans q1)) rfl ?_;clear hf;intro _ hf;refine q_enter hf rfl (fun w' => by have h0:=hf.evO (x:=.tmp 7) rfl;have h1:=hf.evO (x:=.tmp 11) rfl;have h2:=hf.evO (x:=.tmp 15) rfl;revert h0 h1 h2;generalize (Act.eval _) = ev;intro h0 h1 h2;simp [go_sem,h0,h1,h2,hen _ _]) rfl rfl (fun w' hw' => (HO.out x y w').mono fun _ _ h => ⟨h.1,h.2 ▸ hw'⟩) ?_;clear hf;intro _ hf;refine q_assign hf rfl rfl rfl ?_;clear hf;intro _ hf;refine q_nil ?_;intro w9 hw9;simp only [Exit.then,Exit.inBlock];go_step;refine wp_ret ?_;exact c_ret hf rfl rfl ⟨rfl,hw9⟩
end Go.Proofs.Ytpadgcomncljmaa.A
/- Places in the order of their values. -/
namespace Go.Proofs.Ytpadgcomncljmaa.A
open Go.RowKit

def iotaI (n : Nat) : List Int:=(List.range n).map Int.ofNat
theorem iotaI_length (n : Nat) : (iotaI n).length = n:=by simp [iotaI]
theorem iotaI_of {n : Nat} {d : List Int} (h : d.length = n) (hd : ∀ i,i < n → d[i]? = some (i : Int)) : d = iotaI n:=by
  refine List.ext_getElem? fun i => ?_
  by_cases hi : i < n
  · rw [hd i hi];simp [iotaI,hi]
  · rw [List.getElem?_eq_none (by omega),List.getElem?_eq_none (by rw [iotaI_length];omega)]
def sortedL (oc : Int → Int → Int) (l : List Int) : List Int:=insTo (fun i j => oc (l.getD i.toNat 0) (l.getD j.toNat 0)) 0 (l.length - 1) (iotaI l.length)
theorem alloc_size' (w : World) (o : Obj) : (w.alloc o).heap.size = w.heap.size + 1:=by simp
theorem bel_modG {w W3 wr : World} {G : Nat} (h : Below w.heap.size w W3) (hM : Mod (fun k => k = G) W3 wr) (hG : w.heap.size ≤ G) : Below w.heap.size w wr :=
  ⟨hM.os.trans h.os,hM.tape.trans h.tape,hM.output.trans h.output,Nat.le_trans h.size hM.size,fun k hk => (hM.block k (by have:=h.size;omega) (by omega)).trans (h.block k hk)⟩
theorem cmp109 (ofn : FuncId) (oc : Int → Int → Int) (ho : Ord ofn oc) (B0 B1 G : Nat) (A : Option Addr) (l : List Int) (c : Nat) (hn : l.length ≤ 1000000) :
    Cmp 109 #[.pointer (some ⟨B1,0,none⟩),.pointer (some ⟨B0,0,none⟩)] (fun w => w.heap[B0]? = some (.cells #[.slice A l.length c] 22 (0,0)) ∧ w.heap[B1]? = some (.cells #[.func (.func ofn) #[] #[]] 128 (0,0)) ∧ RI (fun k => k ≠ G) w A l) (fun i => 0 ≤ i ∧ i < l.length) (fun i j => oc (l.getD i.toNat 0) (l.getD j.toNat 0)):=by
  refine ⟨e109,fun x y W hW hx hy => ?_⟩
  obtain ⟨i,rfl⟩:=Int.eq_ofNat_of_zero_le hx.1
  obtain ⟨j,rfl⟩:=Int.eq_ofNat_of_zero_le hy.1
  exact order_any ofn oc ho B0 B1 A l c i j (by omega) (by omega) W hW.1 hW.2.1 hW.2.2.any hn
set_option maxHeartbeats 2000000 in
set_option maxRecDepth 100000 in
theorem sorted_any (ofn : FuncId) (oc : Int → Int → Int) (ho : Ord ofn oc) (A : Option Addr) (l : List Int) (c : Nat) (w : World) (hl : RI Any w A l) (hn : l.length < 20) :
    Calls Try.prog 92 #[.slice A l.length c,.func (.func ofn) #[] #[]] w fun e w' => ∃ G,e = .returned (.slice (some ⟨G,0,none⟩) l.length l.length) ∧ w.heap.size ≤ G ∧ Nums w' G (sortedL oc l) ∧ Below w.heap.size w w':=by
  have HW : ∃ W2,W2 = (w.alloc (.cells #[.slice A l.length c] 22)).alloc (.cells #[.func (.func ofn) #[] #[]] 128):=⟨_,rfl⟩
  obtain ⟨W2,HW⟩:=HW
  have HB:=Aside.mk (show Below w.heap.size w W2 by rw [HW];exact bel_alloc (bel_alloc (Below.refl _ _) _) _);have h1 : W2.heap[w.heap.size + 1]? = some (.cells #[.func (.func ofn) #[] #[]] 128 (0,0)):=by rw [HW];have:=heap_alloc_new (w.alloc (.cells #[.slice A l.length c] 22)) (.cells #[.func (.func ofn) #[] #[]] 128);rwa [alloc_size'] at this
  have h0 : W2.heap[w.heap.size]? = some (.cells #[.slice A l.length c] 22 (0,0)):=by rw [HW,heap_alloc_old _ _ (by rw [alloc_size'];omega)];exact heap_alloc_new w _
  have HL:=Aside.mk (hl.below HB.out);have HLG:=Aside.mk (fun (G : Nat) (hG : w.heap.size ≤ G) => (hl.mono (D':=fun k => k ≠ G) (fun k _ hk => by omega)).below HB.out);have HO:=Aside.mk ho;have HWW:=Aside.mk HW;have c0:=blk_cell h0 0 (v:=.slice A l.length c) rfl;have lb0:=blk_lt h0;have lb1:=blk_lt h1;have H0:=Aside.mk h0;have H1:=Aside.mk h1;clear hl ho HW h0 h1
  go_enter Try.func92,Try.ntmps92
  refine wp_abs (n:=24) (ds:=[]) (l:=[(0,.slice A l.length c),(1,.func (.func ofn) #[] #[])]) ?_ ?_
  · refine ((Has.nil ?_ ?_).cons ?_).cons ?_
    all_goals first | rfl | (simp [Act.eval];done)
  intro _ hf;refine wp_seq_k ?_;intro _ _;refine wp_region_lit ?_;refine a_box22 hf rfl rfl rfl ?_;clear hf;intro _ hf;refine a_box128 hf rfl rfl rfl ?_;clear hf;intro _ hf;refine a_assign hf rfl rfl rfl ?_;clear hf;intro _ hf;refine wpList_nil ?_;simp only [Exit.then,Exit.inBlock];go_step
  change Code.wp _ _ _ _ ((w.alloc (.cells #[.slice A l.length c] 22)).alloc (.cells #[.func (.func ofn) #[] #[]] 128))
  rw [← HWW.out];replace hf : Has 24 [] [(4,.slice none 0 0),(3,.pointer (some ⟨w.heap.size + 1,0,none⟩)),(2,.pointer (some ⟨w.heap.size,0,none⟩)),(0,.slice A l.length c),(1,.func (.func ofn) #[] #[])] _:=(((((hf.nilOf.cons (hf.at_ 1 _ rfl)).cons (hf.at_ 0 _ rfl)).cons (hf.at_ 2 _ rfl)).cons (d:=3) (by have:=hf.at_ 3 _ rfl;rwa [alloc_size'] at this)).cons (hf.at_ 4 _ rfl));refine wp_seq_k ?_;intro _ _;refine wp_region_lit ?_;refine a_load hf rfl rfl rfl (by exact c0) rfl ?_;clear hf;intro _ hf;refine a_len hf rfl rfl rfl rfl ?_;clear hf;intro _ hf;refine a_make22 hf rfl rfl (by omega) rfl ?_;clear hf;intro _ hf;refine a_assign hf rfl rfl rfl ?_;clear hf;intro _ hf;refine wpList_nil ?_;simp only [Exit.then,Exit.inBlock];go_step;have HW3 : ∃ W3,W3 = W2.alloc (.cells (ints (List.replicate l.length 0)).toArray 3):=⟨_,rfl⟩
  obtain ⟨W3,HW3⟩:=HW3
  rw [← HW3];have hG3 : Nums W3 W2.heap.size (List.replicate l.length 0):=by rw [HW3];exact heap_alloc_new W2 _
  have HB3:=Aside.mk (show Below W2.heap.size W2 W3 by rw [HW3];exact bel_alloc (Below.refl _ _) _);have HG3:=Aside.mk hG3;clear HW3 hG3
  obtain ⟨G,hGG⟩ : ∃ G,G = W2.heap.size:=⟨_,rfl⟩
  rw [← hGG] at hf HG3;refine wp_seq_k ?_;intro _ _;refine wp_seq_k ?_;intro _ _;refine wp_region_lit ?_;refine a_move hf rfl rfl rfl ?_;clear hf;intro _ hf;refine a_len hf rfl rfl rfl rfl ?_;clear hf;intro _ hf;refine a_move hf rfl rfl rfl ?_;clear hf;intro _ hf;refine wpList_nil ?_;simp only [Exit.then,Exit.inBlock];go_step;refine wp_block ?_;refine wp_loop_ghost (fun m fr wr => ∃ (k : Nat) (d : List Int),k ≤ l.length ∧ m = l.length - k ∧ Has 24 [] [(12,.int .i64 (k : Int)),(11,.int .i64 (l.length : Int)),(10,.slice (some ⟨G,0,none⟩) l.length l.length),(5,.slice (some ⟨G,0,none⟩) l.length l.length),(3,.pointer (some ⟨w.heap.size + 1,0,none⟩)),(2,.pointer (some ⟨w.heap.size,0,none⟩))] fr ∧ d.length = l.length ∧ Aside (∀ i,i < k → d[i]? = some (i : Int)) ∧ Aside (Nums wr G d) ∧ Mod (fun k => k = G) W3 wr) l.length ?_ ?_
  · exact ⟨0,List.replicate l.length 0,Nat.zero_le _,rfl,((((((hf.nilOf.cons (hf.at_ 2 _ rfl)).cons (hf.at_ 3 _ rfl)).cons (hf.at_ 5 _ rfl)).cons (hf.at_ 10 _ rfl)).cons (hf.at_ 11 _ rfl)).cons (d:=12) (hf.at_ 12 _ rfl)),by simp,⟨fun i h => absurd h (Nat.not_lt_zero i)⟩,HG3,Mod.refl⟩
  rintro m fr wr ⟨k,d,hk',rfl,hf,hdl,HI,HN,hM⟩
  by_cases hlt : k < l.length
  · have hcell:=HN.out.cell (getD_some (d:=d) (j:=k) (by omega))
    have hfree:=HN.out.free k;have hN2:=HN.out.set k (k : Int)
    have HI2:=Aside.mk (show ∀ i,i < k + 1 → (d.set k (k : Int))[i]? = some (i : Int) by
      intro i hi
      by_cases hik : i = k
      · subst hik;rw [List.getElem?_set_self (by omega)]
      · rw [List.getElem?_set_ne (by omega)];exact HI.out i (by omega))
    have HN2:=Aside.mk hN2;clear hN2;refine wp_seq_k ?_;intro _ _;refine wp_region_lit ?_;refine a_cmp (b:=true) hf rfl rfl rfl rfl rfl (by first | assumption | ((try dsimp only);simp only [bq1,bq2,bq3,bq4,bq5,bq6,bq7];omega)) rfl ?_;clear hf;intro _ hf;refine wpList_nil ?_;simp only [Exit.then,Exit.inBlock];go_step;refine wp_seq_k ?_;intro _ _;refine c_condT hf rfl ?_;refine wp_skip ?_;simp only [Exit.then];go_step;refine wp_seq_k ?_;intro _ _;refine wp_block ?_;refine wp_seq_k ?_;intro _ _;refine wp_region_lit ?_;refine a_move hf rfl rfl rfl ?_;clear hf;intro _ hf;refine a_assign hf rfl rfl rfl ?_;clear hf;intro _ hf;refine wpList_nil ?_;simp only [Exit.then,Exit.inBlock];go_step;refine wp_region_lit ?_;refine a_move hf rfl rfl rfl ?_;clear hf;intro _ hf;refine a_move hf rfl rfl rfl ?_;clear hf;intro _ hf;refine a_move hf rfl rfl rfl ?_;clear hf;intro _ hf;refine a_index1 hf rfl rfl rfl (j:=k) rfl (by omega) rfl ?_;clear hf;intro _ hf;refine a_store hf rfl rfl rfl rfl rfl (by rw [add_at];exact hcell) (by rw [add_at];exact hfree) ?_;clear hf;intro _ hf;refine wpList_nil ?_;simp only [Exit.then,Exit.inBlock];go_step;refine wp_region_lit ?_;refine a_ar hf rfl rfl rfl rfl (by (try dsimp only);omega) rfl ?_;clear hf;intro _ hf;refine a_move hf rfl rfl rfl ?_;clear hf;intro _ hf;refine wpList_nil ?_;simp only [Exit.then,Exit.inBlock];exact ⟨l.length - (k + 1),by omega,k + 1,d.set k (k : Int),by omega,rfl,((((((hf.nilOf.cons (hf.at_ 2 _ rfl)).cons (hf.at_ 3 _ rfl)).cons (hf.at_ 5 _ rfl)).cons (hf.at_ 10 _ rfl)).cons (hf.at_ 11 _ rfl)).cons (d:=12) (hf.at_ 12 _ rfl)),by simpa using hdl,HI2,⟨by rw [add_at];exact HN2.out⟩,by rw [add_at];exact hM.put1 k _⟩
  · have hke : k = l.length:=by omega
    subst hke
    refine wp_seq_k ?_;intro _ _;refine wp_region_lit ?_;refine a_cmp (b:=false) hf rfl rfl rfl rfl rfl (by first | assumption | ((try dsimp only);simp only [bq1,bq2,bq3,bq4,bq5,bq6,bq7];omega)) rfl ?_;clear hf;intro _ hf;refine wpList_nil ?_;simp only [Exit.then,Exit.inBlock];go_step;refine wp_seq_k ?_;intro _ _;refine c_condF hf rfl ?_;refine wp_exit ?_;simp only [Exit.then,Exit.inBlock,↓reduceIte];go_step;have hds:=iotaI_of hdl HI.out
    subst hds
    have hGs : w.heap.size ≤ G:=by rw [hGG];exact HB.out.size
    have hB1 : w.heap.size + 1 < G:=by rw [hGG];exact lb1
    have hBw : Below w.heap.size w wr:=bel_modG (bel_then HB.out HB3.out) hM hGs;have hM2 : ∀ k,k < G → wr.heap[k]? = W2.heap[k]?:=fun k hk => (hM.block k (by have:=HB3.out.size;omega) (by omega)).trans (HB3.out.block k (by omega));have hS:=sortStable_small 109 _ _ _ _ (cmp109 ofn oc HO.out w.heap.size (w.heap.size + 1) G A l c (by omega)) G (fun W W' hMM hW => ⟨(hMM.block _ (blk_lt hW.1) (by omega)).trans hW.1,(hMM.block _ (blk_lt hW.2.1) (by omega)).trans hW.2.1,hW.2.2.move fun k hD hk => hMM.block k hk hD⟩) (iotaI l.length) wr ⟨(hM2 _ (by omega)).trans H0.out,(hM2 _ hB1).trans H1.out,(HLG.out G hGs).move fun k hD hk => hM2 k (by rw [hGG];exact hk)⟩ HN.out (by intro x hx;simp only [iotaI,List.mem_map,List.mem_range] at hx;obtain ⟨i,hi,rfl⟩:=hx;constructor <;> simp only [Int.ofNat_eq_natCast] <;> omega) (by omega);rw [hdl] at hS;have HS:=Aside.mk hS;have HBw:=Aside.mk hBw;clear hS hBw hM2;refine wp_seq_k ?_;intro _ _;refine wp_region_lit ?_;refine a_move hf rfl rfl rfl ?_;clear hf;intro _ hf;refine a_fn2 hf rfl rfl rfl rfl ?_;clear hf;intro _ hf;refine a_call2 hf e108 rfl rfl rfl rfl ?_;clear hf;refine HS.out.mono ?_;rintro _ w5 ⟨rfl,hN5,hM5⟩;intro _ hf;refine wpList_nil ?_;simp only [Exit.then,Exit.inBlock];go_step;refine wp_seq_k ?_;intro _ _;refine wp_region_lit ?_;refine a_move hf rfl rfl rfl ?_;clear hf;intro _ hf;refine a_assign hf rfl rfl rfl ?_;clear hf;intro _ hf;refine wpList_nil ?_;simp only [Exit.then,Exit.inBlock];go_step;refine wp_ret ?_;exact c_ret hf rfl rfl ⟨G,rfl,hGs,hN5,bel_modG HBw.out hM5 hGs⟩
end Go.Proofs.Ytpadgcomncljmaa.A
/- An amount split by shares. -/
namespace Go.Proofs.Ytpadgcomncljmaa.A
open Go.RowKit

def sumI : List Int → Int
  | [] => 0
  | x :: l => x + sumI l
theorem sumI_snoc (l : List Int) (x : Int) : sumI (l ++ [x]) = sumI l + x:=by
  induction l with
  | nil => simp [sumI]
  | cons y l ih => simp only [List.cons_append,sumI,ih];omega
theorem sumI_bound {b : Int} {l : List Int} (h : ∀ x ∈ l,0 ≤ x ∧ x ≤ b) : 0 ≤ sumI l ∧ sumI l ≤ b * l.length:=by
  induction l with
  | nil => simp [sumI]
  | cons y l ih =>
    have h1:=h y (List.mem_cons_self ..);have h2:=ih fun x hx => h x (List.mem_cons_of_mem _ hx);simp only [sumI,List.length_cons,Int.natCast_add,Int.natCast_one,Int.mul_add,Int.mul_one]
    omega
def outsL (a s : Int) (l : List Int) : List Int:=l.map fun x => a * x / s
def restsL (a s : Int) (l : List Int) : List Int:=l.map fun x => a * x % s
theorem outs_sum (a s : Int) (l : List Int) : a * sumI l = s * sumI (outsL a s l) + sumI (restsL a s l):=by
  induction l with
  | nil => simp [sumI,outsL,restsL]
  | cons x l ih =>
    have h:=Int.mul_ediv_add_emod (a * x) s;simp only [outsL,restsL,List.map_cons,sumI,Int.mul_add] at ih ⊢
    omega
theorem left_bound {a s : Int} {l : List Int} (hs : s = sumI l) (h0 : 0 < s) : 0 ≤ a - sumI (outsL a s l) ∧ a - sumI (outsL a s l) ≤ l.length:=by
  have h:=outs_sum a s l
  have hr : ∀ x ∈ restsL a s l,0 ≤ x ∧ x ≤ s:=by
    intro x hx
    obtain ⟨y,_,rfl⟩:=List.mem_map.1 hx
    exact ⟨Int.emod_nonneg _ (by omega),Int.le_of_lt (Int.emod_lt_of_pos _ h0)⟩
  have hb:=sumI_bound hr;have hl : (restsL a s l).length = l.length:=by simp [restsL]
  rw [hl] at hb;rw [← hs] at h;have h1 : s * (a - sumI (outsL a s l)) = sumI (restsL a s l):=by rw [Int.mul_sub,Int.mul_comm s a];omega
  rw [← h1] at hb;exact ⟨Int.nonneg_of_mul_nonneg_right hb.1 h0 |> fun h => h,Int.le_of_mul_le_mul_left hb.2 h0⟩
theorem sumI_take : ∀ {l : List Int} (_ : ∀ x ∈ l, 0 ≤ x) (k : Nat), 0 ≤ sumI (l.take k) ∧ sumI (l.take k) ≤ sumI l
  | [],_,k => by simp [sumI]
  | x :: l,h,0 => by
    have:=sumI_take (fun y hy => h y (List.mem_cons_of_mem _ hy)) (l:=l) 0;have:=h x (List.mem_cons_self ..);simp only [List.take_zero,sumI] at *
    omega
  | x :: l,h,k + 1 => by
    have:=sumI_take (fun y hy => h y (List.mem_cons_of_mem _ hy)) (l:=l) k;have:=h x (List.mem_cons_self ..);simp only [List.take_succ_cons,sumI] at *
    omega
theorem part_bound {a s : Int} {l : List Int} (hs : s = sumI l) (h0 : 0 < s) (hl : ∀ x ∈ l,0 ≤ x) (ha : 0 ≤ a) (k : Nat) : 0 ≤ sumI (outsL a s (l.take k)) ∧ sumI (outsL a s (l.take k)) ≤ a:=by
  have h1:=left_bound (a:=a) hs h0
  have h2 := sumI_take (l := outsL a s l) (by
    intro x hx
    obtain ⟨y,hy,rfl⟩:=List.mem_map.1 hx
    exact Int.ediv_nonneg (Int.mul_nonneg ha (hl y hy)) (by omega)) k
  rw [show (outsL a s l).take k = outsL a s (l.take k) by simp [outsL,List.map_take]] at h2
  omega
def bump : List Int → List Int → List Int
  | out,[] => out
  | out,i :: r => bump (out.set i.toNat (out.getD i.toNat 0 + 1)) r
theorem bump_snoc (i : Int) : ∀ (r out : List Int), bump out (r ++ [i]) = (bump out r).set i.toNat ((bump out r).getD i.toNat 0 + 1)
  | [],_ => rfl
  | _ :: r,_ => bump_snoc i r _
theorem bump_length : ∀ (r out : List Int), (bump out r).length = out.length
  | [],_ => rfl
  | _ :: r,out => by rw [bump,bump_length r];simp
theorem bump_bound {b : Int} : ∀ (r out : List Int) (_ : ∀ x ∈ out, 0 ≤ x ∧ x ≤ b) (_ : 0 ≤ b), ∀ x ∈ bump out r, 0 ≤ x ∧ x ≤ b + r.length
  | [],_,h,_ => by simpa [bump] using h
  | i :: r,out,h,hb => by
    have hx0 : 0 ≤ out.getD i.toNat 0 ∧ out.getD i.toNat 0 ≤ b:=by
      rw [List.getD_eq_getElem?_getD]
      cases hq : out[i.toNat]? with
      | none => exact ⟨Int.le_refl _,hb⟩
      | some v => exact h v (List.mem_of_getElem? hq)
    have := bump_bound (b := b + 1) r (out.set i.toNat (out.getD i.toNat 0 + 1)) (by
      intro x hx
      rcases List.mem_or_eq_of_mem_set hx with hx | rfl
      · have:=h x hx;omega
      · omega) (by omega)
    intro x hx;have:=this x hx;simp only [List.length_cons,Int.natCast_add,Int.natCast_one]
    omega
def descI (x y : Int) : Int:=cmpI y x
theorem ord93 : Ord 93 descI:=⟨e93,fun x y W => desc93 x y W⟩
def leftOf (a : Int) (l : List Int) : Int:=a - sumI (outsL a (sumI l) l)
def splitR (a : Int) (l : List Int) : List Int:=bump (outsL a (sumI l) l) ((sortedL descI (restsL a (sumI l) l)).take (leftOf a l).toNat)
theorem sorted_dom (oc : Int → Int → Int) (l : List Int) : ∀ i ∈ sortedL oc l,0 ≤ i ∧ i < l.length:=by
  have h0 : ∀ x ∈ iotaI l.length,0 ≤ x ∧ x < (l.length : Int):=by
    intro x hx;simp only [iotaI,List.mem_map,List.mem_range] at hx;obtain ⟨i,hi,rfl⟩:=hx;constructor <;> simp only [Int.ofNat_eq_natCast] <;> omega
  cases hl : l.length with
  | zero => intro i hi; have : (sortedL oc l).length = 0 := by rw [sortedL, insTo_length, iotaI_length, hl]
            rw [List.length_eq_zero_iff.1 this] at hi;cases hi
  | succ n =>
    rw [← hl];exact insTo_mem _ _ (by rw [iotaI_length];omega) h0
theorem sorted_length (oc : Int → Int → Int) (l : List Int) : (sortedL oc l).length = l.length:=by rw [sortedL,insTo_length,iotaI_length]
theorem prod_bound {a x : Int} (ha : 0 ≤ a ∧ a ≤ 1000000000000) (hx : 0 ≤ x ∧ x ≤ 1000000) : 0 ≤ a * x ∧ a * x ≤ 1000000000000000000:=⟨Int.mul_nonneg ha.1 hx.1,by have:=Int.mul_le_mul ha.2 hx.2 hx.1 (by omega);omega⟩
theorem quo_bound {p s : Int} (hp : 0 ≤ p ∧ p ≤ 1000000000000000000) (hs : 0 < s) : 0 ≤ p / s ∧ p / s ≤ 1000000000000000000:=⟨Int.ediv_nonneg hp.1 (by omega),Int.le_trans (Int.ediv_le_self s hp.1) hp.2⟩

section
variable {ops : Array Oper} {Q : Exit → Act → World → Prop} {a : Act} {w w' : World} {rest : List Oper} {o : Oper} {n d : Nat} {ds : List Deferred} {l : List (Nat × Value)} {v u : Value}
variable {t : TypeId} {ps : String} {af : Array Edge} {g : Option (Nat × Bool)} {x y z : Operand} {T T' : TypeId} {p : Addr} {od : Option Tmp}
theorem x_quo {m k : Int} (H : Has n ds l a) (hx : lookO l x = some (.int .i64 m)) (hy : lookO l y = some (.int .i64 k)) (hb : 0 ≤ m ∧ m ≤ 9223372036854775807 ∧ 1 ≤ k) : (execOp a.eval ⟨od,.binOp .quo 3 x y 3,t,ps,af,g⟩).run Try.prog w = .ok (.value (.int .i64 (m / k))) w:=by
  have hx:=H.evO hx;have hy:=H.evO hy
  generalize a.eval = ev at hx hy
  have h0 : k ≠ 0:=by omega
  rw [← IntWalk.i64_quo _ _ hb]
  simp [go_sem,hx,hy,h0]
theorem x_rem {m k : Int} (H : Has n ds l a) (hx : lookO l x = some (.int .i64 m)) (hy : lookO l y = some (.int .i64 k)) (hb : 0 ≤ m ∧ m ≤ 9223372036854775807 ∧ 1 ≤ k ∧ k ≤ 9223372036854775807) : (execOp a.eval ⟨od,.binOp .rem 3 x y 3,t,ps,af,g⟩).run Try.prog w = .ok (.value (.int .i64 (m % k))) w:=by
  have hx:=H.evO hx;have hy:=H.evO hy
  generalize a.eval = ev at hx hy
  have h0 : k ≠ 0:=by omega
  have h1 : m.tmod k = m % k:=Int.tmod_eq_emod_of_nonneg hb.1;have h2 : IntKind.i64.wrap (m % k) = m % k:=IntWalk.i64_in _ ⟨by have:=Int.emod_nonneg m h0;omega,by have:=Int.emod_lt_of_pos m (show 0 < k by omega);omega⟩;rw [← h2,← h1]
  simp [go_sem,hx,hy,h0,h1,h2]
theorem a_cut22 {k c : Nat} {i : Int} {m : Nat} (H : Has n ds l a) (hg : wantB ops n l g = some true) (hx : lookO l x = some (.slice (some p) k c)) (hy : lookO l y = some (.int .i64 i)) (hi : i = m) (hm : m ≤ c) (hd : Nat.ble (d + 1) n = true) (h : ∀ a',Has n ds ((d,.slice (some p) m c) :: l) a' → wpList Try.prog ops Q rest a' w) : wpList Try.prog ops Q (⟨some d,.slice 22 x none (some y) none,t,ps,af,g⟩ :: rest) a w :=
  a_do H hg (by
    have hx:=H.evO hx;have hy:=H.evO hy
    generalize a.eval = ev at hx hy
    subst hi
    have h1 : ¬ ((m : Int) < 0):=by omega
    have h2 : ¬ ((c : Int) < (m : Int)):=by omega
    have h3 : (m : Int) ≤ c:=by omega
    simp [go_sem,hx,hy,h1,h2,h3,hm]) rfl hd h
end
end Go.Proofs.Ytpadgcomncljmaa.A
/- An amount split by shares: the walk. -/
namespace Go.Proofs.Ytpadgcomncljmaa.A
open Go.RowKit

theorem bel_mod2 {w W3 wr : World} {G1 G2 : Nat} (h : Below w.heap.size w W3) (hM : Mod (fun k => k = G1 ∨ k = G2) W3 wr) (h1 : w.heap.size ≤ G1) (h2 : w.heap.size ≤ G2) : Below w.heap.size w wr :=
  ⟨hM.os.trans h.os,hM.tape.trans h.tape,hM.output.trans h.output,Nat.le_trans h.size hM.size,fun k hk => (hM.block k (by have:=h.size;omega) (by omega)).trans (h.block k hk)⟩
theorem Nums.other {w : World} {G G' : Nat} {d : List Int} {k : Nat} {u : Value} (h : Nums w G d) (hne : G ≠ G') : Nums (w.setCell ⟨G',k,none⟩ u) G d :=
  h.keep (((Mod.refl (F:=fun k => k = G') (w:=w)).put1 k u).block G (blk_lt h) hne)
theorem take_snoc {l : List Int} {k : Nat} {x : Int} (h : l[k]? = some x) : l.take (k + 1) = l.take k ++ [x]:=by rw [List.take_add_one,h];rfl
theorem fill_set (o : List Int) {k m : Nat} {v : Int} (h : o.length = k) : (o ++ List.replicate (m + 1) 0).set k v = (o ++ [v]) ++ List.replicate m 0:=by
  subst h;simp [List.replicate_succ]
theorem x_assign {P : Program} {a : Act} {w : World} {n : Nat} {ds : List Deferred} {l : List (Nat × Value)} {od : Option Tmp} {t : TypeId} {ps : String} {af : Array Edge} {g : Option (Nat × Bool)} {x : Operand} {v : Value} (H : Has n ds l a) (hx : lookO l x = some v) : (execOp a.eval ⟨od,.assign x,t,ps,af,g⟩).run P w = .ok (.value v) w:=by
  have hx:=H.evO hx
  generalize a.eval = ev at hx
  simp [go_sem,hx]
set_option maxHeartbeats 4000000 in
set_option maxRecDepth 100000 in
theorem split54_any (am : Int) (A : Option Addr) (l : List Int) (c : Nat) (w : World) (hl : RI Any w A l) (hn : l.length < 20) (ham : 0 ≤ am ∧ am ≤ 1000000000000) (hs : ∀ x ∈ l, 0 ≤ x ∧ x ≤ 1000000) (hpos : 0 < sumI l) :
    Calls Try.prog 54 #[.int .i64 am,.slice A l.length c] w fun e w' => ∃ G,e = .returned (.slice (some ⟨G,0,none⟩) l.length l.length) ∧ w.heap.size ≤ G ∧ Nums w' G (splitR am l) ∧ Below w.heap.size w w':=by
  have HL:=Aside.mk hl;have HS:=Aside.mk hs;have hsum:=sumI_bound hs;clear hl hs
  go_enter Try.func54,Try.ntmps54
  refine wp_abs (n:=79) (ds:=[]) (l:=[(0,.int .i64 am),(1,.slice A l.length c)]) ?_ ?_
  · refine ((Has.nil ?_ ?_).cons ?_).cons ?_
    all_goals first | rfl | (simp [Act.eval];done)
  intro _ hf;refine wp_seq_k ?_;intro _ _;refine wp_region_lit ?_;refine a_assign hf rfl rfl rfl ?_;clear hf;intro _ hf;refine wpList_nil ?_;simp only [Exit.then,Exit.inBlock];go_step;refine wp_seq_k ?_;intro _ _;refine wp_region_lit ?_;refine a_assign hf rfl rfl rfl ?_;clear hf;intro _ hf;refine wpList_nil ?_;simp only [Exit.then,Exit.inBlock];go_step;refine wp_seq_k ?_;intro _ _;refine wp_seq_k ?_;intro _ _;refine wp_region_lit ?_;refine a_move hf rfl rfl rfl ?_;clear hf;intro _ hf;refine a_len hf rfl rfl rfl rfl ?_;clear hf;intro _ hf;refine a_move hf rfl rfl rfl ?_;clear hf;intro _ hf;refine wpList_nil ?_;simp only [Exit.then,Exit.inBlock];go_step;refine wp_block ?_;refine wp_loop_ghost (fun m fr wr => ∃ k : Nat,k ≤ l.length ∧ m = l.length - k ∧ wr = w ∧ Has 79 [] [(17,.int .i64 (k : Int)),(16,.int .i64 (l.length : Int)),(15,.slice A l.length c),(5,.int .i64 (sumI (l.take k))),(1,.slice A l.length c),(0,.int .i64 am)] fr) l.length ?_ ?_
  · exact ⟨0,Nat.zero_le _,rfl,rfl,(((((((hf.nilOf).cons (d:=0) (hf.at_ 0 _ rfl)).cons (d:=1) (hf.at_ 1 _ rfl)).cons (d:=5) (hf.at_ 5 _ rfl)).cons (d:=15) (hf.at_ 15 _ rfl)).cons (d:=16) (hf.at_ 16 _ rfl)).cons (d:=17) (hf.at_ 17 _ rfl))⟩
  rintro m fr wr ⟨k,hk',rfl,rfl,hf⟩
  by_cases hlt : k < l.length
  · obtain ⟨x,hx⟩:=get_some hlt
    have HX:=Aside.mk (drop_snoc hx);have hxb:=HS.out x (List.mem_of_getElem? hx)
    obtain ⟨ad,rfl,_,q0⟩:=HL.out k x hx
    have hsk:=sumI_bound (fun y hy => HS.out y (List.mem_of_mem_take (i:=k) hy));rw [List.length_take,Nat.min_eq_left hk'] at hsk;clear hx;refine wp_seq_k ?_;intro _ _;refine wp_region_lit ?_;refine a_cmp (b:=true) hf rfl rfl rfl rfl rfl (by first | assumption | ((try dsimp only);simp only [bq1,bq2,bq3,bq4,bq5,bq6,bq7];omega)) rfl ?_;clear hf;intro _ hf;refine wpList_nil ?_;simp only [Exit.then,Exit.inBlock];go_step;refine wp_seq_k ?_;intro _ _;refine c_condT hf rfl ?_;refine wp_skip ?_;simp only [Exit.then];go_step;refine wp_seq_k ?_;intro _ _;refine wp_block ?_;refine wp_seq_k ?_;intro _ _;refine wp_region_lit ?_;refine a_index1 hf rfl rfl rfl (j:=k) rfl (by omega) rfl ?_;clear hf;intro _ hf;refine a_load hf rfl rfl rfl (by exact q0) rfl ?_;clear hf;intro _ hf;refine a_assign hf rfl rfl rfl ?_;clear hf;intro _ hf;refine wpList_nil ?_;simp only [Exit.then,Exit.inBlock];go_step;refine wp_region_lit ?_;refine a_move hf rfl rfl rfl ?_;clear hf;intro _ hf;refine a_move hf rfl rfl rfl ?_;clear hf;intro _ hf;refine a_ar hf rfl rfl rfl rfl (by (try dsimp only);omega) rfl ?_;clear hf;intro _ hf;refine a_assign hf rfl rfl rfl ?_;clear hf;intro _ hf;refine wpList_nil ?_;simp only [Exit.then,Exit.inBlock];go_step;refine wp_region_lit ?_;refine a_ar hf rfl rfl rfl rfl (by (try dsimp only);omega) rfl ?_;clear hf;intro _ hf;refine a_move hf rfl rfl rfl ?_;clear hf;intro _ hf;refine wpList_nil ?_;simp only [Exit.then,Exit.inBlock];exact ⟨l.length - (k + 1),by omega,k + 1,by omega,rfl,(by first | rfl | trivial),(((((((hf.nilOf).cons (d:=0) (hf.at_ 0 _ rfl)).cons (d:=1) (hf.at_ 1 _ rfl)).cons (d:=5) (by rw [HX.out,sumI_snoc];exact hf.at_ 5 _ rfl)).cons (d:=15) (hf.at_ 15 _ rfl)).cons (d:=16) (hf.at_ 16 _ rfl)).cons (d:=17) (hf.at_ 17 _ rfl))⟩
  · have hke : k = l.length:=by omega
    have HK:=Aside.mk (show sumI (l.take k) = sumI l by rw [hke,List.take_length]);refine wp_seq_k ?_;intro _ _;refine wp_region_lit ?_;refine a_cmp (b:=false) hf rfl rfl rfl rfl rfl (by first | assumption | ((try dsimp only);simp only [bq1,bq2,bq3,bq4,bq5,bq6,bq7];omega)) rfl ?_;clear hf;intro _ hf;refine wpList_nil ?_;simp only [Exit.then,Exit.inBlock];go_step;refine wp_seq_k ?_;intro _ _;refine c_condF hf rfl ?_;refine wp_exit ?_;simp only [Exit.then,Exit.inBlock,↓reduceIte];go_step;rw [HK.out] at hf;clear HK
    generalize hsu : sumI l = su at hf hpos hsum
    have HSU:=Aside.mk hsu;clear hsu;refine wp_seq_k ?_;intro _ _;have H7 : Has 79 [] [(5,.int .i64 su),(1,.slice A l.length c),(0,.int .i64 am)] _:=((((hf.nilOf).cons (d:=0) (hf.at_ 0 _ rfl)).cons (d:=1) (hf.at_ 1 _ rfl)).cons (d:=5) (hf.at_ 5 _ rfl));clear hf;refine wp_mono (Q:=fun e a' w' => e = .normal ∧ ∃ G1 G2,Has 79 [] [(9,.slice (some ⟨G2,0,none⟩) l.length l.length),(8,.slice (some ⟨G1,0,none⟩) l.length l.length),(5,.int .i64 su),(1,.slice A l.length c),(0,.int .i64 am)] a' ∧ Nums w' G1 (List.replicate l.length 0) ∧ Nums w' G2 (List.replicate l.length 0) ∧ G1 ≠ G2 ∧ wr.heap.size ≤ G1 ∧ wr.heap.size ≤ G2 ∧ Below wr.heap.size wr w') ?_ ?_
    · refine wp_abs H7 ?_
      clear H7;intro _ hf;have hS : (fun _ : World => True) wr.drew:=trivial;refine t_begin (S:=fun _ => True) (by kernel_rfl) ?_;refine t_take (i:=0) (d:=25) hf rfl (by kernel_rfl) (by kernel_rfl) (by kernel_rfl) rfl (fun w' hw' => x_move hf rfl) rfl rfl hS ?_;clear hf;intro _ hf;refine t_take (i:=1) (d:=26) hf rfl (by kernel_rfl) (by kernel_rfl) (by kernel_rfl) rfl (fun w' hw' => x_len hf rfl rfl) rfl rfl hS ?_;clear hf;intro _ hf;refine t_take (i:=3) (d:=28) hf rfl (by kernel_rfl) (by kernel_rfl) (by kernel_rfl) rfl (fun w' hw' => x_move hf rfl) rfl rfl hS ?_;clear hf;intro _ hf;refine t_take (i:=4) (d:=29) hf rfl (by kernel_rfl) (by kernel_rfl) (by kernel_rfl) rfl (fun w' hw' => x_len hf rfl rfl) rfl rfl hS ?_;clear hf;intro _ hf;refine t_two (i:=2) (j:=5) (by kernel_rfl) (t_op (d:=27) hf rfl rfl (x_make22 hf rfl (by omega)) rfl rfl (fun _ hf => ⟨trivial,?_⟩)) (t_op (d:=30) hf rfl rfl (x_make22 hf rfl (by omega)) rfl rfl (fun _ hf => ⟨trivial,?_⟩))
      · refine t_take (i:=6) (d:=8) hf rfl (by kernel_rfl) (by kernel_rfl) (by kernel_rfl) rfl (fun w' hw' => x_assign hf rfl) rfl rfl trivial ?_;clear hf;intro _ hf
        refine t_one (i:=5) (by kernel_rfl) (t_op (d:=30) hf rfl rfl (x_make22 hf rfl (by omega)) rfl rfl (fun _ hf => ⟨trivial,?_⟩));refine t_take (i:=7) (d:=9) hf rfl (by kernel_rfl) (by kernel_rfl) (by kernel_rfl) rfl (fun w' hw' => x_assign hf rfl) rfl rfl trivial ?_;clear hf;intro _ hf;refine wpAnyH_done (by kernel_rfl) (NoPanic.normal ?_) _;have e1:=heap_alloc_new (wr.drew.alloc (.cells (ints (List.replicate l.length 0)).toArray 3)) (.cells (ints (List.replicate l.length 0)).toArray 3);have e0 : ((wr.drew.alloc (.cells (ints (List.replicate l.length 0)).toArray 3)).alloc (.cells (ints (List.replicate l.length 0)).toArray 3)).heap[wr.drew.heap.size]? = some (.cells (ints (List.replicate l.length 0)).toArray 3 (0,0)):=by rw [heap_alloc_old _ _ (by rw [alloc_size'];omega)];exact heap_alloc_new _ _
        have eb : Below wr.heap.size wr ((wr.drew.alloc (.cells (ints (List.replicate l.length 0)).toArray 3)).alloc (.cells (ints (List.replicate l.length 0)).toArray 3)):=bel_alloc (bel_alloc (bel_drew (Below.refl _ _)) _) _;have ez : (wr.drew.alloc (.cells (ints (List.replicate l.length 0)).toArray 3)).heap.size = wr.heap.size + 1:=alloc_size' _ _;have ed : wr.drew.heap.size = wr.heap.size:=rfl;exact ⟨rfl,_,_,((((((hf.nilOf).cons (d:=0) (hf.at_ 0 _ rfl)).cons (d:=1) (hf.at_ 1 _ rfl)).cons (d:=5) (hf.at_ 5 _ rfl)).cons (d:=8) (hf.at_ 8 _ rfl)).cons (d:=9) (hf.at_ 9 _ rfl)),e0,e1,by omega,by omega,by omega,eb⟩
      · refine t_one (i:=2) (by kernel_rfl) (t_op (d:=27) hf rfl rfl (x_make22 hf rfl (by omega)) rfl rfl (fun _ hf => ⟨trivial,?_⟩))
        refine t_take (i:=6) (d:=8) hf rfl (by kernel_rfl) (by kernel_rfl) (by kernel_rfl) rfl (fun w' hw' => x_assign hf rfl) rfl rfl trivial ?_;clear hf;intro _ hf;refine t_take (i:=7) (d:=9) hf rfl (by kernel_rfl) (by kernel_rfl) (by kernel_rfl) rfl (fun w' hw' => x_assign hf rfl) rfl rfl trivial ?_;clear hf;intro _ hf;refine wpAnyH_done (by kernel_rfl) (NoPanic.normal ?_) _;have e1:=heap_alloc_new (wr.drew.alloc (.cells (ints (List.replicate l.length 0)).toArray 3)) (.cells (ints (List.replicate l.length 0)).toArray 3);have e0 : ((wr.drew.alloc (.cells (ints (List.replicate l.length 0)).toArray 3)).alloc (.cells (ints (List.replicate l.length 0)).toArray 3)).heap[wr.drew.heap.size]? = some (.cells (ints (List.replicate l.length 0)).toArray 3 (0,0)):=by rw [heap_alloc_old _ _ (by rw [alloc_size'];omega)];exact heap_alloc_new _ _
        have eb : Below wr.heap.size wr ((wr.drew.alloc (.cells (ints (List.replicate l.length 0)).toArray 3)).alloc (.cells (ints (List.replicate l.length 0)).toArray 3)):=bel_alloc (bel_alloc (bel_drew (Below.refl _ _)) _) _;have ez : (wr.drew.alloc (.cells (ints (List.replicate l.length 0)).toArray 3)).heap.size = wr.heap.size + 1:=alloc_size' _ _;have ed : wr.drew.heap.size = wr.heap.size:=rfl;exact ⟨rfl,_,_,((((((hf.nilOf).cons (d:=0) (hf.at_ 0 _ rfl)).cons (d:=1) (hf.at_ 1 _ rfl)).cons (d:=5) (hf.at_ 5 _ rfl)).cons (d:=8) (hf.at_ 8 _ rfl)).cons (d:=9) (hf.at_ 9 _ rfl)),e1,e0,by omega,by omega,by omega,eb⟩
    rintro _ a7 w7 ⟨rfl,G1,G2,hf,hG1,hG2,hne,hs1,hs2,hb7⟩
    clear H7;have HG1:=Aside.mk hG1;have HG2:=Aside.mk hG2;have HB7:=Aside.mk hb7;clear hG1 hG2 hb7;simp only [Exit.then];go_step;refine wp_seq_k ?_;intro _ _;refine wp_region_lit ?_;refine a_move hf rfl rfl rfl ?_;clear hf;intro _ hf;refine a_assign hf rfl rfl rfl ?_;clear hf;intro _ hf;refine wpList_nil ?_;simp only [Exit.then,Exit.inBlock];go_step;refine wp_seq_k ?_;intro _ _;refine wp_seq_k ?_;intro _ _;refine wp_region_lit ?_;refine a_move hf rfl rfl rfl ?_;clear hf;intro _ hf;refine a_len hf rfl rfl rfl rfl ?_;clear hf;intro _ hf;refine a_move hf rfl rfl rfl ?_;clear hf;intro _ hf;refine wpList_nil ?_;simp only [Exit.then,Exit.inBlock];go_step;refine wp_block ?_;refine wp_loop_ghost (fun m fr w8 => ∃ k : Nat,k ≤ l.length ∧ m = l.length - k ∧ Has 79 [] [(34,.int .i64 (k : Int)),(33,.int .i64 (l.length : Int)),(32,.slice A l.length c),(10,.int .i64 (am - sumI (outsL am su (l.take k)))),(9,.slice (some ⟨G2,0,none⟩) l.length l.length),(8,.slice (some ⟨G1,0,none⟩) l.length l.length),(5,.int .i64 su),(0,.int .i64 am)] fr ∧ Aside (Nums w8 G1 (outsL am su (l.take k) ++ List.replicate (l.length - k) 0)) ∧ Aside (Nums w8 G2 (restsL am su (l.take k) ++ List.replicate (l.length - k) 0)) ∧ Mod (fun k => k = G1 ∨ k = G2) w7 w8) l.length ?_ ?_
    · exact ⟨0,Nat.zero_le _,rfl,(((((((((hf.nilOf).cons (d:=0) (hf.at_ 0 _ rfl)).cons (d:=5) (hf.at_ 5 _ rfl)).cons (d:=8) (hf.at_ 8 _ rfl)).cons (d:=9) (hf.at_ 9 _ rfl)).cons (d:=10) (by rw [show am - sumI (outsL am su (List.take 0 l)) = am by simp [outsL,sumI]];exact hf.at_ 10 _ rfl)).cons (d:=32) (hf.at_ 32 _ rfl)).cons (d:=33) (hf.at_ 33 _ rfl)).cons (d:=34) (hf.at_ 34 _ rfl)),⟨by simpa [outsL] using HG1.out⟩,⟨by simpa [restsL] using HG2.out⟩,Mod.refl⟩
    rintro m fr w8 ⟨k,hk',rfl,hf,HN1,HN2,hM⟩
    have hb8 : Below wr.heap.size wr w8:=bel_mod2 HB7.out hM hs1 hs2
    by_cases hlt : k < l.length
    · obtain ⟨x,hx⟩:=get_some hlt
      have hxb:=HS.out x (List.mem_of_getElem? hx)
      obtain ⟨ad,rfl,_,q0⟩:=HL.out k x hx
      have q1:=(hb8.cell (lt_of_cell q0)).trans q0;have hp:=prod_bound ham hxb;have hq:=quo_bound hp hpos;have hX:=drop_snoc hx;have hlo : (outsL am su (l.take k)).length = k:=by simp [outsL];omega
      have hlr : (restsL am su (l.take k)).length = k:=by simp [restsL];omega
      have hob : ∀ y ∈ outsL am su (l.take k),0 ≤ y ∧ y ≤ 1000000000000000000:=by
        intro y hy
        obtain ⟨z,hz,rfl⟩:=List.mem_map.1 hy
        exact quo_bound (prod_bound ham (HS.out z (List.mem_of_mem_take hz))) hpos
      have hsk:=part_bound HSU.out.symm hpos (fun z hz => (HS.out z hz).1) ham.1 k;have hsk1:=part_bound HSU.out.symm hpos (fun z hz => (HS.out z hz).1) ham.1 (k + 1);have hO : outsL am su (l.take (k + 1)) = outsL am su (l.take k) ++ [am * x / su]:=by rw [hX];simp [outsL]
      have hR : restsL am su (l.take (k + 1)) = restsL am su (l.take k) ++ [am * x % su]:=by rw [hX];simp [restsL]
      rw [hO,sumI_snoc] at hsk1
      obtain ⟨mm,hmm⟩ : ∃ mm,l.length - k = mm + 1:=⟨l.length - (k + 1),by omega⟩
      have hmm' : l.length - (k + 1) = mm:=by omega
      have hn1:=HN1.out;have hn2:=HN2.out;rw [hmm] at hn1 hn2
      generalize ho : outsL am su (l.take k) = o at hn1 hf hlo hO hsk hsk1
      generalize hr : restsL am su (l.take k) = r at hn2 hlr hR
      generalize hpp : am * x = p at hp hq hO hR hsk1
      have HPP:=Aside.mk hpp;have hc1 : w8.drew.cell? ⟨G1,k,none⟩ = some (.int .i64 0):=hn1.cell (by rw [List.getElem?_append_right (by omega),hlo];simp);have hc2 : w8.drew.cell? ⟨G2,k,none⟩ = some (.int .i64 0):=hn2.cell (by rw [List.getElem?_append_right (by omega),hlr];simp);have hm1:=hn1.set k (p / su);have hm2:=(hn2.other (k:=k) (u:=.int .i64 (p / su)) hne.symm).set k (p % su);rw [fill_set o hlo] at hm1;rw [fill_set r hlr] at hm2;have hm1':=hm1.other (k:=k) (u:=.int .i64 (p % su)) hne;have hfin : Mod (fun k => k = G1 ∨ k = G2) w7 ((w8.drew.setCell ⟨G1,k,none⟩ (.int .i64 (p / su))).setCell ⟨G2,k,none⟩ (.int .i64 (p % su))):=(hM.drew.set_ (p:=⟨G1,k,none⟩) (.inl (.inl rfl)) _).set_ (p:=⟨G2,k,none⟩) (.inl (.inr rfl)) _;have hfr1 : w8.drew.frozen? ⟨G1,k,none⟩ = false:=hn1.free k;have hc2' : (w8.drew.setCell ⟨G1,k,none⟩ (.int .i64 (p / su))).cell? ⟨G2,k,none⟩ = some (.int .i64 0):=(hn2.other (k:=k) (u:=.int .i64 (p / su)) hne.symm).cell (by rw [List.getElem?_append_right (by omega),hlr];simp);have hfr2 : (w8.drew.setCell ⟨G1,k,none⟩ (.int .i64 (p / su))).frozen? ⟨G2,k,none⟩ = false:=(hn2.other (k:=k) (u:=.int .i64 (p / su)) hne.symm).free k;have hcq : ((w8.drew.setCell ⟨G1,k,none⟩ (.int .i64 (p / su))).setCell ⟨G2,k,none⟩ (.int .i64 (p % su))).cell? ((⟨G1,0,none⟩ : Addr).add k) = some (.int .i64 (p / su)):=by rw [add_at];exact hm1'.cell (by rw [List.getElem?_append_left (by simp [hlo]),List.getElem?_append_right (by omega),hlo];simp)
      have HF:=Aside.mk hfin;have HM1:=Aside.mk hm1';have HM2:=Aside.mk hm2;have HOO:=Aside.mk hO;have HRR:=Aside.mk hR;clear hfin hm1 hm1' hm2 hn1 hn2 hc2 hb8 q0 hx hO hR hX hob ho hr;refine wp_seq_k ?_;intro _ _;refine wp_region_lit ?_;refine a_cmp (b:=true) hf rfl rfl rfl rfl rfl (by first | assumption | ((try dsimp only);simp only [bq1,bq2,bq3,bq4,bq5,bq6,bq7];omega)) rfl ?_;clear hf;intro _ hf;refine wpList_nil ?_;simp only [Exit.then,Exit.inBlock];go_step;refine wp_seq_k ?_;intro _ _;refine c_condT hf rfl ?_;refine wp_skip ?_;simp only [Exit.then];go_step;refine wp_seq_k ?_;intro _ _;refine wp_block ?_;refine wp_seq_k ?_;intro _ _;refine wp_region_lit ?_;refine a_move hf rfl rfl rfl ?_;clear hf;intro _ hf;refine a_index1 hf rfl rfl rfl (j:=k) rfl (by omega) rfl ?_;clear hf;intro _ hf;refine a_load hf rfl rfl rfl (by exact q1) rfl ?_;clear hf;intro _ hf;refine a_assign hf rfl rfl rfl ?_;clear hf;intro _ hf;refine a_assign hf rfl rfl rfl ?_;clear hf;intro _ hf;refine wpList_nil ?_;simp only [Exit.then,Exit.inBlock];go_step;refine wp_seq_k ?_;intro _ _;have hS : (fun _ : World => True) w8.drew:=trivial;refine t_begin (S:=fun _ => True) (by kernel_rfl) ?_;refine t_take (i:=0) (d:=39) hf rfl (by kernel_rfl) (by kernel_rfl) (by kernel_rfl) rfl (fun w' hw' => x_move hf rfl) rfl rfl hS ?_;clear hf;intro _ hf;refine t_take (i:=1) (d:=40) hf rfl (by kernel_rfl) (by kernel_rfl) (by kernel_rfl) rfl (fun w' hw' => x_move hf rfl) rfl rfl hS ?_;clear hf;intro _ hf;refine t_take (i:=2) (d:=41) hf rfl (by kernel_rfl) (by kernel_rfl) (by kernel_rfl) rfl (fun w' hw' => x_move hf rfl) rfl rfl hS ?_;clear hf;intro _ hf;refine t_take (i:=3) (d:=42) hf rfl (by kernel_rfl) (by kernel_rfl) (by kernel_rfl) rfl (fun w' hw' => x_move hf rfl) rfl rfl hS ?_;clear hf;intro _ hf;refine t_take (i:=4) (d:=43) hf rfl (by kernel_rfl) (by kernel_rfl) (by kernel_rfl) rfl (fun w' hw' => x_move hf rfl) rfl rfl hS ?_;clear hf;intro _ hf;refine t_take (i:=5) (d:=44) hf rfl (by kernel_rfl) (by kernel_rfl) (by kernel_rfl) rfl (fun w' hw' => x_move hf rfl) rfl rfl hS ?_;clear hf;intro _ hf;refine t_take (i:=6) (d:=45) (v:=.int .i64 p) hf rfl (by kernel_rfl) (by kernel_rfl) (by kernel_rfl) rfl (fun w' hw' => (by rw [← HPP.out];exact x_ar hf rfl rfl rfl (by (try dsimp only);rw [HPP.out];omega))) rfl rfl hS ?_;clear hf;intro _ hf;refine t_take (i:=7) (d:=46) hf rfl (by kernel_rfl) (by kernel_rfl) (by kernel_rfl) rfl (fun w' hw' => x_move hf rfl) rfl rfl hS ?_;clear hf;intro _ hf;refine t_take (i:=8) (d:=47) hf rfl (by kernel_rfl) (by kernel_rfl) (by kernel_rfl) rfl (fun w' hw' => x_quo hf rfl rfl (by omega)) rfl rfl hS ?_;clear hf;intro _ hf;refine t_take (i:=9) (d:=48) hf rfl (by kernel_rfl) (by kernel_rfl) (by kernel_rfl) rfl (fun w' hw' => x_move hf rfl) rfl rfl hS ?_;clear hf;intro _ hf;refine t_take (i:=10) (d:=49) hf rfl (by kernel_rfl) (by kernel_rfl) (by kernel_rfl) rfl (fun w' hw' => x_move hf rfl) rfl rfl hS ?_;clear hf;intro _ hf
      refine t_take (i:=11) (d:=50) (v:=.int .i64 p) hf rfl (by kernel_rfl) (by kernel_rfl) (by kernel_rfl) rfl (fun w' hw' => (by rw [← HPP.out];exact x_ar hf rfl rfl rfl (by (try dsimp only);rw [HPP.out];omega))) rfl rfl hS ?_;clear hf;intro _ hf;refine t_take (i:=12) (d:=51) hf rfl (by kernel_rfl) (by kernel_rfl) (by kernel_rfl) rfl (fun w' hw' => x_move hf rfl) rfl rfl hS ?_;clear hf;intro _ hf;refine t_take (i:=13) (d:=52) hf rfl (by kernel_rfl) (by kernel_rfl) (by kernel_rfl) rfl (fun w' hw' => x_rem hf rfl rfl (by omega)) rfl rfl hS ?_;clear hf;intro _ hf;refine t_take (i:=14) (d:=53) hf rfl (by kernel_rfl) (by kernel_rfl) (by kernel_rfl) rfl (fun w' hw' => x_index (j:=k) hf rfl rfl rfl rfl (by omega)) rfl rfl hS ?_;clear hf;intro _ hf;refine t_one (i:=15) (by kernel_rfl) (t_skip (w':=w8.drew.setCell ⟨G1,k,none⟩ (.int .i64 (p / su))) hf rfl rfl (by have:=x_store (w:=w8.drew) (T:=3) (t:=0) (ps:="") (af:=#[]) (g:=none) hf (x:=.tmp 53) (y:=.tmp 47) rfl rfl rfl rfl (by rw [g_add];exact hc1) (by rw [g_add];exact hfr1);rw [g_add] at this;exact this) rfl (fun _ hf => ⟨trivial,?_⟩));refine t_take (i:=16) (d:=54) hf rfl (by kernel_rfl) (by kernel_rfl) (by kernel_rfl) rfl (fun w' hw' => x_index (j:=k) hf rfl rfl rfl rfl (by omega)) rfl rfl trivial ?_;clear hf;intro _ hf;refine t_one (i:=17) (by kernel_rfl) (t_skip (w':=(w8.drew.setCell ⟨G1,k,none⟩ (.int .i64 (p / su))).setCell ⟨G2,k,none⟩ (.int .i64 (p % su))) hf rfl rfl (by have:=x_store (w:=w8.drew.setCell ⟨G1,k,none⟩ (.int .i64 (p / su))) (T:=3) (t:=0) (ps:="") (af:=#[]) (g:=none) hf (x:=.tmp 54) (y:=.tmp 52) rfl rfl rfl rfl (by rw [g_add];exact hc2') (by rw [g_add];exact hfr2);rw [g_add] at this;exact this) rfl (fun _ hf => ⟨trivial,?_⟩));refine wpAnyH_done (by kernel_rfl) (NoPanic.normal ?_) _;simp only [Exit.then,Exit.inBlock];go_step;refine wp_region_lit ?_;refine a_move hf rfl rfl rfl ?_;clear hf;intro _ hf;refine a_move hf rfl rfl rfl ?_;clear hf;intro _ hf;refine a_move hf rfl rfl rfl ?_;clear hf;intro _ hf;refine a_index1 hf rfl rfl rfl (j:=k) rfl (by omega) rfl ?_;clear hf;intro _ hf;refine a_load hf rfl rfl rfl (by exact hcq) rfl ?_;clear hf;intro _ hf;refine a_ar hf rfl rfl rfl rfl (by (try dsimp only);omega) rfl ?_;clear hf;intro _ hf;refine a_assign hf rfl rfl rfl ?_;clear hf;intro _ hf;refine wpList_nil ?_;simp only [Exit.then,Exit.inBlock];go_step;refine wp_region_lit ?_;refine a_ar hf rfl rfl rfl rfl (by (try dsimp only);omega) rfl ?_;clear hf;intro _ hf;refine a_move hf rfl rfl rfl ?_;clear hf;intro _ hf;refine wpList_nil ?_;simp only [Exit.then,Exit.inBlock];exact ⟨l.length - (k + 1),by omega,k + 1,by omega,rfl,(((((((((hf.nilOf).cons (d:=0) (hf.at_ 0 _ rfl)).cons (d:=5) (hf.at_ 5 _ rfl)).cons (d:=8) (hf.at_ 8 _ rfl)).cons (d:=9) (hf.at_ 9 _ rfl)).cons (d:=10) (by rw [HOO.out,sumI_snoc,show am - (sumI o + p / su) = am - sumI o - p / su by omega];exact hf.at_ 10 _ rfl)).cons (d:=32) (hf.at_ 32 _ rfl)).cons (d:=33) (hf.at_ 33 _ rfl)).cons (d:=34) (hf.at_ 34 _ rfl)),⟨by rw [HOO.out,hmm'];exact HM1.out⟩,⟨by rw [HRR.out,hmm'];exact HM2.out⟩,HF.out⟩
    · have hke : k = l.length:=by omega
      subst hke
      have hn1:=HN1.out;have hn2:=HN2.out;rw [List.take_length,Nat.sub_self,List.replicate_zero,List.append_nil] at hn1 hn2;rw [List.take_length] at hf;have HN1:=Aside.mk hn1;have HN2:=Aside.mk hn2;have hle:=left_bound (a:=am) (s:=su) HSU.out.symm hpos;have hlr : (restsL am su l).length = l.length:=by simp [restsL]
      have hlo : (outsL am su l).length = l.length:=by simp [outsL]
      have hso:=sorted_any 93 descI ord93 (some ⟨G2,0,none⟩) (restsL am su l) l.length w8 (fun i x hx => ⟨_,rfl,trivial,by rw [add_at];exact hn2.cell hx⟩) (by omega);rw [hlr] at hso;have HSO:=Aside.mk hso;have HLT:=Aside.mk (show am - sumI (outsL am su l) = leftOf am l by rw [leftOf,HSU.out])
      obtain ⟨m,hm⟩ : ∃ m : Nat,am - sumI (outsL am su l) = m:=⟨(am - sumI (outsL am su l)).toNat,by omega⟩
      rw [hm] at hf hle HLT;have HB8:=Aside.mk hb8;clear hn1 hn2 hso hm hb8;refine wp_seq_k ?_;intro _ _;refine wp_region_lit ?_;refine a_cmp (b:=false) hf rfl rfl rfl rfl rfl (by first | assumption | ((try dsimp only);simp only [bq1,bq2,bq3,bq4,bq5,bq6,bq7];omega)) rfl ?_;clear hf;intro _ hf;refine wpList_nil ?_;simp only [Exit.then,Exit.inBlock];go_step;refine wp_seq_k ?_;intro _ _;refine c_condF hf rfl ?_;refine wp_exit ?_;simp only [Exit.then,Exit.inBlock,↓reduceIte];go_step;refine wp_seq_k ?_;intro _ _;refine wp_seq_k ?_;intro _ _;refine wp_region_lit ?_;refine a_move hf rfl rfl rfl ?_;clear hf;intro _ hf;refine a_call2 hf e92 rfl rfl rfl rfl ?_;clear hf;refine HSO.out.mono ?_;rintro _ w9 ⟨G3,rfl,hG3,hN3,hb9⟩;intro _ hf;refine a_move hf rfl rfl rfl ?_;clear hf;intro _ hf;refine a_cut22 (m:=m) hf rfl rfl rfl rfl (by omega) rfl ?_;clear hf;intro _ hf;refine a_len hf rfl rfl rfl rfl ?_;clear hf;intro _ hf;refine a_move hf rfl rfl rfl ?_;clear hf;intro _ hf;refine wpList_nil ?_;simp only [Exit.then,Exit.inBlock];go_step;have HO9:=Aside.mk (HN1.out.below hb9);have HN3:=Aside.mk hN3;have HB9:=Aside.mk (bel_then HB8.out hb9);have hG1l : G1 < w9.heap.size:=blk_lt HO9.out;have hG31 : G1 ≠ G3:=by have:=blk_lt HN1.out;omega
      have hol:=sorted_length descI (restsL am su l);rw [hlr] at hol;have hod:=sorted_dom descI (restsL am su l);rw [hlr] at hod;have HOD:=Aside.mk hod
      have HOB:=Aside.mk (show ∀ y ∈ outsL am su l,0 ≤ y ∧ y ≤ 1000000000000000000 from by
        intro y hy
        obtain ⟨z,hz,rfl⟩:=List.mem_map.1 hy
        exact quo_bound (prod_bound ham (HS.out z hz)) hpos)
      clear hb9 hN3 hod
      generalize hord : sortedL descI (restsL am su l) = ord at HN3 hol HOD
      have HORD:=Aside.mk hord;clear hord;refine wp_block ?_;refine wp_loop_ghost (fun j fr wx => ∃ k : Nat,k ≤ m ∧ j = m - k ∧ Has 79 [] [(67,.int .i64 (k : Int)),(66,.int .i64 (m : Int)),(65,.slice (some ⟨G3,0,none⟩) m l.length),(8,.slice (some ⟨G1,0,none⟩) l.length l.length)] fr ∧ Aside (Nums wx G1 (bump (outsL am su l) (ord.take k))) ∧ Aside (Nums wx G3 ord) ∧ Mod (fun k => k = G1) w9 wx) m ?_ ?_
      · exact ⟨0,Nat.zero_le _,rfl,(((((hf.nilOf).cons (d:=8) (hf.at_ 8 _ rfl)).cons (d:=65) (hf.at_ 65 _ rfl)).cons (d:=66) (hf.at_ 66 _ rfl)).cons (d:=67) (hf.at_ 67 _ rfl)),HO9,HN3,Mod.refl⟩
      rintro j fr wx ⟨k,hk',rfl,hf,HNb,HNo,hMx⟩
      by_cases hlt : k < m
      · have hxx:=getD_some (d:=ord) (j:=k) (by omega)
        have hxd:=HOD.out _ (List.mem_of_getElem? hxx);have hT:=take_snoc hxx;have hco:=HNo.out.cell hxx
        obtain ⟨i,hi⟩:=Int.eq_ofNat_of_zero_le hxd.1
        rw [hi] at hxd hT hco;have hil : i < l.length:=by omega
        have hbl : (bump (outsL am su l) (ord.take k)).length = l.length:=by rw [bump_length,hlo]
        have hyy:=getD_some (d:=bump (outsL am su l) (ord.take k)) (j:=i) (by omega);have hyb:=bump_bound (b:=1000000000000000000) (ord.take k) (outsL am su l) HOB.out (by omega) _ (List.mem_of_getElem? hyy);have hlen : (ord.take k).length = k:=by rw [List.length_take];omega
        rw [hlen] at hyb;have hcy:=HNb.out.cell hyy;have hfy:=HNb.out.free i;have hNs:=HNb.out.set i ((bump (outsL am su l) (ord.take k)).getD i 0 + 1);have hNt : Nums (wx.setCell ⟨G1,i,none⟩ (.int .i64 ((bump (outsL am su l) (ord.take k)).getD i 0 + 1))) G1 (bump (outsL am su l) (ord.take (k + 1))):=by rw [hT,bump_snoc,Int.toNat_natCast];exact hNs
        have hNo2:=HNo.out.other (k:=i) (u:=.int .i64 ((bump (outsL am su l) (ord.take k)).getD i 0 + 1)) hG31.symm;have hMy:=hMx.put1 i (.int .i64 ((bump (outsL am su l) (ord.take k)).getD i 0 + 1))
        generalize (bump (outsL am su l) (ord.take k)).getD i 0 = y at hyb hcy hNt hNo2 hMy
        have HT:=Aside.mk hNt;have HO2:=Aside.mk hNo2;clear hNs hNt hNo2 hT hyy hxx hi;refine wp_seq_k ?_;intro _ _;refine wp_region_lit ?_;refine a_cmp (b:=true) hf rfl rfl rfl rfl rfl (by first | assumption | ((try dsimp only);simp only [bq1,bq2,bq3,bq4,bq5,bq6,bq7];omega)) rfl ?_;clear hf;intro _ hf;refine wpList_nil ?_;simp only [Exit.then,Exit.inBlock];go_step;refine wp_seq_k ?_;intro _ _;refine c_condT hf rfl ?_;refine wp_skip ?_;simp only [Exit.then];go_step;refine wp_seq_k ?_;intro _ _;refine wp_block ?_;refine wp_seq_k ?_;intro _ _;refine wp_region_lit ?_;refine a_index1 hf rfl rfl rfl (j:=k) rfl (by omega) rfl ?_;clear hf;intro _ hf;refine a_load hf rfl rfl rfl (by exact (by rw [add_at];exact hco)) rfl ?_;clear hf;intro _ hf;refine a_assign hf rfl rfl rfl ?_;clear hf;intro _ hf;refine wpList_nil ?_;simp only [Exit.then,Exit.inBlock];go_step;refine wp_region_lit ?_;refine a_move hf rfl rfl rfl ?_;clear hf;intro _ hf;refine a_move hf rfl rfl rfl ?_;clear hf;intro _ hf;refine a_index1 hf rfl rfl rfl (j:=i) rfl (by omega) rfl ?_;clear hf;intro _ hf;refine a_load hf rfl rfl rfl (by exact (by rw [add_at];exact hcy)) rfl ?_;clear hf;intro _ hf;refine a_ar hf rfl rfl rfl rfl (by (try dsimp only);omega) rfl ?_;clear hf;intro _ hf;refine a_index1 hf rfl rfl rfl (j:=i) rfl (by omega) rfl ?_;clear hf;intro _ hf;refine a_store hf rfl rfl rfl rfl rfl (by rw [add_at];exact hcy) (by rw [add_at];exact hfy) ?_;clear hf;intro _ hf;refine wpList_nil ?_;simp only [Exit.then,Exit.inBlock];go_step;refine wp_region_lit ?_;refine a_ar hf rfl rfl rfl rfl (by (try dsimp only);omega) rfl ?_;clear hf;intro _ hf;refine a_move hf rfl rfl rfl ?_;clear hf;intro _ hf;refine wpList_nil ?_;simp only [Exit.then,Exit.inBlock];exact ⟨m - (k + 1),by omega,k + 1,by omega,rfl,(((((hf.nilOf).cons (d:=8) (hf.at_ 8 _ rfl)).cons (d:=65) (hf.at_ 65 _ rfl)).cons (d:=66) (hf.at_ 66 _ rfl)).cons (d:=67) (hf.at_ 67 _ rfl)),⟨by rw [add_at];exact HT.out⟩,⟨by rw [add_at];exact HO2.out⟩,by rw [add_at];exact hMy⟩
      · have hke : k = m:=by omega
        subst hke
        have hres : bump (outsL am su l) (ord.take k) = splitR am l:=by rw [splitR,HSU.out,HORD.out,← HLT.out,Int.toNat_natCast]
        have HR:=Aside.mk (hres ▸ HNb.out);clear hres;refine wp_seq_k ?_;intro _ _;refine wp_region_lit ?_;refine a_cmp (b:=false) hf rfl rfl rfl rfl rfl (by first | assumption | ((try dsimp only);simp only [bq1,bq2,bq3,bq4,bq5,bq6,bq7];omega)) rfl ?_;clear hf;intro _ hf;refine wpList_nil ?_;simp only [Exit.then,Exit.inBlock];go_step;refine wp_seq_k ?_;intro _ _;refine c_condF hf rfl ?_;refine wp_exit ?_;simp only [Exit.then,Exit.inBlock,↓reduceIte];go_step;refine wp_seq_k ?_;intro _ _;refine wp_region_lit ?_;refine a_move hf rfl rfl rfl ?_;clear hf;intro _ hf;refine a_assign hf rfl rfl rfl ?_;clear hf;intro _ hf;refine wpList_nil ?_;simp only [Exit.then,Exit.inBlock];go_step;refine wp_ret ?_;exact c_ret hf rfl rfl ⟨G1,rfl,hs1,HR.out,bel_modG HB9.out hMx hs1⟩
end Go.Proofs.Ytpadgcomncljmaa.A
/- Split,below twenty shares. -/
namespace Go.Proofs.Ytpadgcomncljmaa.A
open Go.RowKit

def sharedB (l : List Int) : Bool:=inB l.length 1 100 && !(l.any fun x => !inB x 0 1000000) && decide (0 < maxOf l)
theorem shared_any (A : Option Addr) (l : List Int) (c : Nat) (w : World) (hl : RI Any w A l) (hn : l.length ≤ 1000000) :
    Calls Try.prog 53 #[.slice A l.length c] w fun e w' => e = .returned (.bool (sharedB l)) ∧ w = w':=by
  have HL:=Aside.mk hl;clear hl
  cases h1 : inB l.length 1 100 with
  | false =>
    have HR:=Aside.mk (show sharedB l = false by simp [sharedB,h1])
    go_enter Try.func53,Try.ntmps53
    refine wp_abs (n:=16) (ds:=[]) (l:=[(0,.slice A l.length c)]) ?_ ?_
    · refine (Has.nil ?_ ?_).cons ?_
      all_goals first | rfl | (simp [Act.eval];done)
    intro _ hf;refine wp_seq_k ?_;intro _ _;refine wp_region_lit ?_;refine a_assign hf rfl rfl rfl ?_;clear hf;intro _ hf;refine wpList_nil ?_;simp only [Exit.then,Exit.inBlock];go_step;refine wp_seq_k ?_;intro _ _;refine wp_region_lit ?_;refine a_move hf rfl rfl rfl ?_;clear hf;intro _ hf;refine a_len hf rfl rfl rfl rfl ?_;clear hf;intro _ hf;refine a_call3 hf e52 rfl rfl rfl rfl rfl ?_;clear hf;refine (within_as _ _ _ _ h1 _).mono ?_;rintro _ _ ⟨rfl,rfl⟩;intro _ hf;refine a_move hf rfl rfl rfl ?_;clear hf;intro _ hf;refine a_not hf rfl rfl rfl ?_;clear hf;intro _ hf;refine a_not hf rfl rfl rfl ?_;clear hf;intro _ hf;refine a_not hf rfl rfl rfl ?_;clear hf;intro _ hf
    (first | refine a_pickT hf rfl rfl rfl rfl ?_ | refine a_pickF hf rfl rfl rfl rfl ?_);clear hf;intro _ hf
    refine a_move hf rfl rfl rfl ?_;clear hf;intro _ hf;refine a_not hf rfl rfl rfl ?_;clear hf;intro _ hf;refine a_not hf rfl rfl rfl ?_;clear hf;intro _ hf;refine a_not hf rfl rfl rfl ?_;clear hf;intro _ hf
    (first | refine a_pickT hf rfl rfl rfl rfl ?_ | refine a_pickF hf rfl rfl rfl rfl ?_);clear hf;intro _ hf
    refine a_assign hf rfl rfl rfl ?_;clear hf;intro _ hf;refine wpList_nil ?_;simp only [Exit.then,Exit.inBlock];go_step;refine wp_ret ?_;exact c_ret hf rfl rfl ⟨by (rw [HR.out];try rfl),rfl⟩
  | true =>
  cases h2 : l.any (fun x => !inB x 0 1000000) with
  | true =>
    have HR:=Aside.mk (show sharedB l = false by simp [sharedB,h2])
    go_enter Try.func53,Try.ntmps53
    refine wp_abs (n:=16) (ds:=[]) (l:=[(0,.slice A l.length c)]) ?_ ?_
    · refine (Has.nil ?_ ?_).cons ?_
      all_goals first | rfl | (simp [Act.eval];done)
    intro _ hf;refine wp_seq_k ?_;intro _ _;refine wp_region_lit ?_;refine a_assign hf rfl rfl rfl ?_;clear hf;intro _ hf;refine wpList_nil ?_;simp only [Exit.then,Exit.inBlock];go_step;refine wp_seq_k ?_;intro _ _;refine wp_region_lit ?_;refine a_move hf rfl rfl rfl ?_;clear hf;intro _ hf;refine a_len hf rfl rfl rfl rfl ?_;clear hf;intro _ hf;refine a_call3 hf e52 rfl rfl rfl rfl rfl ?_;clear hf;refine (within_as _ _ _ _ h1 _).mono ?_;rintro _ _ ⟨rfl,rfl⟩;intro _ hf;refine a_move hf rfl rfl rfl ?_;clear hf;intro _ hf
    (first | refine a_not hf rfl rfl rfl ?_ | refine a_move hf rfl rfl rfl ?_);clear hf;intro _ hf
    refine a_call2 hf e79 rfl rfl rfl rfl ?_;clear hf;refine (contains_any 90 (fun x => !inB x 0 1000000) e90 bad90 A c l _ HL.out hn).mono ?_;rintro _ _ ⟨rfl,rfl⟩;rw [h2];intro _ hf
    (first | refine a_not hf rfl rfl rfl ?_ | refine a_not_ hf rfl rfl rfl ?_);clear hf;intro _ hf
    (first | refine a_pickT hf rfl rfl rfl rfl ?_ | refine a_pickF hf rfl rfl rfl rfl ?_);clear hf;intro _ hf
    refine a_move hf rfl rfl rfl ?_;clear hf;intro _ hf;refine a_not hf rfl rfl rfl ?_;clear hf;intro _ hf;refine a_not hf rfl rfl rfl ?_;clear hf;intro _ hf;refine a_not hf rfl rfl rfl ?_;clear hf;intro _ hf
    (first | refine a_pickT hf rfl rfl rfl rfl ?_ | refine a_pickF hf rfl rfl rfl rfl ?_);clear hf;intro _ hf
    refine a_assign hf rfl rfl rfl ?_;clear hf;intro _ hf;refine wpList_nil ?_;simp only [Exit.then,Exit.inBlock];go_step;refine wp_ret ?_;exact c_ret hf rfl rfl ⟨by (rw [HR.out];try rfl),rfl⟩
  | false =>
    have HR:=Aside.mk (show sharedB l = decide (0 < maxOf l) by simp [sharedB,h1,h2])
    cases l with
    | nil => simp [inB] at h1
    | cons y l =>
    go_enter Try.func53,Try.ntmps53
    refine wp_abs (n:=16) (ds:=[]) (l:=[(0,.slice A (y :: l).length c)]) ?_ ?_
    · refine (Has.nil ?_ ?_).cons ?_
      all_goals first | rfl | (simp [Act.eval];done)
    intro _ hf;refine wp_seq_k ?_;intro _ _;refine wp_region_lit ?_;refine a_assign hf rfl rfl rfl ?_;clear hf;intro _ hf;refine wpList_nil ?_;simp only [Exit.then,Exit.inBlock];go_step;refine wp_seq_k ?_;intro _ _;refine wp_region_lit ?_;refine a_move hf rfl rfl rfl ?_;clear hf;intro _ hf;refine a_len hf rfl rfl rfl rfl ?_;clear hf;intro _ hf;refine a_call3 hf e52 rfl rfl rfl rfl rfl ?_;clear hf;refine (within_as _ _ _ _ h1 _).mono ?_;rintro _ _ ⟨rfl,rfl⟩;intro _ hf;refine a_move hf rfl rfl rfl ?_;clear hf;intro _ hf
    (first | refine a_not hf rfl rfl rfl ?_ | refine a_move hf rfl rfl rfl ?_);clear hf;intro _ hf
    refine a_call2 hf e79 rfl rfl rfl rfl ?_;clear hf;refine (contains_any 90 (fun x => !inB x 0 1000000) e90 bad90 A c (y :: l) _ HL.out hn).mono ?_;rintro _ _ ⟨rfl,rfl⟩;rw [h2];intro _ hf
    (first | refine a_not hf rfl rfl rfl ?_ | refine a_not_ hf rfl rfl rfl ?_);clear hf;intro _ hf
    (first | refine a_pickT hf rfl rfl rfl rfl ?_ | refine a_pickF hf rfl rfl rfl rfl ?_);clear hf;intro _ hf
    refine a_move hf rfl rfl rfl ?_;clear hf;intro _ hf
    (first | refine a_not hf rfl rfl rfl ?_ | refine a_move hf rfl rfl rfl ?_);clear hf;intro _ hf
    refine a_call1 hf e91 rfl rfl rfl ?_;clear hf;refine (max_any A c y l _ HL.out hn).mono ?_;rintro _ _ ⟨rfl,rfl⟩;intro _ hf
    (first | refine a_not hf rfl rfl rfl ?_ | refine a_cmp hf rfl rfl rfl rfl rfl rfl rfl ?_);clear hf;intro _ hf
    (first | refine a_pickT hf rfl rfl rfl rfl ?_ | refine a_pickF hf rfl rfl rfl rfl ?_);clear hf;intro _ hf
    refine a_assign hf rfl rfl rfl ?_;clear hf;intro _ hf;refine wpList_nil ?_;simp only [Exit.then,Exit.inBlock];go_step;refine wp_ret ?_;exact c_ret hf rfl rfl ⟨by (rw [HR.out];try rfl),rfl⟩
def splitS (a : Int) (l : List Int) : Bool:=inB a 0 1000000000000 && sharedB l
theorem sum_pos {l : List Int} (h : sharedB l = true) : (∀ x ∈ l,0 ≤ x ∧ x ≤ 1000000) ∧ 0 < sumI l:=by
  simp only [sharedB,Bool.and_eq_true,Bool.not_eq_true',List.any_eq_false,decide_eq_true_eq] at h
  obtain ⟨⟨_,h2⟩,h3⟩:=h
  have hb : ∀ x ∈ l,0 ≤ x ∧ x ≤ 1000000:=fun x hx => (inB_iff _ _ _).1 (by simpa using h2 x hx);refine ⟨hb,?_⟩
  have hle : ∀ (l : List Int) (m : Int),(∀ x ∈ l,0 ≤ x) → 0 ≤ m → maxTo m l ≤ m + sumI l:=by
    intro l
    induction l with
    | nil => intro m _ _;simp [maxTo,sumI]
    | cons x l ih =>
      intro m hx hm;have h0:=hx x (List.mem_cons_self ..);have:=ih (if m < x then x else m) (fun y hy => hx y (List.mem_cons_of_mem _ hy)) (by split <;> omega);simp only [maxTo,List.foldl_cons,sumI] at this ⊢
      split at this <;> split <;> omega
  cases l with
  | nil => simp [maxOf] at h3
  | cons x l =>
    have:=hle l x (fun y hy => (hb y (List.mem_cons_of_mem _ hy)).1) (hb x (List.mem_cons_self ..)).1;simp only [maxOf] at h3;simp only [sumI]
    omega
theorem split_yes (a : Int) (A : Option Addr) (l : List Int) (c : Nat) (w : World) (hl : RI Any w A l) (hn : l.length < 20) (h : splitS a l = true) :
    Calls Try.prog 17 #[.int .i64 a,.slice A l.length c] w fun e w' => ∃ G,e = .returned (.tuple #[.slice (some ⟨G,0,none⟩) l.length l.length,.int .i64 0]) ∧ w.heap.size ≤ G ∧ Nums w' G (splitR a l) ∧ Below w.heap.size w w':=by
  have HL:=Aside.mk hl
  obtain ⟨h1,h2⟩ : inB a 0 1000000000000 = true ∧ sharedB l = true:=by simpa [splitS] using h
  obtain ⟨hb,hp⟩:=sum_pos h2
  have HS:=Aside.mk (split54_any a A l c w hl hn ((inB_iff _ _ _).1 h1) hb hp);clear hl hb
  go_enter Try.func17,Try.ntmps17
  refine wp_abs (n:=17) (ds:=[]) (l:=[(0,.int .i64 a),(1,.slice A l.length c)]) ?_ ?_
  · refine ((Has.nil ?_ ?_).cons ?_).cons ?_
    all_goals first | rfl | (simp [Act.eval];done)
  intro _ hf;refine wp_seq_k ?_;intro _ _;refine wp_region_lit ?_;refine a_assign hf rfl rfl rfl ?_;clear hf;intro _ hf;refine a_assign hf rfl rfl rfl ?_;clear hf;intro _ hf;refine wpList_nil ?_;simp only [Exit.then,Exit.inBlock];go_step;refine wp_seq_k ?_;intro _ _;refine wp_seq_k ?_;intro _ _;refine wp_region_lit ?_;refine a_move hf rfl rfl rfl ?_;clear hf;intro _ hf;refine a_call3 hf e52 rfl rfl rfl rfl rfl ?_;clear hf;refine (within_as _ _ _ _ h1 _).mono ?_;rintro _ _ ⟨rfl,rfl⟩;intro _ hf;refine a_not_ hf rfl rfl rfl ?_;clear hf;intro _ hf;refine a_move hf rfl rfl rfl ?_;clear hf;intro _ hf
  (first | refine a_not hf rfl rfl rfl ?_ | refine a_move hf rfl rfl rfl ?_);clear hf;intro _ hf
  refine a_call1 hf e53 rfl rfl rfl ?_;clear hf;refine (shared_any A l c _ HL.out (by omega)).mono ?_;rintro _ _ ⟨rfl,rfl⟩;rw [h2];intro _ hf
  (first | refine a_not hf rfl rfl rfl ?_ | refine a_not_ hf rfl rfl rfl ?_);clear hf;intro _ hf
  (first | refine a_pickT hf rfl rfl rfl rfl ?_ | refine a_pickF hf rfl rfl rfl rfl ?_);clear hf;intro _ hf
  refine wpList_nil ?_;simp only [Exit.then,Exit.inBlock];go_step;refine c_condF hf rfl ?_;refine wp_skip ?_;simp only [Exit.then];go_step;refine wp_seq_k ?_;intro _ _;refine wp_region_lit ?_;refine a_move hf rfl rfl rfl ?_;clear hf;intro _ hf;refine a_move hf rfl rfl rfl ?_;clear hf;intro _ hf;refine a_call2 hf e54 rfl rfl rfl rfl ?_;clear hf;refine HS.out.mono ?_;rintro _ w9 ⟨G,rfl,hG,hN,hb9⟩;intro _ hf;refine a_assign hf rfl rfl rfl ?_;clear hf;intro _ hf;refine a_assign hf rfl rfl rfl ?_;clear hf;intro _ hf;refine wpList_nil ?_;simp only [Exit.then,Exit.inBlock];go_step;refine wp_ret ?_;exact c_ret2 hf rfl rfl rfl ⟨G,rfl,hG,hN,hb9⟩
end Go.Proofs.Ytpadgcomncljmaa.A
/- The example code. -/
namespace Go.Proofs.Ytpadgcomncljmaa.A
open Go.RowKit
def exC : CodeL:=⟨3,[⟨5,0,1000,5000⟩,⟨5,100,2000,9000⟩],30,60,500,2000⟩
theorem ex_arts {W : World} {b : Nat} (h1 : W.heap[b]? = some (.cells #[.int .i64 5,.int .i64 0,.int .i64 1000,.int .i64 5000,.int .i64 5,.int .i64 100,.int .i64 2000,.int .i64 9000] 71 (0,0))) : RArt Any W (some ⟨b,0,none⟩) exC.arts:=by
  intro i x hx;refine ⟨_,rfl,trivial,?_⟩;rw [add_at]
  match i,hx with
  | 0,hx => cases hx;exact ⟨blk_cell h1 0,blk_cell h1 1,blk_cell h1 2,blk_cell h1 3⟩
  | 1,hx => cases hx;exact ⟨blk_cell h1 4,blk_cell h1 5,blk_cell h1 6,blk_cell h1 7⟩
  | i + 2,hx => simp [exC] at hx
set_option maxHeartbeats 4000000 in
theorem example_any (w : World) : Calls Try.prog 44 #[] w fun e w' => ∃ A,e = .returned (codeV exC A 2) ∧ RArt Any w' A exC.arts ∧ Below w.heap.size w w':=by
  go_enter Try.func44,Try.ntmps44
  go_wp2
  have hb : Below w.heap.size w ((w.alloc (.cells #[.int .i64 3,.slice (some ⟨w.heap.size + 1,0,none⟩) 2 2,.int .i64 30,.int .i64 60,.int .i64 500,.int .i64 2000] 33)).alloc (.cells #[.int .i64 5,.int .i64 0,.int .i64 1000,.int .i64 5000,.int .i64 5,.int .i64 100,.int .i64 2000,.int .i64 9000] 71)):=bel_alloc (bel_alloc (Below.refl _ w) _) _
  have h1 : ((w.alloc (.cells #[.int .i64 3,.slice (some ⟨w.heap.size + 1,0,none⟩) 2 2,.int .i64 30,.int .i64 60,.int .i64 500,.int .i64 2000] 33)).alloc (.cells #[.int .i64 5,.int .i64 0,.int .i64 1000,.int .i64 5000,.int .i64 5,.int .i64 100,.int .i64 2000,.int .i64 9000] 71)).heap[w.heap.size + 1]? = some (.cells #[.int .i64 5,.int .i64 0,.int .i64 1000,.int .i64 5000,.int .i64 5,.int .i64 100,.int .i64 2000,.int .i64 9000] 71 (0,0)):=by
    have:=heap_alloc_new (w.alloc (.cells #[.int .i64 3,.slice (some ⟨w.heap.size + 1,0,none⟩) 2 2,.int .i64 30,.int .i64 60,.int .i64 500,.int .i64 2000] 33)) (.cells #[.int .i64 5,.int .i64 0,.int .i64 1000,.int .i64 5000,.int .i64 5,.int .i64 100,.int .i64 2000,.int .i64 9000] 71)
    rwa [alloc_size'] at this
  have hr:=ex_arts h1;have HR:=Aside.mk hr;have HB:=Aside.mk hb;clear h1 hr hb;have h0:=heap_alloc_old (w.alloc (.cells #[.int .i64 3,.slice (some ⟨w.heap.size + 1,0,none⟩) 2 2,.int .i64 30,.int .i64 60,.int .i64 500,.int .i64 2000] 33)) (.cells #[.int .i64 5,.int .i64 0,.int .i64 1000,.int .i64 5000,.int .i64 5,.int .i64 100,.int .i64 2000,.int .i64 9000] 71) (r:=w.heap.size) (by rw [alloc_size'];omega);rw [heap_alloc_new] at h0;have c0:=blk_cell h0 0 (v:=.int .i64 3) rfl;have c1:=blk_cell h0 1 (v:=.slice (some ⟨w.heap.size + 1,0,none⟩) 2 2) rfl;have c2:=blk_cell h0 2 (v:=.int .i64 30) rfl;have c3:=blk_cell h0 3 (v:=.int .i64 60) rfl;have c4:=blk_cell h0 4 (v:=.int .i64 500) rfl;have c5:=blk_cell h0 5 (v:=.int .i64 2000) rfl;clear h0;have hu33:=Try.underlying33;refine bodyPost_ret_by (v:=codeV exC (some ⟨w.heap.size + 1,0,none⟩) 2) ?_ rfl ⟨_,rfl,HR.out,HB.out⟩
  simp [results,Try.results44,go_sem,hu33,c0,c1,c2,c3,c4,c5,codeV,exC]
end Go.Proofs.Ytpadgcomncljmaa.A
/- A step outside of rounds,in the wide fence;a round that a loop's body makes. -/
namespace Go.Proofs.Ytpadgcomncljmaa.A
open Go.RowKit
section
variable {P : Program} {ops : Array Oper} {Q Q' : Exit → Act → World → Prop} {a : Act} {w : World} {rest : List Oper} {o : Oper} {n0 n d : Nat} {K K' : Act → World → Prop} {ds : List Deferred} {l : List (Nat × Value)}
theorem wide_op (h : o.wp P a w K' Q') (hK : ∀ a w,K' a w → K a w) (hQ : ∀ c a w,Q' (.panic c) a w → Q (.panic c) a w) (hL : LetsOut Q' → LetsOut Q) : o.wpIn Fence.wide n0 P a w K Q:=by
  refine ⟨fun _ _ => trivial,?_⟩;have h' : o.upon P a K' Q' ((execOp a.eval o).run P w):=h;have hs : o.semAt Fence.wide.round a.eval = execOp a.eval o:=rfl;rw [hs]
  generalize (execOp a.eval o).run P w = r at h'
  cases r with
  | halt c w' => cases c <;> first | exact hQ _ _ _ h' | exact (show False from h').elim
  | ok s w' =>
    cases s with
    | value v => exact hK _ _ h'
    | skip => exact hK _ _ h'
    | defer d => exact hK _ _ h'
    | enter f args =>
      refine ⟨fun h => absurd h (by simp [Fence.wide]),callsIn_wide.2 (Calls.mono h' fun e w2 hp => ?_)⟩
      cases e with
      | returned v => exact hK _ _ hp
      | panicked chain => exact hQ _ _ _ hp
      | outgrown => exact hL hp
    | row row args =>
      refine ⟨fun h => absurd h (by simp [Fence.wide]),fun c cs _ => ?_⟩
      obtain ⟨v,w2,r,s⟩:=(show Rows P row args w' _ from h') c cs
      exact ⟨v,w2,hK _ _ r,stepsIn_wide.2 s⟩
    | _ => exact (show False from h').elim
theorem in_of (h : wpList P ops (fun e a w => e = .normal ∧ wpListIn Fence.wide n0 P ops Q rest a w) [o] a w) : wpListIn Fence.wide n0 P ops Q (o :: rest) a w:=by
  refine wpListIn_step fun K hK => ?_
  unfold wpList at h
  split at h
  · rename_i hw
    rw [if_pos hw]
    rcases h with h | ⟨_,a',w',h,_⟩
    · exact wide_op h (fun a w h => hK _ _ h.2) (fun _ _ _ h => by cases h.1) (fun ⟨_,_,h,_⟩ => by cases h)
    · cases h
  · rename_i hw
    rw [if_neg hw];exact ⟨fun _ _ => trivial,hK _ _ h.2⟩
theorem in_yield {s lp : Nat} {args : Array Value} {R : Ending → World → Prop} (H : Has n ds l a) (hg : wantB ops n l o.guard = some true) (he : (execOp a.eval o).run P w = (Instr.yield lp args).run P w) (hdst : o.dst = some d) (hd : Nat.ble (d + 1) n = true)
    (hy : YieldAt Fence.wide s P lp args w R) (hr : ∀ e w',R e w' → ∃ v,e = .returned v ∧ ∀ a',Has n ds ((d,v) :: l) a' → wpListIn Fence.wide (s + 1) P ops Q rest a' w') : wpListIn Fence.wide (s + 1) P ops Q (o :: rest) a w:=by
  obtain ⟨fn,tmps,assign,body,hy,hR⟩:=hy
  refine wpListIn_step fun K hK => ?_;rw [if_pos (want_sound H hg)];refine ⟨fun _ _ => trivial,?_⟩;have hs : o.semAt Fence.wide.round a.eval = execOp a.eval o:=rfl;rw [hs,he,hy];refine ⟨fun h => absurd h (by simp [Fence.wide]),hR.mono ?_⟩;intro e w' h
  obtain ⟨v,rfl,hk⟩:=hr e w' h
  refine hK _ _ ?_;rw [hdst];exact hk _ (H.put hd)
end
end Go.Proofs.Ytpadgcomncljmaa.A
/- The acts up to a minute: the function that hands back an iterator. -/
namespace Go.Proofs.Ytpadgcomncljmaa.A
open Go.RowKit
theorem upTo_any (g : Nat) (min : Int) (w : World) :
    Calls Try.prog 77 #[.pointer (some ⟨g,0,none⟩),.int .i64 min] w fun e w' => e = .returned (.func (.func 101) #[] #[.pointer (some ⟨w.heap.size,0,none⟩),.pointer (some ⟨w.heap.size + 1,0,none⟩)]) ∧ w' = (w.alloc (.cells #[.pointer (some ⟨g,0,none⟩)] 37)).alloc (.cells #[.int .i64 min] 3):=by
  go_enter Try.func77,Try.ntmps77
  refine wp_abs (n:=6) (ds:=[]) (l:=[(0,.pointer (some ⟨g,0,none⟩)),(1,.int .i64 min)]) ?_ ?_
  · refine ((Has.nil ?_ ?_).cons ?_).cons ?_
    all_goals first | rfl | (simp [Act.eval];done)
  intro _ hf;refine wp_seq_k ?_;intro _ _;refine wp_region_lit ?_;refine a_box hf rfl rfl rfl rfl ?_;clear hf;intro _ hf;refine a_box hf rfl rfl rfl rfl ?_;clear hf;intro _ hf;refine a_assign hf rfl rfl rfl ?_;clear hf;intro _ hf;refine wpList_nil ?_;simp only [Exit.then,Exit.inBlock];go_step;refine wp_seq_k ?_;intro _ _;refine wp_region_lit ?_;refine a_fn2 hf rfl rfl rfl rfl ?_;clear hf;intro _ hf;refine a_assign hf rfl rfl rfl ?_;clear hf;intro _ hf;refine wpList_nil ?_;simp only [Exit.then,Exit.inBlock];go_step;refine wp_ret ?_;exact c_ret hf rfl rfl ⟨by rw [alloc_size'],rfl⟩
def upToL (acts : List ActL) (min : Int) : List ActL:=acts.takeWhile fun a => decide (a.minute ≤ min)
end Go.Proofs.Ytpadgcomncljmaa.A
/- The acts up to a minute: the iterator. -/
namespace Go.Proofs.Ytpadgcomncljmaa.A
open Go.RowKit
abbrev ItA:=Nat × ActL × Option Addr × Nat
def encA : ItA → Array Value
  | (i,x,B8,d8) => #[.int .i64 i,.agg #[.int .i64 x.kind,.int .i64 x.minute,.int .i64 x.paper,.int .i64 x.case_,.int .i64 x.by_,.int .i64 x.against,.int .i64 x.art,.int .i64 x.at_,.slice B8 x.facts.length d8,.int .i64 x.paid,.bool x.up,.int .i64 x.pen]]
theorem upTo_step {acts : List ActL} {k : Nat} {x : ActL} {min : Int} (h : acts[k]? = some x) : upToL (acts.drop k) min = if x.minute ≤ min then x :: upToL (acts.drop (k + 1)) min else []:=by
  rw [drop_get h,upToL,List.takeWhile_cons]
  by_cases hm : x.minute ≤ min <;> simp [hm,upToL]
structure KeepsBut (n0 : Nat) (F : Nat → Prop) (w w' : World) : Prop where
  os : w'.os = w.os
  tape : w'.tape = w.tape
  output : w'.output = w.output
  size : w.heap.size ≤ w'.heap.size
  block : ∀ k,k < n0 → ¬ F k → w'.heap[k]? = w.heap[k]?
theorem KeepsBut.refl {n0 : Nat} {F : Nat → Prop} {w : World} : KeepsBut n0 F w w:=⟨rfl,rfl,rfl,Nat.le_refl _,fun _ _ _ => rfl⟩
theorem KeepsBut.trans {n0 : Nat} {F : Nat → Prop} {A B C : World} (h : KeepsBut n0 F A B) (k : KeepsBut n0 F B C) : KeepsBut n0 F A C:=⟨k.os.trans h.os,k.tape.trans h.tape,k.output.trans h.output,Nat.le_trans h.size k.size,fun i hi hF => (k.block i hi hF).trans (h.block i hi hF)⟩
theorem KeepsBut.of_below {n0 : Nat} {F : Nat → Prop} {w w' : World} (h : Below n0 w w') : KeepsBut n0 F w w':=⟨h.os,h.tape,h.output,h.size,fun k hk _ => h.block k hk⟩
theorem Mod.thenBut {F : Nat → Prop} {w0 A B : World} (h : Mod F w0 A) (k : KeepsBut w0.heap.size F A B) : Mod F w0 B:=⟨k.os.trans h.os,k.tape.trans h.tape,k.output.trans h.output,Nat.le_trans h.size k.size,fun i hi hF => (k.block i hi hF).trans (h.block i hi hF)⟩
theorem Mod.cell {F : Nat → Prop} {w w' : World} (h : Mod F w w') {p : Addr} (hp : p.block < w.heap.size) (hF : ¬ F p.block) : w'.cell? p = w.cell? p:=World.cell?_of_block (h.block _ hp hF)
set_option maxHeartbeats 4000000 in
set_option maxRecDepth 100000 in
theorem iter101 (s lp : Nat) (w0 : World) (g : Nat) (acts : List ActL) (A7 : Option Addr) (c7 : Nat) (B0 B1 : Nat) (min : Int) (F : Nat → Prop) (hn : acts.length ≤ 1000000) (hg7 : w0.cell? ⟨g, 7, none⟩ = some (.slice A7 acts.length c7)) (hra : ∀ W, Mod F w0 W → RAct Any W A7 acts) (hF0 : ¬ F B0) (hF1 : ¬ F B1) (hB0 : w0.heap[B0]? = some (.cells #[.pointer (some ⟨g, 0, none⟩)] 37 (0, 0))) (hB1 : w0.heap[B1]? = some (.cells #[.int .i64 min] 3 (0, 0)))
    (J Jx : List ItA → World → Prop) (W : World) (hW : Below w0.heap.size w0 W) (hJ : AbidesFrom W.heap.size J)
    (hY : ∀ pre x W1,J pre W1 → pre.length < acts.length → YieldAt Fence.wide s Try.prog lp (encA x) W1 fun e W' => (e = .returned (.bool true) ∧ J (pre ++ [x]) W' ∧ KeepsBut w0.heap.size F W1 W') ∨ (e = .returned (.bool false) ∧ Jx (pre ++ [x]) W'))
    (h0 : J [] W) : CallsIn Fence.wide (s + 1) Try.prog 101 #[.func (.yield lp) #[] #[],.pointer (some ⟨B0,0,none⟩),.pointer (some ⟨B1,0,none⟩)] W fun e W' => (∃ v,e = .returned v) ∧ ((∃ ys,ys.map (·.2.1) = upToL acts min ∧ J ys W') ∨ (∃ pre,Jx pre W')):=by
  have HJ:=Aside.mk hJ;have HY:=Aside.mk hY;have H0:=Aside.mk h0;have c0:=(hW.cell (p:=⟨B0,0,none⟩) (blk_lt hB0)).trans (blk_cell hB0 0 (v:=.pointer (some ⟨g,0,none⟩)) rfl);have HB0:=Aside.mk hB0;have HB1:=Aside.mk hB1;have HW:=Aside.mk (Mod.of_below (F:=F) hW);have h7:=(hW.cell (p:=⟨g,7,none⟩) (lt_of_cell hg7)).trans hg7;have HRA:=Aside.mk hra;clear hJ hY h0 hB0 hB1 hW hg7 hra;refine callsIn_wide.2 ?_
  go_enter Try.func101,Try.ntmps101
  refine wp_abs (n:=28) (ds:=[]) (l:=[(0,.func (.yield lp) #[] #[]),(1,.pointer (some ⟨B0,0,none⟩)),(2,.pointer (some ⟨B1,0,none⟩))]) ?_ ?_
  · refine (((Has.nil ?_ ?_).cons ?_).cons ?_).cons ?_
    all_goals first | rfl | (simp [Act.eval];done)
  intro _ hf;refine wp_seq_k ?_;intro _ _;refine wp_region_lit ?_;refine a_load hf rfl rfl rfl (by exact c0) rfl ?_;clear hf;intro _ hf;refine a_nilCheck hf rfl rfl rfl ?_;clear hf;intro _ hf;refine a_field hf rfl rfl rfl rfl ?_;clear hf;intro _ hf;refine a_load hf rfl rfl rfl (by exact h7) rfl ?_;clear hf;intro _ hf;refine a_len hf rfl rfl rfl rfl ?_;clear hf;intro _ hf;refine a_move hf rfl rfl rfl ?_;clear hf;intro _ hf;refine wpList_nil ?_;simp only [Exit.then,Exit.inBlock];go_step;refine wp_block ?_;refine wp_loop_ghost (fun m fr wr => ∃ (k : Nat) (pre : List ItA),k ≤ acts.length ∧ m = acts.length - k ∧ Has 28 [] [(11,.int .i64 (k : Int)),(10,.int .i64 (acts.length : Int)),(9,.slice A7 acts.length c7),(2,.pointer (some ⟨B1,0,none⟩)),(1,.pointer (some ⟨B0,0,none⟩)),(0,.func (.yield lp) #[] #[])] fr ∧ pre.map (·.2.1) = acts.take k ∧ Aside (upToL acts min = acts.take k ++ upToL (acts.drop k) min) ∧ Aside (J pre wr) ∧ Mod F w0 wr) acts.length ?_ ?_
  · exact ⟨0,[],Nat.zero_le _,rfl,(((((((hf.nilOf).cons (d:=0) (hf.at_ 0 _ rfl)).cons (d:=1) (hf.at_ 1 _ rfl)).cons (d:=2) (hf.at_ 2 _ rfl)).cons (d:=9) (hf.at_ 9 _ rfl)).cons (d:=10) (hf.at_ 10 _ rfl)).cons (d:=11) (hf.at_ 11 _ rfl)),rfl,⟨by simp⟩,H0,HW.out⟩
  rintro m fr wr ⟨k,pre,hk',rfl,hf,hpre,HE,HJk,hB⟩
  have hpl : pre.length = k:=by have:=congrArg List.length hpre;rw [List.length_map,List.length_take] at this;omega
  by_cases hlt : k < acts.length
  · obtain ⟨x,hx⟩:=get_some hlt
    have HX:=Aside.mk (upTo_step (min:=min) hx);have HT:=Aside.mk (show acts.take (k + 1) = acts.take k ++ [x] by rw [List.take_add_one,hx];rfl)
    obtain ⟨ad,B8,d8,rfl,_,ha⟩:=(HRA.out _ hB) k x hx
    obtain ⟨g0,g1,g2,g3,g4,g5,g6,g7,g8,g9,g10,g11,_,_⟩:=ha
    have hcm:=(hB.cell (p:=⟨B1,0,none⟩) (blk_lt HB1.out) hF1).trans (blk_cell HB1.out 0 (v:=.int .i64 min) rfl);have HBk:=Aside.mk hB;clear hx hB;refine wp_seq_k ?_;intro _ _;refine wp_region_lit ?_;refine a_cmp (b:=true) hf rfl rfl rfl rfl rfl (by first | assumption | ((try dsimp only);simp only [bq1,bq2,bq3,bq4,bq5,bq6,bq7];omega)) rfl ?_;clear hf;intro _ hf;refine wpList_nil ?_;simp only [Exit.then,Exit.inBlock];go_step;refine wp_seq_k ?_;intro _ _;refine c_condT hf rfl ?_;refine wp_skip ?_;simp only [Exit.then];go_step;refine wp_seq_k ?_;intro _ _;refine wp_block ?_;refine wp_seq_k ?_;intro _ _;refine wp_region_lit ?_;refine a_move hf rfl rfl rfl ?_;clear hf;intro _ hf;refine a_index (j:=k) hf rfl rfl rfl rfl (by first | rfl | omega) (by omega) rfl ?_;clear hf;intro _ hf;refine a_load43 hf rfl rfl (by exact g0) (by exact g1) (by exact g2) (by exact g3) (by exact g4) (by exact g5) (by exact g6) (by exact g7) (by exact g8) (by exact g9) (by exact g10) (by exact g11) rfl ?_;clear hf;intro _ hf;refine a_alloc43 hf rfl rfl ?_;clear hf;intro _ hf;refine a_assign hf rfl rfl rfl ?_;clear hf;intro _ hf;refine a_store43 hf rfl rfl rfl (heap_alloc_new wr _) rfl ?_;clear hf;intro _ w3 hf hA hM;refine wpList_nil ?_;simp only [Exit.then,Exit.inBlock];go_step;have hb3 : Below wr.heap.size wr w3:=bel_modG (bel_alloc (Below.refl _ _) _) hM (Nat.le_refl _);have hJ3:=HJ.out pre wr w3 none HJk.out ⟨hb3.os,hb3.tape,hb3.output,hb3.size,fun k hk _ => hb3.block k hk⟩ (fun r e => by cases e);have hcm3:=(hb3.cell (p:=⟨B1,0,none⟩) (by have:=HBk.out.size;have:=blk_lt HB1.out;exact (by omega : B1 < wr.heap.size))).trans hcm;have HJ3:=Aside.mk hJ3;have HB3:=Aside.mk (HBk.out.trans (Mod.of_below (F:=F) hb3) (fun _ _ h => h));clear hb3 hJ3 hM;refine wp_seq_k ?_;intro _ _;refine (wpIn_wide (n:=s + 1)).1 ?_;refine wpIn_region_lit ?_
    by_cases hmin : x.minute ≤ min
    rotate_left
    · have HU:=Aside.mk (show upToL acts min = acts.take k by rw [HE.out,HX.out,if_neg hmin,List.append_nil])
      refine in_of ?_;refine a_field hf rfl rfl rfl rfl ?_;clear hf;intro _ hf;refine wpList_nil ⟨rfl,?_⟩;refine in_of ?_;refine a_load hf rfl rfl rfl (by exact blk_cell hA 1) rfl ?_;clear hf;intro _ hf;refine wpList_nil ⟨rfl,?_⟩;refine in_of ?_;refine a_load hf rfl rfl rfl (by exact hcm3) rfl ?_;clear hf;intro _ hf;refine wpList_nil ⟨rfl,?_⟩;refine in_of ?_;refine a_cmp (b:=true) hf rfl rfl rfl rfl rfl (by first | assumption | ((try dsimp only);simp only [bq1,bq2,bq3,bq4,bq5,bq6,bq7];omega)) rfl ?_;clear hf;intro _ hf;refine wpList_nil ⟨rfl,?_⟩;refine in_of ?_;refine a_move hf rfl rfl rfl ?_;clear hf;intro _ hf;refine wpList_nil ⟨rfl,?_⟩;refine in_of ?_;refine a_not hf rfl rfl rfl ?_;clear hf;intro _ hf;refine wpList_nil ⟨rfl,?_⟩;refine in_of ?_;refine a_not hf rfl rfl rfl ?_;clear hf;intro _ hf;refine wpList_nil ⟨rfl,?_⟩;refine in_of ?_;refine a_not hf rfl rfl rfl ?_;clear hf;intro _ hf;refine wpList_nil ⟨rfl,?_⟩;refine in_of ?_;refine a_not hf rfl rfl rfl ?_;clear hf;intro _ hf;refine wpList_nil ⟨rfl,?_⟩;refine in_of ?_;refine a_not hf rfl rfl rfl ?_;clear hf;intro _ hf;refine wpList_nil ⟨rfl,?_⟩;refine in_of ?_;(first | refine a_pickT hf rfl rfl rfl rfl ?_ | refine a_pickF hf rfl rfl rfl rfl ?_);clear hf;intro _ hf;refine wpList_nil ⟨rfl,?_⟩;refine wpListIn_nil ?_;simp only [Exit.then,Exit.inBlock];go_step;refine c_condT hf rfl ?_;refine wp_ret ?_
      try simp only [Exit.then,Exit.inBlock]
      exact bodyPost_ret (results_none rfl _ _ _) hf.defers ⟨⟨_,rfl⟩,.inl ⟨pre,by rw [hpre,HU.out],HJ3.out⟩⟩
    have HU:=Aside.mk (show upToL acts min = acts.take (k + 1) ++ upToL (acts.drop (k + 1)) min by rw [HE.out,HX.out,if_pos hmin,HT.out,List.append_assoc];rfl);refine in_of ?_;refine a_field hf rfl rfl rfl rfl ?_;clear hf;intro _ hf;refine wpList_nil ⟨rfl,?_⟩;refine in_of ?_;refine a_load hf rfl rfl rfl (by exact blk_cell hA 1) rfl ?_;clear hf;intro _ hf;refine wpList_nil ⟨rfl,?_⟩;refine in_of ?_;refine a_load hf rfl rfl rfl (by exact hcm3) rfl ?_;clear hf;intro _ hf;refine wpList_nil ⟨rfl,?_⟩;refine in_of ?_;refine a_cmp (b:=false) hf rfl rfl rfl rfl rfl (by first | assumption | ((try dsimp only);simp only [bq1,bq2,bq3,bq4,bq5,bq6,bq7];omega)) rfl ?_;clear hf;intro _ hf;refine wpList_nil ⟨rfl,?_⟩;refine in_of ?_;refine a_move hf rfl rfl rfl ?_;clear hf;intro _ hf;refine wpList_nil ⟨rfl,?_⟩;refine in_of ?_;(first | refine a_not hf rfl rfl rfl ?_ | refine a_move hf rfl rfl rfl ?_);clear hf;intro _ hf;refine wpList_nil ⟨rfl,?_⟩;refine in_of ?_;(first | refine a_not hf rfl rfl rfl ?_ | refine a_move hf rfl rfl rfl ?_);clear hf;intro _ hf;refine wpList_nil ⟨rfl,?_⟩;refine in_of ?_;(first | refine a_not hf rfl rfl rfl ?_ | refine a_load43b hf rfl rfl (by exact hA) rfl ?_);clear hf;intro _ hf;refine wpList_nil ⟨rfl,?_⟩;refine in_yield (s:=s) (lp:=lp) (args:=encA (k,x,B8,d8)) (d:=24) hf rfl (by have h0:=hf.evO (x:=.tmp 21) rfl;have h1:=hf.evO (x:=.tmp 22) rfl;have h2:=hf.evO (x:=.tmp 23) rfl;revert h0 h1 h2;generalize (Act.eval _) = ev;intro h0 h1 h2;simp [go_sem,h0,h1,h2,encA]) rfl rfl (HY.out pre (k,x,B8,d8) w3 HJ3.out (by omega)) (fun e w4 hyy => ?_)
    rcases hyy with ⟨rfl,hJ4,hb4⟩ | ⟨rfl,hJx⟩
    · refine ⟨_,rfl,?_⟩
      clear hf;intro _ hf;refine in_of ?_;(first | refine a_not hf rfl rfl rfl ?_ | refine a_not_ hf rfl rfl rfl ?_);clear hf;intro _ hf;refine wpList_nil ⟨rfl,?_⟩;refine in_of ?_;(first | refine a_pickT hf rfl rfl rfl rfl ?_ | refine a_pickF hf rfl rfl rfl rfl ?_);clear hf;intro _ hf;refine wpList_nil ⟨rfl,?_⟩;refine wpListIn_nil ?_;simp only [Exit.then,Exit.inBlock];go_step;refine c_condF hf rfl ?_;refine wp_skip ?_;simp only [Exit.then,Exit.inBlock];go_step;refine wp_region_lit ?_;refine a_ar hf rfl rfl rfl rfl (by (try dsimp only);omega) rfl ?_;clear hf;intro _ hf;refine a_move hf rfl rfl rfl ?_;clear hf;intro _ hf;refine wpList_nil ?_;simp only [Exit.then,Exit.inBlock];exact ⟨acts.length - (k + 1),by omega,k + 1,pre ++ [(k,x,B8,d8)],by omega,rfl,(((((((hf.nilOf).cons (d:=0) (hf.at_ 0 _ rfl)).cons (d:=1) (hf.at_ 1 _ rfl)).cons (d:=2) (hf.at_ 2 _ rfl)).cons (d:=9) (hf.at_ 9 _ rfl)).cons (d:=10) (hf.at_ 10 _ rfl)).cons (d:=11) (hf.at_ 11 _ rfl)),by rw [List.map_append,hpre,HT.out];rfl,HU,⟨hJ4⟩,HB3.out.thenBut hb4⟩
    · refine ⟨_,rfl,?_⟩
      clear hf;intro _ hf;refine in_of ?_;(first | refine a_not hf rfl rfl rfl ?_ | refine a_not_ hf rfl rfl rfl ?_);clear hf;intro _ hf;refine wpList_nil ⟨rfl,?_⟩;refine in_of ?_;(first | refine a_pickT hf rfl rfl rfl rfl ?_ | refine a_pickF hf rfl rfl rfl rfl ?_);clear hf;intro _ hf;refine wpList_nil ⟨rfl,?_⟩;refine wpListIn_nil ?_;simp only [Exit.then,Exit.inBlock];go_step;refine c_condT hf rfl ?_;refine wp_ret ?_
      try simp only [Exit.then,Exit.inBlock]
      exact bodyPost_ret (results_none rfl _ _ _) hf.defers ⟨⟨_,rfl⟩,.inr ⟨_,hJx⟩⟩
  · have hke : k = acts.length:=by omega
    have HU:=Aside.mk (show upToL acts min = acts.take k by rw [HE.out,hke];simp [upToL]);refine wp_seq_k ?_;intro _ _;refine wp_region_lit ?_;refine a_cmp (b:=false) hf rfl rfl rfl rfl rfl (by first | assumption | ((try dsimp only);simp only [bq1,bq2,bq3,bq4,bq5,bq6,bq7];omega)) rfl ?_;clear hf;intro _ hf;refine wpList_nil ?_;simp only [Exit.then,Exit.inBlock];go_step;refine wp_seq_k ?_;intro _ _;refine c_condF hf rfl ?_;refine wp_exit ?_;simp only [Exit.then,Exit.inBlock,↓reduceIte]
    skip
    exact bodyPost_end (v:=.tuple #[]) (by simp [results,Try.results101,go_sem]) hf.defers ⟨⟨_,rfl⟩,.inl ⟨pre,by rw [hpre,HU.out],HJk.out⟩⟩
end Go.Proofs.Ytpadgcomncljmaa.A
/- The acts up to a minute: the contract that a range over a function asks for. -/
namespace Go.Proofs.Ytpadgcomncljmaa.A
open Go.RowKit
theorem seq101 (s : Nat) (w0 : World) (g : Nat) (acts : List ActL) (A7 : Option Addr) (c7 : Nat) (B0 B1 : Nat) (min : Int) (F : Nat → Prop) (hn : acts.length ≤ 1000000) (hg7 : w0.cell? ⟨g, 7, none⟩ = some (.slice A7 acts.length c7)) (hra : ∀ W, Mod F w0 W → RAct Any W A7 acts) (hF0 : ¬ F B0) (hF1 : ¬ F B1) (hB0 : w0.heap[B0]? = some (.cells #[.pointer (some ⟨g, 0, none⟩)] 37 (0, 0))) (hB1 : w0.heap[B1]? = some (.cells #[.int .i64 min] 3 (0, 0))) :
    SeqStopsK Fence.wide (s + 1) Try.prog 101 #[.pointer (some ⟨B0,0,none⟩),.pointer (some ⟨B1,0,none⟩)] encA (KeepsBut w0.heap.size F) (fun ys => ys.map (·.2.1) = upToL acts min) (fun _ => True) acts.length w0 :=
  fun l J Jx W hW hJ _ hY h0 => (iter101 s l w0 g acts A7 c7 B0 B1 min F hn hg7 hra hF0 hF1 hB0 hB1 J Jx W hW hJ hY h0).mono fun e w' ⟨h1,h2⟩ => ⟨h1,h2.imp (fun ⟨ys,h,k⟩ => ⟨ys,h,k⟩) (fun ⟨pre,h⟩ => ⟨pre,trivial,h⟩)⟩
end Go.Proofs.Ytpadgcomncljmaa.A
/- A region that draws,in a round. -/
namespace Go.Proofs.Ytpadgcomncljmaa.A
open Go.RowKit
section
variable {P : Program} {ops : Array Oper} {Q Q' : Exit → Act → World → Prop} {a : Act} {w : World} {rest : List Oper} {o : Oper} {n0 lp : Nat} {K K' : Act → World → Prop} {S : World → Prop} {md : Region.Mode}
theorem round_op (hd : ∀ c,o.op ≠ Op.defer c) (h : o.wp P a w K' Q') (hK : ∀ a w,K' a w → K a w) (hQ : ∀ c a w,Q' (.panic c) a w → Q (.panic c) a w) (hL : LetsOut Q' → LetsOut Q) : o.wpIn (Fence.wide.inRound lp) n0 P a w K Q:=by
  refine ⟨fun _ _ => trivial,?_⟩;have h' : o.upon P a K' Q' ((execOp a.eval o).run P w):=h;rw [Oper.semAt_eq _ _ _ hd]
  generalize (execOp a.eval o).run P w = r at h'
  cases r with
  | halt c w' => cases c <;> first | exact hQ _ _ _ h' | exact (show False from h').elim
  | ok s w' =>
    cases s with
    | value v => exact hK _ _ h'
    | skip => exact hK _ _ h'
    | defer d => exact hK _ _ h'
    | enter f args =>
      refine ⟨fun h => absurd h (by simp [Fence.wide]),CallsIn.inRound lp (callsIn_wide.2 (Calls.mono h' fun e w2 hp => ?_))⟩
      cases e with
      | returned v => exact hK _ _ hp
      | panicked chain => exact hQ _ _ _ hp
      | outgrown => exact hL hp
    | row row args =>
      refine ⟨fun h => absurd h (by simp [Fence.wide]),fun c cs _ => ?_⟩
      obtain ⟨v,w2,r,s⟩:=(show Rows P row args w' _ from h') c cs
      exact ⟨v,w2,hK _ _ r,stepsIn_wide.2 s⟩
    | _ => exact (show False from h').elim
theorem in_ofR (hd : ∀ c,o.op ≠ Op.defer c) (h : wpList P ops (fun e a w => e = .normal ∧ wpListIn (Fence.wide.inRound lp) n0 P ops Q rest a w) [o] a w) : wpListIn (Fence.wide.inRound lp) n0 P ops Q (o :: rest) a w:=by
  refine wpListIn_step fun K hK => ?_
  unfold wpList at h
  split at h
  · rename_i hw
    rw [if_pos hw]
    rcases h with h | ⟨_,a',w',h,_⟩
    · exact round_op hd h (fun a w h => hK _ _ h.2) (fun _ _ _ h => by cases h.1) (fun ⟨_,_,h,_⟩ => by cases h)
    · cases h
  · rename_i hw
    rw [if_neg hw];exact ⟨fun _ _ => trivial,hK _ _ h.2⟩
theorem any_round (hno : ∀ (i : Nat) (o : Oper), ops[i]? = some o → ∀ c, o.op ≠ Op.defer c) : ∀ (fuel : Nat) (listed : Array Bool) (a : Act) (w : World), wpAnyH P md ops (fun e a w => e = .normal ∧ Q .normal a w) S fuel listed a w → wpAnyIn (Fence.wide.inRound lp) n0 P md ops Q fuel listed a w
  | 0,_,_,_,h => ⟨h.1,h.2.2⟩
  | fuel + 1,listed,a,w,h => ⟨fun hr => (h.1 hr).2,fun i hi => by
    have hi':=h.2 i hi
    unfold wpOp at hi'
    unfold wpOpIn
    cases ho : ops[i]? with
    | none => rw [ho] at hi';exact any_round hno fuel _ _ _ hi'.2
    | some o =>
      rw [ho] at hi'
      simp only at hi' ⊢
      split at hi'
      · rename_i hw
        rw [if_pos hw]
        rcases hi' with h | ⟨_,a',w',h,_⟩
        · exact round_op (hno i o ho) h (fun a w h => any_round hno fuel _ a w h.2) (fun _ _ _ h => by cases h.1) (fun ⟨_,_,h,_⟩ => by cases h)
        · cases h
      · rename_i hw
        rw [if_neg hw]
        exact ⟨fun _ _ => trivial,any_round hno fuel _ _ _ hi'.2⟩⟩
theorem t_beginR {id : Nat} (hm : P.follows .mixedOrders = true) (hno : ∀ (i : Nat) (o : Oper),ops[i]? = some o → ∀ c,o.op ≠ Op.defer c) (h : wpAnyH P .any ops (fun e a w => e = .normal ∧ Q .normal a w) S ops.size (Array.replicate ops.size false) a w.drew) : (Code.region id ops true).wpIn (Fence.wide.inRound lp) n0 P Q a w :=
  wpIn_region_any hm (any_round hno _ _ _ _ h)
end
end Go.Proofs.Ytpadgcomncljmaa.A
/- The ruling of a case: its last decision or judgement. -/
namespace Go.Proofs.Ytpadgcomncljmaa.A
open Go.RowKit

def RulAt (w : World) (b : Nat) (r : Option ActL) : Prop:=∃ B8 d8,w.heap[b]? = some (.cells #[.int .i64 (r.getD zeroAct).kind,.int .i64 (r.getD zeroAct).minute,.int .i64 (r.getD zeroAct).paper,.int .i64 (r.getD zeroAct).case_,.int .i64 (r.getD zeroAct).by_,.int .i64 (r.getD zeroAct).against,.int .i64 (r.getD zeroAct).art,.int .i64 (r.getD zeroAct).at_,.slice B8 (r.getD zeroAct).facts.length d8,.int .i64 (r.getD zeroAct).paid,.bool (r.getD zeroAct).up,.int .i64 (r.getD zeroAct).pen] 43 (0,0))
def RulOut (w : World) (r : Option ActL) (e : Ending) (w' : World) : Prop:=(∃ B8 d8,e = .returned (.tuple #[.agg #[.int .i64 (r.getD zeroAct).kind,.int .i64 (r.getD zeroAct).minute,.int .i64 (r.getD zeroAct).paper,.int .i64 (r.getD zeroAct).case_,.int .i64 (r.getD zeroAct).by_,.int .i64 (r.getD zeroAct).against,.int .i64 (r.getD zeroAct).art,.int .i64 (r.getD zeroAct).at_,.slice B8 (r.getD zeroAct).facts.length d8,.int .i64 (r.getD zeroAct).paid,.bool (r.getD zeroAct).up,.int .i64 (r.getD zeroAct).pen],.bool r.isSome])) ∧ Below w.heap.size w w'
theorem rul_step {acts : List ActL} {min : Int} {i : Int} {l : List Int} {r : Option ActL} : rulGo acts min (i :: l) r = rulGo acts min l (rulStep min (actAt acts i) r):=rfl
theorem RulAt.keep {w w' : World} {b : Nat} {r : Option ActL} (h : RulAt w b r) (hb : w'.heap[b]? = w.heap[b]?) : RulAt w' b r:=by
  obtain ⟨B8,d8,h⟩:=h
  exact ⟨B8,d8,hb.trans h⟩

theorem rul_results (tm : Array Value) (W : World) (b : Nat) (bo : Bool) (r : ActL) (B8 : Option Addr) (d8 : Nat) (h6 : tm.getD 6 undef = .pointer (some ⟨b, 0, none⟩)) (h7 : tm.getD 7 undef = .bool bo) (hb : W.heap[b]? = some (.cells #[.int .i64 r.kind, .int .i64 r.minute, .int .i64 r.paper, .int .i64 r.case_, .int .i64 r.by_, .int .i64 r.against, .int .i64 r.art, .int .i64 r.at_, .slice B8 r.facts.length d8, .int .i64 r.paid, .bool r.up, .int .i64 r.pen] 43 (0, 0))) :
    (results Try.f84 tm).run Try.prog W = .ok (.tuple #[.agg #[.int .i64 r.kind,.int .i64 r.minute,.int .i64 r.paper,.int .i64 r.case_,.int .i64 r.by_,.int .i64 r.against,.int .i64 r.art,.int .i64 r.at_,.slice B8 r.facts.length d8,.int .i64 r.paid,.bool r.up,.int .i64 r.pen],.bool bo]) W:=by
  obtain ⟨c0,c1,c2,c3,c4,c5,c6,c7,c8,c9,c10,c11⟩:=actBox hb
  have hu:=Try.underlying43;simp only [Array.getD_eq_getD_getElem?] at h6 h7
  simp [results,Try.results84,go_sem,h6,h7,hu,c0,c1,c2,c3,c4,c5,c6,c7,c8,c9,c10,c11]
set_option maxHeartbeats 4000000 in
set_option maxRecDepth 100000 in
theorem ruling_any (g : Nat) (C : CodeL) (acts : List ActL) (files : List FileL) (f : FileL) (p : Int) (A : Option Addr) (c : Nat) (min : Int) (w : World) (hC : CourtR w g C acts files)
    (hf : RI Any w A f.acts) (hv : ∀ i : Int,i ∈ f.acts → ∃ (n : Nat) (x : ActL),i = n ∧ acts[n]? = some x) (hfl : f.acts.length ≤ acts.length) :
    Calls Try.prog 84 #[.pointer (some ⟨g,0,none⟩),.agg #[.int .i64 p,.slice A f.acts.length c],.int .i64 min] w (RulOut w (rulGo acts min f.acts none)):=by
  have HC:=Aside.mk hC;have HF:=Aside.mk hf;have HV:=Aside.mk hv;have hn : acts.length ≤ 1000000:=by obtain ⟨_,_,_,_,_,_,_,_,_,_,_,h,_⟩:=hC;exact h
  clear hC hf hv
  go_enter Try.func84,Try.ntmps84
  refine wp_abs (n:=45) (ds:=[]) (l:=[(0,.pointer (some ⟨g,0,none⟩)),(1,.agg #[.int .i64 p,.slice A f.acts.length c]),(2,.int .i64 min)]) ?_ ?_
  · refine (((Has.nil ?_ ?_).cons ?_).cons ?_).cons ?_
    all_goals first | rfl | (simp [Act.eval];done)
  intro _ hf;refine wp_seq_k ?_;intro _ _;refine wp_region_lit ?_;refine a_box115 hf rfl rfl rfl ?_;clear hf;intro _ hf;refine a_alloc43 hf rfl rfl ?_;clear hf;intro _ hf;refine a_assign hf rfl rfl rfl ?_;clear hf;intro _ hf;refine wpList_nil ?_;simp only [Exit.then,Exit.inBlock];go_step;refine wp_seq_k ?_;intro _ _;refine wp_region_lit ?_;refine a_alloc43 hf rfl rfl ?_;clear hf;intro _ hf;refine wpList_nil ?_;simp only [Exit.then,Exit.inBlock];go_step;have hb3:=at3b (w:=w) (o1:=.cells #[.int .i64 p,.slice A f.acts.length c] 115) (o2:=.cells #[.int .i64 0,.int .i64 0,.int .i64 0,.int .i64 0,.int .i64 0,.int .i64 0,.int .i64 0,.int .i64 0,.slice none 0 0,.int .i64 0,.bool false,.int .i64 0] 43) (o3:=.cells #[.int .i64 0,.int .i64 0,.int .i64 0,.int .i64 0,.int .i64 0,.int .i64 0,.int .i64 0,.int .i64 0,.slice none 0 0,.int .i64 0,.bool false,.int .i64 0] 43);have hsz0 : (((w.alloc (.cells #[.int .i64 p,.slice A f.acts.length c] 115)).alloc (.cells #[.int .i64 0,.int .i64 0,.int .i64 0,.int .i64 0,.int .i64 0,.int .i64 0,.int .i64 0,.int .i64 0,.slice none 0 0,.int .i64 0,.bool false,.int .i64 0] 43)).alloc (.cells #[.int .i64 0,.int .i64 0,.int .i64 0,.int .i64 0,.int .i64 0,.int .i64 0,.int .i64 0,.int .i64 0,.slice none 0 0,.int .i64 0,.bool false,.int .i64 0] 43)).heap.size = w.heap.size + 3:=by simp
  have hBel : Below w.heap.size w (((w.alloc (.cells #[.int .i64 p,.slice A f.acts.length c] 115)).alloc (.cells #[.int .i64 0,.int .i64 0,.int .i64 0,.int .i64 0,.int .i64 0,.int .i64 0,.int .i64 0,.int .i64 0,.slice none 0 0,.int .i64 0,.bool false,.int .i64 0] 43)).alloc (.cells #[.int .i64 0,.int .i64 0,.int .i64 0,.int .i64 0,.int .i64 0,.int .i64 0,.int .i64 0,.int .i64 0,.slice none 0 0,.int .i64 0,.bool false,.int .i64 0] 43)):=bel_alloc (bel_alloc (bel_alloc (Below.refl _ _) _) _) _
  change Code.wp _ _ _ _ (((w.alloc (.cells #[.int .i64 p,.slice A f.acts.length c] 115)).alloc (.cells #[.int .i64 0,.int .i64 0,.int .i64 0,.int .i64 0,.int .i64 0,.int .i64 0,.int .i64 0,.int .i64 0,.slice none 0 0,.int .i64 0,.bool false,.int .i64 0] 43)).alloc (.cells #[.int .i64 0,.int .i64 0,.int .i64 0,.int .i64 0,.int .i64 0,.int .i64 0,.int .i64 0,.int .i64 0,.slice none 0 0,.int .i64 0,.bool false,.int .i64 0] 43))
  obtain ⟨W0,hW0⟩ : ∃ W0,W0 = (((w.alloc (.cells #[.int .i64 p,.slice A f.acts.length c] 115)).alloc (.cells #[.int .i64 0,.int .i64 0,.int .i64 0,.int .i64 0,.int .i64 0,.int .i64 0,.int .i64 0,.int .i64 0,.slice none 0 0,.int .i64 0,.bool false,.int .i64 0] 43)).alloc (.cells #[.int .i64 0,.int .i64 0,.int .i64 0,.int .i64 0,.int .i64 0,.int .i64 0,.int .i64 0,.int .i64 0,.slice none 0 0,.int .i64 0,.bool false,.int .i64 0] 43)):=⟨_,rfl⟩
  rw [← hW0] at hb3 hsz0 hBel ⊢;clear hW0;replace hf : Has 45 [] [(8,.pointer (some ⟨w.heap.size + 1 + 1,0,none⟩)),(6,.pointer (some ⟨w.heap.size + 1,0,none⟩)),(4,.pointer (some ⟨w.heap.size,0,none⟩)),(0,.pointer (some ⟨g,0,none⟩)),(2,.int .i64 min)] _:=((((hf.nilOf.cons (hf.at_ 2 _ rfl)).cons (hf.at_ 0 _ rfl)).cons (hf.at_ 4 _ rfl)).cons (d:=6) ((hf.at_ 6 _ rfl).trans (by simp))).cons (d:=8) ((hf.at_ 8 _ rfl).trans (by simp));refine wp_seq_k ?_;intro _ _;refine wp_region_lit ?_;refine a_assign hf rfl rfl rfl ?_;clear hf;intro _ hf;refine wpList_nil ?_;simp only [Exit.then,Exit.inBlock];go_step;refine wp_seq_k ?_;intro _ _;refine wp_seq_k ?_;intro _ _;refine wp_region_lit ?_;refine a_field hf rfl rfl rfl rfl ?_;clear hf;intro _ hf;refine a_load hf rfl rfl rfl (by exact blk_cell hb3.1 1) rfl ?_;clear hf;intro _ hf;refine a_len hf rfl rfl rfl rfl ?_;clear hf;intro _ hf;refine a_move hf rfl rfl rfl ?_;clear hf;intro _ hf;refine wpList_nil ?_;simp only [Exit.then,Exit.inBlock];go_step;refine wp_block ?_;refine wp_loop_ghost (fun m fr wr => ∃ (k : Nat) (r : Option ActL),k ≤ f.acts.length ∧ m = f.acts.length - k ∧ Has 45 [] [(16,.int .i64 (k : Int)),(9,.bool r.isSome),(0,.pointer (some ⟨g,0,none⟩)),(2,.int .i64 min),(6,.pointer (some ⟨w.heap.size + 1,0,none⟩)),(8,.pointer (some ⟨w.heap.size + 1 + 1,0,none⟩)),(14,.slice A f.acts.length c),(15,.int .i64 (f.acts.length : Int))] fr ∧ Aside (rulGo acts min f.acts none = rulGo acts min (f.acts.drop k) r) ∧ RulAt wr (w.heap.size + 1 + 1) r ∧ (∃ o : Array Value,o.size = 12 ∧ wr.heap[w.heap.size + 1]? = some (.cells o 43 (0,0))) ∧ Below w.heap.size w wr) f.acts.length ?_ ?_
  · exact ⟨0,none,Nat.zero_le _,rfl,(((((((hf.nilOf.cons (hf.at_ 15 _ rfl)).cons (hf.at_ 14 _ rfl)).cons (hf.at_ 8 _ rfl)).cons (hf.at_ 6 _ rfl)).cons (hf.at_ 2 _ rfl)).cons (hf.at_ 0 _ rfl)).cons (d:=9) (hf.at_ 9 _ rfl)).cons (d:=16) (hf.at_ 16 _ rfl),⟨by simp⟩,⟨none,0,hb3.2.2⟩,⟨_,rfl,hb3.2.1⟩,hBel⟩
  rintro m fr wr ⟨k,r,hk',rfl,hf,HE,HR,hZ,hB⟩
  have HW:=Aside.mk hB;have HSz:=Aside.mk (show w.heap.size + 1 + 1 < wr.heap.size by obtain ⟨_,_,h⟩:=HR;exact blk_lt h);clear hB
  by_cases hlt : k < f.acts.length
  · obtain ⟨i,hi⟩:=get_some hlt
    have HX:=Aside.mk (drop_get hi)
    obtain ⟨n,x,rfl,hx⟩:=HV.out i (List.mem_of_getElem? hi)
    have hax:=actAt_some (i:=(n : Int)) rfl hx;have hnl : n < acts.length:=(List.getElem?_eq_some_iff.1 hx).1
    obtain ⟨ad,rfl,_,hi0⟩:=(HF.out.below HW.out) k _ hi
    obtain ⟨A1,c1,A7,c7,A8,c8,hg,_,h2,_,_,_,_⟩:=HC.out.below HW.out
    have h7:=court7 hg
    obtain ⟨bd,B8,d8,rfl,_,ha⟩:=h2 n x hx
    obtain ⟨g0,g1,g2,g3,g4,g5,g6,g7,g8,g9,g10,g11,_,_⟩:=ha
    clear hi hx h2;refine wp_seq_k ?_;intro _ _;refine wp_region_lit ?_;refine a_cmp (b:=true) hf rfl rfl rfl rfl rfl (by first | assumption | ((try dsimp only);simp only [bq1,bq2,bq3,bq4,bq5,bq6,bq7];omega)) rfl ?_;clear hf;intro _ hf;refine wpList_nil ?_;simp only [Exit.then,Exit.inBlock];go_step;refine wp_seq_k ?_;intro _ _;refine c_condT hf rfl ?_;refine wp_skip ?_;simp only [Exit.then];go_step;refine wp_seq_k ?_;intro _ _;refine wp_block ?_;refine wp_seq_k ?_;intro _ _;refine wp_region_lit ?_;refine a_index1 hf rfl rfl rfl (j:=k) rfl (by omega) rfl ?_;clear hf;intro _ hf;refine a_load hf rfl rfl rfl (by exact hi0) rfl ?_;clear hf;intro _ hf;refine a_assign hf rfl rfl rfl ?_;clear hf;intro _ hf;refine wpList_nil ?_;simp only [Exit.then,Exit.inBlock];go_step;refine wp_seq_k ?_;intro _ _;refine wp_region_lit ?_;refine a_move hf rfl rfl rfl ?_;clear hf;intro _ hf;refine a_nilCheck hf rfl rfl rfl ?_;clear hf;intro _ hf;refine a_field hf rfl rfl rfl rfl ?_;clear hf;intro _ hf;refine a_load hf rfl rfl rfl (by exact h7) rfl ?_;clear hf;intro _ hf;refine a_move hf rfl rfl rfl ?_;clear hf;intro _ hf;refine a_index (j:=n) hf rfl rfl rfl rfl (by first | rfl | omega) (by omega) rfl ?_;clear hf;intro _ hf;refine a_load43 hf rfl rfl (by exact g0) (by exact g1) (by exact g2) (by exact g3) (by exact g4) (by exact g5) (by exact g6) (by exact g7) (by exact g8) (by exact g9) (by exact g10) (by exact g11) rfl ?_;clear hf;intro _ hf;refine a_alloc43 hf rfl rfl ?_;clear hf;intro _ hf;refine a_store43 hf rfl rfl rfl (heap_alloc_new wr _) rfl ?_;clear hf;intro _ w2 hf hA hM;refine wpList_nil ?_;simp only [Exit.then,Exit.inBlock];go_step;have HB2:=Aside.mk (bel_mod (bel_alloc HW.out (.cells #[.int .i64 0,.int .i64 0,.int .i64 0,.int .i64 0,.int .i64 0,.int .i64 0,.int .i64 0,.int .i64 0,.slice none 0 0,.int .i64 0,.bool false,.int .i64 0] 43)) hM (by intro k hk;have:=HSz.out;omega))
    obtain ⟨z0,z1,_,_,_,_,_,_,_,_,_,_⟩:=actBox hA
    refine wp_seq_k ?_;intro _ _
    by_cases hlate : min < x.minute
    · have HK:=Aside.mk (show rulStep min (actAt acts n) r = r by rw [hax,rulStep,if_neg (by omega)])
      refine wp_region_lit ?_;refine a_field hf rfl rfl rfl rfl ?_;clear hf;intro _ hf;refine a_load hf rfl rfl rfl (by exact z1) rfl ?_;clear hf;intro _ hf;refine a_move hf rfl rfl rfl ?_;clear hf;intro _ hf;refine a_cmp (b:=false) hf rfl rfl rfl rfl rfl (by first | assumption | ((try dsimp only);simp only [bq1,bq2,bq3,bq4,bq5,bq6,bq7];omega)) rfl ?_;clear hf;intro _ hf;refine a_move hf rfl rfl rfl ?_;clear hf;intro _ hf
      (first | refine a_not hf rfl rfl rfl ?_ | refine a_field hf rfl rfl rfl rfl ?_);clear hf;intro _ hf
      (first | refine a_not hf rfl rfl rfl ?_ | refine a_load hf rfl rfl rfl (by exact z0) rfl ?_);clear hf;intro _ hf
      (first | refine a_not hf rfl rfl rfl ?_ | refine a_cmp hf rfl rfl rfl rfl rfl rfl rfl ?_);clear hf;intro _ hf
      (first | refine a_not hf rfl rfl rfl ?_ | refine a_move hf rfl rfl rfl ?_);clear hf;intro _ hf
      (first | refine a_not hf rfl rfl rfl ?_ | refine a_field hf rfl rfl rfl rfl ?_);clear hf;intro _ hf
      (first | refine a_not hf rfl rfl rfl ?_ | refine a_load hf rfl rfl rfl (by exact z0) rfl ?_);clear hf;intro _ hf
      (first | refine a_not hf rfl rfl rfl ?_ | refine a_cmp hf rfl rfl rfl rfl rfl rfl rfl ?_);clear hf;intro _ hf
      (first | refine a_not hf rfl rfl rfl ?_ | refine a_pickT hf rfl rfl rfl rfl ?_ | refine a_pickF hf rfl rfl rfl rfl ?_);clear hf;intro _ hf
      (first | refine a_pickT hf rfl rfl rfl rfl ?_ | refine a_pickF hf rfl rfl rfl rfl ?_);clear hf;intro _ hf
      refine wpList_nil ?_;simp only [Exit.then,Exit.inBlock];go_step;refine c_condF hf rfl ?_;refine wp_skip ?_;simp only [Exit.then,Exit.inBlock];go_step;refine wp_region_lit ?_;refine a_ar hf rfl rfl rfl rfl (by (try dsimp only);omega) rfl ?_;clear hf;intro _ hf;refine a_move hf rfl rfl rfl ?_;clear hf;intro _ hf;refine wpList_nil ?_;simp only [Exit.then,Exit.inBlock];exact ⟨f.acts.length - (k + 1),by omega,k + 1,r,by omega,rfl,(((((((hf.nilOf.cons (hf.at_ 15 _ rfl)).cons (hf.at_ 14 _ rfl)).cons (hf.at_ 8 _ rfl)).cons (hf.at_ 6 _ rfl)).cons (hf.at_ 2 _ rfl)).cons (hf.at_ 0 _ rfl)).cons (d:=9) (hf.at_ 9 _ rfl)).cons (d:=16) (hf.at_ 16 _ rfl),⟨by rw [HE.out,HX.out,rul_step,HK.out]⟩,HR.keep (hM.block _ (by have:=HSz.out;simp only [World.size_alloc];omega) (by have:=HSz.out;omega) |>.trans (Below.heap_alloc wr _ _ (by have:=HSz.out;omega))),hZ.imp fun _ h => ⟨h.1,((hM.block _ (by have:=HSz.out;simp only [World.size_alloc];omega) (by have:=HSz.out;omega)).trans (Below.heap_alloc wr _ _ (by have:=HSz.out;omega))).trans h.2⟩,HB2.out⟩
    by_cases hk : x.kind = 3 ∨ x.kind = 5
    · have HK:=Aside.mk (show rulStep min (actAt acts n) r = some x by rw [hax,rulStep,if_pos ⟨by omega,hk⟩])
      obtain ⟨B8r,d8r,hRb⟩:=HR
      have hRb2:=((hM.block _ (by have:=HSz.out;simp only [World.size_alloc];omega) (by have:=HSz.out;omega)).trans (Below.heap_alloc wr _ _ (by have:=HSz.out;omega))).trans hRb;have hZ2:=hZ.imp fun _ h => (⟨h.1,((hM.block _ (by have:=HSz.out;simp only [World.size_alloc];omega) (by have:=HSz.out;omega)).trans (Below.heap_alloc wr _ _ (by have:=HSz.out;omega))).trans h.2⟩ : _ ∧ _);have hsz2:=hM.size;have hsz3 : wr.heap.size + 1 ≤ w2.heap.size:=by simpa using hsz2
      rcases hk with hk | hk
      · refine wp_region_lit ?_
        refine a_field hf rfl rfl rfl rfl ?_;clear hf;intro _ hf;refine a_load hf rfl rfl rfl (by exact z1) rfl ?_;clear hf;intro _ hf;refine a_move hf rfl rfl rfl ?_;clear hf;intro _ hf;refine a_cmp (b:=true) hf rfl rfl rfl rfl rfl (by first | assumption | ((try dsimp only);simp only [bq1,bq2,bq3,bq4,bq5,bq6,bq7];omega)) rfl ?_;clear hf;intro _ hf;refine a_move hf rfl rfl rfl ?_;clear hf;intro _ hf
        (first | refine a_not hf rfl rfl rfl ?_ | refine a_field hf rfl rfl rfl rfl ?_);clear hf;intro _ hf
        (first | refine a_not hf rfl rfl rfl ?_ | refine a_load hf rfl rfl rfl (by exact z0) rfl ?_);clear hf;intro _ hf
        (first | refine a_not hf rfl rfl rfl ?_ | refine a_cmp (b:=true) hf rfl rfl rfl rfl rfl (by first | assumption | ((try dsimp only);simp only [bq1,bq2,bq3,bq4,bq5,bq6,bq7];omega)) rfl ?_);clear hf;intro _ hf
        (first | refine a_not hf rfl rfl rfl ?_ | refine a_move hf rfl rfl rfl ?_);clear hf;intro _ hf
        (first | refine a_not hf rfl rfl rfl ?_ | refine a_field hf rfl rfl rfl rfl ?_);clear hf;intro _ hf
        (first | refine a_not hf rfl rfl rfl ?_ | refine a_load hf rfl rfl rfl (by exact z0) rfl ?_);clear hf;intro _ hf
        (first | refine a_not hf rfl rfl rfl ?_ | refine a_cmp (b:=true) hf rfl rfl rfl rfl rfl (by first | assumption | ((try dsimp only);simp only [bq1,bq2,bq3,bq4,bq5,bq6,bq7];omega)) rfl ?_);clear hf;intro _ hf
        (first | refine a_not hf rfl rfl rfl ?_ | refine a_pickT hf rfl rfl rfl rfl ?_ | refine a_pickF hf rfl rfl rfl rfl ?_);clear hf;intro _ hf
        (first | refine a_pickT hf rfl rfl rfl rfl ?_ | refine a_pickF hf rfl rfl rfl rfl ?_);clear hf;intro _ hf
        refine wpList_nil ?_;simp only [Exit.then,Exit.inBlock];go_step;refine c_condT hf rfl ?_;refine wp_region_lit ?_;refine a_load43b hf rfl rfl (by exact hA) rfl ?_;clear hf;intro _ hf;refine a_store43 hf rfl rfl rfl hRb2 rfl ?_;clear hf;intro _ w3 hf hR3 hM3;refine a_assign hf rfl rfl rfl ?_;clear hf;intro _ hf;refine wpList_nil ?_;simp only [Exit.then,Exit.inBlock];have HB3:=Aside.mk (bel_mod HB2.out hM3 (by intro k hk;omega));go_step;refine wp_region_lit ?_;refine a_ar hf rfl rfl rfl rfl (by (try dsimp only);omega) rfl ?_;clear hf;intro _ hf;refine a_move hf rfl rfl rfl ?_;clear hf;intro _ hf;refine wpList_nil ?_;simp only [Exit.then,Exit.inBlock];exact ⟨f.acts.length - (k + 1),by omega,k + 1,some x,by omega,rfl,(((((((hf.nilOf.cons (hf.at_ 15 _ rfl)).cons (hf.at_ 14 _ rfl)).cons (hf.at_ 8 _ rfl)).cons (hf.at_ 6 _ rfl)).cons (hf.at_ 2 _ rfl)).cons (hf.at_ 0 _ rfl)).cons (d:=9) (hf.at_ 9 _ rfl)).cons (d:=16) (hf.at_ 16 _ rfl),⟨by rw [HE.out,HX.out,rul_step,HK.out]⟩,⟨B8,d8,hR3⟩,hZ2.imp fun _ h => ⟨h.1,(hM3.block _ (by have:=HSz.out;omega) (by omega)).trans h.2⟩,HB3.out⟩
      · refine wp_region_lit ?_
        refine a_field hf rfl rfl rfl rfl ?_;clear hf;intro _ hf;refine a_load hf rfl rfl rfl (by exact z1) rfl ?_;clear hf;intro _ hf;refine a_move hf rfl rfl rfl ?_;clear hf;intro _ hf;refine a_cmp (b:=true) hf rfl rfl rfl rfl rfl (by first | assumption | ((try dsimp only);simp only [bq1,bq2,bq3,bq4,bq5,bq6,bq7];omega)) rfl ?_;clear hf;intro _ hf;refine a_move hf rfl rfl rfl ?_;clear hf;intro _ hf
        (first | refine a_not hf rfl rfl rfl ?_ | refine a_field hf rfl rfl rfl rfl ?_);clear hf;intro _ hf
        (first | refine a_not hf rfl rfl rfl ?_ | refine a_load hf rfl rfl rfl (by exact z0) rfl ?_);clear hf;intro _ hf
        (first | refine a_not hf rfl rfl rfl ?_ | refine a_cmp (b:=false) hf rfl rfl rfl rfl rfl (by first | assumption | ((try dsimp only);simp only [bq1,bq2,bq3,bq4,bq5,bq6,bq7];omega)) rfl ?_);clear hf;intro _ hf
        (first | refine a_not hf rfl rfl rfl ?_ | refine a_move hf rfl rfl rfl ?_);clear hf;intro _ hf
        (first | refine a_not hf rfl rfl rfl ?_ | refine a_field hf rfl rfl rfl rfl ?_);clear hf;intro _ hf
        (first | refine a_not hf rfl rfl rfl ?_ | refine a_load hf rfl rfl rfl (by exact z0) rfl ?_);clear hf;intro _ hf
        (first | refine a_not hf rfl rfl rfl ?_ | refine a_cmp (b:=true) hf rfl rfl rfl rfl rfl (by first | assumption | ((try dsimp only);simp only [bq1,bq2,bq3,bq4,bq5,bq6,bq7];omega)) rfl ?_);clear hf;intro _ hf
        (first | refine a_not hf rfl rfl rfl ?_ | refine a_pickT hf rfl rfl rfl rfl ?_ | refine a_pickF hf rfl rfl rfl rfl ?_);clear hf;intro _ hf
        (first | refine a_pickT hf rfl rfl rfl rfl ?_ | refine a_pickF hf rfl rfl rfl rfl ?_);clear hf;intro _ hf
        refine wpList_nil ?_;simp only [Exit.then,Exit.inBlock];go_step;refine c_condT hf rfl ?_;refine wp_region_lit ?_;refine a_load43b hf rfl rfl (by exact hA) rfl ?_;clear hf;intro _ hf;refine a_store43 hf rfl rfl rfl hRb2 rfl ?_;clear hf;intro _ w3 hf hR3 hM3;refine a_assign hf rfl rfl rfl ?_;clear hf;intro _ hf;refine wpList_nil ?_;simp only [Exit.then,Exit.inBlock];have HB3:=Aside.mk (bel_mod HB2.out hM3 (by intro k hk;omega));go_step;refine wp_region_lit ?_;refine a_ar hf rfl rfl rfl rfl (by (try dsimp only);omega) rfl ?_;clear hf;intro _ hf;refine a_move hf rfl rfl rfl ?_;clear hf;intro _ hf;refine wpList_nil ?_;simp only [Exit.then,Exit.inBlock];exact ⟨f.acts.length - (k + 1),by omega,k + 1,some x,by omega,rfl,(((((((hf.nilOf.cons (hf.at_ 15 _ rfl)).cons (hf.at_ 14 _ rfl)).cons (hf.at_ 8 _ rfl)).cons (hf.at_ 6 _ rfl)).cons (hf.at_ 2 _ rfl)).cons (hf.at_ 0 _ rfl)).cons (d:=9) (hf.at_ 9 _ rfl)).cons (d:=16) (hf.at_ 16 _ rfl),⟨by rw [HE.out,HX.out,rul_step,HK.out]⟩,⟨B8,d8,hR3⟩,hZ2.imp fun _ h => ⟨h.1,(hM3.block _ (by have:=HSz.out;omega) (by omega)).trans h.2⟩,HB3.out⟩
    · have HK:=Aside.mk (show rulStep min (actAt acts n) r = r by rw [hax,rulStep,if_neg (fun h => hk h.2)])
      have hk3 : ¬ x.kind = 3:=fun h => hk (.inl h);have hk5 : ¬ x.kind = 5:=fun h => hk (.inr h);refine wp_region_lit ?_;refine a_field hf rfl rfl rfl rfl ?_;clear hf;intro _ hf;refine a_load hf rfl rfl rfl (by exact z1) rfl ?_;clear hf;intro _ hf;refine a_move hf rfl rfl rfl ?_;clear hf;intro _ hf;refine a_cmp (b:=true) hf rfl rfl rfl rfl rfl (by first | assumption | ((try dsimp only);simp only [bq1,bq2,bq3,bq4,bq5,bq6,bq7];omega)) rfl ?_;clear hf;intro _ hf;refine a_move hf rfl rfl rfl ?_;clear hf;intro _ hf
      (first | refine a_not hf rfl rfl rfl ?_ | refine a_field hf rfl rfl rfl rfl ?_);clear hf;intro _ hf
      (first | refine a_not hf rfl rfl rfl ?_ | refine a_load hf rfl rfl rfl (by exact z0) rfl ?_);clear hf;intro _ hf
      (first | refine a_not hf rfl rfl rfl ?_ | refine a_cmp (b:=false) hf rfl rfl rfl rfl rfl (by first | assumption | ((try dsimp only);simp only [bq1,bq2,bq3,bq4,bq5,bq6,bq7];omega)) rfl ?_);clear hf;intro _ hf
      (first | refine a_not hf rfl rfl rfl ?_ | refine a_move hf rfl rfl rfl ?_);clear hf;intro _ hf
      (first | refine a_not hf rfl rfl rfl ?_ | refine a_field hf rfl rfl rfl rfl ?_);clear hf;intro _ hf
      (first | refine a_not hf rfl rfl rfl ?_ | refine a_load hf rfl rfl rfl (by exact z0) rfl ?_);clear hf;intro _ hf
      (first | refine a_not hf rfl rfl rfl ?_ | refine a_cmp (b:=false) hf rfl rfl rfl rfl rfl (by first | assumption | ((try dsimp only);simp only [bq1,bq2,bq3,bq4,bq5,bq6,bq7];omega)) rfl ?_);clear hf;intro _ hf
      (first | refine a_not hf rfl rfl rfl ?_ | refine a_pickT hf rfl rfl rfl rfl ?_ | refine a_pickF hf rfl rfl rfl rfl ?_);clear hf;intro _ hf
      (first | refine a_pickT hf rfl rfl rfl rfl ?_ | refine a_pickF hf rfl rfl rfl rfl ?_);clear hf;intro _ hf
      refine wpList_nil ?_;simp only [Exit.then,Exit.inBlock];go_step;refine c_condF hf rfl ?_;refine wp_skip ?_;simp only [Exit.then,Exit.inBlock];go_step;refine wp_region_lit ?_;refine a_ar hf rfl rfl rfl rfl (by (try dsimp only);omega) rfl ?_;clear hf;intro _ hf;refine a_move hf rfl rfl rfl ?_;clear hf;intro _ hf;refine wpList_nil ?_;simp only [Exit.then,Exit.inBlock];exact ⟨f.acts.length - (k + 1),by omega,k + 1,r,by omega,rfl,(((((((hf.nilOf.cons (hf.at_ 15 _ rfl)).cons (hf.at_ 14 _ rfl)).cons (hf.at_ 8 _ rfl)).cons (hf.at_ 6 _ rfl)).cons (hf.at_ 2 _ rfl)).cons (hf.at_ 0 _ rfl)).cons (d:=9) (hf.at_ 9 _ rfl)).cons (d:=16) (hf.at_ 16 _ rfl),⟨by rw [HE.out,HX.out,rul_step,HK.out]⟩,HR.keep (hM.block _ (by have:=HSz.out;simp only [World.size_alloc];omega) (by have:=HSz.out;omega) |>.trans (Below.heap_alloc wr _ _ (by have:=HSz.out;omega))),hZ.imp fun _ h => ⟨h.1,((hM.block _ (by have:=HSz.out;simp only [World.size_alloc];omega) (by have:=HSz.out;omega)).trans (Below.heap_alloc wr _ _ (by have:=HSz.out;omega))).trans h.2⟩,HB2.out⟩
  · have hke : k = f.acts.length:=by omega
    have HKE:=Aside.mk (show rulGo acts min f.acts none = r by rw [HE.out,hke];simp [rulGo])
    obtain ⟨B8r,d8r,hRb⟩:=HR
    obtain ⟨o,ho,hZb⟩:=hZ
    refine wp_seq_k ?_;intro _ _;refine wp_region_lit ?_;refine a_cmp (b:=false) hf rfl rfl rfl rfl rfl (by first | assumption | ((try dsimp only);simp only [bq1,bq2,bq3,bq4,bq5,bq6,bq7];omega)) rfl ?_;clear hf;intro _ hf;refine wpList_nil ?_;simp only [Exit.then,Exit.inBlock];go_step;refine wp_seq_k ?_;intro _ _;refine c_condF hf rfl ?_;refine wp_exit ?_;simp only [Exit.then,Exit.inBlock,↓reduceIte];go_step;refine wp_seq_k ?_;intro _ _;refine wp_region_lit ?_;refine a_load43b hf rfl rfl (by exact hRb) rfl ?_;clear hf;intro _ hf;refine a_move hf rfl rfl rfl ?_;clear hf;intro _ hf;refine a_store43 hf rfl rfl rfl hZb ho ?_;clear hf;intro _ w3 hf hR3 hM3;refine a_assign hf rfl rfl rfl ?_;clear hf;intro _ hf;refine wpList_nil ?_;simp only [Exit.then,Exit.inBlock];go_step;refine wp_ret ?_;have HB3:=bel_mod HW.out hM3 (by intro k hk;omega);refine bodyPost_ret (rul_results _ _ (w.heap.size + 1) r.isSome (r.getD zeroAct) B8r d8r (hf.at_ 6 _ rfl) (hf.at_ 7 _ rfl) hR3) hf.defers ⟨⟨B8r,d8r,?_⟩,HB3⟩;rw [HKE.out]
end Go.Proofs.Ytpadgcomncljmaa.A
/- The penalty of a case in force. -/
namespace Go.Proofs.Ytpadgcomncljmaa.A
open Go.RowKit

def stIn (st : Int) : Bool:=st == 3 || st == 5
def forceR (C : CodeL) (acts : List ActL) (min : Int) (l : List Int) : Int × Bool :=
  if stIn (stGo C.sec acts min l 1) then (((rulGo acts min l none).getD zeroAct).pen,(rulGo acts min l none).isSome && ((rulGo acts min l none).getD zeroAct).up) else (0,false)
theorem force_no {C : CodeL} {acts : List ActL} {min : Int} {l : List Int} (h : stIn (stGo C.sec acts min l 1) = false) : forceR C acts min l = (0,false):=by simp [forceR,h]
theorem force_yes {C : CodeL} {acts : List ActL} {min : Int} {l : List Int} (h : stIn (stGo C.sec acts min l 1) = true) : forceR C acts min l = (((rulGo acts min l none).getD zeroAct).pen,(rulGo acts min l none).isSome && ((rulGo acts min l none).getD zeroAct).up):=by simp [forceR,h]
set_option maxHeartbeats 4000000 in
set_option maxRecDepth 100000 in
theorem force_any (g : Nat) (C : CodeL) (acts : List ActL) (files : List FileL) (f : FileL) (p : Int) (A : Option Addr) (c : Nat) (min : Int) (w : World) (hC : CourtR w g C acts files) (hwf : Wf C acts files)
    (hf : RI Any w A f.acts) (hv : ∀ i : Int,i ∈ f.acts → ∃ (n : Nat) (x : ActL),i = n ∧ acts[n]? = some x) (hfl : f.acts.length ≤ acts.length) (hm0 : 0 ≤ min) (hm1 : min ≤ 10000000) :
    Calls Try.prog 76 #[.pointer (some ⟨g,0,none⟩),.agg #[.int .i64 p,.slice A f.acts.length c],.int .i64 min] w fun r w' => r = .returned (.tuple #[.int .i64 (forceR C acts min f.acts).1,.bool (forceR C acts min f.acts).2]) ∧ Below w.heap.size w w':=by
  have HB:=Aside.mk (bel_alloc (Below.refl _ w) (.cells #[.int .i64 p,.slice A f.acts.length c] 115));have HC:=Aside.mk (hC.below HB.out);have HF:=Aside.mk (hf.below HB.out);have HV:=Aside.mk hv;have HWF:=Aside.mk hwf;have hq : (w.alloc (.cells #[.int .i64 p,.slice A f.acts.length c] 115)).heap[w.heap.size]? = some (.cells #[.int .i64 p,.slice A f.acts.length c] 115 (0,0)):=heap_alloc_new w _;clear hC hf hv hwf
  go_enter Try.func76,Try.ntmps76
  refine wp_abs (n:=35) (ds:=[]) (l:=[(0,.pointer (some ⟨g,0,none⟩)),(1,.agg #[.int .i64 p,.slice A f.acts.length c]),(2,.int .i64 min)]) ?_ ?_
  · refine (((Has.nil ?_ ?_).cons ?_).cons ?_).cons ?_
    all_goals first | rfl | (simp [Act.eval];done)
  intro _ hf;refine wp_seq_k ?_;intro _ _;refine wp_region_lit ?_;refine a_box115 hf rfl rfl rfl ?_;clear hf;intro _ hf;refine a_assign hf rfl rfl rfl ?_;clear hf;intro _ hf;refine a_assign hf rfl rfl rfl ?_;clear hf;intro _ hf;refine wpList_nil ?_;simp only [Exit.then,Exit.inBlock];go_step
  change Code.wp _ _ _ _ (w.alloc (.cells #[.int .i64 p,.slice A f.acts.length c] 115))
  refine wp_seq_k ?_;intro _ _;refine wp_seq_k ?_;intro _ _;refine wp_region_lit ?_;refine a_move hf rfl rfl rfl ?_;clear hf;intro _ hf;refine a_load115b hf rfl rfl (by exact hq) rfl ?_;clear hf;intro _ hf;refine a_move hf rfl rfl rfl ?_;clear hf;intro _ hf;refine a_call3 hf e73 rfl rfl rfl rfl rfl ?_;clear hf;refine (state_any g C acts files f p A c min _ HC.out HWF.out HF.out HV.out hfl hm0 hm1).mono ?_;rintro _ w1 ⟨rfl,hb1⟩;intro _ hf;refine a_assign hf rfl rfl rfl ?_;clear hf;intro _ hf;refine wpList_nil ?_;simp only [Exit.then,Exit.inBlock];go_step;have HB1:=Aside.mk (bel_then HB.out hb1);have HC1:=Aside.mk (HC.out.below hb1);have HF1:=Aside.mk (HF.out.below hb1);have hq1:=(hb1.block _ (blk_lt hq)).trans hq;clear hb1 hq;refine wp_seq_k ?_;intro _ _
  cases hst : stIn (stGo C.sec acts min f.acts 1) with
  | false =>
    have HFR:=Aside.mk (force_no hst);have h3 : ¬ stGo C.sec acts min f.acts 1 = 3:=by intro h;simp [stIn,h] at hst
    have h5 : ¬ stGo C.sec acts min f.acts 1 = 5:=by intro h;simp [stIn,h] at hst
    refine wp_region_lit ?_;refine a_move hf rfl rfl rfl ?_;clear hf;intro _ hf;refine a_cmp52 (b:=true) hf rfl rfl rfl rfl (by first | assumption | ((try dsimp only);simp only [bq1,bq2,bq3,bq4,bq5,bq6,bq7];omega)) rfl ?_;clear hf;intro _ hf;refine a_move hf rfl rfl rfl ?_;clear hf;intro _ hf
    (first | refine a_not hf rfl rfl rfl ?_ | refine a_move hf rfl rfl rfl ?_);clear hf;intro _ hf
    (first | refine a_not hf rfl rfl rfl ?_ | refine a_cmp52 (b:=true) hf rfl rfl rfl rfl (by first | assumption | ((try dsimp only);simp only [bq1,bq2,bq3,bq4,bq5,bq6,bq7];omega)) rfl ?_);clear hf;intro _ hf
    (first | refine a_pickT hf rfl rfl rfl rfl ?_ | refine a_pickF hf rfl rfl rfl rfl ?_);clear hf;intro _ hf
    refine wpList_nil ?_;simp only [Exit.then,Exit.inBlock];go_step;refine c_condT hf rfl ?_;refine wp_seq_k ?_;intro _ _;refine wp_region_lit ?_;refine a_assign hf rfl rfl rfl ?_;clear hf;intro _ hf;refine a_assign hf rfl rfl rfl ?_;clear hf;intro _ hf;refine wpList_nil ?_;simp only [Exit.then,Exit.inBlock];go_step;refine wp_ret ?_;simp only [Exit.then];refine c_ret2 hf rfl rfl rfl ⟨ret_eq ?_,HB1.out⟩;rw [HFR.out]
  | true =>
    have HFR:=Aside.mk (force_yes hst);have h35 : stGo C.sec acts min f.acts 1 = 3 ∨ stGo C.sec acts min f.acts 1 = 5:=by simpa [stIn] using hst
    rcases h35 with h3 | h3
    · refine wp_region_lit ?_
      refine a_move hf rfl rfl rfl ?_;clear hf;intro _ hf;refine a_cmp52 (b:=false) hf rfl rfl rfl rfl (by first | assumption | ((try dsimp only);simp only [bq1,bq2,bq3,bq4,bq5,bq6,bq7];omega)) rfl ?_;clear hf;intro _ hf;refine a_move hf rfl rfl rfl ?_;clear hf;intro _ hf
      (first | refine a_not hf rfl rfl rfl ?_ | refine a_move hf rfl rfl rfl ?_);clear hf;intro _ hf
      (first | refine a_not hf rfl rfl rfl ?_ | refine a_cmp52 (b:=false) hf rfl rfl rfl rfl (by first | assumption | ((try dsimp only);simp only [bq1,bq2,bq3,bq4,bq5,bq6,bq7];omega)) rfl ?_);clear hf;intro _ hf
      (first | refine a_pickT hf rfl rfl rfl rfl ?_ | refine a_pickF hf rfl rfl rfl rfl ?_);clear hf;intro _ hf
      refine wpList_nil ?_;simp only [Exit.then,Exit.inBlock];go_step;refine c_condF hf rfl ?_;refine wp_skip ?_;simp only [Exit.then];go_step;refine wp_seq_k ?_;intro _ _;refine wp_region_lit ?_;refine a_move hf rfl rfl rfl ?_;clear hf;intro _ hf;refine a_load115b hf rfl rfl (by exact hq1) rfl ?_;clear hf;intro _ hf;refine a_move hf rfl rfl rfl ?_;clear hf;intro _ hf;refine a_call3 hf e84 rfl rfl rfl rfl rfl ?_;clear hf;refine (ruling_any g C acts files f p A c min _ HC1.out HF1.out HV.out hfl).mono ?_;rintro _ w2 ⟨⟨B8,d8,rfl⟩,hb2⟩;intro _ hf;refine a_move hf rfl rfl rfl ?_;clear hf;intro _ hf;refine a_extract hf rfl rfl rfl rfl ?_;clear hf;intro _ hf;refine a_extract hf rfl rfl rfl rfl ?_;clear hf;intro _ hf;refine a_alloc43 hf rfl rfl ?_;clear hf;intro _ hf;refine a_store43 hf rfl rfl rfl (heap_alloc_new w2 _) rfl ?_;clear hf;intro _ w3 hf hA hM;refine a_assign hf rfl rfl rfl ?_;clear hf;intro _ hf;refine wpList_nil ?_;simp only [Exit.then,Exit.inBlock];go_step;have HB2:=Aside.mk (bel_then HB1.out hb2);have HB3:=Aside.mk (bel_mod (bel_alloc HB2.out (.cells #[.int .i64 0,.int .i64 0,.int .i64 0,.int .i64 0,.int .i64 0,.int .i64 0,.int .i64 0,.int .i64 0,.slice none 0 0,.int .i64 0,.bool false,.int .i64 0] 43)) hM (by intro k hk;have:=HB2.out.size;omega));have hzA:=blk_lt hA;refine wp_seq_k ?_;intro _ _
      generalize hr : rulGo acts min f.acts none = r at *
      clear hr
      cases hro : r.isSome with
      | false =>
        refine r_quiet (n:=35) (ds:=[]) (ls:=[(9,.pointer (some ⟨w2.heap.size,0,none⟩)),(10,.bool false),(0,.pointer (some ⟨g,0,none⟩))]) (Below w3.heap.size w3) (by kernel_rfl) (by kernel_rfl) (bel_drew (Below.refl _ _)) (((hf.nilOf.cons (hf.at_ 0 _ rfl)).cons (d:=10) ((hf.at_ 10 (.bool r.isSome) rfl).trans (by rw [hro]))).cons (hf.at_ 9 _ rfl)) ?_;clear hf;intro _ hf;refine q_field hf rfl rfl rfl rfl ?_;clear hf;intro _ hf;refine q_load hf rfl rfl rfl (by exact fun w' hw' => blk_cell ((hw'.block _ hzA).trans hA) 11) rfl ?_;clear hf;intro _ hf;refine q_move hf rfl rfl rfl ?_;clear hf;intro _ hf;refine q_move hf rfl rfl rfl ?_;clear hf;intro _ hf
        (first | refine q_skip hf rfl rfl rfl ?_ | refine q_field hf rfl rfl rfl rfl ?_);clear hf;intro _ hf
        (first | refine q_skip hf rfl rfl rfl ?_ | refine q_load hf rfl rfl rfl (by exact fun w' hw' => blk_cell ((hw'.block _ hzA).trans hA) 10) rfl ?_);clear hf;intro _ hf
        (first | refine q_pickT hf rfl rfl rfl rfl ?_ | refine q_pickF hf rfl rfl rfl rfl ?_);clear hf;intro _ hf
        refine q_assign hf rfl rfl rfl ?_;clear hf;intro _ hf;refine q_assign hf rfl rfl rfl ?_;clear hf;intro _ hf;refine q_nil ?_;intro w9 hw9;simp only [Exit.then,Exit.inBlock];go_step;refine wp_ret ?_
        try simp only [Exit.then]
        refine c_ret2 hf rfl rfl rfl ⟨ret_eq ?_,bel_then HB3.out hw9⟩;rw [HFR.out]
        simp [hro]
      | true =>
        refine r_quiet (n:=35) (ds:=[]) (ls:=[(9,.pointer (some ⟨w2.heap.size,0,none⟩)),(10,.bool true),(0,.pointer (some ⟨g,0,none⟩))]) (Below w3.heap.size w3) (by kernel_rfl) (by kernel_rfl) (bel_drew (Below.refl _ _)) (((hf.nilOf.cons (hf.at_ 0 _ rfl)).cons (d:=10) ((hf.at_ 10 (.bool r.isSome) rfl).trans (by rw [hro]))).cons (hf.at_ 9 _ rfl)) ?_;clear hf;intro _ hf;refine q_field hf rfl rfl rfl rfl ?_;clear hf;intro _ hf;refine q_load hf rfl rfl rfl (by exact fun w' hw' => blk_cell ((hw'.block _ hzA).trans hA) 11) rfl ?_;clear hf;intro _ hf;refine q_move hf rfl rfl rfl ?_;clear hf;intro _ hf;refine q_move hf rfl rfl rfl ?_;clear hf;intro _ hf
        (first | refine q_skip hf rfl rfl rfl ?_ | refine q_field hf rfl rfl rfl rfl ?_);clear hf;intro _ hf
        (first | refine q_skip hf rfl rfl rfl ?_ | refine q_load hf rfl rfl rfl (by exact fun w' hw' => blk_cell ((hw'.block _ hzA).trans hA) 10) rfl ?_);clear hf;intro _ hf
        (first | refine q_pickT hf rfl rfl rfl rfl ?_ | refine q_pickF hf rfl rfl rfl rfl ?_);clear hf;intro _ hf
        refine q_assign hf rfl rfl rfl ?_;clear hf;intro _ hf;refine q_assign hf rfl rfl rfl ?_;clear hf;intro _ hf;refine q_nil ?_;intro w9 hw9;simp only [Exit.then,Exit.inBlock];go_step;refine wp_ret ?_
        try simp only [Exit.then]
        refine c_ret2 hf rfl rfl rfl ⟨ret_eq ?_,bel_then HB3.out hw9⟩;rw [HFR.out]
        simp [hro]
    · refine wp_region_lit ?_
      refine a_move hf rfl rfl rfl ?_;clear hf;intro _ hf;refine a_cmp52 (b:=true) hf rfl rfl rfl rfl (by first | assumption | ((try dsimp only);simp only [bq1,bq2,bq3,bq4,bq5,bq6,bq7];omega)) rfl ?_;clear hf;intro _ hf;refine a_move hf rfl rfl rfl ?_;clear hf;intro _ hf
      (first | refine a_not hf rfl rfl rfl ?_ | refine a_move hf rfl rfl rfl ?_);clear hf;intro _ hf
      (first | refine a_not hf rfl rfl rfl ?_ | refine a_cmp52 (b:=false) hf rfl rfl rfl rfl (by first | assumption | ((try dsimp only);simp only [bq1,bq2,bq3,bq4,bq5,bq6,bq7];omega)) rfl ?_);clear hf;intro _ hf
      (first | refine a_pickT hf rfl rfl rfl rfl ?_ | refine a_pickF hf rfl rfl rfl rfl ?_);clear hf;intro _ hf
      refine wpList_nil ?_;simp only [Exit.then,Exit.inBlock];go_step;refine c_condF hf rfl ?_;refine wp_skip ?_;simp only [Exit.then];go_step;refine wp_seq_k ?_;intro _ _;refine wp_region_lit ?_;refine a_move hf rfl rfl rfl ?_;clear hf;intro _ hf;refine a_load115b hf rfl rfl (by exact hq1) rfl ?_;clear hf;intro _ hf;refine a_move hf rfl rfl rfl ?_;clear hf;intro _ hf;refine a_call3 hf e84 rfl rfl rfl rfl rfl ?_;clear hf;refine (ruling_any g C acts files f p A c min _ HC1.out HF1.out HV.out hfl).mono ?_;rintro _ w2 ⟨⟨B8,d8,rfl⟩,hb2⟩;intro _ hf;refine a_move hf rfl rfl rfl ?_;clear hf;intro _ hf;refine a_extract hf rfl rfl rfl rfl ?_;clear hf;intro _ hf;refine a_extract hf rfl rfl rfl rfl ?_;clear hf;intro _ hf;refine a_alloc43 hf rfl rfl ?_;clear hf;intro _ hf;refine a_store43 hf rfl rfl rfl (heap_alloc_new w2 _) rfl ?_;clear hf;intro _ w3 hf hA hM;refine a_assign hf rfl rfl rfl ?_;clear hf;intro _ hf;refine wpList_nil ?_;simp only [Exit.then,Exit.inBlock];go_step;have HB2:=Aside.mk (bel_then HB1.out hb2);have HB3:=Aside.mk (bel_mod (bel_alloc HB2.out (.cells #[.int .i64 0,.int .i64 0,.int .i64 0,.int .i64 0,.int .i64 0,.int .i64 0,.int .i64 0,.int .i64 0,.slice none 0 0,.int .i64 0,.bool false,.int .i64 0] 43)) hM (by intro k hk;have:=HB2.out.size;omega));have hzA:=blk_lt hA;refine wp_seq_k ?_;intro _ _
      generalize hr : rulGo acts min f.acts none = r at *
      clear hr
      cases hro : r.isSome with
      | false =>
        refine r_quiet (n:=35) (ds:=[]) (ls:=[(9,.pointer (some ⟨w2.heap.size,0,none⟩)),(10,.bool false),(0,.pointer (some ⟨g,0,none⟩))]) (Below w3.heap.size w3) (by kernel_rfl) (by kernel_rfl) (bel_drew (Below.refl _ _)) (((hf.nilOf.cons (hf.at_ 0 _ rfl)).cons (d:=10) ((hf.at_ 10 (.bool r.isSome) rfl).trans (by rw [hro]))).cons (hf.at_ 9 _ rfl)) ?_;clear hf;intro _ hf;refine q_field hf rfl rfl rfl rfl ?_;clear hf;intro _ hf;refine q_load hf rfl rfl rfl (by exact fun w' hw' => blk_cell ((hw'.block _ hzA).trans hA) 11) rfl ?_;clear hf;intro _ hf;refine q_move hf rfl rfl rfl ?_;clear hf;intro _ hf;refine q_move hf rfl rfl rfl ?_;clear hf;intro _ hf
        (first | refine q_skip hf rfl rfl rfl ?_ | refine q_field hf rfl rfl rfl rfl ?_);clear hf;intro _ hf
        (first | refine q_skip hf rfl rfl rfl ?_ | refine q_load hf rfl rfl rfl (by exact fun w' hw' => blk_cell ((hw'.block _ hzA).trans hA) 10) rfl ?_);clear hf;intro _ hf
        (first | refine q_pickT hf rfl rfl rfl rfl ?_ | refine q_pickF hf rfl rfl rfl rfl ?_);clear hf;intro _ hf
        refine q_assign hf rfl rfl rfl ?_;clear hf;intro _ hf;refine q_assign hf rfl rfl rfl ?_;clear hf;intro _ hf;refine q_nil ?_;intro w9 hw9;simp only [Exit.then,Exit.inBlock];go_step;refine wp_ret ?_
        try simp only [Exit.then]
        refine c_ret2 hf rfl rfl rfl ⟨ret_eq ?_,bel_then HB3.out hw9⟩;rw [HFR.out]
        simp [hro]
      | true =>
        refine r_quiet (n:=35) (ds:=[]) (ls:=[(9,.pointer (some ⟨w2.heap.size,0,none⟩)),(10,.bool true),(0,.pointer (some ⟨g,0,none⟩))]) (Below w3.heap.size w3) (by kernel_rfl) (by kernel_rfl) (bel_drew (Below.refl _ _)) (((hf.nilOf.cons (hf.at_ 0 _ rfl)).cons (d:=10) ((hf.at_ 10 (.bool r.isSome) rfl).trans (by rw [hro]))).cons (hf.at_ 9 _ rfl)) ?_;clear hf;intro _ hf;refine q_field hf rfl rfl rfl rfl ?_;clear hf;intro _ hf;refine q_load hf rfl rfl rfl (by exact fun w' hw' => blk_cell ((hw'.block _ hzA).trans hA) 11) rfl ?_;clear hf;intro _ hf;refine q_move hf rfl rfl rfl ?_;clear hf;intro _ hf;refine q_move hf rfl rfl rfl ?_;clear hf;intro _ hf
        (first | refine q_skip hf rfl rfl rfl ?_ | refine q_field hf rfl rfl rfl rfl ?_);clear hf;intro _ hf
        (first | refine q_skip hf rfl rfl rfl ?_ | refine q_load hf rfl rfl rfl (by exact fun w' hw' => blk_cell ((hw'.block _ hzA).trans hA) 10) rfl ?_);clear hf;intro _ hf
        (first | refine q_pickT hf rfl rfl rfl rfl ?_ | refine q_pickF hf rfl rfl rfl rfl ?_);clear hf;intro _ hf
        refine q_assign hf rfl rfl rfl ?_;clear hf;intro _ hf;refine q_assign hf rfl rfl rfl ?_;clear hf;intro _ hf;refine q_nil ?_;intro w9 hw9;simp only [Exit.then,Exit.inBlock];go_step;refine wp_ret ?_
        try simp only [Exit.then]
        refine c_ret2 hf rfl rfl rfl ⟨ret_eq ?_,bel_then HB3.out hw9⟩;rw [HFR.out]
        simp [hro]
end Go.Proofs.Ytpadgcomncljmaa.A
/- The cases against a car. -/
namespace Go.Proofs.Ytpadgcomncljmaa.A
open Go.RowKit

def agP (acts : List ActL) (car min : Int) (f : FileL) : Bool:=decide ((actAt acts f.protest).minute ≤ min) && ((actAt acts f.protest).against == car)
def againstL (acts : List ActL) (files : List FileL) (car min : Int) : List FileL:=files.filter (agP acts car min)
def FilesAre (D : Nat → Prop) (w : World) (xs : List FileL) (cs : List (List Value)) : Prop :=
  cs.length = xs.length ∧ ∀ (i : Nat) (x : FileL),xs[i]? = some x → ∃ A1 c1,cs[i]? = some (fileCells x (.slice A1 x.acts.length c1)) ∧ x.acts.length ≤ c1 ∧ RI D w A1 x.acts
theorem FilesAre.snoc {D : Nat → Prop} {w : World} {xs : List FileL} {cs : List (List Value)} (h : FilesAre D w xs cs) (x : FileL) (A1 : Option Addr) (c1 : Nat) (hc : x.acts.length ≤ c1) (hr : RI D w A1 x.acts) : FilesAre D w (xs ++ [x]) (cs ++ [fileCells x (.slice A1 x.acts.length c1)]):=by
  refine ⟨by simp [h.1],fun i y hy => ?_⟩
  rcases Nat.lt_or_ge i xs.length with hi | hi
  · rw [List.getElem?_append_left hi] at hy
    obtain ⟨B8,d8,h1,h2,h3⟩:=h.2 i y hy
    exact ⟨B8,d8,by rw [List.getElem?_append_left (by rw [h.1];exact hi)];exact h1,h2,h3⟩
  · have : i = xs.length:=by
      have:=(List.getElem?_eq_some_iff.1 hy).1
      simp at this;omega
    subst this
    have : x = y:=by simpa using hy
    subst this
    exact ⟨A1,c1,by rw [← h.1];simp,hc,hr⟩
theorem FilesAre.move {D : Nat → Prop} {w w' : World} {xs : List FileL} {cs : List (List Value)} (h : FilesAre D w xs cs) (hm : ∀ k,D k → k < w.heap.size → w'.heap[k]? = w.heap[k]?) : FilesAre D w' xs cs :=
  ⟨h.1,fun i x hx => by obtain ⟨A8,c8,h1,h2,h3⟩:=h.2 i x hx;exact ⟨A8,c8,h1,h2,h3.move hm⟩⟩
theorem FilesAre.below {D : Nat → Prop} {w w' : World} {xs : List FileL} {cs : List (List Value)} (h : FilesAre D w xs cs) (hb : Below w.heap.size w w') : FilesAre D w' xs cs:=h.move fun k _ hk => hb.block k hk
theorem FilesAre.len {D : Nat → Prop} {w : World} {xs : List FileL} {cs : List (List Value)} (h : FilesAre D w xs cs) : ∀ c ∈ cs,c.length = 2:=by
  intro c hc
  obtain ⟨i,hi⟩:=List.getElem?_of_mem hc
  have hl : i < xs.length:=by rw [← h.1];exact (List.getElem?_eq_some_iff.1 hi).1
  obtain ⟨A8,c8,h1,_⟩:=h.2 i _ (List.getElem?_eq_getElem hl)
  rw [hi] at h1
  cases h1
  rfl
theorem own_filesA {D : Nat → Prop} {w : World} {base : Nat} {v : Value} {xs : List FileL} {cs : List (List Value)} (h : w.ownsRow base 115 2 v xs.length cs.flatten) (ha : FilesAre D w xs cs) :
    ∃ A c,v = .slice A xs.length c ∧ xs.length ≤ c ∧ c ≤ maxLen ∧ RFile Any w A xs:=by
  obtain ⟨A,c,rfl,hn,hm,hc⟩:=own_form h
  refine ⟨A,c,rfl,hn,hm,fun i x hx => ?_⟩
  obtain ⟨A1,c1,h1,h2,h3⟩:=ha.2 i x hx
  have hg : ∀ j u,j < 2 → (fileCells x (.slice A1 x.acts.length c1))[j]? = some u → ∃ g,A = some ⟨g,0,none⟩ ∧ base ≤ g ∧ w.cell? ⟨g,i * 2 + j,none⟩ = some u:=fun j u hj hu => by
    refine hc (i * 2 + j) u ?_;rw [flat_get 2 cs i j ha.len hj,h1];exact hu
  obtain ⟨g,rfl,_,k0⟩:=hg 0 (.int .i64 x.protest) (by omega) rfl
  obtain ⟨g',hg',_,k1⟩:=hg 1 (.slice A1 x.acts.length c1) (by omega) rfl
  cases hg'
  refine ⟨_,A1,c1,rfl,trivial,?_,?_,h2,h3.any⟩
  · rw [add_at];exact k0
  · rw [add_at];exact k1
theorem ag_snoc {acts : List ActL} {files : List FileL} {car min : Int} {k : Nat} {f : FileL} (h : files[k]? = some f) : againstL acts (files.take (k + 1)) car min = againstL acts (files.take k) car min ++ (if agP acts car min f then [f] else []):=by
  unfold againstL
  rw [drop_snoc h,List.filter_append]
  congr 1
  simp only [List.filter_cons,List.filter_nil]
def GivesFiles (w : World) (xs : List FileL) (e : Ending) (w' : World) : Prop :=
  ∃ A c,e = .returned (.slice A xs.length c) ∧ xs.length ≤ c ∧ RFile Any w' A xs ∧ Below w.heap.size w w'

set_option maxHeartbeats 4000000 in
set_option maxRecDepth 100000 in
theorem against_any (g : Nat) (C : CodeL) (acts : List ActL) (files : List FileL) (car min : Int) (w : World) (hC : CourtR w g C acts files) (hwf : Wf C acts files) :
    Calls Try.prog 75 #[.pointer (some ⟨g,0,none⟩),.int .i64 car,.int .i64 min] w (GivesFiles w (againstL acts files car min)):=by
  have HWF:=Aside.mk hwf;have HC:=Aside.mk hC
  obtain ⟨A1,c1,A7,c7,A8,c8,hg,_,_,h3w,_,hn,hfn⟩:=hC
  have HF3:=Aside.mk (show RFile (fun j => j < w.heap.size) w A8 files from h3w.mono (fun _ _ h => h));clear h3w;have h8:=court8 hg;have hfl : files.length ≤ 1000000:=by omega
  have HG:=Aside.mk hg;clear hwf hg
  obtain ⟨i0,hi,hz0,hz1,hz2⟩:=info_parts info115
  go_enter Try.func75,Try.ntmps75
  refine wp_abs (n:=42) (ds:=[]) (l:=[(0,.pointer (some ⟨g,0,none⟩)),(1,.int .i64 car),(2,.int .i64 min)]) ?_ ?_
  · refine (((Has.nil ?_ ?_).cons ?_).cons ?_).cons ?_
    all_goals first | rfl | (simp [Act.eval];done)
  intro _ hf;refine wp_seq_k ?_;intro _ _;refine wp_region_lit ?_;refine a_assign hf rfl rfl rfl ?_;clear hf;intro _ hf;refine wpList_nil ?_;simp only [Exit.then,Exit.inBlock];go_step;refine wp_seq_k ?_;intro _ _;refine wp_region_lit ?_;refine a_assign hf rfl rfl rfl ?_;clear hf;intro _ hf;refine wpList_nil ?_;simp only [Exit.then,Exit.inBlock];go_step;refine wp_seq_k ?_;intro _ _;refine wp_seq_k ?_;intro _ _;refine wp_region_lit ?_;refine a_move hf rfl rfl rfl ?_;clear hf;intro _ hf;refine a_nilCheck hf rfl rfl rfl ?_;clear hf;intro _ hf;refine a_field hf rfl rfl rfl rfl ?_;clear hf;intro _ hf;refine a_load hf rfl rfl rfl (by exact h8) rfl ?_;clear hf;intro _ hf;refine a_len hf rfl rfl rfl rfl ?_;clear hf;intro _ hf;refine a_move hf rfl rfl rfl ?_;clear hf;intro _ hf;refine wpList_nil ?_;simp only [Exit.then,Exit.inBlock];go_step;refine wp_block ?_;refine wp_loop_ghost (fun m fr wr => ∃ (k : Nat) (v : Value) (cs : List (List Value)),k ≤ files.length ∧ m = files.length - k ∧ Has 42 [] [(7,v),(15,.int .i64 (k : Int)),(0,.pointer (some ⟨g,0,none⟩)),(1,.int .i64 car),(2,.int .i64 min),(13,.slice A8 files.length c8),(14,.int .i64 (files.length : Int))] fr ∧ Aside (wr.ownsRow w.heap.size 115 2 v (againstL acts (files.take k) car min).length cs.flatten) ∧ Aside (FilesAre (fun j => j < w.heap.size) wr (againstL acts (files.take k) car min) cs) ∧ Below w.heap.size w wr) files.length ?_ ?_
  · exact ⟨0,_,[],Nat.zero_le _,rfl,((((((hf.nilOf.cons (hf.at_ 14 _ rfl)).cons (hf.at_ 13 _ rfl)).cons (hf.at_ 2 _ rfl)).cons (hf.at_ 1 _ rfl)).cons (hf.at_ 0 _ rfl)).cons (d:=15) (hf.at_ 15 _ rfl)).cons (d:=7) (hf.at_ 7 _ rfl),⟨World.ownsRow_nil _ _ _ _⟩,⟨rfl,fun i x hx => by simp [againstL] at hx⟩,Below.refl _ _⟩
  rintro m fr wr ⟨k,v,cs,hk',rfl,hf,HO,HA,hB⟩
  have HW:=Aside.mk hB;clear hB
  by_cases hlt : k < files.length
  · obtain ⟨f,hfk⟩:=get_some hlt
    have HS:=Aside.mk (ag_snoc (acts:=acts) (car:=car) (min:=min) hfk)
    obtain ⟨⟨pn,x,hpx,hx,_⟩,_⟩:=HWF.out.file f (List.mem_of_getElem? hfk)
    have hax:=actAt_some hpx hx;have hCr:=HC.out.below HW.out;have HCr:=Aside.mk hCr
    obtain ⟨_,_,B7,d7,_,_,hg',_,h2,_,_⟩:=hCr
    have h3:=HF3.out.below HW.out;have e8:=(court8 hg').symm.trans ((World.cell?_of_block (HW.out.block g (blk_lt HG.out))).trans h8)
    cases e8
    have h7:=court7 hg';have hgl:=blk_lt hg'
    obtain ⟨ad,Af,cf,rfl,_,f0,f1,hcf,hrf⟩:=h3 k f hfk
    obtain ⟨bd,Bx,dx,rfl,_,ha⟩:=h2 pn x hx
    have g5:=ha.2.2.2.2.2.1;have hpl : pn < acts.length:=(List.getElem?_eq_some_iff.1 hx).1
    have hnk : (againstL acts (files.take k) car min).length ≤ k:=by
      refine Nat.le_trans (List.length_filter_le _ _) ?_
      simp;omega
    clear ha h2 h3;refine wp_seq_k ?_;intro _ _;refine wp_region_lit ?_;refine a_cmp (b:=true) hf rfl rfl rfl rfl rfl (by first | assumption | ((try dsimp only);simp only [bq1,bq2,bq3,bq4,bq5,bq6,bq7];omega)) rfl ?_;clear hf;intro _ hf;refine wpList_nil ?_;simp only [Exit.then,Exit.inBlock];go_step;refine wp_seq_k ?_;intro _ _;refine c_condT hf rfl ?_;refine wp_skip ?_;simp only [Exit.then];go_step;refine wp_seq_k ?_;intro _ _;refine wp_block ?_;refine wp_seq_k ?_;intro _ _;refine wp_region_lit ?_;refine a_index (j:=k) hf rfl rfl rfl rfl (by first | rfl | omega) (by omega) rfl ?_;clear hf;intro _ hf;refine a_load115 hf rfl rfl (by exact f0) (by exact f1) rfl ?_;clear hf;intro _ hf;refine a_alloc115 hf rfl rfl ?_;clear hf;intro _ hf;refine a_store115 hf rfl rfl rfl (heap_alloc_new wr _) rfl ?_;clear hf;intro _ w2 hf hA hM;refine wpList_nil ?_;simp only [Exit.then,Exit.inBlock];go_step;have hM2 : Below wr.heap.size wr w2:=bel_mod (bel_alloc (Below.refl _ wr) (.cells #[.int .i64 0,.slice none 0 0] 115)) hM (by intro k hk;omega);have HM2:=Aside.mk hM2;have hzA:=blk_lt hA;have hbl:=lt_of_cell g5;clear hM hM2;refine wp_seq_k ?_;intro _ _
    by_cases hmin : x.minute ≤ min
    rotate_left
    · have hag : agP acts car min f = false:=by simp [agP,hax,hmin]
      refine r_quiet (n:=42) (ds:=[]) (ls:=[(7,v),(15,.int .i64 (k : Int)),(0,.pointer (some ⟨g,0,none⟩)),(1,.int .i64 car),(2,.int .i64 min),(13,.slice (some ad) files.length c8),(14,.int .i64 (files.length : Int)),(9,.pointer (some ⟨wr.heap.size,0,none⟩))]) (Below w2.heap.size w2) (by kernel_rfl) (by kernel_rfl) (bel_drew (Below.refl _ _)) ((((((((hf.nilOf.cons (hf.at_ 9 _ rfl)).cons (hf.at_ 14 _ rfl)).cons (hf.at_ 13 _ rfl)).cons (hf.at_ 2 _ rfl)).cons (hf.at_ 1 _ rfl)).cons (hf.at_ 0 _ rfl)).cons (hf.at_ 15 _ rfl)).cons (hf.at_ 7 _ rfl)) ?_;clear hf;intro _ hf;refine q_move hf rfl rfl rfl ?_;clear hf;intro _ hf;refine q_load115b hf rfl rfl (by exact fun w' hw' => (hw'.block _ hzA).trans hA) rfl ?_;clear hf;intro _ hf;refine q_move hf rfl rfl rfl ?_;clear hf;intro _ hf;refine q_call3 hf e72 rfl rfl rfl rfl rfl (fun w' hw' => by rw [hpx];exact (there_dec g C acts files pn Af f.acts.length cf min x w' false (by simp [hmin]) ((HCr.out.below HM2.out).below hw') hx).mono fun _ _ h => ⟨h.1,bel_then hw' h.2⟩) ?_;clear hf;intro _ hf;refine q_move hf rfl rfl rfl ?_;clear hf;intro _ hf
      (first | refine q_skip hf rfl rfl rfl ?_ | refine q_move hf rfl rfl rfl ?_);clear hf;intro _ hf
      (first | refine q_skip hf rfl rfl rfl ?_ | refine q_nilCheck hf rfl rfl rfl ?_);clear hf;intro _ hf
      (first | refine q_skip hf rfl rfl rfl ?_ | refine q_field hf rfl rfl rfl rfl ?_);clear hf;intro _ hf
      (first | refine q_skip hf rfl rfl rfl ?_ | refine q_load hf rfl rfl rfl (by exact fun w' hw' => (hw'.cell (p:=⟨g,7,none⟩) (Nat.lt_of_lt_of_le hgl HM2.out.size)).trans ((HM2.out.cell (p:=⟨g,7,none⟩) hgl).trans h7)) rfl ?_);clear hf;intro _ hf
      (first | refine q_skip hf rfl rfl rfl ?_ | refine q_field hf rfl rfl rfl rfl ?_);clear hf;intro _ hf
      (first | refine q_skip hf rfl rfl rfl ?_ | refine q_load hf rfl rfl rfl (by exact fun w' hw' => blk_cell ((hw'.block _ hzA).trans hA) 0) rfl ?_);clear hf;intro _ hf
      (first | (refine q_skip hf rfl rfl rfl ?_;clear hf;intro _ hf) | (refine q_index (j:=pn) hf rfl rfl rfl rfl (by exact hpx) (by omega) rfl ?_;clear hf;intro _ hf))
      (first | refine q_skip hf rfl rfl rfl ?_ | refine q_field hf rfl rfl rfl rfl ?_);clear hf;intro _ hf
      (first | refine q_skip hf rfl rfl rfl ?_ | refine q_load hf rfl rfl rfl (by exact fun w' hw' => (hw'.cell (p:=⟨(bd.add (pn * 12)).block,(bd.add (pn * 12)).off + 5,none⟩) (Nat.lt_of_lt_of_le hbl HM2.out.size)).trans ((HM2.out.cell (p:=⟨(bd.add (pn * 12)).block,(bd.add (pn * 12)).off + 5,none⟩) hbl).trans g5)) rfl ?_);clear hf;intro _ hf
      (first | refine q_skip hf rfl rfl rfl ?_ | refine q_move hf rfl rfl rfl ?_);clear hf;intro _ hf
      (first | refine q_skip hf rfl rfl rfl ?_ | refine q_cmp hf rfl rfl rfl rfl rfl rfl rfl ?_);clear hf;intro _ hf
      (first | refine q_pickT hf rfl rfl rfl rfl ?_ | refine q_pickF hf rfl rfl rfl rfl ?_);clear hf;intro _ hf
      refine q_nil ?_;intro w9 hw9;simp only [Exit.then,Exit.inBlock];go_step;refine c_condF hf rfl ?_;refine wp_skip ?_;simp only [Exit.then,Exit.inBlock];go_step;refine wp_region_lit ?_;refine a_ar hf rfl rfl rfl rfl (by (try dsimp only);omega) rfl ?_;clear hf;intro _ hf;refine a_move hf rfl rfl rfl ?_;clear hf;intro _ hf;refine wpList_nil ?_;simp only [Exit.then,Exit.inBlock];exact ⟨files.length - (k + 1),by omega,k + 1,_,cs,by omega,rfl,((((((hf.nilOf.cons (hf.at_ 14 _ rfl)).cons (hf.at_ 13 _ rfl)).cons (hf.at_ 2 _ rfl)).cons (hf.at_ 1 _ rfl)).cons (hf.at_ 0 _ rfl)).cons (d:=15) (hf.at_ 15 _ rfl)).cons (d:=7) (hf.at_ 7 _ rfl),⟨by rw [HS.out,hag];simpa using own_below (own_below HO.out HM2.out) hw9⟩,⟨by rw [HS.out,hag];simpa using (HA.out.below HM2.out).below hw9⟩,bel_then (bel_then HW.out HM2.out) hw9⟩
    by_cases hcar : x.against = car
    rotate_left
    · have hag : agP acts car min f = false:=by simp [agP,hax,hcar]
      refine r_quiet (n:=42) (ds:=[]) (ls:=[(7,v),(15,.int .i64 (k : Int)),(0,.pointer (some ⟨g,0,none⟩)),(1,.int .i64 car),(2,.int .i64 min),(13,.slice (some ad) files.length c8),(14,.int .i64 (files.length : Int)),(9,.pointer (some ⟨wr.heap.size,0,none⟩))]) (Below w2.heap.size w2) (by kernel_rfl) (by kernel_rfl) (bel_drew (Below.refl _ _)) ((((((((hf.nilOf.cons (hf.at_ 9 _ rfl)).cons (hf.at_ 14 _ rfl)).cons (hf.at_ 13 _ rfl)).cons (hf.at_ 2 _ rfl)).cons (hf.at_ 1 _ rfl)).cons (hf.at_ 0 _ rfl)).cons (hf.at_ 15 _ rfl)).cons (hf.at_ 7 _ rfl)) ?_;clear hf;intro _ hf;refine q_move hf rfl rfl rfl ?_;clear hf;intro _ hf;refine q_load115b hf rfl rfl (by exact fun w' hw' => (hw'.block _ hzA).trans hA) rfl ?_;clear hf;intro _ hf;refine q_move hf rfl rfl rfl ?_;clear hf;intro _ hf;refine q_call3 hf e72 rfl rfl rfl rfl rfl (fun w' hw' => by rw [hpx];exact (there_dec g C acts files pn Af f.acts.length cf min x w' true (by simp [hmin]) ((HCr.out.below HM2.out).below hw') hx).mono fun _ _ h => ⟨h.1,bel_then hw' h.2⟩) ?_;clear hf;intro _ hf;refine q_move hf rfl rfl rfl ?_;clear hf;intro _ hf
      (first | refine q_skip hf rfl rfl rfl ?_ | refine q_move hf rfl rfl rfl ?_);clear hf;intro _ hf
      (first | refine q_skip hf rfl rfl rfl ?_ | refine q_nilCheck hf rfl rfl rfl ?_);clear hf;intro _ hf
      (first | refine q_skip hf rfl rfl rfl ?_ | refine q_field hf rfl rfl rfl rfl ?_);clear hf;intro _ hf
      (first | refine q_skip hf rfl rfl rfl ?_ | refine q_load hf rfl rfl rfl (by exact fun w' hw' => (hw'.cell (p:=⟨g,7,none⟩) (Nat.lt_of_lt_of_le hgl HM2.out.size)).trans ((HM2.out.cell (p:=⟨g,7,none⟩) hgl).trans h7)) rfl ?_);clear hf;intro _ hf
      (first | refine q_skip hf rfl rfl rfl ?_ | refine q_field hf rfl rfl rfl rfl ?_);clear hf;intro _ hf
      (first | refine q_skip hf rfl rfl rfl ?_ | refine q_load hf rfl rfl rfl (by exact fun w' hw' => blk_cell ((hw'.block _ hzA).trans hA) 0) rfl ?_);clear hf;intro _ hf
      (first | (refine q_skip hf rfl rfl rfl ?_;clear hf;intro _ hf) | (refine q_index (j:=pn) hf rfl rfl rfl rfl (by exact hpx) (by omega) rfl ?_;clear hf;intro _ hf))
      (first | refine q_skip hf rfl rfl rfl ?_ | refine q_field hf rfl rfl rfl rfl ?_);clear hf;intro _ hf
      (first | refine q_skip hf rfl rfl rfl ?_ | refine q_load hf rfl rfl rfl (by exact fun w' hw' => (hw'.cell (p:=⟨(bd.add (pn * 12)).block,(bd.add (pn * 12)).off + 5,none⟩) (Nat.lt_of_lt_of_le hbl HM2.out.size)).trans ((HM2.out.cell (p:=⟨(bd.add (pn * 12)).block,(bd.add (pn * 12)).off + 5,none⟩) hbl).trans g5)) rfl ?_);clear hf;intro _ hf
      (first | refine q_skip hf rfl rfl rfl ?_ | refine q_move hf rfl rfl rfl ?_);clear hf;intro _ hf
      (first | refine q_skip hf rfl rfl rfl ?_ | refine q_cmp (b:=false) hf rfl rfl rfl rfl rfl (by first | assumption | ((try dsimp only);simp only [bq1,bq2,bq3,bq4,bq5,bq6,bq7];omega)) rfl ?_);clear hf;intro _ hf
      (first | refine q_pickT hf rfl rfl rfl rfl ?_ | refine q_pickF hf rfl rfl rfl rfl ?_);clear hf;intro _ hf
      refine q_nil ?_;intro w9 hw9;simp only [Exit.then,Exit.inBlock];go_step;refine c_condF hf rfl ?_;refine wp_skip ?_;simp only [Exit.then,Exit.inBlock];go_step;refine wp_region_lit ?_;refine a_ar hf rfl rfl rfl rfl (by (try dsimp only);omega) rfl ?_;clear hf;intro _ hf;refine a_move hf rfl rfl rfl ?_;clear hf;intro _ hf;refine wpList_nil ?_;simp only [Exit.then,Exit.inBlock];exact ⟨files.length - (k + 1),by omega,k + 1,_,cs,by omega,rfl,((((((hf.nilOf.cons (hf.at_ 14 _ rfl)).cons (hf.at_ 13 _ rfl)).cons (hf.at_ 2 _ rfl)).cons (hf.at_ 1 _ rfl)).cons (hf.at_ 0 _ rfl)).cons (d:=15) (hf.at_ 15 _ rfl)).cons (d:=7) (hf.at_ 7 _ rfl),⟨by rw [HS.out,hag];simpa using own_below (own_below HO.out HM2.out) hw9⟩,⟨by rw [HS.out,hag];simpa using (HA.out.below HM2.out).below hw9⟩,bel_then (bel_then HW.out HM2.out) hw9⟩
    have hag : agP acts car min f = true:=by simp [agP,hax,hcar,hmin]
    refine r_quiet (n:=42) (ds:=[]) (ls:=[(7,v),(15,.int .i64 (k : Int)),(0,.pointer (some ⟨g,0,none⟩)),(1,.int .i64 car),(2,.int .i64 min),(13,.slice (some ad) files.length c8),(14,.int .i64 (files.length : Int)),(9,.pointer (some ⟨wr.heap.size,0,none⟩))]) (Below w2.heap.size w2) (by kernel_rfl) (by kernel_rfl) (bel_drew (Below.refl _ _)) ((((((((hf.nilOf.cons (hf.at_ 9 _ rfl)).cons (hf.at_ 14 _ rfl)).cons (hf.at_ 13 _ rfl)).cons (hf.at_ 2 _ rfl)).cons (hf.at_ 1 _ rfl)).cons (hf.at_ 0 _ rfl)).cons (hf.at_ 15 _ rfl)).cons (hf.at_ 7 _ rfl)) ?_;clear hf;intro _ hf;refine q_move hf rfl rfl rfl ?_;clear hf;intro _ hf;refine q_load115b hf rfl rfl (by exact fun w' hw' => (hw'.block _ hzA).trans hA) rfl ?_;clear hf;intro _ hf;refine q_move hf rfl rfl rfl ?_;clear hf;intro _ hf;refine q_call3 hf e72 rfl rfl rfl rfl rfl (fun w' hw' => by rw [hpx];exact (there_dec g C acts files pn Af f.acts.length cf min x w' true (by simp [hmin]) ((HCr.out.below HM2.out).below hw') hx).mono fun _ _ h => ⟨h.1,bel_then hw' h.2⟩) ?_;clear hf;intro _ hf;refine q_move hf rfl rfl rfl ?_;clear hf;intro _ hf
    (first | refine q_skip hf rfl rfl rfl ?_ | refine q_move hf rfl rfl rfl ?_);clear hf;intro _ hf
    (first | refine q_skip hf rfl rfl rfl ?_ | refine q_nilCheck hf rfl rfl rfl ?_);clear hf;intro _ hf
    (first | refine q_skip hf rfl rfl rfl ?_ | refine q_field hf rfl rfl rfl rfl ?_);clear hf;intro _ hf
    (first | refine q_skip hf rfl rfl rfl ?_ | refine q_load hf rfl rfl rfl (by exact fun w' hw' => (hw'.cell (p:=⟨g,7,none⟩) (Nat.lt_of_lt_of_le hgl HM2.out.size)).trans ((HM2.out.cell (p:=⟨g,7,none⟩) hgl).trans h7)) rfl ?_);clear hf;intro _ hf
    (first | refine q_skip hf rfl rfl rfl ?_ | refine q_field hf rfl rfl rfl rfl ?_);clear hf;intro _ hf
    (first | refine q_skip hf rfl rfl rfl ?_ | refine q_load hf rfl rfl rfl (by exact fun w' hw' => blk_cell ((hw'.block _ hzA).trans hA) 0) rfl ?_);clear hf;intro _ hf
    (first | (refine q_skip hf rfl rfl rfl ?_;clear hf;intro _ hf) | (refine q_index (j:=pn) hf rfl rfl rfl rfl (by exact hpx) (by omega) rfl ?_;clear hf;intro _ hf))
    (first | refine q_skip hf rfl rfl rfl ?_ | refine q_field hf rfl rfl rfl rfl ?_);clear hf;intro _ hf
    (first | refine q_skip hf rfl rfl rfl ?_ | refine q_load hf rfl rfl rfl (by exact fun w' hw' => (hw'.cell (p:=⟨(bd.add (pn * 12)).block,(bd.add (pn * 12)).off + 5,none⟩) (Nat.lt_of_lt_of_le hbl HM2.out.size)).trans ((HM2.out.cell (p:=⟨(bd.add (pn * 12)).block,(bd.add (pn * 12)).off + 5,none⟩) hbl).trans g5)) rfl ?_);clear hf;intro _ hf
    (first | refine q_skip hf rfl rfl rfl ?_ | refine q_move hf rfl rfl rfl ?_);clear hf;intro _ hf
    (first | refine q_skip hf rfl rfl rfl ?_ | refine q_cmp (b:=true) hf rfl rfl rfl rfl rfl (by first | assumption | ((try dsimp only);simp only [bq1,bq2,bq3,bq4,bq5,bq6,bq7];omega)) rfl ?_);clear hf;intro _ hf
    (first | refine q_pickT hf rfl rfl rfl rfl ?_ | refine q_pickF hf rfl rfl rfl rfl ?_);clear hf;intro _ hf
    refine q_nil ?_;intro w9 hw9;simp only [Exit.then,Exit.inBlock];go_step;refine c_condT hf rfl ?_;refine wp_region_lit ?_;have hA9:=(hw9.block _ hzA).trans hA;have HO9:=own_below (own_below HO.out HM2.out) hw9;refine a_move hf rfl rfl rfl ?_;clear hf;intro _ hf;refine a_load115b hf rfl rfl hA9 rfl ?_;clear hf;intro _ hf;refine a_one97 hf rfl rfl rfl ?_;clear hf;intro _ hf;refine wpList_append_lies _ rfl _ _ 97 rfl w.heap.size 115 i0 _ 2 32 Try.underlying97 hi hz0 hz1 hz2 rfl (by decide) v (againstL acts (files.take k) car min).length cs.flatten (hf.at_ 36 _ rfl) (own_below HO9 (bel_alloc (Below.refl _ w9) _)) ⟨w9.heap.size,0,none⟩ 1 1 (fileCells f (.slice Af f.acts.length cf)) (hf.at_ 38 _ rfl) rfl (World.news_of_block (cs:=#[.int .i64 f.protest,.slice Af f.acts.length cf]) (t:=115) (fr:=(0,0)) (heap_alloc_new w9 _)) (by intro u hu;simp [fileCells] at hu;rcases hu with rfl | rfl <;> rfl) (by decide) (by simp only [maxLen];omega) (by omega) (by have:=HW.out.size;have:=HM2.out.size;have:=hw9.size;simp;omega) _ rfl ?_;intro g8 cap8 w8 hown8 hgrow8 hat8 hlt8;have HB9:=bel_then (bel_then HW.out HM2.out) hw9;have hB8 : Below w.heap.size w w8:=(bel_alloc HB9 _).grown hgrow8 (by have:=HB9.size;simp;omega) (own_base HO9);replace hf:=hf.put (d:=39) (v:=.slice (some ⟨g8,0,none⟩) ((againstL acts (files.take k) car min).length + 1) cap8) rfl;refine a_assign hf rfl rfl rfl ?_;clear hf;intro _ hf;refine wpList_nil ?_;simp only [Exit.then,Exit.inBlock]
    have hkeep : ∀ j,j < w.heap.size → j < wr.heap.size → w8.heap[j]? = wr.heap[j]?:=fun j hj hjr => by
      have h1:=(hw9.block j (Nat.lt_of_lt_of_le hjr HM2.out.size)).trans (HM2.out.block j hjr);have h2 : j < w9.heap.size:=Nat.lt_of_lt_of_le hjr (Nat.le_trans HM2.out.size hw9.size);refine ((hgrow8.block j (by simp;omega) (fun e => ?_)).trans (Below.heap_alloc w9 _ j h2)).trans h1;have:=own_base HO9 j e.symm
      omega
    have hrf8 : RI (fun j => j < w.heap.size) w8 Af f.acts:=hrf.move (fun j hj hjr => hkeep j hj hjr);have hA8:=HA.out.move (fun j hj hjr => hkeep j hj hjr);go_step;refine wp_region_lit ?_;refine a_ar hf rfl rfl rfl rfl (by (try dsimp only);omega) rfl ?_;clear hf;intro _ hf;refine a_move hf rfl rfl rfl ?_;clear hf;intro _ hf;refine wpList_nil ?_;simp only [Exit.then,Exit.inBlock];exact ⟨files.length - (k + 1),by omega,k + 1,_,cs ++ [fileCells f (.slice Af f.acts.length cf)],by omega,rfl,((((((hf.nilOf.cons (hf.at_ 14 _ rfl)).cons (hf.at_ 13 _ rfl)).cons (hf.at_ 2 _ rfl)).cons (hf.at_ 1 _ rfl)).cons (hf.at_ 0 _ rfl)).cons (d:=15) (hf.at_ 15 _ rfl)).cons (d:=7) (hf.at_ 7 _ rfl),⟨by rw [HS.out,hag,if_pos rfl,List.length_append,List.flatten_append,List.flatten_singleton];exact hown8⟩,⟨by rw [HS.out,hag,if_pos rfl];exact (hA8.snoc f Af cf hcf hrf8)⟩,hB8⟩
  · have hke : k = files.length:=by omega
    have HAL:=Aside.mk (show againstL acts (files.take k) car min = againstL acts files car min by rw [hke,List.take_length])
    obtain ⟨A9,c9,rfl,hc9,_,hrf⟩:=own_filesA HO.out HA.out
    refine wp_seq_k ?_;intro _ _;refine wp_region_lit ?_;refine a_cmp (b:=false) hf rfl rfl rfl rfl rfl (by first | assumption | ((try dsimp only);simp only [bq1,bq2,bq3,bq4,bq5,bq6,bq7];omega)) rfl ?_;clear hf;intro _ hf;refine wpList_nil ?_;simp only [Exit.then,Exit.inBlock];go_step;refine wp_seq_k ?_;intro _ _;refine c_condF hf rfl ?_;refine wp_exit ?_;simp only [Exit.then,Exit.inBlock,↓reduceIte];go_step;refine wp_seq_k ?_;intro _ _;refine wp_region_lit ?_;refine a_move hf rfl rfl rfl ?_;clear hf;intro _ hf;refine a_assign hf rfl rfl rfl ?_;clear hf;intro _ hf;refine wpList_nil ?_;simp only [Exit.then,Exit.inBlock];go_step;refine wp_ret ?_;refine c_ret hf rfl rfl ?_;rw [← HAL.out];exact ⟨A9,c9,rfl,hc9,hrf,HW.out⟩
end Go.Proofs.Ytpadgcomncljmaa.A
/- Penalty: what it refuses. -/
namespace Go.Proofs.Ytpadgcomncljmaa.A
open Go.RowKit
theorem penalty_no (p : Option Addr) (car min ec : Int) (w : World) (hec : ec ≠ 0) (hk : ∀ W, Below w.heap.size w W → Calls Try.prog 74 #[.pointer p, .int .i64 car, .int .i64 min] W fun r w' => r = .returned (.int .i64 ec) ∧ Below W.heap.size W w') :
    Calls Try.prog 32 #[.pointer p,.int .i64 car,.int .i64 min] w fun e w' => e = .returned (.tuple #[.int .i64 0,.bool false,.int .i64 ec]) ∧ Below w.heap.size w w':=by
  have HK:=Aside.mk hk;clear hk;have hB : Below w.heap.size w ((w.alloc (.cells #[.pointer p] 37)).alloc (.cells #[.int .i64 min] 3)):=bel_alloc (bel_alloc (Below.refl _ _) _) _;have h1 : ((w.alloc (.cells #[.pointer p] 37)).alloc (.cells #[.int .i64 min] 3)).heap[(w.alloc (.cells #[.pointer p] 37)).heap.size]? = some (.cells #[.int .i64 min] 3 (0,0)):=heap_alloc_new _ _;have h0 : ((w.alloc (.cells #[.pointer p] 37)).alloc (.cells #[.int .i64 min] 3)).heap[w.heap.size]? = some (.cells #[.pointer p] 37 (0,0)):=by rw [heap_alloc_old _ _ (by rw [alloc_size'];omega)];exact heap_alloc_new _ _
  have c0:=blk_cell h0 0 (v:=.pointer p) rfl;have c1:=blk_cell h1 0 (v:=.int .i64 min) rfl;clear h0 h1
  go_enter Try.func32,Try.ntmps32
  refine wp_abs (n:=98) (ds:=[]) (l:=[(0,.pointer p),(1,.int .i64 car),(2,.int .i64 min)]) ?_ ?_
  · refine (((Has.nil ?_ ?_).cons ?_).cons ?_).cons ?_
    all_goals first | rfl | (simp [Act.eval];done)
  intro _ hf;refine wp_seq_k ?_;intro _ _;refine wp_region_lit ?_;refine a_box hf rfl rfl rfl rfl ?_;clear hf;intro _ hf;refine a_box hf rfl rfl rfl rfl ?_;clear hf;intro _ hf;refine a_assign hf rfl rfl rfl ?_;clear hf;intro _ hf;refine a_assign hf rfl rfl rfl ?_;clear hf;intro _ hf;refine a_assign hf rfl rfl rfl ?_;clear hf;intro _ hf;refine wpList_nil ?_;simp only [Exit.then,Exit.inBlock];go_step;refine wp_seq_k ?_;intro _ _;refine wp_seq_k ?_;intro _ _;refine wp_region_lit ?_;refine a_load hf rfl rfl rfl (by exact c0) rfl ?_;clear hf;intro _ hf;refine a_move hf rfl rfl rfl ?_;clear hf;intro _ hf;refine a_load hf rfl rfl rfl (by exact c1) rfl ?_;clear hf;intro _ hf;refine a_call3 hf e74 rfl rfl rfl rfl rfl ?_;clear hf;refine (HK.out _ hB).mono ?_;rintro _ w1 ⟨rfl,hb1⟩;intro _ hf;refine a_assign hf rfl rfl rfl ?_;clear hf;intro _ hf;refine wpList_nil ?_;simp only [Exit.then,Exit.inBlock];go_step;refine wp_seq_k ?_;intro _ _;refine wp_region_lit ?_;refine a_move hf rfl rfl rfl ?_;clear hf;intro _ hf;refine a_cmp (b:=true) hf rfl rfl rfl rfl rfl (by first | assumption | ((try dsimp only);simp only [bq1,bq2,bq3,bq4,bq5,bq6,bq7];omega)) rfl ?_;clear hf;intro _ hf;refine wpList_nil ?_;simp only [Exit.then,Exit.inBlock];go_step;refine c_condT hf rfl ?_;refine wp_seq_k ?_;intro _ _;refine wp_region_lit ?_;refine a_move hf rfl rfl rfl ?_;clear hf;intro _ hf;refine a_assign hf rfl rfl rfl ?_;clear hf;intro _ hf;refine a_assign hf rfl rfl rfl ?_;clear hf;intro _ hf;refine a_assign hf rfl rfl rfl ?_;clear hf;intro _ hf;refine wpList_nil ?_;simp only [Exit.then,Exit.inBlock];go_step;refine wp_ret ?_
  try simp only [Exit.then,Exit.inBlock]
  refine bodyPost_ret (v:=.tuple #[.int .i64 0,.bool false,.int .i64 ec]) ?_ hf.defers ⟨rfl,bel_then hB hb1⟩;have e6:=hf.at_ 6 _ rfl;have e7:=hf.at_ 7 _ rfl;have e8:=hf.at_ 8 _ rfl;simp only [Act.eval] at e6 e7 e8;rw [results_tmp3 rfl];simp only [e6,e7,e8]
end Go.Proofs.Ytpadgcomncljmaa.A
/- Penalty: what a court answers. -/
namespace Go.Proofs.Ytpadgcomncljmaa.A
open Go.RowKit
def penOf (C : CodeL) (acts : List ActL) (min : Int) (f : FileL) : Int:=if (forceR C acts min f.acts).2 then (forceR C acts min f.acts).1 else 0
def stB (s : Int) : Bool:=s == 1 || s == 3 || s == 4
def provOf (C : CodeL) (acts : List ActL) (min : Int) (f : FileL) : Bool:=stB (stGo C.sec acts min f.acts 1)
def pubIn (win min : Int) (a : ActL) : Bool:=a.kind == 1 && decide (min - a.minute ≤ win)
def penSum (C : CodeL) (acts : List ActL) (min : Int) (ls : List FileL) : Int:=sumI (ls.map (penOf C acts min))
def penProv (C : CodeL) (acts : List ActL) (min : Int) (ls : List FileL) : Bool:=ls.any (provOf C acts min)
def penaltyR (C : CodeL) (acts : List ActL) (files : List FileL) (car min : Int) : Int × Bool :=
  (penSum C acts min (againstL acts files car min),penProv C acts min (againstL acts files car min) || (upToL acts min).any (pubIn C.win min))
end Go.Proofs.Ytpadgcomncljmaa.A
/- A court where one block of another kind has turned. -/
namespace Go.Proofs.Ytpadgcomncljmaa.A
open Go.RowKit
def Alien (w : World) (B : Nat) : Prop:=∀ (p : Addr) (k : IntKind) (x : Int),p.block = B → w.cell? p ≠ some (.int k x)
theorem alien_bool {w : World} {B : Nat} {b : Bool} (h : w.heap[B]? = some (.cells #[.bool b] 4 (0,0))) : Alien w B:=by
  rintro ⟨_,off,sp⟩ k x rfl hc
  simp only [World.cell?,h] at hc
  split at hc
  · cases hc
  · match off with
    | 0 => simp at hc
    | n + 1 => simp at hc
section
variable {w w' : World} {A : Option Addr} {B : Nat}
theorem RI.off {xs : List Int} (h : RI Any w A xs) (ha : Alien w B) : RI (fun k => k ≠ B) w A xs:=fun i x hx => by
  obtain ⟨ad,rfl,_,hc⟩:=h i x hx
  exact ⟨ad,rfl,fun e => ha _ _ _ (by rw [block_add];exact e) hc,hc⟩
theorem RArt.off {xs : List Art} (h : RArt Any w A xs) (ha : Alien w B) : RArt (fun k => k ≠ B) w A xs:=fun i x hx => by
  obtain ⟨ad,rfl,_,hc,hr⟩:=h i x hx
  exact ⟨ad,rfl,fun e => ha _ _ _ (by rw [block_add];exact e) hc,hc,hr⟩
theorem RAct.off {xs : List ActL} (h : RAct Any w A xs) (ha : Alien w B) : RAct (fun k => k ≠ B) w A xs:=fun i x hx => by
  obtain ⟨ad,A8,c8,rfl,_,h0,h1,h2,h3,h4,h5,h6,h7,h8,h9,h10,h11,hl,hr⟩:=h i x hx
  exact ⟨ad,A8,c8,rfl,fun e => ha _ _ _ (by rw [block_add];exact e) h0,h0,h1,h2,h3,h4,h5,h6,h7,h8,h9,h10,h11,hl,hr.off ha⟩
theorem RFile.off {xs : List FileL} (h : RFile Any w A xs) (ha : Alien w B) : RFile (fun k => k ≠ B) w A xs:=fun i x hx => by
  obtain ⟨ad,A1,c1,rfl,_,h0,h1,hl,hr⟩:=h i x hx
  exact ⟨ad,A1,c1,rfl,fun e => ha _ _ _ (by rw [block_add];exact e) h0,h0,h1,hl,hr.off ha⟩
theorem RFile.turn {xs : List FileL} (h : RFile Any w A xs) (ha : Alien w B) (hM : Mod (fun k => k = B) w w') : RFile Any w' A xs :=
  ((h.off ha).move fun k hD hk => hM.block k hk hD).any
theorem CourtR.turn {g : Nat} {C : CodeL} {acts : List ActL} {files : List FileL} (h : CourtR w g C acts files) (ha : Alien w B) (hM : Mod (fun k => k = B) w w') : CourtR w' g C acts files:=by
  obtain ⟨A1,c1,A7,c7,A8,c8,hg,h1,h2,h3,h4⟩:=h
  have hgB : g ≠ B:=fun e => ha ⟨g,0,none⟩ .i64 C.cars e (blk_cell hg 0);exact ⟨A1,c1,A7,c7,A8,c8,(hM.block g (blk_lt hg) hgB).trans hg,((h1.off ha).move fun k hD hk => hM.block k hk hD).any,((h2.off ha).move fun k hD hk => hM.block k hk hD).any,((h3.off ha).move fun k hD hk => hM.block k hk hD).any,h4⟩
end
theorem rul_bound {acts : List ActL} (hp : ∀ x ∈ acts, 0 ≤ x.pen ∧ x.pen ≤ 36000000) (min : Int) : ∀ (l : List Int) (r : Option ActL), (∀ x, r = some x → 0 ≤ x.pen ∧ x.pen ≤ 36000000) → ∀ x, rulGo acts min l r = some x → 0 ≤ x.pen ∧ x.pen ≤ 36000000
  | [],r,h,x,hx => h x hx
  | i :: l, r, h, x, hx => rul_bound hp min l _ (by
      intro y hy
      unfold rulStep at hy
      split at hy
      · cases hy
        unfold actAt
        cases hq : acts[i.toNat]? with
        | none => simp [zeroAct]
        | some v => exact hp v (List.mem_of_getElem? hq)
      · exact h y hy) x hx
theorem force_bound {C : CodeL} {acts : List ActL} (hp : ∀ x ∈ acts,0 ≤ x.pen ∧ x.pen ≤ 36000000) (min : Int) (l : List Int) : 0 ≤ (forceR C acts min l).1 ∧ (forceR C acts min l).1 ≤ 36000000:=by
  unfold forceR
  split
  · show 0 ≤ ((rulGo acts min l none).getD zeroAct).pen ∧ ((rulGo acts min l none).getD zeroAct).pen ≤ 36000000
    cases hr : rulGo acts min l none with
    | none => simp [zeroAct]
    | some x => exact rul_bound hp min l none (fun _ h => by cases h) x hr
  · exact ⟨Int.le_refl _,by decide⟩
theorem penOf_bound {C : CodeL} {acts : List ActL} (hp : ∀ x ∈ acts,0 ≤ x.pen ∧ x.pen ≤ 36000000) (min : Int) (f : FileL) : 0 ≤ penOf C acts min f ∧ penOf C acts min f ≤ 36000000:=by
  have h:=force_bound (C:=C) hp min f.acts
  unfold penOf
  split
  · exact h
  · exact ⟨Int.le_refl _,by decide⟩
end Go.Proofs.Ytpadgcomncljmaa.A
