/- The state of a case: the whole of State. -/
import Derived.Test.YtpadgcomncljmaaStates3
set_option linter.all false
namespace Go.Proofs.Ytpadgcomncljmaa.A
open Go.RowKit
def protAct (acts : List ActL) (k : Int) : ActL:=actAt acts ((protGo acts 0)[k.toNat]?.getD 0)
def inCase (acts : List ActL) (k : Int) : Prop:=0 ≤ k ∧ k < ((protGo acts 0).length : Int)
instance (acts : List ActL) (k : Int) : Decidable (inCase acts k):=by unfold inCase;exact inferInstance
def refSt (C : CodeL) (acts : List ActL) (k min : Int) : Int:=if inCase acts k then (if min < (protAct acts k).minute then 0 else coreSt C acts k min) else 0
def refDec (acts : List ActL) (k min : Int) : Int:=if lastR 3 k min acts < lastR 5 k min acts then lastR 5 k min acts else lastR 3 k min acts
def refForce (C : CodeL) (acts : List ActL) (k min : Int) : Int × Bool:=if refSt C acts k min = 3 ∨ refSt C acts k min = 5 then ((actAt acts (refDec acts k min)).pen,(actAt acts (refDec acts k min)).up) else (0,false)
theorem protLen_le : ∀ (l : List ActL) (i : Int), (protGo l i).length ≤ l.length
  | [],i => by simp [protGo]
  | x :: l,i => by
    have:=protLen_le l (i + 1)
    by_cases h : x.kind = 2
    · rw [prot_hit h];simp;omega
    · rw [prot_miss h];simp;omega
theorem lastR_lt (q k min : Int) (acts : List ActL) : -1 ≤ lastR q k min acts ∧ lastR q k min acts < acts.length:=by
  rcases lastGo_spec q k min acts 0 (-1) with ⟨h1,_⟩ | ⟨j,y,h1,_,h2⟩
  · unfold lastR;omega
  · have:=(List.getElem?_eq_some_iff.1 h1).1
    unfold lastR;omega
theorem refLast_as (A : Option Addr) (ca : Nat) (l : List ActL) (kind num min : Int) (w : World) (ha : RAct Any w A l) (hn : l.length ≤ 1000000) :
    Calls Try.prog 59 #[.slice A l.length ca,.int .i64 kind,.int .i64 num,.int .i64 min] w fun e w' => e = .returned (.int .i64 (lastR kind num min l)) ∧ Below w.heap.size w w':=refLast_any A ca l kind num min w ha hn
set_option maxHeartbeats 4000000 in
set_option maxRecDepth 100000 in
theorem refDec_any (acts : List ActL) (A : Option Addr) (c : Nat) (k min : Int) (w : World) (hr : RAct Any w A acts) (hna : acts.length ≤ 1000000) :
    Calls Try.prog 102 #[.slice A acts.length c,.int .i64 k,.int .i64 min] w fun e w' => e = .returned (.int .i64 (refDec acts k min)) ∧ Below w.heap.size w w':=by
  have HR:=Aside.mk hr;have hB : Below w.heap.size w w:=Below.refl _ _;clear hr
  go_enter Try.func102,Try.ntmps102
  refine wp_abs (n:=16) (ds:=[]) (l:=[(0,.slice A acts.length c),(1,.int .i64 k),(2,.int .i64 min)]) ?_ ?_
  · refine (((Has.nil ?_ ?_).cons ?_).cons ?_).cons ?_
    all_goals first | rfl | (simp [Act.eval];done)
  intro _ hf;refine wp_seq_k ?_;intro _ _;refine wp_region_lit ?_;refine a_assign hf rfl rfl rfl ?_;clear hf;intro _ hf;refine wpList_nil ?_;simp only [Exit.then,Exit.inBlock];go_step;refine wp_seq_k ?_;intro _ _;refine wp_region_lit ?_;refine a_move hf rfl rfl rfl ?_;clear hf;intro _ hf;refine a_move hf rfl rfl rfl ?_;clear hf;intro _ hf;refine a_move hf rfl rfl rfl ?_;clear hf;intro _ hf;refine a_call4 hf e59 rfl rfl rfl rfl rfl rfl ?_;clear hf;refine (refLast_as A c acts 3 k min _ (HR.out.below hB) hna).mono ?_;rintro _ w2 ⟨rfl,hb⟩;replace hB:=bel_then hB hb;clear hb;intro _ hf;refine a_move hf rfl rfl rfl ?_;clear hf;intro _ hf;refine a_move hf rfl rfl rfl ?_;clear hf;intro _ hf;refine a_move hf rfl rfl rfl ?_;clear hf;intro _ hf;refine a_call4 hf e59 rfl rfl rfl rfl rfl rfl ?_;clear hf;refine (refLast_as A c acts 5 k min _ (HR.out.below hB) hna).mono ?_;rintro _ w3 ⟨rfl,hb⟩;replace hB:=bel_then hB hb;clear hb;intro _ hf;refine a_max hf rfl rfl rfl rfl ?_;clear hf;intro _ hf;refine a_assign hf rfl rfl rfl ?_;clear hf;intro _ hf;refine wpList_nil ?_;simp only [Exit.then,Exit.inBlock];go_step;refine wp_ret ?_
  try simp only [Exit.then,Exit.inBlock]
  exact c_ret hf rfl rfl ⟨rfl,hB⟩
set_option maxHeartbeats 4000000 in
set_option maxRecDepth 100000 in
theorem refState_any (C : CodeL) (A1 : Option Addr) (c1 : Nat) (acts : List ActL) (A : Option Addr) (c : Nat) (k min : Int) (w : World) (hr : RAct Any w A acts) (hna : acts.length ≤ 1000000) (hmin : ∀ x ∈ acts, 0 ≤ x.minute ∧ x.minute ≤ 10000000) (hm0 : 0 ≤ min) (hm1 : min ≤ 10000000) :
    Calls Try.prog 33 #[.agg #[.int .i64 C.cars,.slice A1 C.arts.length c1,.int .i64 C.win,.int .i64 C.sec,.int .i64 C.fee,.int .i64 C.price],.slice A acts.length c,.int .i64 k,.int .i64 min] w fun e w' => e = .returned (.int .i64 (refSt C acts k min)) ∧ Below w.heap.size w w':=by
  have HR:=Aside.mk hr;have HM:=Aside.mk hmin;have h3 : (w.alloc (.cells #[.int .i64 C.cars,.slice A1 C.arts.length c1,.int .i64 C.win,.int .i64 C.sec,.int .i64 C.fee,.int .i64 C.price] 33)).heap[w.heap.size]? = some (.cells #[.int .i64 C.cars,.slice A1 C.arts.length c1,.int .i64 C.win,.int .i64 C.sec,.int .i64 C.fee,.int .i64 C.price] 33 (0,0)):=heap_alloc_new w _;have hB : Below w.heap.size w (w.alloc (.cells #[.int .i64 C.cars,.slice A1 C.arts.length c1,.int .i64 C.win,.int .i64 C.sec,.int .i64 C.fee,.int .i64 C.price] 33)):=bel_alloc (Below.refl _ _) _;have hpl:=protLen_le acts 0;clear hr hmin
  go_enter Try.func33,Try.ntmps33
  refine wp_abs (n:=62) (ds:=[]) (l:=[(0,.agg #[.int .i64 C.cars,.slice A1 C.arts.length c1,.int .i64 C.win,.int .i64 C.sec,.int .i64 C.fee,.int .i64 C.price]),(1,.slice A acts.length c),(2,.int .i64 k),(3,.int .i64 min)]) ?_ ?_
  · refine ((((Has.nil ?_ ?_).cons ?_).cons ?_).cons ?_).cons ?_
    all_goals first | rfl | (simp [Act.eval];done)
  intro _ hf;refine wp_seq_k ?_;intro _ _;refine wp_region_lit ?_;refine a_box hf rfl rfl rfl rfl ?_;clear hf;intro _ hf;refine a_assign hf rfl rfl rfl ?_;clear hf;intro _ hf;refine wpList_nil ?_;simp only [Exit.then,Exit.inBlock];go_step
  change Code.wp _ _ _ _ (w.alloc (.cells #[.int .i64 C.cars,.slice A1 C.arts.length c1,.int .i64 C.win,.int .i64 C.sec,.int .i64 C.fee,.int .i64 C.price] 33))
  generalize (w.alloc (.cells #[.int .i64 C.cars,.slice A1 C.arts.length c1,.int .i64 C.win,.int .i64 C.sec,.int .i64 C.fee,.int .i64 C.price] 33)) = W0 at *
  refine wp_seq_k ?_;intro _ _;refine wp_region_lit ?_;refine a_move hf rfl rfl rfl ?_;clear hf;intro _ hf;refine a_call1 hf e27 rfl rfl rfl ?_;clear hf;refine (refProtests_any A c acts _ (HR.out.below hB) hna).mono ?_;rintro _ w2 ⟨A9,c9,rfl,hc9,hpr,hb⟩;replace h3:=(hb.block _ (blk_lt h3)).trans h3;replace hB:=bel_then hB hb;clear hb;intro _ hf;refine a_assign hf rfl rfl rfl ?_;clear hf;intro _ hf;refine wpList_nil ?_;simp only [Exit.then,Exit.inBlock];go_step;refine wp_seq_k ?_;intro _ _;refine wp_seq_k ?_;intro _ _
  by_cases hin : inCase acts k
  · have hk0:=hin.1
    have hk1:=hin.2;have hib : inB k 0 (((protGo acts 0).length : Int) - 1) = true:=by unfold inB;simp;omega
    obtain ⟨kk,hkk⟩ : ∃ kk : Nat,k = kk:=⟨k.toNat,by omega⟩
    obtain ⟨pi,hpi⟩:=get_some (l:=protGo acts 0) (k:=kk) (by omega)
    obtain ⟨p,x,hpx,hx,_⟩:=prot_at acts 0 kk pi hpi
    have hpi' : pi = (p : Int):=by omega
    subst hpi'
    have hxa : protAct acts k = x:=by unfold protAct;rw [hkk,Int.toNat_natCast,hpi];exact actAt_some rfl hx
    have hxl:=(List.getElem?_eq_some_iff.1 hx).1;have hkl:=(List.getElem?_eq_some_iff.1 hpi).1;have hxm:=HM.out x (List.mem_of_getElem? hx)
    obtain ⟨pd,rfl,_,hpc⟩:=hpr kk _ hpi
    obtain ⟨ad,B9,d9,rfl,_,ha⟩:=(HR.out.below hB) _ x hx
    have g1:=ha.2.1;clear ha hpi hx hpx hpr
    by_cases hlt : min < x.minute
    · have HE:=Aside.mk (show refSt C acts k min = 0 by simp [refSt,hin,hxa,hlt])
      refine wp_region_lit ?_;refine a_move hf rfl rfl rfl ?_;clear hf;intro _ hf;refine a_move hf rfl rfl rfl ?_;clear hf;intro _ hf;refine a_len hf rfl rfl rfl rfl ?_;clear hf;intro _ hf;refine a_ar hf rfl rfl rfl rfl (by (try dsimp only);omega) rfl ?_;clear hf;intro _ hf;refine a_call3 hf e55 rfl rfl rfl rfl rfl ?_;clear hf;refine (in_as k 0 (((protGo acts 0).length : Int) - 1) true hib _).mono ?_;rintro _ _ ⟨rfl,rfl⟩;intro _ hf;refine a_not_ hf rfl rfl rfl ?_;clear hf;intro _ hf;refine a_move hf rfl rfl rfl ?_;clear hf;intro _ hf
      (first | refine a_not hf rfl rfl rfl ?_ | refine a_move hf rfl rfl rfl ?_);clear hf;intro _ hf
      (first | refine a_not hf rfl rfl rfl ?_ | refine a_move hf rfl rfl rfl ?_);clear hf;intro _ hf
      (first | refine a_not hf rfl rfl rfl ?_ | refine a_move hf rfl rfl rfl ?_);clear hf;intro _ hf
      refine a_index (j:=kk) hf rfl rfl rfl rfl (by omega) (by omega) rfl ?_;clear hf;intro _ hf;refine a_load hf rfl rfl rfl (by rw [Nat.mul_one];exact hpc) rfl ?_;clear hf;intro _ hf;refine a_index (j:=p) hf rfl rfl rfl rfl (by omega) (by omega) rfl ?_;clear hf;intro _ hf
      (first | refine a_not hf rfl rfl rfl ?_ | refine a_field hf rfl rfl rfl rfl ?_);clear hf;intro _ hf
      (first | refine a_not hf rfl rfl rfl ?_ | refine a_load hf rfl rfl rfl (by exact g1) rfl ?_);clear hf;intro _ hf
      (first | refine a_not hf rfl rfl rfl ?_ | refine a_move hf rfl rfl rfl ?_);clear hf;intro _ hf
      (first | refine a_not hf rfl rfl rfl ?_ | refine a_cmp (b:=true) hf rfl rfl rfl rfl rfl (by first | assumption | ((try dsimp only);simp only [bq1,bq2,bq3,bq4,bq5,bq6,bq7] <;> omega)) rfl ?_);clear hf;intro _ hf
      (first | refine a_pickT hf rfl rfl rfl rfl ?_ | refine a_pickF hf rfl rfl rfl rfl ?_);clear hf;intro _ hf
      refine wpList_nil ?_;simp only [Exit.then,Exit.inBlock];go_step;refine c_condT hf rfl ?_;refine wp_seq_k ?_;intro _ _;refine wp_region_lit ?_;refine a_assign hf rfl rfl rfl ?_;clear hf;intro _ hf;refine wpList_nil ?_;simp only [Exit.then,Exit.inBlock];go_step;refine wp_ret ?_
      try simp only [Exit.then,Exit.inBlock]
      exact c_ret hf rfl rfl ⟨ret_eq (by rw [HE.out]),hB⟩
    have HC:=Aside.mk (show refSt C acts k min = coreSt C acts k min by simp [refSt,hin,hxa,hlt]);refine wp_region_lit ?_;refine a_move hf rfl rfl rfl ?_;clear hf;intro _ hf;refine a_move hf rfl rfl rfl ?_;clear hf;intro _ hf;refine a_len hf rfl rfl rfl rfl ?_;clear hf;intro _ hf;refine a_ar hf rfl rfl rfl rfl (by (try dsimp only);omega) rfl ?_;clear hf;intro _ hf;refine a_call3 hf e55 rfl rfl rfl rfl rfl ?_;clear hf;refine (in_as k 0 (((protGo acts 0).length : Int) - 1) true hib _).mono ?_;rintro _ _ ⟨rfl,rfl⟩;intro _ hf;refine a_not_ hf rfl rfl rfl ?_;clear hf;intro _ hf;refine a_move hf rfl rfl rfl ?_;clear hf;intro _ hf
    (first | refine a_not hf rfl rfl rfl ?_ | refine a_move hf rfl rfl rfl ?_);clear hf;intro _ hf
    (first | refine a_not hf rfl rfl rfl ?_ | refine a_move hf rfl rfl rfl ?_);clear hf;intro _ hf
    (first | refine a_not hf rfl rfl rfl ?_ | refine a_move hf rfl rfl rfl ?_);clear hf;intro _ hf
    refine a_index (j:=kk) hf rfl rfl rfl rfl (by omega) (by omega) rfl ?_;clear hf;intro _ hf;refine a_load hf rfl rfl rfl (by rw [Nat.mul_one];exact hpc) rfl ?_;clear hf;intro _ hf;refine a_index (j:=p) hf rfl rfl rfl rfl (by omega) (by omega) rfl ?_;clear hf;intro _ hf
    (first | refine a_not hf rfl rfl rfl ?_ | refine a_field hf rfl rfl rfl rfl ?_);clear hf;intro _ hf
    (first | refine a_not hf rfl rfl rfl ?_ | refine a_load hf rfl rfl rfl (by exact g1) rfl ?_);clear hf;intro _ hf
    (first | refine a_not hf rfl rfl rfl ?_ | refine a_move hf rfl rfl rfl ?_);clear hf;intro _ hf
    (first | refine a_not hf rfl rfl rfl ?_ | refine a_cmp (b:=false) hf rfl rfl rfl rfl rfl (by first | assumption | ((try dsimp only);simp only [bq1,bq2,bq3,bq4,bq5,bq6,bq7] <;> omega)) rfl ?_);clear hf;intro _ hf
    (first | refine a_pickT hf rfl rfl rfl rfl ?_ | refine a_pickF hf rfl rfl rfl rfl ?_);clear hf;intro _ hf
    refine wpList_nil ?_;simp only [Exit.then,Exit.inBlock];go_step;refine c_condF hf rfl ?_;refine wp_skip ?_;simp only [Exit.then,Exit.inBlock];go_step;clear hpc g1;refine wp_seq_k ?_;intro _ _;refine wp_seq_k ?_;intro _ _
    by_cases q6 : 0 ≤ lastR 6 k min acts
    · have HE:=Aside.mk (show refSt C acts k min = 2 by rw [HC.out];simp [coreSt,q6])
      refine wp_region_lit ?_;refine a_move hf rfl rfl rfl ?_;clear hf;intro _ hf;refine a_move hf rfl rfl rfl ?_;clear hf;intro _ hf;refine a_move hf rfl rfl rfl ?_;clear hf;intro _ hf;refine a_call4 hf e59 rfl rfl rfl rfl rfl rfl ?_;clear hf;refine (refLast_as (some ad) c acts 6 k min _ (HR.out.below hB) hna).mono ?_;rintro _ w2 ⟨rfl,hb⟩;replace h3:=(hb.block _ (blk_lt h3)).trans h3;replace hB:=bel_then hB hb;clear hb;intro _ hf;refine a_cmp (b:=true) hf rfl rfl rfl rfl rfl (by first | assumption | ((try dsimp only);simp only [bq1,bq2,bq3,bq4,bq5,bq6,bq7] <;> omega)) rfl ?_;clear hf;intro _ hf;refine wpList_nil ?_;simp only [Exit.then,Exit.inBlock];go_step;refine c_condT hf rfl ?_;refine wp_seq_k ?_;intro _ _;refine wp_region_lit ?_;refine a_assign hf rfl rfl rfl ?_;clear hf;intro _ hf;refine wpList_nil ?_;simp only [Exit.then,Exit.inBlock];go_step;refine wp_ret ?_
      try simp only [Exit.then,Exit.inBlock]
      exact c_ret hf rfl rfl ⟨ret_eq (by rw [HE.out]),hB⟩
    refine wp_region_lit ?_;refine a_move hf rfl rfl rfl ?_;clear hf;intro _ hf;refine a_move hf rfl rfl rfl ?_;clear hf;intro _ hf;refine a_move hf rfl rfl rfl ?_;clear hf;intro _ hf;refine a_call4 hf e59 rfl rfl rfl rfl rfl rfl ?_;clear hf;refine (refLast_as (some ad) c acts 6 k min _ (HR.out.below hB) hna).mono ?_;rintro _ w2 ⟨rfl,hb⟩;replace h3:=(hb.block _ (blk_lt h3)).trans h3;replace hB:=bel_then hB hb;clear hb;intro _ hf;refine a_cmp (b:=false) hf rfl rfl rfl rfl rfl (by first | assumption | ((try dsimp only);simp only [bq1,bq2,bq3,bq4,bq5,bq6,bq7] <;> omega)) rfl ?_;clear hf;intro _ hf;refine wpList_nil ?_;simp only [Exit.then,Exit.inBlock];go_step;refine c_condF hf rfl ?_;refine wp_skip ?_;simp only [Exit.then,Exit.inBlock];go_step;refine wp_seq_k ?_;intro _ _;refine wp_seq_k ?_;intro _ _
    by_cases q5 : 0 ≤ lastR 5 k min acts
    · have HE:=Aside.mk (show refSt C acts k min = 5 by rw [HC.out];simp [coreSt,q6,q5])
      refine wp_region_lit ?_;refine a_move hf rfl rfl rfl ?_;clear hf;intro _ hf;refine a_move hf rfl rfl rfl ?_;clear hf;intro _ hf;refine a_move hf rfl rfl rfl ?_;clear hf;intro _ hf;refine a_call4 hf e59 rfl rfl rfl rfl rfl rfl ?_;clear hf;refine (refLast_as (some ad) c acts 5 k min _ (HR.out.below hB) hna).mono ?_;rintro _ w2 ⟨rfl,hb⟩;replace h3:=(hb.block _ (blk_lt h3)).trans h3;replace hB:=bel_then hB hb;clear hb;intro _ hf;refine a_cmp (b:=true) hf rfl rfl rfl rfl rfl (by first | assumption | ((try dsimp only);simp only [bq1,bq2,bq3,bq4,bq5,bq6,bq7] <;> omega)) rfl ?_;clear hf;intro _ hf;refine wpList_nil ?_;simp only [Exit.then,Exit.inBlock];go_step;refine c_condT hf rfl ?_;refine wp_seq_k ?_;intro _ _;refine wp_region_lit ?_;refine a_assign hf rfl rfl rfl ?_;clear hf;intro _ hf;refine wpList_nil ?_;simp only [Exit.then,Exit.inBlock];go_step;refine wp_ret ?_
      try simp only [Exit.then,Exit.inBlock]
      exact c_ret hf rfl rfl ⟨ret_eq (by rw [HE.out]),hB⟩
    refine wp_region_lit ?_;refine a_move hf rfl rfl rfl ?_;clear hf;intro _ hf;refine a_move hf rfl rfl rfl ?_;clear hf;intro _ hf;refine a_move hf rfl rfl rfl ?_;clear hf;intro _ hf;refine a_call4 hf e59 rfl rfl rfl rfl rfl rfl ?_;clear hf;refine (refLast_as (some ad) c acts 5 k min _ (HR.out.below hB) hna).mono ?_;rintro _ w2 ⟨rfl,hb⟩;replace h3:=(hb.block _ (blk_lt h3)).trans h3;replace hB:=bel_then hB hb;clear hb;intro _ hf;refine a_cmp (b:=false) hf rfl rfl rfl rfl rfl (by first | assumption | ((try dsimp only);simp only [bq1,bq2,bq3,bq4,bq5,bq6,bq7] <;> omega)) rfl ?_;clear hf;intro _ hf;refine wpList_nil ?_;simp only [Exit.then,Exit.inBlock];go_step;refine c_condF hf rfl ?_;refine wp_skip ?_;simp only [Exit.then,Exit.inBlock];go_step;refine wp_seq_k ?_;intro _ _;refine wp_seq_k ?_;intro _ _
    by_cases q4 : 0 ≤ lastR 4 k min acts
    · have HE:=Aside.mk (show refSt C acts k min = 4 by rw [HC.out];simp [coreSt,q6,q5,q4])
      refine wp_region_lit ?_;refine a_move hf rfl rfl rfl ?_;clear hf;intro _ hf;refine a_move hf rfl rfl rfl ?_;clear hf;intro _ hf;refine a_move hf rfl rfl rfl ?_;clear hf;intro _ hf;refine a_call4 hf e59 rfl rfl rfl rfl rfl rfl ?_;clear hf;refine (refLast_as (some ad) c acts 4 k min _ (HR.out.below hB) hna).mono ?_;rintro _ w2 ⟨rfl,hb⟩;replace h3:=(hb.block _ (blk_lt h3)).trans h3;replace hB:=bel_then hB hb;clear hb;intro _ hf;refine a_cmp (b:=true) hf rfl rfl rfl rfl rfl (by first | assumption | ((try dsimp only);simp only [bq1,bq2,bq3,bq4,bq5,bq6,bq7] <;> omega)) rfl ?_;clear hf;intro _ hf;refine wpList_nil ?_;simp only [Exit.then,Exit.inBlock];go_step;refine c_condT hf rfl ?_;refine wp_seq_k ?_;intro _ _;refine wp_region_lit ?_;refine a_assign hf rfl rfl rfl ?_;clear hf;intro _ hf;refine wpList_nil ?_;simp only [Exit.then,Exit.inBlock];go_step;refine wp_ret ?_
      try simp only [Exit.then,Exit.inBlock]
      exact c_ret hf rfl rfl ⟨ret_eq (by rw [HE.out]),hB⟩
    refine wp_region_lit ?_;refine a_move hf rfl rfl rfl ?_;clear hf;intro _ hf;refine a_move hf rfl rfl rfl ?_;clear hf;intro _ hf;refine a_move hf rfl rfl rfl ?_;clear hf;intro _ hf;refine a_call4 hf e59 rfl rfl rfl rfl rfl rfl ?_;clear hf;refine (refLast_as (some ad) c acts 4 k min _ (HR.out.below hB) hna).mono ?_;rintro _ w2 ⟨rfl,hb⟩;replace h3:=(hb.block _ (blk_lt h3)).trans h3;replace hB:=bel_then hB hb;clear hb;intro _ hf;refine a_cmp (b:=false) hf rfl rfl rfl rfl rfl (by first | assumption | ((try dsimp only);simp only [bq1,bq2,bq3,bq4,bq5,bq6,bq7] <;> omega)) rfl ?_;clear hf;intro _ hf;refine wpList_nil ?_;simp only [Exit.then,Exit.inBlock];go_step;refine c_condF hf rfl ?_;refine wp_skip ?_;simp only [Exit.then,Exit.inBlock];go_step;refine wp_seq_k ?_;intro _ _;refine wp_region_lit ?_;refine a_move hf rfl rfl rfl ?_;clear hf;intro _ hf;refine a_move hf rfl rfl rfl ?_;clear hf;intro _ hf;refine a_move hf rfl rfl rfl ?_;clear hf;intro _ hf;refine a_call4 hf e59 rfl rfl rfl rfl rfl rfl ?_;clear hf;refine (refLast_as (some ad) c acts 3 k min _ (HR.out.below hB) hna).mono ?_;rintro _ w2 ⟨rfl,hb⟩;replace h3:=(hb.block _ (blk_lt h3)).trans h3;replace hB:=bel_then hB hb;clear hb;intro _ hf;refine a_assign hf rfl rfl rfl ?_;clear hf;intro _ hf;refine wpList_nil ?_;simp only [Exit.then,Exit.inBlock];go_step
    obtain ⟨l3,hl3⟩ : ∃ l,lastR 3 k min acts = l:=⟨_,rfl⟩
    rw [hl3] at hf;replace hf : Has 62 [] [(10,.int .i64 l3),(1,.slice (some ad) acts.length c),(2,.int .i64 k),(3,.int .i64 min),(4,.pointer (some ⟨w.heap.size,0,none⟩))] _:=((((hf.nilOf.cons (hf.at_ 4 _ rfl)).cons (hf.at_ 3 _ rfl)).cons (hf.at_ 2 _ rfl)).cons (hf.at_ 1 _ rfl)).cons (hf.at_ 10 _ rfl);refine wp_seq_k ?_;intro _ _;refine wp_seq_k ?_;intro _ _
    by_cases e3 : l3 < 0
    · have HE:=Aside.mk (show refSt C acts k min = 1 by rw [HC.out];simp [coreSt,q6,q5,q4,hl3,e3])
      refine wp_region_lit ?_;refine a_move hf rfl rfl rfl ?_;clear hf;intro _ hf;refine a_cmp (b:=true) hf rfl rfl rfl rfl rfl (by first | assumption | ((try dsimp only);simp only [bq1,bq2,bq3,bq4,bq5,bq6,bq7] <;> omega)) rfl ?_;clear hf;intro _ hf;refine wpList_nil ?_;simp only [Exit.then,Exit.inBlock];go_step;refine c_condT hf rfl ?_;refine wp_seq_k ?_;intro _ _;refine wp_region_lit ?_;refine a_assign hf rfl rfl rfl ?_;clear hf;intro _ hf;refine wpList_nil ?_;simp only [Exit.then,Exit.inBlock];go_step;refine wp_ret ?_
      try simp only [Exit.then,Exit.inBlock]
      exact c_ret hf rfl rfl ⟨ret_eq (by rw [HE.out]),hB⟩
    refine wp_region_lit ?_;refine a_move hf rfl rfl rfl ?_;clear hf;intro _ hf;refine a_cmp (b:=false) hf rfl rfl rfl rfl rfl (by first | assumption | ((try dsimp only);simp only [bq1,bq2,bq3,bq4,bq5,bq6,bq7] <;> omega)) rfl ?_;clear hf;intro _ hf;refine wpList_nil ?_;simp only [Exit.then,Exit.inBlock];go_step;refine c_condF hf rfl ?_;refine wp_skip ?_;simp only [Exit.then,Exit.inBlock];go_step
    obtain ⟨ln,y,hy,hln⟩ : ∃ (ln : Nat) (y : ActL),acts[ln]? = some y ∧ l3 = ln:=by
      rcases lastGo_spec 3 k min acts 0 (-1) with ⟨h1,_⟩ | ⟨jj,y,h1,_,h2⟩
      · unfold lastR at hl3;omega
      · unfold lastR at hl3;exact ⟨jj,y,h1,by omega⟩
    have hym:=HM.out y (List.mem_of_getElem? hy);have hya:=actAt_some (i:=l3) hln hy;have hyl:=(List.getElem?_eq_some_iff.1 hy).1
    obtain ⟨_,B9',d9',he',_,ha⟩:=(HR.out.below hB) _ y hy
    cases he'
    have g1:=ha.2.1;clear ha;refine wp_seq_k ?_;intro _ _;refine wp_seq_k ?_;intro _ _
    by_cases qs : C.sec < min - y.minute
    · have HE:=Aside.mk (show refSt C acts k min = 5 by rw [HC.out];simp [coreSt,q6,q5,q4,hl3,e3,hya,qs])
      refine r_quiet (n:=62) (ds:=[]) (ls:=[(10,.int .i64 l3),(1,.slice (some ad) acts.length c),(2,.int .i64 k),(3,.int .i64 min),(4,.pointer (some ⟨w.heap.size,0,none⟩))]) (Below _ _) (by kernel_rfl) (by kernel_rfl) (bel_drew (Below.refl _ _)) (((((hf.nilOf.cons (hf.at_ 4 _ rfl)).cons (hf.at_ 3 _ rfl)).cons (hf.at_ 2 _ rfl)).cons (hf.at_ 1 _ rfl)).cons (hf.at_ 10 _ rfl)) ?_;clear hf;intro _ hf;refine q_move hf rfl rfl rfl ?_;clear hf;intro _ hf;refine q_move hf rfl rfl rfl ?_;clear hf;intro _ hf;refine q_move hf rfl rfl rfl ?_;clear hf;intro _ hf;refine q_index (j:=ln) hf rfl rfl rfl rfl (by omega) (by omega) rfl ?_;clear hf;intro _ hf;refine q_field hf rfl rfl rfl rfl ?_;clear hf;intro _ hf;refine q_load hf rfl rfl rfl (by exact fun w' hw' => (hw'.cell (p:=⟨(ad.add (ln * 12)).block,(ad.add (ln * 12)).off + 1,none⟩) (lt_of_cell g1)).trans g1) rfl ?_;clear hf;intro _ hf;refine q_ar hf rfl rfl rfl rfl (by (try dsimp only);omega) rfl ?_;clear hf;intro _ hf;refine q_field hf rfl rfl rfl rfl ?_;clear hf;intro _ hf;refine q_load hf rfl rfl rfl (by exact fun w' hw' => blk_cell ((hw'.block _ (blk_lt h3)).trans h3) 3) rfl ?_;clear hf;intro _ hf;refine q_cmp (b:=true) hf rfl rfl rfl rfl rfl (by first | assumption | ((try dsimp only);simp only [bq1,bq2,bq3,bq4,bq5,bq6,bq7] <;> omega)) rfl ?_;clear hf;intro _ hf;refine q_nil ?_;intro w9 hw9;simp only [Exit.then,Exit.inBlock];replace hB:=bel_then hB hw9;go_step;refine c_condT hf rfl ?_;refine wp_seq_k ?_;intro _ _;refine wp_region_lit ?_;refine a_assign hf rfl rfl rfl ?_;clear hf;intro _ hf;refine wpList_nil ?_;simp only [Exit.then,Exit.inBlock];go_step;refine wp_ret ?_
      try simp only [Exit.then,Exit.inBlock]
      exact c_ret hf rfl rfl ⟨ret_eq (by rw [HE.out]),hB⟩
    have HE:=Aside.mk (show refSt C acts k min = 3 by rw [HC.out];simp [coreSt,q6,q5,q4,hl3,e3,hya,qs]);refine r_quiet (n:=62) (ds:=[]) (ls:=[(10,.int .i64 l3),(1,.slice (some ad) acts.length c),(2,.int .i64 k),(3,.int .i64 min),(4,.pointer (some ⟨w.heap.size,0,none⟩))]) (Below _ _) (by kernel_rfl) (by kernel_rfl) (bel_drew (Below.refl _ _)) (((((hf.nilOf.cons (hf.at_ 4 _ rfl)).cons (hf.at_ 3 _ rfl)).cons (hf.at_ 2 _ rfl)).cons (hf.at_ 1 _ rfl)).cons (hf.at_ 10 _ rfl)) ?_;clear hf;intro _ hf;refine q_move hf rfl rfl rfl ?_;clear hf;intro _ hf;refine q_move hf rfl rfl rfl ?_;clear hf;intro _ hf;refine q_move hf rfl rfl rfl ?_;clear hf;intro _ hf;refine q_index (j:=ln) hf rfl rfl rfl rfl (by omega) (by omega) rfl ?_;clear hf;intro _ hf;refine q_field hf rfl rfl rfl rfl ?_;clear hf;intro _ hf;refine q_load hf rfl rfl rfl (by exact fun w' hw' => (hw'.cell (p:=⟨(ad.add (ln * 12)).block,(ad.add (ln * 12)).off + 1,none⟩) (lt_of_cell g1)).trans g1) rfl ?_;clear hf;intro _ hf;refine q_ar hf rfl rfl rfl rfl (by (try dsimp only);omega) rfl ?_;clear hf;intro _ hf;refine q_field hf rfl rfl rfl rfl ?_;clear hf;intro _ hf;refine q_load hf rfl rfl rfl (by exact fun w' hw' => blk_cell ((hw'.block _ (blk_lt h3)).trans h3) 3) rfl ?_;clear hf;intro _ hf;refine q_cmp (b:=false) hf rfl rfl rfl rfl rfl (by first | assumption | ((try dsimp only);simp only [bq1,bq2,bq3,bq4,bq5,bq6,bq7] <;> omega)) rfl ?_;clear hf;intro _ hf;refine q_nil ?_;intro w9 hw9;simp only [Exit.then,Exit.inBlock];replace hB:=bel_then hB hw9;go_step;refine c_condF hf rfl ?_;refine wp_skip ?_;simp only [Exit.then,Exit.inBlock];go_step;refine wp_seq_k ?_;intro _ _;refine wp_region_lit ?_;refine a_assign hf rfl rfl rfl ?_;clear hf;intro _ hf;refine wpList_nil ?_;simp only [Exit.then,Exit.inBlock];go_step;refine wp_ret ?_
    try simp only [Exit.then,Exit.inBlock]
    exact c_ret hf rfl rfl ⟨ret_eq (by rw [HE.out]),hB⟩
  have hib : inB k 0 (((protGo acts 0).length : Int) - 1) = false:=by unfold inB;unfold inCase at hin;by_cases h0 : 0 ≤ k <;> simp [h0] <;> omega
  have HE:=Aside.mk (show refSt C acts k min = 0 by simp [refSt,hin]);refine wp_region_lit ?_;refine a_move hf rfl rfl rfl ?_;clear hf;intro _ hf;refine a_move hf rfl rfl rfl ?_;clear hf;intro _ hf;refine a_len hf rfl rfl rfl rfl ?_;clear hf;intro _ hf;refine a_ar hf rfl rfl rfl rfl (by (try dsimp only);omega) rfl ?_;clear hf;intro _ hf;refine a_call3 hf e55 rfl rfl rfl rfl rfl ?_;clear hf;refine (in_as k 0 (((protGo acts 0).length : Int) - 1) false hib _).mono ?_;rintro _ _ ⟨rfl,rfl⟩;intro _ hf;refine a_not_ hf rfl rfl rfl ?_;clear hf;intro _ hf;refine a_move hf rfl rfl rfl ?_;clear hf;intro _ hf
  (first | refine a_not hf rfl rfl rfl ?_ | refine a_move hf rfl rfl rfl ?_);clear hf;intro _ hf
  (first | refine a_not hf rfl rfl rfl ?_ | refine a_move hf rfl rfl rfl ?_);clear hf;intro _ hf
  (first | refine a_not hf rfl rfl rfl ?_ | refine a_move hf rfl rfl rfl ?_);clear hf;intro _ hf
  refine a_not hf rfl rfl rfl ?_;clear hf;intro _ hf;refine a_not hf rfl rfl rfl ?_;clear hf;intro _ hf;refine a_not hf rfl rfl rfl ?_;clear hf;intro _ hf
  (first | refine a_not hf rfl rfl rfl ?_ | refine a_field hf rfl rfl rfl rfl ?_);clear hf;intro _ hf
  (first | refine a_not hf rfl rfl rfl ?_ | refine a_load hf rfl rfl rfl (by assumption) rfl ?_);clear hf;intro _ hf
  (first | refine a_not hf rfl rfl rfl ?_ | refine a_move hf rfl rfl rfl ?_);clear hf;intro _ hf
  (first | refine a_not hf rfl rfl rfl ?_ | refine a_cmp hf rfl rfl rfl rfl rfl rfl rfl ?_);clear hf;intro _ hf
  (first | refine a_pickT hf rfl rfl rfl rfl ?_ | refine a_pickF hf rfl rfl rfl rfl ?_);clear hf;intro _ hf
  refine wpList_nil ?_;simp only [Exit.then,Exit.inBlock];go_step;refine c_condT hf rfl ?_;refine wp_seq_k ?_;intro _ _;refine wp_region_lit ?_;refine a_assign hf rfl rfl rfl ?_;clear hf;intro _ hf;refine wpList_nil ?_;simp only [Exit.then,Exit.inBlock];go_step;refine wp_ret ?_
  try simp only [Exit.then,Exit.inBlock]
  exact c_ret hf rfl rfl ⟨ret_eq (by rw [HE.out]),hB⟩
theorem refSt_dec {C : CodeL} {acts : List ActL} {k min s : Int} (hs : refSt C acts k min = s) (h : s = 3 ∨ s = 5) : ∃ (j : Nat) (y : ActL),acts[j]? = some y ∧ refDec acts k min = j:=by
  have a3:=lastR_lt 3 k min acts;have a5:=lastR_lt 5 k min acts
  have hd : 0 ≤ refDec acts k min:=by
    unfold refSt at hs
    split at hs
    · split at hs
      · omega
      · unfold coreSt at hs
        unfold refDec
        split at hs
        · omega
        · split at hs
          · split <;> omega
          · split at hs
            · omega
            · split at hs
              · omega
              · split <;> omega
    · omega
  have hl : refDec acts k min < acts.length:=by unfold refDec;split <;> omega
  obtain ⟨y,hy⟩:=get_some (l:=acts) (k:=(refDec acts k min).toNat) (by omega)
  exact ⟨_,y,hy,by omega⟩
theorem refState_as (C : CodeL) (A1 : Option Addr) (c1 : Nat) (acts : List ActL) (A : Option Addr) (c : Nat) (k min s : Int) (hs : refSt C acts k min = s) (w : World) (hr : RAct Any w A acts) (hna : acts.length ≤ 1000000) (hmin : ∀ x ∈ acts, 0 ≤ x.minute ∧ x.minute ≤ 10000000) (hm0 : 0 ≤ min) (hm1 : min ≤ 10000000) :
    Calls Try.prog 33 #[.agg #[.int .i64 C.cars,.slice A1 C.arts.length c1,.int .i64 C.win,.int .i64 C.sec,.int .i64 C.fee,.int .i64 C.price],.slice A acts.length c,.int .i64 k,.int .i64 min] w fun e w' => e = .returned (.int .i64 s) ∧ Below w.heap.size w w':=by
  subst hs
  exact refState_any C A1 c1 acts A c k min w hr hna hmin hm0 hm1
set_option maxHeartbeats 4000000 in
set_option maxRecDepth 100000 in
theorem refForce_any (C : CodeL) (A1 : Option Addr) (c1 : Nat) (acts : List ActL) (A : Option Addr) (c : Nat) (k min : Int) (w : World) (hr : RAct Any w A acts) (hna : acts.length ≤ 1000000) (hmin : ∀ x ∈ acts, 0 ≤ x.minute ∧ x.minute ≤ 10000000) (hm0 : 0 ≤ min) (hm1 : min ≤ 10000000) :
    Calls Try.prog 78 #[.agg #[.int .i64 C.cars,.slice A1 C.arts.length c1,.int .i64 C.win,.int .i64 C.sec,.int .i64 C.fee,.int .i64 C.price],.slice A acts.length c,.int .i64 k,.int .i64 min] w fun e w' => e = .returned (.tuple #[.int .i64 (refForce C acts k min).1,.bool (refForce C acts k min).2]) ∧ Below w.heap.size w w':=by
  have HR:=Aside.mk hr;have HM:=Aside.mk hmin;have h3 : (w.alloc (.cells #[.int .i64 C.cars,.slice A1 C.arts.length c1,.int .i64 C.win,.int .i64 C.sec,.int .i64 C.fee,.int .i64 C.price] 33)).heap[w.heap.size]? = some (.cells #[.int .i64 C.cars,.slice A1 C.arts.length c1,.int .i64 C.win,.int .i64 C.sec,.int .i64 C.fee,.int .i64 C.price] 33 (0,0)):=heap_alloc_new w _;have hB : Below w.heap.size w (w.alloc (.cells #[.int .i64 C.cars,.slice A1 C.arts.length c1,.int .i64 C.win,.int .i64 C.sec,.int .i64 C.fee,.int .i64 C.price] 33)):=bel_alloc (Below.refl _ _) _
  obtain ⟨s,hs⟩ : ∃ s,refSt C acts k min = s:=⟨_,rfl⟩
  clear hr hmin
  go_enter Try.func78,Try.ntmps78
  refine wp_abs (n:=34) (ds:=[]) (l:=[(0,.agg #[.int .i64 C.cars,.slice A1 C.arts.length c1,.int .i64 C.win,.int .i64 C.sec,.int .i64 C.fee,.int .i64 C.price]),(1,.slice A acts.length c),(2,.int .i64 k),(3,.int .i64 min)]) ?_ ?_
  · refine ((((Has.nil ?_ ?_).cons ?_).cons ?_).cons ?_).cons ?_
    all_goals first | rfl | (simp [Act.eval];done)
  intro _ hf;refine wp_seq_k ?_;intro _ _;refine wp_region_lit ?_;refine a_box hf rfl rfl rfl rfl ?_;clear hf;intro _ hf;refine a_assign hf rfl rfl rfl ?_;clear hf;intro _ hf;refine a_assign hf rfl rfl rfl ?_;clear hf;intro _ hf;refine wpList_nil ?_;simp only [Exit.then,Exit.inBlock];go_step
  change Code.wp _ _ _ _ (w.alloc (.cells #[.int .i64 C.cars,.slice A1 C.arts.length c1,.int .i64 C.win,.int .i64 C.sec,.int .i64 C.fee,.int .i64 C.price] 33))
  generalize (w.alloc (.cells #[.int .i64 C.cars,.slice A1 C.arts.length c1,.int .i64 C.win,.int .i64 C.sec,.int .i64 C.fee,.int .i64 C.price] 33)) = W0 at *
  refine wp_seq_k ?_;intro _ _;refine wp_region_lit ?_;refine a_load33b hf rfl rfl (by exact h3) rfl ?_;clear hf;intro _ hf;refine a_move hf rfl rfl rfl ?_;clear hf;intro _ hf;refine a_move hf rfl rfl rfl ?_;clear hf;intro _ hf;refine a_move hf rfl rfl rfl ?_;clear hf;intro _ hf;refine a_call4 hf e33 rfl rfl rfl rfl rfl rfl ?_;clear hf;refine (refState_as C A1 c1 acts A c k min s hs _ (HR.out.below hB) hna HM.out hm0 hm1).mono ?_;rintro _ w2 ⟨rfl,hb⟩;replace h3:=(hb.block _ (blk_lt h3)).trans h3;replace hB:=bel_then hB hb;clear hb;intro _ hf;refine a_assign hf rfl rfl rfl ?_;clear hf;intro _ hf;refine wpList_nil ?_;simp only [Exit.then,Exit.inBlock];go_step;refine wp_seq_k ?_;intro _ _;refine wp_seq_k ?_;intro _ _;refine c_cut (fun a' w' => Has 34 [] [(22,.bool (decide (s ≠ 3 ∧ s ≠ 5))),(1,.slice A acts.length c),(2,.int .i64 k),(3,.int .i64 min),(4,.pointer (some ⟨w.heap.size,0,none⟩))] a' ∧ w2 = w') ?_ ?_
  · by_cases q3 : s = 3
    · refine wp_region_lit ?_
      refine a_move hf rfl rfl rfl ?_;clear hf;intro _ hf;refine a_cmp52 (b:=false) hf rfl rfl rfl rfl (by first | assumption | ((try dsimp only);simp only [bq1,bq2,bq3,bq4,bq5,bq6,bq7] <;> omega)) rfl ?_;clear hf;intro _ hf;refine a_move hf rfl rfl rfl ?_;clear hf;intro _ hf
      (first | refine a_not hf rfl rfl rfl ?_ | refine a_move hf rfl rfl rfl ?_);clear hf;intro _ hf
      (first | refine a_not hf rfl rfl rfl ?_ | refine a_cmp52 hf rfl rfl rfl rfl rfl rfl ?_);clear hf;intro _ hf
      (first | refine a_pickT hf rfl rfl rfl rfl ?_ | refine a_pickF hf rfl rfl rfl rfl ?_);clear hf;intro _ hf
      refine wpList_nil ?_;exact ⟨rfl,((((hf.nilOf.cons (hf.at_ 4 _ rfl)).cons (hf.at_ 3 _ rfl)).cons (hf.at_ 2 _ rfl)).cons (hf.at_ 1 _ rfl)).cons (d:=22) ((hf.at_ 22 _ rfl).trans (by rw [show decide (s ≠ 3 ∧ s ≠ 5) = false from by simp [q3]])),rfl⟩
    by_cases q5 : s = 5
    · refine wp_region_lit ?_
      refine a_move hf rfl rfl rfl ?_;clear hf;intro _ hf;refine a_cmp52 (b:=true) hf rfl rfl rfl rfl (by first | assumption | ((try dsimp only);simp only [bq1,bq2,bq3,bq4,bq5,bq6,bq7] <;> omega)) rfl ?_;clear hf;intro _ hf;refine a_move hf rfl rfl rfl ?_;clear hf;intro _ hf
      (first | refine a_not hf rfl rfl rfl ?_ | refine a_move hf rfl rfl rfl ?_);clear hf;intro _ hf
      (first | refine a_not hf rfl rfl rfl ?_ | refine a_cmp52 (b:=false) hf rfl rfl rfl rfl (by first | assumption | ((try dsimp only);simp only [bq1,bq2,bq3,bq4,bq5,bq6,bq7] <;> omega)) rfl ?_);clear hf;intro _ hf
      (first | refine a_pickT hf rfl rfl rfl rfl ?_ | refine a_pickF hf rfl rfl rfl rfl ?_);clear hf;intro _ hf
      refine wpList_nil ?_;exact ⟨rfl,((((hf.nilOf.cons (hf.at_ 4 _ rfl)).cons (hf.at_ 3 _ rfl)).cons (hf.at_ 2 _ rfl)).cons (hf.at_ 1 _ rfl)).cons (d:=22) ((hf.at_ 22 _ rfl).trans (by rw [show decide (s ≠ 3 ∧ s ≠ 5) = false from by simp [q5]])),rfl⟩
    refine wp_region_lit ?_;refine a_move hf rfl rfl rfl ?_;clear hf;intro _ hf;refine a_cmp52 (b:=true) hf rfl rfl rfl rfl (by first | assumption | ((try dsimp only);simp only [bq1,bq2,bq3,bq4,bq5,bq6,bq7] <;> omega)) rfl ?_;clear hf;intro _ hf;refine a_move hf rfl rfl rfl ?_;clear hf;intro _ hf
    (first | refine a_not hf rfl rfl rfl ?_ | refine a_move hf rfl rfl rfl ?_);clear hf;intro _ hf
    (first | refine a_not hf rfl rfl rfl ?_ | refine a_cmp52 (b:=true) hf rfl rfl rfl rfl (by first | assumption | ((try dsimp only);simp only [bq1,bq2,bq3,bq4,bq5,bq6,bq7] <;> omega)) rfl ?_);clear hf;intro _ hf
    (first | refine a_pickT hf rfl rfl rfl rfl ?_ | refine a_pickF hf rfl rfl rfl rfl ?_);clear hf;intro _ hf
    refine wpList_nil ?_;exact ⟨rfl,((((hf.nilOf.cons (hf.at_ 4 _ rfl)).cons (hf.at_ 3 _ rfl)).cons (hf.at_ 2 _ rfl)).cons (hf.at_ 1 _ rfl)).cons (d:=22) ((hf.at_ 22 _ rfl).trans (by rw [show decide (s ≠ 3 ∧ s ≠ 5) = true from by simp [q3,q5]])),rfl⟩
  rintro _ _ ⟨hf,rfl⟩
  simp only [Exit.then];go_step
  by_cases hq : s = 3 ∨ s = 5
  · rw [show decide (s ≠ 3 ∧ s ≠ 5) = false from by simp;omega] at hf
    have HE:=Aside.mk (show refForce C acts k min = ((actAt acts (refDec acts k min)).pen,(actAt acts (refDec acts k min)).up) by simp [refForce,hs,hq])
    obtain ⟨dn,y,hy,hdn⟩:=refSt_dec hs hq
    have hya:=actAt_some (i:=refDec acts k min) hdn hy;have hyl:=(List.getElem?_eq_some_iff.1 hy).1
    obtain ⟨ad,B9,d9,rfl,_,ha⟩:=(HR.out.below hB) _ y hy
    have hgg : ∀ W',Below w2.heap.size w2 W' → _:=fun W' hw' => (show ActAt Any W' (ad.add (dn * 12)) y B9 d9 from ha.move (hw'.block _ (lt_of_cell ha.1)) (fun k _ hk => hw'.block k hk));clear ha;refine c_condF hf rfl ?_;refine wp_skip ?_;simp only [Exit.then,Exit.inBlock];go_step;refine wp_seq_k ?_;intro _ _;refine wp_region_lit ?_;refine a_move hf rfl rfl rfl ?_;clear hf;intro _ hf;refine a_move hf rfl rfl rfl ?_;clear hf;intro _ hf;refine a_move hf rfl rfl rfl ?_;clear hf;intro _ hf;refine a_move hf rfl rfl rfl ?_;clear hf;intro _ hf;refine a_call3 hf e102 rfl rfl rfl rfl rfl ?_;clear hf;refine (refDec_any acts (some ad) c k min _ (HR.out.below hB) hna).mono ?_;rintro _ w3 ⟨rfl,hb⟩;replace h3:=(hb.block _ (blk_lt h3)).trans h3;replace hB:=bel_then hB hb;obtain ⟨g0,g1,g2,g3,g4,g5,g6,g7,g8,g9,g10,g11,_⟩:=hgg _ hb;clear hb hgg;intro _ hf;refine a_index (j:=dn) hf rfl rfl rfl rfl (by omega) (by omega) rfl ?_;clear hf;intro _ hf;refine a_load43 hf rfl rfl (by exact g0) (by exact g1) (by exact g2) (by exact g3) (by exact g4) (by exact g5) (by exact g6) (by exact g7) (by exact g8) (by exact g9) (by exact g10) (by exact g11) rfl ?_;clear hf;intro _ hf;refine a_alloc43 hf rfl rfl ?_;clear hf;intro _ hf;refine a_store43 hf rfl rfl rfl (heap_alloc_new w3 _) rfl ?_;clear hf;intro _ w4 hf h11 hM;refine wpList_nil ?_;simp only [Exit.then,Exit.inBlock];go_step;have hb3 : Below w3.heap.size w3 w4:=bel_modG (bel_alloc (Below.refl _ _) _) hM (Nat.le_refl _);replace hB:=bel_then hB hb3;clear hM hb3 g0 g1 g2 g3 g4 g5 g6 g7 g8 g9 g10 g11;refine wp_seq_k ?_;intro _ _;refine r_quiet (n:=34) (ds:=[]) (ls:=[(11,.pointer (some ⟨w3.heap.size,0,none⟩)),(1,.slice (some ad) acts.length c),(2,.int .i64 k),(3,.int .i64 min),(4,.pointer (some ⟨w.heap.size,0,none⟩))]) (Below _ _) (by kernel_rfl) (by kernel_rfl) (bel_drew (Below.refl _ _)) (((((hf.nilOf.cons (hf.at_ 4 _ rfl)).cons (hf.at_ 3 _ rfl)).cons (hf.at_ 2 _ rfl)).cons (hf.at_ 1 _ rfl)).cons (hf.at_ 11 _ rfl)) ?_;clear hf;intro _ hf;refine q_field hf rfl rfl rfl rfl ?_;clear hf;intro _ hf;refine q_load hf rfl rfl rfl (by exact fun w' hw' => blk_cell ((hw'.block _ (blk_lt h11)).trans h11) 11) rfl ?_;clear hf;intro _ hf;refine q_field hf rfl rfl rfl rfl ?_;clear hf;intro _ hf;refine q_load hf rfl rfl rfl (by exact fun w' hw' => blk_cell ((hw'.block _ (blk_lt h11)).trans h11) 10) rfl ?_;clear hf;intro _ hf;refine q_assign hf rfl rfl rfl ?_;clear hf;intro _ hf;refine q_assign hf rfl rfl rfl ?_;clear hf;intro _ hf;refine q_nil ?_;intro w9 hw9;simp only [Exit.then,Exit.inBlock];replace hB:=bel_then hB hw9;go_step;refine wp_ret ?_
    try simp only [Exit.then,Exit.inBlock]
    exact c_ret2 hf rfl rfl rfl ⟨ret_eq (by rw [HE.out,hya];rfl),hB⟩
  rw [show decide (s ≠ 3 ∧ s ≠ 5) = true from by simp;omega] at hf;have HE:=Aside.mk (show refForce C acts k min = (0,false) by simp [refForce,hs,hq]);refine c_condT hf rfl ?_;refine wp_seq_k ?_;intro _ _;refine wp_region_lit ?_;refine a_assign hf rfl rfl rfl ?_;clear hf;intro _ hf;refine a_assign hf rfl rfl rfl ?_;clear hf;intro _ hf;refine wpList_nil ?_;simp only [Exit.then,Exit.inBlock];go_step;refine wp_ret ?_
  try simp only [Exit.then,Exit.inBlock]
  exact c_ret2 hf rfl rfl rfl ⟨ret_eq (by rw [HE.out]),hB⟩
end Go.Proofs.Ytpadgcomncljmaa.A
/- The reference: the penalty of a car at a minute. -/
namespace Go.Proofs.Ytpadgcomncljmaa.A
open Go.RowKit
def refPenStep (C : CodeL) (acts : List ActL) (car min : Int) (r : Int × Bool) (k : Nat) : Int × Bool :=
  if (protAct acts k).against = car then (r.1 + (if (refForce C acts k min).2 then (refForce C acts k min).1 else 0),r.2 || stB (refSt C acts k min)) else r
def refPenGo (C : CodeL) (acts : List ActL) (car min : Int) : Nat → Int × Bool
  | 0 => (0,false)
  | k + 1 => refPenStep C acts car min (refPenGo C acts car min k) k
def pubHit (win min : Int) (a : ActL) : Bool:=a.kind == 1 && inB (min - a.minute) 0 win
def refPen (C : CodeL) (acts : List ActL) (car min : Int) : Int × Bool :=
  ((refPenGo C acts car min (protGo acts 0).length).1,(refPenGo C acts car min (protGo acts 0).length).2 || acts.any (pubHit C.win min))
theorem refForce_bound {C : CodeL} {acts : List ActL} {k min : Int} (hp : ∀ x ∈ acts,0 ≤ x.pen ∧ x.pen ≤ 36000000) : 0 ≤ (refForce C acts k min).1 ∧ (refForce C acts k min).1 ≤ 36000000:=by
  unfold refForce
  split
  · rename_i h
    obtain ⟨j,y,hy,hj⟩:=refSt_dec rfl h
    rw [actAt_some hj hy];exact hp y (List.mem_of_getElem? hy)
  · simp
theorem refPenGo_bound {C : CodeL} {acts : List ActL} {car min : Int} (hp : ∀ x ∈ acts, 0 ≤ x.pen ∧ x.pen ≤ 36000000) : ∀ k : Nat, 0 ≤ (refPenGo C acts car min k).1 ∧ (refPenGo C acts car min k).1 ≤ 36000000 * k
  | 0 => by simp [refPenGo]
  | k + 1 => by
    have h1:=refPenGo_bound hp (C:=C) (car:=car) (min:=min) k;have h2:=refForce_bound hp (C:=C) (k:=k) (min:=min)
    unfold refPenGo refPenStep
    push_cast
    split
    · dsimp only
      split <;> omega
    · omega
theorem any_snoc {p : ActL → Bool} {acts : List ActL} {k : Nat} {x : ActL} (h : acts[k]? = some x) : (acts.take (k + 1)).any p = ((acts.take k).any p || p x):=by
  rw [drop_snoc h];simp
theorem refForce_as (C : CodeL) (A1 : Option Addr) (c1 : Nat) (acts : List ActL) (A : Option Addr) (c : Nat) (k min : Int) (fo : Int × Bool) (hfo : refForce C acts k min = fo) (w : World) (hr : RAct Any w A acts) (hna : acts.length ≤ 1000000) (hmin : ∀ x ∈ acts, 0 ≤ x.minute ∧ x.minute ≤ 10000000) (hm0 : 0 ≤ min) (hm1 : min ≤ 10000000) :
    Calls Try.prog 78 #[.agg #[.int .i64 C.cars,.slice A1 C.arts.length c1,.int .i64 C.win,.int .i64 C.sec,.int .i64 C.fee,.int .i64 C.price],.slice A acts.length c,.int .i64 k,.int .i64 min] w fun e w' => e = .returned (.tuple #[.int .i64 fo.1,.bool fo.2]) ∧ Below w.heap.size w w':=by
  subst hfo
  exact refForce_any C A1 c1 acts A c k min w hr hna hmin hm0 hm1
set_option maxHeartbeats 4000000 in
set_option maxRecDepth 100000 in
theorem refPenalty_any (C : CodeL) (A1 : Option Addr) (c1 : Nat) (acts : List ActL) (A : Option Addr) (c : Nat) (car min : Int) (w : World) (hr : RAct Any w A acts) (hna : acts.length ≤ 1000000) (hmin : ∀ x ∈ acts, 0 ≤ x.minute ∧ x.minute ≤ 10000000) (hpen : ∀ x ∈ acts, 0 ≤ x.pen ∧ x.pen ≤ 36000000) (hm0 : 0 ≤ min) (hm1 : min ≤ 10000000) :
    Calls Try.prog 35 #[.agg #[.int .i64 C.cars,.slice A1 C.arts.length c1,.int .i64 C.win,.int .i64 C.sec,.int .i64 C.fee,.int .i64 C.price],.slice A acts.length c,.int .i64 car,.int .i64 min] w fun e w' => e = .returned (.tuple #[.int .i64 (refPen C acts car min).1,.bool (refPen C acts car min).2]) ∧ Below w.heap.size w w':=by
  have HR:=Aside.mk hr;have HM:=Aside.mk hmin;have HP:=Aside.mk hpen;have h3 : (w.alloc (.cells #[.int .i64 C.cars,.slice A1 C.arts.length c1,.int .i64 C.win,.int .i64 C.sec,.int .i64 C.fee,.int .i64 C.price] 33)).heap[w.heap.size]? = some (.cells #[.int .i64 C.cars,.slice A1 C.arts.length c1,.int .i64 C.win,.int .i64 C.sec,.int .i64 C.fee,.int .i64 C.price] 33 (0,0)):=heap_alloc_new w _;have hB : Below w.heap.size w (w.alloc (.cells #[.int .i64 C.cars,.slice A1 C.arts.length c1,.int .i64 C.win,.int .i64 C.sec,.int .i64 C.fee,.int .i64 C.price] 33)):=bel_alloc (Below.refl _ _) _;have hpl:=protLen_le acts 0;clear hr hmin hpen
  go_enter Try.func35,Try.ntmps35
  refine wp_abs (n:=91) (ds:=[]) (l:=[(0,.agg #[.int .i64 C.cars,.slice A1 C.arts.length c1,.int .i64 C.win,.int .i64 C.sec,.int .i64 C.fee,.int .i64 C.price]),(1,.slice A acts.length c),(2,.int .i64 car),(3,.int .i64 min)]) ?_ ?_
  · refine ((((Has.nil ?_ ?_).cons ?_).cons ?_).cons ?_).cons ?_
    all_goals first | rfl | (simp [Act.eval];done)
  intro _ hf;refine wp_seq_k ?_;intro _ _;refine wp_region_lit ?_;refine a_box hf rfl rfl rfl rfl ?_;clear hf;intro _ hf;refine a_assign hf rfl rfl rfl ?_;clear hf;intro _ hf;refine a_assign hf rfl rfl rfl ?_;clear hf;intro _ hf;refine wpList_nil ?_;simp only [Exit.then,Exit.inBlock];go_step
  change Code.wp _ _ _ _ (w.alloc (.cells #[.int .i64 C.cars,.slice A1 C.arts.length c1,.int .i64 C.win,.int .i64 C.sec,.int .i64 C.fee,.int .i64 C.price] 33))
  generalize (w.alloc (.cells #[.int .i64 C.cars,.slice A1 C.arts.length c1,.int .i64 C.win,.int .i64 C.sec,.int .i64 C.fee,.int .i64 C.price] 33)) = W0 at *
  refine wp_seq_k ?_;intro _ _;refine wp_region_lit ?_;refine a_assign hf rfl rfl rfl ?_;clear hf;intro _ hf;refine wpList_nil ?_;simp only [Exit.then,Exit.inBlock];go_step;refine wp_seq_k ?_;intro _ _;refine wp_region_lit ?_;refine a_assign hf rfl rfl rfl ?_;clear hf;intro _ hf;refine wpList_nil ?_;simp only [Exit.then,Exit.inBlock];go_step;refine wp_seq_k ?_;intro _ _;refine wp_region_lit ?_;refine a_move hf rfl rfl rfl ?_;clear hf;intro _ hf;refine a_call1 hf e27 rfl rfl rfl ?_;clear hf;refine (refProtests_any A c acts _ (HR.out.below hB) hna).mono ?_;rintro _ w2 ⟨A9,c9,rfl,hc9,hpr,hb⟩;replace h3:=(hb.block _ (blk_lt h3)).trans h3;replace hB:=bel_then hB hb;clear hb;intro _ hf;refine a_assign hf rfl rfl rfl ?_;clear hf;intro _ hf;refine wpList_nil ?_;simp only [Exit.then,Exit.inBlock];go_step;have HPR:=Aside.mk hpr;clear hpr;refine wp_seq_k ?_;intro _ _;refine wp_seq_k ?_;intro _ _;refine wp_region_lit ?_;refine a_assign hf rfl rfl rfl ?_;clear hf;intro _ hf;refine wpList_nil ?_;simp only [Exit.then,Exit.inBlock];go_step;refine wp_block ?_;refine wp_loop_ghost (fun m fr wr => ∃ (k : Nat) (r : Int × Bool),k ≤ (protGo acts 0).length ∧ m = (protGo acts 0).length - k ∧ Has 91 [] [(13,.int .i64 ((k : Nat) : Int)),(11,.bool r.2),(10,.int .i64 r.1),(1,.slice A acts.length c),(2,.int .i64 car),(3,.int .i64 min),(4,.pointer (some ⟨w.heap.size,0,none⟩)),(12,.slice A9 (protGo acts 0).length c9)] fr ∧ Aside (r = refPenGo C acts car min k) ∧ wr.heap[w.heap.size]? = some (.cells #[.int .i64 C.cars,.slice A1 C.arts.length c1,.int .i64 C.win,.int .i64 C.sec,.int .i64 C.fee,.int .i64 C.price] 33 (0,0)) ∧ Below w.heap.size w wr ∧ RI Any wr A9 (protGo acts 0)) (protGo acts 0).length ?_ ?_
  · exact ⟨0,(0,false),Nat.zero_le _,rfl,(((((((((hf.nilOf).cons (d:=12) (hf.at_ 12 _ rfl)).cons (d:=4) (hf.at_ 4 _ rfl)).cons (d:=3) (hf.at_ 3 _ rfl)).cons (d:=2) (hf.at_ 2 _ rfl)).cons (d:=1) (hf.at_ 1 _ rfl)).cons (d:=10) (hf.at_ 10 _ rfl)).cons (d:=11) (hf.at_ 11 _ rfl)).cons (d:=13) (hf.at_ 13 _ rfl)),⟨rfl⟩,h3,hB,HPR.out.mono fun _ _ _ => trivial⟩
  clear h3 hB hf HPR
  rintro m fr wr ⟨k,r,hk',rfl,hf,HGO,h3,hB,hpr⟩
  have HPR:=Aside.mk hpr;clear hpr
  by_cases hlt : k < (protGo acts 0).length
  · obtain ⟨pi,hpi⟩:=get_some hlt
    obtain ⟨p,x,hpx,hx,_⟩:=prot_at acts 0 k pi hpi
    have hpi' : pi = (p : Int):=by omega
    subst hpi'
    have hxa : protAct acts k = x:=by unfold protAct;rw [Int.toNat_natCast,hpi];exact actAt_some rfl hx
    have hxl:=(List.getElem?_eq_some_iff.1 hx).1
    obtain ⟨pd,rfl,_,hpc⟩:=HPR.out k _ hpi
    obtain ⟨ad,B9,d9,rfl,_,ha⟩:=(HR.out.below hB) _ x hx
    have g5:=ha.2.2.2.2.2.1;have HST:=Aside.mk (show refPenGo C acts car min (k + 1) = refPenStep C acts car min r k by rw [HGO.out];rfl);have hbd : 0 ≤ r.1 ∧ r.1 ≤ 36000000 * k:=by rw [HGO.out];exact refPenGo_bound HP.out k
    obtain ⟨r1,r2⟩:=r
    dsimp only at hf hbd
    clear ha hpi hx hpx;refine wp_seq_k ?_;intro _ _;refine wp_seq_k ?_;intro _ _;refine wp_region_lit ?_;refine a_move hf rfl rfl rfl ?_;clear hf;intro _ hf;refine a_move hf rfl rfl rfl ?_;clear hf;intro _ hf;refine a_len hf rfl rfl rfl rfl ?_;clear hf;intro _ hf;refine a_cmp (b:=true) hf rfl rfl rfl rfl rfl (by first | assumption | ((try dsimp only);simp only [bq1,bq2,bq3,bq4,bq5,bq6,bq7] <;> omega)) rfl ?_;clear hf;intro _ hf;refine wpList_nil ?_;simp only [Exit.then,Exit.inBlock];go_step;refine c_condT hf rfl ?_;refine wp_skip ?_;simp only [Exit.then];go_step;refine wp_seq_k ?_;intro _ _;refine c_cut (fun a' w' => ∃ r' : Int × Bool,r' = refPenStep C acts car min (r1,r2) k ∧ Has 91 [] [(13,.int .i64 ((k : Nat) : Int)),(11,.bool r'.2),(10,.int .i64 r'.1),(1,.slice (some ad) acts.length c),(2,.int .i64 car),(3,.int .i64 min),(4,.pointer (some ⟨w.heap.size,0,none⟩)),(12,.slice (some pd) (protGo acts 0).length c9)] a' ∧ w'.heap[w.heap.size]? = some (.cells #[.int .i64 C.cars,.slice A1 C.arts.length c1,.int .i64 C.win,.int .i64 C.sec,.int .i64 C.fee,.int .i64 C.price] 33 (0,0)) ∧ Below wr.heap.size wr w') ?_ ?_
    · refine wp_block ?_
      refine wp_seq_k ?_;intro _ _;refine wp_seq_k ?_;intro _ _
      by_cases hag : x.against = car
      rotate_left
      · refine wp_region_lit ?_
        refine a_move hf rfl rfl rfl ?_;clear hf;intro _ hf;refine a_move hf rfl rfl rfl ?_;clear hf;intro _ hf;refine a_move hf rfl rfl rfl ?_;clear hf;intro _ hf;refine a_index (j:=k) hf rfl rfl rfl rfl (by omega) (by omega) rfl ?_;clear hf;intro _ hf;refine a_load hf rfl rfl rfl (by rw [Nat.mul_one];exact hpc) rfl ?_;clear hf;intro _ hf;refine a_index (j:=p) hf rfl rfl rfl rfl (by omega) (by omega) rfl ?_;clear hf;intro _ hf;refine a_field hf rfl rfl rfl rfl ?_;clear hf;intro _ hf;refine a_load hf rfl rfl rfl (by exact g5) rfl ?_;clear hf;intro _ hf;refine a_move hf rfl rfl rfl ?_;clear hf;intro _ hf;refine a_cmp (b:=true) hf rfl rfl rfl rfl rfl (by first | assumption | ((try dsimp only);simp only [bq1,bq2,bq3,bq4,bq5,bq6,bq7] <;> omega)) rfl ?_;clear hf;intro _ hf;refine wpList_nil ?_;simp only [Exit.then,Exit.inBlock];go_step;refine c_condT hf rfl ?_;refine wp_exit ?_;simp only [Exit.then,Exit.inBlock,↓reduceIte];exact ⟨(by trivial),(r1,r2),(by unfold refPenStep;rw [hxa,if_neg hag]),(((((((((hf.nilOf).cons (d:=12) (hf.at_ 12 _ rfl)).cons (d:=4) (hf.at_ 4 _ rfl)).cons (d:=3) (hf.at_ 3 _ rfl)).cons (d:=2) (hf.at_ 2 _ rfl)).cons (d:=1) (hf.at_ 1 _ rfl)).cons (d:=10) (hf.at_ 10 _ rfl)).cons (d:=11) (hf.at_ 11 _ rfl)).cons (d:=13) (hf.at_ 13 _ rfl)),h3,Below.refl _ _⟩
      obtain ⟨fo,hfo⟩ : ∃ fo,refForce C acts k min = fo:=⟨_,rfl⟩
      obtain ⟨st,hst⟩ : ∃ st,refSt C acts k min = st:=⟨_,rfl⟩
      obtain ⟨f1,f2⟩:=fo
      have HE:=Aside.mk (show refPenStep C acts car min (r1,r2) k = (r1 + (if f2 then f1 else 0),r2 || stB st) by unfold refPenStep;rw [hxa,if_pos hag,hfo,hst]);have hfb:=refForce_bound HP.out (C:=C) (k:=k) (min:=min);rw [hfo] at hfb;refine wp_region_lit ?_;refine a_move hf rfl rfl rfl ?_;clear hf;intro _ hf;refine a_move hf rfl rfl rfl ?_;clear hf;intro _ hf;refine a_move hf rfl rfl rfl ?_;clear hf;intro _ hf;refine a_index (j:=k) hf rfl rfl rfl rfl (by omega) (by omega) rfl ?_;clear hf;intro _ hf;refine a_load hf rfl rfl rfl (by rw [Nat.mul_one];exact hpc) rfl ?_;clear hf;intro _ hf;refine a_index (j:=p) hf rfl rfl rfl rfl (by omega) (by omega) rfl ?_;clear hf;intro _ hf;refine a_field hf rfl rfl rfl rfl ?_;clear hf;intro _ hf;refine a_load hf rfl rfl rfl (by exact g5) rfl ?_;clear hf;intro _ hf;refine a_move hf rfl rfl rfl ?_;clear hf;intro _ hf;refine a_cmp (b:=false) hf rfl rfl rfl rfl rfl (by first | assumption | ((try dsimp only);simp only [bq1,bq2,bq3,bq4,bq5,bq6,bq7] <;> omega)) rfl ?_;clear hf;intro _ hf;refine wpList_nil ?_;simp only [Exit.then,Exit.inBlock];go_step;refine c_condF hf rfl ?_;refine wp_skip ?_;simp only [Exit.then,Exit.inBlock];go_step;refine wp_seq_k ?_;intro _ _;refine wp_seq_k ?_;intro _ _;refine wp_region_lit ?_;refine a_load33b hf rfl rfl (by exact h3) rfl ?_;clear hf;intro _ hf;refine a_move hf rfl rfl rfl ?_;clear hf;intro _ hf;refine a_move hf rfl rfl rfl ?_;clear hf;intro _ hf;refine a_move hf rfl rfl rfl ?_;clear hf;intro _ hf;refine a_call4 hf e78 rfl rfl rfl rfl rfl rfl ?_;clear hf;refine (refForce_as C A1 c1 acts (some ad) c k min (f1,f2) hfo _ (HR.out.below hB) hna HM.out hm0 hm1).mono ?_;rintro _ w3 ⟨rfl,hb3⟩;replace h3:=(hb3.block _ (blk_lt h3)).trans h3;replace hB:=bel_then hB hb3;intro _ hf;refine a_move hf rfl rfl rfl ?_;clear hf;intro _ hf;refine a_extract hf rfl rfl rfl rfl ?_;clear hf;intro _ hf;refine a_extract hf rfl rfl rfl rfl ?_;clear hf;intro _ hf;refine a_assign hf rfl rfl rfl ?_;clear hf;intro _ hf;refine a_assign hf rfl rfl rfl ?_;clear hf;intro _ hf;refine wpList_nil ?_;simp only [Exit.then,Exit.inBlock];go_step;replace hf : Has 91 [] [(15,.bool f2),(14,.int .i64 f1),(13,.int .i64 (k : Int)),(11,.bool r2),(10,.int .i64 r1),(1,.slice (some ad) acts.length c),(2,.int .i64 car),(3,.int .i64 min),(4,.pointer (some ⟨w.heap.size,0,none⟩)),(12,.slice (some pd) (protGo acts 0).length c9)] _:=(((((((((((hf.nilOf).cons (d:=12) (hf.at_ 12 _ rfl)).cons (d:=4) (hf.at_ 4 _ rfl)).cons (d:=3) (hf.at_ 3 _ rfl)).cons (d:=2) (hf.at_ 2 _ rfl)).cons (d:=1) (hf.at_ 1 _ rfl)).cons (d:=10) (hf.at_ 10 _ rfl)).cons (d:=11) (hf.at_ 11 _ rfl)).cons (d:=13) (hf.at_ 13 _ rfl))).cons (hf.at_ 14 _ rfl)).cons (hf.at_ 15 _ rfl);refine c_cut (fun a' w' => Has 91 [] [(10,.int .i64 (r1 + (if f2 then f1 else 0))),(13,.int .i64 (k : Int)),(11,.bool r2),(1,.slice (some ad) acts.length c),(2,.int .i64 car),(3,.int .i64 min),(4,.pointer (some ⟨w.heap.size,0,none⟩)),(12,.slice (some pd) (protGo acts 0).length c9)] a' ∧ w3 = w') ?_ ?_
      · refine wp_seq_k ?_
        intro _ _;refine wp_region_lit ?_;refine a_move hf rfl rfl rfl ?_;clear hf;intro _ hf;refine wpList_nil ?_;simp only [Exit.then,Exit.inBlock];go_step
        cases f2 with
        | true =>
          refine c_condT hf rfl ?_;refine wp_region_lit ?_;refine a_move hf rfl rfl rfl ?_;clear hf;intro _ hf;refine a_move hf rfl rfl rfl ?_;clear hf;intro _ hf;refine a_ar hf rfl rfl rfl rfl (by (try dsimp only);omega) rfl ?_;clear hf;intro _ hf;refine a_assign hf rfl rfl rfl ?_;clear hf;intro _ hf;refine wpList_nil ?_;exact ⟨rfl,((((((((((hf.nilOf).cons (d:=12) (hf.at_ 12 _ rfl)).cons (d:=4) (hf.at_ 4 _ rfl)).cons (d:=3) (hf.at_ 3 _ rfl)).cons (d:=2) (hf.at_ 2 _ rfl)).cons (d:=1) (hf.at_ 1 _ rfl))).cons (hf.at_ 11 _ rfl)).cons (hf.at_ 13 _ rfl))).cons (hf.at_ 10 _ rfl),rfl⟩
        | false =>
          refine c_condF hf rfl ?_;refine wp_skip ?_;exact ⟨rfl,((((((((((hf.nilOf).cons (d:=12) (hf.at_ 12 _ rfl)).cons (d:=4) (hf.at_ 4 _ rfl)).cons (d:=3) (hf.at_ 3 _ rfl)).cons (d:=2) (hf.at_ 2 _ rfl)).cons (d:=1) (hf.at_ 1 _ rfl))).cons (hf.at_ 11 _ rfl)).cons (hf.at_ 13 _ rfl))).cons (d:=10) ((hf.at_ 10 _ rfl).trans (by simp)),rfl⟩
      rintro _ _ ⟨hf,rfl⟩
      simp only [Exit.then];go_step;refine wp_seq_k ?_;intro _ _;refine wp_region_lit ?_;refine a_load33b hf rfl rfl (by exact h3) rfl ?_;clear hf;intro _ hf;refine a_move hf rfl rfl rfl ?_;clear hf;intro _ hf;refine a_move hf rfl rfl rfl ?_;clear hf;intro _ hf;refine a_move hf rfl rfl rfl ?_;clear hf;intro _ hf;refine a_call4 hf e33 rfl rfl rfl rfl rfl rfl ?_;clear hf;refine (refState_as C A1 c1 acts (some ad) c k min st hst _ (HR.out.below hB) hna HM.out hm0 hm1).mono ?_;rintro _ w4 ⟨rfl,hb4⟩;replace h3:=(hb4.block _ (blk_lt h3)).trans h3;replace hB:=bel_then hB hb4;intro _ hf;refine a_assign hf rfl rfl rfl ?_;clear hf;intro _ hf;refine wpList_nil ?_;simp only [Exit.then,Exit.inBlock];go_step
      cases r2 with
      | true =>
        refine wp_region_lit ?_;refine a_move hf rfl rfl rfl ?_;clear hf;intro _ hf;refine a_move hf rfl rfl rfl ?_;clear hf;intro _ hf
        (first | refine a_not hf rfl rfl rfl ?_ | refine a_move hf rfl rfl rfl ?_);clear hf;intro _ hf
        (first | refine a_not hf rfl rfl rfl ?_ | refine a_cmp52 hf rfl rfl rfl rfl rfl rfl ?_);clear hf;intro _ hf
        (first | refine a_pickT hf rfl rfl rfl rfl ?_ | refine a_pickF hf rfl rfl rfl rfl ?_);clear hf;intro _ hf
        refine a_move hf rfl rfl rfl ?_;clear hf;intro _ hf
        (first | refine a_not hf rfl rfl rfl ?_ | refine a_move hf rfl rfl rfl ?_);clear hf;intro _ hf
        (first | refine a_not hf rfl rfl rfl ?_ | refine a_cmp52 hf rfl rfl rfl rfl rfl rfl ?_);clear hf;intro _ hf
        (first | refine a_pickT hf rfl rfl rfl rfl ?_ | refine a_pickF hf rfl rfl rfl rfl ?_);clear hf;intro _ hf
        refine a_move hf rfl rfl rfl ?_;clear hf;intro _ hf
        (first | refine a_not hf rfl rfl rfl ?_ | refine a_move hf rfl rfl rfl ?_);clear hf;intro _ hf
        (first | refine a_not hf rfl rfl rfl ?_ | refine a_cmp52 hf rfl rfl rfl rfl rfl rfl ?_);clear hf;intro _ hf
        (first | refine a_pickT hf rfl rfl rfl rfl ?_ | refine a_pickF hf rfl rfl rfl rfl ?_);clear hf;intro _ hf
        refine a_assign hf rfl rfl rfl ?_;clear hf;intro _ hf;refine wpList_nil ?_;simp only [Exit.then,Exit.inBlock];exact ⟨(by trivial),_,HE.out.symm,(((((((((hf.nilOf).cons (d:=12) (hf.at_ 12 _ rfl)).cons (d:=4) (hf.at_ 4 _ rfl)).cons (d:=3) (hf.at_ 3 _ rfl)).cons (d:=2) (hf.at_ 2 _ rfl)).cons (d:=1) (hf.at_ 1 _ rfl))).cons (hf.at_ 10 _ rfl)).cons (d:=11) ((hf.at_ 11 _ rfl).trans (by simp [stB,or_true]))).cons (hf.at_ 13 _ rfl),h3,bel_then hb3 hb4⟩
      | false =>
        by_cases s1 : st = 1
        · refine wp_region_lit ?_
          refine a_move hf rfl rfl rfl ?_;clear hf;intro _ hf;refine a_move hf rfl rfl rfl ?_;clear hf;intro _ hf
          (first | refine a_not hf rfl rfl rfl ?_ | refine a_move hf rfl rfl rfl ?_);clear hf;intro _ hf
          (first | refine a_not hf rfl rfl rfl ?_ | refine a_cmp52 (b:=true) hf rfl rfl rfl rfl (by first | assumption | ((try dsimp only);simp only [bq1,bq2,bq3,bq4,bq5,bq6,bq7] <;> omega)) rfl ?_);clear hf;intro _ hf
          (first | refine a_pickT hf rfl rfl rfl rfl ?_ | refine a_pickF hf rfl rfl rfl rfl ?_);clear hf;intro _ hf
          refine a_move hf rfl rfl rfl ?_;clear hf;intro _ hf
          (first | refine a_not hf rfl rfl rfl ?_ | refine a_move hf rfl rfl rfl ?_);clear hf;intro _ hf
          (first | refine a_not hf rfl rfl rfl ?_ | refine a_cmp52 hf rfl rfl rfl rfl rfl rfl ?_);clear hf;intro _ hf
          (first | refine a_pickT hf rfl rfl rfl rfl ?_ | refine a_pickF hf rfl rfl rfl rfl ?_);clear hf;intro _ hf
          refine a_move hf rfl rfl rfl ?_;clear hf;intro _ hf
          (first | refine a_not hf rfl rfl rfl ?_ | refine a_move hf rfl rfl rfl ?_);clear hf;intro _ hf
          (first | refine a_not hf rfl rfl rfl ?_ | refine a_cmp52 hf rfl rfl rfl rfl rfl rfl ?_);clear hf;intro _ hf
          (first | refine a_pickT hf rfl rfl rfl rfl ?_ | refine a_pickF hf rfl rfl rfl rfl ?_);clear hf;intro _ hf
          refine a_assign hf rfl rfl rfl ?_;clear hf;intro _ hf;refine wpList_nil ?_;simp only [Exit.then,Exit.inBlock];exact ⟨(by trivial),_,HE.out.symm,(((((((((hf.nilOf).cons (d:=12) (hf.at_ 12 _ rfl)).cons (d:=4) (hf.at_ 4 _ rfl)).cons (d:=3) (hf.at_ 3 _ rfl)).cons (d:=2) (hf.at_ 2 _ rfl)).cons (d:=1) (hf.at_ 1 _ rfl))).cons (hf.at_ 10 _ rfl)).cons (d:=11) ((hf.at_ 11 _ rfl).trans (by simp [stB,s1]))).cons (hf.at_ 13 _ rfl),h3,bel_then hb3 hb4⟩
        by_cases s3 : st = 3
        · refine wp_region_lit ?_
          refine a_move hf rfl rfl rfl ?_;clear hf;intro _ hf;refine a_move hf rfl rfl rfl ?_;clear hf;intro _ hf
          (first | refine a_not hf rfl rfl rfl ?_ | refine a_move hf rfl rfl rfl ?_);clear hf;intro _ hf
          (first | refine a_not hf rfl rfl rfl ?_ | refine a_cmp52 (b:=false) hf rfl rfl rfl rfl (by first | assumption | ((try dsimp only);simp only [bq1,bq2,bq3,bq4,bq5,bq6,bq7] <;> omega)) rfl ?_);clear hf;intro _ hf
          (first | refine a_pickT hf rfl rfl rfl rfl ?_ | refine a_pickF hf rfl rfl rfl rfl ?_);clear hf;intro _ hf
          refine a_move hf rfl rfl rfl ?_;clear hf;intro _ hf
          (first | refine a_not hf rfl rfl rfl ?_ | refine a_move hf rfl rfl rfl ?_);clear hf;intro _ hf
          (first | refine a_not hf rfl rfl rfl ?_ | refine a_cmp52 (b:=true) hf rfl rfl rfl rfl (by first | assumption | ((try dsimp only);simp only [bq1,bq2,bq3,bq4,bq5,bq6,bq7] <;> omega)) rfl ?_);clear hf;intro _ hf
          (first | refine a_pickT hf rfl rfl rfl rfl ?_ | refine a_pickF hf rfl rfl rfl rfl ?_);clear hf;intro _ hf
          refine a_move hf rfl rfl rfl ?_;clear hf;intro _ hf
          (first | refine a_not hf rfl rfl rfl ?_ | refine a_move hf rfl rfl rfl ?_);clear hf;intro _ hf
          (first | refine a_not hf rfl rfl rfl ?_ | refine a_cmp52 hf rfl rfl rfl rfl rfl rfl ?_);clear hf;intro _ hf
          (first | refine a_pickT hf rfl rfl rfl rfl ?_ | refine a_pickF hf rfl rfl rfl rfl ?_);clear hf;intro _ hf
          refine a_assign hf rfl rfl rfl ?_;clear hf;intro _ hf;refine wpList_nil ?_;simp only [Exit.then,Exit.inBlock];exact ⟨(by trivial),_,HE.out.symm,(((((((((hf.nilOf).cons (d:=12) (hf.at_ 12 _ rfl)).cons (d:=4) (hf.at_ 4 _ rfl)).cons (d:=3) (hf.at_ 3 _ rfl)).cons (d:=2) (hf.at_ 2 _ rfl)).cons (d:=1) (hf.at_ 1 _ rfl))).cons (hf.at_ 10 _ rfl)).cons (d:=11) ((hf.at_ 11 _ rfl).trans (by simp [stB,s1,s3]))).cons (hf.at_ 13 _ rfl),h3,bel_then hb3 hb4⟩
        by_cases s4 : st = 4
        · refine wp_region_lit ?_
          refine a_move hf rfl rfl rfl ?_;clear hf;intro _ hf;refine a_move hf rfl rfl rfl ?_;clear hf;intro _ hf
          (first | refine a_not hf rfl rfl rfl ?_ | refine a_move hf rfl rfl rfl ?_);clear hf;intro _ hf
          (first | refine a_not hf rfl rfl rfl ?_ | refine a_cmp52 (b:=false) hf rfl rfl rfl rfl (by first | assumption | ((try dsimp only);simp only [bq1,bq2,bq3,bq4,bq5,bq6,bq7] <;> omega)) rfl ?_);clear hf;intro _ hf
          (first | refine a_pickT hf rfl rfl rfl rfl ?_ | refine a_pickF hf rfl rfl rfl rfl ?_);clear hf;intro _ hf
          refine a_move hf rfl rfl rfl ?_;clear hf;intro _ hf
          (first | refine a_not hf rfl rfl rfl ?_ | refine a_move hf rfl rfl rfl ?_);clear hf;intro _ hf
          (first | refine a_not hf rfl rfl rfl ?_ | refine a_cmp52 (b:=false) hf rfl rfl rfl rfl (by first | assumption | ((try dsimp only);simp only [bq1,bq2,bq3,bq4,bq5,bq6,bq7] <;> omega)) rfl ?_);clear hf;intro _ hf
          (first | refine a_pickT hf rfl rfl rfl rfl ?_ | refine a_pickF hf rfl rfl rfl rfl ?_);clear hf;intro _ hf
          refine a_move hf rfl rfl rfl ?_;clear hf;intro _ hf
          (first | refine a_not hf rfl rfl rfl ?_ | refine a_move hf rfl rfl rfl ?_);clear hf;intro _ hf
          (first | refine a_not hf rfl rfl rfl ?_ | refine a_cmp52 (b:=true) hf rfl rfl rfl rfl (by first | assumption | ((try dsimp only);simp only [bq1,bq2,bq3,bq4,bq5,bq6,bq7] <;> omega)) rfl ?_);clear hf;intro _ hf
          (first | refine a_pickT hf rfl rfl rfl rfl ?_ | refine a_pickF hf rfl rfl rfl rfl ?_);clear hf;intro _ hf
          refine a_assign hf rfl rfl rfl ?_;clear hf;intro _ hf;refine wpList_nil ?_;simp only [Exit.then,Exit.inBlock];exact ⟨(by trivial),_,HE.out.symm,(((((((((hf.nilOf).cons (d:=12) (hf.at_ 12 _ rfl)).cons (d:=4) (hf.at_ 4 _ rfl)).cons (d:=3) (hf.at_ 3 _ rfl)).cons (d:=2) (hf.at_ 2 _ rfl)).cons (d:=1) (hf.at_ 1 _ rfl))).cons (hf.at_ 10 _ rfl)).cons (d:=11) ((hf.at_ 11 _ rfl).trans (by simp [stB,s1,s3,s4]))).cons (hf.at_ 13 _ rfl),h3,bel_then hb3 hb4⟩
        refine wp_region_lit ?_;refine a_move hf rfl rfl rfl ?_;clear hf;intro _ hf;refine a_move hf rfl rfl rfl ?_;clear hf;intro _ hf
        (first | refine a_not hf rfl rfl rfl ?_ | refine a_move hf rfl rfl rfl ?_);clear hf;intro _ hf
        (first | refine a_not hf rfl rfl rfl ?_ | refine a_cmp52 (b:=false) hf rfl rfl rfl rfl (by first | assumption | ((try dsimp only);simp only [bq1,bq2,bq3,bq4,bq5,bq6,bq7] <;> omega)) rfl ?_);clear hf;intro _ hf
        (first | refine a_pickT hf rfl rfl rfl rfl ?_ | refine a_pickF hf rfl rfl rfl rfl ?_);clear hf;intro _ hf
        refine a_move hf rfl rfl rfl ?_;clear hf;intro _ hf
        (first | refine a_not hf rfl rfl rfl ?_ | refine a_move hf rfl rfl rfl ?_);clear hf;intro _ hf
        (first | refine a_not hf rfl rfl rfl ?_ | refine a_cmp52 (b:=false) hf rfl rfl rfl rfl (by first | assumption | ((try dsimp only);simp only [bq1,bq2,bq3,bq4,bq5,bq6,bq7] <;> omega)) rfl ?_);clear hf;intro _ hf
        (first | refine a_pickT hf rfl rfl rfl rfl ?_ | refine a_pickF hf rfl rfl rfl rfl ?_);clear hf;intro _ hf
        refine a_move hf rfl rfl rfl ?_;clear hf;intro _ hf
        (first | refine a_not hf rfl rfl rfl ?_ | refine a_move hf rfl rfl rfl ?_);clear hf;intro _ hf
        (first | refine a_not hf rfl rfl rfl ?_ | refine a_cmp52 (b:=false) hf rfl rfl rfl rfl (by first | assumption | ((try dsimp only);simp only [bq1,bq2,bq3,bq4,bq5,bq6,bq7] <;> omega)) rfl ?_);clear hf;intro _ hf
        (first | refine a_pickT hf rfl rfl rfl rfl ?_ | refine a_pickF hf rfl rfl rfl rfl ?_);clear hf;intro _ hf
        refine a_assign hf rfl rfl rfl ?_;clear hf;intro _ hf;refine wpList_nil ?_;simp only [Exit.then,Exit.inBlock];exact ⟨(by trivial),_,HE.out.symm,(((((((((hf.nilOf).cons (d:=12) (hf.at_ 12 _ rfl)).cons (d:=4) (hf.at_ 4 _ rfl)).cons (d:=3) (hf.at_ 3 _ rfl)).cons (d:=2) (hf.at_ 2 _ rfl)).cons (d:=1) (hf.at_ 1 _ rfl))).cons (hf.at_ 10 _ rfl)).cons (d:=11) ((hf.at_ 11 _ rfl).trans (by simp [stB,s1,s3,s4]))).cons (hf.at_ 13 _ rfl),h3,bel_then hb3 hb4⟩
    rintro _ w9 ⟨r',hr',hf,h3',hb9⟩
    simp only [Exit.then];go_step;refine wp_region_lit ?_;refine a_move hf rfl rfl rfl ?_;clear hf;intro _ hf;refine a_ar hf rfl rfl rfl rfl (by (try dsimp only);omega) rfl ?_;clear hf;intro _ hf;refine a_assign hf rfl rfl rfl ?_;clear hf;intro _ hf;refine wpList_nil ?_;simp only [Exit.then,Exit.inBlock];exact ⟨(protGo acts 0).length - (k + 1),by omega,k + 1,r',by omega,rfl,(((((((((hf.nilOf).cons (d:=12) (hf.at_ 12 _ rfl)).cons (d:=4) (hf.at_ 4 _ rfl)).cons (d:=3) (hf.at_ 3 _ rfl)).cons (d:=2) (hf.at_ 2 _ rfl)).cons (d:=1) (hf.at_ 1 _ rfl)).cons (d:=10) (hf.at_ 10 _ rfl)).cons (d:=11) (hf.at_ 11 _ rfl)).cons (d:=13) (hf.at_ 13 _ rfl)),⟨by rw [HST.out];exact hr'⟩,h3',bel_then hB hb9,HPR.out.below hb9⟩
  · have hke : k = (protGo acts 0).length:=by omega
    have HGE:=Aside.mk (show r = refPenGo C acts car min (protGo acts 0).length by rw [HGO.out,hke]);refine wp_seq_k ?_;intro _ _;refine wp_seq_k ?_;intro _ _;refine wp_region_lit ?_;refine a_move hf rfl rfl rfl ?_;clear hf;intro _ hf;refine a_move hf rfl rfl rfl ?_;clear hf;intro _ hf;refine a_len hf rfl rfl rfl rfl ?_;clear hf;intro _ hf;refine a_cmp (b:=false) hf rfl rfl rfl rfl rfl (by first | assumption | ((try dsimp only);simp only [bq1,bq2,bq3,bq4,bq5,bq6,bq7] <;> omega)) rfl ?_;clear hf;intro _ hf;refine wpList_nil ?_;simp only [Exit.then,Exit.inBlock];go_step;refine c_condF hf rfl ?_;refine wp_exit ?_;simp only [Exit.then,Exit.inBlock,↓reduceIte];go_step
    obtain ⟨r1,r2⟩:=r
    dsimp only at hf
    clear HGO HPR hlt hk' hke;refine wp_seq_k ?_;intro _ _;refine wp_seq_k ?_;intro _ _;refine wp_region_lit ?_;refine a_assign hf rfl rfl rfl ?_;clear hf;intro _ hf;refine wpList_nil ?_;simp only [Exit.then,Exit.inBlock];go_step;refine wp_block ?_;refine wp_loop_ghost (fun m fr wr => ∃ (k : Nat) (b : Bool),k ≤ acts.length ∧ m = acts.length - k ∧ Has 91 [] [(17,.int .i64 ((k : Nat) : Int)),(11,.bool b),(10,.int .i64 r1),(1,.slice A acts.length c),(2,.int .i64 car),(3,.int .i64 min),(4,.pointer (some ⟨w.heap.size,0,none⟩))] fr ∧ Aside (b = (r2 || (acts.take k).any (pubHit C.win min))) ∧ wr.heap[w.heap.size]? = some (.cells #[.int .i64 C.cars,.slice A1 C.arts.length c1,.int .i64 C.win,.int .i64 C.sec,.int .i64 C.fee,.int .i64 C.price] 33 (0,0)) ∧ Below w.heap.size w wr) acts.length ?_ ?_
    · exact ⟨0,r2,Nat.zero_le _,rfl,((((((((hf.nilOf).cons (d:=4) (hf.at_ 4 _ rfl)).cons (d:=3) (hf.at_ 3 _ rfl)).cons (d:=2) (hf.at_ 2 _ rfl)).cons (d:=1) (hf.at_ 1 _ rfl)).cons (d:=10) (hf.at_ 10 _ rfl)).cons (d:=11) (hf.at_ 11 _ rfl)).cons (d:=17) (hf.at_ 17 _ rfl)),⟨by simp⟩,h3,hB⟩
    clear h3 hB hf
    rintro m fr wr ⟨k,b,hk',rfl,hf,HB,h3,hB⟩
    by_cases hlt : k < acts.length
    · obtain ⟨x,hx⟩:=get_some hlt
      have HX:=Aside.mk (show (r2 || (acts.take (k + 1)).any (pubHit C.win min)) = (b || pubHit C.win min x) by rw [any_snoc hx,HB.out,Bool.or_assoc]);have hxm:=HM.out x (List.mem_of_getElem? hx)
      obtain ⟨ad,B8,d8,rfl,_,ha⟩:=(HR.out.below hB) k x hx
      obtain ⟨g0,g1,g2,g3,g4,g5,g6,g7,g8,g9,g10,g11,_⟩:=ha
      clear hx;refine wp_seq_k ?_;intro _ _;refine wp_seq_k ?_;intro _ _;refine wp_region_lit ?_;refine a_move hf rfl rfl rfl ?_;clear hf;intro _ hf;refine a_move hf rfl rfl rfl ?_;clear hf;intro _ hf;refine a_len hf rfl rfl rfl rfl ?_;clear hf;intro _ hf;refine a_cmp (b:=true) hf rfl rfl rfl rfl rfl (by first | assumption | ((try dsimp only);simp only [bq1,bq2,bq3,bq4,bq5,bq6,bq7] <;> omega)) rfl ?_;clear hf;intro _ hf;refine wpList_nil ?_;simp only [Exit.then,Exit.inBlock];go_step;refine c_condT hf rfl ?_;refine wp_skip ?_;simp only [Exit.then];go_step;refine wp_seq_k ?_;intro _ _;refine c_cut (fun a' w' => ∃ b' : Bool,b' = (b || pubHit C.win min x) ∧ Has 91 [] [(17,.int .i64 ((k : Nat) : Int)),(11,.bool b'),(10,.int .i64 r1),(1,.slice (some ad) acts.length c),(2,.int .i64 car),(3,.int .i64 min),(4,.pointer (some ⟨w.heap.size,0,none⟩))] a' ∧ w'.heap[w.heap.size]? = some (.cells #[.int .i64 C.cars,.slice A1 C.arts.length c1,.int .i64 C.win,.int .i64 C.sec,.int .i64 C.fee,.int .i64 C.price] 33 (0,0)) ∧ Below wr.heap.size wr w') ?_ ?_
      · refine wp_block ?_
        refine wp_seq_k ?_;intro _ _;refine wp_region_lit ?_;refine a_move hf rfl rfl rfl ?_;clear hf;intro _ hf;refine a_move hf rfl rfl rfl ?_;clear hf;intro _ hf;refine a_index (j:=k) hf rfl rfl rfl rfl (by first | rfl | omega) (by omega) rfl ?_;clear hf;intro _ hf;refine a_load43 hf rfl rfl (by exact g0) (by exact g1) (by exact g2) (by exact g3) (by exact g4) (by exact g5) (by exact g6) (by exact g7) (by exact g8) (by exact g9) (by exact g10) (by exact g11) rfl ?_;clear hf;intro _ hf;refine a_alloc43 hf rfl rfl ?_;clear hf;intro _ hf;refine a_store43 hf rfl rfl rfl (heap_alloc_new wr _) rfl ?_;clear hf;intro _ w4 hf h18 hM;refine wpList_nil ?_;simp only [Exit.then,Exit.inBlock];go_step;have hb4 : Below wr.heap.size wr w4:=bel_modG (bel_alloc (Below.refl _ _) _) hM (Nat.le_refl _);replace h3:=(hb4.block _ (blk_lt h3)).trans h3;clear hM g0 g1 g2 g3 g4 g5 g6 g7 g8 g9 g10 g11;refine wp_seq_k ?_;intro _ _
        by_cases k1 : x.kind = 1
        rotate_left
        · refine wp_region_lit ?_
          refine a_field hf rfl rfl rfl rfl ?_;clear hf;intro _ hf;refine a_load hf rfl rfl rfl (by exact blk_cell h18 0) rfl ?_;clear hf;intro _ hf;refine a_cmp (b:=false) hf rfl rfl rfl rfl rfl (by first | assumption | ((try dsimp only);simp only [bq1,bq2,bq3,bq4,bq5,bq6,bq7] <;> omega)) rfl ?_;clear hf;intro _ hf;refine a_move hf rfl rfl rfl ?_;clear hf;intro _ hf
          (first | refine a_not hf rfl rfl rfl ?_ | refine a_move hf rfl rfl rfl ?_);clear hf;intro _ hf
          (first | refine a_not hf rfl rfl rfl ?_ | refine a_field hf rfl rfl rfl rfl ?_);clear hf;intro _ hf
          (first | refine a_not hf rfl rfl rfl ?_ | refine a_load hf rfl rfl rfl (by exact blk_cell h18 1) rfl ?_);clear hf;intro _ hf
          (first | refine a_not hf rfl rfl rfl ?_ | refine a_ar hf rfl rfl rfl rfl (by (try dsimp only);omega) rfl ?_);clear hf;intro _ hf
          (first | refine a_not hf rfl rfl rfl ?_ | refine a_field hf rfl rfl rfl rfl ?_);clear hf;intro _ hf
          (first | refine a_not hf rfl rfl rfl ?_ | refine a_load hf rfl rfl rfl (by exact blk_cell h3 2) rfl ?_);clear hf;intro _ hf
          refine a_not hf rfl rfl rfl ?_;clear hf;intro _ hf
          (first | refine a_pickT hf rfl rfl rfl rfl ?_ | refine a_pickF hf rfl rfl rfl rfl ?_);clear hf;intro _ hf
          refine wpList_nil ?_;simp only [Exit.then,Exit.inBlock];go_step;refine c_condF hf rfl ?_;refine wp_skip ?_;simp only [Exit.then,Exit.inBlock];exact ⟨(by trivial),b,(by simp [pubHit,k1]),((((((((hf.nilOf).cons (d:=4) (hf.at_ 4 _ rfl)).cons (d:=3) (hf.at_ 3 _ rfl)).cons (d:=2) (hf.at_ 2 _ rfl)).cons (d:=1) (hf.at_ 1 _ rfl)).cons (d:=10) (hf.at_ 10 _ rfl)).cons (d:=11) (hf.at_ 11 _ rfl)).cons (d:=17) (hf.at_ 17 _ rfl)),h3,hb4⟩
        cases hin : inB (min - x.minute) 0 C.win with
        | false =>
          refine wp_region_lit ?_;refine a_field hf rfl rfl rfl rfl ?_;clear hf;intro _ hf;refine a_load hf rfl rfl rfl (by exact blk_cell h18 0) rfl ?_;clear hf;intro _ hf;refine a_cmp (b:=true) hf rfl rfl rfl rfl rfl (by first | assumption | ((try dsimp only);simp only [bq1,bq2,bq3,bq4,bq5,bq6,bq7] <;> omega)) rfl ?_;clear hf;intro _ hf;refine a_move hf rfl rfl rfl ?_;clear hf;intro _ hf
          (first | refine a_not hf rfl rfl rfl ?_ | refine a_move hf rfl rfl rfl ?_);clear hf;intro _ hf
          (first | refine a_not hf rfl rfl rfl ?_ | refine a_field hf rfl rfl rfl rfl ?_);clear hf;intro _ hf
          (first | refine a_not hf rfl rfl rfl ?_ | refine a_load hf rfl rfl rfl (by exact blk_cell h18 1) rfl ?_);clear hf;intro _ hf
          (first | refine a_not hf rfl rfl rfl ?_ | refine a_ar hf rfl rfl rfl rfl (by (try dsimp only);omega) rfl ?_);clear hf;intro _ hf
          (first | refine a_not hf rfl rfl rfl ?_ | refine a_field hf rfl rfl rfl rfl ?_);clear hf;intro _ hf
          (first | refine a_not hf rfl rfl rfl ?_ | refine a_load hf rfl rfl rfl (by exact blk_cell h3 2) rfl ?_);clear hf;intro _ hf
          refine a_call3 hf e55 rfl rfl rfl rfl rfl ?_;clear hf;refine (in_as _ _ _ false hin _).mono ?_;rintro _ _ ⟨rfl,rfl⟩;intro _ hf
          (first | refine a_pickT hf rfl rfl rfl rfl ?_ | refine a_pickF hf rfl rfl rfl rfl ?_);clear hf;intro _ hf
          refine wpList_nil ?_;simp only [Exit.then,Exit.inBlock];go_step;refine c_condF hf rfl ?_;refine wp_skip ?_;simp only [Exit.then,Exit.inBlock];exact ⟨(by trivial),b,(by simp [pubHit,hin]),((((((((hf.nilOf).cons (d:=4) (hf.at_ 4 _ rfl)).cons (d:=3) (hf.at_ 3 _ rfl)).cons (d:=2) (hf.at_ 2 _ rfl)).cons (d:=1) (hf.at_ 1 _ rfl)).cons (d:=10) (hf.at_ 10 _ rfl)).cons (d:=11) (hf.at_ 11 _ rfl)).cons (d:=17) (hf.at_ 17 _ rfl)),h3,hb4⟩
        | true =>
          refine wp_region_lit ?_;refine a_field hf rfl rfl rfl rfl ?_;clear hf;intro _ hf;refine a_load hf rfl rfl rfl (by exact blk_cell h18 0) rfl ?_;clear hf;intro _ hf;refine a_cmp (b:=true) hf rfl rfl rfl rfl rfl (by first | assumption | ((try dsimp only);simp only [bq1,bq2,bq3,bq4,bq5,bq6,bq7] <;> omega)) rfl ?_;clear hf;intro _ hf;refine a_move hf rfl rfl rfl ?_;clear hf;intro _ hf
          (first | refine a_not hf rfl rfl rfl ?_ | refine a_move hf rfl rfl rfl ?_);clear hf;intro _ hf
          (first | refine a_not hf rfl rfl rfl ?_ | refine a_field hf rfl rfl rfl rfl ?_);clear hf;intro _ hf
          (first | refine a_not hf rfl rfl rfl ?_ | refine a_load hf rfl rfl rfl (by exact blk_cell h18 1) rfl ?_);clear hf;intro _ hf
          (first | refine a_not hf rfl rfl rfl ?_ | refine a_ar hf rfl rfl rfl rfl (by (try dsimp only);omega) rfl ?_);clear hf;intro _ hf
          (first | refine a_not hf rfl rfl rfl ?_ | refine a_field hf rfl rfl rfl rfl ?_);clear hf;intro _ hf
          (first | refine a_not hf rfl rfl rfl ?_ | refine a_load hf rfl rfl rfl (by exact blk_cell h3 2) rfl ?_);clear hf;intro _ hf
          refine a_call3 hf e55 rfl rfl rfl rfl rfl ?_;clear hf;refine (in_as _ _ _ true hin _).mono ?_;rintro _ _ ⟨rfl,rfl⟩;intro _ hf
          (first | refine a_pickT hf rfl rfl rfl rfl ?_ | refine a_pickF hf rfl rfl rfl rfl ?_);clear hf;intro _ hf
          refine wpList_nil ?_;simp only [Exit.then,Exit.inBlock];go_step;refine c_condT hf rfl ?_;refine wp_region_lit ?_;refine a_assign hf rfl rfl rfl ?_;clear hf;intro _ hf;refine wpList_nil ?_;simp only [Exit.then,Exit.inBlock];exact ⟨(by trivial),true,(by simp [pubHit,k1,hin]),((((((((hf.nilOf).cons (d:=4) (hf.at_ 4 _ rfl)).cons (d:=3) (hf.at_ 3 _ rfl)).cons (d:=2) (hf.at_ 2 _ rfl)).cons (d:=1) (hf.at_ 1 _ rfl)).cons (d:=10) (hf.at_ 10 _ rfl)).cons (d:=11) (hf.at_ 11 _ rfl)).cons (d:=17) (hf.at_ 17 _ rfl)),h3,hb4⟩
      rintro _ w9 ⟨b',hb',hf,h3',hb9⟩
      simp only [Exit.then];go_step;refine wp_region_lit ?_;refine a_move hf rfl rfl rfl ?_;clear hf;intro _ hf;refine a_ar hf rfl rfl rfl rfl (by (try dsimp only);omega) rfl ?_;clear hf;intro _ hf;refine a_assign hf rfl rfl rfl ?_;clear hf;intro _ hf;refine wpList_nil ?_;simp only [Exit.then,Exit.inBlock];exact ⟨acts.length - (k + 1),by omega,k + 1,b',by omega,rfl,((((((((hf.nilOf).cons (d:=4) (hf.at_ 4 _ rfl)).cons (d:=3) (hf.at_ 3 _ rfl)).cons (d:=2) (hf.at_ 2 _ rfl)).cons (d:=1) (hf.at_ 1 _ rfl)).cons (d:=10) (hf.at_ 10 _ rfl)).cons (d:=11) (hf.at_ 11 _ rfl)).cons (d:=17) (hf.at_ 17 _ rfl)),⟨by rw [HX.out];exact hb'⟩,h3',bel_then hB hb9⟩
    · have hke : k = acts.length:=by omega
      have HBE:=Aside.mk (show b = (r2 || acts.any (pubHit C.win min)) by have:=HB.out;rwa [hke,List.take_length] at this);refine wp_seq_k ?_;intro _ _;refine wp_seq_k ?_;intro _ _;refine wp_region_lit ?_;refine a_move hf rfl rfl rfl ?_;clear hf;intro _ hf;refine a_move hf rfl rfl rfl ?_;clear hf;intro _ hf;refine a_len hf rfl rfl rfl rfl ?_;clear hf;intro _ hf;refine a_cmp (b:=false) hf rfl rfl rfl rfl rfl (by first | assumption | ((try dsimp only);simp only [bq1,bq2,bq3,bq4,bq5,bq6,bq7] <;> omega)) rfl ?_;clear hf;intro _ hf;refine wpList_nil ?_;simp only [Exit.then,Exit.inBlock];go_step;refine c_condF hf rfl ?_;refine wp_exit ?_;simp only [Exit.then,Exit.inBlock,↓reduceIte];go_step;refine wp_seq_k ?_;intro _ _;refine wp_region_lit ?_;refine a_move hf rfl rfl rfl ?_;clear hf;intro _ hf;refine a_move hf rfl rfl rfl ?_;clear hf;intro _ hf;refine a_assign hf rfl rfl rfl ?_;clear hf;intro _ hf;refine a_assign hf rfl rfl rfl ?_;clear hf;intro _ hf;refine wpList_nil ?_;simp only [Exit.then,Exit.inBlock];go_step;refine wp_ret ?_
      try simp only [Exit.then,Exit.inBlock]
      exact c_ret2 hf rfl rfl rfl ⟨ret_eq (by unfold refPen;rw [← HGE.out,HBE.out]),hB⟩
end Go.Proofs.Ytpadgcomncljmaa.A
/- The plain law: what the court says of a case and of a car is what the reference says. -/
namespace Go.Proofs.Ytpadgcomncljmaa.A
open Go.RowKit
theorem CaseI.rul {C : CodeL} {acts : List ActL} {files : List FileL} (H : Inv C acts files) {k : Int} {p : Nat} {x : ActL} {l : List Int} {d : Int → Option Nat} (h2 : acts[p]? = some x) (h3 : x.kind = 2) (h5 : CaseI acts k p l d) (min : Int) :
    rulGo acts min l none = if 0 ≤ refDec acts k min then some (actAt acts (refDec acts k min)) else none:=by
  have e3:=h5.last (q:=3) (by decide) (by decide) min;have e5:=h5.last (q:=5) (by decide) (by decide) min
  have hp : ∀ l,rulGo acts min ((p : Int) :: l) none = rulGo acts min l none:=fun l => by
    rw [rulGo,actAt_some rfl h2];simp [rulStep,h3]
  have hs:=h5.shape
  unfold refDec
  rw [h5.list,List.map_append,List.map_append,List.map_append,hp]
  cases hs with
  | open_ d6 d3 d4 d5 =>
    rw [d3] at e3;rw [d5] at e5
    simp only at e3 e5
    rw [e3,e5,d3,d4,d5,d6]
    simp [rulGo]
  | drop i d6 d3 d4 d5 =>
    obtain ⟨y,hy,yk,_,ya⟩:=h5.look (by decide) (by decide) d6
    rw [d3] at e3;rw [d5] at e5
    simp only at e3 e5
    rw [e3,e5,d3,d4,d5,d6]
    simp [rulGo,ya,rulStep,yk]
  | dec i d6 d3 d4 d5 =>
    obtain ⟨y,hy,yk,_,ya⟩:=h5.look (by decide) (by decide) d3
    rw [d3] at e3;rw [d5] at e5;simp only [ya] at e3 e5;rw [e3,e5,d3,d4,d5,d6];have hi0 : ¬ (i : Int) < -1:=by omega
    by_cases hmin : y.minute ≤ min <;> simp [hmin,rulGo,ya,rulStep,yk,hi0]
  | app i j d6 d3 d4 d5 o =>
    obtain ⟨y,hy,yk,_,ya⟩:=h5.look (by decide) (by decide) d3
    obtain ⟨z,hz,zk,_,za⟩:=h5.look (by decide) (by decide) d4
    have hi0 : ¬ (i : Int) < -1:=by omega
    rw [d3] at e3;rw [d5] at e5;simp only [ya] at e3 e5;rw [e3,e5,d3,d4,d5,d6]
    by_cases hmin : y.minute ≤ min <;> simp [hmin,rulGo,ya,za,rulStep,yk,zk,hi0]
  | jud i j n d6 d3 d4 d5 o o' =>
    obtain ⟨y,hy,yk,_,ya⟩:=h5.look (by decide) (by decide) d3
    obtain ⟨z,hz,zk,_,za⟩:=h5.look (by decide) (by decide) d4
    obtain ⟨u,hu,uk,_,ua⟩:=h5.look (by decide) (by decide) d5
    have hyz:=H.mono o hy hz;have hzu:=H.mono o' hz hu;have hi0 : ¬ (i : Int) < -1:=by omega
    have hin : (i : Int) < n:=by omega
    rw [d3] at e3;rw [d5] at e5;simp only [ya,ua] at e3 e5;rw [e3,e5,d3,d4,d5,d6]
    by_cases hmin : y.minute ≤ min
    · by_cases hmin3 : u.minute ≤ min
      · simp [hmin,hmin3,rulGo,ya,za,ua,rulStep,yk,zk,uk,hin]
      · simp [hmin,hmin3,rulGo,ya,za,ua,rulStep,yk,zk,hi0]
    · have hmin3 : ¬ u.minute ≤ min:=by omega
      simp [hmin,hmin3,rulGo,ya,za,ua,rulStep,zk]
theorem Inv.protest {C : CodeL} {acts : List ActL} {files : List FileL} (H : Inv C acts files) {k : Nat} {f : FileL} (hf : files[k]? = some f) : inCase acts k ∧ protAct acts k = actAt acts f.protest:=by
  have hl:=(List.getElem?_eq_some_iff.1 hf).1;have e : (protGo acts 0)[k]? = some f.protest:=by rw [← H.prot,List.getElem?_map,hf];rfl
  have el : (protGo acts 0).length = files.length:=by rw [← H.prot];simp
  refine ⟨⟨by omega,by omega⟩,?_⟩
  unfold protAct
  rw [Int.toNat_natCast,e]
  rfl
theorem Inv.refSt {C : CodeL} {acts : List ActL} {files : List FileL} (H : Inv C acts files) {k : Nat} {f : FileL} (hf : files[k]? = some f) (min : Int) :
    refSt C acts k min = if min < (actAt acts f.protest).minute then 0 else stGo C.sec acts min f.acts 1:=by
  obtain ⟨h1,h2⟩:=H.protest hf
  unfold A.refSt
  rw [if_pos h1,h2]
  split
  · rfl
  · rw [H.state hf min (by omega)]
theorem Inv.force {C : CodeL} {acts : List ActL} {files : List FileL} (H : Inv C acts files) {k : Nat} {f : FileL} (hf : files[k]? = some f) (min : Int) (hm : (actAt acts f.protest).minute ≤ min) : forceR C acts min f.acts = refForce C acts k min:=by
  have hs:=H.refSt hf min;rw [if_neg (by omega)] at hs
  obtain ⟨p,x,d,h1,h2,h3,h4,h5,_⟩:=H.file_at hf
  have hr:=CaseI.rul H h2 h3 h5 min
  unfold refForce
  rw [hs]
  by_cases h : stGo C.sec acts min f.acts 1 = 3 ∨ stGo C.sec acts min f.acts 1 = 5
  · rw [if_pos h,force_yes (by unfold stIn;rcases h with h | h <;> simp [h])]
    obtain ⟨j,y,hy,hj⟩:=refSt_dec hs h
    rw [hr,if_pos (by omega)]
    simp
  · rw [if_neg h,force_no (by unfold stIn;simp;omega)]
theorem while_mem {min : Int} : ∀ {l : List ActL}, (∀ (i j : Nat) (x y : ActL), i ≤ j → l[i]? = some x → l[j]? = some y → x.minute ≤ y.minute) → ∀ x ∈ l, x.minute ≤ min → x ∈ upToL l min
  | [],_,x,hx,_ => by simp at hx
  | a :: l,hs,x,hx,hm => by
    have ha : a.minute ≤ min:=by
      obtain ⟨j,hj⟩:=List.getElem?_of_mem hx
      have:=hs 0 j a x (Nat.zero_le _) rfl hj
      omega
    unfold upToL
    rw [List.takeWhile_cons,if_pos (by simp [ha])]
    rcases List.mem_cons.1 hx with rfl | hx
    · exact List.mem_cons_self
    · exact List.mem_cons_of_mem _ (while_mem (fun i j u v hij hu hv => hs (i + 1) (j + 1) u v (by omega) (by simpa using hu) (by simpa using hv)) x hx hm)
theorem mem_upTo {min : Int} : ∀ {l : List ActL} {x : ActL}, x ∈ upToL l min → x ∈ l ∧ x.minute ≤ min
  | [],x,h => by simp [upToL] at h
  | a :: l,x,h => by
    unfold upToL at h
    rw [List.takeWhile_cons] at h
    split at h
    · rename_i ha
      rcases List.mem_cons.1 h with rfl | h
      · exact ⟨List.mem_cons_self,by simpa using ha⟩
      · obtain ⟨h1,h2⟩:=mem_upTo (min:=min) (l:=l) h
        exact ⟨List.mem_cons_of_mem _ h1,h2⟩
    · simp at h
theorem Inv.pubs {C : CodeL} {acts : List ActL} {files : List FileL} (H : Inv C acts files) (min : Int) : (upToL acts min).any (pubIn C.win min) = acts.any (pubHit C.win min):=by
  rw [Bool.eq_iff_iff,List.any_eq_true,List.any_eq_true]
  constructor
  · rintro ⟨x,hx,hp⟩
    obtain ⟨h1,h2⟩:=mem_upTo hx
    refine ⟨x,h1,?_⟩
    simp [pubIn] at hp
    simp [pubHit,inB,hp.1]
    omega
  · rintro ⟨x,hx,hp⟩
    simp [pubHit,inB] at hp
    refine ⟨x,while_mem H.sorted x hx (by omega),?_⟩
    simp [pubIn,hp.1]
    omega
theorem Inv.penGo {C : CodeL} {acts : List ActL} {files : List FileL} (H : Inv C acts files) (car min : Int) : ∀ n : Nat, n ≤ files.length →
    (penSum C acts min (againstL acts (files.take n) car min),penProv C acts min (againstL acts (files.take n) car min)) = refPenGo C acts car min n
  | 0,_ => by simp [againstL,penSum,penProv,refPenGo,sumI]
  | n + 1,hn => by
    obtain ⟨f,hf⟩:=get_some (l:=files) (k:=n) (by omega)
    have ih:=H.penGo car min n (by omega)
    obtain ⟨h1,h2⟩:=H.protest hf
    rw [drop_snoc hf]
    unfold refPenGo refPenStep
    rw [← ih,h2]
    have ea : againstL acts (files.take n ++ [f]) car min = againstL acts (files.take n) car min ++ (if agP acts car min f then [f] else []):=by
      unfold againstL
      rw [List.filter_append]
      congr 1
      cases h : agP acts car min f <;> simp [h]
    rw [ea];have hs:=H.refSt hf min
    by_cases hc : (actAt acts f.protest).against = car
    · rw [if_pos hc]
      by_cases hm : (actAt acts f.protest).minute ≤ min
      · have hag : agP acts car min f = true:=by simp [agP,hm,hc]
        rw [if_neg (show ¬ min < (actAt acts f.protest).minute by omega)] at hs;rw [hag,← H.force hf min hm,hs];simp only [↓reduceIte,penSum,penProv,List.map_append,List.map_cons,List.map_nil,sumI_snoc,List.any_append,List.any_cons,List.any_nil,Bool.or_false]
        rfl
      · have hag : agP acts car min f = false:=by simp [agP,hm]
        rw [if_pos (by omega)] at hs;rw [hag]
        simp [refForce,hs,stB]
    · have hag : agP acts car min f = false:=by simp [agP,hc]
      rw [if_neg hc,hag]
      simp
theorem Inv.penalty {C : CodeL} {acts : List ActL} {files : List FileL} (H : Inv C acts files) (car min : Int) : penaltyR C acts files car min = refPen C acts car min:=by
  have h:=H.penGo car min files.length (Nat.le_refl _);rw [List.take_length] at h;have el : (protGo acts 0).length = files.length:=by rw [← H.prot];simp
  unfold penaltyR refPen
  rw [el,← h,H.pubs]
end Go.Proofs.Ytpadgcomncljmaa.A
/- The reference's code and version;the statements' own guards. -/
namespace Go.Proofs.Ytpadgcomncljmaa.A
open Go.RowKit

def fitB (n : Nat) : Bool:=decide (n ≤ 20) || (decide (500 < n) && decide (n < 600))
set_option maxHeartbeats 1000000 in
theorem fit_any (cars win sec fee price : Int) (A : Option Addr) (cap n : Nat) (w : World) :
    Calls Try.prog 21 #[.agg #[.int .i64 cars,.slice A n cap,.int .i64 win,.int .i64 sec,.int .i64 fee,.int .i64 price]] w fun e w' => e = .returned (.bool (fitB n)) ∧ Below w.heap.size w w':=by
  go_enter Try.func21,Try.ntmps21
  go_wp2
  all_goals
    go_ret
    exact ⟨ret_eq (by unfold fitB;show Value.bool _ = Value.bool _;congr 1;rw [Bool.eq_iff_iff];simp;omega),bel_alloc (Below.refl _ _) _⟩

def rightB (cars car min : Int) : Bool:=decide (1 ≤ car) && decide (car ≤ cars) && decide (0 ≤ min) && decide (min ≤ 10000000)
set_option maxHeartbeats 1000000 in
theorem right_any (cars win sec fee price : Int) (A : Option Addr) (cap n : Nat) (car min : Int) (w : World) :
    Calls Try.prog 34 #[.agg #[.int .i64 cars,.slice A n cap,.int .i64 win,.int .i64 sec,.int .i64 fee,.int .i64 price],.int .i64 car,.int .i64 min] w fun e w' => e = .returned (.bool (rightB cars car min)) ∧ Below w.heap.size w w':=by
  go_enter Try.func34,Try.ntmps34
  go_wp2
  all_goals
    go_ret
    exact ⟨ret_eq (by unfold rightB;simp;omega),bel_alloc (Below.refl _ _) _⟩

theorem artLt_iff (y x : Art) : artLt y x = true ↔ ¬ (x.num < y.num ∨ (x.num = y.num ∧ x.since ≤ y.since)):=by
  unfold artLt;rw [decide_eq_true_iff];omega

set_option maxHeartbeats 2000000 in
set_option maxRecDepth 100000 in
theorem refCode_any (cars win sec fee price : Int) (A : Option Addr) (cap : Nat) (l : List Art) (w : World) (hl : RArt Any w A l) (hn : l.length ≤ 1000000) :
    Calls Try.prog 23 #[.agg #[.int .i64 cars,.slice A l.length cap,.int .i64 win,.int .i64 sec,.int .i64 fee,.int .i64 price]] w fun e w' => e = .returned (.bool (codeB cars win sec fee price l)) ∧ Below w.heap.size w w':=by
  have HL:=Aside.mk hl;clear hl;have hu71:=Try.underlying71
  by_cases hh : codeHead cars l.length win sec fee price = true
  rotate_left
  · have HH:=Aside.mk hh
    clear hh
    go_enter Try.func23,Try.ntmps23
    go_wp2_with (go_at_call 55;refine (in_any _ _ _ _).mono ?_;rintro e w' ⟨rfl,rfl⟩)
    all_goals first
      | (go_ret;exact ⟨ret_eq (by rw [show codeB cars win sec fee price l = false by simp [codeB,HH.out]];rfl),bel_alloc (Below.refl _ _) _⟩)
      | (exfalso;have:=HH.out;simp_all [codeHead];done)
  have hh':=hh;simp only [codeHead,Bool.and_eq_true] at hh'
  obtain ⟨⟨⟨⟨⟨h1,h2⟩,h3⟩,h4⟩,h5⟩,h6⟩:=hh'
  have HE:=Aside.mk (head_split h1 h2 h3 h4 h5 h6);clear hh
  go_enter Try.func23,Try.ntmps23
  go_wp2_with (go_at_call 55;refine (in_any _ _ _ _).mono ?_;rintro e w' ⟨rfl,rfl⟩)
  go_loopw [3] (fun v3 wr => ∃ k : Nat,k ≤ l.length ∧ v3 = .int .i64 k ∧ Aside (codeB cars win sec fee price l = artsB (prev l k) (l.drop k)) ∧ Aside (wr.heap[w.heap.size]? = some (.cells #[.int .i64 cars,.slice A l.length cap,.int .i64 win,.int .i64 sec,.int .i64 fee,.int .i64 price] 33 (0,0))) ∧ Below w.heap.size w wr) (fun i _ => l.length - (intOf i).toNat)
  case atStart => exact ⟨0,Nat.zero_le _,rfl,HE,⟨heap_alloc_new w _⟩,bel_alloc (Below.refl _ _) _⟩
  case round =>
    obtain ⟨k,hk,rfl,HE,HW,hB⟩:=hrel
    have HB:=Aside.mk hB;clear hB;have hc1 : wr.cell? ⟨w.heap.size,1,none⟩ = some (.slice A l.length cap):=(cell_of_row wr _ 1 _ _ _ HW.out).trans rfl;have hlw : w.heap.size < wr.heap.size:=(Array.getElem?_eq_some_iff.1 HW.out).1
    by_cases hlt : k < l.length
    · obtain ⟨x,hx⟩:=get_some hlt
      have HX:=Aside.mk hx;have HD:=Aside.mk (drop_get hx)
      obtain ⟨ad,rfl,_,h0,h1,h2,h3⟩:=(HL.out.below HB.out) k x hx
      clear hx
      by_cases hok : artOk x = true
      rotate_left
      · have HO:=Aside.mk (show artOk x = false by simpa using hok)
        clear hok
        go_wp2_with (go_at_call 55;refine (in_any _ _ _ _).mono ?_;rintro e w' ⟨rfl,rfl⟩)
        all_goals first
          | (go_ret;exact ⟨ret_eq (by rw [HE.out,HD.out,arts_bad HO.out];rfl),bel_alloc HB.out _⟩)
          | (exfalso;have:=HO.out;simp_all [artOk];done)
          | (exfalso;have:=HO.out;simp_all [artOk];omega)
      have HO:=Aside.mk hok;simp only [artOk,Bool.and_eq_true,decide_eq_true_eq] at hok
      obtain ⟨⟨⟨o1,o2⟩,o3⟩,o4⟩:=hok
      by_cases hk0 : 0 < k
      · obtain ⟨y,hy⟩:=get_some (show k - 1 < l.length by omega)
        obtain ⟨ad',had,_,g0,g1,g2,g3⟩:=(HL.out.below HB.out) (k - 1) y hy
        cases had
        have HY:=Aside.mk (show prev l k = some y by unfold prev;rw [if_neg (by omega)];exact hy);clear hy;replace g0:=cell_alloc g0;replace g1:=cell_alloc g1;have hi : ((k : Int) - 1).toNat = k - 1:=by omega
        have hb0 : (0 : Int) ≤ (k : Int) - 1:=by omega
        have hb1 : (k : Int) - 1 < (l.length : Int):=by omega
        by_cases ha : x.num < y.num
        · have had : decide (x.num < y.num) = true:=decide_eq_true ha
          have HLT:=Aside.mk (show artLt y x = false by rw [← Bool.not_eq_true,artLt_iff];omega);clear ha
          go_wp2_with (go_at_call 55;refine (in_any _ _ _ _).mono ?_;rintro e w' ⟨rfl,rfl⟩)
          go_quiet (fail)
          go_wp2
          go_ret
          exact ⟨ret_eq (by rw [HE.out,HD.out,HY.out,arts_stop HLT.out];rfl),bel_drewN (bel_alloc HB.out _) _⟩
        have had : decide (x.num < y.num) = false:=decide_eq_false ha
        by_cases hb : x.num = y.num
        · have hbd : (x.num == y.num) = true:=by simp [hb]
          by_cases hc : x.since ≤ y.since
          · have hcd : decide (x.since ≤ y.since) = true:=decide_eq_true hc
            have HLT:=Aside.mk (show artLt y x = false by rw [← Bool.not_eq_true,artLt_iff];omega);clear ha hb hc
            go_wp2_with (go_at_call 55;refine (in_any _ _ _ _).mono ?_;rintro e w' ⟨rfl,rfl⟩)
            go_quiet (fail)
            go_wp2
            go_ret
            exact ⟨ret_eq (by rw [HE.out,HD.out,HY.out,arts_stop HLT.out];rfl),bel_drewN (bel_alloc HB.out _) _⟩
          · have hcd : decide (x.since ≤ y.since) = false:=decide_eq_false hc
            have HLT:=Aside.mk (show artLt y x = true by exact (artLt_iff y x).2 (by omega));clear ha hb hc
            go_wp2_with (go_at_call 55;refine (in_any _ _ _ _).mono ?_;rintro e w' ⟨rfl,rfl⟩)
            go_quiet (fail)
            go_wp2
            go_roundw
            case rel => exact ⟨k + 1,by omega,by go_num,⟨by rw [HE.out,HD.out,HY.out,prev_succ l k x HX.out,arts_next HO.out HLT.out]⟩,⟨(Below.heap_alloc wr _ _ hlw).trans HW.out⟩,bel_drewN (bel_alloc HB.out _) _⟩
            case measure => simp [intOf];omega
        · have hbd : (x.num == y.num) = false:=by simp [hb]
          have HLT:=Aside.mk (show artLt y x = true by exact (artLt_iff y x).2 (by omega));clear ha hb
          go_wp2_with (go_at_call 55;refine (in_any _ _ _ _).mono ?_;rintro e w' ⟨rfl,rfl⟩)
          go_quiet (fail)
          go_wp2
          go_roundw
          case rel => exact ⟨k + 1,by omega,by go_num,⟨by rw [HE.out,HD.out,HY.out,prev_succ l k x HX.out,arts_next HO.out HLT.out]⟩,⟨(Below.heap_alloc wr _ _ hlw).trans HW.out⟩,bel_drewN (bel_alloc HB.out _) _⟩
          case measure => simp [intOf];omega
      · have hk1 : k < 1:=by omega
        have HP:=Aside.mk (show prev l k = none by unfold prev;rw [if_pos (by omega)]);have hd0 : decide (0 < k) = false:=decide_eq_false hk0;clear hk0
        go_wp2_with (go_at_call 55;refine (in_any _ _ _ _).mono ?_;rintro e w' ⟨rfl,rfl⟩)
        go_quiet (fail)
        go_wp2
        go_roundw
        case rel => exact ⟨k + 1,by omega,by go_num,⟨by rw [HE.out,HD.out,HP.out,prev_succ l k x HX.out,arts_first HO.out]⟩,⟨(Below.heap_alloc wr _ _ hlw).trans HW.out⟩,bel_drewN (bel_alloc HB.out _) _⟩
        case measure => simp [intOf];omega
    · have hke : k = l.length:=by omega
      have HK:=Aside.mk (show codeB cars win sec fee price l = true by rw [HE.out,hke];simp [artsB]);clear hke
      go_wp2
      go_ret
      exact ⟨ret_eq (by rw [HK.out];rfl),HB.out⟩
end Go.Proofs.Ytpadgcomncljmaa.A
/- The law of codes: its walk. -/
namespace Go.Proofs.Ytpadgcomncljmaa.A
open Go.RowKit
section
variable {ops : Array Oper} {Q : Exit → Act → World → Prop} {a : Act} {w : World} {rest : List Oper} {n d : Nat} {ds : List Deferred} {l : List (Nat × Value)} {t : TypeId} {ps : String} {af : Array Edge} {g : Option (Nat × Bool)} {x : Operand} {p : Option Addr}
theorem a_eqN (H : Has n ds l a) (hg : wantB ops n l g = some true) (hx : lookO l x = some (.pointer p)) (hd : Nat.ble (d + 1) n = true) (h : ∀ a',Has n ds ((d,.bool p.isNone) :: l) a' → wpList Try.prog ops Q rest a' w) : wpList Try.prog ops Q (⟨some d,.binOp .eql 37 x (.const (.pointer none)) 37,t,ps,af,g⟩ :: rest) a w :=
  a_do H hg (by have h1:=H.evO hx;have h2:=H.evO (x:=.const (.pointer none)) rfl;generalize a.eval = ev at h1 h2;cases p <;> simp [go_sem,h1,h2]) rfl hd h
end
theorem fit_as (C : CodeL) (A : Option Addr) (c : Nat) (b : Bool) (hb : fitB C.arts.length = b) (w : World) : Calls Try.prog 21 #[.agg #[.int .i64 C.cars,.slice A C.arts.length c,.int .i64 C.win,.int .i64 C.sec,.int .i64 C.fee,.int .i64 C.price]] w fun e w' => e = .returned (.bool b) ∧ Below w.heap.size w w':=by
  subst hb
  exact fit_any C.cars C.win C.sec C.fee C.price A c C.arts.length w
theorem refCode_as (C : CodeL) (A : Option Addr) (c : Nat) (b : Bool) (hb : codeOk C = b) (w : World) (hl : RArt Any w A C.arts) (hn : C.arts.length ≤ 1000000) : Calls Try.prog 23 #[.agg #[.int .i64 C.cars,.slice A C.arts.length c,.int .i64 C.win,.int .i64 C.sec,.int .i64 C.fee,.int .i64 C.price]] w fun e w' => e = .returned (.bool b) ∧ Below w.heap.size w w':=by
  subst hb
  exact refCode_any C.cars C.win C.sec C.fee C.price A c C.arts w hl hn
theorem fit_len {n : Nat} (h : fitB n = true) : n ≤ 1000000:=by
  simp only [fitB,Bool.or_eq_true,Bool.and_eq_true,decide_eq_true_eq] at h
  omega
end Go.Proofs.Ytpadgcomncljmaa.A
/- What the laws of records have in common. -/
namespace Go.Proofs.Ytpadgcomncljmaa.A
open Go.RowKit
theorem few_as (A : Option Addr) (ca : Nat) (l : List ActL) (b : Bool) (hb : fewB l 25 = b) (w : World) (ha : RAct Any w A l) (hn : l.length ≤ 9223372036854775807) : Calls Try.prog 22 #[.slice A l.length ca,.int .i64 25] w fun e w' => e = .returned (.bool b) ∧ Below w.heap.size w w':=by
  subst hb
  exact few_any A ca l 25 w ha (by decide) hn
theorem few_facts {l : List ActL} (h : fewB l 25 = true) : l.length ≤ 25 ∧ ∀ x ∈ l,x.facts.length ≤ 25:=by
  simp only [fewB,fewAll,Bool.and_eq_true,decide_eq_true_eq,List.all_eq_true] at h;refine ⟨h.2,fun x hx => h.1 x ?_⟩
  rwa [List.take_of_length_le (by omega)]
theorem right_as (C : CodeL) (A : Option Addr) (c : Nat) (car min : Int) (b : Bool) (hb : rightB C.cars car min = b) (w : World) :
    Calls Try.prog 34 #[.agg #[.int .i64 C.cars,.slice A C.arts.length c,.int .i64 C.win,.int .i64 C.sec,.int .i64 C.fee,.int .i64 C.price],.int .i64 car,.int .i64 min] w fun e w' => e = .returned (.bool b) ∧ Below w.heap.size w w':=by
  subst hb
  exact right_any C.cars C.win C.sec C.fee C.price A c C.arts.length car min w
theorem runT_full (C : CodeL) (l : List ActL) : (runT C l).2.2.length = l.length:=by
  have:=(runT_len C l l.length (Nat.le_refl _)).1
  rwa [List.take_length] at this
theorem right_check {cars car min : Int} (h : rightB cars car min = true) : checkR cars car min = 0 ∧ 0 ≤ min ∧ min ≤ 10000000:=by
  unfold rightB at h
  simp only [Bool.and_eq_true,decide_eq_true_eq] at h;refine ⟨?_,h.1.2,h.2⟩
  unfold checkR inB
  rw [if_pos]
  simp
  omega
theorem right_no {cars car min : Int} (h : rightB cars car min = false) : checkR cars car min = 2:=by
  unfold checkR
  rw [if_neg];intro h2;simp only [inB,Bool.and_eq_true,decide_eq_true_eq] at h2
  unfold rightB at h
  simp at h
  omega
theorem penB_as (n0 g : Nat) (C : CodeL) (acts : List ActL) (files : List FileL) (car min : Int) (pp : Int × Bool) (hpp : refPen C acts car min = pp) (hr : rightB C.cars car min = true) (w : World) (h : Crt n0 w g C acts files) :
    Calls Try.prog 32 #[.pointer (some ⟨g,0,none⟩),.int .i64 car,.int .i64 min] w fun e w' => e = .returned (.tuple #[.int .i64 pp.1,.bool pp.2,.int .i64 0]) ∧ Below w.heap.size w w' ∧ Crt n0 w' g C acts files:=by
  have hc:=(right_check hr).1;refine (pen_crt n0 g C acts files car min w h).mono ?_
  rintro e w' ⟨he,h2⟩
  refine ⟨?_,h2⟩;rw [he,hc]
  unfold penC
  rw [if_pos hc,h.inv.penalty,hpp]
theorem penB_off (n0 g : Nat) (C : CodeL) (acts : List ActL) (files : List FileL) (car min : Int) (hr : rightB C.cars car min = false) (w : World) (h : Crt n0 w g C acts files) :
    Calls Try.prog 32 #[.pointer (some ⟨g,0,none⟩),.int .i64 car,.int .i64 min] w fun e w' => e = .returned (.tuple #[.int .i64 0,.bool false,.int .i64 2]) ∧ Below w.heap.size w w' ∧ Crt n0 w' g C acts files:=by
  have hc:=right_no hr;refine (pen_crt n0 g C acts files car min w h).mono ?_
  rintro e w' ⟨he,h2⟩
  refine ⟨?_,h2⟩;rw [he,hc]
  unfold penC
  rw [if_neg (by omega)]
theorem refPenalty_as (C : CodeL) (A1 : Option Addr) (c1 : Nat) (acts : List ActL) (files : List FileL) (A : Option Addr) (c : Nat) (car min : Int) (pp : Int × Bool) (hpp : refPen C acts car min = pp) (w : World) (hr : RAct Any w A acts) (hi : Inv C acts files) (hm0 : 0 ≤ min) (hm1 : min ≤ 10000000) :
    Calls Try.prog 35 #[.agg #[.int .i64 C.cars,.slice A1 C.arts.length c1,.int .i64 C.win,.int .i64 C.sec,.int .i64 C.fee,.int .i64 C.price],.slice A acts.length c,.int .i64 car,.int .i64 min] w fun e w' => e = .returned (.tuple #[.int .i64 pp.1,.bool pp.2]) ∧ Below w.heap.size w w':=by
  subst hpp
  exact refPenalty_any C A1 c1 acts A c car min w hr (by have:=hi.len;omega) hi.minute hi.pen hm0 hm1
theorem a_index79 {ops : Array Oper} {Q : Exit → Act → World → Prop} {a : Act} {w : World} {rest : List Oper} {n d : Nat} {ds : List Deferred} {l : List (Nat × Value)} {t : TypeId} {ps : String} {af : Array Edge} {g : Option (Nat × Bool)} {x y : Operand} {p : Addr} {k c : Nat} {i : Int} {j : Nat} (H : Has n ds l a) (hg : wantB ops n l g = some true) (hx : lookO l x = some (.slice (some p) k c)) (hy : lookO l y = some (.int .i64 i)) (hi : i = j) (hj : j < k) (hd : Nat.ble (d + 1) n = true)
    (h : ∀ a',Has n ds ((d,.pointer (some (p.add j))) :: l) a' → wpList Try.prog ops Q rest a' w) : wpList Try.prog ops Q (⟨some d,.indexAddr 79 x y,t,ps,af,g⟩ :: rest) a w:=by
  subst hi
  have h0 : (0 : Int) ≤ (j : Int):=by omega
  have h1 : (j : Int) < (k : Int):=by omega
  refine a_do H hg ?_ rfl hd h;have hx:=H.evO hx;have hy:=H.evO hy
  generalize a.eval = ev at hx hy
  simp [go_sem,hx,hy,h0,h1,hj]
end Go.Proofs.Ytpadgcomncljmaa.A
/- A court that has done acts,and the record of them: the function court of the laws. -/
namespace Go.Proofs.Ytpadgcomncljmaa.A
open Go.RowKit
theorem mod_lt2 {O : Nat → Prop} {w wr w2 : World} (h : Below w.heap.size w wr) (hM : Mod O wr w2) (hO : ∀ k,O k → w.heap.size < k) : Below w.heap.size w w2 :=
  ⟨hM.os.trans h.os,hM.tape.trans h.tape,hM.output.trans h.output,Nat.le_trans h.size hM.size,fun k hk => (hM.block k (Nat.lt_of_lt_of_le hk h.size) (fun h' => by have:=hO k h';omega)).trans (h.block k hk)⟩
theorem own_ptr {w : World} {base : Nat} {e : TypeId} {size n m c : Nat} {p : Addr} {xs : List Value} (h : w.ownsRow base e size (.slice (some p) m c) n xs) : (Value.slice (some p) m c).ownBlock = some p.block:=by
  obtain ⟨h1,h2⟩:=h
  rcases h2 with h2 | ⟨g,cap,cur,hv,_⟩
  · obtain ⟨h2,_⟩:=h2;cases h2
  · cases hv;rfl
set_option maxHeartbeats 4000000 in
set_option maxRecDepth 100000 in
theorem court_any (C : CodeL) (A1 : Option Addr) (c1 : Nat) (A : Option Addr) (l : List ActL) (c : Nat) (w : World) (hC : RArt Any w A1 C.arts) (hn : C.arts.length ≤ 1000000) (hl : RAct Any w A l) (hl1 : l.length ≤ 1000000) (hfl : ∀ x ∈ l, x.facts.length ≤ 1000000) (hcode : codeOk C = true) :
    Calls Try.prog 30 #[.agg #[.int .i64 C.cars,.slice A1 C.arts.length c1,.int .i64 C.win,.int .i64 C.sec,.int .i64 C.fee,.int .i64 C.price],.slice A l.length c] w fun e w' => Below w.heap.size w w' ∧ ∃ g A7 c7,e = .returned (.tuple #[.pointer (some ⟨g,0,none⟩),.slice A7 (runT C l).1.length c7,.bool true]) ∧ Crt w.heap.size w' g C (runT C l).1 (runT C l).2.1 ∧ (runT C l).1.length ≤ c7 ∧ RAct Any w' A7 (runT C l).1:=by
  have HC:=Aside.mk hC;have HL:=Aside.mk (hl.mono (D':=fun k => k < w.heap.size) (fun k _ h => h));have HF:=Aside.mk hfl;have h2 : (w.alloc (.cells #[.int .i64 C.cars,.slice A1 C.arts.length c1,.int .i64 C.win,.int .i64 C.sec,.int .i64 C.fee,.int .i64 C.price] 33)).heap[w.heap.size]? = some (.cells #[.int .i64 C.cars,.slice A1 C.arts.length c1,.int .i64 C.win,.int .i64 C.sec,.int .i64 C.fee,.int .i64 C.price] 33 (0,0)):=heap_alloc_new w _;have hB : Below w.heap.size w (w.alloc (.cells #[.int .i64 C.cars,.slice A1 C.arts.length c1,.int .i64 C.win,.int .i64 C.sec,.int .i64 C.fee,.int .i64 C.price] 33)):=bel_alloc (Below.refl _ _) _;clear hC hl
  go_enter Try.func30,Try.ntmps30
  refine wp_abs (n:=54) (ds:=[]) (l:=[(0,.agg #[.int .i64 C.cars,.slice A1 C.arts.length c1,.int .i64 C.win,.int .i64 C.sec,.int .i64 C.fee,.int .i64 C.price]),(1,.slice A l.length c)]) ?_ ?_
  · refine ((Has.nil ?_ ?_).cons ?_).cons ?_
    all_goals first | rfl | (simp [Act.eval];done)
  intro _ hf;refine wp_seq_k ?_;intro _ _;refine wp_region_lit ?_;refine a_box hf rfl rfl rfl rfl ?_;clear hf;intro _ hf;refine a_assign hf rfl rfl rfl ?_;clear hf;intro _ hf;refine a_assign hf rfl rfl rfl ?_;clear hf;intro _ hf;refine a_assign hf rfl rfl rfl ?_;clear hf;intro _ hf;refine wpList_nil ?_;simp only [Exit.then,Exit.inBlock];go_step
  change Code.wp _ _ _ _ (w.alloc (.cells #[.int .i64 C.cars,.slice A1 C.arts.length c1,.int .i64 C.win,.int .i64 C.sec,.int .i64 C.fee,.int .i64 C.price] 33))
  generalize (w.alloc (.cells #[.int .i64 C.cars,.slice A1 C.arts.length c1,.int .i64 C.win,.int .i64 C.sec,.int .i64 C.fee,.int .i64 C.price] 33)) = W0 at *
  refine wp_seq_k ?_;intro _ _;refine wp_region_lit ?_;refine a_load33b hf rfl rfl (by exact h2) rfl ?_;clear hf;intro _ hf;refine a_call1 hf e24 rfl rfl rfl ?_;clear hf;refine (open_crtO C A1 c1 _ (HC.out.below hB) hn hcode).mono ?_;rintro _ w1 ⟨hb,g,rfl,hK⟩;have hs0:=blk_lt h2;replace hK:=hK.mono (O':=fun k => w.heap.size < k ∧ k < w1.heap.size) (fun k hk _ => ⟨by omega,hk.2⟩);replace hB:=bel_then hB hb;replace h2:=(hb.block _ (blk_lt h2)).trans h2;clear hb;intro _ hf;refine a_move hf rfl rfl rfl ?_;clear hf;intro _ hf;refine a_extract hf rfl rfl rfl rfl ?_;clear hf;intro _ hf;refine a_extract hf rfl rfl rfl rfl ?_;clear hf;intro _ hf;refine a_assign hf rfl rfl rfl ?_;clear hf;intro _ hf;refine a_assign hf rfl rfl rfl ?_;clear hf;intro _ hf;refine wpList_nil ?_;simp only [Exit.then,Exit.inBlock];go_step;refine wp_seq_k ?_;intro _ _;refine wp_seq_k ?_;intro _ _;refine wp_region_lit ?_;refine a_move hf rfl rfl rfl ?_;clear hf;intro _ hf;refine a_cmp hf rfl rfl rfl rfl rfl rfl rfl ?_;clear hf;intro _ hf;refine a_move hf rfl rfl rfl ?_;clear hf;intro _ hf
  (first | refine a_not hf rfl rfl rfl ?_ | refine a_move hf rfl rfl rfl ?_);clear hf;intro _ hf
  (first | refine a_not hf rfl rfl rfl ?_ | refine a_eqN hf rfl rfl rfl ?_);clear hf;intro _ hf
  (first | refine a_pickT hf rfl rfl rfl rfl ?_ | refine a_pickF hf rfl rfl rfl rfl ?_);clear hf;intro _ hf
  refine wpList_nil ?_;simp only [Exit.then,Exit.inBlock];go_step;refine c_condF hf rfl ?_;refine wp_skip ?_;simp only [Exit.then,Exit.inBlock];go_step;refine wp_seq_k ?_;intro _ _;refine wp_region_lit ?_;refine a_load33b hf rfl rfl (by exact h2) rfl ?_;clear hf;intro _ hf;refine a_move hf rfl rfl rfl ?_;clear hf;intro _ hf;refine a_call2 hf e43 rfl rfl rfl rfl ?_;clear hf;refine (refDo_any (fun j => j < w.heap.size) C A1 c1 l A c w1 (HC.out.below hB) hn (HL.out.below hB) (fun k hk => by have:=hB.size;omega) hl1 hfl hcode).mono ?_;rintro _ w5 ⟨hb,v,cs,u,rfl,hDW⟩;have hs5:=hb.size;replace hK:=hK.below hb;replace hB:=bel_then hB hb;replace h2:=(hb.block _ (blk_lt h2)).trans h2;clear hb;intro _ hf;refine a_move hf rfl rfl rfl ?_;clear hf;intro _ hf;refine a_extract hf rfl rfl rfl rfl ?_;clear hf;intro _ hf;refine a_extract hf rfl rfl rfl rfl ?_;clear hf;intro _ hf;refine a_assign hf rfl rfl rfl ?_;clear hf;intro _ hf;refine a_assign hf rfl rfl rfl ?_;clear hf;intro _ hf;refine wpList_nil ?_;simp only [Exit.then,Exit.inBlock];go_step;have hsb:=hB.size
  obtain ⟨es,hes⟩ : ∃ es,(runT C l).2.2 = es:=⟨_,rfl⟩
  obtain ⟨rec,hrec⟩ : ∃ rec,(runT C l).1 = rec:=⟨_,rfl⟩
  have hesl:=runT_full C l;rw [hes] at hesl;rw [hes,hrec] at hDW
  obtain ⟨base,hbase⟩ : ∃ base,w1.heap.size = base:=⟨_,rfl⟩
  rw [hbase] at hDW;have hv0 : ∀ j,v.ownBlock = some j → ¬ (w.heap.size < j ∧ j < w1.heap.size):=fun j hj hO => by have:=own_base hDW.own j hj;omega
  have hu0 : ∀ j,u.ownBlock = some j → ¬ (w.heap.size < j ∧ j < w1.heap.size):=fun j hj hO => by have:=own_base hDW.eown j hj;omega
  refine wp_seq_k ?_;intro _ _;refine wp_seq_k ?_;intro _ _;refine wp_region_lit ?_;refine a_assign hf rfl rfl rfl ?_;clear hf;intro _ hf;refine wpList_nil ?_;simp only [Exit.then,Exit.inBlock];go_step;refine wp_block ?_;refine wp_loop_ghost (fun m fr wr => ∃ (k : Nat) (O : Nat → Prop),k ≤ l.length ∧ m = l.length - k ∧ Has 54 [] [(11,.int .i64 (k : Int)),(10,u),(9,v),(7,.pointer (some ⟨g,0,none⟩)),(2,.pointer (some ⟨w.heap.size,0,none⟩)),(1,.slice A l.length c)] fr ∧ CrtO O wr g C (runT C (l.take k)).1 (runT C (l.take k)).2.1 ∧ (∀ j,O j → w.heap.size < j) ∧ DoW (fun j => j < w.heap.size) base wr rec v cs es u ∧ (∀ j,v.ownBlock = some j → ¬ O j) ∧ (∀ j,u.ownBlock = some j → ¬ O j) ∧ wr.heap[w.heap.size]? = some (.cells #[.int .i64 C.cars,.slice A1 C.arts.length c1,.int .i64 C.win,.int .i64 C.sec,.int .i64 C.fee,.int .i64 C.price] 33 (0,0)) ∧ Below w.heap.size w wr) l.length ?_ ?_
  · exact ⟨0,_,Nat.zero_le _,rfl,(((((((hf.nilOf).cons (d:=1) (hf.at_ 1 _ rfl)).cons (d:=2) (hf.at_ 2 _ rfl)).cons (d:=7) (hf.at_ 7 _ rfl)).cons (d:=9) (hf.at_ 9 _ rfl)).cons (d:=10) (hf.at_ 10 _ rfl)).cons (d:=11) (hf.at_ 11 _ rfl)),hK,fun k hk => hk.1,hDW,hv0,hu0,h2,hB⟩
  clear hK h2 hB hf hs0 hDW hv0 hu0 hsb hs5
  rintro m fr wr ⟨k,O,hk',rfl,hf,hK,hO,hDW,hv,hu,h2,hB⟩
  by_cases hlt : k < l.length
  · obtain ⟨x,hx⟩:=get_some hlt
    have hxf:=HF.out x (List.mem_of_getElem? hx);have HST:=Aside.mk (runT_take (C:=C) hx);have hee:=runT_err (C:=C) hx;rw [hes] at hee;have hsw:=blk_lt h2
    obtain ⟨ad,B8,d8,rfl,hda,ha⟩:=(HL.out.below hB) k x hx
    obtain ⟨E,cE,rfl,hcE,hRE⟩:=own_errs hDW.eown
    obtain ⟨pd,rfl,_,hpc⟩:=hRE k _ hee
    obtain ⟨g0,g1,g2,g3,g4,g5,g6,g7,g8,g9,g10,g11,hc8,hr8⟩:=ha
    obtain ⟨sk,hsk⟩ : ∃ sk,runT C (l.take k) = sk:=⟨_,rfl⟩
    rw [hsk] at hK hee hpc;have hpO : ¬ O (pd.add k).block:=fun hO' => hu pd.block (by have:=own_ptr hDW.eown;exact this) (by rw [show (pd.add k).block = pd.block from by unfold Addr.add;split <;> rfl] at hO';exact hO');clear hx hRE;refine wp_seq_k ?_;intro _ _;refine wp_seq_k ?_;intro _ _;refine wp_region_lit ?_;refine a_move hf rfl rfl rfl ?_;clear hf;intro _ hf;refine a_move hf rfl rfl rfl ?_;clear hf;intro _ hf;refine a_len hf rfl rfl rfl rfl ?_;clear hf;intro _ hf;refine a_cmp (b:=true) hf rfl rfl rfl rfl rfl (by first | assumption | ((try dsimp only);simp only [bq1,bq2,bq3,bq4,bq5,bq6,bq7] <;> omega)) rfl ?_;clear hf;intro _ hf;refine wpList_nil ?_;simp only [Exit.then,Exit.inBlock];go_step;refine c_condT hf rfl ?_;refine wp_skip ?_;simp only [Exit.then];go_step;refine wp_seq_k ?_;intro _ _;refine wp_block ?_;refine wp_seq_k ?_;intro _ _;refine wp_region_lit ?_;refine a_move hf rfl rfl rfl ?_;clear hf;intro _ hf;refine a_move hf rfl rfl rfl ?_;clear hf;intro _ hf;refine a_move hf rfl rfl rfl ?_;clear hf;intro _ hf;refine a_index (j:=k) hf rfl rfl rfl rfl (by first | rfl | omega) (by omega) rfl ?_;clear hf;intro _ hf;refine a_load43 hf rfl rfl (by exact g0) (by exact g1) (by exact g2) (by exact g3) (by exact g4) (by exact g5) (by exact g6) (by exact g7) (by exact g8) (by exact g9) (by exact g10) (by exact g11) rfl ?_;clear hf;intro _ hf;refine a_call2 hf e26 rfl rfl rfl rfl ?_;clear hf;refine (do_crtO O g C sk.1 sk.2.1 x B8 d8 _ hK (hr8.mono (fun j hj _ hO' => by have:=hO j hO';omega)) hc8 hxf).mono ?_;rintro _ w10 ⟨rfl,hM,hK2⟩;intro _ hf;refine a_move hf rfl rfl rfl ?_;clear hf;intro _ hf;refine a_extract hf rfl rfl rfl rfl ?_;clear hf;intro _ hf;refine a_extract hf rfl rfl rfl rfl ?_;clear hf;intro _ hf;refine a_assign hf rfl rfl rfl ?_;clear hf;intro _ hf;refine a_assign hf rfl rfl rfl ?_;clear hf;intro _ hf;refine wpList_nil ?_;simp only [Exit.then,Exit.inBlock];go_step;clear g0 g1 g2 g3 g4 g5 g6 g7 g8 g9 g10 g11 hr8;have hB10:=mod_lt2 hB hM hO;have hnO : ∀ j,j ≤ w.heap.size → ¬ O j:=fun j hj hO' => by have:=hO j hO';omega
    have h210:=(hM.block _ (blk_lt h2) (hnO _ (Nat.le_refl _))).trans h2;replace hpc:=(World.cell?_of_block (hM.block _ (lt_of_cell hpc) hpO)).trans hpc
    have hDW2 : DoW (fun j => j < w.heap.size) base w10 rec v cs es (.slice (some pd) es.length cE) :=
      ⟨own_keep hDW.own (fun q hq => hM.block q (own_lt' hDW.own q hq) (hv q hq)),hDW.are.move (fun q hq hl => hM.block q hl (hnO q (Nat.le_of_lt hq))),own_keep hDW.eown (fun q hq => hM.block q (own_lt' hDW.eown q hq) (hu q hq)),hDW.far⟩
    have hO2 : ∀ j,grow O wr w10 j → w.heap.size < j:=fun j hj => by
      rcases hj.1 with h | h
      · exact hO j h
      · omega
    have hv2 : ∀ j,v.ownBlock = some j → ¬ grow O wr w10 j:=fun j hj hg => by
      rcases hg.1 with h | h
      · exact hv j hj h
      · have:=own_lt' hDW.own j hj;omega
    have hu2 : ∀ j,(Value.slice (some pd) es.length cE).ownBlock = some j → ¬ grow O wr w10 j:=fun j hj hg => by
      rcases hg.1 with h | h
      · exact hu j hj h
      · have:=own_lt' hDW.eown j hj;omega
    have hK3 : CrtO (grow O wr w10) w10 g C (runT C (l.take (k + 1))).1 (runT C (l.take (k + 1))).2.1:=by rw [HST.out,hsk];exact hK2
    clear hK2 hM hDW hv hu h2 hB hO hK hnO hpO;refine wp_seq_k ?_;intro _ _;refine wp_region_lit ?_;refine a_move hf rfl rfl rfl ?_;clear hf;intro _ hf;refine a_move hf rfl rfl rfl ?_;clear hf;intro _ hf;refine a_move hf rfl rfl rfl ?_;clear hf;intro _ hf;refine a_index79 (j:=k) hf rfl rfl rfl (by omega) (by omega) rfl ?_;clear hf;intro _ hf;refine a_load hf rfl rfl rfl (by exact hpc) rfl ?_;clear hf;intro _ hf;refine a_cmp (b:=false) hf rfl rfl rfl rfl rfl (by simp) rfl ?_;clear hf;intro _ hf;refine wpList_nil ?_;simp only [Exit.then,Exit.inBlock];go_step;refine c_condF hf rfl ?_;refine wp_skip ?_;simp only [Exit.then,Exit.inBlock];go_step;refine wp_region_lit ?_;refine a_move hf rfl rfl rfl ?_;clear hf;intro _ hf;refine a_ar hf rfl rfl rfl rfl (by (try dsimp only);omega) rfl ?_;clear hf;intro _ hf;refine a_assign hf rfl rfl rfl ?_;clear hf;intro _ hf;refine wpList_nil ?_;simp only [Exit.then,Exit.inBlock];exact ⟨l.length - (k + 1),by omega,k + 1,_,by omega,rfl,(((((((hf.nilOf).cons (d:=1) (hf.at_ 1 _ rfl)).cons (d:=2) (hf.at_ 2 _ rfl)).cons (d:=7) (hf.at_ 7 _ rfl)).cons (d:=9) (hf.at_ 9 _ rfl)).cons (d:=10) (hf.at_ 10 _ rfl)).cons (d:=11) (hf.at_ 11 _ rfl)),hK3,hO2,hDW2,hv2,hu2,h210,hB10⟩
  · have hke : k = l.length:=by omega
    subst hke
    rw [List.take_length] at hK
    obtain ⟨A7,c7,rfl,hc7,hra⟩:=hDW.reads
    refine wp_seq_k ?_;intro _ _;refine wp_seq_k ?_;intro _ _;refine wp_region_lit ?_;refine a_move hf rfl rfl rfl ?_;clear hf;intro _ hf;refine a_move hf rfl rfl rfl ?_;clear hf;intro _ hf;refine a_len hf rfl rfl rfl rfl ?_;clear hf;intro _ hf;refine a_cmp (b:=false) hf rfl rfl rfl rfl rfl (by first | assumption | ((try dsimp only);simp only [bq1,bq2,bq3,bq4,bq5,bq6,bq7] <;> omega)) rfl ?_;clear hf;intro _ hf;refine wpList_nil ?_;simp only [Exit.then,Exit.inBlock];go_step;refine c_condF hf rfl ?_;refine wp_exit ?_;simp only [Exit.then,Exit.inBlock,↓reduceIte];go_step;refine wp_seq_k ?_;intro _ _;refine wp_region_lit ?_;refine a_move hf rfl rfl rfl ?_;clear hf;intro _ hf;refine a_move hf rfl rfl rfl ?_;clear hf;intro _ hf;refine a_assign hf rfl rfl rfl ?_;clear hf;intro _ hf;refine a_assign hf rfl rfl rfl ?_;clear hf;intro _ hf;refine a_assign hf rfl rfl rfl ?_;clear hf;intro _ hf;refine wpList_nil ?_;simp only [Exit.then,Exit.inBlock];go_step;refine wp_ret ?_
    try simp only [Exit.then,Exit.inBlock]
    refine c_ret3 hf rfl rfl rfl rfl ⟨hB,g,A7,c7,?_,hK.toCrt (fun j hj => Nat.le_of_lt (hO j hj)),?_,?_⟩
    · rw [hrec]
    · rw [hrec];exact hc7
    · rw [hrec];exact hra
end Go.Proofs.Ytpadgcomncljmaa.A
/- The state of a case: the whole of State. -/
namespace Go.Proofs.Ytpadgcomncljmaa.A
open Go.RowKit
theorem coreSt_ne {C : CodeL} {acts : List ActL} {k min : Int} : coreSt C acts k min ≠ 0:=by
  unfold coreSt
  repeat' split
  all_goals decide
theorem refSt_out {C : CodeL} {acts : List ActL} {files : List FileL} (H : Inv C acts files) {num min : Int} (h : num < 0 ∨ (files.length : Int) ≤ num) : refSt C acts num min = 0:=by
  have el : (protGo acts 0).length = files.length:=by rw [← H.prot];simp
  unfold refSt
  rw [if_neg]
  rintro ⟨h1,h2⟩
  omega
set_option maxHeartbeats 4000000 in
set_option maxRecDepth 100000 in
theorem state_full (n0 g : Nat) (C : CodeL) (acts : List ActL) (files : List FileL) (num min s e5 : Int) (hs : refSt C acts num min = s) (he5 : (if s = 0 then 5 else 0) = e5) (hm0 : 0 ≤ min) (hm1 : min ≤ 10000000) (w : World) (h : Crt n0 w g C acts files) :
    Calls Try.prog 31 #[.pointer (some ⟨g,0,none⟩),.int .i64 num,.int .i64 min] w fun e w' => e = .returned (.tuple #[.int .i64 s,.int .i64 e5]) ∧ Below w.heap.size w w':=by
  have hC:=h.reads;have hi:=h.inv;have HC:=Aside.mk hC
  obtain ⟨A1,c1,A7,c7,A8,c8,hg,_,_,h3w,_,hn,hfn⟩:=hC
  have H3:=Aside.mk h3w;have h8:=court8 hg;have h6 : w.cell? ⟨g,6,none⟩ = some (.bool true):=blk_cell hg 6;have hmb : inB min 0 10000000 = true:=by simp [inB,hm0,hm1]
  clear h3w hg h
  go_enter Try.func31,Try.ntmps31
  refine wp_abs (n:=48) (ds:=[]) (l:=[(0,.pointer (some ⟨g,0,none⟩)),(1,.int .i64 num),(2,.int .i64 min)]) ?_ ?_
  · refine (((Has.nil ?_ ?_).cons ?_).cons ?_).cons ?_
    all_goals first | rfl | (simp [Act.eval];done)
  intro _ hf;refine wp_seq_k ?_;intro _ _;refine wp_region_lit ?_;refine a_assign hf rfl rfl rfl ?_;clear hf;intro _ hf;refine a_assign hf rfl rfl rfl ?_;clear hf;intro _ hf;refine wpList_nil ?_;simp only [Exit.then,Exit.inBlock];go_step;refine wp_seq_k ?_;intro _ _;refine wp_seq_k ?_;intro _ _;refine wp_region_lit ?_;refine a_move hf rfl rfl rfl ?_;clear hf;intro _ hf;refine a_call1 hf e61 rfl rfl rfl ?_;clear hf;refine (ready_any g true w h6).mono ?_;rintro _ w1 ⟨rfl,rfl⟩;intro _ hf;refine a_not_ hf rfl rfl rfl ?_;clear hf;intro _ hf;refine wpList_nil ?_;simp only [Exit.then,Exit.inBlock];go_step;refine c_condF hf rfl ?_;refine wp_skip ?_;simp only [Exit.then,Exit.inBlock];go_step;refine wp_seq_k ?_;intro _ _;refine wp_seq_k ?_;intro _ _;refine wp_region_lit ?_;refine a_move hf rfl rfl rfl ?_;clear hf;intro _ hf;refine a_call3 hf e52 rfl rfl rfl rfl rfl ?_;clear hf;refine (within_as min 0 10000000 true hmb _).mono ?_;rintro _ w1 ⟨rfl,rfl⟩;intro _ hf;refine a_not_ hf rfl rfl rfl ?_;clear hf;intro _ hf;refine wpList_nil ?_;simp only [Exit.then,Exit.inBlock];go_step;refine c_condF hf rfl ?_;refine wp_skip ?_;simp only [Exit.then,Exit.inBlock];go_step;refine wp_seq_k ?_;intro _ _;refine wp_seq_k ?_;intro _ _
  by_cases hn0 : num < 0
  · have hz:=refSt_out hi (num:=num) (min:=min) (.inl hn0)
    rw [hs] at hz
    subst hz
    have he : e5 = 5:=by rw [← he5];rfl
    refine wp_region_lit ?_;refine a_move hf rfl rfl rfl ?_;clear hf;intro _ hf;refine a_cmp (b:=true) hf rfl rfl rfl rfl rfl (by first | assumption | ((try dsimp only);simp only [bq1,bq2,bq3,bq4,bq5,bq6,bq7] <;> omega)) rfl ?_;clear hf;intro _ hf;refine a_move hf rfl rfl rfl ?_;clear hf;intro _ hf
    (first | refine a_not hf rfl rfl rfl ?_ | refine a_move hf rfl rfl rfl ?_);clear hf;intro _ hf
    (first | refine a_not hf rfl rfl rfl ?_ | refine a_move hf rfl rfl rfl ?_);clear hf;intro _ hf
    (first | refine a_not hf rfl rfl rfl ?_ | refine a_nilCheck hf rfl rfl rfl ?_);clear hf;intro _ hf
    (first | refine a_not hf rfl rfl rfl ?_ | refine a_field hf rfl rfl rfl rfl ?_);clear hf;intro _ hf
    (first | refine a_not hf rfl rfl rfl ?_ | refine a_load hf rfl rfl rfl (by exact h8) rfl ?_);clear hf;intro _ hf
    (first | refine a_not hf rfl rfl rfl ?_ | refine a_len hf rfl rfl rfl rfl ?_);clear hf;intro _ hf
    (first | refine a_not hf rfl rfl rfl ?_ | refine a_cmp hf rfl rfl rfl rfl rfl rfl rfl ?_);clear hf;intro _ hf
    (first | refine a_pickT hf rfl rfl rfl rfl ?_ | refine a_pickF hf rfl rfl rfl rfl ?_);clear hf;intro _ hf
    refine a_move hf rfl rfl rfl ?_;clear hf;intro _ hf
    (first | refine a_not hf rfl rfl rfl ?_ | refine a_move hf rfl rfl rfl ?_);clear hf;intro _ hf
    (first | refine a_not hf rfl rfl rfl ?_ | refine a_move hf rfl rfl rfl ?_);clear hf;intro _ hf
    (first | refine a_not hf rfl rfl rfl ?_ | refine a_nilCheck hf rfl rfl rfl ?_);clear hf;intro _ hf
    (first | refine a_not hf rfl rfl rfl ?_ | refine a_field hf rfl rfl rfl rfl ?_);clear hf;intro _ hf
    (first | refine a_not hf rfl rfl rfl ?_ | refine a_load hf rfl rfl rfl (by assumption) rfl ?_);clear hf;intro _ hf
    (first | refine a_not hf rfl rfl rfl ?_ | refine a_move hf rfl rfl rfl ?_);clear hf;intro _ hf
    refine a_not hf rfl rfl rfl ?_;clear hf;intro _ hf;refine a_not hf rfl rfl rfl ?_;clear hf;intro _ hf
    (first | refine a_not hf rfl rfl rfl ?_ | refine a_move hf rfl rfl rfl ?_);clear hf;intro _ hf
    refine a_not hf rfl rfl rfl ?_;clear hf;intro _ hf
    (first | refine a_not hf rfl rfl rfl ?_ | refine a_not_ hf rfl rfl rfl ?_);clear hf;intro _ hf
    (first | refine a_pickT hf rfl rfl rfl rfl ?_ | refine a_pickF hf rfl rfl rfl rfl ?_);clear hf;intro _ hf
    refine wpList_nil ?_;simp only [Exit.then,Exit.inBlock];go_step;refine c_condT hf rfl ?_;refine wp_seq_k ?_;intro _ _;refine wp_region_lit ?_;refine a_assign hf rfl rfl rfl ?_;clear hf;intro _ hf;refine a_assign hf rfl rfl rfl ?_;clear hf;intro _ hf;refine wpList_nil ?_;simp only [Exit.then,Exit.inBlock];go_step;refine wp_ret ?_
    try simp only [Exit.then]
    exact c_ret2 hf rfl rfl rfl ⟨by rw [he],Below.refl _ _⟩
  by_cases hn1 : (files.length : Int) ≤ num
  · have hz:=refSt_out hi (num:=num) (min:=min) (.inr hn1)
    rw [hs] at hz
    subst hz
    have he : e5 = 5:=by rw [← he5];rfl
    refine wp_region_lit ?_;refine a_move hf rfl rfl rfl ?_;clear hf;intro _ hf;refine a_cmp (b:=false) hf rfl rfl rfl rfl rfl (by first | assumption | ((try dsimp only);simp only [bq1,bq2,bq3,bq4,bq5,bq6,bq7] <;> omega)) rfl ?_;clear hf;intro _ hf;refine a_move hf rfl rfl rfl ?_;clear hf;intro _ hf
    (first | refine a_not hf rfl rfl rfl ?_ | refine a_move hf rfl rfl rfl ?_);clear hf;intro _ hf
    (first | refine a_not hf rfl rfl rfl ?_ | refine a_move hf rfl rfl rfl ?_);clear hf;intro _ hf
    (first | refine a_not hf rfl rfl rfl ?_ | refine a_nilCheck hf rfl rfl rfl ?_);clear hf;intro _ hf
    (first | refine a_not hf rfl rfl rfl ?_ | refine a_field hf rfl rfl rfl rfl ?_);clear hf;intro _ hf
    (first | refine a_not hf rfl rfl rfl ?_ | refine a_load hf rfl rfl rfl (by exact h8) rfl ?_);clear hf;intro _ hf
    (first | refine a_not hf rfl rfl rfl ?_ | refine a_len hf rfl rfl rfl rfl ?_);clear hf;intro _ hf
    (first | refine a_not hf rfl rfl rfl ?_ | refine a_cmp (b:=true) hf rfl rfl rfl rfl rfl (by first | assumption | ((try dsimp only);simp only [bq1,bq2,bq3,bq4,bq5,bq6,bq7] <;> omega)) rfl ?_);clear hf;intro _ hf
    (first | refine a_pickT hf rfl rfl rfl rfl ?_ | refine a_pickF hf rfl rfl rfl rfl ?_);clear hf;intro _ hf
    refine a_move hf rfl rfl rfl ?_;clear hf;intro _ hf
    (first | refine a_not hf rfl rfl rfl ?_ | refine a_move hf rfl rfl rfl ?_);clear hf;intro _ hf
    (first | refine a_not hf rfl rfl rfl ?_ | refine a_move hf rfl rfl rfl ?_);clear hf;intro _ hf
    (first | refine a_not hf rfl rfl rfl ?_ | refine a_nilCheck hf rfl rfl rfl ?_);clear hf;intro _ hf
    (first | refine a_not hf rfl rfl rfl ?_ | refine a_field hf rfl rfl rfl rfl ?_);clear hf;intro _ hf
    (first | refine a_not hf rfl rfl rfl ?_ | refine a_load hf rfl rfl rfl (by assumption) rfl ?_);clear hf;intro _ hf
    (first | refine a_not hf rfl rfl rfl ?_ | refine a_move hf rfl rfl rfl ?_);clear hf;intro _ hf
    refine a_not hf rfl rfl rfl ?_;clear hf;intro _ hf;refine a_not hf rfl rfl rfl ?_;clear hf;intro _ hf
    (first | refine a_not hf rfl rfl rfl ?_ | refine a_move hf rfl rfl rfl ?_);clear hf;intro _ hf
    refine a_not hf rfl rfl rfl ?_;clear hf;intro _ hf
    (first | refine a_not hf rfl rfl rfl ?_ | refine a_not_ hf rfl rfl rfl ?_);clear hf;intro _ hf
    (first | refine a_pickT hf rfl rfl rfl rfl ?_ | refine a_pickF hf rfl rfl rfl rfl ?_);clear hf;intro _ hf
    refine wpList_nil ?_;simp only [Exit.then,Exit.inBlock];go_step;refine c_condT hf rfl ?_;refine wp_seq_k ?_;intro _ _;refine wp_region_lit ?_;refine a_assign hf rfl rfl rfl ?_;clear hf;intro _ hf;refine a_assign hf rfl rfl rfl ?_;clear hf;intro _ hf;refine wpList_nil ?_;simp only [Exit.then,Exit.inBlock];go_step;refine wp_ret ?_
    try simp only [Exit.then]
    exact c_ret2 hf rfl rfl rfl ⟨by rw [he],Below.refl _ _⟩
  obtain ⟨k,rfl⟩ : ∃ k : Nat,num = k:=⟨num.toNat,by omega⟩
  have hkl : k < files.length:=by omega
  obtain ⟨f,hf8⟩:=get_some hkl
  have hst:=hi.refSt hf8 min;have hwf:=hi.wf
  obtain ⟨⟨pn,x,hpx,hx,_⟩,_,hfl,hv⟩:=hwf.file f (List.mem_of_getElem? hf8)
  have hax:=actAt_some (i:=f.protest) hpx hx;rw [hs,hax] at hst
  obtain ⟨ad,Af,cf,rfl,_,f0,f1,hcf,hrf⟩:=H3.out k f hf8
  rw [hpx] at f0;have hcs : x.minute ≤ min → stGo C.sec acts min f.acts 1 = coreSt C acts k min:=fun hm => hi.state hf8 min (by rw [hax];exact hm);clear hf8
  cases hmin : decide (x.minute ≤ min) with
  | false =>
    rw [if_pos (by simpa using hmin)] at hst
    subst hst
    have he : e5 = 5:=by rw [← he5];rfl
    refine wp_region_lit ?_;refine a_move hf rfl rfl rfl ?_;clear hf;intro _ hf;refine a_cmp (b:=false) hf rfl rfl rfl rfl rfl (by first | assumption | ((try dsimp only);simp only [bq1,bq2,bq3,bq4,bq5,bq6,bq7] <;> omega)) rfl ?_;clear hf;intro _ hf;refine a_move hf rfl rfl rfl ?_;clear hf;intro _ hf
    (first | refine a_not hf rfl rfl rfl ?_ | refine a_move hf rfl rfl rfl ?_);clear hf;intro _ hf
    (first | refine a_not hf rfl rfl rfl ?_ | refine a_move hf rfl rfl rfl ?_);clear hf;intro _ hf
    (first | refine a_not hf rfl rfl rfl ?_ | refine a_nilCheck hf rfl rfl rfl ?_);clear hf;intro _ hf
    (first | refine a_not hf rfl rfl rfl ?_ | refine a_field hf rfl rfl rfl rfl ?_);clear hf;intro _ hf
    (first | refine a_not hf rfl rfl rfl ?_ | refine a_load hf rfl rfl rfl (by exact h8) rfl ?_);clear hf;intro _ hf
    (first | refine a_not hf rfl rfl rfl ?_ | refine a_len hf rfl rfl rfl rfl ?_);clear hf;intro _ hf
    (first | refine a_not hf rfl rfl rfl ?_ | refine a_cmp (b:=false) hf rfl rfl rfl rfl rfl (by first | assumption | ((try dsimp only);simp only [bq1,bq2,bq3,bq4,bq5,bq6,bq7] <;> omega)) rfl ?_);clear hf;intro _ hf
    (first | refine a_pickT hf rfl rfl rfl rfl ?_ | refine a_pickF hf rfl rfl rfl rfl ?_);clear hf;intro _ hf
    refine a_move hf rfl rfl rfl ?_;clear hf;intro _ hf
    (first | refine a_not hf rfl rfl rfl ?_ | refine a_move hf rfl rfl rfl ?_);clear hf;intro _ hf
    (first | refine a_not hf rfl rfl rfl ?_ | refine a_move hf rfl rfl rfl ?_);clear hf;intro _ hf
    (first | refine a_not hf rfl rfl rfl ?_ | refine a_nilCheck hf rfl rfl rfl ?_);clear hf;intro _ hf
    (first | refine a_not hf rfl rfl rfl ?_ | refine a_field hf rfl rfl rfl rfl ?_);clear hf;intro _ hf
    (first | refine a_not hf rfl rfl rfl ?_ | refine a_load hf rfl rfl rfl (by exact h8) rfl ?_);clear hf;intro _ hf
    (first | refine a_not hf rfl rfl rfl ?_ | refine a_move hf rfl rfl rfl ?_);clear hf;intro _ hf
    refine a_index (j:=k) hf rfl rfl rfl rfl (by omega) (by omega) rfl ?_;clear hf;intro _ hf;refine a_load115 hf rfl rfl (by exact f0) (by exact f1) rfl ?_;clear hf;intro _ hf
    (first | refine a_not hf rfl rfl rfl ?_ | refine a_move hf rfl rfl rfl ?_);clear hf;intro _ hf
    refine a_call3 hf e72 rfl rfl rfl rfl rfl ?_;clear hf;refine (there_dec g C acts files pn Af f.acts.length cf min x _ false hmin HC.out hx).mono ?_;rintro _ w2 ⟨rfl,hb⟩;intro _ hf
    (first | refine a_not hf rfl rfl rfl ?_ | refine a_not_ hf rfl rfl rfl ?_);clear hf;intro _ hf
    (first | refine a_pickT hf rfl rfl rfl rfl ?_ | refine a_pickF hf rfl rfl rfl rfl ?_);clear hf;intro _ hf
    refine wpList_nil ?_;simp only [Exit.then,Exit.inBlock];go_step;refine c_condT hf rfl ?_;refine wp_seq_k ?_;intro _ _;refine wp_region_lit ?_;refine a_assign hf rfl rfl rfl ?_;clear hf;intro _ hf;refine a_assign hf rfl rfl rfl ?_;clear hf;intro _ hf;refine wpList_nil ?_;simp only [Exit.then,Exit.inBlock];go_step;refine wp_ret ?_
    try simp only [Exit.then]
    exact c_ret2 hf rfl rfl rfl ⟨by rw [he],hb⟩
  | true =>
    have hmle : x.minute ≤ min:=by simpa using hmin
    rw [if_neg (by omega)] at hst
    have hne : s ≠ 0:=by
      rw [hst,hcs hmle];exact coreSt_ne
    have he : e5 = 0:=by rw [← he5,if_neg hne]
    refine wp_region_lit ?_;refine a_move hf rfl rfl rfl ?_;clear hf;intro _ hf;refine a_cmp (b:=false) hf rfl rfl rfl rfl rfl (by first | assumption | ((try dsimp only);simp only [bq1,bq2,bq3,bq4,bq5,bq6,bq7] <;> omega)) rfl ?_;clear hf;intro _ hf;refine a_move hf rfl rfl rfl ?_;clear hf;intro _ hf
    (first | refine a_not hf rfl rfl rfl ?_ | refine a_move hf rfl rfl rfl ?_);clear hf;intro _ hf
    (first | refine a_not hf rfl rfl rfl ?_ | refine a_move hf rfl rfl rfl ?_);clear hf;intro _ hf
    (first | refine a_not hf rfl rfl rfl ?_ | refine a_nilCheck hf rfl rfl rfl ?_);clear hf;intro _ hf
    (first | refine a_not hf rfl rfl rfl ?_ | refine a_field hf rfl rfl rfl rfl ?_);clear hf;intro _ hf
    (first | refine a_not hf rfl rfl rfl ?_ | refine a_load hf rfl rfl rfl (by exact h8) rfl ?_);clear hf;intro _ hf
    (first | refine a_not hf rfl rfl rfl ?_ | refine a_len hf rfl rfl rfl rfl ?_);clear hf;intro _ hf
    (first | refine a_not hf rfl rfl rfl ?_ | refine a_cmp (b:=false) hf rfl rfl rfl rfl rfl (by first | assumption | ((try dsimp only);simp only [bq1,bq2,bq3,bq4,bq5,bq6,bq7] <;> omega)) rfl ?_);clear hf;intro _ hf
    (first | refine a_pickT hf rfl rfl rfl rfl ?_ | refine a_pickF hf rfl rfl rfl rfl ?_);clear hf;intro _ hf
    refine a_move hf rfl rfl rfl ?_;clear hf;intro _ hf
    (first | refine a_not hf rfl rfl rfl ?_ | refine a_move hf rfl rfl rfl ?_);clear hf;intro _ hf
    (first | refine a_not hf rfl rfl rfl ?_ | refine a_move hf rfl rfl rfl ?_);clear hf;intro _ hf
    (first | refine a_not hf rfl rfl rfl ?_ | refine a_nilCheck hf rfl rfl rfl ?_);clear hf;intro _ hf
    (first | refine a_not hf rfl rfl rfl ?_ | refine a_field hf rfl rfl rfl rfl ?_);clear hf;intro _ hf
    (first | refine a_not hf rfl rfl rfl ?_ | refine a_load hf rfl rfl rfl (by exact h8) rfl ?_);clear hf;intro _ hf
    (first | refine a_not hf rfl rfl rfl ?_ | refine a_move hf rfl rfl rfl ?_);clear hf;intro _ hf
    refine a_index (j:=k) hf rfl rfl rfl rfl (by omega) (by omega) rfl ?_;clear hf;intro _ hf;refine a_load115 hf rfl rfl (by exact f0) (by exact f1) rfl ?_;clear hf;intro _ hf
    (first | refine a_not hf rfl rfl rfl ?_ | refine a_move hf rfl rfl rfl ?_);clear hf;intro _ hf
    refine a_call3 hf e72 rfl rfl rfl rfl rfl ?_;clear hf;refine (there_dec g C acts files pn Af f.acts.length cf min x _ true hmin HC.out hx).mono ?_;rintro _ w2 ⟨rfl,hb⟩;intro _ hf
    (first | refine a_not hf rfl rfl rfl ?_ | refine a_not_ hf rfl rfl rfl ?_);clear hf;intro _ hf
    (first | refine a_pickT hf rfl rfl rfl rfl ?_ | refine a_pickF hf rfl rfl rfl rfl ?_);clear hf;intro _ hf
    refine wpList_nil ?_;simp only [Exit.then,Exit.inBlock];go_step;refine c_condF hf rfl ?_;refine wp_skip ?_;simp only [Exit.then,Exit.inBlock];go_step;have h82:=(hb.cell (lt_of_cell h8)).trans h8;replace f0:=(hb.cell (lt_of_cell f0)).trans f0;replace f1:=(hb.cell (lt_of_cell f1)).trans f1;refine wp_seq_k ?_;intro _ _;refine wp_region_lit ?_;refine a_move hf rfl rfl rfl ?_;clear hf;intro _ hf;refine a_move hf rfl rfl rfl ?_;clear hf;intro _ hf;refine a_nilCheck hf rfl rfl rfl ?_;clear hf;intro _ hf;refine a_field hf rfl rfl rfl rfl ?_;clear hf;intro _ hf;refine a_load hf rfl rfl rfl (by exact h82) rfl ?_;clear hf;intro _ hf;refine a_move hf rfl rfl rfl ?_;clear hf;intro _ hf;refine a_index (j:=k) hf rfl rfl rfl rfl (by omega) (by omega) rfl ?_;clear hf;intro _ hf;refine a_load115 hf rfl rfl (by exact f0) (by exact f1) rfl ?_;clear hf;intro _ hf;refine a_move hf rfl rfl rfl ?_;clear hf;intro _ hf;refine a_call3 hf e73 rfl rfl rfl rfl rfl ?_;clear hf;refine (state_any g C acts files f pn Af cf min _ (HC.out.below hb) hwf (hrf.below hb) hv hfl hm0 hm1).mono ?_;rintro _ w3 ⟨rfl,hb3⟩;intro _ hf;refine a_assign hf rfl rfl rfl ?_;clear hf;intro _ hf;refine a_assign hf rfl rfl rfl ?_;clear hf;intro _ hf;refine wpList_nil ?_;simp only [Exit.then,Exit.inBlock];go_step;refine wp_ret ?_
    try simp only [Exit.then]
    exact c_ret2 hf rfl rfl rfl ⟨by rw [he,hst],bel_then hb hb3⟩
end Go.Proofs.Ytpadgcomncljmaa.A
