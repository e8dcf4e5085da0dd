/- The states of cases and the penalties of cars: the law AppealStates is true for every code, every list of acts, every case, every car and every minute, and leaves its arguments as they read. No condition. -/
import Derived.Test.YtpadgcomncljmaaRows
import Derived.ProofKit
import Derived.OpenShut
import Derived.Test.YtpadgcomncljmaaStates4
set_option linter.all false
namespace Go.Proofs.Ytpadgcomncljmaa.A
open Go.RowKit
theorem a_eq4 {ops : Array Oper} {Q : Exit → Act → World → Prop} {a : Act} {w : World} {rest : List Oper} {n d : Nat} {ds : List Deferred} {l : List (Nat × Value)} {t : TypeId} {ps : String} {af : Array Edge} {g : Option (Nat × Bool)} {x y : Operand} {b1 b2 : Bool} (H : Has n ds l a) (hg : wantB ops n l g = some true) (hx : lookO l x = some (.bool b1)) (hy : lookO l y = some (.bool b2)) (hd : Nat.ble (d + 1) n = true) (h : ∀ a',Has n ds ((d,.bool (b1 == b2)) :: l) a' → wpList Try.prog ops Q rest a' w) : wpList Try.prog ops Q (⟨some d,.binOp .eql 4 x y 4,t,ps,af,g⟩ :: rest) a w :=
  a_do H hg (by have h1:=H.evO hx;have h2:=H.evO hy;generalize a.eval = ev at h1 h2;simp [go_sem,h1,h2]) rfl hd h
theorem court_open {w : World} {g : Nat} {C : CodeL} {acts : List ActL} {files : List FileL} (h : CourtR w g C acts files) : Calls Try.prog 61 #[.pointer (some ⟨g,0,none⟩)] w fun r w' => r = .returned (.bool true) ∧ w = w':=by
  obtain ⟨A1,c1,A7,c7,A8,c8,hg,_⟩:=h
  exact ready_any g true w (blk_cell hg 6)
theorem penB_any (n0 g : Nat) (C : CodeL) (acts : List ActL) (files : List FileL) (car min q1 : Int) (q2 : Bool) (q3 : Int) (hq : rightB C.cars car min = true ∧ refPen C acts car min = (q1, q2) ∧ q3 = 0 ∨ rightB C.cars car min = false ∧ q1 = 0 ∧ q2 = false ∧ q3 = 2) (w : World) (h : Crt n0 w g C acts files) :
    Calls Try.prog 32 #[.pointer (some ⟨g,0,none⟩),.int .i64 car,.int .i64 min] w fun e w' => e = .returned (.tuple #[.int .i64 q1,.bool q2,.int .i64 q3]) ∧ Below w.heap.size w w' ∧ Crt n0 w' g C acts files:=by
  rcases hq with ⟨h1,h2,rfl⟩ | ⟨h1,rfl,rfl,rfl⟩
  · exact penB_as n0 g C acts files car min (q1,q2) h2 h1 w h
  · exact penB_off n0 g C acts files car min h1 w h
set_option maxHeartbeats 4000000 in
set_option maxRecDepth 100000 in
theorem walk_AppealStates (C : CodeL) (A1 : Option Addr) (c1 : Nat) (A : Option Addr) (l : List ActL) (c : Nat) (num car min : Int) (w : World) (hlc1 : C.arts.length ≤ c1) (hm1 : c1 ≤ maxLen) (hC : RArt Any w A1 C.arts) (hlc : l.length ≤ c) (hm : c ≤ maxLen) (hl : RAct Any w A l) (hwf0 : (Lit.int .i64 num).wf = true) (hwf1 : (Lit.int .i64 car).wf = true) (hwf2 : (Lit.int .i64 min).wf = true) :
    Calls Try.prog 5 #[.agg #[.int .i64 C.cars,.slice A1 C.arts.length c1,.int .i64 C.win,.int .i64 C.sec,.int .i64 C.fee,.int .i64 C.price],.slice A l.length c,.int .i64 num,.int .i64 car,.int .i64 min] w fun e w' => e = .returned (.bool true) ∧ Below w.heap.size w w':=by
  have HC:=Aside.mk hC;have HL:=Aside.mk hl;have hll : l.length ≤ 9223372036854775807:=by simp only [maxLen] at hm;omega
  have h2 : (w.alloc (.cells #[.int .i64 C.cars,.slice A1 C.arts.length c1,.int .i64 C.win,.int .i64 C.sec,.int .i64 C.fee,.int .i64 C.price] 33)).heap[w.heap.size]? = some (.cells #[.int .i64 C.cars,.slice A1 C.arts.length c1,.int .i64 C.win,.int .i64 C.sec,.int .i64 C.fee,.int .i64 C.price] 33 (0,0)):=heap_alloc_new w _;have hB : Below w.heap.size w (w.alloc (.cells #[.int .i64 C.cars,.slice A1 C.arts.length c1,.int .i64 C.win,.int .i64 C.sec,.int .i64 C.fee,.int .i64 C.price] 33)):=bel_alloc (Below.refl _ _) _;clear hC hl
  go_enter Try.func5,Try.ntmps5
  refine wp_abs (n:=156) (ds:=[]) (l:=[(0,.agg #[.int .i64 C.cars,.slice A1 C.arts.length c1,.int .i64 C.win,.int .i64 C.sec,.int .i64 C.fee,.int .i64 C.price]),(1,.slice A l.length c),(2,.int .i64 num),(3,.int .i64 car),(4,.int .i64 min)]) ?_ ?_
  · refine (((((Has.nil ?_ ?_).cons ?_).cons ?_).cons ?_).cons ?_).cons ?_
    all_goals first | rfl | (simp [Act.eval];done)
  intro _ hf;refine wp_seq_k ?_;intro _ _;refine wp_region_lit ?_;refine a_box hf rfl rfl rfl rfl ?_;clear hf;intro _ hf;refine a_assign hf rfl rfl rfl ?_;clear hf;intro _ hf;refine wpList_nil ?_;simp only [Exit.then,Exit.inBlock];go_step
  change Code.wp _ _ _ _ (w.alloc (.cells #[.int .i64 C.cars,.slice A1 C.arts.length c1,.int .i64 C.win,.int .i64 C.sec,.int .i64 C.fee,.int .i64 C.price] 33))
  generalize (w.alloc (.cells #[.int .i64 C.cars,.slice A1 C.arts.length c1,.int .i64 C.win,.int .i64 C.sec,.int .i64 C.fee,.int .i64 C.price] 33)) = W0 at *
  refine wp_seq_k ?_;intro _ _;refine wp_seq_k ?_;intro _ _
  cases hfit : fitB C.arts.length with
  | false =>
    refine wp_region_lit ?_;refine a_load33b hf rfl rfl (by exact h2) rfl ?_;clear hf;intro _ hf;refine a_call1 hf e21 rfl rfl rfl ?_;clear hf;refine (fit_as C A1 c1 false hfit _).mono ?_;rintro _ w1 ⟨rfl,hb⟩;replace hB:=bel_then hB hb;replace h2:=(hb.block _ (blk_lt h2)).trans h2;clear hb;intro _ hf;refine a_not_ hf rfl rfl rfl ?_;clear hf;intro _ hf;refine a_move hf rfl rfl rfl ?_;clear hf;intro _ hf
    (first | refine a_not hf rfl rfl rfl ?_ | refine a_move hf rfl rfl rfl ?_);clear hf;intro _ hf
    refine a_not hf rfl rfl rfl ?_;clear hf;intro _ hf
    (first | refine a_not hf rfl rfl rfl ?_ | refine a_not_ hf rfl rfl rfl ?_);clear hf;intro _ hf
    (first | refine a_pickT hf rfl rfl rfl rfl ?_ | refine a_pickF hf rfl rfl rfl rfl ?_);clear hf;intro _ hf
    refine a_move hf rfl rfl rfl ?_;clear hf;intro _ hf
    (first | refine a_not hf rfl rfl rfl ?_ | refine a_load33b hf rfl rfl (by exact h2) rfl ?_);clear hf;intro _ hf
    refine a_not hf rfl rfl rfl ?_;clear hf;intro _ hf
    (first | refine a_not hf rfl rfl rfl ?_ | refine a_not_ hf rfl rfl rfl ?_);clear hf;intro _ hf
    (first | refine a_pickT hf rfl rfl rfl rfl ?_ | refine a_pickF hf rfl rfl rfl rfl ?_);clear hf;intro _ hf
    refine wpList_nil ?_;simp only [Exit.then,Exit.inBlock];go_step;refine c_condT hf rfl ?_;refine wp_seq_k ?_;intro _ _;refine wp_region_lit ?_;refine a_call0 hf e16 rfl rfl ?_;clear hf;refine (known_any _).mono ?_;rintro _ w1 ⟨rfl,hb⟩;replace hB:=bel_then hB hb;replace h2:=(hb.block _ (blk_lt h2)).trans h2;clear hb;intro _ hf;refine a_assign hf rfl rfl rfl ?_;clear hf;intro _ hf;refine wpList_nil ?_;simp only [Exit.then,Exit.inBlock];go_step;refine wp_ret ?_
    try simp only [Exit.then,Exit.inBlock]
    exact c_ret hf rfl rfl ⟨rfl,hB⟩
  | true =>
  have hn:=fit_len hfit
  cases hfew : fewB l 25 with
  | false =>
    refine wp_region_lit ?_;refine a_load33b hf rfl rfl (by exact h2) rfl ?_;clear hf;intro _ hf;refine a_call1 hf e21 rfl rfl rfl ?_;clear hf;refine (fit_as C A1 c1 true hfit _).mono ?_;rintro _ w1 ⟨rfl,hb⟩;replace hB:=bel_then hB hb;replace h2:=(hb.block _ (blk_lt h2)).trans h2;clear hb;intro _ hf;refine a_not_ hf rfl rfl rfl ?_;clear hf;intro _ hf;refine a_move hf rfl rfl rfl ?_;clear hf;intro _ hf
    (first | refine a_not hf rfl rfl rfl ?_ | refine a_move hf rfl rfl rfl ?_);clear hf;intro _ hf
    refine a_call2 hf e22 rfl rfl rfl rfl ?_;clear hf;refine (few_as A c l false hfew _ (HL.out.below hB) hll).mono ?_;rintro _ w1 ⟨rfl,hb⟩;replace hB:=bel_then hB hb;replace h2:=(hb.block _ (blk_lt h2)).trans h2;clear hb;intro _ hf
    (first | refine a_not hf rfl rfl rfl ?_ | refine a_not_ hf rfl rfl rfl ?_);clear hf;intro _ hf
    (first | refine a_pickT hf rfl rfl rfl rfl ?_ | refine a_pickF hf rfl rfl rfl rfl ?_);clear hf;intro _ hf
    refine a_move hf rfl rfl rfl ?_;clear hf;intro _ hf
    (first | refine a_not hf rfl rfl rfl ?_ | refine a_load33b hf rfl rfl (by exact h2) rfl ?_);clear hf;intro _ hf
    refine a_not hf rfl rfl rfl ?_;clear hf;intro _ hf
    (first | refine a_not hf rfl rfl rfl ?_ | refine a_not_ hf rfl rfl rfl ?_);clear hf;intro _ hf
    (first | refine a_pickT hf rfl rfl rfl rfl ?_ | refine a_pickF hf rfl rfl rfl rfl ?_);clear hf;intro _ hf
    refine wpList_nil ?_;simp only [Exit.then,Exit.inBlock];go_step;refine c_condT hf rfl ?_;refine wp_seq_k ?_;intro _ _;refine wp_region_lit ?_;refine a_call0 hf e16 rfl rfl ?_;clear hf;refine (known_any _).mono ?_;rintro _ w1 ⟨rfl,hb⟩;replace hB:=bel_then hB hb;replace h2:=(hb.block _ (blk_lt h2)).trans h2;clear hb;intro _ hf;refine a_assign hf rfl rfl rfl ?_;clear hf;intro _ hf;refine wpList_nil ?_;simp only [Exit.then,Exit.inBlock];go_step;refine wp_ret ?_
    try simp only [Exit.then,Exit.inBlock]
    exact c_ret hf rfl rfl ⟨rfl,hB⟩
  | true =>
  have hfw:=few_facts hfew
  cases hcode : codeOk C with
  | false =>
    refine wp_region_lit ?_;refine a_load33b hf rfl rfl (by exact h2) rfl ?_;clear hf;intro _ hf;refine a_call1 hf e21 rfl rfl rfl ?_;clear hf;refine (fit_as C A1 c1 true hfit _).mono ?_;rintro _ w1 ⟨rfl,hb⟩;replace hB:=bel_then hB hb;replace h2:=(hb.block _ (blk_lt h2)).trans h2;clear hb;intro _ hf;refine a_not_ hf rfl rfl rfl ?_;clear hf;intro _ hf;refine a_move hf rfl rfl rfl ?_;clear hf;intro _ hf
    (first | refine a_not hf rfl rfl rfl ?_ | refine a_move hf rfl rfl rfl ?_);clear hf;intro _ hf
    refine a_call2 hf e22 rfl rfl rfl rfl ?_;clear hf;refine (few_as A c l true hfew _ (HL.out.below hB) hll).mono ?_;rintro _ w1 ⟨rfl,hb⟩;replace hB:=bel_then hB hb;replace h2:=(hb.block _ (blk_lt h2)).trans h2;clear hb;intro _ hf
    (first | refine a_not hf rfl rfl rfl ?_ | refine a_not_ hf rfl rfl rfl ?_);clear hf;intro _ hf
    (first | refine a_pickT hf rfl rfl rfl rfl ?_ | refine a_pickF hf rfl rfl rfl rfl ?_);clear hf;intro _ hf
    refine a_move hf rfl rfl rfl ?_;clear hf;intro _ hf
    (first | refine a_not hf rfl rfl rfl ?_ | refine a_load33b hf rfl rfl (by exact h2) rfl ?_);clear hf;intro _ hf
    refine a_call1 hf e23 rfl rfl rfl ?_;clear hf;refine (refCode_as C A1 c1 false hcode _ (HC.out.below hB) hn).mono ?_;rintro _ w1 ⟨rfl,hb⟩;replace hB:=bel_then hB hb;replace h2:=(hb.block _ (blk_lt h2)).trans h2;clear hb;intro _ hf
    (first | refine a_not hf rfl rfl rfl ?_ | refine a_not_ hf rfl rfl rfl ?_);clear hf;intro _ hf
    (first | refine a_pickT hf rfl rfl rfl rfl ?_ | refine a_pickF hf rfl rfl rfl rfl ?_);clear hf;intro _ hf
    refine wpList_nil ?_;simp only [Exit.then,Exit.inBlock];go_step;refine c_condT hf rfl ?_;refine wp_seq_k ?_;intro _ _;refine wp_region_lit ?_;refine a_call0 hf e16 rfl rfl ?_;clear hf;refine (known_any _).mono ?_;rintro _ w1 ⟨rfl,hb⟩;replace hB:=bel_then hB hb;replace h2:=(hb.block _ (blk_lt h2)).trans h2;clear hb;intro _ hf;refine a_assign hf rfl rfl rfl ?_;clear hf;intro _ hf;refine wpList_nil ?_;simp only [Exit.then,Exit.inBlock];go_step;refine wp_ret ?_
    try simp only [Exit.then,Exit.inBlock]
    exact c_ret hf rfl rfl ⟨rfl,hB⟩
  | true =>
  refine wp_region_lit ?_;refine a_load33b hf rfl rfl (by exact h2) rfl ?_;clear hf;intro _ hf;refine a_call1 hf e21 rfl rfl rfl ?_;clear hf;refine (fit_as C A1 c1 true hfit _).mono ?_;rintro _ w1 ⟨rfl,hb⟩;replace hB:=bel_then hB hb;replace h2:=(hb.block _ (blk_lt h2)).trans h2;clear hb;intro _ hf;refine a_not_ hf rfl rfl rfl ?_;clear hf;intro _ hf;refine a_move hf rfl rfl rfl ?_;clear hf;intro _ hf
  (first | refine a_not hf rfl rfl rfl ?_ | refine a_move hf rfl rfl rfl ?_);clear hf;intro _ hf
  refine a_call2 hf e22 rfl rfl rfl rfl ?_;clear hf;refine (few_as A c l true hfew _ (HL.out.below hB) hll).mono ?_;rintro _ w1 ⟨rfl,hb⟩;replace hB:=bel_then hB hb;replace h2:=(hb.block _ (blk_lt h2)).trans h2;clear hb;intro _ hf
  (first | refine a_not hf rfl rfl rfl ?_ | refine a_not_ hf rfl rfl rfl ?_);clear hf;intro _ hf
  (first | refine a_pickT hf rfl rfl rfl rfl ?_ | refine a_pickF hf rfl rfl rfl rfl ?_);clear hf;intro _ hf
  refine a_move hf rfl rfl rfl ?_;clear hf;intro _ hf
  (first | refine a_not hf rfl rfl rfl ?_ | refine a_load33b hf rfl rfl (by exact h2) rfl ?_);clear hf;intro _ hf
  refine a_call1 hf e23 rfl rfl rfl ?_;clear hf;refine (refCode_as C A1 c1 true hcode _ (HC.out.below hB) hn).mono ?_;rintro _ w1 ⟨rfl,hb⟩;replace hB:=bel_then hB hb;replace h2:=(hb.block _ (blk_lt h2)).trans h2;clear hb;intro _ hf
  (first | refine a_not hf rfl rfl rfl ?_ | refine a_not_ hf rfl rfl rfl ?_);clear hf;intro _ hf
  (first | refine a_pickT hf rfl rfl rfl rfl ?_ | refine a_pickF hf rfl rfl rfl rfl ?_);clear hf;intro _ hf
  refine wpList_nil ?_;simp only [Exit.then,Exit.inBlock];go_step;refine c_condF hf rfl ?_;refine wp_skip ?_;simp only [Exit.then,Exit.inBlock];go_step;have hfl : ∀ x ∈ l,x.facts.length ≤ 1000000:=fun x hx => by have:=hfw.2 x hx;omega
  have hl1 : l.length ≤ 1000000:=by have:=hfw.1;omega
  refine wp_seq_k ?_;intro _ _;refine wp_region_lit ?_;refine a_load33b hf rfl rfl (by exact h2) rfl ?_;clear hf;intro _ hf;refine a_move hf rfl rfl rfl ?_;clear hf;intro _ hf;refine a_call2 hf e30 rfl rfl rfl rfl ?_;clear hf;refine (court_any C A1 c1 A l c _ (HC.out.below hB) hn (HL.out.below hB) hl1 hfl hcode).mono ?_;rintro _ w3 ⟨hb,g,A7,c7,rfl,hK,hc7,hR⟩;replace hB:=bel_then hB hb;replace h2:=(hb.block _ (blk_lt h2)).trans h2;clear hb;intro _ hf;refine a_move hf rfl rfl rfl ?_;clear hf;intro _ hf;refine a_extract hf rfl rfl rfl rfl ?_;clear hf;intro _ hf;refine a_extract hf rfl rfl rfl rfl ?_;clear hf;intro _ hf;refine a_extract hf rfl rfl rfl rfl ?_;clear hf;intro _ hf;refine a_assign hf rfl rfl rfl ?_;clear hf;intro _ hf;refine a_assign hf rfl rfl rfl ?_;clear hf;intro _ hf;refine a_assign hf rfl rfl rfl ?_;clear hf;intro _ hf;refine wpList_nil ?_;simp only [Exit.then,Exit.inBlock];go_step;refine wp_seq_k ?_;intro _ _;refine wp_seq_k ?_;intro _ _;refine wp_region_lit ?_;refine a_move hf rfl rfl rfl ?_;clear hf;intro _ hf;refine a_not_ hf rfl rfl rfl ?_;clear hf;intro _ hf;refine wpList_nil ?_;simp only [Exit.then,Exit.inBlock];go_step;refine c_condF hf rfl ?_;refine wp_skip ?_;simp only [Exit.then,Exit.inBlock];go_step
  generalize (runT C l).1 = rec at *
  generalize (runT C l).2.1 = files at *
  have hi:=hK.inv;have hrl : rec.length ≤ 1000000:=by have:=hi.len;omega
  obtain ⟨q1,q2,q3,hq⟩ : ∃ (q1 : Int) (q2 : Bool) (q3 : Int),rightB C.cars car min = true ∧ refPen C rec car min = (q1,q2) ∧ q3 = 0 ∨ rightB C.cars car min = false ∧ q1 = 0 ∧ q2 = false ∧ q3 = 2:=by
    cases h : rightB C.cars car min with
    | true => exact ⟨_,_,0,.inl ⟨rfl,rfl,rfl⟩⟩
    | false => exact ⟨0,false,2,.inr ⟨rfl,rfl,rfl,rfl⟩⟩
  cases hin : inB min 0 10000000 with
  | false =>
    have hrt : rightB C.cars car min = false:=by
      cases h : rightB C.cars car min with
      | false => rfl
      | true =>
        have:=right_check h;rw [show inB min 0 10000000 = true by simp [inB,this.2.1,this.2.2]] at hin
        cases hin
    obtain ⟨rfl,rfl,rfl⟩ : q1 = 0 ∧ q2 = false ∧ q3 = 2:=by
      rcases hq with ⟨h,_⟩ | ⟨_,h⟩
      · rw [hrt] at h;cases h
      · exact h
    refine wp_seq_k ?_;intro _ _;refine wp_region_lit ?_;refine a_move hf rfl rfl rfl ?_;clear hf;intro _ hf;refine a_move hf rfl rfl rfl ?_;clear hf;intro _ hf;refine a_move hf rfl rfl rfl ?_;clear hf;intro _ hf;refine a_call3 hf e31 rfl rfl rfl rfl rfl ?_;clear hf;refine (state_out (some ⟨g,0,none⟩) num min _ (court_open hK.reads) hin).mono ?_;rintro _ w5 ⟨rfl,rfl⟩;intro _ hf;refine a_move hf rfl rfl rfl ?_;clear hf;intro _ hf;refine a_extract hf rfl rfl rfl rfl ?_;clear hf;intro _ hf;refine a_extract hf rfl rfl rfl rfl ?_;clear hf;intro _ hf;refine a_assign hf rfl rfl rfl ?_;clear hf;intro _ hf;refine a_assign hf rfl rfl rfl ?_;clear hf;intro _ hf;refine wpList_nil ?_;simp only [Exit.then,Exit.inBlock];go_step;refine wp_seq_k ?_;intro _ _;refine wp_region_lit ?_;refine a_move hf rfl rfl rfl ?_;clear hf;intro _ hf;refine a_move hf rfl rfl rfl ?_;clear hf;intro _ hf;refine a_move hf rfl rfl rfl ?_;clear hf;intro _ hf;refine a_call3 hf e32 rfl rfl rfl rfl rfl ?_;clear hf;refine (penB_any _ g C rec files car min _ _ _ hq _ hK).mono ?_;rintro _ w4 ⟨rfl,hb,_⟩;replace hB:=bel_then hB hb;replace h2:=(hb.block _ (blk_lt h2)).trans h2;replace hK:=hK.below hb;replace hR:=hR.below hb;clear hb;intro _ hf;refine a_move hf rfl rfl rfl ?_;clear hf;intro _ hf;refine a_extract hf rfl rfl rfl rfl ?_;clear hf;intro _ hf;refine a_extract hf rfl rfl rfl rfl ?_;clear hf;intro _ hf;refine a_extract hf rfl rfl rfl rfl ?_;clear hf;intro _ hf;refine a_assign hf rfl rfl rfl ?_;clear hf;intro _ hf;refine a_assign hf rfl rfl rfl ?_;clear hf;intro _ hf;refine a_assign hf rfl rfl rfl ?_;clear hf;intro _ hf;refine wpList_nil ?_;simp only [Exit.then,Exit.inBlock];go_step;refine wp_seq_k ?_;intro _ _;refine wp_seq_k ?_;intro _ _
    by_cases hmn : min < 0
    · refine wp_region_lit ?_
      refine a_move hf rfl rfl rfl ?_;clear hf;intro _ hf;refine a_cmp (b:=true) hf rfl rfl rfl rfl rfl (by first | assumption | ((try dsimp only);simp only [bq1,bq2,bq3,bq4,bq5,bq6,bq7] <;> omega)) rfl ?_;clear hf;intro _ hf;refine a_move hf rfl rfl rfl ?_;clear hf;intro _ hf
      (first | refine a_not hf rfl rfl rfl ?_ | refine a_move hf rfl rfl rfl ?_);clear hf;intro _ hf
      (first | refine a_not hf rfl rfl rfl ?_ | refine a_cmp hf rfl rfl rfl rfl rfl rfl rfl ?_);clear hf;intro _ hf
      (first | refine a_pickT hf rfl rfl rfl rfl ?_ | refine a_pickF hf rfl rfl rfl rfl ?_);clear hf;intro _ hf
      refine wpList_nil ?_;simp only [Exit.then,Exit.inBlock];go_step;refine c_condT hf rfl ?_;refine wp_seq_k ?_;intro _ _;refine wp_region_lit ?_;refine a_move hf rfl rfl rfl ?_;clear hf;intro _ hf;refine a_cmp (b:=true) hf rfl rfl rfl rfl rfl (by first | assumption | ((try dsimp only);simp only [bq1,bq2,bq3,bq4,bq5,bq6,bq7] <;> omega)) rfl ?_;clear hf;intro _ hf;refine a_move hf rfl rfl rfl ?_;clear hf;intro _ hf
      (first | refine a_not hf rfl rfl rfl ?_ | refine a_move hf rfl rfl rfl ?_);clear hf;intro _ hf
      (first | refine a_not hf rfl rfl rfl ?_ | refine a_cmp (b:=true) hf rfl rfl rfl rfl rfl (by first | assumption | ((try dsimp only);simp only [bq1,bq2,bq3,bq4,bq5,bq6,bq7] <;> omega)) rfl ?_);clear hf;intro _ hf
      (first | refine a_pickT hf rfl rfl rfl rfl ?_ | refine a_pickF hf rfl rfl rfl rfl ?_);clear hf;intro _ hf
      refine a_move hf rfl rfl rfl ?_;clear hf;intro _ hf
      (first | refine a_not hf rfl rfl rfl ?_ | refine a_move hf rfl rfl rfl ?_);clear hf;intro _ hf
      (first | refine a_not hf rfl rfl rfl ?_ | refine a_cmp52 (b:=true) hf rfl rfl rfl rfl (by first | assumption | ((try dsimp only);simp only [bq1,bq2,bq3,bq4,bq5,bq6,bq7] <;> omega)) rfl ?_);clear hf;intro _ hf
      (first | refine a_pickT hf rfl rfl rfl rfl ?_ | refine a_pickF hf rfl rfl rfl rfl ?_);clear hf;intro _ hf
      refine a_move hf rfl rfl rfl ?_;clear hf;intro _ hf
      (first | refine a_not hf rfl rfl rfl ?_ | refine a_move hf rfl rfl rfl ?_);clear hf;intro _ hf
      (first | refine a_not hf rfl rfl rfl ?_ | refine a_cmp (b:=true) hf rfl rfl rfl rfl rfl (by first | assumption | ((try dsimp only);simp only [bq1,bq2,bq3,bq4,bq5,bq6,bq7] <;> omega)) rfl ?_);clear hf;intro _ hf
      (first | refine a_pickT hf rfl rfl rfl rfl ?_ | refine a_pickF hf rfl rfl rfl rfl ?_);clear hf;intro _ hf
      refine a_move hf rfl rfl rfl ?_;clear hf;intro _ hf
      (first | refine a_not hf rfl rfl rfl ?_ | refine a_move hf rfl rfl rfl ?_);clear hf;intro _ hf
      (first | refine a_not hf rfl rfl rfl ?_ | refine a_not_ hf rfl rfl rfl ?_);clear hf;intro _ hf
      (first | refine a_pickT hf rfl rfl rfl rfl ?_ | refine a_pickF hf rfl rfl rfl rfl ?_);clear hf;intro _ hf
      refine a_move hf rfl rfl rfl ?_;clear hf;intro _ hf;refine a_call0 hf e16 rfl rfl ?_;clear hf;refine (known_any _).mono ?_;rintro _ w1 ⟨rfl,hb⟩;replace hB:=bel_then hB hb;replace h2:=(hb.block _ (blk_lt h2)).trans h2;clear hb;intro _ hf
      (first | refine a_pickT hf rfl rfl rfl rfl ?_ | refine a_pickF hf rfl rfl rfl rfl ?_);clear hf;intro _ hf
      refine a_assign hf rfl rfl rfl ?_;clear hf;intro _ hf;refine wpList_nil ?_;simp only [Exit.then,Exit.inBlock];go_step;refine wp_ret ?_
      try simp only [Exit.then,Exit.inBlock]
      exact c_ret hf rfl rfl ⟨rfl,hB⟩
    have hmx : 10000000 < min:=by simp [inB] at hin;omega
    refine wp_region_lit ?_;refine a_move hf rfl rfl rfl ?_;clear hf;intro _ hf;refine a_cmp (b:=false) hf rfl rfl rfl rfl rfl (by first | assumption | ((try dsimp only);simp only [bq1,bq2,bq3,bq4,bq5,bq6,bq7] <;> omega)) rfl ?_;clear hf;intro _ hf;refine a_move hf rfl rfl rfl ?_;clear hf;intro _ hf
    (first | refine a_not hf rfl rfl rfl ?_ | refine a_move hf rfl rfl rfl ?_);clear hf;intro _ hf
    (first | refine a_not hf rfl rfl rfl ?_ | refine a_cmp (b:=true) hf rfl rfl rfl rfl rfl (by first | assumption | ((try dsimp only);simp only [bq1,bq2,bq3,bq4,bq5,bq6,bq7] <;> omega)) rfl ?_);clear hf;intro _ hf
    (first | refine a_pickT hf rfl rfl rfl rfl ?_ | refine a_pickF hf rfl rfl rfl rfl ?_);clear hf;intro _ hf
    refine wpList_nil ?_;simp only [Exit.then,Exit.inBlock];go_step;refine c_condT hf rfl ?_;refine wp_seq_k ?_;intro _ _;refine wp_region_lit ?_;refine a_move hf rfl rfl rfl ?_;clear hf;intro _ hf;refine a_cmp (b:=true) hf rfl rfl rfl rfl rfl (by first | assumption | ((try dsimp only);simp only [bq1,bq2,bq3,bq4,bq5,bq6,bq7] <;> omega)) rfl ?_;clear hf;intro _ hf;refine a_move hf rfl rfl rfl ?_;clear hf;intro _ hf
    (first | refine a_not hf rfl rfl rfl ?_ | refine a_move hf rfl rfl rfl ?_);clear hf;intro _ hf
    (first | refine a_not hf rfl rfl rfl ?_ | refine a_cmp (b:=true) hf rfl rfl rfl rfl rfl (by first | assumption | ((try dsimp only);simp only [bq1,bq2,bq3,bq4,bq5,bq6,bq7] <;> omega)) rfl ?_);clear hf;intro _ hf
    (first | refine a_pickT hf rfl rfl rfl rfl ?_ | refine a_pickF hf rfl rfl rfl rfl ?_);clear hf;intro _ hf
    refine a_move hf rfl rfl rfl ?_;clear hf;intro _ hf
    (first | refine a_not hf rfl rfl rfl ?_ | refine a_move hf rfl rfl rfl ?_);clear hf;intro _ hf
    (first | refine a_not hf rfl rfl rfl ?_ | refine a_cmp52 (b:=true) hf rfl rfl rfl rfl (by first | assumption | ((try dsimp only);simp only [bq1,bq2,bq3,bq4,bq5,bq6,bq7] <;> omega)) rfl ?_);clear hf;intro _ hf
    (first | refine a_pickT hf rfl rfl rfl rfl ?_ | refine a_pickF hf rfl rfl rfl rfl ?_);clear hf;intro _ hf
    refine a_move hf rfl rfl rfl ?_;clear hf;intro _ hf
    (first | refine a_not hf rfl rfl rfl ?_ | refine a_move hf rfl rfl rfl ?_);clear hf;intro _ hf
    (first | refine a_not hf rfl rfl rfl ?_ | refine a_cmp (b:=true) hf rfl rfl rfl rfl rfl (by first | assumption | ((try dsimp only);simp only [bq1,bq2,bq3,bq4,bq5,bq6,bq7] <;> omega)) rfl ?_);clear hf;intro _ hf
    (first | refine a_pickT hf rfl rfl rfl rfl ?_ | refine a_pickF hf rfl rfl rfl rfl ?_);clear hf;intro _ hf
    refine a_move hf rfl rfl rfl ?_;clear hf;intro _ hf
    (first | refine a_not hf rfl rfl rfl ?_ | refine a_move hf rfl rfl rfl ?_);clear hf;intro _ hf
    (first | refine a_not hf rfl rfl rfl ?_ | refine a_not_ hf rfl rfl rfl ?_);clear hf;intro _ hf
    (first | refine a_pickT hf rfl rfl rfl rfl ?_ | refine a_pickF hf rfl rfl rfl rfl ?_);clear hf;intro _ hf
    refine a_move hf rfl rfl rfl ?_;clear hf;intro _ hf;refine a_call0 hf e16 rfl rfl ?_;clear hf;refine (known_any _).mono ?_;rintro _ w1 ⟨rfl,hb⟩;replace hB:=bel_then hB hb;replace h2:=(hb.block _ (blk_lt h2)).trans h2;clear hb;intro _ hf
    (first | refine a_pickT hf rfl rfl rfl rfl ?_ | refine a_pickF hf rfl rfl rfl rfl ?_);clear hf;intro _ hf
    refine a_assign hf rfl rfl rfl ?_;clear hf;intro _ hf;refine wpList_nil ?_;simp only [Exit.then,Exit.inBlock];go_step;refine wp_ret ?_
    try simp only [Exit.then,Exit.inBlock]
    exact c_ret hf rfl rfl ⟨rfl,hB⟩
  | true =>
    obtain ⟨hm0,hm9⟩ : 0 ≤ min ∧ min ≤ 10000000:=by simpa [inB] using hin
    obtain ⟨s,hs⟩ : ∃ s,refSt C rec num min = s:=⟨_,rfl⟩
    obtain ⟨e5,he5⟩ : ∃ e5 : Int,(if s = 0 then 5 else 0) = e5:=⟨_,rfl⟩
    refine wp_seq_k ?_;intro _ _;refine wp_region_lit ?_;refine a_move hf rfl rfl rfl ?_;clear hf;intro _ hf;refine a_move hf rfl rfl rfl ?_;clear hf;intro _ hf;refine a_move hf rfl rfl rfl ?_;clear hf;intro _ hf;refine a_call3 hf e31 rfl rfl rfl rfl rfl ?_;clear hf;refine (state_full _ g C rec files num min s e5 hs he5 hm0 hm9 _ hK).mono ?_;rintro _ w5 ⟨rfl,hb⟩;replace hB:=bel_then hB hb;replace h2:=(hb.block _ (blk_lt h2)).trans h2;replace hK:=hK.below hb;replace hR:=hR.below hb;clear hb;intro _ hf;refine a_move hf rfl rfl rfl ?_;clear hf;intro _ hf;refine a_extract hf rfl rfl rfl rfl ?_;clear hf;intro _ hf;refine a_extract hf rfl rfl rfl rfl ?_;clear hf;intro _ hf;refine a_assign hf rfl rfl rfl ?_;clear hf;intro _ hf;refine a_assign hf rfl rfl rfl ?_;clear hf;intro _ hf;refine wpList_nil ?_;simp only [Exit.then,Exit.inBlock];go_step;refine wp_seq_k ?_;intro _ _;refine wp_region_lit ?_;refine a_move hf rfl rfl rfl ?_;clear hf;intro _ hf;refine a_move hf rfl rfl rfl ?_;clear hf;intro _ hf;refine a_move hf rfl rfl rfl ?_;clear hf;intro _ hf;refine a_call3 hf e32 rfl rfl rfl rfl rfl ?_;clear hf;refine (penB_any _ g C rec files car min _ _ _ hq _ hK).mono ?_;rintro _ w4 ⟨rfl,hb,_⟩;replace hB:=bel_then hB hb;replace h2:=(hb.block _ (blk_lt h2)).trans h2;replace hK:=hK.below hb;replace hR:=hR.below hb;clear hb;intro _ hf;refine a_move hf rfl rfl rfl ?_;clear hf;intro _ hf;refine a_extract hf rfl rfl rfl rfl ?_;clear hf;intro _ hf;refine a_extract hf rfl rfl rfl rfl ?_;clear hf;intro _ hf;refine a_extract hf rfl rfl rfl rfl ?_;clear hf;intro _ hf;refine a_assign hf rfl rfl rfl ?_;clear hf;intro _ hf;refine a_assign hf rfl rfl rfl ?_;clear hf;intro _ hf;refine a_assign hf rfl rfl rfl ?_;clear hf;intro _ hf;refine wpList_nil ?_;simp only [Exit.then,Exit.inBlock];go_step;refine wp_seq_k ?_;intro _ _;refine wp_seq_k ?_;intro _ _;refine wp_region_lit ?_;refine a_move hf rfl rfl rfl ?_;clear hf;intro _ hf;refine a_cmp (b:=false) hf rfl rfl rfl rfl rfl (by first | assumption | ((try dsimp only);simp only [bq1,bq2,bq3,bq4,bq5,bq6,bq7] <;> omega)) rfl ?_;clear hf;intro _ hf;refine a_move hf rfl rfl rfl ?_;clear hf;intro _ hf
    (first | refine a_not hf rfl rfl rfl ?_ | refine a_move hf rfl rfl rfl ?_);clear hf;intro _ hf
    (first | refine a_not hf rfl rfl rfl ?_ | refine a_cmp (b:=false) hf rfl rfl rfl rfl rfl (by first | assumption | ((try dsimp only);simp only [bq1,bq2,bq3,bq4,bq5,bq6,bq7] <;> omega)) rfl ?_);clear hf;intro _ hf
    (first | refine a_pickT hf rfl rfl rfl rfl ?_ | refine a_pickF hf rfl rfl rfl rfl ?_);clear hf;intro _ hf
    refine wpList_nil ?_;simp only [Exit.then,Exit.inBlock];go_step;refine c_condF hf rfl ?_;refine wp_skip ?_;simp only [Exit.then,Exit.inBlock];go_step;refine wp_seq_k ?_;intro _ _;refine wp_seq_k ?_;intro _ _;refine wp_region_lit ?_;refine a_load33b hf rfl rfl (by exact h2) rfl ?_;clear hf;intro _ hf;refine a_move hf rfl rfl rfl ?_;clear hf;intro _ hf;refine a_move hf rfl rfl rfl ?_;clear hf;intro _ hf;refine a_move hf rfl rfl rfl ?_;clear hf;intro _ hf;refine a_call4 hf e33 rfl rfl rfl rfl rfl rfl ?_;clear hf;refine (refState_as C A1 c1 rec A7 c7 num min s hs _ hR hrl hi.minute hm0 hm9).mono ?_;rintro _ w6 ⟨rfl,hb⟩;replace hB:=bel_then hB hb;replace h2:=(hb.block _ (blk_lt h2)).trans h2;replace hK:=hK.below hb;replace hR:=hR.below hb;clear hb;intro _ hf;refine a_assign hf rfl rfl rfl ?_;clear hf;intro _ hf;refine wpList_nil ?_;simp only [Exit.then,Exit.inBlock];go_step;refine wp_seq_k ?_;intro _ _;refine c_cut (fun a' w' => Has 156 [] [(114,.bool false),(1,.slice A l.length c),(2,.int .i64 num),(3,.int .i64 car),(4,.int .i64 min),(5,.pointer (some ⟨w.heap.size,0,none⟩)),(12,.slice A7 rec.length c7),(16,.int .i64 q1),(17,.bool q2),(18,.int .i64 q3)] a' ∧ w6 = w') ?_ ?_
    · by_cases hs0 : s = 0
      · subst hs0
        obtain rfl : e5 = 5:=by rw [← he5];rfl
        refine wp_region_lit ?_;refine a_move hf rfl rfl rfl ?_;clear hf;intro _ hf;refine a_cmp52 (b:=true) hf rfl rfl rfl rfl (by first | assumption | ((try dsimp only);simp only [bq1,bq2,bq3,bq4,bq5,bq6,bq7] <;> omega)) rfl ?_;clear hf;intro _ hf;refine a_move hf rfl rfl rfl ?_;clear hf;intro _ hf
        (first | refine a_not hf rfl rfl rfl ?_ | refine a_move hf rfl rfl rfl ?_);clear hf;intro _ hf
        (first | refine a_not hf rfl rfl rfl ?_ | refine a_cmp (b:=false) hf rfl rfl rfl rfl rfl (by first | assumption | ((try dsimp only);simp only [bq1,bq2,bq3,bq4,bq5,bq6,bq7] <;> omega)) rfl ?_);clear hf;intro _ hf
        (first | refine a_not hf rfl rfl rfl ?_ | refine a_move hf rfl rfl rfl ?_);clear hf;intro _ hf
        (first | refine a_not hf rfl rfl rfl ?_ | refine a_move hf rfl rfl rfl ?_);clear hf;intro _ hf
        (first | refine a_not hf rfl rfl rfl ?_ | refine a_cmp52 (b:=false) hf rfl rfl rfl rfl (by first | assumption | ((try dsimp only);simp only [bq1,bq2,bq3,bq4,bq5,bq6,bq7] <;> omega)) rfl ?_);clear hf;intro _ hf
        (first | refine a_not hf rfl rfl rfl ?_ | refine a_pickT hf rfl rfl rfl rfl ?_ | refine a_pickF hf rfl rfl rfl rfl ?_);clear hf;intro _ hf
        (first | refine a_pickT hf rfl rfl rfl rfl ?_ | refine a_pickF hf rfl rfl rfl rfl ?_);clear hf;intro _ hf
        refine a_move hf rfl rfl rfl ?_;clear hf;intro _ hf
        (first | refine a_not hf rfl rfl rfl ?_ | refine a_move hf rfl rfl rfl ?_);clear hf;intro _ hf
        (first | refine a_not hf rfl rfl rfl ?_ | refine a_cmp52 (b:=false) hf rfl rfl rfl rfl (by first | assumption | ((try dsimp only);simp only [bq1,bq2,bq3,bq4,bq5,bq6,bq7] <;> omega)) rfl ?_);clear hf;intro _ hf
        (first | refine a_not hf rfl rfl rfl ?_ | refine a_move hf rfl rfl rfl ?_);clear hf;intro _ hf
        (first | refine a_not hf rfl rfl rfl ?_ | refine a_move hf rfl rfl rfl ?_);clear hf;intro _ hf
        (first | refine a_not hf rfl rfl rfl ?_ | refine a_cmp hf rfl rfl rfl rfl rfl rfl rfl ?_);clear hf;intro _ hf
        (first | refine a_not hf rfl rfl rfl ?_ | refine a_move hf rfl rfl rfl ?_);clear hf;intro _ hf
        (first | refine a_not hf rfl rfl rfl ?_ | refine a_move hf rfl rfl rfl ?_);clear hf;intro _ hf
        (first | refine a_not hf rfl rfl rfl ?_ | refine a_move hf rfl rfl rfl ?_);clear hf;intro _ hf
        (first | refine a_not hf rfl rfl rfl ?_ | refine a_cmp52 hf rfl rfl rfl rfl rfl rfl ?_);clear hf;intro _ hf
        (first | refine a_not hf rfl rfl rfl ?_ | refine a_pickT hf rfl rfl rfl rfl ?_ | refine a_pickF hf rfl rfl rfl rfl ?_);clear hf;intro _ hf
        (first | refine a_not hf rfl rfl rfl ?_ | refine a_pickT hf rfl rfl rfl rfl ?_ | refine a_pickF hf rfl rfl rfl rfl ?_);clear hf;intro _ hf
        (first | refine a_pickT hf rfl rfl rfl rfl ?_ | refine a_pickF hf rfl rfl rfl rfl ?_);clear hf;intro _ hf
        refine wpList_nil ?_;exact ⟨rfl,(((((((((((hf.nilOf).cons (d:=18) (hf.at_ 18 _ rfl)).cons (d:=17) (hf.at_ 17 _ rfl)).cons (d:=16) (hf.at_ 16 _ rfl)).cons (d:=12) (hf.at_ 12 _ rfl)).cons (d:=5) (hf.at_ 5 _ rfl)).cons (d:=4) (hf.at_ 4 _ rfl)).cons (d:=3) (hf.at_ 3 _ rfl)).cons (d:=2) (hf.at_ 2 _ rfl)).cons (d:=1) (hf.at_ 1 _ rfl))).cons (hf.at_ 114 _ rfl),rfl⟩
      · obtain rfl : e5 = 0:=by rw [← he5,if_neg hs0]
        refine wp_region_lit ?_;refine a_move hf rfl rfl rfl ?_;clear hf;intro _ hf;refine a_cmp52 (b:=false) hf rfl rfl rfl rfl (by first | assumption | ((try dsimp only);simp only [bq1,bq2,bq3,bq4,bq5,bq6,bq7] <;> omega)) rfl ?_;clear hf;intro _ hf;refine a_move hf rfl rfl rfl ?_;clear hf;intro _ hf
        (first | refine a_not hf rfl rfl rfl ?_ | refine a_move hf rfl rfl rfl ?_);clear hf;intro _ hf
        (first | refine a_not hf rfl rfl rfl ?_ | refine a_cmp hf rfl rfl rfl rfl rfl rfl rfl ?_);clear hf;intro _ hf
        (first | refine a_not hf rfl rfl rfl ?_ | refine a_move hf rfl rfl rfl ?_);clear hf;intro _ hf
        (first | refine a_not hf rfl rfl rfl ?_ | refine a_move hf rfl rfl rfl ?_);clear hf;intro _ hf
        (first | refine a_not hf rfl rfl rfl ?_ | refine a_cmp52 hf rfl rfl rfl rfl rfl rfl ?_);clear hf;intro _ hf
        (first | refine a_not hf rfl rfl rfl ?_ | refine a_pickT hf rfl rfl rfl rfl ?_ | refine a_pickF hf rfl rfl rfl rfl ?_);clear hf;intro _ hf
        (first | refine a_pickT hf rfl rfl rfl rfl ?_ | refine a_pickF hf rfl rfl rfl rfl ?_);clear hf;intro _ hf
        refine a_move hf rfl rfl rfl ?_;clear hf;intro _ hf
        (first | refine a_not hf rfl rfl rfl ?_ | refine a_move hf rfl rfl rfl ?_);clear hf;intro _ hf
        (first | refine a_not hf rfl rfl rfl ?_ | refine a_cmp52 (b:=true) hf rfl rfl rfl rfl (by first | assumption | ((try dsimp only);simp only [bq1,bq2,bq3,bq4,bq5,bq6,bq7] <;> omega)) rfl ?_);clear hf;intro _ hf
        (first | refine a_not hf rfl rfl rfl ?_ | refine a_move hf rfl rfl rfl ?_);clear hf;intro _ hf
        (first | refine a_not hf rfl rfl rfl ?_ | refine a_move hf rfl rfl rfl ?_);clear hf;intro _ hf
        (first | refine a_not hf rfl rfl rfl ?_ | refine a_cmp (b:=false) hf rfl rfl rfl rfl rfl (by first | assumption | ((try dsimp only);simp only [bq1,bq2,bq3,bq4,bq5,bq6,bq7] <;> omega)) rfl ?_);clear hf;intro _ hf
        (first | refine a_not hf rfl rfl rfl ?_ | refine a_move hf rfl rfl rfl ?_);clear hf;intro _ hf
        (first | refine a_not hf rfl rfl rfl ?_ | refine a_move hf rfl rfl rfl ?_);clear hf;intro _ hf
        (first | refine a_not hf rfl rfl rfl ?_ | refine a_move hf rfl rfl rfl ?_);clear hf;intro _ hf
        (first | refine a_not hf rfl rfl rfl ?_ | refine a_cmp52 (b:=false) hf rfl rfl rfl rfl (by first | assumption | ((try dsimp only);simp only [bq1,bq2,bq3,bq4,bq5,bq6,bq7] <;> omega)) rfl ?_);clear hf;intro _ hf
        (first | refine a_not hf rfl rfl rfl ?_ | refine a_pickT hf rfl rfl rfl rfl ?_ | refine a_pickF hf rfl rfl rfl rfl ?_);clear hf;intro _ hf
        (first | refine a_not hf rfl rfl rfl ?_ | refine a_pickT hf rfl rfl rfl rfl ?_ | refine a_pickF hf rfl rfl rfl rfl ?_);clear hf;intro _ hf
        (first | refine a_pickT hf rfl rfl rfl rfl ?_ | refine a_pickF hf rfl rfl rfl rfl ?_);clear hf;intro _ hf
        refine wpList_nil ?_;exact ⟨rfl,(((((((((((hf.nilOf).cons (d:=18) (hf.at_ 18 _ rfl)).cons (d:=17) (hf.at_ 17 _ rfl)).cons (d:=16) (hf.at_ 16 _ rfl)).cons (d:=12) (hf.at_ 12 _ rfl)).cons (d:=5) (hf.at_ 5 _ rfl)).cons (d:=4) (hf.at_ 4 _ rfl)).cons (d:=3) (hf.at_ 3 _ rfl)).cons (d:=2) (hf.at_ 2 _ rfl)).cons (d:=1) (hf.at_ 1 _ rfl))).cons (hf.at_ 114 _ rfl),rfl⟩
    rintro _ _ ⟨hf,rfl⟩
    simp only [Exit.then];go_step;refine c_condF hf rfl ?_;refine wp_skip ?_;simp only [Exit.then,Exit.inBlock];go_step;refine wp_seq_k ?_;intro _ _;refine wp_seq_k ?_;intro _ _
    cases hrt : rightB C.cars car min with
    | false =>
      obtain ⟨rfl,rfl,rfl⟩ : q1 = 0 ∧ q2 = false ∧ q3 = 2:=by
        rcases hq with ⟨h,_⟩ | ⟨_,h⟩
        · rw [hrt] at h;cases h
        · exact h
      refine wp_region_lit ?_;refine a_load33b hf rfl rfl (by exact h2) rfl ?_;clear hf;intro _ hf;refine a_move hf rfl rfl rfl ?_;clear hf;intro _ hf;refine a_move hf rfl rfl rfl ?_;clear hf;intro _ hf;refine a_call3 hf e34 rfl rfl rfl rfl rfl ?_;clear hf;refine (right_as C A1 c1 car min false hrt _).mono ?_;rintro _ w8 ⟨rfl,hb⟩;replace hB:=bel_then hB hb;replace h2:=(hb.block _ (blk_lt h2)).trans h2;replace hR:=hR.below hb;clear hb;intro _ hf;refine a_not_ hf rfl rfl rfl ?_;clear hf;intro _ hf;refine wpList_nil ?_;simp only [Exit.then,Exit.inBlock];go_step;refine c_condT hf rfl ?_;refine wp_seq_k ?_;intro _ _;refine wp_region_lit ?_;refine a_move hf rfl rfl rfl ?_;clear hf;intro _ hf;refine a_cmp (b:=true) hf rfl rfl rfl rfl rfl (by first | assumption | ((try dsimp only);simp only [bq1,bq2,bq3,bq4,bq5,bq6,bq7] <;> omega)) rfl ?_;clear hf;intro _ hf;refine a_move hf rfl rfl rfl ?_;clear hf;intro _ hf
      (first | refine a_not hf rfl rfl rfl ?_ | refine a_move hf rfl rfl rfl ?_);clear hf;intro _ hf
      (first | refine a_not hf rfl rfl rfl ?_ | refine a_cmp (b:=true) hf rfl rfl rfl rfl rfl (by first | assumption | ((try dsimp only);simp only [bq1,bq2,bq3,bq4,bq5,bq6,bq7] <;> omega)) rfl ?_);clear hf;intro _ hf
      (first | refine a_pickT hf rfl rfl rfl rfl ?_ | refine a_pickF hf rfl rfl rfl rfl ?_);clear hf;intro _ hf
      refine a_move hf rfl rfl rfl ?_;clear hf;intro _ hf
      (first | refine a_not hf rfl rfl rfl ?_ | refine a_move hf rfl rfl rfl ?_);clear hf;intro _ hf
      (first | refine a_not hf rfl rfl rfl ?_ | refine a_not_ hf rfl rfl rfl ?_);clear hf;intro _ hf
      (first | refine a_pickT hf rfl rfl rfl rfl ?_ | refine a_pickF hf rfl rfl rfl rfl ?_);clear hf;intro _ hf
      refine a_move hf rfl rfl rfl ?_;clear hf;intro _ hf;refine a_call0 hf e16 rfl rfl ?_;clear hf;refine (known_any _).mono ?_;rintro _ w1 ⟨rfl,hb⟩;replace hB:=bel_then hB hb;replace h2:=(hb.block _ (blk_lt h2)).trans h2;clear hb;intro _ hf
      (first | refine a_pickT hf rfl rfl rfl rfl ?_ | refine a_pickF hf rfl rfl rfl rfl ?_);clear hf;intro _ hf
      refine a_assign hf rfl rfl rfl ?_;clear hf;intro _ hf;refine wpList_nil ?_;simp only [Exit.then,Exit.inBlock];go_step;refine wp_ret ?_
      try simp only [Exit.then,Exit.inBlock]
      exact c_ret hf rfl rfl ⟨rfl,hB⟩
    | true =>
      obtain ⟨hpp,rfl⟩ : refPen C rec car min = (q1,q2) ∧ q3 = 0:=by
        rcases hq with ⟨_,h⟩ | ⟨h,_⟩
        · exact h
        · rw [hrt] at h;cases h
      refine wp_region_lit ?_;refine a_load33b hf rfl rfl (by exact h2) rfl ?_;clear hf;intro _ hf;refine a_move hf rfl rfl rfl ?_;clear hf;intro _ hf;refine a_move hf rfl rfl rfl ?_;clear hf;intro _ hf;refine a_call3 hf e34 rfl rfl rfl rfl rfl ?_;clear hf;refine (right_as C A1 c1 car min true hrt _).mono ?_;rintro _ w8 ⟨rfl,hb⟩;replace hB:=bel_then hB hb;replace h2:=(hb.block _ (blk_lt h2)).trans h2;replace hR:=hR.below hb;clear hb;intro _ hf;refine a_not_ hf rfl rfl rfl ?_;clear hf;intro _ hf;refine wpList_nil ?_;simp only [Exit.then,Exit.inBlock];go_step;refine c_condF hf rfl ?_;refine wp_skip ?_;simp only [Exit.then,Exit.inBlock];go_step;refine wp_seq_k ?_;intro _ _;refine wp_region_lit ?_;refine a_load33b hf rfl rfl (by exact h2) rfl ?_;clear hf;intro _ hf;refine a_move hf rfl rfl rfl ?_;clear hf;intro _ hf;refine a_move hf rfl rfl rfl ?_;clear hf;intro _ hf;refine a_move hf rfl rfl rfl ?_;clear hf;intro _ hf;refine a_call4 hf e35 rfl rfl rfl rfl rfl rfl ?_;clear hf;refine (refPenalty_as C A1 c1 rec _ A7 c7 car min (q1,q2) hpp _ hR hi hm0 hm9).mono ?_;rintro _ w9 ⟨rfl,hb⟩;replace hB:=bel_then hB hb;replace h2:=(hb.block _ (blk_lt h2)).trans h2;replace hR:=hR.below hb;clear hb;intro _ hf;refine a_move hf rfl rfl rfl ?_;clear hf;intro _ hf;refine a_extract hf rfl rfl rfl rfl ?_;clear hf;intro _ hf;refine a_extract hf rfl rfl rfl rfl ?_;clear hf;intro _ hf;refine a_assign hf rfl rfl rfl ?_;clear hf;intro _ hf;refine a_assign hf rfl rfl rfl ?_;clear hf;intro _ hf;refine wpList_nil ?_;simp only [Exit.then,Exit.inBlock];go_step;refine wp_seq_k ?_;intro _ _;refine wp_region_lit ?_;refine a_move hf rfl rfl rfl ?_;clear hf;intro _ hf;refine a_cmp (b:=true) hf rfl rfl rfl rfl rfl (by first | assumption | ((try dsimp only);simp only [bq1,bq2,bq3,bq4,bq5,bq6,bq7] <;> omega)) rfl ?_;clear hf;intro _ hf;refine a_move hf rfl rfl rfl ?_;clear hf;intro _ hf
      (first | refine a_not hf rfl rfl rfl ?_ | refine a_move hf rfl rfl rfl ?_);clear hf;intro _ hf
      (first | refine a_not hf rfl rfl rfl ?_ | refine a_move hf rfl rfl rfl ?_);clear hf;intro _ hf
      (first | refine a_not hf rfl rfl rfl ?_ | refine a_cmp (b:=true) hf rfl rfl rfl rfl rfl (by first | assumption | ((try dsimp only);simp only [bq1,bq2,bq3,bq4,bq5,bq6,bq7] <;> omega)) rfl ?_);clear hf;intro _ hf
      (first | refine a_pickT hf rfl rfl rfl rfl ?_ | refine a_pickF hf rfl rfl rfl rfl ?_);clear hf;intro _ hf
      refine a_move hf rfl rfl rfl ?_;clear hf;intro _ hf
      (first | refine a_not hf rfl rfl rfl ?_ | refine a_move hf rfl rfl rfl ?_);clear hf;intro _ hf
      (first | refine a_not hf rfl rfl rfl ?_ | refine a_move hf rfl rfl rfl ?_);clear hf;intro _ hf
      refine a_eq4 hf rfl rfl rfl rfl ?_;rw [beq_self_eq_true];clear hf;intro _ hf
      (first | refine a_pickT hf rfl rfl rfl rfl ?_ | refine a_pickF hf rfl rfl rfl rfl ?_);clear hf;intro _ hf
      refine a_move hf rfl rfl rfl ?_;clear hf;intro _ hf;refine a_call0 hf e16 rfl rfl ?_;clear hf;refine (known_any _).mono ?_;rintro _ w1 ⟨rfl,hb⟩;replace hB:=bel_then hB hb;replace h2:=(hb.block _ (blk_lt h2)).trans h2;clear hb;intro _ hf
      (first | refine a_pickT hf rfl rfl rfl rfl ?_ | refine a_pickF hf rfl rfl rfl rfl ?_);clear hf;intro _ hf
      refine a_assign hf rfl rfl rfl ?_;clear hf;intro _ hf;refine wpList_nil ?_;simp only [Exit.then,Exit.inBlock];go_step;refine wp_ret ?_
      try simp only [Exit.then,Exit.inBlock]
      exact c_ret hf rfl rfl ⟨rfl,hB⟩
end Go.Proofs.Ytpadgcomncljmaa.A
/- The states of cases and the penalties of cars: the law AppealStates is true for every code,every list of acts,every case,every car and every minute,and leaves its arguments as they read. No condition. -/
namespace Go.Proofs.Ytpadgcomncljmaa.A
open Go.ChangeShapes Go.WideShapes Go.ChangeAt Go.RowKit
theorem own_AppealStates : ownKnob Try.prog.godebug = none:=by kernel_rfl
set_option maxRecDepth 100000 in
theorem lifted_AppealStates (os : Os) (started : os.Started) (H : Type) (enc : TypeId × Value → H) :
    ReturnsInHanded {} Try.checked os 5 .any (Rows.appealStatesSpec.pre6 enc Try.prog Try.f5 Rows.appealStatesRow.domain false) (Rows.appealStatesSpec.post enc Try.prog Try.f5 false true false false):=by
  refine returnsInHanded_of_change (C := Try.checked) own_AppealStates started (by kernel_rfl) Try.func5
    (ChangeSpec.witness6 (enc:=enc) (C:=Try.checked) false ⟨#[],#[.agg #[.int .i64 0,.slice none 0 0,.int .i64 0,.int .i64 0,.int .i64 0,.int .i64 0],.slice none 0 0,.int .i64 0,.int .i64 0,.int .i64 0],[]⟩ 8 (by kernel_rfl) (by kernel_rfl) (by kernel_rfl) (by kernel_rfl)) ?_
  intro W base args ds gs before hval0 hW hcnd _;have hval : ∀ (j : Nat) t v,Try.f5.params[j]? = some t → args[j]? = some v → Value.okWide Try.prog W .any base t v:=hval0;have hW':=hW
  obtain ⟨p,q,hA0,hV,rfl,hfz,hnd⟩:=hW
  have hA : DataW.TrodAll enc Try.prog W 0 (fun _ => true) true Try.f5.params.toList args.toList ds p:=hA0;rw [Try.params5] at hA hval
  obtain ⟨v0,vs0,d0,ds0,p0,q0,hargs,rfl,rfl,h0,r0⟩:=trodAll_cons hA
  obtain ⟨v1,vs1,d1,ds1,p1,q1,rfl,rfl,rfl,h1,r1⟩:=trodAll_cons r0
  obtain ⟨v2,vs2,d2,ds2,p2,q2,rfl,rfl,rfl,h2,r2⟩:=trodAll_cons r1
  obtain ⟨v3,vs3,d3,ds3,p3,q3,rfl,rfl,rfl,h3,r3⟩:=trodAll_cons r2
  obtain ⟨v4,vs4,d4,ds4,p4,q4,rfl,rfl,rfl,h4,r4⟩:=trodAll_cons r3
  obtain ⟨rfl,rfl,rfl⟩:=trodAll_nil r4
  obtain rfl : args = #[v0,v1,v2,v3,v4]:=by cases args;simp_all
  obtain ⟨rfl,rfl⟩:=trodVars_none hV
  clear hA0 hval0;simp only [List.append_nil] at hW';have hlt : ∀ x ∈ p0 ++ p1 ++ p2 ++ p3 ++ p4,x.block < W.heap.size:=fun x hx => by simpa using hW'.lt x (by simpa using hx)
  have hk0:=fun (W' : World) (hn : Below W.heap.size W W') => Below.trod laidOut (by kernel_rfl) (of_decide_eq_true (by kernel_rfl)) h0 hn (fun x hx => hlt x (by simp [hx]));have hk1:=fun (W' : World) (hn : Below W.heap.size W W') => Below.trod laidOut (by kernel_rfl) (of_decide_eq_true (by kernel_rfl)) h1 hn (fun x hx => hlt x (by simp [hx]));have hk2:=fun (W' : World) (hn : Below W.heap.size W W') => Below.trod laidOut (by kernel_rfl) (of_decide_eq_true (by kernel_rfl)) h2 hn (fun x hx => hlt x (by simp [hx]));have hk3:=fun (W' : World) (hn : Below W.heap.size W W') => Below.trod laidOut (by kernel_rfl) (of_decide_eq_true (by kernel_rfl)) h3 hn (fun x hx => hlt x (by simp [hx]));have hk4:=fun (W' : World) (hn : Below W.heap.size W W') => Below.trod laidOut (by kernel_rfl) (of_decide_eq_true (by kernel_rfl)) h4 hn (fun x hx => hlt x (by simp [hx]))
  obtain ⟨C0,A0,c0,ra0,l0,m0,f0⟩:=arg33 (hval 0 33 v0 rfl rfl) h0
  subst ra0
  obtain ⟨A1,xs1,c1,ra1,l1,m1,f1⟩:=arg34 (hval 1 34 v1 rfl rfl) h1
  subst ra1
  obtain ⟨a2,ra2,_,_,w2⟩:=open_int Try.underlying3 (hval 2 3 v2 rfl rfl) h2
  subst ra2
  obtain ⟨a3,ra3,_,_,w3⟩:=open_int Try.underlying3 (hval 3 3 v3 rfl rfl) h3
  subst ra3
  obtain ⟨a4,ra4,_,_,w4⟩:=open_int Try.underlying3 (hval 4 3 v4 rfl rfl) h4
  subst ra4
  refine (walk_AppealStates C0 A0 c0 A1 xs1 c1 a2 a3 a4 W l0 m0 f0 l1 m1 f1 w2 w3 w4).mono fun e W' ⟨he,hb⟩ => ?_
  subst he
  exact ⟨_,rfl,[d0,d1,d2,d3,d4],[],_,[],_,[],hW',trodAll_cons_mk (shut_bool Try.underlying4 _) trodAll_mk0,trodAll_cons_mk (hk0 W' hb) (trodAll_cons_mk (hk1 W' hb) (trodAll_cons_mk (hk2 W' hb) (trodAll_cons_mk (hk3 W' hb) (trodAll_cons_mk (hk4 W' hb) trodAll_mk0)))),rfl,hb.frame _,fun h => by cases h⟩
theorem over_AppealStates : Rows.appealStatesRow.holds Try.pinned (OpenSpec.ofChange Rows.appealStatesSpec) :=
  OpenClaim.holds_of_wide 5 Try.f5 rfl rfl rfl rfl rfl rfl rfl ⟨rfl, rfl, rfl, rfl, rfl⟩ rfl rfl rfl rfl rfl (by kernel_rfl) Try.func5 (by kernel_rfl)
    (of_decide_eq_true (by kernel_rfl)) (by unfold Func.isWrapper;first | (rw [if_pos (by decide +kernel)];kernel_rfl) | (rw [if_neg (by decide +kernel)];exact ⟨rfl,rfl⟩))
    (fun os started H enc _ => lifted_AppealStates os started H enc)
end Go.Proofs.Ytpadgcomncljmaa.A
namespace Go.Proofs.Ytpadgcomncljmaa
theorem appealStates_holds : Rows.AppealStatesSaid:=A.over_AppealStates
#print axioms appealStates_holds
end Go.Proofs.Ytpadgcomncljmaa
