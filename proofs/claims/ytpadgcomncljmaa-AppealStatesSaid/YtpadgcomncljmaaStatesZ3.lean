/- Whether an act of kind 5 has the shape of its kind. -/
import Derived.Deep.Cut
import Derived.Deep.DeepCutAuto
import Derived.Test.YtpadgcomncljmaaStatesZ2
set_option linter.all false
namespace Go.Proofs.Ytpadgcomncljmaa.A
open Go.RowKit

set_option maxHeartbeats 4000000 in
set_option maxRecDepth 100000 in
theorem shaped_5 (g : Nat) (cars : Int) (a : ActL) (A8 : Option Addr) (c8 : Nat) (w : World) (hg : w.cell? ⟨g, 0, none⟩ = some (.int .i64 cars)) (hf8 : RI Any w A8 a.facts) (hfl : a.facts.length ≤ 1000000) (hk0 : a.kind = 5) :
    Calls Try.prog 62 #[.pointer (some ⟨g,0,none⟩),.agg #[.int .i64 a.kind,.int .i64 a.minute,.int .i64 a.paper,.int .i64 a.case_,.int .i64 a.by_,.int .i64 a.against,.int .i64 a.art,.int .i64 a.at_,.slice A8 a.facts.length c8,.int .i64 a.paid,.bool a.up,.int .i64 a.pen]] w fun r w' => r = .returned (.bool (shapedB cars a)) ∧ Below w.heap.size w w':=by
  have hgl:=lt_of_cell hg;have HKK:=Aside.mk hk0;clear hk0;have HG:=Aside.mk hg;have HF:=Aside.mk hf8;clear hg hf8
  go_enter Try.func62,Try.ntmps62
  go_upto_block 0 with (go_at_call 52;refine (within_any _ _ _ _).mono ?_;rintro e w' ⟨rfl,rfl⟩)
  refine wp_cut (ShR w cars a A8 c8) ?_ ?_
  · intro fr wc hR
    go_step;refine wp_seq_k ?_;intro _ _
    obtain ⟨hf,hk,hb,ha,hx⟩:=hR
    have HK:=Aside.mk hk;have HB:=Aside.mk hb;have y0 : wc.cell? ⟨w.heap.size + 1,0,none⟩ = some (.int .i64 a.kind):=box43 ha 0 _ rfl;have x0 : wc.cell? ⟨w.heap.size + 2,0,none⟩ = some (.int .i64 (shapeX a).kind):=box43 hx 0 _ rfl;have y1 : wc.cell? ⟨w.heap.size + 1,1,none⟩ = some (.int .i64 a.minute):=box43 ha 1 _ rfl;have x1 : wc.cell? ⟨w.heap.size + 2,1,none⟩ = some (.int .i64 (shapeX a).minute):=box43 hx 1 _ rfl;have y2 : wc.cell? ⟨w.heap.size + 1,2,none⟩ = some (.int .i64 a.paper):=box43 ha 2 _ rfl;have x2 : wc.cell? ⟨w.heap.size + 2,2,none⟩ = some (.int .i64 (shapeX a).paper):=box43 hx 2 _ rfl;have y3 : wc.cell? ⟨w.heap.size + 1,3,none⟩ = some (.int .i64 a.case_):=box43 ha 3 _ rfl;have x3 : wc.cell? ⟨w.heap.size + 2,3,none⟩ = some (.int .i64 (shapeX a).case_):=box43 hx 3 _ rfl;have y4 : wc.cell? ⟨w.heap.size + 1,4,none⟩ = some (.int .i64 a.by_):=box43 ha 4 _ rfl;have x4 : wc.cell? ⟨w.heap.size + 2,4,none⟩ = some (.int .i64 (shapeX a).by_):=box43 hx 4 _ rfl;have y5 : wc.cell? ⟨w.heap.size + 1,5,none⟩ = some (.int .i64 a.against):=box43 ha 5 _ rfl;have x5 : wc.cell? ⟨w.heap.size + 2,5,none⟩ = some (.int .i64 (shapeX a).against):=box43 hx 5 _ rfl;have y6 : wc.cell? ⟨w.heap.size + 1,6,none⟩ = some (.int .i64 a.art):=box43 ha 6 _ rfl;have x6 : wc.cell? ⟨w.heap.size + 2,6,none⟩ = some (.int .i64 (shapeX a).art):=box43 hx 6 _ rfl;have y7 : wc.cell? ⟨w.heap.size + 1,7,none⟩ = some (.int .i64 a.at_):=box43 ha 7 _ rfl;have x7 : wc.cell? ⟨w.heap.size + 2,7,none⟩ = some (.int .i64 (shapeX a).at_):=box43 hx 7 _ rfl;have y9 : wc.cell? ⟨w.heap.size + 1,9,none⟩ = some (.int .i64 a.paid):=box43 ha 9 _ rfl;have x9 : wc.cell? ⟨w.heap.size + 2,9,none⟩ = some (.int .i64 (shapeX a).paid):=box43 hx 9 _ rfl;have y10 : wc.cell? ⟨w.heap.size + 1,10,none⟩ = some (.bool a.up):=box43 ha 10 _ rfl;have x10 : wc.cell? ⟨w.heap.size + 2,10,none⟩ = some (.bool (shapeX a).up):=box43 hx 10 _ rfl;have y11 : wc.cell? ⟨w.heap.size + 1,11,none⟩ = some (.int .i64 a.pen):=box43 ha 11 _ rfl;have x11 : wc.cell? ⟨w.heap.size + 2,11,none⟩ = some (.int .i64 (shapeX a).pen):=box43 hx 11 _ rfl;clear hk hb ha hx;refine wp_region_lit ?_;refine a_move hf rfl rfl rfl ?_;clear hf;intro _ hf;refine group_and 202 7 203 1 _ _ rfl (by omega) (by omega) (by rw [hf.size];decide) (hf.at_ 202 _ rfl) (hf.at_ 7 _ rfl) ?_;intro _ L E;replace hf:=(hf.low L rfl).cons (d:=205) E;clear L E;refine group_cmp 205 206 4 0 _ (a.kind == (shapeX a).kind) 41 (.pointer (some ⟨w.heap.size + 1,0,none⟩)) (.pointer (some ⟨w.heap.size + 2,0,none⟩)) (.int .i64 a.kind) (.int .i64 (shapeX a).kind) rfl (by omega) (by omega) (by rw [hf.size];decide) (hf.at_ 205 _ rfl) (fun ev h => by rw [hf.at_ 3 _ rfl] at h;simp [go_sem,h]) (fun ev h => by simp [go_sem,h,y0]) (fun ev h => by rw [hf.at_ 6 _ rfl] at h;simp [go_sem,h]) (fun ev h => by simp [go_sem,h,x0]) (fun ev h h' => by simp [go_sem,h,h']) ?_
    intro _ L E;replace hf:=(((hf.nilOf.cons (hf.at_ 3 _ rfl)).cons (hf.at_ 6 _ rfl)).low L rfl).cons (d:=212) E;clear L E;refine group_cmp 212 213 11 1 _ (a.minute == (shapeX a).minute) 3 (.pointer (some ⟨w.heap.size + 1,1,none⟩)) (.pointer (some ⟨w.heap.size + 2,1,none⟩)) (.int .i64 a.minute) (.int .i64 (shapeX a).minute) rfl (by omega) (by omega) (by rw [hf.size];decide) (hf.at_ 212 _ rfl) (fun ev h => by rw [hf.at_ 3 _ rfl] at h;simp [go_sem,h]) (fun ev h => by simp [go_sem,h,y1]) (fun ev h => by rw [hf.at_ 6 _ rfl] at h;simp [go_sem,h]) (fun ev h => by simp [go_sem,h,x1]) (fun ev h h' => by simp [go_sem,h,h']) ?_;intro _ L E;replace hf:=(((hf.nilOf.cons (hf.at_ 3 _ rfl)).cons (hf.at_ 6 _ rfl)).low L rfl).cons (d:=219) E;clear L E;refine group_cmp 219 220 18 2 _ (a.paper == (shapeX a).paper) 3 (.pointer (some ⟨w.heap.size + 1,2,none⟩)) (.pointer (some ⟨w.heap.size + 2,2,none⟩)) (.int .i64 a.paper) (.int .i64 (shapeX a).paper) rfl (by omega) (by omega) (by rw [hf.size];decide) (hf.at_ 219 _ rfl) (fun ev h => by rw [hf.at_ 3 _ rfl] at h;simp [go_sem,h]) (fun ev h => by simp [go_sem,h,y2]) (fun ev h => by rw [hf.at_ 6 _ rfl] at h;simp [go_sem,h]) (fun ev h => by simp [go_sem,h,x2]) (fun ev h h' => by simp [go_sem,h,h']) ?_;intro _ L E;replace hf:=(((hf.nilOf.cons (hf.at_ 3 _ rfl)).cons (hf.at_ 6 _ rfl)).low L rfl).cons (d:=226) E;clear L E;refine group_cmp 226 227 25 3 _ (a.case_ == (shapeX a).case_) 3 (.pointer (some ⟨w.heap.size + 1,3,none⟩)) (.pointer (some ⟨w.heap.size + 2,3,none⟩)) (.int .i64 a.case_) (.int .i64 (shapeX a).case_) rfl (by omega) (by omega) (by rw [hf.size];decide) (hf.at_ 226 _ rfl) (fun ev h => by rw [hf.at_ 3 _ rfl] at h;simp [go_sem,h]) (fun ev h => by simp [go_sem,h,y3]) (fun ev h => by rw [hf.at_ 6 _ rfl] at h;simp [go_sem,h]) (fun ev h => by simp [go_sem,h,x3]) (fun ev h h' => by simp [go_sem,h,h']) ?_;intro _ L E;replace hf:=(((hf.nilOf.cons (hf.at_ 3 _ rfl)).cons (hf.at_ 6 _ rfl)).low L rfl).cons (d:=233) E;clear L E;refine group_cmp 233 234 32 4 _ (a.by_ == (shapeX a).by_) 3 (.pointer (some ⟨w.heap.size + 1,4,none⟩)) (.pointer (some ⟨w.heap.size + 2,4,none⟩)) (.int .i64 a.by_) (.int .i64 (shapeX a).by_) rfl (by omega) (by omega) (by rw [hf.size];decide) (hf.at_ 233 _ rfl) (fun ev h => by rw [hf.at_ 3 _ rfl] at h;simp [go_sem,h]) (fun ev h => by simp [go_sem,h,y4]) (fun ev h => by rw [hf.at_ 6 _ rfl] at h;simp [go_sem,h]) (fun ev h => by simp [go_sem,h,x4]) (fun ev h h' => by simp [go_sem,h,h']) ?_;intro _ L E;replace hf:=(((hf.nilOf.cons (hf.at_ 3 _ rfl)).cons (hf.at_ 6 _ rfl)).low L rfl).cons (d:=240) E;clear L E;refine group_cmp 240 241 39 5 _ (a.against == (shapeX a).against) 3 (.pointer (some ⟨w.heap.size + 1,5,none⟩)) (.pointer (some ⟨w.heap.size + 2,5,none⟩)) (.int .i64 a.against) (.int .i64 (shapeX a).against) rfl (by omega) (by omega) (by rw [hf.size];decide) (hf.at_ 240 _ rfl) (fun ev h => by rw [hf.at_ 3 _ rfl] at h;simp [go_sem,h]) (fun ev h => by simp [go_sem,h,y5]) (fun ev h => by rw [hf.at_ 6 _ rfl] at h;simp [go_sem,h]) (fun ev h => by simp [go_sem,h,x5]) (fun ev h h' => by simp [go_sem,h,h']) ?_
    intro _ L E;replace hf:=(((hf.nilOf.cons (hf.at_ 3 _ rfl)).cons (hf.at_ 6 _ rfl)).low L rfl).cons (d:=247) E;clear L E;refine group_cmp 247 248 46 6 _ (a.art == (shapeX a).art) 3 (.pointer (some ⟨w.heap.size + 1,6,none⟩)) (.pointer (some ⟨w.heap.size + 2,6,none⟩)) (.int .i64 a.art) (.int .i64 (shapeX a).art) rfl (by omega) (by omega) (by rw [hf.size];decide) (hf.at_ 247 _ rfl) (fun ev h => by rw [hf.at_ 3 _ rfl] at h;simp [go_sem,h]) (fun ev h => by simp [go_sem,h,y6]) (fun ev h => by rw [hf.at_ 6 _ rfl] at h;simp [go_sem,h]) (fun ev h => by simp [go_sem,h,x6]) (fun ev h h' => by simp [go_sem,h,h']) ?_;intro _ L E;replace hf:=(((hf.nilOf.cons (hf.at_ 3 _ rfl)).cons (hf.at_ 6 _ rfl)).low L rfl).cons (d:=254) E;clear L E;refine group_cmp 254 255 53 7 _ (a.at_ == (shapeX a).at_) 3 (.pointer (some ⟨w.heap.size + 1,7,none⟩)) (.pointer (some ⟨w.heap.size + 2,7,none⟩)) (.int .i64 a.at_) (.int .i64 (shapeX a).at_) rfl (by omega) (by omega) (by rw [hf.size];decide) (hf.at_ 254 _ rfl) (fun ev h => by rw [hf.at_ 3 _ rfl] at h;simp [go_sem,h]) (fun ev h => by simp [go_sem,h,y7]) (fun ev h => by rw [hf.at_ 6 _ rfl] at h;simp [go_sem,h]) (fun ev h => by simp [go_sem,h,x7]) (fun ev h h' => by simp [go_sem,h,h']) ?_;intro _ L E;replace hf:=(((hf.nilOf.cons (hf.at_ 3 _ rfl)).cons (hf.at_ 6 _ rfl)).low L rfl).cons (d:=261) E;clear L E;refine group_cmp 261 262 60 9 _ (a.paid == (shapeX a).paid) 3 (.pointer (some ⟨w.heap.size + 1,9,none⟩)) (.pointer (some ⟨w.heap.size + 2,9,none⟩)) (.int .i64 a.paid) (.int .i64 (shapeX a).paid) rfl (by omega) (by omega) (by rw [hf.size];decide) (hf.at_ 261 _ rfl) (fun ev h => by rw [hf.at_ 3 _ rfl] at h;simp [go_sem,h]) (fun ev h => by simp [go_sem,h,y9]) (fun ev h => by rw [hf.at_ 6 _ rfl] at h;simp [go_sem,h]) (fun ev h => by simp [go_sem,h,x9]) (fun ev h h' => by simp [go_sem,h,h']) ?_;intro _ L E;replace hf:=(((hf.nilOf.cons (hf.at_ 3 _ rfl)).cons (hf.at_ 6 _ rfl)).low L rfl).cons (d:=268) E;clear L E;refine group_cmp 268 269 67 10 _ (a.up == (shapeX a).up) 4 (.pointer (some ⟨w.heap.size + 1,10,none⟩)) (.pointer (some ⟨w.heap.size + 2,10,none⟩)) (.bool a.up) (.bool (shapeX a).up) rfl (by omega) (by omega) (by rw [hf.size];decide) (hf.at_ 268 _ rfl) (fun ev h => by rw [hf.at_ 3 _ rfl] at h;simp [go_sem,h]) (fun ev h => by simp [go_sem,h,y10]) (fun ev h => by rw [hf.at_ 6 _ rfl] at h;simp [go_sem,h]) (fun ev h => by simp [go_sem,h,x10]) (fun ev h h' => by simp [go_sem,h,h']) ?_;intro _ L E;replace hf:=(((hf.nilOf.cons (hf.at_ 3 _ rfl)).cons (hf.at_ 6 _ rfl)).low L rfl).cons (d:=275) E;clear L E;refine group_cmp 275 276 74 11 _ (a.pen == (shapeX a).pen) 3 (.pointer (some ⟨w.heap.size + 1,11,none⟩)) (.pointer (some ⟨w.heap.size + 2,11,none⟩)) (.int .i64 a.pen) (.int .i64 (shapeX a).pen) rfl (by omega) (by omega) (by rw [hf.size];decide) (hf.at_ 275 _ rfl) (fun ev h => by rw [hf.at_ 3 _ rfl] at h;simp [go_sem,h]) (fun ev h => by simp [go_sem,h,y11]) (fun ev h => by rw [hf.at_ 6 _ rfl] at h;simp [go_sem,h]) (fun ev h => by simp [go_sem,h,x11]) (fun ev h h' => by simp [go_sem,h,h']) ?_
    intro _ L E;replace hf:=(((hf.nilOf.cons (hf.at_ 3 _ rfl)).cons (hf.at_ 6 _ rfl)).low L rfl).cons (d:=282) E;clear L E;refine a_assign hf rfl rfl rfl ?_;clear hf;intro _ hf;refine wpList_nil ?_;simp only [Exit.then]
    repeat (first | go_step)
    refine c_ret hf rfl rfl ⟨ret_eq ?_,HB.out⟩
    congr 1
    rw [shapedB,HK.out];simp only [sameRest,Bool.and_assoc,Bool.true_and]
  · intro J K' hJ hK'
    have hA : (((w.alloc (.cells #[.pointer (some ⟨g,0,none⟩)] 37)).alloc (.cells #[.int .i64 a.kind,.int .i64 a.minute,.int .i64 a.paper,.int .i64 a.case_,.int .i64 a.by_,.int .i64 a.against,.int .i64 a.art,.int .i64 a.at_,.slice A8 a.facts.length c8,.int .i64 a.paid,.bool a.up,.int .i64 a.pen] 43)).alloc (.cells #[.int .i64 a.kind,.int .i64 a.minute,.int .i64 0,.int .i64 0,.int .i64 0,.int .i64 0,.int .i64 0,.int .i64 0,.slice none 0 0,.int .i64 0,.bool false,.int .i64 0] 43)).heap[w.heap.size + 1]? = some (.cells #[.int .i64 a.kind,.int .i64 a.minute,.int .i64 a.paper,.int .i64 a.case_,.int .i64 a.by_,.int .i64 a.against,.int .i64 a.art,.int .i64 a.at_,.slice A8 a.facts.length c8,.int .i64 a.paid,.bool a.up,.int .i64 a.pen] 43 (0,0)):=by
      rw [Below.heap_alloc _ _ _ (by simp)];exact new_at (by simp)
    have hX : (((w.alloc (.cells #[.pointer (some ⟨g,0,none⟩)] 37)).alloc (.cells #[.int .i64 a.kind,.int .i64 a.minute,.int .i64 a.paper,.int .i64 a.case_,.int .i64 a.by_,.int .i64 a.against,.int .i64 a.art,.int .i64 a.at_,.slice A8 a.facts.length c8,.int .i64 a.paid,.bool a.up,.int .i64 a.pen] 43)).alloc (.cells #[.int .i64 a.kind,.int .i64 a.minute,.int .i64 0,.int .i64 0,.int .i64 0,.int .i64 0,.int .i64 0,.int .i64 0,.slice none 0 0,.int .i64 0,.bool false,.int .i64 0] 43)).heap[w.heap.size + 2]? = some (.cells #[.int .i64 a.kind,.int .i64 a.minute,.int .i64 0,.int .i64 0,.int .i64 0,.int .i64 0,.int .i64 0,.int .i64 0,.slice none 0 0,.int .i64 0,.bool false,.int .i64 0] 43 (0,0)):=new_at (by simp)
    have hP : (((w.alloc (.cells #[.pointer (some ⟨g,0,none⟩)] 37)).alloc (.cells #[.int .i64 a.kind,.int .i64 a.minute,.int .i64 a.paper,.int .i64 a.case_,.int .i64 a.by_,.int .i64 a.against,.int .i64 a.art,.int .i64 a.at_,.slice A8 a.facts.length c8,.int .i64 a.paid,.bool a.up,.int .i64 a.pen] 43)).alloc (.cells #[.int .i64 a.kind,.int .i64 a.minute,.int .i64 0,.int .i64 0,.int .i64 0,.int .i64 0,.int .i64 0,.int .i64 0,.slice none 0 0,.int .i64 0,.bool false,.int .i64 0] 43)).cell? ⟨w.heap.size,0,none⟩ = some (.pointer (some ⟨g,0,none⟩)):=by
      refine cell_alloc (cell_alloc ?_ _) _;have:=heap_alloc_new w (.cells #[.pointer (some ⟨g,0,none⟩)] 37)
      unfold World.cell?
      simp only [this]
      rfl
    have hG : (((w.alloc (.cells #[.pointer (some ⟨g,0,none⟩)] 37)).alloc (.cells #[.int .i64 a.kind,.int .i64 a.minute,.int .i64 a.paper,.int .i64 a.case_,.int .i64 a.by_,.int .i64 a.against,.int .i64 a.art,.int .i64 a.at_,.slice A8 a.facts.length c8,.int .i64 a.paid,.bool a.up,.int .i64 a.pen] 43)).alloc (.cells #[.int .i64 a.kind,.int .i64 a.minute,.int .i64 0,.int .i64 0,.int .i64 0,.int .i64 0,.int .i64 0,.int .i64 0,.slice none 0 0,.int .i64 0,.bool false,.int .i64 0] 43)).cell? ⟨g,0,none⟩ = some (.int .i64 cars):=cell_alloc (cell_alloc (cell_alloc HG.out _) _) _;have hBel : Below w.heap.size w (((w.alloc (.cells #[.pointer (some ⟨g,0,none⟩)] 37)).alloc (.cells #[.int .i64 a.kind,.int .i64 a.minute,.int .i64 a.paper,.int .i64 a.case_,.int .i64 a.by_,.int .i64 a.against,.int .i64 a.art,.int .i64 a.at_,.slice A8 a.facts.length c8,.int .i64 a.paid,.bool a.up,.int .i64 a.pen] 43)).alloc (.cells #[.int .i64 a.kind,.int .i64 a.minute,.int .i64 0,.int .i64 0,.int .i64 0,.int .i64 0,.int .i64 0,.int .i64 0,.slice none 0 0,.int .i64 0,.bool false,.int .i64 0] 43)):=bel_alloc (bel_alloc (bel_alloc (Below.refl _ w) _) _) _;have hSz : (((w.alloc (.cells #[.pointer (some ⟨g,0,none⟩)] 37)).alloc (.cells #[.int .i64 a.kind,.int .i64 a.minute,.int .i64 a.paper,.int .i64 a.case_,.int .i64 a.by_,.int .i64 a.against,.int .i64 a.art,.int .i64 a.at_,.slice A8 a.facts.length c8,.int .i64 a.paid,.bool a.up,.int .i64 a.pen] 43)).alloc (.cells #[.int .i64 a.kind,.int .i64 a.minute,.int .i64 0,.int .i64 0,.int .i64 0,.int .i64 0,.int .i64 0,.int .i64 0,.slice none 0 0,.int .i64 0,.bool false,.int .i64 0] 43)).heap.size = w.heap.size + 3:=by simp
    obtain ⟨W,hW⟩ : ∃ W,W = (((w.alloc (.cells #[.pointer (some ⟨g,0,none⟩)] 37)).alloc (.cells #[.int .i64 a.kind,.int .i64 a.minute,.int .i64 a.paper,.int .i64 a.case_,.int .i64 a.by_,.int .i64 a.against,.int .i64 a.art,.int .i64 a.at_,.slice A8 a.facts.length c8,.int .i64 a.paid,.bool a.up,.int .i64 a.pen] 43)).alloc (.cells #[.int .i64 a.kind,.int .i64 a.minute,.int .i64 0,.int .i64 0,.int .i64 0,.int .i64 0,.int .i64 0,.int .i64 0,.slice none 0 0,.int .i64 0,.bool false,.int .i64 0] 43)):=⟨_,rfl⟩
    rw [← hW] at hA hX hP hG hBel hSz ⊢;clear hW;have hk:=HKK.out
    -- kind 5
    have k1 : (a.kind == 1) = false:=by simp [hk]
    have k2 : (a.kind == 2) = false:=by simp [hk]
    have k3 : (a.kind == 3) = false:=by simp [hk]
    have k5 : (a.kind == 5) = true:=by simp [hk]
    have k4 : (a.kind == 4) = false:=by simp [hk]
    have k6 : (a.kind == 6) = false:=by simp [hk]
    have y0 : W.cell? ⟨w.heap.size + 1,0,none⟩ = some (.int .i64 a.kind):=box43 hA 0 _ rfl;have y3 : W.cell? ⟨w.heap.size + 1,3,none⟩ = some (.int .i64 a.case_):=box43 hA 3 _ rfl;have x3 : W.cell? ⟨w.heap.size + 2,3,none⟩ = some (.int .i64 0):=box43 hX 3 _ rfl;have z3 : W.frozen? ⟨w.heap.size + 2,3,none⟩ = false:=by simp [World.frozen?,hX]
    have y10 : W.cell? ⟨w.heap.size + 1,10,none⟩ = some (.bool a.up):=box43 hA 10 _ rfl;have x10 : W.cell? ⟨w.heap.size + 2,10,none⟩ = some (.bool false):=box43 hX 10 _ rfl;have z10 : W.frozen? ⟨w.heap.size + 2,10,none⟩ = false:=by simp [World.frozen?,hX]
    have y11 : W.cell? ⟨w.heap.size + 1,11,none⟩ = some (.int .i64 a.pen):=box43 hA 11 _ rfl;have x11 : W.cell? ⟨w.heap.size + 2,11,none⟩ = some (.int .i64 0):=box43 hX 11 _ rfl;have z11 : W.frozen? ⟨w.heap.size + 2,11,none⟩ = false:=by simp [World.frozen?,hX]
    have HX:=Aside.mk hX;have HA:=Aside.mk hA;have HP:=Aside.mk hP;have HG1:=Aside.mk hG;have HBel:=Aside.mk hBel;have HSz:=Aside.mk hSz;clear hX hA hP hG hBel hSz
    go_upto_region 21 with fail
    go_region
    simp only [Exit.then];go_step;refine wp_abs (n:=283) (ds:=[]) (l:=[(3,.pointer (some ⟨w.heap.size + 1,0,none⟩)),(5,.func (.func 95) #[] #[.pointer (some ⟨w.heap.size,0,none⟩)]),(6,.pointer (some ⟨w.heap.size + 2,0,none⟩)),(7,.bool ((a.facts.length : Int) == 0)),(8,.bool (inB a.minute 0 10000000))]) ?_ ?_
    · refine (((((Has.nil ?_ ?_).cons ?_).cons ?_).cons ?_).cons ?_).cons ?_
      all_goals first | rfl | (simp [Act.eval];done)
    intro _ hf;have hM : Mod (fun k => k = w.heap.size + 2) W (World.drew (World.setCell (World.setCell (World.setCell (W) ⟨w.heap.size + 2,3,none⟩ (.int .i64 a.case_)) ⟨w.heap.size + 2,10,none⟩ (.bool a.up)) ⟨w.heap.size + 2,11,none⟩ (.int .i64 a.pen))):=((((Mod.refl (F:=fun k => k = w.heap.size + 2)).set_ (p:=⟨w.heap.size + 2,3,none⟩) (.inl rfl) _).set_ (p:=⟨w.heap.size + 2,10,none⟩) (.inl rfl) _).set_ (p:=⟨w.heap.size + 2,11,none⟩) (.inl rfl) _).drew
    have hX1 : (World.drew (World.setCell (World.setCell (World.setCell (W) ⟨w.heap.size + 2,3,none⟩ (.int .i64 a.case_)) ⟨w.heap.size + 2,10,none⟩ (.bool a.up)) ⟨w.heap.size + 2,11,none⟩ (.int .i64 a.pen))).heap[w.heap.size + 2]? = some (.cells #[.int .i64 (shapeX a).kind,.int .i64 (shapeX a).minute,.int .i64 (shapeX a).paper,.int .i64 (shapeX a).case_,.int .i64 (shapeX a).by_,.int .i64 (shapeX a).against,.int .i64 (shapeX a).art,.int .i64 (shapeX a).at_,.slice none 0 0,.int .i64 (shapeX a).paid,.bool (shapeX a).up,.int .i64 (shapeX a).pen] 43 (0,0)):=by
      have:=(blk_set (blk_set (blk_set HX.out 3 (.int .i64 a.case_)) 10 (.bool a.up)) 11 (.int .i64 a.pen))
      change (World.setCell (World.setCell (World.setCell (W) ⟨w.heap.size + 2,3,none⟩ (.int .i64 a.case_)) ⟨w.heap.size + 2,10,none⟩ (.bool a.up)) ⟨w.heap.size + 2,11,none⟩ (.int .i64 a.pen)).heap[w.heap.size + 2]? = _
      simpa [shapeX,zeroAct,k1,k2,k3,k4,k5,k6] using this
    generalize hW1 : World.drew (World.setCell (World.setCell (World.setCell (W) ⟨w.heap.size + 2,3,none⟩ (.int .i64 a.case_)) ⟨w.heap.size + 2,10,none⟩ (.bool a.up)) ⟨w.heap.size + 2,11,none⟩ (.int .i64 a.pen)) = W1 at hM hX1 ⊢
    clear hW1;have hA1:=(hM.block (w.heap.size + 1) (by have:=HSz.out;omega) (by omega)).trans HA.out;have hP1 : W1.cell? ⟨w.heap.size,0,none⟩ = some (.pointer (some ⟨g,0,none⟩)):=(World.cell?_of_block (hM.block w.heap.size (by have:=HSz.out;omega) (by omega))).trans HP.out;have hG1 : W1.cell? ⟨g,0,none⟩ = some (.int .i64 cars):=(World.cell?_of_block (hM.block g (by have:=HSz.out;omega) (by omega))).trans HG1.out;have hB1:=bel_mod HBel.out hM (by intro k hk;omega);clear y0 y3 x3 z3 y10 x10 z10 y11 x11 z11;have y1 : W1.cell? ⟨w.heap.size + 1,1,none⟩ = some (.int .i64 a.minute):=box43 hA1 1 _ rfl;have y3 : W1.cell? ⟨w.heap.size + 1,3,none⟩ = some (.int .i64 a.case_):=box43 hA1 3 _ rfl;have y11 : W1.cell? ⟨w.heap.size + 1,11,none⟩ = some (.int .i64 a.pen):=box43 hA1 11 _ rfl;refine wp_region_lit ?_;refine a_move hf rfl rfl rfl ?_;clear hf;intro _ hf;refine group_ge 143 144 1 _ (decide (0 ≤ a.case_)) 3 3 (.int .i64 0) (.pointer (some ⟨w.heap.size + 1,3,none⟩)) (.int .i64 a.case_) rfl (by omega) (by omega) (by rw [hf.size];decide) (hf.at_ 143 _ rfl) (fun ev h => by rw [hf.at_ 3 _ rfl] at h;simp [go_sem,h]) (fun ev h => by simp [go_sem,h,y3]) (fun ev h c1 => by simp [go_sem,h,c1]) ?_;intro _ L E;replace hf:=(hf.low L rfl).cons (d:=148) E;clear L E;refine group_in 148 149 6 _ (inB a.pen 0 36000000) 11 3 (.int .i64 0) (.int .i64 36000000) _ (.pointer (some ⟨w.heap.size + 1,11,none⟩)) (.int .i64 a.pen) rfl (by omega) (by omega) (by rw [hf.size];decide) (hf.at_ 148 _ rfl) (fun ev h => by rw [hf.at_ 3 _ rfl] at h;simp [go_sem,h]) (fun ev h => by simp [go_sem,h,y11]) (fun ev h c1 c2 c3 => by simp [go_sem,h,c1,c2,c3,e52 _ _]) (within_any _ _ _ _) ?_;intro _ L E;replace hf:=(hf.low L rfl).cons (d:=153) E;clear L E;refine a_assign hf rfl rfl rfl ?_;clear hf;intro _ hf;refine wpList_nil ?_;have HO : shOk cars a = (inB a.minute 0 10000000 && decide (0 ≤ a.case_) && inB a.pen 0 36000000):=by simp [shOk,shMin,k1,k2,k3,k4,k5,k6]
    have HF' : shFacts a = ((a.facts.length : Int) == 0):=by rw [Bool.eq_iff_iff];simp [shFacts,k2]
    simp only [Exit.then,Exit.inBlock]
    repeat go_step
    refine Met.intro (hJ _ _ ⟨(((hf.nilOf.cons (d:=8) (by rw [HO];exact hf.at_ 8 _ rfl)).cons (d:=7) (by rw [HF'];exact hf.at_ 7 _ rfl)).cons (hf.at_ 6 _ rfl)).cons (hf.at_ 3 _ rfl),by simp [shKind,k1,k2,k3,k4,k5,k6],hB1,hA1,hX1⟩)
end Go.Proofs.Ytpadgcomncljmaa.A
/- Whether an act of kind 6 has the shape of its kind. -/
namespace Go.Proofs.Ytpadgcomncljmaa.A
open Go.RowKit

set_option maxHeartbeats 4000000 in
set_option maxRecDepth 100000 in
theorem shaped_6 (g : Nat) (cars : Int) (a : ActL) (A8 : Option Addr) (c8 : Nat) (w : World) (hg : w.cell? ⟨g, 0, none⟩ = some (.int .i64 cars)) (hf8 : RI Any w A8 a.facts) (hfl : a.facts.length ≤ 1000000) (hk0 : a.kind = 6) :
    Calls Try.prog 62 #[.pointer (some ⟨g,0,none⟩),.agg #[.int .i64 a.kind,.int .i64 a.minute,.int .i64 a.paper,.int .i64 a.case_,.int .i64 a.by_,.int .i64 a.against,.int .i64 a.art,.int .i64 a.at_,.slice A8 a.facts.length c8,.int .i64 a.paid,.bool a.up,.int .i64 a.pen]] w fun r w' => r = .returned (.bool (shapedB cars a)) ∧ Below w.heap.size w w':=by
  have hgl:=lt_of_cell hg;have HKK:=Aside.mk hk0;clear hk0;have HG:=Aside.mk hg;have HF:=Aside.mk hf8;clear hg hf8
  go_enter Try.func62,Try.ntmps62
  go_upto_block 0 with (go_at_call 52;refine (within_any _ _ _ _).mono ?_;rintro e w' ⟨rfl,rfl⟩)
  refine wp_cut (ShR w cars a A8 c8) ?_ ?_
  · intro fr wc hR
    go_step;refine wp_seq_k ?_;intro _ _
    obtain ⟨hf,hk,hb,ha,hx⟩:=hR
    have HK:=Aside.mk hk;have HB:=Aside.mk hb;have y0 : wc.cell? ⟨w.heap.size + 1,0,none⟩ = some (.int .i64 a.kind):=box43 ha 0 _ rfl;have x0 : wc.cell? ⟨w.heap.size + 2,0,none⟩ = some (.int .i64 (shapeX a).kind):=box43 hx 0 _ rfl;have y1 : wc.cell? ⟨w.heap.size + 1,1,none⟩ = some (.int .i64 a.minute):=box43 ha 1 _ rfl;have x1 : wc.cell? ⟨w.heap.size + 2,1,none⟩ = some (.int .i64 (shapeX a).minute):=box43 hx 1 _ rfl;have y2 : wc.cell? ⟨w.heap.size + 1,2,none⟩ = some (.int .i64 a.paper):=box43 ha 2 _ rfl;have x2 : wc.cell? ⟨w.heap.size + 2,2,none⟩ = some (.int .i64 (shapeX a).paper):=box43 hx 2 _ rfl;have y3 : wc.cell? ⟨w.heap.size + 1,3,none⟩ = some (.int .i64 a.case_):=box43 ha 3 _ rfl;have x3 : wc.cell? ⟨w.heap.size + 2,3,none⟩ = some (.int .i64 (shapeX a).case_):=box43 hx 3 _ rfl;have y4 : wc.cell? ⟨w.heap.size + 1,4,none⟩ = some (.int .i64 a.by_):=box43 ha 4 _ rfl;have x4 : wc.cell? ⟨w.heap.size + 2,4,none⟩ = some (.int .i64 (shapeX a).by_):=box43 hx 4 _ rfl;have y5 : wc.cell? ⟨w.heap.size + 1,5,none⟩ = some (.int .i64 a.against):=box43 ha 5 _ rfl;have x5 : wc.cell? ⟨w.heap.size + 2,5,none⟩ = some (.int .i64 (shapeX a).against):=box43 hx 5 _ rfl;have y6 : wc.cell? ⟨w.heap.size + 1,6,none⟩ = some (.int .i64 a.art):=box43 ha 6 _ rfl;have x6 : wc.cell? ⟨w.heap.size + 2,6,none⟩ = some (.int .i64 (shapeX a).art):=box43 hx 6 _ rfl;have y7 : wc.cell? ⟨w.heap.size + 1,7,none⟩ = some (.int .i64 a.at_):=box43 ha 7 _ rfl;have x7 : wc.cell? ⟨w.heap.size + 2,7,none⟩ = some (.int .i64 (shapeX a).at_):=box43 hx 7 _ rfl;have y9 : wc.cell? ⟨w.heap.size + 1,9,none⟩ = some (.int .i64 a.paid):=box43 ha 9 _ rfl;have x9 : wc.cell? ⟨w.heap.size + 2,9,none⟩ = some (.int .i64 (shapeX a).paid):=box43 hx 9 _ rfl;have y10 : wc.cell? ⟨w.heap.size + 1,10,none⟩ = some (.bool a.up):=box43 ha 10 _ rfl;have x10 : wc.cell? ⟨w.heap.size + 2,10,none⟩ = some (.bool (shapeX a).up):=box43 hx 10 _ rfl;have y11 : wc.cell? ⟨w.heap.size + 1,11,none⟩ = some (.int .i64 a.pen):=box43 ha 11 _ rfl;have x11 : wc.cell? ⟨w.heap.size + 2,11,none⟩ = some (.int .i64 (shapeX a).pen):=box43 hx 11 _ rfl;clear hk hb ha hx;refine wp_region_lit ?_;refine a_move hf rfl rfl rfl ?_;clear hf;intro _ hf;refine group_and 202 7 203 1 _ _ rfl (by omega) (by omega) (by rw [hf.size];decide) (hf.at_ 202 _ rfl) (hf.at_ 7 _ rfl) ?_;intro _ L E;replace hf:=(hf.low L rfl).cons (d:=205) E;clear L E;refine group_cmp 205 206 4 0 _ (a.kind == (shapeX a).kind) 41 (.pointer (some ⟨w.heap.size + 1,0,none⟩)) (.pointer (some ⟨w.heap.size + 2,0,none⟩)) (.int .i64 a.kind) (.int .i64 (shapeX a).kind) rfl (by omega) (by omega) (by rw [hf.size];decide) (hf.at_ 205 _ rfl) (fun ev h => by rw [hf.at_ 3 _ rfl] at h;simp [go_sem,h]) (fun ev h => by simp [go_sem,h,y0]) (fun ev h => by rw [hf.at_ 6 _ rfl] at h;simp [go_sem,h]) (fun ev h => by simp [go_sem,h,x0]) (fun ev h h' => by simp [go_sem,h,h']) ?_
    intro _ L E;replace hf:=(((hf.nilOf.cons (hf.at_ 3 _ rfl)).cons (hf.at_ 6 _ rfl)).low L rfl).cons (d:=212) E;clear L E;refine group_cmp 212 213 11 1 _ (a.minute == (shapeX a).minute) 3 (.pointer (some ⟨w.heap.size + 1,1,none⟩)) (.pointer (some ⟨w.heap.size + 2,1,none⟩)) (.int .i64 a.minute) (.int .i64 (shapeX a).minute) rfl (by omega) (by omega) (by rw [hf.size];decide) (hf.at_ 212 _ rfl) (fun ev h => by rw [hf.at_ 3 _ rfl] at h;simp [go_sem,h]) (fun ev h => by simp [go_sem,h,y1]) (fun ev h => by rw [hf.at_ 6 _ rfl] at h;simp [go_sem,h]) (fun ev h => by simp [go_sem,h,x1]) (fun ev h h' => by simp [go_sem,h,h']) ?_;intro _ L E;replace hf:=(((hf.nilOf.cons (hf.at_ 3 _ rfl)).cons (hf.at_ 6 _ rfl)).low L rfl).cons (d:=219) E;clear L E;refine group_cmp 219 220 18 2 _ (a.paper == (shapeX a).paper) 3 (.pointer (some ⟨w.heap.size + 1,2,none⟩)) (.pointer (some ⟨w.heap.size + 2,2,none⟩)) (.int .i64 a.paper) (.int .i64 (shapeX a).paper) rfl (by omega) (by omega) (by rw [hf.size];decide) (hf.at_ 219 _ rfl) (fun ev h => by rw [hf.at_ 3 _ rfl] at h;simp [go_sem,h]) (fun ev h => by simp [go_sem,h,y2]) (fun ev h => by rw [hf.at_ 6 _ rfl] at h;simp [go_sem,h]) (fun ev h => by simp [go_sem,h,x2]) (fun ev h h' => by simp [go_sem,h,h']) ?_;intro _ L E;replace hf:=(((hf.nilOf.cons (hf.at_ 3 _ rfl)).cons (hf.at_ 6 _ rfl)).low L rfl).cons (d:=226) E;clear L E;refine group_cmp 226 227 25 3 _ (a.case_ == (shapeX a).case_) 3 (.pointer (some ⟨w.heap.size + 1,3,none⟩)) (.pointer (some ⟨w.heap.size + 2,3,none⟩)) (.int .i64 a.case_) (.int .i64 (shapeX a).case_) rfl (by omega) (by omega) (by rw [hf.size];decide) (hf.at_ 226 _ rfl) (fun ev h => by rw [hf.at_ 3 _ rfl] at h;simp [go_sem,h]) (fun ev h => by simp [go_sem,h,y3]) (fun ev h => by rw [hf.at_ 6 _ rfl] at h;simp [go_sem,h]) (fun ev h => by simp [go_sem,h,x3]) (fun ev h h' => by simp [go_sem,h,h']) ?_;intro _ L E;replace hf:=(((hf.nilOf.cons (hf.at_ 3 _ rfl)).cons (hf.at_ 6 _ rfl)).low L rfl).cons (d:=233) E;clear L E;refine group_cmp 233 234 32 4 _ (a.by_ == (shapeX a).by_) 3 (.pointer (some ⟨w.heap.size + 1,4,none⟩)) (.pointer (some ⟨w.heap.size + 2,4,none⟩)) (.int .i64 a.by_) (.int .i64 (shapeX a).by_) rfl (by omega) (by omega) (by rw [hf.size];decide) (hf.at_ 233 _ rfl) (fun ev h => by rw [hf.at_ 3 _ rfl] at h;simp [go_sem,h]) (fun ev h => by simp [go_sem,h,y4]) (fun ev h => by rw [hf.at_ 6 _ rfl] at h;simp [go_sem,h]) (fun ev h => by simp [go_sem,h,x4]) (fun ev h h' => by simp [go_sem,h,h']) ?_;intro _ L E;replace hf:=(((hf.nilOf.cons (hf.at_ 3 _ rfl)).cons (hf.at_ 6 _ rfl)).low L rfl).cons (d:=240) E;clear L E;refine group_cmp 240 241 39 5 _ (a.against == (shapeX a).against) 3 (.pointer (some ⟨w.heap.size + 1,5,none⟩)) (.pointer (some ⟨w.heap.size + 2,5,none⟩)) (.int .i64 a.against) (.int .i64 (shapeX a).against) rfl (by omega) (by omega) (by rw [hf.size];decide) (hf.at_ 240 _ rfl) (fun ev h => by rw [hf.at_ 3 _ rfl] at h;simp [go_sem,h]) (fun ev h => by simp [go_sem,h,y5]) (fun ev h => by rw [hf.at_ 6 _ rfl] at h;simp [go_sem,h]) (fun ev h => by simp [go_sem,h,x5]) (fun ev h h' => by simp [go_sem,h,h']) ?_
    intro _ L E;replace hf:=(((hf.nilOf.cons (hf.at_ 3 _ rfl)).cons (hf.at_ 6 _ rfl)).low L rfl).cons (d:=247) E;clear L E;refine group_cmp 247 248 46 6 _ (a.art == (shapeX a).art) 3 (.pointer (some ⟨w.heap.size + 1,6,none⟩)) (.pointer (some ⟨w.heap.size + 2,6,none⟩)) (.int .i64 a.art) (.int .i64 (shapeX a).art) rfl (by omega) (by omega) (by rw [hf.size];decide) (hf.at_ 247 _ rfl) (fun ev h => by rw [hf.at_ 3 _ rfl] at h;simp [go_sem,h]) (fun ev h => by simp [go_sem,h,y6]) (fun ev h => by rw [hf.at_ 6 _ rfl] at h;simp [go_sem,h]) (fun ev h => by simp [go_sem,h,x6]) (fun ev h h' => by simp [go_sem,h,h']) ?_;intro _ L E;replace hf:=(((hf.nilOf.cons (hf.at_ 3 _ rfl)).cons (hf.at_ 6 _ rfl)).low L rfl).cons (d:=254) E;clear L E;refine group_cmp 254 255 53 7 _ (a.at_ == (shapeX a).at_) 3 (.pointer (some ⟨w.heap.size + 1,7,none⟩)) (.pointer (some ⟨w.heap.size + 2,7,none⟩)) (.int .i64 a.at_) (.int .i64 (shapeX a).at_) rfl (by omega) (by omega) (by rw [hf.size];decide) (hf.at_ 254 _ rfl) (fun ev h => by rw [hf.at_ 3 _ rfl] at h;simp [go_sem,h]) (fun ev h => by simp [go_sem,h,y7]) (fun ev h => by rw [hf.at_ 6 _ rfl] at h;simp [go_sem,h]) (fun ev h => by simp [go_sem,h,x7]) (fun ev h h' => by simp [go_sem,h,h']) ?_;intro _ L E;replace hf:=(((hf.nilOf.cons (hf.at_ 3 _ rfl)).cons (hf.at_ 6 _ rfl)).low L rfl).cons (d:=261) E;clear L E;refine group_cmp 261 262 60 9 _ (a.paid == (shapeX a).paid) 3 (.pointer (some ⟨w.heap.size + 1,9,none⟩)) (.pointer (some ⟨w.heap.size + 2,9,none⟩)) (.int .i64 a.paid) (.int .i64 (shapeX a).paid) rfl (by omega) (by omega) (by rw [hf.size];decide) (hf.at_ 261 _ rfl) (fun ev h => by rw [hf.at_ 3 _ rfl] at h;simp [go_sem,h]) (fun ev h => by simp [go_sem,h,y9]) (fun ev h => by rw [hf.at_ 6 _ rfl] at h;simp [go_sem,h]) (fun ev h => by simp [go_sem,h,x9]) (fun ev h h' => by simp [go_sem,h,h']) ?_;intro _ L E;replace hf:=(((hf.nilOf.cons (hf.at_ 3 _ rfl)).cons (hf.at_ 6 _ rfl)).low L rfl).cons (d:=268) E;clear L E;refine group_cmp 268 269 67 10 _ (a.up == (shapeX a).up) 4 (.pointer (some ⟨w.heap.size + 1,10,none⟩)) (.pointer (some ⟨w.heap.size + 2,10,none⟩)) (.bool a.up) (.bool (shapeX a).up) rfl (by omega) (by omega) (by rw [hf.size];decide) (hf.at_ 268 _ rfl) (fun ev h => by rw [hf.at_ 3 _ rfl] at h;simp [go_sem,h]) (fun ev h => by simp [go_sem,h,y10]) (fun ev h => by rw [hf.at_ 6 _ rfl] at h;simp [go_sem,h]) (fun ev h => by simp [go_sem,h,x10]) (fun ev h h' => by simp [go_sem,h,h']) ?_;intro _ L E;replace hf:=(((hf.nilOf.cons (hf.at_ 3 _ rfl)).cons (hf.at_ 6 _ rfl)).low L rfl).cons (d:=275) E;clear L E;refine group_cmp 275 276 74 11 _ (a.pen == (shapeX a).pen) 3 (.pointer (some ⟨w.heap.size + 1,11,none⟩)) (.pointer (some ⟨w.heap.size + 2,11,none⟩)) (.int .i64 a.pen) (.int .i64 (shapeX a).pen) rfl (by omega) (by omega) (by rw [hf.size];decide) (hf.at_ 275 _ rfl) (fun ev h => by rw [hf.at_ 3 _ rfl] at h;simp [go_sem,h]) (fun ev h => by simp [go_sem,h,y11]) (fun ev h => by rw [hf.at_ 6 _ rfl] at h;simp [go_sem,h]) (fun ev h => by simp [go_sem,h,x11]) (fun ev h h' => by simp [go_sem,h,h']) ?_
    intro _ L E;replace hf:=(((hf.nilOf.cons (hf.at_ 3 _ rfl)).cons (hf.at_ 6 _ rfl)).low L rfl).cons (d:=282) E;clear L E;refine a_assign hf rfl rfl rfl ?_;clear hf;intro _ hf;refine wpList_nil ?_;simp only [Exit.then]
    repeat (first | go_step)
    refine c_ret hf rfl rfl ⟨ret_eq ?_,HB.out⟩
    congr 1
    rw [shapedB,HK.out];simp only [sameRest,Bool.and_assoc,Bool.true_and]
  · intro J K' hJ hK'
    have hA : (((w.alloc (.cells #[.pointer (some ⟨g,0,none⟩)] 37)).alloc (.cells #[.int .i64 a.kind,.int .i64 a.minute,.int .i64 a.paper,.int .i64 a.case_,.int .i64 a.by_,.int .i64 a.against,.int .i64 a.art,.int .i64 a.at_,.slice A8 a.facts.length c8,.int .i64 a.paid,.bool a.up,.int .i64 a.pen] 43)).alloc (.cells #[.int .i64 a.kind,.int .i64 a.minute,.int .i64 0,.int .i64 0,.int .i64 0,.int .i64 0,.int .i64 0,.int .i64 0,.slice none 0 0,.int .i64 0,.bool false,.int .i64 0] 43)).heap[w.heap.size + 1]? = some (.cells #[.int .i64 a.kind,.int .i64 a.minute,.int .i64 a.paper,.int .i64 a.case_,.int .i64 a.by_,.int .i64 a.against,.int .i64 a.art,.int .i64 a.at_,.slice A8 a.facts.length c8,.int .i64 a.paid,.bool a.up,.int .i64 a.pen] 43 (0,0)):=by
      rw [Below.heap_alloc _ _ _ (by simp)];exact new_at (by simp)
    have hX : (((w.alloc (.cells #[.pointer (some ⟨g,0,none⟩)] 37)).alloc (.cells #[.int .i64 a.kind,.int .i64 a.minute,.int .i64 a.paper,.int .i64 a.case_,.int .i64 a.by_,.int .i64 a.against,.int .i64 a.art,.int .i64 a.at_,.slice A8 a.facts.length c8,.int .i64 a.paid,.bool a.up,.int .i64 a.pen] 43)).alloc (.cells #[.int .i64 a.kind,.int .i64 a.minute,.int .i64 0,.int .i64 0,.int .i64 0,.int .i64 0,.int .i64 0,.int .i64 0,.slice none 0 0,.int .i64 0,.bool false,.int .i64 0] 43)).heap[w.heap.size + 2]? = some (.cells #[.int .i64 a.kind,.int .i64 a.minute,.int .i64 0,.int .i64 0,.int .i64 0,.int .i64 0,.int .i64 0,.int .i64 0,.slice none 0 0,.int .i64 0,.bool false,.int .i64 0] 43 (0,0)):=new_at (by simp)
    have hP : (((w.alloc (.cells #[.pointer (some ⟨g,0,none⟩)] 37)).alloc (.cells #[.int .i64 a.kind,.int .i64 a.minute,.int .i64 a.paper,.int .i64 a.case_,.int .i64 a.by_,.int .i64 a.against,.int .i64 a.art,.int .i64 a.at_,.slice A8 a.facts.length c8,.int .i64 a.paid,.bool a.up,.int .i64 a.pen] 43)).alloc (.cells #[.int .i64 a.kind,.int .i64 a.minute,.int .i64 0,.int .i64 0,.int .i64 0,.int .i64 0,.int .i64 0,.int .i64 0,.slice none 0 0,.int .i64 0,.bool false,.int .i64 0] 43)).cell? ⟨w.heap.size,0,none⟩ = some (.pointer (some ⟨g,0,none⟩)):=by
      refine cell_alloc (cell_alloc ?_ _) _;have:=heap_alloc_new w (.cells #[.pointer (some ⟨g,0,none⟩)] 37)
      unfold World.cell?
      simp only [this]
      rfl
    have hG : (((w.alloc (.cells #[.pointer (some ⟨g,0,none⟩)] 37)).alloc (.cells #[.int .i64 a.kind,.int .i64 a.minute,.int .i64 a.paper,.int .i64 a.case_,.int .i64 a.by_,.int .i64 a.against,.int .i64 a.art,.int .i64 a.at_,.slice A8 a.facts.length c8,.int .i64 a.paid,.bool a.up,.int .i64 a.pen] 43)).alloc (.cells #[.int .i64 a.kind,.int .i64 a.minute,.int .i64 0,.int .i64 0,.int .i64 0,.int .i64 0,.int .i64 0,.int .i64 0,.slice none 0 0,.int .i64 0,.bool false,.int .i64 0] 43)).cell? ⟨g,0,none⟩ = some (.int .i64 cars):=cell_alloc (cell_alloc (cell_alloc HG.out _) _) _;have hBel : Below w.heap.size w (((w.alloc (.cells #[.pointer (some ⟨g,0,none⟩)] 37)).alloc (.cells #[.int .i64 a.kind,.int .i64 a.minute,.int .i64 a.paper,.int .i64 a.case_,.int .i64 a.by_,.int .i64 a.against,.int .i64 a.art,.int .i64 a.at_,.slice A8 a.facts.length c8,.int .i64 a.paid,.bool a.up,.int .i64 a.pen] 43)).alloc (.cells #[.int .i64 a.kind,.int .i64 a.minute,.int .i64 0,.int .i64 0,.int .i64 0,.int .i64 0,.int .i64 0,.int .i64 0,.slice none 0 0,.int .i64 0,.bool false,.int .i64 0] 43)):=bel_alloc (bel_alloc (bel_alloc (Below.refl _ w) _) _) _;have hSz : (((w.alloc (.cells #[.pointer (some ⟨g,0,none⟩)] 37)).alloc (.cells #[.int .i64 a.kind,.int .i64 a.minute,.int .i64 a.paper,.int .i64 a.case_,.int .i64 a.by_,.int .i64 a.against,.int .i64 a.art,.int .i64 a.at_,.slice A8 a.facts.length c8,.int .i64 a.paid,.bool a.up,.int .i64 a.pen] 43)).alloc (.cells #[.int .i64 a.kind,.int .i64 a.minute,.int .i64 0,.int .i64 0,.int .i64 0,.int .i64 0,.int .i64 0,.int .i64 0,.slice none 0 0,.int .i64 0,.bool false,.int .i64 0] 43)).heap.size = w.heap.size + 3:=by simp
    obtain ⟨W,hW⟩ : ∃ W,W = (((w.alloc (.cells #[.pointer (some ⟨g,0,none⟩)] 37)).alloc (.cells #[.int .i64 a.kind,.int .i64 a.minute,.int .i64 a.paper,.int .i64 a.case_,.int .i64 a.by_,.int .i64 a.against,.int .i64 a.art,.int .i64 a.at_,.slice A8 a.facts.length c8,.int .i64 a.paid,.bool a.up,.int .i64 a.pen] 43)).alloc (.cells #[.int .i64 a.kind,.int .i64 a.minute,.int .i64 0,.int .i64 0,.int .i64 0,.int .i64 0,.int .i64 0,.int .i64 0,.slice none 0 0,.int .i64 0,.bool false,.int .i64 0] 43)):=⟨_,rfl⟩
    rw [← hW] at hA hX hP hG hBel hSz ⊢;clear hW;have hk:=HKK.out
    -- kind 6
    have k1 : (a.kind == 1) = false:=by simp [hk]
    have k2 : (a.kind == 2) = false:=by simp [hk]
    have k3 : (a.kind == 3) = false:=by simp [hk]
    have k5 : (a.kind == 5) = false:=by simp [hk]
    have k4 : (a.kind == 4) = false:=by simp [hk]
    have k6 : (a.kind == 6) = true:=by simp [hk]
    have y0 : W.cell? ⟨w.heap.size + 1,0,none⟩ = some (.int .i64 a.kind):=box43 hA 0 _ rfl;have y3 : W.cell? ⟨w.heap.size + 1,3,none⟩ = some (.int .i64 a.case_):=box43 hA 3 _ rfl;have x3 : W.cell? ⟨w.heap.size + 2,3,none⟩ = some (.int .i64 0):=box43 hX 3 _ rfl;have z3 : W.frozen? ⟨w.heap.size + 2,3,none⟩ = false:=by simp [World.frozen?,hX]
    have y4 : W.cell? ⟨w.heap.size + 1,4,none⟩ = some (.int .i64 a.by_):=box43 hA 4 _ rfl;have x4 : W.cell? ⟨w.heap.size + 2,4,none⟩ = some (.int .i64 0):=box43 hX 4 _ rfl;have z4 : W.frozen? ⟨w.heap.size + 2,4,none⟩ = false:=by simp [World.frozen?,hX]
    have HX:=Aside.mk hX;have HA:=Aside.mk hA;have HP:=Aside.mk hP;have HG1:=Aside.mk hG;have HBel:=Aside.mk hBel;have HSz:=Aside.mk hSz;clear hX hA hP hG hBel hSz
    go_upto_region 27 with fail
    go_region
    simp only [Exit.then];go_step;refine wp_abs (n:=283) (ds:=[]) (l:=[(3,.pointer (some ⟨w.heap.size + 1,0,none⟩)),(5,.func (.func 95) #[] #[.pointer (some ⟨w.heap.size,0,none⟩)]),(6,.pointer (some ⟨w.heap.size + 2,0,none⟩)),(7,.bool ((a.facts.length : Int) == 0)),(8,.bool (inB a.minute 0 10000000))]) ?_ ?_
    · refine (((((Has.nil ?_ ?_).cons ?_).cons ?_).cons ?_).cons ?_).cons ?_
      all_goals first | rfl | (simp [Act.eval];done)
    intro _ hf;have hM : Mod (fun k => k = w.heap.size + 2) W (World.drew (World.setCell (World.setCell (W) ⟨w.heap.size + 2,3,none⟩ (.int .i64 a.case_)) ⟨w.heap.size + 2,4,none⟩ (.int .i64 a.by_))):=(((Mod.refl (F:=fun k => k = w.heap.size + 2)).set_ (p:=⟨w.heap.size + 2,3,none⟩) (.inl rfl) _).set_ (p:=⟨w.heap.size + 2,4,none⟩) (.inl rfl) _).drew
    have hX1 : (World.drew (World.setCell (World.setCell (W) ⟨w.heap.size + 2,3,none⟩ (.int .i64 a.case_)) ⟨w.heap.size + 2,4,none⟩ (.int .i64 a.by_))).heap[w.heap.size + 2]? = some (.cells #[.int .i64 (shapeX a).kind,.int .i64 (shapeX a).minute,.int .i64 (shapeX a).paper,.int .i64 (shapeX a).case_,.int .i64 (shapeX a).by_,.int .i64 (shapeX a).against,.int .i64 (shapeX a).art,.int .i64 (shapeX a).at_,.slice none 0 0,.int .i64 (shapeX a).paid,.bool (shapeX a).up,.int .i64 (shapeX a).pen] 43 (0,0)):=by
      have:=(blk_set (blk_set HX.out 3 (.int .i64 a.case_)) 4 (.int .i64 a.by_))
      change (World.setCell (World.setCell (W) ⟨w.heap.size + 2,3,none⟩ (.int .i64 a.case_)) ⟨w.heap.size + 2,4,none⟩ (.int .i64 a.by_)).heap[w.heap.size + 2]? = _
      simpa [shapeX,zeroAct,k1,k2,k3,k4,k5,k6] using this
    generalize hW1 : World.drew (World.setCell (World.setCell (W) ⟨w.heap.size + 2,3,none⟩ (.int .i64 a.case_)) ⟨w.heap.size + 2,4,none⟩ (.int .i64 a.by_)) = W1 at hM hX1 ⊢
    clear hW1;have hA1:=(hM.block (w.heap.size + 1) (by have:=HSz.out;omega) (by omega)).trans HA.out;have hP1 : W1.cell? ⟨w.heap.size,0,none⟩ = some (.pointer (some ⟨g,0,none⟩)):=(World.cell?_of_block (hM.block w.heap.size (by have:=HSz.out;omega) (by omega))).trans HP.out;have hG1 : W1.cell? ⟨g,0,none⟩ = some (.int .i64 cars):=(World.cell?_of_block (hM.block g (by have:=HSz.out;omega) (by omega))).trans HG1.out;have hB1:=bel_mod HBel.out hM (by intro k hk;omega);clear y0 y3 x3 z3 y4 x4 z4;have y1 : W1.cell? ⟨w.heap.size + 1,1,none⟩ = some (.int .i64 a.minute):=box43 hA1 1 _ rfl;have y3 : W1.cell? ⟨w.heap.size + 1,3,none⟩ = some (.int .i64 a.case_):=box43 hA1 3 _ rfl;have y4 : W1.cell? ⟨w.heap.size + 1,4,none⟩ = some (.int .i64 a.by_):=box43 hA1 4 _ rfl;refine wp_region_lit ?_;refine a_move hf rfl rfl rfl ?_;clear hf;intro _ hf;refine group_ge 190 191 1 _ (decide (0 ≤ a.case_)) 3 3 (.int .i64 0) (.pointer (some ⟨w.heap.size + 1,3,none⟩)) (.int .i64 a.case_) rfl (by omega) (by omega) (by rw [hf.size];decide) (hf.at_ 190 _ rfl) (fun ev h => by rw [hf.at_ 3 _ rfl] at h;simp [go_sem,h]) (fun ev h => by simp [go_sem,h,y3]) (fun ev h c1 => by simp [go_sem,h,c1]) ?_;intro _ L E;replace hf:=(hf.low L rfl).cons (d:=195) E;clear L E;refine group_car 195 196 6 _ (inB a.by_ 1 cars) 4 3 _ 95 #[.int .i64 a.by_,.pointer (some ⟨w.heap.size,0,none⟩)] (.func (.func 95) #[] #[.pointer (some ⟨w.heap.size,0,none⟩)]) (.pointer (some ⟨w.heap.size + 1,4,none⟩)) (.int .i64 a.by_) rfl (by omega) (by omega) (by rw [hf.size];decide) (hf.at_ 195 _ rfl) (fun ev h => by rw [hf.at_ 5 _ rfl] at h;simp [go_sem,h]) (fun ev h => by rw [hf.at_ 3 _ rfl] at h;simp [go_sem,h]) (fun ev h => by simp [go_sem,h,y4]) (fun ev h h2 => by simp [go_sem,h,h2,e95 _ _]) (car_any _ g _ _ _ hP1 hG1) ?_;intro _ L E;replace hf:=(hf.low L rfl).cons (d:=201) E;clear L E;refine a_assign hf rfl rfl rfl ?_;clear hf;intro _ hf;refine wpList_nil ?_;have HO : shOk cars a = (inB a.minute 0 10000000 && decide (0 ≤ a.case_) && inB a.by_ 1 cars):=by simp [shOk,shMin,k1,k2,k3,k4,k5,k6]
    have HF' : shFacts a = ((a.facts.length : Int) == 0):=by rw [Bool.eq_iff_iff];simp [shFacts,k2]
    simp only [Exit.then,Exit.inBlock]
    repeat go_step
    refine Met.intro (hJ _ _ ⟨(((hf.nilOf.cons (d:=8) (by rw [HO];exact hf.at_ 8 _ rfl)).cons (d:=7) (by rw [HF'];exact hf.at_ 7 _ rfl)).cons (hf.at_ 6 _ rfl)).cons (hf.at_ 3 _ rfl),by simp [shKind,k1,k2,k3,k4,k5,k6],hB1,hA1,hX1⟩)
end Go.Proofs.Ytpadgcomncljmaa.A
/- Whether an act has the shape of its kind. -/
namespace Go.Proofs.Ytpadgcomncljmaa.A
open Go.RowKit
theorem shaped_any (g : Nat) (cars : Int) (a : ActL) (A8 : Option Addr) (c8 : Nat) (w : World) (hg : w.cell? ⟨g, 0, none⟩ = some (.int .i64 cars)) (hf8 : RI Any w A8 a.facts) (hfl : a.facts.length ≤ 1000000) :
    Calls Try.prog 62 #[.pointer (some ⟨g,0,none⟩),.agg #[.int .i64 a.kind,.int .i64 a.minute,.int .i64 a.paper,.int .i64 a.case_,.int .i64 a.by_,.int .i64 a.against,.int .i64 a.art,.int .i64 a.at_,.slice A8 a.facts.length c8,.int .i64 a.paid,.bool a.up,.int .i64 a.pen]] w fun r w' => r = .returned (.bool (shapedB cars a)) ∧ Below w.heap.size w w':=by
  by_cases h1 : a.kind = 1
  · exact shaped_1 g cars a A8 c8 w hg hf8 hfl h1
  by_cases h2 : a.kind = 2
  · exact shaped_2 g cars a A8 c8 w hg hf8 hfl h2
  by_cases h3 : a.kind = 3
  · exact shaped_3 g cars a A8 c8 w hg hf8 hfl h3
  by_cases h4 : a.kind = 4
  · exact shaped_4 g cars a A8 c8 w hg hf8 hfl h4
  by_cases h5 : a.kind = 5
  · exact shaped_5 g cars a A8 c8 w hg hf8 hfl h5
  by_cases h6 : a.kind = 6
  · exact shaped_6 g cars a A8 c8 w hg hf8 hfl h6
  exact shaped_0 g cars a A8 c8 w hg hf8 hfl h1 h2 h3 h4 h5 h6
end Go.Proofs.Ytpadgcomncljmaa.A
/- What the six kinds of acts come to,in one contract;the map of the methods. -/
namespace Go.Proofs.Ytpadgcomncljmaa.A
open Go.RowKit

def actR (C : CodeL) (acts : List ActL) (files : List FileL) (a : ActL) : Except Int Int :=
  if a.kind = 1 then publishR acts a else if a.kind = 2 then protestR C acts files a else if a.kind = 3 then rulingR 1 C acts files a
  else if a.kind = 4 then appealR C acts files a else if a.kind = 5 then rulingR 4 C acts files a else dropR C acts files a
def midFiles (acts : List ActL) (files : List FileL) (a : ActL) : List FileL:=if a.kind = 2 then files ++ [newFile acts] else files
def meth (k : Int) : Nat:=if k = 1 then 64 else if k = 2 then 65 else if k = 3 then 66 else if k = 4 then 67 else if k = 5 then 68 else 69
def ActOk (F D : Nat → Prop) (w : World) (g : Nat) (C : CodeL) (acts : List ActL) (files : List FileL) (a : ActL) (A1 : Option Addr) (c1 : Nat) (B7 : Option Addr) (d7 : Nat) (cs : List (List Value)) (w' : World) : Prop :=
  ∃ (F' : Nat → Prop) (B8 : Option Addr) (d8 : Nat) (rows : List Value),CourtP F' D w' g C acts (midFiles acts files a) A1 c1 B7 d7 B8 d8 cs rows ∧ Mod F w w' ∧ ∀ k,F' k → F k ∨ w.heap.size ≤ k
def ActPost (F D : Nat → Prop) (w : World) (g : Nat) (C : CodeL) (acts : List ActL) (files : List FileL) (a : ActL) (A1 : Option Addr) (c1 : Nat) (B7 : Option Addr) (d7 : Nat) (cs : List (List Value)) (r : Ending) (w' : World) : Prop :=
  r = resE (actR C acts files a) ∧ (∀ e,actR C acts files a = .error e → Below w.heap.size w w') ∧ (∀ n,actR C acts files a = .ok n → ActOk F D w g C acts files a A1 c1 B7 d7 cs w')
theorem ActPost.quiet {F D : Nat → Prop} {w : World} {g : Nat} {C : CodeL} {acts : List ActL} {files : List FileL} {a : ActL} {A1 : Option Addr} {c1 : Nat} {B7 : Option Addr} {d7 : Nat} {B8 : Option Addr} {d8 : Nat} {cs : List (List Value)} {rows : List Value} {r : Ending} {w' : World} {x : Except Int Int}
    (hI : CourtP F D w g C acts files A1 c1 B7 d7 B8 d8 cs rows) (h2 : ¬ a.kind = 2) (hx : actR C acts files a = x) (h : r = resE x ∧ Below w.heap.size w w') : ActPost F D w g C acts files a A1 c1 B7 d7 cs r w':=by
  subst hx
  refine ⟨h.1,fun _ _ => h.2,fun n _ => ⟨F,B8,d8,rows,?_,Mod.of_below h.2,fun k hk => .inl hk⟩⟩;rw [midFiles,if_neg h2];exact hI.below h.2

theorem act_any (F D : Nat → Prop) (g : Nat) (C : CodeL) (acts : List ActL) (files : List FileL) (a : ActL) (A8 : Option Addr) (c8 : Nat) (w : World) (A1 : Option Addr) (c1 : Nat) (B7 : Option Addr) (d7 : Nat) (B8 : Option Addr) (d8 : Nat) (cs : List (List Value)) (rows : List Value) (hI : CourtP F D w g C acts files A1 c1 B7 d7 B8 d8 cs rows) (hwf : Wf C acts files) (hal : acts.length ≤ 1000000) (hfl : files.length ≤ acts.length)
    (hm0 : 0 ≤ a.minute) (hm1 : a.minute ≤ 10000000) (hk0 : 1 ≤ a.kind) (hk1 : a.kind ≤ 6) (hc : ¬ a.kind = 1 → ¬ a.kind = 2 → 0 ≤ a.case_) :
    Calls Try.prog (meth a.kind) #[.pointer (some ⟨g,0,none⟩),.agg #[.int .i64 a.kind,.int .i64 a.minute,.int .i64 a.paper,.int .i64 a.case_,.int .i64 a.by_,.int .i64 a.against,.int .i64 a.art,.int .i64 a.at_,.slice A8 a.facts.length c8,.int .i64 a.paid,.bool a.up,.int .i64 a.pen]] w (ActPost F D w g C acts files a A1 c1 B7 d7 cs):=by
  have hC:=hI.reads hal hfl
  by_cases h1 : a.kind = 1
  · rw [show meth a.kind = 64 by simp [meth,h1]]
    exact (publish_any g C acts files a A8 c8 w hC).mono fun r w' h => ActPost.quiet hI (by omega) (by simp [actR,h1]) h
  by_cases h2 : a.kind = 2
  · rw [show meth a.kind = 65 by simp [meth,h2]]
    refine (protest_any F D g C acts files a A8 c8 w A1 c1 B7 d7 B8 d8 cs rows hI hwf hal hfl hm0 hm1).mono fun r w' h => ?_;have e : actR C acts files a = protestR C acts files a:=by simp [actR,h2]
    obtain ⟨p1,p2,p3⟩:=h
    refine ⟨by rw [e];exact p1,fun x hx => p2 x (e ▸ hx),fun n hn => ?_⟩
    obtain ⟨F',B8',d8',q1,q2,q3⟩:=p3 n (e ▸ hn)
    exact ⟨F',B8',d8',_,by rw [midFiles,if_pos h2];exact q1,q2,q3⟩
  have h0:=hc h1 h2
  by_cases h3 : a.kind = 3
  · rw [show meth a.kind = 66 by simp [meth,h3]]
    exact (decide_any g C acts files a A8 c8 w hC hwf h0).mono fun r w' h => ActPost.quiet hI (by omega) (by simp [actR,h3]) h
  by_cases h4 : a.kind = 4
  · rw [show meth a.kind = 67 by simp [meth,h4]]
    exact (appeal_any g C acts files a A8 c8 w hC hwf h0 hm0 hm1).mono fun r w' h => ActPost.quiet hI (by omega) (by simp [actR,h4]) h
  by_cases h5 : a.kind = 5
  · rw [show meth a.kind = 68 by simp [meth,h5]]
    exact (judge_any g C acts files a A8 c8 w hC hwf h0).mono fun r w' h => ActPost.quiet hI (by omega) (by simp [actR,h5]) h
  have h6 : a.kind = 6:=by omega
  · rw [show meth a.kind = 69 by simp [meth,h6]]
    exact (drop_any g C acts files a A8 c8 w hC hwf h0).mono fun r w' h => ActPost.quiet hI (by omega) (by simp [actR,h6]) h

theorem meth_enters (k : Int) : Enters (meth k):=by
  unfold meth
  split
  · exact e64
  split
  · exact e65
  split
  · exact e66
  split
  · exact e67
  split
  · exact e68
  · exact e69
def mv (g f : Nat) : Value:=.func (.func f) #[.pointer (some ⟨g,0,none⟩)] #[]
def ent (g : Nat) (k : Int) (f c : Nat) : MapEntry:={ key:=.int .i64 k,val:=mv g f,born:=c }
def methMap (g : Nat) : Array MapEntry:=#[ent g 1 64 0,ent g 2 65 1,ent g 3 66 2,ent g 4 67 3,ent g 5 68 4,ent g 6 69 5]
theorem find_meth (g : Nat) (k : Int) (h0 : 1 ≤ k) (h1 : k ≤ 6) : ∃ i,Instr.findNow (.int .i64) (.int .i64 k) (methMap g).toList 0 = some (some (i,mv g (meth k))):=by
  have : k = 1 ∨ k = 2 ∨ k = 3 ∨ k = 4 ∨ k = 5 ∨ k = 6:=by omega
  rcases this with rfl | rfl | rfl | rfl | rfl | rfl
  · exact ⟨0,rfl⟩
  · exact ⟨1,rfl⟩
  · exact ⟨2,rfl⟩
  · exact ⟨3,rfl⟩
  · exact ⟨4,rfl⟩
  · exact ⟨5,rfl⟩
def putMap (w : World) (b : Nat) (es : Array MapEntry) (c : Nat) : World:={ w with heap:=w.heap.setIfInBounds b (.map es c) }
theorem run_insert {w : World} (b : Nat) (es : Array MapEntry) (c : Nat) (k : Int) (v : Value) (hb : w.heap[b]? = some (.map es c)) (hno : Instr.findNow (.int .i64) (.int .i64 k) es.toList 0 = some none) :
    (Instr.mapUpdate 112 (.map (some b)) (.int .i64 k) v).run Try.prog w = .ok () (putMap w b (es.push { key:=.int .i64 k,val:=v,born:=c }) (c + 1)):=by
  have hck : (Instr.checkKey false 10000 41 (.int .i64 k)).run Try.prog w = .ok () w:=MapKept.run_checkKey (k:=.int .i64 k) Try.underlying41 (by simp [MapKept.IsKey]) false 9999
  simp [Instr.mapUpdate,run_underlying Try.underlying112,MapKept.run_getObj_map hb,hck,MapKept.run_findKey Try.underlying41 hno,MapKept.run_setObj_map _ hb,Result.andThen,putMap]
theorem run_find {w : World} (b : Nat) (es : Array MapEntry) (c : Nat) (k : Int) (v : Value) (i : Nat) (hb : w.heap[b]? = some (.map es c)) (hf : Instr.findNow (.int .i64) (.int .i64 k) es.toList 0 = some (some (i, v))) :
    (Instr.lookup 112 (.map (some b)) (.int .i64 k) false).run Try.prog w = .ok v w:=by
  have hck : ∀ e,(Instr.checkKey e 10000 41 (.int .i64 k)).run Try.prog w = .ok () w:=fun e => MapKept.run_checkKey (k:=.int .i64 k) Try.underlying41 (by simp [MapKept.IsKey]) e 9999
  simp [Instr.lookup,run_underlying Try.underlying112,MapKept.run_getObj_map hb,hck,MapKept.run_findKey Try.underlying41 hf,Result.andThen]

section
variable {ops : Array Oper} {Q : Exit → Act → World → Prop} {a : Act} {w : World} {rest : List Oper} {n d : Nat} {ds : List Deferred} {l : List (Nat × Value)} {v v1 : Value} {t : TypeId} {ps : String} {af : Array Edge} {g : Option (Nat × Bool)} {x y z x1 : Operand} {at_ : Array TypeId}
theorem a_makeMap (H : Has n ds l a) (hg : wantB ops n l g = some true) (hd : Nat.ble (d + 1) n = true) (h : ∀ a',Has n ds ((d,.map (some w.heap.size)) :: l) a' → wpList Try.prog ops Q rest a' (w.alloc (.map #[] 0))) : wpList Try.prog ops Q (⟨some d,.makeMap 112 none,t,ps,af,g⟩ :: rest) a w :=
  a_do H hg (by generalize a.eval = ev;simp [go_sem,run_makeMap]) rfl hd h
theorem a_method {f : Fn} (H : Has n ds l a) (hg : wantB ops n l g = some true) (hx : lookO l x = some v) (hd : Nat.ble (d + 1) n = true) (h : ∀ a',Has n ds ((d,.func f #[v] #[]) :: l) a' → wpList Try.prog ops Q rest a' w) : wpList Try.prog ops Q (⟨some d,.makeFunc f #[x] #[],t,ps,af,g⟩ :: rest) a w :=
  a_do H hg (by have hx:=H.evO hx;generalize a.eval = ev at hx;simp [go_sem,hx]) rfl hd h
theorem a_ins {w0 : World} {b c : Nat} {es : List MapEntry} {k : Int} (H : Has n ds l a) (hg : wantB ops n l g = some true) (hb : w.heap[b]? = some (.map es.toArray c)) (hB : Below w0.heap.size w0 w) (h0 : w0.heap.size ≤ b) (hx : lookO l x = some (.map (some b))) (hy : lookO l y = some (.int .i64 k)) (hz : lookO l z = some v) (hno : Instr.findNow (.int .i64) (.int .i64 k) es 0 = some none)
    (h : ∀ a' w',Has n ds l a' → w'.heap[b]? = some (.map (es ++ [MapEntry.mk (.int .i64 k) v c]).toArray (c + 1)) → Below w0.heap.size w0 w' → wpList Try.prog ops Q rest a' w') : wpList Try.prog ops Q (⟨none,.insert 112 x y z,t,ps,af,g⟩ :: rest) a w:=by
  have hbl : b < w.heap.size:=(Array.getElem?_eq_some_iff.1 hb).1;refine a_skip H hg (by have hx:=H.evO hx;have hy:=H.evO hy;have hz:=H.evO hz;have hr:=run_insert b es.toArray c k v hb (by simpa using hno);generalize a.eval = ev at hx hy hz;simp [go_sem,hx,hy,hz,hr];rfl) rfl fun a' H' => h _ _ H' ?_ ?_
  · have : (es.toArray.push { key:=.int .i64 k,val:=v,born:=c }) = (es ++ [MapEntry.mk (.int .i64 k) v c]).toArray:=by simp
    rw [← this]
    simp [putMap,hbl]
  · exact ⟨hB.os,hB.tape,hB.output,by simpa [putMap] using hB.size,fun k hk => by
      have : b ≠ k:=by omega
      simpa [putMap,Array.getElem?_setIfInBounds,this] using hB.block k hk⟩
theorem a_newMap {w0 : World} (H : Has n ds l a) (hg : wantB ops n l g = some true) (hd : Nat.ble (d + 1) n = true) (hB : Below w0.heap.size w0 w) (h : ∀ a' w',Has n ds ((d,.map (some w.heap.size)) :: l) a' → w'.heap[w.heap.size]? = some (.map ([] : List MapEntry).toArray 0) → Below w0.heap.size w0 w' → wpList Try.prog ops Q rest a' w') : wpList Try.prog ops Q (⟨some d,.makeMap 112 none,t,ps,af,g⟩ :: rest) a w :=
  a_makeMap H hg hd fun a' H' => h a' _ H' (heap_alloc_new w _) (hB.alloc hB.size _)
theorem a_lookup {b c i : Nat} {es : Array MapEntry} {k : Int} (H : Has n ds l a) (hg : wantB ops n l g = some true) (hx : lookO l x = some (.map (some b))) (hy : lookO l y = some (.int .i64 k)) (hb : w.heap[b]? = some (.map es c)) (hf : Instr.findNow (.int .i64) (.int .i64 k) es.toList 0 = some (some (i, v)))
    (hd : Nat.ble (d + 1) n = true) (h : ∀ a',Has n ds ((d,v) :: l) a' → wpList Try.prog ops Q rest a' w) : wpList Try.prog ops Q (⟨some d,.lookup 112 x y false,t,ps,af,g⟩ :: rest) a w :=
  a_do H hg (by have hx:=H.evO hx;have hy:=H.evO hy;have hr:=run_find b es c k v i hb hf;generalize a.eval = ev at hx hy;simp [go_sem,hx,hy,hr]) rfl hd h
theorem a_callm {s : Nat} {f : FuncId} {p : Value} (H : Has n ds l a) (hf : Enters f) (hg : wantB ops n l g = some true) (h0 : look l s = some (.func (.func f) #[p] #[])) (h1 : lookO l x1 = some v1) (hd : Nat.ble (d + 1) n = true) (h : Calls Try.prog f #[p,v1] w (CallPost Try.prog ops Q rest n ds l d a)) : wpList Try.prog ops Q (⟨some d,.call ⟨.value (.tmp s),#[x1],at_⟩,t,ps,af,g⟩ :: rest) a w :=
  a_enter H hg (by have h0:=H.evO (x:=.tmp s) h0;have h1:=H.evO h1;generalize a.eval = ev at h0 h1;simp [go_sem,h0,h1,hf _ _]) rfl hd h
end
end Go.Proofs.Ytpadgcomncljmaa.A
/- Do: what an act does to a court. -/
namespace Go.Proofs.Ytpadgcomncljmaa.A
open Go.RowKit



def lateB (acts : List ActL) (m : Int) : Bool:=match acts.getLast? with | none => false | some x => decide (m < x.minute)
def badB (C : CodeL) (acts : List ActL) (a : ActL) : Bool:=!shapedB C.cars a || lateB acts a.minute
theorem at3 {w : World} {o1 o2 o3 : Obj} : (((w.alloc o1).alloc o2).alloc o3).heap[w.heap.size]? = some o1 ∧ (((w.alloc o1).alloc o2).alloc o3).heap[w.heap.size + 1]? = some o2 ∧ (((w.alloc o1).alloc o2).alloc o3).heap[w.heap.size + 2]? = some o3:=by
  refine ⟨?_,?_,?_⟩
  · rw [Below.heap_alloc _ _ _ (by simp;omega),Below.heap_alloc _ _ _ (by simp)];exact heap_alloc_new w o1
  · rw [Below.heap_alloc _ _ _ (by simp)];exact new_at (by simp)
  · exact new_at (by simp)

structure DoHead (w : World) (a : ActL) (A8 : Option Addr) (c8 : Nat) (wx : World) : Prop where
  bel : Below w.heap.size w wx
  act : wx.heap[w.heap.size]? = some (.cells #[.int .i64 a.kind,.int .i64 a.minute,.int .i64 a.paper,.int .i64 a.case_,.int .i64 a.by_,.int .i64 a.against,.int .i64 a.art,.int .i64 a.at_,.slice A8 a.facts.length c8,.int .i64 a.paid,.bool a.up,.int .i64 a.pen] 43 (0,0))
  num : wx.heap[w.heap.size + 1]? = some (.cells #[.int .i64 0] 3 (0,0))
  err : wx.heap[w.heap.size + 2]? = some (.cells #[.int .i64 0] 24 (0,0))
theorem DoHead.go {w : World} {a : ActL} {A8 : Option Addr} {c8 : Nat} {wx wy : World} (h : DoHead w a A8 c8 wx) (hb : Below wx.heap.size wx wy) : DoHead w a A8 c8 wy :=
  ⟨bel_then h.bel hb,(hb.block _ (blk_lt h.act)).trans h.act,(hb.block _ (blk_lt h.num)).trans h.num,(hb.block _ (blk_lt h.err)).trans h.err⟩
theorem shaped_as (g : Nat) (cars : Int) (a : ActL) (A8 : Option Addr) (c8 : Nat) (b : Bool) (hb : shapedB cars a = b) (w : World) (hg : w.cell? ⟨g, 0, none⟩ = some (.int .i64 cars)) (hf8 : RI Any w A8 a.facts) (hfl : a.facts.length ≤ 1000000) :
    Calls Try.prog 62 #[.pointer (some ⟨g,0,none⟩),.agg #[.int .i64 a.kind,.int .i64 a.minute,.int .i64 a.paper,.int .i64 a.case_,.int .i64 a.by_,.int .i64 a.against,.int .i64 a.art,.int .i64 a.at_,.slice A8 a.facts.length c8,.int .i64 a.paid,.bool a.up,.int .i64 a.pen]] w fun r w' => r = .returned (.bool b) ∧ Below w.heap.size w w':=by
  subst hb
  exact shaped_any g cars a A8 c8 w hg hf8 hfl
theorem do_results (tm : Array Value) (W : World) (b4 b5 : Nat) (n e : Int) (h4 : tm.getD 4 undef = .pointer (some ⟨b4, 0, none⟩)) (h5 : tm.getD 5 undef = .pointer (some ⟨b5, 0, none⟩)) (c4 : W.cell? ⟨b4, 0, none⟩ = some (.int .i64 n)) (c5 : W.cell? ⟨b5, 0, none⟩ = some (.int .i64 e)) :
    (results Try.f26 tm).run Try.prog W = .ok (.tuple #[.int .i64 n,.int .i64 e]) W:=by
  simp only [Array.getD_eq_getD_getElem?] at h4 h5
  simp [results,Try.results26,go_sem,h4,h5,c4,c5]
def doR (C : CodeL) (acts : List ActL) (files : List FileL) (a : ActL) : Except Int Int :=
  if badB C acts a then .error 2 else if 2000 ≤ acts.length then .error 4 else actR C acts files a
def endFiles (acts : List ActL) (files : List FileL) (a : ActL) (n : Int) : List FileL :=
  if 0 ≤ n then (midFiles acts files a).modify n.toNat (fun f => { f with acts:=f.acts ++ [(acts.length : Int)] }) else midFiles acts files a
def numE : Except Int Int → Int × Int
  | .ok n => (n,0)
  | .error e => (0,e)
theorem blk_free {w : World} {b : Nat} {t : TypeId} {cs : Array Value} (h : w.heap[b]? = some (.cells cs t (0,0))) (i : Nat) : w.frozen? ⟨b,i,none⟩ = false:=by simp [World.frozen?,h]
theorem shaped_facts {cars : Int} {a : ActL} (h : shapedB cars a = true) : (1 ≤ a.kind ∧ a.kind ≤ 6) ∧ 0 ≤ a.minute ∧ a.minute ≤ 10000000 ∧ (¬ a.kind = 1 → ¬ a.kind = 2 → 0 ≤ a.case_):=by
  simp only [shapedB,shKind,shOk,shMin,Bool.and_eq_true,Bool.or_eq_true,beq_iff_eq] at h
  obtain ⟨h1,⟨h2,_⟩,_⟩:=h
  have h3 : inB a.minute 0 10000000 = true ∧ (¬ a.kind = 1 → ¬ a.kind = 2 → 0 ≤ a.case_):=by
    split at h2
    · exact ⟨(by simp only [Bool.and_eq_true] at h2;exact h2.1),fun h => absurd ‹_› h⟩
    split at h2
    · exact ⟨(by simp only [Bool.and_eq_true] at h2;exact h2.1.1.1.1.1.1.1),fun _ h => absurd ‹_› h⟩
    split at h2
    · simp only [Bool.and_eq_true,decide_eq_true_eq] at h2;exact ⟨h2.1.1,fun _ _ => h2.1.2⟩
    split at h2
    · simp only [Bool.and_eq_true,decide_eq_true_eq] at h2;exact ⟨h2.1.1.1,fun _ _ => h2.1.1.2⟩
    · simp only [Bool.and_eq_true,decide_eq_true_eq] at h2;exact ⟨h2.1.1,fun _ _ => h2.1.2⟩
  simp only [inB,Bool.and_eq_true,decide_eq_true_eq] at h3;exact ⟨by omega,h3.1.1,h3.1.2,h3.2⟩
theorem act_range {C : CodeL} {acts : List ActL} {files : List FileL} {a : ActL} {n : Int} (hcase : ¬ a.kind = 1 → ¬ a.kind = 2 → 0 ≤ a.case_) (h : actR C acts files a = .ok n) : (n = -1 ∧ a.kind = 1) ∨ (¬ a.kind = 1 ∧ 0 ≤ n ∧ n.toNat < (midFiles acts files a).length):=by
  have hfile : ∀ (f : FileL),files[a.case_.toNat]? = some f → 0 ≤ a.case_ → ¬ a.kind = 2 → ¬ a.kind = 1 → (¬ a.kind = 1 ∧ 0 ≤ a.case_ ∧ a.case_.toNat < (midFiles acts files a).length):=fun f hf h0 h2 h1 => ⟨h1,h0,by rw [midFiles,if_neg h2];exact (List.getElem?_eq_some_iff.1 hf).1⟩
  unfold actR at h
  split at h
  · unfold publishR at h
    split at h
    · cases h
    · cases h;exact .inl ⟨rfl,‹_›⟩
  rename_i h1
  refine .inr ?_
  split at h
  · rename_i h2
    unfold protestR at h
    split at h
    · cases h
    split at h
    · cases h
    split at h
    · cases h
    · cases h;exact ⟨h1,by omega,by rw [midFiles,if_pos h2];simp⟩
  rename_i h2
  have h0:=hcase h1 h2
  split at h
  · unfold rulingR at h
    split at h
    · cases h
    · rename_i f hf
      split at h
      · cases h
      split at h
      · cases h
      · cases h;exact hfile f hf h0 h2 h1
  split at h
  · unfold appealR at h
    split at h
    · cases h
    · rename_i f hf
      split at h
      · cases h
      split at h
      · cases h
      split at h
      · cases h
      split at h
      · cases h
      · cases h;exact hfile f hf h0 h2 h1
  split at h
  · unfold rulingR at h
    split at h
    · cases h
    · rename_i f hf
      split at h
      · cases h
      split at h
      · cases h
      · cases h;exact hfile f hf h0 h2 h1
  · unfold dropR at h
    split at h
    · cases h
    · rename_i f hf
      split at h
      · cases h
      split at h
      · cases h
      · cases h;exact hfile f hf h0 h2 h1
theorem bad_no {C : CodeL} {acts : List ActL} {a : ActL} (h : badB C acts a = false) : shapedB C.cars a = true ∧ lateB acts a.minute = false:=by
  simpa [badB] using h
theorem actCells_one (a : ActL) (A9 : Option Addr) (c9 : Nat) : ∀ u ∈ actCells a A9 c9,u.oneCell' = true:=by
  intro u hu;simp only [actCells,List.mem_cons,List.not_mem_nil,or_false] at hu
  rcases hu with rfl | rfl | rfl | rfl | rfl | rfl | rfl | rfl | rfl | rfl | rfl | rfl <;> rfl
theorem modify_set {α : Type} {l : List α} {i : Nat} {x : α} {f : α → α} (h : l[i]? = some x) : l.modify i f = l.set i (f x):=by
  refine List.ext_getElem? fun j => ?_;rw [List.getElem?_modify,List.getElem?_set]
  by_cases hj : i = j
  · subst hj
    obtain ⟨h1,h2⟩:=List.getElem?_eq_some_iff.1 h
    simp [h1,h2]
  · simp [hj]
theorem add_at' (g j k : Nat) : (⟨g,j,none⟩ : Addr).add k = ⟨g,j + k,none⟩:=by unfold Addr.add;split <;> simp_all
theorem file_few {C : CodeL} {acts : List ActL} {files : List FileL} {a : ActL} {f : FileL} (hwf : Wf C acts files) (h : f ∈ midFiles acts files a) : f.acts.length ≤ acts.length:=by
  unfold midFiles at h
  split at h
  · rcases List.mem_append.1 h with h | h
    · exact (hwf.file f h).2.2.1
    · rw [List.mem_singleton.1 h];simp [newFile]
  · exact (hwf.file f h).2.2.1
def AfterRow (F D : Nat → Prop) (W : World) (g : Nat) (C : CodeL) (acts : List ActL) (files : List FileL) (a : ActL) (n : Int) (A1 : Option Addr) (c1 : Nat) (B7 : Option Addr) (d7 : Nat) (cs : List (List Value)) (wx : World) : Prop :=
  ∃ (F2 : Nat → Prop) (B8 : Option Addr) (d8 : Nat) (rows : List Value),CourtP F2 D wx g C acts (endFiles acts files a n) A1 c1 B7 d7 B8 d8 cs rows ∧ Mod F W wx ∧ ∀ k,F2 k → F k ∨ W.heap.size ≤ k
def DoPost (F D : Nat → Prop) (w : World) (g : Nat) (C : CodeL) (acts : List ActL) (files : List FileL) (a : ActL) (r : Ending) (w' : World) : Prop :=
  r = .returned (.tuple #[.int .i64 (numE (doR C acts files a)).1,.int .i64 (numE (doR C acts files a)).2]) ∧ (∀ e,doR C acts files a = .error e → Below w.heap.size w w') ∧
  (∀ n, doR C acts files a = .ok n → ∃ (F' D' : Nat → Prop) (A1 : Option Addr) (c1 : Nat) (B7 : Option Addr) (d7 : Nat) (B8 : Option Addr) (d8 : Nat) (cs : List (List Value)) (rows : List Value),
    CourtP F' D' w' g C (acts ++ [a]) (endFiles acts files a n) A1 c1 B7 d7 B8 d8 cs rows ∧ Mod F w w' ∧ (∀ k,F' k → F k ∨ w.heap.size ≤ k) ∧ ∀ k,D' k → D k ∨ w.heap.size ≤ k)
theorem DoPost.no {F D : Nat → Prop} {w : World} {g : Nat} {C : CodeL} {acts : List ActL} {files : List FileL} {a : ActL} {w' : World} {e : Int} (h : doR C acts files a = .error e) (hb : Below w.heap.size w w') : DoPost F D w g C acts files a (.returned (.tuple #[.int .i64 0,.int .i64 e])) w' :=
  ⟨by rw [h];rfl,fun _ _ => hb,fun n hn => by rw [h] at hn;cases hn⟩

set_option maxHeartbeats 4000000 in
set_option maxRecDepth 100000 in
theorem do_any (F D : Nat → Prop) (g : Nat) (C : CodeL) (acts : List ActL) (files : List FileL) (a : ActL) (A8 : Option Addr) (c8 : Nat) (w : World) (A1 : Option Addr) (c1 : Nat) (B7 : Option Addr) (d7 : Nat) (B8 : Option Addr) (d8 : Nat) (cs : List (List Value)) (rows : List Value) (hI : CourtP F D w g C acts files A1 c1 B7 d7 B8 d8 cs rows) (hwf : Wf C acts files) (hal : acts.length ≤ 1000000) (hfl : files.length ≤ acts.length)
    (hf8 : RI (fun k => ¬ F k) w A8 a.facts) (hc8 : a.facts.length ≤ c8) (hf9 : a.facts.length ≤ 1000000) :
    Calls Try.prog 26 #[.pointer (some ⟨g,0,none⟩),.agg #[.int .i64 a.kind,.int .i64 a.minute,.int .i64 a.paper,.int .i64 a.case_,.int .i64 a.by_,.int .i64 a.against,.int .i64 a.art,.int .i64 a.at_,.slice A8 a.facts.length c8,.int .i64 a.paid,.bool a.up,.int .i64 a.pen]] w (DoPost F D w g C acts files a):=by
  have hmf : ∀ (fn : Fn) (first cap : Array Value) (w : World),(Instr.makeFunc fn first cap).run Try.prog w = .ok (.func fn first cap) w:=fun _ _ _ _ => rfl;have HI:=Aside.mk hI;have HWF:=Aside.mk hwf;have HF0:=Aside.mk hf8;have HF8:=Aside.mk hf8.any;have HC:=Aside.mk (hI.reads hal hfl);have hgl:=blk_lt hI.blk;clear hI hwf hf8
  go_enter_defers Try.func26,Try.ntmps26
  go_wp2_with fail
  obtain ⟨W0,hW0⟩ : ∃ W0,W0 = (((w.alloc (.cells #[.int .i64 a.kind,.int .i64 a.minute,.int .i64 a.paper,.int .i64 a.case_,.int .i64 a.by_,.int .i64 a.against,.int .i64 a.art,.int .i64 a.at_,.slice A8 a.facts.length c8,.int .i64 a.paid,.bool a.up,.int .i64 a.pen] 43)).alloc (.cells #[.int .i64 0] 3)).alloc (.cells #[.int .i64 0] 24)):=⟨_,rfl⟩
  have HD0 : DoHead w a A8 c8 W0:=by
    rw [hW0];exact ⟨bel_alloc (bel_alloc (bel_alloc (Below.refl _ _) _) _) _,at3.1,at3.2.1,at3.2.2⟩
  rw [← hW0];clear hW0;have HH:=Aside.mk HD0;clear HD0;refine (ready_any g true _ ((World.cell?_of_block (HH.out.bel.block g hgl)).trans (court6 HI.out.blk))).mono ?_
  rintro r w1 ⟨rfl,rfl⟩
  have hq:=HH.out.act;have hz:=blk_lt hq
  obtain ⟨b0,b1,b2,b3,b4,b5,b6,b7,b8,b9,b10,b11⟩:=actBox hq
  have hg:=(HH.out.bel.block g hgl).trans HI.out.blk;have h7:=court7 hg;have hg0:=Aside.mk (court0 hg);have hgl0:=blk_lt hg;have HW0:=Aside.mk (HF8.out.below HH.out.bel);clear hq hg
  go_upto_region 3 with fail
  refine wp_cut (fun fr wx => Has 106 [] [(0,.pointer (some ⟨g,0,none⟩)),(3,.pointer (some ⟨w.heap.size,0,none⟩)),(4,.pointer (some ⟨w.heap.size + 1,0,none⟩)),(5,.pointer (some ⟨w.heap.size + 1 + 1,0,none⟩)),(39,.bool (badB C acts a))] fr ∧ DoHead w a A8 c8 wx) ?_ ?_
  rotate_left
  · intro J K' hJ hK'
    have hC0 : ∀ W,DoHead w a A8 c8 W → W.cell? ⟨w.heap.size,0,none⟩ = some (.int .i64 a.kind) ∧ W.cell? ⟨w.heap.size,1,none⟩ = some (.int .i64 a.minute) ∧ W.cell? ⟨w.heap.size,2,none⟩ = some (.int .i64 a.paper) ∧ W.cell? ⟨w.heap.size,3,none⟩ = some (.int .i64 a.case_) ∧ W.cell? ⟨w.heap.size,4,none⟩ = some (.int .i64 a.by_) ∧ W.cell? ⟨w.heap.size,5,none⟩ = some (.int .i64 a.against) ∧ W.cell? ⟨w.heap.size,6,none⟩ = some (.int .i64 a.art) ∧ W.cell? ⟨w.heap.size,7,none⟩ = some (.int .i64 a.at_) ∧ W.cell? ⟨w.heap.size,8,none⟩ = some (.slice A8 a.facts.length c8) ∧ W.cell? ⟨w.heap.size,9,none⟩ = some (.int .i64 a.paid) ∧ W.cell? ⟨w.heap.size,10,none⟩ = some (.bool a.up) ∧ W.cell? ⟨w.heap.size,11,none⟩ = some (.int .i64 a.pen):=fun W hW => actBox hW.act;have hC1 : ∀ W,DoHead w a A8 c8 W → W.cell? ⟨w.heap.size,1,none⟩ = some (.int .i64 a.minute):=fun W hW => (actBox hW.act).2.1;have hC7 : ∀ W,DoHead w a A8 c8 W → W.cell? ⟨g,7,none⟩ = some (.slice B7 acts.length d7):=fun W hW => (World.cell?_of_block (hW.bel.block g hgl)).trans (court7 HI.out.blk)
    have HS : ∀ b,shapedB C.cars a = b → ∀ W,DoHead w a A8 c8 W → Calls Try.prog 62 #[.pointer (some ⟨g,0,none⟩),.agg #[.int .i64 a.kind,.int .i64 a.minute,.int .i64 a.paper,.int .i64 a.case_,.int .i64 a.by_,.int .i64 a.against,.int .i64 a.art,.int .i64 a.at_,.slice A8 a.facts.length c8,.int .i64 a.paid,.bool a.up,.int .i64 a.pen]] W fun r w' => r = .returned (.bool b) ∧ DoHead w a A8 c8 w':=fun b hb W hW =>
      (shaped_as g C.cars a A8 c8 b hb W ((World.cell?_of_block (hW.bel.block g hgl)).trans (court0 HI.out.blk)) (HF8.out.below hW.bel) hf9).mono fun _ _ h => ⟨h.1,hW.go h.2⟩
    have hd : DoHead w a A8 c8 W0.drew:=HH.out.go (bel_drew (Below.refl _ _));refine r_quiet (n:=106) (ds:=[]) (ls:=[(0,.pointer (some ⟨g,0,none⟩)),(3,.pointer (some ⟨w.heap.size,0,none⟩)),(4,.pointer (some ⟨w.heap.size + 1,0,none⟩)),(5,.pointer (some ⟨w.heap.size + 1 + 1,0,none⟩))]) (DoHead w a A8 c8) (by kernel_rfl) (by kernel_rfl) hd ?_ ?_
    · refine ((((Has.nil ?_ ?_).cons ?_).cons ?_).cons ?_).cons ?_
      all_goals first | rfl | (simp [Act.eval];done)
    intro _ hf
    cases hs : shapedB C.cars a with
    | false =>
      have HBD:=Aside.mk (show badB C acts a = true by simp [badB,hs])
      repeat ((first | refine q_move hf rfl rfl rfl ?_ | refine q_assign hf rfl rfl rfl ?_ | refine q_field hf rfl rfl rfl rfl ?_ | refine q_load hf rfl rfl rfl (by assumption) rfl ?_ | refine q_load43 hf rfl rfl (by assumption) rfl ?_ | refine q_pickT hf rfl rfl rfl rfl ?_ | refine q_pickF hf rfl rfl rfl rfl ?_ | refine q_skip hf rfl rfl rfl ?_ | refine q_cmp (b:=true) hf rfl rfl rfl rfl rfl (by first | assumption | ((try dsimp only);simp only [bq1,bq2,bq3,bq4,bq5,bq6,bq7];omega)) rfl ?_ | refine q_cmp (b:=false) hf rfl rfl rfl rfl rfl (by first | assumption | ((try dsimp only);simp only [bq1,bq2,bq3,bq4,bq5,bq6,bq7];omega)) rfl ?_ | refine q_cmp hf rfl rfl rfl rfl rfl rfl rfl ?_ | refine q_ar hf rfl rfl rfl rfl (by (try dsimp only);omega) rfl ?_ | refine q_len hf rfl rfl rfl rfl ?_ | refine q_nilCheck hf rfl rfl rfl ?_ | refine q_not hf rfl rfl rfl ?_ | refine q_extract hf rfl rfl rfl rfl ?_ | refine q_index hf rfl rfl rfl rfl (by first | rfl | omega) (by omega) rfl ?_ | (refine q_call2 hf e62 rfl rfl rfl rfl (HS _ hs) ?_));clear hf;intro _ hf)
      refine q_nil ?_;intro w' hw';exact hK' _ _ (Met.intro (hJ _ _ ⟨((((hf.nilOf.cons (d:=39) (by rw [HBD.out];exact hf.at_ 39 _ rfl)).cons (hf.at_ 5 _ rfl)).cons (hf.at_ 4 _ rfl)).cons (hf.at_ 3 _ rfl)).cons (hf.at_ 0 _ rfl),hw'⟩))
    | true =>
    by_cases hnil : acts = []
    · have HBD:=Aside.mk (show badB C acts a = false by simp [badB,hs,hnil,lateB])
      have hl0 : acts.length = 0:=by simp [hnil]
      repeat ((first | refine q_move hf rfl rfl rfl ?_ | refine q_assign hf rfl rfl rfl ?_ | refine q_field hf rfl rfl rfl rfl ?_ | refine q_load hf rfl rfl rfl (by assumption) rfl ?_ | refine q_load43 hf rfl rfl (by assumption) rfl ?_ | refine q_pickT hf rfl rfl rfl rfl ?_ | refine q_pickF hf rfl rfl rfl rfl ?_ | refine q_skip hf rfl rfl rfl ?_ | refine q_cmp (b:=true) hf rfl rfl rfl rfl rfl (by first | assumption | ((try dsimp only);simp only [bq1,bq2,bq3,bq4,bq5,bq6,bq7];omega)) rfl ?_ | refine q_cmp (b:=false) hf rfl rfl rfl rfl rfl (by first | assumption | ((try dsimp only);simp only [bq1,bq2,bq3,bq4,bq5,bq6,bq7];omega)) rfl ?_ | refine q_cmp hf rfl rfl rfl rfl rfl rfl rfl ?_ | refine q_ar hf rfl rfl rfl rfl (by (try dsimp only);omega) rfl ?_ | refine q_len hf rfl rfl rfl rfl ?_ | refine q_nilCheck hf rfl rfl rfl ?_ | refine q_not hf rfl rfl rfl ?_ | refine q_extract hf rfl rfl rfl rfl ?_ | refine q_index hf rfl rfl rfl rfl (by first | rfl | omega) (by omega) rfl ?_ | (refine q_call2 hf e62 rfl rfl rfl rfl (HS _ hs) ?_));clear hf;intro _ hf)
      refine q_nil ?_;intro w' hw';exact hK' _ _ (Met.intro (hJ _ _ ⟨((((hf.nilOf.cons (d:=39) (by rw [HBD.out];exact hf.at_ 39 _ rfl)).cons (hf.at_ 5 _ rfl)).cons (hf.at_ 4 _ rfl)).cons (hf.at_ 3 _ rfl)).cons (hf.at_ 0 _ rfl),hw'⟩))

    · obtain ⟨x,hx,hx'⟩ : ∃ x,acts[acts.length - 1]? = some x ∧ acts.getLast? = some x:=by
        obtain ⟨x,hx⟩:=get_some (l:=acts) (k:=acts.length - 1) (by have:=List.length_pos_iff.2 hnil;omega)
        exact ⟨x,hx,by rw [List.getLast?_eq_getElem?];exact hx⟩
      have HBD:=Aside.mk (show badB C acts a = decide (a.minute < x.minute) by simp [badB,hs,hx',lateB]);have hl0 : 0 < acts.length:=List.length_pos_iff.2 hnil
      obtain ⟨_,_,B7',_,_,_,hg',_,h2,_⟩:=HC.out
      have e7:=(court7 hg').symm.trans (court7 HI.out.blk)
      cases e7
      obtain ⟨ad,Bx,dx,rfl,_,_,g1,_⟩:=h2 _ x hx
      have hg1 : ∀ W,DoHead w a A8 c8 W → W.cell? ⟨(ad.add ((acts.length - 1) * 12)).block,(ad.add ((acts.length - 1) * 12)).off + 1,none⟩ = some (.int .i64 x.minute):=fun W hW => (World.cell?_of_block (hW.bel.block _ (lt_of_cell g1))).trans g1;clear hg' h2 g1 hx hx'
      repeat ((first | refine q_move hf rfl rfl rfl ?_ | refine q_assign hf rfl rfl rfl ?_ | refine q_field hf rfl rfl rfl rfl ?_ | refine q_load hf rfl rfl rfl (by assumption) rfl ?_ | refine q_load43 hf rfl rfl (by assumption) rfl ?_ | refine q_pickT hf rfl rfl rfl rfl ?_ | refine q_pickF hf rfl rfl rfl rfl ?_ | refine q_skip hf rfl rfl rfl ?_ | refine q_cmp (b:=true) hf rfl rfl rfl rfl rfl (by first | assumption | ((try dsimp only);simp only [bq1,bq2,bq3,bq4,bq5,bq6,bq7];omega)) rfl ?_ | refine q_cmp (b:=false) hf rfl rfl rfl rfl rfl (by first | assumption | ((try dsimp only);simp only [bq1,bq2,bq3,bq4,bq5,bq6,bq7];omega)) rfl ?_ | refine q_cmp hf rfl rfl rfl rfl rfl rfl rfl ?_ | refine q_ar hf rfl rfl rfl rfl (by (try dsimp only);omega) rfl ?_ | refine q_len hf rfl rfl rfl rfl ?_ | refine q_nilCheck hf rfl rfl rfl ?_ | refine q_not hf rfl rfl rfl ?_ | refine q_extract hf rfl rfl rfl rfl ?_ | refine q_index hf rfl rfl rfl rfl (by first | rfl | omega) (by omega) rfl ?_ | (refine q_index (j:=acts.length - 1) hf rfl rfl rfl rfl (by omega) (by omega) rfl ?_) | (refine q_call2 hf e62 rfl rfl rfl rfl (HS _ hs) ?_));clear hf;intro _ hf)
      refine q_nil ?_;intro w' hw';exact hK' _ _ (Met.intro (hJ _ _ ⟨((((hf.nilOf.cons (d:=39) (by rw [HBD.out];exact hf.at_ 39 _ rfl)).cons (hf.at_ 5 _ rfl)).cons (hf.at_ 4 _ rfl)).cons (hf.at_ 3 _ rfl)).cons (hf.at_ 0 _ rfl),hw'⟩))

  · intro fr wc hR
    obtain ⟨hf,hd⟩:=hR
    obtain ⟨f,rfl,hfv⟩:=hf.spread
    rw [show ((List.range 106).map f).toArray = (f 0 :: f 1 :: f 2 :: f 3 :: f 4 :: f 5 :: f 6 :: f 7 :: f 8 :: f 9 :: f 10 :: f 11 :: f 12 :: f 13 :: f 14 :: f 15 :: f 16 :: f 17 :: f 18 :: f 19 :: f 20 :: f 21 :: f 22 :: f 23 :: f 24 :: f 25 :: f 26 :: f 27 :: f 28 :: f 29 :: f 30 :: f 31 :: f 32 :: f 33 :: f 34 :: f 35 :: f 36 :: f 37 :: f 38 :: f 39 :: f 40 :: f 41 :: f 42 :: f 43 :: f 44 :: f 45 :: f 46 :: f 47 :: f 48 :: f 49 :: f 50 :: f 51 :: f 52 :: f 53 :: f 54 :: f 55 :: f 56 :: f 57 :: f 58 :: f 59 :: f 60 :: f 61 :: f 62 :: f 63 :: f 64 :: f 65 :: f 66 :: f 67 :: f 68 :: f 69 :: f 70 :: f 71 :: f 72 :: f 73 :: f 74 :: f 75 :: f 76 :: f 77 :: f 78 :: f 79 :: f 80 :: f 81 :: f 82 :: f 83 :: f 84 :: f 85 :: f 86 :: f 87 :: f 88 :: f 89 :: f 90 :: f 91 :: f 92 :: f 93 :: f 94 :: f 95 :: f 96 :: f 97 :: f 98 :: f 99 :: f 100 :: f 101 :: f 102 :: f 103 :: f 104 :: f 105 :: []).toArray from rfl,hfv 0 _ rfl rfl,hfv 3 _ rfl rfl,hfv 4 _ rfl rfl,hfv 5 _ rfl rfl,hfv 39 _ rfl rfl];have HH:=Aside.mk hd;clear hfv hf hd HW0 hg0 h7 b0 b1 b2 b3 b4 b5 b6 b7 b8 b9 b10 b11
    cases hbad : badB C acts a with
    | true =>
      have HBD:=Aside.mk hbad;clear hbad;have c4 : wc.cell? ⟨w.heap.size + 1,0,none⟩ = some (.int .i64 0):=blk_cell HH.out.num 0;have c5 : wc.cell? ⟨w.heap.size + 1 + 1,0,none⟩ = some (.int .i64 0):=blk_cell HH.out.err 0;have f4 : wc.frozen? ⟨w.heap.size + 1,0,none⟩ = false:=by simp [World.frozen?,HH.out.num]
      have f5 : wc.frozen? ⟨w.heap.size + 1 + 1,0,none⟩ = false:=by have:=HH.out.err;simp [World.frozen?,this]
      go_step
      go_wp2_with fail
      refine ⟨_,do_results _ _ (w.heap.size + 1) (w.heap.size + 1 + 1) 0 2 (by simp) (by simp) (by go_simp) (by go_simp),?_⟩;refine DoPost.no (e:=2) (by simp [doR,HBD.out]) (bel_set (bel_set HH.out.bel (by simp) _) (by simp;omega) _)
    | false =>
      have HBD:=Aside.mk hbad;clear hbad;have hg:=(HH.out.bel.block g hgl).trans HI.out.blk;have h7:=court7 hg;have c4 : wc.cell? ⟨w.heap.size + 1,0,none⟩ = some (.int .i64 0):=blk_cell HH.out.num 0;have c5 : wc.cell? ⟨w.heap.size + 1 + 1,0,none⟩ = some (.int .i64 0):=blk_cell HH.out.err 0;have f4 : wc.frozen? ⟨w.heap.size + 1,0,none⟩ = false:=by simp [World.frozen?,HH.out.num]
      have f5 : wc.frozen? ⟨w.heap.size + 1 + 1,0,none⟩ = false:=by have:=HH.out.err;simp [World.frozen?,this]
      clear hg
      by_cases hlong : 2000 ≤ acts.length
      · have HL:=Aside.mk hlong
        go_step
        go_wp2_with fail
        refine ⟨_,do_results _ _ (w.heap.size + 1) (w.heap.size + 1 + 1) 0 4 (by simp) (by simp) (by go_simp) (by go_simp),?_⟩;refine DoPost.no (e:=4) (by simp [doR,HBD.out,HL.out]) (bel_set (bel_set HH.out.bel (by simp) _) (by simp;omega) _)
      · have HDO:=Aside.mk (show doR C acts files a = actR C acts files a by simp only [doR,HBD.out];rw [if_neg (by simp),if_neg hlong])
        obtain ⟨⟨hk0,hk1⟩,hm0,hm1,hcase⟩:=shaped_facts (bad_no HBD.out).1
        have hb0 : wc.cell? ⟨w.heap.size,0,none⟩ = some (.int .i64 a.kind):=(actBox HH.out.act).1;go_step
        go_upto_region 8 with fail
        clear h7 hb0 c4 c5 f4 f5;refine wp_abs (n:=106) (ds:=[{ target:=.fn (.func 63) #[.pointer (some ⟨w.heap.size + 1,0,none⟩),.pointer (some ⟨w.heap.size + 1 + 1,0,none⟩)],args:=#[] }]) (l:=[(0,.pointer (some ⟨g,0,none⟩)),(3,.pointer (some ⟨w.heap.size,0,none⟩)),(4,.pointer (some ⟨w.heap.size + 1,0,none⟩)),(5,.pointer (some ⟨w.heap.size + 1 + 1,0,none⟩))]) ?_ ?_
        · refine ((((Has.nil ?_ ?_).cons ?_).cons ?_).cons ?_).cons ?_
          all_goals first | rfl | (simp [Act.eval];done)
        intro _ hf;refine wp_region_lit ?_;refine a_newMap hf rfl rfl (Below.refl _ wc) ?_;clear hf;intro _ wm hf hb hB;refine a_move hf rfl rfl rfl ?_;clear hf;intro _ hf;refine a_method hf rfl rfl rfl ?_;clear hf;intro _ hf;refine a_ins hf rfl hb hB (Nat.le_refl _) rfl rfl rfl rfl ?_;clear hf hb hB;intro _ wm hf hb hB;refine a_move hf rfl rfl rfl ?_;clear hf;intro _ hf;refine a_method hf rfl rfl rfl ?_;clear hf;intro _ hf;refine a_ins hf rfl hb hB (Nat.le_refl _) rfl rfl rfl rfl ?_;clear hf hb hB;intro _ wm hf hb hB;refine a_move hf rfl rfl rfl ?_;clear hf;intro _ hf;refine a_method hf rfl rfl rfl ?_;clear hf;intro _ hf;refine a_ins hf rfl hb hB (Nat.le_refl _) rfl rfl rfl rfl ?_;clear hf hb hB;intro _ wm hf hb hB;refine a_move hf rfl rfl rfl ?_;clear hf;intro _ hf;refine a_method hf rfl rfl rfl ?_;clear hf;intro _ hf;refine a_ins hf rfl hb hB (Nat.le_refl _) rfl rfl rfl rfl ?_;clear hf hb hB;intro _ wm hf hb hB;refine a_move hf rfl rfl rfl ?_;clear hf;intro _ hf;refine a_method hf rfl rfl rfl ?_;clear hf;intro _ hf;refine a_ins hf rfl hb hB (Nat.le_refl _) rfl rfl rfl rfl ?_;clear hf hb hB;intro _ wm hf hb hB;refine a_move hf rfl rfl rfl ?_;clear hf;intro _ hf;refine a_method hf rfl rfl rfl ?_;clear hf;intro _ hf;refine a_ins hf rfl hb hB (Nat.le_refl _) rfl rfl rfl rfl ?_;clear hf hb hB;intro _ wm hf hb hB;refine a_move hf rfl rfl rfl ?_;clear hf;intro _ hf;refine a_assign hf rfl rfl rfl ?_;clear hf;intro _ hf;refine wpList_nil ?_;simp only [Exit.then];have hb' : wm.heap[wc.heap.size]? = some (.map (methMap g) 6):=hb;have HM:=Aside.mk (HH.out.go hB);clear hb hB
        obtain ⟨i,hi⟩:=find_meth g a.kind hk0 hk1
        obtain ⟨b0,b1,b2,b3,b4,b5,b6,b7,b8,b9,b10,b11⟩:=actBox HM.out.act
        go_step;refine wp_seq_k ?_;intro _ _;refine wp_region_lit ?_;refine a_move hf rfl rfl rfl ?_;clear hf;intro _ hf;refine a_field hf rfl rfl rfl rfl ?_;clear hf;intro _ hf;refine a_load hf rfl rfl rfl (by exact b0) rfl ?_;clear hf;intro _ hf;refine a_lookup hf rfl rfl rfl hb' hi rfl ?_;clear hf;intro _ hf;refine a_load43 hf rfl rfl (by exact b0) (by exact b1) (by exact b2) (by exact b3) (by exact b4) (by exact b5) (by exact b6) (by exact b7) (by exact b8) (by exact b9) (by exact b10) (by exact b11) rfl ?_;clear hf;intro _ hf;refine a_callm hf (meth_enters _) rfl rfl rfl rfl ?_;clear b0 b1 b2 b3 b4 b5 b6 b7 b8 b9 b10 b11 hi hb';have HI1:=Aside.mk (HI.out.below HM.out.bel);refine (act_any F D g C acts files a A8 c8 wm A1 c1 B7 d7 B8 d8 cs rows HI1.out HWF.out hal hfl hm0 hm1 hk0 hk1 hcase).mono ?_
        rintro r w1 ⟨he,hp1,hp2⟩
        have n4:=HM.out.num;have n5:=HM.out.err
        cases hr : actR C acts files a with
        | error e =>
          rw [hr] at he
          subst he
          have hb1:=hp1 e hr;intro hf';simp only [Exit.then,bodyPostD];rw [hf'.defers];have m4:=(hb1.block _ (blk_lt n4)).trans n4;have m5:=(hb1.block _ (blk_lt n5)).trans n5;refine leaves_cons (f:=63) (args:=#[.pointer (some ⟨w.heap.size + 1,0,none⟩),.pointer (some ⟨w.heap.size + 1 + 1,0,none⟩)]) (by simp) (by simp [go_sem]) ?_;refine (catch_refused (w.heap.size + 1) (w.heap.size + 1 + 1) e 0 0 (by omega) w1 (blk_cell m4 0) (blk_cell m5 0) (by simp [World.frozen?,m4]) (by simp [World.frozen?,m5])).mono ?_
          rintro e' u' w2 ⟨rfl,rfl,hmod,hc4,hc5⟩
          refine ⟨_,do_results _ _ (w.heap.size + 1) (w.heap.size + 1 + 1) 0 e (hf'.at_ 4 _ rfl) (hf'.at_ 5 _ rfl) hc4 hc5,?_⟩;exact DoPost.no (by rw [HDO.out];exact hr) (bel_mod (bel_then HM.out.bel hb1) hmod (by omega))
        | ok n =>
          rw [hr] at he
          subst he
          obtain ⟨F',B8',d8',rows',hI2,hM2,hF2⟩:=hp2 n hr
          intro _ hf;have hz1 : w.heap.size + 2 < wm.heap.size:=blk_lt n5;have hFl : ∀ k,F k → k < w.heap.size:=HI.out.lt;have m3:=(hM2.block _ (blk_lt HM.out.act) (fun h => by have:=hFl _ h;omega)).trans HM.out.act;have m4:=(hM2.block _ (blk_lt n4) (fun h => by have:=hFl _ h;omega)).trans n4;have m5:=(hM2.block _ (blk_lt n5) (fun h => by have:=hFl _ h;omega)).trans n5;have hF7 : RI (fun k => k < w.heap.size ∧ ¬ F k) w A8 a.facts:=HF0.out.mono (fun k h1 h2 => ⟨h2,h1⟩);have hF8' : RI (fun k => k < w.heap.size ∧ ¬ F k) w1 A8 a.facts:=hF7.move (fun k hk hl => (hM2.block k (Nat.lt_of_lt_of_le hl HM.out.bel.size) hk.2).trans (HM.out.bel.block k hl));have hMw : Mod F w w1:=(Mod.of_below HM.out.bel).trans hM2 (fun _ _ h => h);have hF3 : ∀ k,F' k → F k ∨ wm.heap.size ≤ k:=hF2;have hsz1:=hM2.size;refine a_store hf rfl rfl rfl rfl rfl (by exact blk_cell m4 0) (by simp [World.frozen?,m4]) ?_;clear hf;intro _ hf;have q4:=blk_set m4 0 (.int .i64 n);have hMs:=Mod.set_ (Mod.refl (F:=fun k => k = w.heap.size + 1) (w:=w1)) (p:=⟨w.heap.size + 1,0,none⟩) (.inl rfl) (.int .i64 n)
          obtain ⟨W2,hW2⟩ : ∃ W2,W2 = w1.setCell ⟨w.heap.size + 1,0,none⟩ (.int .i64 n):=⟨_,rfl⟩
          rw [← hW2] at q4 hMs ⊢;clear hW2;have q3:=(hMs.block _ (blk_lt m3) (by omega)).trans m3;have q5:=(hMs.block _ (blk_lt m5) (by omega)).trans m5;have hI3:=hI2.keep hMs (fun k hk e => by rcases hF3 k hk with h | h <;> first | (have:=hFl k h;omega) | omega) (fun k hk e => by have:=HI.out.ltD k hk;omega);have hF9 : RI Any W2 A8 a.facts:=(hF8'.move (fun k hk hl => hMs.block k hl (fun e => by have:=hk.1;omega))).any;have hMw2 : Mod F w W2:=hMw.trans hMs (fun k hk e => by exfalso;omega);have hsz2:=hMs.size;clear m3 m4 m5 hI2 hM2 hMw hMs hF8' hF7 hF2;refine wpList_nil ?_;simp only [Exit.then];go_step;refine wp_seq_k ?_;intro _ _;refine wp_region_lit ?_
          obtain ⟨b0,b1,b2,b3,b4,b5,b6,b7,b8,b9,b10,b11⟩:=actBox q3
          refine a_field hf rfl rfl rfl rfl ?_;clear hf;intro _ hf;refine a_load hf rfl rfl rfl (by exact b8) rfl ?_;clear hf;intro _ hf;refine a_call1 hf e70 rfl rfl rfl ?_;clear b0 b1 b2 b3 b4 b5 b6 b7 b8 b9 b10 b11;refine (clone_ints A8 c8 a.facts W2 hf9 hF9).mono ?_
          rintro r w3 ⟨A9,c9,rfl,hc9,_,hri,hb3,_⟩
          clear hf;intro _ hf;have p3:=(hb3.block _ (blk_lt q3)).trans q3;have p4:=(hb3.block _ (blk_lt q4)).trans q4;have p5:=(hb3.block _ (blk_lt q5)).trans q5;have hz3:=hb3.size
          have hI4:=(hI3.below hb3).widen (D':=fun k => D k ∨ (W2.heap.size ≤ k ∧ k < w3.heap.size)) (fun k hk => .inl hk) (fun k hk => by rcases hk with hk | hk <;> first | (have:=hI3.ltD k hk;omega) | exact hk.2) (fun k hk hF => by
            have:=hI3.lt k hF
            rcases hk with hk | hk
            · exact hI3.apart k hk hF
            · omega)
          have hri' : RI (fun k => D k ∨ (W2.heap.size ≤ k ∧ k < w3.heap.size)) w3 A9 a.facts:=hri.mono (fun k h1 h2 => .inr ⟨h1,h2⟩);have hMw3 : Mod F w w3:=hMw2.trans (Mod.of_below (F:=fun _ => False) hb3) (fun _ _ h => h.elim);have hlt3 : w.heap.size < w3.heap.size:=blk_lt p3;clear q3 q4 q5 hI3 hb3 hri hMw2 hF9;refine a_field hf rfl rfl rfl rfl ?_;clear hf;intro _ hf;refine a_store hf rfl rfl rfl rfl rfl (by exact (actBox p3).2.2.2.2.2.2.2.2.1) (by exact blk_free p3 8) ?_;clear hf;intro _ hf;have q3:=blk_set p3 8 (.slice A9 a.facts.length c9);have hMs:=Mod.set_ (Mod.refl (F:=fun k => k = w.heap.size) (w:=w3)) (p:=⟨w.heap.size,8,none⟩) (.inl rfl) (.slice A9 a.facts.length c9)
          change wpList _ _ _ _ _ (w3.setCell ⟨w.heap.size,8,none⟩ (.slice A9 a.facts.length c9))
          obtain ⟨W4,hW4⟩ : ∃ W4,W4 = w3.setCell ⟨w.heap.size,8,none⟩ (.slice A9 a.facts.length c9):=⟨_,rfl⟩
          rw [← hW4] at q3 hMs ⊢;clear hW4;have q4:=(hMs.block _ (blk_lt p4) (by omega)).trans p4;have q5:=(hMs.block _ (blk_lt p5) (by omega)).trans p5;have hI5:=hI4.keep hMs (fun k hk e => by rcases hF3 k hk with h | h <;> first | (have:=hFl k h;omega) | omega) (fun k hk e => by rcases hk with hk | hk <;> first | (have:=HI.out.ltD k hk;omega) | omega);have hri4 : RI (fun k => D k ∨ (W2.heap.size ≤ k ∧ k < w3.heap.size)) W4 A9 a.facts:=hri'.move (fun k hk hl => hMs.block k hl (fun e => by rcases hk with hk | hk <;> first | (have:=HI.out.ltD k hk;omega) | omega));have hMw4 : Mod F w W4:=hMw3.trans hMs (fun k hk e => by exfalso;omega);have hsz4:=hMs.size;have q3' : W4.heap[w.heap.size]? = some (.cells #[.int .i64 a.kind,.int .i64 a.minute,.int .i64 a.paper,.int .i64 a.case_,.int .i64 a.by_,.int .i64 a.against,.int .i64 a.art,.int .i64 a.at_,.slice A9 a.facts.length c9,.int .i64 a.paid,.bool a.up,.int .i64 a.pen] 43 (0,0)):=q3;clear p3 p4 p5 hI4 hri' hMw3 hMs q3;refine wpList_nil ?_;simp only [Exit.then];go_step;refine wp_seq_k ?_;intro _ _
          obtain ⟨D5,hD5⟩ : ∃ D5 : Nat → Prop,D5 = fun k => D k ∨ (W2.heap.size ≤ k ∧ k < w3.heap.size):=⟨_,rfl⟩
          rw [← hD5] at hI5 hri4
          have hD5' : ∀ k,D5 k → D k ∨ w.heap.size + 3 ≤ k:=fun k hk => by
            rw [hD5] at hk
            rcases hk with hk | hk
            · exact .inl hk
            · right;omega
          clear hD5;have hrange:=act_range hcase hr;have HRI:=Aside.mk hri4;have HMW:=Aside.mk hMw4;have q4' : W4.heap[w.heap.size + 1]? = some (.cells #[.int .i64 n] 3 (0,0)):=q4;have HQ:=Aside.mk (And.intro q3' (And.intro q4' q5));have HI5:=Aside.mk hI5;have HF3:=Aside.mk hF3;have HR:=Aside.mk hr;clear hri4 hMw4 q3' q4 q4' q5 hI5 hF3 hr HM HI1 hp1 hp2 n4 n5;refine wp_cut (fun fr wx => Has 106 [{ target:=.fn (.func 63) #[.pointer (some ⟨w.heap.size + 1,0,none⟩),.pointer (some ⟨w.heap.size + 1 + 1,0,none⟩)],args:=#[] }] [(0,.pointer (some ⟨g,0,none⟩)),(3,.pointer (some ⟨w.heap.size,0,none⟩)),(4,.pointer (some ⟨w.heap.size + 1,0,none⟩)),(5,.pointer (some ⟨w.heap.size + 1 + 1,0,none⟩))] fr ∧ AfterRow F' D5 W4 g C acts files a n A1 c1 B7 d7 cs wx) ?_ ?_
          rotate_left
          · intro J K' hJ hK'
            refine wp_seq_k ?_;intro _ _;refine wp_region_lit ?_;refine a_load hf rfl rfl rfl (by exact blk_cell HQ.out.2.1 0) rfl ?_;clear hf;intro _ hf
            by_cases hn : 0 ≤ n
            rotate_left
            · refine a_cmp (b:=false) hf rfl rfl rfl rfl rfl (by simpa using hn) rfl ?_;clear hf;intro _ hf
              refine wpList_nil ?_;simp only [Exit.then];go_step;refine c_condF hf rfl ?_;refine wp_skip ?_;simp only [Exit.then];refine hK' _ _ (Met.intro (hJ _ _ ⟨(((hf.nilOf.cons (hf.at_ 5 _ rfl)).cons (hf.at_ 4 _ rfl)).cons (hf.at_ 3 _ rfl)).cons (hf.at_ 0 _ rfl),F',B8',d8',rows',?_,Mod.refl,fun k hk => .inl hk⟩));rw [endFiles,if_neg hn];exact HI5.out
            refine a_cmp (b:=true) hf rfl rfl rfl rfl rfl (by simpa using hn) rfl ?_;clear hf;intro _ hf;refine wpList_nil ?_;simp only [Exit.then];go_step;refine c_condT hf rfl ?_
            obtain ⟨i,rfl⟩ : ∃ i : Nat,n = i:=⟨n.toNat,by omega⟩
            have hil : i < (midFiles acts files a).length:=by rcases hrange with h | h <;> omega
            obtain ⟨ff,hff⟩:=get_some hil
            obtain ⟨v,hv⟩:=get_some (l:=rows') (k:=i) (by rw [HI5.out.rowsOk.len];exact hil)
            obtain ⟨b8,hb8⟩:=HI5.out.file_block hff
            subst hb8
            obtain ⟨hown,hvF⟩:=HI5.out.rowsOk.own i ff v hff hv
            obtain ⟨Av,cv,rfl,hcv,hcm,_⟩:=own_form hown
            have hg:=HI5.out.blk;have h8:=court8 hg;have h7:=court7 hg;have c4 : W4.cell? ⟨w.heap.size + 1,0,none⟩ = some (.int .i64 i):=blk_cell HQ.out.2.1 0
            have hcell := HI5.out.own8.cells (g := b8) rfl (i * 2 + 1) (.slice Av ff.acts.length cv) (by
              rw [flat_get 2 _ i 1 filesCells_len (by omega),filesCells_get i ff _ hff hv];rfl)
            rw [add_at] at hcell;have hcadd : ((⟨b8,0,none⟩ : Addr).add (i * 2)).add 1 = ⟨b8,i * 2 + 1,none⟩:=by rw [add_at,add_at']
            have hflen : ff.acts.length ≤ 2000:=by
              have:=file_few HWF.out (List.mem_of_getElem? hff)
              omega
            have hgl4:=blk_lt hg
            obtain ⟨c8',hc8'⟩:=own_typed HI5.out.own8 b8 rfl
            have hb8l:=blk_lt hc8';have hnl4:=blk_lt HQ.out.2.1
            have hgb8 : g ≠ b8:=fun e => by
              subst e
              rw [hg] at hc8'
              injection hc8' with e1
              injection e1 with _ e2
              cases e2
            have hnb8 : w.heap.size + 1 ≠ b8:=fun e => by
              have:=HQ.out.2.1;rw [e,hc8'] at this
              injection this with e1
              injection e1 with _ e2
              cases e2
            have hvb : ∀ k,(Value.slice Av ff.acts.length cv).ownBlock = some k → k ≠ b8 ∧ k ≠ g ∧ k ≠ w.heap.size + 1:=fun k hk => ⟨own_ne hown hc8' (by decide) k hk,own_ne hown hg (by decide) k hk,fun e => by
              rcases HF3.out k (hvF k hk) with h | h
              · have:=hFl k h;omega
              · omega⟩
            obtain ⟨i0,hi,hz0,hz1,hz2⟩:=info_parts info3
            refine t_begin (S:=fun w' => w'.cell? ⟨g,8,none⟩ = some (.slice (some ⟨b8,0,none⟩) (midFiles acts files a).length d8') ∧ w'.cell? ⟨g,7,none⟩ = some (.slice B7 acts.length d7) ∧ w'.cell? ⟨w.heap.size + 1,0,none⟩ = some (.int .i64 i)) (by kernel_rfl) ?_;have hS : (fun w' : World => w'.cell? ⟨g,8,none⟩ = some (.slice (some ⟨b8,0,none⟩) (midFiles acts files a).length d8') ∧ w'.cell? ⟨g,7,none⟩ = some (.slice B7 acts.length d7) ∧ w'.cell? ⟨w.heap.size + 1,0,none⟩ = some (.int .i64 i)) W4.drew:=⟨h8,h7,c4⟩;refine t_take (i:=0) (d:=73) hf rfl (by kernel_rfl) (by kernel_rfl) (by kernel_rfl) rfl (fun w' hw' => x_move hf rfl) rfl rfl hS ?_;clear hf;intro _ hf;refine t_take (i:=1) (d:=74) hf rfl (by kernel_rfl) (by kernel_rfl) (by kernel_rfl) rfl (fun w' hw' => x_nilCheck hf rfl) rfl rfl hS ?_;clear hf;intro _ hf;refine t_take (i:=2) (d:=75) hf rfl (by kernel_rfl) (by kernel_rfl) (by kernel_rfl) rfl (fun w' hw' => x_field hf rfl rfl) rfl rfl hS ?_;clear hf;intro _ hf;refine t_take (i:=3) (d:=76) hf rfl (by kernel_rfl) (by kernel_rfl) (by kernel_rfl) rfl (fun w' hw' => x_load hf rfl rfl (by exact hw'.1)) rfl rfl hS ?_;clear hf;intro _ hf;refine t_take (i:=4) (d:=77) hf rfl (by kernel_rfl) (by kernel_rfl) (by kernel_rfl) rfl (fun w' hw' => x_load hf rfl rfl (by exact hw'.2.2)) rfl rfl hS ?_;clear hf;intro _ hf;refine t_take (i:=5) (d:=78) hf rfl (by kernel_rfl) (by kernel_rfl) (by kernel_rfl) rfl (fun w' hw' => x_move hf rfl) rfl rfl hS ?_;clear hf;intro _ hf;refine t_take (i:=6) (d:=79) hf rfl (by kernel_rfl) (by kernel_rfl) (by kernel_rfl) rfl (fun w' hw' => x_nilCheck hf rfl) rfl rfl hS ?_;clear hf;intro _ hf;refine t_take (i:=7) (d:=80) hf rfl (by kernel_rfl) (by kernel_rfl) (by kernel_rfl) rfl (fun w' hw' => x_field hf rfl rfl) rfl rfl hS ?_;clear hf;intro _ hf;refine t_take (i:=8) (d:=81) hf rfl (by kernel_rfl) (by kernel_rfl) (by kernel_rfl) rfl (fun w' hw' => x_load hf rfl rfl (by exact hw'.1)) rfl rfl hS ?_;clear hf;intro _ hf;refine t_take (i:=9) (d:=82) hf rfl (by kernel_rfl) (by kernel_rfl) (by kernel_rfl) rfl (fun w' hw' => x_load hf rfl rfl (by exact hw'.2.2)) rfl rfl hS ?_;clear hf;intro _ hf;refine t_take (i:=10) (d:=83) hf rfl (by kernel_rfl) (by kernel_rfl) (by kernel_rfl) rfl (fun w' hw' => x_index (j:=i) hf rfl rfl rfl rfl (by omega)) rfl rfl hS ?_;clear hf;intro _ hf;refine t_take (i:=11) (d:=84) hf rfl (by kernel_rfl) (by kernel_rfl) (by kernel_rfl) rfl (fun w' hw' => x_field hf rfl rfl) rfl rfl hS ?_;clear hf;intro _ hf;refine t_take (i:=13) (d:=86) hf rfl (by kernel_rfl) (by kernel_rfl) (by kernel_rfl) rfl (fun w' hw' => x_move hf rfl) rfl rfl hS ?_;clear hf;intro _ hf;refine t_take (i:=14) (d:=87) hf rfl (by kernel_rfl) (by kernel_rfl) (by kernel_rfl) rfl (fun w' hw' => x_nilCheck hf rfl) rfl rfl hS ?_;clear hf;intro _ hf;refine t_take (i:=15) (d:=88) hf rfl (by kernel_rfl) (by kernel_rfl) (by kernel_rfl) rfl (fun w' hw' => x_field hf rfl rfl) rfl rfl hS ?_;clear hf;intro _ hf
            refine t_take (i:=16) (d:=89) hf rfl (by kernel_rfl) (by kernel_rfl) (by kernel_rfl) rfl (fun w' hw' => x_load hf rfl rfl (by exact hw'.2.1)) rfl rfl hS ?_;clear hf;intro _ hf;refine t_take (i:=17) (d:=90) hf rfl (by kernel_rfl) (by kernel_rfl) (by kernel_rfl) rfl (fun w' hw' => x_len hf rfl rfl) rfl rfl hS ?_;clear hf;intro _ hf;have hcell' : W4.drew.cell? (((⟨b8,0,none⟩ : Addr).add (i * 2)).add 1) = some (.slice Av ff.acts.length cv):=by rw [hcadd];exact hcell
            have hSa : (fun w' : World => w'.cell? ⟨g,8,none⟩ = some (.slice (some ⟨b8,0,none⟩) (midFiles acts files a).length d8') ∧ w'.cell? ⟨g,7,none⟩ = some (.slice B7 acts.length d7) ∧ w'.cell? ⟨w.heap.size + 1,0,none⟩ = some (.int .i64 i)) (W4.drew.alloc (.cells #[.int .i64 (acts.length : Int)] 3)):=⟨cell_alloc hS.1 _,cell_alloc hS.2.1 _,cell_alloc hS.2.2 _⟩;refine t_two (i:=12) (j:=18) (by kernel_rfl) (t_op (d:=85) hf rfl rfl (x_load hf rfl rfl hcell') rfl rfl (fun _ hf => ⟨hS,?_⟩)) (t_op (d:=91) hf rfl rfl (x_one22 hf rfl) rfl rfl (fun _ hf => ⟨hSa,?_⟩))
            · refine t_one (i:=18) (by kernel_rfl) (t_op (d:=91) hf rfl rfl (x_one22 hf rfl) rfl rfl (fun _ hf => ⟨hSa,?_⟩))
              refine t_one (i:=19) (by kernel_rfl) (t_wp hf rfl rfl ?_);refine wp_append_lies _ _ _ 22 rfl 0 3 i0 (.int .i64 0) 1 8 Try.underlying22 hi hz0 hz1 hz2 rfl (by decide) (.slice Av ff.acts.length cv) ff.acts.length (ints ff.acts) (hf.at_ 85 _ rfl) (own_below hown (bel_alloc (bel_drew (Below.refl _ W4)) _)) ⟨W4.heap.size,0,none⟩ 1 1 [.int .i64 (acts.length : Int)] (hf.at_ 91 _ rfl) rfl (World.news_of_block (cs:=#[.int .i64 (acts.length : Int)]) (t:=3) (fr:=(0,0)) (heap_alloc_new W4.drew _)) (by intro u hu;simp at hu;subst hu;rfl) (by decide) (by simp only [maxLen];omega) (by omega) (Nat.zero_le _) (W4.heap.size + 1) (by simp) ?_;intro g8 cap8 w8 hown8 hgrow8 hat8 hlt8;have hfar : ∀ k,k < W4.heap.size → some k ≠ (Value.slice Av ff.acts.length cv).ownBlock → w8.heap[k]? = W4.heap[k]?:=fun k hk hne => (hgrow8.block k (by simp;omega) hne).trans (Below.heap_alloc W4.drew _ k hk);have hgg:=hfar g hgl4 (fun e => (hvb g e.symm).2.1 rfl);have hgn:=hfar _ hnl4 (fun e => (hvb _ e.symm).2.2 rfl);have hgb:=hfar b8 hb8l (fun e => (hvb b8 e.symm).1 rfl);have hS8 : (fun w' : World => w'.cell? ⟨g,8,none⟩ = some (.slice (some ⟨b8,0,none⟩) (midFiles acts files a).length d8') ∧ w'.cell? ⟨g,7,none⟩ = some (.slice B7 acts.length d7) ∧ w'.cell? ⟨w.heap.size + 1,0,none⟩ = some (.int .i64 i)) w8:=⟨(World.cell?_of_block hgg).trans h8,(World.cell?_of_block hgg).trans h7,(World.cell?_of_block hgn).trans c4⟩;refine ⟨hS8,?_⟩;replace hf:=hf.put (d:=92) (v:=.slice (some ⟨g8,0,none⟩) (ff.acts.length + 1) cap8) rfl;clear hS;have hS:=hS8;refine t_take (i:=20) (d:=93) hf rfl (by kernel_rfl) (by kernel_rfl) (by kernel_rfl) rfl (fun w' hw' => x_index (j:=i) hf rfl rfl rfl rfl (by omega)) rfl rfl hS ?_;clear hf;intro _ hf;refine t_take (i:=21) (d:=94) hf rfl (by kernel_rfl) (by kernel_rfl) (by kernel_rfl) rfl (fun w' hw' => x_field hf rfl rfl) rfl rfl hS ?_;clear hf;intro _ hf;refine t_one (i:=22) (by kernel_rfl) (t_skip hf rfl rfl (x_store hf rfl rfl rfl rfl (by rw [hcadd];exact (World.cell?_of_block hgb).trans hcell) (by rw [hcadd];exact blk_free (hgb.trans hc8') _)) rfl (fun _ hf => ⟨?_,?_⟩))
              · rw [hcadd]
                exact ⟨(World.cell?_of_block ((set_other w8 ⟨b8,i * 2 + 1,none⟩ _ g hgb8).trans hgg)).trans h8,(World.cell?_of_block ((set_other w8 ⟨b8,i * 2 + 1,none⟩ _ g hgb8).trans hgg)).trans h7,(World.cell?_of_block ((set_other w8 ⟨b8,i * 2 + 1,none⟩ _ _ hnb8).trans hgn)).trans c4⟩
              have hP:=HI5.out.setRow i ff _ hff hv (acts.length : Int) g8 cap8 hfar (Nat.le_trans (by simp) hgrow8.size) hown8 (hat8.imp id (fun h => by omega)) hlt8
              have he : endFiles acts files a i = (midFiles acts files a).set i { ff with acts:=ff.acts ++ [(acts.length : Int)] }:=by
                rw [endFiles,if_pos hn,show ((i : Int)).toNat = i from rfl,modify_set hff]
              rw [← he] at hP
              have hR : AfterRow F' D5 W4 g C acts files a i A1 c1 B7 d7 cs (w8.setCell ⟨b8,i * 2 + 1,none⟩ (.slice (some ⟨g8,0,none⟩) (ff.acts.length + 1) cap8)):=by
                refine ⟨_,_,_,_,hP,(((Mod.refl (F:=F') (w:=W4)).drew.alloc _).grown hgrow8 (fun k hk => .inl (hvF k hk))).set_ (.inl (HI5.out.f8 b8 rfl)) _,fun k hk => ?_⟩
                rcases hk with hk | rfl
                · exact .inl hk
                · rcases hat8 with e | e
                  · exact .inl (hvF _ e)
                  · right;omega
              refine wpAnyH_done (by kernel_rfl) (NoPanic.normal ?_) _;rw [hcadd];simp only [Exit.then];exact hK' _ _ (Met.intro (hJ _ _ ⟨(((hf.nilOf.cons (hf.at_ 5 _ rfl)).cons (hf.at_ 4 _ rfl)).cons (hf.at_ 3 _ rfl)).cons (hf.at_ 0 _ rfl),hR⟩))
            · refine t_one (i:=12) (by kernel_rfl) (t_op (d:=85) hf rfl rfl (x_load hf rfl rfl (cell_alloc hcell' _)) rfl rfl (fun _ hf => ⟨hSa,?_⟩))
              refine t_one (i:=19) (by kernel_rfl) (t_wp hf rfl rfl ?_);refine wp_append_lies _ _ _ 22 rfl 0 3 i0 (.int .i64 0) 1 8 Try.underlying22 hi hz0 hz1 hz2 rfl (by decide) (.slice Av ff.acts.length cv) ff.acts.length (ints ff.acts) (hf.at_ 85 _ rfl) (own_below hown (bel_alloc (bel_drew (Below.refl _ W4)) _)) ⟨W4.heap.size,0,none⟩ 1 1 [.int .i64 (acts.length : Int)] (hf.at_ 91 _ rfl) rfl (World.news_of_block (cs:=#[.int .i64 (acts.length : Int)]) (t:=3) (fr:=(0,0)) (heap_alloc_new W4.drew _)) (by intro u hu;simp at hu;subst hu;rfl) (by decide) (by simp only [maxLen];omega) (by omega) (Nat.zero_le _) (W4.heap.size + 1) (by simp) ?_;intro g8 cap8 w8 hown8 hgrow8 hat8 hlt8;have hfar : ∀ k,k < W4.heap.size → some k ≠ (Value.slice Av ff.acts.length cv).ownBlock → w8.heap[k]? = W4.heap[k]?:=fun k hk hne => (hgrow8.block k (by simp;omega) hne).trans (Below.heap_alloc W4.drew _ k hk);have hgg:=hfar g hgl4 (fun e => (hvb g e.symm).2.1 rfl);have hgn:=hfar _ hnl4 (fun e => (hvb _ e.symm).2.2 rfl);have hgb:=hfar b8 hb8l (fun e => (hvb b8 e.symm).1 rfl);have hS8 : (fun w' : World => w'.cell? ⟨g,8,none⟩ = some (.slice (some ⟨b8,0,none⟩) (midFiles acts files a).length d8') ∧ w'.cell? ⟨g,7,none⟩ = some (.slice B7 acts.length d7) ∧ w'.cell? ⟨w.heap.size + 1,0,none⟩ = some (.int .i64 i)) w8:=⟨(World.cell?_of_block hgg).trans h8,(World.cell?_of_block hgg).trans h7,(World.cell?_of_block hgn).trans c4⟩;refine ⟨hS8,?_⟩;replace hf:=hf.put (d:=92) (v:=.slice (some ⟨g8,0,none⟩) (ff.acts.length + 1) cap8) rfl;clear hS;have hS:=hS8;refine t_take (i:=20) (d:=93) hf rfl (by kernel_rfl) (by kernel_rfl) (by kernel_rfl) rfl (fun w' hw' => x_index (j:=i) hf rfl rfl rfl rfl (by omega)) rfl rfl hS ?_;clear hf;intro _ hf;refine t_take (i:=21) (d:=94) hf rfl (by kernel_rfl) (by kernel_rfl) (by kernel_rfl) rfl (fun w' hw' => x_field hf rfl rfl) rfl rfl hS ?_;clear hf;intro _ hf;refine t_one (i:=22) (by kernel_rfl) (t_skip hf rfl rfl (x_store hf rfl rfl rfl rfl (by rw [hcadd];exact (World.cell?_of_block hgb).trans hcell) (by rw [hcadd];exact blk_free (hgb.trans hc8') _)) rfl (fun _ hf => ⟨?_,?_⟩))
              · rw [hcadd]
                exact ⟨(World.cell?_of_block ((set_other w8 ⟨b8,i * 2 + 1,none⟩ _ g hgb8).trans hgg)).trans h8,(World.cell?_of_block ((set_other w8 ⟨b8,i * 2 + 1,none⟩ _ g hgb8).trans hgg)).trans h7,(World.cell?_of_block ((set_other w8 ⟨b8,i * 2 + 1,none⟩ _ _ hnb8).trans hgn)).trans c4⟩
              have hP:=HI5.out.setRow i ff _ hff hv (acts.length : Int) g8 cap8 hfar (Nat.le_trans (by simp) hgrow8.size) hown8 (hat8.imp id (fun h => by omega)) hlt8
              have he : endFiles acts files a i = (midFiles acts files a).set i { ff with acts:=ff.acts ++ [(acts.length : Int)] }:=by
                rw [endFiles,if_pos hn,show ((i : Int)).toNat = i from rfl,modify_set hff]
              rw [← he] at hP
              have hR : AfterRow F' D5 W4 g C acts files a i A1 c1 B7 d7 cs (w8.setCell ⟨b8,i * 2 + 1,none⟩ (.slice (some ⟨g8,0,none⟩) (ff.acts.length + 1) cap8)):=by
                refine ⟨_,_,_,_,hP,(((Mod.refl (F:=F') (w:=W4)).drew.alloc _).grown hgrow8 (fun k hk => .inl (hvF k hk))).set_ (.inl (HI5.out.f8 b8 rfl)) _,fun k hk => ?_⟩
                rcases hk with hk | rfl
                · exact .inl hk
                · rcases hat8 with e | e
                  · exact .inl (hvF _ e)
                  · right;omega
              refine wpAnyH_done (by kernel_rfl) (NoPanic.normal ?_) _;rw [hcadd];simp only [Exit.then];exact hK' _ _ (Met.intro (hJ _ _ ⟨(((hf.nilOf.cons (hf.at_ 5 _ rfl)).cons (hf.at_ 4 _ rfl)).cons (hf.at_ 3 _ rfl)).cons (hf.at_ 0 _ rfl),hR⟩))
          · intro fr wx hR
            obtain ⟨hf,F2,B8x,d8x,rowsx,hI6,hM6,hF6⟩:=hR
            obtain ⟨q3,q4,q5⟩:=HQ.out
            have hnF' : ∀ k,F' k → k ≠ w.heap.size ∧ k ≠ w.heap.size + 1 ∧ k ≠ w.heap.size + 2:=fun k hk => by
              rcases HF3.out k hk with h | h
              · have:=hFl k h;omega
              · omega
            have p3:=(hM6.block _ (blk_lt q3) (fun h => (hnF' _ h).1 rfl)).trans q3;have p4:=(hM6.block _ (blk_lt q4) (fun h => (hnF' _ h).2.1 rfl)).trans q4;have p5:=(hM6.block _ (blk_lt q5) (fun h => (hnF' _ h).2.2 rfl)).trans q5;have hri6 : RI D5 wx A9 a.facts:=HRI.out.move (fun k hk hl => hM6.block k hl (fun h => HI5.out.apart k hk h));have hg6:=hI6.blk;have h7:=court7 hg6;have hsz6:=hM6.size;have hgs : w.heap.size ≠ g:=by omega
            obtain ⟨i43,hi43,hz0,hz1,hz2⟩:=info_parts info43
            go_step;refine wp_seq_k ?_;intro K2 hK2;refine t_begin (S:=fun w' => w'.heap[w.heap.size]? = some (.cells #[.int .i64 a.kind,.int .i64 a.minute,.int .i64 a.paper,.int .i64 a.case_,.int .i64 a.by_,.int .i64 a.against,.int .i64 a.art,.int .i64 a.at_,.slice A9 a.facts.length c9,.int .i64 a.paid,.bool a.up,.int .i64 a.pen] 43 (0,0))) (by kernel_rfl) ?_;have hS : (fun w' : World => w'.heap[w.heap.size]? = some (.cells #[.int .i64 a.kind,.int .i64 a.minute,.int .i64 a.paper,.int .i64 a.case_,.int .i64 a.by_,.int .i64 a.against,.int .i64 a.art,.int .i64 a.at_,.slice A9 a.facts.length c9,.int .i64 a.paid,.bool a.up,.int .i64 a.pen] 43 (0,0))) wx.drew:=p3;refine t_take (i:=0) (d:=95) hf rfl (by kernel_rfl) (by kernel_rfl) (by kernel_rfl) rfl (fun w' hw' => x_move hf rfl) rfl rfl hS ?_;clear hf;intro _ hf;refine t_take (i:=1) (d:=96) hf rfl (by kernel_rfl) (by kernel_rfl) (by kernel_rfl) rfl (fun w' hw' => x_move hf rfl) rfl rfl hS ?_;clear hf;intro _ hf;refine t_take (i:=2) (d:=97) hf rfl (by kernel_rfl) (by kernel_rfl) (by kernel_rfl) rfl (fun w' hw' => x_nilCheck hf rfl) rfl rfl hS ?_;clear hf;intro _ hf;refine t_take (i:=3) (d:=98) hf rfl (by kernel_rfl) (by kernel_rfl) (by kernel_rfl) rfl (fun w' hw' => x_field hf rfl rfl) rfl rfl hS ?_;clear hf;intro _ hf;refine t_take (i:=5) (d:=100) hf rfl (by kernel_rfl) (by kernel_rfl) (by kernel_rfl) rfl (fun w' hw' => x_load43 hf rfl (by exact actBox hw')) rfl rfl hS ?_;clear hf;intro _ hf;have hSa : (fun w' : World => w'.heap[w.heap.size]? = some (.cells #[.int .i64 a.kind,.int .i64 a.minute,.int .i64 a.paper,.int .i64 a.case_,.int .i64 a.by_,.int .i64 a.against,.int .i64 a.art,.int .i64 a.at_,.slice A9 a.facts.length c9,.int .i64 a.paid,.bool a.up,.int .i64 a.pen] 43 (0,0))) (wx.drew.alloc (.cells #[.int .i64 a.kind,.int .i64 a.minute,.int .i64 a.paper,.int .i64 a.case_,.int .i64 a.by_,.int .i64 a.against,.int .i64 a.art,.int .i64 a.at_,.slice A9 a.facts.length c9,.int .i64 a.paid,.bool a.up,.int .i64 a.pen] 43)):=(Below.heap_alloc wx.drew _ _ (blk_lt p3)).trans p3;have h7' : wx.drew.cell? ((⟨g,0,none⟩ : Addr).add 7) = some (.slice B7 acts.length d7):=h7;refine t_two (i:=4) (j:=6) (by kernel_rfl) (t_op (d:=99) hf rfl rfl (x_load hf rfl rfl h7') rfl rfl (fun _ hf => ⟨hS,?_⟩)) (t_op (d:=101) hf rfl rfl (x_one34 hf rfl) rfl rfl (fun _ hf => ⟨hSa,?_⟩))
            · refine t_one (i:=6) (by kernel_rfl) (t_op (d:=101) hf rfl rfl (x_one34 hf rfl) rfl rfl (fun _ hf => ⟨hSa,?_⟩))
              refine t_one (i:=7) (by kernel_rfl) (t_wp hf rfl rfl ?_);refine wp_append_lies _ _ _ 34 rfl 0 43 i43 _ 12 112 Try.underlying34 hi43 hz0 hz1 hz2 rfl (by decide) (.slice B7 acts.length d7) acts.length cs.flatten (hf.at_ 99 _ rfl) (own_below hI6.own7 (bel_alloc (bel_drew (Below.refl _ wx)) _)) ⟨wx.heap.size,0,none⟩ 1 1 (actCells a A9 c9) (hf.at_ 101 _ rfl) rfl (World.news_of_block (cs:=#[.int .i64 a.kind,.int .i64 a.minute,.int .i64 a.paper,.int .i64 a.case_,.int .i64 a.by_,.int .i64 a.against,.int .i64 a.art,.int .i64 a.at_,.slice A9 a.facts.length c9,.int .i64 a.paid,.bool a.up,.int .i64 a.pen]) (t:=43) (fr:=(0,0)) (heap_alloc_new wx.drew _)) (actCells_one a A9 c9) (by decide) (by simp only [maxLen];omega) (by omega) (Nat.zero_le _) (wx.heap.size + 1) (by simp) ?_;intro g7 cap7 w8 hown8 hgrow8 hat8 hlt8;have hfar : ∀ k,k < wx.heap.size → some k ≠ (Value.slice B7 acts.length d7).ownBlock → w8.heap[k]? = wx.heap[k]?:=fun k hk hne => (hgrow8.block k (by simp;omega) hne).trans (Below.heap_alloc wx.drew _ k hk);have hgg:=hfar g (blk_lt hg6) (fun e => own_ne hI6.own7 hg6 (by decide) g e.symm rfl);have h7F : ∀ k,(Value.slice B7 acts.length d7).ownBlock = some k → F2 k:=hI6.f7
              have hnF : ∀ k,F2 k → k ≠ w.heap.size ∧ k ≠ w.heap.size + 1 ∧ k ≠ w.heap.size + 2:=fun k hk => by
                rcases hF6 k hk with h | h
                · rcases HF3.out k h with h | h
                  · have:=hFl k h;omega
                  · omega
                · omega
              have hg3:=hfar _ (blk_lt p3) (fun e => (hnF _ (h7F _ e.symm)).1 rfl);have hg4:=hfar _ (blk_lt p4) (fun e => (hnF _ (h7F _ e.symm)).2.1 rfl);have hg5:=hfar _ (blk_lt p5) (fun e => (hnF _ (h7F _ e.symm)).2.2 rfl);have hS8 : (fun w' : World => w'.heap[w.heap.size]? = some (.cells #[.int .i64 a.kind,.int .i64 a.minute,.int .i64 a.paper,.int .i64 a.case_,.int .i64 a.by_,.int .i64 a.against,.int .i64 a.art,.int .i64 a.at_,.slice A9 a.facts.length c9,.int .i64 a.paid,.bool a.up,.int .i64 a.pen] 43 (0,0))) w8:=hg3.trans p3;refine ⟨hS8,?_⟩;replace hf:=hf.put (d:=102) (v:=.slice (some ⟨g7,0,none⟩) (acts.length + 1) cap7) rfl;clear hS;have hS:=hS8;refine t_take (i:=8) (d:=103) hf rfl (by kernel_rfl) (by kernel_rfl) (by kernel_rfl) rfl (fun w' hw' => x_nilCheck hf rfl) rfl rfl hS ?_;clear hf;intro _ hf;refine t_take (i:=9) (d:=104) hf rfl (by kernel_rfl) (by kernel_rfl) (by kernel_rfl) rfl (fun w' hw' => x_field hf rfl rfl) rfl rfl hS ?_;clear hf;intro _ hf;refine t_one (i:=10) (by kernel_rfl) (t_skip hf rfl rfl (x_store hf rfl rfl rfl rfl (by exact (World.cell?_of_block hgg).trans h7) (by exact blk_free (hgg.trans hg6) _)) rfl (fun _ hf => ⟨(set_other w8 ⟨g,7,none⟩ _ _ hgs).trans (hg3.trans p3),?_⟩));have hP:=hI6.addAct a A9 c9 hc9 hri6 g7 cap7 hfar (Nat.le_trans (by simp) hgrow8.size) hown8 (hat8.imp id (fun h => by omega)) hlt8;have hM7 : Mod (fun k => F2 k) wx (w8.setCell ⟨g,7,none⟩ (.slice (some ⟨g7,0,none⟩) (acts.length + 1) cap7)):=(((Mod.refl (F:=F2) (w:=wx)).drew.alloc _).grown hgrow8 (fun k hk => .inl (h7F k hk))).set_ (.inl hI6.gF) _;have r4:=(set_other w8 ⟨g,7,none⟩ (.slice (some ⟨g7,0,none⟩) (acts.length + 1) cap7) (w.heap.size + 1) (by simp only;omega)).trans (hg4.trans p4);have r5:=(set_other w8 ⟨g,7,none⟩ (.slice (some ⟨g7,0,none⟩) (acts.length + 1) cap7) (w.heap.size + 2) (by simp only;omega)).trans (hg5.trans p5)
              have hF7 : ∀ k,(F2 k ∨ k = g7) → F2 k ∨ wx.heap.size ≤ k:=fun k hk => by
                rcases hk with hk | rfl
                · exact .inl hk
                · rcases hat8 with e | e
                  · exact .inl (h7F _ e)
                  · right;omega
              refine wpAnyH_done (by kernel_rfl) (NoPanic.normal ?_) _;simp only [Exit.then];go_step
              change Code.wp _ _ _ _ (w8.setCell ⟨g,7,none⟩ (.slice (some ⟨g7,0,none⟩) (acts.length + 1) cap7))
              obtain ⟨W9,hW9⟩ : ∃ W9,W9 = w8.setCell ⟨g,7,none⟩ (.slice (some ⟨g7,0,none⟩) (acts.length + 1) cap7):=⟨_,rfl⟩
              rw [← hW9] at hP hM7 r4 r5 ⊢;clear hW9;have s4 : W9.cell? ⟨w.heap.size + 1,0,none⟩ = some (.int .i64 n):=blk_cell r4 0;refine wp_seq_k ?_;intro _ _;refine wp_region_lit ?_;replace hf:=((hf.nilOf.cons (hf.at_ 5 _ rfl)).cons (hf.at_ 4 _ rfl)).cons (hf.at_ 0 _ rfl);refine a_load hf rfl rfl rfl (by exact s4) rfl ?_;clear hf;intro _ hf;refine a_store hf rfl rfl rfl rfl rfl (by exact s4) (by exact blk_free r4 _) ?_;clear hf;intro _ hf;have t5:=(set_other W9 ⟨w.heap.size + 1,0,none⟩ (.int .i64 n) (w.heap.size + 2) (by simp only;omega)).trans r5;refine a_store hf rfl rfl rfl rfl rfl (by exact blk_cell t5 0) (by exact blk_free t5 _) ?_;clear hf;intro _ hf;have t4:=blk_set r4 0 (.int .i64 n);have t4':=(set_other (W9.setCell ⟨w.heap.size + 1,0,none⟩ (.int .i64 n)) ⟨w.heap.size + 2,0,none⟩ (.int .i64 0) (w.heap.size + 1) (by simp only;omega)).trans t4;have t5':=blk_set t5 0 (.int .i64 0);have hM9 : Mod (fun k => k = w.heap.size + 1 ∨ k = w.heap.size + 2) W9 ((W9.setCell ⟨w.heap.size + 1,0,none⟩ (.int .i64 n)).setCell ⟨w.heap.size + 2,0,none⟩ (.int .i64 0)):=(Mod.refl.set_ (p:=⟨w.heap.size + 1,0,none⟩) (.inl (.inl rfl)) _).set_ (p:=⟨w.heap.size + 2,0,none⟩) (.inl (.inr rfl)) _;refine wpList_nil ?_;simp only [Exit.then];go_step;refine wp_ret ?_;simp only [Exit.then,bodyPostD];rw [hf.defers];refine leaves_cons (f:=63) (args:=#[.pointer (some ⟨w.heap.size + 1,0,none⟩),.pointer (some ⟨w.heap.size + 1 + 1,0,none⟩)]) (by simp) (by simp [go_sem]) ?_;refine (catch_idle _ _ _).mono ?_
              rintro e' u' w2 ⟨rfl,rfl,rfl⟩
              refine ⟨_,do_results _ _ (w.heap.size + 1) (w.heap.size + 1 + 1) n 0 (hf.at_ 4 _ rfl) (hf.at_ 5 _ rfl) (blk_cell t4' 0) (blk_cell t5' 0),?_⟩;refine ⟨(by rw [HDO.out,HR.out];rfl),(fun e h => (by rw [HDO.out,HR.out] at h;cases h)),fun n' hn' => ?_⟩;rw [HDO.out,HR.out] at hn'
              cases hn'
              refine ⟨_,_,_,_,_,_,_,_,_,_,hP.keep hM9 (fun k hk e => ?_) (fun k hk e => ?_),((HMW.out.trans hM6 ?_).trans hM7 ?_).trans hM9 ?_,?_,?_⟩
              · rcases hF7 k hk with h | h
                · have:=hnF k h;omega
                · omega
              · rcases hD5' k hk with h | h
                · have:=HI.out.ltD k h;omega
                · omega
              · intro k hk h
                rcases HF3.out k h with h | h
                · exact h
                · omega
              · intro k hk h
                rcases hF6 k h with h | h
                · rcases HF3.out k h with h | h
                  · exact h
                  · omega
                · omega
              · intro k hk e
                omega
              · intro k hk
                rcases hF7 k hk with h | h
                · rcases hF6 k h with h | h
                  · rcases HF3.out k h with h | h
                    · exact .inl h
                    · right;omega
                  · right;omega
                · right;omega
              · exact fun k hk => (hD5' k hk).imp id (fun h => by omega)
            · refine t_one (i:=4) (by kernel_rfl) (t_op (d:=99) hf rfl rfl (x_load hf rfl rfl (cell_alloc h7' _)) rfl rfl (fun _ hf => ⟨hSa,?_⟩))
              refine t_one (i:=7) (by kernel_rfl) (t_wp hf rfl rfl ?_);refine wp_append_lies _ _ _ 34 rfl 0 43 i43 _ 12 112 Try.underlying34 hi43 hz0 hz1 hz2 rfl (by decide) (.slice B7 acts.length d7) acts.length cs.flatten (hf.at_ 99 _ rfl) (own_below hI6.own7 (bel_alloc (bel_drew (Below.refl _ wx)) _)) ⟨wx.heap.size,0,none⟩ 1 1 (actCells a A9 c9) (hf.at_ 101 _ rfl) rfl (World.news_of_block (cs:=#[.int .i64 a.kind,.int .i64 a.minute,.int .i64 a.paper,.int .i64 a.case_,.int .i64 a.by_,.int .i64 a.against,.int .i64 a.art,.int .i64 a.at_,.slice A9 a.facts.length c9,.int .i64 a.paid,.bool a.up,.int .i64 a.pen]) (t:=43) (fr:=(0,0)) (heap_alloc_new wx.drew _)) (actCells_one a A9 c9) (by decide) (by simp only [maxLen];omega) (by omega) (Nat.zero_le _) (wx.heap.size + 1) (by simp) ?_;intro g7 cap7 w8 hown8 hgrow8 hat8 hlt8;have hfar : ∀ k,k < wx.heap.size → some k ≠ (Value.slice B7 acts.length d7).ownBlock → w8.heap[k]? = wx.heap[k]?:=fun k hk hne => (hgrow8.block k (by simp;omega) hne).trans (Below.heap_alloc wx.drew _ k hk);have hgg:=hfar g (blk_lt hg6) (fun e => own_ne hI6.own7 hg6 (by decide) g e.symm rfl);have h7F : ∀ k,(Value.slice B7 acts.length d7).ownBlock = some k → F2 k:=hI6.f7
              have hnF : ∀ k,F2 k → k ≠ w.heap.size ∧ k ≠ w.heap.size + 1 ∧ k ≠ w.heap.size + 2:=fun k hk => by
                rcases hF6 k hk with h | h
                · rcases HF3.out k h with h | h
                  · have:=hFl k h;omega
                  · omega
                · omega
              have hg3:=hfar _ (blk_lt p3) (fun e => (hnF _ (h7F _ e.symm)).1 rfl);have hg4:=hfar _ (blk_lt p4) (fun e => (hnF _ (h7F _ e.symm)).2.1 rfl);have hg5:=hfar _ (blk_lt p5) (fun e => (hnF _ (h7F _ e.symm)).2.2 rfl);have hS8 : (fun w' : World => w'.heap[w.heap.size]? = some (.cells #[.int .i64 a.kind,.int .i64 a.minute,.int .i64 a.paper,.int .i64 a.case_,.int .i64 a.by_,.int .i64 a.against,.int .i64 a.art,.int .i64 a.at_,.slice A9 a.facts.length c9,.int .i64 a.paid,.bool a.up,.int .i64 a.pen] 43 (0,0))) w8:=hg3.trans p3;refine ⟨hS8,?_⟩;replace hf:=hf.put (d:=102) (v:=.slice (some ⟨g7,0,none⟩) (acts.length + 1) cap7) rfl;clear hS;have hS:=hS8;refine t_take (i:=8) (d:=103) hf rfl (by kernel_rfl) (by kernel_rfl) (by kernel_rfl) rfl (fun w' hw' => x_nilCheck hf rfl) rfl rfl hS ?_;clear hf;intro _ hf;refine t_take (i:=9) (d:=104) hf rfl (by kernel_rfl) (by kernel_rfl) (by kernel_rfl) rfl (fun w' hw' => x_field hf rfl rfl) rfl rfl hS ?_;clear hf;intro _ hf;refine t_one (i:=10) (by kernel_rfl) (t_skip hf rfl rfl (x_store hf rfl rfl rfl rfl (by exact (World.cell?_of_block hgg).trans h7) (by exact blk_free (hgg.trans hg6) _)) rfl (fun _ hf => ⟨(set_other w8 ⟨g,7,none⟩ _ _ hgs).trans (hg3.trans p3),?_⟩));have hP:=hI6.addAct a A9 c9 hc9 hri6 g7 cap7 hfar (Nat.le_trans (by simp) hgrow8.size) hown8 (hat8.imp id (fun h => by omega)) hlt8;have hM7 : Mod (fun k => F2 k) wx (w8.setCell ⟨g,7,none⟩ (.slice (some ⟨g7,0,none⟩) (acts.length + 1) cap7)):=(((Mod.refl (F:=F2) (w:=wx)).drew.alloc _).grown hgrow8 (fun k hk => .inl (h7F k hk))).set_ (.inl hI6.gF) _;have r4:=(set_other w8 ⟨g,7,none⟩ (.slice (some ⟨g7,0,none⟩) (acts.length + 1) cap7) (w.heap.size + 1) (by simp only;omega)).trans (hg4.trans p4);have r5:=(set_other w8 ⟨g,7,none⟩ (.slice (some ⟨g7,0,none⟩) (acts.length + 1) cap7) (w.heap.size + 2) (by simp only;omega)).trans (hg5.trans p5)
              have hF7 : ∀ k,(F2 k ∨ k = g7) → F2 k ∨ wx.heap.size ≤ k:=fun k hk => by
                rcases hk with hk | rfl
                · exact .inl hk
                · rcases hat8 with e | e
                  · exact .inl (h7F _ e)
                  · right;omega
              refine wpAnyH_done (by kernel_rfl) (NoPanic.normal ?_) _;simp only [Exit.then];go_step
              change Code.wp _ _ _ _ (w8.setCell ⟨g,7,none⟩ (.slice (some ⟨g7,0,none⟩) (acts.length + 1) cap7))
              obtain ⟨W9,hW9⟩ : ∃ W9,W9 = w8.setCell ⟨g,7,none⟩ (.slice (some ⟨g7,0,none⟩) (acts.length + 1) cap7):=⟨_,rfl⟩
              rw [← hW9] at hP hM7 r4 r5 ⊢;clear hW9;have s4 : W9.cell? ⟨w.heap.size + 1,0,none⟩ = some (.int .i64 n):=blk_cell r4 0;refine wp_seq_k ?_;intro _ _;refine wp_region_lit ?_;replace hf:=((hf.nilOf.cons (hf.at_ 5 _ rfl)).cons (hf.at_ 4 _ rfl)).cons (hf.at_ 0 _ rfl);refine a_load hf rfl rfl rfl (by exact s4) rfl ?_;clear hf;intro _ hf;refine a_store hf rfl rfl rfl rfl rfl (by exact s4) (by exact blk_free r4 _) ?_;clear hf;intro _ hf;have t5:=(set_other W9 ⟨w.heap.size + 1,0,none⟩ (.int .i64 n) (w.heap.size + 2) (by simp only;omega)).trans r5;refine a_store hf rfl rfl rfl rfl rfl (by exact blk_cell t5 0) (by exact blk_free t5 _) ?_;clear hf;intro _ hf;have t4:=blk_set r4 0 (.int .i64 n);have t4':=(set_other (W9.setCell ⟨w.heap.size + 1,0,none⟩ (.int .i64 n)) ⟨w.heap.size + 2,0,none⟩ (.int .i64 0) (w.heap.size + 1) (by simp only;omega)).trans t4;have t5':=blk_set t5 0 (.int .i64 0);have hM9 : Mod (fun k => k = w.heap.size + 1 ∨ k = w.heap.size + 2) W9 ((W9.setCell ⟨w.heap.size + 1,0,none⟩ (.int .i64 n)).setCell ⟨w.heap.size + 2,0,none⟩ (.int .i64 0)):=(Mod.refl.set_ (p:=⟨w.heap.size + 1,0,none⟩) (.inl (.inl rfl)) _).set_ (p:=⟨w.heap.size + 2,0,none⟩) (.inl (.inr rfl)) _;refine wpList_nil ?_;simp only [Exit.then];go_step;refine wp_ret ?_;simp only [Exit.then,bodyPostD];rw [hf.defers];refine leaves_cons (f:=63) (args:=#[.pointer (some ⟨w.heap.size + 1,0,none⟩),.pointer (some ⟨w.heap.size + 1 + 1,0,none⟩)]) (by simp) (by simp [go_sem]) ?_;refine (catch_idle _ _ _).mono ?_
              rintro e' u' w2 ⟨rfl,rfl,rfl⟩
              refine ⟨_,do_results _ _ (w.heap.size + 1) (w.heap.size + 1 + 1) n 0 (hf.at_ 4 _ rfl) (hf.at_ 5 _ rfl) (blk_cell t4' 0) (blk_cell t5' 0),?_⟩;refine ⟨(by rw [HDO.out,HR.out];rfl),(fun e h => (by rw [HDO.out,HR.out] at h;cases h)),fun n' hn' => ?_⟩;rw [HDO.out,HR.out] at hn'
              cases hn'
              refine ⟨_,_,_,_,_,_,_,_,_,_,hP.keep hM9 (fun k hk e => ?_) (fun k hk e => ?_),((HMW.out.trans hM6 ?_).trans hM7 ?_).trans hM9 ?_,?_,?_⟩
              · rcases hF7 k hk with h | h
                · have:=hnF k h;omega
                · omega
              · rcases hD5' k hk with h | h
                · have:=HI.out.ltD k h;omega
                · omega
              · intro k hk h
                rcases HF3.out k h with h | h
                · exact h
                · omega
              · intro k hk h
                rcases hF6 k h with h | h
                · rcases HF3.out k h with h | h
                  · exact h
                  · omega
                · omega
              · intro k hk e
                omega
              · intro k hk
                rcases hF7 k hk with h | h
                · rcases hF6 k h with h | h
                  · rcases HF3.out k h with h | h
                    · exact .inl h
                    · right;omega
                  · right;omega
                · right;omega
              · exact fun k hk => (hD5' k hk).imp id (fun h => by omega)
end Go.Proofs.Ytpadgcomncljmaa.A
/- The reference's looks into a record: papers,the last act of a kind,the protests. -/
namespace Go.Proofs.Ytpadgcomncljmaa.A
open Go.RowKit

def pubGo (p : Int) : List ActL → Int → Int
  | [],_ => -1
  | x :: l,i => if x.kind = 1 ∧ x.paper = p then i else pubGo p l (i + 1)
theorem pub_hit {p : Int} {x : ActL} {l : List ActL} {i : Int} (h : x.kind = 1) (h' : x.paper = p) : pubGo p (x :: l) i = i:=by simp [pubGo,h,h']
theorem pub_miss {p : Int} {x : ActL} {l : List ActL} {i : Int} (h : ¬ (x.kind = 1 ∧ x.paper = p)) : pubGo p (x :: l) i = pubGo p l (i + 1):=by rw [pubGo,if_neg h]

set_option maxHeartbeats 1000000 in
set_option maxRecDepth 100000 in
theorem refPub_any (A : Option Addr) (ca : Nat) (l : List ActL) (p : Int) (w : World) (ha : RAct Any w A l) (hn : l.length ≤ 1000000) :
    Calls Try.prog 58 #[.slice A l.length ca,.int .i64 p] w fun e w' => e = .returned (.int .i64 (pubGo p l 0)) ∧ Below w.heap.size w w':=by
  have HA:=Aside.mk ha;clear ha
  go_enter Try.func58,Try.ntmps58
  go_wp2
  go_loopw [5] (fun v5 wr => ∃ k : Nat,k ≤ l.length ∧ v5 = .int .i64 k ∧ Aside (pubGo p l 0 = pubGo p (l.drop k) k) ∧ Below w.heap.size w wr) (fun i _ => l.length - (intOf i).toNat)
  case atStart => exact ⟨0,Nat.zero_le _,rfl,⟨by simp⟩,Below.refl _ _⟩
  case round =>
    obtain ⟨k,hk,rfl,HE,hB⟩:=hrel
    have HW:=Aside.mk hB;clear hB
    by_cases hlt : k < l.length
    · obtain ⟨x,hx⟩:=get_some hlt
      have HX:=Aside.mk (drop_get hx)
      obtain ⟨ad,A8,c8,rfl,_,ha⟩:=(HA.out.below HW.out) k x hx
      obtain ⟨h0,_,h2,_⟩:=ha
      clear hx
      go_wp2
      all_goals first
        | (go_ret;exact ⟨ret_eq (by rw [HE.out,HX.out,pub_hit (by first | omega | (simp_all;done)) (by first | omega | (simp_all;done))];rfl),HW.out⟩)
        | (go_roundw
           case rel => exact ⟨k + 1,by omega,by go_num,⟨by rw [HE.out,HX.out,pub_miss (by first | omega | (simp_all;done))];rfl⟩,HW.out⟩
           case measure => simp [intOf];omega)
    · have hke : k = l.length:=by omega
      have HK:=Aside.mk (show pubGo p l 0 = -1 by rw [HE.out,hke];simp [pubGo]);clear hke
      go_wp2
      go_ret
      exact ⟨ret_eq (by rw [HK.out];rfl),HW.out⟩

def lastStep (kind num min : Int) (i : Int) (r : Int) (x : ActL) : Int:=if x.kind = kind ∧ x.case_ = num ∧ x.minute ≤ min then i else r
def lastGo (kind num min : Int) : List ActL → Int → Int → Int
  | [],_,r => r
  | x :: l,i,r => lastGo kind num min l (i + 1) (lastStep kind num min i r x)

set_option maxHeartbeats 1000000 in
set_option maxRecDepth 100000 in
theorem refLast_any (A : Option Addr) (ca : Nat) (l : List ActL) (kind num min : Int) (w : World) (ha : RAct Any w A l) (hn : l.length ≤ 1000000) :
    Calls Try.prog 59 #[.slice A l.length ca,.int .i64 kind,.int .i64 num,.int .i64 min] w fun e w' => e = .returned (.int .i64 (lastGo kind num min l 0 (-1))) ∧ Below w.heap.size w w':=by
  have HA:=Aside.mk ha;clear ha;have hu43:=Try.underlying43
  go_enter Try.func59,Try.ntmps59
  go_wp2
  go_loopw [9,10] (fun v9 v10 wr => ∃ (k : Nat) (r : Int),k ≤ l.length ∧ v10 = .int .i64 k ∧ v9 = .int .i64 r ∧ Aside (lastGo kind num min l 0 (-1) = lastGo kind num min (l.drop k) k r) ∧ Below w.heap.size w wr) (fun _ i _ => l.length - (intOf i).toNat)
  case atStart => exact ⟨0,-1,Nat.zero_le _,rfl,rfl,⟨by simp⟩,Below.refl _ _⟩
  case round =>
    obtain ⟨k,r,hk,rfl,rfl,HE,hB⟩:=hrel
    have HW:=Aside.mk hB;clear hB
    by_cases hlt : k < l.length
    · obtain ⟨x,hx⟩:=get_some hlt
      have HX:=Aside.mk (drop_get hx)
      obtain ⟨ad,A8,c8,rfl,_,ha⟩:=(HA.out.below HW.out) k x hx
      obtain ⟨h0,h1,h2,h3,h4,h5,h6,h7,h8,h9,h10,h11,_,_⟩:=ha
      clear hx
      go_wp2
      all_goals
        go_roundw
        case rel => exact ⟨k + 1,_,by omega,by go_num,rfl,⟨by rw [HE.out,HX.out,lastGo];unfold lastStep;first | rw [if_pos (by omega)];rfl | rw [if_neg (by omega)];rfl⟩,bel_alloc HW.out _⟩
        case measure => simp [intOf];omega
    · have hke : k = l.length:=by omega
      have HK:=Aside.mk (show lastGo kind num min l 0 (-1) = r by rw [HE.out,hke];simp [lastGo]);clear hke
      go_wp2
      go_ret
      exact ⟨ret_eq (by rw [HK.out];rfl),HW.out⟩

def protGo : List ActL → Int → List Int
  | [],_ => []
  | x :: l,i => if x.kind = 2 then i :: protGo l (i + 1) else protGo l (i + 1)

theorem prot_hit {x : ActL} {l : List ActL} {i : Int} (h : x.kind = 2) : protGo (x :: l) i = i :: protGo l (i + 1):=by simp [protGo,h]
theorem prot_miss {x : ActL} {l : List ActL} {i : Int} (h : ¬ x.kind = 2) : protGo (x :: l) i = protGo l (i + 1):=by simp [protGo,h]

set_option maxHeartbeats 1000000 in
set_option maxRecDepth 100000 in
theorem refProtests_any (A : Option Addr) (ca : Nat) (l : List ActL) (w : World) (ha : RAct Any w A l) (hn : l.length ≤ 1000000) :
    Calls Try.prog 27 #[.slice A l.length ca] w (GivesInts w (protGo l 0)):=by
  have HA:=Aside.mk ha;clear ha
  obtain ⟨i0,hi,hz0,hz1,hz2⟩:=info_parts info3
  have HI:=Aside.mk hi;have HZ0:=Aside.mk hz0;have HZ1:=Aside.mk hz1;have HZ2:=Aside.mk hz2;clear hi hz0 hz1 hz2
  go_enter Try.func27,Try.ntmps27
  go_wp2
  go_loopw [3,4] (fun v3 v4 wr => ∃ (k : Nat) (xs : List Int),k ≤ l.length ∧ xs.length ≤ k ∧ v4 = .int .i64 k ∧ Aside (wr.ownsRow w.heap.size 3 1 v3 xs.length (ints xs)) ∧ Aside (protGo l 0 = xs ++ protGo (l.drop k) k) ∧ Below w.heap.size w wr) (fun _ i _ => l.length - (intOf i).toNat)
  case atStart => exact ⟨0,[],Nat.zero_le _,Nat.zero_le _,rfl,⟨World.ownsRow_nil _ _ _ _⟩,⟨by simp⟩,Below.refl _ _⟩
  case round =>
    obtain ⟨k,xs,hk,hxs,rfl,HO,HE,hB⟩:=hrel
    have HW:=Aside.mk hB;clear hB
    by_cases hlt : k < l.length
    · obtain ⟨x,hx⟩:=get_some hlt
      have HX:=Aside.mk (drop_get hx)
      obtain ⟨ad,A8,c8,rfl,_,ha⟩:=(HA.out.below HW.out) k x hx
      obtain ⟨h0,_⟩:=ha
      clear hx
      by_cases hkind : x.kind = 2
      · have HK:=Aside.mk (prot_hit (l:=l.drop (k + 1)) (i:=k) hkind)
        have hkb : (x.kind == 2) = true:=by simp [hkind]
        clear hkind
        go_wp2_with (at_builtin;refine wpList_append_own_at _ rfl _ _ 22 rfl w.heap.size 3 i0 (.int .i64 0) 1 8 Try.underlying22 HI.out HZ0.out HZ1.out HZ2.out rfl (by decide) _ _ _ rfl (HO.out.alloc _) ⟨wr.heap.size,0,none⟩ 1 1 (ints [(k : Int)]) rfl rfl (cell_one_new _ _ _) (ints_one _) (by simp only [maxLen];omega) (by omega) (by have:=HW.out.size;simp;omega) ?_;intro v1 w1 hown hgrow _ hat;have HN:=Aside.mk hown;have HG:=Aside.mk hgrow;clear hown hgrow hat)
        go_roundw
        case rel => exact ⟨k + 1,xs ++ [(k : Int)],by omega,by simp;omega,by go_num,⟨by rw [ints_append,List.length_append];exact HN.out⟩,⟨by rw [HE.out,HX.out,HK.out];simp⟩,((bel_alloc HW.out _).grown HG.out (by have:=HW.out.size;simp;omega) (own_base HO.out))⟩
        case measure => simp [intOf];omega
      · have HK:=Aside.mk (prot_miss (l:=l.drop (k + 1)) (i:=k) hkind)
        have hkb : (x.kind == 2) = false:=by simp [hkind]
        clear hkind
        go_wp2
        go_roundw
        case rel => exact ⟨k + 1,xs,by omega,by omega,by go_num,HO,⟨by rw [HE.out,HX.out,HK.out];rfl⟩,HW.out⟩
        case measure => simp [intOf];omega
    · have hke : k = l.length:=by omega
      have HK:=Aside.mk (show protGo l 0 = xs by rw [HE.out,hke];simp [protGo]);clear hke
      go_wp2
      go_ret
      obtain ⟨A,c,rfl,hc,hr⟩:=own_ints HO.out
      rw [HK.out];exact ⟨A,c,rfl,hc,hr,HW.out⟩

def fewAll (l : List ActL) : Bool:=l.all fun x => decide (x.facts.length ≤ 25)
def fewB (l : List ActL) (most : Nat) : Bool:=fewAll (l.take (most + 1)) && decide (l.length ≤ most)

set_option maxHeartbeats 1000000 in
set_option maxRecDepth 100000 in
theorem few_any (A : Option Addr) (ca : Nat) (l : List ActL) (most : Nat) (w : World) (ha : RAct Any w A l) (hm : most ≤ 1000) (hn : l.length ≤ 9223372036854775807) :
    Calls Try.prog 22 #[.slice A l.length ca,.int .i64 most] w fun e w' => e = .returned (.bool (fewB l most)) ∧ Below w.heap.size w w':=by
  have HA:=Aside.mk ha;clear ha
  go_enter Try.func22,Try.ntmps22
  go_wp2
  go_loopw [5] (fun v5 wr => ∃ k : Nat,k ≤ l.length ∧ k ≤ most + 1 ∧ v5 = .int .i64 k ∧ Aside (fewAll (l.take (most + 1)) = fewAll ((l.take (most + 1)).drop k)) ∧ Below w.heap.size w wr) (fun i _ => l.length - (intOf i).toNat)
  case atStart => exact ⟨0,Nat.zero_le _,Nat.zero_le _,rfl,⟨by simp⟩,Below.refl _ _⟩
  case round =>
    obtain ⟨k,hk,hkm,rfl,HE,hB⟩:=hrel
    have HW:=Aside.mk hB;clear hB
    by_cases hlt : k < l.length
    · by_cases hle : k ≤ most
      · obtain ⟨x,hx⟩:=get_some hlt
        have HX:=Aside.mk (drop_get (l:=l.take (most + 1)) (k:=k) (x:=x) (by rw [List.getElem?_take,if_pos (by omega)];exact hx))
        obtain ⟨ad,A8,c8,rfl,_,ha⟩:=(HA.out.below HW.out) k x hx
        obtain ⟨_,_,_,_,_,_,_,_,h8,_⟩:=ha
        clear hx
        go_wp2
        all_goals first
          | (go_ret;exact ⟨ret_eq (by rw [fewB,HE.out,HX.out];simp [fewAll];intros;omega),HW.out⟩)
          | (go_roundw
             case rel => exact ⟨k + 1,by omega,by omega,by go_num,⟨by rw [HE.out,HX.out];simp [fewAll];intros;omega⟩,HW.out⟩
             case measure => simp [intOf];omega)
      · have hke : k = most + 1:=by omega
        have HK:=Aside.mk (show fewB l most = false by unfold fewB;simp;intros;omega);clear hke
        go_wp2
        go_ret
        exact ⟨ret_eq (by rw [HK.out];simp;omega),HW.out⟩
    · have hke : k = l.length:=by omega
      have HK:=Aside.mk (show fewAll (l.take (most + 1)) = true by rw [HE.out,hke,List.drop_eq_nil_of_le (by simp;omega)];rfl);clear hke
      go_wp2
      go_ret
      exact ⟨ret_eq (by rw [fewB,HK.out];simp),HW.out⟩
end Go.Proofs.Ytpadgcomncljmaa.A
/- Plain law: which acts belong to a case;what the reference looks up and what the court keeps agree. -/
namespace Go.Proofs.Ytpadgcomncljmaa.A
open Go.RowKit

def lastR (q k min : Int) (acts : List ActL) : Int:=lastGo q k min acts 0 (-1)
def hitL (q k min : Int) (x : ActL) : Prop:=x.kind = q ∧ x.case_ = k ∧ x.minute ≤ min
theorem lastGo_spec (q k min : Int) : ∀ (l : List ActL) (i r : Int), (lastGo q k min l i r = r ∧ ∀ (j : Nat) (x : ActL), l[j]? = some x → ¬ hitL q k min x) ∨
    (∃ (j : Nat) (x : ActL),l[j]? = some x ∧ hitL q k min x ∧ lastGo q k min l i r = i + j)
  | [],i,r => .inl ⟨rfl,fun j x h => by simp at h⟩
  | y :: l,i,r => by
    have hrec : lastGo q k min (y :: l) i r = lastGo q k min l (i + 1) (lastStep q k min i r y):=rfl
    rcases lastGo_spec q k min l (i + 1) (lastStep q k min i r y) with ⟨h1,h2⟩ | ⟨j,x,h1,h2,h3⟩
    · by_cases hy : hitL q k min y
      · exact .inr ⟨0,y,rfl,hy,by rw [hrec,h1];unfold lastStep;rw [if_pos (by exact hy)];simp⟩
      · refine .inl ⟨by rw [hrec,h1];unfold lastStep;rw [if_neg (by exact hy)],fun j x hx => ?_⟩
        cases j with
        | zero => cases hx;exact hy
        | succ j => exact h2 j x (by simpa using hx)
    · exact .inr ⟨j + 1,x,by simpa using h1,h2,by rw [hrec,h3];push_cast;omega⟩

structure CaseI (acts : List ActL) (k : Int) (p : Nat) (l : List Int) (d : Int → Option Nat) : Prop where
  at_ : ∀ (q : Int) (i : Nat),3 ≤ q → q ≤ 6 → (d q = some i ↔ ∃ x,acts[i]? = some x ∧ x.kind = q ∧ x.case_ = k)
  list : l = (p : Int) :: ((d 6).toList ++ (d 3).toList ++ (d 4).toList ++ (d 5).toList).map (fun n : Nat => (n : Int))
  o6 : ∀ i,d 6 = some i → p < i
  o3 : ∀ i,d 3 = some i → p < i ∧ d 6 = none
  o4 : ∀ i,d 4 = some i → ∃ j,d 3 = some j ∧ j < i
  o5 : ∀ i,d 5 = some i → ∃ j,d 4 = some j ∧ j < i

structure Inv (C : CodeL) (acts : List ActL) (files : List FileL) : Prop where
  sec : 0 ≤ C.sec ∧ C.sec ≤ 10000
  win : 0 ≤ C.win ∧ C.win ≤ 10000
  fee : 0 ≤ C.fee ∧ C.fee ≤ 1000000000
  price : 0 ≤ C.price ∧ C.price ≤ 1000000000
  len : acts.length ≤ 2000
  minute : ∀ x : ActL,x ∈ acts → 0 ≤ x.minute ∧ x.minute ≤ 10000000
  kind : ∀ x : ActL,x ∈ acts → 1 ≤ x.kind ∧ x.kind ≤ 6
  pen : ∀ x : ActL,x ∈ acts → 0 ≤ x.pen ∧ x.pen ≤ 36000000
  facts : ∀ x : ActL,x ∈ acts → x.facts.length ≤ 20
  sorted : ∀ (i j : Nat) (x y : ActL),i ≤ j → acts[i]? = some x → acts[j]? = some y → x.minute ≤ y.minute
  prot : files.map (·.protest) = protGo acts 0
  case_ : ∀ (x : ActL),x ∈ acts → 3 ≤ x.kind → 0 ≤ x.case_ ∧ x.case_ < files.length
  file : ∀ (k : Nat) (f : FileL),files[k]? = some f → ∃ (p : Nat) (x : ActL) (d : Int → Option Nat),f.protest = p ∧ acts[p]? = some x ∧ x.kind = 2 ∧ 0 ≤ verAt C.arts x.art x.at_ ∧ CaseI acts k p f.acts d

theorem CaseI.last {acts : List ActL} {k : Int} {p : Nat} {l : List Int} {d : Int → Option Nat} (h : CaseI acts k p l d) {q : Int} (h3 : 3 ≤ q) (h6 : q ≤ 6) (min : Int) :
    lastR q k min acts = match d q with | none => -1 | some i => if (actAt acts i).minute ≤ min then (i : Int) else -1:=by
  rcases lastGo_spec q k min acts 0 (-1) with ⟨h1,h2⟩ | ⟨j,x,h1,h2,e⟩
  · unfold lastR
    rw [h1]
    cases hd : d q with
    | none => rfl
    | some i =>
      obtain ⟨x,hx,hk,hc⟩:=(h.at_ q i h3 h6).1 hd
      have:=h2 i x hx;have ha:=actAt_some (i:=(i : Int)) rfl hx;simp only [ha];rw [if_neg (fun hm => this ⟨hk,hc,hm⟩)]
  · have hd:=(h.at_ q j h3 h6).2 ⟨x,h1,h2.1,h2.2.1⟩
    have ha:=actAt_some (i:=(j : Int)) rfl h1
    unfold lastR
    rw [e,hd];simp only [ha,h2.2.2,if_true]
    omega

def coreSt (C : CodeL) (acts : List ActL) (k min : Int) : Int :=
  if 0 ≤ lastR 6 k min acts then 2 else if 0 ≤ lastR 5 k min acts then 5 else if 0 ≤ lastR 4 k min acts then 4
  else if lastR 3 k min acts < 0 then 1 else if C.sec < min - (actAt acts (lastR 3 k min acts)).minute then 5 else 3
theorem st_nil (sec : Int) (acts : List ActL) (min s : Int) : stGo sec acts min [] s = s:=rfl
theorem st_cons {sec min s : Int} {acts : List ActL} {n : Nat} {x : ActL} {l : List Int} (hx : acts[n]? = some x) : stGo sec acts min ((n : Int) :: l) s = if x.minute ≤ min then stGo sec acts min l (stStep sec min x s) else s:=by
  by_cases h : x.minute ≤ min
  · rw [st_go hx h,if_pos h]
  · rw [st_stop hx (by omega),if_neg h]
theorem CaseI.look {acts : List ActL} {k : Int} {p : Nat} {l : List Int} {d : Int → Option Nat} (h : CaseI acts k p l d) {q : Int} (h3 : 3 ≤ q) (h6 : q ≤ 6) {i : Nat} (hd : d q = some i) : ∃ x,acts[i]? = some x ∧ x.kind = q ∧ x.case_ = k ∧ actAt acts (i : Int) = x:=by
  obtain ⟨x,hx,hk,hc⟩:=(h.at_ q i h3 h6).1 hd
  exact ⟨x,hx,hk,hc,actAt_some rfl hx⟩
inductive Shape (d : Int → Option Nat) : Prop
  | open_ (h6 : d 6 = none) (h3 : d 3 = none) (h4 : d 4 = none) (h5 : d 5 = none)
  | drop (i : Nat) (h6 : d 6 = some i) (h3 : d 3 = none) (h4 : d 4 = none) (h5 : d 5 = none)
  | dec (i : Nat) (h6 : d 6 = none) (h3 : d 3 = some i) (h4 : d 4 = none) (h5 : d 5 = none)
  | app (i j : Nat) (h6 : d 6 = none) (h3 : d 3 = some i) (h4 : d 4 = some j) (h5 : d 5 = none) (o : i < j)
  | jud (i j n : Nat) (h6 : d 6 = none) (h3 : d 3 = some i) (h4 : d 4 = some j) (h5 : d 5 = some n) (o : i < j) (o' : j < n)
theorem CaseI.shape {acts : List ActL} {k : Int} {p : Nat} {l : List Int} {d : Int → Option Nat} (h : CaseI acts k p l d) : Shape d:=by
  cases h3 : d 3 with
  | none =>
    have h4 : d 4 = none:=by
      cases h4 : d 4 with
      | none => rfl
      | some j => obtain ⟨i,hi,_⟩:=h.o4 j h4;rw [h3] at hi;cases hi
    have h5 : d 5 = none:=by
      cases h5 : d 5 with
      | none => rfl
      | some j => obtain ⟨i,hi,_⟩:=h.o5 j h5;rw [h4] at hi;cases hi
    cases h6 : d 6 with
    | none => exact .open_ h6 h3 h4 h5
    | some i => exact .drop i h6 h3 h4 h5
  | some i =>
    have h6:=(h.o3 i h3).2
    cases h4 : d 4 with
    | none =>
      have h5 : d 5 = none:=by
        cases h5 : d 5 with
        | none => rfl
        | some j => obtain ⟨i,hi,_⟩:=h.o5 j h5;rw [h4] at hi;cases hi
      exact .dec i h6 h3 h4 h5
    | some j =>
      obtain ⟨i',hi',o⟩:=h.o4 j h4
      rw [h3] at hi';cases hi'
      cases h5 : d 5 with
      | none => exact .app i j h6 h3 h4 h5 o
      | some n =>
        obtain ⟨j',hj',o'⟩:=h.o5 n h5
        rw [h4] at hj';cases hj';exact .jud i j n h6 h3 h4 h5 o o'
theorem Inv.file_at {C : CodeL} {acts : List ActL} {files : List FileL} (H : Inv C acts files) {k : Nat} {f : FileL} (hf : files[k]? = some f) : ∃ (p : Nat) (x : ActL) (d : Int → Option Nat),f.protest = p ∧ acts[p]? = some x ∧ x.kind = 2 ∧ 0 ≤ verAt C.arts x.art x.at_ ∧ CaseI acts k p f.acts d ∧ Shape d:=by
  obtain ⟨p,x,d,h1,h2,h3,h4,h5⟩:=H.file k f hf
  exact ⟨p,x,d,h1,h2,h3,h4,h5,h5.shape⟩
theorem Inv.mono {C : CodeL} {acts : List ActL} {files : List FileL} (H : Inv C acts files) {i j : Nat} {x y : ActL} (h : i < j) (hx : acts[i]? = some x) (hy : acts[j]? = some y) : x.minute ≤ y.minute:=H.sorted i j x y (by omega) hx hy

theorem Inv.state {C : CodeL} {acts : List ActL} {files : List FileL} (H : Inv C acts files) {k : Nat} {f : FileL} (hf : files[k]? = some f) (min : Int) (hm : (actAt acts f.protest).minute ≤ min) : stGo C.sec acts min f.acts 1 = coreSt C acts k min:=by
  obtain ⟨p,x,d,h1,h2,h3,h4,h5,hs⟩:=H.file_at hf
  rw [h1,actAt_some rfl h2] at hm;have e3:=h5.last (q:=3) (by decide) (by decide) min;have e4:=h5.last (q:=4) (by decide) (by decide) min;have e5:=h5.last (q:=5) (by decide) (by decide) min;have e6:=h5.last (q:=6) (by decide) (by decide) min
  have hp : ∀ l,stGo C.sec acts min ((p : Int) :: l) 1 = stGo C.sec acts min l 1:=fun l => by
    rw [st_cons h2,if_pos hm];simp [stStep,h3]
  unfold coreSt
  rw [h5.list,List.map_append,List.map_append,List.map_append,hp]
  cases hs with
  | open_ d6 d3 d4 d5 =>
    rw [d3] at e3;rw [d4] at e4;rw [d5] at e5;rw [d6] at e6
    simp only at e3 e4 e5 e6
    rw [e3,e4,e5,e6,d3,d4,d5,d6]
    simp [stGo]
  | drop i d6 d3 d4 d5 =>
    obtain ⟨y,hy,yk,_,ya⟩:=h5.look (by decide) (by decide) d6
    rw [d3] at e3;rw [d4] at e4;rw [d5] at e5;rw [d6] at e6;simp only [ya] at e3 e4 e5 e6;rw [e3,e4,e5,e6,d3,d4,d5,d6];simp only [Option.toList,List.map_cons,List.map_nil,List.append_nil];rw [st_cons hy]
    by_cases hmin : y.minute ≤ min <;> simp [hmin,stGo,stStep,yk]
  | dec i d6 d3 d4 d5 =>
    obtain ⟨y,hy,yk,_,ya⟩:=h5.look (by decide) (by decide) d3
    rw [d3] at e3;rw [d4] at e4;rw [d5] at e5;rw [d6] at e6;simp only [ya] at e3 e4 e5 e6;rw [e3,e4,e5,e6,d3,d4,d5,d6];simp only [Option.toList,List.map_cons,List.map_nil,List.append_nil,List.nil_append];rw [st_cons hy];have hi0 : ¬ (i : Int) < 0:=by omega
    by_cases hmin : y.minute ≤ min <;> simp [hmin,stGo,stStep,yk,ya,hi0]
  | app i j d6 d3 d4 d5 o =>
    obtain ⟨y,hy,yk,_,ya⟩:=h5.look (by decide) (by decide) d3
    obtain ⟨z,hz,zk,_,za⟩:=h5.look (by decide) (by decide) d4
    have hyz:=H.mono o hy hz;have hi0 : ¬ (i : Int) < 0:=by omega
    rw [d3] at e3;rw [d4] at e4;rw [d5] at e5;rw [d6] at e6;simp only [ya,za] at e3 e4 e5 e6;rw [e3,e4,e5,e6,d3,d4,d5,d6];simp only [Option.toList,List.map_cons,List.map_nil,List.append_nil,List.nil_append,List.cons_append];rw [st_cons hy,st_cons hz]
    by_cases hmin : y.minute ≤ min
    · by_cases hmin2 : z.minute ≤ min
      · simp [hmin,hmin2,stGo,stStep,yk,zk]
      · simp [hmin,hmin2,stGo,stStep,yk,ya,hi0]
    · have hmin2 : ¬ z.minute ≤ min:=by omega
      simp [hmin,hmin2]
  | jud i j n d6 d3 d4 d5 o o' =>
    obtain ⟨y,hy,yk,_,ya⟩:=h5.look (by decide) (by decide) d3
    obtain ⟨z,hz,zk,_,za⟩:=h5.look (by decide) (by decide) d4
    obtain ⟨u,hu,uk,_,ua⟩:=h5.look (by decide) (by decide) d5
    have hyz:=H.mono o hy hz;have hzu:=H.mono o' hz hu;have hi0 : ¬ (i : Int) < 0:=by omega
    rw [d3] at e3;rw [d4] at e4;rw [d5] at e5;rw [d6] at e6;simp only [ya,za,ua] at e3 e4 e5 e6;rw [e3,e4,e5,e6,d3,d4,d5,d6];simp only [Option.toList,List.map_cons,List.map_nil,List.append_nil,List.nil_append,List.cons_append];rw [st_cons hy,st_cons hz,st_cons hu]
    by_cases hmin : y.minute ≤ min
    · by_cases hmin2 : z.minute ≤ min
      · by_cases hmin3 : u.minute ≤ min
        · simp [hmin,hmin2,hmin3,stGo,stStep,yk,zk,uk]
        · simp [hmin,hmin2,hmin3,stGo,stStep,yk,zk]
      · have hmin3 : ¬ u.minute ≤ min:=by omega
        simp [hmin,hmin2,hmin3,stGo,stStep,yk,ya,hi0]
    · have hmin2 : ¬ z.minute ≤ min:=by omega
      have hmin3 : ¬ u.minute ≤ min:=by omega
      simp [hmin,hmin2,hmin3]
end Go.Proofs.Ytpadgcomncljmaa.A
/- Plain law: an act that is done keeps the order of the record. -/
namespace Go.Proofs.Ytpadgcomncljmaa.A
open Go.RowKit

theorem prot_app : ∀ (l : List ActL) (x : ActL) (i : Int), protGo (l ++ [x]) i = protGo l i ++ (if x.kind = 2 then [i + l.length] else [])
  | [],x,i => by by_cases h : x.kind = 2 <;> simp [protGo,h]
  | y :: l,x,i => by
    have:=prot_app l x (i + 1)
    by_cases h : y.kind = 2
    · rw [List.cons_append,prot_hit h,prot_hit h,this]
      by_cases hx : x.kind = 2
      · simp [hx];omega
      · simp [hx]
    · rw [List.cons_append,prot_miss h,prot_miss h,this]
      by_cases hx : x.kind = 2
      · simp [hx];omega
      · simp [hx]
def stOf (d : Int → Option Nat) : Int:=if (d 6).isSome then 2 else if (d 5).isSome then 5 else if (d 4).isSome then 4 else if (d 3).isSome then 3 else 1
theorem Inv.lastOf {C : CodeL} {acts : List ActL} {files : List FileL} (H : Inv C acts files) {k : Nat} {f : FileL} (hf : files[k]? = some f) {p : Nat} {d : Int → Option Nat} (hp : f.protest = p) (h5 : CaseI acts k p f.acts d) : lastSt C.sec acts f.acts = stOf d ∧
    (∀ i,d 3 = some i → d 4 = none → lastMin acts f.acts = (actAt acts i).minute):=by
  obtain ⟨p',x,_,h1,h2,h3,_,_,_⟩:=H.file_at hf
  obtain rfl : p' = p:=by rw [hp] at h1;exact_mod_cast h1.symm
  have hs:=h5.shape
  have hpx : ∀ l min,x.minute ≤ min → stGo C.sec acts min ((p' : Int) :: l) 1 = stGo C.sec acts min l 1:=fun l min hm => by
    rw [st_cons h2,if_pos hm];simp [stStep,h3]
  unfold lastSt lastMin
  rw [h5.list];have hsec:=H.sec
  cases hs with
  | open_ d6 d3 d4 d5 =>
    refine ⟨?_,fun i hi => by rw [d3] at hi;cases hi⟩;rw [d3,d4,d5,d6]
    simp [h2,stOf,d3,d4,d5,d6,hpx,st_nil]
  | drop i d6 d3 d4 d5 =>
    refine ⟨?_,fun i hi => by rw [d3] at hi;cases hi⟩
    obtain ⟨y,hy,yk,_,ya⟩:=h5.look (by decide) (by decide) d6
    have hxy:=H.mono (h5.o6 i d6) h2 hy;rw [d3,d4,d5,d6]
    simp [hy,stOf,d3,d4,d5,d6,hpx,hxy,st_cons hy,st_nil,stStep,yk]
  | dec i d6 d3 d4 d5 =>
    obtain ⟨y,hy,yk,_,ya⟩:=h5.look (by decide) (by decide) d3
    have hxy:=H.mono (h5.o3 i d3).1 h2 hy;rw [d3,d4,d5,d6];refine ⟨?_,fun j hj _ => by cases hj;simp [ya]⟩
    simp [hy,stOf,d3,d4,d5,d6,hpx,hxy,st_cons hy,st_nil,stStep,yk]
    omega
  | app i j d6 d3 d4 d5 o =>
    obtain ⟨y,hy,yk,_,ya⟩:=h5.look (by decide) (by decide) d3
    obtain ⟨z,hz,zk,_,za⟩:=h5.look (by decide) (by decide) d4
    have hxy:=H.mono (h5.o3 i d3).1 h2 hy;have hyz:=H.mono o hy hz;have hxz:=Int.le_trans hxy hyz;refine ⟨?_,fun i _ h => by rw [d4] at h;cases h⟩;rw [d3,d4,d5,d6]
    simp [hz,stOf,d3,d4,d5,d6,hpx,hxz,hyz,st_cons hy,st_cons hz,st_nil,stStep,zk]
  | jud i j n d6 d3 d4 d5 o o' =>
    obtain ⟨y,hy,yk,_,ya⟩:=h5.look (by decide) (by decide) d3
    obtain ⟨z,hz,zk,_,za⟩:=h5.look (by decide) (by decide) d4
    obtain ⟨u,hu,uk,_,ua⟩:=h5.look (by decide) (by decide) d5
    have hxy:=H.mono (h5.o3 i d3).1 h2 hy;have hyz:=H.mono o hy hz;have hzu:=H.mono o' hz hu;have hyu:=Int.le_trans hyz hzu;have hxu:=Int.le_trans hxy hyu;refine ⟨?_,fun i _ h => by rw [d4] at h;cases h⟩;rw [d3,d4,d5,d6]
    simp [hu,stOf,d3,d4,d5,d6,hpx,hxu,hyu,hzu,st_cons hy,st_cons hz,st_cons hu,st_nil,stStep,uk]

theorem get_app {α : Type} {l : List α} {a x : α} {i : Nat} : (l ++ [a])[i]? = some x ↔ (l[i]? = some x ∨ (i = l.length ∧ x = a)):=by
  rcases Nat.lt_trichotomy i l.length with h | h | h
  · rw [List.getElem?_append_left h]
    exact ⟨.inl,fun h' => h'.elim id (fun h' => by omega)⟩
  · subst h
    simp [eq_comm]
  · have h1 : l.length ≤ i:=by omega
    rw [List.getElem?_append_right h1];have h2 : l[i]? = none:=List.getElem?_eq_none h1;have h3 : i - l.length ≠ 0:=by omega
    rw [h2]
    constructor
    · intro h'
      cases hk : i - l.length with
      | zero => omega
      | succ m => rw [hk] at h';simp at h'
    · rintro (h' | ⟨h',_⟩)
      · cases h'
      · omega
theorem ver_app {α : Type} {l : List α} {a x : α} {i : Nat} (h : l[i]? = some x) : (l ++ [a])[i]? = some x:=get_app.2 (.inl h)
theorem CaseI.other {acts : List ActL} {k : Int} {p : Nat} {l : List Int} {d : Int → Option Nat} (h : CaseI acts k p l d) {a : ActL} (ha : a.kind < 3 ∨ a.case_ ≠ k) : CaseI (acts ++ [a]) k p l d:=by
  refine ⟨fun q i h3 h6 => ?_,h.list,h.o6,h.o3,h.o4,h.o5⟩;rw [h.at_ q i h3 h6]
  constructor
  · rintro ⟨x,hx,hk⟩
    exact ⟨x,ver_app hx,hk⟩
  · rintro ⟨x,hx,hk,hc⟩
    rcases get_app.1 hx with hx | ⟨_,rfl⟩
    · exact ⟨x,hx,hk,hc⟩
    · rcases ha with ha | ha
      · omega
      · exact (ha hc).elim
theorem CaseI.lt {acts : List ActL} {k : Int} {p : Nat} {l : List Int} {d : Int → Option Nat} (h : CaseI acts k p l d) {q : Int} (h3 : 3 ≤ q) (h6 : q ≤ 6) {i : Nat} (hd : d q = some i) : i < acts.length:=by
  obtain ⟨x,hx,_⟩:=h.look h3 h6 hd
  exact (List.getElem?_eq_some_iff.1 hx).1
theorem CaseI.own {acts : List ActL} {k : Int} {p : Nat} {l : List Int} {d : Int → Option Nat} (h : CaseI acts k p l d) {a : ActL} (h3 : 3 ≤ a.kind) (h6 : a.kind ≤ 6) (hc : a.case_ = k) (hp : p < acts.length)
    (hst : (a.kind = 3 ∧ stOf d = 1) ∨ (a.kind = 4 ∧ stOf d = 3) ∨ (a.kind = 5 ∧ stOf d = 4) ∨ (a.kind = 6 ∧ stOf d = 1)) :
    ∃ d',CaseI (acts ++ [a]) k p (l ++ [(acts.length : Int)]) d':=by
  have hs:=h.shape
  have hnone : d a.kind = none:=by
    cases hs with
    | open_ d6 d3 d4 d5 => rcases hst with ⟨e,_⟩ | ⟨e,_⟩ | ⟨e,_⟩ | ⟨e,_⟩ <;> rw [e] <;> assumption
    | drop i d6 d3 d4 d5 => simp [stOf,d6] at hst
    | dec i d6 d3 d4 d5 =>
      simp [stOf,d3,d4,d5,d6] at hst
      rw [hst];exact d4
    | app i j d6 d3 d4 d5 o =>
      simp [stOf,d3,d4,d5,d6] at hst
      rw [hst];exact d5
    | jud i j n d6 d3 d4 d5 o o' => simp [stOf,d3,d4,d5,d6] at hst
  refine ⟨fun q => if q = a.kind then some acts.length else d q,fun q i q3 q6 => ?_,?_,?_,?_,?_,?_⟩
  · by_cases hq : q = a.kind
    · subst hq
      simp only [if_true]
      constructor
      · intro e
        cases e
        exact ⟨a,get_app.2 (.inr ⟨rfl,rfl⟩),rfl,hc⟩
      · rintro ⟨x,hx,hk,hcx⟩
        rcases get_app.1 hx with hx | ⟨rfl,_⟩
        · have:=(h.at_ a.kind i q3 q6).2 ⟨x,hx,hk,hcx⟩
          rw [hnone] at this;cases this
        · rfl
    · simp only [if_neg hq]
      rw [h.at_ q i q3 q6]
      constructor
      · rintro ⟨x,hx,hk⟩
        exact ⟨x,ver_app hx,hk⟩
      · rintro ⟨x,hx,hk,hcx⟩
        rcases get_app.1 hx with hx | ⟨_,rfl⟩
        · exact ⟨x,hx,hk,hcx⟩
        · exact (hq hk.symm).elim
  all_goals
    cases hs with
    | open_ d6 d3 d4 d5 =>
      simp [stOf,d3,d4,d5,d6] at hst
      rcases hst with e | e <;> simp [e,d3,d4,d5,d6,h.list,hp]
    | drop i d6 d3 d4 d5 => simp [stOf,d6] at hst
    | dec i d6 d3 d4 d5 =>
      simp [stOf,d3,d4,d5,d6] at hst
      have:=h.lt (by decide) (by decide) d3;have:=h.o3 i d3
      simp [hst,d3,d4,d5,d6,h.list,hp]
      try omega
    | app i j d6 d3 d4 d5 o =>
      simp [stOf,d3,d4,d5,d6] at hst
      have:=h.lt (by decide) (by decide) d3;have:=h.lt (by decide) (by decide) d4;have:=h.o3 i d3
      simp [hst,d3,d4,d5,d6,h.list,hp]
      try omega
    | jud i j n d6 d3 d4 d5 o o' => simp [stOf,d3,d4,d5,d6] at hst
end Go.Proofs.Ytpadgcomncljmaa.A
/- Plain law: an act that is done keeps what is always so of a record;what a walk asks of a court. -/
namespace Go.Proofs.Ytpadgcomncljmaa.A
open Go.RowKit

theorem shaped_pen {cars : Int} {a : ActL} (h : shapedB cars a = true) : 0 ≤ a.pen ∧ a.pen ≤ 36000000:=by
  simp only [shapedB,shKind,Bool.and_eq_true,Bool.or_eq_true,beq_iff_eq] at h
  obtain ⟨hk,⟨h2,_⟩,h3⟩:=h
  by_cases h35 : a.kind = 3 ∨ a.kind = 5
  · have h1 : ¬ a.kind = 1:=by omega
    have h2' : ¬ a.kind = 2:=by omega
    simp only [shOk,beq_iff_eq,h1,h2',Bool.or_eq_true,h35,if_true,if_false,Bool.and_eq_true,inB_iff] at h2;exact h2.2
  · have hp : (shapeX a).pen = 0:=by
      unfold shapeX
      simp only [beq_iff_eq,Bool.or_eq_true,h35,if_false]
      split
      · rfl
      split
      · rfl
      split <;> rfl
    simp only [sameRest,hp,Bool.and_eq_true,beq_iff_eq] at h3;have:=h3.2
    omega
theorem shaped_few {cars : Int} {a : ActL} (h : shapedB cars a = true) : a.facts.length ≤ 20:=by
  simp only [shapedB,Bool.and_eq_true] at h
  obtain ⟨_,⟨_,h2⟩,_⟩:=h
  unfold shFacts at h2
  split at h2
  · simp only [Bool.and_eq_true,decide_eq_true_eq] at h2;exact h2.1
  · simp only [beq_iff_eq] at h2;omega
theorem late_no {acts : List ActL} {m : Int} (h : lateB acts m = false) : ∀ x,acts.getLast? = some x → x.minute ≤ m:=by
  intro x hx;simp only [lateB,hx,decide_eq_false_iff_not] at h
  omega
theorem Inv.sort_app {C : CodeL} {acts : List ActL} {files : List FileL} (H : Inv C acts files) {a : ActL} (hl : lateB acts a.minute = false) : ∀ (i j : Nat) (x y : ActL),i ≤ j → (acts ++ [a])[i]? = some x → (acts ++ [a])[j]? = some y → x.minute ≤ y.minute:=by
  intro i j x y hij hx hy
  rcases get_app.1 hx with hx | ⟨hi,rfl⟩
  · rcases get_app.1 hy with hy | ⟨hj,hya⟩
    · exact H.sorted i j x y hij hx hy
    · rw [hya]
      have hil:=(List.getElem?_eq_some_iff.1 hx).1
      obtain ⟨z,hz⟩:=get_some (l:=acts) (k:=acts.length - 1) (by omega)
      have h1:=H.sorted i (acts.length - 1) x z (by omega) hx hz;have h2:=late_no hl z (by rw [List.getLast?_eq_getElem?];exact hz)
      omega
  · rcases get_app.1 hy with hy | ⟨hj,rfl⟩
    · have:=(List.getElem?_eq_some_iff.1 hy).1
      omega
    · omega
theorem mem_app {α : Type} {l : List α} {a : α} {p : α → Prop} (h : ∀ x ∈ l,p x) (ha : p a) : ∀ x ∈ l ++ [a],p x:=by
  intro x hx
  rcases List.mem_append.1 hx with hx | hx
  · exact h x hx
  · rw [List.mem_singleton.1 hx];exact ha
theorem CaseI.fresh {acts : List ActL} {C : CodeL} {files : List FileL} (H : Inv C acts files) {a : ActL} (ha : a.kind = 2) : CaseI (acts ++ [a]) (files.length : Int) acts.length [(acts.length : Int)] (fun _ => none):=by
  refine ⟨fun q i h3 h6 => ?_,by simp,(fun i h => by cases h),(fun i h => by cases h),(fun i h => by cases h),(fun i h => by cases h)⟩
  constructor
  · intro h;cases h
  · rintro ⟨x,hx,hk,hc⟩
    rcases get_app.1 hx with hx | ⟨_,rfl⟩
    · have:=H.case_ x (List.mem_of_getElem? hx) (by omega)
      omega
    · omega
theorem inv_step {C : CodeL} {acts : List ActL} {files : List FileL} (H : Inv C acts files) {a : ActL} {n : Int} (hs : shapedB C.cars a = true) (hl : lateB acts a.minute = false) (hn : acts.length < 2000) (hok : actR C acts files a = .ok n) : Inv C (acts ++ [a]) (endFiles acts files a n):=by
  obtain ⟨hk,hm0,hm1,hcase⟩:=shaped_facts hs
  have hpen:=shaped_pen hs;have hmin:=mem_app (l:=acts) (a:=a) (p:=fun x : ActL => 0 ≤ x.minute ∧ x.minute ≤ 10000000) H.minute ⟨hm0,hm1⟩;have hkind:=mem_app (l:=acts) (a:=a) (p:=fun x : ActL => 1 ≤ x.kind ∧ x.kind ≤ 6) H.kind hk;have hpens:=mem_app (l:=acts) (a:=a) (p:=fun x : ActL => 0 ≤ x.pen ∧ x.pen ≤ 36000000) H.pen hpen;have hfacts:=mem_app (l:=acts) (a:=a) (p:=fun x : ActL => x.facts.length ≤ 20) H.facts (shaped_few hs);have hsort:=H.sort_app hl;have hlen : (acts ++ [a]).length ≤ 2000:=by simp;omega
  have hfl : ∀ (k : Nat) (f : FileL),files[k]? = some f → (a.kind < 3 ∨ a.case_ ≠ (k : Int)) → ∃ (p : Nat) (x : ActL) (d : Int → Option Nat),f.protest = p ∧ (acts ++ [a])[p]? = some x ∧ x.kind = 2 ∧ 0 ≤ verAt C.arts x.art x.at_ ∧ CaseI (acts ++ [a]) k p f.acts d:=fun k f hf hne => by
    obtain ⟨p,x,d,h1,h2,h3,h4,h5⟩:=H.file k f hf
    exact ⟨p,x,d,h1,ver_app h2,h3,h4,h5.other hne⟩
  by_cases h1 : a.kind = 1
  · have hn1 : n = -1:=by
      simp only [actR,h1,if_true,publishR] at hok
      split at hok
      · cases hok
      · cases hok;rfl
    have he : endFiles acts files a n = files:=by
      rw [hn1];simp [endFiles,midFiles,h1]
    rw [he];refine ⟨H.sec,H.win,H.fee,H.price,hlen,hmin,hkind,hpens,hfacts,hsort,?_,mem_app (l:=acts) (a:=a) (p:=fun x : ActL => 3 ≤ x.kind → 0 ≤ x.case_ ∧ x.case_ < files.length) H.case_ (fun h => by omega),fun k f hf => hfl k f hf (.inl (by omega))⟩;rw [prot_app,H.prot];simp [h1]
  by_cases h2 : a.kind = 2
  · have hv : n = files.length ∧ 0 ≤ verAt C.arts a.art a.at_:=by
      simp only [actR,h2,protestR,if_true] at hok;rw [if_neg (by decide)] at hok
      split at hok
      · cases hok
      split at hok
      · cases hok
      split at hok
      · cases hok
      · cases hok;exact ⟨rfl,by omega⟩
    have he : endFiles acts files a n = files ++ [{ protest:=acts.length,acts:=[(acts.length : Int)] }]:=by
      rw [hv.1];simp only [endFiles,midFiles,h2,if_true];rw [if_pos (by omega)];rw [Int.toNat_natCast,modify_set (x:=newFile acts) (by simp)]
      simp [newFile]
    rw [he];refine ⟨H.sec,H.win,H.fee,H.price,hlen,hmin,hkind,hpens,hfacts,hsort,?_,?_,fun k f hf => ?_⟩
    · rw [prot_app,List.map_append,H.prot];simp [h2]
    · refine mem_app (l:=acts) (a:=a) (p:=fun x : ActL => 3 ≤ x.kind → 0 ≤ x.case_ ∧ x.case_ < ((files ++ [{ protest:=acts.length,acts:=[(acts.length : Int)] }] : List FileL)).length) (fun x hx h => ?_) (fun h => by omega)
      have:=H.case_ x hx h
      simp;omega
    · rcases get_app.1 hf with hf | ⟨rfl,rfl⟩
      · exact hfl k f hf (.inl (by omega))
      · exact ⟨acts.length,a,_,rfl,by simp,h2,hv.2,CaseI.fresh H h2⟩
  · have hc0:=hcase h1 h2
    have h3 : 3 ≤ a.kind:=by omega
    obtain ⟨f,hf,hnc,hst⟩ : ∃ f,files[a.case_.toNat]? = some f ∧ n = a.case_ ∧ ((a.kind = 3 ∧ lastSt C.sec acts f.acts = 1) ∨ (a.kind = 4 ∧ lastSt C.sec acts f.acts = 3) ∨ (a.kind = 5 ∧ lastSt C.sec acts f.acts = 4) ∨ (a.kind = 6 ∧ lastSt C.sec acts f.acts = 1)):=by
      have hkk : a.kind = 3 ∨ a.kind = 4 ∨ a.kind = 5 ∨ a.kind = 6:=by omega
      rcases hkk with hkk | hkk | hkk | hkk
      · simp only [actR,hkk,rulingR] at hok
        simp (config:={ decide:=true }) only [if_true,if_false] at hok
        split at hok
        · cases hok
        · rename_i f hf
          split at hok
          · cases hok
          split at hok
          · cases hok
          · cases hok
            exact ⟨f,hf,rfl,.inl ⟨hkk,by rename_i h _;simpa using h⟩⟩
      · simp only [actR,hkk,appealR] at hok
        simp (config:={ decide:=true }) only [if_true,if_false] at hok
        split at hok
        · cases hok
        · rename_i f hf
          split at hok
          · cases hok
          rename_i h
          split at hok
          · cases hok
          split at hok
          · cases hok
          split at hok
          · cases hok
          · cases hok
            exact ⟨f,hf,rfl,.inr (.inl ⟨hkk,by simpa using h⟩)⟩
      · simp only [actR,hkk,rulingR] at hok
        simp (config:={ decide:=true }) only [if_true,if_false] at hok
        split at hok
        · cases hok
        · rename_i f hf
          split at hok
          · cases hok
          rename_i h
          split at hok
          · cases hok
          · cases hok
            exact ⟨f,hf,rfl,.inr (.inr (.inl ⟨hkk,by simpa using h⟩))⟩
      · simp only [actR,hkk,dropR] at hok
        simp (config:={ decide:=true }) only [if_true,if_false] at hok
        split at hok
        · cases hok
        · rename_i f hf
          split at hok
          · cases hok
          rename_i h
          split at hok
          · cases hok
          · cases hok
            exact ⟨f,hf,rfl,.inr (.inr (.inr ⟨hkk,by simpa using h⟩))⟩
    obtain ⟨p,x,d,e1,e2,e3,e4,e5⟩:=H.file _ f hf
    have hlo:=(H.lastOf hf e1 e5).1;rw [hlo] at hst;have hcN : ((a.case_.toNat : Nat) : Int) = a.case_:=by omega
    have hpl:=(List.getElem?_eq_some_iff.1 e2).1
    obtain ⟨d',hd'⟩:=e5.own h3 hk.2 hcN.symm hpl hst
    have hkl:=(List.getElem?_eq_some_iff.1 hf).1
    have he : endFiles acts files a n = files.set a.case_.toNat { f with acts:=f.acts ++ [(acts.length : Int)] }:=by
      simp only [endFiles,midFiles,h2,if_false,hnc];rw [if_pos hc0,modify_set hf]
    rw [he];refine ⟨H.sec,H.win,H.fee,H.price,hlen,hmin,hkind,hpens,hfacts,hsort,?_,?_,fun k f' hf' => ?_⟩
    · rw [prot_app,← H.prot,if_neg h2,List.append_nil]
      refine List.ext_getElem? fun i => ?_;rw [List.getElem?_map,List.getElem?_map]
      by_cases hi : a.case_.toNat = i
      · subst hi
        rw [List.getElem?_set_self hkl,hf];rfl
      · rw [List.getElem?_set_ne hi]
    · rw [List.length_set]
      exact mem_app (l:=acts) (a:=a) (p:=fun x : ActL => 3 ≤ x.kind → 0 ≤ x.case_ ∧ x.case_ < files.length) H.case_ (fun _ => ⟨hc0,by omega⟩)
    · by_cases hi : a.case_.toNat = k
      · subst hi
        rw [List.getElem?_set_self hkl] at hf'
        cases hf'
        exact ⟨p,x,d',e1,ver_app e2,e3,e4,hd'⟩
      · rw [List.getElem?_set_ne hi] at hf'
        exact hfl k f' hf' (.inr (by omega))
theorem Inv.wf {C : CodeL} {acts : List ActL} {files : List FileL} (H : Inv C acts files) : Wf C acts files:=by
  refine ⟨H.sec,H.win,H.fee,H.price,H.minute,fun f hf => ?_⟩
  obtain ⟨k,hk⟩:=List.getElem?_of_mem hf
  obtain ⟨p,x,d,h1,h2,h3,h4,h5,hs⟩:=H.file_at hk
  have hpl:=(List.getElem?_eq_some_iff.1 h2).1;refine ⟨⟨p,x,h1,h2,h4⟩,by rw [h5.list];simp,?_,fun i hi => ?_⟩
  · rw [h5.list]
    cases hs with
    | open_ d6 d3 d4 d5 => simp [d3,d4,d5,d6];omega
    | drop i d6 d3 d4 d5 =>
      have:=h5.lt (by decide) (by decide) d6;have:=h5.o6 i d6
      simp [d3,d4,d5,d6];omega
    | dec i d6 d3 d4 d5 =>
      have:=h5.lt (by decide) (by decide) d3;have:=h5.o3 i d3
      simp [d3,d4,d5,d6];omega
    | app i j d6 d3 d4 d5 o =>
      have:=h5.lt (by decide) (by decide) d4;have:=h5.o3 i d3
      simp [d3,d4,d5,d6];omega
    | jud i j n d6 d3 d4 d5 o o' =>
      have:=h5.lt (by decide) (by decide) d5;have:=h5.o3 i d3
      simp [d3,d4,d5,d6];omega
  · rw [h5.list] at hi
    rcases List.mem_cons.1 hi with rfl | hi
    · exact ⟨p,x,rfl,h2⟩
    · obtain ⟨m,hm,rfl⟩:=List.mem_map.1 hi
      simp only [List.mem_append,Option.mem_toList] at hm
      have hq : ∃ q,3 ≤ q ∧ q ≤ 6 ∧ d q = some m:=by
        rcases hm with ((hm | hm) | hm) | hm
        · exact ⟨6,by decide,by decide,hm⟩
        · exact ⟨3,by decide,by decide,hm⟩
        · exact ⟨4,by decide,by decide,hm⟩
        · exact ⟨5,by decide,by decide,hm⟩
      obtain ⟨q,h3,h6,hq⟩:=hq
      obtain ⟨y,hy,_⟩:=h5.look h3 h6 hq
      exact ⟨m,y,rfl,hy⟩
theorem Inv.files_le {C : CodeL} {acts : List ActL} {files : List FileL} (H : Inv C acts files) : files.length ≤ acts.length:=by
  have h : ∀ (l : List ActL) (i : Int),(protGo l i).length ≤ l.length:=by
    intro l
    induction l with
    | nil => intro i;simp [protGo]
    | cons x l ih =>
      intro i
      by_cases hx : x.kind = 2
      · rw [prot_hit hx];simpa using ih (i + 1)
      · rw [prot_miss hx];have:=ih (i + 1);simp;omega
  have:=congrArg List.length H.prot;rw [List.length_map] at this;have:=h acts 0
  omega
theorem Inv.nil {C : CodeL} (h : codeOk C = true) : Inv C [] []:=by
  simp only [codeOk,codeB,codeHead,Bool.and_eq_true,inB_iff] at h;refine ⟨?_,?_,?_,?_,by simp,by simp,by simp,by simp,by simp,by simp,rfl,by simp,by simp⟩ <;> omega
end Go.Proofs.Ytpadgcomncljmaa.A
/- The ruling of a case,its penalty in force;the check of a car and a minute. -/
namespace Go.Proofs.Ytpadgcomncljmaa.A
open Go.RowKit

def checkR (cars car min : Int) : Int:=if inB car 1 cars && inB min 0 10000000 then 0 else 2
theorem within_as (x lo hi : Int) (b : Bool) (h : inB x lo hi = b) (w : World) : Calls Try.prog 52 #[.int .i64 x,.int .i64 lo,.int .i64 hi] w fun e w' => e = .returned (.bool b) ∧ w = w':=by
  subst h
  exact within_any x lo hi w
set_option maxHeartbeats 2000000 in
set_option maxRecDepth 100000 in
theorem check_court (g : Nat) (C : CodeL) (acts : List ActL) (files : List FileL) (car min : Int) (w : World) (hC : CourtR w g C acts files) : Calls Try.prog 74 #[.pointer (some ⟨g,0,none⟩),.int .i64 car,.int .i64 min] w fun r w' => r = .returned (.int .i64 (checkR C.cars car min)) ∧ w = w':=by
  obtain ⟨A1,c1,A7,c7,A8,c8,hg,_⟩:=hC
  have h0:=court0 hg;have h6:=Aside.mk (court6 hg);clear hg
  cases hb1 : inB car 1 C.cars with
  | false =>
    have HR:=Aside.mk (show checkR C.cars car min = 2 by simp [checkR,hb1])
    go_enter Try.func74,Try.ntmps74
    go_wp2_with fail
    refine (ready_any g true _ h6.out).mono ?_
    rintro r w1 ⟨rfl,rfl⟩
    go_wp2_with fail
    refine (within_as _ _ _ false hb1 _).mono ?_
    rintro r w1 ⟨rfl,rfl⟩
    go_wp2_with fail
    go_ret
    exact ⟨ret_eq (by rw [HR.out];rfl),rfl⟩
  | true =>
  cases hb2 : inB min 0 10000000 with
  | false =>
    have HR:=Aside.mk (show checkR C.cars car min = 2 by simp [checkR,hb1,hb2])
    go_enter Try.func74,Try.ntmps74
    go_wp2_with fail
    refine (ready_any g true _ h6.out).mono ?_
    rintro r w1 ⟨rfl,rfl⟩
    go_wp2_with fail
    refine (within_as _ _ _ true hb1 _).mono ?_
    rintro r w1 ⟨rfl,rfl⟩
    go_wp2_with fail
    refine (within_as _ _ _ false hb2 _).mono ?_
    rintro r w1 ⟨rfl,rfl⟩
    go_wp2_with fail
    go_ret
    exact ⟨ret_eq (by rw [HR.out];rfl),rfl⟩
  | true =>
    have HR:=Aside.mk (show checkR C.cars car min = 0 by simp [checkR,hb1,hb2])
    go_enter Try.func74,Try.ntmps74
    go_wp2_with fail
    refine (ready_any g true _ h6.out).mono ?_
    rintro r w1 ⟨rfl,rfl⟩
    go_wp2_with fail
    refine (within_as _ _ _ true hb1 _).mono ?_
    rintro r w1 ⟨rfl,rfl⟩
    go_wp2_with fail
    refine (within_as _ _ _ true hb2 _).mono ?_
    rintro r w1 ⟨rfl,rfl⟩
    go_wp2_with fail
    go_ret
    exact ⟨ret_eq (by rw [HR.out];rfl),rfl⟩

theorem there_dec (g : Nat) (C : CodeL) (acts : List ActL) (files : List FileL) (p : Nat) (A : Option Addr) (n c : Nat) (min : Int) (x : ActL) (w : World) (b : Bool) (hb : decide (x.minute ≤ min) = b) (hC : CourtR w g C acts files) (hx : acts[p]? = some x) :
    Calls Try.prog 72 #[.pointer (some ⟨g,0,none⟩),.agg #[.int .i64 p,.slice A n c],.int .i64 min] w fun r w' => r = .returned (.bool b) ∧ Below w.heap.size w w':=by
  subst hb
  exact there_any g C acts files p A n c min x w hC hx
def rulStep (min : Int) (x : ActL) (r : Option ActL) : Option ActL:=if x.minute ≤ min ∧ (x.kind = 3 ∨ x.kind = 5) then some x else r
def rulGo (acts : List ActL) (min : Int) : List Int → Option ActL → Option ActL
  | [],r => r
  | i :: l,r => rulGo acts min l (rulStep min (actAt acts i) r)
end Go.Proofs.Ytpadgcomncljmaa.A
/- The walk by lists: new variables;a whole struct stored. -/
namespace Go.Proofs.Ytpadgcomncljmaa.A
open Go.RowKit

theorem Mod.put1 {b : Nat} {w W : World} (h : Mod (fun k => k = b) w W) (i : Nat) (u : Value) : Mod (fun k => k = b) w (W.setCell ⟨b,i,none⟩ u):=h.set_ (p:=⟨b,i,none⟩) (.inl rfl) u
theorem at3b {w : World} {o1 o2 o3 : Obj} : (((w.alloc o1).alloc o2).alloc o3).heap[w.heap.size]? = some o1 ∧ (((w.alloc o1).alloc o2).alloc o3).heap[w.heap.size + 1]? = some o2 ∧ (((w.alloc o1).alloc o2).alloc o3).heap[w.heap.size + 1 + 1]? = some o3:=by
  have hn : ∀ {W : World} {o : Obj} {k : Nat},k = W.heap.size → (W.alloc o).heap[k]? = some o:=fun h => by subst h;exact heap_alloc_new _ _
  refine ⟨?_,?_,?_⟩
  · rw [Below.heap_alloc _ _ _ (by simp;omega),Below.heap_alloc _ _ _ (by simp)];exact heap_alloc_new w o1
  · rw [Below.heap_alloc _ _ _ (by simp)];exact hn (by simp)
  · exact hn (by simp)
section
variable {ops : Array Oper} {Q : Exit → Act → World → Prop} {a : Act} {w w' : World} {rest : List Oper} {o : Oper} {n d : Nat} {ds : List Deferred} {l : List (Nat × Value)} {v : Value}
variable {t : TypeId} {ps : String} {af : Array Edge} {g : Option (Nat × Bool)} {x y z : Operand} {T T' : TypeId} {p : Addr}
theorem run_cmp52 {ev : Operand → Value} {op : BinOp} {r : Int → Int → Bool} {m k : Int} (ho : cmpB op = some r) (hx : ev x = .int .i64 m) (hy : ev y = .int .i64 k) : (execOp ev ⟨o.dst,.binOp op 52 x y 52,t,ps,af,g⟩).run Try.prog w = .ok (.value (.bool (r m k))) w:=by
  cases op <;> simp only [cmpB,Option.some.injEq,reduceCtorEq] at ho <;> subst ho <;> simp [go_sem,hx,hy]
theorem a_cmp52 {op : BinOp} {r : Int → Int → Bool} {m k : Int} {b : Bool} (H : Has n ds l a) (hg : wantB ops n l g = some true) (ho : cmpB op = some r) (hx : lookO l x = some (.int .i64 m)) (hy : lookO l y = some (.int .i64 k)) (hb : r m k = b) (hd : Nat.ble (d + 1) n = true)
    (h : ∀ a',Has n ds ((d,.bool b) :: l) a' → wpList Try.prog ops Q rest a' w) : wpList Try.prog ops Q (⟨some d,.binOp op 52 x y 52,t,ps,af,g⟩ :: rest) a w:=by
  subst hb
  exact a_do H hg (run_cmp52 (o:=⟨some d,.nilCheck x,t,ps,af,g⟩) ho (H.evO hx) (H.evO hy)) rfl hd h
theorem q_load115b {C : World → Prop} {Qq : Act → Prop} {b : Nat} {v0 v1 : Value} (H : Has n ds l a) (hg : wantB ops n l g = some true) (hx : lookO l x = some (.pointer (some ⟨b, 0, none⟩))) (hb : ∀ w, C w → w.heap[b]? = some (.cells #[v0, v1] 115 (0, 0)))
    (hd : Nat.ble (d + 1) n = true) (h : ∀ a',Has n ds ((d,.agg #[v0,v1]) :: l) a' → wpQuiet Try.prog ops C Qq rest a') : wpQuiet Try.prog ops C Qq (⟨some d,.load 115 x,t,ps,af,g⟩ :: rest) a :=
  q_do H hg (fun w hw => by
    have hb:=hb w hw;have c0 : w.cell? ⟨b,0,none⟩ = some v0:=by simp [World.cell?,hb]
    have c1 : w.cell? ⟨b,1,none⟩ = some v1:=by simp [World.cell?,hb]
    have hx:=H.evO hx;have hu:=Try.underlying115;generalize a.eval = ev at hx;simp [go_sem,hx,hu,c0,c1]) rfl hd h
theorem a_one97 {v0 v1 : Value} (H : Has n ds l a) (hg : wantB ops n l g = some true) (hx : lookO l x = some (.agg #[v0,v1])) (hd : Nat.ble (d + 1) n = true) (h : ∀ a',Has n ds ((d,.slice (some ⟨w.heap.size,0,none⟩) 1 1) :: l) a' → wpList Try.prog ops Q rest a' (w.alloc (.cells #[v0,v1] 115))) : wpList Try.prog ops Q (⟨some d,.buildSlice 97 1 #[(0,x)],t,ps,af,g⟩ :: rest) a w :=
  a_do H hg (by have hx:=H.evO hx;generalize a.eval = ev at hx;simp [go_sem,hx]) rfl hd h
theorem a_max {m k : Int} (H : Has n ds l a) (hg : wantB ops n l g = some true) (hx : lookO l x = some (.int .i64 m)) (hy : lookO l y = some (.int .i64 k)) (hd : Nat.ble (d + 1) n = true) (h : ∀ a',Has n ds ((d,.int .i64 (if m < k then k else m)) :: l) a' → wpList Try.prog ops Q rest a' w) : wpList Try.prog ops Q (⟨some d,.call ⟨.builtin .max,#[x,y],#[3,3]⟩,t,ps,af,g⟩ :: rest) a w :=
  a_do H hg (by have hx:=H.evO hx;have hy:=H.evO hy;generalize a.eval = ev at hx hy;by_cases hmk : m < k <;> simp [go_sem,hx,hy,hmk] <;> omega) rfl hd h
theorem a_callf2 (f : FuncId) {at_ : Array TypeId} {x1 : Operand} {v1 : Value} (H : Has n ds l a) (hf : Enters f) (hg : wantB ops n l g = some true) (h1 : lookO l x1 = some v1) (h2 : lookO l y = some v) (hd : Nat.ble (d + 1) n = true) (h : Calls Try.prog f #[v1,v] w (CallPost Try.prog ops Q rest n ds l d a)) : wpList Try.prog ops Q (⟨some d,.call ⟨.value (.func f),#[x1,y],at_⟩,t,ps,af,g⟩ :: rest) a w :=
  a_call2 H hf hg h1 h2 hd h
theorem a_alloc4 (H : Has n ds l a) (hg : wantB ops n l g = some true) (hd : Nat.ble (d + 1) n = true) (h : ∀ a',Has n ds ((d,.pointer (some ⟨w.heap.size,0,none⟩)) :: l) a' → wpList Try.prog ops Q rest a' (w.alloc (.cells #[.bool false] 4))) : wpList Try.prog ops Q (⟨some d,.alloc 4,t,ps,af,g⟩ :: rest) a w :=
  a_do H hg (by generalize a.eval = ev;simp [go_sem]) rfl hd h
theorem a_alloc43 (H : Has n ds l a) (hg : wantB ops n l g = some true) (hd : Nat.ble (d + 1) n = true) (h : ∀ a',Has n ds ((d,.pointer (some ⟨w.heap.size,0,none⟩)) :: l) a' → wpList Try.prog ops Q rest a' (w.alloc (.cells #[.int .i64 0,.int .i64 0,.int .i64 0,.int .i64 0,.int .i64 0,.int .i64 0,.int .i64 0,.int .i64 0,.slice none 0 0,.int .i64 0,.bool false,.int .i64 0] 43))) : wpList Try.prog ops Q (⟨some d,.alloc 43,t,ps,af,g⟩ :: rest) a w :=
  a_do H hg (by generalize a.eval = ev;simp [go_sem]) rfl hd h
theorem a_alloc115 (H : Has n ds l a) (hg : wantB ops n l g = some true) (hd : Nat.ble (d + 1) n = true) (h : ∀ a',Has n ds ((d,.pointer (some ⟨w.heap.size,0,none⟩)) :: l) a' → wpList Try.prog ops Q rest a' (w.alloc (.cells #[.int .i64 0,.slice none 0 0] 115))) : wpList Try.prog ops Q (⟨some d,.alloc 115,t,ps,af,g⟩ :: rest) a w :=
  a_do H hg (by generalize a.eval = ev;simp [go_sem]) rfl hd h
theorem a_box115 (H : Has n ds l a) (hg : wantB ops n l g = some true) (hx : lookO l x = some v) (hd : Nat.ble (d + 1) n = true) (h : ∀ a',Has n ds ((d,.pointer (some ⟨w.heap.size,0,none⟩)) :: l) a' → wpList Try.prog ops Q rest a' (w.alloc (.cells v.cells 115))) : wpList Try.prog ops Q (⟨some d,.box 115 x,t,ps,af,g⟩ :: rest) a w :=
  a_do H hg (by have hx:=H.evO hx;generalize a.eval = ev at hx;simp [go_sem,hx,Value.cells]) rfl hd h
theorem put12 {b : Nat} {old : Array Value} (h : w.heap[b]? = some (.cells old 43 (0,0))) (hs : old.size = 12) (v0 v1 v2 v3 v4 v5 v6 v7 v8 v9 v10 v11 : Value) : ((((((((((((w.setCell ⟨b,0,none⟩ v0).setCell ⟨b,1,none⟩ v1).setCell ⟨b,2,none⟩ v2).setCell ⟨b,3,none⟩ v3).setCell ⟨b,4,none⟩ v4).setCell ⟨b,5,none⟩ v5).setCell ⟨b,6,none⟩ v6).setCell ⟨b,7,none⟩ v7).setCell ⟨b,8,none⟩ v8).setCell ⟨b,9,none⟩ v9).setCell ⟨b,10,none⟩ v10).setCell ⟨b,11,none⟩ v11).heap[b]? = some (.cells #[v0,v1,v2,v3,v4,v5,v6,v7,v8,v9,v10,v11] 43 (0,0)) ∧ Mod (fun k => k = b) w ((((((((((((w.setCell ⟨b,0,none⟩ v0).setCell ⟨b,1,none⟩ v1).setCell ⟨b,2,none⟩ v2).setCell ⟨b,3,none⟩ v3).setCell ⟨b,4,none⟩ v4).setCell ⟨b,5,none⟩ v5).setCell ⟨b,6,none⟩ v6).setCell ⟨b,7,none⟩ v7).setCell ⟨b,8,none⟩ v8).setCell ⟨b,9,none⟩ v9).setCell ⟨b,10,none⟩ v10).setCell ⟨b,11,none⟩ v11):=by
  obtain ⟨l⟩:=old
  match l,hs with
  | [o0,o1,o2,o3,o4,o5,o6,o7,o8,o9,o10,o11],_ =>
    have h0 : (w.setCell ⟨b,0,none⟩ v0).heap[b]? = some (.cells #[v0,o1,o2,o3,o4,o5,o6,o7,o8,o9,o10,o11] 43 (0,0)):=blk_set h 0 v0;have h1:=blk_set h0 1 v1;have h2:=blk_set h1 2 v2;have h3:=blk_set h2 3 v3;have h4:=blk_set h3 4 v4;have h5:=blk_set h4 5 v5;have h6:=blk_set h5 6 v6;have h7:=blk_set h6 7 v7;have h8:=blk_set h7 8 v8;have h9:=blk_set h8 9 v9;have h10:=blk_set h9 10 v10;have h11:=blk_set h10 11 v11;refine ⟨by simpa using h11,?_⟩;exact ((((((((((((Mod.refl.put1 0 _).put1 1 _).put1 2 _).put1 3 _).put1 4 _).put1 5 _).put1 6 _).put1 7 _).put1 8 _).put1 9 _).put1 10 _).put1 11 _)
theorem put2 {b : Nat} {old : Array Value} (h : w.heap[b]? = some (.cells old 115 (0,0))) (hs : old.size = 2) (v0 v1 : Value) : ((w.setCell ⟨b,0,none⟩ v0).setCell ⟨b,1,none⟩ v1).heap[b]? = some (.cells #[v0,v1] 115 (0,0)) ∧ Mod (fun k => k = b) w ((w.setCell ⟨b,0,none⟩ v0).setCell ⟨b,1,none⟩ v1):=by
  obtain ⟨l⟩:=old
  match l,hs with
  | [o0,o1],_ =>
    exact ⟨blk_set (blk_set h 0 v0) 1 v1,(Mod.refl.put1 0 _).put1 1 _⟩
theorem run_store43 {ev : Operand → Value} {b : Nat} {old : Array Value} (hx : ev x = .pointer (some ⟨b, 0, none⟩)) (n0 n1 n2 n3 n4 n5 n6 n7 n9 n11 : Int) (A8 : Option Addr) (m8 c8 : Nat) (b10 : Bool) (hy : ev y = .agg #[.int .i64 n0, .int .i64 n1, .int .i64 n2, .int .i64 n3, .int .i64 n4, .int .i64 n5, .int .i64 n6, .int .i64 n7, .slice A8 m8 c8, .int .i64 n9, .bool b10, .int .i64 n11]) (h : w.heap[b]? = some (.cells old 43 (0, 0))) (hs : old.size = 12) :
    ∃ w',(execOp ev ⟨none,.store 43 x y,t,ps,af,g⟩).run Try.prog w = .ok .skip w' ∧ w'.heap[b]? = some (.cells #[.int .i64 n0,.int .i64 n1,.int .i64 n2,.int .i64 n3,.int .i64 n4,.int .i64 n5,.int .i64 n6,.int .i64 n7,.slice A8 m8 c8,.int .i64 n9,.bool b10,.int .i64 n11] 43 (0,0)) ∧ Mod (fun k => k = b) w w':=by
  obtain ⟨l⟩:=old
  match l,hs with
  | [o0,o1,o2,o3,o4,o5,o6,o7,o8,o9,o10,o11],_ =>
    refine ⟨_,?_,put12 h rfl (.int .i64 n0) (.int .i64 n1) (.int .i64 n2) (.int .i64 n3) (.int .i64 n4) (.int .i64 n5) (.int .i64 n6) (.int .i64 n7) (.slice A8 m8 c8) (.int .i64 n9) (.bool b10) (.int .i64 n11)⟩;have hu:=Try.underlying43;have hf : ∀ i,w.frozen? ⟨b,i,none⟩ = false:=fun i => by simp [World.frozen?,h]
    have hc : ∀ i u,(#[o0,o1,o2,o3,o4,o5,o6,o7,o8,o9,o10,o11] : Array Value)[i]? = some u → w.cell? ⟨b,i,none⟩ = some u:=fun i u hu => by simp [World.cell?,h,hu]
    have c0:=hc 0 _ rfl;have c1:=hc 1 _ rfl;have c2:=hc 2 _ rfl;have c3:=hc 3 _ rfl;have c4:=hc 4 _ rfl;have c5:=hc 5 _ rfl;have c6:=hc 6 _ rfl;have c7:=hc 7 _ rfl;have c8:=hc 8 _ rfl;have c9:=hc 9 _ rfl;have c10:=hc 10 _ rfl;have c11:=hc 11 _ rfl
    simp [go_sem,hx,hy,hu,hf,c0,c1,c2,c3,c4,c5,c6,c7,c8,c9,c10,c11]
theorem run_store115 {ev : Operand → Value} {b : Nat} {old : Array Value} (hx : ev x = .pointer (some ⟨b, 0, none⟩)) (n0 : Int) (A1 : Option Addr) (m1 c1 : Nat) (hy : ev y = .agg #[.int .i64 n0, .slice A1 m1 c1]) (h : w.heap[b]? = some (.cells old 115 (0, 0))) (hs : old.size = 2) :
    ∃ w',(execOp ev ⟨none,.store 115 x y,t,ps,af,g⟩).run Try.prog w = .ok .skip w' ∧ w'.heap[b]? = some (.cells #[.int .i64 n0,.slice A1 m1 c1] 115 (0,0)) ∧ Mod (fun k => k = b) w w':=by
  obtain ⟨l⟩:=old
  match l,hs with
  | [o0,o1],_ =>
    refine ⟨_,?_,put2 h rfl (.int .i64 n0) (.slice A1 m1 c1)⟩;have hu:=Try.underlying115;have hf : ∀ i,w.frozen? ⟨b,i,none⟩ = false:=fun i => by simp [World.frozen?,h]
    have c0 : w.cell? ⟨b,0,none⟩ = some o0:=by simp [World.cell?,h]
    have c1 : w.cell? ⟨b,1,none⟩ = some o1:=by simp [World.cell?,h]
    simp [go_sem,hx,hy,hu,hf,c0,c1]
theorem a_store43 {b : Nat} {old : Array Value} {n0 n1 n2 n3 n4 n5 n6 n7 n9 n11 : Int} {A8 : Option Addr} {m8 c8 : Nat} {b10 : Bool} (H : Has n ds l a) (hg : wantB ops n l g = some true) (hx : lookO l x = some (.pointer (some ⟨b, 0, none⟩))) (hy : lookO l y = some (.agg #[.int .i64 n0, .int .i64 n1, .int .i64 n2, .int .i64 n3, .int .i64 n4, .int .i64 n5, .int .i64 n6, .int .i64 n7, .slice A8 m8 c8, .int .i64 n9, .bool b10, .int .i64 n11])) (hb : w.heap[b]? = some (.cells old 43 (0, 0))) (hs : old.size = 12)
    (h : ∀ a' w',Has n ds l a' → w'.heap[b]? = some (.cells #[.int .i64 n0,.int .i64 n1,.int .i64 n2,.int .i64 n3,.int .i64 n4,.int .i64 n5,.int .i64 n6,.int .i64 n7,.slice A8 m8 c8,.int .i64 n9,.bool b10,.int .i64 n11] 43 (0,0)) → Mod (fun k => k = b) w w' → wpList Try.prog ops Q rest a' w') : wpList Try.prog ops Q (⟨none,.store 43 x y,t,ps,af,g⟩ :: rest) a w:=by
  obtain ⟨w',h1,h2,h3⟩:=run_store43 (t:=t) (ps:=ps) (af:=af) (g:=g) (H.evO hx) n0 n1 n2 n3 n4 n5 n6 n7 n9 n11 A8 m8 c8 b10 (H.evO hy) hb hs
  exact a_skip H hg h1 rfl fun a' H' => h a' w' H' h2 h3
theorem a_store115 {b : Nat} {old : Array Value} {n0 : Int} {A1 : Option Addr} {m1 c1 : Nat} (H : Has n ds l a) (hg : wantB ops n l g = some true) (hx : lookO l x = some (.pointer (some ⟨b, 0, none⟩))) (hy : lookO l y = some (.agg #[.int .i64 n0, .slice A1 m1 c1])) (hb : w.heap[b]? = some (.cells old 115 (0, 0))) (hs : old.size = 2)
    (h : ∀ a' w',Has n ds l a' → w'.heap[b]? = some (.cells #[.int .i64 n0,.slice A1 m1 c1] 115 (0,0)) → Mod (fun k => k = b) w w' → wpList Try.prog ops Q rest a' w') : wpList Try.prog ops Q (⟨none,.store 115 x y,t,ps,af,g⟩ :: rest) a w:=by
  obtain ⟨w',h1,h2,h3⟩:=run_store115 (t:=t) (ps:=ps) (af:=af) (g:=g) (H.evO hx) n0 A1 m1 c1 (H.evO hy) hb hs
  exact a_skip H hg h1 rfl fun a' H' => h a' w' H' h2 h3
theorem a_load43b {b : Nat} {v0 v1 v2 v3 v4 v5 v6 v7 v8 v9 v10 v11 : Value} (H : Has n ds l a) (hg : wantB ops n l g = some true) (hx : lookO l x = some (.pointer (some ⟨b, 0, none⟩))) (hb : w.heap[b]? = some (.cells #[v0, v1, v2, v3, v4, v5, v6, v7, v8, v9, v10, v11] 43 (0, 0)))
    (hd : Nat.ble (d + 1) n = true) (h : ∀ a',Has n ds ((d,.agg #[v0,v1,v2,v3,v4,v5,v6,v7,v8,v9,v10,v11]) :: l) a' → wpList Try.prog ops Q rest a' w) : wpList Try.prog ops Q (⟨some d,.load 43 x,t,ps,af,g⟩ :: rest) a w:=by
  have hc : ∀ i u,(#[v0,v1,v2,v3,v4,v5,v6,v7,v8,v9,v10,v11] : Array Value)[i]? = some u → w.cell? ⟨b,i,none⟩ = some u:=fun i u hu => by simp [World.cell?,hb,hu]
  exact a_load43 H hg hx (hc 0 _ rfl) (hc 1 _ rfl) (hc 2 _ rfl) (hc 3 _ rfl) (hc 4 _ rfl) (hc 5 _ rfl) (hc 6 _ rfl) (hc 7 _ rfl) (hc 8 _ rfl) (hc 9 _ rfl) (hc 10 _ rfl) (hc 11 _ rfl) hd h
theorem a_load115b {b : Nat} {v0 v1 : Value} (H : Has n ds l a) (hg : wantB ops n l g = some true) (hx : lookO l x = some (.pointer (some ⟨b, 0, none⟩))) (hb : w.heap[b]? = some (.cells #[v0, v1] 115 (0, 0)))
    (hd : Nat.ble (d + 1) n = true) (h : ∀ a',Has n ds ((d,.agg #[v0,v1]) :: l) a' → wpList Try.prog ops Q rest a' w) : wpList Try.prog ops Q (⟨some d,.load 115 x,t,ps,af,g⟩ :: rest) a w:=by
  have hc : ∀ i u,(#[v0,v1] : Array Value)[i]? = some u → w.cell? ⟨b,i,none⟩ = some u:=fun i u hu => by simp [World.cell?,hb,hu]
  exact a_load115 H hg hx (hc 0 _ rfl) (hc 1 _ rfl) hd h
end
end Go.Proofs.Ytpadgcomncljmaa.A
/- Shares: a predicate over a list,the greatest number. -/
namespace Go.Proofs.Ytpadgcomncljmaa.A
open Go.RowKit

theorem bad90 (x : Int) (w : World) : Calls Try.prog 90 #[.int .i64 x] w fun e w' => e = .returned (.bool (!inB x 0 1000000)) ∧ w = w':=by
  go_enter Try.func90,Try.ntmps90
  go_wp2_with (go_at_call 52;refine (within_any _ _ _ _).mono ?_;rintro e w' ⟨rfl,rfl⟩)
  go_ret
  exact ⟨rfl,rfl⟩
def idxI (q : Int → Bool) : List Int → Int → Int
  | [],_ => -1
  | x :: l,i => if q x then i else idxI q l (i + 1)
theorem idxI_neg (q : Int → Bool) : ∀ (l : List Int) (i : Int), 0 ≤ i → (decide (0 ≤ idxI q l i) = l.any q)
  | [],i,_ => by simp [idxI]
  | x :: l,i,h => by
    simp only [idxI,List.any_cons]
    split
    · rename_i hq;simp [hq,h]
    · rename_i hq
      have hq' : q x = false:=by simpa using hq
      rw [idxI_neg q l (i + 1) (by omega)];simp [hq']
set_option maxHeartbeats 1000000 in
theorem indexInt_any (fn : FuncId) (q : Int → Bool) (hen : Enters fn) (hq : ∀ x W, Calls Try.prog fn #[.int .i64 x] W fun e w' => e = .returned (.bool (q x)) ∧ W = w') (A : Option Addr) (c : Nat) (l : List Int) (w : World) (hl : RI Any w A l) (hn : l.length ≤ 1000000) :
    Calls Try.prog 103 #[.slice A l.length c,.func (.func fn) #[] #[]] w fun e w' => e = .returned (.int .i64 (idxI q l 0)) ∧ w = w':=by
  have HL:=Aside.mk hl;have HQ:=Aside.mk hq;clear hl hq
  go_enter Try.func103,Try.ntmps103
  refine wp_abs (n:=19) (ds:=[]) (l:=[(0,.slice A l.length c),(1,.func (.func fn) #[] #[])]) ?_ ?_
  · refine ((Has.nil ?_ ?_).cons ?_).cons ?_
    all_goals first | rfl | (simp [Act.eval];done)
  intro _ hf;refine wp_seq_k ?_;intro _ _;refine wp_region_lit ?_;refine a_assign hf rfl rfl rfl ?_;clear hf;intro _ hf;refine wpList_nil ?_;simp only [Exit.then,Exit.inBlock];go_step;refine wp_seq_k ?_;intro _ _;refine wp_seq_k ?_;intro _ _;refine wp_region_lit ?_;refine a_move hf rfl rfl rfl ?_;clear hf;intro _ hf;refine a_len hf rfl rfl rfl rfl ?_;clear hf;intro _ hf;refine a_move hf rfl rfl rfl ?_;clear hf;intro _ hf;refine wpList_nil ?_;simp only [Exit.then,Exit.inBlock];go_step;refine wp_block ?_;refine wp_loop_ghost (fun m fr wr => ∃ k : Nat,k ≤ l.length ∧ m = l.length - k ∧ wr = w ∧ Has 19 [] [(8,.int .i64 (k : Int)),(0,.slice A l.length c),(1,.func (.func fn) #[] #[]),(6,.slice A l.length c),(7,.int .i64 (l.length : Int))] fr ∧ Aside (idxI q l 0 = idxI q (l.drop k) k)) l.length ?_ ?_
  · exact ⟨0,Nat.zero_le _,rfl,rfl,((((hf.nilOf.cons (hf.at_ 7 _ rfl)).cons (hf.at_ 6 _ rfl)).cons (hf.at_ 1 _ rfl)).cons (hf.at_ 0 _ rfl)).cons (d:=8) (hf.at_ 8 _ rfl),⟨by simp⟩⟩
  rintro m fr wr ⟨k,hk',rfl,rfl,hf,HE⟩
  by_cases hlt : k < l.length
  · obtain ⟨x,hx⟩:=get_some hlt
    have HX:=Aside.mk (drop_get hx)
    obtain ⟨ad,rfl,_,q0⟩:=HL.out k x hx
    clear hx;refine wp_seq_k ?_;intro _ _;refine wp_region_lit ?_;refine a_cmp (b:=true) hf rfl rfl rfl rfl rfl (by first | assumption | ((try dsimp only);simp only [bq1,bq2,bq3,bq4,bq5,bq6,bq7];omega)) rfl ?_;clear hf;intro _ hf;refine wpList_nil ?_;simp only [Exit.then,Exit.inBlock];go_step;refine wp_seq_k ?_;intro _ _;refine c_condT hf rfl ?_;refine wp_skip ?_;simp only [Exit.then];go_step;refine wp_seq_k ?_;intro _ _;refine wp_block ?_;refine wp_seq_k ?_;intro _ _;refine wp_region_lit ?_;refine a_move hf rfl rfl rfl ?_;clear hf;intro _ hf;refine a_assign hf rfl rfl rfl ?_;clear hf;intro _ hf;refine wpList_nil ?_;simp only [Exit.then,Exit.inBlock];go_step;refine wp_seq_k ?_;intro _ _;refine wp_region_lit ?_;refine a_move hf rfl rfl rfl ?_;clear hf;intro _ hf;refine a_move hf rfl rfl rfl ?_;clear hf;intro _ hf;refine a_move hf rfl rfl rfl ?_;clear hf;intro _ hf;refine a_index1 hf rfl rfl rfl (j:=k) rfl (by omega) rfl ?_;clear hf;intro _ hf;refine a_load hf rfl rfl rfl (by exact q0) rfl ?_;clear hf;intro _ hf;refine a_callv1 hf hen rfl rfl rfl rfl ?_;clear hf;refine (HQ.out x _).mono ?_;rintro _ _ ⟨rfl,rfl⟩;intro _ hf;refine wpList_nil ?_;simp only [Exit.then,Exit.inBlock];go_step
    cases hqx : q x with
    | true =>
      rw [hqx] at hf;refine c_condT hf rfl ?_;refine wp_seq_k ?_;intro _ _;refine wp_region_lit ?_;refine a_move hf rfl rfl rfl ?_;clear hf;intro _ hf;refine a_assign hf rfl rfl rfl ?_;clear hf;intro _ hf;refine wpList_nil ?_;simp only [Exit.then,Exit.inBlock];go_step;refine wp_ret ?_
      try simp only [Exit.then,Exit.inBlock]
      refine c_ret hf rfl rfl ⟨ret_eq ?_,rfl⟩;rw [HE.out,HX.out,idxI,if_pos hqx]
    | false =>
      rw [hqx] at hf;refine c_condF hf rfl ?_;refine wp_skip ?_;simp only [Exit.then,Exit.inBlock];go_step;refine wp_region_lit ?_;refine a_ar hf rfl rfl rfl rfl (by (try dsimp only);omega) rfl ?_;clear hf;intro _ hf;refine a_move hf rfl rfl rfl ?_;clear hf;intro _ hf;refine wpList_nil ?_;simp only [Exit.then,Exit.inBlock];exact ⟨l.length - (k + 1),by omega,k + 1,by omega,rfl,(by first | rfl | trivial),((((hf.nilOf.cons (hf.at_ 7 _ rfl)).cons (hf.at_ 6 _ rfl)).cons (hf.at_ 1 _ rfl)).cons (hf.at_ 0 _ rfl)).cons (d:=8) (hf.at_ 8 _ rfl),⟨by rw [HE.out,HX.out,idxI,if_neg (by simp [hqx])];rfl⟩⟩
  · have hke : k = l.length:=by omega
    have HK:=Aside.mk (show idxI q l 0 = -1 by rw [HE.out,hke];simp [idxI]);refine wp_seq_k ?_;intro _ _;refine wp_region_lit ?_;refine a_cmp (b:=false) hf rfl rfl rfl rfl rfl (by first | assumption | ((try dsimp only);simp only [bq1,bq2,bq3,bq4,bq5,bq6,bq7];omega)) rfl ?_;clear hf;intro _ hf;refine wpList_nil ?_;simp only [Exit.then,Exit.inBlock];go_step;refine wp_seq_k ?_;intro _ _;refine c_condF hf rfl ?_;refine wp_exit ?_;simp only [Exit.then,Exit.inBlock,↓reduceIte];go_step;refine wp_seq_k ?_;intro _ _;refine wp_region_lit ?_;refine a_assign hf rfl rfl rfl ?_;clear hf;intro _ hf;refine wpList_nil ?_;simp only [Exit.then,Exit.inBlock];go_step;refine wp_ret ?_;refine c_ret hf rfl rfl ⟨ret_eq ?_,rfl⟩;rw [HK.out]
set_option maxHeartbeats 1000000 in
theorem contains_any (fn : FuncId) (q : Int → Bool) (hen : Enters fn) (hq : ∀ x W, Calls Try.prog fn #[.int .i64 x] W fun e w' => e = .returned (.bool (q x)) ∧ W = w') (A : Option Addr) (c : Nat) (l : List Int) (w : World) (hl : RI Any w A l) (hn : l.length ≤ 1000000) :
    Calls Try.prog 79 #[.slice A l.length c,.func (.func fn) #[] #[]] w fun e w' => e = .returned (.bool (l.any q)) ∧ w = w':=by
  have HL:=Aside.mk hl;have HQ:=Aside.mk hq;clear hl hq
  go_enter Try.func79,Try.ntmps79
  refine wp_abs (n:=9) (ds:=[]) (l:=[(0,.slice A l.length c),(1,.func (.func fn) #[] #[])]) ?_ ?_
  · refine ((Has.nil ?_ ?_).cons ?_).cons ?_
    all_goals first | rfl | (simp [Act.eval];done)
  intro _ hf;refine wp_seq_k ?_;intro _ _;refine wp_region_lit ?_;refine a_assign hf rfl rfl rfl ?_;clear hf;intro _ hf;refine wpList_nil ?_;simp only [Exit.then,Exit.inBlock];go_step;refine wp_seq_k ?_;intro _ _;refine wp_region_lit ?_;refine a_move hf rfl rfl rfl ?_;clear hf;intro _ hf;refine a_move hf rfl rfl rfl ?_;clear hf;intro _ hf;refine a_callf2 103 hf e103 rfl rfl rfl rfl ?_;clear hf;refine (indexInt_any fn q hen HQ.out A c l _ HL.out hn).mono ?_;rintro _ _ ⟨rfl,rfl⟩;intro _ hf;refine a_cmp hf rfl rfl rfl rfl rfl rfl rfl ?_;clear hf;intro _ hf;refine a_assign hf rfl rfl rfl ?_;clear hf;intro _ hf;refine wpList_nil ?_;simp only [Exit.then,Exit.inBlock];go_step;refine wp_ret ?_;refine c_ret hf rfl rfl ⟨ret_eq ?_,rfl⟩;rw [← idxI_neg q l 0 (Int.le_refl _)]

def maxTo (m : Int) (l : List Int) : Int:=l.foldl (fun a b => if a < b then b else a) m
def maxOf : List Int → Int
  | [] => 0
  | x :: l => maxTo x l
theorem maxTo_snoc (m : Int) (l : List Int) (x : Int) : maxTo m (l ++ [x]) = if maxTo m l < x then x else maxTo m l:=by rw [maxTo,List.foldl_append];rfl
set_option maxHeartbeats 1000000 in
theorem max_any (A : Option Addr) (c : Nat) (y : Int) (l : List Int) (w : World) (hl : RI Any w A (y :: l)) (hn : (y :: l).length ≤ 1000000) :
    Calls Try.prog 91 #[.slice A (y :: l).length c] w fun e w' => e = .returned (.int .i64 (maxTo y l)) ∧ w = w':=by
  have HL:=Aside.mk hl
  obtain ⟨ad,rfl,_,q0⟩:=hl 0 y rfl
  have hlen : (y :: l).length = l.length + 1:=rfl
  generalize hN : (y :: l).length = N at hn hlen ⊢
  clear hl hN
  go_enter Try.func91,Try.ntmps91
  refine wp_abs (n:=25) (ds:=[]) (l:=[(0,.slice (some ad) N c)]) ?_ ?_
  · refine (Has.nil ?_ ?_).cons ?_
    all_goals first | rfl | (simp [Act.eval];done)
  intro _ hf;refine wp_seq_k ?_;intro _ _;refine wp_region_lit ?_;refine a_assign hf rfl rfl rfl ?_;clear hf;intro _ hf;refine wpList_nil ?_;simp only [Exit.then,Exit.inBlock];go_step;refine wp_seq_k ?_;intro _ _;refine wp_seq_k ?_;intro _ _;refine wp_region_lit ?_;refine a_move hf rfl rfl rfl ?_;clear hf;intro _ hf;refine a_len hf rfl rfl rfl rfl ?_;clear hf;intro _ hf;refine a_cmp (b:=false) hf rfl rfl rfl rfl rfl (by first | assumption | ((try dsimp only);simp only [bq1,bq2,bq3,bq4,bq5,bq6,bq7];omega)) rfl ?_;clear hf;intro _ hf;refine wpList_nil ?_;simp only [Exit.then,Exit.inBlock];go_step;refine c_condF hf rfl ?_;refine wp_skip ?_;simp only [Exit.then];go_step;refine wp_seq_k ?_;intro _ _;refine wp_region_lit ?_;refine a_move hf rfl rfl rfl ?_;clear hf;intro _ hf;refine a_index1 hf rfl rfl rfl (j:=0) rfl (by omega) rfl ?_;clear hf;intro _ hf;refine a_load hf rfl rfl rfl (by exact q0) rfl ?_;clear hf;intro _ hf;refine a_assign hf rfl rfl rfl ?_;clear hf;intro _ hf;refine wpList_nil ?_;simp only [Exit.then,Exit.inBlock];go_step;refine wp_seq_k ?_;intro _ _;refine wp_seq_k ?_;intro _ _;refine wp_region_lit ?_;refine a_assign hf rfl rfl rfl ?_;clear hf;intro _ hf;refine wpList_nil ?_;simp only [Exit.then,Exit.inBlock];go_step;refine wp_block ?_;refine wp_loop_ghost (fun m fr wr => ∃ k : Nat,k ≤ l.length ∧ m = l.length - k ∧ wr = w ∧ Has 25 [] [(4,.int .i64 ((k + 1 : Nat) : Int)),(3,.int .i64 (maxTo y (l.take k))),(0,.slice (some ad) N c)] fr) l.length ?_ ?_
  · exact ⟨0,Nat.zero_le _,rfl,rfl,((hf.nilOf.cons (hf.at_ 0 _ rfl)).cons (d:=3) (hf.at_ 3 _ rfl)).cons (d:=4) (hf.at_ 4 _ rfl)⟩
  rintro m fr wr ⟨k,hk',rfl,rfl,hf⟩
  by_cases hlt : k < l.length
  · obtain ⟨x,hx⟩:=get_some hlt
    have HX:=Aside.mk (drop_snoc hx)
    obtain ⟨ad',had,_,q1⟩:=HL.out (k + 1) x hx
    cases had
    clear hx;refine wp_seq_k ?_;intro _ _;refine wp_seq_k ?_;intro _ _;refine wp_region_lit ?_;refine a_move hf rfl rfl rfl ?_;clear hf;intro _ hf;refine a_move hf rfl rfl rfl ?_;clear hf;intro _ hf;refine a_len hf rfl rfl rfl rfl ?_;clear hf;intro _ hf;refine a_cmp (b:=true) hf rfl rfl rfl rfl rfl (by first | assumption | ((try dsimp only);simp only [bq1,bq2,bq3,bq4,bq5,bq6,bq7];omega)) rfl ?_;clear hf;intro _ hf;refine wpList_nil ?_;simp only [Exit.then,Exit.inBlock];go_step;refine c_condT hf rfl ?_;refine wp_skip ?_;simp only [Exit.then];go_step;refine wp_seq_k ?_;intro _ _;refine wp_block ?_;refine wp_region_lit ?_;refine a_move hf rfl rfl rfl ?_;clear hf;intro _ hf;refine a_move hf rfl rfl rfl ?_;clear hf;intro _ hf;refine a_move hf rfl rfl rfl ?_;clear hf;intro _ hf;refine a_index1 hf rfl rfl rfl (j:=k + 1) rfl (by omega) rfl ?_;clear hf;intro _ hf;refine a_load hf rfl rfl rfl (by exact q1) rfl ?_;clear hf;intro _ hf;refine a_max hf rfl rfl rfl rfl ?_;clear hf;intro _ hf;refine a_assign hf rfl rfl rfl ?_;clear hf;intro _ hf;refine wpList_nil ?_;simp only [Exit.then,Exit.inBlock];go_step;refine wp_region_lit ?_;refine a_move hf rfl rfl rfl ?_;clear hf;intro _ hf;refine a_ar hf rfl rfl rfl rfl (by (try dsimp only);omega) rfl ?_;clear hf;intro _ hf;refine a_assign hf rfl rfl rfl ?_;clear hf;intro _ hf;refine wpList_nil ?_;simp only [Exit.then,Exit.inBlock];exact ⟨l.length - (k + 1),by omega,k + 1,by omega,rfl,(by first | rfl | trivial),(((hf.nilOf.cons (hf.at_ 0 _ rfl)).cons (d:=3) (by rw [HX.out,maxTo_snoc];exact hf.at_ 3 _ rfl)).cons (d:=4) (hf.at_ 4 _ rfl))⟩
  · have hke : k = l.length:=by omega
    have HK:=Aside.mk (show maxTo y (l.take k) = maxTo y l by rw [hke,List.take_length]);refine wp_seq_k ?_;intro _ _;refine wp_seq_k ?_;intro _ _;refine wp_region_lit ?_;refine a_move hf rfl rfl rfl ?_;clear hf;intro _ hf;refine a_move hf rfl rfl rfl ?_;clear hf;intro _ hf;refine a_len hf rfl rfl rfl rfl ?_;clear hf;intro _ hf;refine a_cmp (b:=false) hf rfl rfl rfl rfl rfl (by first | assumption | ((try dsimp only);simp only [bq1,bq2,bq3,bq4,bq5,bq6,bq7];omega)) rfl ?_;clear hf;intro _ hf;refine wpList_nil ?_;simp only [Exit.then,Exit.inBlock];go_step;refine c_condF hf rfl ?_;refine wp_exit ?_;simp only [Exit.then,Exit.inBlock,↓reduceIte];go_step;refine wp_seq_k ?_;intro _ _;refine wp_region_lit ?_;refine a_move hf rfl rfl rfl ?_;clear hf;intro _ hf;refine a_assign hf rfl rfl rfl ?_;clear hf;intro _ hf;refine wpList_nil ?_;simp only [Exit.then,Exit.inBlock];go_step;refine wp_ret ?_;refine c_ret hf rfl rfl ⟨ret_eq ?_,rfl⟩;rw [HK.out]
end Go.Proofs.Ytpadgcomncljmaa.A
