/- Contracts of functions that DualSingle reaches, a text of this session's own. -/
import Derived.Test.YtdgjelbkogfedaaBox2
import Derived.Test.YtdgjelbkogfedaaHDualSingley0
namespace Go.Proofs.Ytdgjelbkogfedaa.PDualSingle
open Go.RowKit Go.Proofs.YtdgjelbkogfedaaW.PrintWords Go.Proofs.YtdgjelbkogfedaaW.PrintLast Go.Proofs.YtdgjelbkogfedaaW.PrintMore
attribute [local go_sem] max2_int min2_int max_two min_two max_three min_three max_four min_four   -- for this text's walks alone
set_option linter.unusedVariables false
set_option linter.unusedSimpArgs false

/-! ### gridhalllaw3_two: function 48 -/
def gridhalllaw3_two.f (a0 : ByteArray) : Option (ByteArray × (List (S116))) := some (a0, (([(⟨10, 5⟩ : S116), (⟨10, 8⟩ : S116)] : List (S116))))
set_option maxHeartbeats 8000000 in
set_option maxRecDepth 100000 in
theorem gridhalllaw3_two.calls (a0 : ByteArray) (r1 : ByteArray) (r2 : List (S116)) (w : World) (h : gridhalllaw3_two.f a0 = some (r1, r2)) :
  Calls Try.prog 48 #[.string a0] w fun e w' => ∃ v1_ : Value, e = .returned (.agg #[.string r1, v1_]) ∧ Kd.R k116 116 w' w.heap.size (fun _ => True) v1_ r2 ∧ Below w.heap.size w w' := by
 have hu26:=Try.underlying26;have hu116:=Try.underlying116;have HB:=k0_ (Below.refl w.heap.size w);have H : (some (a0, (([(⟨10, 5⟩ : S116),(⟨10, 8⟩ : S116)] : List (S116))))) = some (r1, r2):=h;clear h;obtain ⟨y209, hy209⟩ : ∃ y_ : List (S116), y_ = (([(⟨10, 5⟩ : S116),(⟨10, 8⟩ : S116)] : List (S116))):=⟨_, rfl⟩;replace H : (some (a0, y209)) = some (r1, r2):=by first|(rw [hy209];with_reducible exact H)|(have H2_:=(Option.bind_some _ _).symm.trans H;rw [hy209];with_reducible exact H2_)|(have H2_:=(Option.bind_some _ _).symm.trans H;with_reducible exact H2_)|with_reducible exact H|(rw [hy209];exact H)|exact H
 have Ny209:=k0_ hy209;clear hy209;simp only [Option.some.injEq, Prod.mk.injEq] at H;obtain ⟨rfl, rfl⟩:=H
 go_enter Try.func48, Try.ntmps48
 go_wp2_with (first|((with_reducible refine gate_dst (N:=2) rfl ?_);refine box_event ?hg (N:=2) ?hd (cs:=#[.string (⟨#[]⟩ : ByteArray), .slice none 0 0]) (t:=26) ?hr ?_;(case hd=>rfl);(case hg=>rfl);(case hr=>first|(go_simp;done)|(go_simp;rfl));intro gb208 hg w2 hbox hb;have BK208:=k0_ (hbox);have GW208:=k0_ ((by rw [hg];exact (below_size (hb0_ HB.out)) : w.heap.size ≤ gb208));have GE208:=k0_ ((by rw [hg];exact (below_size (hb0_ HB.out)) : w.heap.size ≤ gb208));replace HB:=k0_ (below_step (hb0_ HB.out) hb);clear hb hbox hg)|((with_reducible refine gate_dst (N:=6) rfl ?_);refine Kd.R_lit k116 _ 116 ?hg (N:=6) ?hd (xs:=([(⟨10, 5⟩ : S116),(⟨10, 8⟩ : S116)] : List (S116))) (inner:=[.int .i64 10, .int .i64 5, .int .i64 10, .int .i64 8]) (ok:=fun _=>True) (okp:=fun _=>True) ?hr ?hp (fun _ hk=>hk) trivial (Below.refl _ _) (Nat.le_refl _) (by simp) ?_;(case hd=>rfl);(case hg=>rfl);(case hr=>first|(go_simp;done)|(go_simp;rfl));(case hp=>exact (Reps.c2 (show Kd.M k116 _ _ _ (⟨10, 5⟩ : S116) [.int .i64 10, .int .i64 5] from (k116_mkM _ _ _ (⟨10, 5⟩ : S116) )) (Reps.c2 (show Kd.M k116 _ _ _ (⟨10, 8⟩ : S116) [.int .i64 10, .int .i64 8] from (k116_mkM _ _ _ (⟨10, 8⟩ : S116) )) (Reps.none _ _))));intro v210 w3 ho4 hb hg_ hnew_;clear hg_ hnew_;(first|rw [← Ny209.out] at ho4|(simp only [Int.reduceToNat] at ho4;rw [← Ny209.out] at ho4));have HO211:=k0_ (Kd.R_lower ho4 (below_size (hb1_ HB.out GE208.out)));replace BK208:=k0_ (blk_below (g:=gb208) (o:=.cells #[.string (⟨#[]⟩ : ByteArray), .slice none 0 0] 26 (0, 0)) (bq_ BK208.out) hb);replace HB:=k0_ (below_step (hb1_ HB.out GE208.out) hb);clear hb ho4;obtain ⟨Ao5, co5, eo5⟩:=Kd.R_slice HO211.out;subst eo5;obtain ⟨hcz6_0,hcz6_1⟩:=bc2_ BK208.out;obtain ⟨hfz6_0,hfz6_1⟩:=bf2_ BK208.out))
 refine bodyPost_ret (results_cell_row rfl _ _ gb208 26 #[.string a0, .slice Ao5 y209.length co5] (0, 0) _ rfl (by (with_reducible repeat (first|refine blk_drewN ?_ _|refine blk_drew ?_|refine blk_alloc ?_ _));refine blk_put (cs:=#[.string a0, .slice none 0 0]) ?_ 1 _ rfl;(with_reducible repeat (first|refine blk_drewN ?_ _|refine blk_drew ?_|refine blk_alloc ?_ _));refine blk_put (cs:=#[.string (⟨#[]⟩ : ByteArray), .slice none 0 0]) ?_ 0 _ rfl;(with_reducible repeat (first|refine blk_drewN ?_ _|refine blk_drew ?_|refine blk_alloc ?_ _));exact BK208.out) Try.underlying26 rfl (by kernel_rfl)) rfl ?_
 exact ⟨_, er_, by (with_reducible repeat (first|apply Kd.R_alloc|apply Kd.R_drewN|apply Kd.R_drew));exact Kd.R_mono (Kd.R_far (p:=⟨gb208, 1, none⟩) (Kd.R_far (p:=⟨gb208, 0, none⟩) (Kd.R_types HO211.out BK208.out (by decide)) (fun _ hk=>hk.2) (.string a0)) (fun _ hk=>hk.2) (.slice Ao5 y209.length co5)) (fun _ hk=>trivial), hb1_ HB.out GE208.out⟩

/-! ### gridhalllaw3_alone: function 10 -/
def gridhalllaw3_alone.f  : Option (ByteArray × Int × Int × Int × Int × Int × Int × Int × ByteArray × (List (S116)) × Bool × Int × Int) := (gridhalllaw3_two.f (⟨#[65]⟩ : ByteArray)).bind fun bt213 => (some ((⟨#[65]⟩ : ByteArray), 0, 20, 20, 20, 1, 1, 9, bt213.1, bt213.2, false, 5, 0))
set_option maxHeartbeats 8000000 in
set_option maxRecDepth 100000 in
theorem gridhalllaw3_alone.calls  (r1 : ByteArray) (r2 : Int) (r3 : Int) (r4 : Int) (r5 : Int) (r6 : Int) (r7 : Int) (r8 : Int) (r9 : ByteArray) (r10 : List (S116)) (r11 : Bool) (r12 : Int) (r13 : Int) (w : World) (h : gridhalllaw3_alone.f  = some (r1, r2, r3, r4, r5, r6, r7, r8, r9, r10, r11, r12, r13)) :
  Calls Try.prog 10 #[] w fun e w' => ∃ v9_ : Value, e = .returned (.agg #[.string r1, .int .i64 r2, .int .i64 r3, .int .i64 r4, .int .i64 r5, .int .i64 r6, .int .i64 r7, .int .i64 r8, .string r9, v9_, .bool r11, .int .i64 r12, .int .i64 r13]) ∧ Kd.R k116 116 w' w.heap.size (fun _ => True) v9_ r10 ∧ Below w.heap.size w w' := by
 have hu30:=Try.underlying30;have hu23:=Try.underlying23;have hu28:=Try.underlying28;have HB:=k0_ (Below.refl w.heap.size w);have H : ((gridhalllaw3_two.f (⟨#[65]⟩ : ByteArray)).bind fun bt213=>(some ((⟨#[65]⟩ : ByteArray), 0, 20, 20, 20, 1, 1, 9, bt213.1, bt213.2, false, 5, 0))) = some (r1, r2, r3, r4, r5, r6, r7, r8, r9, r10, r11, r12, r13):=h;clear h;replace H:=Option.bind_eq_some_iff.mp H;obtain ⟨⟨t213, t214⟩, A10, H⟩:=H;replace H : (some ((⟨#[65]⟩ : ByteArray), 0, 20, 20, 20, 1, 1, 9, t213, t214, false, 5, 0)) = some (r1, r2, r3, r4, r5, r6, r7, r8, r9, r10, r11, r12, r13):=H;have A1:=k0_ A10;clear A10;simp only [Option.some.injEq, Prod.mk.injEq] at H;obtain ⟨rfl, rfl, rfl, rfl, rfl, rfl, rfl, rfl, rfl, rfl, rfl, rfl, rfl⟩:=H
 go_enter Try.func10, Try.ntmps10
 go_wp2_with (first|((with_reducible refine gate_dst (N:=0) rfl ?_);refine box_event ?hg (N:=0) ?hd (cs:=#[.string (⟨#[]⟩ : ByteArray), .int .i64 0, .int .i64 0, .int .i64 0, .int .i64 0, .int .i64 0, .int .i64 0, .int .i64 0, .string (⟨#[]⟩ : ByteArray), .slice none 0 0, .bool false, .int .i64 0, .int .i64 0]) (t:=30) ?hr ?_;(case hd=>rfl);(case hg=>rfl);(case hr=>first|(go_simp;done)|(go_simp;rfl));intro gb212 hg w2 hbox hb;have BK212:=k0_ (hbox);have GW212:=k0_ ((by rw [hg];exact (below_size (hb0_ HB.out)) : w.heap.size ≤ gb212));have GE212:=k0_ ((by rw [hg];exact (below_size (hb0_ HB.out)) : w.heap.size ≤ gb212));replace HB:=k0_ (below_step (hb0_ HB.out) hb);clear hb hbox hg)|((with_reducible refine gate_callee (f:=48) rfl ?_);refine goesL_ (some 2) rfl rfl Try.func48 (by kernel_rfl) rfl #[.string (⟨#[65]⟩ : ByteArray)] rfl mt_ ?_;(with_reducible refine (gridhalllaw3_two.calls (⟨#[65]⟩ : ByteArray) t213 t214 _ A1.out).mono ?_);rintro e w3 ⟨v215, rfl, ho0, hb⟩;refine ⟨_, rfl, ?_⟩;have HO216:=k0_ (Kd.R_lower ho0 (below_size (hb1_ HB.out GE212.out)));replace BK212:=k0_ (blk_below (g:=gb212) (o:=.cells #[.string (⟨#[]⟩ : ByteArray), .int .i64 0, .int .i64 0, .int .i64 0, .int .i64 0, .int .i64 0, .int .i64 0, .int .i64 0, .string (⟨#[]⟩ : ByteArray), .slice none 0 0, .bool false, .int .i64 0, .int .i64 0] 30 (0, 0)) (bq_ BK212.out) hb);replace HB:=k0_ (below_step (hb1_ HB.out GE212.out) hb);(try clear hb);(try clear hb2);(try clear hk);(try clear hi);(try clear ho0);obtain ⟨Ao4, co4, eo4⟩:=Kd.R_slice HO216.out;subst eo4;obtain ⟨hcz5_0,hcz5_1,hcz5_2,hcz5_3,hcz5_4,hcz5_5,hcz5_6,hcz5_7,hcz5_8,hcz5_9,hcz5_10,hcz5_11,hcz5_12⟩:=bc13_ BK212.out;obtain ⟨hfz5_0,hfz5_1,hfz5_2,hfz5_3,hfz5_4,hfz5_5,hfz5_6,hfz5_7,hfz5_8,hfz5_9,hfz5_10,hfz5_11,hfz5_12⟩:=bf13_ BK212.out)|((with_reducible refine gate_store (t:=30) (p:=0) rfl ?_);refine store_event (t:=30) (p:=0) (v:=?vo_w6) (w1:=(((((((((((((w3.setCell ⟨gb212, 0, none⟩ (.string (⟨#[65]⟩ : ByteArray))).setCell ⟨gb212, 1, none⟩ (.int .i64 0)).setCell ⟨gb212, 2, none⟩ (.int .i64 20)).setCell ⟨gb212, 3, none⟩ (.int .i64 20)).setCell ⟨gb212, 4, none⟩ (.int .i64 20)).setCell ⟨gb212, 5, none⟩ (.int .i64 1)).setCell ⟨gb212, 6, none⟩ (.int .i64 1)).setCell ⟨gb212, 7, none⟩ (.int .i64 9)).setCell ⟨gb212, 8, none⟩ (.string t213)).setCell ⟨gb212, 9, none⟩ (.slice Ao4 t214.length co4)).setCell ⟨gb212, 10, none⟩ (.bool false)).setCell ⟨gb212, 11, none⟩ (.int .i64 5)).setCell ⟨gb212, 12, none⟩ (.int .i64 0))) ?hg ?ho ?hn ?hr ?_;(case ho=>rfl);(case hg=>rfl);(case hn=>rfl);(case hr=>first|(go_simp;done)|(go_simp;rfl));intro w6 hw;have n0_ : Aside0 (Kd.R k116 116 w6 w.heap.size (fun _=>True) (.slice Ao4 t214.length co4) t214):=⟨(by rw [hw];exact (by (with_reducible repeat (first|apply Kd.R_alloc|apply Kd.R_drewN|apply Kd.R_drew));exact Kd.R_mono (Kd.R_far (p:=⟨gb212, 12, none⟩) (Kd.R_far (p:=⟨gb212, 11, none⟩) (Kd.R_far (p:=⟨gb212, 10, none⟩) (Kd.R_far (p:=⟨gb212, 9, none⟩) (Kd.R_far (p:=⟨gb212, 8, none⟩) (Kd.R_far (p:=⟨gb212, 7, none⟩) (Kd.R_far (p:=⟨gb212, 6, none⟩) (Kd.R_far (p:=⟨gb212, 5, none⟩) (Kd.R_far (p:=⟨gb212, 4, none⟩) (Kd.R_far (p:=⟨gb212, 3, none⟩) (Kd.R_far (p:=⟨gb212, 2, none⟩) (Kd.R_far (p:=⟨gb212, 1, none⟩) (Kd.R_far (p:=⟨gb212, 0, none⟩) (Kd.R_types HO216.out BK212.out (by decide)) (fun _ hk=>hk.2) (.string (⟨#[65]⟩ : ByteArray))) (fun _ hk=>hk.2) (.int .i64 0)) (fun _ hk=>hk.2) (.int .i64 20)) (fun _ hk=>hk.2) (.int .i64 20)) (fun _ hk=>hk.2) (.int .i64 20)) (fun _ hk=>hk.2) (.int .i64 1)) (fun _ hk=>hk.2) (.int .i64 1)) (fun _ hk=>hk.2) (.int .i64 9)) (fun _ hk=>hk.2) (.string t213)) (fun _ hk=>hk.2) (.slice Ao4 t214.length co4)) (fun _ hk=>hk.2) (.bool false)) (fun _ hk=>hk.2) (.int .i64 5)) (fun _ hk=>hk.2) (.int .i64 0)) (fun _ hk=>trivial)))⟩;have n1_ : Aside0 (w6.heap[gb212]? = some (.cells #[.string (⟨#[65]⟩ : ByteArray), .int .i64 0, .int .i64 20, .int .i64 20, .int .i64 20, .int .i64 1, .int .i64 1, .int .i64 9, .string t213, .slice Ao4 t214.length co4, .bool false, .int .i64 5, .int .i64 0] 30 (0, 0))):=⟨(by rw [hw];exact (by (with_reducible repeat (first|refine blk_drewN ?_ _|refine blk_drew ?_|refine blk_alloc ?_ _));refine blk_put (cs:=#[.string (⟨#[65]⟩ : ByteArray), .int .i64 0, .int .i64 20, .int .i64 20, .int .i64 20, .int .i64 1, .int .i64 1, .int .i64 9, .string t213, .slice Ao4 t214.length co4, .bool false, .int .i64 5, .int .i64 0]) ?_ 12 _ rfl;(with_reducible repeat (first|refine blk_drewN ?_ _|refine blk_drew ?_|refine blk_alloc ?_ _));refine blk_put (cs:=#[.string (⟨#[65]⟩ : ByteArray), .int .i64 0, .int .i64 20, .int .i64 20, .int .i64 20, .int .i64 1, .int .i64 1, .int .i64 9, .string t213, .slice Ao4 t214.length co4, .bool false, .int .i64 0, .int .i64 0]) ?_ 11 _ rfl;(with_reducible repeat (first|refine blk_drewN ?_ _|refine blk_drew ?_|refine blk_alloc ?_ _));refine blk_put (cs:=#[.string (⟨#[65]⟩ : ByteArray), .int .i64 0, .int .i64 20, .int .i64 20, .int .i64 20, .int .i64 1, .int .i64 1, .int .i64 9, .string t213, .slice Ao4 t214.length co4, .bool false, .int .i64 0, .int .i64 0]) ?_ 10 _ rfl;(with_reducible repeat (first|refine blk_drewN ?_ _|refine blk_drew ?_|refine blk_alloc ?_ _));refine blk_put (cs:=#[.string (⟨#[65]⟩ : ByteArray), .int .i64 0, .int .i64 20, .int .i64 20, .int .i64 20, .int .i64 1, .int .i64 1, .int .i64 9, .string t213, .slice none 0 0, .bool false, .int .i64 0, .int .i64 0]) ?_ 9 _ rfl;(with_reducible repeat (first|refine blk_drewN ?_ _|refine blk_drew ?_|refine blk_alloc ?_ _));refine blk_put (cs:=#[.string (⟨#[65]⟩ : ByteArray), .int .i64 0, .int .i64 20, .int .i64 20, .int .i64 20, .int .i64 1, .int .i64 1, .int .i64 9, .string (⟨#[]⟩ : ByteArray), .slice none 0 0, .bool false, .int .i64 0, .int .i64 0]) ?_ 8 _ rfl;(with_reducible repeat (first|refine blk_drewN ?_ _|refine blk_drew ?_|refine blk_alloc ?_ _));refine blk_put (cs:=#[.string (⟨#[65]⟩ : ByteArray), .int .i64 0, .int .i64 20, .int .i64 20, .int .i64 20, .int .i64 1, .int .i64 1, .int .i64 0, .string (⟨#[]⟩ : ByteArray), .slice none 0 0, .bool false, .int .i64 0, .int .i64 0]) ?_ 7 _ rfl;(with_reducible repeat (first|refine blk_drewN ?_ _|refine blk_drew ?_|refine blk_alloc ?_ _));refine blk_put (cs:=#[.string (⟨#[65]⟩ : ByteArray), .int .i64 0, .int .i64 20, .int .i64 20, .int .i64 20, .int .i64 1, .int .i64 0, .int .i64 0, .string (⟨#[]⟩ : ByteArray), .slice none 0 0, .bool false, .int .i64 0, .int .i64 0]) ?_ 6 _ rfl;(with_reducible repeat (first|refine blk_drewN ?_ _|refine blk_drew ?_|refine blk_alloc ?_ _));refine blk_put (cs:=#[.string (⟨#[65]⟩ : ByteArray), .int .i64 0, .int .i64 20, .int .i64 20, .int .i64 20, .int .i64 0, .int .i64 0, .int .i64 0, .string (⟨#[]⟩ : ByteArray), .slice none 0 0, .bool false, .int .i64 0, .int .i64 0]) ?_ 5 _ rfl;(with_reducible repeat (first|refine blk_drewN ?_ _|refine blk_drew ?_|refine blk_alloc ?_ _));refine blk_put (cs:=#[.string (⟨#[65]⟩ : ByteArray), .int .i64 0, .int .i64 20, .int .i64 20, .int .i64 0, .int .i64 0, .int .i64 0, .int .i64 0, .string (⟨#[]⟩ : ByteArray), .slice none 0 0, .bool false, .int .i64 0, .int .i64 0]) ?_ 4 _ rfl;(with_reducible repeat (first|refine blk_drewN ?_ _|refine blk_drew ?_|refine blk_alloc ?_ _));refine blk_put (cs:=#[.string (⟨#[65]⟩ : ByteArray), .int .i64 0, .int .i64 20, .int .i64 0, .int .i64 0, .int .i64 0, .int .i64 0, .int .i64 0, .string (⟨#[]⟩ : ByteArray), .slice none 0 0, .bool false, .int .i64 0, .int .i64 0]) ?_ 3 _ rfl;(with_reducible repeat (first|refine blk_drewN ?_ _|refine blk_drew ?_|refine blk_alloc ?_ _));refine blk_put (cs:=#[.string (⟨#[65]⟩ : ByteArray), .int .i64 0, .int .i64 0, .int .i64 0, .int .i64 0, .int .i64 0, .int .i64 0, .int .i64 0, .string (⟨#[]⟩ : ByteArray), .slice none 0 0, .bool false, .int .i64 0, .int .i64 0]) ?_ 2 _ rfl;(with_reducible repeat (first|refine blk_drewN ?_ _|refine blk_drew ?_|refine blk_alloc ?_ _));refine blk_put (cs:=#[.string (⟨#[65]⟩ : ByteArray), .int .i64 0, .int .i64 0, .int .i64 0, .int .i64 0, .int .i64 0, .int .i64 0, .int .i64 0, .string (⟨#[]⟩ : ByteArray), .slice none 0 0, .bool false, .int .i64 0, .int .i64 0]) ?_ 1 _ rfl;(with_reducible repeat (first|refine blk_drewN ?_ _|refine blk_drew ?_|refine blk_alloc ?_ _));refine blk_put (cs:=#[.string (⟨#[]⟩ : ByteArray), .int .i64 0, .int .i64 0, .int .i64 0, .int .i64 0, .int .i64 0, .int .i64 0, .int .i64 0, .string (⟨#[]⟩ : ByteArray), .slice none 0 0, .bool false, .int .i64 0, .int .i64 0]) ?_ 0 _ rfl;(with_reducible repeat (first|refine blk_drewN ?_ _|refine blk_drew ?_|refine blk_alloc ?_ _));exact BK212.out))⟩;have n2_ : Aside0 (Below w.heap.size w w6):=⟨(by rw [hw];exact (hb1_ HB.out GE212.out))⟩;clear hw;clear HO216;clear BK212;clear HB;have HO216:=n0_;have BK212:=n1_;have HB:=n2_;clear n0_ n1_ n2_))
 refine bodyPost_ret (results_cell_row rfl _ _ gb212 30 #[.string (⟨#[65]⟩ : ByteArray), .int .i64 0, .int .i64 20, .int .i64 20, .int .i64 20, .int .i64 1, .int .i64 1, .int .i64 9, .string t213, .slice Ao4 t214.length co4, .bool false, .int .i64 5, .int .i64 0] (0, 0) _ rfl (bq_ BK212.out) Try.underlying30 rfl (by kernel_rfl)) rfl ?_
 exact ⟨_, er_, by (with_reducible repeat (first|apply Kd.R_alloc|apply Kd.R_drewN|apply Kd.R_drew));exact HO216.out, hb1_ HB.out GE212.out⟩

/-! ### gridhallref3_SameInts: function 11 -/
def gridhallref3_SameInts.l0 : Nat → List Int → List Int → Int → Int → Option (Bool)
 | 0, _, _, _, _ => none
 | k + 1, x0, x1, x12, x13 => if x13 < x12 then (if 0 ≤ x13 then (if x13 < (x0.length : Int) then (if x13 < (x1.length : Int) then (if (rd x0 x13) = (rd x1 x13) then (gridhallref3_SameInts.l0 k x0 x1 x12 (wrap64 (x13 + 1))) else (some false)) else (none)) else (none)) else (none)) else (some true)
def gridhallref3_SameInts.f (k : Nat) (l0 : List Int) (l1 : List Int) : Option (Bool) := if (l0.length : Int) = (l1.length : Int) then (gridhallref3_SameInts.l0 k l0 l1 (l0.length : Int) 0) else (some false)
theorem gridhallref3_SameInts.mono_l : ∀ k, (∀ y0 y1 y2 y3, LeO (gridhallref3_SameInts.l0 k y0 y1 y2 y3) (gridhallref3_SameInts.l0 (k + 1) y0 y1 y2 y3))
 | 0 => fun _ _ _ _ r h => by simp [gridhallref3_SameInts.l0] at h
 | k + 1 => by
  have ih0:=gridhallref3_SameInts.mono_l k
  ·intro y0 y1 y2 y3
   unfold gridhallref3_SameInts.l0
   repeat' first|(with_reducible first|exact ih0 _ _ _ _|exact LeO.refl _|exact LeO.none _|refine LeO.ite ?_ ?_|refine LeO.bind ?_ (fun _=>?_))|exact ih0 _ _ _ _|exact LeO.none _|refine LeO.ite ?_ ?_|refine LeO.bind ?_ (fun _=>?_)
theorem gridhallref3_SameInts.mono : ∀ a0 a1 k, LeO (gridhallref3_SameInts.f k a0 a1) (gridhallref3_SameInts.f (k + 1) a0 a1) := by
 intro a0 a1 k
 have ih0:=gridhallref3_SameInts.mono_l k
 unfold gridhallref3_SameInts.f
 repeat' first|(with_reducible first|exact ih0 _ _ _ _|exact LeO.refl _|exact LeO.none _|refine LeO.ite ?_ ?_|refine LeO.bind ?_ (fun _=>?_))|exact ih0 _ _ _ _|exact LeO.none _|refine LeO.ite ?_ ?_|refine LeO.bind ?_ (fun _=>?_)
set_option maxHeartbeats 8000000 in
set_option maxRecDepth 100000 in
theorem gridhallref3_SameInts.calls (k : Nat) (A0 : Option Addr) (c0 : Nat) (l0 : List Int) (A1 : Option Addr) (c1 : Nat) (l1 : List Int) (r : Bool) (w : World) (hr0 : Kd.C (Kd.int .i64) w A0 l0.length l0) (hc0 : l0.length ≤ c0) (hr1 : Kd.C (Kd.int .i64) w A1 l1.length l1) (hc1 : l1.length ≤ c1) (h : gridhallref3_SameInts.f k l0 l1 = some r) :
  Calls Try.prog 11 #[.slice A0 l0.length c0, .slice A1 l1.length c1] w fun e w' => e = .returned (.bool r) ∧ Drawn0 w w' := by
 have HR0:=k0_ hr0;have HC0:=k0_ hc0;clear hr0 hc0;have HR1:=k0_ hr1;have HC1:=k0_ hc1;clear hr1 hc1;have H : (if (l0.length : Int) = (l1.length : Int) then (gridhallref3_SameInts.l0 k l0 l1 (l0.length : Int) 0) else (some false)) = some r:=h;clear h
 by_cases c3 : (l0.length : Int) = (l1.length : Int)
 ·rw [if_pos c3] at H
  have c3b0:=beq_iff_eq.mpr c3;have c3b1:=bne_eq_false_iff_eq.mpr c3;have c3b2 : (l0.length == l1.length) = true:=by first|simpa using c3|(simp at c3 ⊢;omega)
  clear c3;have H':=k0_ H;clear H
  go_enter Try.func11, Try.ntmps11
  go_wp2
  repeat (go_quiet (fail);try go_wp2)
  (try simp only [Act.put, q1_,q3_,q2_])
  go_loopg [13] k (fun kq v13 w'=>∃ (x13_1 : Int), v13 = .int .i64 x13_1∧Aside0 (gridhallref3_SameInts.l0 kq l0 l1 (l0.length : Int) x13_1 = some r)∧Aside0 (kq ≤ k)∧Drawn0 w w')
  case atStart=>exact ⟨(0),rs_, H', ⟨Nat.le_refl _⟩, by repeat (first|exact Drawn0.refl _|apply Drawn0.step)⟩
  clear H';(try clear c1);(try clear p2);(try clear c3);(try clear c3b0);(try clear c3b1);(try clear c3b2);obtain ⟨x13_1, rfl, HA, HK1, ⟨m1, rfl⟩⟩:=hrel;obtain _|k1:=gk
  ·exact absurd HA.out (by simp [gridhallref3_SameInts.l0])
  have H:=HA.out;clear HA;simp only [gridhallref3_SameInts.l0] at H
  by_cases c4 : x13_1 < (l0.length : Int)
  ·rw [if_pos c4] at H
   have c4b0:=decide_eq_true c4;clear c4
   by_cases c5 : 0 ≤ x13_1
   rw [if_pos c5] at H;have c5b0:=decide_eq_true c5;clear c5
   focus
    by_cases c6 : x13_1 < (l0.length : Int)
    rw [if_pos c6] at H;have c6b0:=decide_eq_true c6;clear c6
    focus
     by_cases c7 : x13_1 < (l1.length : Int)
     rw [if_pos c7] at H;have c7b0:=decide_eq_true c7;clear c7
     focus
      by_cases c8 : (rd l0 x13_1) = (rd l1 x13_1)
      rw [if_pos c8] at H;have c8b0:=beq_iff_eq.mpr c8;have c8b1:=bne_eq_false_iff_eq.mpr c8;clear c8;have H':=k0_ H;clear H;rotate_left;rw [if_neg c8] at H;have c8b0:=beq_eq_false_iff_ne.mpr c8;have c8b1:=bne_iff_ne.mpr c8;obtain rfl:=Option.some.inj H;rotate_left
     rotate_left 2;rw [if_neg c7] at H
     exact absurd H (by simp)
    rotate_left 2;rw [if_neg c6] at H
    exact absurd H (by simp)
   rotate_left 2;rw [if_neg c5] at H
   exact absurd H (by simp)
   all_goals
    have p217 : 0 ≤ (x13_1 : Int):=of_decide_eq_true as_;have q217 : x13_1 < (l0.length : Int):=of_decide_eq_true as_;obtain ⟨ad217, e217, hx217_0⟩:=Kd.at_int HR0.out x13_1 p217 q217;cases e217;replace p217:=eq_true p217;replace q217:=eq_true q217;have p218 : 0 ≤ (x13_1 : Int):=of_decide_eq_true as_;have q218 : x13_1 < (l1.length : Int):=of_decide_eq_true as_;obtain ⟨ad218, e218, hx218_0⟩:=Kd.at_int HR1.out x13_1 p218 q218;cases e218;replace p218:=eq_true p218;replace q218:=eq_true q218;go_wp2
    repeat (go_quiet (fail);try go_wp2)
   ·go_roundg k1
    case measure=>have:=HK1.out;omega
    case rel=>exact ⟨(wrap64 (x13_1 + 1)),rs_, H', ⟨by have:=HK1.out;omega⟩, by repeat (first|exact Drawn0.refl _|apply Drawn0.step)⟩
   ·go_ret
    exact ⟨by first|rfl|(simp;done)|(simp [*];done), by repeat (first|exact Drawn0.refl _|apply Drawn0.step)⟩
  ·rw [if_neg c4] at H
   have c4b0:=decide_eq_false c4;clear c4;obtain rfl:=Option.some.inj H;go_wp2
   repeat (go_quiet (fail);try go_wp2)
   go_ret
   exact ⟨by first|rfl|(simp;done)|(simp [*];done), by repeat (first|exact Drawn0.refl _|apply Drawn0.step)⟩
 ·rw [if_neg c3] at H
  have c3b0:=beq_eq_false_iff_ne.mpr c3;have c3b1:=bne_iff_ne.mpr c3;have c3b2 : (l0.length == l1.length) = false:=by first|simpa using c3|(simp at c3 ⊢;omega)
  obtain rfl:=Option.some.inj H
  go_enter Try.func11, Try.ntmps11
  go_wp2
  repeat (go_quiet (fail);try go_wp2)
  go_ret
  exact ⟨by first|rfl|(simp;done)|(simp [*];done), by repeat (first|exact Drawn0.refl _|apply Drawn0.step)⟩

/-! ### gridhallref3_In: function 14 -/
def gridhallref3_In.f (a0 : Int) (a1 : Int) (a2 : Int) : Option (Bool) := if a0 ≥ a1 then (some (decide (a0 ≤ a2))) else (some false)
set_option maxHeartbeats 8000000 in
set_option maxRecDepth 100000 in
theorem gridhallref3_In.calls (a0 : Int) (a1 : Int) (a2 : Int) (r : Bool) (w : World) (h : gridhallref3_In.f a0 a1 a2 = some r) :
  Calls Try.prog 14 #[.int .i64 a0, .int .i64 a1, .int .i64 a2] w fun e w' => e = .returned (.bool r) ∧ Drawn0 w w' := by
 have H : (if a0 ≥ a1 then (some (decide (a0 ≤ a2))) else (some false)) = some r:=h;clear h
 by_cases c4 : a0 ≥ a1
 ·rw [if_pos c4] at H
  have c4b0:=decide_eq_true c4;clear c4;obtain rfl:=Option.some.inj H
  go_enter Try.func14, Try.ntmps14
  go_wp2
  go_ret
  exact ⟨by first|rfl|(simp;done)|(simp [*];done), by repeat (first|exact Drawn0.refl _|apply Drawn0.step)⟩
 ·rw [if_neg c4] at H
  have c4b0:=decide_eq_false c4;clear c4;obtain rfl:=Option.some.inj H
  go_enter Try.func14, Try.ntmps14
  go_wp2
  go_ret
  exact ⟨by first|rfl|(simp;done)|(simp [*];done), by repeat (first|exact Drawn0.refl _|apply Drawn0.step)⟩

/-! ### gridhallref3_Named: function 65 -/
mutual
def gridhallref3_Named.j0 : Nat → ByteArray → Bool → Option (Bool)
 | 0, _, _ => none
 | k + 1, x0, x17 => if x17 = true then (some false) else (gridhallref3_Named.l0 k x0 (x0.size : Int) 0)
def gridhallref3_Named.l0 : Nat → ByteArray → Int → Int → Option (Bool)
 | 0, _, _, _ => none
 | k + 1, x0, x19, x20 => if x20 < x19 then (if 0 ≤ x20 then (if x20 < (x0.size : Int) then ((gridhallref3_In.f (wrap64 (bt x0 x20)) 65 90).bind fun t220 => (if t220 = true then (gridhallref3_Named.l0 k x0 x19 (wrap64 (x20 + 1))) else ((gridhallref3_In.f (wrap64 (bt x0 x20)) 48 57).bind fun t221 => (if t221 = true then (gridhallref3_Named.l0 k x0 x19 (wrap64 (x20 + 1))) else (some false))))) else (none)) else (none)) else (some true)
end
def gridhallref3_Named.f (k : Nat) (a0 : ByteArray) : Option (Bool) := if (a0.size : Int) < 1 then (gridhallref3_Named.j0 k a0 true) else (if (a0.size : Int) > 8 then (gridhallref3_Named.j0 k a0 true) else (if 0 < (a0.size : Int) then ((gridhallref3_In.f (wrap64 (bt a0 0)) 48 57).bind fun t219 => (gridhallref3_Named.j0 k a0 t219)) else (none)))
theorem gridhallref3_Named.mono_l : ∀ k, (∀ y0 y1, LeO (gridhallref3_Named.j0 k y0 y1) (gridhallref3_Named.j0 (k + 1) y0 y1)) ∧ (∀ y0 y1 y2, LeO (gridhallref3_Named.l0 k y0 y1 y2) (gridhallref3_Named.l0 (k + 1) y0 y1 y2))
 | 0 => ⟨fun _ _ r h => by simp [gridhallref3_Named.j0] at h, fun _ _ _ r h => by simp [gridhallref3_Named.l0] at h⟩
 | k + 1 => by
  obtain ⟨ih0, ih1⟩:=gridhallref3_Named.mono_l k
  refine ⟨?_, ?_⟩
  ·intro y0 y1
   unfold gridhallref3_Named.j0
   repeat' first|(with_reducible first|exact ih0 _ _|exact ih1 _ _ _|exact LeO.refl _|exact LeO.none _|refine LeO.ite ?_ ?_|refine LeO.bind ?_ (fun _=>?_))|exact ih0 _ _|exact ih1 _ _ _|exact LeO.none _|refine LeO.ite ?_ ?_|refine LeO.bind ?_ (fun _=>?_)
  ·intro y0 y1 y2
   unfold gridhallref3_Named.l0
   repeat' first|(with_reducible first|exact ih0 _ _|exact ih1 _ _ _|exact LeO.refl _|exact LeO.none _|refine LeO.ite ?_ ?_|refine LeO.bind ?_ (fun _=>?_))|exact ih0 _ _|exact ih1 _ _ _|exact LeO.none _|refine LeO.ite ?_ ?_|refine LeO.bind ?_ (fun _=>?_)
theorem gridhallref3_Named.mono : ∀ a0 k, LeO (gridhallref3_Named.f k a0) (gridhallref3_Named.f (k + 1) a0) := by
 intro a0 k
 obtain ⟨ih0, ih1⟩:=gridhallref3_Named.mono_l k
 unfold gridhallref3_Named.f
 repeat' first|(with_reducible first|exact ih0 _ _|exact ih1 _ _ _|exact LeO.refl _|exact LeO.none _|refine LeO.ite ?_ ?_|refine LeO.bind ?_ (fun _=>?_))|exact ih0 _ _|exact ih1 _ _ _|exact LeO.none _|refine LeO.ite ?_ ?_|refine LeO.bind ?_ (fun _=>?_)
set_option maxHeartbeats 8000000 in
set_option maxRecDepth 100000 in
theorem gridhallref3_Named.calls (k : Nat) (a0 : ByteArray) (r : Bool) (w : World) (h : gridhallref3_Named.f k a0 = some r) :
  Calls Try.prog 65 #[.string a0] w fun e w' => e = .returned (.bool r) ∧ Drawn0 w w' := by
 have H : (if (a0.size : Int) < 1 then (gridhallref3_Named.j0 k a0 true) else (if (a0.size : Int) > 8 then (gridhallref3_Named.j0 k a0 true) else (if 0 < (a0.size : Int) then ((gridhallref3_In.f (wrap64 (bt a0 0)) 48 57).bind fun t219=>(gridhallref3_Named.j0 k a0 t219)) else (none)))) = some r:=h;clear h;have HC2:=k0_ H;clear H
 go_enter Try.func65, Try.ntmps65
 go_upto_region 1 with (fail)
 go_cut [17] (fun v17 wc=>∃ (kq : Nat) (x17_1 : Bool), v17 = .bool x17_1∧Aside0 (gridhallref3_Named.j0 kq a0 x17_1 = some r)∧Aside0 (kq ≤ k)∧Drawn0 w wc)
 case first =>
  have H:=HC2.out;clear HC2
  by_cases c3 : (a0.size : Int) < 1
  ·rw [if_pos c3] at H
   have c3b0:=decide_eq_true c3;have c3b1 : decide (a0.size < 1) = true:=decide_eq_true (by omega);clear c3;(first|rw [c3b0]|(simp only [i64_w, i32_w];rw [c3b0])|skip);have H':=k0_ H;clear H;go_wp2
   go_meet
   case rel=>exact ⟨_, (true),rs_, H', ⟨by first|omega|exact Nat.le_refl _⟩, by repeat (first|exact Drawn0.refl _|apply Drawn0.step)⟩
  ·rw [if_neg c3] at H
   have c3b0:=decide_eq_false c3;have c3b1 : decide (a0.size < 1) = false:=decide_eq_false (by omega);clear c3;(first|rw [c3b0]|(simp only [i64_w, i32_w];rw [c3b0])|skip)
   by_cases c4 : (a0.size : Int) > 8
   ·rw [if_pos c4] at H
    have c4b0:=decide_eq_true c4;have c4b1 : decide (8 < a0.size) = true:=decide_eq_true (by omega);clear c4;have H':=k0_ H;clear H;go_wp2
    go_meet
    case rel=>exact ⟨_, (true),rs_, H', ⟨by first|omega|exact Nat.le_refl _⟩, by repeat (first|exact Drawn0.refl _|apply Drawn0.step)⟩
   ·rw [if_neg c4] at H
    have c4b0:=decide_eq_false c4;have c4b1 : decide (8 < a0.size) = false:=decide_eq_false (by omega);clear c4
    obtain ⟨c5,H⟩:=gi_ H;have c5b0:=decide_eq_true c5;have c5b1 : decide (0 < a0.size) = true:=decide_eq_true (by omega);clear c5;replace H:=Option.bind_eq_some_iff.mp H;obtain ⟨t219, A70, H⟩:=H;replace H : (gridhallref3_Named.j0 k a0 t219) = some r:=H;have A7:=k0_ A70;clear A70;have H':=k0_ H;clear H;have p6 : 0 ≤ (0 : Int):=(by omega);have q6 : 0 < a0.size:=(by have : (0 : Int) < (a0.size : Int):=of_decide_eq_true as_;omega);have hx6 : ∀ h : 0 < a0.size, ((a0[0]'h).toNat : Int) = bt a0 0:=bt_at a0 0;clear p6;have qi6 : (0 < (a0.size : Int)) = True:=eq_true (of_decide_eq_true as_);replace q6:=eq_true q6
    go_wp2_with (first|(go_at_call 14;(with_reducible refine (gridhallref3_In.calls (wrap64 (bt a0 0)) 48 57 t219 _ A7.out).mono ?_);rintro e w' ⟨rfl, ⟨nd, rfl⟩⟩))
    go_meet
    case rel=>exact ⟨_, (t219),rs_, H', ⟨by first|omega|exact Nat.le_refl _⟩, by repeat (first|exact Drawn0.refl _|apply Drawn0.step)⟩
 clear HC2;(try clear p2);(try clear c3);(try clear c3b0);(try clear c3b1);(try clear c4);(try clear c4b0);(try clear c4b1);(try clear c5);(try clear c5b0);(try clear c5b1);(try clear c6);(try clear p6);(try clear q6);(try clear hx6);(try clear qi6);(try clear p6);(try clear q6);obtain ⟨kq, x17_1, rfl, HA, HJ1, ⟨mc1, rfl⟩⟩:=hcut;obtain _|kj1:=kq
 ·exact absurd HA.out (by simp [gridhallref3_Named.j0])
 have H:=HA.out;clear HA;simp only [gridhallref3_Named.j0] at H
 by_cases c8 : x17_1 = true
 ·subst c8
  have H1 : (some false) = some r:=by rw [if_pos rfl] at H;exact H
  clear H;have H:=H1;clear H1;obtain rfl:=Option.some.inj H;go_wp2
  go_ret
  exact ⟨by first|rfl|(simp;done)|(simp [*];done), by repeat (first|exact Drawn0.refl _|apply Drawn0.step)⟩
 ·replace c8:=Bool.eq_false_iff.mpr c8
  subst c8;have H1 : (gridhallref3_Named.l0 kj1 a0 (a0.size : Int) 0) = some r:=by rw [if_neg (show ¬ (false = true) by decide)] at H;exact H
  clear H;have H:=H1;clear H1;have H':=k0_ H;clear H;go_wp2;(try simp only [Act.put, q1_,q3_,q2_])
  go_loopg [20] kj1 (fun kq v20 w'=>∃ (x20_2 : Int), v20 = .int .i64 x20_2∧Aside0 (gridhallref3_Named.l0 kq a0 (a0.size : Int) x20_2 = some r)∧Aside0 (kq ≤ kj1)∧Drawn0 w w')
  case atStart=>exact ⟨(0),rs_, H', ⟨Nat.le_refl _⟩, by repeat (first|exact Drawn0.refl _|apply Drawn0.step)⟩
  clear H';(try clear c1);(try clear p2);(try clear c3);(try clear c3b0);(try clear c3b1);(try clear c4);(try clear c4b0);(try clear c4b1);(try clear c5);(try clear c5b0);(try clear c5b1);(try clear c6);(try clear p6);(try clear q6);(try clear hx6);(try clear qi6);(try clear c8);(try clear p2);(try clear p6);(try clear q6);obtain ⟨x20_2, rfl, HA, HK2, ⟨m2, rfl⟩⟩:=hrel;obtain _|k2:=gk
  ·exact absurd HA.out (by simp [gridhallref3_Named.l0])
  have H:=HA.out;clear HA;simp only [gridhallref3_Named.l0] at H
  by_cases c9 : x20_2 < (a0.size : Int)
  ·rw [if_pos c9] at H
   have c9b0:=decide_eq_true c9;clear c9
   by_cases c10 : 0 ≤ x20_2
   rw [if_pos c10] at H;have c10b0:=decide_eq_true c10;clear c10
   focus
    by_cases c11 : x20_2 < (a0.size : Int)
    rw [if_pos c11] at H;have c11b0:=decide_eq_true c11;clear c11;replace H:=Option.bind_eq_some_iff.mp H;obtain ⟨t220, A130, H⟩:=H;replace H : (if t220 = true then (gridhallref3_Named.l0 k2 a0 (a0.size : Int) (wrap64 (x20_2 + 1))) else ((gridhallref3_In.f (wrap64 (bt a0 x20_2)) 48 57).bind fun t221=>(if t221 = true then (gridhallref3_Named.l0 k2 a0 (a0.size : Int) (wrap64 (x20_2 + 1))) else (some false)))) = some r:=H;have A13:=k0_ A130;clear A130
    focus
     by_cases c14 : t220 = true
     subst c14;have H1 : (gridhallref3_Named.l0 k2 a0 (a0.size : Int) (wrap64 (x20_2 + 1))) = some r:=by rw [if_pos rfl] at H;exact H
     clear H;have H:=H1;clear H1;have H':=k0_ H;clear H;rotate_left;replace c14:=Bool.eq_false_iff.mpr c14;subst c14;have H1 : ((gridhallref3_In.f (wrap64 (bt a0 x20_2)) 48 57).bind fun t221=>(if t221 = true then (gridhallref3_Named.l0 k2 a0 (a0.size : Int) (wrap64 (x20_2 + 1))) else (some false))) = some r:=by rw [if_neg (show ¬ (false = true) by decide)] at H;exact H
     clear H;have H:=H1;clear H1;replace H:=Option.bind_eq_some_iff.mp H;obtain ⟨t221, A160, H⟩:=H;replace H : (if t221 = true then (gridhallref3_Named.l0 k2 a0 (a0.size : Int) (wrap64 (x20_2 + 1))) else (some false)) = some r:=H;have A16:=k0_ A160;clear A160
     focus
      by_cases c17 : t221 = true
      subst c17;have H1 : (gridhallref3_Named.l0 k2 a0 (a0.size : Int) (wrap64 (x20_2 + 1))) = some r:=by rw [if_pos rfl] at H;exact H
      clear H;have H:=H1;clear H1;have H':=k0_ H;clear H;rotate_left;replace c17:=Bool.eq_false_iff.mpr c17;subst c17;have H1 : (some false) = some r:=by rw [if_neg (show ¬ (false = true) by decide)] at H;exact H
      clear H;have H:=H1;clear H1;obtain rfl:=Option.some.inj H;rotate_left
     rotate_left 2
    rotate_left 3;rw [if_neg c11] at H
    exact absurd H (by simp)
   rotate_left 3;rw [if_neg c10] at H
   exact absurd H (by simp)
   all_goals
    have p12 : 0 ≤ (x20_2 : Int):=of_decide_eq_true as_;have q12 : x20_2 < (a0.size : Int):=of_decide_eq_true as_;have hx12:=bt_at a0 x20_2;replace p12:=eq_true p12;replace q12:=eq_true q12
   ·go_wp2_with (first|((with_reducible refine gate_callee (f:=14) rfl ?_);refine goesL_ (some 27) rfl rfl Try.func14 (by kernel_rfl) rfl #[.int .i64 (wrap64 (bt a0 x20_2)), .int .i64 65, .int .i64 90] rfl mt_ ?_;(with_reducible refine (gridhallref3_In.calls (wrap64 (bt a0 x20_2)) 65 90 true _ A13.out).mono ?_);rintro e w' ⟨rfl, ⟨nd, rfl⟩⟩;refine ⟨_, rfl, ?_⟩))
    go_roundg k2
    case measure=>have:=HJ1.out;have:=HK2.out;omega
    case rel=>exact ⟨(wrap64 (x20_2 + 1)),rs_, H', ⟨by have:=HJ1.out;have:=HK2.out;omega⟩, by repeat (first|exact Drawn0.refl _|apply Drawn0.step)⟩
   ·go_wp2_with (first|((with_reducible refine gate_callee (f:=14) rfl ?_);refine goesL_ (some 27) rfl rfl Try.func14 (by kernel_rfl) rfl #[.int .i64 (wrap64 (bt a0 x20_2)), .int .i64 65, .int .i64 90] rfl mt_ ?_;(with_reducible refine (gridhallref3_In.calls (wrap64 (bt a0 x20_2)) 65 90 false _ A13.out).mono ?_);rintro e w' ⟨rfl, ⟨nd, rfl⟩⟩;refine ⟨_, rfl, ?_⟩;have p15 : 0 ≤ (x20_2 : Int):=of_decide_eq_true as_;have q15 : x20_2 < (a0.size : Int):=of_decide_eq_true as_;have hx15:=bt_at a0 x20_2;replace p15:=eq_true p15;replace q15:=eq_true q15)|(go_at_call 14;(with_reducible refine (gridhallref3_In.calls (wrap64 (bt a0 x20_2)) 48 57 true _ A16.out).mono ?_);rintro e w' ⟨rfl, ⟨nd, rfl⟩⟩))
    go_roundg k2
    case measure=>have:=HJ1.out;have:=HK2.out;omega
    case rel=>exact ⟨(wrap64 (x20_2 + 1)),rs_, H', ⟨by have:=HJ1.out;have:=HK2.out;omega⟩, by repeat (first|exact Drawn0.refl _|apply Drawn0.step)⟩
   ·go_wp2_with (first|((with_reducible refine gate_callee (f:=14) rfl ?_);refine goesL_ (some 27) rfl rfl Try.func14 (by kernel_rfl) rfl #[.int .i64 (wrap64 (bt a0 x20_2)), .int .i64 65, .int .i64 90] rfl mt_ ?_;(with_reducible refine (gridhallref3_In.calls (wrap64 (bt a0 x20_2)) 65 90 false _ A13.out).mono ?_);rintro e w' ⟨rfl, ⟨nd, rfl⟩⟩;refine ⟨_, rfl, ?_⟩;have p15 : 0 ≤ (x20_2 : Int):=of_decide_eq_true as_;have q15 : x20_2 < (a0.size : Int):=of_decide_eq_true as_;have hx15:=bt_at a0 x20_2;replace p15:=eq_true p15;replace q15:=eq_true q15)|(go_at_call 14;(with_reducible refine (gridhallref3_In.calls (wrap64 (bt a0 x20_2)) 48 57 false _ A16.out).mono ?_);rintro e w' ⟨rfl, ⟨nd, rfl⟩⟩))
    go_ret
    exact ⟨by first|rfl|(simp;done)|(simp [*];done), by repeat (first|exact Drawn0.refl _|apply Drawn0.step)⟩
  ·rw [if_neg c9] at H
   have c9b0:=decide_eq_false c9;clear c9;obtain rfl:=Option.some.inj H;go_wp2
   go_ret
   exact ⟨by first|rfl|(simp;done)|(simp [*];done), by repeat (first|exact Drawn0.refl _|apply Drawn0.step)⟩

/-! ### gridhallref3_RuleError: function 84 -/
def gridhallref3_RuleError.f (k : Nat) (a0_0 : ByteArray) (a0_1 : Int) (a0_2 : Int) (a0_3 : Int) (a0_4 : Int) (a0_5 : Int) (a0_6 : Int) (a0_7 : Int) : Option (Int) := (gridhallref3_Named.f k a0_0).bind fun t223 => (if t223 = true then ((gridhallref3_In.f a0_1 0 a0_2).bind fun t224 => (if t224 = true then (if a0_2 ≤ 100000 then ((gridhallref3_In.f a0_3 1 100000).bind fun t225 => (if t225 = true then ((gridhallref3_In.f a0_4 1 100000).bind fun t226 => (if t226 = true then ((gridhallref3_In.f a0_5 1 24).bind fun t227 => (if t227 = true then ((gridhallref3_In.f a0_6 1 24).bind fun t228 => (if t228 = true then ((gridhallref3_In.f a0_7 0 1000000).bind fun t229 => (if t229 = true then (some 0) else (some 4))) else (some 4))) else (some 4))) else (some 4))) else (some 4))) else (some 4)) else (some 4))) else (some 6))
theorem gridhallref3_RuleError.mono : ∀ a0 a1 a2 a3 a4 a5 a6 a7 k, LeO (gridhallref3_RuleError.f k a0 a1 a2 a3 a4 a5 a6 a7) (gridhallref3_RuleError.f (k + 1) a0 a1 a2 a3 a4 a5 a6 a7) := by
 intro a0 a1 a2 a3 a4 a5 a6 a7 k
 unfold gridhallref3_RuleError.f
 repeat' first|(with_reducible first|exact gridhallref3_Named.mono _ _|exact LeO.refl _|exact LeO.none _|refine LeO.ite ?_ ?_|refine LeO.bind ?_ (fun _=>?_))|exact gridhallref3_Named.mono _ _|exact LeO.none _|refine LeO.ite ?_ ?_|refine LeO.bind ?_ (fun _=>?_)
set_option maxHeartbeats 8000000 in
set_option maxRecDepth 100000 in
theorem gridhallref3_RuleError.calls (k : Nat) (a0_0 : ByteArray) (a0_1 : Int) (a0_2 : Int) (a0_3 : Int) (a0_4 : Int) (a0_5 : Int) (a0_6 : Int) (a0_7 : Int) (r : Int) (w : World) (h : gridhallref3_RuleError.f k a0_0 a0_1 a0_2 a0_3 a0_4 a0_5 a0_6 a0_7 = some r) :
  Calls Try.prog 84 #[.agg #[.string a0_0, .int .i64 a0_1, .int .i64 a0_2, .int .i64 a0_3, .int .i64 a0_4, .int .i64 a0_5, .int .i64 a0_6, .int .i64 a0_7]] w fun e w' => e = .returned (.int .i64 r) ∧ Below w.heap.size w w' := by
 have hu23:=Try.underlying23;have HB:=k0_ (Below.refl w.heap.size w);have H : ((gridhallref3_Named.f k a0_0).bind fun t223=>(if t223 = true then ((gridhallref3_In.f a0_1 0 a0_2).bind fun t224=>(if t224 = true then (if a0_2 ≤ 100000 then ((gridhallref3_In.f a0_3 1 100000).bind fun t225=>(if t225 = true then ((gridhallref3_In.f a0_4 1 100000).bind fun t226=>(if t226 = true then ((gridhallref3_In.f a0_5 1 24).bind fun t227=>(if t227 = true then ((gridhallref3_In.f a0_6 1 24).bind fun t228=>(if t228 = true then ((gridhallref3_In.f a0_7 0 1000000).bind fun t229=>(if t229 = true then (some 0) else (some 4))) else (some 4))) else (some 4))) else (some 4))) else (some 4))) else (some 4)) else (some 4))) else (some 6))) = some r:=h;clear h;replace H:=Option.bind_eq_some_iff.mp H;obtain ⟨t223, A20, H⟩:=H;replace H : (if t223 = true then ((gridhallref3_In.f a0_1 0 a0_2).bind fun t224=>(if t224 = true then (if a0_2 ≤ 100000 then ((gridhallref3_In.f a0_3 1 100000).bind fun t225=>(if t225 = true then ((gridhallref3_In.f a0_4 1 100000).bind fun t226=>(if t226 = true then ((gridhallref3_In.f a0_5 1 24).bind fun t227=>(if t227 = true then ((gridhallref3_In.f a0_6 1 24).bind fun t228=>(if t228 = true then ((gridhallref3_In.f a0_7 0 1000000).bind fun t229=>(if t229 = true then (some 0) else (some 4))) else (some 4))) else (some 4))) else (some 4))) else (some 4))) else (some 4)) else (some 4))) else (some 6)) = some r:=H;have A2:=k0_ A20;clear A20
 by_cases c3 : t223 = true
 ·subst c3
  have H1 : ((gridhallref3_In.f a0_1 0 a0_2).bind fun t224=>(if t224 = true then (if a0_2 ≤ 100000 then ((gridhallref3_In.f a0_3 1 100000).bind fun t225=>(if t225 = true then ((gridhallref3_In.f a0_4 1 100000).bind fun t226=>(if t226 = true then ((gridhallref3_In.f a0_5 1 24).bind fun t227=>(if t227 = true then ((gridhallref3_In.f a0_6 1 24).bind fun t228=>(if t228 = true then ((gridhallref3_In.f a0_7 0 1000000).bind fun t229=>(if t229 = true then (some 0) else (some 4))) else (some 4))) else (some 4))) else (some 4))) else (some 4))) else (some 4)) else (some 4))) = some r:=by rw [if_pos rfl] at H;exact H
  clear H;have H:=H1;clear H1;replace H:=Option.bind_eq_some_iff.mp H;obtain ⟨t224, A40, H⟩:=H;replace H : (if t224 = true then (if a0_2 ≤ 100000 then ((gridhallref3_In.f a0_3 1 100000).bind fun t225=>(if t225 = true then ((gridhallref3_In.f a0_4 1 100000).bind fun t226=>(if t226 = true then ((gridhallref3_In.f a0_5 1 24).bind fun t227=>(if t227 = true then ((gridhallref3_In.f a0_6 1 24).bind fun t228=>(if t228 = true then ((gridhallref3_In.f a0_7 0 1000000).bind fun t229=>(if t229 = true then (some 0) else (some 4))) else (some 4))) else (some 4))) else (some 4))) else (some 4))) else (some 4)) else (some 4)) = some r:=H;have A4:=k0_ A40;clear A40
  by_cases c5 : t224 = true
  ·subst c5
   have H1 : (if a0_2 ≤ 100000 then ((gridhallref3_In.f a0_3 1 100000).bind fun t225=>(if t225 = true then ((gridhallref3_In.f a0_4 1 100000).bind fun t226=>(if t226 = true then ((gridhallref3_In.f a0_5 1 24).bind fun t227=>(if t227 = true then ((gridhallref3_In.f a0_6 1 24).bind fun t228=>(if t228 = true then ((gridhallref3_In.f a0_7 0 1000000).bind fun t229=>(if t229 = true then (some 0) else (some 4))) else (some 4))) else (some 4))) else (some 4))) else (some 4))) else (some 4)) = some r:=by rw [if_pos rfl] at H;exact H
   clear H;have H:=H1;clear H1
   by_cases c6 : a0_2 ≤ 100000
   ·rw [if_pos c6] at H
    have c6b0:=decide_eq_true c6;clear c6;replace H:=Option.bind_eq_some_iff.mp H;obtain ⟨t225, A70, H⟩:=H;replace H : (if t225 = true then ((gridhallref3_In.f a0_4 1 100000).bind fun t226=>(if t226 = true then ((gridhallref3_In.f a0_5 1 24).bind fun t227=>(if t227 = true then ((gridhallref3_In.f a0_6 1 24).bind fun t228=>(if t228 = true then ((gridhallref3_In.f a0_7 0 1000000).bind fun t229=>(if t229 = true then (some 0) else (some 4))) else (some 4))) else (some 4))) else (some 4))) else (some 4)) = some r:=H;have A7:=k0_ A70;clear A70
    by_cases c8 : t225 = true
    ·subst c8
     have H1 : ((gridhallref3_In.f a0_4 1 100000).bind fun t226=>(if t226 = true then ((gridhallref3_In.f a0_5 1 24).bind fun t227=>(if t227 = true then ((gridhallref3_In.f a0_6 1 24).bind fun t228=>(if t228 = true then ((gridhallref3_In.f a0_7 0 1000000).bind fun t229=>(if t229 = true then (some 0) else (some 4))) else (some 4))) else (some 4))) else (some 4))) = some r:=by rw [if_pos rfl] at H;exact H
     clear H;have H:=H1;clear H1;replace H:=Option.bind_eq_some_iff.mp H;obtain ⟨t226, A90, H⟩:=H;replace H : (if t226 = true then ((gridhallref3_In.f a0_5 1 24).bind fun t227=>(if t227 = true then ((gridhallref3_In.f a0_6 1 24).bind fun t228=>(if t228 = true then ((gridhallref3_In.f a0_7 0 1000000).bind fun t229=>(if t229 = true then (some 0) else (some 4))) else (some 4))) else (some 4))) else (some 4)) = some r:=H;have A9:=k0_ A90;clear A90
     by_cases c10 : t226 = true
     ·subst c10
      have H1 : ((gridhallref3_In.f a0_5 1 24).bind fun t227=>(if t227 = true then ((gridhallref3_In.f a0_6 1 24).bind fun t228=>(if t228 = true then ((gridhallref3_In.f a0_7 0 1000000).bind fun t229=>(if t229 = true then (some 0) else (some 4))) else (some 4))) else (some 4))) = some r:=by rw [if_pos rfl] at H;exact H
      clear H;have H:=H1;clear H1;replace H:=Option.bind_eq_some_iff.mp H;obtain ⟨t227, A110, H⟩:=H;replace H : (if t227 = true then ((gridhallref3_In.f a0_6 1 24).bind fun t228=>(if t228 = true then ((gridhallref3_In.f a0_7 0 1000000).bind fun t229=>(if t229 = true then (some 0) else (some 4))) else (some 4))) else (some 4)) = some r:=H;have A11:=k0_ A110;clear A110
      by_cases c12 : t227 = true
      ·subst c12
       have H1 : ((gridhallref3_In.f a0_6 1 24).bind fun t228=>(if t228 = true then ((gridhallref3_In.f a0_7 0 1000000).bind fun t229=>(if t229 = true then (some 0) else (some 4))) else (some 4))) = some r:=by rw [if_pos rfl] at H;exact H
       clear H;have H:=H1;clear H1;replace H:=Option.bind_eq_some_iff.mp H;obtain ⟨t228, A130, H⟩:=H;replace H : (if t228 = true then ((gridhallref3_In.f a0_7 0 1000000).bind fun t229=>(if t229 = true then (some 0) else (some 4))) else (some 4)) = some r:=H;have A13:=k0_ A130;clear A130
       by_cases c14 : t228 = true
       ·subst c14
        have H1 : ((gridhallref3_In.f a0_7 0 1000000).bind fun t229=>(if t229 = true then (some 0) else (some 4))) = some r:=by rw [if_pos rfl] at H;exact H
        clear H;have H:=H1;clear H1;replace H:=Option.bind_eq_some_iff.mp H;obtain ⟨t229, A150, H⟩:=H;replace H : (if t229 = true then (some 0) else (some 4)) = some r:=H;have A15:=k0_ A150;clear A150
        by_cases c16 : t229 = true
        ·subst c16
         have H1 : (some 0) = some r:=by rw [if_pos rfl] at H;exact H
         clear H;have H:=H1;clear H1;obtain rfl:=Option.some.inj H
         go_enter Try.func84, Try.ntmps84
         go_wp2_with (first|((with_reducible refine gate_dst (N:=1) rfl ?_);refine box_event ?hg (N:=1) ?hd (cs:=#[.string a0_0, .int .i64 a0_1, .int .i64 a0_2, .int .i64 a0_3, .int .i64 a0_4, .int .i64 a0_5, .int .i64 a0_6, .int .i64 a0_7]) (t:=23) ?hr ?_;(case hd=>rfl);(case hg=>rfl);(case hr=>first|(go_simp;done)|(go_simp;rfl));intro gb222 hg w17 hbox hb;have BK222:=k0_ (hbox);have GW222:=k0_ ((by rw [hg];exact (below_size (hb0_ HB.out)) : w.heap.size ≤ gb222));have GE222:=k0_ ((by rw [hg];exact (below_size (hb0_ HB.out)) : w.heap.size ≤ gb222));replace HB:=k0_ (below_step (hb0_ HB.out) hb);clear hb hbox hg;obtain ⟨hcz18_0,hcz18_1,hcz18_2,hcz18_3,hcz18_4,hcz18_5,hcz18_6,hcz18_7⟩:=bc8_ BK222.out;obtain ⟨hfz18_0,hfz18_1,hfz18_2,hfz18_3,hfz18_4,hfz18_5,hfz18_6,hfz18_7⟩:=bf8_ BK222.out)|((with_reducible refine gate_callee (f:=65) rfl ?_);refine goesL_ (some 6) rfl rfl Try.func65 (by kernel_rfl) rfl #[.string a0_0] rfl mt_ ?_;(with_reducible refine (gridhallref3_Named.calls k a0_0 true _ A2.out).mono ?_);rintro e w' ⟨rfl, ⟨nd, rfl⟩⟩;refine ⟨_, rfl, ?_⟩)|((with_reducible refine gate_callee (f:=14) rfl ?_);refine goesL_ (some 12) rfl rfl Try.func14 (by kernel_rfl) rfl #[.int .i64 a0_1, .int .i64 0, .int .i64 a0_2] rfl mt_ ?_;(with_reducible refine (gridhallref3_In.calls a0_1 0 a0_2 true _ A4.out).mono ?_);rintro e w' ⟨rfl, ⟨nd, rfl⟩⟩;refine ⟨_, rfl, ?_⟩)|(go_at_call 14;(with_reducible refine (gridhallref3_In.calls a0_3 1 100000 true _ A7.out).mono ?_);rintro e w' ⟨rfl, ⟨nd, rfl⟩⟩)|(go_at_call 14;(with_reducible refine (gridhallref3_In.calls a0_4 1 100000 true _ A9.out).mono ?_);rintro e w' ⟨rfl, ⟨nd, rfl⟩⟩)|(go_at_call 14;(with_reducible refine (gridhallref3_In.calls a0_5 1 24 true _ A11.out).mono ?_);rintro e w' ⟨rfl, ⟨nd, rfl⟩⟩)|(go_at_call 14;(with_reducible refine (gridhallref3_In.calls a0_6 1 24 true _ A13.out).mono ?_);rintro e w' ⟨rfl, ⟨nd, rfl⟩⟩)|(go_at_call 14;(with_reducible refine (gridhallref3_In.calls a0_7 0 1000000 true _ A15.out).mono ?_);rintro e w' ⟨rfl, ⟨nd, rfl⟩⟩))
         go_ret
         exact ⟨er_, hb1_ HB.out GE222.out⟩
        ·replace c16:=Bool.eq_false_iff.mpr c16
         subst c16;have H1 : (some 4) = some r:=by rw [if_neg (show ¬ (false = true) by decide)] at H;exact H
         clear H;have H:=H1;clear H1;obtain rfl:=Option.some.inj H
         go_enter Try.func84, Try.ntmps84
         go_wp2_with (first|((with_reducible refine gate_dst (N:=1) rfl ?_);refine box_event ?hg (N:=1) ?hd (cs:=#[.string a0_0, .int .i64 a0_1, .int .i64 a0_2, .int .i64 a0_3, .int .i64 a0_4, .int .i64 a0_5, .int .i64 a0_6, .int .i64 a0_7]) (t:=23) ?hr ?_;(case hd=>rfl);(case hg=>rfl);(case hr=>first|(go_simp;done)|(go_simp;rfl));intro gb222 hg w19 hbox hb;have BK222:=k0_ (hbox);have GW222:=k0_ ((by rw [hg];exact (below_size (hb0_ HB.out)) : w.heap.size ≤ gb222));have GE222:=k0_ ((by rw [hg];exact (below_size (hb0_ HB.out)) : w.heap.size ≤ gb222));replace HB:=k0_ (below_step (hb0_ HB.out) hb);clear hb hbox hg;obtain ⟨hcz20_0,hcz20_1,hcz20_2,hcz20_3,hcz20_4,hcz20_5,hcz20_6,hcz20_7⟩:=bc8_ BK222.out;obtain ⟨hfz20_0,hfz20_1,hfz20_2,hfz20_3,hfz20_4,hfz20_5,hfz20_6,hfz20_7⟩:=bf8_ BK222.out)|((with_reducible refine gate_callee (f:=65) rfl ?_);refine goesL_ (some 6) rfl rfl Try.func65 (by kernel_rfl) rfl #[.string a0_0] rfl mt_ ?_;(with_reducible refine (gridhallref3_Named.calls k a0_0 true _ A2.out).mono ?_);rintro e w' ⟨rfl, ⟨nd, rfl⟩⟩;refine ⟨_, rfl, ?_⟩)|((with_reducible refine gate_callee (f:=14) rfl ?_);refine goesL_ (some 12) rfl rfl Try.func14 (by kernel_rfl) rfl #[.int .i64 a0_1, .int .i64 0, .int .i64 a0_2] rfl mt_ ?_;(with_reducible refine (gridhallref3_In.calls a0_1 0 a0_2 true _ A4.out).mono ?_);rintro e w' ⟨rfl, ⟨nd, rfl⟩⟩;refine ⟨_, rfl, ?_⟩)|(go_at_call 14;(with_reducible refine (gridhallref3_In.calls a0_3 1 100000 true _ A7.out).mono ?_);rintro e w' ⟨rfl, ⟨nd, rfl⟩⟩)|(go_at_call 14;(with_reducible refine (gridhallref3_In.calls a0_4 1 100000 true _ A9.out).mono ?_);rintro e w' ⟨rfl, ⟨nd, rfl⟩⟩)|(go_at_call 14;(with_reducible refine (gridhallref3_In.calls a0_5 1 24 true _ A11.out).mono ?_);rintro e w' ⟨rfl, ⟨nd, rfl⟩⟩)|(go_at_call 14;(with_reducible refine (gridhallref3_In.calls a0_6 1 24 true _ A13.out).mono ?_);rintro e w' ⟨rfl, ⟨nd, rfl⟩⟩)|(go_at_call 14;(with_reducible refine (gridhallref3_In.calls a0_7 0 1000000 false _ A15.out).mono ?_);rintro e w' ⟨rfl, ⟨nd, rfl⟩⟩))
         go_ret
         exact ⟨er_, hb1_ HB.out GE222.out⟩
       ·replace c14:=Bool.eq_false_iff.mpr c14
        subst c14;have H1 : (some 4) = some r:=by rw [if_neg (show ¬ (false = true) by decide)] at H;exact H
        clear H;have H:=H1;clear H1;obtain rfl:=Option.some.inj H
        go_enter Try.func84, Try.ntmps84
        go_wp2_with (first|((with_reducible refine gate_dst (N:=1) rfl ?_);refine box_event ?hg (N:=1) ?hd (cs:=#[.string a0_0, .int .i64 a0_1, .int .i64 a0_2, .int .i64 a0_3, .int .i64 a0_4, .int .i64 a0_5, .int .i64 a0_6, .int .i64 a0_7]) (t:=23) ?hr ?_;(case hd=>rfl);(case hg=>rfl);(case hr=>first|(go_simp;done)|(go_simp;rfl));intro gb222 hg w21 hbox hb;have BK222:=k0_ (hbox);have GW222:=k0_ ((by rw [hg];exact (below_size (hb0_ HB.out)) : w.heap.size ≤ gb222));have GE222:=k0_ ((by rw [hg];exact (below_size (hb0_ HB.out)) : w.heap.size ≤ gb222));replace HB:=k0_ (below_step (hb0_ HB.out) hb);clear hb hbox hg;obtain ⟨hcz22_0,hcz22_1,hcz22_2,hcz22_3,hcz22_4,hcz22_5,hcz22_6,hcz22_7⟩:=bc8_ BK222.out;obtain ⟨hfz22_0,hfz22_1,hfz22_2,hfz22_3,hfz22_4,hfz22_5,hfz22_6,hfz22_7⟩:=bf8_ BK222.out)|((with_reducible refine gate_callee (f:=65) rfl ?_);refine goesL_ (some 6) rfl rfl Try.func65 (by kernel_rfl) rfl #[.string a0_0] rfl mt_ ?_;(with_reducible refine (gridhallref3_Named.calls k a0_0 true _ A2.out).mono ?_);rintro e w' ⟨rfl, ⟨nd, rfl⟩⟩;refine ⟨_, rfl, ?_⟩)|((with_reducible refine gate_callee (f:=14) rfl ?_);refine goesL_ (some 12) rfl rfl Try.func14 (by kernel_rfl) rfl #[.int .i64 a0_1, .int .i64 0, .int .i64 a0_2] rfl mt_ ?_;(with_reducible refine (gridhallref3_In.calls a0_1 0 a0_2 true _ A4.out).mono ?_);rintro e w' ⟨rfl, ⟨nd, rfl⟩⟩;refine ⟨_, rfl, ?_⟩)|(go_at_call 14;(with_reducible refine (gridhallref3_In.calls a0_3 1 100000 true _ A7.out).mono ?_);rintro e w' ⟨rfl, ⟨nd, rfl⟩⟩)|(go_at_call 14;(with_reducible refine (gridhallref3_In.calls a0_4 1 100000 true _ A9.out).mono ?_);rintro e w' ⟨rfl, ⟨nd, rfl⟩⟩)|(go_at_call 14;(with_reducible refine (gridhallref3_In.calls a0_5 1 24 true _ A11.out).mono ?_);rintro e w' ⟨rfl, ⟨nd, rfl⟩⟩)|(go_at_call 14;(with_reducible refine (gridhallref3_In.calls a0_6 1 24 false _ A13.out).mono ?_);rintro e w' ⟨rfl, ⟨nd, rfl⟩⟩))
        go_ret
        exact ⟨er_, hb1_ HB.out GE222.out⟩
      ·replace c12:=Bool.eq_false_iff.mpr c12
       subst c12;have H1 : (some 4) = some r:=by rw [if_neg (show ¬ (false = true) by decide)] at H;exact H
       clear H;have H:=H1;clear H1;obtain rfl:=Option.some.inj H
       go_enter Try.func84, Try.ntmps84
       go_wp2_with (first|((with_reducible refine gate_dst (N:=1) rfl ?_);refine box_event ?hg (N:=1) ?hd (cs:=#[.string a0_0, .int .i64 a0_1, .int .i64 a0_2, .int .i64 a0_3, .int .i64 a0_4, .int .i64 a0_5, .int .i64 a0_6, .int .i64 a0_7]) (t:=23) ?hr ?_;(case hd=>rfl);(case hg=>rfl);(case hr=>first|(go_simp;done)|(go_simp;rfl));intro gb222 hg w23 hbox hb;have BK222:=k0_ (hbox);have GW222:=k0_ ((by rw [hg];exact (below_size (hb0_ HB.out)) : w.heap.size ≤ gb222));have GE222:=k0_ ((by rw [hg];exact (below_size (hb0_ HB.out)) : w.heap.size ≤ gb222));replace HB:=k0_ (below_step (hb0_ HB.out) hb);clear hb hbox hg;obtain ⟨hcz24_0,hcz24_1,hcz24_2,hcz24_3,hcz24_4,hcz24_5,hcz24_6,hcz24_7⟩:=bc8_ BK222.out;obtain ⟨hfz24_0,hfz24_1,hfz24_2,hfz24_3,hfz24_4,hfz24_5,hfz24_6,hfz24_7⟩:=bf8_ BK222.out)|((with_reducible refine gate_callee (f:=65) rfl ?_);refine goesL_ (some 6) rfl rfl Try.func65 (by kernel_rfl) rfl #[.string a0_0] rfl mt_ ?_;(with_reducible refine (gridhallref3_Named.calls k a0_0 true _ A2.out).mono ?_);rintro e w' ⟨rfl, ⟨nd, rfl⟩⟩;refine ⟨_, rfl, ?_⟩)|((with_reducible refine gate_callee (f:=14) rfl ?_);refine goesL_ (some 12) rfl rfl Try.func14 (by kernel_rfl) rfl #[.int .i64 a0_1, .int .i64 0, .int .i64 a0_2] rfl mt_ ?_;(with_reducible refine (gridhallref3_In.calls a0_1 0 a0_2 true _ A4.out).mono ?_);rintro e w' ⟨rfl, ⟨nd, rfl⟩⟩;refine ⟨_, rfl, ?_⟩)|(go_at_call 14;(with_reducible refine (gridhallref3_In.calls a0_3 1 100000 true _ A7.out).mono ?_);rintro e w' ⟨rfl, ⟨nd, rfl⟩⟩)|(go_at_call 14;(with_reducible refine (gridhallref3_In.calls a0_4 1 100000 true _ A9.out).mono ?_);rintro e w' ⟨rfl, ⟨nd, rfl⟩⟩)|(go_at_call 14;(with_reducible refine (gridhallref3_In.calls a0_5 1 24 false _ A11.out).mono ?_);rintro e w' ⟨rfl, ⟨nd, rfl⟩⟩))
       go_ret
       exact ⟨er_, hb1_ HB.out GE222.out⟩
     ·replace c10:=Bool.eq_false_iff.mpr c10
      subst c10;have H1 : (some 4) = some r:=by rw [if_neg (show ¬ (false = true) by decide)] at H;exact H
      clear H;have H:=H1;clear H1;obtain rfl:=Option.some.inj H
      go_enter Try.func84, Try.ntmps84
      go_wp2_with (first|((with_reducible refine gate_dst (N:=1) rfl ?_);refine box_event ?hg (N:=1) ?hd (cs:=#[.string a0_0, .int .i64 a0_1, .int .i64 a0_2, .int .i64 a0_3, .int .i64 a0_4, .int .i64 a0_5, .int .i64 a0_6, .int .i64 a0_7]) (t:=23) ?hr ?_;(case hd=>rfl);(case hg=>rfl);(case hr=>first|(go_simp;done)|(go_simp;rfl));intro gb222 hg w25 hbox hb;have BK222:=k0_ (hbox);have GW222:=k0_ ((by rw [hg];exact (below_size (hb0_ HB.out)) : w.heap.size ≤ gb222));have GE222:=k0_ ((by rw [hg];exact (below_size (hb0_ HB.out)) : w.heap.size ≤ gb222));replace HB:=k0_ (below_step (hb0_ HB.out) hb);clear hb hbox hg;obtain ⟨hcz26_0,hcz26_1,hcz26_2,hcz26_3,hcz26_4,hcz26_5,hcz26_6,hcz26_7⟩:=bc8_ BK222.out;obtain ⟨hfz26_0,hfz26_1,hfz26_2,hfz26_3,hfz26_4,hfz26_5,hfz26_6,hfz26_7⟩:=bf8_ BK222.out)|((with_reducible refine gate_callee (f:=65) rfl ?_);refine goesL_ (some 6) rfl rfl Try.func65 (by kernel_rfl) rfl #[.string a0_0] rfl mt_ ?_;(with_reducible refine (gridhallref3_Named.calls k a0_0 true _ A2.out).mono ?_);rintro e w' ⟨rfl, ⟨nd, rfl⟩⟩;refine ⟨_, rfl, ?_⟩)|((with_reducible refine gate_callee (f:=14) rfl ?_);refine goesL_ (some 12) rfl rfl Try.func14 (by kernel_rfl) rfl #[.int .i64 a0_1, .int .i64 0, .int .i64 a0_2] rfl mt_ ?_;(with_reducible refine (gridhallref3_In.calls a0_1 0 a0_2 true _ A4.out).mono ?_);rintro e w' ⟨rfl, ⟨nd, rfl⟩⟩;refine ⟨_, rfl, ?_⟩)|(go_at_call 14;(with_reducible refine (gridhallref3_In.calls a0_3 1 100000 true _ A7.out).mono ?_);rintro e w' ⟨rfl, ⟨nd, rfl⟩⟩)|(go_at_call 14;(with_reducible refine (gridhallref3_In.calls a0_4 1 100000 false _ A9.out).mono ?_);rintro e w' ⟨rfl, ⟨nd, rfl⟩⟩))
      go_ret
      exact ⟨er_, hb1_ HB.out GE222.out⟩
    ·replace c8:=Bool.eq_false_iff.mpr c8
     subst c8;have H1 : (some 4) = some r:=by rw [if_neg (show ¬ (false = true) by decide)] at H;exact H
     clear H;have H:=H1;clear H1;obtain rfl:=Option.some.inj H
     go_enter Try.func84, Try.ntmps84
     go_wp2_with (first|((with_reducible refine gate_dst (N:=1) rfl ?_);refine box_event ?hg (N:=1) ?hd (cs:=#[.string a0_0, .int .i64 a0_1, .int .i64 a0_2, .int .i64 a0_3, .int .i64 a0_4, .int .i64 a0_5, .int .i64 a0_6, .int .i64 a0_7]) (t:=23) ?hr ?_;(case hd=>rfl);(case hg=>rfl);(case hr=>first|(go_simp;done)|(go_simp;rfl));intro gb222 hg w27 hbox hb;have BK222:=k0_ (hbox);have GW222:=k0_ ((by rw [hg];exact (below_size (hb0_ HB.out)) : w.heap.size ≤ gb222));have GE222:=k0_ ((by rw [hg];exact (below_size (hb0_ HB.out)) : w.heap.size ≤ gb222));replace HB:=k0_ (below_step (hb0_ HB.out) hb);clear hb hbox hg;obtain ⟨hcz28_0,hcz28_1,hcz28_2,hcz28_3,hcz28_4,hcz28_5,hcz28_6,hcz28_7⟩:=bc8_ BK222.out;obtain ⟨hfz28_0,hfz28_1,hfz28_2,hfz28_3,hfz28_4,hfz28_5,hfz28_6,hfz28_7⟩:=bf8_ BK222.out)|((with_reducible refine gate_callee (f:=65) rfl ?_);refine goesL_ (some 6) rfl rfl Try.func65 (by kernel_rfl) rfl #[.string a0_0] rfl mt_ ?_;(with_reducible refine (gridhallref3_Named.calls k a0_0 true _ A2.out).mono ?_);rintro e w' ⟨rfl, ⟨nd, rfl⟩⟩;refine ⟨_, rfl, ?_⟩)|((with_reducible refine gate_callee (f:=14) rfl ?_);refine goesL_ (some 12) rfl rfl Try.func14 (by kernel_rfl) rfl #[.int .i64 a0_1, .int .i64 0, .int .i64 a0_2] rfl mt_ ?_;(with_reducible refine (gridhallref3_In.calls a0_1 0 a0_2 true _ A4.out).mono ?_);rintro e w' ⟨rfl, ⟨nd, rfl⟩⟩;refine ⟨_, rfl, ?_⟩)|(go_at_call 14;(with_reducible refine (gridhallref3_In.calls a0_3 1 100000 false _ A7.out).mono ?_);rintro e w' ⟨rfl, ⟨nd, rfl⟩⟩))
     go_ret
     exact ⟨er_, hb1_ HB.out GE222.out⟩
   ·rw [if_neg c6] at H
    have c6b0:=decide_eq_false c6;clear c6;obtain rfl:=Option.some.inj H
    go_enter Try.func84, Try.ntmps84
    go_wp2_with (first|((with_reducible refine gate_dst (N:=1) rfl ?_);refine box_event ?hg (N:=1) ?hd (cs:=#[.string a0_0, .int .i64 a0_1, .int .i64 a0_2, .int .i64 a0_3, .int .i64 a0_4, .int .i64 a0_5, .int .i64 a0_6, .int .i64 a0_7]) (t:=23) ?hr ?_;(case hd=>rfl);(case hg=>rfl);(case hr=>first|(go_simp;done)|(go_simp;rfl));intro gb222 hg w29 hbox hb;have BK222:=k0_ (hbox);have GW222:=k0_ ((by rw [hg];exact (below_size (hb0_ HB.out)) : w.heap.size ≤ gb222));have GE222:=k0_ ((by rw [hg];exact (below_size (hb0_ HB.out)) : w.heap.size ≤ gb222));replace HB:=k0_ (below_step (hb0_ HB.out) hb);clear hb hbox hg;obtain ⟨hcz30_0,hcz30_1,hcz30_2,hcz30_3,hcz30_4,hcz30_5,hcz30_6,hcz30_7⟩:=bc8_ BK222.out;obtain ⟨hfz30_0,hfz30_1,hfz30_2,hfz30_3,hfz30_4,hfz30_5,hfz30_6,hfz30_7⟩:=bf8_ BK222.out)|((with_reducible refine gate_callee (f:=65) rfl ?_);refine goesL_ (some 6) rfl rfl Try.func65 (by kernel_rfl) rfl #[.string a0_0] rfl mt_ ?_;(with_reducible refine (gridhallref3_Named.calls k a0_0 true _ A2.out).mono ?_);rintro e w' ⟨rfl, ⟨nd, rfl⟩⟩;refine ⟨_, rfl, ?_⟩)|((with_reducible refine gate_callee (f:=14) rfl ?_);refine goesL_ (some 12) rfl rfl Try.func14 (by kernel_rfl) rfl #[.int .i64 a0_1, .int .i64 0, .int .i64 a0_2] rfl mt_ ?_;(with_reducible refine (gridhallref3_In.calls a0_1 0 a0_2 true _ A4.out).mono ?_);rintro e w' ⟨rfl, ⟨nd, rfl⟩⟩;refine ⟨_, rfl, ?_⟩))
    go_ret
    exact ⟨er_, hb1_ HB.out GE222.out⟩
  ·replace c5:=Bool.eq_false_iff.mpr c5
   subst c5;have H1 : (some 4) = some r:=by rw [if_neg (show ¬ (false = true) by decide)] at H;exact H
   clear H;have H:=H1;clear H1;obtain rfl:=Option.some.inj H
   go_enter Try.func84, Try.ntmps84
   go_wp2_with (first|((with_reducible refine gate_dst (N:=1) rfl ?_);refine box_event ?hg (N:=1) ?hd (cs:=#[.string a0_0, .int .i64 a0_1, .int .i64 a0_2, .int .i64 a0_3, .int .i64 a0_4, .int .i64 a0_5, .int .i64 a0_6, .int .i64 a0_7]) (t:=23) ?hr ?_;(case hd=>rfl);(case hg=>rfl);(case hr=>first|(go_simp;done)|(go_simp;rfl));intro gb222 hg w31 hbox hb;have BK222:=k0_ (hbox);have GW222:=k0_ ((by rw [hg];exact (below_size (hb0_ HB.out)) : w.heap.size ≤ gb222));have GE222:=k0_ ((by rw [hg];exact (below_size (hb0_ HB.out)) : w.heap.size ≤ gb222));replace HB:=k0_ (below_step (hb0_ HB.out) hb);clear hb hbox hg;obtain ⟨hcz32_0,hcz32_1,hcz32_2,hcz32_3,hcz32_4,hcz32_5,hcz32_6,hcz32_7⟩:=bc8_ BK222.out;obtain ⟨hfz32_0,hfz32_1,hfz32_2,hfz32_3,hfz32_4,hfz32_5,hfz32_6,hfz32_7⟩:=bf8_ BK222.out)|((with_reducible refine gate_callee (f:=65) rfl ?_);refine goesL_ (some 6) rfl rfl Try.func65 (by kernel_rfl) rfl #[.string a0_0] rfl mt_ ?_;(with_reducible refine (gridhallref3_Named.calls k a0_0 true _ A2.out).mono ?_);rintro e w' ⟨rfl, ⟨nd, rfl⟩⟩;refine ⟨_, rfl, ?_⟩)|((with_reducible refine gate_callee (f:=14) rfl ?_);refine goesL_ (some 12) rfl rfl Try.func14 (by kernel_rfl) rfl #[.int .i64 a0_1, .int .i64 0, .int .i64 a0_2] rfl mt_ ?_;(with_reducible refine (gridhallref3_In.calls a0_1 0 a0_2 false _ A4.out).mono ?_);rintro e w' ⟨rfl, ⟨nd, rfl⟩⟩;refine ⟨_, rfl, ?_⟩))
   go_ret
   exact ⟨er_, hb1_ HB.out GE222.out⟩
 ·replace c3:=Bool.eq_false_iff.mpr c3
  subst c3;have H1 : (some 6) = some r:=by rw [if_neg (show ¬ (false = true) by decide)] at H;exact H
  clear H;have H:=H1;clear H1;obtain rfl:=Option.some.inj H
  go_enter Try.func84, Try.ntmps84
  go_wp2_with (first|((with_reducible refine gate_dst (N:=1) rfl ?_);refine box_event ?hg (N:=1) ?hd (cs:=#[.string a0_0, .int .i64 a0_1, .int .i64 a0_2, .int .i64 a0_3, .int .i64 a0_4, .int .i64 a0_5, .int .i64 a0_6, .int .i64 a0_7]) (t:=23) ?hr ?_;(case hd=>rfl);(case hg=>rfl);(case hr=>first|(go_simp;done)|(go_simp;rfl));intro gb222 hg w33 hbox hb;have BK222:=k0_ (hbox);have GW222:=k0_ ((by rw [hg];exact (below_size (hb0_ HB.out)) : w.heap.size ≤ gb222));have GE222:=k0_ ((by rw [hg];exact (below_size (hb0_ HB.out)) : w.heap.size ≤ gb222));replace HB:=k0_ (below_step (hb0_ HB.out) hb);clear hb hbox hg;obtain ⟨hcz34_0,hcz34_1,hcz34_2,hcz34_3,hcz34_4,hcz34_5,hcz34_6,hcz34_7⟩:=bc8_ BK222.out;obtain ⟨hfz34_0,hfz34_1,hfz34_2,hfz34_3,hfz34_4,hfz34_5,hfz34_6,hfz34_7⟩:=bf8_ BK222.out)|((with_reducible refine gate_callee (f:=65) rfl ?_);refine goesL_ (some 6) rfl rfl Try.func65 (by kernel_rfl) rfl #[.string a0_0] rfl mt_ ?_;(with_reducible refine (gridhallref3_Named.calls k a0_0 false _ A2.out).mono ?_);rintro e w' ⟨rfl, ⟨nd, rfl⟩⟩;refine ⟨_, rfl, ?_⟩))
  go_ret
  exact ⟨er_, hb1_ HB.out GE222.out⟩

end Go.Proofs.Ytdgjelbkogfedaa.PDualSingle
