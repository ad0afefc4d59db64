/- Lean functions with the answers of Go functions that the statement reaches, and the proofs that the calls come to them; conditions: none but the arguments' kinds. -/
import Derived.Test.YtmpofeilljmmiaaGreatDoorP0
import Derived.Test.YtmpofeilljmmiaaGreatDoorP22
import Derived.Test.YtmpofeilljmmiaaGreatDoorP7
import Derived.Test.YtmpofeilljmmiaaGreatDoorP18
import Derived.Test.YtmpofeilljmmiaaGreatDoorP27
import Derived.Test.YtmpofeilljmmiaaGreatDoorP34
import Derived.Test.YtmpofeilljmmiaaGreatDoorP39
namespace Go.Proofs.YtmpofeilljmmiaaGreatDoor.P
open Go.RowKit Go.Proofs.YtmpofeilljmmiaaGreatDoorW.PrintWords Go.Proofs.YtmpofeilljmmiaaGreatDoorW.PrintLast Go.Proofs.YtmpofeilljmmiaaGreatDoorW.PrintMore
attribute [local go_sem] max2_int min2_int max_two min_two max_three min_three max_four min_four
set_option linter.unusedVariables false
set_option linter.unusedSimpArgs false
attribute [local go_sem high] eqA37
abbrev N1:Array Bool:=#[o_,o_,o_,o_,o_,o_,o_,o_,o_,o_,o_,o_,o_,o_,o_,o_,o_,o_,o_,o_,o_,o_,o_,o_,o_,o_,o_,o_,o_]
abbrev N2:Array Bool:=#[o_,o_,o_,o_,o_,o_,o_,o_,o_,o_,o_,o_,o_,o_,o_,o_,o_,o_]
abbrev N3:Array Bool:=#[i_,o_,o_,o_,o_,o_,o_,o_,o_,o_,o_,o_,o_,o_,o_,o_,o_,o_,o_,o_,o_,o_,o_,o_,o_,o_,o_,o_,o_]
abbrev N4:Array Bool:=#[i_,o_,o_,o_,o_,o_,o_,o_,o_,o_,o_,o_,o_,o_,o_,o_,o_,o_]
abbrev N5:Array Bool:=#[i_,i_,o_,o_,o_,o_,o_,o_,o_,o_,o_,o_,o_,o_,o_,o_,o_,o_,o_,o_,o_,o_,o_,o_,o_,o_,o_,o_,o_]
abbrev N6:Array Bool:=#[i_,i_,o_,o_,o_,o_,o_,o_,o_,o_,o_,o_,o_,o_,o_,o_,o_,o_]
abbrev N7:Array Bool:=#[i_,i_,i_,o_,o_,o_,o_,o_,o_,o_,o_,o_,o_,o_,o_,o_,o_,o_,o_,o_,o_,o_,o_,o_,o_,o_,o_,o_,o_]
abbrev N8:Array Bool:=#[i_,i_,i_,o_,o_,o_,o_,o_,o_,o_,o_,o_,o_,o_,o_,o_,o_,o_]
abbrev N9:Array Bool:=#[i_,i_,i_,o_,o_,o_,i_,o_,o_,o_,o_,o_,o_,o_,o_,o_,o_,o_]
abbrev N10:Array Bool:=#[i_,i_,i_,o_,o_,o_,i_,i_,o_,o_,o_,o_,o_,o_,o_,o_,o_,o_]
abbrev N11:Array Bool:=#[i_,i_,i_,o_,o_,o_,i_,i_,i_,o_,o_,o_,o_,o_,o_,o_,o_,o_]
abbrev N12:Array Bool:=#[i_,i_,i_,i_,o_,o_,o_,o_,o_,o_,o_,o_,o_,o_,o_,o_,o_,o_,o_,o_,o_,o_,o_,o_,o_,o_,o_,o_,o_]
abbrev N13:Array Bool:=#[i_,i_,i_,i_,o_,o_,i_,i_,i_,o_,o_,o_,o_,o_,o_,o_,o_,o_]
abbrev N14:Array Bool:=#[i_,i_,i_,i_,i_,o_,o_,o_,o_,o_,o_,o_,o_,o_,o_,o_,o_,o_,o_,o_,o_,o_,o_,o_,o_,o_,o_,o_,o_]
abbrev N15:Array Bool:=#[i_,i_,i_,i_,i_,o_,i_,i_,i_,o_,o_,o_,o_,o_,o_,o_,o_,o_]
abbrev N16:Array Bool:=#[i_,i_,i_,i_,i_,i_,o_,o_,o_,o_,o_,o_,o_,o_,o_,o_,o_,o_,o_,o_,o_,o_,o_,o_,o_,o_,o_,o_,o_]
abbrev N17:Array Bool:=#[i_,i_,i_,i_,i_,i_,i_,o_,o_,o_,o_,o_,o_,o_,o_,o_,o_,o_,o_,o_,o_,o_,o_,o_,o_,o_,o_,o_,o_]
abbrev N18:Array Bool:=#[i_,i_,i_,i_,i_,i_,i_,i_,o_,o_,o_,o_,o_,o_,o_,o_,o_,o_,o_,o_,o_,o_,o_,o_,o_,o_,o_,o_,o_]
abbrev N19:Array Bool:=#[i_,i_,i_,i_,i_,i_,i_,i_,i_,o_,o_,o_,o_,o_,o_,o_,o_,o_,o_,o_,o_,o_,o_,o_,o_,o_,o_,o_,o_]
abbrev N20:Array Bool:=#[i_,i_,i_,i_,i_,i_,i_,i_,i_,o_,o_,o_,o_,o_,o_,o_,o_,o_]
abbrev N21:Array Bool:=#[i_,i_,i_,i_,i_,i_,i_,i_,i_,o_,i_,o_,o_,o_,o_,o_,o_,o_,o_,o_,o_,o_,o_,o_,o_,o_,o_,o_,o_]
abbrev N22:Array Bool:=#[i_,i_,i_,i_,i_,i_,i_,i_,i_,o_,i_,i_,o_,o_,o_,o_,o_,o_,o_,o_,o_,o_,o_,o_,o_,o_,o_,o_,o_]
abbrev N23:Array Bool:=#[i_,i_,i_,i_,i_,i_,i_,i_,i_,i_,o_,o_,o_,o_,o_,o_,o_,o_]
abbrev N24:Array Bool:=#[i_,i_,i_,i_,i_,i_,i_,i_,i_,i_,i_,o_,o_,o_,o_,o_,o_,o_]
abbrev N25:Array Bool:=#[i_,i_,i_,i_,i_,i_,i_,i_,i_,i_,i_,i_,o_,o_,o_,o_,o_,o_,o_,o_,o_,o_,o_,o_,o_,o_,o_,o_,o_]
abbrev N26:Array Bool:=#[i_,i_,i_,i_,i_,i_,i_,i_,i_,i_,i_,i_,o_,o_,o_,o_,o_,o_]
abbrev N27:Array Bool:=#[i_,i_,i_,i_,i_,i_,i_,i_,i_,i_,i_,i_,i_,o_,o_,o_,o_,o_,o_,o_,o_,o_,o_,o_,o_,o_,o_,o_,o_]
abbrev N28:Array Bool:=#[i_,i_,i_,i_,i_,i_,i_,i_,i_,i_,i_,i_,i_,o_,o_,o_,o_,o_]
abbrev N29:Array Bool:=#[i_,i_,i_,i_,i_,i_,i_,i_,i_,i_,i_,i_,i_,i_,o_,o_,o_,o_,o_,o_,o_,o_,o_,o_,o_,o_,o_,o_,o_]
abbrev N30:Array Bool:=#[i_,i_,i_,i_,i_,i_,i_,i_,i_,i_,i_,i_,i_,i_,o_,o_,o_,o_]
abbrev N31:Array Bool:=#[i_,i_,i_,i_,i_,i_,i_,i_,i_,i_,i_,i_,i_,i_,i_,o_,o_,o_,o_,o_,o_,o_,o_,o_,o_,o_,o_,o_,o_]
abbrev N32:Array Bool:=#[i_,i_,i_,i_,i_,i_,i_,i_,i_,i_,i_,i_,i_,i_,i_,o_,o_,o_]
abbrev N33:Array Bool:=#[i_,i_,i_,i_,i_,i_,i_,i_,i_,i_,i_,i_,i_,i_,i_,i_,o_,o_,o_,o_,o_,o_,o_,o_,o_,o_,o_,o_,o_]
abbrev N34:Array Bool:=#[i_,i_,i_,i_,i_,i_,i_,i_,i_,i_,i_,i_,i_,i_,i_,i_,o_,o_]
abbrev N35:Array Bool:=#[i_,i_,i_,i_,i_,i_,i_,i_,i_,i_,i_,i_,i_,i_,i_,i_,i_,o_,o_,o_,o_,o_,o_,o_,o_,o_,o_,o_,o_]
abbrev N36:Array Bool:=#[i_,i_,i_,i_,i_,i_,i_,i_,i_,i_,i_,i_,i_,i_,i_,i_,i_,o_]
abbrev N37:Array Bool:=#[i_,i_,i_,i_,i_,i_,i_,i_,i_,i_,i_,i_,i_,i_,i_,i_,i_,i_,o_,o_,o_,o_,o_,o_,o_,o_,o_,o_,o_]
abbrev N38:Array Bool:=#[i_,i_,i_,i_,i_,i_,i_,i_,i_,i_,i_,i_,i_,i_,i_,i_,i_,i_,i_,o_,o_,o_,o_,o_,o_,o_,o_,o_,o_]
abbrev N39:Array Bool:=#[i_,i_,i_,i_,i_,i_,i_,i_,i_,i_,i_,i_,i_,i_,i_,i_,i_,i_,i_,i_,o_,o_,o_,o_,o_,o_,o_,o_,o_]
abbrev N40:Array Bool:=#[i_,i_,i_,i_,i_,i_,i_,i_,i_,i_,i_,i_,i_,i_,i_,i_,i_,i_,i_,i_,i_,o_,o_,o_,o_,o_,o_,o_,o_]
abbrev N41:Array Bool:=#[i_,i_,i_,i_,i_,i_,i_,i_,i_,i_,i_,i_,i_,i_,i_,i_,i_,i_,i_,i_,i_,i_,o_,o_,o_,o_,o_,o_,o_]
abbrev N42:Array Bool:=#[i_,i_,i_,i_,i_,i_,i_,i_,i_,i_,i_,i_,i_,i_,i_,i_,i_,i_,i_,i_,i_,i_,i_,o_,o_,o_,o_,o_,o_]
abbrev N43:Array Bool:=#[i_,i_,i_,i_,i_,i_,i_,i_,i_,i_,i_,i_,i_,i_,i_,i_,i_,i_,i_,i_,i_,i_,i_,i_,i_,o_,o_,o_,o_]
abbrev N44:Array Bool:=#[i_,i_,i_,i_,i_,i_,i_,i_,i_,i_,i_,i_,i_,i_,i_,i_,i_,i_,i_,i_,i_,i_,i_,i_,i_,i_,o_,o_,o_]
abbrev N45:Array Bool:=#[i_,i_,i_,i_,i_,i_,i_,i_,i_,i_,i_,i_,i_,i_,i_,i_,i_,i_,i_,i_,i_,i_,i_,i_,i_,i_,i_,o_,o_]
abbrev N46:Array Bool:=#[i_,i_,i_,i_,i_,i_,i_,i_,i_,i_,i_,i_,i_,i_,i_,i_,i_,i_,i_,i_,i_,i_,i_,i_,i_,i_,i_,i_,o_]
abbrev N47:Array Bool:=#[i_,i_,i_,i_,i_,i_,i_,i_,i_,i_,i_,i_,i_,i_,i_,i_,i_,i_,i_,i_,i_,i_,i_,i_,i_,i_,i_,i_,i_]
abbrev N48:Array Bool:=#[i_,i_,i_,i_,i_,i_,i_,i_,i_,i_,i_,i_,i_,i_,i_,i_,i_,i_]
set_option maxHeartbeats 80000000 in
set_option maxRecDepth 100000 in
theorem laws_FnCirclesOfPackings.calls (k:Nat) (A0:Option Addr) (c0:Nat) (l0:List Int) (A1:Option Addr) (c1:Nat) (l1:List Int) (r:Bool) (w:World) (hr0:Kd.C (Kd.int .u8) w A0 l0.length l0) (hc0:l0.length≤c0) (hr1:Kd.C (Kd.int .u8) w A1 l1.length l1) (hc1:l1.length≤c1) (htabs:Tabs w) (hvars:Vars w) (h:laws_FnCirclesOfPackings.f k l0 l1=some true):
  Calls Tryz.prog 3 #[.slice A0 l0.length c0,.slice A1 l1.length c1] w fun e w'=>e= .returned (.bool true)∧Below w.heap.size w w':=by
 have hu37:=Tryz.underlying37
 have HR0:=am hr0
 have HC0:=am hc0
 clear hr0 hc0
 have HR1:=am hr1
 have HC1:=am hc1
 clear hr1 hc1
 have HB:=am (Below.refl w.heap.size w)
 have HTABS:=am htabs
 have HVARS:=am hvars
 clear htabs hvars
 have H:=h
 clear h
 unfold laws_FnCirclesOfPackings.f at H
 obtain⟨t728,A3,H⟩:=bs_ H
 try dsimp only at H
 by_cases c4:t728=true
 ·
  subst c4
  rw[if_pos rfl]at H
  clear H
  go_enter Tryz.func3,Tryz.ntmps3
  go_wp2_with (first|((with_reducible refine gc_ 4 rfl ?_);refine goesN_ 4 (some 48) Tryz.func4 #[.slice A0 l0.length c0,.slice A1 l1.length c1] ?_;(with_reducible refine(laws_big.calls _ _ l0 _ _ l1 true _ ?side1 ?side2 ?side3 ?side4 A3.1).mono ?_);(case side1=>exact(Z11 HR0));(case side2=>exact HC0.1);(case side3=>exact(Z11 HR1));(case side4=>exact HC1.1);rintro e w' ⟨rfl,⟨nd,rfl⟩⟩;refine⟨_,rfl,?_⟩))
  go_ret
  exact⟨Z6,ZB⟩
 replace c4:=Bool.eq_false_iff.mpr c4
 subst c4
 rw[if_neg (show¬(false=true) by decide)]at H
 obtain⟨⟨t729,t730⟩,A5,H⟩:=bs_ H
 try dsimp only at H
 obtain⟨⟨t733,t734⟩,A6,H⟩:=bs_ H
 try dsimp only at H
 obtain⟨⟨t737,t740⟩,A7,H⟩:=bs_ H
 try dsimp only at H
 have HC8:=am H
 clear H
 go_enter Tryz.func3,Tryz.ntmps3
 go_upto_region 6 with(first|((with_reducible refine gc_ 4 rfl ?_);refine goesN_ 4 (some 48) Tryz.func4 #[.slice A0 l0.length c0,.slice A1 l1.length c1] ?_;(with_reducible refine(laws_big.calls _ _ l0 _ _ l1 false _ ?side1 ?side2 ?side3 ?side4 A3.1).mono ?_);(case side1=>exact(Z11 HR0));(case side2=>exact HC0.1);(case side3=>exact(Z11 HR1));(case side4=>exact HC1.1);rintro e w' ⟨rfl,⟨nd,rfl⟩⟩;refine⟨_,rfl,?_⟩)|((with_reducible refine gc_ 5 rfl ?_);refine gE_ (some 51) Tryz.func5 (spec_DrawCirclesUpTo.calls k _ _ l0 t729 t730 _ ?side1 ?side2 A5.1) ?_;(case side1=>exact(Z11 HR0));(case side2=>exact HC0.1);rintro v731 w9 ⟨ho0,hb⟩;have HOog:=am (Kd.R_lower ho0 zs_);replace HB:=bw_ hb;clear hb;(try clear ho0);obtain⟨Ao10,co10,eo10⟩:=Kd.R_slice HOog.1;subst eo10)|((with_reducible refine gc_ 6 rfl ?_);refine gE_ (some 57) Tryz.func6 (impl_CirclesUpTo.calls k _ _ t729 t730 t733 t734 _ ?side1 ?side2 A6.1) ?_;(case side1=>exact(Z10 HOog));(case side2=>exact(Kd.R_reads' HOog.1).2.1);rintro v735 w11 ⟨ho0,hb⟩;have HOoh:=am (Kd.R_lower (Kd.R_new' ho0 (Kd.R_lt (Z1 HOog))) zs_);replace HOog:=am (Kd.R_elder' (Z1 HOog) (Kd.R_base ho0) hb);replace HB:=bw_ hb;clear hb;(try clear ho0))|((with_reducible refine gc_ 7 rfl ?_);refine gE_ (some 63) Tryz.func7 (spec_CirclesUpTo.calls k (fun k_=>some k_=(.slice Ao10 t729.length co10:Value).ownBlock) _ _ t729 t730 t737 t740 _ ?side1 A7.1) ?_;(case side1=>exact Kd.R_V (Kd.R_tight rfl (HOog.1)));rintro v738 w12 ⟨ho0,hb⟩;have HOoi:=am (Kd.R_lower (Kd.R_new' (Kd.R_new' (Kd.R_mono (ok':=fun k_=>True) ho0 (fun _ hk_=>trivial)) (Kd.R_lt (Z1 HOog))) (Kd.R_lt (Z1 HOoh))) zs_);replace HOog:=am (Kd.R_elder' (Z1 HOog) (Kd.R_base ho0) hb);replace HOoh:=am (Kd.R_elder' (Z1 HOoh) (Kd.R_base ho0) hb);replace HB:=bw_ hb;clear hb;(try clear ho0)))
 (try simp only[Act.put,sA_,sB_,sC_])
 go_cut[74]from 48 to 75 (fun v74 wc=>∃(kq:Nat) (x74_7:Bool),v74= .bool x74_7∧Aside0 (laws_FnCirclesOfPackings.j0 kq l1 t729 t730 t733 t734 x74_7=some true)∧Aside0 (kq≤k)∧Aside0 (Kd.R k37 37 wc w.heap.size (fun k_=>some k_≠(v735:Value).ownBlock) (.slice Ao10 t729.length co10) t729)∧Aside0 (Kd.R k37 37 wc w.heap.size (fun k_=>some k_≠((.slice Ao10 t729.length co10):Value).ownBlock) v735 t733)∧Aside0 (Below w.heap.size w wc))
 case first=>as_aux_lemma=>
  have H:=HC8.1
  clear HC8
  by_cases c13:(t734 != t740)=true
  ·
   rw[if_pos c13]at H
   have c13b0:(t734 != t740)=true:=c13
   (try(have c13b1:decide (t734=t740)=false:=by simpa using c13))
   (try(have c13b2:(t734==t740)=false:=by simpa using c13))
   (try(have c13b3:¬(t734=t740):=by simpa using c13))
   clear c13
   (first|rw[c13b0]|(simp only[i64_w,i32_w];rw[c13b0])|rw[c13b1]|skip)
   have H':=am H
   clear H
   go_wp2
   go_meet
   exact⟨_,(true),Z7,H',⟨Z35⟩,⟨(Z46 HOog)⟩,⟨(Z46 HOoh)⟩,⟨ZB⟩⟩
  rw[if_neg c13]at H
  have c13b0:(t734 != t740)=false:=by simpa using c13
  (try(have c13b1:decide (t734=t740)=true:=by simpa using c13))
  (try(have c13b2:(t734==t740)=true:=by simpa using c13))
  clear c13
  (first|rw[c13b0]|(simp only[i64_w,i32_w];rw[c13b0])|rw[c13b1]|skip)
  obtain⟨t741,A14,H⟩:=bs_ H
  try dsimp only at H
  have H':=am H
  clear H
  obtain⟨Ao15,co15,eo15⟩:=Kd.R_slice HOoh.1
  subst eo15
  obtain⟨Ao16,co16,eo16⟩:=Kd.R_slice HOoi.1
  subst eo16
  go_wp2_with (first|(go_at_call 8;(with_reducible refine(laws_dCircles.calls k _ _ t733 _ _ t737 t741 _ ?side1 ?side2 ?side3 ?side4 A14.1).mono ?_);(case side1=>exact(Z10 HOoh));(case side2=>exact(Kd.R_reads' HOoh.1).2.1);(case side3=>exact(Z10 HOoi));(case side4=>exact(Kd.R_reads' HOoi.1).2.1);rintro e w' ⟨rfl,⟨nd,rfl⟩⟩))
  go_meet
  exact⟨_,(!t741),Z7,H',⟨Z35⟩,⟨(Z46 HOog)⟩,⟨(Z46 HOoh)⟩,⟨ZB⟩⟩
 clear HC8
 obtain⟨kq,x74_7,rfl,HA,HJ7,HO_5,HO_7,HB⟩:=hcut
 obtain _|kj7:=kq
 ·
  exact absurd HA.out (by simp[laws_FnCirclesOfPackings.j0])
 have H:=HA.out
 clear HA
 simp only[laws_FnCirclesOfPackings.j0]at H
 by_cases c17:x74_7=true
 ·
  subst c17
  rw[if_pos rfl]at H
  exact absurd (Option.some.inj H) (by decide)
 replace c17:=Bool.eq_false_iff.mpr c17
 subst c17
 rw[if_neg (show¬(false=true) by decide)]at H
 have HC18:=am H
 clear H
 go_upto_if 75 with(fail)
 go_cut[]from 48 to 174 (fun wc=>∃(kq:Nat),Aside0 (laws_FnCirclesOfPackings.j5 kq l1=some true)∧Aside0 (kq≤kj7)∧Aside0 (Below w.heap.size w wc))
 case first=>as_aux_lemma=>
  have H:=HC18.1
  clear HC18
  by_cases c19:t734=true
  rotate_left
  ·
   replace c19:=Bool.eq_false_iff.mpr c19
   subst c19
   rw[if_neg (show¬(false=true) by decide)]at H
   have H':=am H
   clear H
   go_wp2
   go_meet
   exact⟨_,H',⟨(Z44 HJ7)⟩,⟨ZB⟩⟩
  subst c19
  rw[if_pos rfl]at H
  obtain⟨⟨t742,t743⟩,A20,H⟩:=bs_ H
  try dsimp only at H
  obtain⟨⟨t746,t747⟩,A21,H⟩:=bs_ H
  try dsimp only at H
  obtain⟨⟨t748,t749⟩,A22,H⟩:=bs_ H
  try dsimp only at H
  have HC23:=am H
  clear H
  go_upto_region 12 with(first|((with_reducible refine gc_ 9 rfl ?_);refine gE_ (some 78) Tryz.func9 (impl_CurvaturesOf.calls kj7 _ _ t729 t742 t743 _ ?side1 ?side2 A20.1) ?_;(case side1=>exact(Z10 HO_5));(case side2=>exact(Kd.R_reads' HO_5.1).2.1);rintro v744 w24 ⟨ho0,hb⟩;replace HO_5:=am (Kd.R_below (Z1 HO_5) hb);replace HO_7:=am (Kd.R_below (Z1 HO_7) hb);have HOoj:=am (Kd.R_lower ho0 zs_);replace HB:=bw_ hb;clear hb;(try clear ho0);obtain⟨Ao25,co25,eo25⟩:=Kd.R_slice HOoj.1;subst eo25)|((with_reducible refine gc_ 10 rfl ?_);refine gM_ (some 84) Tryz.func10 (impl_CountUpTo.calls kj7 _ _ t742 t730 t746 t747 _ ?side1 ?side2 A21.1) ?_;(case side1=>exact(Z10 HOoj));(case side2=>exact(Kd.R_reads' HOoj.1).2.1);intro w26 hb;replace HO_5:=am (Kd.R_below (Z1 HO_5) hb);replace HO_7:=am (Kd.R_below (Z1 HO_7) hb);replace HOoj:=am (Kd.R_below (Z1 HOoj) hb);replace HB:=bw_ hb;clear hb)|((with_reducible refine gc_ 11 rfl ?_);refine gE_ (some 90) Tryz.func11 (impl_CurvaturesUpTo.calls kj7 _ _ t742 t730 t748 t749 _ ?side1 ?side2 A22.1) ?_;(case side1=>exact(Z10 HOoj));(case side2=>exact(Kd.R_reads' HOoj.1).2.1);rintro v750 w27 ⟨ho0,hb⟩;replace HO_5:=am (Kd.R_below (Z1 HO_5) hb);replace HO_7:=am (Kd.R_below (Z1 HO_7) hb);have HOok:=am (Kd.R_lower (Kd.R_new' ho0 (Kd.R_lt (Z1 HOoj))) zs_);replace HOoj:=am (Kd.R_elder' (Z1 HOoj) (Kd.R_base ho0) hb);replace HB:=bw_ hb;clear hb;(try clear ho0)))
  (try simp only[Act.put,sA_,sB_,sC_])
  go_cut[108]from 48 to 109 (fun v108 wc=>∃(kq:Nat) (x108_22:Bool),v108= .bool x108_22∧Aside0 (laws_FnCirclesOfPackings.j1 kq l1 t730 t733 t748 x108_22=some true)∧Aside0 (kq≤kj7)∧Aside0 (Kd.R k37 37 wc w.heap.size (fun _=>True) v735 t733)∧Aside0 (Kd.R (Kd.int .i64) 3 wc w.heap.size (fun _=>True) v750 t748)∧Aside0 (Below w.heap.size w wc))
  case first=>as_aux_lemma=>
   have H:=HC23.1
   clear HC23
   by_cases c28:t743=true
   rotate_left
   ·
    replace c28:=Bool.eq_false_iff.mpr c28
    subst c28
    rw[if_neg (show¬(false=true) by decide)]at H
    have H':=am H
    clear H
    go_wp2
    go_meet
    exact⟨_,(true),Z7,H',⟨(Z44 HJ7)⟩,⟨(Z20 HO_7)⟩,⟨(Z20 HOok)⟩,⟨ZB⟩⟩
   subst c28
   rw[if_pos rfl]at H
   by_cases c29:t747=true
   rotate_left
   ·
    replace c29:=Bool.eq_false_iff.mpr c29
    subst c29
    rw[if_neg (show¬(false=true) by decide)]at H
    have H':=am H
    clear H
    go_wp2
    go_meet
    exact⟨_,(true),Z7,H',⟨(Z44 HJ7)⟩,⟨(Z20 HO_7)⟩,⟨(Z20 HOok)⟩,⟨ZB⟩⟩
   subst c29
   rw[if_pos rfl]at H
   by_cases c30:t746=(t733.length:Int)
   ·
    rw[if_pos c30]at H
    obtain⟨c30b0,c30b1⟩:=eq2_ c30
    clear c30
    (first|rw[c30b0]|(simp only[i64_w,i32_w];rw[c30b0])|rw[c30b1]|skip)
    have H':=am H
    clear H
    obtain⟨Ao31,co31,eo31⟩:=Kd.R_slice HO_7.1
    subst eo31
    go_wp2
    go_meet
    exact⟨_,(!t749),Z7,H',⟨(Z44 HJ7)⟩,⟨(Z20 HO_7)⟩,⟨(Z20 HOok)⟩,⟨ZB⟩⟩
   rw[if_neg c30]at H
   obtain⟨c30b0,c30b1⟩:=ne2_ c30
   (first|rw[c30b0]|(simp only[i64_w,i32_w];rw[c30b0])|rw[c30b1]|skip)
   have H':=am H
   clear H
   obtain⟨Ao32,co32,eo32⟩:=Kd.R_slice HO_7.1
   subst eo32
   go_wp2
   go_meet
   exact⟨_,(true),Z7,H',⟨(Z44 HJ7)⟩,⟨(Z20 HO_7)⟩,⟨(Z20 HOok)⟩,⟨ZB⟩⟩
  clear HC23
  obtain⟨kq,x108_22,rfl,HA,HJ22,HO_7,HO_15,HB⟩:=hcut
  obtain _|kj22:=kq
  ·
   exact absurd HA.out (by simp[laws_FnCirclesOfPackings.j1])
  have H:=HA.out
  clear HA
  simp only[laws_FnCirclesOfPackings.j1]at H
  by_cases c33:x108_22=true
  ·
   subst c33
   rw[if_pos rfl]at H
   exact absurd (Option.some.inj H) (by decide)
  replace c33:=Bool.eq_false_iff.mpr c33
  subst c33
  rw[if_neg (show¬(false=true) by decide)]at H
  have H':=am H
  clear H
  obtain⟨Ao34,co34,eo34⟩:=Kd.R_slice HO_7.1
  subst eo34
  go_wp2
  go_loopg [111] kj22 (fun kq v111 w'=>∃(x111_3:Int),v111= .int .i64 x111_3∧Aside0 (laws_FnCirclesOfPackings.l0 kq l1 t730 t733 t748 t733 (t733.length:Int) x111_3=some true)∧Aside0 (kq≤kj22)∧Aside0 (Kd.R k37 37 w' w.heap.size (fun _=>True) (.slice Ao34 t733.length co34) t733)∧Aside0 (Kd.R (Kd.int .i64) 3 w' w.heap.size (fun _=>True) v750 t748)∧Aside0 (Kd.R k37 37 w' w.heap.size (fun _=>True) (.slice Ao34 t733.length co34) t733)∧Aside0 (Below w.heap.size w w'))
  case atStart=>exact⟨(0),Z7,H',⟨Nat.le_refl _⟩,⟨(Z1 HO_7)⟩,⟨(Z1 HO_15)⟩,⟨(Z1 HO_7)⟩,⟨ZB⟩⟩
  clear H'
  obtain⟨x111_3,rfl,HA,HK3,HO_7,HO_15,HO_109,HB⟩:=hrel
  obtain _|k3:=gk
  ·
   exact absurd HA.out (by simp[laws_FnCirclesOfPackings.l0])
  have H:=HA.out
  clear HA
  simp only[laws_FnCirclesOfPackings.l0]at H
  by_cases c35:x111_3<(t733.length:Int)
  rotate_left
  ·
   rw[if_neg c35]at H
   have c35b0:=decide_eq_false c35
   clear c35
   have H':=am H
   clear H
   go_wp2
   go_meet
   exact⟨_,H',⟨Z50⟩,⟨ZB⟩⟩
  rw[if_pos c35]at H
  have c35b0:=decide_eq_true c35
  clear c35
  obtain⟨c36,H⟩:=ip_ H
  have c36b0:=decide_eq_true c36
  clear c36
  obtain⟨c37,H⟩:=ip_ H
  have c37b0:=decide_eq_true c37
  clear c37
  have HC38:=am H
  clear H
  have p752:0≤(x111_3:Int):=of_decide_eq_true Z31
  have q752:x111_3<(t733.length:Int):=of_decide_eq_true Z31
  obtain⟨ad752,e752,hx752_0,hx752_1,hx752_2,hx752_3⟩:=at_T37 (Kd.R_reads' HO_109.1).2.2 x111_3 p752 q752
  cases e752
  replace p752:=eq_true p752
  replace q752:=eq_true q752
  go_upto_region 17 with(first|((with_reducible refine gd_ 18 rfl ?_);(try(refine gate_guard (by rfl) ?_;dsimp only));refine box_event ?hg (N:=18) ?hd (cs:=#[.int .i64 0,.int .i64 0,.int .i64 0,.int .i64 0]) (t:=37) ?hr ?_;(case hd=>rfl);(case hg=>rfl);(case hr=>first|(go_simp;done)|(go_simp;rfl));intro gboa hg w39 hbox hb;replace HO_7:=am (Kd.R_below (Kd.R_elderB (Z1 HO_7) gboa (Nat.le_of_eq hg.symm)) hb);replace HO_15:=am (Kd.R_below (Z1 HO_15) hb);replace HO_109:=am (Kd.R_below (Kd.R_elderB (Z1 HO_109) gboa (Nat.le_of_eq hg.symm)) hb);have BKoa:=am hbox;have GWoa:=gG_ hg;have GEoa:=gG_ hg;replace HB:=bw_ hb;clear hb hbox hg;obtain⟨_,_,_,_,_,_,_,_⟩:=cz4_ BKoa))
  (try simp only[Act.put,sA_,sB_,sC_])
  go_cut[131]from 112 to 132 (fun v131 wc=>∃(kq:Nat) (x131_37:Bool),v131= .bool x131_37∧Aside0 (laws_FnCirclesOfPackings.j3 kq l1 t730 t733 t748 x111_3 t733 (t733.length:Int) x111_3 x131_37 ((rd_T37 t733 x111_3).f0) ((rd_T37 t733 x111_3).f1) ((rd_T37 t733 x111_3).f2) ((rd_T37 t733 x111_3).f3)=some true)∧Aside0 (kq≤k3)∧Aside0 (Kd.R k37 37 wc w.heap.size (fun k_=>k_≠gboa) (.slice (some ad752) t733.length co34) t733)∧Aside0 (Kd.R (Kd.int .i64) 3 wc w.heap.size (fun _=>True) v750 t748)∧Aside0 (Kd.R k37 37 wc w.heap.size (fun k_=>k_≠gboa) (.slice (some ad752) t733.length co34) t733)∧Aside0 (wc.heap[gboa]?=some (.cells #[.int .i64 ((rd_T37 t733 x111_3).f0),.int .i64 ((rd_T37 t733 x111_3).f1),.int .i64 ((rd_T37 t733 x111_3).f2),.int .i64 ((rd_T37 t733 x111_3).f3)] 37 (0,0)))∧Aside0 (Below w.heap.size w wc))
  case first=>as_aux_lemma=>
   have H:=HC38.1
   clear HC38
   obtain⟨t754,A41,H⟩:=bs_ H
   try dsimp only at H
   by_cases c42:t754=true
   rotate_left
   ·
    replace c42:=Bool.eq_false_iff.mpr c42
    subst c42
    rw[if_neg (show¬(false=true) by decide)]at H
    have H':=am H
    clear H
    have hcz52_0:w39.cell? ⟨gboa,0,none⟩=some (.int .i64 0):=(blk_cell BKoa.1 0).trans rfl
    have hcz52_1:w39.cell? ⟨gboa,1,none⟩=some (.int .i64 0):=(blk_cell BKoa.1 1).trans rfl
    have hcz52_2:w39.cell? ⟨gboa,2,none⟩=some (.int .i64 0):=(blk_cell BKoa.1 2).trans rfl
    have hcz52_3:w39.cell? ⟨gboa,3,none⟩=some (.int .i64 0):=(blk_cell BKoa.1 3).trans rfl
    have hfz52_0:=blk_frozen BKoa.1 0
    have hfz52_1:=blk_frozen BKoa.1 1
    have hfz52_2:=blk_frozen BKoa.1 2
    have hfz52_3:=blk_frozen BKoa.1 3
    go_wp2_with (first|((with_reducible refine gc_ 12 rfl ?_);refine gM_ (some 117) Tryz.func12 (impl_IsCircle.calls ((rd_T37 t733 x111_3).f0) ((rd_T37 t733 x111_3).f1) ((rd_T37 t733 x111_3).f2) ((rd_T37 t733 x111_3).f3) false _ A41.1) ?_;intro w53 hb;replace HO_7:=am (Kd.R_below (Z21 HO_7) hb);replace HO_15:=am (Kd.R_below Z37 hb);replace HO_109:=am (Kd.R_below (Z21 HO_109) hb);replace BKoa:=bk_ BKoa hb;replace HB:=bw_ hb;clear hb))
    go_meet
    exact⟨_,(true),Z7,H',⟨Z50⟩,⟨(Z30 HO_7)⟩,⟨(Z1 HO_15)⟩,⟨(Z30 HO_109)⟩,⟨(bb_ BKoa)⟩,⟨ZB⟩⟩
   subst c42
   rw[if_pos rfl]at H
   by_cases c43:((rd_T37 t733 x111_3).f1)>t730
   ·
    rw[if_pos c43]at H
    have c43b0:decide (t730<((rd_T37 t733 x111_3).f1))=true:=decide_eq_true c43
    clear c43
    (first|rw[c43b0]|(simp only[i64_w,i32_w];rw[c43b0])|skip)
    have H':=am H
    clear H
    have hcz44_0:w39.cell? ⟨gboa,0,none⟩=some (.int .i64 0):=(blk_cell BKoa.1 0).trans rfl
    have hcz44_1:w39.cell? ⟨gboa,1,none⟩=some (.int .i64 0):=(blk_cell BKoa.1 1).trans rfl
    have hcz44_2:w39.cell? ⟨gboa,2,none⟩=some (.int .i64 0):=(blk_cell BKoa.1 2).trans rfl
    have hcz44_3:w39.cell? ⟨gboa,3,none⟩=some (.int .i64 0):=(blk_cell BKoa.1 3).trans rfl
    have hfz44_0:=blk_frozen BKoa.1 0
    have hfz44_1:=blk_frozen BKoa.1 1
    have hfz44_2:=blk_frozen BKoa.1 2
    have hfz44_3:=blk_frozen BKoa.1 3
    go_wp2_with (first|((with_reducible refine gc_ 12 rfl ?_);refine gM_ (some 117) Tryz.func12 (impl_IsCircle.calls ((rd_T37 t733 x111_3).f0) ((rd_T37 t733 x111_3).f1) ((rd_T37 t733 x111_3).f2) ((rd_T37 t733 x111_3).f3) true _ A41.1) ?_;intro w45 hb;replace HO_7:=am (Kd.R_below (Z21 HO_7) hb);replace HO_15:=am (Kd.R_below Z37 hb);replace HO_109:=am (Kd.R_below (Z21 HO_109) hb);replace BKoa:=bk_ BKoa hb;replace HB:=bw_ hb;clear hb;obtain⟨_,_,_,_,_,_,_,_⟩:=cz4_ BKoa))
    go_meet
    exact⟨_,(true),Z7,H',⟨Z50⟩,⟨(Z30 HO_7)⟩,⟨(Z1 HO_15)⟩,⟨(Z30 HO_109)⟩,⟨(bb_ BKoa)⟩,⟨ZB⟩⟩
   rw[if_neg c43]at H
   have c43b0:decide (t730<((rd_T37 t733 x111_3).f1))=false:=decide_eq_false c43
   clear c43
   (first|rw[c43b0]|(simp only[i64_w,i32_w];rw[c43b0])|skip)
   obtain⟨t755,A47,H⟩:=bs_ H
   try dsimp only at H
   have H':=am H
   clear H
   have hcz48_0:w39.cell? ⟨gboa,0,none⟩=some (.int .i64 0):=(blk_cell BKoa.1 0).trans rfl
   have hcz48_1:w39.cell? ⟨gboa,1,none⟩=some (.int .i64 0):=(blk_cell BKoa.1 1).trans rfl
   have hcz48_2:w39.cell? ⟨gboa,2,none⟩=some (.int .i64 0):=(blk_cell BKoa.1 2).trans rfl
   have hcz48_3:w39.cell? ⟨gboa,3,none⟩=some (.int .i64 0):=(blk_cell BKoa.1 3).trans rfl
   have hfz48_0:=blk_frozen BKoa.1 0
   have hfz48_1:=blk_frozen BKoa.1 1
   have hfz48_2:=blk_frozen BKoa.1 2
   have hfz48_3:=blk_frozen BKoa.1 3
   go_wp2_with (first|((with_reducible refine gc_ 12 rfl ?_);refine gM_ (some 117) Tryz.func12 (impl_IsCircle.calls ((rd_T37 t733 x111_3).f0) ((rd_T37 t733 x111_3).f1) ((rd_T37 t733 x111_3).f2) ((rd_T37 t733 x111_3).f3) true _ A41.1) ?_;intro w49 hb;replace HO_7:=am (Kd.R_below (Z21 HO_7) hb);replace HO_15:=am (Kd.R_below Z37 hb);replace HO_109:=am (Kd.R_below (Z21 HO_109) hb);replace BKoa:=bk_ BKoa hb;replace HB:=bw_ hb;clear hb;obtain⟨_,_,_,_,_,_,_,_⟩:=cz4_ BKoa;obtain⟨Ao51,co51,eo51⟩:=Kd.R_slice HO_15.1;subst eo51)|(go_at_call 13;(with_reducible refine(laws_dHas.calls k3 _ _ t748 ((rd_T37 t733 x111_3).f1) t755 _ ?side1 ?side2 A47.1).mono ?_);(case side1=>exact(Z10 HO_15));(case side2=>exact(Kd.R_reads' HO_15.1).2.1);rintro e w' ⟨rfl,⟨nd,rfl⟩⟩))
   go_meet
   exact⟨_,(!t755),Z7,H',⟨Z50⟩,⟨(Z30 HO_7)⟩,⟨(Z1 HO_15)⟩,⟨(Z30 HO_109)⟩,⟨(bb_ BKoa)⟩,⟨ZB⟩⟩
  clear HC38
  obtain⟨kq,x131_37,rfl,HA,HJ37,HO_7,HO_15,HO_109,BKoa,HB⟩:=hcut
  obtain _|kj37:=kq
  ·
   exact absurd HA.out (by simp[laws_FnCirclesOfPackings.j3])
  have H:=HA.out
  clear HA
  simp only[laws_FnCirclesOfPackings.j3]at H
  by_cases c54:x131_37=true
  ·
   subst c54
   rw[if_pos rfl]at H
   exact absurd (Option.some.inj H) (by decide)
  replace c54:=Bool.eq_false_iff.mpr c54
  subst c54
  rw[if_neg (show¬(false=true) by decide)]at H
  obtain⟨c55,H⟩:=ip_ H
  have c55b0:=eq_true c55
  have c55b1:=decide_eq_true c55
  clear c55
  obtain⟨c56,H⟩:=ip_ H
  have c56b0:=eq_true c56
  have c56b1:=decide_eq_true c56
  clear c56
  obtain⟨y_a,hy_a⟩:∃y_:List (S37),y_=(t733.take (x111_3:Int).toNat):=⟨_,rfl⟩
  replace H:(laws_FnCirclesOfPackings.l1 kj37 l1 t730 t733 t748 t733 (t733.length:Int) x111_3 y_a (y_a.length:Int) 0 ((rd_T37 t733 x111_3).f0) ((rd_T37 t733 x111_3).f1) ((rd_T37 t733 x111_3).f2) ((rd_T37 t733 x111_3).f3))=some true:=Z8
  have Ny_a:=am hy_a
  clear hy_a
  have H':=am H
  clear H
  have q57:(x111_3:Int)≤((t733.length:Int):Int):=of_decide_eq_true Z31
  obtain⟨i057,hi057,_,hsz57,_⟩:=info_parts info37
  have hroom57:t733.length≤co34:=(Kd.R_reads' HO_7.1).2.1
  have hC57:Kd.C k37 _ (some ad752) t733.length t733:=(Kd.R_reads' HO_7.1).2.2
  have hcut57:=cut_to (P:=Tryz.prog) 24 37 .i64 Tryz.underlying24 hi057 (some ad752) t733.length co34 x111_3 (of_decide_eq_true Z31) q57 hroom57
  have hr57:=Kd.C_take (m:=(x111_3:Int).toNat) hC57 (by omega)
  have hy57:y_a.length=(x111_3:Int).toNat:=(by rw[Ny_a.1,List.length_take];omega)
  rw[←Ny_a.1]at hr57
  rw[←hy57]at hcut57
  have HR759:=am hr57
  have HC759:=am (show y_a.length≤co34 from by omega)
  clear hr57 hC57 hroom57 hi057 hsz57
  have KY57:=am hy57
  clear hy57
  have KL57:=am (show(x111_3:Int).toNat≤t733.length from by omega)
  replace q57:=eq_true q57
  go_wp2
  go_loopg [136] kj37 (fun kq v136 w'=>∃(x136_5:Int),v136= .int .i64 x136_5∧Aside0 (laws_FnCirclesOfPackings.l1 kq l1 t730 t733 t748 t733 (t733.length:Int) x111_3 y_a (y_a.length:Int) x136_5 ((rd_T37 t733 x111_3).f0) ((rd_T37 t733 x111_3).f1) ((rd_T37 t733 x111_3).f2) ((rd_T37 t733 x111_3).f3)=some true)∧Aside0 (kq≤kj37)∧Aside0 (Kd.R k37 37 w' w.heap.size (fun k_=>k_≠gboa) (.slice (some ad752) t733.length co34) t733)∧Aside0 (Kd.R (Kd.int .i64) 3 w' w.heap.size (fun _=>True) v750 t748)∧Aside0 (Kd.R k37 37 w' w.heap.size (fun k_=>k_≠gboa) (.slice (some ad752) t733.length co34) t733)∧Aside0 (w'.heap[gboa]?=some (.cells #[.int .i64 ((rd_T37 t733 x111_3).f0),.int .i64 ((rd_T37 t733 x111_3).f1),.int .i64 ((rd_T37 t733 x111_3).f2),.int .i64 ((rd_T37 t733 x111_3).f3)] 37 (0,0)))∧Aside0 (Kd.C k37 w' (some ad752) y_a.length y_a)∧Aside0 (Below w.heap.size w w'))
  case atStart=>exact⟨(0),Z7,H',⟨Nat.le_refl _⟩,⟨(Z1 HO_7)⟩,⟨(Z1 HO_15)⟩,⟨(Z1 HO_109)⟩,⟨(bb_ BKoa)⟩,⟨(Z9 HR759)⟩,⟨ZB⟩⟩
  clear H'
  obtain⟨x136_5,rfl,HA,HK5,HO_7,HO_15,HO_109,BKoa,HR759,HB⟩:=hrel
  obtain _|k5:=gk
  ·
   exact absurd HA.out (by simp[laws_FnCirclesOfPackings.l1])
  have H:=HA.out
  clear HA
  simp only[laws_FnCirclesOfPackings.l1]at H
  by_cases c58:x136_5<(y_a.length:Int)
  rotate_left
  ·
   rw[if_neg c58]at H
   have c58b0:=decide_eq_false c58
   clear c58
   have H':=am H
   clear H
   go_wp2
   go_roundg k5
   case measure=>have:=HJ7.1;have:=HJ22.1;have:=HK3.1;have:=HJ37.1;have:=HK5.1;omega
   exact⟨(wrap64 (x111_3+1)),Z7,H',⟨(by have:=HJ7.1;have:=HJ22.1;have:=HK3.1;have:=HJ37.1;have:=HK5.1;omega)⟩,⟨(Z20 HO_7)⟩,⟨(Z1 HO_15)⟩,⟨(Z20 HO_109)⟩,⟨ZB⟩⟩
  rw[if_pos c58]at H
  have c58b0:=decide_eq_true c58
  clear c58
  obtain⟨c59,H⟩:=ip_ H
  have c59b0:=decide_eq_true c59
  clear c59
  obtain⟨c60,H⟩:=ip_ H
  have c60b0:=decide_eq_true c60
  clear c60
  obtain⟨⟨t762,t763⟩,A61,H⟩:=bs_ H
  try dsimp only at H
  by_cases c62:t763=true
  rotate_left
  ·
   replace c62:=Bool.eq_false_iff.mpr c62
   subst c62
   rw[if_neg (show¬(false=true) by decide)]at H
   exact absurd (Option.some.inj H) (by decide)
  subst c62
  rw[if_pos rfl]at H
  by_cases c63:t762>(-2)
  ·
   rw[if_pos c63]at H
   have c63b0:decide ((-2)<t762)=true:=decide_eq_true c63
   clear c63
   exact absurd (Option.some.inj H) (by decide)
  rw[if_neg c63]at H
  have c63b0:decide ((-2)<t762)=false:=decide_eq_false c63
  clear c63
  have H':=am H
  clear H
  have p760:0≤(x136_5:Int):=of_decide_eq_true Z31
  have q760:x136_5<(y_a.length:Int):=of_decide_eq_true Z31
  obtain⟨ad760,e760,hx760_0,hx760_1,hx760_2,hx760_3⟩:=at_T37 HR759.1 x136_5 p760 q760
  obtain rfl:ad752=ad760:=(by injection e760)
  replace p760:=eq_true p760
  replace q760:=eq_true q760
  go_wp2_with (first|((with_reducible refine gd_ 20 rfl ?_);(try(refine gate_guard (by rfl) ?_;dsimp only));refine box_event ?hg (N:=20) ?hd (cs:=#[.int .i64 0,.int .i64 0,.int .i64 0,.int .i64 0]) (t:=37) ?hr ?_;(case hd=>rfl);(case hg=>rfl);(case hr=>first|(go_simp;done)|(go_simp;rfl));intro gbob hg w69 hbox hb;replace HO_7:=am (Kd.R_below (Kd.R_elderB (Z1 HO_7) gbob (Nat.le_of_eq hg.symm)) hb);replace HO_15:=am (Kd.R_below (Z1 HO_15) hb);replace HO_109:=am (Kd.R_below (Kd.R_elderB (Z1 HO_109) gbob (Nat.le_of_eq hg.symm)) hb);replace HR759:=am (Kd.C_below (Z9 HR759) hb);have BKob:=am hbox;have GWob:=gG_ hg;have GEob:=gG_ hg;replace HB:=bw_ hb;have NBoa_ob:=nl_ BKoa hg;have NBob_oa:=ng_ BKoa hg;replace BKoa:=bk_ BKoa hb;clear hb hbox hg;have hnb70:=NBob_oa.1;have hnc70:=NBoa_ob.1;obtain⟨_,_,_,_,_,_,_,_⟩:=cz4_ BKob;obtain⟨_,_,_,_,_,_,_,_⟩:=cz4_ BKoa)|((with_reducible refine gc_ 14 rfl ?_);refine gM_ (some 143) Tryz.func14 (impl_TwiceProduct.calls ((rd_T37 t733 x111_3).f0) ((rd_T37 t733 x111_3).f1) ((rd_T37 t733 x111_3).f2) ((rd_T37 t733 x111_3).f3) ((rd_T37 y_a x136_5).f0) ((rd_T37 y_a x136_5).f1) ((rd_T37 y_a x136_5).f2) ((rd_T37 y_a x136_5).f3) t762 true _ A61.1) ?_;intro w73 hb;replace HO_15:=am (Kd.R_below (by(with_reducible repeat(first|apply Kd.R_alloc|apply Kd.R_drewN|apply Kd.R_drew));exact(Kd.R_mono (Kd.R_far (p:=⟨gbob,3,none⟩) (Kd.R_far (p:=⟨gbob,2,none⟩) (Kd.R_far (p:=⟨gbob,1,none⟩) (Kd.R_far (p:=⟨gbob,0,none⟩) (Kd.R_types HO_15.1 BKob.1 (by decide)) (fun _ hk=>hk.2) (.int .i64 ((rd_T37 y_a x136_5).f0))) (fun _ hk=>hk.2) (.int .i64 ((rd_T37 y_a x136_5).f1))) (fun _ hk=>hk.2) (.int .i64 ((rd_T37 y_a x136_5).f2))) (fun _ hk=>hk.2) (.int .i64 ((rd_T37 y_a x136_5).f3))) (fun _ h_=>h_.1))) hb);replace HO_109:=am (Kd.R_below (Z40 HO_109) hb);replace BKoa:=bk_ BKoa hb;replace HR759:=am (Kd.C_below ((ceq_ Ny_a.1 (Kd.C_take (m:=(x111_3:Int).toNat) ((Kd.R_reads' ((Kd.R_mono (Kd.R_far (p:=⟨gbob,3,none⟩) (Kd.R_far (p:=⟨gbob,2,none⟩) (Kd.R_far (p:=⟨gbob,1,none⟩) (Kd.R_far (p:=⟨gbob,0,none⟩) (Kd.R_mono HO_7.1 (fun k_ hk=>(⟨hk,hk.2⟩:_∧k_≠gbob))) (fun _ hk=>hk.2) (.int .i64 ((rd_T37 y_a x136_5).f0))) (fun _ hk=>hk.2) (.int .i64 ((rd_T37 y_a x136_5).f1))) (fun _ hk=>hk.2) (.int .i64 ((rd_T37 y_a x136_5).f2))) (fun _ hk=>hk.2) (.int .i64 ((rd_T37 y_a x136_5).f3))) (fun _ h_=>h_.1)))).2.2) KL57.1))) hb);replace HO_7:=am (Kd.R_below (Z40 HO_7) hb);replace BKob:=bk_ BKob hb;replace HB:=bw_ hb;clear hb))
  go_roundg k5
  case measure=>have:=HJ7.1;have:=HJ22.1;have:=HK3.1;have:=HJ37.1;have:=HK5.1;omega
  exact⟨(wrap64 (x136_5+1)),Z7,H',⟨(by have:=HJ7.1;have:=HJ22.1;have:=HK3.1;have:=HJ37.1;have:=HK5.1;omega)⟩,⟨(Z32 HO_7)⟩,⟨(Z1 HO_15)⟩,⟨(Z32 HO_109)⟩,⟨(bb_ BKoa)⟩,⟨(Z9 HR759)⟩,⟨ZB⟩⟩
 clear HC18
 obtain⟨kq,HA,HJ17,HB⟩:=hcut
 obtain _|kj17:=kq
 ·
  exact absurd HA.out (by simp[laws_FnCirclesOfPackings.j5])
 have H:=HA.out
 clear HA
 simp only[laws_FnCirclesOfPackings.j5]at H
 obtain⟨t764,A79,H⟩:=bs_ H
 try dsimp only at H
 obtain⟨⟨t767,t768⟩,A80,H⟩:=bs_ H
 try dsimp only at H
 obtain⟨⟨t771,t772⟩,A81,H⟩:=bs_ H
 try dsimp only at H
 have HC82:=am H
 clear H
 go_upto_region 30 with(first|((with_reducible refine gc_ 15 rfl ?_);refine gE_ (some 155) Tryz.func15 (spec_DrawTouchingPairs.calls kj17 _ _ l1 t764 _ ?side1 ?side2 A79.1) ?_;(case side1=>exact(Z15 HR1));(case side2=>exact HC1.1);rintro v765 w83 ⟨ho0,hb⟩;have HOol:=am (Kd.R_lower ho0 zs_);replace HB:=bw_ hb;clear hb;(try clear ho0);obtain⟨Ao84,co84,eo84⟩:=Kd.R_slice HOol.1;subst eo84)|((with_reducible refine gc_ 16 rfl ?_);refine gE_ (some 158) Tryz.func16 (impl_TouchingPairs.calls kj17 _ _ t764 t767 t768 _ ?side1 ?side2 A80.1) ?_;(case side1=>exact(Z10 HOol));(case side2=>exact(Kd.R_reads' HOol.1).2.1);rintro v769 w85 ⟨ho0,hb⟩;replace HOol:=am (Kd.R_below (Z1 HOol) hb);have HOom:=am (Kd.S_lower ho0 zs_);replace HB:=bw_ hb;clear hb;(try clear ho0))|((with_reducible refine gc_ 17 rfl ?_);refine gE_ (some 163) Tryz.func17 (spec_TouchingPairs.calls kj17 _ _ t764 t771 t772 _ ?side1 ?side2 A81.1) ?_;(case side1=>exact(Z10 HOol));(case side2=>exact(Kd.R_reads' HOol.1).2.1);rintro v773 w86 ⟨ho0,hb⟩;replace HOol:=am (Kd.R_below (Z1 HOol) hb);have HOon:=am (Kd.S_lower (Kd.S_new' ho0 (Kd.S_lt (Z12 HOom))) zs_);replace HOom:=am (Kd.S_elder' (Z12 HOom) (Kd.S_base ho0) hb);replace HB:=bw_ hb;clear hb;(try clear ho0)))
 (try simp only[Act.put,sA_,sB_,sC_])
 go_cut[174]from 48 to 175 (fun v174 wc=>∃(kq:Nat) (x174_81:Bool),v174= .bool x174_81∧Aside0 (laws_FnCirclesOfPackings.j6 kq l1 t764 t767 x174_81=some true)∧Aside0 (kq≤kj17)∧Aside0 (Kd.R k37 37 wc w.heap.size (fun _=>True) (.slice Ao84 t764.length co84) t764)∧Aside0 (Kd.S (Kd.slice 3 (Kd.int .i64)) 30 wc w.heap.size (fun _=>True) v769 t767)∧Aside0 (Below w.heap.size w wc))
 case first=>as_aux_lemma=>
  have H:=HC82.1
  clear HC82
  by_cases c87:(t768 != t772)=true
  ·
   rw[if_pos c87]at H
   have c87b0:(t768 != t772)=true:=c87
   (try(have c87b1:decide (t768=t772)=false:=by simpa using c87))
   (try(have c87b2:(t768==t772)=false:=by simpa using c87))
   (try(have c87b3:¬(t768=t772):=by simpa using c87))
   clear c87
   (first|rw[c87b0]|(simp only[i64_w,i32_w];rw[c87b0])|rw[c87b1]|skip)
   have H':=am H
   clear H
   go_wp2
   go_meet
   exact⟨_,(true),Z7,H',⟨(by have:=HJ7.1;have:=HJ17.1;first|omega|exact Nat.le_refl _)⟩,⟨(Z1 HOol)⟩,⟨(Z48 HOom)⟩,⟨ZB⟩⟩
  rw[if_neg c87]at H
  have c87b0:(t768 != t772)=false:=by simpa using c87
  (try(have c87b1:decide (t768=t772)=true:=by simpa using c87))
  (try(have c87b2:(t768==t772)=true:=by simpa using c87))
  clear c87
  (first|rw[c87b0]|(simp only[i64_w,i32_w];rw[c87b0])|rw[c87b1]|skip)
  obtain⟨t775,A88,H⟩:=bs_ H
  try dsimp only at H
  have H':=am H
  clear H
  obtain⟨Ao89,co89,eo89⟩:=Kd.S_slice HOom.1
  subst eo89
  obtain⟨Ao90,co90,eo90⟩:=Kd.S_slice HOon.1
  subst eo90
  go_wp2_with (first|(go_at_call 18;(with_reducible refine(laws_dLists.calls kj17 _ _ t767 _ _ t771 t775 _ ?side1 ?side2 ?side3 ?side4 A88.1).mono ?_);(case side1=>exact(Z53 HOom));(case side2=>exact(Kd.S_reads' HOom.1).2.1);(case side3=>exact(Z53 HOon));(case side4=>exact(Kd.S_reads' HOon.1).2.1);rintro e w' ⟨rfl,⟨nd,rfl⟩⟩))
  go_meet
  exact⟨_,(!t775),Z7,H',⟨(by have:=HJ7.1;have:=HJ17.1;first|omega|exact Nat.le_refl _)⟩,⟨(Z1 HOol)⟩,⟨(Z48 HOom)⟩,⟨ZB⟩⟩
 clear HC82
 obtain⟨kq,x174_81,rfl,HA,HJ81,HO_23,HO_24,HB⟩:=hcut
 obtain _|kj81:=kq
 ·
  exact absurd HA.out (by simp[laws_FnCirclesOfPackings.j6])
 have H:=HA.out
 clear HA
 simp only[laws_FnCirclesOfPackings.j6]at H
 by_cases c91:x174_81=true
 ·
  subst c91
  rw[if_pos rfl]at H
  exact absurd (Option.some.inj H) (by decide)
 replace c91:=Bool.eq_false_iff.mpr c91
 subst c91
 rw[if_neg (show¬(false=true) by decide)]at H
 have H':=am H
 clear H
 obtain⟨Ao92,co92,eo92⟩:=Kd.S_slice HO_24.1
 subst eo92
 go_wp2
 go_loopg [177] kj81 (fun kq v177 w'=>∃(x177_4:Int),v177= .int .i64 x177_4∧Aside0 (laws_FnCirclesOfPackings.l2 kq l1 t764 t767 t767 (t767.length:Int) x177_4=some true)∧Aside0 (kq≤kj81)∧Aside0 (Kd.R k37 37 w' w.heap.size (fun _=>True) (.slice Ao84 t764.length co84) t764)∧Aside0 (Kd.S (Kd.slice 3 (Kd.int .i64)) 30 w' w.heap.size (fun _=>True) (.slice Ao92 t767.length co92) t767)∧Aside0 (Kd.S (Kd.slice 3 (Kd.int .i64)) 30 w' w.heap.size (fun _=>True) (.slice Ao92 t767.length co92) t767)∧Aside0 (Below w.heap.size w w'))
 case atStart=>exact⟨(0),Z7,H',⟨Nat.le_refl _⟩,⟨(Z1 HO_23)⟩,⟨(Z12 HO_24)⟩,⟨(Z12 HO_24)⟩,⟨ZB⟩⟩
 clear H'
 obtain⟨x177_4,rfl,HA,HK4,HO_23,HO_24,HO_175,HB⟩:=hrel
 obtain _|k4:=gk
 ·
  exact absurd HA.out (by simp[laws_FnCirclesOfPackings.l2])
 have H:=HA.out
 clear HA
 simp only[laws_FnCirclesOfPackings.l2]at H
 by_cases c93:x177_4<(t767.length:Int)
 rotate_left
 ·
  rw[if_neg c93]at H
  have c93b0:=decide_eq_false c93
  clear c93
  obtain⟨⟨t787,t788,t789,t790⟩,A130,H⟩:=bs_ H
  try dsimp only at H
  obtain⟨⟨t792,t793⟩,A131,H⟩:=bs_ H
  try dsimp only at H
  obtain⟨⟨t794,t795⟩,A132,H⟩:=bs_ H
  try dsimp only at H
  have HC133:=am H
  clear H
  go_upto_region 42 with(first|((with_reducible refine gc_ 21 rfl ?_);refine gM_ (some 229) Tryz.func21 (spec_DrawCircleText.calls k4 _ _ l1 t787 t788 t789 t790 _ ?side1 ?side2 A130.1) ?_;(case side1=>exact(Z15 HR1));(case side2=>exact HC1.1);intro w134 hb;replace HO_23:=am (Kd.R_below (Z1 HO_23) hb);replace HO_24:=am (Kd.S_below (Z12 HO_24) hb);replace HO_175:=am (Kd.S_below (Z12 HO_175) hb);replace HB:=bw_ hb;clear hb)|((with_reducible refine gd_ 32 rfl ?_);(try(refine gate_guard (by rfl) ?_;dsimp only));refine box_event ?hg (N:=32) ?hd (cs:=#[.int .i64 0,.int .i64 0,.int .i64 0,.int .i64 0]) (t:=37) ?hr ?_;(case hd=>rfl);(case hg=>rfl);(case hr=>first|(go_simp;done)|(go_simp;rfl));intro gboc hg w135 hbox hb;replace HO_23:=am (Kd.R_below (Kd.R_elderB (Z1 HO_23) gboc (Nat.le_of_eq hg.symm)) hb);replace HO_24:=am (Kd.S_below (Z12 HO_24) hb);replace HO_175:=am (Kd.S_below (Z12 HO_175) hb);have BKoc:=am hbox;have GWoc:=gG_ hg;have GEoc:=gG_ hg;replace HB:=bw_ hb;clear hb hbox hg;obtain⟨_,_,_,_,_,_,_,_⟩:=cz4_ BKoc)|((with_reducible refine gc_ 22 rfl ?_);refine gM_ (some 232) Tryz.func22 (impl_CircleText.calls k4 t787 t788 t789 t790 t792 t793 _ ?tabs A131.1) ?_;(case tabs=>exact Tabs.below HTABS.out ZB (Nat.le_refl _));intro w137 hb;replace HO_23:=am (Kd.R_below (by(with_reducible repeat(first|apply Kd.R_alloc|apply Kd.R_drewN|apply Kd.R_drew));exact(Kd.R_mono (Kd.R_far (p:=⟨gboc,3,none⟩) (Kd.R_far (p:=⟨gboc,2,none⟩) (Kd.R_far (p:=⟨gboc,1,none⟩) (Kd.R_far (p:=⟨gboc,0,none⟩) (Kd.R_mono HO_23.1 (fun k_ hk=>(⟨hk,hk.2⟩:_∧k_≠gboc))) (fun _ hk=>hk.2) (.int .i64 t787)) (fun _ hk=>hk.2) (.int .i64 t788)) (fun _ hk=>hk.2) (.int .i64 t789)) (fun _ hk=>hk.2) (.int .i64 t790)) (fun _ h_=>h_.1))) hb);replace HO_24:=am (Kd.S_below (Z43 HO_24 BKoc) hb);replace HO_175:=am (Kd.S_below (Z43 HO_175 BKoc) hb);replace BKoc:=bk_ BKoc hb;replace HB:=bw_ hb;clear hb;obtain⟨_,_,_,_,_,_,_,_⟩:=cz4_ BKoc)|((with_reducible refine gc_ 23 rfl ?_);refine gM_ (some 237) Tryz.func23 (spec_CircleText.calls k4 t787 t788 t789 t790 t794 t795 _ A132.1) ?_;intro w139 hb;replace HO_23:=am (Kd.R_below (Z1 HO_23) hb);replace HO_24:=am (Kd.S_below (Z12 HO_24) hb);replace HO_175:=am (Kd.S_below (Z12 HO_175) hb);replace BKoc:=bk_ BKoc hb;replace HB:=bw_ hb;clear hb))
  (try simp only[Act.put,sA_,sB_,sC_])
  go_cut[253]from 178 to 254 (fun v253 wc=>∃(kq:Nat) (x253_132:Bool),v253= .bool x253_132∧Aside0 (laws_FnCirclesOfPackings.j8 kq l1 t792 t793 x253_132 t787 t788 t789 t790=some true)∧Aside0 (kq≤k4)∧Aside0 (wc.heap[gboc]?=some (.cells #[.int .i64 t787,.int .i64 t788,.int .i64 t789,.int .i64 t790] 37 (0,0)))∧Aside0 (Below w.heap.size w wc))
  case first=>as_aux_lemma=>
   have H:=HC133.1
   clear HC133
   by_cases c140:(t793 != t795)=true
   ·
    rw[if_pos c140]at H
    have c140b0:(t793 != t795)=true:=c140
    (try(have c140b1:decide (t793=t795)=false:=by simpa using c140))
    (try(have c140b2:(t793==t795)=false:=by simpa using c140))
    (try(have c140b3:¬(t793=t795):=by simpa using c140))
    clear c140
    (first|rw[c140b0]|(simp only[i64_w,i32_w];rw[c140b0])|rw[c140b1]|skip)
    have H':=am H
    clear H
    go_wp2
    go_meet
    exact⟨_,(true),Z7,H',⟨Z52⟩,⟨(bb_ BKoc)⟩,⟨ZB⟩⟩
   rw[if_neg c140]at H
   have c140b0:(t793 != t795)=false:=by simpa using c140
   (try(have c140b1:decide (t793=t795)=true:=by simpa using c140))
   (try(have c140b2:(t793==t795)=true:=by simpa using c140))
   clear c140
   (first|rw[c140b0]|(simp only[i64_w,i32_w];rw[c140b0])|rw[c140b1]|skip)
   by_cases c141:t792.toList=t794.toList
   rotate_left
   ·
    rw[if_neg c141]at H
    obtain⟨c141b0,c141b1⟩:=ne2_ c141
    have H':=am H
    clear H
    go_wp2
    go_meet
    exact⟨_,(true),Z7,H',⟨Z52⟩,⟨(bb_ BKoc)⟩,⟨ZB⟩⟩
   rw[if_pos c141]at H
   obtain⟨c141b0,c141b1⟩:=eq2_ c141
   clear c141
   obtain⟨t796,A142,H⟩:=bs_ H
   try dsimp only at H
   have H':=am H
   clear H
   have hcz143_0:w139.cell? ⟨gboc,0,none⟩=some (.int .i64 t787):=(blk_cell BKoc.1 0).trans rfl
   have hcz143_1:w139.cell? ⟨gboc,1,none⟩=some (.int .i64 t788):=(blk_cell BKoc.1 1).trans rfl
   have hcz143_2:w139.cell? ⟨gboc,2,none⟩=some (.int .i64 t789):=(blk_cell BKoc.1 2).trans rfl
   have hcz143_3:w139.cell? ⟨gboc,3,none⟩=some (.int .i64 t790):=(blk_cell BKoc.1 3).trans rfl
   have hfz143_0:=blk_frozen BKoc.1 0
   have hfz143_1:=blk_frozen BKoc.1 1
   have hfz143_2:=blk_frozen BKoc.1 2
   have hfz143_3:=blk_frozen BKoc.1 3
   go_wp2_with (first|(go_at_call 12;(with_reducible refine(impl_IsCircle.calls t787 t788 t789 t790 t796 _ A142.1).mono ?_);rintro e w144 ⟨rfl,hb⟩;replace HO_23:=am (Kd.R_below (Z1 HO_23) hb);replace HO_24:=am (Kd.S_below (Z12 HO_24) hb);replace HO_175:=am (Kd.S_below (Z12 HO_175) hb);replace BKoc:=bk_ BKoc hb;replace HB:=bw_ hb;clear hb))
   go_meet
   exact⟨_,((t793 != t796)),Z7,H',⟨Z52⟩,⟨(bb_ BKoc)⟩,⟨ZB⟩⟩
  clear HC133
  obtain⟨kq,x253_132,rfl,HA,HJ132,BKoc,HB⟩:=hcut
  obtain _|kj132:=kq
  ·
   exact absurd HA.out (by simp[laws_FnCirclesOfPackings.j8])
  have H:=HA.out
  clear HA
  simp only[laws_FnCirclesOfPackings.j8]at H
  by_cases c145:x253_132=true
  ·
   subst c145
   rw[if_pos rfl]at H
   exact absurd (Option.some.inj H) (by decide)
  replace c145:=Bool.eq_false_iff.mpr c145
  subst c145
  rw[if_neg (show¬(false=true) by decide)]at H
  have HC146:=am H
  clear H
  go_upto_if 254 with(fail)
  go_cut[]from 178 to 286 (fun wc=>∃(kq:Nat),Aside0 (laws_FnCirclesOfPackings.j9 kq l1=some true)∧Aside0 (kq≤kj132)∧Aside0 (wc.heap[gboc]?=some (.cells #[.int .i64 t787,.int .i64 t788,.int .i64 t789,.int .i64 t790] 37 (0,0)))∧Aside0 (Below w.heap.size w wc))
  case first=>as_aux_lemma=>
   have H:=HC146.1
   clear HC146
   by_cases c147:t793=true
   rotate_left
   ·
    replace c147:=Bool.eq_false_iff.mpr c147
    subst c147
    rw[if_neg (show¬(false=true) by decide)]at H
    have H':=am H
    clear H
    go_wp2
    go_meet
    exact⟨_,H',⟨(by have:=HJ7.1;have:=HJ17.1;have:=HJ81.1;have:=HK4.1;have:=HJ132.1;first|omega|exact Nat.le_refl _)⟩,⟨(bb_ BKoc)⟩,⟨ZB⟩⟩
   subst c147
   rw[if_pos rfl]at H
   obtain⟨⟨t797,t798,t799,t800,t801⟩,A148,H⟩:=bs_ H
   try dsimp only at H
   by_cases c149:t801=true
   rotate_left
   ·
    replace c149:=Bool.eq_false_iff.mpr c149
    subst c149
    rw[if_neg (show¬(false=true) by decide)]at H
    exact absurd (Option.some.inj H) (by decide)
   subst c149
   rw[if_pos rfl]at H
   by_cases c150:(!(t797==t787)||(!(t798==t788)||(!(t799==t789)||(!(t800==t790)))))=true
   ·
    rw[if_pos c150]at H
    have c150b0:(!(t797==t787)||(!(t798==t788)||(!(t799==t789)||(!(t800==t790)))))=true:=c150
    clear c150
    (first|rw[c150b0]|(simp only[i64_w,i32_w];rw[c150b0])|skip)
    exact absurd (Option.some.inj H) (by decide)
   rw[if_neg c150]at H
   have c150b0:(!(t797==t787)||(!(t798==t788)||(!(t799==t789)||(!(t800==t790)))))=false:=by simpa using c150
   clear c150
   (first|rw[c150b0]|(simp only[i64_w,i32_w];rw[c150b0])|skip)
   have H':=am H
   clear H
   go_wp2_with (first|((with_reducible refine gc_ 24 rfl ?_);refine gM_ (some 257) Tryz.func24 (impl_ParseCircle.calls kj132 t792 t797 t798 t799 t800 true _ ?tabs ?vars A148.1) ?_;(case tabs=>exact Tabs.below HTABS.out ZB (Nat.le_refl _));(case vars=>exact Vars.below HVARS.out ZB (Nat.le_refl _));intro w156 hb;replace BKoc:=bk_ BKoc hb;replace HB:=bw_ hb;clear hb)|((with_reducible refine gd_ 37 rfl ?_);(try(refine gate_guard (by rfl) ?_;dsimp only));refine box_event ?hg (N:=37) ?hd (cs:=#[.int .i64 0,.int .i64 0,.int .i64 0,.int .i64 0]) (t:=37) ?hr ?_;(case hd=>rfl);(case hg=>rfl);(case hr=>first|(go_simp;done)|(go_simp;rfl));intro gbod hg w157 hbox hb;have BKod:=am hbox;have GWod:=gG_ hg;have GEod:=gG_ hg;replace HB:=bw_ hb;have NBoc_od:=nl_ BKoc hg;have NBod_oc:=ng_ BKoc hg;replace BKoc:=bk_ BKoc hb;clear hb hbox hg;have hnb158:=NBod_oc.1;have hnc158:=NBoc_od.1;obtain⟨_,_,_,_,_,_,_,_⟩:=cz4_ BKod;obtain⟨_,_,_,_,_,_,_,_⟩:=cz4_ BKoc))
   go_meet
   exact⟨_,H',⟨(by have:=HJ7.1;have:=HJ17.1;have:=HJ81.1;have:=HK4.1;have:=HJ132.1;first|omega|exact Nat.le_refl _)⟩,⟨(bb_ BKoc)⟩,⟨ZB⟩⟩
  clear HC146
  obtain⟨kq,HA,HJ145,BKoc,HB⟩:=hcut
  obtain _|kj145:=kq
  ·
   exact absurd HA.out (by simp[laws_FnCirclesOfPackings.j9])
  have H:=HA.out
  clear HA
  simp only[laws_FnCirclesOfPackings.j9]at H
  obtain⟨t803,A165,H⟩:=bs_ H
  try dsimp only at H
  obtain⟨⟨t804,t805,t806,t807,t808⟩,A166,H⟩:=bs_ H
  try dsimp only at H
  obtain⟨⟨t810,t811,t812,t813,t814⟩,A167,H⟩:=bs_ H
  try dsimp only at H
  have HC168:=am H
  clear H
  go_upto_region 51 with(first|((with_reducible refine gc_ 25 rfl ?_);refine gM_ (some 268) Tryz.func25 (spec_DrawParseCircle.calls kj145 _ _ l1 t803 _ ?side1 ?side2 A165.1) ?_;(case side1=>exact(Z15 HR1));(case side2=>exact HC1.1);intro w169 hb;replace BKoc:=bk_ BKoc hb;replace HB:=bw_ hb;clear hb)|((with_reducible refine gc_ 24 rfl ?_);refine gM_ (some 271) Tryz.func24 (impl_ParseCircle.calls kj145 t803 t804 t805 t806 t807 t808 _ ?tabs ?vars A166.1) ?_;(case tabs=>exact Tabs.below HTABS.out ZB (Nat.le_refl _));(case vars=>exact Vars.below HVARS.out ZB (Nat.le_refl _));intro w170 hb;replace BKoc:=bk_ BKoc hb;replace HB:=bw_ hb;clear hb)|((with_reducible refine gd_ 40 rfl ?_);(try(refine gate_guard (by rfl) ?_;dsimp only));refine box_event ?hg (N:=40) ?hd (cs:=#[.int .i64 0,.int .i64 0,.int .i64 0,.int .i64 0]) (t:=37) ?hr ?_;(case hd=>rfl);(case hg=>rfl);(case hr=>first|(go_simp;done)|(go_simp;rfl));intro gboe hg w171 hbox hb;have BKoe:=am hbox;have GWoe:=gG_ hg;have GEoe:=gG_ hg;replace HB:=bw_ hb;have NBoc_oe:=nl_ BKoc hg;have NBoe_oc:=ng_ BKoc hg;replace BKoc:=bk_ BKoc hb;clear hb hbox hg;have hnb172:=NBoe_oc.1;have hnc172:=NBoc_oe.1;obtain⟨_,_,_,_,_,_,_,_⟩:=cz4_ BKoe)|((with_reducible refine gc_ 26 rfl ?_);refine gM_ (some 276) Tryz.func26 (spec_ParseCircle.calls kj145 t803 t810 t811 t812 t813 t814 _ A167.1) ?_;intro w174 hb;replace BKoc:=bk_ BKoc hb;replace BKoe:=bk_ BKoe hb;replace HB:=bw_ hb;clear hb)|((with_reducible refine gd_ 42 rfl ?_);(try(refine gate_guard (by rfl) ?_;dsimp only));refine box_event ?hg (N:=42) ?hd (cs:=#[.int .i64 0,.int .i64 0,.int .i64 0,.int .i64 0]) (t:=37) ?hr ?_;(case hd=>rfl);(case hg=>rfl);(case hr=>first|(go_simp;done)|(go_simp;rfl));intro gbof hg w175 hbox hb;have BKof:=am hbox;have GWof:=gG_ hg;have GEof:=gG_ hg;replace HB:=bw_ hb;have NBoc_of:=nl_ BKoc hg;have NBof_oc:=ng_ BKoc hg;replace BKoc:=bk_ BKoc hb;have NBoe_of:=nl_ BKoe hg;have NBof_oe:=ng_ BKoe hg;replace BKoe:=bk_ BKoe hb;clear hb hbox hg;have hnb176:=NBof_oc.1;have hnc176:=NBoc_of.1;have hnb177:=NBof_oe.1;have hnc177:=NBoe_of.1;obtain⟨_,_,_,_,_,_,_,_⟩:=cz4_ BKof))
  (try simp only[Act.put,sA_,sB_,sC_])
  go_cut[286]from 48 to 287 (fun v286 wc=>∃(kq:Nat) (x286_167:Bool),v286= .bool x286_167∧Aside0 (laws_FnCirclesOfPackings.j10 kq t803 t808 x286_167 t804 t805 t806 t807=some true)∧Aside0 (kq≤kj145)∧Aside0 (wc.heap[gboc]?=some (.cells #[.int .i64 t787,.int .i64 t788,.int .i64 t789,.int .i64 t790] 37 (0,0)))∧Aside0 (wc.heap[gboe]?=some (.cells #[.int .i64 t804,.int .i64 t805,.int .i64 t806,.int .i64 t807] 37 (0,0)))∧Aside0 (wc.heap[gbof]?=some (.cells #[.int .i64 t810,.int .i64 t811,.int .i64 t812,.int .i64 t813] 37 (0,0)))∧Aside0 (Below w.heap.size w wc))
  case first=>as_aux_lemma=>
   have H:=HC168.1
   clear HC168
   by_cases c179:(t808 != t814)=true
   ·
    rw[if_pos c179]at H
    have c179b0:(t808 != t814)=true:=c179
    (try(have c179b1:decide (t808=t814)=false:=by simpa using c179))
    (try(have c179b2:(t808==t814)=false:=by simpa using c179))
    (try(have c179b3:¬(t808=t814):=by simpa using c179))
    clear c179
    (first|rw[c179b0]|(simp only[i64_w,i32_w];rw[c179b0])|rw[c179b1]|skip)
    have H':=am H
    clear H
    go_wp2
    go_meet
    exact⟨_,(true),Z7,H',⟨(by have:=HJ7.1;have:=HJ17.1;have:=HJ81.1;have:=HK4.1;have:=HJ132.1;have:=HJ145.1;first|omega|exact Nat.le_refl _)⟩,⟨(bb_ BKoc)⟩,⟨(bb_ BKoe)⟩,⟨(bb_ BKof)⟩,⟨ZB⟩⟩
   rw[if_neg c179]at H
   have c179b0:(t808 != t814)=false:=by simpa using c179
   (try(have c179b1:decide (t808=t814)=true:=by simpa using c179))
   (try(have c179b2:(t808==t814)=true:=by simpa using c179))
   clear c179
   (first|rw[c179b0]|(simp only[i64_w,i32_w];rw[c179b0])|rw[c179b1]|skip)
   have H':=am H
   clear H
   have hnb180:=NBoe_oc.1
   have hnc180:=NBoc_oe.1
   have hnb181:=NBoe_of.1
   have hnc181:=NBof_oe.1
   have hcz182_0:w175.cell? ⟨gboe,0,none⟩=some (.int .i64 t804):=(blk_cell BKoe.1 0).trans rfl
   have hcz182_1:w175.cell? ⟨gboe,1,none⟩=some (.int .i64 t805):=(blk_cell BKoe.1 1).trans rfl
   have hcz182_2:w175.cell? ⟨gboe,2,none⟩=some (.int .i64 t806):=(blk_cell BKoe.1 2).trans rfl
   have hcz182_3:w175.cell? ⟨gboe,3,none⟩=some (.int .i64 t807):=(blk_cell BKoe.1 3).trans rfl
   have hfz182_0:=blk_frozen BKoe.1 0
   have hfz182_1:=blk_frozen BKoe.1 1
   have hfz182_2:=blk_frozen BKoe.1 2
   have hfz182_3:=blk_frozen BKoe.1 3
   have hnb183:=NBof_oc.1
   have hnc183:=NBoc_of.1
   have hcz184_0:w175.cell? ⟨gbof,0,none⟩=some (.int .i64 0):=(blk_cell BKof.1 0).trans rfl
   have hcz184_1:w175.cell? ⟨gbof,1,none⟩=some (.int .i64 0):=(blk_cell BKof.1 1).trans rfl
   have hcz184_2:w175.cell? ⟨gbof,2,none⟩=some (.int .i64 0):=(blk_cell BKof.1 2).trans rfl
   have hcz184_3:w175.cell? ⟨gbof,3,none⟩=some (.int .i64 0):=(blk_cell BKof.1 3).trans rfl
   have hfz184_0:=blk_frozen BKof.1 0
   have hfz184_1:=blk_frozen BKof.1 1
   have hfz184_2:=blk_frozen BKof.1 2
   have hfz184_3:=blk_frozen BKof.1 3
   go_wp2
   go_meet
   exact⟨_,((!(t804==t810)||(!(t805==t811)||(!(t806==t812)||(!(t807==t813)))))),Z7,H',⟨(by have:=HJ7.1;have:=HJ17.1;have:=HJ81.1;have:=HK4.1;have:=HJ132.1;have:=HJ145.1;first|omega|exact Nat.le_refl _)⟩,⟨(bb_ BKoc)⟩,⟨(bb_ BKoe)⟩,⟨(bb_ BKof)⟩,⟨ZB⟩⟩
  clear HC168
  obtain⟨kq,x286_167,rfl,HA,HJ167,BKoc,BKoe,BKof,HB⟩:=hcut
  obtain _|kj167:=kq
  ·
   exact absurd HA.out (by simp[laws_FnCirclesOfPackings.j10])
  have H:=HA.out
  clear HA
  simp only[laws_FnCirclesOfPackings.j10]at H
  by_cases c185:x286_167=true
  ·
   subst c185
   rw[if_pos rfl]at H
   exact absurd (Option.some.inj H) (by decide)
  replace c185:=Bool.eq_false_iff.mpr c185
  subst c185
  rw[if_neg (show¬(false=true) by decide)]at H
  by_cases c186:t808=true
  rotate_left
  ·
   replace c186:=Bool.eq_false_iff.mpr c186
   subst c186
   rw[if_neg (show¬(false=true) by decide)]at H
   clear H
   go_wp2
   go_ret
   exact⟨Z6,ZB⟩
  subst c186
  rw[if_pos rfl]at H
  obtain⟨⟨t816,t817⟩,A187,H⟩:=bs_ H
  try dsimp only at H
  by_cases c188:t817=true
  rotate_left
  ·
   replace c188:=Bool.eq_false_iff.mpr c188
   subst c188
   rw[if_neg (show¬(false=true) by decide)]at H
   exact absurd (Option.some.inj H) (by decide)
  subst c188
  rw[if_pos rfl]at H
  have HE:=am (Option.some.inj H)
  clear H
  have hnb189:=NBoe_oc.1
  have hnc189:=NBoc_oe.1
  have hnb190:=NBoe_of.1
  have hnc190:=NBof_oe.1
  have hcz191_0:wc.cell? ⟨gboe,0,none⟩=some (.int .i64 t804):=(blk_cell BKoe.1 0).trans rfl
  have hcz191_1:wc.cell? ⟨gboe,1,none⟩=some (.int .i64 t805):=(blk_cell BKoe.1 1).trans rfl
  have hcz191_2:wc.cell? ⟨gboe,2,none⟩=some (.int .i64 t806):=(blk_cell BKoe.1 2).trans rfl
  have hcz191_3:wc.cell? ⟨gboe,3,none⟩=some (.int .i64 t807):=(blk_cell BKoe.1 3).trans rfl
  have hfz191_0:=blk_frozen BKoe.1 0
  have hfz191_1:=blk_frozen BKoe.1 1
  have hfz191_2:=blk_frozen BKoe.1 2
  have hfz191_3:=blk_frozen BKoe.1 3
  go_wp2_with (first|((with_reducible refine gc_ 22 rfl ?_);refine gM_ (some 290) Tryz.func22 (impl_CircleText.calls kj167 t804 t805 t806 t807 t816 true _ ?tabs A187.1) ?_;(case tabs=>exact Tabs.below HTABS.out ZB (Nat.le_refl _));intro w192 hb;replace BKoc:=bk_ BKoc hb;replace BKoe:=bk_ BKoe hb;replace BKof:=bk_ BKof hb;replace HB:=bw_ hb;clear hb))
  go_ret
  exact⟨(show Ending.returned (Value.bool (t816.toList==t803.toList))=_ by rw[HE.out]),ZB⟩
 rw[if_pos c93]at H
 have c93b0:=decide_eq_true c93
 clear c93
 obtain⟨c94,H⟩:=ip_ H
 have c94b0:=decide_eq_true c94
 clear c94
 obtain⟨c95,H⟩:=ip_ H
 have c95b0:=decide_eq_true c95
 clear c95
 obtain⟨c96,H⟩:=ip_ H
 have c96b0:=decide_eq_true c96
 have c96b1:decide (0<(rd_L5 t767 x177_4).length)=true:=decide_eq_true (by omega)
 clear c96
 obtain⟨c97,H⟩:=ip_ H
 have c97b0:=decide_eq_true c97
 clear c97
 obtain⟨c98,H⟩:=ip_ H
 have c98b0:=decide_eq_true c98
 clear c98
 obtain⟨c99,H⟩:=ip_ H
 have c99b0:=decide_eq_true c99
 have c99b1:decide (1<(rd_L5 t767 x177_4).length)=true:=decide_eq_true (by omega)
 clear c99
 obtain⟨c100,H⟩:=ip_ H
 have c100b0:=decide_eq_true c100
 clear c100
 obtain⟨c101,H⟩:=ip_ H
 have c101b0:=decide_eq_true c101
 clear c101
 obtain⟨⟨t781,t782⟩,A102,H⟩:=bs_ H
 try dsimp only at H
 by_cases c103:t782=true
 rotate_left
 ·
  replace c103:=Bool.eq_false_iff.mpr c103
  subst c103
  rw[if_neg (show¬(false=true) by decide)]at H
  exact absurd (Option.some.inj H) (by decide)
 subst c103
 rw[if_pos rfl]at H
 by_cases c104:t781=true
 rotate_left
 ·
  replace c104:=Bool.eq_false_iff.mpr c104
  subst c104
  rw[if_neg (show¬(false=true) by decide)]at H
  exact absurd (Option.some.inj H) (by decide)
 subst c104
 rw[if_pos rfl]at H
 by_cases c105:(rd (rd_L5 t767 x177_4) 0)≥(rd (rd_L5 t767 x177_4) 1)
 ·
  rw[if_pos c105]at H
  have c105b0:decide ((rd (rd_L5 t767 x177_4) 1)≤(rd (rd_L5 t767 x177_4) 0))=true:=decide_eq_true c105
  clear c105
  exact absurd (Option.some.inj H) (by decide)
 rw[if_neg c105]at H
 have c105b0:decide ((rd (rd_L5 t767 x177_4) 1)≤(rd (rd_L5 t767 x177_4) 0))=false:=decide_eq_false c105
 clear c105
 by_cases c109:x177_4>0
 rotate_left
 ·
  rw[if_neg c109]at H
  have c109b0:decide (0<x177_4)=false:=decide_eq_false c109
  clear c109
  have H':=am H
  clear H
  have p776:0≤(x177_4:Int):=of_decide_eq_true Z31
  have q776:x177_4<(t767.length:Int):=of_decide_eq_true Z31
  obtain⟨ad776,A776_0,c776_0,e776,hx776_0,hl776_0,hi776_0⟩:=at_L5 (Kd.S_reads' HO_175.1).2.2 x177_4 p776 q776
  cases e776
  obtain⟨ce776,hce776,hMe776,hcc776⟩:=Kd.S_get HO_175.1 [] x177_4 p776 (by first|exact q776|exact of_decide_eq_true Z31|(have e_:=(Kd.S_reads' HO_175.1).1;omega))
  obtain⟨ve776_0,rfl,ge776_0⟩:=hMe776
  have hv776_0:=hcc776 0 _ rfl
  rw[Nat.add_zero,show((Kd.slice 3 (Kd.int .i64))).sz=1 from rfl,Nat.mul_one]at hv776_0
  replace hv776_0:=Option.some.inj (hv776_0.symm.trans hx776_0)
  rw[hv776_0]at ge776_0
  have HL776_0:=am (show Kd.R (Kd.int .i64) 3 _ _ _ _ (rd_L5 t767 x177_4)from ge776_0)
  clear hv776_0 ge776_0
  clear hcc776 hce776
  have HR776_0:=am hi776_0
  have HC776_0:=am hl776_0
  clear hi776_0 hl776_0
  replace p776:=eq_true p776
  replace q776:=eq_true q776
  try go_wp2
  have n0_:=am (Kd.R_drew HO_23.1)
  have n1_:=am (Kd.S_drew HO_24.1)
  have n2_:=am (Kd.S_drew HO_175.1)
  have n3_:=am (Kd.R_drew HL776_0.1)
  have n4_:=am (Kd.C_drew HR776_0.1)
  have n5_:=am (below_drew1 HB.1)
  clear HO_23
  clear HO_24
  clear HO_175
  clear HL776_0
  clear HR776_0
  clear HB
  have HO_23:=n0_
  have HO_24:=n1_
  have HO_175:=n2_
  have HL776_0:=n3_
  have HR776_0:=n4_
  have HB:=n5_
  clear n0_ n1_ n2_ n3_ n4_ n5_
  have p777:0≤(0:Int):=(by omega)
  have q777:0<((rd_L5 t767 x177_4).length:Int):=of_decide_eq_true Z31
  obtain⟨ad777,e777,hx777_0⟩:=Kd.at_int (Z9 HR776_0) 0 p777 q777
  cases e777
  have qi777:(0<(rd_L5 t767 x177_4).length)=True:=eq_true (by omega)
  (try rw[show((0:Int)).toNat=0 from rfl]at hx777_0)
  (try rw[Addr.add_zero']at hx777_0)
  replace p777:=eq_true p777
  replace q777:=eq_true q777
  have p778:0≤((rd (rd_L5 t767 x177_4) 0):Int):=of_decide_eq_true Z31
  have q778:(rd (rd_L5 t767 x177_4) 0)<(t764.length:Int):=of_decide_eq_true Z31
  obtain⟨ad778,e778,hx778_0,hx778_1,hx778_2,hx778_3⟩:=at_T37 (Kd.R_reads' HO_23.1).2.2 (rd (rd_L5 t767 x177_4) 0) p778 q778
  cases e778
  replace p778:=eq_true p778
  replace q778:=eq_true q778
  have p779:0≤(1:Int):=(by omega)
  have q779:1<((rd_L5 t767 x177_4).length:Int):=of_decide_eq_true Z31
  obtain⟨ad779,e779,hx779_0⟩:=Kd.at_int (Z9 HR776_0) 1 p779 q779
  obtain rfl:ad777=ad779:=(by injection e779)
  (try simp only[show(1:Int).toNat=1 from rfl,Nat.reduceMul,Nat.reduceEqDiff,Go.Addr.add,↓reduceIte]at hx779_0)
  have qi779:(1<(rd_L5 t767 x177_4).length)=True:=eq_true (by omega)
  (try rw[show((1:Int)).toNat=1 from rfl]at hx779_0)
  replace p779:=eq_true p779
  replace q779:=eq_true q779
  have p780:0≤((rd (rd_L5 t767 x177_4) 1):Int):=of_decide_eq_true Z31
  have q780:(rd (rd_L5 t767 x177_4) 1)<(t764.length:Int):=of_decide_eq_true Z31
  obtain⟨ad780,e780,hx780_0,hx780_1,hx780_2,hx780_3⟩:=at_T37 (Kd.R_reads' HO_23.1).2.2 (rd (rd_L5 t767 x177_4) 1) p780 q780
  obtain rfl:ad778=ad780:=(by injection e780)
  replace p780:=eq_true p780
  replace q780:=eq_true q780
  refine start_ (n:=18) (S:=fun w'=>w'.cell? ad777=some (.int .i64 (rd (rd_L5 t767 x177_4) 0))∧w'.cell? (ad778.add (((rd (rd_L5 t767 x177_4) 0)).toNat*4))=some (.int .i64 ((rd_T37 t764 (rd (rd_L5 t767 x177_4) 0)).f0))∧w'.cell? ⟨(ad778.add (((rd (rd_L5 t767 x177_4) 0)).toNat*4)).block,(ad778.add (((rd (rd_L5 t767 x177_4) 0)).toNat*4)).off+1,none⟩=some (.int .i64 ((rd_T37 t764 (rd (rd_L5 t767 x177_4) 0)).f1))∧w'.cell? ⟨(ad778.add (((rd (rd_L5 t767 x177_4) 0)).toNat*4)).block,(ad778.add (((rd (rd_L5 t767 x177_4) 0)).toNat*4)).off+2,none⟩=some (.int .i64 ((rd_T37 t764 (rd (rd_L5 t767 x177_4) 0)).f2))∧w'.cell? ⟨(ad778.add (((rd (rd_L5 t767 x177_4) 0)).toNat*4)).block,(ad778.add (((rd (rd_L5 t767 x177_4) 0)).toNat*4)).off+3,none⟩=some (.int .i64 ((rd_T37 t764 (rd (rd_L5 t767 x177_4) 0)).f3))∧w'.cell? ⟨ad777.block,ad777.off+1,none⟩=some (.int .i64 (rd (rd_L5 t767 x177_4) 1))∧w'.cell? (ad778.add (((rd (rd_L5 t767 x177_4) 1)).toNat*4))=some (.int .i64 ((rd_T37 t764 (rd (rd_L5 t767 x177_4) 1)).f0))∧w'.cell? ⟨(ad778.add (((rd (rd_L5 t767 x177_4) 1)).toNat*4)).block,(ad778.add (((rd (rd_L5 t767 x177_4) 1)).toNat*4)).off+1,none⟩=some (.int .i64 ((rd_T37 t764 (rd (rd_L5 t767 x177_4) 1)).f1))∧w'.cell? ⟨(ad778.add (((rd (rd_L5 t767 x177_4) 1)).toNat*4)).block,(ad778.add (((rd (rd_L5 t767 x177_4) 1)).toNat*4)).off+2,none⟩=some (.int .i64 ((rd_T37 t764 (rd (rd_L5 t767 x177_4) 1)).f2))∧w'.cell? ⟨(ad778.add (((rd (rd_L5 t767 x177_4) 1)).toNat*4)).block,(ad778.add (((rd (rd_L5 t767 x177_4) 1)).toNat*4)).off+3,none⟩=some (.int .i64 ((rd_T37 t764 (rd (rd_L5 t767 x177_4) 1)).f3))) (ds:=[]) N2 Z19 rfl rfl ⟨hx777_0,hx778_0,hx778_1,hx778_2,hx778_3,hx779_0,hx780_0,hx780_1,hx780_2,hx780_3⟩ (fun hHeld=>?_);refine with_tabW laws_FnCirclesOfPackings.tab35 laws_FnCirclesOfPackings.bits35 (fun HT_ HW_=>?_)
  generalize wr.drew=w121 at HO_23 HO_24 HO_175 HL776_0 HR776_0 HB hx777_0 hx778_0 hx778_1 hx778_2 hx778_3 hx779_0 hx780_0 hx780_1 hx780_2 hx780_3 hHeld ⊢
  refine purz_ 0 183 N4 HT_ ?_
  refine purz_ 1 184 N6 HT_ ?_
  refine purz_ 2 185 N8 HT_ ?_
  refine purz_ 6 189 N9 HT_ ?_
  refine purz_ 7 190 N10 HT_ ?_
  refine purz_ 8 191 N11 HT_ ?_
  refine takz10_ 3 186 N13 HT_ HW_ hHeld ?_
  refine purz_ 4 187 N15 HT_ ?_
  refine takz10_ 5 188 N20 HT_ HW_ hHeld ?_
  refine takz10_ 9 192 N23 HT_ HW_ hHeld ?_
  refine purz_ 10 193 N24 HT_ ?_
  refine takz10_ 11 194 N26 HT_ HW_ hHeld ?_
  refine one_ (i:=12) (N:=some 195) N28 rfl rfl (one_of HT_.out Z19) (by decide) (fun K hK=>?_)
  refine goes_ Tryz.func19 Z19 rfl #[.agg #[.int .i64 ((rd_T37 t764 (rd (rd_L5 t767 x177_4) 0)).f0),.int .i64 ((rd_T37 t764 (rd (rd_L5 t767 x177_4) 0)).f1),.int .i64 ((rd_T37 t764 (rd (rd_L5 t767 x177_4) 0)).f2),.int .i64 ((rd_T37 t764 (rd (rd_L5 t767 x177_4) 0)).f3)],.agg #[.int .i64 ((rd_T37 t764 (rd (rd_L5 t767 x177_4) 1)).f0),.int .i64 ((rd_T37 t764 (rd (rd_L5 t767 x177_4) 1)).f1),.int .i64 ((rd_T37 t764 (rd (rd_L5 t767 x177_4) 1)).f2),.int .i64 ((rd_T37 t764 (rd (rd_L5 t767 x177_4) 1)).f3)]] (by rfl) rfl rfl Z18 ?_
  with_reducible refine(impl_DoTouch.calls ((rd_T37 t764 (rd (rd_L5 t767 x177_4) 0)).f0) ((rd_T37 t764 (rd (rd_L5 t767 x177_4) 0)).f1) ((rd_T37 t764 (rd (rd_L5 t767 x177_4) 0)).f2) ((rd_T37 t764 (rd (rd_L5 t767 x177_4) 0)).f3) ((rd_T37 t764 (rd (rd_L5 t767 x177_4) 1)).f0) ((rd_T37 t764 (rd (rd_L5 t767 x177_4) 1)).f1) ((rd_T37 t764 (rd (rd_L5 t767 x177_4) 1)).f2) ((rd_T37 t764 (rd (rd_L5 t767 x177_4) 1)).f3) true true _ A102.1).mono ?_
  rintro e w122 ⟨rfl,hb⟩
  have HS0_:=(hb.cell (World.block_lt_of_cell? _ _ (hHeld.1))).trans (hHeld.1)
  have HS1_:=(hb.cell (World.block_lt_of_cell? _ _ (hHeld.2.1))).trans (hHeld.2.1)
  have HS2_:=(hb.cell (World.block_lt_of_cell? _ _ (hHeld.2.2.1))).trans (hHeld.2.2.1)
  have HS3_:=(hb.cell (World.block_lt_of_cell? _ _ (hHeld.2.2.2.1))).trans (hHeld.2.2.2.1)
  have HS4_:=(hb.cell (World.block_lt_of_cell? _ _ (hHeld.2.2.2.2.1))).trans (hHeld.2.2.2.2.1)
  have HS5_:=(hb.cell (World.block_lt_of_cell? _ _ (hHeld.2.2.2.2.2.1))).trans (hHeld.2.2.2.2.2.1)
  have HS6_:=(hb.cell (World.block_lt_of_cell? _ _ (hHeld.2.2.2.2.2.2.1))).trans (hHeld.2.2.2.2.2.2.1)
  have HS7_:=(hb.cell (World.block_lt_of_cell? _ _ (hHeld.2.2.2.2.2.2.2.1))).trans (hHeld.2.2.2.2.2.2.2.1)
  have HS8_:=(hb.cell (World.block_lt_of_cell? _ _ (hHeld.2.2.2.2.2.2.2.2.1))).trans (hHeld.2.2.2.2.2.2.2.2.1)
  have HS9_:=(hb.cell (World.block_lt_of_cell? _ _ (hHeld.2.2.2.2.2.2.2.2.2))).trans (hHeld.2.2.2.2.2.2.2.2.2)
  refine⟨_,rfl,?_⟩
  have n0_:=am (Kd.R_below (Z1 HO_23) hb)
  have n1_:=am (Kd.S_below (Z12 HO_24) hb)
  have n2_:=am (Kd.S_below (Z12 HO_175) hb)
  have n3_:=am (Kd.R_below (Z1 HL776_0) hb)
  have n4_:=am (Kd.C_below (Z9 HR776_0) hb)
  have n5_:=bw_ hb
  clear HO_23
  clear HO_24
  clear HO_175
  clear HL776_0
  clear HR776_0
  clear HB
  have HO_23:=n0_
  have HO_24:=n1_
  have HO_175:=n2_
  have HL776_0:=n3_
  have HR776_0:=n4_
  have HB:=n5_
  clear n0_ n1_ n2_ n3_ n4_ n5_
  (try clear hb)
  (try clear hb2)
  (try clear hk)
  (try clear hi)
  refine hK.out _ _ ⟨HS0_,HS1_,HS2_,HS3_,HS4_,HS5_,HS6_,HS7_,HS8_,HS9_⟩ (fun hHeld=>?_)
  clear hK K
  refine norm_ (a':=?_) ?_ ?_
  rotate_left
  ·
   show Act.put _ (some 195) _=_
   simp only[Act.put,sA_,sB_,sC_,i64_w,i32_w]
   rfl
  refine purz_ 13 182 N30 HT_ ?_
  refine purz_ 14 196 N32 HT_ ?_
  refine purz_ 15 197 N34 HT_ ?_
  refine purz_ 16 30 N36 HT_ ?_
  refine purz_ 17 31 N48 HT_ ?_
  refine done_ (done_of HT_.out Z19) ?_
  try go_wp2
  have n0_:=am (Kd.R_drew HO_23.1)
  have n1_:=am (Kd.S_drew HO_24.1)
  have n2_:=am (Kd.S_drew HO_175.1)
  have n3_:=am (Kd.R_drew HL776_0.1)
  have n4_:=am (Kd.C_drew HR776_0.1)
  have n5_:=am (below_drew1 HB.1)
  clear HO_23
  clear HO_24
  clear HO_175
  clear HL776_0
  clear HR776_0
  clear HB
  have HO_23:=n0_
  have HO_24:=n1_
  have HO_175:=n2_
  have HL776_0:=n3_
  have HR776_0:=n4_
  have HB:=n5_
  clear n0_ n1_ n2_ n3_ n4_ n5_
  have p783:0≤(0:Int):=(by omega)
  have q783:0<((rd_L5 t767 x177_4).length:Int):=of_decide_eq_true Z31
  obtain⟨ad783,e783,hx783_0⟩:=Kd.at_int (Z9 HR776_0) 0 p783 q783
  obtain rfl:ad777=ad783:=(by injection e783)
  have qi783:(0<(rd_L5 t767 x177_4).length)=True:=eq_true (by omega)
  (try rw[show((0:Int)).toNat=0 from rfl]at hx783_0)
  (try rw[Addr.add_zero']at hx783_0)
  replace p783:=eq_true p783
  replace q783:=eq_true q783
  have p784:0≤(1:Int):=(by omega)
  have q784:1<((rd_L5 t767 x177_4).length:Int):=of_decide_eq_true Z31
  obtain⟨ad784,e784,hx784_0⟩:=Kd.at_int (Z9 HR776_0) 1 p784 q784
  obtain rfl:ad777=ad784:=(by injection e784)
  (try simp only[show(1:Int).toNat=1 from rfl,Nat.reduceMul,Nat.reduceEqDiff,Go.Addr.add,↓reduceIte]at hx784_0)
  have qi784:(1<(rd_L5 t767 x177_4).length)=True:=eq_true (by omega)
  (try rw[show((1:Int)).toNat=1 from rfl]at hx784_0)
  replace p784:=eq_true p784
  replace q784:=eq_true q784
  refine start_ (n:=29) (S:=fun w'=>w'.cell? ad777=some (.int .i64 (rd (rd_L5 t767 x177_4) 0))∧w'.cell? ⟨ad777.block,ad777.off+1,none⟩=some (.int .i64 (rd (rd_L5 t767 x177_4) 1))) (ds:=[]) N1 Z19 rfl rfl ⟨hx783_0,hx784_0⟩ (fun hHeld=>?_);refine with_tabW laws_FnCirclesOfPackings.tab36 laws_FnCirclesOfPackings.bits36 (fun HT_ HW_=>?_)
  generalize w122.drew=w123 at HO_23 HO_24 HO_175 HL776_0 HR776_0 HB hx783_0 hx784_0 hHeld ⊢
  refine purz_ 0 198 N3 HT_ ?_
  refine purz_ 1 199 N5 HT_ ?_
  refine purz_ 2 200 N7 HT_ ?_
  refine purz_ 3 201 N12 HT_ ?_
  refine purz_ 4 202 N14 HT_ ?_
  refine purz_ 5 203 N16 HT_ ?_
  refine purz_ 6 204 N17 HT_ ?_
  refine purz_ 7 205 N18 HT_ ?_
  refine purz_ 8 206 N19 HT_ ?_
  refine purz_ 10 208 N21 HT_ ?_
  refine purz_ 11 209 N22 HT_ ?_
  refine takz2_ 9 207 N25 HT_ HW_ hHeld ?_
  refine takz2_ 12 210 N27 HT_ HW_ hHeld ?_
  refine purz_ 13 211 N29 HT_ ?_
  refine purz_ 14 212 N31 HT_ ?_
  refine purz_ 15 213 N33 HT_ ?_
  refine purz_ 16 214 N35 HT_ ?_
  refine purz_ 17 215 N37 HT_ ?_
  refine purz_ 18 216 N38 HT_ ?_
  refine purw_ 19 217 N39 HT_ ?_
  refine purw_ 20 218 N40 HT_ ?_
  refine purw_ 21 219 N41 HT_ ?_
  refine purw_ 22 220 N42 HT_ ?_
  refine purw_ 23 221 #[true,true,true,true,true,true,true,true,true,true,true,true,true,true,true,true,true,true,true,true,true,true,true,true,false,false,false,false,false] HT_ ?_
  refine purw_ 24 222 N43 HT_ ?_
  refine purw_ 25 223 N44 HT_ ?_
  refine purw_ 26 224 N45 HT_ ?_
  refine purz_ 27 225 N46 HT_ ?_
  refine purz_ 28 226 N47 HT_ ?_
  refine done_ (done_of HT_.out Z19) ?_
  try go_wp2
  go_roundg k4
  case measure=>have:=HJ7.1;have:=HJ17.1;have:=HJ81.1;have:=HK4.1;omega
  exact⟨(wrap64 (x177_4+1)),Z7,H',⟨(by have:=HJ7.1;have:=HJ17.1;have:=HJ81.1;have:=HK4.1;omega)⟩,⟨(Z1 HO_23)⟩,⟨(Z12 HO_24)⟩,⟨(Z12 HO_175)⟩,⟨ZB⟩⟩
 rw[if_pos c109]at H
 have c109b0:decide (0<x177_4)=true:=decide_eq_true c109
 clear c109
 obtain⟨ji110,hji110⟩:∃j_:Int,(wrap64 (x177_4-1))=j_:=⟨_,rfl⟩
 replace H:(if 0≤(ji110)then(if(ji110)<(t767.length:Int)then((laws_dLess.f k4 (rd_L5 t767 (ji110)) (rd_L5 t767 x177_4)).bind fun t786=>(if t786=true then(laws_FnCirclesOfPackings.l2 k4 l1 t764 t767 t767 (t767.length:Int) (wrap64 (x177_4+1)))else(some false)))else(none))else(none))=some true:=by first|(rw[hji110]at H;exact H)|(simp only[hji110]at H ⊢;exact H)
 (try rw[hji110]at A102)
 have hji110w:(IntKind.i64.wrap (x177_4-1))=ji110:=(i64_w _).trans hji110
 obtain⟨c111,H⟩:=ip_ H
 have c111b0:=decide_eq_true c111
 clear c111
 obtain⟨c112,H⟩:=ip_ H
 have c112b0:=decide_eq_true c112
 clear c112
 obtain⟨t786,A113,H⟩:=bs_ H
 try dsimp only at H
 by_cases c114:t786=true
 rotate_left
 ·
  replace c114:=Bool.eq_false_iff.mpr c114
  subst c114
  rw[if_neg (show¬(false=true) by decide)]at H
  exact absurd (Option.some.inj H) (by decide)
 subst c114
 rw[if_pos rfl]at H
 have H':=am H
 clear H
 have p776:0≤(x177_4:Int):=of_decide_eq_true Z31
 have q776:x177_4<(t767.length:Int):=of_decide_eq_true Z31
 obtain⟨ad776,A776_0,c776_0,e776,hx776_0,hl776_0,hi776_0⟩:=at_L5 (Kd.S_reads' HO_175.1).2.2 x177_4 p776 q776
 cases e776
 obtain⟨ce776,hce776,hMe776,hcc776⟩:=Kd.S_get HO_175.1 [] x177_4 p776 (by first|exact q776|exact of_decide_eq_true Z31|(have e_:=(Kd.S_reads' HO_175.1).1;omega))
 obtain⟨ve776_0,rfl,ge776_0⟩:=hMe776
 have hv776_0:=hcc776 0 _ rfl
 rw[Nat.add_zero,show((Kd.slice 3 (Kd.int .i64))).sz=1 from rfl,Nat.mul_one]at hv776_0
 replace hv776_0:=Option.some.inj (hv776_0.symm.trans hx776_0)
 rw[hv776_0]at ge776_0
 have HL776_0:=am (show Kd.R (Kd.int .i64) 3 _ _ _ _ (rd_L5 t767 x177_4)from ge776_0)
 clear hv776_0 ge776_0
 clear hcc776 hce776
 have HR776_0:=am hi776_0
 have HC776_0:=am hl776_0
 clear hi776_0 hl776_0
 replace p776:=eq_true p776
 replace q776:=eq_true q776
 try go_wp2
 have n0_:=am (Kd.R_drew HO_23.1)
 have n1_:=am (Kd.S_drew HO_24.1)
 have n2_:=am (Kd.S_drew HO_175.1)
 have n3_:=am (Kd.R_drew HL776_0.1)
 have n4_:=am (Kd.C_drew HR776_0.1)
 have n5_:=am (below_drew1 HB.1)
 clear HO_23
 clear HO_24
 clear HO_175
 clear HL776_0
 clear HR776_0
 clear HB
 have HO_23:=n0_
 have HO_24:=n1_
 have HO_175:=n2_
 have HL776_0:=n3_
 have HR776_0:=n4_
 have HB:=n5_
 clear n0_ n1_ n2_ n3_ n4_ n5_
 have p777:0≤(0:Int):=(by omega)
 have q777:0<((rd_L5 t767 x177_4).length:Int):=of_decide_eq_true Z31
 obtain⟨ad777,e777,hx777_0⟩:=Kd.at_int (Z9 HR776_0) 0 p777 q777
 cases e777
 have qi777:(0<(rd_L5 t767 x177_4).length)=True:=eq_true (by omega)
 (try rw[show((0:Int)).toNat=0 from rfl]at hx777_0)
 (try rw[Addr.add_zero']at hx777_0)
 replace p777:=eq_true p777
 replace q777:=eq_true q777
 have p778:0≤((rd (rd_L5 t767 x177_4) 0):Int):=of_decide_eq_true Z31
 have q778:(rd (rd_L5 t767 x177_4) 0)<(t764.length:Int):=of_decide_eq_true Z31
 obtain⟨ad778,e778,hx778_0,hx778_1,hx778_2,hx778_3⟩:=at_T37 (Kd.R_reads' HO_23.1).2.2 (rd (rd_L5 t767 x177_4) 0) p778 q778
 cases e778
 replace p778:=eq_true p778
 replace q778:=eq_true q778
 have p779:0≤(1:Int):=(by omega)
 have q779:1<((rd_L5 t767 x177_4).length:Int):=of_decide_eq_true Z31
 obtain⟨ad779,e779,hx779_0⟩:=Kd.at_int (Z9 HR776_0) 1 p779 q779
 obtain rfl:ad777=ad779:=(by injection e779)
 (try simp only[show(1:Int).toNat=1 from rfl,Nat.reduceMul,Nat.reduceEqDiff,Go.Addr.add,↓reduceIte]at hx779_0)
 have qi779:(1<(rd_L5 t767 x177_4).length)=True:=eq_true (by omega)
 (try rw[show((1:Int)).toNat=1 from rfl]at hx779_0)
 replace p779:=eq_true p779
 replace q779:=eq_true q779
 have p780:0≤((rd (rd_L5 t767 x177_4) 1):Int):=of_decide_eq_true Z31
 have q780:(rd (rd_L5 t767 x177_4) 1)<(t764.length:Int):=of_decide_eq_true Z31
 obtain⟨ad780,e780,hx780_0,hx780_1,hx780_2,hx780_3⟩:=at_T37 (Kd.R_reads' HO_23.1).2.2 (rd (rd_L5 t767 x177_4) 1) p780 q780
 obtain rfl:ad778=ad780:=(by injection e780)
 replace p780:=eq_true p780
 replace q780:=eq_true q780
 refine start_ (n:=18) (S:=fun w'=>w'.cell? ad777=some (.int .i64 (rd (rd_L5 t767 x177_4) 0))∧w'.cell? (ad778.add (((rd (rd_L5 t767 x177_4) 0)).toNat*4))=some (.int .i64 ((rd_T37 t764 (rd (rd_L5 t767 x177_4) 0)).f0))∧w'.cell? ⟨(ad778.add (((rd (rd_L5 t767 x177_4) 0)).toNat*4)).block,(ad778.add (((rd (rd_L5 t767 x177_4) 0)).toNat*4)).off+1,none⟩=some (.int .i64 ((rd_T37 t764 (rd (rd_L5 t767 x177_4) 0)).f1))∧w'.cell? ⟨(ad778.add (((rd (rd_L5 t767 x177_4) 0)).toNat*4)).block,(ad778.add (((rd (rd_L5 t767 x177_4) 0)).toNat*4)).off+2,none⟩=some (.int .i64 ((rd_T37 t764 (rd (rd_L5 t767 x177_4) 0)).f2))∧w'.cell? ⟨(ad778.add (((rd (rd_L5 t767 x177_4) 0)).toNat*4)).block,(ad778.add (((rd (rd_L5 t767 x177_4) 0)).toNat*4)).off+3,none⟩=some (.int .i64 ((rd_T37 t764 (rd (rd_L5 t767 x177_4) 0)).f3))∧w'.cell? ⟨ad777.block,ad777.off+1,none⟩=some (.int .i64 (rd (rd_L5 t767 x177_4) 1))∧w'.cell? (ad778.add (((rd (rd_L5 t767 x177_4) 1)).toNat*4))=some (.int .i64 ((rd_T37 t764 (rd (rd_L5 t767 x177_4) 1)).f0))∧w'.cell? ⟨(ad778.add (((rd (rd_L5 t767 x177_4) 1)).toNat*4)).block,(ad778.add (((rd (rd_L5 t767 x177_4) 1)).toNat*4)).off+1,none⟩=some (.int .i64 ((rd_T37 t764 (rd (rd_L5 t767 x177_4) 1)).f1))∧w'.cell? ⟨(ad778.add (((rd (rd_L5 t767 x177_4) 1)).toNat*4)).block,(ad778.add (((rd (rd_L5 t767 x177_4) 1)).toNat*4)).off+2,none⟩=some (.int .i64 ((rd_T37 t764 (rd (rd_L5 t767 x177_4) 1)).f2))∧w'.cell? ⟨(ad778.add (((rd (rd_L5 t767 x177_4) 1)).toNat*4)).block,(ad778.add (((rd (rd_L5 t767 x177_4) 1)).toNat*4)).off+3,none⟩=some (.int .i64 ((rd_T37 t764 (rd (rd_L5 t767 x177_4) 1)).f3))) (ds:=[]) N2 Z19 rfl rfl ⟨hx777_0,hx778_0,hx778_1,hx778_2,hx778_3,hx779_0,hx780_0,hx780_1,hx780_2,hx780_3⟩ (fun hHeld=>?_);refine with_tabW laws_FnCirclesOfPackings.tab35 laws_FnCirclesOfPackings.bits35 (fun HT_ HW_=>?_)
 generalize wr.drew=w115 at HO_23 HO_24 HO_175 HL776_0 HR776_0 HB hx777_0 hx778_0 hx778_1 hx778_2 hx778_3 hx779_0 hx780_0 hx780_1 hx780_2 hx780_3 hHeld ⊢
 refine purz_ 0 183 N4 HT_ ?_
 refine purz_ 1 184 N6 HT_ ?_
 refine purz_ 2 185 N8 HT_ ?_
 refine purz_ 6 189 N9 HT_ ?_
 refine purz_ 7 190 N10 HT_ ?_
 refine purz_ 8 191 N11 HT_ ?_
 refine takz10_ 3 186 N13 HT_ HW_ hHeld ?_
 refine purz_ 4 187 N15 HT_ ?_
 refine takz10_ 5 188 N20 HT_ HW_ hHeld ?_
 refine takz10_ 9 192 N23 HT_ HW_ hHeld ?_
 refine purz_ 10 193 N24 HT_ ?_
 refine takz10_ 11 194 N26 HT_ HW_ hHeld ?_
 refine one_ (i:=12) (N:=some 195) N28 rfl rfl (one_of HT_.out Z19) (by decide) (fun K hK=>?_)
 refine goes_ Tryz.func19 Z19 rfl #[.agg #[.int .i64 ((rd_T37 t764 (rd (rd_L5 t767 x177_4) 0)).f0),.int .i64 ((rd_T37 t764 (rd (rd_L5 t767 x177_4) 0)).f1),.int .i64 ((rd_T37 t764 (rd (rd_L5 t767 x177_4) 0)).f2),.int .i64 ((rd_T37 t764 (rd (rd_L5 t767 x177_4) 0)).f3)],.agg #[.int .i64 ((rd_T37 t764 (rd (rd_L5 t767 x177_4) 1)).f0),.int .i64 ((rd_T37 t764 (rd (rd_L5 t767 x177_4) 1)).f1),.int .i64 ((rd_T37 t764 (rd (rd_L5 t767 x177_4) 1)).f2),.int .i64 ((rd_T37 t764 (rd (rd_L5 t767 x177_4) 1)).f3)]] (by rfl) rfl rfl Z18 ?_
 with_reducible refine(impl_DoTouch.calls ((rd_T37 t764 (rd (rd_L5 t767 x177_4) 0)).f0) ((rd_T37 t764 (rd (rd_L5 t767 x177_4) 0)).f1) ((rd_T37 t764 (rd (rd_L5 t767 x177_4) 0)).f2) ((rd_T37 t764 (rd (rd_L5 t767 x177_4) 0)).f3) ((rd_T37 t764 (rd (rd_L5 t767 x177_4) 1)).f0) ((rd_T37 t764 (rd (rd_L5 t767 x177_4) 1)).f1) ((rd_T37 t764 (rd (rd_L5 t767 x177_4) 1)).f2) ((rd_T37 t764 (rd (rd_L5 t767 x177_4) 1)).f3) true true _ A102.1).mono ?_
 rintro e w116 ⟨rfl,hb⟩
 have HS0_:=(hb.cell (World.block_lt_of_cell? _ _ (hHeld.1))).trans (hHeld.1)
 have HS1_:=(hb.cell (World.block_lt_of_cell? _ _ (hHeld.2.1))).trans (hHeld.2.1)
 have HS2_:=(hb.cell (World.block_lt_of_cell? _ _ (hHeld.2.2.1))).trans (hHeld.2.2.1)
 have HS3_:=(hb.cell (World.block_lt_of_cell? _ _ (hHeld.2.2.2.1))).trans (hHeld.2.2.2.1)
 have HS4_:=(hb.cell (World.block_lt_of_cell? _ _ (hHeld.2.2.2.2.1))).trans (hHeld.2.2.2.2.1)
 have HS5_:=(hb.cell (World.block_lt_of_cell? _ _ (hHeld.2.2.2.2.2.1))).trans (hHeld.2.2.2.2.2.1)
 have HS6_:=(hb.cell (World.block_lt_of_cell? _ _ (hHeld.2.2.2.2.2.2.1))).trans (hHeld.2.2.2.2.2.2.1)
 have HS7_:=(hb.cell (World.block_lt_of_cell? _ _ (hHeld.2.2.2.2.2.2.2.1))).trans (hHeld.2.2.2.2.2.2.2.1)
 have HS8_:=(hb.cell (World.block_lt_of_cell? _ _ (hHeld.2.2.2.2.2.2.2.2.1))).trans (hHeld.2.2.2.2.2.2.2.2.1)
 have HS9_:=(hb.cell (World.block_lt_of_cell? _ _ (hHeld.2.2.2.2.2.2.2.2.2))).trans (hHeld.2.2.2.2.2.2.2.2.2)
 refine⟨_,rfl,?_⟩
 have n0_:=am (Kd.R_below (Z1 HO_23) hb)
 have n1_:=am (Kd.S_below (Z12 HO_24) hb)
 have n2_:=am (Kd.S_below (Z12 HO_175) hb)
 have n3_:=am (Kd.R_below (Z1 HL776_0) hb)
 have n4_:=am (Kd.C_below (Z9 HR776_0) hb)
 have n5_:=bw_ hb
 clear HO_23
 clear HO_24
 clear HO_175
 clear HL776_0
 clear HR776_0
 clear HB
 have HO_23:=n0_
 have HO_24:=n1_
 have HO_175:=n2_
 have HL776_0:=n3_
 have HR776_0:=n4_
 have HB:=n5_
 clear n0_ n1_ n2_ n3_ n4_ n5_
 (try clear hb)
 (try clear hb2)
 (try clear hk)
 (try clear hi)
 refine hK.out _ _ ⟨HS0_,HS1_,HS2_,HS3_,HS4_,HS5_,HS6_,HS7_,HS8_,HS9_⟩ (fun hHeld=>?_)
 clear hK K
 refine norm_ (a':=?_) ?_ ?_
 rotate_left
 ·
  show Act.put _ (some 195) _=_
  simp only[Act.put,sA_,sB_,sC_,i64_w,i32_w]
  rfl
 refine purz_ 13 182 N30 HT_ ?_
 refine purz_ 14 196 N32 HT_ ?_
 refine purz_ 15 197 N34 HT_ ?_
 refine purz_ 16 30 N36 HT_ ?_
 refine purz_ 17 31 N48 HT_ ?_
 refine done_ (done_of HT_.out Z19) ?_
 try go_wp2
 have n0_:=am (Kd.R_drew HO_23.1)
 have n1_:=am (Kd.S_drew HO_24.1)
 have n2_:=am (Kd.S_drew HO_175.1)
 have n3_:=am (Kd.R_drew HL776_0.1)
 have n4_:=am (Kd.C_drew HR776_0.1)
 have n5_:=am (below_drew1 HB.1)
 clear HO_23
 clear HO_24
 clear HO_175
 clear HL776_0
 clear HR776_0
 clear HB
 have HO_23:=n0_
 have HO_24:=n1_
 have HO_175:=n2_
 have HL776_0:=n3_
 have HR776_0:=n4_
 have HB:=n5_
 clear n0_ n1_ n2_ n3_ n4_ n5_
 have p783:0≤(0:Int):=(by omega)
 have q783:0<((rd_L5 t767 x177_4).length:Int):=of_decide_eq_true Z31
 obtain⟨ad783,e783,hx783_0⟩:=Kd.at_int (Z9 HR776_0) 0 p783 q783
 obtain rfl:ad777=ad783:=(by injection e783)
 have qi783:(0<(rd_L5 t767 x177_4).length)=True:=eq_true (by omega)
 (try rw[show((0:Int)).toNat=0 from rfl]at hx783_0)
 (try rw[Addr.add_zero']at hx783_0)
 replace p783:=eq_true p783
 replace q783:=eq_true q783
 have p784:0≤(1:Int):=(by omega)
 have q784:1<((rd_L5 t767 x177_4).length:Int):=of_decide_eq_true Z31
 obtain⟨ad784,e784,hx784_0⟩:=Kd.at_int (Z9 HR776_0) 1 p784 q784
 obtain rfl:ad777=ad784:=(by injection e784)
 (try simp only[show(1:Int).toNat=1 from rfl,Nat.reduceMul,Nat.reduceEqDiff,Go.Addr.add,↓reduceIte]at hx784_0)
 have qi784:(1<(rd_L5 t767 x177_4).length)=True:=eq_true (by omega)
 (try rw[show((1:Int)).toNat=1 from rfl]at hx784_0)
 replace p784:=eq_true p784
 replace q784:=eq_true q784
 have p785:0≤((ji110):Int):=of_decide_eq_true Z31
 have q785:(ji110)<(t767.length:Int):=of_decide_eq_true Z31
 obtain⟨ad785,A785_0,c785_0,e785,hx785_0,hl785_0,hi785_0⟩:=at_L5 (Kd.S_reads' HO_24.1).2.2 (ji110) p785 q785
 obtain rfl:ad776=ad785:=(by injection e785)
 obtain⟨ce785,hce785,hMe785,hcc785⟩:=Kd.S_get HO_24.1 [] (ji110) p785 (by first|exact q785|exact of_decide_eq_true Z31|(have e_:=(Kd.S_reads' HO_24.1).1;omega))
 obtain⟨ve785_0,rfl,ge785_0⟩:=hMe785
 have hv785_0:=hcc785 0 _ rfl
 rw[Nat.add_zero,show((Kd.slice 3 (Kd.int .i64))).sz=1 from rfl,Nat.mul_one]at hv785_0
 replace hv785_0:=Option.some.inj (hv785_0.symm.trans hx785_0)
 rw[hv785_0]at ge785_0
 have HL785_0:=am (show Kd.R (Kd.int .i64) 3 _ _ _ _ (rd_L5 t767 (ji110))from ge785_0)
 clear hv785_0 ge785_0
 clear hcc785 hce785
 have HR785_0:=am hi785_0
 have HC785_0:=am hl785_0
 clear hi785_0 hl785_0
 replace p785:=eq_true p785
 replace q785:=eq_true q785
 refine start_ (n:=29) (S:=fun w'=>w'.cell? ad777=some (.int .i64 (rd (rd_L5 t767 x177_4) 0))∧w'.cell? ⟨ad777.block,ad777.off+1,none⟩=some (.int .i64 (rd (rd_L5 t767 x177_4) 1))∧w'.cell? (ad776.add ((ji110)).toNat)=some (.slice A785_0 (rd_L5 t767 (ji110)).length c785_0)) (ds:=[]) N1 Z19 rfl rfl ⟨hx783_0,hx784_0,hx785_0⟩ (fun hHeld=>?_);refine with_tabW laws_FnCirclesOfPackings.tab36 laws_FnCirclesOfPackings.bits36 (fun HT_ HW_=>?_)
 generalize w116.drew=w117 at HO_23 HO_24 HO_175 HL776_0 HR776_0 HB HL785_0 HR785_0 hx783_0 hx784_0 hx785_0 hHeld ⊢
 refine purz_ 0 198 N3 HT_ ?_
 refine purz_ 1 199 N5 HT_ ?_
 refine purz_ 2 200 N7 HT_ ?_
 refine purz_ 3 201 N12 HT_ ?_
 refine purz_ 4 202 N14 HT_ ?_
 refine purz_ 5 203 N16 HT_ ?_
 refine purz_ 6 204 N17 HT_ ?_
 refine purz_ 7 205 N18 HT_ ?_
 refine purz_ 8 206 N19 HT_ ?_
 refine purz_ 10 208 N21 HT_ ?_
 refine purz_ 11 209 N22 HT_ ?_
 refine takz3_ 9 207 N25 HT_ HW_ hHeld ?_
 refine takz3_ 12 210 N27 HT_ HW_ hHeld ?_
 refine purz_ 13 211 N29 HT_ ?_
 refine purz_ 14 212 N31 HT_ ?_
 refine purz_ 15 213 N33 HT_ ?_
 refine purz_ 16 214 N35 HT_ ?_
 refine purz_ 17 215 N37 HT_ ?_
 refine purz_ 18 216 N38 HT_ ?_
 refine purz_ 19 217 N39 HT_ ?_
 refine purz_ 20 218 N40 HT_ ?_
 refine purz_ 21 219 N41 HT_ ?_
 refine purz_ 22 220 N42 HT_ ?_
 refine purz_ 24 222 #[true,true,true,true,true,true,true,true,true,true,true,true,true,true,true,true,true,true,true,true,true,true,true,false,true,false,false,false,false] HT_ ?_
 refine takz3_ 23 221 N43 HT_ HW_ hHeld ?_
 refine one_ (i:=25) (N:=some 223) N44 rfl rfl (one_of HT_.out Z19) (by decide) (fun K hK=>?_)
 refine goes_ Tryz.func20 Z19 rfl #[.slice A785_0 (rd_L5 t767 (ji110)).length c785_0,.slice (some ad777) (rd_L5 t767 x177_4).length c776_0] (by rfl) rfl rfl (by(try simp only[List.map_toArray,List.map_cons,List.map_nil]);first|done|(simp only[hji110];rfl)|rfl|(simp only[List.length_drop,List.length_take];rfl)) ?_
 with_reducible refine(laws_dLess.calls k4 _ _ (rd_L5 t767 (ji110)) _ _ (rd_L5 t767 x177_4) true _ ?side1 ?side2 ?side3 ?side4 A113.1).mono ?_
 (case side1=>exact(Z58 HR785_0))
 (case side2=>exact HC785_0.1)
 (case side3=>exact(Z58 HR776_0))
 (case side4=>exact HC776_0.1)
 rintro e w' ⟨rfl,⟨nd,rfl⟩⟩
 refine⟨_,rfl,?_⟩
 refine hK.out _ _ ⟨hHeld.1,hHeld.2.1,hHeld.2.2⟩ (fun hHeld=>?_)
 clear hK K
 refine norm_ (a':=?_) ?_ ?_
 rotate_left
 ·
  show Act.put _ (some 223) _=_
  simp only[Act.put,sA_,sB_,sC_,i64_w,i32_w]
  rfl
 refine purz_ 26 224 N45 HT_ ?_
 refine purz_ 27 225 N46 HT_ ?_
 refine purz_ 28 226 N47 HT_ ?_
 refine done_ (done_of HT_.out Z19) ?_
 try go_wp2
 go_roundg k4
 case measure=>have:=HJ7.1;have:=HJ17.1;have:=HJ81.1;have:=HK4.1;omega
 exact⟨(wrap64 (x177_4+1)),Z7,H',⟨(by have:=HJ7.1;have:=HJ17.1;have:=HJ81.1;have:=HK4.1;omega)⟩,⟨(Z1 HO_23)⟩,⟨(Z12 HO_24)⟩,⟨(Z12 HO_175)⟩,⟨ZB⟩⟩
theorem laws_FnCirclesOfPackings.walk (P:laws_FnCirclesOfPackings.Pure) (a0:Option Addr) (len0 cap0:Nat) (z0:List Int) (a1:Option Addr) (len1 cap1:Nat) (z1:List Int) (w:World) (w0:(a0=none∧len0=0∧cap0=0∧z0=[])∨∃x,a0=some x∧len0≤cap0∧cap0≤maxLen∧z0.length=cap0∧(∀i,i<z0.length→w.cell? (x.add i)=some (.int .u8 (z0.getD i 0)))∧∀n∈z0,(Lit.int .u8 n).wf=true) (y0:len0*1≤140737488351232) (w1:(a1=none∧len1=0∧cap1=0∧z1=[])∨∃x,a1=some x∧len1≤cap1∧cap1≤maxLen∧z1.length=cap1∧(∀i,i<z1.length→w.cell? (x.add i)=some (.int .u8 (z1.getD i 0)))∧∀n∈z1,(Lit.int .u8 n).wf=true) (y1:len1*1≤140737488351232) (htabs:Tabs w) (hvars:Vars w):
    Calls Tryz.prog 3 #[.slice a0 len0 cap0,.slice a1 len1 cap1] w fun e w'=>e= .returned (.bool true)∧Below w.heap.size w w':=by
  obtain⟨l0,rfl,hr0,hm0,hw0,hc0⟩:=ReadsInt.ofRowC w0
  obtain⟨l1,rfl,hr1,hm1,hw1,hc1⟩:=ReadsInt.ofRowC w1
  obtain⟨k,h⟩:=P l0 l1 hm0 y0 hw0 hm1 y1 hw1
  refine(laws_FnCirclesOfPackings.calls k _ _ l0 _ _ l1 true w (Kd.C_of_reads (d:=(0:Int)) (h1:=fun _=>rfl) hr0) hc0 (Kd.C_of_reads (d:=(0:Int)) (h1:=fun _=>rfl) hr1) hc1 htabs hvars h).mono ?_
  rintro e w' ⟨rfl,hd⟩
  exact⟨rfl,hd⟩
end Go.Proofs.YtmpofeilljmmiaaGreatDoor.P
