/- Lean functions with the answers of Go functions that the statement reaches, and the proofs that the calls come to them; conditions: none but the arguments' kinds. -/
import Derived.Test.YtmpofeilljmmiaaGreatDoorP0
import Derived.Test.YtmpofeilljmmiaaGreatDoorP22
import Derived.Test.YtmpofeilljmmiaaGreatDoorP18
import Derived.Test.YtmpofeilljmmiaaGreatDoorP7
namespace Go.Proofs.YtmpofeilljmmiaaGreatDoor.P
open Go.RowKit Go.Proofs.YtmpofeilljmmiaaGreatDoorW.PrintWords Go.Proofs.YtmpofeilljmmiaaGreatDoorW.PrintLast Go.Proofs.YtmpofeilljmmiaaGreatDoorW.PrintMore
attribute [local go_sem] max2_int min2_int max_two min_two max_three min_three max_four min_four
set_option linter.unusedVariables false
set_option linter.unusedSimpArgs false
section
instance dec39:DecidableEq S37:=fun a b=>decidable_of_iff (a.f0=b.f0∧a.f1=b.f1∧a.f2=b.f2∧a.f3=b.f3) ⟨fun h=>by obtain⟨a0,a1,a2,a3⟩:=a;obtain⟨b0,b1,b2,b3⟩:=b;obtain⟨h0,h1,h2,h3⟩:=h;simp only at h0 h1 h2 h3;subst h0;subst h1;subst h2;subst h3;rfl,fun h=>by subst h;exact⟨rfl,rfl,rfl,rfl⟩⟩
def cv (c:S37):Value:= .agg #[.int .i64 c.f0,.int .i64 c.f1,.int .i64 c.f2,.int .i64 c.f3]
def SetAt (w:World) (b:Nat) (xs:List S37):Prop:=∃(es:Array MapEntry) (clock:Nat),w.heap[b]?=some (.map es clock)∧es.toList.map (fun e=>(e.key,e.val))=xs.map (fun x=>(cv x,Value.bool true))
theorem eq39 (d:Nat) (a b:S37) (W:World):(Op.equalIn (d+2) 37 (cv a) (cv b)).run Tryz.prog W= .ok (decide (a=b)) W:=by
  have hu:Tryz.prog.underlying 37=some _:=Tryz.underlying37
  have h:=eqA_of (P:=Tryz.prog) (d:=d+1) (t:=37) (xs:=#[.int .i64 a.f0,.int .i64 a.f1,.int .i64 a.f2,.int .i64 a.f3]) (ys:=#[.int .i64 b.f0,.int .i64 b.f1,.int .i64 b.f2,.int .i64 b.f3]) (r:=(a.f0==b.f0)&&((a.f1==b.f1)&&((a.f2==b.f2)&&(a.f3==b.f3)))) (w:=W) hu Z19
    (eqf_cons (by decide) Z19 Z19 (run_equalIn_int W d 3 .i64 .i64 _ _ Tryz.underlying3)
    (eqf_cons (by decide) Z19 Z19 (run_equalIn_int W d 3 .i64 .i64 _ _ Tryz.underlying3)
    (eqf_cons (by decide) Z19 Z19 (run_equalIn_int W d 3 .i64 .i64 _ _ Tryz.underlying3)
    (eqf_last (by decide) Z19 Z19 (run_equalIn_int W d 3 .i64 .i64 _ _ Tryz.underlying3)))))
  have e:((a.f0==b.f0)&&((a.f1==b.f1)&&((a.f2==b.f2)&&(a.f3==b.f3))))=decide (a=b):=by
    obtain⟨a0,a1,a2,a3⟩:=a
    obtain⟨b0,b1,b2,b3⟩:=b
    simp only[S37.mk.injEq]
    by_cases h0:a0=b0<;>by_cases h1:a1=b1<;>by_cases h2:a2=b2<;>by_cases h3:a3=b3<;>simp[h0,h1,h2,h3]
  rw[←e]
  exact h
theorem find_ask (c:S37) (W:World):∀(xs:List S37) (es:List MapEntry) (i:Nat),es.map (fun e=>(e.key,e.val))=xs.map (fun x=>(cv x,Value.bool true))→
    (c∉xs→(Instr.findAsking 37 (cv c) es i).run Tryz.prog W= .ok none W)∧(c∈xs→∃j,(Instr.findAsking 37 (cv c) es i).run Tryz.prog W= .ok (some (j,.bool true)) W)
  |[],[],i,_=>⟨fun _=>rfl,fun h=>by simp at h⟩
  |[],e::es,i,h=>by simp at h
  |x::xs,[],i,h=>by simp at h
  |x::xs,e::es,i,h=>by
    simp only[List.map_cons,List.cons.injEq,Prod.mk.injEq]at h
    obtain⟨⟨h1,h2⟩,h3⟩:=h
    have ih:=find_ask c W xs es (i+1) h3
    have he:(Op.equal 37 (cv c) e.key).run Tryz.prog W= .ok (decide (c=x)) W:=by rw[h1];exact eq39 _ c x W
    by_cases hx:c=x
    · subst hx
      refine⟨fun hn=>absurd (List.mem_cons_self) hn,fun _=>⟨i,?_⟩⟩
      rw[Instr.findAsking]
      simp[he,Result.andThen,h2]
    · refine⟨fun hn=>?_,fun hm=>?_⟩
      · rw[Instr.findAsking]
        simp[he,hx,Result.andThen,ih.1 (fun h=>hn (List.mem_cons_of_mem _ h))]
      · obtain⟨j,hj⟩:=ih.2 ((List.mem_cons.1 hm).resolve_left hx)
        refine⟨j,?_⟩
        rw[Instr.findAsking]
        simp[he,hx,Result.andThen,hj]
theorem find_key (c:S37) (W:World) (xs:List S37) (es:List MapEntry) (h:es.map (fun e=>(e.key,e.val))=xs.map (fun x=>(cv x,Value.bool true))):
    (c∉xs→(Instr.findKey 37 (cv c) es).run Tryz.prog W= .ok none W)∧(c∈xs→∃j,(Instr.findKey 37 (cv c) es).run Tryz.prog W= .ok (some (j,.bool true)) W):=by
  have ha:=find_ask c W xs es 0 h
  cases es with
  |nil=>
    have hx:xs=[]:=by
      cases xs with
      |nil=>rfl
      |cons x xs=>simp at h
    subst hx
    refine⟨fun _=>?_,fun h=>by simp at h⟩
    unfold Instr.findKey
    simp[run_underlying Tryz.underlying37,Instr.findNow,Result.andThen]
  |cons e es=>
    have hk:e.key=cv (xs.headD c):=by
      cases xs with
      |nil=>simp at h
      |cons x xs=>simp only[List.map_cons,List.cons.injEq,Prod.mk.injEq]at h;exact h.1.1
    have hn:∀d,Instr.findNow (.struct d) (cv c) (e::es) 0=none:=by
      intro d
      rw[Instr.findNow,hk]
      rfl
    unfold Instr.findKey
    refine⟨fun hm=>?_,fun hm=>?_⟩
    · simp[run_underlying Tryz.underlying37,hn,Result.andThen,ha.1 hm]
    · obtain⟨j,hj⟩:=ha.2 hm
      refine⟨j,?_⟩
      simp[run_underlying Tryz.underlying37,hn,Result.andThen,hj]
theorem chk39 (em:Bool) (c:S37) (W:World):(Instr.checkKey em 10000 37 (cv c)).run Tryz.prog W= .ok () W:=by
  cases em<;>kernel_rfl
theorem zero4 (W:World):(zeroValue 4).run Tryz.prog W= .ok (.bool false) W:=by kernel_rfl
theorem set_look {W:World} {b:Nat} {xs:List S37} (h:SetAt W b xs) (c:S37):(Instr.lookup 68 (.map (some b)) (cv c) false).run Tryz.prog W= .ok (.bool (decide (c∈xs))) W:=by
  obtain⟨es,clock,hb,hk⟩:=h
  have hf:=find_key c W xs es.toList hk
  by_cases hm:c∈xs
  · obtain⟨j,hj⟩:=hf.2 hm
    simp[Instr.lookup,run_underlying Tryz.underlying68,MapKept.run_getObj_map hb,chk39,hj,Result.andThen,hm]
  · simp[Instr.lookup,run_underlying Tryz.underlying68,MapKept.run_getObj_map hb,chk39,hf.1 hm,zero4,Result.andThen,hm]
theorem set_put {W:World} {b:Nat} {xs:List S37} (h:SetAt W b xs) (c:S37) (hm:c∉xs):
    ∃W',(Instr.mapUpdate 68 (.map (some b)) (cv c) (.bool true)).run Tryz.prog W= .ok () W'∧SetAt W' b (xs++[c])∧(∀i,i≠b→W'.heap[i]?=W.heap[i]?)∧W'.heap.size=W.heap.size∧W'.os=W.os∧W'.tape=W.tape∧W'.output=W.output:=by
  obtain⟨es,clock,hb,hk⟩:=h
  have hf:=find_key c W xs es.toList hk
  refine⟨ChangeMaps.setBlock W b (.map (es.push ⟨cv c,.bool true,clock⟩) (clock+1)),?_,⟨_,_,ChangeMaps.heap_setBlock_same hb _,?_⟩,fun i hi=>ChangeMaps.heap_setBlock_other hb _ hi,?_,rfl,rfl,rfl⟩
  · simp[Instr.mapUpdate,run_underlying Tryz.underlying68,MapKept.run_getObj_map hb,chk39,hf.1 hm,MapKept.run_setObj_map _ hb,Result.andThen,ChangeMaps.setBlock]
  · simp[hk]
  · simp[ChangeMaps.setBlock]
theorem set_step {W W':World} {b:Nat} {xs:List S37} (h:SetAt W b xs) (he:W'.heap[b]?=W.heap[b]?):SetAt W' b xs:=by
  obtain⟨es,clock,hb,hk⟩:=h
  exact⟨es,clock,he.trans hb,hk⟩
theorem set_lt {W:World} {b:Nat} {xs:List S37} (h:SetAt W b xs):b<W.heap.size:=by
  obtain⟨es,clock,hb,hk⟩:=h
  exact(Array.getElem?_eq_some_iff.1 hb).1
def vis (most:Int) (xs:List S37) (c:S37):List S37 × Bool:=if c.f1>most then(xs,false)else(if c∈xs then(xs,false)else(xs++[c],true))
set_option maxHeartbeats 8000000 in
set_option maxRecDepth 100000 in
theorem circFound.calls (gm gt go bm:Nat) (u:Value) (xs:List S37) (most:Int) (c:S37) (w0 w:World) (hB:Below w0.heap.size w0 w) (hgo:w0.heap.size≤go) (hbm:w0.heap.size≤bm)
  (bM:w.heap[gm]?=some (.cells #[.int .i64 most] 3 (0,0))) (bT:w.heap[gt]?=some (.cells #[.map (some bm)] 68 (0,0))) (bO:w.heap[go]?=some (.cells #[u] 24 (0,0)))
  (hS:SetAt w bm xs) (hO:Kd.R k37 37 w w0.heap.size (fun k_=>w0.heap.size≤k_) u xs) (hl:xs.length<4398046511104):
  Calls Tryz.prog 38 #[.agg #[.int .i64 c.f0,.int .i64 c.f1,.int .i64 c.f2,.int .i64 c.f3],.pointer (some ⟨gm,0,none⟩),.pointer (some ⟨gt,0,none⟩),.pointer (some ⟨go,0,none⟩)] w fun e w'=>e= .returned (.bool (vis most xs c).2)∧∃u':Value,w'.heap[go]?=some (.cells #[u'] 24 (0,0))∧SetAt w' bm (vis most xs c).1∧
   Kd.R k37 37 w' w0.heap.size (fun k_=>w0.heap.size≤k_) u' (vis most xs c).1∧Below w0.heap.size w0 w'∧Kept w w' (fun k_=>k_=go∨k_=bm∨some k_=u.ownBlock)∧(u'.ownBlock=u.ownBlock∨∃b,u'.ownBlock=some b∧w.heap.size≤b):=by
 have hu39:=Tryz.underlying37
 have HB:=am hB
 have GO:=am hgo
 have GB:=am hbm
 have BM:=am bM
 have BT:=am bT
 have BO:=am bO
 have HS:=am hS
 have HO:=am hO
 have LM:=am hl
 clear hB hgo hbm bM bT bO hS hO hl
 obtain⟨Au,cu,eu⟩:=Kd.R_slice HO.1
 subst eu
 by_cases c1:c.f1>most
 ·
  have ev:vis most xs c=(xs,false):=by unfold vis;rw[if_pos c1]
  rw[ev]
  have c1b:decide (most<c.f1)=true:=decide_eq_true c1
  clear c1 ev
  go_enter Tryz.func38,Tryz.ntmps38
  go_wp2_with ((with_reducible refine gd_ 4 rfl ?_);refine boxN_ 4 #[.int .i64 c.f0,.int .i64 c.f1,.int .i64 c.f2,.int .i64 c.f3] 37 ?_;intro gb hg w1 hbox hb;have HB1:=am hb;have BX:=am hbox;clear hb hbox hg;have hcx0:w1.cell? ⟨gb,0,none⟩=some (.int .i64 c.f0):=(blk_cell BX.out 0).trans rfl;have hcx1:w1.cell? ⟨gb,1,none⟩=some (.int .i64 c.f1):=(blk_cell BX.out 1).trans rfl;have hcx2:w1.cell? ⟨gb,2,none⟩=some (.int .i64 c.f2):=(blk_cell BX.out 2).trans rfl;have hcx3:w1.cell? ⟨gb,3,none⟩=some (.int .i64 c.f3):=(blk_cell BX.out 3).trans rfl;have hcm:w1.cell? ⟨gm,0,none⟩=some (.int .i64 most):=(blk_cell (blk_below BM.out HB1.1) 0).trans rfl)
  go_ret
  exact⟨rfl,_,blk_below BO.out HB1.1,set_step HS.out (HB1.1.block _ (set_lt HS.out)),Kd.R_below HO.1 HB1.1,below_step HB.1 HB1.1,Kept.of_below HB1.1 _,.inl rfl⟩
 by_cases c2:c∈xs
 ·
  have ev:vis most xs c=(xs,false):=by unfold vis;rw[if_neg c1,if_pos c2]
  rw[ev]
  have HLK:∀w1:World,SetAt w1 bm xs→(Instr.lookup 68 (.map (some bm)) (.agg #[.int .i64 c.f0,.int .i64 c.f1,.int .i64 c.f2,.int .i64 c.f3]) false).run Tryz.prog w1= .ok (.bool true) w1:=by
   intro w1 h1
   have h_:=set_look h1 c
   rw[decide_eq_true c2]at h_
   exact h_
  have c1b:decide (most<c.f1)=false:=decide_eq_false c1
  clear c1 ev
  go_enter Tryz.func38,Tryz.ntmps38
  go_wp2_with ((with_reducible refine gd_ 4 rfl ?_);refine boxN_ 4 #[.int .i64 c.f0,.int .i64 c.f1,.int .i64 c.f2,.int .i64 c.f3] 37 ?_;intro gb hg w1 hbox hb;have HB1:=am hb;have BX:=am hbox;clear hb hbox hg;have hcx0:w1.cell? ⟨gb,0,none⟩=some (.int .i64 c.f0):=(blk_cell BX.out 0).trans rfl;have hcx1:w1.cell? ⟨gb,1,none⟩=some (.int .i64 c.f1):=(blk_cell BX.out 1).trans rfl;have hcx2:w1.cell? ⟨gb,2,none⟩=some (.int .i64 c.f2):=(blk_cell BX.out 2).trans rfl;have hcx3:w1.cell? ⟨gb,3,none⟩=some (.int .i64 c.f3):=(blk_cell BX.out 3).trans rfl;have hcm:w1.cell? ⟨gm,0,none⟩=some (.int .i64 most):=(blk_cell (blk_below BM.out HB1.1) 0).trans rfl;have hct:w1.cell? ⟨gt,0,none⟩=some (.map (some bm)):=(blk_cell (blk_below BT.out HB1.1) 0).trans rfl;have hlk:(Instr.lookup 68 (.map (some bm)) (.agg #[.int .i64 c.f0,.int .i64 c.f1,.int .i64 c.f2,.int .i64 c.f3]) false).run Tryz.prog w1= .ok (.bool true) w1:=HLK w1 (set_step HS.out (HB1.1.block _ (set_lt HS.out))))
  go_ret
  exact⟨rfl,_,blk_below BO.out HB1.1,set_step HS.out (HB1.1.block _ (set_lt HS.out)),Kd.R_below HO.1 HB1.1,below_step HB.1 HB1.1,Kept.of_below HB1.1 _,.inl rfl⟩
 have ev:vis most xs c=(xs++[c],true):=by unfold vis;rw[if_neg c1,if_neg c2]
 rw[ev]
 have HLK:∀w1:World,SetAt w1 bm xs→(Instr.lookup 68 (.map (some bm)) (.agg #[.int .i64 c.f0,.int .i64 c.f1,.int .i64 c.f2,.int .i64 c.f3]) false).run Tryz.prog w1= .ok (.bool false) w1:=by
  intro w1 h1
  have h_:=set_look h1 c
  rw[decide_eq_false c2]at h_
  exact h_
 have c1b:decide (most<c.f1)=false:=decide_eq_false c1
 clear c1 ev
 have PUT:∀w1:World,Below w.heap.size w w1→∃w2:World,(Instr.mapUpdate 68 (.map (some bm)) (.agg #[.int .i64 c.f0,.int .i64 c.f1,.int .i64 c.f2,.int .i64 c.f3]) (.bool true)).run Tryz.prog w1= .ok () w2∧SetAt w2 bm (xs++[c])∧(∀(i t:Nat) (cs:Array Value),w1.heap[i]?=some (Obj.cells cs t (0,0))→w2.heap[i]?=some (Obj.cells cs t (0,0)))∧
  Kd.R k37 37 w2 w0.heap.size (fun k_=>w0.heap.size≤k_) (.slice Au xs.length cu) xs∧Below w0.heap.size w0 w2∧Kept w w2 (fun k_=>k_=go∨k_=bm∨some k_=(Value.slice Au xs.length cu).ownBlock)∧w.heap.size≤w2.heap.size:=by
  intro w1 hb
  have hS1:=set_step HS.out (hb.block _ (set_lt HS.out))
  obtain⟨w2,hup,hS2,hot,hsz,ho1,ho2,ho3⟩:=set_put hS1 c c2
  have hne:∀(i t:Nat) (cs:Array Value),w1.heap[i]?=some (Obj.cells cs t (0,0))→i≠bm:=by
   intro i t cs hi e
   subst e
   obtain⟨es,cl,hm,_⟩:=hS1
   rw[hi]at hm
   cases hm
  have hB1:=below_step HB.1 hb
  refine⟨w2,hup,hS2,fun i t cs hi=>(hot i (hne _ _ _ hi)).trans hi,?_,⟨ho1.trans hB1.os,ho2.trans hB1.tape,ho3.trans hB1.output,(by have:=hB1.size;omega),fun k hk=>(hot k (by have:=GB.out;omega)).trans (hB1.block k hk)⟩,⟨(by have:=hb.size;omega),fun i hi hn=>(hot i (fun e=>hn (.inr (.inl e)))).trans (hb.block i hi)⟩,(by have:=hb.size;omega)⟩
  exact Kd.R_mono (Kd.R_step (Kd.R_bound (Kd.R_below HO.1 hb)) (fun k hk _=>by
   obtain⟨_,_,_,q,_,cells,hc⟩:=hk
   exact hot k (hne _ _ _ hc))) (fun k hk=>hk.1)
 go_enter Tryz.func38,Tryz.ntmps38
 go_wp2_with (first|((with_reducible refine gd_ 4 rfl ?_);refine boxN_ 4 #[.int .i64 c.f0,.int .i64 c.f1,.int .i64 c.f2,.int .i64 c.f3] 37 ?_;intro gb hg w1 hbox hb;have HB1:=am hb;have BX:=am hbox;clear hb hbox hg;have hcx0:w1.cell? ⟨gb,0,none⟩=some (.int .i64 c.f0):=(blk_cell BX.out 0).trans rfl;have hcx1:w1.cell? ⟨gb,1,none⟩=some (.int .i64 c.f1):=(blk_cell BX.out 1).trans rfl;have hcx2:w1.cell? ⟨gb,2,none⟩=some (.int .i64 c.f2):=(blk_cell BX.out 2).trans rfl;have hcx3:w1.cell? ⟨gb,3,none⟩=some (.int .i64 c.f3):=(blk_cell BX.out 3).trans rfl;have hcm:w1.cell? ⟨gm,0,none⟩=some (.int .i64 most):=(blk_cell (blk_below BM.out HB1.1) 0).trans rfl;have hct:w1.cell? ⟨gt,0,none⟩=some (.map (some bm)):=(blk_cell (blk_below BT.out HB1.1) 0).trans rfl;have hlk:(Instr.lookup 68 (.map (some bm)) (.agg #[.int .i64 c.f0,.int .i64 c.f1,.int .i64 c.f2,.int .i64 c.f3]) false).run Tryz.prog w1= .ok (.bool false) w1:=HLK w1 (set_step HS.out (HB1.1.block _ (set_lt HS.out)));obtain⟨w2,hup,hS2,hot,hO2,hB2,hK2,hW2⟩:=PUT w1 HB1.1;have BX2:=am (hot _ _ _ BX.out);have BO2:=am (hot _ _ _ (blk_below BO.out HB1.1));have HS2:=am hS2;have HO2:=am hO2;have HB2:=am hB2;have HK2:=am hK2;have HW2:=am hW2;clear hS2 hot hO2 hB2 hK2 hW2;have hdx0:w2.cell? ⟨gb,0,none⟩=some (.int .i64 c.f0):=(blk_cell BX2.out 0).trans rfl;have hdx1:w2.cell? ⟨gb,1,none⟩=some (.int .i64 c.f1):=(blk_cell BX2.out 1).trans rfl;have hdx2:w2.cell? ⟨gb,2,none⟩=some (.int .i64 c.f2):=(blk_cell BX2.out 2).trans rfl;have hdx3:w2.cell? ⟨gb,3,none⟩=some (.int .i64 c.f3):=(blk_cell BX2.out 3).trans rfl;have hdo:w2.cell? ⟨go,0,none⟩=some (.slice Au xs.length cu):=(blk_cell BO2.out 0).trans rfl)|((with_reducible refine gate_builtin (b:= .append) (xs:=#[.tmp 17,.tmp 19]) rfl ?_);at_builtin;refine Kd.R_append k37 (w0:=w0) w0.heap.size rfl (.tmp 17) (.tmp 19) 24 37 (.agg #[(.int .i64 0),(.int .i64 0),(.int .i64 0),(.int .i64 0)]) 32 rfl Tryz.underlying24 info37 rfl (by decide) (by omega) (.slice Au xs.length cu) xs c [.int .i64 c.f0,.int .i64 c.f1,.int .i64 c.f2,.int .i64 c.f3] (fun k_=>w0.heap.size≤k_) (fun _=>False) rfl rfl ?aP (fun _ hk=>hk.elim) ?aF ?aO ?aB ?aS ?aL ?_;(case aP=>exact k37_mkM _ _ _ c);(case aB=>exact Z51);(case aF=>exact(fun k_ hk=>Nat.le_trans (below_size Z51) hk));(case aO=>exact(Z1 HO2));(case aS=>exact(below_size Z51));(case aL=>have:=LM.out;omega);intro v1 w3 ho hb hg hat;have HK3:=am (Kept.of_grown hg HK2.1 (fun k hk=> .inl (.inr (.inr hk.symm))));have BO3:=am (blk_grown BO2.out hg (Kd.R_ne HO2.1 BO2.out (by decide)));have HB3:=am hb;have HO3:=am ho;have HS3:=am (set_step HS2.out (hg.block bm (set_lt HS2.out) (fun e=>by obtain⟨es,cl,hm,_⟩:=HS2.out;obtain⟨cells,hc⟩:=Kd.R_typed HO2.1 bm e.symm;rw[hc]at hm;cases hm)));have HAT:=am hat;clear ho hb hg hat;have hcz3:w3.cell? ⟨go,0,none⟩=some (.slice Au xs.length cu):=(blk_cell BO3.out 0).trans rfl;have hfz3:=blk_frozen BO3.out 0;obtain⟨Av,cvv,evv⟩:=Kd.R_slice HO3.1;subst evv))
 go_ret
 exact⟨rfl,_,(by refine blk_put (cs:=#[.slice Au xs.length cu]) ?_ 0 _ (by simp);exact BO3.out),set_step HS3.out (by refine Below.heap_setCell _ _ _ _ ?_;intro e;obtain⟨es,cl,hm,_⟩:=HS3.out;have h2:=BO3.out;rw[show bm=go from e,h2]at hm;cases hm),Kd.R_mono (Kd.R_far (p:=⟨go,0,none⟩) (Kd.R_types HO3.1 BO3.out (by decide)) (fun _ hk=>hk.2) _) (fun _ hk=>hk.1),below_set HB3.1 GO.out,Kept.setCell HK3.1 (.inl (.inl rfl)) _,HAT.out.imp id (fun⟨b,h1,h2⟩=>⟨b,h1,Nat.le_trans HW2.out h2⟩)⟩
def St (w0:World) (gm gt go bm:Nat) (most:Int) (u:Value) (xs:List S37) (W:World):Prop:=
  w0.heap.size≤go∧w0.heap.size≤bm∧W.heap[gm]?=some (Obj.cells #[.int .i64 most] 3 (0,0))∧W.heap[gt]?=some (Obj.cells #[.map (some bm)] 68 (0,0))∧W.heap[go]?=some (Obj.cells #[u] 24 (0,0))∧
  SetAt W bm xs∧Kd.R k37 37 W w0.heap.size (fun k_=>w0.heap.size≤k_) u xs∧Below w0.heap.size w0 W
section
variable {w0 W W':World} {gm gt go bm:Nat} {most:Int} {u:Value} {xs:List S37}
theorem St.lt (h:St w0 gm gt go bm most u xs W):gm<W.heap.size∧gt<W.heap.size∧go<W.heap.size∧bm<W.heap.size∧∀k,u.ownBlock=some k→k<W.heap.size:=
  ⟨blk_lt h.2.2.1,blk_lt h.2.2.2.1,blk_lt h.2.2.2.2.1,set_lt h.2.2.2.2.2.1,fun k hk=>Kd.R_lt h.2.2.2.2.2.2.1 k hk⟩
theorem St.step (h:St w0 gm gt go bm most u xs W) (hm:∀k,k<W.heap.size→(k=gm∨k=gt∨k=go∨k=bm∨some k=u.ownBlock)→W'.heap[k]?=W.heap[k]?) (hb:Below w0.heap.size w0 W'):St w0 gm gt go bm most u xs W':=by
  obtain⟨l1,l2,l3,l4,l5⟩:=h.lt
  obtain⟨h1,h2,h3,h4,h5,h6,h7,h8⟩:=h
  refine⟨h1,h2,(hm gm l1 (.inl rfl)).trans h3,(hm gt l2 (.inr (.inl rfl))).trans h4,(hm go l3 (.inr (.inr (.inl rfl)))).trans h5,set_step h6 (hm bm l4 (.inr (.inr (.inr (.inl rfl))))),?_,hb⟩
  exact Kd.R_mono (Kd.R_step (Kd.R_tight2 rfl h7) (fun k hk hlt=>hm k hlt (.inr (.inr (.inr (.inr hk.1)))))) (fun k hk=>hk.2)
theorem St.below (h:St w0 gm gt go bm most u xs W) (hb:Below W.heap.size W W'):St w0 gm gt go bm most u xs W':=h.step (fun k hk _=>hb.block k hk) (below_step h.2.2.2.2.2.2.2 hb)
theorem St.set (h:St w0 gm gt go bm most u xs W) {gb:Nat} (hf:∀k,(k=gm∨k=gt∨k=go∨k=bm∨some k=u.ownBlock)→k≠gb) (hg:w0.heap.size≤gb) (i:Nat) (v:Value):St w0 gm gt go bm most u xs (W.setCell ⟨gb,i,none⟩ v):=
  h.step (fun k _ hk=>Below.heap_setCell W ⟨gb,i,none⟩ v k (hf k hk)) (below_set h.2.2.2.2.2.2.2 hg)
theorem St.newer (h:St w0 gm gt go bm most u xs W) {gb:Nat} (hg:W.heap.size≤gb):(∀k,(k=gm∨k=gt∨k=go∨k=bm∨some k=u.ownBlock)→k≠gb)∧w0.heap.size≤gb:=by
  obtain⟨l1,l2,l3,l4,l5⟩:=h.lt
  refine⟨?_,by have:=below_size h.2.2.2.2.2.2.2;omega⟩
  rintro k (rfl|rfl|rfl|rfl|hk)
  · omega
  · omega
  · omega
  · omega
  · have:=l5 k hk.symm;omega
theorem St.queue {base:Nat} {ok:Nat→Prop} {v:Value} {q:List S74} (h:St w0 gm gt go bm most u xs W) (hN:Kd.N k74 70 W base ok v q) (hg:W.grownBy W' v.ownBlock) (hb:Below w0.heap.size w0 W'):St w0 gm gt go bm most u xs W':=by
  refine h.step (fun k hk hs=>hg.block k hk (fun e=>?_)) hb
  obtain⟨cells,hc⟩:=Kd.N_typed hN k e.symm
  obtain⟨h1,h2,h3,h4,h5,h6,h7,h8⟩:=h
  rcases hs with rfl|rfl|rfl|rfl|hs
  · rw[hc]at h3;cases h3
  · rw[hc]at h4;cases h4
  · rw[hc]at h5;cases h5
  · obtain⟨es,cl,hm,_⟩:=h6
    rw[hc]at hm;cases hm
  · obtain⟨cells2,hc2⟩:=Kd.R_typed h7 k hs.symm
    rw[hc]at hc2;cases hc2
end
theorem circVisit.calls (w0:World) (gm gt go bm:Nat) (most:Int) (u:Value) (xs:List S37) (c:S37) (w:World) (h:St w0 gm gt go bm most u xs w) (hl:xs.length<4398046511104):
  Calls Tryz.prog 38 #[.agg #[.int .i64 c.f0,.int .i64 c.f1,.int .i64 c.f2,.int .i64 c.f3],.pointer (some ⟨gm,0,none⟩),.pointer (some ⟨gt,0,none⟩),.pointer (some ⟨go,0,none⟩)] w fun e w'=>e= .returned (.bool (vis most xs c).2)∧∃u':Value,St w0 gm gt go bm most u' (vis most xs c).1 w'∧
   Kept w w' (fun k_=>k_=go∨k_=bm∨some k_=u.ownBlock)∧(u'.ownBlock=u.ownBlock∨∃b,u'.ownBlock=some b∧w.heap.size≤b):=by
 have hlt:=h.lt
 obtain⟨h1,h2,h3,h4,h5,h6,h7,h8⟩:=h
 refine(circFound.calls gm gt go bm u xs most c w0 w h8 h1 h2 h3 h4 h5 h6 h7 hl).mono ?_
 rintro e w' ⟨rfl,u',a1,a2,a3,a4,a5,a6⟩
 have hn:∀(g t:Nat) (v:Array Value),w.heap[g]?=some (Obj.cells v t (0,0))→t≠24→t≠37→¬(g=go∨g=bm∨some g=u.ownBlock):=by
  rintro g t v hg n1 n2 (rfl|rfl|hs)
  ·
   rw[hg]at h5;cases h5;exact n1 rfl
  ·
   obtain⟨es,cl,hm,_⟩:=h6
   rw[hg]at hm;cases hm
  obtain⟨cells2,hc2⟩:=Kd.R_typed h7 g hs.symm
  rw[hg]at hc2;cases hc2;exact n2 rfl
 exact⟨rfl,u',⟨h1,h2,blk_kept h3 a5 (hn _ _ _ h3 (by decide) (by decide)),blk_kept h4 a5 (hn _ _ _ h4 (by decide) (by decide)),a1,a2,a3,a4⟩,a5,a6⟩
mutual
def impl_CirclesUpTo.l0:Nat→List S37→Int→List S37→Int→Option (List S37 × Bool)
  |0,_,_,_,_=>none
  |k+1,x0,a1,x7,i=>if i<(x0.length:Int)then(if x7.length<4398046511104 then(impl_CirclesUpTo.l0 k x0 a1 (vis a1 x7 (rd_T37 x0 i)).1 (wrap64 (i+1)))else none)else(impl_CirclesUpTo.l1 k a1 x7 [(⟨x0,(-1)⟩:S74)] 0)
def impl_CirclesUpTo.l1:Nat→Int→List S37→List S74→Int→Option (List S37 × Bool)
  |0,_,_,_,_=>none
  |k+1,a1,x7,x10,x11=>if x11<(x10.length:Int)then(impl_CirclesUpTo.l2 k a1 x7 x10 x11 0)else(some (x7,true))
def impl_CirclesUpTo.l2:Nat→Int→List S37→List S74→Int→Int→Option (List S37 × Bool)
  |0,_,_,_,_,_=>none
  |k+1,a1,x7,x10,x11,x12=>(if x12<4 then(if 0≤x11 then(if x11<(x10.length:Int)then(if x12=(rd_T74 x10 x11).f1 then(impl_CirclesUpTo.l2 k a1 x7 x10 x11 (wrap64 (x12+1)))else((impl_swapCircle.f k ((rd_T74 x10 x11).f0) x12).bind fun t=>(if 0≤x12 then(if x12<(t.1.length:Int)then(if x7.length<4398046511104 then(if(vis a1 x7 (rd_T37 t.1 x12)).2=true then(if t.2=true then(if((vis a1 x7 (rd_T37 t.1 x12)).1.length:Int)>300 then(some (([]:List S37),false))else(if x10.length<4398046511104 then(impl_CirclesUpTo.l2 k a1 (vis a1 x7 (rd_T37 t.1 x12)).1 (x10++[(⟨t.1,x12⟩:S74)]) x11 (wrap64 (x12+1)))else none))else(some (([]:List S37),false)))else(impl_CirclesUpTo.l2 k a1 (vis a1 x7 (rd_T37 t.1 x12)).1 x10 x11 (wrap64 (x12+1))))else none)else none)else none)))else none)else none)else(impl_CirclesUpTo.l1 k a1 x7 x10 (wrap64 (x11+1))))
end
def impl_CirclesUpTo.f (k:Nat) (l0:List S37) (a1:Int):Option (List S37 × Bool):=((impl_isConfig.f k l0).bind fun t1=>(if t1=true then((impl_within.f a1 1 60).bind fun t2=>(if t2=true then((impl_curvatures.f k l0).bind fun q=>((impl_IsQuad.f k q).bind fun t3=>(if t3=true then((impl_isRoot.f k q).bind fun t4=>(if t4=true then((slices_Min_int_int.f q).bind fun m=>(if m≥0 then(some (([]:List S37),false))else(impl_CirclesUpTo.l0 k l0 a1 [] 0)))else(some (([]:List S37),false))))else(some (([]:List S37),false)))))else(some (([]:List S37),false))))else(some (([]:List S37),false))))
theorem impl_CirclesUpTo.mono_l:∀k,(∀y0 y1 y2 y3,LeO (impl_CirclesUpTo.l0 k y0 y1 y2 y3) (impl_CirclesUpTo.l0 (k+1) y0 y1 y2 y3))∧(∀y0 y1 y2 y3,LeO (impl_CirclesUpTo.l1 k y0 y1 y2 y3) (impl_CirclesUpTo.l1 (k+1) y0 y1 y2 y3))∧(∀y0 y1 y2 y3 y4,LeO (impl_CirclesUpTo.l2 k y0 y1 y2 y3 y4) (impl_CirclesUpTo.l2 (k+1) y0 y1 y2 y3 y4))
  |0=>⟨fun _ _ _ _ r h=>by simp[impl_CirclesUpTo.l0]at h,fun _ _ _ _ r h=>by simp[impl_CirclesUpTo.l1]at h,fun _ _ _ _ _ r h=>by simp[impl_CirclesUpTo.l2]at h⟩
  |k+1=>by
    obtain⟨ih0,ih1,ih2⟩:=impl_CirclesUpTo.mono_l k
    refine⟨?_,?_,?_⟩
    · intro y0 y1 y2 y3
      rw[impl_CirclesUpTo.l0,impl_CirclesUpTo.l0]
      exact LeO.ite (LeO.ite (ih0 _ _ _ _) (LeO.none _)) (ih1 _ _ _ _)
    · intro y0 y1 y2 y3
      rw[impl_CirclesUpTo.l1,impl_CirclesUpTo.l1]
      exact LeO.ite (ih2 _ _ _ _ _) (LeO.refl _)
    · intro y0 y1 y2 y3 y4
      rw[impl_CirclesUpTo.l2,impl_CirclesUpTo.l2]
      exact LeO.ite (LeO.ite (LeO.ite (LeO.ite (ih2 _ _ _ _ _) (LeO.bind (impl_swapCircle.mono _ _ _) (fun _=>LeO.ite (LeO.ite (LeO.ite (LeO.ite (LeO.ite (LeO.ite (LeO.refl _) (LeO.ite (ih2 _ _ _ _ _) (LeO.none _))) (LeO.refl _)) (ih2 _ _ _ _ _)) (LeO.none _)) (LeO.none _)) (LeO.none _)))) (LeO.none _)) (LeO.none _)) (ih1 _ _ _ _)
theorem impl_CirclesUpTo.mono:∀a0 a1 k,LeO (impl_CirclesUpTo.f k a0 a1) (impl_CirclesUpTo.f (k+1) a0 a1):=by
  intro a0 a1 k
  unfold impl_CirclesUpTo.f
  exact LeO.bind (impl_isConfig.mono _ _) (fun _=>LeO.ite (LeO.bind (LeO.refl _) (fun _=>LeO.ite (LeO.bind (impl_curvatures.mono _ _) (fun _=>LeO.bind (impl_IsQuad.mono _ _) (fun _=>LeO.ite (LeO.bind (impl_isRoot.mono _ _) (fun _=>LeO.ite (LeO.bind (LeO.refl _) (fun _=>LeO.ite (LeO.refl _) ((impl_CirclesUpTo.mono_l k).1 _ _ _ _))) (LeO.refl _))) (LeO.refl _)))) (LeO.refl _))) (LeO.refl _))
def OKQ (go bm:Nat) (u:Value) (k:Nat):Prop:=k≠go∧k≠bm∧some k≠u.ownBlock
theorem okq_new {w0 W:World} {gm gt go bm:Nat} {most:Int} {u:Value} {xs:List S37} (h:St w0 gm gt go bm most u xs W) {k:Nat} (hk:W.heap.size≤k):OKQ go bm u k:=by
  obtain⟨l1,l2,l3,l4,l5⟩:=h.lt
  exact⟨by omega,by omega,fun e=>by have:=l5 k e.symm;omega⟩
theorem okq_old {w0 W:World} {gm gt go bm:Nat} {most:Int} {u:Value} {xs:List S37} (h:St w0 gm gt go bm most u xs W) {k:Nat} (hk:k<w0.heap.size):OKQ go bm u k:=by
  obtain⟨h1,h2,h3,h4,h5,h6,h7,h8⟩:=h
  exact⟨by omega,by omega,fun e=>by have:=h7.1 k e.symm;omega⟩
theorem okq_queue {W W':World} {go bm base:Nat} {u u2 v:Value} {q:List S74} (h:Kd.N k74 70 W base (OKQ go bm u) v q) (hk:Kept W W' (fun k_=>k_=go∨k_=bm∨some k_=u.ownBlock)) (hat:u2.ownBlock=u.ownBlock∨∃b,u2.ownBlock=some b∧W.heap.size≤b):Kd.N k74 70 W' base (OKQ go bm u2) v q:=by
  refine Kd.N_mono (Kd.N_keptB h hk (fun k ho hs=>hs.elim ho.1 (fun hs=>hs.elim ho.2.1 ho.2.2))) (fun k hk=>⟨hk.1.1,hk.1.2.1,fun e=>?_⟩)
  rcases hat with ha|⟨b,hb,hl⟩
  · exact hk.1.2.2 (e.trans ha)
  · rw[hb]at e
    cases e
    have:=hk.2.2
    omega
theorem okq_next {w0 V W W':World} {gm gt go bm base:Nat} {most:Int} {u u2 v:Value} {xs:List S37} {nx:List S37} (h:St w0 gm gt go bm most u xs V) (hn:Kd.R k37 37 W base (fun k_=>V.heap.size≤k_∧k_<W.heap.size) v nx) (hk:Kept W W' (fun k_=>k_=go∨k_=bm∨some k_=u.ownBlock)) (hat:u2.ownBlock=u.ownBlock∨∃b,u2.ownBlock=some b∧W.heap.size≤b):Kd.R k37 37 W' base (OKQ go bm u2) v nx:=by
  obtain⟨l1,l2,l3,l4,l5⟩:=h.lt
  refine Kd.R_mono (Kd.R_kept hn hk (fun k ho hs=>?_)) (fun k ho=>⟨by omega,by omega,fun e=>?_⟩)
  · rcases hs with rfl|rfl|hs
    · omega
    · omega
    · have:=l5 k hs.symm;omega
  · rcases hat with ha|⟨b,hb,hl⟩
    · have:=l5 k (e.trans ha).symm;omega
    · rw[hb]at e
      cases e
      omega
theorem St.start {w0 W:World} {gm gt go bm:Nat} {most:Int} {u x y:Value} {xs:List S37} (h1:w0.heap.size≤go) (h2:w0.heap.size≤bm) (h0:w0.heap.size≤gt) (h3:W.heap[gm]?=some (Obj.cells #[.int .i64 most] 3 (0,0))) (h4:W.heap[gt]?=some (Obj.cells #[x] 68 (0,0))) (h5:W.heap[go]?=some (Obj.cells #[y] 24 (0,0)))
    (h6:SetAt W bm xs) (h7:Kd.R k37 37 W w0.heap.size (fun k_=>w0.heap.size≤k_) u xs) (h8:Below w0.heap.size w0 W):St w0 gm gt go bm most u xs ((W.setCell ⟨go,0,none⟩ u).setCell ⟨gt,0,none⟩ (.map (some bm))):=by
  have ne:∀{i j t s:Nat} {a b:Array Value} {X:World},X.heap[i]?=some (Obj.cells a t (0,0))→X.heap[j]?=some (Obj.cells b s (0,0))→t≠s→i≠j:=by
    intro i j t s a b X ha hb hts e
    subst e
    rw[ha]at hb
    cases hb
    exact hts rfl
  have neM:∀{i t:Nat} {a:Array Value} {X:World},X.heap[i]?=some (Obj.cells a t (0,0))→SetAt X bm xs→bm≠i:=by
    intro i t a X ha hb e
    subst e
    obtain⟨es,cl,hm,_⟩:=hb
    rw[ha]at hm
    cases hm
  have g3:(W.setCell ⟨go,0,none⟩ u).heap[gm]?=some (Obj.cells #[.int .i64 most] 3 (0,0)):=(Below.heap_setCell _ ⟨go,0,none⟩ _ _ (ne h3 h5 (by decide))).trans h3
  have g4:(W.setCell ⟨go,0,none⟩ u).heap[gt]?=some (Obj.cells #[x] 68 (0,0)):=(Below.heap_setCell _ ⟨go,0,none⟩ _ _ (ne h4 h5 (by decide))).trans h4
  have g5:(W.setCell ⟨go,0,none⟩ u).heap[go]?=some (Obj.cells #[u] 24 (0,0)):=blk_put (cs:=#[y]) h5 0 _ (by simp)
  have g6:SetAt (W.setCell ⟨go,0,none⟩ u) bm xs:=set_step h6 (Below.heap_setCell _ ⟨go,0,none⟩ _ _ (neM h5 h6))
  have g7:Kd.R k37 37 (W.setCell ⟨go,0,none⟩ u) w0.heap.size (fun k_=>w0.heap.size≤k_) u xs:=Kd.R_mono (Kd.R_far (p:=⟨go,0,none⟩) (Kd.R_types h7 h5 (by decide)) (fun _ hk=>hk.2) _) (fun _ hk=>hk.1)
  have g8:Below w0.heap.size w0 (W.setCell ⟨go,0,none⟩ u):=below_set h8 h1
  refine⟨h1,h2,(Below.heap_setCell _ ⟨gt,0,none⟩ _ _ (ne g3 g4 (by decide))).trans g3,blk_put (cs:=#[x]) g4 0 _ (by simp),(Below.heap_setCell _ ⟨gt,0,none⟩ _ _ (ne g5 g4 (by decide))).trans g5,set_step g6 (Below.heap_setCell _ ⟨gt,0,none⟩ _ _ (neM g4 g6)),?_,below_set g8 h0⟩
  exact Kd.R_mono (Kd.R_far (p:=⟨gt,0,none⟩) (Kd.R_types g7 g4 (by decide)) (fun _ hk=>hk.2) _) (fun _ hk=>hk.1)
set_option maxHeartbeats 8000000 in
set_option maxRecDepth 100000 in
theorem impl_CirclesUpTo.calls (k:Nat) (A0:Option Addr) (c0:Nat) (l0:List S37) (a1:Int) (r1:List S37) (r2:Bool) (w:World) (hr0:Kd.C k37 w A0 l0.length l0) (hc0:l0.length≤c0) (h:impl_CirclesUpTo.f k l0 a1=some (r1,r2)):
  Calls Tryz.prog 6 #[.slice A0 l0.length c0,.int .i64 a1] w fun e w'=>∃v0_:Value,e= .returned (.tuple #[v0_,.bool r2])∧Kd.R k37 37 w' w.heap.size (fun _=>True) v0_ r1∧Below w.heap.size w w':=by
 have eg:∀args w,(callFunc 38 args).run Tryz.prog w= .ok (.enter 38 args) w:=enters_of Tryz.func38 Z19 rfl
 have hmm:=@run_makeMap Tryz.prog
 have hu39:=Tryz.underlying37
 have hh39:Kd.Heap k37:=Kd.heap_iso _ (Kd.heap_pair (Kd.heap_int _) (Kd.heap_pair (Kd.heap_int _) (Kd.heap_pair (Kd.heap_int _) (Kd.heap_int _))))
 have HR0:=am hr0
 have HC0:=am hc0
 clear hr0 hc0
 have HB:=am (Below.refl w.heap.size w)
 have H:=h
 clear h
 unfold impl_CirclesUpTo.f at H
 obtain⟨t1,A1,H⟩:=bs_ H
 cases t1 with
 |false=>
  rw[if_neg (by decide)]at H
  simp only[Option.some.injEq,Prod.mk.injEq]at H
  obtain⟨rfl,rfl⟩:=H
  go_enter Tryz.func6,Tryz.ntmps6
  go_wp2_with (first|((with_reducible refine gd_ 3 rfl ?_);refine boxN_ 3 #[.int .i64 a1] 3 ?_;intro gm hg w1 hbox hb;have n0_:=am (below_step HB.1 hb);have BM:=am hbox;clear HB hb hbox hg;have HB:=n0_;clear n0_;have hcm1:w1.cell? ⟨gm,0,none⟩=some (.int .i64 a1):=(blk_cell BM.out 0).trans rfl)|(go_at_call 32;refine(impl_isConfig.calls k _ _ l0 false _ (Kd.C_below HR0.1 HB.1) HC0.1 A1.1).mono ?_;rintro e w2 ⟨rfl,hb⟩;replace HB:=am (below_step HB.1 hb);replace BM:=am (blk_below BM.out hb);clear hb;have hcm2:w2.cell? ⟨gm,0,none⟩=some (.int .i64 a1):=(blk_cell BM.out 0).trans rfl))
  go_ret2
  exact⟨_,rfl,Kd.R_nil _ _ _ _ _,HB.1⟩
 |true=>
  rw[if_pos rfl]at H
  obtain⟨t2,A2,H⟩:=bs_ H
  cases t2 with
  |false=>
   rw[if_neg (by decide)]at H
   simp only[Option.some.injEq,Prod.mk.injEq]at H
   obtain⟨rfl,rfl⟩:=H
   go_enter Tryz.func6,Tryz.ntmps6
   go_wp2_with (first|((with_reducible refine gd_ 3 rfl ?_);refine boxN_ 3 #[.int .i64 a1] 3 ?_;intro gm hg w1 hbox hb;have n0_:=am (below_step HB.1 hb);have BM:=am hbox;clear HB hb hbox hg;have HB:=n0_;clear n0_;have hcm1:w1.cell? ⟨gm,0,none⟩=some (.int .i64 a1):=(blk_cell BM.out 0).trans rfl)|(go_at_call 32;refine(impl_isConfig.calls k _ _ l0 true _ (Kd.C_below HR0.1 HB.1) HC0.1 A1.1).mono ?_;rintro e w2 ⟨rfl,hb⟩;replace HB:=am (below_step HB.1 hb);replace BM:=am (blk_below BM.out hb);clear hb;have hcm2:w2.cell? ⟨gm,0,none⟩=some (.int .i64 a1):=(blk_cell BM.out 0).trans rfl)|(go_at_call 33;refine(impl_within.calls a1 1 60 false _ A2.1).mono ?_;rintro e w3 ⟨rfl,hd⟩;have hb:=Drawn0.below hd;replace HB:=am (below_step HB.1 hb);replace BM:=am (blk_below BM.out hb);clear hb hd))
   go_ret2
   exact⟨_,rfl,Kd.R_nil _ _ _ _ _,HB.1⟩
  |true=>
   rw[if_pos rfl]at H
   obtain⟨q,A3,H⟩:=bs_ H
   obtain⟨t3,A4,H⟩:=bs_ H
   cases t3 with
   |false=>
    rw[if_neg (by decide)]at H
    simp only[Option.some.injEq,Prod.mk.injEq]at H
    obtain⟨rfl,rfl⟩:=H
    go_enter Tryz.func6,Tryz.ntmps6
    go_wp2_with (first|((with_reducible refine gd_ 3 rfl ?_);refine boxN_ 3 #[.int .i64 a1] 3 ?_;intro gm hg w1 hbox hb;have n0_:=am (below_step HB.1 hb);have BM:=am hbox;clear HB hb hbox hg;have HB:=n0_;clear n0_;have hcm1:w1.cell? ⟨gm,0,none⟩=some (.int .i64 a1):=(blk_cell BM.out 0).trans rfl)|(go_at_call 32;refine(impl_isConfig.calls k _ _ l0 true _ (Kd.C_below HR0.1 HB.1) HC0.1 A1.1).mono ?_;rintro e w2 ⟨rfl,hb⟩;replace HB:=am (below_step HB.1 hb);replace BM:=am (blk_below BM.out hb);clear hb;have hcm2:w2.cell? ⟨gm,0,none⟩=some (.int .i64 a1):=(blk_cell BM.out 0).trans rfl)|(go_at_call 33;refine(impl_within.calls a1 1 60 true _ A2.1).mono ?_;rintro e w3 ⟨rfl,hd⟩;have hb:=Drawn0.below hd;replace HB:=am (below_step HB.1 hb);replace BM:=am (blk_below BM.out hb);clear hb hd)|(go_at_call 34;refine(impl_curvatures.calls k _ _ l0 q _ (Kd.C_below HR0.1 HB.1) HC0.1 A3.1).mono ?_;rintro e w4 ⟨v4,rfl,ho,hb⟩;have n0_:=am (below_step HB.1 hb);have n1_:=am (blk_below BM.out hb);have HQ:=am ho;clear HB BM hb ho;have HB:=n0_;have BM:=n1_;clear n0_ n1_;obtain⟨Aq,cq,eq_⟩:=Kd.R_slice HQ.out;subst eq_)|(go_at_call 35;refine(impl_IsQuad.calls k _ _ q false _ (Kd.R_reads' HQ.out).2.2 (Kd.R_reads' HQ.out).2.1 A4.1).mono ?_;rintro e w5 ⟨rfl,hb⟩;replace HB:=am (below_step HB.1 hb);replace BM:=am (blk_below BM.out hb);replace HQ:=am (Kd.R_below HQ.out hb);clear hb))
    go_ret2
    exact⟨_,rfl,Kd.R_nil _ _ _ _ _,HB.1⟩
   |true=>
    rw[if_pos rfl]at H
    obtain⟨t4,A5,H⟩:=bs_ H
    cases t4 with
    |false=>
     rw[if_neg (by decide)]at H
     simp only[Option.some.injEq,Prod.mk.injEq]at H
     obtain⟨rfl,rfl⟩:=H
     go_enter Tryz.func6,Tryz.ntmps6
     go_wp2_with (first|((with_reducible refine gd_ 3 rfl ?_);refine boxN_ 3 #[.int .i64 a1] 3 ?_;intro gm hg w1 hbox hb;have n0_:=am (below_step HB.1 hb);have BM:=am hbox;clear HB hb hbox hg;have HB:=n0_;clear n0_;have hcm1:w1.cell? ⟨gm,0,none⟩=some (.int .i64 a1):=(blk_cell BM.out 0).trans rfl)|(go_at_call 32;refine(impl_isConfig.calls k _ _ l0 true _ (Kd.C_below HR0.1 HB.1) HC0.1 A1.1).mono ?_;rintro e w2 ⟨rfl,hb⟩;replace HB:=am (below_step HB.1 hb);replace BM:=am (blk_below BM.out hb);clear hb;have hcm2:w2.cell? ⟨gm,0,none⟩=some (.int .i64 a1):=(blk_cell BM.out 0).trans rfl)|(go_at_call 33;refine(impl_within.calls a1 1 60 true _ A2.1).mono ?_;rintro e w3 ⟨rfl,hd⟩;have hb:=Drawn0.below hd;replace HB:=am (below_step HB.1 hb);replace BM:=am (blk_below BM.out hb);clear hb hd)|(go_at_call 34;refine(impl_curvatures.calls k _ _ l0 q _ (Kd.C_below HR0.1 HB.1) HC0.1 A3.1).mono ?_;rintro e w4 ⟨v4,rfl,ho,hb⟩;have n0_:=am (below_step HB.1 hb);have n1_:=am (blk_below BM.out hb);have HQ:=am ho;clear HB BM hb ho;have HB:=n0_;have BM:=n1_;clear n0_ n1_;obtain⟨Aq,cq,eq_⟩:=Kd.R_slice HQ.out;subst eq_)|(go_at_call 35;refine(impl_IsQuad.calls k _ _ q true _ (Kd.R_reads' HQ.out).2.2 (Kd.R_reads' HQ.out).2.1 A4.1).mono ?_;rintro e w5 ⟨rfl,hb⟩;replace HB:=am (below_step HB.1 hb);replace BM:=am (blk_below BM.out hb);replace HQ:=am (Kd.R_below HQ.out hb);clear hb)|(go_at_call 36;refine(impl_isRoot.calls k _ _ q false _ (Kd.R_reads' HQ.out).2.2 (Kd.R_reads' HQ.out).2.1 A5.1).mono ?_;rintro e w6 ⟨rfl,hb⟩;replace HB:=am (below_step HB.1 hb);replace BM:=am (blk_below BM.out hb);replace HQ:=am (Kd.R_below HQ.out hb);clear hb))
     go_ret2
     exact⟨_,rfl,Kd.R_nil _ _ _ _ _,HB.1⟩
    |true=>
     rw[if_pos rfl]at H
     obtain⟨m,A6,H⟩:=bs_ H
     by_cases cm:m≥0
     ·
      rw[if_pos cm]at H
      have cmb:decide (m≥0)=true:=decide_eq_true cm
      have cmc:decide (0≤m)=true:=decide_eq_true cm
      clear cm
      simp only[Option.some.injEq,Prod.mk.injEq]at H
      obtain⟨rfl,rfl⟩:=H
      go_enter Tryz.func6,Tryz.ntmps6
      go_wp2_with (first|((with_reducible refine gd_ 3 rfl ?_);refine boxN_ 3 #[.int .i64 a1] 3 ?_;intro gm hg w1 hbox hb;have n0_:=am (below_step HB.1 hb);have BM:=am hbox;clear HB hb hbox hg;have HB:=n0_;clear n0_;have hcm1:w1.cell? ⟨gm,0,none⟩=some (.int .i64 a1):=(blk_cell BM.out 0).trans rfl)|(go_at_call 32;refine(impl_isConfig.calls k _ _ l0 true _ (Kd.C_below HR0.1 HB.1) HC0.1 A1.1).mono ?_;rintro e w2 ⟨rfl,hb⟩;replace HB:=am (below_step HB.1 hb);replace BM:=am (blk_below BM.out hb);clear hb;have hcm2:w2.cell? ⟨gm,0,none⟩=some (.int .i64 a1):=(blk_cell BM.out 0).trans rfl)|(go_at_call 33;refine(impl_within.calls a1 1 60 true _ A2.1).mono ?_;rintro e w3 ⟨rfl,hd⟩;have hb:=Drawn0.below hd;replace HB:=am (below_step HB.1 hb);replace BM:=am (blk_below BM.out hb);clear hb hd)|(go_at_call 34;refine(impl_curvatures.calls k _ _ l0 q _ (Kd.C_below HR0.1 HB.1) HC0.1 A3.1).mono ?_;rintro e w4 ⟨v4,rfl,ho,hb⟩;have n0_:=am (below_step HB.1 hb);have n1_:=am (blk_below BM.out hb);have HQ:=am ho;clear HB BM hb ho;have HB:=n0_;have BM:=n1_;clear n0_ n1_;obtain⟨Aq,cq,eq_⟩:=Kd.R_slice HQ.out;subst eq_)|(go_at_call 35;refine(impl_IsQuad.calls k _ _ q true _ (Kd.R_reads' HQ.out).2.2 (Kd.R_reads' HQ.out).2.1 A4.1).mono ?_;rintro e w5 ⟨rfl,hb⟩;replace HB:=am (below_step HB.1 hb);replace BM:=am (blk_below BM.out hb);replace HQ:=am (Kd.R_below HQ.out hb);clear hb)|(go_at_call 36;refine(impl_isRoot.calls k _ _ q true _ (Kd.R_reads' HQ.out).2.2 (Kd.R_reads' HQ.out).2.1 A5.1).mono ?_;rintro e w6 ⟨rfl,hb⟩;replace HB:=am (below_step HB.1 hb);replace BM:=am (blk_below BM.out hb);replace HQ:=am (Kd.R_below HQ.out hb);clear hb)|(go_at_call 37;refine(slices_Min_int_int.calls _ _ q m _ (Kd.R_reads' HQ.out).2.2 (Kd.R_reads' HQ.out).2.1 A6.1).mono ?_;rintro e w7 ⟨rfl,hd⟩;have hb:=Drawn0.below hd;replace HB:=am (below_step HB.1 hb);replace BM:=am (blk_below BM.out hb);clear HQ hb hd))
      go_ret2
      exact⟨_,rfl,Kd.R_nil _ _ _ _ _,HB.1⟩
     rw[if_neg cm]at H
     have cmb:decide (m≥0)=false:=decide_eq_false cm
     have cmc:decide (0≤m)=false:=decide_eq_false cm
     clear cm
     have H':=am H
     clear H
     go_enter Tryz.func6,Tryz.ntmps6
     go_wp2_with (first|((with_reducible refine gd_ 3 rfl ?_);refine boxN_ 3 #[.int .i64 a1] 3 ?_;intro gm hg w1 hbox hb;have n0_:=am (below_step HB.1 hb);have BM:=am hbox;clear HB hb hbox hg;have HB:=n0_;clear n0_;have hcm1:w1.cell? ⟨gm,0,none⟩=some (.int .i64 a1):=(blk_cell BM.out 0).trans rfl)|(go_at_call 32;refine(impl_isConfig.calls k _ _ l0 true _ (Kd.C_below HR0.1 HB.1) HC0.1 A1.1).mono ?_;rintro e w2 ⟨rfl,hb⟩;replace HB:=am (below_step HB.1 hb);replace BM:=am (blk_below BM.out hb);clear hb;have hcm2:w2.cell? ⟨gm,0,none⟩=some (.int .i64 a1):=(blk_cell BM.out 0).trans rfl)|(go_at_call 33;refine(impl_within.calls a1 1 60 true _ A2.1).mono ?_;rintro e w3 ⟨rfl,hd⟩;have hb:=Drawn0.below hd;replace HB:=am (below_step HB.1 hb);replace BM:=am (blk_below BM.out hb);clear hb hd)|(go_at_call 34;refine(impl_curvatures.calls k _ _ l0 q _ (Kd.C_below HR0.1 HB.1) HC0.1 A3.1).mono ?_;rintro e w4 ⟨v4,rfl,ho,hb⟩;have n0_:=am (below_step HB.1 hb);have n1_:=am (blk_below BM.out hb);have HQ:=am ho;clear HB BM hb ho;have HB:=n0_;have BM:=n1_;clear n0_ n1_;obtain⟨Aq,cq,eq_⟩:=Kd.R_slice HQ.out;subst eq_)|(go_at_call 35;refine(impl_IsQuad.calls k _ _ q true _ (Kd.R_reads' HQ.out).2.2 (Kd.R_reads' HQ.out).2.1 A4.1).mono ?_;rintro e w5 ⟨rfl,hb⟩;replace HB:=am (below_step HB.1 hb);replace BM:=am (blk_below BM.out hb);replace HQ:=am (Kd.R_below HQ.out hb);clear hb)|(go_at_call 36;refine(impl_isRoot.calls k _ _ q true _ (Kd.R_reads' HQ.out).2.2 (Kd.R_reads' HQ.out).2.1 A5.1).mono ?_;rintro e w6 ⟨rfl,hb⟩;replace HB:=am (below_step HB.1 hb);replace BM:=am (blk_below BM.out hb);replace HQ:=am (Kd.R_below HQ.out hb);clear hb)|(go_at_call 37;refine(slices_Min_int_int.calls _ _ q m _ (Kd.R_reads' HQ.out).2.2 (Kd.R_reads' HQ.out).2.1 A6.1).mono ?_;rintro e w7 ⟨rfl,hd⟩;have hb:=Drawn0.below hd;replace HB:=am (below_step HB.1 hb);replace BM:=am (blk_below BM.out hb);clear HQ hb hd)|((with_reducible refine gd_ 40 rfl ?_);refine Kd.R_lit k37 _ 37 ?hg (N:=40) ?hd (xs:=([]:List S37)) (inner:=[]) (ok:=fun _=>True) (okp:=fun _=>True) ?hr ?hp (fun _ hk=>hk) trivial (Below.refl _ _) (Nat.le_refl _) (by simp) ?_;(case hd=>rfl);(case hg=>rfl);(case hr=>first|(go_simp;done)|(go_simp;rfl));(case hp=>exact(Reps.none _ _));intro v8 w8 ho hb hg_ hnew_;clear hg_ hnew_;have HO:=am (Kd.R_lower (Kd.R_mono (Kd.R_bound ho) (ok':=fun k_=>w.heap.size≤k_) (fun k_ hk=>Nat.le_trans (below_size HB.1) hk.2.1)) (below_size HB.1));replace HB:=am (below_step HB.1 hb);replace BM:=am (blk_below BM.out hb);clear hb ho)|((with_reducible refine gd_ 7 rfl ?_);refine boxN_ 7 #[.slice none 0 0] 24 ?_;intro go hg w9 hbox hb;have HS:=am (set_step (show SetAt (w8.alloc (.map #[] 0)) w8.heap.size []from⟨#[],0,Array.getElem?_push_size,rfl⟩) (hb.block w8.heap.size (show w8.heap.size<(w8.heap.push _).size by rw[Array.size_push];exact Nat.lt_succ_self _)));have GB:=am (below_size HB.1:w.heap.size≤w8.heap.size);have GO:=am (show w.heap.size≤go by rw[hg];exact below_size (below_alloc HB.1 _));have BO:=am hbox;replace HB:=am (below_step (below_alloc HB.1 _) hb);replace BM:=am (blk_below (blk_alloc BM.out _) hb);replace HO:=am (Kd.R_below (Kd.R_alloc HO.1 _) hb);clear hb hbox hg)|((with_reducible refine gd_ 8 rfl ?_);refine boxN_ 8 #[.map none] 68 ?_;intro gt hg w10 hbox hb;have GT:=am (show w.heap.size≤gt by rw[hg];exact below_size HB.1);have BT:=am hbox;have n0_:=am (below_step HB.1 hb);have n1_:=am (blk_below BM.out hb);have n2_:=am (Kd.R_below HO.1 hb);have n3_:=am (blk_below BO.out hb);have n4_:=am (set_step HS.out (hb.block _ (set_lt HS.out)));have hnb:go≠gt:=by{rw[hg];exact Nat.ne_of_lt (blk_lt BO.out)};have hnc:=hnb.symm;clear HB BM HO BO HS hb hbox hg;have HB:=n0_;have BM:=n1_;have HO:=n2_;have BO:=n3_;have HS:=n4_;clear n0_ n1_ n2_ n3_ n4_;have hcg:w10.cell? ⟨go,0,none⟩=some (.slice none 0 0):=(blk_cell BO.out 0).trans rfl;have hct:w10.cell? ⟨gt,0,none⟩=some (.map none):=(blk_cell BT.out 0).trans rfl;have hfg:=blk_frozen BO.out 0;have hft:=blk_frozen BT.out 0;obtain⟨A8,c8,e8⟩:=Kd.R_slice HO.1;subst e8))
     have HT:=am (St.start GO.out GB.out GT.out BM.out BT.out BO.out HS.out HO.1 HB.1)
     clear GT BM BT BO HS HO HB hcg hct hfg hft hnb hnc
     generalize w8.heap.size=bm at*
     go_loopg [45] k (fun kq v45 wr=>∃(x7:List S37) (i:Int) (u:Value),v45= .int .i64 i∧0≤i∧Aside0 (impl_CirclesUpTo.l0 kq l0 a1 x7 i=some (r1,r2))∧Aside0 (kq≤k)∧Aside0 (St w gm gt go bm a1 u x7 wr))
     case atStart=>exact⟨[],0,_,Z7,Int.le_refl _,H',⟨Nat.le_refl _⟩,HT⟩
     clear H' HT
     obtain⟨x7,i,u,rfl,hi0,HA,HK1,HT⟩:=hrel
     obtain _|k1:=gk
     ·
      exact absurd HA.out (by simp[impl_CirclesUpTo.l0])
     have H:=HA.out
     clear HA
     rw[impl_CirclesUpTo.l0]at H
     by_cases c5:i<(l0.length:Int)
     ·
      rw[if_pos c5]at H
      have c5b0:=decide_eq_true c5
      by_cases c6:x7.length<4398046511104
      rotate_left
      ·
       rw[if_neg c6]at H
       cases H
      rw[if_pos c6]at H
      have LM:=am c6
      clear c6
      have H':=am H
      clear H
      obtain⟨ad5,e5,hx0,hx1,hx2,hx3⟩:=at_T37 (Kd.C_below HR0.1 HT.out.2.2.2.2.2.2.2) i hi0 c5
      cases e5
      go_wp2_with (first|((with_reducible refine gd_ 11 rfl ?_);refine boxN_ 11 #[.int .i64 0,.int .i64 0,.int .i64 0,.int .i64 0] 37 ?_;intro gx hg w12 hbox hb;have NF:=am (HT.out.newer (gb:=gx) (by rw[hg];exact Nat.le_refl _));have n0_:=am (HT.out.below hb);have BX:=am hbox;clear HT hb hbox hg;have HT:=n0_;clear n0_;have hcz0:w12.cell? ⟨gx,0,none⟩=some (.int .i64 0):=(blk_cell BX.out 0).trans rfl;have hfz0:=blk_frozen BX.out 0;have hcz1:w12.cell? ⟨gx,1,none⟩=some (.int .i64 0):=(blk_cell BX.out 1).trans rfl;have hfz1:=blk_frozen BX.out 1;have hcz2:w12.cell? ⟨gx,2,none⟩=some (.int .i64 0):=(blk_cell BX.out 2).trans rfl;have hfz2:=blk_frozen BX.out 2;have hcz3:w12.cell? ⟨gx,3,none⟩=some (.int .i64 0):=(blk_cell BX.out 3).trans rfl;have hfz3:=blk_frozen BX.out 3)|(go_at_fn 38;refine(circVisit.calls w gm gt go bm a1 u x7 (rd_T37 l0 i) _ ?st LM.out).mono ?_;(case st=>exact(by repeat(first|exact HT.out|refine St.set ?_ NF.out.1 NF.out.2 _ _)));rintro e w13 ⟨rfl,u2,st2,hk2,hat2⟩;replace HT:=am st2;clear BX NF hat2 hk2 st2))
      go_roundg k1
      case measure=>have:=HK1.1;omega
      exact⟨(vis a1 x7 (rd_T37 l0 i)).1,wrap64 (i+1),u2,Z7,(by have:=HR0.1.2.1;unfold wrap64;omega),H',⟨Z34⟩,HT⟩
     rw[if_neg c5]at H
     have c5b0:=decide_eq_false c5
     clear c5
     have H':=am H
     clear H
     have HW:=am HT.out.2.2.2.2.2.2.2
     go_wp2_with ((with_reducible refine gd_ 55 rfl ?_);refine Kd.N_lit k74 _ 70 ?hg (N':=55) ?hd (xs:=[(⟨l0,(-1)⟩:S74)]) (inner:=[.slice A0 l0.length c0,.int .i64 (-1)]) (ok:=OKQ go bm u) (okp:=OKQ go bm u) ?hr ?hp (fun _ hk=>hk) (okq_new HT.out (Nat.le_refl _)) (Below.refl _ _) (Nat.le_refl _) (by simp) ?_;(case hd=>rfl);(case hg=>rfl);(case hr=>first|(go_simp;done)|(go_simp;rfl));(case hp=>exact(Reps.c2 (show Kd.FK k74 _ _ (⟨l0,(-1)⟩:S74) [.slice A0 l0.length c0,.int .i64 (-1)]from(k74_mkF _ _ (⟨l0,(-1)⟩:S74) HC0.1 (Kd.F_mono (Kd.F_below (Kd.C_F hh39 HR0.1) HW.out) (fun k_ hk=>okq_old HT.out hk)))) (Reps.none _ _)));intro v55 w55 ho hb hg_ hnew_;clear hg_ hnew_;have HQ:=am (Kd.N_lower ho (below_size HW.out));have n0_:=am (HT.out.below hb);clear HT HW ho hb;have HT:=n0_;clear n0_)
     go_loopg [12,13] k1 (fun kq v12 v13 wr=>∃(x7:List S37) (x10:List S74) (x11:Int) (u:Value),v13= .int .i64 x11∧Aside0 (impl_CirclesUpTo.l1 kq a1 x7 x10 x11=some (r1,r2))∧Aside0 (kq≤k1)∧Aside0 (St w gm gt go bm a1 u x7 wr)∧Aside0 (Kd.N k74 70 wr w.heap.size (OKQ go bm u) v12 x10))
     case atStart=>exact⟨x7,_,0,u,Z7,H',⟨Nat.le_refl _⟩,HT,HQ⟩
     clear H' HT HQ u x7
     obtain⟨x7,x10,x11,u,rfl,HA,HK2,HT,HQ⟩:=hrel
     obtain _|k2:=gk
     ·
      exact absurd HA.out (by simp[impl_CirclesUpTo.l1])
     have H:=HA.out
     clear HA
     rw[impl_CirclesUpTo.l1]at H
     obtain⟨Aq2,cq2,eq2⟩:=Kd.N_slice HQ.out
     subst eq2
     by_cases c7:x11<(x10.length:Int)
     rotate_left
     ·
      rw[if_neg c7]at H
      have c7b0:=decide_eq_false c7
      clear c7
      simp only[Option.some.injEq,Prod.mk.injEq]at H
      obtain⟨rfl,rfl⟩:=H
      have hcg:World.cell? _ ⟨go,0,none⟩=some u:=(blk_cell HT.out.2.2.2.2.1 0).trans rfl
      obtain⟨Au,cu,eu⟩:=Kd.R_slice HT.out.2.2.2.2.2.2.1
      subst eu
      go_wp2
      go_ret2
      exact⟨_,rfl,Kd.R_mono HT.out.2.2.2.2.2.2.1 (fun _ _=>trivial),HT.out.2.2.2.2.2.2.2⟩
     rw[if_pos c7]at H
     have c7b0:=decide_eq_true c7
     clear c7
     have H':=am H
     clear H
     go_wp2
     go_loopg [12,62] k2 (fun kq v12 v62 wr=>∃(x7:List S37) (x10:List S74) (x12:Int) (u:Value),v62= .int .i64 x12∧Aside0 (impl_CirclesUpTo.l2 kq a1 x7 x10 x11 x12=some (r1,r2))∧Aside0 (kq≤k2)∧Aside0 (St w gm gt go bm a1 u x7 wr)∧Aside0 (Kd.N k74 70 wr w.heap.size (OKQ go bm u) v12 x10))
     case atStart=>exact⟨x7,x10,0,u,Z7,H',⟨Nat.le_refl _⟩,HT,HQ⟩
     clear H' HT HQ
     clear u x7 c7b0
     obtain⟨x7,y10,x12,u,rfl,HA,HK3,HT,HQ⟩:=hrel
     obtain _|k3:=gk
     ·
      exact absurd HA.out (by simp[impl_CirclesUpTo.l2])
     have H:=HA.out
     clear HA
     rw[impl_CirclesUpTo.l2]at H
     obtain⟨Aq3,cq3,eq3⟩:=Kd.N_slice HQ.out
     subst eq3
     by_cases c8:x12<4
     rotate_left
     ·
      rw[if_neg c8]at H
      have c8b0:=decide_eq_false c8
      clear c8
      have H':=am H
      clear H
      go_wp2
      go_roundg k3
      case measure=>have:=HK1.1;have:=HK2.1;have:=HK3.1;omega
      exact⟨x7,y10,wrap64 (x11+1),u,Z7,H',⟨Z47⟩,HT,HQ⟩
     rw[if_pos c8]at H
     have c8b0:=decide_eq_true c8
     clear c8
     by_cases c9:0≤x11
     rotate_left
     ·
      rw[if_neg c9]at H
      cases H
     rw[if_pos c9]at H
     by_cases c10:x11<(y10.length:Int)
     rotate_left
     ·
      rw[if_neg c10]at H
      cases H
     rw[if_pos c10]at H
     obtain⟨adq,Al,cl,e10,hq0,hq1,hl0,hi0_⟩:=at_T74 (Kd.N_reads' HQ.out).2.2 x11 c9 c10
     cases e10
     have HCl:=am hl0
     have HCi:=am hi0_
     clear hl0 hi0_
     by_cases c11:x12=(rd_T74 y10 x11).f1
     ·
      rw[if_pos c11]at H
      have c11b0:(x12==(rd_T74 y10 x11).f1)=true:=beq_iff_eq.mpr c11
      clear c11
      have H':=am H
      clear H
      go_wp2
      go_roundg k3
      case measure=>have:=HK1.1;have:=HK2.1;have:=HK3.1;omega
      exact⟨x7,y10,wrap64 (x12+1),u,Z7,H',⟨Z47⟩,HT,HQ⟩
     rw[if_neg c11]at H
     have c11b0:(x12==(rd_T74 y10 x11).f1)=false:=beq_eq_false_iff_ne.mpr c11
     clear c11
     replace H:=Option.bind_eq_some_iff.mp H
     obtain⟨⟨nx,okb⟩,A120,H⟩:=H
     dsimp only at H
     have A12:=am A120
     clear A120
     by_cases c13:0≤x12
     rotate_left
     ·
      rw[if_neg c13]at H
      cases H
     rw[if_pos c13]at H
     by_cases c14:x12<(nx.length:Int)
     rotate_left
     ·
      rw[if_neg c14]at H
      cases H
     rw[if_pos c14]at H
     by_cases c15:x7.length<4398046511104
     rotate_left
     ·
      rw[if_neg c15]at H
      cases H
     rw[if_pos c15]at H
     have LM:=am c15
     clear c15
     by_cases c16:(vis a1 x7 (rd_T37 nx x12)).2=true
     rotate_left
     ·
      replace c16:=Bool.eq_false_iff.mpr c16
      rw[if_neg (by rw[c16];decide)]at H
      have H':=am H
      clear H
      go_wp2_with (first|(go_at_call 39;refine(impl_swapCircle.calls k3 _ _ ((rd_T74 y10 x11).f0) x12 nx okb _ HCi.1 HCl.1 A12.1).mono ?_;rintro e w64 ⟨v64,rfl,ho,hb⟩;have HN:=am (Kd.R_mono (Kd.R_bound ho) (ok':=fun k_=>wr.heap.size≤k_∧k_<w64.heap.size) (fun k_ hk=>⟨hk.2.1,hk.2.2.1⟩));have HTV:=am HT.out;replace HT:=am (HT.out.below hb);replace HQ:=am (Kd.N_below HQ.out hb);clear hb ho;obtain⟨An,cn,en⟩:=Kd.R_slice HN.out;subst en;obtain⟨ad2,e2,hy0,hy1,hy2,hy3⟩:=at_T37 (Kd.R_reads' HN.out).2.2 x12 c13 c14;cases e2)|(go_at_fn 38;refine(circVisit.calls w gm gt go bm a1 u x7 (rd_T37 nx x12) _ HT.out LM.out).mono ?_;rintro e w15 ⟨he,u2,st2,hk2,hat2⟩;rw[c16]at he;subst he;replace HT:=am st2;replace HQ:=am (okq_queue HQ.out hk2 hat2);replace HN:=am (okq_next HTV.out HN.out hk2 hat2);clear HTV hat2 hk2 st2;have hcg:w15.cell? ⟨go,0,none⟩=some u2:=(blk_cell HT.out.2.2.2.2.1 0).trans rfl;obtain⟨Au,cu,eu⟩:=Kd.R_slice HT.out.2.2.2.2.2.2.1;subst eu))
      go_roundg k3
      case measure=>have:=HK1.1;have:=HK2.1;have:=HK3.1;omega
      exact⟨(vis a1 x7 (rd_T37 nx x12)).1,y10,wrap64 (x12+1),_,Z7,H',⟨Z47⟩,HT,HQ⟩
     rw[if_pos c16]at H
     cases okb with
     |true=>
      rw[if_pos rfl]at H
      by_cases c17:((vis a1 x7 (rd_T37 nx x12)).1.length:Int)>300
      ·
       rw[if_pos c17]at H
       have c17b0:decide (300<((vis a1 x7 (rd_T37 nx x12)).1.length:Int))=true:=decide_eq_true c17
       clear c17
       simp only[Option.some.injEq,Prod.mk.injEq]at H
       obtain⟨rfl,rfl⟩:=H
       go_wp2_with (first|(go_at_call 39;refine(impl_swapCircle.calls k3 _ _ ((rd_T74 y10 x11).f0) x12 nx true _ HCi.1 HCl.1 A12.1).mono ?_;rintro e w64 ⟨v64,rfl,ho,hb⟩;have HN:=am (Kd.R_mono (Kd.R_bound ho) (ok':=fun k_=>wr.heap.size≤k_∧k_<w64.heap.size) (fun k_ hk=>⟨hk.2.1,hk.2.2.1⟩));have HTV:=am HT.out;replace HT:=am (HT.out.below hb);replace HQ:=am (Kd.N_below HQ.out hb);clear hb ho;obtain⟨An,cn,en⟩:=Kd.R_slice HN.out;subst en;obtain⟨ad2,e2,hy0,hy1,hy2,hy3⟩:=at_T37 (Kd.R_reads' HN.out).2.2 x12 c13 c14;cases e2)|(go_at_fn 38;refine(circVisit.calls w gm gt go bm a1 u x7 (rd_T37 nx x12) _ HT.out LM.out).mono ?_;rintro e w15 ⟨he,u2,st2,hk2,hat2⟩;rw[c16]at he;subst he;replace HT:=am st2;replace HQ:=am (okq_queue HQ.out hk2 hat2);replace HN:=am (okq_next HTV.out HN.out hk2 hat2);clear HTV hat2 hk2 st2;have hcg:w15.cell? ⟨go,0,none⟩=some u2:=(blk_cell HT.out.2.2.2.2.1 0).trans rfl;obtain⟨Au,cu,eu⟩:=Kd.R_slice HT.out.2.2.2.2.2.2.1;subst eu))
       go_ret2
       exact⟨_,rfl,Kd.R_nil _ _ _ _ _,HT.out.2.2.2.2.2.2.2⟩
      rw[if_neg c17]at H
      have c17b0:decide (300<((vis a1 x7 (rd_T37 nx x12)).1.length:Int))=false:=decide_eq_false c17
      clear c17
      by_cases c18:y10.length<4398046511104
      rotate_left
      ·
       rw[if_neg c18]at H
       cases H
      rw[if_pos c18]at H
      have LM2:=am c18
      clear c18
      have H':=am H
      clear H
      go_wp2_with (first|(go_at_call 39;refine(impl_swapCircle.calls k3 _ _ ((rd_T74 y10 x11).f0) x12 nx true _ HCi.1 HCl.1 A12.1).mono ?_;rintro e w64 ⟨v64,rfl,ho,hb⟩;have HN:=am (Kd.R_mono (Kd.R_bound ho) (ok':=fun k_=>wr.heap.size≤k_∧k_<w64.heap.size) (fun k_ hk=>⟨hk.2.1,hk.2.2.1⟩));have HTV:=am HT.out;replace HT:=am (HT.out.below hb);replace HQ:=am (Kd.N_below HQ.out hb);clear hb ho;obtain⟨An,cn,en⟩:=Kd.R_slice HN.out;subst en;obtain⟨ad2,e2,hy0,hy1,hy2,hy3⟩:=at_T37 (Kd.R_reads' HN.out).2.2 x12 c13 c14;cases e2)|(go_at_fn 38;refine(circVisit.calls w gm gt go bm a1 u x7 (rd_T37 nx x12) _ HT.out LM.out).mono ?_;rintro e w15 ⟨he,u2,st2,hk2,hat2⟩;rw[c16]at he;subst he;replace HT:=am st2;replace HQ:=am (okq_queue HQ.out hk2 hat2);replace HN:=am (okq_next HTV.out HN.out hk2 hat2);clear HTV hat2 hk2 st2;have hcg:w15.cell? ⟨go,0,none⟩=some u2:=(blk_cell HT.out.2.2.2.2.1 0).trans rfl;obtain⟨Au,cu,eu⟩:=Kd.R_slice HT.out.2.2.2.2.2.2.1;subst eu)|((with_reducible refine gate_builtin (b:= .append) (xs:=#[.tmp 96,.tmp 100]) rfl ?_);at_builtin;refine Kd.N_append k74 (w0:=w) w.heap.size rfl (.tmp 96) (.tmp 100) 71 70 (.agg #[(.slice none 0 0),(.int .i64 0)]) 32 rfl Tryz.underlying71 info70 rfl (by decide) (by omega) (.slice (some adq) y10.length cq3) y10 (⟨nx,x12⟩:S74) [.slice (some ad2) nx.length cn,.int .i64 x12] (OKQ go bm (.slice Au (vis a1 x7 (rd_T37 nx x12)).1.length cu)) (fun k_=>OKQ go bm (.slice Au (vis a1 x7 (rd_T37 nx x12)).1.length cu) k_∧some k_≠(.slice (some adq) y10.length cq3:Value).ownBlock) rfl rfl ?aP (fun _ hk=>hk) ?aF ?aO ?aB ?aS ?aL ?_;(case aP=>exact(k74_mkF _ _ (⟨nx,x12⟩:S74) (Kd.R_reads' HN.out).2.1 (Kd.R_F (Kd.R_apart' HN.out (Kd.N_typed HQ.out) (by decide)))));(case aF=>exact(fun k_ hk=>okq_new (HT.out.below (by repeat(first|exact Below.refl _ _|apply below_alloc))) hk));(case aO=>exact(by(with_reducible repeat(first|apply Kd.N_alloc|apply Kd.N_drewN|apply Kd.N_drew));exact HQ.out));(case aB=>exact(by repeat(first|(with_reducible first|exact HT.out.2.2.2.2.2.2.2|apply below_alloc|apply pw_below_drewN|apply below_drew1)|exact HT.out.2.2.2.2.2.2.2)));(case aS=>exact(below_size (by repeat(first|(with_reducible first|exact HT.out.2.2.2.2.2.2.2|apply below_alloc|apply pw_below_drewN|apply below_drew1)|exact HT.out.2.2.2.2.2.2.2))));(case aL=>have:=LM2.out;omega);intro v69 w69 ho hb hg hat;replace HT:=am (St.queue (HT.out.below (by repeat(first|exact Below.refl _ _|apply below_alloc))) (by(with_reducible repeat(first|apply Kd.N_alloc|apply Kd.N_drewN|apply Kd.N_drew));exact HQ.out) hg hb);replace HQ:=am ho;clear HN hat hb hcg hg ho))
      go_roundg k3
      case measure=>have:=HK1.1;have:=HK2.1;have:=HK3.1;omega
      exact⟨(vis a1 x7 (rd_T37 nx x12)).1,y10++[(⟨nx,x12⟩:S74)],wrap64 (x12+1),_,Z7,H',⟨Z47⟩,HT,HQ⟩
     |false=>
      rw[if_neg (by decide)]at H
      simp only[Option.some.injEq,Prod.mk.injEq]at H
      obtain⟨rfl,rfl⟩:=H
      go_wp2_with (first|(go_at_call 39;refine(impl_swapCircle.calls k3 _ _ ((rd_T74 y10 x11).f0) x12 nx false _ HCi.1 HCl.1 A12.1).mono ?_;rintro e w64 ⟨v64,rfl,ho,hb⟩;have HN:=am (Kd.R_mono (Kd.R_bound ho) (ok':=fun k_=>wr.heap.size≤k_∧k_<w64.heap.size) (fun k_ hk=>⟨hk.2.1,hk.2.2.1⟩));have HTV:=am HT.out;replace HT:=am (HT.out.below hb);replace HQ:=am (Kd.N_below HQ.out hb);clear hb ho;obtain⟨An,cn,en⟩:=Kd.R_slice HN.out;subst en;obtain⟨ad2,e2,hy0,hy1,hy2,hy3⟩:=at_T37 (Kd.R_reads' HN.out).2.2 x12 c13 c14;cases e2)|(go_at_fn 38;refine(circVisit.calls w gm gt go bm a1 u x7 (rd_T37 nx x12) _ HT.out LM.out).mono ?_;rintro e w15 ⟨he,u2,st2,hk2,hat2⟩;rw[c16]at he;subst he;replace HT:=am st2;replace HQ:=am (okq_queue HQ.out hk2 hat2);replace HN:=am (okq_next HTV.out HN.out hk2 hat2);clear HTV hat2 hk2 st2;have hcg:w15.cell? ⟨go,0,none⟩=some u2:=(blk_cell HT.out.2.2.2.2.1 0).trans rfl;obtain⟨Au,cu,eu⟩:=Kd.R_slice HT.out.2.2.2.2.2.2.1;subst eu))
      go_ret2
      exact⟨_,rfl,Kd.R_nil _ _ _ _ _,HT.out.2.2.2.2.2.2.2⟩
end
set_option maxHeartbeats 8000000 in
set_option maxRecDepth 100000 in
theorem packedVisit.calls (P0_:Nat→Prop) (B:Nat) (v:Value) (l0:List Int) (x:Int) (w0 w:World) (hB:Below w0.heap.size w0 w) (hPB:P0_ B) (hGE:w0.heap.size≤B) (hbox:w.heap[B]?=some (.cells #[v] 30 (0,0)))
  (ho0:Kd.R (Kd.int .i64) 3 w w0.heap.size P0_ v l0) (hl:l0.length<17592186044416):
  Calls Tryz.prog 79 #[.int .i64 x,.pointer (some ⟨B,0,none⟩)] w fun e w'=>e= .returned (.tuple #[])∧∃v':Value,w'.heap[B]?=some (.cells #[v'] 30 (0,0))∧
   Kd.R (Kd.int .i64) 3 w' w0.heap.size (fun k_=>(P0_ k_∨w.heap.size≤k_)) v' (l0++[x])∧Below w0.heap.size w0 w'∧Kept w w' (fun k_=>P0_ k_):=by
 have HO:=am (show Kd.R (Kd.int .i64) 3 w w0.heap.size (fun k_=>(P0_ k_∨w.heap.size≤k_)) v l0 from Kd.R_mono ho0 (fun k_ hk=>(.inl hk)))
 have HOP:=am ho0
 have HB:=am hB
 have BK:=am hbox
 have GE:=am hGE
 have HPB:=am hPB
 have LM:=am hl
 clear hB hPB hGE hbox ho0 hl
 obtain⟨Au,cu,eu⟩:=Kd.R_slice HO.1
 subst eu
 have hcz1:w.cell? ⟨B,0,none⟩=some (.slice Au l0.length cu):=(blk_cell BK.1 0).trans rfl
 have hfz1:=blk_frozen BK.1 0
 go_enter Tryz.func79,Tryz.ntmps79
 go_wp2_with ((with_reducible refine gate_builtin (b:= .append) (xs:=#[.tmp 3,.tmp 5]) rfl ?_);at_builtin;refine Kd.R_append (Kd.int .i64) (w0:=w0) w0.heap.size rfl (.tmp 3) (.tmp 5) 30 3 (.int .i64 0) 8 rfl Tryz.underlying30 info3 rfl (by decide) (by omega) (.slice Au l0.length cu) l0 x [.int .i64 x] (fun k_=>(P0_ k_∨w.heap.size≤k_)) (fun _=>False) rfl rfl ?aP (fun _ hk=>hk.elim) ?aF ?aO ?aB ?aS ?aL ?_;(case aP=>exact rfl);(case aB=>exact HB.1);(case aF=>exact(fun _ hk=> .inr hk));(case aO=>exact HO.1);(case aS=>exact below_size HB.1);(case aL=>have:=LM.out;omega);intro v1 w6 ho hb hg hat;have HK:=am (Kept.of_grown hg (Kept.refl w (fun k_=>P0_ k_)) (fun k hk=> .inl (HOP.1.1 k hk)));have n1_:=am (blk_grown BK.1 hg (Kd.R_ne HO.1 BK.1 (by decide)));have n2_:=am hb;have n3_:=am ho;clear BK HB HO hcz1 hfz1 ho hb hg hat;have BK:=n1_;have HB:=n2_;have HO:=n3_;clear n1_ n2_ n3_;have hcz3:w6.cell? ⟨B,0,none⟩=some (.slice Au l0.length cu):=(blk_cell BK.1 0).trans rfl;have hfz3:=blk_frozen BK.1 0;obtain⟨Av,cv,ev⟩:=Kd.R_slice HO.1;subst ev)
 go_end0
 exact⟨rfl,_,(by refine blk_put (cs:=#[.slice Au l0.length cu]) ?_ 0 _ (by simp);exact BK.1),Kd.R_mono (Kd.R_far (p:=⟨B,0,none⟩) (Kd.R_types HO.1 BK.1 (by decide)) (fun _ hk=>hk.2) _) (fun _ hk=>hk.1),below_set HB.1 GE.1,Kept.setCell HK.1 (.inl HPB.out) _⟩
mutual
def impl_circles.l0:Nat→List Int→List Int→Int→Int→Int→Int→Option (List Int)
  |0,_,_,_,_,_,_=>none
  |k+1,x0,x1,x2,x3,x12,x13=>if x13<x12 then(if x13=x2 then(impl_circles.l0 k x0 x1 x2 x3 x12 (wrap64 (x13+1)))else((impl_swapped.f k x1 x13).bind fun t667=>(if 0≤x13 then(if x13<(t667.length:Int)then(if(rd t667 x13)≤x3 then(if x0.length<17592186044416 then((impl_circles.f k (x0++[rd t667 x13]) t667 x13 x3).bind fun t675=>(impl_circles.l0 k t675 x1 x2 x3 x12 (wrap64 (x13+1))))else(none))else(impl_circles.l0 k x0 x1 x2 x3 x12 (wrap64 (x13+1))))else(none))else(none))))else(some x0)
def impl_circles.f:Nat→List Int→List Int→Int→Int→Option (List Int)
  |0,_,_,_,_=>none
  |k+1,l0,l1,a2,a3=>impl_circles.l0 k l0 l1 a2 a3 (l1.length:Int) 0
end
theorem impl_circles.mono_l:∀k,(∀y0 y1 y2 y3,LeO (impl_circles.f k y0 y1 y2 y3) (impl_circles.f (k+1) y0 y1 y2 y3))∧(∀y0 y1 y2 y3 y4 y5,LeO (impl_circles.l0 k y0 y1 y2 y3 y4 y5) (impl_circles.l0 (k+1) y0 y1 y2 y3 y4 y5))
  |0=>⟨fun _ _ _ _ r h=>by simp[impl_circles.f]at h,fun _ _ _ _ _ _ r h=>by simp[impl_circles.l0]at h⟩
  |k+1=>by
    obtain⟨ih0,ih1⟩:=impl_circles.mono_l k
    refine⟨?_,?_⟩
    · intro y0 y1 y2 y3
      unfold impl_circles.f
      exact ih1 _ _ _ _ _ _
    · intro y0 y1 y2 y3 y4 y5
      unfold impl_circles.l0
      exact mo_
theorem impl_circles.mono:∀a0 a1 a2 a3 k,LeO (impl_circles.f k a0 a1 a2 a3) (impl_circles.f (k+1) a0 a1 a2 a3):=fun a0 a1 a2 a3 k=>(impl_circles.mono_l k).1 a0 a1 a2 a3
set_option maxHeartbeats 8000000 in
set_option maxRecDepth 100000 in
theorem impl_circles.calls (k:Nat):∀(P0_:Nat→Prop) (B:Nat) (v:Value) (l0:List Int) (A1:Option Addr) (c1:Nat) (l1:List Int) (a2:Int) (a3:Int) (r:List Int) (w0 w:World) (hB:Below w0.heap.size w0 w) (hPB:P0_ B) (hGE:w0.heap.size≤B) (hbox:w.heap[B]?=some (.cells #[v] 30 (0,0)))
  (ho0:Kd.R (Kd.int .i64) 3 w w0.heap.size P0_ v l0) (hr1:∀W_,Kept w W_ (fun k_=>P0_ k_)→Kd.C (Kd.int .i64) W_ A1 l1.length l1) (hc1:l1.length≤c1) (h:impl_circles.f k l0 l1 a2 a3=some r),
  Calls Tryz.prog 80 #[.slice A1 l1.length c1,.int .i64 a2,.int .i64 a3,.func (.func 79) #[] #[.pointer (some ⟨B,0,none⟩)]] w fun e w'=>e= .returned (.tuple #[])∧∃v':Value,w'.heap[B]?=some (.cells #[v'] 30 (0,0))∧
   Kd.R (Kd.int .i64) 3 w' w0.heap.size (fun k_=>(P0_ k_∨w.heap.size≤k_)) v' r∧Below w0.heap.size w0 w'∧Kept w w' (fun k_=>P0_ k_):=by
 have eg:∀args w,(callFunc 79 args).run Tryz.prog w= .ok (.enter 79 args) w:=enters_of Tryz.func79 Z19 rfl
 induction k using Nat.strongRecOn with
 |_ k ih=>
 intro P0_ B v l0 A1 c1 l1 a2 a3 r w0 w hB hPB hGE hbox ho0 hr1 hc1 h
 cases k with
 |zero=>exact absurd h (by simp[impl_circles.f])
 |succ k=>
 simp only[impl_circles.f]at h
 have HO:=am (show Kd.R (Kd.int .i64) 3 w w0.heap.size (fun k_=>(P0_ k_∨w.heap.size≤k_)) v l0 from Kd.R_mono ho0 (fun k_ hk=>(.inl hk)))
 have HR1:=am hr1
 have HC1:=am hc1
 have BK:=am hbox
 have GE:=am hGE
 have HPB:=am hPB
 have HK:=am (Kept.refl w (fun k_=>P0_ k_))
 have HB:=am hB
 clear hr1 hc1 hB hPB hGE hbox ho0
 have H':=am h
 clear h
 go_enter Tryz.func80,Tryz.ntmps80
 go_wp2
 go_loopg [12] k (fun kq v12 w'=>∃(x0_1:List Int) (x13_1:Int) (u:Value),v12= .int .i64 x13_1∧Aside0 (impl_circles.l0 kq x0_1 l1 a2 a3 (l1.length:Int) x13_1=some r)∧Aside0 (kq≤k)∧Aside0 (w'.heap[B]?=some (.cells #[u] 30 (0,0)))∧Aside0 (Kd.R (Kd.int .i64) 3 w' w0.heap.size (fun k_=>(P0_ k_∨w.heap.size≤k_)) u x0_1)∧Aside0 (Kept w w' (fun k_=>P0_ k_))∧Aside0 (Below w0.heap.size w0 w'))
 case atStart=>exact⟨l0,0,v,Z7,H',⟨Nat.le_refl _⟩,BK,HO,HK,HB⟩
 clear H' BK HO HK HB
 obtain⟨x0_1,x13_1,u,rfl,HA,HK1,BK,HO,HK,HB⟩:=hrel
 obtain _|k1:=gk
 ·
  exact absurd HA.out (by simp[impl_circles.l0])
 have H:=HA.out
 clear HA
 simp only[impl_circles.l0]at H
 by_cases c5:x13_1<(l1.length:Int)
 rotate_left
 ·
  rw[if_neg c5]at H
  have c5b0:=decide_eq_false c5
  clear c5
  obtain rfl:=Option.some.inj H
  clear H ih
  go_wp2
  go_end0
  exact⟨rfl,u,BK.1,HO.1,HB.1,HK.1⟩
 rw[if_pos c5]at H
 have c5b0:=decide_eq_true c5
 clear c5
 by_cases c6:x13_1=a2
 ·
  rw[if_pos c6]at H
  have c6b0:(x13_1==a2)=true:=beq_iff_eq.mpr c6
  clear c6
  have H':=am H
  clear H
  go_wp2
  go_roundg k1
  case measure=>have:=HK1.1;omega
  exact⟨x0_1,wrap64 (x13_1+1),u,Z7,H',⟨Z34⟩,BK,HO,HK,HB⟩
 rw[if_neg c6]at H
 have c6b0:(x13_1==a2)=false:=beq_eq_false_iff_ne.mpr c6
 clear c6
 obtain⟨t667,A7,H⟩:=bs_ H
 obtain⟨c8,H⟩:=ip_ H
 have c8b0:=decide_eq_true c8
 clear c8
 obtain⟨c9,H⟩:=ip_ H
 have c9b0:=decide_eq_true c9
 clear c9
 by_cases c10:(rd t667 x13_1)≤a3
 rotate_left
 ·
  rw[if_neg c10]at H
  have c10b0:=decide_eq_false c10
  clear c10
  have H':=am H
  clear H ih
  go_wp2_with (go_at_call 73;(with_reducible refine(impl_swapped.calls k1 _ _ l1 x13_1 t667 _ ?side1 ?side2 A7.1).mono ?_);(case side1=>exact Kd.C_kept_now HR1.1 HK.1);(case side2=>exact HC1.1);rintro e w13 ⟨v668,rfl,ho0,hb⟩;have n0_:=am (Kd.R_elder' HO.1 (Kd.R_base ho0) hb);have n1_:=am (Kd.R_lower ho0 (below_size HB.1));have n2_:=am (Kept.below HK.1 hb);have n3_:=am (below_step HB.1 hb);have n4_:=am (blk_below BK.1 hb);clear HO HK HB BK hb ho0;have HO:=n0_;have HT:=n1_;have HK:=n2_;have HB:=n3_;have BK:=n4_;clear n0_ n1_ n2_ n3_ n4_;obtain⟨Ao,co,eo⟩:=Kd.R_slice HT.out;subst eo;have p670:0≤(x13_1:Int):=of_decide_eq_true Z31;have q670:x13_1<(t667.length:Int):=of_decide_eq_true Z31;obtain⟨ad670,e670,hx670_0⟩:=Kd.at_int (Kd.R_reads' HT.out).2.2 x13_1 p670 q670;cases e670;replace p670:=eq_true p670;replace q670:=eq_true q670)
  go_roundg k1
  case measure=>have:=HK1.1;omega
  exact⟨x0_1,wrap64 (x13_1+1),u,Z7,H',⟨Z34⟩,BK,⟨Kd.R_mono HO.1 (fun _ hk=>hk.1)⟩,HK,HB⟩
 rw[if_pos c10]at H
 have c10b0:=decide_eq_true c10
 clear c10
 obtain⟨c11,H⟩:=ip_ H
 have LM:=am c11
 clear c11
 obtain⟨t675,A12,H⟩:=bs_ H
 have H':=am H
 clear H
 have IH:=am (ih k1 Z34)
 clear ih
 go_wp2_with (first|(go_at_call 73;(with_reducible refine(impl_swapped.calls k1 _ _ l1 x13_1 t667 _ ?side1 ?side2 A7.1).mono ?_);(case side1=>exact Kd.C_kept_now HR1.1 HK.1);(case side2=>exact HC1.1);rintro e w13 ⟨v668,rfl,ho0,hb⟩;replace HO:=am (Kd.R_elder' HO.1 (Kd.R_base ho0) hb);have HT:=am (Kd.R_lower ho0 (below_size HB.1));replace HB:=am (below_step HB.1 hb);replace BK:=am (blk_below BK.1 hb);have TB:=am (fun k_ (hk:v668.ownBlock=some k_)=>Nat.le_trans HK.1.1 (Kd.R_base ho0 k_ hk));replace HK:=am (Kept.below HK.1 hb);clear hb ho0;obtain⟨Ao,co,eo⟩:=Kd.R_slice HT.out;subst eo;have p670:0≤(x13_1:Int):=of_decide_eq_true Z31;have q670:x13_1<(t667.length:Int):=of_decide_eq_true Z31;obtain⟨ad670,e670,hx670_0⟩:=Kd.at_int (Kd.R_reads' HT.out).2.2 x13_1 p670 q670;cases e670;replace p670:=eq_true p670;replace q670:=eq_true q670)|(go_at_fn 79;refine(packedVisit.calls (fun k_=>(P0_ k_∨w.heap.size≤k_)∧some k_≠(Value.slice (some ad670) t667.length co).ownBlock) B u x0_1 (rd t667 x13_1) w0 _ HB.1 ⟨.inl HPB.out,Kd.R_ne HT.out BK.1 (by decide)⟩ GE.1 BK.1 HO.1 LM.out).mono ?_;rintro e w15 ⟨rfl,u2,bk2,ho2,hb2,hk2⟩;have HT1:=am (Kd.C_kept_own (S:=fun k_=>((P0_ k_∨w.heap.size≤k_)∧some k_≠(Value.slice (some ad670) t667.length co).ownBlock)∨w13.heap.size≤k_) (Kd.R_bound (Kd.R_tight rfl HT.out)) (fun k_ hk hs=>hs.elim (fun h=>h.2 hk.1) (fun h=>absurd h (by have:=hk.2.2.1;omega))));have HT2:=am (Kd.C_kept_step HT1.out (Kept.mono hk2 (fun k_ hk=> .inl hk)));have HPB2:=am (show((P0_ B∨w.heap.size≤B)∧some B≠(Value.slice (some ad670) t667.length co).ownBlock)∨w13.heap.size≤B from .inl ⟨.inl HPB.out,Kd.R_ne HT.out BK.1 (by decide)⟩);have HTC:=am (Kd.R_reads' HT.out).2.1;have n2_:=am (Kept.then_ HK.1 hk2 (fun k_ hk=>hk.1));have HW:=am (show w13.heap.size≤w15.heap.size from hk2.1);have HW0:=am (show w.heap.size≤w13.heap.size from HK.1.1);clear HO HK HB BK HT HT1 TB hx670_0;have HO:=am ho2;have HK:=n2_;have HB:=am hb2;have BK:=am bk2;clear n2_ ho2 hb2 bk2 hk2)|(go_at_call 80;refine(IH.out (fun k_=>((P0_ k_∨w.heap.size≤k_)∧some k_≠(Value.slice (some ad670) t667.length co).ownBlock)∨w13.heap.size≤k_) B u2 (x0_1++[rd t667 x13_1]) (some ad670) co t667 x13_1 a3 t675 w0 _ HB.1 HPB2.out GE.1 BK.1 HO.1 HT2.out HTC.out A12.1).mono ?_;rintro e w16 ⟨rfl,u3,bk3,ho3,hb3,hk3⟩;have n2_:=am (Kept.then_ HK.1 hk3 (fun k_ hk=>hk.elim (fun h=>h.1) (fun h=> .inr (Nat.le_trans HW0.out h))));have n3_:=am (Kd.R_mono ho3 (fun k_ hk=>show P0_ k_∨w.heap.size≤k_ from hk.elim (fun h=>h.elim (fun h=>h.1) (fun h=> .inr (Nat.le_trans HW0.out h))) (fun h=> .inr (Nat.le_trans HW0.out (Nat.le_trans HW.out h)))));clear HO HK HB BK;have HO:=n3_;have HK:=n2_;have HB:=am hb3;have BK:=am bk3;clear n2_ n3_ ho3 hb3 bk3 hk3))
 go_roundg k1
 case measure=>have:=HK1.1;omega
 exact⟨t675,wrap64 (x13_1+1),u3,Z7,H',⟨Z34⟩,BK,HO,HK,HB⟩
def impl_packed.l0:Nat→List Int→List Int→Int→Int→Option (List Int)
  |0,_,_,_,_=>none
  |k+1,x0,x1,x2,i=>if i<(x1.length:Int)then(if(rd x1 i)≤x2 then(if x0.length<17592186044416 then(impl_packed.l0 k (x0++[rd x1 i]) x1 x2 (wrap64 (i+1)))else none)else(impl_packed.l0 k x0 x1 x2 (wrap64 (i+1))))else((impl_circles.f k x0 x1 (-1) x2).bind fun o=>slices_Sort_int_int.f o)
def impl_packed.f (k:Nat) (l0:List Int) (a1:Int):Option (List Int × Bool):=(impl_RootQuad.f k l0).bind fun b=>(if b.2=true then(if 0<(b.1.length:Int)then(if(rd b.1 0)≥0 then(some (([]:List Int),false))else((impl_within.f a1 1 500).bind fun t=>(if t=true then((impl_packed.l0 k [] b.1 a1 0).bind fun s=>(some (s,true)))else(some (([]:List Int),false)))))else none)else(some (([]:List Int),false)))
theorem impl_packed.mono_l:∀k,(∀y0 y1 y2 y3,LeO (impl_packed.l0 k y0 y1 y2 y3) (impl_packed.l0 (k+1) y0 y1 y2 y3))
  |0=>fun _ _ _ _ r h=>by simp[impl_packed.l0]at h
  |k+1=>by
    have ih0:=impl_packed.mono_l k
    intro y0 y1 y2 y3
    unfold impl_packed.l0
    exact mo_
theorem impl_packed.mono:∀a0 a1 k,LeO (impl_packed.f k a0 a1) (impl_packed.f (k+1) a0 a1):=by
  intro a0 a1 k
  unfold impl_packed.f
  exact mo_
set_option maxHeartbeats 8000000 in
set_option maxRecDepth 100000 in
theorem impl_packed.calls (k:Nat) (A0:Option Addr) (c0:Nat) (l0:List Int) (a1:Int) (r1:List Int) (r2:Bool) (w:World) (hr0:Kd.C (Kd.int .i64) w A0 l0.length l0) (hc0:l0.length≤c0) (h:impl_packed.f k l0 a1=some (r1,r2)):
  Calls Tryz.prog 48 #[.slice A0 l0.length c0,.int .i64 a1] w fun e w'=>∃v0_:Value,e= .returned (.tuple #[v0_,.bool r2])∧Kd.R (Kd.int .i64) 3 w' w.heap.size (fun _=>True) v0_ r1∧Below w.heap.size w w':=by
 have eg:∀args w,(callFunc 79 args).run Tryz.prog w= .ok (.enter 79 args) w:=enters_of Tryz.func79 Z19 rfl
 have HR0:=am hr0
 have HC0:=am hc0
 clear hr0 hc0
 have HB:=am (Below.refl w.heap.size w)
 have H:=h
 clear h
 unfold impl_packed.f at H
 obtain⟨⟨rr,rb⟩,A2,H⟩:=bs_ H
 try dsimp only at H
 cases rb with
 |false=>
  rw[if_neg (by decide)]at H
  simp only[Option.some.injEq,Prod.mk.injEq]at H
  obtain⟨rfl,rfl⟩:=H
  go_enter Tryz.func48,Tryz.ntmps48
  go_wp2_with (go_at_call 78;(with_reducible refine(impl_RootQuad.calls k _ _ l0 rr false _ HR0.1 HC0.1 A2.1).mono ?_);rintro e w1 ⟨v1,rfl,ho,hb⟩;have HB1:=am hb;clear ho hb)
  go_ret2
  exact⟨_,rfl,Kd.R_nil _ _ _ _ _,HB1.1⟩
 |true=>
  rw[if_pos rfl]at H
  obtain⟨c1,H⟩:=ip_ H
  have p0:(0:Int)≤0:=Int.le_refl _
  have c1b:decide ((0:Int)<(rr.length:Int))=true:=decide_eq_true c1
  by_cases c2:(rd rr 0)≥0
  ·
   rw[if_pos c2]at H
   have c2b:decide ((rd rr 0)≥0)=true:=decide_eq_true c2
   have c2c:decide (0≤(rd rr 0))=true:=decide_eq_true c2
   clear c2
   simp only[Option.some.injEq,Prod.mk.injEq]at H
   obtain⟨rfl,rfl⟩:=H
   go_enter Tryz.func48,Tryz.ntmps48
   go_wp2_with (go_at_call 78;(with_reducible refine(impl_RootQuad.calls k _ _ l0 rr true _ HR0.1 HC0.1 A2.1).mono ?_);rintro e w1 ⟨v1,rfl,ho,hb⟩;have HB1:=am hb;have HT:=am ho;clear ho hb;obtain⟨Ao,co,eo⟩:=Kd.R_slice HT.out;subst eo;obtain⟨ad,e0,hx0⟩:=Kd.at_int (Kd.R_reads' HT.out).2.2 0 p0 c1;cases e0;rw[show((0:Int)).toNat=0 from rfl,Addr.add_zero']at hx0;have p0t:=eq_true p0;have q0t:=eq_true c1;have qi0:(0<rr.length)=True:=eq_true (by omega))
   go_ret2
   exact⟨_,rfl,Kd.R_nil _ _ _ _ _,HB1.1⟩
  rw[if_neg c2]at H
  have c2b:decide ((rd rr 0)≥0)=false:=decide_eq_false c2
  have c2c:decide (0≤(rd rr 0))=false:=decide_eq_false c2
  clear c2
  obtain⟨wb,A3,H⟩:=bs_ H
  cases wb with
  |false=>
   rw[if_neg (by decide)]at H
   simp only[Option.some.injEq,Prod.mk.injEq]at H
   obtain⟨rfl,rfl⟩:=H
   go_enter Tryz.func48,Tryz.ntmps48
   go_wp2_with (first|(go_at_call 78;(with_reducible refine(impl_RootQuad.calls k _ _ l0 rr true _ HR0.1 HC0.1 A2.1).mono ?_);rintro e w1 ⟨v1,rfl,ho,hb⟩;have HB1:=am hb;have HT:=am ho;clear ho hb;obtain⟨Ao,co,eo⟩:=Kd.R_slice HT.out;subst eo;obtain⟨ad,e0,hx0⟩:=Kd.at_int (Kd.R_reads' HT.out).2.2 0 p0 c1;cases e0;rw[show((0:Int)).toNat=0 from rfl,Addr.add_zero']at hx0;have p0t:=eq_true p0;have q0t:=eq_true c1;have qi0:(0<rr.length)=True:=eq_true (by omega))|(go_at_call 33;(with_reducible refine(impl_within.calls a1 1 500 false _ A3.1).mono ?_);rintro e w2 ⟨rfl,⟨nd,rfl⟩⟩))
   go_ret2
   exact⟨_,rfl,Kd.R_nil _ _ _ _ _,(by repeat(first|exact HB1.1|apply pw_below_drewN))⟩
  |true=>
   rw[if_pos rfl]at H
   replace H:=Option.bind_eq_some_iff.mp H
   obtain⟨ss,A40,H⟩:=H
   simp only[Option.some.injEq,Prod.mk.injEq]at H
   obtain⟨rfl,rfl⟩:=H
   have A4:=am A40
   clear A40
   go_enter Tryz.func48,Tryz.ntmps48
   go_wp2_with (first|(go_at_call 78;(with_reducible refine(impl_RootQuad.calls k _ _ l0 rr true _ HR0.1 HC0.1 A2.1).mono ?_);rintro e w1 ⟨v1,rfl,ho,hb⟩;have n0_:=am hb;have HT:=am ho;clear HB ho hb;have HB:=n0_;clear n0_;obtain⟨Ao,co,eo⟩:=Kd.R_slice HT.out;subst eo;obtain⟨ad,e0,hx0⟩:=Kd.at_int (Kd.R_reads' HT.out).2.2 0 p0 c1;cases e0;rw[show((0:Int)).toNat=0 from rfl,Addr.add_zero']at hx0;have p0t:=eq_true p0;have q0t:=eq_true c1;have qi0:(0<rr.length)=True:=eq_true (by omega))|(go_at_call 33;(with_reducible refine(impl_within.calls a1 1 500 true _ A3.1).mono ?_);rintro e w2 ⟨rfl,hd⟩;have HD:=am (Drawn0.below hd);have HW1:=am (below_size HB.1);have HC1:=am (Kd.C_kept_own (S:=fun k_=>w1.heap.size≤k_) (Kd.R_bound (Kd.R_tight rfl HT.out)) (fun k_ hk hs=>absurd hs (by have:=hk.2.2.1;omega)));have HTC:=am (Kd.R_reads' HT.out).2.1;have HK:=am (Kept.of_below HD.out (fun k_=>w1.heap.size≤k_));replace HB:=am (below_step HB.1 HD.out);clear HT hd hx0)|((with_reducible refine gd_ 30 rfl ?_);refine Kd.R_lit (Kd.int .i64) _ 3 ?hg (N:=30) ?hd (xs:=([]:List Int)) (inner:=[]) (ok:=fun _=>True) (okp:=fun _=>True) ?hr ?hp (fun _ hk=>hk) trivial (Below.refl _ _) (Nat.le_refl _) (by simp) ?_;(case hd=>rfl);(case hg=>rfl);(case hr=>first|(go_simp;done)|(go_simp;rfl));(case hp=>exact(Reps.none _ _));intro v3 w3 ho hb hg_ hnew_;clear hg_ hnew_;have HO:=am (Kd.R_mono (Kd.R_lower (Kd.R_newM (M:=fun k_=>w1.heap.size≤k_) ho (below_size HD.out) (fun _ hk=>hk)) (below_size HB.1)) (fun k_ hk=>hk.1));replace HB:=am (below_step HB.1 hb);replace HK:=am (Kept.below HK.1 hb);clear hb ho)|((with_reducible refine gd_ 8 rfl ?_);refine boxN_ 8 #[.slice none 0 0] 30 ?_;intro gb hg w4 hbox hb;have n0_:=am (below_step HB.1 hb);have BK:=am hbox;have GE:=am (show w1.heap.size≤gb by rw[hg];exact HK.1.1);have n1_:=am (Kept.below HK.1 hb);have n2_:=am (Kd.R_below HO.1 hb);have NB:=am (show v3.ownBlock≠some gb by intro he;have:=Kd.R_lt HO.1 gb he;omega);clear HB HK HO hb hbox hg;have HB:=n0_;have HK:=n1_;have HO:=n2_;clear n0_ n1_ n2_;have hcz3:w4.cell? ⟨gb,0,none⟩=some (.slice none 0 0):=(blk_cell BK.1 0).trans rfl;have hfz3:=blk_frozen BK.1 0;obtain⟨Av,cv,ev⟩:=Kd.R_slice HO.1;subst ev))
   go_loopg [34] k (fun kq v34 wr=>∃(x0_1:List Int) (i:Int) (u:Value),v34= .int .i64 i∧0≤i∧Aside0 (impl_packed.l0 kq x0_1 rr a1 i=some ss)∧Aside0 (kq≤k)∧Aside0 (wr.heap[gb]?=some (.cells #[u] 30 (0,0)))∧Aside0 (Kd.R (Kd.int .i64) 3 wr w.heap.size (fun k_=>w1.heap.size≤k_) u x0_1)∧Aside0 (Kept w1 wr (fun k_=>w1.heap.size≤k_))∧Aside0 (Below w.heap.size w wr))
   case atStart=>exact⟨[],0,_,Z7,Int.le_refl _,A4,⟨Nat.le_refl _⟩,⟨(by refine blk_put (cs:=#[.slice none 0 0]) ?_ 0 _ rfl;exact BK.1)⟩,⟨Kd.R_mono (Kd.R_far (p:=⟨gb,0,none⟩) (Kd.R_types HO.1 BK.1 (by decide)) (fun _ hk=>hk.2) _) (fun _ hk=>hk.1)⟩,⟨Kept.setCell HK.1 (.inl GE.1) _⟩,⟨below_set HB.1 (Nat.le_trans HW1.out GE.1)⟩⟩
   clear A4 HO HK HB BK NB
   obtain⟨x0_1,i,u,rfl,hi0,HA,HK1,BK,HO,HK,HB⟩:=hrel
   obtain _|k1:=gk
   ·
    exact absurd HA.out (by simp[impl_packed.l0])
   have H:=HA.out
   clear HA
   simp only[impl_packed.l0]at H
   have GEw:=am (Nat.le_trans HW1.out GE.1)
   by_cases c5:i<(rr.length:Int)
   rotate_left
   ·
    rw[if_neg c5]at H
    have c5b0:=decide_eq_false c5
    clear c5
    replace H:=Option.bind_eq_some_iff.mp H
    obtain⟨oo,A50,A60⟩:=H
    have A5:=am A50
    have A6:=am A60
    clear A50 A60
    have HC2:=am (Kd.C_kept_step HC1.1 HK.1)
    go_wp2_with (first|(go_at_call 80;refine(impl_circles.calls k1 (fun k_=>w1.heap.size≤k_) gb u x0_1 _ _ rr (-1) a1 oo w _ HB.1 GE.1 GEw.1 BK.1 HO.1 HC2.1 HTC.out A5.1).mono ?_;rintro e w16 ⟨rfl,u3,bk3,ho3,hb3,hk3⟩;clear HO HK HB BK;have HO:=am ho3;have HB:=am hb3;have BK:=am bk3;clear ho3 hb3 bk3 hk3;have hcz6:w16.cell? ⟨gb,0,none⟩=some u3:=(blk_cell BK.1 0).trans rfl;have hfz6:=blk_frozen BK.1 0;obtain⟨A3_,c3_,e3_⟩:=Kd.R_slice HO.1;subst e3_)|(go_at_call 81;refine(slices_Sort_int_int.calls (fun k_=>some k_=(Value.slice A3_ oo.length c3_).ownBlock) _ oo ss w _ HB.1 (Kd.R_tight rfl HO.1) A6.1).mono ?_;rintro e w17 ⟨rfl,ho4,hb4,hk4⟩;have n0_:=am (blk_kept BK.1 hk4 (Kd.R_ne HO.1 BK.1 (by decide)));clear HO HB BK hcz6 hfz6;have HO:=am ho4;have HB:=am hb4;have BK:=n0_;clear n0_ ho4 hb4 hk4;have hcz7:w17.cell? ⟨gb,0,none⟩=some (.slice A3_ oo.length c3_):=(blk_cell BK.1 0).trans rfl;have hfz7:=blk_frozen BK.1 0))
    go_ret2
    exact⟨_,rfl,Kd.R_mono HO.1 (fun _ _=>trivial),HB.1⟩
   rw[if_pos c5]at H
   have c5b0:=decide_eq_true c5
   obtain⟨ad5,e5,hx5⟩:=Kd.at_int (Kd.C_kept_now HC1.1 HK.1) i hi0 c5
   cases e5
   by_cases c10:(rd rr i)≤a1
   rotate_left
   ·
    rw[if_neg c10]at H
    have c10b0:=decide_eq_false c10
    clear c10
    have H':=am H
    clear H
    go_wp2
    go_roundg k1
    case measure=>have:=HK1.1;omega
    exact⟨x0_1,wrap64 (i+1),u,Z7,(by have:=HTC.out;have:=(HC1.1 w1 (Kept.refl _ _)).2.1;unfold wrap64;omega),H',⟨Z34⟩,BK,HO,HK,HB⟩
   rw[if_pos c10]at H
   have c10b0:=decide_eq_true c10
   clear c10
   obtain⟨c11,H⟩:=ip_ H
   have LM:=am c11
   clear c11
   have H':=am H
   clear H
   go_wp2_with (go_at_fn 79;refine(packedVisit.calls (fun k_=>w1.heap.size≤k_) gb u x0_1 (rd rr i) w _ HB.1 GE.1 GEw.1 BK.1 HO.1 LM.out).mono ?_;rintro e w15 ⟨rfl,u2,bk2,ho2,hb2,hk2⟩;have n2_:=am (Kept.then_ HK.1 hk2 (fun k_ hk=> .inl hk));have n3_:=am (Kd.R_mono ho2 (fun k_ hk=>show w1.heap.size≤k_ from hk.elim id (fun h=>Nat.le_trans HK.1.1 h)));clear HO HK HB BK hx5;have HO:=n3_;have HK:=n2_;have HB:=am hb2;have BK:=am bk2;clear n2_ n3_ ho2 hb2 bk2 hk2)
   go_roundg k1
   case measure=>have:=HK1.1;omega
   exact⟨x0_1++[rd rr i],wrap64 (i+1),u2,Z7,(by have:=HTC.out;have:=(HC1.1 w1 (Kept.refl _ _)).2.1;unfold wrap64;omega),H',⟨Z34⟩,BK,HO,HK,HB⟩
def impl_CountUpTo.f (k:Nat) (l0:List Int) (a1:Int):Option (Int × Bool):=(impl_packed.f k l0 a1).bind fun bt493=>(some ((bt493.1.length:Int),bt493.2))
theorem impl_CountUpTo.mono:∀a0 a1 k,LeO (impl_CountUpTo.f k a0 a1) (impl_CountUpTo.f (k+1) a0 a1):=by
  intro a0 a1 k
  unfold impl_CountUpTo.f
  exact mo_
set_option maxHeartbeats 8000000 in
set_option maxRecDepth 100000 in
theorem impl_CountUpTo.calls (k:Nat) (A0:Option Addr) (c0:Nat) (l0:List Int) (a1:Int) (r1:Int) (r2:Bool) (w:World) (hr0:Kd.C (Kd.int .i64) w A0 l0.length l0) (hc0:l0.length≤c0) (h:impl_CountUpTo.f k l0 a1=some (r1,r2)):
  Calls Tryz.prog 10 #[.slice A0 l0.length c0,.int .i64 a1] w fun e w'=>e= .returned (.tuple #[.int .i64 r1,.bool r2])∧Below w.heap.size w w':=by
 have HR0:=am hr0
 have HC0:=am hc0
 clear hr0 hc0
 have HB:=am (Below.refl w.heap.size w)
 have H:=h
 clear h
 unfold impl_CountUpTo.f at H
 obtain⟨⟨t493,t494⟩,A3,H⟩:=bs_ H
 try dsimp only at H
 simp only[Option.some.injEq,Prod.mk.injEq]at H
 obtain⟨rfl,rfl⟩:=H
 go_enter Tryz.func10,Tryz.ntmps10
 go_wp2_with (first|((with_reducible refine gc_ 48 rfl ?_);refine gE_ (some 11) Tryz.func48 (impl_packed.calls k _ _ l0 a1 t493 t494 _ ?side1 ?side2 A3.1) ?_;(case side1=>exact(Z11 HR0));(case side2=>exact HC0.1);rintro v495 w4 ⟨ho0,hb⟩;have HOoa:=am (Kd.R_lower ho0 zs_);replace HB:=bw_ hb;clear hb;(try clear ho0);obtain⟨Ao5,co5,eo5⟩:=Kd.R_slice HOoa.1;subst eo5))
 go_ret2
 exact⟨Z6,ZB⟩
open Go.Shelf in
def laysCO_ren:Go.Shelf.Ren:=⟨fun|20=>50|n=>n,fun|22=>30|3=>3|4=>4|0=>0|n=>n,fun|n=>n⟩
theorem laysCO:Go.Proofs.Lays2.n20 Tryz.prog laysCO_ren:={
  mixed:=by kernel_rfl
  f20:=Tryz.func50.trans (congrArg some Z19)
  t0:=Tryz.underlying0
  a0:=Tryz.isAgg0
  z0:=Tryz.sizeOf0
  v0:=Tryz.zeroValue0
  t3:=Tryz.underlying3
  a3:=Tryz.isAgg3
  z3:=Tryz.sizeOf3
  v3:=Tryz.zeroValue3
  t4:=Tryz.underlying4
  a4:=Tryz.isAgg4
  z4:=Tryz.sizeOf4
  v4:=Tryz.zeroValue4
  t22:=Tryz.underlying30
  a22:=Tryz.isAgg30
  z22:=Tryz.sizeOf30
  v22:=Tryz.zeroValue30
  i3:=by kernel_rfl}
theorem own_short {W:World} {base:Nat} {e:TypeId} {g n m cap:Nat} {ts:List Value} (h:W.ownsRow base e 1 (.slice (some ⟨g,0,none⟩) n cap) n ts) (hm:m≤n):W.ownsRow base e 1 (.slice (some ⟨g,0,none⟩) m cap) m (ts.take m):=by
  obtain⟨h1,h2⟩:=h
  rcases h2 with⟨h0,_⟩|⟨g',cap',cur,hv,hg,hb,hn,hcap,hcs,htk⟩
  · cases h0
  · cases hv
    refine⟨by simp only[Nat.mul_one]at h1;simp;omega,.inr ⟨g,cap,cur,rfl,hg,hb,by omega,hcap,hcs,?_⟩⟩
    rw[←htk,List.take_take]
    congr 1
    omega
def slices_Compact_int_int.f (l0:List Int):Option (List Int):=if(decide (0<l0.length)&&decide (l0.length<4611686018427387904))=true then some (Lib.compact l0)else none
set_option maxHeartbeats 8000000 in
set_option maxRecDepth 100000 in
theorem slices_Compact_int_int.calls (P0_:Nat→Prop) (u9000_:Value) (l0 r:List Int) (w0 w:World) (hB:Below w0.heap.size w0 w) (ho0:Kd.R (Kd.int .i64) 3 w w0.heap.size P0_ u9000_ l0) (h:slices_Compact_int_int.f l0=some r):
  Calls Tryz.prog 50 #[u9000_] w fun e w'=>∃v0_:Value,e= .returned (v0_)∧Kd.R (Kd.int .i64) 3 w' w0.heap.size (fun k_=>(P0_ k_∨w.heap.size≤k_)) v0_ r∧Below w0.heap.size w0 w'∧Kept w w' (fun k_=>P0_ k_):=by
 have hl:(0<l0.length∧l0.length<4611686018427387904)∧Lib.compact l0=r:=by
  unfold slices_Compact_int_int.f at h
  split at h
  ·
   rename_i h1
   simp only[Bool.and_eq_true,decide_eq_true_eq]at h1
   exact⟨h1,Option.some.inj h⟩
  cases h
 obtain⟨⟨hpos,hsz⟩,rfl⟩:=hl
 obtain⟨g,cap,rfl,hbase,hgl,cells,hgb⟩:=Kd.R_form ho0 hpos
 have hP:=ho0.1
 have hown2:=Kd.own_of_R ho0
 rcases hown2.2 with⟨h0,_⟩|⟨g',cap',cur,hv,hg,hgb2,hn,hcap,hcs,htk⟩
 ·
  cases h0
 cases hv
 have hH:Go.Sort.Holds (Value.int .i64) w g 0 l0.toArray:=holds_of_blockI hgb2 (by simpa[encs]using htk)
 have hcon:=Any.slices_Compact_int laysCO g 0 cap l0 w hH (by omega) hn
 change Calls Tryz.prog 50 _ _ _ at hcon
 refine hcon.mono ?_
 have hle:(Lib.compact l0).length≤l0.length:=by simp only[Lib.compact,Lib.compactUpTo,List.length_map];exact Nat.le_trans (List.length_filter_le _ _) (by simp)
 rintro e w' ⟨rfl,q,rfl⟩
 have hg0:∀W:World,Go.Sort.grow W #[]=W:=fun W=>by simp[Go.Sort.grow]
 have hgr:=grownBy_sortedI (w:=w) (g:=g) (n:=q) (os:=#[]) (Lib.compact l0++List.replicate (l0.length-(Lib.compact l0).length) 0).toArray
 have ho:=ownsRow_sortedI (w:=w) (base:=w0.heap.size) (g:=g) (cap:=cap) (n:=q) (os:=#[]) (ss:=l0) (ts:=Lib.compact l0++List.replicate (l0.length-(Lib.compact l0).length) 0) (by simp;omega) hbase hgb2 hn hcap hcs
 rw[hg0]at hgr ho
 have hs:=own_short ho hle
 refine⟨_,rfl,?_,hB.grown hgr hB.size (fun k e_=>by cases e_;exact hbase),Kept.of_grown hgr (Kept.refl _ _) (fun k e_=> .inl (by cases e_;exact hP g rfl))⟩
 refine Kd.R_of_own (enc:=Value.int .i64) ?_ (fun k hk=> .inl (hP k hk))
 rw[List.map_append,List.take_left' (by simp)]at hs
 exact hs
def impl_CurvaturesUpTo.f (k:Nat) (l0:List Int) (a1:Int):Option (List Int × Bool):=(impl_packed.f k l0 a1).bind fun bt497=>(if bt497.2=true then((slices_Compact_int_int.f bt497.1).bind fun t501=>((slices_Clone_int_int.f t501).bind fun t504=>(some (t504,true))))else(some (([]:List Int),false)))
theorem impl_CurvaturesUpTo.mono:∀a0 a1 k,LeO (impl_CurvaturesUpTo.f k a0 a1) (impl_CurvaturesUpTo.f (k+1) a0 a1):=by
  intro a0 a1 k
  unfold impl_CurvaturesUpTo.f
  exact mo_
set_option maxHeartbeats 8000000 in
set_option maxRecDepth 100000 in
theorem impl_CurvaturesUpTo.calls (k:Nat) (A0:Option Addr) (c0:Nat) (l0:List Int) (a1:Int) (r1:List Int) (r2:Bool) (w:World) (hr0:Kd.C (Kd.int .i64) w A0 l0.length l0) (hc0:l0.length≤c0) (h:impl_CurvaturesUpTo.f k l0 a1=some (r1,r2)):
  Calls Tryz.prog 11 #[.slice A0 l0.length c0,.int .i64 a1] w fun e w'=>∃v0_:Value,e= .returned (.tuple #[v0_,.bool r2])∧Kd.R (Kd.int .i64) 3 w' w.heap.size (fun _=>True) v0_ r1∧Below w.heap.size w w':=by
 have HR0:=am hr0
 have HC0:=am hc0
 clear hr0 hc0
 have HB:=am (Below.refl w.heap.size w)
 have H:=h
 clear h
 unfold impl_CurvaturesUpTo.f at H
 obtain⟨⟨t497,t498⟩,A3,H⟩:=bs_ H
 try dsimp only at H
 by_cases c4:t498=true
 rotate_left
 ·
  replace c4:=Bool.eq_false_iff.mpr c4
  subst c4
  rw[if_neg (show¬(false=true) by decide)]at H
  simp only[Option.some.injEq,Prod.mk.injEq]at H
  obtain⟨rfl,rfl⟩:=H
  go_enter Tryz.func11,Tryz.ntmps11
  go_wp2_with (first|((with_reducible refine gc_ 48 rfl ?_);refine gE_ (some 11) Tryz.func48 (impl_packed.calls k _ _ l0 a1 t497 false _ ?side1 ?side2 A3.1) ?_;(case side1=>exact(Z11 HR0));(case side2=>exact HC0.1);rintro v499 w12 ⟨ho0,hb⟩;have HOoa:=am (Kd.R_lower ho0 zs_);replace HB:=bw_ hb;clear hb;(try clear ho0)))
  go_ret2
  exact⟨_,Z6,Z23,ZB⟩
 subst c4
 rw[if_pos rfl]at H
 obtain⟨t501,A5,H⟩:=bs_ H
 try dsimp only at H
 obtain⟨t504,A6,H⟩:=bs_ H
 try dsimp only at H
 simp only[Option.some.injEq,Prod.mk.injEq]at H
 obtain⟨rfl,rfl⟩:=H
 go_enter Tryz.func11,Tryz.ntmps11
 go_wp2_with (first|((with_reducible refine gc_ 48 rfl ?_);refine gE_ (some 11) Tryz.func48 (impl_packed.calls k _ _ l0 a1 t497 true _ ?side1 ?side2 A3.1) ?_;(case side1=>exact(Z11 HR0));(case side2=>exact HC0.1);rintro v499 w7 ⟨ho0,hb⟩;have HOoa:=am (Kd.R_lower ho0 zs_);replace HB:=bw_ hb;clear hb;(try clear ho0);obtain⟨Ao8,co8,eo8⟩:=Kd.R_slice HOoa.1;subst eo8)|((with_reducible refine gc_ 50 rfl ?_);refine gE_ (some 17) Tryz.func50 (slices_Compact_int_int.calls (fun k_=>some k_=(.slice Ao8 t497.length co8:Value).ownBlock) (.slice Ao8 t497.length co8) t497 t501 w _ ?side1 ?side2 A5.1) ?_;(case side1=>exact ZB);(case side2=>exact Kd.R_tight rfl HOoa.1);rintro v502 w9 ⟨ho0,hb,hkp⟩;have HOob:=am (Kd.R_mono (ok':=fun k_=>True) ho0 (fun k_ hk_=>trivial));replace HB:=am hb;clear HOoa;clear hb;(try clear hkp);(try clear ho0);obtain⟨Ao10,co10,eo10⟩:=Kd.R_slice HOob.1;subst eo10)|((with_reducible refine gc_ 49 rfl ?_);refine gE_ (some 18) Tryz.func49 (slices_Clone_int_int.calls _ _ t501 t504 _ ?side1 ?side2 A6.1) ?_;(case side1=>exact(Z10 HOob));(case side2=>exact(Kd.R_reads' HOob.1).2.1);rintro v505 w11 ⟨ho0,hb⟩;have HOoc:=am (Kd.R_lower (Kd.R_new' ho0 (Kd.R_lt (Z1 HOob))) zs_);replace HOob:=am (Kd.R_elder' (Z1 HOob) (Kd.R_base ho0) hb);replace HB:=bw_ hb;clear hb;(try clear ho0)))
 go_ret2
 exact⟨_,Z6,(Z20 HOoc),ZB⟩
def laws_dHas.l0:Nat→Int→List Int→Int→Int→Option (Bool)
  |0,_,_,_,_=>none
  |k+1,x1,x7,x8,x9=>if x9<x8 then(if 0≤x9 then(if x9<(x7.length:Int)then(if(rd x7 x9)=x1 then(some true)else(laws_dHas.l0 k x1 x7 x8 (wrap64 (x9+1))))else(none))else(none))else(some false)
def laws_dHas.f (k:Nat) (l0:List Int) (a1:Int):Option (Bool):=laws_dHas.l0 k a1 l0 (l0.length:Int) 0
theorem laws_dHas.mono_l:∀k,(∀y0 y1 y2 y3,LeO (laws_dHas.l0 k y0 y1 y2 y3) (laws_dHas.l0 (k+1) y0 y1 y2 y3))
  |0=>fun _ _ _ _ r h=>by simp[laws_dHas.l0]at h
  |k+1=>by
    have ih0:=laws_dHas.mono_l k
    · intro y0 y1 y2 y3
      unfold laws_dHas.l0
      exact mo_
theorem laws_dHas.mono:∀a0 a1 k,LeO (laws_dHas.f k a0 a1) (laws_dHas.f (k+1) a0 a1):=by
  intro a0 a1 k
  have ih0:=laws_dHas.mono_l k
  unfold laws_dHas.f
  exact mo_
set_option maxHeartbeats 8000000 in
set_option maxRecDepth 100000 in
theorem laws_dHas.calls (k:Nat) (A0:Option Addr) (c0:Nat) (l0:List Int) (a1:Int) (r:Bool) (w:World) (hr0:Kd.C (Kd.int .i64) w A0 l0.length l0) (hc0:l0.length≤c0) (h:laws_dHas.f k l0 a1=some r):
  Calls Tryz.prog 13 #[.slice A0 l0.length c0,.int .i64 a1] w fun e w'=>e= .returned (.bool r)∧Drawn0 w w':=by
 have HR0:=am hr0
 have HC0:=am hc0
 clear hr0 hc0
 have H:(laws_dHas.l0 k a1 l0 (l0.length:Int) 0)=some r:=h
 clear h
 have H':=am H
 clear H
 go_enter Tryz.func13,Tryz.ntmps13
 go_wp2
 go_loopg [9] k (fun kq v9 w'=>∃(x9_1:Int),v9= .int .i64 x9_1∧Aside0 (laws_dHas.l0 kq a1 l0 (l0.length:Int) x9_1=some r)∧Aside0 (kq≤k)∧Drawn0 w w')
 case atStart=>exact⟨(0),Z7,H',⟨Nat.le_refl _⟩,Z16⟩
 clear H'
 obtain⟨x9_1,rfl,HA,HK1,⟨m1,rfl⟩⟩:=hrel
 obtain _|k1:=gk
 ·
  exact absurd HA.out (by simp[laws_dHas.l0])
 have H:=HA.out
 clear HA
 simp only[laws_dHas.l0]at H
 by_cases c3:x9_1<(l0.length:Int)
 rotate_left
 ·
  rw[if_neg c3]at H
  have c3b0:=decide_eq_false c3
  clear c3
  obtain rfl:=Option.some.inj H
  go_wp2
  go_ret
  exact⟨Z7,Z16⟩
 rw[if_pos c3]at H
 have c3b0:=decide_eq_true c3
 clear c3
 obtain⟨c4,H⟩:=ip_ H
 have c4b0:=decide_eq_true c4
 clear c4
 obtain⟨c5,H⟩:=ip_ H
 have c5b0:=decide_eq_true c5
 clear c5
 by_cases c6:(rd l0 x9_1)=a1
 ·
  rw[if_pos c6]at H
  obtain⟨c6b0,c6b1⟩:=eq2_ c6
  clear c6
  obtain rfl:=Option.some.inj H
  have p507:0≤(x9_1:Int):=of_decide_eq_true Z5
  have q507:x9_1<(l0.length:Int):=of_decide_eq_true Z5
  obtain⟨ad507,e507,hx507_0⟩:=Kd.at_int HR0.1 x9_1 p507 q507
  cases e507
  replace p507:=eq_true p507
  replace q507:=eq_true q507
  go_wp2
  go_ret
  exact⟨Z7,Z16⟩
 rw[if_neg c6]at H
 obtain⟨c6b0,c6b1⟩:=ne2_ c6
 have H':=am H
 clear H
 have p507:0≤(x9_1:Int):=of_decide_eq_true Z5
 have q507:x9_1<(l0.length:Int):=of_decide_eq_true Z5
 obtain⟨ad507,e507,hx507_0⟩:=Kd.at_int HR0.1 x9_1 p507 q507
 cases e507
 replace p507:=eq_true p507
 replace q507:=eq_true q507
 go_wp2
 go_roundg k1
 case measure=>have:=HK1.1;omega
 exact⟨(wrap64 (x9_1+1)),Z7,H',⟨Z34⟩,Z16⟩
def impl_TwiceProduct.f (a0_0:Int) (a0_1:Int) (a0_2:Int) (a0_3:Int) (a1_0:Int) (a1_1:Int) (a1_2:Int) (a1_3:Int):Option (Int × Bool):=(impl_areCircles.f (([(⟨a0_0,a0_1,a0_2,a0_3⟩:S37),(⟨a1_0,a1_1,a1_2,a1_3⟩:S37)]:List (S37)))).bind fun t513=>(if t513=true then((impl_twice.f a0_0 a0_1 a0_2 a0_3 a1_0 a1_1 a1_2 a1_3).bind fun t514=>(some (t514,true)))else(some (0,false)))
set_option maxHeartbeats 8000000 in
set_option maxRecDepth 100000 in
theorem impl_TwiceProduct.calls (a0_0:Int) (a0_1:Int) (a0_2:Int) (a0_3:Int) (a1_0:Int) (a1_1:Int) (a1_2:Int) (a1_3:Int) (r1:Int) (r2:Bool) (w:World) (h:impl_TwiceProduct.f a0_0 a0_1 a0_2 a0_3 a1_0 a1_1 a1_2 a1_3=some (r1,r2)):
  Calls Tryz.prog 14 #[.agg #[.int .i64 a0_0,.int .i64 a0_1,.int .i64 a0_2,.int .i64 a0_3],.agg #[.int .i64 a1_0,.int .i64 a1_1,.int .i64 a1_2,.int .i64 a1_3]] w fun e w'=>e= .returned (.tuple #[.int .i64 r1,.bool r2])∧Below w.heap.size w w':=by
 have hu37:=Tryz.underlying37
 have HB:=am (Below.refl w.heap.size w)
 have H:=h
 clear h
 unfold impl_TwiceProduct.f at H
 obtain⟨y_a,hy_a⟩:∃y_:List (S37),y_=(([(⟨a0_0,a0_1,a0_2,a0_3⟩:S37),(⟨a1_0,a1_1,a1_2,a1_3⟩:S37)]:List (S37))):=⟨_,rfl⟩
 replace H:((impl_areCircles.f y_a).bind fun t513=>(if t513=true then((impl_twice.f a0_0 a0_1 a0_2 a0_3 a1_0 a1_1 a1_2 a1_3).bind fun t514=>(some (t514,true)))else(some (0,false))))=some (r1,r2):=Z8
 have Ny_a:=am hy_a
 clear hy_a
 obtain⟨t513,A3,H⟩:=bs_ H
 try dsimp only at H
 by_cases c4:t513=true
 rotate_left
 ·
  replace c4:=Bool.eq_false_iff.mpr c4
  subst c4
  rw[if_neg (show¬(false=true) by decide)]at H
  simp only[Option.some.injEq,Prod.mk.injEq]at H
  obtain⟨rfl,rfl⟩:=H
  go_enter Tryz.func14,Tryz.ntmps14
  go_wp2_with (first|((with_reducible refine gd_ 2 rfl ?_);refine boxN_ 2 #[.int .i64 a0_0,.int .i64 a0_1,.int .i64 a0_2,.int .i64 a0_3] 37 ?_;intro gboa hg w18 hbox hb;have BKoa:=am hbox;have GWoa:=gG_ hg;have GEoa:=gG_ hg;replace HB:=bw_ hb;clear hb hbox hg)|((with_reducible refine gd_ 3 rfl ?_);refine boxN_ 3 #[.int .i64 a1_0,.int .i64 a1_1,.int .i64 a1_2,.int .i64 a1_3] 37 ?_;intro gbob hg w19 hbox hb;have BKob:=am hbox;have GWob:=gG_ hg;have GEob:=gG_ hg;replace HB:=bw_ hb;have NBoa_ob:=nl_ BKoa hg;have NBob_oa:=ng_ BKoa hg;replace BKoa:=bk_ BKoa hb;clear hb hbox hg;have hnb20:=NBoa_ob.1;have hnc20:=NBob_oa.1;obtain⟨_,_,_,_,_,_,_,_⟩:=cz4_ BKoa;obtain⟨_,_,_,_,_,_,_,_⟩:=cz4_ BKob)|((with_reducible refine gd_ 8 rfl ?_);refine Kd.R_lit k37 _ 37 ?hg (N:=8) ?hd (xs:=([(⟨a0_0,a0_1,a0_2,a0_3⟩:S37),(⟨a1_0,a1_1,a1_2,a1_3⟩:S37)]:List (S37))) (inner:=[.int .i64 a0_0,.int .i64 a0_1,.int .i64 a0_2,.int .i64 a0_3,.int .i64 a1_0,.int .i64 a1_1,.int .i64 a1_2,.int .i64 a1_3]) (ok:=fun _=>True) (okp:=fun _=>True) ?hr ?hp (fun _ hk=>hk) trivial (Below.refl _ _) (Nat.le_refl _) (by simp) ?_;(case hd=>rfl);(case hg=>rfl);(case hr=>first|(go_simp;done)|(go_simp;rfl));(case hp=>exact(Reps.c4 (show Kd.M k37 _ _ _ (⟨a0_0,a0_1,a0_2,a0_3⟩:S37) [.int .i64 a0_0,.int .i64 a0_1,.int .i64 a0_2,.int .i64 a0_3]from(k37_mkM _ _ _ (⟨a0_0,a0_1,a0_2,a0_3⟩:S37))) (Reps.c4 (show Kd.M k37 _ _ _ (⟨a1_0,a1_1,a1_2,a1_3⟩:S37) [.int .i64 a1_0,.int .i64 a1_1,.int .i64 a1_2,.int .i64 a1_3]from(k37_mkM _ _ _ (⟨a1_0,a1_1,a1_2,a1_3⟩:S37))) (Reps.none _ _))));intro v511 w23 ho24 hb hg_ hnew_;clear hg_ hnew_;(first|rw[←Ny_a.1]at ho24|(simp only[Int.reduceToNat]at ho24;rw[←Ny_a.1]at ho24));have HOoc:=am (Kd.R_lower (Kd.R_newB (Kd.R_newB ho24 (bb_ BKoa)) (bb_ BKob)) zs_);replace BKoa:=bk_ BKoa hb;replace BKob:=bk_ BKob hb;replace HB:=bw_ hb;clear hb ho24;obtain⟨Ao25,co25,eo25⟩:=Kd.R_slice HOoc.1;subst eo25)|((with_reducible refine gc_ 53 rfl ?_);refine gM_ (some 9) Tryz.func53 (impl_areCircles.calls _ _ y_a false _ ?side1 ?side2 A3.1) ?_;(case side1=>exact(Z10 HOoc));(case side2=>exact(Kd.R_reads' HOoc.1).2.1);intro w26 hb;replace HOoc:=am (Kd.R_below (Z1 HOoc) hb);replace BKoa:=bk_ BKoa hb;replace BKob:=bk_ BKob hb;replace HB:=bw_ hb;clear hb))
  go_ret2
  exact⟨Z6,ZB⟩
 subst c4
 rw[if_pos rfl]at H
 obtain⟨t514,A5,H⟩:=bs_ H
 try dsimp only at H
 simp only[Option.some.injEq,Prod.mk.injEq]at H
 obtain⟨rfl,rfl⟩:=H
 go_enter Tryz.func14,Tryz.ntmps14
 go_wp2_with (first|((with_reducible refine gd_ 2 rfl ?_);refine boxN_ 2 #[.int .i64 a0_0,.int .i64 a0_1,.int .i64 a0_2,.int .i64 a0_3] 37 ?_;intro gboa hg w6 hbox hb;have BKoa:=am hbox;have GWoa:=gG_ hg;have GEoa:=gG_ hg;replace HB:=bw_ hb;clear hb hbox hg)|((with_reducible refine gd_ 3 rfl ?_);refine boxN_ 3 #[.int .i64 a1_0,.int .i64 a1_1,.int .i64 a1_2,.int .i64 a1_3] 37 ?_;intro gbob hg w7 hbox hb;have BKob:=am hbox;have GWob:=gG_ hg;have GEob:=gG_ hg;replace HB:=bw_ hb;have NBoa_ob:=nl_ BKoa hg;have NBob_oa:=ng_ BKoa hg;replace BKoa:=bk_ BKoa hb;clear hb hbox hg;have hnb8:=NBoa_ob.1;have hnc8:=NBob_oa.1;obtain⟨_,_,_,_,_,_,_,_⟩:=cz4_ BKoa;obtain⟨_,_,_,_,_,_,_,_⟩:=cz4_ BKob)|((with_reducible refine gd_ 8 rfl ?_);refine Kd.R_lit k37 _ 37 ?hg (N:=8) ?hd (xs:=([(⟨a0_0,a0_1,a0_2,a0_3⟩:S37),(⟨a1_0,a1_1,a1_2,a1_3⟩:S37)]:List (S37))) (inner:=[.int .i64 a0_0,.int .i64 a0_1,.int .i64 a0_2,.int .i64 a0_3,.int .i64 a1_0,.int .i64 a1_1,.int .i64 a1_2,.int .i64 a1_3]) (ok:=fun _=>True) (okp:=fun _=>True) ?hr ?hp (fun _ hk=>hk) trivial (Below.refl _ _) (Nat.le_refl _) (by simp) ?_;(case hd=>rfl);(case hg=>rfl);(case hr=>first|(go_simp;done)|(go_simp;rfl));(case hp=>exact(Reps.c4 (show Kd.M k37 _ _ _ (⟨a0_0,a0_1,a0_2,a0_3⟩:S37) [.int .i64 a0_0,.int .i64 a0_1,.int .i64 a0_2,.int .i64 a0_3]from(k37_mkM _ _ _ (⟨a0_0,a0_1,a0_2,a0_3⟩:S37))) (Reps.c4 (show Kd.M k37 _ _ _ (⟨a1_0,a1_1,a1_2,a1_3⟩:S37) [.int .i64 a1_0,.int .i64 a1_1,.int .i64 a1_2,.int .i64 a1_3]from(k37_mkM _ _ _ (⟨a1_0,a1_1,a1_2,a1_3⟩:S37))) (Reps.none _ _))));intro v511 w11 ho12 hb hg_ hnew_;clear hg_ hnew_;(first|rw[←Ny_a.1]at ho12|(simp only[Int.reduceToNat]at ho12;rw[←Ny_a.1]at ho12));have HOoc:=am (Kd.R_lower (Kd.R_newB (Kd.R_newB ho12 (bb_ BKoa)) (bb_ BKob)) zs_);replace BKoa:=bk_ BKoa hb;replace BKob:=bk_ BKob hb;replace HB:=bw_ hb;clear hb ho12;obtain⟨Ao13,co13,eo13⟩:=Kd.R_slice HOoc.1;subst eo13)|((with_reducible refine gc_ 53 rfl ?_);refine gM_ (some 9) Tryz.func53 (impl_areCircles.calls _ _ y_a true _ ?side1 ?side2 A3.1) ?_;(case side1=>exact(Z10 HOoc));(case side2=>exact(Kd.R_reads' HOoc.1).2.1);intro w14 hb;replace HOoc:=am (Kd.R_below (Z1 HOoc) hb);replace BKoa:=bk_ BKoa hb;replace BKob:=bk_ BKob hb;replace HB:=bw_ hb;clear hb;obtain⟨_,_,_,_,_,_,_,_⟩:=cz4_ BKoa;obtain⟨_,_,_,_,_,_,_,_⟩:=cz4_ BKob)|((with_reducible refine gc_ 54 rfl ?_);refine gM_ (some 13) Tryz.func54 (impl_twice.calls a0_0 a0_1 a0_2 a0_3 a1_0 a1_1 a1_2 a1_3 t514 _ A5.1) ?_;intro w17 hb;replace HOoc:=am (Kd.R_below (Z1 HOoc) hb);replace BKoa:=bk_ BKoa hb;replace BKob:=bk_ BKob hb;replace HB:=bw_ hb;clear hb))
 go_ret2
 exact⟨Z6,ZB⟩
def spec_l1Cur_circle.j0:Nat→List Int→Int→Int→Int→Int→Int→Int→Option (Int × Int × Int × Int × Int × Int)
  |0,_,_,_,_,_,_,_=>none
  |k+1,x1000,x1001,x1002,x517000,x517001,x517002,x517003=>(spec_l1Cur_pick.f x1000 x1001 x1002 16).bind fun bt526=>(if bt526.1=0 then((spec_l1Cur_among.f x1000 bt526.2.1 bt526.2.2 (([1,(-1),1000000]:List Int))).bind fun bt532=>(some (wrap64 (x517000+bt532.1),x517001,x517002,x517003,bt532.2.1,bt532.2.2)))else(if bt526.1=1 then(some (1000000,0,0,1,bt526.2.1,bt526.2.2))else(if bt526.1=2 then((spec_l1Cur_among.f x1000 bt526.2.1 bt526.2.2 (([(-9223372036854775808),4611686018427387904]:List Int))).bind fun bt538=>(some (bt538.1,2,0,0,bt538.2.1,bt538.2.2)))else(some (x517000,x517001,x517002,x517003,bt526.2.1,bt526.2.2)))))
def spec_l1Cur_circle.f (k:Nat) (s0_0:List Int) (s0_1:Int) (s0_2:Int):Option (Int × Int × Int × Int × Int × Int):=(spec_l1Cur_config.f k s0_0 s0_1 s0_2).bind fun bt517=>(if(bt517.1.length:Int)>0 then((spec_l1Cur_pick.f s0_0 bt517.2.1 bt517.2.2 (bt517.1.length:Int)).bind fun bt522=>(if 0≤bt522.1 then(if bt522.1<(bt517.1.length:Int)then(spec_l1Cur_circle.j0 k s0_0 bt522.2.1 bt522.2.2 ((rd_T37 bt517.1 bt522.1).f0) ((rd_T37 bt517.1 bt522.1).f1) ((rd_T37 bt517.1 bt522.1).f2) ((rd_T37 bt517.1 bt522.1).f3))else(none))else(none)))else(spec_l1Cur_circle.j0 k s0_0 bt517.2.1 bt517.2.2 0 0 1 0))
theorem spec_l1Cur_circle.mono_l:∀k,(∀y0 y1 y2 y3 y4 y5 y6,LeO (spec_l1Cur_circle.j0 k y0 y1 y2 y3 y4 y5 y6) (spec_l1Cur_circle.j0 (k+1) y0 y1 y2 y3 y4 y5 y6))
  |0=>fun _ _ _ _ _ _ _ r h=>by simp[spec_l1Cur_circle.j0]at h
  |k+1=>by
    have ih0:=spec_l1Cur_circle.mono_l k
    · intro y0 y1 y2 y3 y4 y5 y6
      unfold spec_l1Cur_circle.j0
      exact mo_
theorem spec_l1Cur_circle.mono:∀a0 a1 a2 k,LeO (spec_l1Cur_circle.f k a0 a1 a2) (spec_l1Cur_circle.f (k+1) a0 a1 a2):=by
  intro a0 a1 a2 k
  have ih0:=spec_l1Cur_circle.mono_l k
  unfold spec_l1Cur_circle.f
  exact mo_
def spec_l1Cur_circle.T7:Bool × List (List Nat × List Nat):=(true,[([],[]),([0],[0]),([],[]),([],[]),([2,3],[2,3]),([1,4],[1,4]),([0,1,2,3,4,5],[]),([6,5,4,0,1,2,3,4,5],[5,6])])
def spec_l1Cur_circle.B7:List Nat:=[0,1,0,0,12,31,63,127]
theorem spec_l1Cur_circle.tab7:rtab .any (opsOf Tryz.f55 7)=spec_l1Cur_circle.T7:=by kernel_rfl
theorem spec_l1Cur_circle.bits7:waitsOk spec_l1Cur_circle.T7.2 spec_l1Cur_circle.B7=true:=by kernel_rfl
set_option maxHeartbeats 8000000 in
set_option maxRecDepth 100000 in
theorem spec_l1Cur_circle.calls (k:Nat) (g:Nat) (s0_0:List Int) (s0_1:Int) (s0_2:Int) (r1:Int) (r2:Int) (r3:Int) (r4:Int) (r5:Int) (r6:Int) (w0 w:World) (hI:IsS58 w0 w g s0_0 s0_1 s0_2) (hB:Below w0.heap.size w0 w) (h:spec_l1Cur_circle.f k s0_0 s0_1 s0_2=some (r1,r2,r3,r4,r5,r6)):
  Calls Tryz.prog 55 #[.pointer (some ⟨g,0,none⟩)] w fun e w'=>e= .returned (.agg #[.int .i64 r1,.int .i64 r2,.int .i64 r3,.int .i64 r4])∧IsS58 w0 w' g s0_0 r5 r6∧Below w0.heap.size w0 w'∧KeepBut w w' g none:=by
 have hu37:=Tryz.underlying37
 have HI0:=am hI
 have HK:=am (KeepBut.refl w g none)
 have HL:=am hB.size
 clear hI
 have HW0:=am hB.size
 have HB:=am hB
 clear hB
 have H:=h
 clear h
 unfold spec_l1Cur_circle.f at H
 obtain⟨⟨t517,t520,t521⟩,A2,H⟩:=bs_ H
 try dsimp only at H
 have HC3:=am H
 clear H
 go_enter Tryz.func55,Tryz.ntmps55
 go_upto_if 10 with(first|((with_reducible refine gd_ 2 rfl ?_);refine boxN_ 2 #[.int .i64 0,.int .i64 0,.int .i64 0,.int .i64 0] 37 ?_;intro gbob hg w4 hbox hb;replace HB:=bw_ hb;have BKob:=am hbox;have GWob:=am ((by rw[hg];exact(keep_size (w:=w) (g:=g) (row:=none) Z4):w.heap.size≤gbob));have GEob:=am ((Nat.le_trans HW0.out (by rw[hg];exact(keep_size (w:=w) (g:=g) (row:=none) Z4):w.heap.size≤gbob):w0.heap.size≤gbob));replace HK:=am (KeepBut.trans Z4 (KeepBut.of_below hb g none) (.inl rfl));have NBoa_ob:=am ((by rw[hg];exact Nat.ne_of_lt (IsS58.lt (show IsS58 w0 _ g s0_0 s0_1 s0_2 from(Z2 HI0))):g≠gbob));have NBob_oa:=am ((by rw[hg];exact Nat.ne_of_gt (IsS58.lt (show IsS58 w0 _ g s0_0 s0_1 s0_2 from(Z2 HI0))):gbob≠g));replace HI0:=am (IsS58.below (Z2 HI0) hb);clear hb hbox hg)|((with_reducible refine gd_ 3 rfl ?_);refine boxN_ 3 #[.int .i64 0,.int .i64 0,.int .i64 0,.int .i64 0] 37 ?_;intro gboc hg w5 hbox hb;replace HB:=bw_ hb;have BKoc:=am hbox;have GWoc:=am ((by rw[hg];exact(keep_size (w:=w) (g:=g) (row:=none) Z25):w.heap.size≤gboc));have GEoc:=am ((Nat.le_trans HW0.out (by rw[hg];exact(keep_size (w:=w) (g:=g) (row:=none) Z25):w.heap.size≤gboc):w0.heap.size≤gboc));replace HK:=am (KeepBut.trans Z25 (KeepBut.of_below hb g none) (.inl rfl));have NBob_oc:=nl_ BKob hg;have NBoc_ob:=ng_ BKob hg;replace BKob:=bk_ BKob hb;have NBoa_oc:=am ((by rw[hg];exact Nat.ne_of_lt (IsS58.lt (show IsS58 w0 _ g s0_0 s0_1 s0_2 from(Z57 HI0))):g≠gboc));have NBoc_oa:=am ((by rw[hg];exact Nat.ne_of_gt (IsS58.lt (show IsS58 w0 _ g s0_0 s0_1 s0_2 from(Z57 HI0))):gboc≠g));replace HI0:=am (IsS58.below (Z57 HI0) hb);clear hb hbox hg;have hnb6:=NBoc_ob.1;have hnc6:=NBob_oc.1;have hnb7:=NBoc_oa.1;have hnc7:=NBoa_oc.1;obtain⟨_,_,_,_,_,_,_,_⟩:=cz4_ BKoc)|((with_reducible refine gc_ 29 rfl ?_);refine gE_ (some 7) Tryz.func29 (spec_l1Cur_config.calls k g s0_0 s0_1 s0_2 t517 t520 t521 w0 _ ?side1 ?side2 A2.1) ?_;(case side1=>exact(Z57 HI0));(case side2=>exact ZB);rintro v518 w9 ⟨ho0,hi,hb,hk⟩;have HOod:=am (Kd.R_lower (Kd.R_newB (Kd.R_newB ho0 (bb_ BKob)) (bb_ BKoc)) (keep_size (w:=w) (g:=g) (row:=none) Z13));replace BKob:=am (KeepBut.blk hk (bb_ BKob) NBob_oa.1 (by simp));replace BKoc:=am (KeepBut.blk hk (bb_ BKoc) NBoc_oa.1 (by simp));replace HK:=am (KeepBut.trans Z13 hk (.inl rfl));replace HB:=am hb;replace HI0:=am hi;clear hb hk hi;(try clear ho0);obtain⟨Ao10,co10,eo10⟩:=Kd.R_slice HOod.1;subst eo10))
 (try simp only[Act.put,List.setIfInBounds_toArray,List.set_cons_zero,List.set_cons_succ])
 go_cut[] (fun wc=>∃(kq:Nat) (x1001_2:Int) (x1002_2:Int) (x517000_2:Int) (x517001_2:Int) (x517002_2:Int) (x517003_2:Int),Aside0 (spec_l1Cur_circle.j0 kq s0_0 x1001_2 x1002_2 x517000_2 x517001_2 x517002_2 x517003_2=some (r1,r2,r3,r4,r5,r6))∧Aside0 (kq≤k)∧Aside0 (wc.heap[gbob]?=some (.cells #[.int .i64 0,.int .i64 0,.int .i64 0,.int .i64 0] 37 (0,0)))∧Aside0 (wc.heap[gboc]?=some (.cells #[.int .i64 x517000_2,.int .i64 x517001_2,.int .i64 x517002_2,.int .i64 x517003_2] 37 (0,0)))∧Aside0 (IsS58 w0 wc g s0_0 x1001_2 x1002_2)∧Aside0 (KeepBut w wc g none)∧Aside0 (Below w0.heap.size w0 wc))
 case first=>
  have H:=HC3.1
  clear HC3
  by_cases c11:(t517.length:Int)>0
  rotate_left
  ·
   rw[if_neg c11]at H
   have c11b0:decide (0<(t517.length:Int))=false:=decide_eq_false c11
   have c11b1:decide (0<t517.length)=false:=decide_eq_false (by omega)
   clear c11
   (first|rw[c11b0]|(simp only[i64_w,i32_w];rw[c11b0])|rw[c11b1]|skip)
   have H':=am H
   clear H
   go_wp2
   go_meet
   exact⟨_,(t520),(t521),(0),(0),(1),(0),H',⟨Z35⟩,⟨(bb_ BKob)⟩,⟨(bb_ BKoc)⟩,⟨(Z57 HI0)⟩,⟨Z13⟩,⟨ZB⟩⟩
  rw[if_pos c11]at H
  have c11b0:decide (0<(t517.length:Int))=true:=decide_eq_true c11
  have c11b1:decide (0<t517.length)=true:=decide_eq_true (by omega)
  clear c11
  (first|rw[c11b0]|(simp only[i64_w,i32_w];rw[c11b0])|rw[c11b1]|skip)
  obtain⟨⟨t522,t523,t524⟩,A12,H⟩:=bs_ H
  try dsimp only at H
  obtain⟨c13,H⟩:=ip_ H
  have c13b0:=decide_eq_true c13
  clear c13
  obtain⟨c14,H⟩:=ip_ H
  have c14b0:=decide_eq_true c14
  clear c14
  have H':=am H
  clear H
  go_wp2_with (first|((with_reducible refine gc_ 56 rfl ?_);refine gM_ (some 15) Tryz.func56 (spec_l1Cur_pick.calls g s0_0 t520 t521 (t517.length:Int) t522 t523 t524 w0 _ ?side1 ?side2 A12.1) ?_;(case side1=>exact(Z57 HI0));(case side2=>exact ZB);rintro w15 ⟨hi,hb,hk⟩;replace BKob:=am (KeepBut.blk hk (bb_ BKob) NBob_oa.1 (by simp));replace BKoc:=am (KeepBut.blk hk (bb_ BKoc) NBoc_oa.1 (by simp));replace HOod:=am (Kd.R_mono (Kd.R_keep (IsS58.apart (show IsS58 w0 _ g s0_0 t520 t521 from(Z57 HI0)) (Z1 HOod) (by decide)) hk (fun _ h=>h.2)) (fun _ h=>h.1));replace HK:=am (KeepBut.trans Z13 hk (.inl rfl));replace HB:=am hb;replace HI0:=am hi;clear hb hk hi;have p525:0≤(t522:Int):=of_decide_eq_true Z5;have q525:t522<(t517.length:Int):=of_decide_eq_true Z5;obtain⟨ad525,e525,hx525_0,hx525_1,hx525_2,hx525_3⟩:=at_T37 (Kd.R_reads' HOod.1).2.2 t522 p525 q525;cases e525;replace p525:=eq_true p525;replace q525:=eq_true q525;have hnb16:=NBoc_ob.1;have hnc16:=NBob_oc.1;have hnb17:=NBoc_oa.1;have hnc17:=NBoa_oc.1;obtain⟨_,_,_,_,_,_,_,_⟩:=cz4_ BKoc))
  go_meet
  exact⟨_,(t523),(t524),((rd_T37 t517 t522).f0),((rd_T37 t517 t522).f1),((rd_T37 t517 t522).f2),((rd_T37 t517 t522).f3),H',⟨Z35⟩,⟨(bb_ BKob)⟩,⟨(bb_ BKoc)⟩,⟨(Z57 HI0)⟩,⟨Z13⟩,⟨ZB⟩⟩
 clear HC3
 obtain⟨kq,x1001_2,x1002_2,x517000_2,x517001_2,x517002_2,x517003_2,HA,HJ2,BKob,BKoc,HI0,HK,HB⟩:=hcut
 obtain _|kj2:=kq
 ·
  exact absurd HA.out (by simp[spec_l1Cur_circle.j0])
 have H:=HA.out
 clear HA
 simp only[spec_l1Cur_circle.j0]at H
 obtain⟨⟨t526,t527,t528⟩,A19,H⟩:=bs_ H
 try dsimp only at H
 by_cases c20:t526=0
 ·
  rw[if_pos c20]at H
  obtain⟨c20b0,c20b1⟩:=eq2_ c20
  clear c20
  obtain⟨y_a,hy_a⟩:∃y_:List Int,y_=(([1,(-1),1000000]:List Int)):=⟨_,rfl⟩
  replace H:((spec_l1Cur_among.f s0_0 t527 t528 y_a).bind fun bt532=>(some (wrap64 (x517000_2+bt532.1),x517001_2,x517002_2,x517003_2,bt532.2.1,bt532.2.2)))=some (r1,r2,r3,r4,r5,r6):=Z8
  have Ny_a:=am hy_a
  clear hy_a
  obtain⟨⟨t532,t533,t534⟩,A21,H⟩:=bs_ H
  try dsimp only at H
  simp only[Option.some.injEq,Prod.mk.injEq]at H
  obtain⟨rfl,rfl,rfl,rfl,rfl,rfl⟩:=H
  try go_wp2_with (first|((with_reducible refine gc_ 56 rfl ?_);refine gM_ (some 19) Tryz.func56 (spec_l1Cur_pick.calls g s0_0 x1001_2 x1002_2 16 t526 t527 t528 w0 _ ?side1 ?side2 A19.1) ?_;(case side1=>exact(Z57 HI0));(case side2=>exact ZB);rintro w22 ⟨hi,hb,hk⟩;replace BKob:=am (KeepBut.blk hk (bb_ BKob) NBob_oa.1 (by simp));replace BKoc:=am (KeepBut.blk hk (bb_ BKoc) NBoc_oa.1 (by simp));replace HK:=am (KeepBut.trans Z13 hk (.inl rfl));replace HB:=am hb;replace HI0:=am hi;clear hb hk hi))
  have n0_:=am (blk_drew BKob.1)
  have n1_:=am (blk_drew BKoc.1)
  have n2_:=am (IsS58.drew HI0.1)
  have n3_:=am (keep_drew HK.1)
  have n4_:=am (below_drew1 HB.1)
  clear BKob
  clear BKoc
  clear HI0
  clear HK
  clear HB
  have BKob:=n0_
  have BKoc:=n1_
  have HI0:=n2_
  have HK:=n3_
  have HB:=n4_
  clear n0_ n1_ n2_ n3_ n4_
  refine start_ (n:=8) (S:=fun w'=>w'.cell? ⟨gboc,0,none⟩=some (.int .i64 x517000_2)∧w'.cell? ⟨gboc,1,none⟩=some (.int .i64 x517001_2)∧w'.cell? ⟨gboc,2,none⟩=some (.int .i64 x517002_2)∧w'.cell? ⟨gboc,3,none⟩=some (.int .i64 x517003_2)) (ds:=[7]) #[false,false,false,false,false,false,false,false] Z19 rfl rfl ⟨(blk_cell BKoc.1 0).trans rfl,(blk_cell BKoc.1 1).trans rfl,(blk_cell BKoc.1 2).trans rfl,(blk_cell BKoc.1 3).trans rfl⟩ (fun hHeld=>?_);refine with_tabW spec_l1Cur_circle.tab7 spec_l1Cur_circle.bits7 (fun HT_ HW_=>?_)
  generalize w22.drew=w23 at BKob BKoc HI0 HK HB hHeld ⊢
  refine pury_ 0 22 #[true,false,false,false,false,false,false,false] HT_ ?_
  refine pury_ 2 24 #[true,false,true,false,false,false,false,false] HT_ ?_
  refine taky4_ 1 23 #[true,true,true,false,false,false,false,false] HT_ HW_ hHeld ?_
  refine one_ (i:=3) (N:=some 25) #[true,true,true,true,false,false,false,false] rfl rfl (one_of HT_.out Z19) (by decide) (fun K hK=>?_)
  refine Kd.R_lit_step (Kd.int .i64) _ 3 ?hg (N:=25) ?hd (xs:=([1,(-1),1000000]:List Int)) (inner:=[.int .i64 1,.int .i64 (-1),.int .i64 1000000]) (ok:=fun _=>True) (okp:=fun _=>True) ?hr ?hp (fun _ hk=>hk) trivial (Below.refl _ _) (Nat.le_refl _) (by simp) ?_;(case hd=>rfl);(case hg=>rfl);(case hr=>first|(go_simp;done)|(go_simp;rfl));(case hp=>exact(Reps.one (show Kd.M (Kd.int .i64) _ _ _ 1 [.int .i64 1]from rfl) (Reps.one (show Kd.M (Kd.int .i64) _ _ _ (-1) [.int .i64 (-1)]from rfl) (Reps.one (show Kd.M (Kd.int .i64) _ _ _ 1000000 [.int .i64 1000000]from rfl) (Reps.none _ _)))))
  intro v530 w24 ho25 hb hg_ hnew_
  clear hg_ hnew_
  (first|rw[←Ny_a.1]at ho25|(simp only[Int.reduceToNat]at ho25;rw[←Ny_a.1]at ho25))
  have n0_:=am (Kd.R_lower ho25 (keep_size (w:=w) (g:=g) (row:=none) Z13))
  have n1_:=bk_ BKob hb
  have n2_:=bk_ BKoc hb
  have n3_:=am (IsS58.below (Z57 HI0) hb)
  have n4_:=am (KeepBut.trans Z13 (KeepBut.of_below hb g none) (.inl rfl))
  have n5_:=bw_ hb
  clear BKob
  clear BKoc
  clear HI0
  clear HK
  clear HB
  have HOoe:=n0_
  have BKob:=n1_
  have BKoc:=n2_
  have HI0:=n3_
  have HK:=n4_
  have HB:=n5_
  clear n0_ n1_ n2_ n3_ n4_ n5_
  clear hb ho25
  obtain⟨Ao26,co26,eo26⟩:=Kd.R_slice HOoe.1
  (first|subst eo26|(injection eo26 with f1_ f2_ f3_;have f4_:=f1_.symm;have f5_:=f3_.symm;clear f1_ f2_ f3_;subst f4_;subst f5_))
  refine hK.out _ _ ⟨(blk_cell BKoc.1 0).trans rfl,(blk_cell BKoc.1 1).trans rfl,(blk_cell BKoc.1 2).trans rfl,(blk_cell BKoc.1 3).trans rfl⟩ (fun hHeld=>?_)
  clear hK K
  refine norm_ (a':=?_) ?_ ?_
  rotate_left
  ·
   show Act.put _ (some 25) _=_
   simp only[Act.put,List.setIfInBounds_toArray,List.set_cons_zero,List.set_cons_succ,i64_w,i32_w]
   rfl
  refine one_ (i:=4) (N:=some 26) #[true,true,true,true,true,false,false,false] rfl rfl (one_of HT_.out Z19) (by decide) (fun K hK=>?_)
  refine goes_ Tryz.func31 Z19 rfl #[.pointer (some ⟨g,0,none⟩),.slice Ao26 y_a.length co26] (by rfl) rfl rfl Z18 ?_
  with_reducible refine(spec_l1Cur_among.calls g s0_0 t527 t528 _ _ y_a t532 t533 t534 w0 _ ?side1 ?side2 ?side3 ?side4 ?side5 A21.1).mono ?_
  (case side1=>exact(Z57 HI0))
  (case side2=>exact ZB)
  (case side3=>exact(Z10 HOoe))
  (case side4=>exact(Kd.R_reads' HOoe.1).2.1)
  (case side5=>exact far_slice (IsS58.own_ne HI0.1 HOoe.1 (by decide)))
  rintro e w27 ⟨rfl,hi,hb,hk⟩
  refine⟨_,rfl,?_⟩
  have n0_:=am (KeepBut.blk hk (bb_ BKob) NBob_oa.1 (by simp))
  have n1_:=am (KeepBut.blk hk (bb_ BKoc) NBoc_oa.1 (by simp))
  have n2_:=am (Kd.R_mono (Kd.R_keep (IsS58.apart (show IsS58 w0 _ g s0_0 t527 t528 from(Z57 HI0)) (Z1 HOoe) (by decide)) hk (fun _ h=>h.2)) (fun _ h=>h.1))
  have n3_:=am (KeepBut.trans Z13 hk (.inl rfl))
  have n4_:=am (hb)
  have n5_:=am (hi)
  clear BKob
  clear BKoc
  clear HOoe
  clear HK
  clear HB
  clear HI0
  have BKob:=n0_
  have BKoc:=n1_
  have HOoe:=n2_
  have HK:=n3_
  have HB:=n4_
  have HI0:=n5_
  clear n0_ n1_ n2_ n3_ n4_ n5_
  (try clear hb)
  (try clear hb2)
  (try clear hk)
  (try clear hi)
  refine hK.out _ _ ⟨(blk_cell BKoc.1 0).trans rfl,(blk_cell BKoc.1 1).trans rfl,(blk_cell BKoc.1 2).trans rfl,(blk_cell BKoc.1 3).trans rfl⟩ (fun hHeld=>?_)
  clear hK K
  refine norm_ (a':=?_) ?_ ?_
  rotate_left
  ·
   show Act.put _ (some 26) _=_
   simp only[Act.put,List.setIfInBounds_toArray,List.set_cons_zero,List.set_cons_succ,i64_w,i32_w]
   rfl
  refine pury_ 5 27 #[true,true,true,true,true,true,false,false] HT_ ?_
  refine pury_ 6 28 #[true,true,true,true,true,true,true,false] HT_ ?_
  refine last_ (i:=7) (N:=none) #[true,true,true,true,true,true,true,true] rfl rfl (one_of HT_.out Z19) (by decide) (fun K hK=>?_)
  have hs28:w27.cell? ⟨gboc,0,none⟩=some (.int .i64 x517000_2):=(blk_cell BKoc.1 0).trans rfl
  have hfs28:=blk_frozen BKoc.1 0
  have hns28_0:=NBob_oc.1
  have hms28_0:=NBoc_ob.1
  refine skip_ (w1:=?_) (by rfl) rfl ?_ ?_
  rotate_left
  ·
   go_simp
   rfl
  refine hK.out _ _ ?_
  clear hK K
  refine done_ (done_of HT_.out Z19) ?_
  have hnb29:=NBoc_ob.1
  have hnc29:=NBob_oc.1
  have hnb30:=NBoc_oa.1
  have hnc30:=NBoa_oc.1
  have hcz31_0:w27.cell? ⟨gboc,0,none⟩=some (.int .i64 x517000_2):=(blk_cell BKoc.1 0).trans rfl
  have hcz31_1:w27.cell? ⟨gboc,1,none⟩=some (.int .i64 x517001_2):=(blk_cell BKoc.1 1).trans rfl
  have hcz31_2:w27.cell? ⟨gboc,2,none⟩=some (.int .i64 x517002_2):=(blk_cell BKoc.1 2).trans rfl
  have hcz31_3:w27.cell? ⟨gboc,3,none⟩=some (.int .i64 x517003_2):=(blk_cell BKoc.1 3).trans rfl
  have hfz31_0:=blk_frozen BKoc.1 0
  have hfz31_1:=blk_frozen BKoc.1 1
  have hfz31_2:=blk_frozen BKoc.1 2
  have hfz31_3:=blk_frozen BKoc.1 3
  have hnb32:=NBob_oa.1
  have hnc32:=NBoa_ob.1
  have hcz33_0:w27.cell? ⟨gbob,0,none⟩=some (.int .i64 0):=(blk_cell BKob.1 0).trans rfl
  have hcz33_1:w27.cell? ⟨gbob,1,none⟩=some (.int .i64 0):=(blk_cell BKob.1 1).trans rfl
  have hcz33_2:w27.cell? ⟨gbob,2,none⟩=some (.int .i64 0):=(blk_cell BKob.1 2).trans rfl
  have hcz33_3:w27.cell? ⟨gbob,3,none⟩=some (.int .i64 0):=(blk_cell BKob.1 3).trans rfl
  have hfz33_0:=blk_frozen BKob.1 0
  have hfz33_1:=blk_frozen BKob.1 1
  have hfz33_2:=blk_frozen BKob.1 2
  have hfz33_3:=blk_frozen BKob.1 3
  try go_wp2
  refine bodyPost_ret (results_cell_row rfl _ _ gbob 37 #[.int .i64 (wrap64 (x517000_2+t532)),.int .i64 x517001_2,.int .i64 x517002_2,.int .i64 x517003_2] (0,0) _ rfl (bb_ BKob) Tryz.underlying37 rfl Z19) rfl ?_
  exact⟨Z6,(Z57 HI0),ZB,Z13⟩
 rw[if_neg c20]at H
 obtain⟨c20b0,c20b1⟩:=ne2_ c20
 by_cases c34:t526=1
 ·
  rw[if_pos c34]at H
  obtain⟨c34b0,c34b1⟩:=eq2_ c34
  clear c34
  simp only[Option.some.injEq,Prod.mk.injEq]at H
  obtain⟨rfl,rfl,rfl,rfl,rfl,rfl⟩:=H
  go_wp2_with (first|((with_reducible refine gc_ 56 rfl ?_);refine gM_ (some 19) Tryz.func56 (spec_l1Cur_pick.calls g s0_0 x1001_2 x1002_2 16 t526 t527 t528 w0 _ ?side1 ?side2 A19.1) ?_;(case side1=>exact(Z57 HI0));(case side2=>exact ZB);rintro w35 ⟨hi,hb,hk⟩;replace BKob:=am (KeepBut.blk hk (bb_ BKob) NBob_oa.1 (by simp));replace BKoc:=am (KeepBut.blk hk (bb_ BKoc) NBoc_oa.1 (by simp));replace HK:=am (KeepBut.trans Z13 hk (.inl rfl));replace HB:=am hb;replace HI0:=am hi;clear hb hk hi;have hnb36:=NBoc_ob.1;have hnc36:=NBob_oc.1;have hnb37:=NBoc_oa.1;have hnc37:=NBoa_oc.1;obtain⟨_,_,_,_,_,_,_,_⟩:=cz4_ BKoc;have hnb39:=NBob_oa.1;have hnc39:=NBoa_ob.1;obtain⟨_,_,_,_,_,_,_,_⟩:=cz4_ BKob))
  refine bodyPost_ret (results_cell_row rfl _ _ gbob 37 #[.int .i64 1000000,.int .i64 0,.int .i64 0,.int .i64 1] (0,0) _ rfl (bb_ BKob) Tryz.underlying37 rfl Z19) rfl ?_
  exact⟨Z6,(Z57 HI0),ZB,Z13⟩
 rw[if_neg c34]at H
 obtain⟨c34b0,c34b1⟩:=ne2_ c34
 by_cases c41:t526=2
 rotate_left
 ·
  rw[if_neg c41]at H
  obtain⟨c41b0,c41b1⟩:=ne2_ c41
  simp only[Option.some.injEq,Prod.mk.injEq]at H
  obtain⟨rfl,rfl,rfl,rfl,rfl,rfl⟩:=H
  go_wp2_with (first|((with_reducible refine gc_ 56 rfl ?_);refine gM_ (some 19) Tryz.func56 (spec_l1Cur_pick.calls g s0_0 x1001_2 x1002_2 16 t526 t527 t528 w0 _ ?side1 ?side2 A19.1) ?_;(case side1=>exact(Z57 HI0));(case side2=>exact ZB);rintro w53 ⟨hi,hb,hk⟩;replace BKob:=am (KeepBut.blk hk (bb_ BKob) NBob_oa.1 (by simp));replace BKoc:=am (KeepBut.blk hk (bb_ BKoc) NBoc_oa.1 (by simp));replace HK:=am (KeepBut.trans Z13 hk (.inl rfl));replace HB:=am hb;replace HI0:=am hi;clear hb hk hi;have hnb54:=NBoc_ob.1;have hnc54:=NBob_oc.1;have hnb55:=NBoc_oa.1;have hnc55:=NBoa_oc.1;obtain⟨_,_,_,_,_,_,_,_⟩:=cz4_ BKoc;have hnb57:=NBob_oa.1;have hnc57:=NBoa_ob.1;obtain⟨_,_,_,_,_,_,_,_⟩:=cz4_ BKob))
  refine bodyPost_ret (results_cell_row rfl _ _ gbob 37 #[.int .i64 x517000_2,.int .i64 x517001_2,.int .i64 x517002_2,.int .i64 x517003_2] (0,0) _ rfl (bb_ BKob) Tryz.underlying37 rfl Z19) rfl ?_
  exact⟨Z6,(Z57 HI0),ZB,Z13⟩
 rw[if_pos c41]at H
 obtain⟨c41b0,c41b1⟩:=eq2_ c41
 clear c41
 obtain⟨y_b,hy_b⟩:∃y_:List Int,y_=(([(-9223372036854775808),4611686018427387904]:List Int)):=⟨_,rfl⟩
 replace H:((spec_l1Cur_among.f s0_0 t527 t528 y_b).bind fun bt538=>(some (bt538.1,2,0,0,bt538.2.1,bt538.2.2)))=some (r1,r2,r3,r4,r5,r6):=Z14
 have Ny_b:=am hy_b
 clear hy_b
 obtain⟨⟨t538,t539,t540⟩,A42,H⟩:=bs_ H
 try dsimp only at H
 simp only[Option.some.injEq,Prod.mk.injEq]at H
 obtain⟨rfl,rfl,rfl,rfl,rfl,rfl⟩:=H
 go_wp2_with (first|((with_reducible refine gc_ 56 rfl ?_);refine gM_ (some 19) Tryz.func56 (spec_l1Cur_pick.calls g s0_0 x1001_2 x1002_2 16 t526 t527 t528 w0 _ ?side1 ?side2 A19.1) ?_;(case side1=>exact(Z57 HI0));(case side2=>exact ZB);rintro w43 ⟨hi,hb,hk⟩;replace BKob:=am (KeepBut.blk hk (bb_ BKob) NBob_oa.1 (by simp));replace BKoc:=am (KeepBut.blk hk (bb_ BKoc) NBoc_oa.1 (by simp));replace HK:=am (KeepBut.trans Z13 hk (.inl rfl));replace HB:=am hb;replace HI0:=am hi;clear hb hk hi)|((with_reducible refine gd_ 35 rfl ?_);refine Kd.R_lit (Kd.int .i64) _ 3 ?hg (N:=35) ?hd (xs:=([(-9223372036854775808),4611686018427387904]:List Int)) (inner:=[.int .i64 (-9223372036854775808),.int .i64 4611686018427387904]) (ok:=fun _=>True) (okp:=fun _=>True) ?hr ?hp (fun _ hk=>hk) trivial (Below.refl _ _) (Nat.le_refl _) (by simp) ?_;(case hd=>rfl);(case hg=>rfl);(case hr=>first|(go_simp;done)|(go_simp;rfl));(case hp=>exact(Reps.one (show Kd.M (Kd.int .i64) _ _ _ (-9223372036854775808) [.int .i64 (-9223372036854775808)]from rfl) (Reps.one (show Kd.M (Kd.int .i64) _ _ _ 4611686018427387904 [.int .i64 4611686018427387904]from rfl) (Reps.none _ _))));intro v536 w44 ho45 hb hg_ hnew_;clear hg_ hnew_;(first|rw[←Ny_b.1]at ho45|(simp only[Int.reduceToNat]at ho45;rw[←Ny_b.1]at ho45));have HOof:=am (Kd.R_lower ho45 (keep_size (w:=w) (g:=g) (row:=none) Z13));replace BKob:=bk_ BKob hb;replace BKoc:=bk_ BKoc hb;replace HK:=am (KeepBut.trans Z13 (KeepBut.of_below hb g none) (.inl rfl));replace HB:=bw_ hb;replace HI0:=am (IsS58.below (Z57 HI0) hb);clear hb ho45;obtain⟨Ao46,co46,eo46⟩:=Kd.R_slice HOof.1;subst eo46)|((with_reducible refine gc_ 31 rfl ?_);refine gM_ (some 36) Tryz.func31 (spec_l1Cur_among.calls g s0_0 t527 t528 _ _ y_b t538 t539 t540 w0 _ ?side1 ?side2 ?side3 ?side4 ?side5 A42.1) ?_;(case side1=>exact(Z57 HI0));(case side2=>exact ZB);(case side3=>exact(Z10 HOof));(case side4=>exact(Kd.R_reads' HOof.1).2.1);(case side5=>exact far_slice (IsS58.own_ne HI0.1 HOof.1 (by decide)));rintro w47 ⟨hi,hb,hk⟩;replace BKob:=am (KeepBut.blk hk (bb_ BKob) NBob_oa.1 (by simp));replace BKoc:=am (KeepBut.blk hk (bb_ BKoc) NBoc_oa.1 (by simp));replace HOof:=am (Kd.R_mono (Kd.R_keep (IsS58.apart (show IsS58 w0 _ g s0_0 t527 t528 from(Z57 HI0)) (Z1 HOof) (by decide)) hk (fun _ h=>h.2)) (fun _ h=>h.1));replace HK:=am (KeepBut.trans Z13 hk (.inl rfl));replace HB:=am hb;replace HI0:=am hi;clear hb hk hi;have hnb48:=NBoc_ob.1;have hnc48:=NBob_oc.1;have hnb49:=NBoc_oa.1;have hnc49:=NBoa_oc.1;obtain⟨_,_,_,_,_,_,_,_⟩:=cz4_ BKoc;have hnb51:=NBob_oa.1;have hnc51:=NBoa_ob.1;obtain⟨_,_,_,_,_,_,_,_⟩:=cz4_ BKob))
 refine bodyPost_ret (results_cell_row rfl _ _ gbob 37 #[.int .i64 t538,.int .i64 2,.int .i64 0,.int .i64 0] (0,0) _ rfl (bb_ BKob) Tryz.underlying37 rfl Z19) rfl ?_
 exact⟨Z6,(Z57 HI0),ZB,Z13⟩
mutual
def spec_DrawTouchingPairs.j0:Nat→List (S37)→List Int→Int→Int→Option ((List (S37)))
  |0,_,_,_,_=>none
  |k+1,x6,x542000,x542001,x542002=>(spec_l1Cur_one.f x542000 x542001 x542002 15).bind fun bt568=>(if bt568.1=true then(spec_DrawTouchingPairs.l0 k x6 x542000 bt568.2.1 bt568.2.2)else(some x6))
def spec_DrawTouchingPairs.l0:Nat→List (S37)→List Int→Int→Int→Option ((List (S37)))
  |0,_,_,_,_=>none
  |k+1,x6,x542000,x542001,x542002=>(spec_l1Cur_pick.f x542000 x542001 x542002 2).bind fun bt571=>(if(x6.length:Int)<(wrap64 (40+bt571.1))then(if x6.length<4398046511104 then(spec_DrawTouchingPairs.l0 k (x6++[(⟨0,0,1,0⟩:S37)]) x542000 bt571.2.1 bt571.2.2)else(none))else(some x6))
end
def spec_DrawTouchingPairs.f (k:Nat) (l0:List Int):Option ((List (S37))):=(spec_StartConfig.f 0).bind fun bt542=>((spec_l1Cur_among.f l0 0 0 (([3,6,15,18]:List Int))).bind fun bt549=>((spec_CirclesUpTo.f k bt542.1 bt549.1).bind fun bt552=>((spec_l1Cur_one.f l0 bt549.2.1 bt549.2.2 3).bind fun bt556=>(if bt556.1=true then((spec_l1Cur_circle.f k l0 bt556.2.1 bt556.2.2).bind fun bt559=>(if bt552.1.length<4398046511104 then(spec_DrawTouchingPairs.j0 k (bt552.1++[(⟨bt559.1,bt559.2.1,bt559.2.2.1,bt559.2.2.2.1⟩:S37)]) l0 bt559.2.2.2.2.1 bt559.2.2.2.2.2)else(none)))else(spec_DrawTouchingPairs.j0 k bt552.1 l0 bt556.2.1 bt556.2.2)))))
theorem spec_DrawTouchingPairs.mono_l:∀k,(∀y0 y1 y2 y3,LeO (spec_DrawTouchingPairs.j0 k y0 y1 y2 y3) (spec_DrawTouchingPairs.j0 (k+1) y0 y1 y2 y3))∧(∀y0 y1 y2 y3,LeO (spec_DrawTouchingPairs.l0 k y0 y1 y2 y3) (spec_DrawTouchingPairs.l0 (k+1) y0 y1 y2 y3))
  |0=>⟨fun _ _ _ _ r h=>by simp[spec_DrawTouchingPairs.j0]at h,fun _ _ _ _ r h=>by simp[spec_DrawTouchingPairs.l0]at h⟩
  |k+1=>by
    obtain⟨ih0,ih1⟩:=spec_DrawTouchingPairs.mono_l k
    refine⟨?_,?_⟩
    · intro y0 y1 y2 y3
      unfold spec_DrawTouchingPairs.j0
      exact mo_
    · intro y0 y1 y2 y3
      unfold spec_DrawTouchingPairs.l0
      exact mo_
theorem spec_DrawTouchingPairs.mono:∀a0 k,LeO (spec_DrawTouchingPairs.f k a0) (spec_DrawTouchingPairs.f (k+1) a0):=by
  intro a0 k
  obtain⟨ih0,ih1⟩:=spec_DrawTouchingPairs.mono_l k
  unfold spec_DrawTouchingPairs.f
  exact mo_
set_option maxHeartbeats 8000000 in
set_option maxRecDepth 100000 in
theorem spec_DrawTouchingPairs.calls (k:Nat) (A0:Option Addr) (c0:Nat) (l0:List Int) (r:List (S37)) (w:World) (hr0:Kd.C (Kd.int .u8) w A0 l0.length l0) (hc0:l0.length≤c0) (h:spec_DrawTouchingPairs.f k l0=some r):
  Calls Tryz.prog 15 #[.slice A0 l0.length c0] w fun e w'=>∃v0_:Value,e= .returned (v0_)∧Kd.R k37 37 w' w.heap.size (fun _=>True) v0_ r∧Below w.heap.size w w':=by
 have hu58:=Tryz.underlying58
 have hu37:=Tryz.underlying37
 have HR0:=am hr0
 have HC0:=am hc0
 clear hr0 hc0
 have HB:=am (Below.refl w.heap.size w)
 have H:=h
 clear h
 unfold spec_DrawTouchingPairs.f at H
 obtain⟨⟨t542,t543⟩,A2,H⟩:=bs_ H
 try dsimp only at H
 obtain⟨y_a,hy_a⟩:∃y_:List Int,y_=(([3,6,15,18]:List Int)):=⟨_,rfl⟩
 replace H:((spec_l1Cur_among.f l0 0 0 y_a).bind fun bt549=>((spec_CirclesUpTo.f k t542 bt549.1).bind fun bt552=>((spec_l1Cur_one.f l0 bt549.2.1 bt549.2.2 3).bind fun bt556=>(if bt556.1=true then((spec_l1Cur_circle.f k l0 bt556.2.1 bt556.2.2).bind fun bt559=>(if bt552.1.length<4398046511104 then(spec_DrawTouchingPairs.j0 k (bt552.1++[(⟨bt559.1,bt559.2.1,bt559.2.2.1,bt559.2.2.2.1⟩:S37)]) l0 bt559.2.2.2.2.1 bt559.2.2.2.2.2)else(none)))else(spec_DrawTouchingPairs.j0 k bt552.1 l0 bt556.2.1 bt556.2.2)))))=some r:=Z8
 have Ny_a:=am hy_a
 clear hy_a
 obtain⟨⟨t549,t550,t551⟩,A3,H⟩:=bs_ H
 try dsimp only at H
 obtain⟨⟨t552,t555⟩,A4,H⟩:=bs_ H
 try dsimp only at H
 obtain⟨⟨t556,t557,t558⟩,A5,H⟩:=bs_ H
 try dsimp only at H
 have HC6:=am H
 clear H
 go_enter Tryz.func15,Tryz.ntmps15
 go_upto_if 24 with(first|((with_reducible refine gd_ 10 rfl ?_);refine boxN_ 10 #[.slice A0 l0.length c0,.int .i64 0,.int .u64 0] 58 ?_;intro gboa hg w7 hbox hb;have HIoa:=am ((show IsS58 w _ gboa l0 0 0 from⟨_,_,hbox,(by rw[hg];exact zs_:w.heap.size≤gboa),HR0.1⟩));replace HB:=bw_ hb;clear hb hbox hg)|((with_reducible refine gc_ 27 rfl ?_);refine gE_ (some 12) Tryz.func27 (spec_StartConfig.calls 0 t542 t543 _ A2.1) ?_;rintro v544 w8 ⟨ho0,hb⟩;have HOob:=am (Kd.R_lower ho0 zs_);replace HB:=bw_ hb;replace HIoa:=am (IsS58.below (Z2 HIoa) hb);clear hb;(try clear ho0))|((with_reducible refine gd_ 18 rfl ?_);refine Kd.R_lit (Kd.int .i64) _ 3 ?hg (N:=18) ?hd (xs:=([3,6,15,18]:List Int)) (inner:=[.int .i64 3,.int .i64 6,.int .i64 15,.int .i64 18]) (ok:=fun _=>True) (okp:=fun _=>True) ?hr ?hp (fun _ hk=>hk) trivial (Below.refl _ _) (Nat.le_refl _) (by simp) ?_;(case hd=>rfl);(case hg=>rfl);(case hr=>first|(go_simp;done)|(go_simp;rfl));(case hp=>exact(Reps.one (show Kd.M (Kd.int .i64) _ _ _ 3 [.int .i64 3]from rfl) (Reps.one (show Kd.M (Kd.int .i64) _ _ _ 6 [.int .i64 6]from rfl) (Reps.one (show Kd.M (Kd.int .i64) _ _ _ 15 [.int .i64 15]from rfl) (Reps.one (show Kd.M (Kd.int .i64) _ _ _ 18 [.int .i64 18]from rfl) (Reps.none _ _))))));intro v547 w9 ho10 hb hg_ hnew_;clear hg_ hnew_;(first|rw[←Ny_a.1]at ho10|(simp only[Int.reduceToNat]at ho10;rw[←Ny_a.1]at ho10));replace HOob:=am (Kd.R_below (Z1 HOob) hb);have HOoc:=am (Kd.R_lower ho10 zs_);replace HB:=bw_ hb;replace HIoa:=am (IsS58.below (Z2 HIoa) hb);clear hb ho10;obtain⟨Ao11,co11,eo11⟩:=Kd.R_slice HOoc.1;subst eo11)|((with_reducible refine gc_ 31 rfl ?_);refine gM_ (some 19) Tryz.func31 (spec_l1Cur_among.calls gboa l0 0 0 _ _ y_a t549 t550 t551 w _ ?side1 ?side2 ?side3 ?side4 ?side5 A3.1) ?_;(case side1=>exact(Z2 HIoa));(case side2=>exact ZB);(case side3=>exact(Z10 HOoc));(case side4=>exact(Kd.R_reads' HOoc.1).2.1);(case side5=>exact far_slice (IsS58.own_ne HIoa.1 HOoc.1 (by decide)));rintro w12 ⟨hi,hb,hk⟩;replace HOob:=am (Kd.R_mono (Kd.R_keep (IsS58.apart (show IsS58 w _ gboa l0 0 0 from(Z2 HIoa)) (Z1 HOob) (by decide)) hk (fun _ h=>h.2)) (fun _ h=>h.1));replace HOoc:=am (Kd.R_mono (Kd.R_keep (IsS58.apart (show IsS58 w _ gboa l0 0 0 from(Z2 HIoa)) (Z1 HOoc) (by decide)) hk (fun _ h=>h.2)) (fun _ h=>h.1));replace HB:=am hb;replace HIoa:=am hi;clear hb hk hi;obtain⟨Ao13,co13,eo13⟩:=Kd.R_slice HOob.1;subst eo13)|((with_reducible refine gc_ 7 rfl ?_);refine gE_ (some 20) Tryz.func7 (spec_CirclesUpTo.calls k (fun k_=>some k_=(.slice Ao13 t542.length co13:Value).ownBlock) _ _ t542 t549 t552 t555 _ ?side1 A4.1) ?_;(case side1=>exact Kd.R_V (Kd.R_tight rfl (IsS58.apart HIoa.1 (Kd.R_apart' (HOob.1) (Kd.R_typed HOoc.1) (by decide)) (by decide))));rintro v553 w14 ⟨ho0,hb⟩;replace HOoc:=am (Kd.R_below (Z1 HOoc) hb);have HOod:=am (Kd.R_lower (Kd.R_new' (Kd.R_mono (ok':=fun k_=>True) ho0 (fun _ hk_=>trivial)) (Kd.R_lt (Z1 HOob))) zs_);replace HOob:=am (Kd.R_elder' (Z1 HOob) (Kd.R_base ho0) hb);replace HB:=bw_ hb;replace HIoa:=am (IsS58.below (Z2 HIoa) hb);clear hb;(try clear ho0))|((with_reducible refine gc_ 28 rfl ?_);refine gM_ (some 24) Tryz.func28 (spec_l1Cur_one.calls gboa l0 t550 t551 3 t556 t557 t558 w _ ?side1 ?side2 A5.1) ?_;(case side1=>exact(Z2 HIoa));(case side2=>exact ZB);rintro w15 ⟨hi,hb,hk⟩;replace HOob:=am (Kd.R_mono (Kd.R_keep (IsS58.apart (show IsS58 w _ gboa l0 t550 t551 from(Z2 HIoa)) (Z1 HOob) (by decide)) hk (fun _ h=>h.2)) (fun _ h=>h.1));replace HOoc:=am (Kd.R_mono (Kd.R_keep (IsS58.apart (show IsS58 w _ gboa l0 t550 t551 from(Z2 HIoa)) (Z1 HOoc) (by decide)) hk (fun _ h=>h.2)) (fun _ h=>h.1));replace HOod:=am (Kd.R_mono (Kd.R_keep (IsS58.apart (show IsS58 w _ gboa l0 t550 t551 from(Z2 HIoa)) (Z1 HOod) (by decide)) hk (fun _ h=>h.2)) (fun _ h=>h.1));replace HB:=am hb;replace HIoa:=am hi;clear hb hk hi))
 (try simp only[Act.put,List.setIfInBounds_toArray,List.set_cons_zero,List.set_cons_succ])
 go_cut[6] (fun v6 wc=>∃(kq:Nat) (x6_5:List (S37)) (x542001_5:Int) (x542002_5:Int),Aside0 (spec_DrawTouchingPairs.j0 kq x6_5 l0 x542001_5 x542002_5=some r)∧Aside0 (kq≤k)∧Aside0 (Kd.R k37 37 wc w.heap.size (fun _=>True) v6 x6_5)∧Aside0 (IsS58 w wc gboa l0 x542001_5 x542002_5)∧Aside0 (Below w.heap.size w wc))
 case first=>
  have H:=HC6.1
  clear HC6
  by_cases c16:t556=true
  rotate_left
  ·
   replace c16:=Bool.eq_false_iff.mpr c16
   subst c16
   rw[if_neg (show¬(false=true) by decide)]at H
   have H':=am H
   clear H
   go_wp2
   go_meet
   exact⟨_,(t552),(t557),(t558),H',⟨Z35⟩,⟨(Z20 HOod)⟩,⟨(Z2 HIoa)⟩,⟨ZB⟩⟩
  subst c16
  rw[if_pos rfl]at H
  obtain⟨⟨t559,t560,t561,t562,t563,t564⟩,A17,H⟩:=bs_ H
  try dsimp only at H
  obtain⟨c18,H⟩:=ip_ H
  have LMc18:=am c18
  clear c18
  obtain⟨y_b,hy_b⟩:∃y_:List (S37),y_=(t552++[(⟨t559,t560,t561,t562⟩:S37)]):=⟨_,rfl⟩
  replace H:(spec_DrawTouchingPairs.j0 k y_b l0 t563 t564)=some r:=Z14
  have Ny_b:=am hy_b
  clear hy_b
  have H':=am H
  clear H
  go_wp2_with (first|((with_reducible refine gc_ 55 rfl ?_);refine gM_ (some 27) Tryz.func55 (spec_l1Cur_circle.calls k gboa l0 t557 t558 t559 t560 t561 t562 t563 t564 w _ ?side1 ?side2 A17.1) ?_;(case side1=>exact(Z2 HIoa));(case side2=>exact ZB);rintro w19 ⟨hi,hb,hk⟩;replace HOob:=am (Kd.R_mono (Kd.R_keep (IsS58.apart (show IsS58 w _ gboa l0 t557 t558 from(Z2 HIoa)) (Z1 HOob) (by decide)) hk (fun _ h=>h.2)) (fun _ h=>h.1));replace HOoc:=am (Kd.R_mono (Kd.R_keep (IsS58.apart (show IsS58 w _ gboa l0 t557 t558 from(Z2 HIoa)) (Z1 HOoc) (by decide)) hk (fun _ h=>h.2)) (fun _ h=>h.1));replace HOod:=am (Kd.R_mono (Kd.R_keep (IsS58.apart (show IsS58 w _ gboa l0 t557 t558 from(Z2 HIoa)) (Z1 HOod) (by decide)) hk (fun _ h=>h.2)) (fun _ h=>h.1));replace HB:=am hb;replace HIoa:=am hi;clear hb hk hi)|((with_reducible refine gate_builtin (b:= .append) (xs:=#[.tmp 25,.tmp 28]) rfl ?_);at_builtin;refine Kd.R_append k37 (w0:=w) w.heap.size rfl (.tmp 25) (.tmp 28) 24 37 (.agg #[(.int .i64 0),(.int .i64 0),(.int .i64 0),(.int .i64 0)]) 32 rfl Tryz.underlying24 info37 rfl (by decide) (by omega) v553 t552 (⟨t559,t560,t561,t562⟩:S37) [.int .i64 t559,.int .i64 t560,.int .i64 t561,.int .i64 t562] (fun k_=>some k_≠(.slice Ao13 t542.length co13:Value).ownBlock) (fun _=>False) rfl rfl ?aP (fun _ hk=>hk.elim) ?aF ?aO ?aB ?aS ?aL ?_;(case aP=>exact k37_mkM _ _ _ (⟨t559,t560,t561,t562⟩:S37));(case aB=>exact ZB);(case aF=>exact(fun k_ hk=>Kd.fresh' (Kd.R_lt (Z1 HOob)) k_ hk));(case aO=>exact(Z30 HOod));(case aS=>exact zs_);(case aL=>have:=LMc18.out;omega);intro v566 w20 ho hb hg hat;rw[←Ny_b.1]at ho;replace HIoa:=am (IsS58.grown (show IsS58 w _ gboa l0 t563 t564 from(Z2 HIoa)) hg (IsS58.own_ne HIoa.1 HOod.1 (by decide)));replace HOob:=am (Kd.R_after (ok:=(fun _=>True)) (Z1 HOob) hg hat);replace HOoc:=am (Kd.R_over' (Z1 HOoc) (Kd.R_typed (Z1 HOod)) (by decide) hg);replace HB:=am hb;have HOoe:=am ho;clear HOod;clear ho hb hg hat))
  go_meet
  exact⟨_,(y_b),(t563),(t564),H',⟨Z35⟩,⟨(Z20 HOoe)⟩,⟨(Z2 HIoa)⟩,⟨ZB⟩⟩
 clear HC6
 obtain⟨kq,x6_5,x542001_5,x542002_5,HA,HJ5,HO_6,HIoa,HB⟩:=hcut
 obtain _|kj5:=kq
 ·
  exact absurd HA.out (by simp[spec_DrawTouchingPairs.j0])
 have H:=HA.out
 clear HA
 simp only[spec_DrawTouchingPairs.j0]at H
 obtain⟨⟨t568,t569,t570⟩,A21,H⟩:=bs_ H
 try dsimp only at H
 by_cases c22:t568=true
 rotate_left
 ·
  replace c22:=Bool.eq_false_iff.mpr c22
  subst c22
  rw[if_neg (show¬(false=true) by decide)]at H
  obtain rfl:=Option.some.inj H
  go_wp2_with (first|((with_reducible refine gc_ 28 rfl ?_);refine gM_ (some 31) Tryz.func28 (spec_l1Cur_one.calls gboa l0 x542001_5 x542002_5 15 false t569 t570 w _ ?side1 ?side2 A21.1) ?_;(case side1=>exact(Z2 HIoa));(case side2=>exact ZB);rintro w32 ⟨hi,hb,hk⟩;replace HO_6:=am (Kd.R_mono (Kd.R_keep (IsS58.apart (show IsS58 w _ gboa l0 x542001_5 x542002_5 from(Z2 HIoa)) (Z1 HO_6) (by decide)) hk (fun _ h=>h.2)) (fun _ h=>h.1));replace HB:=am hb;replace HIoa:=am hi;clear hb hk hi))
  go_ret
  exact⟨_,Z6,(Z1 HO_6),ZB⟩
 subst c22
 rw[if_pos rfl]at H
 have H':=am H
 clear H
 go_wp2_with (first|((with_reducible refine gc_ 28 rfl ?_);refine gM_ (some 31) Tryz.func28 (spec_l1Cur_one.calls gboa l0 x542001_5 x542002_5 15 true t569 t570 w _ ?side1 ?side2 A21.1) ?_;(case side1=>exact(Z2 HIoa));(case side2=>exact ZB);rintro w23 ⟨hi,hb,hk⟩;replace HO_6:=am (Kd.R_mono (Kd.R_keep (IsS58.apart (show IsS58 w _ gboa l0 x542001_5 x542002_5 from(Z2 HIoa)) (Z1 HO_6) (by decide)) hk (fun _ h=>h.2)) (fun _ h=>h.1));replace HB:=am hb;replace HIoa:=am hi;clear hb hk hi))
 (try simp only[Act.put,sA_,sB_,sC_])
 go_loopg [6] kj5 (fun kq v6 w'=>∃(x6_2:List (S37)) (x542001_2:Int) (x542002_2:Int),Aside0 (spec_DrawTouchingPairs.l0 kq x6_2 l0 x542001_2 x542002_2=some r)∧Aside0 (kq≤kj5)∧Aside0 (Kd.R k37 37 w' w.heap.size (fun _=>True) v6 x6_2)∧Aside0 (IsS58 w w' gboa l0 x542001_2 x542002_2)∧Aside0 (Below w.heap.size w w'))
 case atStart=>exact⟨(x6_5),(t569),(t570),H',⟨Nat.le_refl _⟩,⟨(Z1 HO_6)⟩,⟨(Z2 HIoa)⟩,⟨ZB⟩⟩
 clear H'
 obtain⟨x6_2,x542001_2,x542002_2,HA,HK2,HO_6,HIoa,HB⟩:=hrel
 obtain _|k2:=gk
 ·
  exact absurd HA.out (by simp[spec_DrawTouchingPairs.l0])
 have H:=HA.out
 clear HA
 simp only[spec_DrawTouchingPairs.l0]at H
 obtain⟨⟨t571,t572,t573⟩,A24,H⟩:=bs_ H
 try dsimp only at H
 by_cases c25:(x6_2.length:Int)<(wrap64 (40+t571))
 rotate_left
 ·
  rw[if_neg c25]at H
  have c25b0:=decide_eq_false c25
  clear c25
  obtain rfl:=Option.some.inj H
  obtain⟨Ao30,co30,eo30⟩:=Kd.R_slice HO_6.1
  subst eo30
  go_wp2_with (first|((with_reducible refine gc_ 56 rfl ?_);refine gM_ (some 35) Tryz.func56 (spec_l1Cur_pick.calls gboa l0 x542001_2 x542002_2 2 t571 t572 t573 w _ ?side1 ?side2 A24.1) ?_;(case side1=>exact(Z2 HIoa));(case side2=>exact ZB);rintro w31 ⟨hi,hb,hk⟩;replace HO_6:=am (Kd.R_mono (Kd.R_keep (IsS58.apart (show IsS58 w _ gboa l0 x542001_2 x542002_2 from(Z2 HIoa)) (Z1 HO_6) (by decide)) hk (fun _ h=>h.2)) (fun _ h=>h.1));replace HB:=am hb;replace HIoa:=am hi;clear hb hk hi))
  go_ret
  exact⟨_,Z6,(Z1 HO_6),ZB⟩
 rw[if_pos c25]at H
 have c25b0:=decide_eq_true c25
 clear c25
 obtain⟨c26,H⟩:=ip_ H
 have LMc26:=am c26
 clear c26
 obtain⟨y_c,hy_c⟩:∃y_:List (S37),y_=(x6_2++[(⟨0,0,1,0⟩:S37)]):=⟨_,rfl⟩
 replace H:(spec_DrawTouchingPairs.l0 k2 y_c l0 t572 t573)=some r:=Z24
 have Ny_c:=am hy_c
 clear hy_c
 have H':=am H
 clear H
 obtain⟨Ao27,co27,eo27⟩:=Kd.R_slice HO_6.1
 subst eo27
 go_wp2_with (first|((with_reducible refine gc_ 56 rfl ?_);refine gM_ (some 35) Tryz.func56 (spec_l1Cur_pick.calls gboa l0 x542001_2 x542002_2 2 t571 t572 t573 w _ ?side1 ?side2 A24.1) ?_;(case side1=>exact(Z2 HIoa));(case side2=>exact ZB);rintro w28 ⟨hi,hb,hk⟩;replace HO_6:=am (Kd.R_mono (Kd.R_keep (IsS58.apart (show IsS58 w _ gboa l0 x542001_2 x542002_2 from(Z2 HIoa)) (Z1 HO_6) (by decide)) hk (fun _ h=>h.2)) (fun _ h=>h.1));replace HB:=am hb;replace HIoa:=am hi;clear hb hk hi)|((with_reducible refine gate_builtin (b:= .append) (xs:=#[.tmp 38,.tmp 40]) rfl ?_);at_builtin;refine Kd.R_append k37 (w0:=w) w.heap.size rfl (.tmp 38) (.tmp 40) 24 37 (.agg #[(.int .i64 0),(.int .i64 0),(.int .i64 0),(.int .i64 0)]) 32 rfl Tryz.underlying24 info37 rfl (by decide) (by omega) (.slice Ao27 x6_2.length co27) x6_2 (⟨0,0,1,0⟩:S37) [.int .i64 0,.int .i64 0,.int .i64 1,.int .i64 0] (fun _=>True) (fun _=>False) rfl rfl ?aP (fun _ hk=>hk.elim) ?aF ?aO ?aB ?aS ?aL ?_;(case aP=>exact k37_mkM _ _ _ (⟨0,0,1,0⟩:S37));(case aB=>exact ZB);(case aF=>exact(fun _ _=>trivial));(case aO=>exact(Z1 HO_6));(case aS=>exact zs_);(case aL=>have:=LMc26.out;omega);intro v575 w29 ho hb hg hat;rw[←Ny_c.1]at ho;replace HIoa:=am (IsS58.grown (show IsS58 w _ gboa l0 t572 t573 from(Z2 HIoa)) hg (IsS58.own_ne HIoa.1 HO_6.1 (by decide)));replace HB:=am hb;have HOof:=am ho;clear HO_6;clear ho hb hg hat))
 go_roundg k2
 case measure=>have:=HJ5.1;have:=HK2.1;omega
 exact⟨(y_c),(t572),(t573),H',⟨(by have:=HJ5.1;have:=HK2.1;omega)⟩,⟨(Z1 HOof)⟩,⟨(Z2 HIoa)⟩,⟨ZB⟩⟩
def impl_TouchingPairs.f (k:Nat) (l0:List (S37)):Option ((List (List Int))× Bool):=if(l0.length:Int)>40 then(some (([]:List (List Int)),false))else((impl_areCircles.f l0).bind fun t577=>(if t577=true then((impl_touching.f k l0).bind fun t578=>(some (t578,true)))else(some (([]:List (List Int)),false))))
theorem impl_TouchingPairs.mono:∀a0 k,LeO (impl_TouchingPairs.f k a0) (impl_TouchingPairs.f (k+1) a0):=by
  intro a0 k
  unfold impl_TouchingPairs.f
  exact mo_
set_option maxHeartbeats 8000000 in
set_option maxRecDepth 100000 in
theorem impl_TouchingPairs.calls (k:Nat) (A0:Option Addr) (c0:Nat) (l0:List (S37)) (r1:List (List Int)) (r2:Bool) (w:World) (hr0:Kd.C k37 w A0 l0.length l0) (hc0:l0.length≤c0) (h:impl_TouchingPairs.f k l0=some (r1,r2)):
  Calls Tryz.prog 16 #[.slice A0 l0.length c0] w fun e w'=>∃v0_:Value,e= .returned (.tuple #[v0_,.bool r2])∧Kd.S (Kd.slice 3 (Kd.int .i64)) 30 w' w.heap.size (fun _=>True) v0_ r1∧Below w.heap.size w w':=by
 have HR0:=am hr0
 have HC0:=am hc0
 clear hr0 hc0
 have HB:=am (Below.refl w.heap.size w)
 have H:=h
 clear h
 unfold impl_TouchingPairs.f at H
 by_cases c2:(l0.length:Int)>40
 ·
  rw[if_pos c2]at H
  have c2b0:decide (40<(l0.length:Int))=true:=decide_eq_true c2
  have c2b1:decide (40<l0.length)=true:=decide_eq_true (by omega)
  clear c2
  simp only[Option.some.injEq,Prod.mk.injEq]at H
  obtain⟨rfl,rfl⟩:=H
  go_enter Tryz.func16,Tryz.ntmps16
  go_wp2
  go_ret2
  exact⟨_,Z6,Z33,ZB⟩
 rw[if_neg c2]at H
 have c2b0:decide (40<(l0.length:Int))=false:=decide_eq_false c2
 have c2b1:decide (40<l0.length)=false:=decide_eq_false (by omega)
 clear c2
 obtain⟨t577,A3,H⟩:=bs_ H
 try dsimp only at H
 by_cases c4:t577=true
 rotate_left
 ·
  replace c4:=Bool.eq_false_iff.mpr c4
  subst c4
  rw[if_neg (show¬(false=true) by decide)]at H
  simp only[Option.some.injEq,Prod.mk.injEq]at H
  obtain⟨rfl,rfl⟩:=H
  go_enter Tryz.func16,Tryz.ntmps16
  go_wp2_with (first|(go_at_call 53;(with_reducible refine(impl_areCircles.calls _ _ l0 false _ ?side1 ?side2 A3.1).mono ?_);(case side1=>exact(Z11 HR0));(case side2=>exact HC0.1);rintro e w8 ⟨rfl,hb⟩;replace HB:=bw_ hb;clear hb))
  go_ret2
  exact⟨_,Z6,Z33,ZB⟩
 subst c4
 rw[if_pos rfl]at H
 obtain⟨t578,A5,H⟩:=bs_ H
 try dsimp only at H
 simp only[Option.some.injEq,Prod.mk.injEq]at H
 obtain⟨rfl,rfl⟩:=H
 go_enter Tryz.func16,Tryz.ntmps16
 go_wp2_with (first|(go_at_call 53;(with_reducible refine(impl_areCircles.calls _ _ l0 true _ ?side1 ?side2 A3.1).mono ?_);(case side1=>exact(Z11 HR0));(case side2=>exact HC0.1);rintro e w6 ⟨rfl,hb⟩;replace HB:=bw_ hb;clear hb)|((with_reducible refine gc_ 57 rfl ?_);refine gE_ (some 13) Tryz.func57 (impl_touching.calls k _ _ l0 t578 _ ?side1 ?side2 A5.1) ?_;(case side1=>exact(Z15 HR0));(case side2=>exact HC0.1);rintro v579 w7 ⟨ho0,hb⟩;have HOoa:=am (Kd.S_lower ho0 zs_);replace HB:=bw_ hb;clear hb;(try clear ho0)))
 go_ret2
 exact⟨_,Z6,(Z12 HOoa),ZB⟩
mutual
def spec_TouchingPairs.l0:Nat→List (S37)→List (S37)→Int→Int→Option ((List (List Int))× Bool)
  |0,_,_,_,_=>none
  |k+1,x0,x13,x14,x15=>if x15<x14 then(if 0≤x15 then(if x15<(x13.length:Int)then((spec_ciGood.f k ((rd_T37 x13 x15).f0) ((rd_T37 x13 x15).f1) ((rd_T37 x13 x15).f2) ((rd_T37 x13 x15).f3)).bind fun t583=>(if t583=true then(spec_TouchingPairs.l0 k x0 x13 x14 (wrap64 (x15+1)))else(some (([]:List (List Int)),false))))else(none))else(none))else(spec_TouchingPairs.l1 k x0 ([]:List (List Int)) x0 (x0.length:Int) 0)
def spec_TouchingPairs.l1:Nat→List (S37)→List (List Int)→List (S37)→Int→Int→Option ((List (List Int))× Bool)
  |0,_,_,_,_,_=>none
  |k+1,x0,x6,x23,x24,x25=>if x25<x24 then(if 0≤x25 then(if x25<(x23.length:Int)then(spec_TouchingPairs.l2 k x0 x6 x25 (wrap64 (x25+1)) x23 x24 x25 ((rd_T37 x23 x25).f0) ((rd_T37 x23 x25).f1) ((rd_T37 x23 x25).f2) ((rd_T37 x23 x25).f3))else(none))else(none))else(some (x6,true))
def spec_TouchingPairs.l2:Nat→List (S37)→List (List Int)→Int→Int→List (S37)→Int→Int→Int→Int→Int→Int→Option ((List (List Int))× Bool)
  |0,_,_,_,_,_,_,_,_,_,_,_=>none
  |k+1,x0,x6,x7,x9,x23,x24,x25,x586000,x586001,x586002,x586003=>if x9<(x0.length:Int)then(if 0≤x9 then((spec_ciTwice.f x586000 x586001 x586002 x586003 ((rd_T37 x0 x9).f0) ((rd_T37 x0 x9).f1) ((rd_T37 x0 x9).f2) ((rd_T37 x0 x9).f3)).bind fun t587=>(if t587=(-2)then(if x6.length<5864062014805 then(spec_TouchingPairs.l2 k x0 (x6++[(([x7,x9]:List Int))]) x7 (wrap64 (x9+1)) x23 x24 x25 x586000 x586001 x586002 x586003)else(none))else(spec_TouchingPairs.l2 k x0 x6 x7 (wrap64 (x9+1)) x23 x24 x25 x586000 x586001 x586002 x586003)))else(none))else(spec_TouchingPairs.l1 k x0 x6 x23 x24 (wrap64 (x25+1)))
end
def spec_TouchingPairs.f (k:Nat) (l0:List (S37)):Option ((List (List Int))× Bool):=if(l0.length:Int)>40 then(some (([]:List (List Int)),false))else(spec_TouchingPairs.l0 k l0 l0 (l0.length:Int) 0)
theorem spec_TouchingPairs.mono_l:∀k,(∀y0 y1 y2 y3,LeO (spec_TouchingPairs.l0 k y0 y1 y2 y3) (spec_TouchingPairs.l0 (k+1) y0 y1 y2 y3))∧(∀y0 y1 y2 y3 y4,LeO (spec_TouchingPairs.l1 k y0 y1 y2 y3 y4) (spec_TouchingPairs.l1 (k+1) y0 y1 y2 y3 y4))∧(∀y0 y1 y2 y3 y4 y5 y6 y7 y8 y9 y10,LeO (spec_TouchingPairs.l2 k y0 y1 y2 y3 y4 y5 y6 y7 y8 y9 y10) (spec_TouchingPairs.l2 (k+1) y0 y1 y2 y3 y4 y5 y6 y7 y8 y9 y10))
  |0=>⟨fun _ _ _ _ r h=>by simp[spec_TouchingPairs.l0]at h,fun _ _ _ _ _ r h=>by simp[spec_TouchingPairs.l1]at h,fun _ _ _ _ _ _ _ _ _ _ _ r h=>by simp[spec_TouchingPairs.l2]at h⟩
  |k+1=>by
    obtain⟨ih0,ih1,ih2⟩:=spec_TouchingPairs.mono_l k
    refine⟨?_,?_,?_⟩
    · intro y0 y1 y2 y3
      unfold spec_TouchingPairs.l0
      exact mo_
    · intro y0 y1 y2 y3 y4
      unfold spec_TouchingPairs.l1
      exact mo_
    · intro y0 y1 y2 y3 y4 y5 y6 y7 y8 y9 y10
      unfold spec_TouchingPairs.l2
      exact mo_
theorem spec_TouchingPairs.mono:∀a0 k,LeO (spec_TouchingPairs.f k a0) (spec_TouchingPairs.f (k+1) a0):=by
  intro a0 k
  obtain⟨ih0,ih1,ih2⟩:=spec_TouchingPairs.mono_l k
  unfold spec_TouchingPairs.f
  exact mo_
set_option maxHeartbeats 8000000 in
set_option maxRecDepth 100000 in
theorem spec_TouchingPairs.calls (k:Nat) (A0:Option Addr) (c0:Nat) (l0:List (S37)) (r1:List (List Int)) (r2:Bool) (w:World) (hr0:Kd.C k37 w A0 l0.length l0) (hc0:l0.length≤c0) (h:spec_TouchingPairs.f k l0=some (r1,r2)):
  Calls Tryz.prog 17 #[.slice A0 l0.length c0] w fun e w'=>∃v0_:Value,e= .returned (.tuple #[v0_,.bool r2])∧Kd.S (Kd.slice 3 (Kd.int .i64)) 30 w' w.heap.size (fun _=>True) v0_ r1∧Below w.heap.size w w':=by
 have hu37:=Tryz.underlying37
 have HR0:=am hr0
 have HC0:=am hc0
 clear hr0 hc0
 have HB:=am (Below.refl w.heap.size w)
 have H:=h
 clear h
 unfold spec_TouchingPairs.f at H
 by_cases c2:(l0.length:Int)>40
 ·
  rw[if_pos c2]at H
  have c2b0:decide (40<(l0.length:Int))=true:=decide_eq_true c2
  have c2b1:decide (40<l0.length)=true:=decide_eq_true (by omega)
  clear c2
  simp only[Option.some.injEq,Prod.mk.injEq]at H
  obtain⟨rfl,rfl⟩:=H
  go_enter Tryz.func17,Tryz.ntmps17
  go_wp2
  go_ret2
  exact⟨_,Z6,Z33,ZB⟩
 rw[if_neg c2]at H
 have c2b0:decide (40<(l0.length:Int))=false:=decide_eq_false c2
 have c2b1:decide (40<l0.length)=false:=decide_eq_false (by omega)
 clear c2
 have H':=am H
 clear H
 go_enter Tryz.func17,Tryz.ntmps17
 go_wp2
 go_loopg [15] k (fun kq v15 w'=>∃(x15_1:Int),v15= .int .i64 x15_1∧Aside0 (spec_TouchingPairs.l0 kq l0 l0 (l0.length:Int) x15_1=some (r1,r2))∧Aside0 (kq≤k)∧Aside0 (Below w.heap.size w w'))
 case atStart=>exact⟨(0),Z7,H',⟨Nat.le_refl _⟩,⟨ZB⟩⟩
 clear H'
 obtain⟨x15_1,rfl,HA,HK1,HB⟩:=hrel
 obtain _|k1:=gk
 ·
  exact absurd HA.out (by simp[spec_TouchingPairs.l0])
 have H:=HA.out
 clear HA
 simp only[spec_TouchingPairs.l0]at H
 by_cases c3:x15_1<(l0.length:Int)
 ·
  rw[if_pos c3]at H
  have c3b0:=decide_eq_true c3
  clear c3
  obtain⟨c4,H⟩:=ip_ H
  have c4b0:=decide_eq_true c4
  clear c4
  obtain⟨c5,H⟩:=ip_ H
  have c5b0:=decide_eq_true c5
  clear c5
  obtain⟨t583,A6,H⟩:=bs_ H
  try dsimp only at H
  by_cases c7:t583=true
  ·
   subst c7
   rw[if_pos rfl]at H
   have H':=am H
   clear H
   have p581:0≤(x15_1:Int):=of_decide_eq_true Z5
   have q581:x15_1<(l0.length:Int):=of_decide_eq_true Z5
   obtain⟨ad581,e581,hx581_0,hx581_1,hx581_2,hx581_3⟩:=at_T37 HR0.1 x15_1 p581 q581
   cases e581
   replace hx581_0:=(HB.1.cell (World.block_lt_of_cell? w _ hx581_0)).trans hx581_0
   replace hx581_1:=(HB.1.cell (World.block_lt_of_cell? w _ hx581_1)).trans hx581_1
   replace hx581_2:=(HB.1.cell (World.block_lt_of_cell? w _ hx581_2)).trans hx581_2
   replace hx581_3:=(HB.1.cell (World.block_lt_of_cell? w _ hx581_3)).trans hx581_3
   replace p581:=eq_true p581
   replace q581:=eq_true q581
   go_wp2_with (first|((with_reducible refine gd_ 5 rfl ?_);refine boxN_ 5 #[.int .i64 0,.int .i64 0,.int .i64 0,.int .i64 0] 37 ?_;intro gboa hg w8 hbox hb;have BKoa:=am hbox;have GWoa:=gG_ hg;have GEoa:=gG_ hg;replace HB:=bw_ hb;clear hb hbox hg;obtain⟨_,_,_,_,_,_,_,_⟩:=cz4_ BKoa)|((with_reducible refine gc_ 47 rfl ?_);refine gM_ (some 20) Tryz.func47 (spec_ciGood.calls k1 ((rd_T37 l0 x15_1).f0) ((rd_T37 l0 x15_1).f1) ((rd_T37 l0 x15_1).f2) ((rd_T37 l0 x15_1).f3) true _ A6.1) ?_;intro w10 hb;replace BKoa:=bk_ BKoa hb;replace HB:=bw_ hb;clear hb))
   go_roundg k1
   case measure=>have:=HK1.1;omega
   exact⟨(wrap64 (x15_1+1)),Z7,H',⟨Z34⟩,⟨ZB⟩⟩
  replace c7:=Bool.eq_false_iff.mpr c7
  subst c7
  rw[if_neg (show¬(false=true) by decide)]at H
  simp only[Option.some.injEq,Prod.mk.injEq]at H
  obtain⟨rfl,rfl⟩:=H
  have p581:0≤(x15_1:Int):=of_decide_eq_true Z5
  have q581:x15_1<(l0.length:Int):=of_decide_eq_true Z5
  obtain⟨ad581,e581,hx581_0,hx581_1,hx581_2,hx581_3⟩:=at_T37 HR0.1 x15_1 p581 q581
  cases e581
  replace hx581_0:=(HB.1.cell (World.block_lt_of_cell? w _ hx581_0)).trans hx581_0
  replace hx581_1:=(HB.1.cell (World.block_lt_of_cell? w _ hx581_1)).trans hx581_1
  replace hx581_2:=(HB.1.cell (World.block_lt_of_cell? w _ hx581_2)).trans hx581_2
  replace hx581_3:=(HB.1.cell (World.block_lt_of_cell? w _ hx581_3)).trans hx581_3
  replace p581:=eq_true p581
  replace q581:=eq_true q581
  go_wp2_with (first|((with_reducible refine gd_ 5 rfl ?_);refine boxN_ 5 #[.int .i64 0,.int .i64 0,.int .i64 0,.int .i64 0] 37 ?_;intro gboa hg w11 hbox hb;have BKoa:=am hbox;have GWoa:=gG_ hg;have GEoa:=gG_ hg;replace HB:=bw_ hb;clear hb hbox hg;obtain⟨_,_,_,_,_,_,_,_⟩:=cz4_ BKoa)|((with_reducible refine gc_ 47 rfl ?_);refine gM_ (some 20) Tryz.func47 (spec_ciGood.calls k1 ((rd_T37 l0 x15_1).f0) ((rd_T37 l0 x15_1).f1) ((rd_T37 l0 x15_1).f2) ((rd_T37 l0 x15_1).f3) false _ A6.1) ?_;intro w13 hb;replace BKoa:=bk_ BKoa hb;replace HB:=bw_ hb;clear hb))
  go_ret2
  exact⟨_,Z6,Z33,ZB⟩
 rw[if_neg c3]at H
 have c3b0:=decide_eq_false c3
 clear c3
 have H':=am H
 clear H
 go_wp2
 go_loopg [6,25] k1 (fun kq v6 v25 w'=>∃(x6_2:List (List Int)) (x25_2:Int),v25= .int .i64 x25_2∧Aside0 (spec_TouchingPairs.l1 kq l0 x6_2 l0 (l0.length:Int) x25_2=some (r1,r2))∧Aside0 (kq≤k1)∧Aside0 (Kd.S (Kd.slice 3 (Kd.int .i64)) 30 w' w.heap.size (fun _=>True) v6 x6_2)∧Aside0 (Below w.heap.size w w'))
 case atStart=>exact⟨(([]:List (List Int))),(0),Z7,H',⟨Nat.le_refl _⟩,⟨Z33⟩,⟨ZB⟩⟩
 clear H'
 obtain⟨x6_2,x25_2,rfl,HA,HK2,HO_6,HB⟩:=hrel
 obtain _|k2:=gk
 ·
  exact absurd HA.out (by simp[spec_TouchingPairs.l1])
 have H:=HA.out
 clear HA
 simp only[spec_TouchingPairs.l1]at H
 by_cases c14:x25_2<(l0.length:Int)
 rotate_left
 ·
  rw[if_neg c14]at H
  have c14b0:=decide_eq_false c14
  clear c14
  simp only[Option.some.injEq,Prod.mk.injEq]at H
  obtain⟨rfl,rfl⟩:=H
  go_wp2
  go_ret2
  exact⟨_,Z6,(Z12 HO_6),ZB⟩
 rw[if_pos c14]at H
 have c14b0:=decide_eq_true c14
 clear c14
 obtain⟨c15,H⟩:=ip_ H
 have c15b0:=decide_eq_true c15
 clear c15
 obtain⟨c16,H⟩:=ip_ H
 have c16b0:=decide_eq_true c16
 clear c16
 have H':=am H
 clear H
 have p584:0≤(x25_2:Int):=of_decide_eq_true Z5
 have q584:x25_2<(l0.length:Int):=of_decide_eq_true Z5
 obtain⟨ad584,e584,hx584_0,hx584_1,hx584_2,hx584_3⟩:=at_T37 HR0.1 x25_2 p584 q584
 cases e584
 replace hx584_0:=(HB.1.cell (World.block_lt_of_cell? w _ hx584_0)).trans hx584_0
 replace hx584_1:=(HB.1.cell (World.block_lt_of_cell? w _ hx584_1)).trans hx584_1
 replace hx584_2:=(HB.1.cell (World.block_lt_of_cell? w _ hx584_2)).trans hx584_2
 replace hx584_3:=(HB.1.cell (World.block_lt_of_cell? w _ hx584_3)).trans hx584_3
 replace p584:=eq_true p584
 replace q584:=eq_true q584
 go_wp2_with (first|((with_reducible refine gd_ 8 rfl ?_);refine boxN_ 8 #[.int .i64 0,.int .i64 0,.int .i64 0,.int .i64 0] 37 ?_;intro gbob hg w17 hbox hb;replace HO_6:=am (Kd.S_below (Z12 HO_6) hb);have BKob:=am hbox;have GWob:=gG_ hg;have GEob:=gG_ hg;replace HB:=bw_ hb;clear hb hbox hg;obtain⟨_,_,_,_,_,_,_,_⟩:=cz4_ BKob))
 go_loopg [6,9] k2 (fun kq v6 v9 w'=>∃(x6_3:List (List Int)) (x9_3:Int),v9= .int .i64 x9_3∧Aside0 (spec_TouchingPairs.l2 kq l0 x6_3 x25_2 x9_3 l0 (l0.length:Int) x25_2 ((rd_T37 l0 x25_2).f0) ((rd_T37 l0 x25_2).f1) ((rd_T37 l0 x25_2).f2) ((rd_T37 l0 x25_2).f3)=some (r1,r2))∧Aside0 (kq≤k2)∧Aside0 (Kd.S (Kd.slice 3 (Kd.int .i64)) 30 w' w.heap.size (fun _=>True) v6 x6_3)∧Aside0 (w'.heap[gbob]?=some (.cells #[.int .i64 ((rd_T37 l0 x25_2).f0),.int .i64 ((rd_T37 l0 x25_2).f1),.int .i64 ((rd_T37 l0 x25_2).f2),.int .i64 ((rd_T37 l0 x25_2).f3)] 37 (0,0)))∧Aside0 (Below w.heap.size w w'))
 case atStart=>exact⟨(x6_2),(wrap64 (x25_2+1)),Z7,H',⟨Nat.le_refl _⟩,⟨(by(with_reducible repeat(first|apply Kd.S_alloc|apply Kd.S_drewN|apply Kd.S_drew));exact Kd.S_mono (Kd.S_far (p:=⟨gbob,3,none⟩) (Kd.S_far (p:=⟨gbob,2,none⟩) (Kd.S_far (p:=⟨gbob,1,none⟩) (Kd.S_far (p:=⟨gbob,0,none⟩) (Kd.S_types HO_6.1 BKob.1 (by decide)) (fun _ hk=>hk.2) (.int .i64 ((rd_T37 l0 x25_2).f0))) (fun _ hk=>hk.2) (.int .i64 ((rd_T37 l0 x25_2).f1))) (fun _ hk=>hk.2) (.int .i64 ((rd_T37 l0 x25_2).f2))) (fun _ hk=>hk.2) (.int .i64 ((rd_T37 l0 x25_2).f3))) (fun _ hk=>trivial))⟩,⟨(bb_ BKob)⟩,⟨ZB⟩⟩
 clear H'
 obtain⟨x6_3,x9_3,rfl,HA,HK3,HO_6,BKob,HB⟩:=hrel
 obtain _|k3:=gk
 ·
  exact absurd HA.out (by simp[spec_TouchingPairs.l2])
 have H:=HA.out
 clear HA
 simp only[spec_TouchingPairs.l2]at H
 by_cases c19:x9_3<(l0.length:Int)
 rotate_left
 ·
  rw[if_neg c19]at H
  have c19b0:=decide_eq_false c19
  clear c19
  have H':=am H
  clear H
  go_wp2
  go_roundg k3
  case measure=>have:=HK1.1;have:=HK2.1;have:=HK3.1;omega
  exact⟨(x6_3),(wrap64 (x25_2+1)),Z7,H',⟨Z47⟩,⟨(Z12 HO_6)⟩,⟨ZB⟩⟩
 rw[if_pos c19]at H
 have c19b0:=decide_eq_true c19
 clear c19
 obtain⟨c20,H⟩:=ip_ H
 have c20b0:=decide_eq_true c20
 clear c20
 obtain⟨t587,A21,H⟩:=bs_ H
 try dsimp only at H
 by_cases c22:t587=(-2)
 rotate_left
 ·
  rw[if_neg c22]at H
  obtain⟨c22b0,c22b1⟩:=ne2_ c22
  have H':=am H
  clear H
  try go_wp2
  have n0_:=am (Kd.S_drew HO_6.1)
  have n1_:=am (blk_drew BKob.1)
  have n2_:=am (below_drew1 HB.1)
  clear HO_6
  clear BKob
  clear HB
  have HO_6:=n0_
  have BKob:=n1_
  have HB:=n2_
  clear n0_ n1_ n2_
  have p586:0≤(x9_3:Int):=of_decide_eq_true Z5
  have q586:x9_3<(l0.length:Int):=of_decide_eq_true Z5
  obtain⟨ad586,e586,hx586_0,hx586_1,hx586_2,hx586_3⟩:=at_T37 HR0.1 x9_3 p586 q586
  have hw586_3:=hx586_3
  have hw586_2:=hx586_2
  have hw586_1:=hx586_1
  have hw586_0:=hx586_0
  obtain rfl:ad584=ad586:=(by injection e586)
  replace hx586_0:=(HB.1.cell (World.block_lt_of_cell? w _ hx586_0)).trans hx586_0
  replace hx586_1:=(HB.1.cell (World.block_lt_of_cell? w _ hx586_1)).trans hx586_1
  replace hx586_2:=(HB.1.cell (World.block_lt_of_cell? w _ hx586_2)).trans hx586_2
  replace hx586_3:=(HB.1.cell (World.block_lt_of_cell? w _ hx586_3)).trans hx586_3
  replace p586:=eq_true p586
  replace q586:=eq_true q586
  refine start_ (n:=7) (S:=fun w'=>w'.cell? ⟨gbob,0,none⟩=some (.int .i64 ((rd_T37 l0 x25_2).f0))∧w'.cell? ⟨gbob,1,none⟩=some (.int .i64 ((rd_T37 l0 x25_2).f1))∧w'.cell? ⟨gbob,2,none⟩=some (.int .i64 ((rd_T37 l0 x25_2).f2))∧w'.cell? ⟨gbob,3,none⟩=some (.int .i64 ((rd_T37 l0 x25_2).f3))∧w'.cell? (ad584.add ((x9_3).toNat*4))=some (.int .i64 ((rd_T37 l0 x9_3).f0))∧w'.cell? ⟨(ad584.add ((x9_3).toNat*4)).block,(ad584.add ((x9_3).toNat*4)).off+1,none⟩=some (.int .i64 ((rd_T37 l0 x9_3).f1))∧w'.cell? ⟨(ad584.add ((x9_3).toNat*4)).block,(ad584.add ((x9_3).toNat*4)).off+2,none⟩=some (.int .i64 ((rd_T37 l0 x9_3).f2))∧w'.cell? ⟨(ad584.add ((x9_3).toNat*4)).block,(ad584.add ((x9_3).toNat*4)).off+3,none⟩=some (.int .i64 ((rd_T37 l0 x9_3).f3))) (ds:=[]) M5 Z19 rfl rfl ⟨(blk_cell BKob.1 0).trans rfl,(blk_cell BKob.1 1).trans rfl,(blk_cell BKob.1 2).trans rfl,(blk_cell BKob.1 3).trans rfl,((HB.1.cell (World.block_lt_of_cell? w _ hw586_0)).trans hw586_0),((HB.1.cell (World.block_lt_of_cell? w _ hw586_1)).trans hw586_1),((HB.1.cell (World.block_lt_of_cell? w _ hw586_2)).trans hw586_2),((HB.1.cell (World.block_lt_of_cell? w _ hw586_3)).trans hw586_3)⟩ (fun hHeld=>?_)
  generalize wr.drew=w30 at HO_6 BKob HB hx586_0 hx586_1 hx586_2 hx586_3 hHeld ⊢
  refine pure_ (i:=1) (N:=some 39) (v:=?_) (a':=?_) M6 rfl rfl Z19 (fun _ _ _ h=>h) (Or.inl ⟨(by rfl),?_⟩) ?_ ?_
  rotate_left
  ·
   intro w'
   go_simp
   with_reducible rfl
  rotate_left
  ·
   simp only[Act.put,List.setIfInBounds_toArray,List.set_cons_zero,List.set_cons_succ,i64_w,i32_w]
   rfl
  refine pure_ (i:=2) (N:=some 40) (v:=?_) (a':=?_) M7 rfl rfl Z19 (fun _ _ _ h=>h) (Or.inl ⟨(by rfl),?_⟩) ?_ ?_
  rotate_left
  ·
   intro w'
   go_simp
   with_reducible rfl
  rotate_left
  ·
   simp only[Act.put,List.setIfInBounds_toArray,List.set_cons_zero,List.set_cons_succ,i64_w,i32_w]
   rfl
  refine pure_ (i:=3) (N:=some 41) (v:=?_) (a':=?_) M8 rfl rfl Z19 (fun _ _ _ h=>h) (Or.inl ⟨(by rfl),?_⟩) ?_ ?_
  rotate_left
  ·
   intro w'
   go_simp
   with_reducible rfl
  rotate_left
  ·
   simp only[Act.put,List.setIfInBounds_toArray,List.set_cons_zero,List.set_cons_succ,i64_w,i32_w]
   rfl
  refine take_ (i:=0) (N:=some 38) (v:=?_) (a':=?_) M37 rfl rfl Z19 (fun _ _ _ h=>h) (Or.inl ⟨(by rfl),?_⟩) hHeld ?_ ?_
  rotate_left
  ·
   rintro w' ⟨s0,s1,s2,s3,s4,s5,s6,s7⟩
   go_simp
   with_reducible rfl
  rotate_left
  ·
   simp only[Act.put,List.setIfInBounds_toArray,List.set_cons_zero,List.set_cons_succ,i64_w,i32_w]
   rfl
  refine take_ (i:=4) (N:=some 42) (v:=?_) (a':=?_) M39 rfl rfl Z19 (fun _ _ _ h=>h) (Or.inl ⟨(by rfl),?_⟩) hHeld ?_ ?_
  rotate_left
  ·
   rintro w' ⟨s0,s1,s2,s3,s4,s5,s6,s7⟩
   go_simp
   with_reducible rfl
  rotate_left
  ·
   simp only[Act.put,List.setIfInBounds_toArray,List.set_cons_zero,List.set_cons_succ,i64_w,i32_w]
   rfl
  refine one_ (i:=5) (N:=some 43) M42 rfl rfl Z19 (by decide) (fun K hK=>?_)
  refine goes_ Tryz.func58 Z19 rfl #[.agg #[.int .i64 ((rd_T37 l0 x25_2).f0),.int .i64 ((rd_T37 l0 x25_2).f1),.int .i64 ((rd_T37 l0 x25_2).f2),.int .i64 ((rd_T37 l0 x25_2).f3)],.agg #[.int .i64 ((rd_T37 l0 x9_3).f0),.int .i64 ((rd_T37 l0 x9_3).f1),.int .i64 ((rd_T37 l0 x9_3).f2),.int .i64 ((rd_T37 l0 x9_3).f3)]] (by rfl) rfl rfl Z18 ?_
  with_reducible refine(spec_ciTwice.calls ((rd_T37 l0 x25_2).f0) ((rd_T37 l0 x25_2).f1) ((rd_T37 l0 x25_2).f2) ((rd_T37 l0 x25_2).f3) ((rd_T37 l0 x9_3).f0) ((rd_T37 l0 x9_3).f1) ((rd_T37 l0 x9_3).f2) ((rd_T37 l0 x9_3).f3) t587 _ A21.1).mono ?_
  rintro e w31 ⟨rfl,hb⟩
  refine⟨_,rfl,?_⟩
  have n0_:=am (Kd.S_below (Z12 HO_6) hb)
  have n1_:=bk_ BKob hb
  have n2_:=bw_ hb
  clear HO_6
  clear BKob
  clear HB
  have HO_6:=n0_
  have BKob:=n1_
  have HB:=n2_
  clear n0_ n1_ n2_
  (try clear hb)
  (try clear hb2)
  (try clear hk)
  (try clear hi)
  refine hK.out _ _ ⟨(blk_cell BKob.1 0).trans rfl,(blk_cell BKob.1 1).trans rfl,(blk_cell BKob.1 2).trans rfl,(blk_cell BKob.1 3).trans rfl,((HB.1.cell (World.block_lt_of_cell? w _ hw586_0)).trans hw586_0),((HB.1.cell (World.block_lt_of_cell? w _ hw586_1)).trans hw586_1),((HB.1.cell (World.block_lt_of_cell? w _ hw586_2)).trans hw586_2),((HB.1.cell (World.block_lt_of_cell? w _ hw586_3)).trans hw586_3)⟩ (fun hHeld=>?_)
  clear hK K
  refine norm_ (a':=?_) ?_ ?_
  rotate_left
  ·
   show Act.put _ (some 43) _=_
   simp only[Act.put,List.setIfInBounds_toArray,List.set_cons_zero,List.set_cons_succ,i64_w,i32_w]
   rfl
  refine pure_ (i:=6) (N:=some 44) (v:=?_) (a':=?_) M69 rfl rfl Z19 (fun _ _ _ h=>h) (Or.inl ⟨(by rfl),?_⟩) ?_ ?_
  rotate_left
  ·
   intro w'
   go_simp
   with_reducible rfl
  rotate_left
  ·
   simp only[Act.put,List.setIfInBounds_toArray,List.set_cons_zero,List.set_cons_succ,i64_w,i32_w]
   rfl
  refine done_ Z19 ?_
  try go_wp2
  go_roundg k3
  case measure=>have:=HK1.1;have:=HK2.1;have:=HK3.1;omega
  exact⟨(x6_3),(wrap64 (x9_3+1)),Z7,H',⟨Z47⟩,⟨(Z12 HO_6)⟩,⟨(bb_ BKob)⟩,⟨ZB⟩⟩
 rw[if_pos c22]at H
 obtain⟨c22b0,c22b1⟩:=eq2_ c22
 clear c22
 obtain⟨y_a,hy_a⟩:∃y_:List Int,y_=(([x25_2,x9_3]:List Int)):=⟨_,rfl⟩
 replace H:(if x6_3.length<5864062014805 then(spec_TouchingPairs.l2 k3 l0 (x6_3++[y_a]) x25_2 (wrap64 (x9_3+1)) l0 (l0.length:Int) x25_2 ((rd_T37 l0 x25_2).f0) ((rd_T37 l0 x25_2).f1) ((rd_T37 l0 x25_2).f2) ((rd_T37 l0 x25_2).f3))else(none))=some (r1,r2):=Z8
 have Ny_a:=am hy_a
 clear hy_a
 obtain⟨c23,H⟩:=ip_ H
 have LMc23:=am c23
 clear c23
 obtain⟨y_b,hy_b⟩:∃y_:List (List Int),y_=(x6_3++[y_a]):=⟨_,rfl⟩
 replace H:(spec_TouchingPairs.l2 k3 l0 y_b x25_2 (wrap64 (x9_3+1)) l0 (l0.length:Int) x25_2 ((rd_T37 l0 x25_2).f0) ((rd_T37 l0 x25_2).f1) ((rd_T37 l0 x25_2).f2) ((rd_T37 l0 x25_2).f3))=some (r1,r2):=Z14
 have Ny_b:=am hy_b
 clear hy_b
 have H':=am H
 clear H
 try go_wp2
 have n0_:=am (Kd.S_drew HO_6.1)
 have n1_:=am (blk_drew BKob.1)
 have n2_:=am (below_drew1 HB.1)
 clear HO_6
 clear BKob
 clear HB
 have HO_6:=n0_
 have BKob:=n1_
 have HB:=n2_
 clear n0_ n1_ n2_
 have p586:0≤(x9_3:Int):=of_decide_eq_true Z5
 have q586:x9_3<(l0.length:Int):=of_decide_eq_true Z5
 obtain⟨ad586,e586,hx586_0,hx586_1,hx586_2,hx586_3⟩:=at_T37 HR0.1 x9_3 p586 q586
 have hw586_3:=hx586_3
 have hw586_2:=hx586_2
 have hw586_1:=hx586_1
 have hw586_0:=hx586_0
 obtain rfl:ad584=ad586:=(by injection e586)
 replace hx586_0:=(HB.1.cell (World.block_lt_of_cell? w _ hx586_0)).trans hx586_0
 replace hx586_1:=(HB.1.cell (World.block_lt_of_cell? w _ hx586_1)).trans hx586_1
 replace hx586_2:=(HB.1.cell (World.block_lt_of_cell? w _ hx586_2)).trans hx586_2
 replace hx586_3:=(HB.1.cell (World.block_lt_of_cell? w _ hx586_3)).trans hx586_3
 replace p586:=eq_true p586
 replace q586:=eq_true q586
 refine start_ (n:=7) (S:=fun w'=>w'.cell? ⟨gbob,0,none⟩=some (.int .i64 ((rd_T37 l0 x25_2).f0))∧w'.cell? ⟨gbob,1,none⟩=some (.int .i64 ((rd_T37 l0 x25_2).f1))∧w'.cell? ⟨gbob,2,none⟩=some (.int .i64 ((rd_T37 l0 x25_2).f2))∧w'.cell? ⟨gbob,3,none⟩=some (.int .i64 ((rd_T37 l0 x25_2).f3))∧w'.cell? (ad584.add ((x9_3).toNat*4))=some (.int .i64 ((rd_T37 l0 x9_3).f0))∧w'.cell? ⟨(ad584.add ((x9_3).toNat*4)).block,(ad584.add ((x9_3).toNat*4)).off+1,none⟩=some (.int .i64 ((rd_T37 l0 x9_3).f1))∧w'.cell? ⟨(ad584.add ((x9_3).toNat*4)).block,(ad584.add ((x9_3).toNat*4)).off+2,none⟩=some (.int .i64 ((rd_T37 l0 x9_3).f2))∧w'.cell? ⟨(ad584.add ((x9_3).toNat*4)).block,(ad584.add ((x9_3).toNat*4)).off+3,none⟩=some (.int .i64 ((rd_T37 l0 x9_3).f3))) (ds:=[]) M5 Z19 rfl rfl ⟨(blk_cell BKob.1 0).trans rfl,(blk_cell BKob.1 1).trans rfl,(blk_cell BKob.1 2).trans rfl,(blk_cell BKob.1 3).trans rfl,((HB.1.cell (World.block_lt_of_cell? w _ hw586_0)).trans hw586_0),((HB.1.cell (World.block_lt_of_cell? w _ hw586_1)).trans hw586_1),((HB.1.cell (World.block_lt_of_cell? w _ hw586_2)).trans hw586_2),((HB.1.cell (World.block_lt_of_cell? w _ hw586_3)).trans hw586_3)⟩ (fun hHeld=>?_)
 generalize wr.drew=w24 at HO_6 BKob HB hx586_0 hx586_1 hx586_2 hx586_3 hHeld ⊢
 refine pure_ (i:=1) (N:=some 39) (v:=?_) (a':=?_) M6 rfl rfl Z19 (fun _ _ _ h=>h) (Or.inl ⟨(by rfl),?_⟩) ?_ ?_
 rotate_left
 ·
  intro w'
  go_simp
  with_reducible rfl
 rotate_left
 ·
  simp only[Act.put,List.setIfInBounds_toArray,List.set_cons_zero,List.set_cons_succ,i64_w,i32_w]
  rfl
 refine pure_ (i:=2) (N:=some 40) (v:=?_) (a':=?_) M7 rfl rfl Z19 (fun _ _ _ h=>h) (Or.inl ⟨(by rfl),?_⟩) ?_ ?_
 rotate_left
 ·
  intro w'
  go_simp
  with_reducible rfl
 rotate_left
 ·
  simp only[Act.put,List.setIfInBounds_toArray,List.set_cons_zero,List.set_cons_succ,i64_w,i32_w]
  rfl
 refine pure_ (i:=3) (N:=some 41) (v:=?_) (a':=?_) M8 rfl rfl Z19 (fun _ _ _ h=>h) (Or.inl ⟨(by rfl),?_⟩) ?_ ?_
 rotate_left
 ·
  intro w'
  go_simp
  with_reducible rfl
 rotate_left
 ·
  simp only[Act.put,List.setIfInBounds_toArray,List.set_cons_zero,List.set_cons_succ,i64_w,i32_w]
  rfl
 refine take_ (i:=0) (N:=some 38) (v:=?_) (a':=?_) M37 rfl rfl Z19 (fun _ _ _ h=>h) (Or.inl ⟨(by rfl),?_⟩) hHeld ?_ ?_
 rotate_left
 ·
  rintro w' ⟨s0,s1,s2,s3,s4,s5,s6,s7⟩
  go_simp
  with_reducible rfl
 rotate_left
 ·
  simp only[Act.put,List.setIfInBounds_toArray,List.set_cons_zero,List.set_cons_succ,i64_w,i32_w]
  rfl
 refine take_ (i:=4) (N:=some 42) (v:=?_) (a':=?_) M39 rfl rfl Z19 (fun _ _ _ h=>h) (Or.inl ⟨(by rfl),?_⟩) hHeld ?_ ?_
 rotate_left
 ·
  rintro w' ⟨s0,s1,s2,s3,s4,s5,s6,s7⟩
  go_simp
  with_reducible rfl
 rotate_left
 ·
  simp only[Act.put,List.setIfInBounds_toArray,List.set_cons_zero,List.set_cons_succ,i64_w,i32_w]
  rfl
 refine one_ (i:=5) (N:=some 43) M42 rfl rfl Z19 (by decide) (fun K hK=>?_)
 refine goes_ Tryz.func58 Z19 rfl #[.agg #[.int .i64 ((rd_T37 l0 x25_2).f0),.int .i64 ((rd_T37 l0 x25_2).f1),.int .i64 ((rd_T37 l0 x25_2).f2),.int .i64 ((rd_T37 l0 x25_2).f3)],.agg #[.int .i64 ((rd_T37 l0 x9_3).f0),.int .i64 ((rd_T37 l0 x9_3).f1),.int .i64 ((rd_T37 l0 x9_3).f2),.int .i64 ((rd_T37 l0 x9_3).f3)]] (by rfl) rfl rfl Z18 ?_
 with_reducible refine(spec_ciTwice.calls ((rd_T37 l0 x25_2).f0) ((rd_T37 l0 x25_2).f1) ((rd_T37 l0 x25_2).f2) ((rd_T37 l0 x25_2).f3) ((rd_T37 l0 x9_3).f0) ((rd_T37 l0 x9_3).f1) ((rd_T37 l0 x9_3).f2) ((rd_T37 l0 x9_3).f3) t587 _ A21.1).mono ?_
 rintro e w25 ⟨rfl,hb⟩
 refine⟨_,rfl,?_⟩
 have n0_:=am (Kd.S_below (Z12 HO_6) hb)
 have n1_:=bk_ BKob hb
 have n2_:=bw_ hb
 clear HO_6
 clear BKob
 clear HB
 have HO_6:=n0_
 have BKob:=n1_
 have HB:=n2_
 clear n0_ n1_ n2_
 (try clear hb)
 (try clear hb2)
 (try clear hk)
 (try clear hi)
 refine hK.out _ _ ⟨(blk_cell BKob.1 0).trans rfl,(blk_cell BKob.1 1).trans rfl,(blk_cell BKob.1 2).trans rfl,(blk_cell BKob.1 3).trans rfl,((HB.1.cell (World.block_lt_of_cell? w _ hw586_0)).trans hw586_0),((HB.1.cell (World.block_lt_of_cell? w _ hw586_1)).trans hw586_1),((HB.1.cell (World.block_lt_of_cell? w _ hw586_2)).trans hw586_2),((HB.1.cell (World.block_lt_of_cell? w _ hw586_3)).trans hw586_3)⟩ (fun hHeld=>?_)
 clear hK K
 refine norm_ (a':=?_) ?_ ?_
 rotate_left
 ·
  show Act.put _ (some 43) _=_
  simp only[Act.put,List.setIfInBounds_toArray,List.set_cons_zero,List.set_cons_succ,i64_w,i32_w]
  rfl
 refine pure_ (i:=6) (N:=some 44) (v:=?_) (a':=?_) M69 rfl rfl Z19 (fun _ _ _ h=>h) (Or.inl ⟨(by rfl),?_⟩) ?_ ?_
 rotate_left
 ·
  intro w'
  go_simp
  with_reducible rfl
 rotate_left
 ·
  simp only[Act.put,List.setIfInBounds_toArray,List.set_cons_zero,List.set_cons_succ,i64_w,i32_w]
  rfl
 refine done_ Z19 ?_
 try go_wp2_with (first|((with_reducible refine gd_ 48 rfl ?_);refine Kd.R_lit (Kd.int .i64) _ 3 ?hg (N:=48) ?hd (xs:=([x25_2,x9_3]:List Int)) (inner:=[.int .i64 x25_2,.int .i64 x9_3]) (ok:=fun _=>True) (okp:=fun _=>True) ?hr ?hp (fun _ hk=>hk) trivial (Below.refl _ _) (Nat.le_refl _) (by simp) ?_;(case hd=>rfl);(case hg=>rfl);(case hr=>first|(go_simp;done)|(go_simp;rfl));(case hp=>exact(Reps.one (show Kd.M (Kd.int .i64) _ _ _ x25_2 [.int .i64 x25_2]from rfl) (Reps.one (show Kd.M (Kd.int .i64) _ _ _ x9_3 [.int .i64 x9_3]from rfl) (Reps.none _ _))));intro v589 w26 ho27 hb hg_ hnew_;clear hg_ hnew_;(first|rw[←Ny_a.1]at ho27|(simp only[Int.reduceToNat]at ho27;rw[←Ny_a.1]at ho27));replace HO_6:=am (Kd.S_elder' (Z12 HO_6) (Kd.R_base ho27) hb);have HOoc:=am (Kd.R_lower ho27 zs_);replace BKob:=bk_ BKob hb;replace HB:=bw_ hb;clear hb ho27;obtain⟨Ao29,co29,eo29⟩:=Kd.R_slice HOoc.1;subst eo29)|((with_reducible refine gate_builtin (b:= .append) (xs:=#[.tmp 45,.tmp 49]) rfl ?_);at_builtin;refine Kd.S_append (Kd.slice 3 (Kd.int .i64)) (w0:=w) w.heap.size rfl (.tmp 45) (.tmp 49) 42 30 (.slice none 0 0) 24 rfl Tryz.underlying42 info30 rfl (by decide) (by omega) u6 x6_3 y_a [.slice Ao29 y_a.length co29] (fun _=>True) (fun k_=>some k_=(.slice Ao29 y_a.length co29:Value).ownBlock) rfl rfl ?aP (fun k_ hk_=>((Kd.R_mono (ok':=fun k_=>((fun _=>True)) k_∧some k_≠(u6:Value).ownBlock) (Kd.R_apart' (HOoc.1) (Kd.S_typed HO_6.1) (by decide)) (fun k_ hk=>⟨trivial,hk.2⟩))).1 k_ hk_.symm) ?aF ?aO ?aB ?aS ?aL ?_;(case aP=>exact Kd.M_row (Kd.R_mono (Kd.R_tight rfl (Kd.R_mono (ok':=fun k_=>((fun _=>True)) k_∧some k_≠(u6:Value).ownBlock) (Kd.R_apart' (HOoc.1) (Kd.S_typed HO_6.1) (by decide)) (fun k_ hk=>⟨trivial,hk.2⟩))) (fun _ h_=>h_)));(case aB=>exact ZB);(case aF=>exact(fun _ _=>trivial));(case aO=>exact(by(with_reducible repeat(first|apply Kd.S_alloc|apply Kd.S_drewN|apply Kd.S_drew));exact Kd.S_mono HO_6.1 (fun k_ hk=>⟨trivial,fun e_=>hk.2 e_⟩)));(case aS=>exact zs_);(case aL=>have:=LMc23.out;omega);intro v592 w28 ho hb hg hat;rw[←Ny_b.1]at ho;replace BKob:=am (blk_grown (bb_ BKob) hg (Kd.S_ne HO_6.1 BKob.1 (by decide)));replace HB:=am hb;have HOod:=am ho;clear HOoc HO_6;clear ho hb hg hat))
 go_roundg k3
 case measure=>have:=HK1.1;have:=HK2.1;have:=HK3.1;omega
 exact⟨(y_b),(wrap64 (x9_3+1)),Z7,H',⟨Z47⟩,⟨(Z12 HOod)⟩,⟨(bb_ BKob)⟩,⟨ZB⟩⟩
end Go.Proofs.YtmpofeilljmmiaaGreatDoor.P
