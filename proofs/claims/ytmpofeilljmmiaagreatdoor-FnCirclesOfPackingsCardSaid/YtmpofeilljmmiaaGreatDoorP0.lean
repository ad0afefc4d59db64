/- Lean functions with the answers of Go functions that the statement reaches, and the proofs that the calls come to them; conditions: none but the arguments' kinds. -/
import Derived.Below
import Derived.Deep.Draws
import Derived.Deep.AppendLies
import Derived.Maps.AppendAt
import Derived.OwnWalk
import Derived.Laws.BytesArg
import Derived.Laws.MakeOwn
import Derived.Laws.OwnMore
import Derived.Deep.OwnRows
import Derived.Tactics
import Derived.Lib.ConvBytes
import Derived.Laws.Slices
import Derived.WalkKit
import Derived.KernelRfl
import Derived.RowKit3
import Derived.Deep.LoopGhost
import Derived.Deep.QuietTactic
import Derived.BigQuiet
import Derived.WideLaws
import Derived.Deep.DeepCutAuto
import Derived.Deep.CutBlock
import Derived.Deep.RegionHeld3
import Derived.Laws.Rows
import Derived.Lib.AppendStr
import Derived.ArgAppend
import Derived.Laws.IdiomCopy
import Derived.OrdersHeld
import Derived.Laws.BitsLemmas
import Derived.RowKit
import Derived.ChangeMaps5
import Derived.Laws.StructEq
import Derived.Lib.SliceRun
import Derived.LoopIn
import Derived.LoopNIn
import Derived.MapKept
import Derived.OwnWalkIn
import Derived.Shelf.Abstract
import Derived.Shelf.SlIterI.Sorted
import Derived.Shelf.Slices.CompactI
import Derived.Shelf.Sort.Plain
import Derived.Shelf.Strconv.ErrVarAll
import Derived.Shelf.Strconv.Itoa3
import Derived.Shelf.Strings.OnBuilder
import Derived.Shelf.Strings.Split
import Derived.Sort.OwnSortedInts
import Derived.TacticsInMore
import Derived.Test.YtmpofeilljmmiaaGreatDoorWA
import Derived.Test.YtmpofeilljmmiaaGreatDoorProg
namespace Go.Proofs.YtmpofeilljmmiaaGreatDoor.P
open Go.RowKit Go.Proofs.YtmpofeilljmmiaaGreatDoorW.PrintWords Go.Proofs.YtmpofeilljmmiaaGreatDoorW.PrintLast Go.Proofs.YtmpofeilljmmiaaGreatDoorW.PrintMore
attribute [local go_sem] max2_int min2_int max_two min_two max_three min_three max_four min_four
set_option linter.unusedVariables false
set_option linter.unusedSimpArgs false
theorem am {p:Prop} (h:p):Aside0 p:=⟨h⟩
def errW:Option Int→Value
  |none=> .nilIface
  |some c=> .iface 0 (.int .i64 c)
theorem errW_none:errW none= .nilIface:=rfl
theorem errW_some (c:Int):errW (some c)= .iface 0 (.int .i64 c):=rfl
theorem info3:(Tryz.prog.info? 3).map (fun i=>(i.zero,i.size,i.bytes))=some (some (.int .i64 0),1,8):=by kernel_rfl
theorem info5:(Tryz.prog.info? 5).map (fun i=>(i.zero,i.size,i.bytes))=some (some (.int .u8 0),1,1):=by kernel_rfl
theorem info9:(Tryz.prog.info? 9).map (fun i=>(i.zero,i.size,i.bytes))=some (some (.string ⟨#[]⟩),1,16):=by kernel_rfl
theorem info30:(Tryz.prog.info? 30).map (fun i=>(i.zero,i.size,i.bytes))=some (some (.slice none 0 0),1,24):=by kernel_rfl
theorem info37:(Tryz.prog.info? 37).map (fun i=>(i.zero,i.size,i.bytes))=some (some (.agg #[(.int .i64 0),(.int .i64 0),(.int .i64 0),(.int .i64 0)]),4,32):=by kernel_rfl
theorem info70:(Tryz.prog.info? 70).map (fun i=>(i.zero,i.size,i.bytes))=some (some (.agg #[(.slice none 0 0),(.int .i64 0)]),2,32):=by kernel_rfl
theorem info74:(Tryz.prog.info? 74).map (fun i=>(i.zero,i.size,i.bytes))=some (some (.agg #[(.slice none 0 0),(.int .i64 0)]),2,32):=by kernel_rfl
structure S37 where
  f0:Int
  f1:Int
  f2:Int
  f3:Int
def z37:S37:=⟨(0:Int),(0:Int),(0:Int),(0:Int)⟩
def k37:Kd S37:=Kd.iso (Kd.pair (Kd.int .i64) (Kd.pair (Kd.int .i64) (Kd.pair (Kd.int .i64) (Kd.int .i64)))) (fun x:S37=>(x.f0,x.f1,x.f2,x.f3))
theorem k37_heap:Kd.Heap k37:=Kd.heap_iso _ (Kd.heap_pair (Kd.heap_int .i64) (Kd.heap_pair (Kd.heap_int .i64) (Kd.heap_pair (Kd.heap_int .i64) (Kd.heap_int .i64))))
theorem k37_open {w:World} {x:S37} {cs:List Value} (h:k37.K w x cs):cs=[.int .i64 x.f0,.int .i64 x.f1,.int .i64 x.f2,.int .i64 x.f3]:=by
  obtain⟨_,_,rfl,rfl,⟨_,_,rfl,rfl,⟨_,_,rfl,rfl,rfl⟩⟩⟩:=h
  exact rfl
theorem k37_openM {w:World} {base:Nat} {ok:Nat→Prop} {x:S37} {cs:List Value} (h:k37.M w base ok x cs):cs=[.int .i64 x.f0,.int .i64 x.f1,.int .i64 x.f2,.int .i64 x.f3]:=by
  obtain⟨_,_,rfl,rfl,⟨_,_,rfl,rfl,⟨_,_,rfl,rfl,rfl⟩⟩⟩:=h
  exact rfl
theorem k37_mk (w:World) (x:S37):k37.K w x [.int .i64 x.f0,.int .i64 x.f1,.int .i64 x.f2,.int .i64 x.f3]:=⟨[.int .i64 x.f0],[.int .i64 x.f1,.int .i64 x.f2,.int .i64 x.f3],rfl,rfl,⟨[.int .i64 x.f1],[.int .i64 x.f2,.int .i64 x.f3],rfl,rfl,⟨[.int .i64 x.f2],[.int .i64 x.f3],rfl,rfl,rfl⟩⟩⟩
theorem k37_mkM (w:World) (base:Nat) (ok:Nat→Prop) (x:S37):k37.M w base ok x [.int .i64 x.f0,.int .i64 x.f1,.int .i64 x.f2,.int .i64 x.f3]:=⟨[.int .i64 x.f0],[.int .i64 x.f1,.int .i64 x.f2,.int .i64 x.f3],rfl,rfl,⟨[.int .i64 x.f1],[.int .i64 x.f2,.int .i64 x.f3],rfl,rfl,⟨[.int .i64 x.f2],[.int .i64 x.f3],rfl,rfl,rfl⟩⟩⟩
theorem k37_mkF (W:World) (ok:Nat→Prop) (x:S37):Kd.FK k37 W ok x [.int .i64 x.f0,.int .i64 x.f1,.int .i64 x.f2,.int .i64 x.f3]:=fun W2 _=>k37_mk W2 x
def rd_T37 (xs:List S37) (i:Int):S37:=xs.getD i.toNat z37
theorem at_T37 {w:World} {A:Option Addr} {n:Nat} {xs:List S37} (h:Kd.C k37 w A n xs) (i:Int) (h0:0≤i) (h1:i<n):∃ad,A=some ad∧w.cell? (ad.add (i.toNat*4))=some (.int .i64 (rd_T37 xs i).f0)∧w.cell? ⟨(ad.add (i.toNat*4)).block,(ad.add (i.toNat*4)).off+1,none⟩=some (.int .i64 (rd_T37 xs i).f1)∧w.cell? ⟨(ad.add (i.toNat*4)).block,(ad.add (i.toNat*4)).off+2,none⟩=some (.int .i64 (rd_T37 xs i).f2)∧w.cell? ⟨(ad.add (i.toNat*4)).block,(ad.add (i.toNat*4)).off+3,none⟩=some (.int .i64 (rd_T37 xs i).f3):=by
  obtain⟨ad,c,e,_,hK,hc0⟩:=Kd.C_get h z37 i h0 h1
  have hc:∀j u,c[j]?=some u→w.cell? (ad.add (i.toNat*4+j))=some u:=hc0
  obtain rfl:=k37_open hK
  exact⟨ad,e,hc 0 _ rfl,by rw[←add_field _ _ 1 (by omega)];exact hc 1 _ rfl,by rw[←add_field _ _ 2 (by omega)];exact hc 2 _ rfl,by rw[←add_field _ _ 3 (by omega)];exact hc 3 _ rfl⟩
def rd_L3 (xs:List (List S37)) (i:Int):(List S37):=xs.getD i.toNat ([]:List S37)
theorem at_L3 {w:World} {A:Option Addr} {n:Nat} {xs:List (List S37)} (h:Kd.C (Kd.slice 37 k37) w A n xs) (i:Int) (h0:0≤i) (h1:i<n):∃ad A0 c0,A=some ad∧w.cell? (ad.add i.toNat)=some (.slice A0 (rd_L3 xs i).length c0)∧(rd_L3 xs i).length≤c0∧k37.C w A0 (rd_L3 xs i).length (rd_L3 xs i):=by
  obtain⟨ad,c,e,_,hK,hc0⟩:=Kd.C_get h ([]:List S37) i h0 h1
  have hc:∀j u,c[j]?=some u→w.cell? (ad.add (i.toNat*1+j))=some u:=hc0
  obtain⟨A0,c0,rfl,l0,g0⟩:=hK
  exact⟨ad,A0,c0,e,by have hq:=hc 0 _ rfl;rwa [Nat.mul_one,Nat.add_zero]at hq,l0,g0⟩
structure S74 where
  f0:(List S37)
  f1:Int
def z74:S74:=⟨([]:List S37),(0:Int)⟩
def k74:Kd S74:=Kd.iso (Kd.pair (Kd.slice 37 k37) (Kd.int .i64)) (fun x:S74=>(x.f0,x.f1))
theorem k74_heap:Kd.Heap k74:=Kd.heap_iso _ (Kd.heap_pair (Kd.heap_slice 37 k37_heap) (Kd.heap_int .i64))
theorem k74_open {w:World} {x:S74} {cs:List Value} (h:k74.K w x cs):∃A0 c0,cs=[.slice A0 x.f0.length c0,.int .i64 x.f1]∧x.f0.length≤c0∧k37.C w A0 x.f0.length x.f0:=by
  obtain⟨_,_,rfl,⟨A0,c0,rfl,l0,g0⟩,rfl⟩:=h
  exact⟨A0,c0,rfl,l0,g0⟩
theorem k74_openM {w:World} {base:Nat} {ok:Nat→Prop} {x:S74} {cs:List Value} (h:k74.M w base ok x cs):∃v0,cs=[v0,.int .i64 x.f1]∧k37.R 37 w base ok v0 x.f0:=by
  obtain⟨_,_,rfl,⟨v0,rfl,g0⟩,rfl⟩:=h
  exact⟨v0,rfl,g0⟩
theorem k74_mk (w:World) (x:S74) {A0:Option Addr} {c0:Nat} (l0:x.f0.length≤c0) (g0:k37.C w A0 x.f0.length x.f0):k74.K w x [.slice A0 x.f0.length c0,.int .i64 x.f1]:=⟨[.slice A0 x.f0.length c0],[.int .i64 x.f1],rfl,⟨A0,c0,rfl,l0,g0⟩,rfl⟩
theorem k74_mkM (w:World) (base:Nat) (ok:Nat→Prop) (x:S74) {v0:Value} (g0:k37.R 37 w base ok v0 x.f0):k74.M w base ok x [v0,.int .i64 x.f1]:=⟨[v0],[.int .i64 x.f1],rfl,⟨v0,rfl,g0⟩,rfl⟩
theorem k74_openF {W:World} {ok:Nat→Prop} {x:S74} {cs:List Value} (h:Kd.FK k74 W ok x cs):∃A0 c0,cs=[.slice A0 x.f0.length c0,.int .i64 x.f1]∧x.f0.length≤c0∧Kd.F k37 W ok A0 x.f0.length x.f0:=by
  obtain⟨A0,c0,rfl,l0,_⟩:=k74_open (Kd.FK_now h)
  exact⟨A0,c0,rfl,l0,(fun W' hW=>by obtain⟨A0_,c0_,he,l0_,g0_⟩:=k74_open (h W' hW);injection (Option.some.inj (show some (Value.slice A0 x.f0.length c0)=some (Value.slice A0_ x.f0.length c0_)from congrArg (fun l=>l[0]?) he))with ha_ _ _;rw[ha_];exact g0_)⟩
theorem k74_mkF (W:World) (ok:Nat→Prop) (x:S74) {A0:Option Addr} {c0:Nat} (l0:x.f0.length≤c0) (g0:Kd.F k37 W ok A0 x.f0.length x.f0):Kd.FK k74 W ok x [.slice A0 x.f0.length c0,.int .i64 x.f1]:=fun W2 hW=>k74_mk W2 x l0 (g0 W2 hW)
def rd_T74 (xs:List S74) (i:Int):S74:=xs.getD i.toNat z74
theorem at_T74 {w:World} {A:Option Addr} {n:Nat} {xs:List S74} (h:Kd.C k74 w A n xs) (i:Int) (h0:0≤i) (h1:i<n):∃ad A0 c0,A=some ad∧w.cell? (ad.add (i.toNat*2))=some (.slice A0 (rd_T74 xs i).f0.length c0)∧w.cell? ⟨(ad.add (i.toNat*2)).block,(ad.add (i.toNat*2)).off+1,none⟩=some (.int .i64 (rd_T74 xs i).f1)∧(rd_T74 xs i).f0.length≤c0∧k37.C w A0 (rd_T74 xs i).f0.length (rd_T74 xs i).f0:=by
  obtain⟨ad,c,e,_,hK,hc0⟩:=Kd.C_get h z74 i h0 h1
  have hc:∀j u,c[j]?=some u→w.cell? (ad.add (i.toNat*2+j))=some u:=hc0
  obtain⟨A0,c0,rfl,l0,g0⟩:=k74_open hK
  exact⟨ad,A0,c0,e,hc 0 _ rfl,by rw[←add_field _ _ 1 (by omega)];exact hc 1 _ rfl,l0,g0⟩
def rd_L5 (xs:List (List Int)) (i:Int):(List Int):=xs.getD i.toNat ([]:List Int)
theorem at_L5 {w:World} {A:Option Addr} {n:Nat} {xs:List (List Int)} (h:Kd.C (Kd.slice 3 (Kd.int .i64)) w A n xs) (i:Int) (h0:0≤i) (h1:i<n):∃ad A0 c0,A=some ad∧w.cell? (ad.add i.toNat)=some (.slice A0 (rd_L5 xs i).length c0)∧(rd_L5 xs i).length≤c0∧(Kd.int .i64).C w A0 (rd_L5 xs i).length (rd_L5 xs i):=by
  obtain⟨ad,c,e,_,hK,hc0⟩:=Kd.C_get h ([]:List Int) i h0 h1
  have hc:∀j u,c[j]?=some u→w.cell? (ad.add (i.toNat*1+j))=some u:=hc0
  obtain⟨A0,c0,rfl,l0,g0⟩:=hK
  exact⟨ad,A0,c0,e,by have hq:=hc 0 _ rfl;rwa [Nat.mul_one,Nat.add_zero]at hq,l0,g0⟩
def rd_L8 (xs:List (List ByteArray)) (i:Int):(List ByteArray):=xs.getD i.toNat ([]:List ByteArray)
theorem at_L8 {w:World} {A:Option Addr} {n:Nat} {xs:List (List ByteArray)} (h:Kd.C (Kd.slice 9 Kd.string) w A n xs) (i:Int) (h0:0≤i) (h1:i<n):∃ad A0 c0,A=some ad∧w.cell? (ad.add i.toNat)=some (.slice A0 (rd_L8 xs i).length c0)∧(rd_L8 xs i).length≤c0∧Kd.string.C w A0 (rd_L8 xs i).length (rd_L8 xs i):=by
  obtain⟨ad,c,e,_,hK,hc0⟩:=Kd.C_get h ([]:List ByteArray) i h0 h1
  have hc:∀j u,c[j]?=some u→w.cell? (ad.add (i.toNat*1+j))=some u:=hc0
  obtain⟨A0,c0,rfl,l0,g0⟩:=hK
  exact⟨ad,A0,c0,e,by have hq:=hc 0 _ rfl;rwa [Nat.mul_one,Nat.add_zero]at hq,l0,g0⟩
section
variable {P:Program} {ops:Array Oper} {rest:List Oper} {o:Oper} {a:Act} {Q:Exit→Act→World→Prop} {α:Type}
theorem S_lit1 (d:Kd α) {w0 W:World} (base e bytes:Nat) (hgd:o.guard=none) {N:Tmp} (hd:o.dst=some N) (p:α) (cs:List Value) (ok okp:Nat→Prop)
    (hrun:(execOp a.eval o).run P W= .ok (.value (.slice (some ⟨W.heap.size,0,none⟩) 1 1)) (W.alloc (.cells cs.toArray e)))
    (hp:d.M W base okp p cs) (hokp:∀k,okp k→ok k∧some k≠(Value.slice none 0 0).ownBlock) (hfresh:∀k,W.heap.size≤k→ok k)
    (_HO:Kd.S d e W base (fun k=>ok k∧¬okp k) (.slice none 0 0) []) (HB:Below base w0 W) (hbase:base≤W.heap.size) (_hl:(([]:List α).length+1)*bytes≤140737488355328)
    (h:∀v1 w1,Kd.S d e w1 base ok v1 ([]++[p])→Below base w0 w1→W.grownBy w1 (Value.slice none 0 0).ownBlock→(v1.ownBlock=(Value.slice none 0 0).ownBlock∨∃b,v1.ownBlock=some b∧W.heap.size≤b)→wpList P ops Q rest (a.put o.dst v1) w1):wpList P ops Q (o::rest) a W:=by
  have hcl:cs.length=d.sz:=d.K_len (d.K_of_M hp)
  refine Kd.S_lits d (w0:=w0) base e hgd hd (xs:=[p]) (inner:=cs) (ok:=ok) (fun j k=>j=0∧okp k) hrun (by simp[hcl]) (fun j x hj=>?_) (fun i j k h1 h2=>h1.1.trans h2.1.symm) (fun j k hk=>(hokp k hk.2).1) (hfresh _ (Nat.le_refl _)) HB hbase (by simp) (fun v1 w1 hS hb hg hat=>h v1 w1 hS hb hg (.inr hat))
  cases j with
  |zero=>
    simp only[List.getElem?_cons_zero,Option.some.injEq]at hj
    subst hj
    simp only[Nat.zero_mul,List.drop_zero]
    rw[List.take_of_length_le (by omega)]
    exact d.M_mono (fun k hk=>⟨by trivial,hk⟩) hp
  |succ j=>simp at hj
end
theorem sA_ {α:Type} (l:List α) (i:Nat) (a:α):l.toArray.setIfInBounds i a=(l.set i a).toArray:=List.setIfInBounds_toArray ..
theorem sB_ {α:Type} (l:List α) (a b:α):(a::l).set 0 b=b::l:=rfl
theorem sC_ {α:Type} (l:List α) (a b:α) (n:Nat):(a::l).set (n+1) b=a::l.set n b:=rfl
@[simp] theorem tdiv_nn_ {a b:Int} (h:0≤a):Int.tdiv a b=a/b:=Int.tdiv_eq_ediv_of_nonneg h
theorem now_ {P:Program} {md:Region.Mode} {ops:Array Oper} {Q:Exit→Act→World→Prop} {S:World→Prop} {ds:List Nat} {i:Nat} {N:Option Tmp} {oi:Oper} {v:Value} {fuel:Nat} {l:Array Bool} {a:Act} {w:World} (l':Array Bool) (hi:ops[i]?=some oi) (hN:oi.dst=N) (hc:readyB md ops l l' i=true)
    (hy:YieldsIf P ops (fun w'=>w'=w) oi v a) {a':Act} (ha:a.put N v=a') (h:wpAnyLast P md ops Q S ds fuel l' a' w):wpAnyLast P md ops Q S ds (fuel+1) l a w:=by
  subst ha
  subst hN
  simp only[readyB,Bool.and_eq_true,beq_iff_eq]at hc
  obtain⟨h1,h2⟩:=hc
  subst h2
  refine wpAnyLast_all h1 (by simp) ?_
  intro j hj
  rw[List.mem_singleton.1 hj]
  exact YieldsIf.wpOp hi hy rfl ⟨fun _ h=>h,h⟩
section
variable {P:Program} {ops:Array Oper} {rest:List Oper} {o:Oper} {a:Act} {Q:Exit→Act→World→Prop} {α:Type}
open Classical in
theorem S_append_rows (d:Kd α) {w0 W:World} (base:Nat) (hgd:o.guard=none) (s x:Operand) (t e:TypeId) (z:Value) (bytes:Nat)
    (ho:o.op= .call {callee:= .builtin .append,args:=#[s,x],argTypes:=#[t,t]})
    (ht:P.underlying t=some (.slice e)) (hinfo:(P.info? e).map (fun i=>(i.zero,i.size,i.bytes))=some (some z,d.sz,bytes)) (hz:z.cells.size=d.sz) (hs0:0<d.sz) (hb0:0<bytes)
    (v:Value) (xs ys:List α) (A:Option Addr) (c:Nat) (ok okq:Nat→Prop) (hs:a.eval s=v) (hx:a.eval x= .slice A ys.length c)
    (HO:Kd.S d e W base (fun k=>ok k∧¬okq k) v xs) (HY:Kd.S d e W base okq (.slice A ys.length c) ys) (hokq:∀k,okq k→ok k∧some k≠v.ownBlock) (hfresh:∀k,W.heap.size≤k→ok k)
    (HB:Below base w0 W) (hbase:base≤W.heap.size) (hl:(xs.length+ys.length)*bytes≤140737488355328)
    (h:∀v1 w1,Kd.S d e w1 base ok v1 (xs++ys)→Below base w0 w1→W.grownBy w1 v.ownBlock→(v1.ownBlock=v.ownBlock∨∃b,v1.ownBlock=some b∧W.heap.size≤b)→wpList P ops Q rest (a.put o.dst v1) w1):
    wpList P ops Q (o::rest) a W:=by
  obtain⟨f1,h1⟩:=HO
  obtain⟨f2,h2⟩:=HY
  obtain⟨g,hg⟩:∃g:Nat→Nat,∀k,g k=if okq k then xs.length+f2 k else f1 k:=⟨_,fun _=>rfl⟩
  have hR:(Kd.tag g d).R e W base ok v xs.zipIdx:=Kd.R_mono (Kd.R_tag h1 (fun k hk _=>by rw[hg,if_neg hk.2])) (fun _ hk=>hk.1)
  obtain⟨hk0,inner,ho2,hr2⟩:=h2
  have hr3:Reps ((Kd.tag g d).M W base okq) d.sz (ys.zipIdx xs.length) inner:=by
    refine⟨by have h_:=hr2.1;rw[List.length_zipIdx]at h_ ⊢;exact h_,fun j p hj=>?_⟩
    rw[List.getElem?_zipIdx]at hj
    obtain⟨q,hq,rfl⟩:=Option.map_eq_some_iff.1 hj
    exact d.M_mono (fun k hk=>⟨hk.1.1,by rw[hg,if_pos hk.1.1,hk.2]⟩) (hr2.2 j (q,j) (Kd.zip_at hq))
  obtain⟨A',c',e',hread⟩:=own_reads_row ho2 hr3 (by simp)
  rw[List.length_zipIdx]at e' hread
  injection e' with e1 e2 e3
  subst e1
  refine Kd.R_append_rows (Kd.tag g d) base hgd s x t e z bytes ho ht hinfo hz hs0 hb0 v xs.zipIdx (ys.zipIdx xs.length) A ys.length c ok okq hs hx hR hread (fun _ _ hk=>hk) hokq hfresh HB hbase (by rw[List.length_zipIdx];exact hl) ?_
  intro v1 w1 hr
  refine h v1 w1 ⟨g,?_⟩
  rw[List.zipIdx_append,Nat.zero_add]
  exact hr
end
abbrev i_:Bool:=true
abbrev o_:Bool:=false
abbrev M1:Array Bool:=#[o_,o_,o_,o_,o_,o_,o_,o_,o_,o_,o_,o_,o_,o_,o_,o_,o_,o_,o_]
abbrev M2:Array Bool:=#[o_,o_,o_,o_,o_,o_,o_,o_,o_,o_,o_,o_,o_,o_,o_,o_,o_]
abbrev M3:Array Bool:=#[o_,o_,o_,o_,o_,o_,o_,o_,o_,o_,o_,o_,o_,o_,o_]
abbrev M4:Array Bool:=#[o_,o_,o_,o_,o_,o_,o_,o_,o_,o_,o_]
abbrev M5:Array Bool:=#[o_,o_,o_,o_,o_,o_,o_]
abbrev M6:Array Bool:=#[o_,i_,o_,o_,o_,o_,o_]
abbrev M7:Array Bool:=#[o_,i_,i_,o_,o_,o_,o_]
abbrev M8:Array Bool:=#[o_,i_,i_,i_,o_,o_,o_]
abbrev M9:Array Bool:=#[i_,o_,o_,o_,o_,o_,o_,o_,o_,o_,o_,o_,o_,o_,o_,o_,o_,o_,o_]
abbrev M10:Array Bool:=#[i_,o_,o_,o_,o_,o_,o_,o_,o_,o_,o_,o_,o_,o_,o_,o_,o_]
abbrev M11:Array Bool:=#[i_,o_,o_,o_,o_,o_,o_,o_,o_,o_,o_,o_,o_,o_,o_]
abbrev M12:Array Bool:=#[i_,o_,o_,o_,o_,o_,o_,o_,o_,o_,o_]
abbrev M13:Array Bool:=#[i_,i_,o_,o_,o_,o_,o_,o_,o_,o_,o_,o_,o_,o_,o_,o_,o_]
abbrev M14:Array Bool:=#[i_,i_,o_,o_,o_,o_,o_,o_,o_,o_,o_,o_,o_,o_,o_]
abbrev M15:Array Bool:=#[i_,i_,o_,o_,o_,o_,o_,o_,o_,o_,o_]
abbrev M16:Array Bool:=#[i_,i_,o_,i_,o_,o_,o_,o_,o_,o_,o_,o_,o_,o_,o_]
abbrev M17:Array Bool:=#[i_,i_,o_,i_,o_,o_,o_,o_,o_,o_,o_]
abbrev M18:Array Bool:=#[i_,i_,o_,i_,o_,o_,i_,o_,o_,o_,o_]
abbrev M19:Array Bool:=#[i_,i_,o_,i_,o_,o_,i_,i_,o_,o_,o_]
abbrev M20:Array Bool:=#[i_,i_,o_,i_,o_,o_,i_,i_,i_,o_,o_]
abbrev M21:Array Bool:=#[i_,i_,o_,i_,o_,o_,i_,i_,i_,i_,o_]
abbrev M22:Array Bool:=#[i_,i_,o_,i_,i_,o_,o_,o_,o_,o_,o_,o_,o_,o_,o_]
abbrev M23:Array Bool:=#[i_,i_,o_,i_,i_,o_,i_,o_,o_,o_,o_,o_,o_,o_,o_]
abbrev M24:Array Bool:=#[i_,i_,o_,i_,i_,o_,i_,i_,o_,o_,o_,o_,o_,o_,o_]
abbrev M25:Array Bool:=#[i_,i_,o_,i_,i_,o_,i_,i_,o_,i_,o_,o_,o_,o_,o_]
abbrev M26:Array Bool:=#[i_,i_,o_,i_,i_,o_,i_,i_,o_,i_,i_,o_,o_,o_,o_]
abbrev M27:Array Bool:=#[i_,i_,i_,o_,o_,o_,o_,o_,o_,o_,o_,o_,o_,o_,o_,o_,o_]
abbrev M28:Array Bool:=#[i_,i_,i_,o_,i_,o_,o_,o_,o_,o_,o_,o_,o_,o_,o_,o_,o_]
abbrev M29:Array Bool:=#[i_,i_,i_,o_,i_,i_,o_,o_,o_,o_,o_,o_,o_,o_,o_,o_,o_]
abbrev M30:Array Bool:=#[i_,i_,i_,o_,i_,i_,i_,o_,o_,o_,o_,o_,o_,o_,o_,o_,o_]
abbrev M31:Array Bool:=#[i_,i_,i_,o_,i_,i_,i_,o_,o_,o_,i_,o_,o_,o_,o_,o_,o_]
abbrev M32:Array Bool:=#[i_,i_,i_,o_,i_,i_,i_,o_,o_,o_,i_,i_,o_,o_,o_,o_,o_]
abbrev M33:Array Bool:=#[i_,i_,i_,o_,i_,i_,i_,o_,o_,o_,i_,i_,i_,o_,o_,o_,o_]
abbrev M34:Array Bool:=#[i_,i_,i_,o_,i_,i_,i_,o_,i_,i_,i_,o_,i_,i_,i_,o_,o_,i_,o_]
abbrev M35:Array Bool:=#[i_,i_,i_,o_,i_,i_,i_,i_,o_,o_,i_,i_,i_,o_,o_,o_,o_]
abbrev M36:Array Bool:=#[i_,i_,i_,o_,i_,i_,i_,i_,o_,o_,i_,i_,i_,i_,o_,o_,o_]
abbrev M37:Array Bool:=#[i_,i_,i_,i_,o_,o_,o_]
abbrev M38:Array Bool:=#[i_,i_,i_,i_,o_,o_,i_,i_,i_,i_,o_]
abbrev M39:Array Bool:=#[i_,i_,i_,i_,i_,o_,o_]
abbrev M40:Array Bool:=#[i_,i_,i_,i_,i_,o_,i_,i_,o_,i_,i_,o_,o_,o_,o_]
abbrev M41:Array Bool:=#[i_,i_,i_,i_,i_,o_,i_,i_,i_,i_,o_]
abbrev M42:Array Bool:=#[i_,i_,i_,i_,i_,i_,o_]
abbrev M43:Array Bool:=#[i_,i_,i_,i_,i_,i_,i_,o_,i_,i_,i_,o_,i_,i_,i_,o_,o_,o_,o_]
abbrev M44:Array Bool:=#[i_,i_,i_,i_,i_,i_,i_,o_,i_,i_,i_,o_,i_,i_,i_,o_,o_,i_,o_]
abbrev M45:Array Bool:=#[i_,i_,i_,i_,i_,i_,i_,i_,o_,o_,o_]
abbrev M46:Array Bool:=#[i_,i_,i_,i_,i_,i_,i_,i_,o_,o_,i_,i_,i_,i_,o_,o_,o_]
abbrev M47:Array Bool:=#[i_,i_,i_,i_,i_,i_,i_,i_,o_,i_,i_,o_,o_,o_,o_]
abbrev M48:Array Bool:=#[i_,i_,i_,i_,i_,i_,i_,i_,i_,o_,o_]
abbrev M49:Array Bool:=#[i_,i_,i_,i_,i_,i_,i_,i_,i_,o_,i_,i_,i_,i_,o_,o_,o_]
abbrev M50:Array Bool:=#[i_,i_,i_,i_,i_,i_,i_,i_,i_,i_,o_]
abbrev M51:Array Bool:=#[i_,i_,i_,i_,i_,i_,i_,i_,i_,i_,i_,o_,o_,o_,o_]
abbrev M52:Array Bool:=#[i_,i_,i_,i_,i_,i_,i_,i_,i_,i_,i_,o_,i_,i_,i_,o_,o_,o_,o_]
abbrev M53:Array Bool:=#[i_,i_,i_,i_,i_,i_,i_,i_,i_,i_,i_,o_,i_,i_,i_,o_,o_,i_,o_]
abbrev M54:Array Bool:=#[i_,i_,i_,i_,i_,i_,i_,i_,i_,i_,i_,i_,o_,o_,o_]
abbrev M55:Array Bool:=#[i_,i_,i_,i_,i_,i_,i_,i_,i_,i_,i_,i_,i_,o_,o_]
abbrev M56:Array Bool:=#[i_,i_,i_,i_,i_,i_,i_,i_,i_,i_,i_,i_,i_,i_,o_,o_,o_]
abbrev M57:Array Bool:=#[i_,i_,i_,i_,i_,i_,i_,i_,i_,i_,i_,i_,i_,i_,o_]
abbrev M58:Array Bool:=#[i_,i_,i_,i_,i_,i_,i_,i_,i_,i_,i_,i_,i_,i_,i_,o_,o_,o_,o_]
abbrev M59:Array Bool:=#[i_,i_,i_,i_,i_,i_,i_,i_,i_,i_,i_,i_,i_,i_,i_,o_,o_,i_,o_]
abbrev M60:Array Bool:=#[i_,i_,i_,i_,i_,i_,i_,i_,i_,i_,i_,i_,i_,i_,i_,o_,o_]
abbrev M61:Array Bool:=#[i_,i_,i_,i_,i_,i_,i_,i_,i_,i_,i_,i_,i_,i_,i_,i_,o_,o_,o_]
abbrev M62:Array Bool:=#[i_,i_,i_,i_,i_,i_,i_,i_,i_,i_,i_,i_,i_,i_,i_,i_,o_]
abbrev M63:Array Bool:=#[i_,i_,i_,i_,i_,i_,i_,i_,i_,i_,i_,i_,i_,i_,i_,i_,i_,o_,o_]
abbrev M64:Array Bool:=#[i_,i_,i_,i_,i_,i_,i_,i_,i_,i_,i_,i_,i_,i_,i_,i_,i_,i_,o_]
abbrev M65:Array Bool:=#[i_,i_,i_,i_,i_,i_,i_,i_,i_,i_,i_,i_,i_,i_,i_,i_,i_,i_,i_]
abbrev M66:Array Bool:=#[i_,i_,i_,i_,i_,i_,i_,i_,i_,i_,i_,i_,i_,i_,i_,i_,i_]
abbrev M67:Array Bool:=#[i_,i_,i_,i_,i_,i_,i_,i_,i_,i_,i_,i_,i_,i_,i_]
abbrev M68:Array Bool:=#[i_,i_,i_,i_,i_,i_,i_,i_,i_,i_,i_]
abbrev M69:Array Bool:=#[i_,i_,i_,i_,i_,i_,i_]
theorem gw_ {w W:World} {g:Nat} (h:Below w.heap.size w W) (hg:g=W.heap.size):Aside0 (w.heap.size≤g):=⟨by rw[hg];exact below_size h⟩
theorem bq_ {w0 W w':World} {g:Nat} {o:Obj} (h:Aside0 (w0.heap[g]?=some o)) (hq:W=w') (p:w0.heap[g]?=some o→W.heap[g]?=some o:=by intro hx_;(with_reducible repeat(first|refine blk_drewN ?_ _|refine blk_drew ?_|refine blk_alloc ?_ _));exact hx_):Aside0 (w'.heap[g]?=some o):=⟨hq▸p h.out⟩
theorem nl_ {w0 W:World} {g g':Nat} {o:Obj} (h:Aside0 (w0.heap[g]?=some o)) (hg:g'=W.heap.size) (p:w0.heap[g]?=some o→W.heap[g]?=some o:=by intro hx_;(with_reducible repeat(first|refine blk_drewN ?_ _|refine blk_drew ?_|refine blk_alloc ?_ _));exact hx_):Aside0 (g≠g'):=⟨by rw[hg];exact Nat.ne_of_lt (blk_lt (p h.out))⟩
theorem ng_ {w0 W:World} {g g':Nat} {o:Obj} (h:Aside0 (w0.heap[g]?=some o)) (hg:g'=W.heap.size) (p:w0.heap[g]?=some o→W.heap[g]?=some o:=by intro hx_;(with_reducible repeat(first|refine blk_drewN ?_ _|refine blk_drew ?_|refine blk_alloc ?_ _));exact hx_):Aside0 (g'≠g):=⟨by rw[hg];exact Nat.ne_of_gt (blk_lt (p h.out))⟩
theorem cz1_ {w:World} {g:Nat} {a:Value} {t:TypeId} (h:Aside0 (w.heap[g]?=some (.cells #[a] t (0,0)))):w.cell? ⟨g,0,none⟩=some a∧w.frozen? ⟨g,0,none⟩=false:=⟨(blk_cell h.out 0).trans rfl,blk_frozen h.out 0⟩
theorem cy1_ {w:World} {g:Nat} {a:Value} {t:TypeId} (h:Aside0 (w.heap[g]?=some (.cells #[a] t (0,0)))):w.cell? ⟨g,0,none⟩=some a:=(blk_cell h.out 0).trans rfl
theorem cz2_ {w:World} {g:Nat} {a b:Value} {t:TypeId} (h:Aside0 (w.heap[g]?=some (.cells #[a,b] t (0,0)))):w.cell? ⟨g,0,none⟩=some a∧w.cell? ⟨g,1,none⟩=some b∧w.frozen? ⟨g,0,none⟩=false∧w.frozen? ⟨g,1,none⟩=false:=⟨(blk_cell h.out 0).trans rfl,(blk_cell h.out 1).trans rfl,blk_frozen h.out 0,blk_frozen h.out 1⟩
theorem cy2_ {w:World} {g:Nat} {a b:Value} {t:TypeId} (h:Aside0 (w.heap[g]?=some (.cells #[a,b] t (0,0)))):w.cell? ⟨g,0,none⟩=some a∧w.cell? ⟨g,1,none⟩=some b:=⟨(blk_cell h.out 0).trans rfl,(blk_cell h.out 1).trans rfl⟩
theorem cz3_ {w:World} {g:Nat} {a b c:Value} {t:TypeId} (h:Aside0 (w.heap[g]?=some (.cells #[a,b,c] t (0,0)))):w.cell? ⟨g,0,none⟩=some a∧w.cell? ⟨g,1,none⟩=some b∧w.cell? ⟨g,2,none⟩=some c∧w.frozen? ⟨g,0,none⟩=false∧w.frozen? ⟨g,1,none⟩=false∧w.frozen? ⟨g,2,none⟩=false:=⟨(blk_cell h.out 0).trans rfl,(blk_cell h.out 1).trans rfl,(blk_cell h.out 2).trans rfl,blk_frozen h.out 0,blk_frozen h.out 1,blk_frozen h.out 2⟩
theorem cy3_ {w:World} {g:Nat} {a b c:Value} {t:TypeId} (h:Aside0 (w.heap[g]?=some (.cells #[a,b,c] t (0,0)))):w.cell? ⟨g,0,none⟩=some a∧w.cell? ⟨g,1,none⟩=some b∧w.cell? ⟨g,2,none⟩=some c:=⟨(blk_cell h.out 0).trans rfl,(blk_cell h.out 1).trans rfl,(blk_cell h.out 2).trans rfl⟩
theorem cz4_ {w:World} {g:Nat} {a b c d:Value} {t:TypeId} (h:Aside0 (w.heap[g]?=some (.cells #[a,b,c,d] t (0,0)))):w.cell? ⟨g,0,none⟩=some a∧w.cell? ⟨g,1,none⟩=some b∧w.cell? ⟨g,2,none⟩=some c∧w.cell? ⟨g,3,none⟩=some d∧w.frozen? ⟨g,0,none⟩=false∧w.frozen? ⟨g,1,none⟩=false∧w.frozen? ⟨g,2,none⟩=false∧w.frozen? ⟨g,3,none⟩=false:=⟨(blk_cell h.out 0).trans rfl,(blk_cell h.out 1).trans rfl,(blk_cell h.out 2).trans rfl,(blk_cell h.out 3).trans rfl,blk_frozen h.out 0,blk_frozen h.out 1,blk_frozen h.out 2,blk_frozen h.out 3⟩
theorem cy4_ {w:World} {g:Nat} {a b c d:Value} {t:TypeId} (h:Aside0 (w.heap[g]?=some (.cells #[a,b,c,d] t (0,0)))):w.cell? ⟨g,0,none⟩=some a∧w.cell? ⟨g,1,none⟩=some b∧w.cell? ⟨g,2,none⟩=some c∧w.cell? ⟨g,3,none⟩=some d:=⟨(blk_cell h.out 0).trans rfl,(blk_cell h.out 1).trans rfl,(blk_cell h.out 2).trans rfl,(blk_cell h.out 3).trans rfl⟩
theorem boxN_ {P:Program} {ops:Array Oper} {rest:List Oper} {o:Oper} {a:Act} {Q:Exit→Act→World→Prop} {W:World} (N:Tmp) (cs:Array Value) (t:TypeId) (k:∀(g:Nat),g=W.heap.size→∀(w1:World),w1.heap[g]?=some (Obj.cells cs t)→Below W.heap.size W w1→wpList P ops Q rest (a.put o.dst (Value.pointer (some {block:=g,off:=0}))) w1) (hd:o.dst=some N:=by with_reducible rfl) (hg:o.guard=none:=by rfl) (hr:Sem.run P (execOp a.eval o) W=Result.ok (Next.value (Value.pointer (some {block:=W.heap.size,off:=0}))) (W.alloc (Obj.cells cs t)):=by first|(go_simp;done)|(go_simp;rfl)):wpList P ops Q (o::rest) a W:=box_event hg hd hr k
theorem goesN_ {P:Program} {ops:Array Oper} {Q:Exit→Act→World→Prop} {rest:List Oper} {oi:Oper} {a:Act} {w:World} (f:FuncId) (N:Option Tmp) {fn:Func} (hf:P.funcs[f]?=some fn) (args:Array Value) {as':Array Operand} {ts:Array TypeId} (k:Calls P f args w fun e w'=>∃v,e=Ending.returned v∧wpList P ops Q rest (a.put N v) w') (h0:oi.op=Op.call {callee:=Callee.value (Operand.func f),args:=as',argTypes:=ts}:=by with_reducible rfl) (h1:oi.dst=N:=by rfl) (h2:oi.guard=none:=by rfl) (h3:(fn.name== "runtime.NumGoroutine")=false:=by kernel_rfl) (h4:fn.body.isSome=true:=by rfl) (h5:as'.map a.eval=args:=by(try simp only[List.map_toArray,List.map_cons,List.map_nil]);first|done|rfl|(simp only[List.length_drop,List.length_take];rfl)):wpList P ops Q (oi::rest) a w:=goesL_ N h1 h2 hf h3 h4 args h0 h5 k
theorem bs_ {α β:Type} {x:Option α} {f:α→Option β} {b:β} (h:x.bind f=some b):∃a,Aside0 (x=some a)∧f a=some b:=by
  obtain⟨a,h1,h2⟩:=Option.bind_eq_some_iff.mp h
  exact⟨a,⟨h1⟩,h2⟩
theorem ip_ {α:Type} {c:Prop} [Decidable c] {x:Option α} {r:α} (h:(if c then x else none)=some r):c∧x=some r:=by
  by_cases k:c
  · rw[if_pos k]at h
    exact⟨k,h⟩
  · rw[if_neg k]at h
    cases h
theorem eq2_ {α:Type} [BEq α] [LawfulBEq α] {a b:α} (h:a=b):(a==b)=true∧(a != b)=false:=⟨beq_iff_eq.mpr h,bne_eq_false_iff_eq.mpr h⟩
theorem ne2_ {α:Type} [BEq α] [LawfulBEq α] {a b:α} (h:¬a=b):(a==b)=false∧(a != b)=true:=⟨beq_eq_false_iff_ne.mpr h,bne_iff_ne.mpr h⟩
theorem purw_ {P:Program} {ops:Array Oper} {Q:Exit→Act→World→Prop} {md:Region.Mode} {S:World→Prop} {ds:List Nat} {T:Bool × List (List Nat × List Nat)} {oi:Oper} {fuel:Nat} {l:Array Bool} {a a':Act} {w:World} (i N:Nat) (l':Array Bool) (HT:Aside0 (rtab md ops=T)) (h:wpAnyLast P md ops Q S ds fuel l' a' w) (hi:ops[i]?=some oi:=by rfl) (hN:oi.dst=some N:=by rfl) (hc:anyT T l.toList l'.toList i=true:=by kernel_rfl) (hw:Region.wanted oi (yielded ops a.tmps)=false:=by rfl) (ha:a.put (some N) undef=a':=by simp only[Act.put,sA_,sB_,sC_,i64_w,i32_w];rfl) (hQ:∀c a w,Q (.panic c) (a.put oi.dst undef) w→Q (.panic c) a w:=by exact fun _ _ _ h=>h):wpAnyLast P md ops Q S ds (fuel+1) l a w:=pure_ l' hi hN (any_of HT.out hc) hQ (Or.inr ⟨hw,rfl⟩) ha h
theorem pury_ {P:Program} {ops:Array Oper} {Q:Exit→Act→World→Prop} {md:Region.Mode} {S:World→Prop} {ds:List Nat} {T:Bool × List (List Nat × List Nat)} {oi:Oper} {v:Value} {fuel:Nat} {l:Array Bool} {a a':Act} {w:World} (i N:Nat) (l':Array Bool) (HT:Aside0 (rtab md ops=T)) (h:wpAnyLast P md ops Q S ds fuel l' a' w) (hi:ops[i]?=some oi:=by rfl) (hN:oi.dst=some N:=by rfl) (hc:anyT T l.toList l'.toList i=true:=by kernel_rfl) (hw:Region.wanted oi (yielded ops a.tmps)=true:=by rfl) (hv:∀w,(execOp a.eval oi).run P w= .ok (.value v) w:=by intro w';go_simp;with_reducible rfl) (ha:a.put (some N) v=a':=by simp only[Act.put,List.setIfInBounds_toArray,List.set_cons_zero,List.set_cons_succ,i64_w,i32_w];rfl) (hQ:∀c a w,Q (.panic c) (a.put oi.dst v) w→Q (.panic c) a w:=by exact fun _ _ _ h=>h):wpAnyLast P md ops Q S ds (fuel+1) l a w:=pure_ l' hi hN (any_of HT.out hc) hQ (Or.inl ⟨hw,hv⟩) ha h
theorem purz_ {P:Program} {ops:Array Oper} {Q:Exit→Act→World→Prop} {md:Region.Mode} {S:World→Prop} {ds:List Nat} {T:Bool × List (List Nat × List Nat)} {oi:Oper} {v:Value} {fuel:Nat} {l:Array Bool} {a a':Act} {w:World} (i N:Nat) (l':Array Bool) (HT:Aside0 (rtab md ops=T)) (h:wpAnyLast P md ops Q S ds fuel l' a' w) (hi:ops[i]?=some oi:=by rfl) (hN:oi.dst=some N:=by rfl) (hc:anyT T l.toList l'.toList i=true:=by kernel_rfl) (hw:Region.wanted oi (yielded ops a.tmps)=true:=by rfl) (hv:∀w,(execOp a.eval oi).run P w= .ok (.value v) w:=by intro w';go_simp;with_reducible rfl) (ha:a.put (some N) v=a':=by simp only[Act.put,sA_,sB_,sC_,i64_w,i32_w];rfl) (hQ:∀c a w,Q (.panic c) (a.put oi.dst v) w→Q (.panic c) a w:=by exact fun _ _ _ h=>h):wpAnyLast P md ops Q S ds (fuel+1) l a w:=pure_ l' hi hN (any_of HT.out hc) hQ (Or.inl ⟨hw,hv⟩) ha h
theorem taky16_ {P:Program} {ops:Array Oper} {Q:Exit→Act→World→Prop} {md:Region.Mode} {S:World→Prop} {ds:List Nat} {T:Bool × List (List Nat × List Nat)} {oi:Oper} {v:Value} {fuel:Nat} {l:Array Bool} {a a':Act} {w:World} {B:List Nat} (i N:Nat) (l':Array Bool) (HT:Aside0 (rtab md ops=T)) (HW:Aside0 (waitsOk T.2 B=true)) (hS:S w) (h:wpAnyLast P md ops Q S ds fuel l' a' w) (hi:ops[i]?=some oi:=by rfl) (hN:oi.dst=some N:=by rfl) (hc:takeW T B ds l.toList l'.toList i=true:=by kernel_rfl) (hw:Region.wanted oi (yielded ops a.tmps)=true:=by rfl) (hv:∀w,S w→(execOp a.eval oi).run P w= .ok (.value v) w:=by rintro w' ⟨s0,s1,s2,s3,s4,s5,s6,s7,s8,s9,s10,s11,s12,s13,s14,s15⟩;go_simp;with_reducible rfl) (ha:a.put (some N) v=a':=by simp only[Act.put,List.setIfInBounds_toArray,List.set_cons_zero,List.set_cons_succ,i64_w,i32_w];rfl) (hQ:∀c a w,Q (.panic c) (a.put oi.dst v) w→Q (.panic c) a w:=by exact fun _ _ _ h=>h):wpAnyLast P md ops Q S ds (fuel+1) l a w:=take_ l' hi hN (take_ofW HT.out HW.out hc) hQ (Or.inl ⟨hw,hv⟩) hS ha h
theorem taky2_ {P:Program} {ops:Array Oper} {Q:Exit→Act→World→Prop} {md:Region.Mode} {S:World→Prop} {ds:List Nat} {T:Bool × List (List Nat × List Nat)} {oi:Oper} {v:Value} {fuel:Nat} {l:Array Bool} {a a':Act} {w:World} {B:List Nat} (i N:Nat) (l':Array Bool) (HT:Aside0 (rtab md ops=T)) (HW:Aside0 (waitsOk T.2 B=true)) (hS:S w) (h:wpAnyLast P md ops Q S ds fuel l' a' w) (hi:ops[i]?=some oi:=by rfl) (hN:oi.dst=some N:=by rfl) (hc:takeW T B ds l.toList l'.toList i=true:=by kernel_rfl) (hw:Region.wanted oi (yielded ops a.tmps)=true:=by rfl) (hv:∀w,S w→(execOp a.eval oi).run P w= .ok (.value v) w:=by rintro w' ⟨s0,s1⟩;go_simp;with_reducible rfl) (ha:a.put (some N) v=a':=by simp only[Act.put,List.setIfInBounds_toArray,List.set_cons_zero,List.set_cons_succ,i64_w,i32_w];rfl) (hQ:∀c a w,Q (.panic c) (a.put oi.dst v) w→Q (.panic c) a w:=by exact fun _ _ _ h=>h):wpAnyLast P md ops Q S ds (fuel+1) l a w:=take_ l' hi hN (take_ofW HT.out HW.out hc) hQ (Or.inl ⟨hw,hv⟩) hS ha h
theorem taky4_ {P:Program} {ops:Array Oper} {Q:Exit→Act→World→Prop} {md:Region.Mode} {S:World→Prop} {ds:List Nat} {T:Bool × List (List Nat × List Nat)} {oi:Oper} {v:Value} {fuel:Nat} {l:Array Bool} {a a':Act} {w:World} {B:List Nat} (i N:Nat) (l':Array Bool) (HT:Aside0 (rtab md ops=T)) (HW:Aside0 (waitsOk T.2 B=true)) (hS:S w) (h:wpAnyLast P md ops Q S ds fuel l' a' w) (hi:ops[i]?=some oi:=by rfl) (hN:oi.dst=some N:=by rfl) (hc:takeW T B ds l.toList l'.toList i=true:=by kernel_rfl) (hw:Region.wanted oi (yielded ops a.tmps)=true:=by rfl) (hv:∀w,S w→(execOp a.eval oi).run P w= .ok (.value v) w:=by rintro w' ⟨s0,s1,s2,s3⟩;go_simp;with_reducible rfl) (ha:a.put (some N) v=a':=by simp only[Act.put,List.setIfInBounds_toArray,List.set_cons_zero,List.set_cons_succ,i64_w,i32_w];rfl) (hQ:∀c a w,Q (.panic c) (a.put oi.dst v) w→Q (.panic c) a w:=by exact fun _ _ _ h=>h):wpAnyLast P md ops Q S ds (fuel+1) l a w:=take_ l' hi hN (take_ofW HT.out HW.out hc) hQ (Or.inl ⟨hw,hv⟩) hS ha h
theorem takz10_ {P:Program} {ops:Array Oper} {Q:Exit→Act→World→Prop} {md:Region.Mode} {S:World→Prop} {ds:List Nat} {T:Bool × List (List Nat × List Nat)} {oi:Oper} {v:Value} {fuel:Nat} {l:Array Bool} {a a':Act} {w:World} {B:List Nat} (i N:Nat) (l':Array Bool) (HT:Aside0 (rtab md ops=T)) (HW:Aside0 (waitsOk T.2 B=true)) (hS:S w) (h:wpAnyLast P md ops Q S ds fuel l' a' w) (hi:ops[i]?=some oi:=by rfl) (hN:oi.dst=some N:=by rfl) (hc:takeW T B ds l.toList l'.toList i=true:=by kernel_rfl) (hw:Region.wanted oi (yielded ops a.tmps)=true:=by rfl) (hv:∀w,S w→(execOp a.eval oi).run P w= .ok (.value v) w:=by rintro w' ⟨s0,s1,s2,s3,s4,s5,s6,s7,s8,s9⟩;go_simp;with_reducible rfl) (ha:a.put (some N) v=a':=by simp only[Act.put,sA_,sB_,sC_,i64_w,i32_w];rfl) (hQ:∀c a w,Q (.panic c) (a.put oi.dst v) w→Q (.panic c) a w:=by exact fun _ _ _ h=>h):wpAnyLast P md ops Q S ds (fuel+1) l a w:=take_ l' hi hN (take_ofW HT.out HW.out hc) hQ (Or.inl ⟨hw,hv⟩) hS ha h
theorem takz2_ {P:Program} {ops:Array Oper} {Q:Exit→Act→World→Prop} {md:Region.Mode} {S:World→Prop} {ds:List Nat} {T:Bool × List (List Nat × List Nat)} {oi:Oper} {v:Value} {fuel:Nat} {l:Array Bool} {a a':Act} {w:World} {B:List Nat} (i N:Nat) (l':Array Bool) (HT:Aside0 (rtab md ops=T)) (HW:Aside0 (waitsOk T.2 B=true)) (hS:S w) (h:wpAnyLast P md ops Q S ds fuel l' a' w) (hi:ops[i]?=some oi:=by rfl) (hN:oi.dst=some N:=by rfl) (hc:takeW T B ds l.toList l'.toList i=true:=by kernel_rfl) (hw:Region.wanted oi (yielded ops a.tmps)=true:=by rfl) (hv:∀w,S w→(execOp a.eval oi).run P w= .ok (.value v) w:=by rintro w' ⟨s0,s1⟩;go_simp;with_reducible rfl) (ha:a.put (some N) v=a':=by simp only[Act.put,sA_,sB_,sC_,i64_w,i32_w];rfl) (hQ:∀c a w,Q (.panic c) (a.put oi.dst v) w→Q (.panic c) a w:=by exact fun _ _ _ h=>h):wpAnyLast P md ops Q S ds (fuel+1) l a w:=take_ l' hi hN (take_ofW HT.out HW.out hc) hQ (Or.inl ⟨hw,hv⟩) hS ha h
theorem takz3_ {P:Program} {ops:Array Oper} {Q:Exit→Act→World→Prop} {md:Region.Mode} {S:World→Prop} {ds:List Nat} {T:Bool × List (List Nat × List Nat)} {oi:Oper} {v:Value} {fuel:Nat} {l:Array Bool} {a a':Act} {w:World} {B:List Nat} (i N:Nat) (l':Array Bool) (HT:Aside0 (rtab md ops=T)) (HW:Aside0 (waitsOk T.2 B=true)) (hS:S w) (h:wpAnyLast P md ops Q S ds fuel l' a' w) (hi:ops[i]?=some oi:=by rfl) (hN:oi.dst=some N:=by rfl) (hc:takeW T B ds l.toList l'.toList i=true:=by kernel_rfl) (hw:Region.wanted oi (yielded ops a.tmps)=true:=by rfl) (hv:∀w,S w→(execOp a.eval oi).run P w= .ok (.value v) w:=by rintro w' ⟨s0,s1,s2⟩;go_simp;with_reducible rfl) (ha:a.put (some N) v=a':=by simp only[Act.put,sA_,sB_,sC_,i64_w,i32_w];rfl) (hQ:∀c a w,Q (.panic c) (a.put oi.dst v) w→Q (.panic c) a w:=by exact fun _ _ _ h=>h):wpAnyLast P md ops Q S ds (fuel+1) l a w:=take_ l' hi hN (take_ofW HT.out HW.out hc) hQ (Or.inl ⟨hw,hv⟩) hS ha h
theorem takz4_ {P:Program} {ops:Array Oper} {Q:Exit→Act→World→Prop} {md:Region.Mode} {S:World→Prop} {ds:List Nat} {T:Bool × List (List Nat × List Nat)} {oi:Oper} {v:Value} {fuel:Nat} {l:Array Bool} {a a':Act} {w:World} {B:List Nat} (i N:Nat) (l':Array Bool) (HT:Aside0 (rtab md ops=T)) (HW:Aside0 (waitsOk T.2 B=true)) (hS:S w) (h:wpAnyLast P md ops Q S ds fuel l' a' w) (hi:ops[i]?=some oi:=by rfl) (hN:oi.dst=some N:=by rfl) (hc:takeW T B ds l.toList l'.toList i=true:=by kernel_rfl) (hw:Region.wanted oi (yielded ops a.tmps)=true:=by rfl) (hv:∀w,S w→(execOp a.eval oi).run P w= .ok (.value v) w:=by rintro w' ⟨s0,s1,s2,s3⟩;go_simp;with_reducible rfl) (ha:a.put (some N) v=a':=by simp only[Act.put,sA_,sB_,sC_,i64_w,i32_w];rfl) (hQ:∀c a w,Q (.panic c) (a.put oi.dst v) w→Q (.panic c) a w:=by exact fun _ _ _ h=>h):wpAnyLast P md ops Q S ds (fuel+1) l a w:=take_ l' hi hN (take_ofW HT.out HW.out hc) hQ (Or.inl ⟨hw,hv⟩) hS ha h
theorem nc_ {w1:World} {a:Addr} {v:Value} {g:Nat} (h:w1.cell? a=some v) (G:Aside0 (w1.heap.size≤g)):a.block≠g:=Nat.ne_of_lt (Nat.lt_of_lt_of_le (World.block_lt_of_cell? _ _ h) G.out)
theorem cf4_ {w0 W:World} {a:Addr} {v v0 u1 u2 u3 u4:Value} {g i j k l:Nat} (h0:w0.cell? a=some v0) (G:Aside0 (w0.heap.size≤g)) (h:W.cell? a=some v):((((W.setCell ⟨g,i,none⟩ u1).setCell ⟨g,j,none⟩ u2).setCell ⟨g,k,none⟩ u3).setCell ⟨g,l,none⟩ u4).cell? a=some v:=((cell_far (p:=⟨g,_,none⟩) (nc_ h0 G) _).trans ((cell_far (p:=⟨g,_,none⟩) (nc_ h0 G) _).trans ((cell_far (p:=⟨g,_,none⟩) (nc_ h0 G) _).trans ((cell_far (p:=⟨g,_,none⟩) (nc_ h0 G) _).trans h))))
theorem bp0_ {w:World} {g:Nat} {t:TypeId} {a b c d x:Value} (h:w.heap[g]?=some (.cells #[a,b,c,d] t (0,0))):(w.setCell ⟨g,0,none⟩ x).heap[g]?=some (.cells #[x,b,c,d] t (0,0)):=blk_put h 0 x rfl
theorem bp1_ {w:World} {g:Nat} {t:TypeId} {a b c d x:Value} (h:w.heap[g]?=some (.cells #[a,b,c,d] t (0,0))):(w.setCell ⟨g,1,none⟩ x).heap[g]?=some (.cells #[a,x,c,d] t (0,0)):=blk_put h 1 x rfl
theorem bp2_ {w:World} {g:Nat} {t:TypeId} {a b c d x:Value} (h:w.heap[g]?=some (.cells #[a,b,c,d] t (0,0))):(w.setCell ⟨g,2,none⟩ x).heap[g]?=some (.cells #[a,b,x,d] t (0,0)):=blk_put h 2 x rfl
theorem bp3_ {w:World} {g:Nat} {t:TypeId} {a b c d x:Value} (h:w.heap[g]?=some (.cells #[a,b,c,d] t (0,0))):(w.setCell ⟨g,3,none⟩ x).heap[g]?=some (.cells #[a,b,c,x] t (0,0)):=blk_put h 3 x rfl
theorem bf_ {w:World} {g g' i:Nat} {t:TypeId} {cs:Array Value} {u:Value} (n:Aside0 (g≠g')) (h:w.heap[g]?=some (.cells cs t (0,0))):(w.setCell ⟨g',i,none⟩ u).heap[g]?=some (.cells cs t (0,0)):=blk_far h n.out u
theorem bb_ {w0 W:World} {g:Nat} {o o':Obj} (h:Aside0 (w0.heap[g]?=some o)) (p:w0.heap[g]?=some o→W.heap[g]?=some o':=by intro hx_;(with_reducible repeat(first|refine blk_drewN ?_ _|refine blk_drew ?_|refine blk_alloc ?_ _|apply bp3_|apply bp2_|apply bp1_|apply bp0_|(apply bf_;assumption)));exact hx_):W.heap[g]?=some o':=p h.out
theorem bk_ {w0 W w':World} {g:Nat} {o o':Obj} (h:Aside0 (w0.heap[g]?=some o)) (hb:Below W.heap.size W w') (p:w0.heap[g]?=some o→W.heap[g]?=some o':=by intro hx_;(with_reducible repeat(first|refine blk_drewN ?_ _|refine blk_drew ?_|refine blk_alloc ?_ _|apply bp3_|apply bp2_|apply bp1_|apply bp0_|(apply bf_;assumption)));exact hx_):Aside0 (w'.heap[g]?=some o'):=⟨blk_below (p h.out) hb⟩
theorem gM_ {P:Program} {ops:Array Oper} {Q:Exit→Act→World→Prop} {rest:List Oper} {oi:Oper} {a:Act} {w:World} {f:FuncId} (N:Option Tmp) {fn:Func} (hf:P.funcs[f]?=some fn) {args:Array Value} {v:Value} {R:World→Prop} (hc:Calls P f args w fun e w'=>e=Ending.returned v∧R w') (k:∀w',R w'→wpList P ops Q rest (a.put N v) w') {ar:Array Operand} {ts:Array TypeId} (h0:oi.op=Op.call {callee:=Callee.value (Operand.func f),args:=ar,argTypes:=ts}:=by with_reducible rfl) (h1:oi.dst=N:=by rfl) (h2:oi.guard=none:=by rfl) (h3:(fn.name== "runtime.NumGoroutine")=false:=by kernel_rfl) (h4:fn.body.isSome=true:=by rfl) (h5:ar.map a.eval=args:=by(try simp only[List.map_toArray,List.map_cons,List.map_nil]);first|done|rfl|(simp only[List.length_drop,List.length_take];rfl)):wpList P ops Q (oi::rest) a w:=goesL_ N h1 h2 hf h3 h4 args h0 h5 (hc.mono fun _ w' h=>⟨v,h.1,k w' h.2⟩)
theorem gE_ {P:Program} {ops:Array Oper} {Q:Exit→Act→World→Prop} {rest:List Oper} {oi:Oper} {a:Act} {w:World} {f:FuncId} (N:Option Tmp) {fn:Func} (hf:P.funcs[f]?=some fn) {args:Array Value} {α:Type} {g:α→Value} {R:α→World→Prop} (hc:Calls P f args w fun e w'=>∃v,e=Ending.returned (g v)∧R v w') (k:∀v w',R v w'→wpList P ops Q rest (a.put N (g v)) w') {ar:Array Operand} {ts:Array TypeId} (h0:oi.op=Op.call {callee:=Callee.value (Operand.func f),args:=ar,argTypes:=ts}:=by with_reducible rfl) (h1:oi.dst=N:=by rfl) (h2:oi.guard=none:=by rfl) (h3:(fn.name== "runtime.NumGoroutine")=false:=by kernel_rfl) (h4:fn.body.isSome=true:=by rfl) (h5:ar.map a.eval=args:=by(try simp only[List.map_toArray,List.map_cons,List.map_nil]);first|done|rfl|(simp only[List.length_drop,List.length_take];rfl)):wpList P ops Q (oi::rest) a w:=goesL_ N h1 h2 hf h3 h4 args h0 h5 (hc.mono fun _ w' ⟨v,h1,h2⟩=>⟨g v,h1,k v w' h2⟩)
theorem gc_ {P:Program} {ops:Array Oper} {rest:List Oper} {o:Oper} {a:Act} {Q:Exit→Act→World→Prop} {W:World} (f:FuncId) {ar:Array Operand} {ts:Array TypeId} (ho:o.op= .call {callee:= .value (.func f),args:=ar,argTypes:=ts}) (h:wpList P ops Q (o::rest) a W):wpList P ops Q (o::rest) a W:=h
theorem gd_ {P:Program} {ops:Array Oper} {rest:List Oper} {o:Oper} {a:Act} {Q:Exit→Act→World→Prop} {W:World} (N:Tmp) (hN:o.dst=some N) (h:wpList P ops Q (o::rest) a W):wpList P ops Q (o::rest) a W:=h
theorem ZB {P:Prop} (h:P:=by repeat(first|(with_reducible first|exact HB.1|apply below_alloc|apply pw_below_drewN|apply below_drew1|refine below_set ?_ GEoa.1|refine below_set ?_ GEob.1|refine below_set ?_ GEoc.1|refine below_set ?_ GEod.1|refine below_set ?_ GEoe.1|refine below_set ?_ GEof.1|refine below_set ?_ GEog.1|refine below_set ?_ GEoh.1|refine below_set ?_ (IsS58.ge HI0.1)|refine below_set ?_ (IsS58.ge HIoa.1))|exact HB.1)):P:=h
theorem bw_ {w W w':World} (hb:Below W.heap.size W w') (p:Below w.heap.size w W:=by repeat(first|(with_reducible first|exact HB.1|apply below_alloc|apply pw_below_drewN|apply below_drew1|refine below_set ?_ GEoa.1|refine below_set ?_ GEob.1|refine below_set ?_ GEoc.1|refine below_set ?_ GEod.1|refine below_set ?_ GEoe.1|refine below_set ?_ GEof.1|refine below_set ?_ GEog.1|refine below_set ?_ GEoh.1|refine below_set ?_ (IsS58.ge HI0.1)|refine below_set ?_ (IsS58.ge HIoa.1))|exact HB.1)):Aside0 (Below w.heap.size w w'):=⟨below_step p hb⟩
theorem gG_ {w W:World} {g:Nat} (hg:g=W.heap.size) (p:Below w.heap.size w W:=by repeat(first|(with_reducible first|exact HB.1|apply below_alloc|apply pw_below_drewN|apply below_drew1|refine below_set ?_ GEoa.1|refine below_set ?_ GEob.1|refine below_set ?_ GEoc.1|refine below_set ?_ GEod.1|refine below_set ?_ GEoe.1|refine below_set ?_ GEof.1|refine below_set ?_ GEog.1|refine below_set ?_ GEoh.1|refine below_set ?_ (IsS58.ge HI0.1)|refine below_set ?_ (IsS58.ge HIoa.1))|exact HB.1)):Aside0 (w.heap.size≤g):=gw_ p hg
theorem zs_ {w W:World} (p:Below w.heap.size w W:=by repeat(first|(with_reducible first|exact HB.1|apply below_alloc|apply pw_below_drewN|apply below_drew1|refine below_set ?_ GEoa.1|refine below_set ?_ GEob.1|refine below_set ?_ GEoc.1|refine below_set ?_ GEod.1|refine below_set ?_ GEoe.1|refine below_set ?_ GEof.1|refine below_set ?_ GEog.1|refine below_set ?_ GEoh.1|refine below_set ?_ (IsS58.ge HI0.1)|refine below_set ?_ (IsS58.ge HIoa.1))|exact HB.1)):w.heap.size≤W.heap.size:=below_size p
theorem mo_ {P:Prop} (h:P:=by repeat' first|(with_reducible exact LeO.refl _)|(with_reducible exact LeO.none _)|(with_reducible refine LeO.ite ?_ ?_)|(with_reducible refine LeO.bind ?_ (fun _=>?_))|(with_reducible apply ih0)|(with_reducible apply ih1)|(with_reducible apply ih2)|(with_reducible apply ih3)|(with_reducible apply ih4)|(with_reducible apply ih5)|(with_reducible apply ih6)|(with_reducible apply ih7)|(with_reducible apply ih8)|(with_reducible apply ih9)|(with_reducible apply ih10)|(with_reducible apply impl_CircleText.mono)|(with_reducible apply impl_CirclesUpTo.mono)|(with_reducible apply impl_CountUpTo.mono)|(with_reducible apply impl_CurvaturesOf.mono)|(with_reducible apply impl_CurvaturesUpTo.mono)|(with_reducible apply impl_DownPath.mono)|(with_reducible apply impl_IsQuad.mono)|(with_reducible apply impl_ParseCircle.mono)|(with_reducible apply impl_RootQuad.mono)|(with_reducible apply impl_TouchingPairs.mono)|(with_reducible apply impl_circles.mono)|(with_reducible apply impl_curvatures.mono)|(with_reducible apply impl_dot.mono)|(with_reducible apply impl_down.mono)|(with_reducible apply impl_greatest.mono)|(with_reducible apply impl_isConfig.mono)|(with_reducible apply impl_isRoot.mono)|(with_reducible apply impl_packed.mono)|(with_reducible apply impl_packed.mono_l)|(with_reducible apply impl_sumOf.mono)|(with_reducible apply impl_swapped.mono)|(with_reducible apply impl_touching.mono)|(with_reducible apply impl_words.mono)|(with_reducible apply laws_dCircles.mono)|(with_reducible apply laws_dHas.mono)|(with_reducible apply laws_dLess.mono)|(with_reducible apply laws_dLists.mono)|(with_reducible apply laws_dSame.mono)|(with_reducible apply slices_Index_int_int.mono)|(with_reducible apply spec_CircleText.mono)|(with_reducible apply spec_CirclesUpTo.mono)|(with_reducible apply spec_DrawCircleText.mono)|(with_reducible apply spec_DrawCirclesUpTo.mono)|(with_reducible apply spec_DrawIsCircle.mono)|(with_reducible apply spec_DrawParseCircle.mono)|(with_reducible apply spec_DrawTouchingPairs.mono)|(with_reducible apply spec_FollowCircles.mono)|(with_reducible apply spec_ParseCircle.mono)|(with_reducible apply spec_ShiftCircle.mono)|(with_reducible apply spec_TouchingPairs.mono)|(with_reducible apply spec_apDown.mono)|(with_reducible apply spec_apGood.mono)|(with_reducible apply spec_apSorted.mono)|(with_reducible apply spec_ciConfig.mono)|(with_reducible apply spec_ciCurvatures.mono)|(with_reducible apply spec_ciFour.mono)|(with_reducible apply spec_ciGood.mono)|(with_reducible apply spec_ciIf.mono)|(with_reducible apply spec_ciNumber.mono)|(with_reducible apply spec_ciRead.mono)|(with_reducible apply spec_ciSwap.mono)|(with_reducible apply spec_ciText.mono)|(with_reducible apply spec_l1All.mono)|(with_reducible apply spec_l1Cur_circle.mono)|(with_reducible apply spec_l1Cur_config.mono)|(with_reducible apply spec_l1Cur_spoilt.mono)|(with_reducible apply spec_l1Num.mono)|(with_reducible apply spec_l1Split.mono)|refine LeO.ite ?_ ?_|refine LeO.bind ?_ (fun _=>?_)):P:=h
theorem Z1 {P Q:Prop} (a:Aside0 Q) (p:Aside0 Q→P:=by intro hx_;(with_reducible repeat(first|apply Kd.R_alloc|apply Kd.R_drewN|apply Kd.R_drew));exact hx_.out):P:=p a
theorem Z2 {P Q:Prop} (a:Aside0 Q) (p:Aside0 Q→P:=by intro hx_;repeat(first|(with_reducible first|exact hx_.out|apply IsS58.alloc|apply IsS58.drewN|apply IsS58.drew|apply IsS58.set_1|apply IsS58.set_2)|exact hx_.out)):P:=p a
theorem Z3 {P Q R:Prop} (a:Aside0 Q) (b:Aside0 R) (p:Aside0 Q→Aside0 R→P:=by intro hx_ hy_;first|exact Kd.own_blk (Kd.R_ne hx_.out hy_.out (by decide))|(rw[add_block];exact Kd.own_blk (Kd.R_ne hx_.out hy_.out (by decide)))|(show(Addr.add _ _).block≠_;rw[add_block];exact Kd.own_blk (Kd.R_ne hx_.out hy_.out (by decide)))|(dsimp only;exact Kd.own_blk (Kd.R_ne hx_.out hy_.out (by decide)))):P:=p a b
theorem Z4 {P:Prop} (h:P:=by repeat(first|(with_reducible first|exact HK.1|apply KeepBut.set_|apply keep_drewN|apply keep_drew|apply keep_alloc)|exact HK.1)):P:=h
theorem Z5 {P:Prop} (h:P:=by first|(with_reducible assumption)|assumption):P:=h
theorem Z6 {P:Prop} (h:P:=by first|rfl|(simp[errW_none,errW_some]<;>rfl)|(simp[*,errW_none,errW_some]<;>rfl)):P:=h
theorem Z7 {P:Prop} (h:P:=by first|rfl|(simp;done)|(simp[*];done)):P:=h
theorem Z8 {P:Prop} (h:P:=by first|(rw[hy_a];with_reducible exact H)|(have H2_:=(Option.bind_some _ _).symm.trans H;rw[hy_a];with_reducible exact H2_)|(have H2_:=(Option.bind_some _ _).symm.trans H;with_reducible exact H2_)|with_reducible exact H|(rw[hy_a];exact H)|exact H):P:=h
theorem Z9 {P Q:Prop} (a:Aside0 Q) (p:Aside0 Q→P:=by intro hx_;repeat(first|(with_reducible exact hx_.out)|(with_reducible refine Kd.C_alloc ?_ _)|(with_reducible refine Kd.C_drewN ?_ _)|(with_reducible refine Kd.C_drew ?_)|exact hx_.out)):P:=p a
theorem Z10 {P Q:Prop} (a:Aside0 Q) (p:Aside0 Q→P:=by intro hx_;repeat(first|exact(Kd.R_reads' hx_.out).2.2|(with_reducible refine Kd.C_alloc ?_ _)|(with_reducible refine Kd.C_drewN ?_ _)|(with_reducible refine Kd.C_drew ?_))):P:=p a
theorem Z11 {P Q:Prop} (a:Aside0 Q) (p:Aside0 Q→P:=by intro hx_;repeat(first|exact hx_.out|(with_reducible refine Kd.C_alloc ?_ _)|(with_reducible refine Kd.C_drewN ?_ _)|(with_reducible refine Kd.C_drew ?_))):P:=p a
theorem Z12 {P Q:Prop} (a:Aside0 Q) (p:Aside0 Q→P:=by intro hx_;(with_reducible repeat(first|apply Kd.S_alloc|apply Kd.S_drewN|apply Kd.S_drew));exact hx_.out):P:=p a
theorem Z13 {P:Prop} (h:P:=by repeat(first|(with_reducible first|exact HK.1|apply KeepBut.set_|apply keep_drewN|apply keep_drew|apply keep_alloc|refine keep_far ?_ GWob.1 _|refine keep_far ?_ GWoc.1 _)|exact HK.1)):P:=h
theorem Z14 {P:Prop} (h:P:=by first|(rw[hy_b];with_reducible exact H)|(have H2_:=(Option.bind_some _ _).symm.trans H;rw[hy_b];with_reducible exact H2_)|(have H2_:=(Option.bind_some _ _).symm.trans H;with_reducible exact H2_)|with_reducible exact H|(rw[hy_b];exact H)|exact H):P:=h
theorem Z15 {P Q:Prop} (a:Aside0 Q) (p:Aside0 Q→P:=by intro hx_;repeat(first|exact(Kd.C_below hx_.out HB.1)|(with_reducible refine Kd.C_alloc ?_ _)|(with_reducible refine Kd.C_drewN ?_ _)|(with_reducible refine Kd.C_drew ?_))):P:=p a
theorem Z16 {P:Prop} (h:P:=by repeat(first|exact Drawn0.refl _|apply Drawn0.step)):P:=h
theorem Z17 {P Q:Prop} (a:Aside0 Q) (p:Aside0 Q→P:=by intro hx_;(with_reducible repeat(first|apply Kd.V_alloc|apply Kd.V_drewN|apply Kd.V_drew));exact hx_.out):P:=p a
theorem Z18 {P:Prop} (h:P:=by(try simp only[List.map_toArray,List.map_cons,List.map_nil]);first|done|rfl|(simp only[List.length_drop,List.length_take];rfl)):P:=h
theorem Z19 {P:Prop} (h:P:=by kernel_rfl):P:=h
theorem Z20 {P Q:Prop} (a:Aside0 Q) (p:Aside0 Q→P:=by intro hx_;(with_reducible repeat(first|apply Kd.R_alloc|apply Kd.R_drewN|apply Kd.R_drew));exact Kd.R_mono hx_.out (fun _ hk=>trivial)):P:=p a
theorem Z21 {P Q:Prop} (a:Aside0 Q) (p:Aside0 Q→P:=by intro hx_;(with_reducible repeat(first|apply Kd.R_alloc|apply Kd.R_drewN|apply Kd.R_drew));exact(Kd.R_mono (Kd.R_far (p:=⟨gboa,3,none⟩) (Kd.R_far (p:=⟨gboa,2,none⟩) (Kd.R_far (p:=⟨gboa,1,none⟩) (Kd.R_far (p:=⟨gboa,0,none⟩) (Kd.R_mono hx_.out (fun k_ hk=>(⟨hk,hk.2⟩:_∧k_≠gboa))) (fun _ hk=>hk.2) (.int .i64 ((rd_T37 t733 x111_3).f0))) (fun _ hk=>hk.2) (.int .i64 ((rd_T37 t733 x111_3).f1))) (fun _ hk=>hk.2) (.int .i64 ((rd_T37 t733 x111_3).f2))) (fun _ hk=>hk.2) (.int .i64 ((rd_T37 t733 x111_3).f3))) (fun _ h_=>h_.1))):P:=p a
theorem Z22 {P Q R:Prop} (a:Aside0 Q) (b:Aside0 R) (p:Aside0 Q→Aside0 R→P:=by intro hx_ hy_;(with_reducible repeat(first|apply Kd.R_alloc|apply Kd.R_drewN|apply Kd.R_drew));exact(Kd.R_mono (Kd.R_far (p:=⟨gbob,3,none⟩) (Kd.R_far (p:=⟨gbob,2,none⟩) (Kd.R_far (p:=⟨gbob,1,none⟩) (Kd.R_far (p:=⟨gbob,0,none⟩) (Kd.R_types hx_.out hy_.out (by decide)) (fun _ hk=>hk.2) (.int .i64 (rd x4_1 0))) (fun _ hk=>hk.2) (.int .i64 (rd x4_1 1))) (fun _ hk=>hk.2) (.int .i64 (rd x4_1 2))) (fun _ hk=>hk.2) (.int .i64 (rd x4_1 3))) (fun _ h_=>h_.1))):P:=p a b
theorem Z23 {P:Prop} (h:P:=by first|exact Kd.R_nil _ _ _ _ _|exact Kd.N_nil _ _ _ _ _|exact Kd.V_nil _ _ _ _ _|exact Kd.Q_nil _ _ _ _ _|exact Kd.S_nil _ _ _ _ _):P:=h
theorem Z24 {P:Prop} (h:P:=by first|(rw[hy_c];with_reducible exact H)|(have H2_:=(Option.bind_some _ _).symm.trans H;rw[hy_c];with_reducible exact H2_)|(have H2_:=(Option.bind_some _ _).symm.trans H;with_reducible exact H2_)|with_reducible exact H|(rw[hy_c];exact H)|exact H):P:=h
theorem Z25 {P:Prop} (h:P:=by repeat(first|(with_reducible first|exact HK.1|apply KeepBut.set_|apply keep_drewN|apply keep_drew|apply keep_alloc|refine keep_far ?_ GWob.1 _)|exact HK.1)):P:=h
theorem Z26 {P Q:Prop} (a:Aside0 Q) (p:Aside0 Q→P:=by intro hx_;repeat(first|exact(Kd.V_reads' hx_.out).2.2|(with_reducible refine Kd.C_alloc ?_ _)|(with_reducible refine Kd.C_drewN ?_ _)|(with_reducible refine Kd.C_drew ?_))):P:=p a
theorem Z27 {P Q:Prop} (a:Aside0 Q) (p:Aside0 Q→P:=by intro hx_;(with_reducible repeat(first|apply Kd.R_alloc|apply Kd.R_drewN|apply Kd.R_drew));exact(Kd.R_mono (Kd.R_far (p:=⟨gbob,3,none⟩) (Kd.R_far (p:=⟨gbob,2,none⟩) (Kd.R_far (p:=⟨gbob,1,none⟩) (Kd.R_far (p:=⟨gbob,0,none⟩) (Kd.R_mono hx_.out (fun k_ hk=>(⟨hk,hk.2⟩:_∧k_≠gbob))) (fun _ hk=>hk.2) (.int .i64 ((rd_T37 x3_1 x42_2).f0))) (fun _ hk=>hk.2) (.int .i64 ((rd_T37 x3_1 x42_2).f1))) (fun _ hk=>hk.2) (.int .i64 ((rd_T37 x3_1 x42_2).f2))) (fun _ hk=>hk.2) (.int .i64 ((rd_T37 x3_1 x42_2).f3))) (fun _ h_=>h_.1))):P:=p a
theorem Z28 {P:Prop} (h:P:=by first|(simp only[putAll,Act.put,sA_,sB_,sC_];done)|(simp only[putAll,Act.put,sA_,sB_,sC_];rfl)):P:=h
theorem Z29 {P Q:Prop} (a:Aside0 Q) (p:Aside0 Q→P:=by intro hx_;(with_reducible repeat(first|apply Kd.N_alloc|apply Kd.N_drewN|apply Kd.N_drew));exact hx_.out):P:=p a
theorem Z30 {P Q:Prop} (a:Aside0 Q) (p:Aside0 Q→P:=by intro hx_;(with_reducible repeat(first|apply Kd.R_alloc|apply Kd.R_drewN|apply Kd.R_drew));exact Kd.R_mono hx_.out (fun _ hk=>hk.2)):P:=p a
theorem Z31 {P:Prop} (h:P:=by assumption):P:=h
theorem Z32 {P Q:Prop} (a:Aside0 Q) (p:Aside0 Q→P:=by intro hx_;(with_reducible repeat(first|apply Kd.R_alloc|apply Kd.R_drewN|apply Kd.R_drew));exact Kd.R_mono hx_.out (fun _ hk=>hk.1)):P:=p a
theorem Z33 {P:Prop} (h:P:=by first|exact Kd.S_nil _ _ _ _ _|exact Kd.N_nil _ _ _ _ _|exact Kd.V_nil _ _ _ _ _|exact Kd.Q_nil _ _ _ _ _|exact Kd.R_nil _ _ _ _ _):P:=h
theorem Z34 {P:Prop} (h:P:=by have:=HK1.1;omega):P:=h
theorem Z35 {P:Prop} (h:P:=by first|omega|exact Nat.le_refl _):P:=h
theorem Z36 {P:Prop} (h:P:=by first|(rw[hy_d];with_reducible exact H)|(have H2_:=(Option.bind_some _ _).symm.trans H;rw[hy_d];with_reducible exact H2_)|(have H2_:=(Option.bind_some _ _).symm.trans H;with_reducible exact H2_)|with_reducible exact H|(rw[hy_d];exact H)|exact H):P:=h
theorem Z37 {P:Prop} (h:P:=by(with_reducible repeat(first|apply Kd.R_alloc|apply Kd.R_drewN|apply Kd.R_drew));exact(Kd.R_mono (Kd.R_far (p:=⟨gboa,3,none⟩) (Kd.R_far (p:=⟨gboa,2,none⟩) (Kd.R_far (p:=⟨gboa,1,none⟩) (Kd.R_far (p:=⟨gboa,0,none⟩) (Kd.R_types HO_15.1 BKoa.1 (by decide)) (fun _ hk=>hk.2) (.int .i64 ((rd_T37 t733 x111_3).f0))) (fun _ hk=>hk.2) (.int .i64 ((rd_T37 t733 x111_3).f1))) (fun _ hk=>hk.2) (.int .i64 ((rd_T37 t733 x111_3).f2))) (fun _ hk=>hk.2) (.int .i64 ((rd_T37 t733 x111_3).f3))) (fun _ h_=>h_.1))):P:=h
theorem Z38 {P Q:Prop} (a:Aside0 Q) (p:Aside0 Q→P:=by intro hx_;(with_reducible repeat(first|apply Kd.V_alloc|apply Kd.V_drewN|apply Kd.V_drew));exact Kd.V_mono (Kd.V_far (p:=⟨gboa,3,none⟩) (Kd.V_far (p:=⟨gboa,2,none⟩) (Kd.V_far (p:=⟨gboa,1,none⟩) (Kd.V_far (p:=⟨gboa,0,none⟩) (Kd.V_mono hx_.out (fun k_ hk=>(⟨hk,hk.2⟩:_∧k_≠gboa))) (fun _ hk=>hk.2) (.int .i64 ((rd_T37 l0 x41_3).f0))) (fun _ hk=>hk.2) (.int .i64 ((rd_T37 l0 x41_3).f1))) (fun _ hk=>hk.2) (.int .i64 ((rd_T37 l0 x41_3).f2))) (fun _ hk=>hk.2) (.int .i64 ((rd_T37 l0 x41_3).f3))) (fun _ hk=>⟨⟨hk.1.1.1,hk.1.2⟩,hk.1.1.2⟩)):P:=p a
theorem Z39 {P Q:Prop} (a:Aside0 Q) (p:Aside0 Q→P:=by intro hx_;(with_reducible repeat(first|apply Kd.V_alloc|apply Kd.V_drewN|apply Kd.V_drew));exact Kd.V_mono (Kd.V_far (p:=⟨gboa,3,none⟩) (Kd.V_far (p:=⟨gboa,2,none⟩) (Kd.V_far (p:=⟨gboa,1,none⟩) (Kd.V_far (p:=⟨gboa,0,none⟩) (Kd.V_mono hx_.out (fun k_ hk=>(⟨hk,hk.2⟩:_∧k_≠gboa))) (fun _ hk=>hk.2) (.int .i64 ((rd_T37 l0 x41_3).f0))) (fun _ hk=>hk.2) (.int .i64 ((rd_T37 l0 x41_3).f1))) (fun _ hk=>hk.2) (.int .i64 ((rd_T37 l0 x41_3).f2))) (fun _ hk=>hk.2) (.int .i64 ((rd_T37 l0 x41_3).f3))) (fun _ hk=>⟨hk.1.1.1,hk.1.1.2⟩)):P:=p a
theorem Z40 {P Q:Prop} (a:Aside0 Q) (p:Aside0 Q→P:=by intro hx_;(with_reducible repeat(first|apply Kd.R_alloc|apply Kd.R_drewN|apply Kd.R_drew));exact(Kd.R_mono (Kd.R_far (p:=⟨gbob,3,none⟩) (Kd.R_far (p:=⟨gbob,2,none⟩) (Kd.R_far (p:=⟨gbob,1,none⟩) (Kd.R_far (p:=⟨gbob,0,none⟩) (Kd.R_mono hx_.out (fun k_ hk=>(⟨hk,hk.2⟩:_∧k_≠gbob))) (fun _ hk=>hk.2) (.int .i64 ((rd_T37 y_a x136_5).f0))) (fun _ hk=>hk.2) (.int .i64 ((rd_T37 y_a x136_5).f1))) (fun _ hk=>hk.2) (.int .i64 ((rd_T37 y_a x136_5).f2))) (fun _ hk=>hk.2) (.int .i64 ((rd_T37 y_a x136_5).f3))) (fun _ h_=>h_.1))):P:=p a
theorem Z41 {P:Prop} (h:P:=by(with_reducible repeat(first|apply Kd.R_alloc|apply Kd.R_drewN|apply Kd.R_drew));exact(Kd.R_mono (Kd.R_far (p:=⟨gbob,3,none⟩) (Kd.R_far (p:=⟨gbob,2,none⟩) (Kd.R_far (p:=⟨gbob,1,none⟩) (Kd.R_far (p:=⟨gbob,0,none⟩) (Kd.R_types HOoc.1 BKob.1 (by decide)) (fun _ hk=>hk.2) (.int .i64 t718)) (fun _ hk=>hk.2) (.int .i64 t720)) (fun _ hk=>hk.2) (.int .i64 t722)) (fun _ hk=>hk.2) (.int .i64 t724)) (fun _ h_=>h_.1))):P:=h
theorem Z42 {P Q:Prop} (a:Aside0 Q) (p:Aside0 Q→P:=by intro hx_;(with_reducible repeat(first|apply Kd.R_alloc|apply Kd.R_drewN|apply Kd.R_drew));exact Kd.R_mono (Kd.R_far (p:=⟨gboc,3,none⟩) (Kd.R_far (p:=⟨gboc,2,none⟩) (Kd.R_far (p:=⟨gboc,1,none⟩) (Kd.R_far (p:=⟨gboc,0,none⟩) (Kd.R_mono hx_.out (fun k_ hk=>(⟨hk,hk.2⟩:_∧k_≠gboc))) (fun _ hk=>hk.2) (.int .i64 t183)) (fun _ hk=>hk.2) (.int .i64 t184)) (fun _ hk=>hk.2) (.int .i64 t185)) (fun _ hk=>hk.2) (.int .i64 t186)) (fun _ hk=>hk.1.1.1)):P:=p a
theorem Z43 {P Q R:Prop} (a:Aside0 Q) (b:Aside0 R) (p:Aside0 Q→Aside0 R→P:=by intro hx_ hy_;(with_reducible repeat(first|apply Kd.S_alloc|apply Kd.S_drewN|apply Kd.S_drew));exact(Kd.S_mono (Kd.S_far (p:=⟨gboc,3,none⟩) (Kd.S_far (p:=⟨gboc,2,none⟩) (Kd.S_far (p:=⟨gboc,1,none⟩) (Kd.S_far (p:=⟨gboc,0,none⟩) (Kd.S_types hx_.out hy_.out (by decide)) (fun _ hk=>hk.2) (.int .i64 t787)) (fun _ hk=>hk.2) (.int .i64 t788)) (fun _ hk=>hk.2) (.int .i64 t789)) (fun _ hk=>hk.2) (.int .i64 t790)) (fun _ h_=>h_.1))):P:=p a b
theorem Z44 {P Q:Prop} (a:Aside0 Q) (p:Aside0 Q→P:=by intro hx_;have:=hx_.out;first|omega|exact Nat.le_refl _):P:=p a
theorem Z45 {P:Prop} (h:P:=by have:=HK1.1;have:=HK2.1;omega):P:=h
theorem Z46 {P Q:Prop} (a:Aside0 Q) (p:Aside0 Q→P:=by intro hx_;(with_reducible repeat(first|apply Kd.R_alloc|apply Kd.R_drewN|apply Kd.R_drew));exact Kd.R_mono hx_.out (fun _ hk=>hk.1.2)):P:=p a
theorem Z47 {P:Prop} (h:P:=by have:=HK1.1;have:=HK2.1;have:=HK3.1;omega):P:=h
theorem Z48 {P Q:Prop} (a:Aside0 Q) (p:Aside0 Q→P:=by intro hx_;(with_reducible repeat(first|apply Kd.S_alloc|apply Kd.S_drewN|apply Kd.S_drew));exact Kd.S_mono hx_.out (fun _ hk=>trivial)):P:=p a
theorem Z49 {P:Prop} (h:P:=by have:=HJ2.1;have:=HJ10.1;have:=HK3.1;have:=HK4.1;have:=HK5.1;omega):P:=h
theorem Z50 {P:Prop} (h:P:=by have:=HJ7.1;have:=HJ22.1;have:=HK3.1;first|omega|exact Nat.le_refl _):P:=h
theorem Z51 {P:Prop} (h:P:=by repeat(first|(with_reducible first|exact HB2.1|apply below_alloc|apply pw_below_drewN|apply below_drew1)|exact HB2.1)):P:=h
theorem Z52 {P:Prop} (h:P:=by have:=HJ7.1;have:=HJ17.1;have:=HJ81.1;have:=HK4.1;first|omega|exact Nat.le_refl _):P:=h
theorem Z53 {P Q:Prop} (a:Aside0 Q) (p:Aside0 Q→P:=by intro hx_;repeat(first|exact(Kd.S_reads' hx_.out).2.2|(with_reducible refine Kd.C_alloc ?_ _)|(with_reducible refine Kd.C_drewN ?_ _)|(with_reducible refine Kd.C_drew ?_))):P:=p a
theorem Z54 {P:Prop} (h:P:=by simp only[putAll,Act.put,List.setIfInBounds_toArray,List.set_cons_zero,List.set_cons_succ]):P:=h
theorem Z55 {P:Prop} (h:P:=by first|rfl|go_num):P:=h
theorem Z56 {P:Prop} (h:P:=by first|(go_simp;done)|(go_simp;rfl)):P:=h
theorem Z57 {P Q:Prop} (a:Aside0 Q) (p:Aside0 Q→P:=by intro hx_;repeat(first|(with_reducible first|exact hx_.out|apply IsS58.alloc|apply IsS58.drewN|apply IsS58.drew|apply IsS58.set_1|apply IsS58.set_2|refine IsS58.far ?_ (Aside0.out Z31) _)|exact hx_.out)):P:=p a
theorem Z58 {P Q:Prop} (a:Aside0 Q) (p:Aside0 Q→P:=by intro hx_;repeat(first|exact(Z9 hx_)|(with_reducible refine Kd.C_alloc ?_ _)|(with_reducible refine Kd.C_drewN ?_ _)|(with_reducible refine Kd.C_drew ?_))):P:=p a
theorem Z59 {P:Prop} (h:P:=by first|exact q358|exact of_decide_eq_true Z5|(have e_:=(Kd.N_reads' HO_10.1).1;omega)):P:=h
theorem Z60 {P:Prop} (h:P:=by first|exact q359|exact of_decide_eq_true Z5|(have e_:=(Kd.N_reads' HO_10.1).1;omega)):P:=h
end Go.Proofs.YtmpofeilljmmiaaGreatDoor.P
