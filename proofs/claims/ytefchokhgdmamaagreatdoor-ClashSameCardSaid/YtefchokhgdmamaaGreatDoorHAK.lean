/-
  Shared texts of this claim.
-/
import Derived.Test.YtefchokhgdmamaaGreatDoorProg
import Derived.Test.YtefchokhgdmamaaGreatDoorHAA
import Derived.WalkKit
import Derived.WalkSpells
import Derived.Lib.SliceRun
import Derived.Lib.AppendZerosOnto
import Derived.Lib.JoinLaws
import Derived.Lib.Overlaps
import Derived.Laws.Externs
import Derived.Laws.IdiomCopy
import Derived.Below
import Derived.Lib.Walk
import Derived.Deep.LoopGhost
import Derived.Shelf.RegionOpenPlain
import Derived.Test.YtefchokhgdmamaaGreatDoorHAJ
set_option linter.unusedSimpArgs false
set_option linter.unusedVariables false
set_option maxRecDepth 100000
noncomputable section
namespace Rm
open Go Go.Proofs Cx Go.RowKit Go.Lib
theorem aah {P:Program}(w:World){o:Oper}{a:Act}{K:Act→World→Prop}{Q:Exit→Act→World→Prop}(d s:Operand)(t t':TypeId)
 (ho:o.op=.call {callee:=.builtin .copy,args:=#[d,s],argTypes:=#[t,t']}) (v u:Value) (hd:a.eval d=v) (hs:a.eval s=u) {v':Value} {w':World}
 (hr:(Builtin.copy_ #[t,t'] o.type #[v,u]).run P w=.ok v' w') (h:K (a.put o.dst v') w'):o.wp P a w K Q:=by
 unfold Oper.wp execOp;simp only[ho,resolve,invoke,builtin,Sem.run_bind,Sem.run_pure,Result.andThen_ok,List.map_toArray,gz,Av,hd,hs,hr];exact h
theorem RM {P:Program}(w:World){ops:Array Oper}{rest:List Oper}{o:Oper}{a:Act}{Q:Exit→Act→World→Prop}(gi:o.guard=none)(d s:Operand)(t t':TypeId)
 (ho:o.op=.call {callee:=.builtin .copy,args:=#[d,s],argTypes:=#[t,t']}) (v u:Value) (hd:a.eval d=v) (hs:a.eval s=u) {v':Value} {w':World}
 (hr:(Builtin.copy_ #[t,t'] o.type #[v,u]).run P w=.ok v' w') (h:wpList P ops Q rest (a.put o.dst v') w'):wpList P ops Q (o::rest) a w:=
 wpList_plain gi fun _ hK=>aah w d s t t' ho v u hd hs hr (hK _ _ h)
theorem al5 {P:Program}{ops:Array Oper}{o:Oper}{a:Act}{w:World}{K:Act→World→Prop}{Q:Exit→Act→World→Prop}{E:Prop}
 (hg:o.guard=none) (d x:Operand) (dT sT:TypeId) (bQ:o.op=Op.call {callee:=Callee.builtin Builtin.copy,args:=#[d,x],argTypes:=#[dT,sT]})
 (v u:Value) (hd:a.eval d=v) (hx:a.eval x=u) {v':Value} {w':World} (hr:(Builtin.copy_ #[dT,sT] o.type #[v,u]).run P w=.ok v' w') (hK:K (a.put o.dst v') w'):
 if Region.wanted o (yielded ops a.tmps)=true then Oper.wp P o a w K Q else E:=by
 have hw:Region.wanted o (yielded ops a.tmps)=true:=by simp[Region.wanted,hg]
 rw[if_pos hw];exact aah w d x dT sT bQ v u hd hx hr hK
theorem Hr:(Tryz.prog.info? 61).map (fun i=>(i.zero,i.size,i.bytes))=some (some (.agg #[.int .i64 0,.int .i64 0,.int .i64 0]),3,24):=by kernel_rfl
theorem Bl (w:World)(a:Option Addr)(n c n' c':Nat):(binOp .eql 39 (.slice a n c) (.slice none n' c')).run Tryz.prog w=.ok (.bool a.isNone) w:=Lib.run_eql_slice_nil w _ _ a n c n' c' Tryz.underlying39
set_option maxHeartbeats 2000000 in
theorem ab4 (w:World):Calls Tryz.prog 33 #[.slice none 0 0] w fun e w'=>e=.returned (.slice none 0 0)∧w'=w:=by
 have Ij:=Bl
 go_enter Tryz.func33,Tryz.ntmps33
 go_wp2
 go_ret
 exact⟨rfl,rfl⟩
set_option maxHeartbeats 2000000 in
theorem Tf (ad:Addr)(n c:Nat)(news:List Value)(w:World)(hl:news.length=n*3)(hn:n≤4294967296)
 (hc:∀j u,news[j]?=some u→w.cell? (ad.add j)=some u) (h1:∀u∈news,u.oneCell'=true):
 Calls Tryz.prog 33 #[.slice (some ad) n c] w fun e w'=>∃v',e=.returned v'∧w'.ownsRow w.heap.size 61 3 v' n news∧Below w.heap.size w w':=by
 obtain⟨i0,hi,mQ,kF,rL⟩:=info_parts Hr;have Ij:=Bl;have A:Aside (∀j u,news[j]?=some u→w.cell? (ad.add j)=some u):=hc;clear hc
 go_enter Tryz.func33,Tryz.ntmps33
 go_wp2_with (at_builtin;refine wpList_append_own _ rfl _ _ 39 rfl w.heap.size 61 i0 (.agg #[.int .i64 0,.int .i64 0,.int .i64 0]) 3 24 Tryz.underlying39 hi mQ kF rL rfl (by decide) _ _ _ rfl (World.ownsRow_made w #[] 0 (aU _) (nf _) (by simp)) ad n c news rfl ?qc1 ?qc2 ?qc3 ?qc4 ?qc5 ?qc6 ?_)
 case qc1=>exact hl
 case qc2=>
  intro j u hj;exact Lib.cell?_alloc_some _ (A.out j u hj)
 case qc3=>exact h1
 case qc4=>rw[eW];unfold maxLen;omega
 case qc5=>rw[eW];omega
 case qc6=>simp
 intro v' w1 aW yN Mm
 go_wp2
 go_ret
 refine⟨v',rfl,by simpa using aW,?_⟩;exact((Below.refl _ w).alloc (aU _) _).grown yN (by simp) (by intro k hk;simp[Value.ownBlock] at hk;omega)
theorem I3 {P:Program}(w:World)(dT sT ty elem:TypeId)(g o Tj acj:Nat)(a:Addr)(ZA alI m k:Nat)(cur:Array Value)(t:TypeId)(cs:List Value)
 (hu:P.underlying dT=some (.slice elem)) (hs:(P.info? elem).map (·.size)=some k)
 (hg:w.heap[g]?=some (.cells cur t (0,0))) (hm:Nat.min ZA Tj=m) (hn:cs.length=m*k)
 (CD:∀j v,cs[j]?=some v→w.cell? (a.add j)=some v) (yK:o+cs.length≤cur.size) (h1:∀v∈cs,v.oneCell'=true):
 (Builtin.copy_ #[dT,sT] ty #[.slice (some ⟨g,o,none⟩) Tj acj,.slice (some a) ZA alI]).run P w=
   .ok (goInt m) (w.setRow g (cur.toList.take o++cs++cur.toList.drop (o+cs.length)).toArray):=by
 have hl:=run_loadCells_list (P:=P) w a cs CD;have bX:=run_storeCells_at P g o t cs 0 cur w hg (by simpa using yK) h1;cases hq:P.info? elem with
 |none=>simp[hq] at hs
 |some i=>
  have hi:i.size=k:=by simpa [hq] using hs
  rw[hn] at hl;simp[Builtin.copy_,run_underlying hu,Builtin.lenOf,Builtin.firstCells,Go.sizeOf,typeInfo,hq,hi,hm,hl,bX]
set_option maxHeartbeats 4000000 in
theorem ahS (B:Nat)(s:Value)(n:Nat)(cells x:List Value)(vb:Nat)(w:World)(hB:B≤w.heap.size)(ff:w.ownsRow B 61 3 s n cells)(hn:n≤4294967296)(hx:x.length=3)
 (cr:w.heap[vb]?=some (.cells x.toArray 61 (0,0))) (h1:∀v∈x,v.oneCell'=true) (p:Option Addr) (c:Nat) (hs:s=.slice p n c):
 Calls Tryz.prog 39 #[s,.int .i64 n,.slice (some ⟨vb,0,none⟩) 1 1] w fun e w'=>∃v',e=.returned v'∧w'.ownsRow B 61 3 v' (n+1) (cells++x)∧w.grownBy w' s.ownBlock:=by
 obtain⟨i0,hi,mQ,kF,rL⟩:=info_parts Hr;have LN:c≤9223372036854775807∧n≤c:=by
  rcases ff.2 with⟨e,_⟩|⟨g,cap,cur,e,_,_,h3,h4,_⟩
  ·rw[hs] at e;cases e;omega
  ·rw[hs] at e;cases e;unfold maxLen at h4;omega
 obtain⟨LN,cX⟩:=LN;have A:Aside (w.heap[vb]?=some (.cells x.toArray 61 (0,0))):=cr;have A2:Aside (w.ownsRow B 61 3 s n cells):=ff;clear cr ff;have Ij:=Bl;subst hs
 go_enter Tryz.func39,Tryz.ntmps39
 go_wp2_with (at_builtin;refine wpList_append_own _ rfl _ _ 39 rfl B 61 i0 (.agg #[.int .i64 0,.int .i64 0,.int .i64 0]) 3 24 Tryz.underlying39 hi mQ kF rL rfl (by decide) _ n cells rfl A2.out ⟨vb,0,none⟩ 1 1 x rfl ?qc1 ?qc2 ?qc3 ?qc4 ?qc5 ?qc6 ?_)
 all_goals first
  |(intro v' w1 aW yN Mm
    go_wp2
    go_ret
    exact⟨v',rfl,aW,by cases p<;>exact yN⟩)
  |exact hB
  |exact h1
  |exact hx
  |(unfold maxLen;omega)
  |(intro j u hj
    rw[Addr.add_lit,eW];have hv:=A.out;simpa [World.cell?,hv] using hj)
  |omega
theorem ahR {α:Type}(l C x:List α)(a b:Nat)(h:a+x.length=b)(hb:b≤l.length):
 ((l.take b++C++l.drop (b+C.length)).take a++x++(l.take b++C++l.drop (b+C.length)).drop b).take (b+C.length)=l.take a++x++C:=by
 have h1:(l.take b).length=b:=by rw[db];omega
 have e1:(l.take b++C++l.drop (b+C.length)).take a=l.take a:=by
  rw[jq,List.take_append_of_le_length (by omega),EI,iM (by omega)]
 have e2:(l.take b++C++l.drop (b+C.length)).drop b=C++l.drop (b+C.length):=by
  rw[jq,List.drop_left' h1]
 rw[e1,e2,←jq];exact EH (by simp only[iK,db];omega)
set_option maxHeartbeats 4000000 in
theorem ahU (g n cap i:Nat)(cur:Array Value)(x:List Value)(vb:Nat)(w:World)(hi:i<n)(Cz:n+1≤cap)(LN:cap≤9223372036854775807)(hg:w.heap[g]?=some (.cells cur 61 (0,0)))(aA:cur.size=cap*3)
 (hx:x.length=3) (cr:w.heap[vb]?=some (.cells x.toArray 61 (0,0))) (h1:∀v∈x,v.oneCell'=true) (ib:∀v∈cur.toList.take (n*3),v.oneCell'=true) (CJ:vb≠g):
 Calls Tryz.prog 39 #[.slice (some ⟨g,0,none⟩) n cap,.int .i64 i,.slice (some ⟨vb,0,none⟩) 1 1] w fun e w'=>e=.returned (.slice (some ⟨g,0,none⟩) (n+1) cap)∧
  ∃eY:Array Value,eY.size=cap*3∧w'=w.drew.setRow g eY∧eY.toList.take ((n+1)*3)=(cur.toList.take (n*3)).take (i*3)++x++(cur.toList.take (n*3)).drop (i*3):=by
 obtain⟨i0,GP,mQ,kF,rL⟩:=info_parts Hr;have CE:(Tryz.prog.info? 61).map (·.size)=some 3:=by rw[GP];simp[kF]
 have Ij:=Bl;have ahI:¬((i:Int)=(n:Int)):=by omega
 have lV:IntKind.i64.wrap ((n:Int)+1)=(n:Int)+1:=by rw[IntKind.wrap_i64];omega
 have fA:IntKind.i64.wrap ((i:Int)+1)=(i:Int)+1:=by rw[IntKind.wrap_i64];omega
 have ag8:¬((cap:Int)<(n:Int)+1):=by omega
 have bl:i≤n:=by omega
 have mixed:Tryz.prog.follows .mixedOrders=true:=by kernel_rfl
 have ML:w.shape? vb=some (61,3):=by simp[World.shape?,cr,hx]
 have jc:w.shape? g=some (61,cap*3):=by simp[World.shape?,hg,aA]
 have hov:∀lb cb,(callFunc 71 #[.slice (some ⟨vb,0,none⟩) 1 1,.slice (some ⟨g,(i+1)*3,none⟩) lb cb]).run Tryz.prog w=.ok (.value (.bool false)) w:=fun lb cb=>by
  rw[run_callFunc_extern Tryz.func71 (by kernel_rfl) (by kernel_rfl) (by kernel_rfl) (e:=Extern.SlicesOverlaps.overlaps #[39,39] #[4]) (by kernel_rfl),
   Lib.run_overlaps_apart w 39 4 61 Tryz.underlying39 3 Tryz.sizeOf61 ⟨vb,0,none⟩ ⟨g,(i+1)*3,none⟩ 1 1 lb cb CJ 61 61 3 (cap*3) ML jc (by omega) (by simp[World.frozen?,cr]) (by simp[World.frozen?,cr])]
  rfl
 have tw:cur.toList.length=cap*3:=by simpa using aA
 have eH:∀j v,((cur.toList.take (n*3)).drop (i*3))[j]?=some v→cur[i*3+j]?=some v:=fun j v hj=>by
  rw[dN,dm] at hj;split at hj
  ·simpa using hj
  ·cases hj
 have aP:((cur.toList.take (n*3)).drop (i*3)).length=(n-i)*3:=by rw[qQ,db,tw];omega
 obtain⟨C,hC⟩:∃C,C=(cur.toList.take (n*3)).drop (i*3):=⟨_,rfl⟩
 rw[←hC] at eH aP;have Lw:∀v∈C,v.oneCell'=true:=fun v hv=>ib v (by rw[hC] at hv;exact xc hv);obtain⟨dP,rv⟩:∃dP:Array Value,dP=(cur.toList.take ((i+1)*3)++C++cur.toList.drop ((i+1)*3+C.length)).toArray:=⟨_,rfl⟩
 have ja:dP.size=cap*3:=by rw[rv];simp[tw,aP];omega
 have afF:∀ty dc sc,(Builtin.copy_ #[39,39] ty #[.slice (some ⟨g,(i+1)*3,none⟩) (n-i) dc,.slice (some ⟨g,i*3,none⟩) (n+1-i) sc]).run Tryz.prog w.drew=.ok (goInt ((n-i:Nat):Int)) (w.drew.setRow g dP):=fun ty dc sc=>by
  rw[rv]
  exact I3 w.drew _ _ ty 61 g ((i+1)*3) (n-i) dc ⟨g,i*3,none⟩ (n+1-i) sc (n-i) 3 cur 61 C Tryz.underlying39 CE hg (by show min _ _=_;omega) aP
   (fun j v hj=>by
        have:=eH j v hj;rw[Addr.add_lit];have gi:w.drew.heap[g]?=some (.cells cur 61 (0,0)):=hg;simpa [World.cell?,gi] using this) (by rw[aP];omega) Lw
 obtain⟨eY,ry⟩:∃eY:Array Value,eY=(dP.toList.take (i*3)++x++dP.toList.drop (i*3+x.length)).toArray:=⟨_,rfl⟩
 have jD:dP.toList.length=cap*3:=by simpa using ja
 have er:eY.size=cap*3:=by rw[ry];simp[jD,hx,ja];omega
 have fS:(w.drew.setRow g dP).heap[g]?=some (.cells dP 61 (0,0)):=setRow_heap w.drew g cur dP 61 (0,0) hg;have tG:(w.drew.setRow g dP).heap[vb]?=some (.cells x.toArray 61 (0,0)):=by rw[←cr];simp[World.setRow,dj,qU CJ];rfl
 have afG:∀ty dc,(Builtin.copy_ #[39,39] ty #[.slice (some ⟨g,i*3,none⟩) (n+1-i) dc,.slice (some ⟨vb,0,none⟩) 1 1]).run Tryz.prog (w.drew.setRow g dP)=.ok (goInt 1) ((w.drew.setRow g dP).setRow g eY):=fun ty dc=>by
  rw[ry]
  exact I3 (w.drew.setRow g dP) _ _ ty 61 g (i*3) (n+1-i) dc ⟨vb,0,none⟩ 1 1 1 3 dP 61 x Tryz.underlying39 CE fS (by show min _ _=_;omega) hx
   (fun j v hj=>by
        rw[Addr.add_lit];simpa [World.cell?,tG] using hj) (by rw[hx];omega) h1
 have jV:eY.toList.take ((n+1)*3)=(cur.toList.take (n*3)).take (i*3)++x++C:=by
  have e1:(n+1)*3=i*3+x.length+C.length:=by rw[hx,aP];omega
  have e2:i*3+x.length=(i+1)*3:=by rw[hx];omega
  have e3:(cur.toList.take (n*3)).take (i*3)=cur.toList.take (i*3):=by rw[EI,iM (by omega)]
  rw[e1,e3,ry,rv,e2];exact ahR _ _ _ _ _ e2 (by rw[tw];omega)
 have bk:¬(cap=i+1):=by omega
 have kr:¬(cap=i):=by omega
 have fa:(i:Int)≤(n:Int)+1:=by omega
 have bW:(0:Int)≤(i:Int)+1:=by omega
 have MW:((i:Int)+1).toNat=i+1:=by omega
 generalize nv:w.drew.setRow g dP=W1 at*;rw[←hC];clear eH hC rv ry fS tG ja jD tw
 go_enter Tryz.func39,Tryz.ntmps39
 go_wp2_with (simp only[hov])
 go_region_law_o (refine al5 rfl _ _ 39 39 rfl _ _ (by simp[Act.eval,Act.put]) (by simp[Act.eval,Act.put]) (afF _ _ _) ?_)
 go_wp2_with (at_builtin;refine RM _ rfl _ _ 39 39 rfl _ _ rfl rfl (afG _ _) ?_)
 go_ret
 refine⟨rfl,eY,er,?_,jV⟩;rw[←nv,setRow_setRow]
set_option maxHeartbeats 4000000 in
theorem ahT (g n cap i:Nat)(cur:Array Value)(x:List Value)(vb:Nat)(w:World)(hi:i<n)(cX:n≤cap)(Cz:cap<n+1)(hn:n≤4294967296)(hg:w.heap[g]?=some (.cells cur 61 (0,0)))(aA:cur.size=cap*3)
 (hx:x.length=3) (cr:w.heap[vb]?=some (.cells x.toArray 61 (0,0))) (h1:∀v∈x,v.oneCell'=true) (ib:∀v∈cur.toList.take (n*3),v.oneCell'=true) (CJ:vb≠g):
 Calls Tryz.prog 39 #[.slice (some ⟨g,0,none⟩) n cap,.int .i64 i,.slice (some ⟨vb,0,none⟩) 1 1] w fun e w'=>∃(G:Nat) (eY:Array Value),e=.returned (.slice (some ⟨w.heap.size,0,none⟩) (n+1) G)∧n+1≤G∧G≤maxLen∧
  eY.size=G*3∧w'.heap[w.heap.size]?=some (.cells eY 61 (0,0))∧Below w.heap.size w w'∧eY.toList.take ((n+1)*3)=(cur.toList.take (n*3)).take (i*3)++x++(cur.toList.take (n*3)).drop (i*3):=by
 obtain⟨i0,GP,mQ,kF,rL⟩:=info_parts Hr;have CE:(Tryz.prog.info? 61).map (·.size)=some 3:=by rw[GP];simp[kF]
 have Ij:=Bl;have ahI:¬((i:Int)=(n:Int)):=by omega
 have lV:IntKind.i64.wrap ((n:Int)+1)=(n:Int)+1:=by rw[IntKind.wrap_i64];omega
 have fA:IntKind.i64.wrap ((i:Int)+1)=(i:Int)+1:=by rw[IntKind.wrap_i64];omega
 have fB:IntKind.i64.wrap ((n:Int)+1-(i:Int))=(n:Int)+1-(i:Int):=by rw[IntKind.wrap_i64];omega
 have ag8:(cap:Int)<(n:Int)+1:=by omega
 have bl:i≤n:=by omega
 have mixed:Tryz.prog.follows .mixedOrders=true:=by kernel_rfl
 have tw:cur.toList.length=cap*3:=by simpa using aA
 have eH:∀j v,(cur.toList.take (i*3))[j]?=some v→cur[j]?=some v:=fun j v hj=>by
  rw[dm] at hj;split at hj
  ·simpa using hj
  ·cases hj
 have LP:∀j v,((cur.toList.take (n*3)).drop (i*3))[j]?=some v→cur[i*3+j]?=some v:=fun j v hj=>by
  rw[dN,dm] at hj;split at hj
  ·simpa using hj
  ·cases hj
 have aP:((cur.toList.take (n*3)).drop (i*3)).length=(n-i)*3:=by rw[qQ,db,tw];omega
 have e3:(cur.toList.take (n*3)).take (i*3)=cur.toList.take (i*3):=by rw[EI,iM (by omega)]
 rw[e3];obtain⟨C,hC⟩:∃C,C=(cur.toList.take (n*3)).drop (i*3):=⟨_,rfl⟩
 rw[←hC] at LP aP ⊢;have Lw:∀v∈C,v.oneCell'=true:=fun v hv=>ib v (by rw[hC] at hv;exact xc hv);obtain⟨A,hA⟩:∃A,A=cur.toList.take (i*3):=⟨_,rfl⟩
 have yz:A.length=i*3:=by rw[hA,db,tw];omega
 rw[←hA] at eH ⊢;have fS:g<w.heap.size:=(dy.1 hg).1;have tG:vb<w.heap.size:=(dy.1 cr).1;have hold:(Builtin.firstCells i0.size i (.slice (some ⟨g,0,none⟩) i cap)).run Tryz.prog w.drew=.ok A.toArray w.drew:=by
  rw[kF]
  exact run_firstCells_some w.drew 3 i ⟨g,0,none⟩ i cap A yz (fun j v hj=>by
   have:=eH j v hj;rw[Addr.add_lit,eW];have gi:w.drew.heap[g]?=some (.cells cur 61 (0,0)):=hg;simpa [World.cell?,gi] using this)
 have oL:(n:Int)+1-(i:Int)=((n+1-i:Nat):Int):=by omega
 have B5:i+(n+1-i)=n+1:=by omega
 obtain⟨G,hG⟩:∃G,G=grownCap w (n+1) cap 61:=⟨_,rfl⟩
 have hGn:n+1≤G:=by rw[hG];exact grownCap_ge w _ _ _
 have Uc:G≤maxLen:=by rw[hG];exact grownCap_le_maxLen w (n+1) cap 61 (by unfold maxLen;omega)
 have asr:G≤9223372036854775807:=by unfold maxLen at Uc;omega
 obtain⟨lI,Gw⟩:∃lI:Array Value,lI=A.toArray++Builtin.zeroCells #[.int .i64 0,.int .i64 0,.int .i64 0] (n+1-i)++Builtin.zeroCells #[.int .i64 0,.int .i64 0,.int .i64 0] (G-(n+1)):=⟨_,rfl⟩
 have MK:∀ty,(Builtin.append_ #[39,3] ty #[.slice (some ⟨g,0,none⟩) i cap,.int .i64 ((n:Int)+1-(i:Int))]).run Tryz.prog w=
  .ok (.slice (some ⟨w.heap.size,0,none⟩) (n+1) G) (w.drew.alloc (.cells lI 61)):=fun ty=>by
  have h:=Lib.run_append_grow_zeros w 39 3 ty 61 i0 _ .i64 .i64 Tryz.underlying39 Tryz.underlying3 GP mQ (some ⟨g,0,none⟩) i cap A hold (n+1-i) (by omega) (by omega) (by omega) (by omega) (by rw[rL];omega) (by rw[rL,B5];exact growslice_fits Cz (by omega));rw[B5,←hG] at h;rw[oL,Gw];exact h
 have Uo:lI.size=G*3:=by
  rw[Gw,RV,RV,size_zeroCells,size_zeroCells];simp[yz];omega
 have Ul:lI.toList.take (i*3)=A:=by
  rw[Gw,Array.toList_append,Array.toList_append,jq];exact EH yz
 clear Gw;obtain⟨N,hN⟩:∃N,N=w.heap.size:=⟨_,rfl⟩
 obtain⟨W1,nv⟩:∃W1,W1=w.drew.alloc (.cells lI 61):=⟨_,rfl⟩
 obtain⟨dP,rv⟩:∃dP:Array Value,dP=(lI.toList.take (i*3)++x++lI.toList.drop (i*3+x.length)).toArray:=⟨_,rfl⟩
 have Un:lI.toList.length=G*3:=by simpa using Uo
 have ja:dP.size=G*3:=by rw[rv];simp[Un,Uo,hx];omega
 have jD:dP.toList.length=G*3:=by simpa using ja
 have LD:W1.heap[N]?=some (.cells lI 61 (0,0)):=by rw[nv,hN];show(w.drew.heap.push _)[w.drew.heap.size]?=_;exact Ap
 have LF:∀k,k<w.heap.size→W1.heap[k]?=w.heap[k]?:=fun k hk=>by rw[nv];exact Below.heap_alloc w.drew _ k hk
 have afH:∀(W:World),W.heap=W1.heap→∀ty dc,(Builtin.copy_ #[39,39] ty #[.slice (some ⟨N,i*3,none⟩) (n+1-i) dc,.slice (some ⟨vb,0,none⟩) 1 1]).run Tryz.prog W=.ok (goInt ((1:Nat):Int)) (W.setRow N dP):=fun W hW ty dc=>by
  rw[rv]
  exact I3 W _ _ ty 61 N (i*3) (n+1-i) dc ⟨vb,0,none⟩ 1 1 1 3 lI 61 x Tryz.underlying39 CE (by rw[hW];exact LD) (by show min _ _=_;omega) hx
   (fun j v hj=>by
        rw[Addr.add_lit];have hv:W.heap[vb]?=some (.cells x.toArray 61 (0,0)):=by rw[hW,LF vb tG];exact cr
        simpa [World.cell?,hv] using hj) (by rw[hx];omega) h1
 obtain⟨eY,ry⟩:∃eY:Array Value,eY=(dP.toList.take ((i+1)*3)++C++dP.toList.drop ((i+1)*3+C.length)).toArray:=⟨_,rfl⟩
 have er:eY.size=G*3:=by rw[ry];simp[jD,ja,aP];omega
 have UB:∀(W:World),W.heap=(W1.setRow N dP).heap→∀ty dc sc,(Builtin.copy_ #[39,39] ty #[.slice (some ⟨N,(i+1)*3,none⟩) (n-i) dc,.slice (some ⟨g,i*3,none⟩) (n-i) sc]).run Tryz.prog W=.ok (goInt ((n-i:Nat):Int)) (W.setRow N eY):=fun W hW ty dc sc=>by
  rw[ry];have hWg:W.heap[g]?=some (.cells cur 61 (0,0)):=by rw[hW,←hg,←LF g fS];simp only[World.setRow,dj];rw[if_neg (by omega)]
  exact I3 W _ _ ty 61 N ((i+1)*3) (n-i) dc ⟨g,i*3,none⟩ (n-i) sc (n-i) 3 dP 61 C Tryz.underlying39 CE (by rw[hW];exact setRow_heap W1 N lI dP 61 (0,0) LD) (by show min _ _=_;omega) aP
   (fun j v hj=>by
        have:=LP j v hj;rw[Addr.add_lit];simpa [World.cell?,hWg] using this) (by rw[aP];omega) Lw
 have jV:eY.toList.take ((n+1)*3)=A++x++C:=by
  have e1:(n+1)*3=(i+1)*3+C.length:=by rw[aP];omega
  have e2:dP.toList.take ((i+1)*3)=A++x:=by
   rw[rv,Ul];exact EH (by rw[iK,yz,hx];omega)
  rw[e1,ry,e2];exact EH (by rw[iK,iK,yz,hx];omega)
 have hGi:¬(G=i):=by omega
 have ast:¬(G=i+1):=by omega
 have UA:¬(cap=i):=by omega
 have bW:(0:Int)≤(i:Int)+1:=by omega
 have MW:((i:Int)+1).toNat=i+1:=by omega
 have fa:(i:Int)≤(n:Int):=by omega
 rw[←hN] at MK ⊢;rw[←nv] at MK;have HN:Hid (N=w.heap.size):=hN;have HW:Hid (W1=w.drew.alloc (.cells lI 61)):=nv;have HF:Hid (Below N w W1):=by rw[hN,nv];exact((Below.refl _ w).drew).alloc (aU _) _
 clear eH LP hC rv ry ja jD tw oL B5 hG hold hA Ul Un hN nv LF;have asE:=fun s=>UB ((W1.setRow N dP).drew) rfl 3 (G-(i+1)) s
 go_enter Tryz.func39,Tryz.ntmps39
 go_wp2_with (first
  |(at_builtin;refine Lib.wpList_append_run _ rfl _ _ _ _ rfl _ _ rfl rfl _ _ (MK _) ?_)
  |(at_builtin;refine RM _ rfl _ _ 39 39 rfl _ _ rfl rfl (afH _ rfl _ _) ?_)
  |(at_builtin;refine RM _ rfl _ _ 39 39 rfl _ _ rfl rfl (UB _ rfl _ _ _) ?_))
 go_region_o
 go_wp2
 go_ret
 refine⟨G,eY,rfl,hGn,Uc,er,?_,?_,jV⟩
 ·exact setRow_heap _ N dP eY 61 (0,0) (setRow_heap W1 N lI dP 61 (0,0) LD)
 ·refine HF.out.trans ⟨rfl,rfl,rfl,by simp[World.setRow],fun k hk=>?_⟩;simp only[World.setRow,dj];rw[if_neg (by omega)];show(W1.setRow N dP).heap[k]?=_;simp only[World.setRow,dj];rw[if_neg (by omega)]
theorem Hs (B:Nat)(s:Value)(n i:Nat)(cells x:List Value)(vb:Nat)(w:World)(hB:B≤w.heap.size)(ff:w.ownsRow B 61 3 s n cells)(hi:i≤n)(hn:n≤4294967296)(hx:x.length=3)
 (cr:w.heap[vb]?=some (.cells x.toArray 61 (0,0))) (h1:∀v∈x,v.oneCell'=true) (ib:∀v∈cells,v.oneCell'=true) (CJ:s.ownBlock≠some vb):
 Calls Tryz.prog 39 #[s,.int .i64 i,.slice (some ⟨vb,0,none⟩) 1 1] w fun e w'=>∃v',e=.returned v'∧w'.ownsRow B 61 3 v' (n+1) (cells.take (i*3)++x++cells.drop (i*3))∧w.grownBy w' s.ownBlock:=by
 have aP:=ff.1;by_cases bl:i=n
 ·subst bl;obtain⟨p,c,hs⟩:∃p c,s=.slice p i c:=by
   rcases ff.2 with⟨e,h0⟩|⟨g,cap,cur,e,_⟩
   ·exact⟨none,0,by rw[e,h0]⟩
   ·exact⟨_,_,e⟩
  have e1:cells.take (i*3)=cells:=sH (by omega);have e2:cells.drop (i*3)=[]:=R4 (by omega);rw[e1,e2,kO];exact ahS B s i cells x vb w hB ff hn hx cr h1 p c hs
 rcases ff.2 with⟨e,h0⟩|⟨g,cap,cur,e,h2,h3,h4,h5,h6,h7⟩
 ·omega
 subst e;have Vw:vb≠g:=fun e=>CJ (by rw[e];rfl);have yy:cap≤9223372036854775807:=by unfold maxLen at h5;omega
 subst h7;by_cases hr:n+1≤cap
 ·refine(ahU g n cap i cur x vb w (by omega) hr yy h3 h6 hx cr h1 ib Vw).mono fun e w' hh=>?_;obtain⟨rfl,eY,k1,rfl,k3⟩:=hh;refine⟨_,rfl,⟨by rw[←k3,db];simp[k1];omega,.inr ⟨g,cap,eY,rfl,h2,setRow_heap w.drew g cur eY 61 (0,0) h3,hr,h5,k1,k3⟩⟩,⟨rfl,rfl,rfl,by simp[World.setRow],fun k hk az=>?_⟩⟩;simp only[World.setRow,dj];rw[if_neg (fun e=>az (by subst e;rfl))];rfl
 ·refine(ahT g n cap i cur x vb w (by omega) h4 (by omega) hn h3 h6 hx cr h1 ib Vw).mono fun e w' hh=>?_;obtain⟨G,eY,rfl,k1,k2,k3,k4,k5,k6⟩:=hh;refine⟨_,rfl,⟨by rw[←k6,db];simp[k3];omega,.inr ⟨w.heap.size,G,eY,rfl,hB,k4,k1,k2,k3,k6⟩⟩,⟨k5.os,k5.tape,k5.output,k5.size,fun k hk _=>k5.block k hk⟩⟩
theorem F6 (s f:Value)(w:World)(R:World→Prop)(h:Calls Tryz.prog 34 #[s,f] w fun e w'=>e=.returned (.int .i64 (-1))∧R w'):
 Calls Tryz.prog 35 #[s,f] w fun e w'=>e=.returned s∧R w':=by
 go_enter Tryz.func35,Tryz.ntmps35
 go_wp2_with (go_at_call 34;refine h.mono ?_;rintro e w' ⟨rfl,hR⟩)
 go_ret
 exact⟨rfl,hR⟩
end Rm
namespace Rm
open Go Go.Proofs Cx Go.RowKit Go.Lib
def eG (W:World)(v:Value)(n:Nat)(cells:List Value):Prop:=
 cells.length=n*3∧((∃p,v=.slice p 0 0∧n=0)∨∃g o c,v=.slice (some ⟨g,o,none⟩) n c∧n≤c∧c≤maxLen∧∀j u,cells[j]?=some u→W.cell? ⟨g,o+j,none⟩=some u)
abbrev xZ (f p q:Nat):Value:=.func (.func f) #[] #[.pointer (some ⟨p,0,none⟩),.pointer (some ⟨q,0,none⟩)]
theorem eG.of_cell {w W:World}{v:Value}{n:Nat}{cells:List Value}(h:eG w v n cells)(hb:∀a u,w.cell? a=some u→W.cell? a=some u):eG W v n cells:=by
 refine⟨h.1,h.2.imp id fun⟨g,o,c,h1,h2,h3,h4⟩=>⟨g,o,c,h1,h2,h3,fun j u hj=>hb _ _ (h4 j u hj)⟩⟩
theorem eG.below {w W:World}{v:Value}{n:Nat}{cells:List Value}(h:eG w v n cells)(hb:Below w.heap.size w W):eG W v n cells:=
 h.of_cell fun a u ha=>by rw[hb.cell (World.block_lt_of_cell? w a ha)];exact ha
theorem eG.of_own {B:Nat}{w:World}{v:Value}{n:Nat}{cells:List Value}(h:w.ownsRow B 61 3 v n cells):eG w v n cells:=by
 refine⟨h.1,h.2.imp (fun⟨e,h0⟩=>⟨none,e,h0⟩) fun⟨g,cap,cur,h1,h2,h3,h4,h5,h6,h7⟩=>⟨g,0,cap,h1,h4,h5,fun j u hj=>?_⟩⟩;rw[←h7,dm] at hj;split at hj
 ·simpa [World.cell?,h3] using hj
 ·cases hj
theorem ya (v:Value)(n:Nat)(cells:List Value)(w:World)(h:eG w v n cells)(hn:n≤4294967296)(h1:∀u∈cells,u.oneCell'=true):
 Calls Tryz.prog 33 #[v] w fun e w'=>∃v',e=.returned v'∧w'.ownsRow w.heap.size 61 3 v' n cells∧Below w.heap.size w w':=by
 obtain⟨hl,h⟩:=h;rcases h with⟨p,rfl,rfl⟩|⟨g,o,c,rfl,h2,h3,h4⟩
 ·obtain rfl:cells=[]:=Sc.1 (by omega);cases p with
  |none=>
   refine(ab4 w).mono fun e w' hh=>?_;obtain⟨rfl,rfl⟩:=hh;exact⟨_,rfl,World.ownsRow_nil _ _ _ _,.refl _ _⟩
  |some p=>exact Tf p 0 0 [] w rfl (by omega) (by simp) (by simp)
 ·exact Tf ⟨g,o,none⟩ n c cells w hl hn (fun j u hj=>by rw[Addr.add_lit];exact h4 j u hj) h1
structure Bx (w W:World) (A B C D E:Obj):Prop where
 below:Below w.heap.size w W
 size:w.heap.size+5≤W.heap.size
 a:W.heap[w.heap.size]?=some A
 b:W.heap[w.heap.size+1]?=some B
 c:W.heap[w.heap.size+1+1]?=some C
 d:W.heap[w.heap.size+1+1+1]?=some D
 e:W.heap[w.heap.size+1+1+1+1]?=some E
theorem Bx.step {w W W':World}{A B C D E:Obj}(h:Bx w W A B C D E)(hb:Below (w.heap.size+5) W W'):Bx w W' A B C D E:=
 ⟨h.below.trans (hb.mono (by omega)),cC h.size hb.size,(hb.block _ (by omega)).trans h.a,(hb.block _ (by omega)).trans h.b,(hb.block _ (by omega)).trans h.c,(hb.block _ (by omega)).trans h.d,(hb.block _ (by omega)).trans h.e⟩
theorem xl (w:World)(A B C D E:Obj):Bx w (((((w.alloc A).alloc B).alloc C).alloc D).alloc E) A B C D E:=by
 have ha:∀(w:World) (o:Obj),(w.alloc o).heap[w.heap.size]?=some o:=fun w o=>by show(w.heap.push o)[w.heap.size]?=_;exact Ap
 have hs:∀(w:World) (o:Obj),(w.alloc o).heap.size=w.heap.size+1:=fun w o=>by simp
 refine⟨((((((Below.refl _ w).alloc (aU _) A).alloc ?_ B).alloc ?_ C).alloc ?_ D).alloc ?_ E),?_,?_,?_,?_,?_,?_⟩
 ·simp only[hs];omega
 ·simp only[hs];omega
 ·simp only[hs];omega
 ·simp only[hs];omega
 ·simp only[hs];omega
 ·rw[Below.heap_alloc _ _ _ (by simp only[hs];omega),Below.heap_alloc _ _ _ (by simp only[hs];omega),Below.heap_alloc _ _ _ (by simp only[hs];omega),Below.heap_alloc _ _ _ (by simp only[hs];omega)];exact ha _ _
 ·rw[Below.heap_alloc _ _ _ (by simp only[hs];omega),Below.heap_alloc _ _ _ (by simp only[hs];omega),Below.heap_alloc _ _ _ (by simp only[hs];omega),←hs w A];exact ha _ _
 ·rw[Below.heap_alloc _ _ _ (by simp only[hs];omega),Below.heap_alloc _ _ _ (by simp only[hs];omega),←hs w A,←hs (w.alloc A) B];exact ha _ _
 ·rw[Below.heap_alloc _ _ _ (by simp only[hs];omega),←hs w A,←hs (w.alloc A) B,←hs ((w.alloc A).alloc B) C];exact ha _ _
 ·rw[←hs w A,←hs (w.alloc A) B,←hs ((w.alloc A).alloc B) C,←hs (((w.alloc A).alloc B).alloc C) D];exact ha _ _
theorem me {B:Nat}{w W:World}{v:Value}{n:Nat}{cells:List Value}(h:w.ownsRow B 61 3 v n cells)(hb:Below w.heap.size w W):W.ownsRow B 61 3 v n cells:=
 ⟨h.1,h.2.imp id fun⟨g,cap,cur,h1,h2,h3,h4⟩=>⟨g,cap,cur,h1,h2,(hb.block g (dy.1 h3).1).trans h3,h4⟩⟩
theorem xn (W:World)(b:Nat)(x y z:Value)(h:W.heap[b]?=some (.cells #[x,y,z] 61 (0,0))):
 W.cell? ⟨b,0,none⟩=some x∧W.cell? ⟨b,1,none⟩=some y∧W.cell? ⟨b,2,none⟩=some z∧∀j,W.frozen? ⟨b,j,none⟩=false:=by
 simp[World.cell?,World.frozen?,h]
theorem ah6 {α:Type}(l:List α)(a:Nat)(x y z:α)(h:a+3≤l.length):((l.set a x).set (a+1) y).set (a+2) z=l.take a++[x,y,z]++l.drop (a+3):=by
 apply JC;intro j;have hl:(l.take a).length=a:=by rw[db];omega
 rcases EJ j a with h1|h1
 ·rw[jq,kf (by omega),List.getElem?_take_of_lt h1,uU (by omega),uU (by omega),uU (by omega)]
 ·rw[jq,iJ (by omega),hl];obtain⟨d,rfl⟩:∃d,j=a+d:=⟨j-a,by omega⟩
  rw[show a+d-a=d by omega];have h0:a<l.length:=by omega
  have h2:a+1<l.length:=by omega
  have h3:a+2<l.length:=by omega
  match d with
  |0=>simp[sC,h0]
  |1=>simp[sC,h2]
  |2=>simp[sC,h3]
  |d+3=>
   rw[uU (by omega),uU (by omega),uU (by omega)];show _=(l.drop (a+3))[d]?;rw[dN]
   congr 1
   omega
theorem ZF (W:World)(g a:Nat)(cur:Array Value)(x y z:Value)(hg:W.heap[g]?=some (.cells cur 61 (0,0)))(ha:a+3≤cur.size):
 ∃bj:Array Value,((W.setCell ⟨g,a,none⟩ x).setCell ⟨g,a+1,none⟩ y).setCell ⟨g,a+2,none⟩ z=W.setRow g bj∧bj.size=cur.size∧bj.toList=cur.toList.take a++[x,y,z]++cur.toList.drop (a+3):=by
 have h1:=setCell_eq_setRow W g a cur 61 (0,0) x hg;have g1:=setRow_heap W g cur (cur.setIfInBounds a x) 61 (0,0) hg;rw[←h1] at g1;have h2:=setCell_eq_setRow _ g (a+1) _ 61 (0,0) y g1;have g2:=setRow_heap _ g _ ((cur.setIfInBounds a x).setIfInBounds (a+1) y) 61 (0,0) g1;rw[←h2] at g2;have h3:=setCell_eq_setRow _ g (a+2) _ 61 (0,0) z g2;refine⟨((cur.setIfInBounds a x).setIfInBounds (a+1) y).setIfInBounds (a+2) z,by rw[h3,h2,h1,setRow_setRow,setRow_setRow],by simp,?_⟩;simp only[Array.toList_setIfInBounds];exact ah6 _ _ _ _ _ (by simpa using ha)
theorem alQ (W:World)(g o:Nat)(cur:Array Value)(u:Value)(hg:W.heap[g]?=some (.cells cur 61 (0,0)))(h:cur[o]?=some u):W.setCell ⟨g,o,none⟩ u=W:=by
 rw[setCell_eq_setRow W g o cur 61 (0,0) u hg];have:cur.setIfInBounds o u=cur:=by
  obtain⟨ho,he⟩:=dy.1 h;apply Array.ext (by simp);intro j h1 h2;rw[Array.getElem_setIfInBounds];split
  ·rename_i e;subst e;exact he.symm
  ·rfl
 rw[this];exact setRow_self W g cur 61 (0,0) hg
theorem ZG (W:World)(g:Nat)(cur:Array Value)(hg:W.heap[g]?=some (.cells cur 61 (0,0))):∀(us:List Value) (o:Nat),(∀j u,us[j]?=some u→cur[o+j]?=some u)→W.setCells g o us=W
 |[],_,_=>rfl
 |u::us,o,h=>by
  rw[World.setCells,alQ W g o cur u hg (by simpa using h 0 u rfl)];exact ZG W g cur hg us (o+1) fun j v hj=>by have:=h (j+1) v (by simpa using hj);rwa [show o+(j+1)=o+1+j by omega] at this
theorem V4 (W:World)(ad:Addr)(n:Nat)(news:List Value)(hl:news.length=n)(CD:∀j u,news[j]?=some u→W.cell? (ad.add j)=some u):
 (loadCellsFrom ad 0 n #[]).run Tryz.prog W=.ok news.toArray W:=by
 subst hl;exact run_loadCells_list (P:=Tryz.prog) W ad news CD
theorem ZV (W:World)(g o:Nat)(cur:Array Value)(news:List Value)(hg:W.heap[g]?=some (.cells cur 61 (0,0)))(bl:∀j u,news[j]?=some u→cur[o+j]?=some u)(h1:∀u∈news,u.oneCell'=true):
 (storeCells ⟨g,o,none⟩ news).run Tryz.prog W=.ok () W:=by
 have:=run_storeCells_cells (P:=Tryz.prog) g o news 0 W (fun j hj=>by
  have:=bl j _ (bo hj);simp[World.cell?,hg,this]) (fun j hj=>by simp[World.frozen?,hg]) h1
 rw[this,gK,ZG W g cur hg news o bl]
theorem Bx.drew {w W:World}{A B C D E:Obj}(h:Bx w W A B C D E):Bx w W.drew A B C D E:=⟨h.below.drew,h.size,h.a,h.b,h.c,h.d,h.e⟩
set_option maxHeartbeats 4000000 in
theorem alT (vs:Array Value)(gZ:Value)(cr:vs.size=19)(lU:vs[18]?=some gZ)(h1:vs.all (·.oneCell')=true)(k a n m:Int)(hm:n=0∧m=0∨n≠0∧m=1)
 (w:World) (N i:Nat) (cells:List Value) (ff:eG w gZ N cells) (hN:N≤4294967296) (hi:i<N) (ib:∀v∈cells,v.oneCell'=true)
 (hI:∀W v p q,Below w.heap.size w W→eG W v N cells→W.cell? ⟨p,0,none⟩=some (.int .i64 k)→W.cell? ⟨q,0,none⟩=some (.int .i64 a)→Calls Tryz.prog 34 #[v,xZ 32 p q] W fun e w'=>e=.returned (.int .i64 i)∧Below W.heap.size W w')
 (hD:∀W v p q,Below w.heap.size w W→eG W v (N-(i+1)) (cells.drop ((i+1)*3))→W.cell? ⟨p,0,none⟩=some (.int .i64 k)→W.cell? ⟨q,0,none⟩=some (.int .i64 a)→Calls Tryz.prog 34 #[v,xZ 32 p q] W fun e w'=>e=.returned (.int .i64 (-1))∧Below W.heap.size W w'):
 Calls Tryz.prog 16 #[.agg vs,.int .i64 k,.int .i64 a,.int .i64 n] w fun e w'=>∃v' g c,e=.returned (.agg (vs.setIfInBounds 18 v'))∧
  Below w.heap.size w w'∧w.heap.size≤g∧v'=.slice (some ⟨g,0,none⟩) N c∧N≤c∧c≤maxLen∧∀j u,(cells.take (i*3)++[.int .i64 k,.int .i64 a,.int .i64 m]++cells.drop ((i+1)*3))[j]?=some u→w'.cell? ⟨g,j,none⟩=some u:=by
 have ahz:vs[18]'(by omega)=gZ:=(dy.1 lU).2;rcases hm with⟨rfl,rfl⟩|⟨hn,rfl⟩
 ·skip
  go_enter Tryz.func16,Tryz.ntmps16
  go_wp2_with (first
   |(go_at_call 33
     have di:=xl w (.cells vs 41 (0,0)) (.cells #[.int .i64 k] 3 (0,0)) (.cells #[.int .i64 a] 3 (0,0)) (.cells #[.int .i64 0,.int .i64 0,.int .i64 0,.int .i64 0,.int .i64 0,.int .i64 0,.int .i64 0,.int .i64 0,.int .i64 0,.int .i64 0,.int .i64 0,.int .i64 0,.int .i64 0,.int .i64 0,.int .i64 0,.slice none 0 0,.slice none 0 0,.slice none 0 0,.slice none 0 0] 41 (0,0)) (.cells #[.int .i64 k,.int .i64 a,.int .i64 0] 61 (0,0));refine(ya gZ N cells _ (ff.below di.below) hN ib).mono ?_;rintro e W1 ⟨v',rfl,aW,bW⟩;have bM:=di.step (bW.mono di.size);have hB:w.heap.size+5≤(((((w.alloc (.cells vs 41 (0,0))).alloc (.cells #[.int .i64 k] 3 (0,0))).alloc (.cells #[.int .i64 a] 3 (0,0))).alloc (.cells #[.int .i64 0,.int .i64 0,.int .i64 0,.int .i64 0,.int .i64 0,.int .i64 0,.int .i64 0,.int .i64 0,.int .i64 0,.int .i64 0,.int .i64 0,.int .i64 0,.int .i64 0,.int .i64 0,.int .i64 0,.slice none 0 0,.slice none 0 0,.slice none 0 0,.slice none 0 0] 41 (0,0))).alloc (.cells #[.int .i64 k,.int .i64 a,.int .i64 0] 61 (0,0))).heap.size:=di.size;clear bW di)
   |(go_at_call 34
     refine(hI W1 v' (w.heap.size+1) (w.heap.size+1+1) bM.below (eG.of_own aW) (by simp[World.cell?,bM.b]) (by simp[World.cell?,bM.c])).mono ?_;rintro e W2 ⟨rfl,bk⟩;have cR:=bM.step (bk.mono bM.size);have gQ:=me aW bk;clear bk bM aW;rcases gQ.2 with⟨_,h0⟩|⟨g,cap,cur,rfl,oI,dt,tl,dI,hg5,fJ⟩
     ·exact absurd h0 (by omega)
     obtain⟨e0,e1,e2,ef⟩:=xn W2 _ _ _ _ cR.e;have rz:∀j,W2.frozen? ⟨g,j,none⟩=false:=fun j=>by simp[World.frozen?,dt]
     obtain⟨u0,vW⟩:∃u,W2.cell? ⟨g,i*3,none⟩=some u:=⟨_,by simp[World.cell?,dt];exact dX (show i*3<cur.size by omega)⟩
     obtain⟨u1,CG⟩:∃u,W2.cell? ⟨g,i*3+1,none⟩=some u:=⟨_,by simp[World.cell?,dt];exact dX (show i*3+1<cur.size by omega)⟩
     obtain⟨u2,CH⟩:∃u,W2.cell? ⟨g,i*3+2,none⟩=some u:=⟨_,by simp[World.cell?,dt];exact dX (show i*3+2<cur.size by omega)⟩
     have UN:w.heap.size+5≤g:=cC hB oI;have cv:(i:Int)<(N:Int):=by omega
     clear hB oI))
  obtain⟨bj,BS,Hh,vI⟩:=ZF W2 g (i*3) cur (.int .i64 k) (.int .i64 a) (.int .i64 0) dt (by omega);rw[BS];have cw:Bx w (W2.setRow g bj).drew (.cells vs 41 (0,0)) (.cells #[.int .i64 k] 3 (0,0)) (.cells #[.int .i64 a] 3 (0,0)) (.cells #[.int .i64 0,.int .i64 0,.int .i64 0,.int .i64 0,.int .i64 0,.int .i64 0,.int .i64 0,.int .i64 0,.int .i64 0,.int .i64 0,.int .i64 0,.int .i64 0,.int .i64 0,.int .i64 0,.int .i64 0,.slice none 0 0,.slice none 0 0,.slice none 0 0,.slice none 0 0] 41 (0,0)) (.cells #[.int .i64 k,.int .i64 a,.int .i64 0] 61 (0,0)):=by
   refine Bx.drew (cR.step ⟨rfl,rfl,rfl,by simp[World.setRow],fun q hq=>?_⟩);simp only[World.setRow,dj];rw[if_neg (by omega)]
  have fS:(W2.setRow g bj).drew.heap[g]?=some (.cells bj 61 (0,0)):=setRow_heap W2 g cur bj 61 (0,0) dt;clear BS cR gQ e0 e1 e2 ef rz vW CG CH dt;generalize LB:W2.setRow g bj=W3 at*;clear LB
  have vz:∀j u,(cells.drop ((i+1)*3))[j]?=some u→bj[(i+1)*3+j]?=some u:=fun j u hj=>by
   rw[dN,←fJ,dm] at hj;split at hj
   ·rw[←wZ,vI,jq,iJ (by rw[db];omega),db,iM (by rw[qM];omega),iJ (by simp;omega),dN];rw[←hj]
    congr 1
    simp;omega
   ·cases hj
  have aP:(cells.drop ((i+1)*3)).length=(N-(i+1))*3:=by rw[qQ,←fJ,db,qM];omega
  have LO:∀u∈cells.drop ((i+1)*3),u.oneCell'=true:=fun u hu=>ib u (xc hu);have hNi:i+1+(N-(i+1))=N:=by omega
  have fA:IntKind.i64.wrap ((i:Int)+1)=(i:Int)+1:=by rw[IntKind.wrap_i64];omega
  have bW:(0:Int)≤(i:Int)+1:=by omega
  have bk:(i:Int)+1≤(N:Int):=by omega
  have fa:(i:Int)+1≤(cap:Int):=by omega
  have MW:((i:Int)+1).toNat=i+1:=by omega
  have tn:(w.heap.size==g)=false:=by simp;omega
  have mixed:Tryz.prog.follows .mixedOrders=true:=by kernel_rfl
  have HC:Hid (∀j u,(cells.take (i*3)++[.int .i64 k,.int .i64 a,.int .i64 0]++cells.drop ((i+1)*3))[j]?=some u→bj[j]?=some u):=fun j u hj=>by
   have e:cells.take (i*3)++[.int .i64 k,.int .i64 a,.int .i64 0]++cells.drop ((i+1)*3)=bj.toList.take (N*3):=by
        rw[vI,←fJ,EI,iM (by omega),List.drop_take,show(i+1)*3=i*3+3 by omega];have hA:(cur.toList.take (i*3)++[Value.int .i64 k,.int .i64 a,.int .i64 0]).length=i*3+3:=by simp;omega
        rw[List.take_append,sH (l:=cur.toList.take (i*3)++_) (by omega),hA]
   rw[e,dm] at hj;split at hj
   ·simpa using hj
   ·cases hj
  clear fJ vI;by_cases eN:cap=i+1
  ·obtain rfl:N=i+1:=by omega
   subst eN
   go_region_with_o (go_at_call 35
                     refine(F6 _ _ _ _ (hD W3.drew _ _ _ cw.below ⟨aP,.inl ⟨some ⟨g,0,none⟩,rfl,by omega⟩⟩ (by simp[World.cell?,cw.b]) (by simp[World.cell?,cw.c]))).mono ?_;rintro e W4 ⟨rfl,kr⟩;have bq:=cw.step (kr.mono cw.size);have la:W4.heap[g]?=some (.cells bj 61 (0,0)):=(kr.block g (dy.1 fS).1).trans fS;have mF:W4.cell? ⟨w.heap.size,18,none⟩=some gZ:=by simp[World.cell?,bq.a,lU]
                     have cf:W4.frozen? ⟨w.heap.size,18,none⟩=false:=by simp[World.frozen?,bq.a]
                     clear kr cw fS)
   have hA:=setCell_eq_setRow W4 w.heap.size 18 vs 41 (0,0) (.slice (some ⟨g,0,none⟩) (i+1) (i+1)) bq.a;rw[hA];have kZ:(W4.setRow w.heap.size (vs.setIfInBounds 18 (.slice (some ⟨g,0,none⟩) (i+1) (i+1)))).heap[w.heap.size]?=some (.cells (vs.setIfInBounds 18 (.slice (some ⟨g,0,none⟩) (i+1) (i+1))) 41 (0,0)):=setRow_heap W4 w.heap.size vs _ 41 (0,0) bq.a;have gh:(W4.setRow w.heap.size (vs.setIfInBounds 18 (.slice (some ⟨g,0,none⟩) (i+1) (i+1)))).heap[w.heap.size+1+1+1]?=some (.cells #[.int .i64 0,.int .i64 0,.int .i64 0,.int .i64 0,.int .i64 0,.int .i64 0,.int .i64 0,.int .i64 0,.int .i64 0,.int .i64 0,.int .i64 0,.int .i64 0,.int .i64 0,.int .i64 0,.int .i64 0,.slice none 0 0,.slice none 0 0,.slice none 0 0,.slice none 0 0] 41 (0,0)):=by
        rw[←bq.d];simp only[World.setRow,dj];rw[if_neg (by omega)]
   have fJ:(W4.setRow w.heap.size (vs.setIfInBounds 18 (.slice (some ⟨g,0,none⟩) (i+1) (i+1)))).heap[g]?=some (.cells bj 61 (0,0)):=by
        rw[←la];simp only[World.setRow,dj];rw[if_neg (by omega)]
   have kY:Below w.heap.size w (W4.setRow w.heap.size (vs.setIfInBounds 18 (.slice (some ⟨g,0,none⟩) (i+1) (i+1)))):=by
        refine bq.below.trans ⟨rfl,rfl,rfl,by simp[World.setRow],fun q hq=>?_⟩;simp only[World.setRow,dj];rw[if_neg (by omega)]
   have aD:(vs.setIfInBounds 18 (.slice (some ⟨g,0,none⟩) (i+1) (i+1))).all (·.oneCell')=true:=by
        rw[su] at h1 ⊢;intro u hu;rcases uN hu with h|h
        ·exact h1 u h
        ·subst h;rfl
   have gm:(vs.setIfInBounds 18 (.slice (some ⟨g,0,none⟩) (i+1) (i+1))).size=19:=by simp[cr]
   generalize W4.setRow w.heap.size (vs.setIfInBounds 18 (.slice (some ⟨g,0,none⟩) (i+1) (i+1)))=W6 at*;generalize oT:vs.setIfInBounds 18 (.slice (some ⟨g,0,none⟩) (i+1) (i+1))=aZ at*;have HV:Hid (vs.setIfInBounds 18 (.slice (some ⟨g,0,none⟩) (i+1) (i+1))=aZ):=oT;clear oT;have eh:(Tryz.prog.info? 41).map (·.size)=some aZ.size:=by rw[gm];kernel_rfl
   clear hA mF cf bq la
   go_wp2_with (first
        |(refine wpList_load_row rfl 41 _ rfl w.heap.size rfl 41 aZ (0,0) _ kZ Tryz.underlying41 rfl eh ?_)
        |(refine wpList_store_row rfl 41 _ _ rfl (w.heap.size+1+1+1) aZ rfl rfl 41 _ gh eh (by rw[gm];rfl) aD ?_))
   refine bodyPost_ret (results_cell_row (p:=8) (ty:=41) rfl _ _ (w.heap.size+1+1+1) 41 aZ (0,0) _ rfl (setRow_heap W6 (w.heap.size+1+1+1) _ aZ 41 (0,0) gh) Tryz.underlying41 rfl eh) rfl ?_;refine⟨_,g,i+1,by rw[HV.out],?_,by omega,rfl,tl,dI,fun j u hj=>?_⟩
   ·refine kY.trans ⟨rfl,rfl,rfl,by simp[World.setRow],fun q hq=>?_⟩;simp only[World.setRow,dj];rw[if_neg (by omega)]
   ·have ld:(W6.setRow (w.heap.size+1+1+1) aZ).heap[g]?=some (.cells bj 61 (0,0)):=by
     rw[←fJ];simp only[World.setRow,dj];rw[if_neg (by omega)]
    have:=HC.out j u hj;simpa [World.cell?,ld] using this
  ·go_region_with_o (go_at_call 35
                     refine(F6 _ _ _ _ (hD W3.drew _ _ _ cw.below ⟨aP,.inr ⟨g,(i+1)*3,cap-(i+1),rfl,by omega,by omega,fun j u hj=>by have:=vz j u hj;simpa [World.cell?,fS] using this⟩⟩ (by simp[World.cell?,cw.b]) (by simp[World.cell?,cw.c]))).mono ?_;rintro e W4 ⟨rfl,kr⟩;have bq:=cw.step (kr.mono cw.size);have la:W4.heap[g]?=some (.cells bj 61 (0,0)):=(kr.block g (dy.1 fS).1).trans fS;have yR:=V4 W4 ⟨g,(i+1)*3,none⟩ ((N-(i+1))*3) (cells.drop ((i+1)*3)) aP (fun j u hj=>by have:=vz j u hj;rw[Addr.add_lit];simpa [World.cell?,la] using this);have bX:=ZV W4 g ((i+1)*3) bj (cells.drop ((i+1)*3)) la vz LO;have mF:W4.cell? ⟨w.heap.size,18,none⟩=some gZ:=by simp[World.cell?,bq.a,lU]
                     have cf:W4.frozen? ⟨w.heap.size,18,none⟩=false:=by simp[World.frozen?,bq.a]
                     clear kr cw fS)
   have hA:=setCell_eq_setRow W4 w.heap.size 18 vs 41 (0,0) (.slice (some ⟨g,0,none⟩) N cap) bq.a;rw[hA];have kZ:(W4.setRow w.heap.size (vs.setIfInBounds 18 (.slice (some ⟨g,0,none⟩) N cap))).heap[w.heap.size]?=some (.cells (vs.setIfInBounds 18 (.slice (some ⟨g,0,none⟩) N cap)) 41 (0,0)):=setRow_heap W4 w.heap.size vs _ 41 (0,0) bq.a;have gh:(W4.setRow w.heap.size (vs.setIfInBounds 18 (.slice (some ⟨g,0,none⟩) N cap))).heap[w.heap.size+1+1+1]?=some (.cells #[.int .i64 0,.int .i64 0,.int .i64 0,.int .i64 0,.int .i64 0,.int .i64 0,.int .i64 0,.int .i64 0,.int .i64 0,.int .i64 0,.int .i64 0,.int .i64 0,.int .i64 0,.int .i64 0,.int .i64 0,.slice none 0 0,.slice none 0 0,.slice none 0 0,.slice none 0 0] 41 (0,0)):=by
        rw[←bq.d];simp only[World.setRow,dj];rw[if_neg (by omega)]
   have fJ:(W4.setRow w.heap.size (vs.setIfInBounds 18 (.slice (some ⟨g,0,none⟩) N cap))).heap[g]?=some (.cells bj 61 (0,0)):=by
        rw[←la];simp only[World.setRow,dj];rw[if_neg (by omega)]
   have kY:Below w.heap.size w (W4.setRow w.heap.size (vs.setIfInBounds 18 (.slice (some ⟨g,0,none⟩) N cap))):=by
        refine bq.below.trans ⟨rfl,rfl,rfl,by simp[World.setRow],fun q hq=>?_⟩;simp only[World.setRow,dj];rw[if_neg (by omega)]
   have aD:(vs.setIfInBounds 18 (.slice (some ⟨g,0,none⟩) N cap)).all (·.oneCell')=true:=by
        rw[su] at h1 ⊢;intro u hu;rcases uN hu with h|h
        ·exact h1 u h
        ·subst h;rfl
   have gm:(vs.setIfInBounds 18 (.slice (some ⟨g,0,none⟩) N cap)).size=19:=by simp[cr]
   generalize W4.setRow w.heap.size (vs.setIfInBounds 18 (.slice (some ⟨g,0,none⟩) N cap))=W6 at*;generalize oT:vs.setIfInBounds 18 (.slice (some ⟨g,0,none⟩) N cap)=aZ at*;have HV:Hid (vs.setIfInBounds 18 (.slice (some ⟨g,0,none⟩) N cap)=aZ):=oT;clear oT;have eh:(Tryz.prog.info? 41).map (·.size)=some aZ.size:=by rw[gm];kernel_rfl
   clear yR bX hA mF cf bq la
   go_wp2_with (first
        |(refine wpList_load_row rfl 41 _ rfl w.heap.size rfl 41 aZ (0,0) _ kZ Tryz.underlying41 rfl eh ?_)
        |(refine wpList_store_row rfl 41 _ _ rfl (w.heap.size+1+1+1) aZ rfl rfl 41 _ gh eh (by rw[gm];rfl) aD ?_))
   refine bodyPost_ret (results_cell_row (p:=8) (ty:=41) rfl _ _ (w.heap.size+1+1+1) 41 aZ (0,0) _ rfl (setRow_heap W6 (w.heap.size+1+1+1) _ aZ 41 (0,0) gh) Tryz.underlying41 rfl eh) rfl ?_;refine⟨_,g,cap,by rw[HV.out],?_,by omega,rfl,tl,dI,fun j u hj=>?_⟩
   ·refine kY.trans ⟨rfl,rfl,rfl,by simp[World.setRow],fun q hq=>?_⟩;simp only[World.setRow,dj];rw[if_neg (by omega)]
   ·have ld:(W6.setRow (w.heap.size+1+1+1) aZ).heap[g]?=some (.cells bj 61 (0,0)):=by
     rw[←fJ];simp only[World.setRow,dj];rw[if_neg (by omega)]
    have:=HC.out j u hj;simpa [World.cell?,ld] using this
 ·skip
  go_enter Tryz.func16,Tryz.ntmps16
  go_wp2_with (first
   |(go_at_call 33
     have di:=xl w (.cells vs 41 (0,0)) (.cells #[.int .i64 k] 3 (0,0)) (.cells #[.int .i64 a] 3 (0,0)) (.cells #[.int .i64 0,.int .i64 0,.int .i64 0,.int .i64 0,.int .i64 0,.int .i64 0,.int .i64 0,.int .i64 0,.int .i64 0,.int .i64 0,.int .i64 0,.int .i64 0,.int .i64 0,.int .i64 0,.int .i64 0,.slice none 0 0,.slice none 0 0,.slice none 0 0,.slice none 0 0] 41 (0,0)) (.cells #[.int .i64 k,.int .i64 a,.int .i64 1] 61 (0,0));refine(ya gZ N cells _ (ff.below di.below) hN ib).mono ?_;rintro e W1 ⟨v',rfl,aW,bW⟩;have bM:=di.step (bW.mono di.size);have hB:w.heap.size+5≤(((((w.alloc (.cells vs 41 (0,0))).alloc (.cells #[.int .i64 k] 3 (0,0))).alloc (.cells #[.int .i64 a] 3 (0,0))).alloc (.cells #[.int .i64 0,.int .i64 0,.int .i64 0,.int .i64 0,.int .i64 0,.int .i64 0,.int .i64 0,.int .i64 0,.int .i64 0,.int .i64 0,.int .i64 0,.int .i64 0,.int .i64 0,.int .i64 0,.int .i64 0,.slice none 0 0,.slice none 0 0,.slice none 0 0,.slice none 0 0] 41 (0,0))).alloc (.cells #[.int .i64 k,.int .i64 a,.int .i64 1] 61 (0,0))).heap.size:=di.size;clear bW di)
   |(go_at_call 34
     refine(hI W1 v' (w.heap.size+1) (w.heap.size+1+1) bM.below (eG.of_own aW) (by simp[World.cell?,bM.b]) (by simp[World.cell?,bM.c])).mono ?_;rintro e W2 ⟨rfl,bk⟩;have cR:=bM.step (bk.mono bM.size);have gQ:=me aW bk;clear bk bM aW;rcases gQ.2 with⟨_,h0⟩|⟨g,cap,cur,rfl,oI,dt,tl,dI,hg5,fJ⟩
     ·exact absurd h0 (by omega)
     obtain⟨e0,e1,e2,ef⟩:=xn W2 _ _ _ _ cR.e;have rz:∀j,W2.frozen? ⟨g,j,none⟩=false:=fun j=>by simp[World.frozen?,dt]
     obtain⟨u0,vW⟩:∃u,W2.cell? ⟨g,i*3,none⟩=some u:=⟨_,by simp[World.cell?,dt];exact dX (show i*3<cur.size by omega)⟩
     obtain⟨u1,CG⟩:∃u,W2.cell? ⟨g,i*3+1,none⟩=some u:=⟨_,by simp[World.cell?,dt];exact dX (show i*3+1<cur.size by omega)⟩
     obtain⟨u2,CH⟩:∃u,W2.cell? ⟨g,i*3+2,none⟩=some u:=⟨_,by simp[World.cell?,dt];exact dX (show i*3+2<cur.size by omega)⟩
     have UN:w.heap.size+5≤g:=cC hB oI;have cv:(i:Int)<(N:Int):=by omega
     clear hB oI))
  obtain⟨bj,BS,Hh,vI⟩:=ZF W2 g (i*3) cur (.int .i64 k) (.int .i64 a) (.int .i64 1) dt (by omega);rw[BS];have cw:Bx w (W2.setRow g bj).drew (.cells vs 41 (0,0)) (.cells #[.int .i64 k] 3 (0,0)) (.cells #[.int .i64 a] 3 (0,0)) (.cells #[.int .i64 0,.int .i64 0,.int .i64 0,.int .i64 0,.int .i64 0,.int .i64 0,.int .i64 0,.int .i64 0,.int .i64 0,.int .i64 0,.int .i64 0,.int .i64 0,.int .i64 0,.int .i64 0,.int .i64 0,.slice none 0 0,.slice none 0 0,.slice none 0 0,.slice none 0 0] 41 (0,0)) (.cells #[.int .i64 k,.int .i64 a,.int .i64 1] 61 (0,0)):=by
   refine Bx.drew (cR.step ⟨rfl,rfl,rfl,by simp[World.setRow],fun q hq=>?_⟩);simp only[World.setRow,dj];rw[if_neg (by omega)]
  have fS:(W2.setRow g bj).drew.heap[g]?=some (.cells bj 61 (0,0)):=setRow_heap W2 g cur bj 61 (0,0) dt;clear BS cR gQ e0 e1 e2 ef rz vW CG CH dt;generalize LB:W2.setRow g bj=W3 at*;clear LB
  have vz:∀j u,(cells.drop ((i+1)*3))[j]?=some u→bj[(i+1)*3+j]?=some u:=fun j u hj=>by
   rw[dN,←fJ,dm] at hj;split at hj
   ·rw[←wZ,vI,jq,iJ (by rw[db];omega),db,iM (by rw[qM];omega),iJ (by simp;omega),dN];rw[←hj]
    congr 1
    simp;omega
   ·cases hj
  have aP:(cells.drop ((i+1)*3)).length=(N-(i+1))*3:=by rw[qQ,←fJ,db,qM];omega
  have LO:∀u∈cells.drop ((i+1)*3),u.oneCell'=true:=fun u hu=>ib u (xc hu);have hNi:i+1+(N-(i+1))=N:=by omega
  have fA:IntKind.i64.wrap ((i:Int)+1)=(i:Int)+1:=by rw[IntKind.wrap_i64];omega
  have bW:(0:Int)≤(i:Int)+1:=by omega
  have bk:(i:Int)+1≤(N:Int):=by omega
  have fa:(i:Int)+1≤(cap:Int):=by omega
  have MW:((i:Int)+1).toNat=i+1:=by omega
  have tn:(w.heap.size==g)=false:=by simp;omega
  have mixed:Tryz.prog.follows .mixedOrders=true:=by kernel_rfl
  have HC:Hid (∀j u,(cells.take (i*3)++[.int .i64 k,.int .i64 a,.int .i64 1]++cells.drop ((i+1)*3))[j]?=some u→bj[j]?=some u):=fun j u hj=>by
   have e:cells.take (i*3)++[.int .i64 k,.int .i64 a,.int .i64 1]++cells.drop ((i+1)*3)=bj.toList.take (N*3):=by
        rw[vI,←fJ,EI,iM (by omega),List.drop_take,show(i+1)*3=i*3+3 by omega];have hA:(cur.toList.take (i*3)++[Value.int .i64 k,.int .i64 a,.int .i64 1]).length=i*3+3:=by simp;omega
        rw[List.take_append,sH (l:=cur.toList.take (i*3)++_) (by omega),hA]
   rw[e,dm] at hj;split at hj
   ·simpa using hj
   ·cases hj
  clear fJ vI;by_cases eN:cap=i+1
  ·obtain rfl:N=i+1:=by omega
   subst eN
   go_region_with_o (go_at_call 35
                     refine(F6 _ _ _ _ (hD W3.drew _ _ _ cw.below ⟨aP,.inl ⟨some ⟨g,0,none⟩,rfl,by omega⟩⟩ (by simp[World.cell?,cw.b]) (by simp[World.cell?,cw.c]))).mono ?_;rintro e W4 ⟨rfl,kr⟩;have bq:=cw.step (kr.mono cw.size);have la:W4.heap[g]?=some (.cells bj 61 (0,0)):=(kr.block g (dy.1 fS).1).trans fS;have mF:W4.cell? ⟨w.heap.size,18,none⟩=some gZ:=by simp[World.cell?,bq.a,lU]
                     have cf:W4.frozen? ⟨w.heap.size,18,none⟩=false:=by simp[World.frozen?,bq.a]
                     clear kr cw fS)
   have hA:=setCell_eq_setRow W4 w.heap.size 18 vs 41 (0,0) (.slice (some ⟨g,0,none⟩) (i+1) (i+1)) bq.a;rw[hA];have kZ:(W4.setRow w.heap.size (vs.setIfInBounds 18 (.slice (some ⟨g,0,none⟩) (i+1) (i+1)))).heap[w.heap.size]?=some (.cells (vs.setIfInBounds 18 (.slice (some ⟨g,0,none⟩) (i+1) (i+1))) 41 (0,0)):=setRow_heap W4 w.heap.size vs _ 41 (0,0) bq.a;have gh:(W4.setRow w.heap.size (vs.setIfInBounds 18 (.slice (some ⟨g,0,none⟩) (i+1) (i+1)))).heap[w.heap.size+1+1+1]?=some (.cells #[.int .i64 0,.int .i64 0,.int .i64 0,.int .i64 0,.int .i64 0,.int .i64 0,.int .i64 0,.int .i64 0,.int .i64 0,.int .i64 0,.int .i64 0,.int .i64 0,.int .i64 0,.int .i64 0,.int .i64 0,.slice none 0 0,.slice none 0 0,.slice none 0 0,.slice none 0 0] 41 (0,0)):=by
        rw[←bq.d];simp only[World.setRow,dj];rw[if_neg (by omega)]
   have fJ:(W4.setRow w.heap.size (vs.setIfInBounds 18 (.slice (some ⟨g,0,none⟩) (i+1) (i+1)))).heap[g]?=some (.cells bj 61 (0,0)):=by
        rw[←la];simp only[World.setRow,dj];rw[if_neg (by omega)]
   have kY:Below w.heap.size w (W4.setRow w.heap.size (vs.setIfInBounds 18 (.slice (some ⟨g,0,none⟩) (i+1) (i+1)))):=by
        refine bq.below.trans ⟨rfl,rfl,rfl,by simp[World.setRow],fun q hq=>?_⟩;simp only[World.setRow,dj];rw[if_neg (by omega)]
   have aD:(vs.setIfInBounds 18 (.slice (some ⟨g,0,none⟩) (i+1) (i+1))).all (·.oneCell')=true:=by
        rw[su] at h1 ⊢;intro u hu;rcases uN hu with h|h
        ·exact h1 u h
        ·subst h;rfl
   have gm:(vs.setIfInBounds 18 (.slice (some ⟨g,0,none⟩) (i+1) (i+1))).size=19:=by simp[cr]
   generalize W4.setRow w.heap.size (vs.setIfInBounds 18 (.slice (some ⟨g,0,none⟩) (i+1) (i+1)))=W6 at*;generalize oT:vs.setIfInBounds 18 (.slice (some ⟨g,0,none⟩) (i+1) (i+1))=aZ at*;have HV:Hid (vs.setIfInBounds 18 (.slice (some ⟨g,0,none⟩) (i+1) (i+1))=aZ):=oT;clear oT;have eh:(Tryz.prog.info? 41).map (·.size)=some aZ.size:=by rw[gm];kernel_rfl
   clear hA mF cf bq la
   go_wp2_with (first
        |(refine wpList_load_row rfl 41 _ rfl w.heap.size rfl 41 aZ (0,0) _ kZ Tryz.underlying41 rfl eh ?_)
        |(refine wpList_store_row rfl 41 _ _ rfl (w.heap.size+1+1+1) aZ rfl rfl 41 _ gh eh (by rw[gm];rfl) aD ?_))
   refine bodyPost_ret (results_cell_row (p:=8) (ty:=41) rfl _ _ (w.heap.size+1+1+1) 41 aZ (0,0) _ rfl (setRow_heap W6 (w.heap.size+1+1+1) _ aZ 41 (0,0) gh) Tryz.underlying41 rfl eh) rfl ?_;refine⟨_,g,i+1,by rw[HV.out],?_,by omega,rfl,tl,dI,fun j u hj=>?_⟩
   ·refine kY.trans ⟨rfl,rfl,rfl,by simp[World.setRow],fun q hq=>?_⟩;simp only[World.setRow,dj];rw[if_neg (by omega)]
   ·have ld:(W6.setRow (w.heap.size+1+1+1) aZ).heap[g]?=some (.cells bj 61 (0,0)):=by
     rw[←fJ];simp only[World.setRow,dj];rw[if_neg (by omega)]
    have:=HC.out j u hj;simpa [World.cell?,ld] using this
  ·go_region_with_o (go_at_call 35
                     refine(F6 _ _ _ _ (hD W3.drew _ _ _ cw.below ⟨aP,.inr ⟨g,(i+1)*3,cap-(i+1),rfl,by omega,by omega,fun j u hj=>by have:=vz j u hj;simpa [World.cell?,fS] using this⟩⟩ (by simp[World.cell?,cw.b]) (by simp[World.cell?,cw.c]))).mono ?_;rintro e W4 ⟨rfl,kr⟩;have bq:=cw.step (kr.mono cw.size);have la:W4.heap[g]?=some (.cells bj 61 (0,0)):=(kr.block g (dy.1 fS).1).trans fS;have yR:=V4 W4 ⟨g,(i+1)*3,none⟩ ((N-(i+1))*3) (cells.drop ((i+1)*3)) aP (fun j u hj=>by have:=vz j u hj;rw[Addr.add_lit];simpa [World.cell?,la] using this);have bX:=ZV W4 g ((i+1)*3) bj (cells.drop ((i+1)*3)) la vz LO;have mF:W4.cell? ⟨w.heap.size,18,none⟩=some gZ:=by simp[World.cell?,bq.a,lU]
                     have cf:W4.frozen? ⟨w.heap.size,18,none⟩=false:=by simp[World.frozen?,bq.a]
                     clear kr cw fS)
   have hA:=setCell_eq_setRow W4 w.heap.size 18 vs 41 (0,0) (.slice (some ⟨g,0,none⟩) N cap) bq.a;rw[hA];have kZ:(W4.setRow w.heap.size (vs.setIfInBounds 18 (.slice (some ⟨g,0,none⟩) N cap))).heap[w.heap.size]?=some (.cells (vs.setIfInBounds 18 (.slice (some ⟨g,0,none⟩) N cap)) 41 (0,0)):=setRow_heap W4 w.heap.size vs _ 41 (0,0) bq.a;have gh:(W4.setRow w.heap.size (vs.setIfInBounds 18 (.slice (some ⟨g,0,none⟩) N cap))).heap[w.heap.size+1+1+1]?=some (.cells #[.int .i64 0,.int .i64 0,.int .i64 0,.int .i64 0,.int .i64 0,.int .i64 0,.int .i64 0,.int .i64 0,.int .i64 0,.int .i64 0,.int .i64 0,.int .i64 0,.int .i64 0,.int .i64 0,.int .i64 0,.slice none 0 0,.slice none 0 0,.slice none 0 0,.slice none 0 0] 41 (0,0)):=by
        rw[←bq.d];simp only[World.setRow,dj];rw[if_neg (by omega)]
   have fJ:(W4.setRow w.heap.size (vs.setIfInBounds 18 (.slice (some ⟨g,0,none⟩) N cap))).heap[g]?=some (.cells bj 61 (0,0)):=by
        rw[←la];simp only[World.setRow,dj];rw[if_neg (by omega)]
   have kY:Below w.heap.size w (W4.setRow w.heap.size (vs.setIfInBounds 18 (.slice (some ⟨g,0,none⟩) N cap))):=by
        refine bq.below.trans ⟨rfl,rfl,rfl,by simp[World.setRow],fun q hq=>?_⟩;simp only[World.setRow,dj];rw[if_neg (by omega)]
   have aD:(vs.setIfInBounds 18 (.slice (some ⟨g,0,none⟩) N cap)).all (·.oneCell')=true:=by
        rw[su] at h1 ⊢;intro u hu;rcases uN hu with h|h
        ·exact h1 u h
        ·subst h;rfl
   have gm:(vs.setIfInBounds 18 (.slice (some ⟨g,0,none⟩) N cap)).size=19:=by simp[cr]
   generalize W4.setRow w.heap.size (vs.setIfInBounds 18 (.slice (some ⟨g,0,none⟩) N cap))=W6 at*;generalize oT:vs.setIfInBounds 18 (.slice (some ⟨g,0,none⟩) N cap)=aZ at*;have HV:Hid (vs.setIfInBounds 18 (.slice (some ⟨g,0,none⟩) N cap)=aZ):=oT;clear oT;have eh:(Tryz.prog.info? 41).map (·.size)=some aZ.size:=by rw[gm];kernel_rfl
   clear yR bX hA mF cf bq la
   go_wp2_with (first
        |(refine wpList_load_row rfl 41 _ rfl w.heap.size rfl 41 aZ (0,0) _ kZ Tryz.underlying41 rfl eh ?_)
        |(refine wpList_store_row rfl 41 _ _ rfl (w.heap.size+1+1+1) aZ rfl rfl 41 _ gh eh (by rw[gm];rfl) aD ?_))
   refine bodyPost_ret (results_cell_row (p:=8) (ty:=41) rfl _ _ (w.heap.size+1+1+1) 41 aZ (0,0) _ rfl (setRow_heap W6 (w.heap.size+1+1+1) _ aZ 41 (0,0) gh) Tryz.underlying41 rfl eh) rfl ?_;refine⟨_,g,cap,by rw[HV.out],?_,by omega,rfl,tl,dI,fun j u hj=>?_⟩
   ·refine kY.trans ⟨rfl,rfl,rfl,by simp[World.setRow],fun q hq=>?_⟩;simp only[World.setRow,dj];rw[if_neg (by omega)]
   ·have ld:(W6.setRow (w.heap.size+1+1+1) aZ).heap[g]?=some (.cells bj 61 (0,0)):=by
     rw[←fJ];simp only[World.setRow,dj];rw[if_neg (by omega)]
    have:=HC.out j u hj;simpa [World.cell?,ld] using this
set_option maxHeartbeats 4000000 in
theorem alV (vs:Array Value)(gZ:Value)(cr:vs.size=19)(lU:vs[18]?=some gZ)(h1:vs.all (·.oneCell')=true)(k a n m:Int)(hm:n=0∧m=0∨n≠0∧m=1)
 (w:World) (N j:Nat) (jv:Int) (hj:jv<0∧j=N∨jv=(j:Int)∧j≤N) (cells:List Value) (ff:eG w gZ N cells) (hN:N≤4294967296) (ib:∀v∈cells,v.oneCell'=true)
 (hI:∀W v p q,Below w.heap.size w W→eG W v N cells→W.cell? ⟨p,0,none⟩=some (.int .i64 k)→W.cell? ⟨q,0,none⟩=some (.int .i64 a)→Calls Tryz.prog 34 #[v,xZ 32 p q] W fun e w'=>e=.returned (.int .i64 (-1))∧Below W.heap.size W w')
 (hJ:∀W v p q,Below w.heap.size w W→eG W v N cells→W.cell? ⟨p,0,none⟩=some (.int .i64 a)→W.cell? ⟨q,0,none⟩=some (.int .i64 k)→Calls Tryz.prog 34 #[v,xZ 36 p q] W fun e w'=>e=.returned (.int .i64 jv)∧Below W.heap.size W w'):
 Calls Tryz.prog 16 #[.agg vs,.int .i64 k,.int .i64 a,.int .i64 n] w fun e w'=>∃v' g c,e=.returned (.agg (vs.setIfInBounds 18 v'))∧
  Below w.heap.size w w'∧w.heap.size≤g∧v'=.slice (some ⟨g,0,none⟩) (N+1) c∧N+1≤c∧c≤maxLen∧∀i u,(cells.take (j*3)++[.int .i64 k,.int .i64 a,.int .i64 m]++cells.drop (j*3))[i]?=some u→w'.cell? ⟨g,i,none⟩=some u:=by
 have ahz:vs[18]'(by omega)=gZ:=(dy.1 lU).2;have GU:j≤N:=by omega
 rcases hm with⟨rfl,rfl⟩|⟨hn,rfl⟩
 ·rcases hj with⟨hj,L6⟩|⟨rfl,hj⟩
  obtain rfl:N=j:=L6.symm
  ·go_enter Tryz.func16,Tryz.ntmps16
   go_wp2_with (first
        |(go_at_call 33
          have di:=xl w (.cells vs 41 (0,0)) (.cells #[.int .i64 k] 3 (0,0)) (.cells #[.int .i64 a] 3 (0,0)) (.cells #[.int .i64 0,.int .i64 0,.int .i64 0,.int .i64 0,.int .i64 0,.int .i64 0,.int .i64 0,.int .i64 0,.int .i64 0,.int .i64 0,.int .i64 0,.int .i64 0,.int .i64 0,.int .i64 0,.int .i64 0,.slice none 0 0,.slice none 0 0,.slice none 0 0,.slice none 0 0] 41 (0,0)) (.cells #[.int .i64 k,.int .i64 a,.int .i64 0] 61 (0,0));refine(ya gZ N cells _ (ff.below di.below) hN ib).mono ?_;rintro e W1 ⟨v',rfl,aW,bW⟩;have bM:=di.step (bW.mono di.size);have hB:w.heap.size+5≤(((((w.alloc (.cells vs 41 (0,0))).alloc (.cells #[.int .i64 k] 3 (0,0))).alloc (.cells #[.int .i64 a] 3 (0,0))).alloc (.cells #[.int .i64 0,.int .i64 0,.int .i64 0,.int .i64 0,.int .i64 0,.int .i64 0,.int .i64 0,.int .i64 0,.int .i64 0,.int .i64 0,.int .i64 0,.int .i64 0,.int .i64 0,.int .i64 0,.int .i64 0,.slice none 0 0,.slice none 0 0,.slice none 0 0,.slice none 0 0] 41 (0,0))).alloc (.cells #[.int .i64 k,.int .i64 a,.int .i64 0] 61 (0,0))).heap.size:=di.size;have kW:(((((w.alloc (.cells vs 41 (0,0))).alloc (.cells #[.int .i64 k] 3 (0,0))).alloc (.cells #[.int .i64 a] 3 (0,0))).alloc (.cells #[.int .i64 0,.int .i64 0,.int .i64 0,.int .i64 0,.int .i64 0,.int .i64 0,.int .i64 0,.int .i64 0,.int .i64 0,.int .i64 0,.int .i64 0,.int .i64 0,.int .i64 0,.int .i64 0,.int .i64 0,.slice none 0 0,.slice none 0 0,.slice none 0 0,.slice none 0 0] 41 (0,0))).alloc (.cells #[.int .i64 k,.int .i64 a,.int .i64 0] 61 (0,0))).heap.size≤W1.heap.size:=bW.size;generalize (((((w.alloc (.cells vs 41 (0,0))).alloc (.cells #[.int .i64 k] 3 (0,0))).alloc (.cells #[.int .i64 a] 3 (0,0))).alloc (.cells #[.int .i64 0,.int .i64 0,.int .i64 0,.int .i64 0,.int .i64 0,.int .i64 0,.int .i64 0,.int .i64 0,.int .i64 0,.int .i64 0,.int .i64 0,.int .i64 0,.int .i64 0,.int .i64 0,.int .i64 0,.slice none 0 0,.slice none 0 0,.slice none 0 0,.slice none 0 0] 41 (0,0))).alloc (.cells #[.int .i64 k,.int .i64 a,.int .i64 0] 61 (0,0))).heap.size=B0 at aW hB kW;clear bW di)
        |(go_at_call 34
          refine(hI W1 v' (w.heap.size+1) (w.heap.size+1+1) bM.below (eG.of_own aW) (by simp[World.cell?,bM.b]) (by simp[World.cell?,bM.c])).mono ?_;rintro e W2 ⟨rfl,bk⟩;have cR:=bM.step (bk.mono bM.size);have gQ:=me aW bk;have kX:B0≤W2.heap.size:=cC kW bk.size;clear bk bM aW kW)
        |(go_at_call 34
          refine(hJ W2 v' (w.heap.size+1+1) (w.heap.size+1) cR.below (eG.of_own gQ) (by simp[World.cell?,cR.c]) (by simp[World.cell?,cR.b])).mono ?_;rintro e W3 ⟨rfl,fa⟩;have cw:=cR.step (fa.mono cR.size);have gk:=me gQ fa;have Lv:B0≤W3.heap.size:=cC kX fa.size;obtain⟨e0,e1,e2,ef⟩:=xn W3 _ _ _ _ cw.e;have hlen:∃p c,v'=.slice p N c:=by
           rcases gk.2 with⟨e,h0⟩|⟨g,cap,cur,e,_⟩
           ·exact⟨none,0,by rw[e,h0]⟩
           ·exact⟨_,_,e⟩
          obtain⟨p0,c0,rfl⟩:=hlen;clear fa cR gQ kX)
        |(go_at_call 39
          refine(Hs B0 (.slice p0 N c0) N N cells [.int .i64 k,.int .i64 a,.int .i64 0] W3.heap.size (W3.alloc (.cells #[.int .i64 k,.int .i64 a,.int .i64 0] 61)) (by simp;omega) (me gk ((Below.refl _ _).alloc (aU _) _)) GU hN rfl (by show(W3.heap.push _)[W3.heap.size]?=_;exact Ap) (by simp[Value.oneCell']) ib (fun e=>by have:=(gk.lt _ e).2;omega)).mono ?_;rintro e W4 ⟨wU,rfl,oQ,dI⟩
          have jA:Below (w.heap.size+5) W3 W4:=⟨dI.os,dI.tape,dI.output,cC (by simp) dI.size,fun q hq=>by
           have hs:=cw.size;refine(dI.block q (by simp;omega) (fun e=>?_)).trans (Below.heap_alloc _ _ _ (by omega));have:=(gk.lt q e.symm).1;omega⟩
          have bq:=cw.step jA;have mF:W4.cell? ⟨w.heap.size,18,none⟩=some gZ:=by simp[World.cell?,bq.a,lU]
          have cf:W4.frozen? ⟨w.heap.size,18,none⟩=false:=by simp[World.frozen?,bq.a]
          obtain⟨g,cap,bj,rfl,bH,bt,gE,lS,L7,oK⟩:∃g cap bj,wU=.slice (some ⟨g,0,none⟩) (N+1) cap∧B0≤g∧W4.heap[g]?=some (.cells bj 61 (0,0))∧N+1≤cap∧cap≤maxLen∧bj.size=cap*3∧bj.toList.take ((N+1)*3)=cells.take (N*3)++[.int .i64 k,.int .i64 a,.int .i64 0]++cells.drop (N*3):=by
           rcases oQ.2 with⟨_,h0⟩|h
           ·exact absurd h0 (by omega)
           ·exact h
          obtain⟨aZ,HV⟩:∃y,Hid (vs.setIfInBounds 18 (.slice (some ⟨g,0,none⟩) (N+1) cap)=y):=⟨_,rfl⟩
          have hX:=setCell_eq_setRow W4 w.heap.size 18 vs 41 (0,0) (.slice (some ⟨g,0,none⟩) (N+1) cap) bq.a;rw[HV.out] at hX;have kZ:(W4.setCell ⟨w.heap.size,18,none⟩ (.slice (some ⟨g,0,none⟩) (N+1) cap)).heap[w.heap.size]?=some (.cells aZ 41 (0,0)):=by rw[hX];exact setRow_heap W4 w.heap.size vs aZ 41 (0,0) bq.a
          have gh:(W4.setCell ⟨w.heap.size,18,none⟩ (.slice (some ⟨g,0,none⟩) (N+1) cap)).heap[w.heap.size+1+1+1]?=some (.cells #[.int .i64 0,.int .i64 0,.int .i64 0,.int .i64 0,.int .i64 0,.int .i64 0,.int .i64 0,.int .i64 0,.int .i64 0,.int .i64 0,.int .i64 0,.int .i64 0,.int .i64 0,.int .i64 0,.int .i64 0,.slice none 0 0,.slice none 0 0,.slice none 0 0,.slice none 0 0] 41 (0,0)):=by
           rw[←bq.d];exact Below.heap_setCell _ _ _ _ (by show w.heap.size+1+1+1≠w.heap.size;omega)
          have fJ:(W4.setCell ⟨w.heap.size,18,none⟩ (.slice (some ⟨g,0,none⟩) (N+1) cap)).heap[g]?=some (.cells bj 61 (0,0)):=by
           rw[←bt];exact Below.heap_setCell _ _ _ _ (by show g≠w.heap.size;omega)
          have kY:Below w.heap.size w (W4.setCell ⟨w.heap.size,18,none⟩ (.slice (some ⟨g,0,none⟩) (N+1) cap)):=bq.below.setCell (aU _) _;have aD:aZ.all (·.oneCell')=true:=by
           rw[←HV.out];rw[su] at h1 ⊢;intro u hu;rcases uN hu with h|h
           ·exact h1 u h
           ·subst h;rfl
          have gm:aZ.size=19:=by rw[←HV.out];simp[cr]
          have eh:(Tryz.prog.info? 41).map (·.size)=some aZ.size:=by rw[gm];kernel_rfl
          have HK:Hid (bj.toList.take ((N+1)*3)=cells.take (N*3)++[.int .i64 k,.int .i64 a,.int .i64 0]++cells.drop (N*3)):=oK;have fS:w.heap.size+5≤g:=cC hB bH;clear jA dI oQ gk cw e0 e1 e2 ef hX oK bt bq bH)
        |(refine wpList_load_row rfl 41 _ rfl w.heap.size rfl 41 aZ (0,0) _ kZ Tryz.underlying41 rfl eh ?_)
        |(refine wpList_store_row rfl 41 _ _ rfl (w.heap.size+1+1+1) aZ rfl rfl 41 _ gh eh (by rw[gm];rfl) aD ?_))
   refine bodyPost_ret (results_cell_row (p:=8) (ty:=41) rfl _ _ (w.heap.size+1+1+1) 41 aZ (0,0) _ rfl (setRow_heap _ (w.heap.size+1+1+1) _ aZ 41 (0,0) gh) Tryz.underlying41 rfl eh) rfl ?_;refine⟨_,g,cap,by rw[HV.out],?_,by omega,rfl,gE,lS,fun i u hj=>?_⟩
   ·refine kY.trans ⟨rfl,rfl,rfl,by simp[World.setRow],fun q hq=>?_⟩;simp only[World.setRow,dj];rw[if_neg (by omega)]
   ·have ld:((W4.setCell ⟨w.heap.size,18,none⟩ (.slice (some ⟨g,0,none⟩) (N+1) cap)).setRow (w.heap.size+1+1+1) aZ).heap[g]?=some (.cells bj 61 (0,0)):=by
     rw[←fJ];simp only[World.setRow,dj];rw[if_neg (by omega)]
    rw[←HK.out,dm] at hj;split at hj
    ·simpa [World.cell?,ld] using hj
    ·cases hj
  ·go_enter Tryz.func16,Tryz.ntmps16
   go_wp2_with (first
        |(go_at_call 33
          have di:=xl w (.cells vs 41 (0,0)) (.cells #[.int .i64 k] 3 (0,0)) (.cells #[.int .i64 a] 3 (0,0)) (.cells #[.int .i64 0,.int .i64 0,.int .i64 0,.int .i64 0,.int .i64 0,.int .i64 0,.int .i64 0,.int .i64 0,.int .i64 0,.int .i64 0,.int .i64 0,.int .i64 0,.int .i64 0,.int .i64 0,.int .i64 0,.slice none 0 0,.slice none 0 0,.slice none 0 0,.slice none 0 0] 41 (0,0)) (.cells #[.int .i64 k,.int .i64 a,.int .i64 0] 61 (0,0));refine(ya gZ N cells _ (ff.below di.below) hN ib).mono ?_;rintro e W1 ⟨v',rfl,aW,bW⟩;have bM:=di.step (bW.mono di.size);have hB:w.heap.size+5≤(((((w.alloc (.cells vs 41 (0,0))).alloc (.cells #[.int .i64 k] 3 (0,0))).alloc (.cells #[.int .i64 a] 3 (0,0))).alloc (.cells #[.int .i64 0,.int .i64 0,.int .i64 0,.int .i64 0,.int .i64 0,.int .i64 0,.int .i64 0,.int .i64 0,.int .i64 0,.int .i64 0,.int .i64 0,.int .i64 0,.int .i64 0,.int .i64 0,.int .i64 0,.slice none 0 0,.slice none 0 0,.slice none 0 0,.slice none 0 0] 41 (0,0))).alloc (.cells #[.int .i64 k,.int .i64 a,.int .i64 0] 61 (0,0))).heap.size:=di.size;have kW:(((((w.alloc (.cells vs 41 (0,0))).alloc (.cells #[.int .i64 k] 3 (0,0))).alloc (.cells #[.int .i64 a] 3 (0,0))).alloc (.cells #[.int .i64 0,.int .i64 0,.int .i64 0,.int .i64 0,.int .i64 0,.int .i64 0,.int .i64 0,.int .i64 0,.int .i64 0,.int .i64 0,.int .i64 0,.int .i64 0,.int .i64 0,.int .i64 0,.int .i64 0,.slice none 0 0,.slice none 0 0,.slice none 0 0,.slice none 0 0] 41 (0,0))).alloc (.cells #[.int .i64 k,.int .i64 a,.int .i64 0] 61 (0,0))).heap.size≤W1.heap.size:=bW.size;generalize (((((w.alloc (.cells vs 41 (0,0))).alloc (.cells #[.int .i64 k] 3 (0,0))).alloc (.cells #[.int .i64 a] 3 (0,0))).alloc (.cells #[.int .i64 0,.int .i64 0,.int .i64 0,.int .i64 0,.int .i64 0,.int .i64 0,.int .i64 0,.int .i64 0,.int .i64 0,.int .i64 0,.int .i64 0,.int .i64 0,.int .i64 0,.int .i64 0,.int .i64 0,.slice none 0 0,.slice none 0 0,.slice none 0 0,.slice none 0 0] 41 (0,0))).alloc (.cells #[.int .i64 k,.int .i64 a,.int .i64 0] 61 (0,0))).heap.size=B0 at aW hB kW;clear bW di)
        |(go_at_call 34
          refine(hI W1 v' (w.heap.size+1) (w.heap.size+1+1) bM.below (eG.of_own aW) (by simp[World.cell?,bM.b]) (by simp[World.cell?,bM.c])).mono ?_;rintro e W2 ⟨rfl,bk⟩;have cR:=bM.step (bk.mono bM.size);have gQ:=me aW bk;have kX:B0≤W2.heap.size:=cC kW bk.size;clear bk bM aW kW)
        |(go_at_call 34
          refine(hJ W2 v' (w.heap.size+1+1) (w.heap.size+1) cR.below (eG.of_own gQ) (by simp[World.cell?,cR.c]) (by simp[World.cell?,cR.b])).mono ?_;rintro e W3 ⟨rfl,fa⟩;have cw:=cR.step (fa.mono cR.size);have gk:=me gQ fa;have Lv:B0≤W3.heap.size:=cC kX fa.size;obtain⟨e0,e1,e2,ef⟩:=xn W3 _ _ _ _ cw.e;have hlen:∃p c,v'=.slice p N c:=by
           rcases gk.2 with⟨e,h0⟩|⟨g,cap,cur,e,_⟩
           ·exact⟨none,0,by rw[e,h0]⟩
           ·exact⟨_,_,e⟩
          obtain⟨p0,c0,rfl⟩:=hlen;clear fa cR gQ kX)
        |(go_at_call 39
          refine(Hs B0 (.slice p0 N c0) N j cells [.int .i64 k,.int .i64 a,.int .i64 0] W3.heap.size (W3.alloc (.cells #[.int .i64 k,.int .i64 a,.int .i64 0] 61)) (by simp;omega) (me gk ((Below.refl _ _).alloc (aU _) _)) GU hN rfl (by show(W3.heap.push _)[W3.heap.size]?=_;exact Ap) (by simp[Value.oneCell']) ib (fun e=>by have:=(gk.lt _ e).2;omega)).mono ?_;rintro e W4 ⟨wU,rfl,oQ,dI⟩
          have jA:Below (w.heap.size+5) W3 W4:=⟨dI.os,dI.tape,dI.output,cC (by simp) dI.size,fun q hq=>by
           have hs:=cw.size;refine(dI.block q (by simp;omega) (fun e=>?_)).trans (Below.heap_alloc _ _ _ (by omega));have:=(gk.lt q e.symm).1;omega⟩
          have bq:=cw.step jA;have mF:W4.cell? ⟨w.heap.size,18,none⟩=some gZ:=by simp[World.cell?,bq.a,lU]
          have cf:W4.frozen? ⟨w.heap.size,18,none⟩=false:=by simp[World.frozen?,bq.a]
          obtain⟨g,cap,bj,rfl,bH,bt,gE,lS,L7,oK⟩:∃g cap bj,wU=.slice (some ⟨g,0,none⟩) (N+1) cap∧B0≤g∧W4.heap[g]?=some (.cells bj 61 (0,0))∧N+1≤cap∧cap≤maxLen∧bj.size=cap*3∧bj.toList.take ((N+1)*3)=cells.take (j*3)++[.int .i64 k,.int .i64 a,.int .i64 0]++cells.drop (j*3):=by
           rcases oQ.2 with⟨_,h0⟩|h
           ·exact absurd h0 (by omega)
           ·exact h
          obtain⟨aZ,HV⟩:∃y,Hid (vs.setIfInBounds 18 (.slice (some ⟨g,0,none⟩) (N+1) cap)=y):=⟨_,rfl⟩
          have hX:=setCell_eq_setRow W4 w.heap.size 18 vs 41 (0,0) (.slice (some ⟨g,0,none⟩) (N+1) cap) bq.a;rw[HV.out] at hX;have kZ:(W4.setCell ⟨w.heap.size,18,none⟩ (.slice (some ⟨g,0,none⟩) (N+1) cap)).heap[w.heap.size]?=some (.cells aZ 41 (0,0)):=by rw[hX];exact setRow_heap W4 w.heap.size vs aZ 41 (0,0) bq.a
          have gh:(W4.setCell ⟨w.heap.size,18,none⟩ (.slice (some ⟨g,0,none⟩) (N+1) cap)).heap[w.heap.size+1+1+1]?=some (.cells #[.int .i64 0,.int .i64 0,.int .i64 0,.int .i64 0,.int .i64 0,.int .i64 0,.int .i64 0,.int .i64 0,.int .i64 0,.int .i64 0,.int .i64 0,.int .i64 0,.int .i64 0,.int .i64 0,.int .i64 0,.slice none 0 0,.slice none 0 0,.slice none 0 0,.slice none 0 0] 41 (0,0)):=by
           rw[←bq.d];exact Below.heap_setCell _ _ _ _ (by show w.heap.size+1+1+1≠w.heap.size;omega)
          have fJ:(W4.setCell ⟨w.heap.size,18,none⟩ (.slice (some ⟨g,0,none⟩) (N+1) cap)).heap[g]?=some (.cells bj 61 (0,0)):=by
           rw[←bt];exact Below.heap_setCell _ _ _ _ (by show g≠w.heap.size;omega)
          have kY:Below w.heap.size w (W4.setCell ⟨w.heap.size,18,none⟩ (.slice (some ⟨g,0,none⟩) (N+1) cap)):=bq.below.setCell (aU _) _;have aD:aZ.all (·.oneCell')=true:=by
           rw[←HV.out];rw[su] at h1 ⊢;intro u hu;rcases uN hu with h|h
           ·exact h1 u h
           ·subst h;rfl
          have gm:aZ.size=19:=by rw[←HV.out];simp[cr]
          have eh:(Tryz.prog.info? 41).map (·.size)=some aZ.size:=by rw[gm];kernel_rfl
          have HK:Hid (bj.toList.take ((N+1)*3)=cells.take (j*3)++[.int .i64 k,.int .i64 a,.int .i64 0]++cells.drop (j*3)):=oK;have fS:w.heap.size+5≤g:=cC hB bH;clear jA dI oQ gk cw e0 e1 e2 ef hX oK bt bq bH)
        |(refine wpList_load_row rfl 41 _ rfl w.heap.size rfl 41 aZ (0,0) _ kZ Tryz.underlying41 rfl eh ?_)
        |(refine wpList_store_row rfl 41 _ _ rfl (w.heap.size+1+1+1) aZ rfl rfl 41 _ gh eh (by rw[gm];rfl) aD ?_))
   refine bodyPost_ret (results_cell_row (p:=8) (ty:=41) rfl _ _ (w.heap.size+1+1+1) 41 aZ (0,0) _ rfl (setRow_heap _ (w.heap.size+1+1+1) _ aZ 41 (0,0) gh) Tryz.underlying41 rfl eh) rfl ?_;refine⟨_,g,cap,by rw[HV.out],?_,by omega,rfl,gE,lS,fun i u hj=>?_⟩
   ·refine kY.trans ⟨rfl,rfl,rfl,by simp[World.setRow],fun q hq=>?_⟩;simp only[World.setRow,dj];rw[if_neg (by omega)]
   ·have ld:((W4.setCell ⟨w.heap.size,18,none⟩ (.slice (some ⟨g,0,none⟩) (N+1) cap)).setRow (w.heap.size+1+1+1) aZ).heap[g]?=some (.cells bj 61 (0,0)):=by
     rw[←fJ];simp only[World.setRow,dj];rw[if_neg (by omega)]
    rw[←HK.out,dm] at hj;split at hj
    ·simpa [World.cell?,ld] using hj
    ·cases hj
 ·rcases hj with⟨hj,L6⟩|⟨rfl,hj⟩
  obtain rfl:N=j:=L6.symm
  ·go_enter Tryz.func16,Tryz.ntmps16
   go_wp2_with (first
        |(go_at_call 33
          have di:=xl w (.cells vs 41 (0,0)) (.cells #[.int .i64 k] 3 (0,0)) (.cells #[.int .i64 a] 3 (0,0)) (.cells #[.int .i64 0,.int .i64 0,.int .i64 0,.int .i64 0,.int .i64 0,.int .i64 0,.int .i64 0,.int .i64 0,.int .i64 0,.int .i64 0,.int .i64 0,.int .i64 0,.int .i64 0,.int .i64 0,.int .i64 0,.slice none 0 0,.slice none 0 0,.slice none 0 0,.slice none 0 0] 41 (0,0)) (.cells #[.int .i64 k,.int .i64 a,.int .i64 1] 61 (0,0));refine(ya gZ N cells _ (ff.below di.below) hN ib).mono ?_;rintro e W1 ⟨v',rfl,aW,bW⟩;have bM:=di.step (bW.mono di.size);have hB:w.heap.size+5≤(((((w.alloc (.cells vs 41 (0,0))).alloc (.cells #[.int .i64 k] 3 (0,0))).alloc (.cells #[.int .i64 a] 3 (0,0))).alloc (.cells #[.int .i64 0,.int .i64 0,.int .i64 0,.int .i64 0,.int .i64 0,.int .i64 0,.int .i64 0,.int .i64 0,.int .i64 0,.int .i64 0,.int .i64 0,.int .i64 0,.int .i64 0,.int .i64 0,.int .i64 0,.slice none 0 0,.slice none 0 0,.slice none 0 0,.slice none 0 0] 41 (0,0))).alloc (.cells #[.int .i64 k,.int .i64 a,.int .i64 1] 61 (0,0))).heap.size:=di.size;have kW:(((((w.alloc (.cells vs 41 (0,0))).alloc (.cells #[.int .i64 k] 3 (0,0))).alloc (.cells #[.int .i64 a] 3 (0,0))).alloc (.cells #[.int .i64 0,.int .i64 0,.int .i64 0,.int .i64 0,.int .i64 0,.int .i64 0,.int .i64 0,.int .i64 0,.int .i64 0,.int .i64 0,.int .i64 0,.int .i64 0,.int .i64 0,.int .i64 0,.int .i64 0,.slice none 0 0,.slice none 0 0,.slice none 0 0,.slice none 0 0] 41 (0,0))).alloc (.cells #[.int .i64 k,.int .i64 a,.int .i64 1] 61 (0,0))).heap.size≤W1.heap.size:=bW.size;generalize (((((w.alloc (.cells vs 41 (0,0))).alloc (.cells #[.int .i64 k] 3 (0,0))).alloc (.cells #[.int .i64 a] 3 (0,0))).alloc (.cells #[.int .i64 0,.int .i64 0,.int .i64 0,.int .i64 0,.int .i64 0,.int .i64 0,.int .i64 0,.int .i64 0,.int .i64 0,.int .i64 0,.int .i64 0,.int .i64 0,.int .i64 0,.int .i64 0,.int .i64 0,.slice none 0 0,.slice none 0 0,.slice none 0 0,.slice none 0 0] 41 (0,0))).alloc (.cells #[.int .i64 k,.int .i64 a,.int .i64 1] 61 (0,0))).heap.size=B0 at aW hB kW;clear bW di)
        |(go_at_call 34
          refine(hI W1 v' (w.heap.size+1) (w.heap.size+1+1) bM.below (eG.of_own aW) (by simp[World.cell?,bM.b]) (by simp[World.cell?,bM.c])).mono ?_;rintro e W2 ⟨rfl,bk⟩;have cR:=bM.step (bk.mono bM.size);have gQ:=me aW bk;have kX:B0≤W2.heap.size:=cC kW bk.size;clear bk bM aW kW)
        |(go_at_call 34
          refine(hJ W2 v' (w.heap.size+1+1) (w.heap.size+1) cR.below (eG.of_own gQ) (by simp[World.cell?,cR.c]) (by simp[World.cell?,cR.b])).mono ?_;rintro e W3 ⟨rfl,fa⟩;have cw:=cR.step (fa.mono cR.size);have gk:=me gQ fa;have Lv:B0≤W3.heap.size:=cC kX fa.size;obtain⟨e0,e1,e2,ef⟩:=xn W3 _ _ _ _ cw.e;have hlen:∃p c,v'=.slice p N c:=by
           rcases gk.2 with⟨e,h0⟩|⟨g,cap,cur,e,_⟩
           ·exact⟨none,0,by rw[e,h0]⟩
           ·exact⟨_,_,e⟩
          obtain⟨p0,c0,rfl⟩:=hlen;clear fa cR gQ kX)
        |(go_at_call 39
          refine(Hs B0 (.slice p0 N c0) N N cells [.int .i64 k,.int .i64 a,.int .i64 1] W3.heap.size (W3.alloc (.cells #[.int .i64 k,.int .i64 a,.int .i64 1] 61)) (by simp;omega) (me gk ((Below.refl _ _).alloc (aU _) _)) GU hN rfl (by show(W3.heap.push _)[W3.heap.size]?=_;exact Ap) (by simp[Value.oneCell']) ib (fun e=>by have:=(gk.lt _ e).2;omega)).mono ?_;rintro e W4 ⟨wU,rfl,oQ,dI⟩
          have jA:Below (w.heap.size+5) W3 W4:=⟨dI.os,dI.tape,dI.output,cC (by simp) dI.size,fun q hq=>by
           have hs:=cw.size;refine(dI.block q (by simp;omega) (fun e=>?_)).trans (Below.heap_alloc _ _ _ (by omega));have:=(gk.lt q e.symm).1;omega⟩
          have bq:=cw.step jA;have mF:W4.cell? ⟨w.heap.size,18,none⟩=some gZ:=by simp[World.cell?,bq.a,lU]
          have cf:W4.frozen? ⟨w.heap.size,18,none⟩=false:=by simp[World.frozen?,bq.a]
          obtain⟨g,cap,bj,rfl,bH,bt,gE,lS,L7,oK⟩:∃g cap bj,wU=.slice (some ⟨g,0,none⟩) (N+1) cap∧B0≤g∧W4.heap[g]?=some (.cells bj 61 (0,0))∧N+1≤cap∧cap≤maxLen∧bj.size=cap*3∧bj.toList.take ((N+1)*3)=cells.take (N*3)++[.int .i64 k,.int .i64 a,.int .i64 1]++cells.drop (N*3):=by
           rcases oQ.2 with⟨_,h0⟩|h
           ·exact absurd h0 (by omega)
           ·exact h
          obtain⟨aZ,HV⟩:∃y,Hid (vs.setIfInBounds 18 (.slice (some ⟨g,0,none⟩) (N+1) cap)=y):=⟨_,rfl⟩
          have hX:=setCell_eq_setRow W4 w.heap.size 18 vs 41 (0,0) (.slice (some ⟨g,0,none⟩) (N+1) cap) bq.a;rw[HV.out] at hX;have kZ:(W4.setCell ⟨w.heap.size,18,none⟩ (.slice (some ⟨g,0,none⟩) (N+1) cap)).heap[w.heap.size]?=some (.cells aZ 41 (0,0)):=by rw[hX];exact setRow_heap W4 w.heap.size vs aZ 41 (0,0) bq.a
          have gh:(W4.setCell ⟨w.heap.size,18,none⟩ (.slice (some ⟨g,0,none⟩) (N+1) cap)).heap[w.heap.size+1+1+1]?=some (.cells #[.int .i64 0,.int .i64 0,.int .i64 0,.int .i64 0,.int .i64 0,.int .i64 0,.int .i64 0,.int .i64 0,.int .i64 0,.int .i64 0,.int .i64 0,.int .i64 0,.int .i64 0,.int .i64 0,.int .i64 0,.slice none 0 0,.slice none 0 0,.slice none 0 0,.slice none 0 0] 41 (0,0)):=by
           rw[←bq.d];exact Below.heap_setCell _ _ _ _ (by show w.heap.size+1+1+1≠w.heap.size;omega)
          have fJ:(W4.setCell ⟨w.heap.size,18,none⟩ (.slice (some ⟨g,0,none⟩) (N+1) cap)).heap[g]?=some (.cells bj 61 (0,0)):=by
           rw[←bt];exact Below.heap_setCell _ _ _ _ (by show g≠w.heap.size;omega)
          have kY:Below w.heap.size w (W4.setCell ⟨w.heap.size,18,none⟩ (.slice (some ⟨g,0,none⟩) (N+1) cap)):=bq.below.setCell (aU _) _;have aD:aZ.all (·.oneCell')=true:=by
           rw[←HV.out];rw[su] at h1 ⊢;intro u hu;rcases uN hu with h|h
           ·exact h1 u h
           ·subst h;rfl
          have gm:aZ.size=19:=by rw[←HV.out];simp[cr]
          have eh:(Tryz.prog.info? 41).map (·.size)=some aZ.size:=by rw[gm];kernel_rfl
          have HK:Hid (bj.toList.take ((N+1)*3)=cells.take (N*3)++[.int .i64 k,.int .i64 a,.int .i64 1]++cells.drop (N*3)):=oK;have fS:w.heap.size+5≤g:=cC hB bH;clear jA dI oQ gk cw e0 e1 e2 ef hX oK bt bq bH)
        |(refine wpList_load_row rfl 41 _ rfl w.heap.size rfl 41 aZ (0,0) _ kZ Tryz.underlying41 rfl eh ?_)
        |(refine wpList_store_row rfl 41 _ _ rfl (w.heap.size+1+1+1) aZ rfl rfl 41 _ gh eh (by rw[gm];rfl) aD ?_))
   refine bodyPost_ret (results_cell_row (p:=8) (ty:=41) rfl _ _ (w.heap.size+1+1+1) 41 aZ (0,0) _ rfl (setRow_heap _ (w.heap.size+1+1+1) _ aZ 41 (0,0) gh) Tryz.underlying41 rfl eh) rfl ?_;refine⟨_,g,cap,by rw[HV.out],?_,by omega,rfl,gE,lS,fun i u hj=>?_⟩
   ·refine kY.trans ⟨rfl,rfl,rfl,by simp[World.setRow],fun q hq=>?_⟩;simp only[World.setRow,dj];rw[if_neg (by omega)]
   ·have ld:((W4.setCell ⟨w.heap.size,18,none⟩ (.slice (some ⟨g,0,none⟩) (N+1) cap)).setRow (w.heap.size+1+1+1) aZ).heap[g]?=some (.cells bj 61 (0,0)):=by
     rw[←fJ];simp only[World.setRow,dj];rw[if_neg (by omega)]
    rw[←HK.out,dm] at hj;split at hj
    ·simpa [World.cell?,ld] using hj
    ·cases hj
  ·go_enter Tryz.func16,Tryz.ntmps16
   go_wp2_with (first
        |(go_at_call 33
          have di:=xl w (.cells vs 41 (0,0)) (.cells #[.int .i64 k] 3 (0,0)) (.cells #[.int .i64 a] 3 (0,0)) (.cells #[.int .i64 0,.int .i64 0,.int .i64 0,.int .i64 0,.int .i64 0,.int .i64 0,.int .i64 0,.int .i64 0,.int .i64 0,.int .i64 0,.int .i64 0,.int .i64 0,.int .i64 0,.int .i64 0,.int .i64 0,.slice none 0 0,.slice none 0 0,.slice none 0 0,.slice none 0 0] 41 (0,0)) (.cells #[.int .i64 k,.int .i64 a,.int .i64 1] 61 (0,0));refine(ya gZ N cells _ (ff.below di.below) hN ib).mono ?_;rintro e W1 ⟨v',rfl,aW,bW⟩;have bM:=di.step (bW.mono di.size);have hB:w.heap.size+5≤(((((w.alloc (.cells vs 41 (0,0))).alloc (.cells #[.int .i64 k] 3 (0,0))).alloc (.cells #[.int .i64 a] 3 (0,0))).alloc (.cells #[.int .i64 0,.int .i64 0,.int .i64 0,.int .i64 0,.int .i64 0,.int .i64 0,.int .i64 0,.int .i64 0,.int .i64 0,.int .i64 0,.int .i64 0,.int .i64 0,.int .i64 0,.int .i64 0,.int .i64 0,.slice none 0 0,.slice none 0 0,.slice none 0 0,.slice none 0 0] 41 (0,0))).alloc (.cells #[.int .i64 k,.int .i64 a,.int .i64 1] 61 (0,0))).heap.size:=di.size;have kW:(((((w.alloc (.cells vs 41 (0,0))).alloc (.cells #[.int .i64 k] 3 (0,0))).alloc (.cells #[.int .i64 a] 3 (0,0))).alloc (.cells #[.int .i64 0,.int .i64 0,.int .i64 0,.int .i64 0,.int .i64 0,.int .i64 0,.int .i64 0,.int .i64 0,.int .i64 0,.int .i64 0,.int .i64 0,.int .i64 0,.int .i64 0,.int .i64 0,.int .i64 0,.slice none 0 0,.slice none 0 0,.slice none 0 0,.slice none 0 0] 41 (0,0))).alloc (.cells #[.int .i64 k,.int .i64 a,.int .i64 1] 61 (0,0))).heap.size≤W1.heap.size:=bW.size;generalize (((((w.alloc (.cells vs 41 (0,0))).alloc (.cells #[.int .i64 k] 3 (0,0))).alloc (.cells #[.int .i64 a] 3 (0,0))).alloc (.cells #[.int .i64 0,.int .i64 0,.int .i64 0,.int .i64 0,.int .i64 0,.int .i64 0,.int .i64 0,.int .i64 0,.int .i64 0,.int .i64 0,.int .i64 0,.int .i64 0,.int .i64 0,.int .i64 0,.int .i64 0,.slice none 0 0,.slice none 0 0,.slice none 0 0,.slice none 0 0] 41 (0,0))).alloc (.cells #[.int .i64 k,.int .i64 a,.int .i64 1] 61 (0,0))).heap.size=B0 at aW hB kW;clear bW di)
        |(go_at_call 34
          refine(hI W1 v' (w.heap.size+1) (w.heap.size+1+1) bM.below (eG.of_own aW) (by simp[World.cell?,bM.b]) (by simp[World.cell?,bM.c])).mono ?_;rintro e W2 ⟨rfl,bk⟩;have cR:=bM.step (bk.mono bM.size);have gQ:=me aW bk;have kX:B0≤W2.heap.size:=cC kW bk.size;clear bk bM aW kW)
        |(go_at_call 34
          refine(hJ W2 v' (w.heap.size+1+1) (w.heap.size+1) cR.below (eG.of_own gQ) (by simp[World.cell?,cR.c]) (by simp[World.cell?,cR.b])).mono ?_;rintro e W3 ⟨rfl,fa⟩;have cw:=cR.step (fa.mono cR.size);have gk:=me gQ fa;have Lv:B0≤W3.heap.size:=cC kX fa.size;obtain⟨e0,e1,e2,ef⟩:=xn W3 _ _ _ _ cw.e;have hlen:∃p c,v'=.slice p N c:=by
           rcases gk.2 with⟨e,h0⟩|⟨g,cap,cur,e,_⟩
           ·exact⟨none,0,by rw[e,h0]⟩
           ·exact⟨_,_,e⟩
          obtain⟨p0,c0,rfl⟩:=hlen;clear fa cR gQ kX)
        |(go_at_call 39
          refine(Hs B0 (.slice p0 N c0) N j cells [.int .i64 k,.int .i64 a,.int .i64 1] W3.heap.size (W3.alloc (.cells #[.int .i64 k,.int .i64 a,.int .i64 1] 61)) (by simp;omega) (me gk ((Below.refl _ _).alloc (aU _) _)) GU hN rfl (by show(W3.heap.push _)[W3.heap.size]?=_;exact Ap) (by simp[Value.oneCell']) ib (fun e=>by have:=(gk.lt _ e).2;omega)).mono ?_;rintro e W4 ⟨wU,rfl,oQ,dI⟩
          have jA:Below (w.heap.size+5) W3 W4:=⟨dI.os,dI.tape,dI.output,cC (by simp) dI.size,fun q hq=>by
           have hs:=cw.size;refine(dI.block q (by simp;omega) (fun e=>?_)).trans (Below.heap_alloc _ _ _ (by omega));have:=(gk.lt q e.symm).1;omega⟩
          have bq:=cw.step jA;have mF:W4.cell? ⟨w.heap.size,18,none⟩=some gZ:=by simp[World.cell?,bq.a,lU]
          have cf:W4.frozen? ⟨w.heap.size,18,none⟩=false:=by simp[World.frozen?,bq.a]
          obtain⟨g,cap,bj,rfl,bH,bt,gE,lS,L7,oK⟩:∃g cap bj,wU=.slice (some ⟨g,0,none⟩) (N+1) cap∧B0≤g∧W4.heap[g]?=some (.cells bj 61 (0,0))∧N+1≤cap∧cap≤maxLen∧bj.size=cap*3∧bj.toList.take ((N+1)*3)=cells.take (j*3)++[.int .i64 k,.int .i64 a,.int .i64 1]++cells.drop (j*3):=by
           rcases oQ.2 with⟨_,h0⟩|h
           ·exact absurd h0 (by omega)
           ·exact h
          obtain⟨aZ,HV⟩:∃y,Hid (vs.setIfInBounds 18 (.slice (some ⟨g,0,none⟩) (N+1) cap)=y):=⟨_,rfl⟩
          have hX:=setCell_eq_setRow W4 w.heap.size 18 vs 41 (0,0) (.slice (some ⟨g,0,none⟩) (N+1) cap) bq.a;rw[HV.out] at hX;have kZ:(W4.setCell ⟨w.heap.size,18,none⟩ (.slice (some ⟨g,0,none⟩) (N+1) cap)).heap[w.heap.size]?=some (.cells aZ 41 (0,0)):=by rw[hX];exact setRow_heap W4 w.heap.size vs aZ 41 (0,0) bq.a
          have gh:(W4.setCell ⟨w.heap.size,18,none⟩ (.slice (some ⟨g,0,none⟩) (N+1) cap)).heap[w.heap.size+1+1+1]?=some (.cells #[.int .i64 0,.int .i64 0,.int .i64 0,.int .i64 0,.int .i64 0,.int .i64 0,.int .i64 0,.int .i64 0,.int .i64 0,.int .i64 0,.int .i64 0,.int .i64 0,.int .i64 0,.int .i64 0,.int .i64 0,.slice none 0 0,.slice none 0 0,.slice none 0 0,.slice none 0 0] 41 (0,0)):=by
           rw[←bq.d];exact Below.heap_setCell _ _ _ _ (by show w.heap.size+1+1+1≠w.heap.size;omega)
          have fJ:(W4.setCell ⟨w.heap.size,18,none⟩ (.slice (some ⟨g,0,none⟩) (N+1) cap)).heap[g]?=some (.cells bj 61 (0,0)):=by
           rw[←bt];exact Below.heap_setCell _ _ _ _ (by show g≠w.heap.size;omega)
          have kY:Below w.heap.size w (W4.setCell ⟨w.heap.size,18,none⟩ (.slice (some ⟨g,0,none⟩) (N+1) cap)):=bq.below.setCell (aU _) _;have aD:aZ.all (·.oneCell')=true:=by
           rw[←HV.out];rw[su] at h1 ⊢;intro u hu;rcases uN hu with h|h
           ·exact h1 u h
           ·subst h;rfl
          have gm:aZ.size=19:=by rw[←HV.out];simp[cr]
          have eh:(Tryz.prog.info? 41).map (·.size)=some aZ.size:=by rw[gm];kernel_rfl
          have HK:Hid (bj.toList.take ((N+1)*3)=cells.take (j*3)++[.int .i64 k,.int .i64 a,.int .i64 1]++cells.drop (j*3)):=oK;have fS:w.heap.size+5≤g:=cC hB bH;clear jA dI oQ gk cw e0 e1 e2 ef hX oK bt bq bH)
        |(refine wpList_load_row rfl 41 _ rfl w.heap.size rfl 41 aZ (0,0) _ kZ Tryz.underlying41 rfl eh ?_)
        |(refine wpList_store_row rfl 41 _ _ rfl (w.heap.size+1+1+1) aZ rfl rfl 41 _ gh eh (by rw[gm];rfl) aD ?_))
   refine bodyPost_ret (results_cell_row (p:=8) (ty:=41) rfl _ _ (w.heap.size+1+1+1) 41 aZ (0,0) _ rfl (setRow_heap _ (w.heap.size+1+1+1) _ aZ 41 (0,0) gh) Tryz.underlying41 rfl eh) rfl ?_;refine⟨_,g,cap,by rw[HV.out],?_,by omega,rfl,gE,lS,fun i u hj=>?_⟩
   ·refine kY.trans ⟨rfl,rfl,rfl,by simp[World.setRow],fun q hq=>?_⟩;simp only[World.setRow,dj];rw[if_neg (by omega)]
   ·have ld:((W4.setCell ⟨w.heap.size,18,none⟩ (.slice (some ⟨g,0,none⟩) (N+1) cap)).setRow (w.heap.size+1+1+1) aZ).heap[g]?=some (.cells bj 61 (0,0)):=by
     rw[←fJ];simp only[World.setRow,dj];rw[if_neg (by omega)]
    rw[←HK.out,dm] at hj;split at hj
    ·simpa [World.cell?,ld] using hj
    ·cases hj
end Rm
namespace Rm
open Go Go.Proofs Cx Go.RowKit
def uy (k a n:Int):D:=.agg [.int k,.int a,.int (if n=0 then 0 else 1)]
def Ec (ds:List D):D:=
 let cs:=(ds.getD 0 .none).cells
 let k:=(ds.getD 1 .none).i
 let a:=(ds.getD 2 .none).i
 let xs:=(cs.getD 18 .none).l
 .agg (cs.set 18 (.list (xs.filter (fun y=>decide ((y.c 1).i<a)||(decide ((y.c 1).i=a)&&decide ((y.c 0).i<k)))++[uy k a (ds.getD 3 .none).i]++xs.filter (fun y=>decide (a<(y.c 1).i)||(decide ((y.c 1).i=a)&&decide (k<(y.c 0).i))))))
def Sq (Φ:aR)(ds:List D)(r:D):Prop:=
 ∃cs k a n xs,ds=[.agg cs,.int k,.int a,.int n]∧cs[18]?=some (.list xs)∧xs.length≤4294967296∧
  ((∃i:Nat,i<xs.length∧Φ 34 [.list xs,.clo 32 [.ref (.int k),.ref (.int a)]]=some (.int i)∧Φ 34 [.list (xs.drop (i+1)),.clo 32 [.ref (.int k),.ref (.int a)]]=some (.int (-1))∧
    r=.agg (cs.set 18 (.list (xs.take i++[uy k a n]++xs.drop (i+1)))))∨
   (Φ 34 [.list xs,.clo 32 [.ref (.int k),.ref (.int a)]]=some (.int (-1))∧∃(j:Nat) (jv:Int),Φ 34 [.list xs,.clo 36 [.ref (.int a),.ref (.int k)]]=some (.int jv)∧(jv<0∧j=xs.length∨jv=j∧j≤xs.length)∧
    r=.agg (cs.set 18 (.list (xs.take j++[uy k a n]++xs.drop j)))))
open Classical in
def z7 (Φ:aR)(ds:List D):Option D:=if Sq Φ ds (Ec ds) then some (Ec ds) else none
def km (d:D):List Value:=[.int .i64 (d.c 0).i,.int .i64 (d.c 1).i,.int .i64 (d.c 2).i]
def eZ (xs:List D):List Value:=xs.flatMap km
theorem sX (xs:List D):(eZ xs).length=xs.length*3:=by
 induction xs with
 |nil=>rfl
 |cons x xs ih=>
  have:eZ (x::xs)=km x++eZ xs:=rfl;rw[this,iK,ih];simp[km];omega
theorem yr (xs ys:List D):eZ (xs++ys)=eZ xs++eZ ys:=by simp[eZ]
theorem TR (xs:List D)(i:Nat):eZ (xs.take i)=(eZ xs).take (i*3):=by
 rcases Nat.le_total i xs.length with h|h
 ·have e:=congrArg eZ (sG i xs);rw[yr] at e;have hl:(eZ (xs.take i)).length=i*3:=by rw[sX,db,iM h]
  rw[←e,EH hl]
 ·rw[sH h,sH (by rw[sX];omega)]
theorem Gg (xs:List D)(i:Nat):eZ (xs.drop i)=(eZ xs).drop (i*3):=by
 rcases Nat.le_total i xs.length with h|h
 ·have e:=congrArg eZ (sG i xs);rw[yr] at e;have hl:(eZ (xs.take i)).length=i*3:=by rw[sX,db,iM h]
  rw[←e,List.drop_left' hl]
 ·rw[R4 h,R4 (by rw[sX];omega)];rfl
theorem Lg (xs:List D)(i j:Nat)(x:D)(hi:xs[i]?=some x)(hj:j<3):(eZ xs)[i*3+j]?=(km x)[j]?:=by
 have ae:=(dZ.1 hi).1;have e:(eZ xs)[i*3+j]?=((eZ xs).drop (i*3))[j]?:=by rw[dN]
 rw[e,←Gg,R3 ae,(dZ.1 hi).2];show(km x++eZ (xs.drop (i+1)))[j]?=_;rw[kf (by simp[km];omega)]
theorem TQ (xs:List D):∀v∈eZ xs,v.oneCell'=true:=by
 intro v hv;obtain⟨x,_,hx⟩:=iL.1 hv;simp[km] at hx;rcases hx with rfl|rfl|rfl<;>rfl
def uX (n:Int):Prop:=IntKind.i64.min≤n∧n≤IntKind.i64.max
def lG (d:D):Prop:=∃k a n:Int,d=.agg [.int k,.int a,.int n]∧uX k∧uX a∧uX n
theorem lG.of_rep {cap:Nat→Option CSig}{σ:Im}{v:Value}{d:D}(h:Rep cap σ Y6 v d):lG d∧v=.agg (km d).toArray:=by
 obtain⟨vs,ds,rfl,rfl,h1,h2,h3,_⟩:=h.agg_inv
 match vs,ds,h1,h2 with
 |[x,y,z],[a,b,c],_,_=>
  obtain⟨n0,e0,f0,g0⟩:=(h3 0 _ rfl).int_inv;obtain⟨n1,e1,f1,g1⟩:=(h3 1 _ rfl).int_inv;obtain⟨n2,e2,f2,g2⟩:=(h3 2 _ rfl).int_inv;simp only[sB,At] at e0 f0 e1 f1 e2 f2;subst e0 f0 e1 f1 e2 f2;exact⟨⟨n0,n1,n2,rfl,g0,g1,g2⟩,rfl⟩
theorem lG.rep {cap:Nat→Option CSig}{σ:Im}{d:D}(h:lG d):Rep cap σ Y6 (.agg (km d).toArray) d:=by
 obtain⟨k,a,n,rfl,h1,h2,h3⟩:=h;refine .agg [I,I,I] [.int .i64 k,.int .i64 a,.int .i64 n] _ rfl rfl (fun i t hi=>?_) (fun i t hi=>?_)
 ·match i,hi with
  |0,hi=>cases hi;exact .int _ _ h1.1 h1.2
  |1,hi=>cases hi;exact .int _ _ h2.1 h2.2
  |2,hi=>cases hi;exact .int _ _ h3.1 h3.2
 ·match i,hi with
  |0,hi=>cases hi;rfl
  |1,hi=>cases hi;rfl
  |2,hi=>cases hi;rfl
theorem alB {cap:Nat→Option CSig}{σ:Im}{w:World}{v:Value}{xs:List D}(ax:σ.ok w)(h:Rep cap σ (.slice Y6) v (.list xs)):eG w v xs.length (eZ xs)∧∀x∈xs,lG x:=by
 obtain⟨ka,hx,qd⟩:=h.slice_inv;cases hx;rcases qd with⟨⟨p,rfl⟩,rfl⟩|⟨k,o,c,rfl,h1,h2,vs,h3,h4⟩
 ·exact⟨⟨rfl,.inl ⟨p,rfl,rfl⟩⟩,fun x hx=>by cases hx⟩
 ·refine⟨⟨sX _,.inr ⟨k,o,c,rfl,h1,h2,fun j u hj=>?_⟩⟩,fun x hx=>?_⟩
  ·have ae:j<xs.length*3:=by have:=(dZ.1 hj).1;rwa [sX] at this
   have hi:j/3<xs.length:=by omega
   have e:j=j/3*3+j%3:=by omega
   have hx:=bo hi;rw[e,Lg xs _ _ _ hx (by omega)] at hj;have hr:=(lG.of_rep (h3 _ _ hx)).2;have:=h4 (j/3) (j%3) u hi (by rw[hr];show(km _).toArray[j%3]?=_;simpa using hj);have hs:o+j/3*Y6.size+j%3=o+j:=by show o+j/3*3+j%3=o+j;omega
   rw[hs] at this;exact ax.c _ _ _ this
  ·obtain⟨i,hi,rfl⟩:=gy hx;exact(lG.of_rep (h3 i _ (bo hi))).1
theorem alq {cap:Nat→Option CSig}{m:Nat→Option (List (Value×Value))}{W:World}{v:Value}{n:Nat}{xs:List D}(hr:eG W v n (eZ xs))(hF:∀x∈xs,lG x):
 Rep cap ⟨fun k o=>W.cell? ⟨k,o,none⟩,m⟩ (.slice Y6) v (.list xs):=by
 obtain⟨hl,hr⟩:=hr;rw[sX] at hl;have hn:xs.length=n:=by omega
 rcases hr with⟨p,rfl,h0⟩|⟨g,o,c,rfl,h1,h2,h3⟩
 ·obtain rfl:xs=[]:=Sc.1 (by omega);cases p with
  |none=>exact .nil _
  |some a=>exact .emp _ a
 ·refine .slice Y6 g o n c xs (fun i=>.agg (km (xs.getD i .none)).toArray) hn h1 h2 (fun i x hx=>?_) (fun i j u hi hj=>?_)
  ·have e:xs.getD i .none=x:=by rw[aF,hx];rfl
   rw[e];exact lG.rep (hF x (jO hx))
  ·have hx:=bo (show i<xs.length by omega);have e:xs.getD i .none=xs[i]'(by omega):=by rw[aF,hx];rfl
   have bp:(km (xs[i]'(by omega)))[j]?=some u:=by rw[←e];simpa [Value.cells] using hj
   have L5:j<3:=by have:=(dZ.1 bp).1;simpa [km] using this
   have:=h3 (i*3+j) u (by rw[Lg xs i j _ hx L5];exact bp);show W.cell? ⟨g,o+i*3+j,none⟩=some u;rw[sI];exact this
theorem Hq {Φ:aR}(hΦ:dF ctx Φ){σ:Im}{w:World}(ax:σ.ok w)(hC:CtxOK ctx σ)(f:Nat)(hf:ctx.cap f=some ⟨[.ref I,.ref I],[Y6],.bool⟩){xs:List D}(hF:∀x∈xs,lG x){k a r:Int}(hk:uX k)(ha:uX a)
 (h:Φ 34 [.list xs,.clo f [.ref (.int k),.ref (.int a)]]=some (.int r)) (W:World) (v:Value) (p q n:Nat) (hb:Below w.heap.size w W) (hr:eG W v n (eZ xs))
 (hp:W.cell? ⟨p,0,none⟩=some (.int .i64 k)) (hq:W.cell? ⟨q,0,none⟩=some (.int .i64 a)):
 Calls Tryz.prog 34 #[v,xZ f p q] W fun e w'=>e=.returned (.int .i64 r)∧Below W.heap.size W w':=by
 have hfn:=(hΦ 34 _ _ h _ rfl).1 rfl
 have hle:σ.le ⟨fun k o=>W.cell? ⟨k,o,none⟩,σ.m⟩:=⟨fun k o u hu=>by
  have:=ax.c k o u hu;show W.cell? ⟨k,o,none⟩=some u;rw[hb.cell (World.block_lt_of_cell? w _ this)];exact this,fun _ _ h=>h⟩
 have iv:Im.ok ⟨fun k o=>W.cell? ⟨k,o,none⟩,σ.m⟩ W:=⟨fun _ _ _ h=>h,fun k es h=>(ax.m k es h).keep (hb.block k (ax.m k es h).lt)⟩
 have Vk:∀(b:Nat) (x:Int),uX x→W.cell? ⟨b,0,none⟩=some (.int .i64 x)→Rep ctx.cap ⟨fun k o=>W.cell? ⟨k,o,none⟩,σ.m⟩ (.ref I) (.pointer (some ⟨b,0,none⟩)) (.ref (.int x)):=fun b x hx hc=>by
  refine .ref I b 0 (.int .i64 x) (.int x) (.int _ _ hx.1 hx.2) fun j u hj=>?_;have hj0:j=0:=by
   have:=(dy.1 hj).1;simp[Value.cells] at this;omega
  subst hj0;simp[Value.cells] at hj;subst hj;exact hc
 refine(hfn _ W #[v,xZ f p q] iv ⟨fun g x hx=>(hC.glob g x hx).mono hle⟩ ⟨rfl,rfl,fun i t hi=>?_⟩).mono fun e w' hh=>?_
 ·match i,hi with
  |0,hi=>cases hi;exact alq hr hF
  |1,hi=>
   cases hi;refine .fn f ⟨[.ref I,.ref I],[Y6],.bool⟩ [.pointer (some ⟨p,0,none⟩),.pointer (some ⟨q,0,none⟩)] _ hf rfl rfl fun i t hi=>?_
   match i,hi with
   |0,hi=>cases hi;exact Vk p k hk hp
   |1,hi=>cases hi;exact Vk q a ha hq
 ·obtain⟨u,σ',rfl,_,_,hB,_,_,eJ⟩:=hh;have eJ:Rep ctx.cap σ' I u (.int r):=eJ;obtain⟨n',e1,e2,_⟩:=eJ.int_inv;cases e2;exact⟨by rw[e1],hB⟩
theorem alW {Φ:aR}(hΦ:dF ctx Φ){ds:List D}{d:D}(h:z7 Φ ds=some d):∃s,ctx.sig 16=some s∧Ey ctx 16 s ds d:=by
 refine⟨_,rfl,fun _=>?_,fun shs obs hm=>by cases hm⟩;unfold z7 at h;split at h
 case isFalse=>cases h
 rename_i hs;cases h;generalize Ec ds=d at hs;obtain⟨cs,k,a,n,xs,rfl,dA,hN,qd⟩:=hs;intro σ w args ax hC ha;obtain⟨a1,a2,a3⟩:=ha;have h0:=a3 0 _ rfl;have h1:=a3 1 _ rfl;have h2:=a3 2 _ rfl;have h3:=a3 3 _ rfl;obtain⟨u,x,y,z,rfl⟩:∃u x y z,args=#[u,x,y,z]:=by
  have:args.size=4:=by simpa using a1
  match args,this with
  |⟨[u,x,y,z]⟩,_=>exact⟨u,x,y,z,rfl⟩
 simp only[sB,At] at h0 h1 h2 h3;change Rep ctx.cap σ ju u (.agg cs) at h0;change Rep ctx.cap σ I x (.int k) at h1;change Rep ctx.cap σ I y (.int a) at h2;change Rep ctx.cap σ I z (.int n) at h3;obtain⟨k',e1,f1,hk⟩:=h1.int_inv;obtain⟨a',e2,f2,mJ⟩:=h2.int_inv;obtain⟨n',e3,f3,iX⟩:=h3.int_inv;cases f1;cases f2;cases f3;subst e1 e2 e3;obtain⟨vs,ds',rfl,hd,l1,l2,bE,dh⟩:=h0.agg_inv;cases hd;have Vl:=bE 18 _ rfl;have ecs:cs.getD 18 .none=.list xs:=by rw[aF,dA];rfl
 rw[ecs] at Vl;have GZ:vs.length=19:=l1;have lU:vs.toArray[18]?=some (vs.getD 18 undef):=by
  rw[aF,bo (show 18<vs.length by omega)];simp[GZ]
 obtain⟨ff,hF⟩:=alB ax Vl;have aD:vs.toArray.all (·.oneCell')=true:=by
  rw[su];intro v hv;obtain⟨i,hi,rfl⟩:=gy (Array.mem_toList_iff.2 hv);have cv:i<vs.length:=by simpa using hi
  have CF:∃t,([I,I,I,I,I,I,I,I,I,I,I,I,I,I,I,(.slice Y9),(.slice pO),(.slice Y9),(.slice Y6)]:List Ty)[i]?=some t:=⟨_,bo (by simpa [GZ] using cv)⟩
  obtain⟨t,ht⟩:=CF;have:=((bE i t ht).oneCell (dh i t ht)).2
  rwa [aF,bo cv] at this
 have hm:(n=0∧(if n=0 then(0:Int) else 1)=0∨n≠0∧(if n=0 then(0:Int) else 1)=1):=by
  by_cases h:n=0
  ·exact .inl ⟨h,by simp[h]⟩
  ·exact .inr ⟨h,by simp[h]⟩
 have hX:lG (uy k a n):=⟨k,a,_,rfl,hk,mJ,by unfold uX;split<;>decide⟩
 have fin:∀(v':Value) (g c:Nat) (w':World) (ys:List D),(∀y∈ys,lG y)→Below w.heap.size w w'→w.heap.size≤g→v'=.slice (some ⟨g,0,none⟩) ys.length c→ys.length≤c→c≤maxLen→(∀j u,(eZ ys)[j]?=some u→w'.cell? ⟨g,j,none⟩=some u)→
  ∃v σ',Ending.returned (.agg (vs.toArray.setIfInBounds 18 v'))=Ending.returned v∧σ.le σ'∧σ'.ok w'∧Below w.heap.size w w'∧(∀k o x,σ'.c k o=some x→σ.c k o=some x∨w.heap.size≤k)∧(∀k x,σ'.m k=some x→σ.m k=some x∨w.heap.size≤k)∧Rep ctx.cap σ' ju v (.agg (cs.set 18 (.list ys))):=by
  intro v' g c w' ys rK hb hg hv' BR tg eH
  have ql:∀o,σ.c g o=none:=fun o=>by
   cases hc:σ.c g o with
   |none=>rfl
   |some u=>have:=World.block_lt_of_cell? w (a:=⟨g,o,none⟩) (ax.c _ _ _ hc);simp at this;omega
  have hle:σ.le ⟨fun k o=>if k=g then w'.cell? ⟨k,o,none⟩ else σ.c k o,σ.m⟩:=⟨fun k o u hu=>by
   show(if k=g then w'.cell? ⟨k,o,none⟩ else σ.c k o)=some u;split
   ·rename_i e;subst e;rw[ql o] at hu;cases hu
   ·exact hu,fun _ _ h=>h⟩
  refine⟨_,⟨fun k o=>if k=g then w'.cell? ⟨k,o,none⟩ else σ.c k o,σ.m⟩,rfl,hle,⟨fun k o u hu=>?_,fun k es h=>(ax.m k es h).keep (hb.block k (ax.m k es h).lt)⟩,hb,fun k o u hu=>?_,fun _ _ h=>.inl h,?_⟩
  ·have hu:(if k=g then w'.cell? ⟨k,o,none⟩ else σ.c k o)=some u:=hu;split at hu
   ·exact hu
   ·have:=ax.c k o u hu;rw[hb.cell (World.block_lt_of_cell? w _ this)];exact this
  ·have hu:(if k=g then w'.cell? ⟨k,o,none⟩ else σ.c k o)=some u:=hu;split at hu
   ·rename_i e;subst e;exact .inr hg
   ·exact .inl hu
  ·have e:vs.toArray.setIfInBounds 18 v'=(vs.set 18 v').toArray:=by simp
   rw[e];refine .agg _ (vs.set 18 v') _ (by rw[JK];exact l1) (by rw[JK];exact l2) (fun i t hi=>?_) dh;by_cases p9:i=18
   ·subst p9;cases hi;rw[aF,aF,List.getElem?_set_self (by omega),List.getElem?_set_self (by rw[l2];decide)];show Rep _ _ (.slice Y6) v' (.list ys);have hr:eG w' v' ys.length (eZ ys):=⟨sX _,.inr ⟨g,0,c,hv',BR,tg,fun j u hj=>by rw[eW];exact eH j u hj⟩⟩
    subst hv';refine .slice Y6 g 0 ys.length c ys (fun i=>.agg (km (ys.getD i .none)).toArray) rfl BR tg (fun i x hx=>?_) (fun i j u hi hj=>?_)
    ·have e:ys.getD i .none=x:=by rw[aF,hx];rfl
     rw[e];exact lG.rep (rK x (jO hx))
    ·have hx:=bo hi;have e:ys.getD i .none=ys[i]:=by rw[aF,hx];rfl
     have bp:(km ys[i])[j]?=some u:=by rw[←e];simpa [Value.cells] using hj
     have L5:j<3:=by have:=(dZ.1 bp).1;simpa [km] using this
     have:=eH (i*3+j) u (by rw[Lg ys i j _ hx L5];exact bp);show(if g=g then w'.cell? ⟨g,0+i*3+j,none⟩ else _)=some u;rw[if_pos rfl,eW];exact this
   ·have:=(bE i t hi).mono hle;rw[aF,aF,uU (qU p9),uU (qU p9),←aF,←aF];exact this
 have cK:∀{ys:List D},(∀y,y∈ys→y∈xs∨y=uy k a n)→∀y∈ys,lG y:=fun h y hy=>by
  rcases h y hy with h|rfl
  ·exact hF y h
  ·exact hX
 rcases qd with⟨i,hi,hI,hD,rfl⟩|⟨hI,j,jv,hJ,hj,rfl⟩
 ·refine(alT vs.toArray (vs.getD 18 undef) (by simpa using GZ) lU aD k a n _ hm w xs.length i (eZ xs) ff hN hi (TQ xs)
   (fun W v p q hb hr hp hq=>Hq hΦ ax hC 32 rfl hF hk mJ hI W v p q _ hb hr hp hq)
   (fun W v p q hb hr hp hq=>by rw[←Gg] at hr;exact Hq hΦ ax hC 32 rfl (fun x hx=>hF x (xc hx)) hk mJ hD W v p q _ hb hr hp hq)).mono fun e w' hh=>?_
  obtain⟨v',g,c,rfl,hb,hg,rfl,BR,tg,eH⟩:=hh;have hlen:(xs.take i++[uy k a n]++xs.drop (i+1)).length=xs.length:=by simp;omega
  refine fin _ g c w' _ (cK fun y hy=>?_) hb hg (by rw[hlen]) (by omega) tg (fun j u hj=>eH j u ?_)
  ·rcases de.1 hy with hy|hy
   ·rcases de.1 hy with hy|hy
    ·exact .inl (List.mem_of_mem_take hy)
    ·exact .inr (na.1 hy)
   ·exact .inl (xc hy)
  ·rw[yr,yr,TR,Gg] at hj;exact hj
 ·refine(alV vs.toArray (vs.getD 18 undef) (by simpa using GZ) lU aD k a n _ hm w xs.length j jv hj (eZ xs) ff hN (TQ xs)
   (fun W v p q hb hr hp hq=>Hq hΦ ax hC 32 rfl hF hk mJ hI W v p q _ hb hr hp hq)
   (fun W v p q hb hr hp hq=>Hq hΦ ax hC 36 rfl hF mJ hk hJ W v p q _ hb hr hp hq)).mono fun e w' hh=>?_
  obtain⟨v',g,c,rfl,hb,hg,rfl,BR,tg,eH⟩:=hh;have hlen:(xs.take j++[uy k a n]++xs.drop j).length=xs.length+1:=by simp;omega
  refine fin _ g c w' _ (cK fun y hy=>?_) hb hg (by rw[hlen]) (by omega) tg (fun i u hj=>eH i u ?_)
  ·rcases de.1 hy with hy|hy
   ·rcases de.1 hy with hy|hy
    ·exact .inl (List.mem_of_mem_take hy)
    ·exact .inr (na.1 hy)
   ·exact .inl (xc hy)
  ·rw[yr,yr,TR,Gg] at hj;exact hj
end Rm
