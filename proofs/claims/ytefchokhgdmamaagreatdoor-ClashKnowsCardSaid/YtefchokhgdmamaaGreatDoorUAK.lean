/-
  Shared texts of this claim.
-/
import Derived.Test.YtefchokhgdmamaaGreatDoorProg
import Derived.Test.YtefchokhgdmamaaGreatDoorUAA
import Derived.WalkKit
import Derived.WalkSpells
import Derived.Lib.SliceRun
import Derived.Lib.AppendZerosOnto
import Derived.Lib.JoinLaws
import Derived.Lib.Overlaps
import Derived.Laws.Externs
import Derived.Laws.IdiomCopy
import Derived.Below
import Derived.Lib.Walk
import Derived.Deep.LoopGhost
import Derived.Shelf.RegionOpenPlain
import Derived.Test.YtefchokhgdmamaaGreatDoorUAJ
set_option linter.unusedSimpArgs false
set_option linter.unusedVariables false
set_option maxRecDepth 100000
noncomputable section
namespace Rm
open Go Go.Proofs Cx Go.RowKit Go.Lib
theorem acv {P:Program}(w:World){o:Oper}{a:Act}{K:Act→World→Prop}{Q:Exit→Act→World→Prop}(d s:Operand)(t t':TypeId)
 (ho:o.op=.call {callee:=.builtin .copy,args:=#[d,s],argTypes:=#[t,t']}) (v u:Value) (hd:a.eval d=v) (hs:a.eval s=u) {v':Value} {w':World}
 (hr:(Builtin.copy_ #[t,t'] o.type #[v,u]).run P w=.ok v' w') (h:K (a.put o.dst v') w'):o.wp P a w K Q:=by
 unfold Oper.wp execOp;simp only[ho,resolve,invoke,builtin,Sem.run_bind,Sem.run_pure,Result.andThen_ok,List.map_toArray,gG,yd,hd,hs,hr];exact h
theorem TH {P:Program}(w:World){ops:Array Oper}{rest:List Oper}{o:Oper}{a:Act}{Q:Exit→Act→World→Prop}(gN:o.guard=none)(d s:Operand)(t t':TypeId)
 (ho:o.op=.call {callee:=.builtin .copy,args:=#[d,s],argTypes:=#[t,t']}) (v u:Value) (hd:a.eval d=v) (hs:a.eval s=u) {v':Value} {w':World}
 (hr:(Builtin.copy_ #[t,t'] o.type #[v,u]).run P w=.ok v' w') (h:wpList P ops Q rest (a.put o.dst v') w'):wpList P ops Q (o::rest) a w:=
 wpList_plain gN fun _ hK=>acv w d s t t' ho v u hd hs hr (hK _ _ h)
theorem ao6 {P:Program}{ops:Array Oper}{o:Oper}{a:Act}{w:World}{K:Act→World→Prop}{Q:Exit→Act→World→Prop}{E:Prop}
 (hg:o.guard=none) (d x:Operand) (dT sT:TypeId) (bY:o.op=Op.call {callee:=Callee.builtin Builtin.copy,args:=#[d,x],argTypes:=#[dT,sT]})
 (v u:Value) (hd:a.eval d=v) (hx:a.eval x=u) {v':Value} {w':World} (hr:(Builtin.copy_ #[dT,sT] o.type #[v,u]).run P w=.ok v' w') (hK:K (a.put o.dst v') w'):
 if Region.wanted o (yielded ops a.tmps)=true then Oper.wp P o a w K Q else E:=by
 have hw:Region.wanted o (yielded ops a.tmps)=true:=by simp[Region.wanted,hg]
 rw[if_pos hw];exact acv w d x dT sT bY v u hd hx hr hK
theorem II:(Tryz.prog.info? 61).map (fun i=>(i.zero,i.size,i.bytes))=some (some (.agg #[.int .i64 0,.int .i64 0,.int .i64 0]),3,24):=by kernel_rfl
theorem Cb (w:World)(a:Option Addr)(n c n' c':Nat):(binOp .eql 39 (.slice a n c) (.slice none n' c')).run Tryz.prog w=.ok (.bool a.isNone) w:=Lib.run_eql_slice_nil w _ _ a n c n' c' Tryz.underlying39
set_option maxHeartbeats 2000000 in
theorem aeI (w:World):Calls Tryz.prog 33 #[.slice none 0 0] w fun e w'=>e=.returned (.slice none 0 0)∧w'=w:=by
 have Jy:=Cb
 go_enter Tryz.func33,Tryz.ntmps33
 go_wp2
 go_ret
 exact⟨rfl,rfl⟩
set_option maxHeartbeats 2000000 in
theorem Vb (ad:Addr)(n c:Nat)(news:List Value)(w:World)(hl:news.length=n*3)(hn:n≤4294967296)
 (hc:∀j u,news[j]?=some u→w.cell? (ad.add j)=some u) (h1:∀u∈news,u.oneCell'=true):
 Calls Tryz.prog 33 #[.slice (some ad) n c] w fun e w'=>∃v',e=.returned v'∧w'.ownsRow w.heap.size 61 3 v' n news∧Below w.heap.size w w':=by
 obtain⟨i0,hi,nI,ly,sW⟩:=info_parts II;have Jy:=Cb;have A:Aside (∀j u,news[j]?=some u→w.cell? (ad.add j)=some u):=hc;clear hc
 go_enter Tryz.func33,Tryz.ntmps33
 go_wp2_with (at_builtin;refine wpList_append_own _ rfl _ _ 39 rfl w.heap.size 61 i0 (.agg #[.int .i64 0,.int .i64 0,.int .i64 0]) 3 24 Tryz.underlying39 hi nI ly sW rfl (by decide) _ _ _ rfl (World.ownsRow_made w #[] 0 (aX _) (oc _) (by simp)) ad n c news rfl ?qc1 ?qc2 ?qc3 ?qc4 ?qc5 ?qc6 ?_)
 case qc1=>exact hl
 case qc2=>
  intro j u hj;exact Lib.cell?_alloc_some _ (A.out j u hj)
 case qc3=>exact h1
 case qc4=>rw[fq];unfold maxLen;omega
 case qc5=>rw[fq];omega
 case qc6=>simp
 intro v' w1 aZ zG NJ
 go_wp2
 go_ret
 refine⟨v',rfl,by simpa using aZ,?_⟩;exact((Below.refl _ w).alloc (aX _) _).grown zG (by simp) (by intro k hk;simp[Value.ownBlock] at hk;omega)
theorem Kg {P:Program}(w:World)(dT sT ty elem:TypeId)(g o Vg aeV:Nat)(a:Addr)(abO aoL m k:Nat)(cur:Array Value)(t:TypeId)(cs:List Value)
 (hu:P.underlying dT=some (.slice elem)) (hs:(P.info? elem).map (·.size)=some k)
 (hg:w.heap[g]?=some (.cells cur t (0,0))) (hm:Nat.min abO Vg=m) (hn:cs.length=m*k)
 (Dt:∀j v,cs[j]?=some v→w.cell? (a.add j)=some v) (zD:o+cs.length≤cur.size) (h1:∀v∈cs,v.oneCell'=true):
 (Builtin.copy_ #[dT,sT] ty #[.slice (some ⟨g,o,none⟩) Vg aeV,.slice (some a) abO aoL]).run P w=
   .ok (goInt m) (w.setRow g (cur.toList.take o++cs++cur.toList.drop (o+cs.length)).toArray):=by
 have hl:=run_loadCells_list (P:=P) w a cs Dt;have bZ:=run_storeCells_at P g o t cs 0 cur w hg (by simpa using zD) h1;cases hq:P.info? elem with
 |none=>simp[hq] at hs
 |some i=>
  have hi:i.size=k:=by simpa [hq] using hs
  rw[hn] at hl;simp[Builtin.copy_,run_underlying hu,Builtin.lenOf,Builtin.firstCells,Go.sizeOf,typeInfo,hq,hi,hm,hl,bZ]
set_option maxHeartbeats 4000000 in
theorem akH (B:Nat)(s:Value)(n:Nat)(cells x:List Value)(vb:Nat)(w:World)(hB:B≤w.heap.size)(fG:w.ownsRow B 61 3 s n cells)(hn:n≤4294967296)(hx:x.length=3)
 (cE:w.heap[vb]?=some (.cells x.toArray 61 (0,0))) (h1:∀v∈x,v.oneCell'=true) (p:Option Addr) (c:Nat) (hs:s=.slice p n c):
 Calls Tryz.prog 39 #[s,.int .i64 n,.slice (some ⟨vb,0,none⟩) 1 1] w fun e w'=>∃v',e=.returned v'∧w'.ownsRow B 61 3 v' (n+1) (cells++x)∧w.grownBy w' s.ownBlock:=by
 obtain⟨i0,hi,nI,ly,sW⟩:=info_parts II;have Na:c≤9223372036854775807∧n≤c:=by
  rcases fG.2 with⟨e,_⟩|⟨g,cap,cur,e,_,_,h3,h4,_⟩
  ·rw[hs] at e;cases e;omega
  ·rw[hs] at e;cases e;unfold maxLen at h4;omega
 obtain⟨Na,dp⟩:=Na;have A:Aside (w.heap[vb]?=some (.cells x.toArray 61 (0,0))):=cE;have A2:Aside (w.ownsRow B 61 3 s n cells):=fG;clear cE fG;have Jy:=Cb;subst hs
 go_enter Tryz.func39,Tryz.ntmps39
 go_wp2_with (at_builtin;refine wpList_append_own _ rfl _ _ 39 rfl B 61 i0 (.agg #[.int .i64 0,.int .i64 0,.int .i64 0]) 3 24 Tryz.underlying39 hi nI ly sW rfl (by decide) _ n cells rfl A2.out ⟨vb,0,none⟩ 1 1 x rfl ?qc1 ?qc2 ?qc3 ?qc4 ?qc5 ?qc6 ?_)
 all_goals first
  |(intro v' w1 aZ zG NJ
    go_wp2
    go_ret
    exact⟨v',rfl,aZ,by cases p<;>exact zG⟩)
  |exact hB
  |exact h1
  |exact hx
  |(unfold maxLen;omega)
  |(intro j u hj
    rw[Addr.add_lit,fq];have hv:=A.out;simpa [World.cell?,hv] using hj)
  |omega
theorem akG {α:Type}(l C x:List α)(a b:Nat)(h:a+x.length=b)(hb:b≤l.length):
 ((l.take b++C++l.drop (b+C.length)).take a++x++(l.take b++C++l.drop (b+C.length)).drop b).take (b+C.length)=l.take a++x++C:=by
 have h1:(l.take b).length=b:=by rw[du];omega
 have e1:(l.take b++C++l.drop (b+C.length)).take a=l.take a:=by
  rw[ja,List.take_append_of_le_length (by omega),FT,jz (by omega)]
 have e2:(l.take b++C++l.drop (b+C.length)).drop b=C++l.drop (b+C.length):=by
  rw[ja,List.drop_left' h1]
 rw[e1,e2,←ja];exact FP (by simp only[jy,du];omega)
set_option maxHeartbeats 4000000 in
theorem akJ (g n cap i:Nat)(cur:Array Value)(x:List Value)(vb:Nat)(w:World)(hi:i<n)(Dn:n+1≤cap)(Na:cap≤9223372036854775807)(hg:w.heap[g]?=some (.cells cur 61 (0,0)))(aC:cur.size=cap*3)
 (hx:x.length=3) (cE:w.heap[vb]?=some (.cells x.toArray 61 (0,0))) (h1:∀v∈x,v.oneCell'=true) (jd:∀v∈cur.toList.take (n*3),v.oneCell'=true) (DA:vb≠g):
 Calls Tryz.prog 39 #[.slice (some ⟨g,0,none⟩) n cap,.int .i64 i,.slice (some ⟨vb,0,none⟩) 1 1] w fun e w'=>e=.returned (.slice (some ⟨g,0,none⟩) (n+1) cap)∧
  ∃fy:Array Value,fy.size=cap*3∧w'=w.drew.setRow g fy∧fy.toList.take ((n+1)*3)=(cur.toList.take (n*3)).take (i*3)++x++(cur.toList.take (n*3)).drop (i*3):=by
 obtain⟨i0,H4,nI,ly,sW⟩:=info_parts II;have Dv:(Tryz.prog.info? 61).map (·.size)=some 3:=by rw[H4];simp[ly]
 have Jy:=Cb;have akx:¬((i:Int)=(n:Int)):=by omega
 have mN:IntKind.i64.wrap ((n:Int)+1)=(n:Int)+1:=by rw[IntKind.wrap_i64];omega
 have fS:IntKind.i64.wrap ((i:Int)+1)=(i:Int)+1:=by rw[IntKind.wrap_i64];omega
 have ajW:¬((cap:Int)<(n:Int)+1):=by omega
 have bo:i≤n:=by omega
 have mixed:Tryz.prog.follows .mixedOrders=true:=by kernel_rfl
 have N8:w.shape? vb=some (61,3):=by simp[World.shape?,cE,hx]
 have jM:w.shape? g=some (61,cap*3):=by simp[World.shape?,hg,aC]
 have hov:∀lb cb,(callFunc 71 #[.slice (some ⟨vb,0,none⟩) 1 1,.slice (some ⟨g,(i+1)*3,none⟩) lb cb]).run Tryz.prog w=.ok (.value (.bool false)) w:=fun lb cb=>by
  rw[run_callFunc_extern Tryz.func71 (by kernel_rfl) (by kernel_rfl) (by kernel_rfl) (e:=Extern.SlicesOverlaps.overlaps #[39,39] #[4]) (by kernel_rfl),
   Lib.run_overlaps_apart w 39 4 61 Tryz.underlying39 3 Tryz.sizeOf61 ⟨vb,0,none⟩ ⟨g,(i+1)*3,none⟩ 1 1 lb cb DA 61 61 3 (cap*3) N8 jM (by omega) (by simp[World.frozen?,cE]) (by simp[World.frozen?,cE])]
  rfl
 have uB:cur.toList.length=cap*3:=by simpa using aC
 have eW:∀j v,((cur.toList.take (n*3)).drop (i*3))[j]?=some v→cur[i*3+j]?=some v:=fun j v hj=>by
  rw[dZ,dA] at hj;split at hj
  ·simpa using hj
  ·cases hj
 have aS:((cur.toList.take (n*3)).drop (i*3)).length=(n-i)*3:=by rw[rZ,du,uB];omega
 obtain⟨C,hC⟩:∃C,C=(cur.toList.take (n*3)).drop (i*3):=⟨_,rfl⟩
 rw[←hC] at eW aS;have MV:∀v∈C,v.oneCell'=true:=fun v hv=>jd v (by rw[hC] at hv;exact ye hv);obtain⟨eg,sL⟩:∃eg:Array Value,eg=(cur.toList.take ((i+1)*3)++C++cur.toList.drop ((i+1)*3+C.length)).toArray:=⟨_,rfl⟩
 have jL:eg.size=cap*3:=by rw[sL];simp[uB,aS];omega
 have air:∀ty dc sc,(Builtin.copy_ #[39,39] ty #[.slice (some ⟨g,(i+1)*3,none⟩) (n-i) dc,.slice (some ⟨g,i*3,none⟩) (n+1-i) sc]).run Tryz.prog w.drew=.ok (goInt ((n-i:Nat):Int)) (w.drew.setRow g eg):=fun ty dc sc=>by
  rw[sL]
  exact Kg w.drew _ _ ty 61 g ((i+1)*3) (n-i) dc ⟨g,i*3,none⟩ (n+1-i) sc (n-i) 3 cur 61 C Tryz.underlying39 Dv hg (by show min _ _=_;omega) aS
   (fun j v hj=>by
        have:=eW j v hj;rw[Addr.add_lit];have gN:w.drew.heap[g]?=some (.cells cur 61 (0,0)):=hg;simpa [World.cell?,gN] using this) (by rw[aS];omega) MV
 obtain⟨fy,sM⟩:∃fy:Array Value,fy=(eg.toList.take (i*3)++x++eg.toList.drop (i*3+x.length)).toArray:=⟨_,rfl⟩
 have j7:eg.toList.length=cap*3:=by simpa using jL
 have eI:fy.size=cap*3:=by rw[sM];simp[j7,hx,jL];omega
 have gq:(w.drew.setRow g eg).heap[g]?=some (.cells eg 61 (0,0)):=setRow_heap w.drew g cur eg 61 (0,0) hg;have uJ:(w.drew.setRow g eg).heap[vb]?=some (.cells x.toArray 61 (0,0)):=by rw[←cE];simp[World.setRow,dy,sf DA];rfl
 have ais:∀ty dc,(Builtin.copy_ #[39,39] ty #[.slice (some ⟨g,i*3,none⟩) (n+1-i) dc,.slice (some ⟨vb,0,none⟩) 1 1]).run Tryz.prog (w.drew.setRow g eg)=.ok (goInt 1) ((w.drew.setRow g eg).setRow g fy):=fun ty dc=>by
  rw[sM]
  exact Kg (w.drew.setRow g eg) _ _ ty 61 g (i*3) (n+1-i) dc ⟨vb,0,none⟩ 1 1 1 3 eg 61 x Tryz.underlying39 Dv gq (by show min _ _=_;omega) hx
   (fun j v hj=>by
        rw[Addr.add_lit];simpa [World.cell?,uJ] using hj) (by rw[hx];omega) h1
 have iN:fy.toList.take ((n+1)*3)=(cur.toList.take (n*3)).take (i*3)++x++C:=by
  have e1:(n+1)*3=i*3+x.length+C.length:=by rw[hx,aS];omega
  have e2:i*3+x.length=(i+1)*3:=by rw[hx];omega
  have e3:(cur.toList.take (n*3)).take (i*3)=cur.toList.take (i*3):=by rw[FT,jz (by omega)]
  rw[e1,e3,sM,sL,e2];exact akG _ _ _ _ _ e2 (by rw[uB];omega)
 have bn:¬(cap=i+1):=by omega
 have lg:¬(cap=i):=by omega
 have fB:(i:Int)≤(n:Int)+1:=by omega
 have cu:(0:Int)≤(i:Int)+1:=by omega
 have Oi:((i:Int)+1).toNat=i+1:=by omega
 generalize lV:w.drew.setRow g eg=W1 at*;rw[←hC];clear eW hC sL sM gq uJ jL j7 uB
 go_enter Tryz.func39,Tryz.ntmps39
 go_wp2_with (simp only[hov])
 go_region_law_o (refine ao6 rfl _ _ 39 39 rfl _ _ (by simp[Act.eval,Act.put]) (by simp[Act.eval,Act.put]) (air _ _ _) ?_)
 go_wp2_with (at_builtin;refine TH _ rfl _ _ 39 39 rfl _ _ rfl rfl (ais _ _) ?_)
 go_ret
 refine⟨rfl,fy,eI,?_,iN⟩;rw[←lV,setRow_setRow]
set_option maxHeartbeats 4000000 in
theorem akI (g n cap i:Nat)(cur:Array Value)(x:List Value)(vb:Nat)(w:World)(hi:i<n)(dp:n≤cap)(Dn:cap<n+1)(hn:n≤4294967296)(hg:w.heap[g]?=some (.cells cur 61 (0,0)))(aC:cur.size=cap*3)
 (hx:x.length=3) (cE:w.heap[vb]?=some (.cells x.toArray 61 (0,0))) (h1:∀v∈x,v.oneCell'=true) (jd:∀v∈cur.toList.take (n*3),v.oneCell'=true) (DA:vb≠g):
 Calls Tryz.prog 39 #[.slice (some ⟨g,0,none⟩) n cap,.int .i64 i,.slice (some ⟨vb,0,none⟩) 1 1] w fun e w'=>∃(G:Nat) (fy:Array Value),e=.returned (.slice (some ⟨w.heap.size,0,none⟩) (n+1) G)∧n+1≤G∧G≤maxLen∧
  fy.size=G*3∧w'.heap[w.heap.size]?=some (.cells fy 61 (0,0))∧Below w.heap.size w w'∧fy.toList.take ((n+1)*3)=(cur.toList.take (n*3)).take (i*3)++x++(cur.toList.take (n*3)).drop (i*3):=by
 obtain⟨i0,H4,nI,ly,sW⟩:=info_parts II;have Dv:(Tryz.prog.info? 61).map (·.size)=some 3:=by rw[H4];simp[ly]
 have Jy:=Cb;have akx:¬((i:Int)=(n:Int)):=by omega
 have mN:IntKind.i64.wrap ((n:Int)+1)=(n:Int)+1:=by rw[IntKind.wrap_i64];omega
 have fS:IntKind.i64.wrap ((i:Int)+1)=(i:Int)+1:=by rw[IntKind.wrap_i64];omega
 have fl:IntKind.i64.wrap ((n:Int)+1-(i:Int))=(n:Int)+1-(i:Int):=by rw[IntKind.wrap_i64];omega
 have ajW:(cap:Int)<(n:Int)+1:=by omega
 have bo:i≤n:=by omega
 have mixed:Tryz.prog.follows .mixedOrders=true:=by kernel_rfl
 have uB:cur.toList.length=cap*3:=by simpa using aC
 have eW:∀j v,(cur.toList.take (i*3))[j]?=some v→cur[j]?=some v:=fun j v hj=>by
  rw[dA] at hj;split at hj
  ·simpa using hj
  ·cases hj
 have Nc:∀j v,((cur.toList.take (n*3)).drop (i*3))[j]?=some v→cur[i*3+j]?=some v:=fun j v hj=>by
  rw[dZ,dA] at hj;split at hj
  ·simpa using hj
  ·cases hj
 have aS:((cur.toList.take (n*3)).drop (i*3)).length=(n-i)*3:=by rw[rZ,du,uB];omega
 have e3:(cur.toList.take (n*3)).take (i*3)=cur.toList.take (i*3):=by rw[FT,jz (by omega)]
 rw[e3];obtain⟨C,hC⟩:∃C,C=(cur.toList.take (n*3)).drop (i*3):=⟨_,rfl⟩
 rw[←hC] at Nc aS ⊢;have MV:∀v∈C,v.oneCell'=true:=fun v hv=>jd v (by rw[hC] at hv;exact ye hv);obtain⟨A,hA⟩:∃A,A=cur.toList.take (i*3):=⟨_,rfl⟩
 have zq:A.length=i*3:=by rw[hA,du,uB];omega
 rw[←hA] at eW ⊢;have gq:g<w.heap.size:=(dI.1 hg).1;have uJ:vb<w.heap.size:=(dI.1 cE).1;have hold:(Builtin.firstCells i0.size i (.slice (some ⟨g,0,none⟩) i cap)).run Tryz.prog w.drew=.ok A.toArray w.drew:=by
  rw[ly]
  exact run_firstCells_some w.drew 3 i ⟨g,0,none⟩ i cap A zq (fun j v hj=>by
   have:=eW j v hj;rw[Addr.add_lit,fq];have gN:w.drew.heap[g]?=some (.cells cur 61 (0,0)):=hg;simpa [World.cell?,gN] using this)
 have pY:(n:Int)+1-(i:Int)=((n+1-i:Nat):Int):=by omega
 have CU:i+(n+1-i)=n+1:=by omega
 obtain⟨G,hG⟩:∃G,G=grownCap w (n+1) cap 61:=⟨_,rfl⟩
 have hGn:n+1≤G:=by rw[hG];exact grownCap_ge w _ _ _
 have Wb:G≤maxLen:=by rw[hG];exact grownCap_le_maxLen w (n+1) cap 61 (by unfold maxLen;omega)
 have avM:G≤9223372036854775807:=by unfold maxLen at Wb;omega
 obtain⟨my,HH⟩:∃my:Array Value,my=A.toArray++Builtin.zeroCells #[.int .i64 0,.int .i64 0,.int .i64 0] (n+1-i)++Builtin.zeroCells #[.int .i64 0,.int .i64 0,.int .i64 0] (G-(n+1)):=⟨_,rfl⟩
 have N7:∀ty,(Builtin.append_ #[39,3] ty #[.slice (some ⟨g,0,none⟩) i cap,.int .i64 ((n:Int)+1-(i:Int))]).run Tryz.prog w=
  .ok (.slice (some ⟨w.heap.size,0,none⟩) (n+1) G) (w.drew.alloc (.cells my 61)):=fun ty=>by
  have h:=Lib.run_append_grow_zeros w 39 3 ty 61 i0 _ .i64 .i64 Tryz.underlying39 Tryz.underlying3 H4 nI (some ⟨g,0,none⟩) i cap A hold (n+1-i) (by omega) (by omega) (by omega) (by omega) (by rw[sW];omega) (by rw[sW,CU];exact growslice_fits Dn (by omega));rw[CU,←hG] at h;rw[pY,HH];exact h
 have Wn:my.size=G*3:=by
  rw[HH,TQ,TQ,size_zeroCells,size_zeroCells];simp[zq];omega
 have Wk:my.toList.take (i*3)=A:=by
  rw[HH,Array.toList_append,Array.toList_append,ja];exact FP zq
 clear HH;obtain⟨N,hN⟩:∃N,N=w.heap.size:=⟨_,rfl⟩
 obtain⟨W1,lV⟩:∃W1,W1=w.drew.alloc (.cells my 61):=⟨_,rfl⟩
 obtain⟨eg,sL⟩:∃eg:Array Value,eg=(my.toList.take (i*3)++x++my.toList.drop (i*3+x.length)).toArray:=⟨_,rfl⟩
 have Wm:my.toList.length=G*3:=by simpa using Wn
 have jL:eg.size=G*3:=by rw[sL];simp[Wm,Wn,hx];omega
 have j7:eg.toList.length=G*3:=by simpa using jL
 have M0:W1.heap[N]?=some (.cells my 61 (0,0)):=by rw[lV,hN];show(w.drew.heap.push _)[w.drew.heap.size]?=_;exact Bc
 have M1:∀k,k<w.heap.size→W1.heap[k]?=w.heap[k]?:=fun k hk=>by rw[lV];exact Below.heap_alloc w.drew _ k hk
 have ait:∀(W:World),W.heap=W1.heap→∀ty dc,(Builtin.copy_ #[39,39] ty #[.slice (some ⟨N,i*3,none⟩) (n+1-i) dc,.slice (some ⟨vb,0,none⟩) 1 1]).run Tryz.prog W=.ok (goInt ((1:Nat):Int)) (W.setRow N eg):=fun W hW ty dc=>by
  rw[sL]
  exact Kg W _ _ ty 61 N (i*3) (n+1-i) dc ⟨vb,0,none⟩ 1 1 1 3 my 61 x Tryz.underlying39 Dv (by rw[hW];exact M0) (by show min _ _=_;omega) hx
   (fun j v hj=>by
        rw[Addr.add_lit];have hv:W.heap[vb]?=some (.cells x.toArray 61 (0,0)):=by rw[hW,M1 vb uJ];exact cE
        simpa [World.cell?,hv] using hj) (by rw[hx];omega) h1
 obtain⟨fy,sM⟩:∃fy:Array Value,fy=(eg.toList.take ((i+1)*3)++C++eg.toList.drop ((i+1)*3+C.length)).toArray:=⟨_,rfl⟩
 have eI:fy.size=G*3:=by rw[sM];simp[j7,jL,aS];omega
 have WA:∀(W:World),W.heap=(W1.setRow N eg).heap→∀ty dc sc,(Builtin.copy_ #[39,39] ty #[.slice (some ⟨N,(i+1)*3,none⟩) (n-i) dc,.slice (some ⟨g,i*3,none⟩) (n-i) sc]).run Tryz.prog W=.ok (goInt ((n-i:Nat):Int)) (W.setRow N fy):=fun W hW ty dc sc=>by
  rw[sM];have hWg:W.heap[g]?=some (.cells cur 61 (0,0)):=by rw[hW,←hg,←M1 g gq];simp only[World.setRow,dy];rw[if_neg (by omega)]
  exact Kg W _ _ ty 61 N ((i+1)*3) (n-i) dc ⟨g,i*3,none⟩ (n-i) sc (n-i) 3 eg 61 C Tryz.underlying39 Dv (by rw[hW];exact setRow_heap W1 N my eg 61 (0,0) M0) (by show min _ _=_;omega) aS
   (fun j v hj=>by
        have:=Nc j v hj;rw[Addr.add_lit];simpa [World.cell?,hWg] using this) (by rw[aS];omega) MV
 have iN:fy.toList.take ((n+1)*3)=A++x++C:=by
  have e1:(n+1)*3=(i+1)*3+C.length:=by rw[aS];omega
  have e2:eg.toList.take ((i+1)*3)=A++x:=by
   rw[sL,Wk];exact FP (by rw[jy,zq,hx];omega)
  rw[e1,sM,e2];exact FP (by rw[jy,jy,zq,hx];omega)
 have hGi:¬(G=i):=by omega
 have avO:¬(G=i+1):=by omega
 have Wz:¬(cap=i):=by omega
 have cu:(0:Int)≤(i:Int)+1:=by omega
 have Oi:((i:Int)+1).toNat=i+1:=by omega
 have fB:(i:Int)≤(n:Int):=by omega
 rw[←hN] at N7 ⊢;rw[←lV] at N7;have HN:Hid (N=w.heap.size):=hN;have HW:Hid (W1=w.drew.alloc (.cells my 61)):=lV;have HF:Hid (Below N w W1):=by rw[hN,lV];exact((Below.refl _ w).drew).alloc (aX _) _
 clear eW Nc hC sL sM jL j7 uB pY CU hG hold hA Wk Wm hN lV M1;have avZ:=fun s=>WA ((W1.setRow N eg).drew) rfl 3 (G-(i+1)) s
 go_enter Tryz.func39,Tryz.ntmps39
 go_wp2_with (first
  |(at_builtin;refine Lib.wpList_append_run _ rfl _ _ _ _ rfl _ _ rfl rfl _ _ (N7 _) ?_)
  |(at_builtin;refine TH _ rfl _ _ 39 39 rfl _ _ rfl rfl (ait _ rfl _ _) ?_)
  |(at_builtin;refine TH _ rfl _ _ 39 39 rfl _ _ rfl rfl (WA _ rfl _ _ _) ?_))
 go_region_o
 go_wp2
 go_ret
 refine⟨G,fy,rfl,hGn,Wb,eI,?_,?_,iN⟩
 ·exact setRow_heap _ N eg fy 61 (0,0) (setRow_heap W1 N my eg 61 (0,0) M0)
 ·refine HF.out.trans ⟨rfl,rfl,rfl,by simp[World.setRow],fun k hk=>?_⟩;simp only[World.setRow,dy];rw[if_neg (by omega)];show(W1.setRow N eg).heap[k]?=_;simp only[World.setRow,dy];rw[if_neg (by omega)]
theorem IJ (B:Nat)(s:Value)(n i:Nat)(cells x:List Value)(vb:Nat)(w:World)(hB:B≤w.heap.size)(fG:w.ownsRow B 61 3 s n cells)(hi:i≤n)(hn:n≤4294967296)(hx:x.length=3)
 (cE:w.heap[vb]?=some (.cells x.toArray 61 (0,0))) (h1:∀v∈x,v.oneCell'=true) (jd:∀v∈cells,v.oneCell'=true) (DA:s.ownBlock≠some vb):
 Calls Tryz.prog 39 #[s,.int .i64 i,.slice (some ⟨vb,0,none⟩) 1 1] w fun e w'=>∃v',e=.returned v'∧w'.ownsRow B 61 3 v' (n+1) (cells.take (i*3)++x++cells.drop (i*3))∧w.grownBy w' s.ownBlock:=by
 have aS:=fG.1;by_cases bo:i=n
 ·subst bo;obtain⟨p,c,hs⟩:∃p c,s=.slice p i c:=by
   rcases fG.2 with⟨e,h0⟩|⟨g,cap,cur,e,_⟩
   ·exact⟨none,0,by rw[e,h0]⟩
   ·exact⟨_,_,e⟩
  have e1:cells.take (i*3)=cells:=tR (by omega);have e2:cells.drop (i*3)=[]:=T2 (by omega);rw[e1,e2,lK];exact akH B s i cells x vb w hB fG hn hx cE h1 p c hs
 rcases fG.2 with⟨e,h0⟩|⟨g,cap,cur,e,h2,h3,h4,h5,h6,h7⟩
 ·omega
 subst e;have XE:vb≠g:=fun e=>DA (by rw[e];rfl);have zp:cap≤9223372036854775807:=by unfold maxLen at h5;omega
 subst h7;by_cases hr:n+1≤cap
 ·refine(akJ g n cap i cur x vb w (by omega) hr zp h3 h6 hx cE h1 jd XE).mono fun e w' hh=>?_;obtain⟨rfl,fy,k1,rfl,k3⟩:=hh;refine⟨_,rfl,⟨by rw[←k3,du];simp[k1];omega,.inr ⟨g,cap,fy,rfl,h2,setRow_heap w.drew g cur fy 61 (0,0) h3,hr,h5,k1,k3⟩⟩,⟨rfl,rfl,rfl,by simp[World.setRow],fun k hk ay=>?_⟩⟩;simp only[World.setRow,dy];rw[if_neg (fun e=>ay (by subst e;rfl))];rfl
 ·refine(akI g n cap i cur x vb w (by omega) h4 (by omega) hn h3 h6 hx cE h1 jd XE).mono fun e w' hh=>?_;obtain⟨G,fy,rfl,k1,k2,k3,k4,k5,k6⟩:=hh;refine⟨_,rfl,⟨by rw[←k6,du];simp[k3];omega,.inr ⟨w.heap.size,G,fy,rfl,hB,k4,k1,k2,k3,k6⟩⟩,⟨k5.os,k5.tape,k5.output,k5.size,fun k hk _=>k5.block k hk⟩⟩
theorem Hg (s f:Value)(w:World)(R:World→Prop)(h:Calls Tryz.prog 34 #[s,f] w fun e w'=>e=.returned (.int .i64 (-1))∧R w'):
 Calls Tryz.prog 35 #[s,f] w fun e w'=>e=.returned s∧R w':=by
 go_enter Tryz.func35,Tryz.ntmps35
 go_wp2_with (go_at_call 34;refine h.mono ?_;rintro e w' ⟨rfl,hR⟩)
 go_ret
 exact⟨rfl,hR⟩
end Rm
namespace Rm
open Go Go.Proofs Cx Go.RowKit Go.Lib
def eU (W:World)(v:Value)(n:Nat)(cells:List Value):Prop:=
 cells.length=n*3∧((∃p,v=.slice p 0 0∧n=0)∨∃g o c,v=.slice (some ⟨g,o,none⟩) n c∧n≤c∧c≤maxLen∧∀j u,cells[j]?=some u→W.cell? ⟨g,o+j,none⟩=some u)
abbrev y5 (f p q:Nat):Value:=.func (.func f) #[] #[.pointer (some ⟨p,0,none⟩),.pointer (some ⟨q,0,none⟩)]
theorem eU.of_cell {w W:World}{v:Value}{n:Nat}{cells:List Value}(h:eU w v n cells)(hb:∀a u,w.cell? a=some u→W.cell? a=some u):eU W v n cells:=by
 refine⟨h.1,h.2.imp id fun⟨g,o,c,h1,h2,h3,h4⟩=>⟨g,o,c,h1,h2,h3,fun j u hj=>hb _ _ (h4 j u hj)⟩⟩
theorem eU.below {w W:World}{v:Value}{n:Nat}{cells:List Value}(h:eU w v n cells)(hb:Below w.heap.size w W):eU W v n cells:=
 h.of_cell fun a u ha=>by rw[hb.cell (World.block_lt_of_cell? w a ha)];exact ha
theorem eU.of_own {B:Nat}{w:World}{v:Value}{n:Nat}{cells:List Value}(h:w.ownsRow B 61 3 v n cells):eU w v n cells:=by
 refine⟨h.1,h.2.imp (fun⟨e,h0⟩=>⟨none,e,h0⟩) fun⟨g,cap,cur,h1,h2,h3,h4,h5,h6,h7⟩=>⟨g,0,cap,h1,h4,h5,fun j u hj=>?_⟩⟩;rw[←h7,dA] at hj;split at hj
 ·simpa [World.cell?,h3] using hj
 ·cases hj
theorem y7 (v:Value)(n:Nat)(cells:List Value)(w:World)(h:eU w v n cells)(hn:n≤4294967296)(h1:∀u∈cells,u.oneCell'=true):
 Calls Tryz.prog 33 #[v] w fun e w'=>∃v',e=.returned v'∧w'.ownsRow w.heap.size 61 3 v' n cells∧Below w.heap.size w w':=by
 obtain⟨hl,h⟩:=h;rcases h with⟨p,rfl,rfl⟩|⟨g,o,c,rfl,h2,h3,h4⟩
 ·obtain rfl:cells=[]:=Ua.1 (by omega);cases p with
  |none=>
   refine(aeI w).mono fun e w' hh=>?_;obtain⟨rfl,rfl⟩:=hh;exact⟨_,rfl,World.ownsRow_nil _ _ _ _,.refl _ _⟩
  |some p=>exact Vb p 0 0 [] w rfl (by omega) (by simp) (by simp)
 ·exact Vb ⟨g,o,none⟩ n c cells w hl hn (fun j u hj=>by rw[Addr.add_lit];exact h4 j u hj) h1
structure Bx (w W:World) (A B C D E:Obj):Prop where
 below:Below w.heap.size w W
 size:w.heap.size+5≤W.heap.size
 a:W.heap[w.heap.size]?=some A
 b:W.heap[w.heap.size+1]?=some B
 c:W.heap[w.heap.size+1+1]?=some C
 d:W.heap[w.heap.size+1+1+1]?=some D
 e:W.heap[w.heap.size+1+1+1+1]?=some E
theorem Bx.step {w W W':World}{A B C D E:Obj}(h:Bx w W A B C D E)(hb:Below (w.heap.size+5) W W'):Bx w W' A B C D E:=
 ⟨h.below.trans (hb.mono (by omega)),cL h.size hb.size,(hb.block _ (by omega)).trans h.a,(hb.block _ (by omega)).trans h.b,(hb.block _ (by omega)).trans h.c,(hb.block _ (by omega)).trans h.d,(hb.block _ (by omega)).trans h.e⟩
theorem ym (w:World)(A B C D E:Obj):Bx w (((((w.alloc A).alloc B).alloc C).alloc D).alloc E) A B C D E:=by
 have ha:∀(w:World) (o:Obj),(w.alloc o).heap[w.heap.size]?=some o:=fun w o=>by show(w.heap.push o)[w.heap.size]?=_;exact Bc
 have hs:∀(w:World) (o:Obj),(w.alloc o).heap.size=w.heap.size+1:=fun w o=>by simp
 refine⟨((((((Below.refl _ w).alloc (aX _) A).alloc ?_ B).alloc ?_ C).alloc ?_ D).alloc ?_ E),?_,?_,?_,?_,?_,?_⟩
 ·simp only[hs];omega
 ·simp only[hs];omega
 ·simp only[hs];omega
 ·simp only[hs];omega
 ·simp only[hs];omega
 ·rw[Below.heap_alloc _ _ _ (by simp only[hs];omega),Below.heap_alloc _ _ _ (by simp only[hs];omega),Below.heap_alloc _ _ _ (by simp only[hs];omega),Below.heap_alloc _ _ _ (by simp only[hs];omega)];exact ha _ _
 ·rw[Below.heap_alloc _ _ _ (by simp only[hs];omega),Below.heap_alloc _ _ _ (by simp only[hs];omega),Below.heap_alloc _ _ _ (by simp only[hs];omega),←hs w A];exact ha _ _
 ·rw[Below.heap_alloc _ _ _ (by simp only[hs];omega),Below.heap_alloc _ _ _ (by simp only[hs];omega),←hs w A,←hs (w.alloc A) B];exact ha _ _
 ·rw[Below.heap_alloc _ _ _ (by simp only[hs];omega),←hs w A,←hs (w.alloc A) B,←hs ((w.alloc A).alloc B) C];exact ha _ _
 ·rw[←hs w A,←hs (w.alloc A) B,←hs ((w.alloc A).alloc B) C,←hs (((w.alloc A).alloc B).alloc C) D];exact ha _ _
theorem mZ {B:Nat}{w W:World}{v:Value}{n:Nat}{cells:List Value}(h:w.ownsRow B 61 3 v n cells)(hb:Below w.heap.size w W):W.ownsRow B 61 3 v n cells:=
 ⟨h.1,h.2.imp id fun⟨g,cap,cur,h1,h2,h3,h4⟩=>⟨g,cap,cur,h1,h2,(hb.block g (dI.1 h3).1).trans h3,h4⟩⟩
theorem yo (W:World)(b:Nat)(x y z:Value)(h:W.heap[b]?=some (.cells #[x,y,z] 61 (0,0))):
 W.cell? ⟨b,0,none⟩=some x∧W.cell? ⟨b,1,none⟩=some y∧W.cell? ⟨b,2,none⟩=some z∧∀j,W.frozen? ⟨b,j,none⟩=false:=by
 simp[World.cell?,World.frozen?,h]
theorem akW {α:Type}(l:List α)(a:Nat)(x y z:α)(h:a+3≤l.length):((l.set a x).set (a+1) y).set (a+2) z=l.take a++[x,y,z]++l.drop (a+3):=by
 apply KS;intro j;have hl:(l.take a).length=a:=by rw[du];omega
 rcases FU j a with h1|h1
 ·rw[ja,kT (by omega),List.getElem?_take_of_lt h1,vN (by omega),vN (by omega),vN (by omega)]
 ·rw[ja,jx (by omega),hl];obtain⟨d,rfl⟩:∃d,j=a+d:=⟨j-a,by omega⟩
  rw[show a+d-a=d by omega];have h0:a<l.length:=by omega
  have h2:a+1<l.length:=by omega
  have h3:a+2<l.length:=by omega
  match d with
  |0=>simp[tO,h0]
  |1=>simp[tO,h2]
  |2=>simp[tO,h3]
  |d+3=>
   rw[vN (by omega),vN (by omega),vN (by omega)];show _=(l.drop (a+3))[d]?;rw[dZ]
   congr 1
   omega
theorem abT (W:World)(g a:Nat)(cur:Array Value)(x y z:Value)(hg:W.heap[g]?=some (.cells cur 61 (0,0)))(ha:a+3≤cur.size):
 ∃bl:Array Value,((W.setCell ⟨g,a,none⟩ x).setCell ⟨g,a+1,none⟩ y).setCell ⟨g,a+2,none⟩ z=W.setRow g bl∧bl.size=cur.size∧bl.toList=cur.toList.take a++[x,y,z]++cur.toList.drop (a+3):=by
 have h1:=setCell_eq_setRow W g a cur 61 (0,0) x hg;have g1:=setRow_heap W g cur (cur.setIfInBounds a x) 61 (0,0) hg;rw[←h1] at g1;have h2:=setCell_eq_setRow _ g (a+1) _ 61 (0,0) y g1;have g2:=setRow_heap _ g _ ((cur.setIfInBounds a x).setIfInBounds (a+1) y) 61 (0,0) g1;rw[←h2] at g2;have h3:=setCell_eq_setRow _ g (a+2) _ 61 (0,0) z g2;refine⟨((cur.setIfInBounds a x).setIfInBounds (a+1) y).setIfInBounds (a+2) z,by rw[h3,h2,h1,setRow_setRow,setRow_setRow],by simp,?_⟩;simp only[Array.toList_setIfInBounds];exact akW _ _ _ _ _ (by simpa using ha)
theorem aoT (W:World)(g o:Nat)(cur:Array Value)(u:Value)(hg:W.heap[g]?=some (.cells cur 61 (0,0)))(h:cur[o]?=some u):W.setCell ⟨g,o,none⟩ u=W:=by
 rw[setCell_eq_setRow W g o cur 61 (0,0) u hg];have:cur.setIfInBounds o u=cur:=by
  obtain⟨ho,he⟩:=dI.1 h;apply Array.ext (by simp);intro j h1 h2;rw[Array.getElem_setIfInBounds];split
  ·rename_i e;subst e;exact he.symm
  ·rfl
 rw[this];exact setRow_self W g cur 61 (0,0) hg
theorem abU (W:World)(g:Nat)(cur:Array Value)(hg:W.heap[g]?=some (.cells cur 61 (0,0))):∀(us:List Value) (o:Nat),(∀j u,us[j]?=some u→cur[o+j]?=some u)→W.setCells g o us=W
 |[],_,_=>rfl
 |u::us,o,h=>by
  rw[World.setCells,aoT W g o cur u hg (by simpa using h 0 u rfl)];exact abU W g cur hg us (o+1) fun j v hj=>by have:=h (j+1) v (by simpa using hj);rwa [show o+(j+1)=o+1+j by omega] at this
theorem Yf (W:World)(ad:Addr)(n:Nat)(news:List Value)(hl:news.length=n)(Dt:∀j u,news[j]?=some u→W.cell? (ad.add j)=some u):
 (loadCellsFrom ad 0 n #[]).run Tryz.prog W=.ok news.toArray W:=by
 subst hl;exact run_loadCells_list (P:=Tryz.prog) W ad news Dt
theorem ab7 (W:World)(g o:Nat)(cur:Array Value)(news:List Value)(hg:W.heap[g]?=some (.cells cur 61 (0,0)))(bo:∀j u,news[j]?=some u→cur[o+j]?=some u)(h1:∀u∈news,u.oneCell'=true):
 (storeCells ⟨g,o,none⟩ news).run Tryz.prog W=.ok () W:=by
 have:=run_storeCells_cells (P:=Tryz.prog) g o news 0 W (fun j hj=>by
  have:=bo j _ (bu hj);simp[World.cell?,hg,this]) (fun j hj=>by simp[World.frozen?,hg]) h1
 rw[this,iz,abU W g cur hg news o bo]
theorem Bx.drew {w W:World}{A B C D E:Obj}(h:Bx w W A B C D E):Bx w W.drew A B C D E:=⟨h.below.drew,h.size,h.a,h.b,h.c,h.d,h.e⟩
set_option maxHeartbeats 4000000 in
theorem aoW (vs:Array Value)(iZ:Value)(cE:vs.size=19)(mM:vs[18]?=some iZ)(h1:vs.all (·.oneCell')=true)(k a n m:Int)(hm:n=0∧m=0∨n≠0∧m=1)
 (w:World) (N i:Nat) (cells:List Value) (fG:eU w iZ N cells) (hN:N≤4294967296) (hi:i<N) (jd:∀v∈cells,v.oneCell'=true)
 (hI:∀W v p q,Below w.heap.size w W→eU W v N cells→W.cell? ⟨p,0,none⟩=some (.int .i64 k)→W.cell? ⟨q,0,none⟩=some (.int .i64 a)→Calls Tryz.prog 34 #[v,y5 32 p q] W fun e w'=>e=.returned (.int .i64 i)∧Below W.heap.size W w')
 (hD:∀W v p q,Below w.heap.size w W→eU W v (N-(i+1)) (cells.drop ((i+1)*3))→W.cell? ⟨p,0,none⟩=some (.int .i64 k)→W.cell? ⟨q,0,none⟩=some (.int .i64 a)→Calls Tryz.prog 34 #[v,y5 32 p q] W fun e w'=>e=.returned (.int .i64 (-1))∧Below W.heap.size W w'):
 Calls Tryz.prog 16 #[.agg vs,.int .i64 k,.int .i64 a,.int .i64 n] w fun e w'=>∃v' g c,e=.returned (.agg (vs.setIfInBounds 18 v'))∧
  Below w.heap.size w w'∧w.heap.size≤g∧v'=.slice (some ⟨g,0,none⟩) N c∧N≤c∧c≤maxLen∧∀j u,(cells.take (i*3)++[.int .i64 k,.int .i64 a,.int .i64 m]++cells.drop ((i+1)*3))[j]?=some u→w'.cell? ⟨g,j,none⟩=some u:=by
 have akn:vs[18]'(by omega)=iZ:=(dI.1 mM).2;rcases hm with⟨rfl,rfl⟩|⟨hn,rfl⟩
 ·skip
  go_enter Tryz.func16,Tryz.ntmps16
  go_wp2_with (first
   |(go_at_call 33
     have dg:=ym w (.cells vs 41 (0,0)) (.cells #[.int .i64 k] 3 (0,0)) (.cells #[.int .i64 a] 3 (0,0)) (.cells #[.int .i64 0,.int .i64 0,.int .i64 0,.int .i64 0,.int .i64 0,.int .i64 0,.int .i64 0,.int .i64 0,.int .i64 0,.int .i64 0,.int .i64 0,.int .i64 0,.int .i64 0,.int .i64 0,.int .i64 0,.slice none 0 0,.slice none 0 0,.slice none 0 0,.slice none 0 0] 41 (0,0)) (.cells #[.int .i64 k,.int .i64 a,.int .i64 0] 61 (0,0));refine(y7 iZ N cells _ (fG.below dg.below) hN jd).mono ?_;rintro e W1 ⟨v',rfl,aZ,cu⟩;have bU:=dg.step (cu.mono dg.size);have hB:w.heap.size+5≤(((((w.alloc (.cells vs 41 (0,0))).alloc (.cells #[.int .i64 k] 3 (0,0))).alloc (.cells #[.int .i64 a] 3 (0,0))).alloc (.cells #[.int .i64 0,.int .i64 0,.int .i64 0,.int .i64 0,.int .i64 0,.int .i64 0,.int .i64 0,.int .i64 0,.int .i64 0,.int .i64 0,.int .i64 0,.int .i64 0,.int .i64 0,.int .i64 0,.int .i64 0,.slice none 0 0,.slice none 0 0,.slice none 0 0,.slice none 0 0] 41 (0,0))).alloc (.cells #[.int .i64 k,.int .i64 a,.int .i64 0] 61 (0,0))).heap.size:=dg.size;clear cu dg)
   |(go_at_call 34
     refine(hI W1 v' (w.heap.size+1) (w.heap.size+1+1) bU.below (eU.of_own aZ) (by simp[World.cell?,bU.b]) (by simp[World.cell?,bU.c])).mono ?_;rintro e W2 ⟨rfl,bn⟩;have dh:=bU.step (bn.mono bU.size);have iP:=mZ aZ bn;clear bn bU aZ;rcases iP.2 with⟨_,h0⟩|⟨g,cap,cur,rfl,pV,db,uw,dU,hg5,gf⟩
     ·exact absurd h0 (by omega)
     obtain⟨e0,e1,e2,ef⟩:=yo W2 _ _ _ _ dh.e;have sN:∀j,W2.frozen? ⟨g,j,none⟩=false:=fun j=>by simp[World.frozen?,db]
     obtain⟨u0,wW⟩:∃u,W2.cell? ⟨g,i*3,none⟩=some u:=⟨_,by simp[World.cell?,db];exact eC (show i*3<cur.size by omega)⟩
     obtain⟨u1,Dx⟩:∃u,W2.cell? ⟨g,i*3+1,none⟩=some u:=⟨_,by simp[World.cell?,db];exact eC (show i*3+1<cur.size by omega)⟩
     obtain⟨u2,Dy⟩:∃u,W2.cell? ⟨g,i*3+2,none⟩=some u:=⟨_,by simp[World.cell?,db];exact eC (show i*3+2<cur.size by omega)⟩
     have WN:w.heap.size+5≤g:=cL hB pV;have cw:(i:Int)<(N:Int):=by omega
     clear hB pV))
  obtain⟨bl,CI,Ix,wI⟩:=abT W2 g (i*3) cur (.int .i64 k) (.int .i64 a) (.int .i64 0) db (by omega);rw[CI];have cH:Bx w (W2.setRow g bl).drew (.cells vs 41 (0,0)) (.cells #[.int .i64 k] 3 (0,0)) (.cells #[.int .i64 a] 3 (0,0)) (.cells #[.int .i64 0,.int .i64 0,.int .i64 0,.int .i64 0,.int .i64 0,.int .i64 0,.int .i64 0,.int .i64 0,.int .i64 0,.int .i64 0,.int .i64 0,.int .i64 0,.int .i64 0,.int .i64 0,.int .i64 0,.slice none 0 0,.slice none 0 0,.slice none 0 0,.slice none 0 0] 41 (0,0)) (.cells #[.int .i64 k,.int .i64 a,.int .i64 0] 61 (0,0)):=by
   refine Bx.drew (dh.step ⟨rfl,rfl,rfl,by simp[World.setRow],fun q hq=>?_⟩);simp only[World.setRow,dy];rw[if_neg (by omega)]
  have gq:(W2.setRow g bl).drew.heap[g]?=some (.cells bl 61 (0,0)):=setRow_heap W2 g cur bl 61 (0,0) db;clear CI dh iP e0 e1 e2 ef sN wW Dx Dy db;generalize MZ:W2.setRow g bl=W3 at*;clear MZ
  have wB:∀j u,(cells.drop ((i+1)*3))[j]?=some u→bl[(i+1)*3+j]?=some u:=fun j u hj=>by
   rw[dZ,←gf,dA] at hj;split at hj
   ·rw[←xU,wI,ja,jx (by rw[du];omega),du,jz (by rw[rT];omega),jx (by simp;omega),dZ];rw[←hj]
    congr 1
    simp;omega
   ·cases hj
  have aS:(cells.drop ((i+1)*3)).length=(N-(i+1))*3:=by rw[rZ,←gf,du,rT];omega
  have Nb:∀u∈cells.drop ((i+1)*3),u.oneCell'=true:=fun u hu=>jd u (ye hu);have hNi:i+1+(N-(i+1))=N:=by omega
  have fS:IntKind.i64.wrap ((i:Int)+1)=(i:Int)+1:=by rw[IntKind.wrap_i64];omega
  have cu:(0:Int)≤(i:Int)+1:=by omega
  have bn:(i:Int)+1≤(N:Int):=by omega
  have fB:(i:Int)+1≤(cap:Int):=by omega
  have Oi:((i:Int)+1).toNat=i+1:=by omega
  have ux:(w.heap.size==g)=false:=by simp;omega
  have mixed:Tryz.prog.follows .mixedOrders=true:=by kernel_rfl
  have HC:Hid (∀j u,(cells.take (i*3)++[.int .i64 k,.int .i64 a,.int .i64 0]++cells.drop ((i+1)*3))[j]?=some u→bl[j]?=some u):=fun j u hj=>by
   have e:cells.take (i*3)++[.int .i64 k,.int .i64 a,.int .i64 0]++cells.drop ((i+1)*3)=bl.toList.take (N*3):=by
        rw[wI,←gf,FT,jz (by omega),List.drop_take,show(i+1)*3=i*3+3 by omega];have hA:(cur.toList.take (i*3)++[Value.int .i64 k,.int .i64 a,.int .i64 0]).length=i*3+3:=by simp;omega
        rw[List.take_append,tR (l:=cur.toList.take (i*3)++_) (by omega),hA]
   rw[e,dA] at hj;split at hj
   ·simpa using hj
   ·cases hj
  clear gf wI;by_cases fg:cap=i+1
  ·obtain rfl:N=i+1:=by omega
   subst fg
   go_region_with_o (go_at_call 35
                     refine(Hg _ _ _ _ (hD W3.drew _ _ _ cH.below ⟨aS,.inl ⟨some ⟨g,0,none⟩,rfl,by omega⟩⟩ (by simp[World.cell?,cH.b]) (by simp[World.cell?,cH.c]))).mono ?_;rintro e W4 ⟨rfl,lg⟩;have bB:=cH.step (lg.mono cH.size);have lY:W4.heap[g]?=some (.cells bl 61 (0,0)):=(lg.block g (dI.1 gq).1).trans gq;have nu:W4.cell? ⟨w.heap.size,18,none⟩=some iZ:=by simp[World.cell?,bB.a,mM]
                     have cf:W4.frozen? ⟨w.heap.size,18,none⟩=false:=by simp[World.frozen?,bB.a]
                     clear lg cH gq)
   have hA:=setCell_eq_setRow W4 w.heap.size 18 vs 41 (0,0) (.slice (some ⟨g,0,none⟩) (i+1) (i+1)) bB.a;rw[hA];have lW:(W4.setRow w.heap.size (vs.setIfInBounds 18 (.slice (some ⟨g,0,none⟩) (i+1) (i+1)))).heap[w.heap.size]?=some (.cells (vs.setIfInBounds 18 (.slice (some ⟨g,0,none⟩) (i+1) (i+1))) 41 (0,0)):=setRow_heap W4 w.heap.size vs _ 41 (0,0) bB.a;have gM:(W4.setRow w.heap.size (vs.setIfInBounds 18 (.slice (some ⟨g,0,none⟩) (i+1) (i+1)))).heap[w.heap.size+1+1+1]?=some (.cells #[.int .i64 0,.int .i64 0,.int .i64 0,.int .i64 0,.int .i64 0,.int .i64 0,.int .i64 0,.int .i64 0,.int .i64 0,.int .i64 0,.int .i64 0,.int .i64 0,.int .i64 0,.int .i64 0,.int .i64 0,.slice none 0 0,.slice none 0 0,.slice none 0 0,.slice none 0 0] 41 (0,0)):=by
        rw[←bB.d];simp only[World.setRow,dy];rw[if_neg (by omega)]
   have gf:(W4.setRow w.heap.size (vs.setIfInBounds 18 (.slice (some ⟨g,0,none⟩) (i+1) (i+1)))).heap[g]?=some (.cells bl 61 (0,0)):=by
        rw[←lY];simp only[World.setRow,dy];rw[if_neg (by omega)]
   have lU:Below w.heap.size w (W4.setRow w.heap.size (vs.setIfInBounds 18 (.slice (some ⟨g,0,none⟩) (i+1) (i+1)))):=by
        refine bB.below.trans ⟨rfl,rfl,rfl,by simp[World.setRow],fun q hq=>?_⟩;simp only[World.setRow,dy];rw[if_neg (by omega)]
   have aF:(vs.setIfInBounds 18 (.slice (some ⟨g,0,none⟩) (i+1) (i+1))).all (·.oneCell')=true:=by
        rw[tI] at h1 ⊢;intro u hu;rcases vH hu with h|h
        ·exact h1 u h
        ·subst h;rfl
   have gR:(vs.setIfInBounds 18 (.slice (some ⟨g,0,none⟩) (i+1) (i+1))).size=19:=by simp[cE]
   generalize W4.setRow w.heap.size (vs.setIfInBounds 18 (.slice (some ⟨g,0,none⟩) (i+1) (i+1)))=W6 at*;generalize qg:vs.setIfInBounds 18 (.slice (some ⟨g,0,none⟩) (i+1) (i+1))=bf at*;have HV:Hid (vs.setIfInBounds 18 (.slice (some ⟨g,0,none⟩) (i+1) (i+1))=bf):=qg;clear qg;have eH:(Tryz.prog.info? 41).map (·.size)=some bf.size:=by rw[gR];kernel_rfl
   clear hA nu cf bB lY
   go_wp2_with (first
        |(refine wpList_load_row rfl 41 _ rfl w.heap.size rfl 41 bf (0,0) _ lW Tryz.underlying41 rfl eH ?_)
        |(refine wpList_store_row rfl 41 _ _ rfl (w.heap.size+1+1+1) bf rfl rfl 41 _ gM eH (by rw[gR];rfl) aF ?_))
   refine bodyPost_ret (results_cell_row (p:=8) (ty:=41) rfl _ _ (w.heap.size+1+1+1) 41 bf (0,0) _ rfl (setRow_heap W6 (w.heap.size+1+1+1) _ bf 41 (0,0) gM) Tryz.underlying41 rfl eH) rfl ?_;refine⟨_,g,i+1,by rw[HV.out],?_,by omega,rfl,uw,dU,fun j u hj=>?_⟩
   ·refine lU.trans ⟨rfl,rfl,rfl,by simp[World.setRow],fun q hq=>?_⟩;simp only[World.setRow,dy];rw[if_neg (by omega)]
   ·have lZ:(W6.setRow (w.heap.size+1+1+1) bf).heap[g]?=some (.cells bl 61 (0,0)):=by
     rw[←gf];simp only[World.setRow,dy];rw[if_neg (by omega)]
    have:=HC.out j u hj;simpa [World.cell?,lZ] using this
  ·go_region_with_o (go_at_call 35
                     refine(Hg _ _ _ _ (hD W3.drew _ _ _ cH.below ⟨aS,.inr ⟨g,(i+1)*3,cap-(i+1),rfl,by omega,by omega,fun j u hj=>by have:=wB j u hj;simpa [World.cell?,gq] using this⟩⟩ (by simp[World.cell?,cH.b]) (by simp[World.cell?,cH.c]))).mono ?_;rintro e W4 ⟨rfl,lg⟩;have bB:=cH.step (lg.mono cH.size);have lY:W4.heap[g]?=some (.cells bl 61 (0,0)):=(lg.block g (dI.1 gq).1).trans gq;have zJ:=Yf W4 ⟨g,(i+1)*3,none⟩ ((N-(i+1))*3) (cells.drop ((i+1)*3)) aS (fun j u hj=>by have:=wB j u hj;rw[Addr.add_lit];simpa [World.cell?,lY] using this);have bZ:=ab7 W4 g ((i+1)*3) bl (cells.drop ((i+1)*3)) lY wB Nb;have nu:W4.cell? ⟨w.heap.size,18,none⟩=some iZ:=by simp[World.cell?,bB.a,mM]
                     have cf:W4.frozen? ⟨w.heap.size,18,none⟩=false:=by simp[World.frozen?,bB.a]
                     clear lg cH gq)
   have hA:=setCell_eq_setRow W4 w.heap.size 18 vs 41 (0,0) (.slice (some ⟨g,0,none⟩) N cap) bB.a;rw[hA];have lW:(W4.setRow w.heap.size (vs.setIfInBounds 18 (.slice (some ⟨g,0,none⟩) N cap))).heap[w.heap.size]?=some (.cells (vs.setIfInBounds 18 (.slice (some ⟨g,0,none⟩) N cap)) 41 (0,0)):=setRow_heap W4 w.heap.size vs _ 41 (0,0) bB.a;have gM:(W4.setRow w.heap.size (vs.setIfInBounds 18 (.slice (some ⟨g,0,none⟩) N cap))).heap[w.heap.size+1+1+1]?=some (.cells #[.int .i64 0,.int .i64 0,.int .i64 0,.int .i64 0,.int .i64 0,.int .i64 0,.int .i64 0,.int .i64 0,.int .i64 0,.int .i64 0,.int .i64 0,.int .i64 0,.int .i64 0,.int .i64 0,.int .i64 0,.slice none 0 0,.slice none 0 0,.slice none 0 0,.slice none 0 0] 41 (0,0)):=by
        rw[←bB.d];simp only[World.setRow,dy];rw[if_neg (by omega)]
   have gf:(W4.setRow w.heap.size (vs.setIfInBounds 18 (.slice (some ⟨g,0,none⟩) N cap))).heap[g]?=some (.cells bl 61 (0,0)):=by
        rw[←lY];simp only[World.setRow,dy];rw[if_neg (by omega)]
   have lU:Below w.heap.size w (W4.setRow w.heap.size (vs.setIfInBounds 18 (.slice (some ⟨g,0,none⟩) N cap))):=by
        refine bB.below.trans ⟨rfl,rfl,rfl,by simp[World.setRow],fun q hq=>?_⟩;simp only[World.setRow,dy];rw[if_neg (by omega)]
   have aF:(vs.setIfInBounds 18 (.slice (some ⟨g,0,none⟩) N cap)).all (·.oneCell')=true:=by
        rw[tI] at h1 ⊢;intro u hu;rcases vH hu with h|h
        ·exact h1 u h
        ·subst h;rfl
   have gR:(vs.setIfInBounds 18 (.slice (some ⟨g,0,none⟩) N cap)).size=19:=by simp[cE]
   generalize W4.setRow w.heap.size (vs.setIfInBounds 18 (.slice (some ⟨g,0,none⟩) N cap))=W6 at*;generalize qg:vs.setIfInBounds 18 (.slice (some ⟨g,0,none⟩) N cap)=bf at*;have HV:Hid (vs.setIfInBounds 18 (.slice (some ⟨g,0,none⟩) N cap)=bf):=qg;clear qg;have eH:(Tryz.prog.info? 41).map (·.size)=some bf.size:=by rw[gR];kernel_rfl
   clear zJ bZ hA nu cf bB lY
   go_wp2_with (first
        |(refine wpList_load_row rfl 41 _ rfl w.heap.size rfl 41 bf (0,0) _ lW Tryz.underlying41 rfl eH ?_)
        |(refine wpList_store_row rfl 41 _ _ rfl (w.heap.size+1+1+1) bf rfl rfl 41 _ gM eH (by rw[gR];rfl) aF ?_))
   refine bodyPost_ret (results_cell_row (p:=8) (ty:=41) rfl _ _ (w.heap.size+1+1+1) 41 bf (0,0) _ rfl (setRow_heap W6 (w.heap.size+1+1+1) _ bf 41 (0,0) gM) Tryz.underlying41 rfl eH) rfl ?_;refine⟨_,g,cap,by rw[HV.out],?_,by omega,rfl,uw,dU,fun j u hj=>?_⟩
   ·refine lU.trans ⟨rfl,rfl,rfl,by simp[World.setRow],fun q hq=>?_⟩;simp only[World.setRow,dy];rw[if_neg (by omega)]
   ·have lZ:(W6.setRow (w.heap.size+1+1+1) bf).heap[g]?=some (.cells bl 61 (0,0)):=by
     rw[←gf];simp only[World.setRow,dy];rw[if_neg (by omega)]
    have:=HC.out j u hj;simpa [World.cell?,lZ] using this
 ·skip
  go_enter Tryz.func16,Tryz.ntmps16
  go_wp2_with (first
   |(go_at_call 33
     have dg:=ym w (.cells vs 41 (0,0)) (.cells #[.int .i64 k] 3 (0,0)) (.cells #[.int .i64 a] 3 (0,0)) (.cells #[.int .i64 0,.int .i64 0,.int .i64 0,.int .i64 0,.int .i64 0,.int .i64 0,.int .i64 0,.int .i64 0,.int .i64 0,.int .i64 0,.int .i64 0,.int .i64 0,.int .i64 0,.int .i64 0,.int .i64 0,.slice none 0 0,.slice none 0 0,.slice none 0 0,.slice none 0 0] 41 (0,0)) (.cells #[.int .i64 k,.int .i64 a,.int .i64 1] 61 (0,0));refine(y7 iZ N cells _ (fG.below dg.below) hN jd).mono ?_;rintro e W1 ⟨v',rfl,aZ,cu⟩;have bU:=dg.step (cu.mono dg.size);have hB:w.heap.size+5≤(((((w.alloc (.cells vs 41 (0,0))).alloc (.cells #[.int .i64 k] 3 (0,0))).alloc (.cells #[.int .i64 a] 3 (0,0))).alloc (.cells #[.int .i64 0,.int .i64 0,.int .i64 0,.int .i64 0,.int .i64 0,.int .i64 0,.int .i64 0,.int .i64 0,.int .i64 0,.int .i64 0,.int .i64 0,.int .i64 0,.int .i64 0,.int .i64 0,.int .i64 0,.slice none 0 0,.slice none 0 0,.slice none 0 0,.slice none 0 0] 41 (0,0))).alloc (.cells #[.int .i64 k,.int .i64 a,.int .i64 1] 61 (0,0))).heap.size:=dg.size;clear cu dg)
   |(go_at_call 34
     refine(hI W1 v' (w.heap.size+1) (w.heap.size+1+1) bU.below (eU.of_own aZ) (by simp[World.cell?,bU.b]) (by simp[World.cell?,bU.c])).mono ?_;rintro e W2 ⟨rfl,bn⟩;have dh:=bU.step (bn.mono bU.size);have iP:=mZ aZ bn;clear bn bU aZ;rcases iP.2 with⟨_,h0⟩|⟨g,cap,cur,rfl,pV,db,uw,dU,hg5,gf⟩
     ·exact absurd h0 (by omega)
     obtain⟨e0,e1,e2,ef⟩:=yo W2 _ _ _ _ dh.e;have sN:∀j,W2.frozen? ⟨g,j,none⟩=false:=fun j=>by simp[World.frozen?,db]
     obtain⟨u0,wW⟩:∃u,W2.cell? ⟨g,i*3,none⟩=some u:=⟨_,by simp[World.cell?,db];exact eC (show i*3<cur.size by omega)⟩
     obtain⟨u1,Dx⟩:∃u,W2.cell? ⟨g,i*3+1,none⟩=some u:=⟨_,by simp[World.cell?,db];exact eC (show i*3+1<cur.size by omega)⟩
     obtain⟨u2,Dy⟩:∃u,W2.cell? ⟨g,i*3+2,none⟩=some u:=⟨_,by simp[World.cell?,db];exact eC (show i*3+2<cur.size by omega)⟩
     have WN:w.heap.size+5≤g:=cL hB pV;have cw:(i:Int)<(N:Int):=by omega
     clear hB pV))
  obtain⟨bl,CI,Ix,wI⟩:=abT W2 g (i*3) cur (.int .i64 k) (.int .i64 a) (.int .i64 1) db (by omega);rw[CI];have cH:Bx w (W2.setRow g bl).drew (.cells vs 41 (0,0)) (.cells #[.int .i64 k] 3 (0,0)) (.cells #[.int .i64 a] 3 (0,0)) (.cells #[.int .i64 0,.int .i64 0,.int .i64 0,.int .i64 0,.int .i64 0,.int .i64 0,.int .i64 0,.int .i64 0,.int .i64 0,.int .i64 0,.int .i64 0,.int .i64 0,.int .i64 0,.int .i64 0,.int .i64 0,.slice none 0 0,.slice none 0 0,.slice none 0 0,.slice none 0 0] 41 (0,0)) (.cells #[.int .i64 k,.int .i64 a,.int .i64 1] 61 (0,0)):=by
   refine Bx.drew (dh.step ⟨rfl,rfl,rfl,by simp[World.setRow],fun q hq=>?_⟩);simp only[World.setRow,dy];rw[if_neg (by omega)]
  have gq:(W2.setRow g bl).drew.heap[g]?=some (.cells bl 61 (0,0)):=setRow_heap W2 g cur bl 61 (0,0) db;clear CI dh iP e0 e1 e2 ef sN wW Dx Dy db;generalize MZ:W2.setRow g bl=W3 at*;clear MZ
  have wB:∀j u,(cells.drop ((i+1)*3))[j]?=some u→bl[(i+1)*3+j]?=some u:=fun j u hj=>by
   rw[dZ,←gf,dA] at hj;split at hj
   ·rw[←xU,wI,ja,jx (by rw[du];omega),du,jz (by rw[rT];omega),jx (by simp;omega),dZ];rw[←hj]
    congr 1
    simp;omega
   ·cases hj
  have aS:(cells.drop ((i+1)*3)).length=(N-(i+1))*3:=by rw[rZ,←gf,du,rT];omega
  have Nb:∀u∈cells.drop ((i+1)*3),u.oneCell'=true:=fun u hu=>jd u (ye hu);have hNi:i+1+(N-(i+1))=N:=by omega
  have fS:IntKind.i64.wrap ((i:Int)+1)=(i:Int)+1:=by rw[IntKind.wrap_i64];omega
  have cu:(0:Int)≤(i:Int)+1:=by omega
  have bn:(i:Int)+1≤(N:Int):=by omega
  have fB:(i:Int)+1≤(cap:Int):=by omega
  have Oi:((i:Int)+1).toNat=i+1:=by omega
  have ux:(w.heap.size==g)=false:=by simp;omega
  have mixed:Tryz.prog.follows .mixedOrders=true:=by kernel_rfl
  have HC:Hid (∀j u,(cells.take (i*3)++[.int .i64 k,.int .i64 a,.int .i64 1]++cells.drop ((i+1)*3))[j]?=some u→bl[j]?=some u):=fun j u hj=>by
   have e:cells.take (i*3)++[.int .i64 k,.int .i64 a,.int .i64 1]++cells.drop ((i+1)*3)=bl.toList.take (N*3):=by
        rw[wI,←gf,FT,jz (by omega),List.drop_take,show(i+1)*3=i*3+3 by omega];have hA:(cur.toList.take (i*3)++[Value.int .i64 k,.int .i64 a,.int .i64 1]).length=i*3+3:=by simp;omega
        rw[List.take_append,tR (l:=cur.toList.take (i*3)++_) (by omega),hA]
   rw[e,dA] at hj;split at hj
   ·simpa using hj
   ·cases hj
  clear gf wI;by_cases fg:cap=i+1
  ·obtain rfl:N=i+1:=by omega
   subst fg
   go_region_with_o (go_at_call 35
                     refine(Hg _ _ _ _ (hD W3.drew _ _ _ cH.below ⟨aS,.inl ⟨some ⟨g,0,none⟩,rfl,by omega⟩⟩ (by simp[World.cell?,cH.b]) (by simp[World.cell?,cH.c]))).mono ?_;rintro e W4 ⟨rfl,lg⟩;have bB:=cH.step (lg.mono cH.size);have lY:W4.heap[g]?=some (.cells bl 61 (0,0)):=(lg.block g (dI.1 gq).1).trans gq;have nu:W4.cell? ⟨w.heap.size,18,none⟩=some iZ:=by simp[World.cell?,bB.a,mM]
                     have cf:W4.frozen? ⟨w.heap.size,18,none⟩=false:=by simp[World.frozen?,bB.a]
                     clear lg cH gq)
   have hA:=setCell_eq_setRow W4 w.heap.size 18 vs 41 (0,0) (.slice (some ⟨g,0,none⟩) (i+1) (i+1)) bB.a;rw[hA];have lW:(W4.setRow w.heap.size (vs.setIfInBounds 18 (.slice (some ⟨g,0,none⟩) (i+1) (i+1)))).heap[w.heap.size]?=some (.cells (vs.setIfInBounds 18 (.slice (some ⟨g,0,none⟩) (i+1) (i+1))) 41 (0,0)):=setRow_heap W4 w.heap.size vs _ 41 (0,0) bB.a;have gM:(W4.setRow w.heap.size (vs.setIfInBounds 18 (.slice (some ⟨g,0,none⟩) (i+1) (i+1)))).heap[w.heap.size+1+1+1]?=some (.cells #[.int .i64 0,.int .i64 0,.int .i64 0,.int .i64 0,.int .i64 0,.int .i64 0,.int .i64 0,.int .i64 0,.int .i64 0,.int .i64 0,.int .i64 0,.int .i64 0,.int .i64 0,.int .i64 0,.int .i64 0,.slice none 0 0,.slice none 0 0,.slice none 0 0,.slice none 0 0] 41 (0,0)):=by
        rw[←bB.d];simp only[World.setRow,dy];rw[if_neg (by omega)]
   have gf:(W4.setRow w.heap.size (vs.setIfInBounds 18 (.slice (some ⟨g,0,none⟩) (i+1) (i+1)))).heap[g]?=some (.cells bl 61 (0,0)):=by
        rw[←lY];simp only[World.setRow,dy];rw[if_neg (by omega)]
   have lU:Below w.heap.size w (W4.setRow w.heap.size (vs.setIfInBounds 18 (.slice (some ⟨g,0,none⟩) (i+1) (i+1)))):=by
        refine bB.below.trans ⟨rfl,rfl,rfl,by simp[World.setRow],fun q hq=>?_⟩;simp only[World.setRow,dy];rw[if_neg (by omega)]
   have aF:(vs.setIfInBounds 18 (.slice (some ⟨g,0,none⟩) (i+1) (i+1))).all (·.oneCell')=true:=by
        rw[tI] at h1 ⊢;intro u hu;rcases vH hu with h|h
        ·exact h1 u h
        ·subst h;rfl
   have gR:(vs.setIfInBounds 18 (.slice (some ⟨g,0,none⟩) (i+1) (i+1))).size=19:=by simp[cE]
   generalize W4.setRow w.heap.size (vs.setIfInBounds 18 (.slice (some ⟨g,0,none⟩) (i+1) (i+1)))=W6 at*;generalize qg:vs.setIfInBounds 18 (.slice (some ⟨g,0,none⟩) (i+1) (i+1))=bf at*;have HV:Hid (vs.setIfInBounds 18 (.slice (some ⟨g,0,none⟩) (i+1) (i+1))=bf):=qg;clear qg;have eH:(Tryz.prog.info? 41).map (·.size)=some bf.size:=by rw[gR];kernel_rfl
   clear hA nu cf bB lY
   go_wp2_with (first
        |(refine wpList_load_row rfl 41 _ rfl w.heap.size rfl 41 bf (0,0) _ lW Tryz.underlying41 rfl eH ?_)
        |(refine wpList_store_row rfl 41 _ _ rfl (w.heap.size+1+1+1) bf rfl rfl 41 _ gM eH (by rw[gR];rfl) aF ?_))
   refine bodyPost_ret (results_cell_row (p:=8) (ty:=41) rfl _ _ (w.heap.size+1+1+1) 41 bf (0,0) _ rfl (setRow_heap W6 (w.heap.size+1+1+1) _ bf 41 (0,0) gM) Tryz.underlying41 rfl eH) rfl ?_;refine⟨_,g,i+1,by rw[HV.out],?_,by omega,rfl,uw,dU,fun j u hj=>?_⟩
   ·refine lU.trans ⟨rfl,rfl,rfl,by simp[World.setRow],fun q hq=>?_⟩;simp only[World.setRow,dy];rw[if_neg (by omega)]
   ·have lZ:(W6.setRow (w.heap.size+1+1+1) bf).heap[g]?=some (.cells bl 61 (0,0)):=by
     rw[←gf];simp only[World.setRow,dy];rw[if_neg (by omega)]
    have:=HC.out j u hj;simpa [World.cell?,lZ] using this
  ·go_region_with_o (go_at_call 35
                     refine(Hg _ _ _ _ (hD W3.drew _ _ _ cH.below ⟨aS,.inr ⟨g,(i+1)*3,cap-(i+1),rfl,by omega,by omega,fun j u hj=>by have:=wB j u hj;simpa [World.cell?,gq] using this⟩⟩ (by simp[World.cell?,cH.b]) (by simp[World.cell?,cH.c]))).mono ?_;rintro e W4 ⟨rfl,lg⟩;have bB:=cH.step (lg.mono cH.size);have lY:W4.heap[g]?=some (.cells bl 61 (0,0)):=(lg.block g (dI.1 gq).1).trans gq;have zJ:=Yf W4 ⟨g,(i+1)*3,none⟩ ((N-(i+1))*3) (cells.drop ((i+1)*3)) aS (fun j u hj=>by have:=wB j u hj;rw[Addr.add_lit];simpa [World.cell?,lY] using this);have bZ:=ab7 W4 g ((i+1)*3) bl (cells.drop ((i+1)*3)) lY wB Nb;have nu:W4.cell? ⟨w.heap.size,18,none⟩=some iZ:=by simp[World.cell?,bB.a,mM]
                     have cf:W4.frozen? ⟨w.heap.size,18,none⟩=false:=by simp[World.frozen?,bB.a]
                     clear lg cH gq)
   have hA:=setCell_eq_setRow W4 w.heap.size 18 vs 41 (0,0) (.slice (some ⟨g,0,none⟩) N cap) bB.a;rw[hA];have lW:(W4.setRow w.heap.size (vs.setIfInBounds 18 (.slice (some ⟨g,0,none⟩) N cap))).heap[w.heap.size]?=some (.cells (vs.setIfInBounds 18 (.slice (some ⟨g,0,none⟩) N cap)) 41 (0,0)):=setRow_heap W4 w.heap.size vs _ 41 (0,0) bB.a;have gM:(W4.setRow w.heap.size (vs.setIfInBounds 18 (.slice (some ⟨g,0,none⟩) N cap))).heap[w.heap.size+1+1+1]?=some (.cells #[.int .i64 0,.int .i64 0,.int .i64 0,.int .i64 0,.int .i64 0,.int .i64 0,.int .i64 0,.int .i64 0,.int .i64 0,.int .i64 0,.int .i64 0,.int .i64 0,.int .i64 0,.int .i64 0,.int .i64 0,.slice none 0 0,.slice none 0 0,.slice none 0 0,.slice none 0 0] 41 (0,0)):=by
        rw[←bB.d];simp only[World.setRow,dy];rw[if_neg (by omega)]
   have gf:(W4.setRow w.heap.size (vs.setIfInBounds 18 (.slice (some ⟨g,0,none⟩) N cap))).heap[g]?=some (.cells bl 61 (0,0)):=by
        rw[←lY];simp only[World.setRow,dy];rw[if_neg (by omega)]
   have lU:Below w.heap.size w (W4.setRow w.heap.size (vs.setIfInBounds 18 (.slice (some ⟨g,0,none⟩) N cap))):=by
        refine bB.below.trans ⟨rfl,rfl,rfl,by simp[World.setRow],fun q hq=>?_⟩;simp only[World.setRow,dy];rw[if_neg (by omega)]
   have aF:(vs.setIfInBounds 18 (.slice (some ⟨g,0,none⟩) N cap)).all (·.oneCell')=true:=by
        rw[tI] at h1 ⊢;intro u hu;rcases vH hu with h|h
        ·exact h1 u h
        ·subst h;rfl
   have gR:(vs.setIfInBounds 18 (.slice (some ⟨g,0,none⟩) N cap)).size=19:=by simp[cE]
   generalize W4.setRow w.heap.size (vs.setIfInBounds 18 (.slice (some ⟨g,0,none⟩) N cap))=W6 at*;generalize qg:vs.setIfInBounds 18 (.slice (some ⟨g,0,none⟩) N cap)=bf at*;have HV:Hid (vs.setIfInBounds 18 (.slice (some ⟨g,0,none⟩) N cap)=bf):=qg;clear qg;have eH:(Tryz.prog.info? 41).map (·.size)=some bf.size:=by rw[gR];kernel_rfl
   clear zJ bZ hA nu cf bB lY
   go_wp2_with (first
        |(refine wpList_load_row rfl 41 _ rfl w.heap.size rfl 41 bf (0,0) _ lW Tryz.underlying41 rfl eH ?_)
        |(refine wpList_store_row rfl 41 _ _ rfl (w.heap.size+1+1+1) bf rfl rfl 41 _ gM eH (by rw[gR];rfl) aF ?_))
   refine bodyPost_ret (results_cell_row (p:=8) (ty:=41) rfl _ _ (w.heap.size+1+1+1) 41 bf (0,0) _ rfl (setRow_heap W6 (w.heap.size+1+1+1) _ bf 41 (0,0) gM) Tryz.underlying41 rfl eH) rfl ?_;refine⟨_,g,cap,by rw[HV.out],?_,by omega,rfl,uw,dU,fun j u hj=>?_⟩
   ·refine lU.trans ⟨rfl,rfl,rfl,by simp[World.setRow],fun q hq=>?_⟩;simp only[World.setRow,dy];rw[if_neg (by omega)]
   ·have lZ:(W6.setRow (w.heap.size+1+1+1) bf).heap[g]?=some (.cells bl 61 (0,0)):=by
     rw[←gf];simp only[World.setRow,dy];rw[if_neg (by omega)]
    have:=HC.out j u hj;simpa [World.cell?,lZ] using this
set_option maxHeartbeats 4000000 in
theorem aoY (vs:Array Value)(iZ:Value)(cE:vs.size=19)(mM:vs[18]?=some iZ)(h1:vs.all (·.oneCell')=true)(k a n m:Int)(hm:n=0∧m=0∨n≠0∧m=1)
 (w:World) (N j:Nat) (jv:Int) (hj:jv<0∧j=N∨jv=(j:Int)∧j≤N) (cells:List Value) (fG:eU w iZ N cells) (hN:N≤4294967296) (jd:∀v∈cells,v.oneCell'=true)
 (hI:∀W v p q,Below w.heap.size w W→eU W v N cells→W.cell? ⟨p,0,none⟩=some (.int .i64 k)→W.cell? ⟨q,0,none⟩=some (.int .i64 a)→Calls Tryz.prog 34 #[v,y5 32 p q] W fun e w'=>e=.returned (.int .i64 (-1))∧Below W.heap.size W w')
 (hJ:∀W v p q,Below w.heap.size w W→eU W v N cells→W.cell? ⟨p,0,none⟩=some (.int .i64 a)→W.cell? ⟨q,0,none⟩=some (.int .i64 k)→Calls Tryz.prog 34 #[v,y5 36 p q] W fun e w'=>e=.returned (.int .i64 jv)∧Below W.heap.size W w'):
 Calls Tryz.prog 16 #[.agg vs,.int .i64 k,.int .i64 a,.int .i64 n] w fun e w'=>∃v' g c,e=.returned (.agg (vs.setIfInBounds 18 v'))∧
  Below w.heap.size w w'∧w.heap.size≤g∧v'=.slice (some ⟨g,0,none⟩) (N+1) c∧N+1≤c∧c≤maxLen∧∀i u,(cells.take (j*3)++[.int .i64 k,.int .i64 a,.int .i64 m]++cells.drop (j*3))[i]?=some u→w'.cell? ⟨g,i,none⟩=some u:=by
 have akn:vs[18]'(by omega)=iZ:=(dI.1 mM).2;have H7:j≤N:=by omega
 rcases hm with⟨rfl,rfl⟩|⟨hn,rfl⟩
 ·rcases hj with⟨hj,Ns⟩|⟨rfl,hj⟩
  obtain rfl:N=j:=Ns.symm
  ·go_enter Tryz.func16,Tryz.ntmps16
   go_wp2_with (first
        |(go_at_call 33
          have dg:=ym w (.cells vs 41 (0,0)) (.cells #[.int .i64 k] 3 (0,0)) (.cells #[.int .i64 a] 3 (0,0)) (.cells #[.int .i64 0,.int .i64 0,.int .i64 0,.int .i64 0,.int .i64 0,.int .i64 0,.int .i64 0,.int .i64 0,.int .i64 0,.int .i64 0,.int .i64 0,.int .i64 0,.int .i64 0,.int .i64 0,.int .i64 0,.slice none 0 0,.slice none 0 0,.slice none 0 0,.slice none 0 0] 41 (0,0)) (.cells #[.int .i64 k,.int .i64 a,.int .i64 0] 61 (0,0));refine(y7 iZ N cells _ (fG.below dg.below) hN jd).mono ?_;rintro e W1 ⟨v',rfl,aZ,cu⟩;have bU:=dg.step (cu.mono dg.size);have hB:w.heap.size+5≤(((((w.alloc (.cells vs 41 (0,0))).alloc (.cells #[.int .i64 k] 3 (0,0))).alloc (.cells #[.int .i64 a] 3 (0,0))).alloc (.cells #[.int .i64 0,.int .i64 0,.int .i64 0,.int .i64 0,.int .i64 0,.int .i64 0,.int .i64 0,.int .i64 0,.int .i64 0,.int .i64 0,.int .i64 0,.int .i64 0,.int .i64 0,.int .i64 0,.int .i64 0,.slice none 0 0,.slice none 0 0,.slice none 0 0,.slice none 0 0] 41 (0,0))).alloc (.cells #[.int .i64 k,.int .i64 a,.int .i64 0] 61 (0,0))).heap.size:=dg.size;have lS:(((((w.alloc (.cells vs 41 (0,0))).alloc (.cells #[.int .i64 k] 3 (0,0))).alloc (.cells #[.int .i64 a] 3 (0,0))).alloc (.cells #[.int .i64 0,.int .i64 0,.int .i64 0,.int .i64 0,.int .i64 0,.int .i64 0,.int .i64 0,.int .i64 0,.int .i64 0,.int .i64 0,.int .i64 0,.int .i64 0,.int .i64 0,.int .i64 0,.int .i64 0,.slice none 0 0,.slice none 0 0,.slice none 0 0,.slice none 0 0] 41 (0,0))).alloc (.cells #[.int .i64 k,.int .i64 a,.int .i64 0] 61 (0,0))).heap.size≤W1.heap.size:=cu.size;generalize (((((w.alloc (.cells vs 41 (0,0))).alloc (.cells #[.int .i64 k] 3 (0,0))).alloc (.cells #[.int .i64 a] 3 (0,0))).alloc (.cells #[.int .i64 0,.int .i64 0,.int .i64 0,.int .i64 0,.int .i64 0,.int .i64 0,.int .i64 0,.int .i64 0,.int .i64 0,.int .i64 0,.int .i64 0,.int .i64 0,.int .i64 0,.int .i64 0,.int .i64 0,.slice none 0 0,.slice none 0 0,.slice none 0 0,.slice none 0 0] 41 (0,0))).alloc (.cells #[.int .i64 k,.int .i64 a,.int .i64 0] 61 (0,0))).heap.size=B0 at aZ hB lS;clear cu dg)
        |(go_at_call 34
          refine(hI W1 v' (w.heap.size+1) (w.heap.size+1+1) bU.below (eU.of_own aZ) (by simp[World.cell?,bU.b]) (by simp[World.cell?,bU.c])).mono ?_;rintro e W2 ⟨rfl,bn⟩;have dh:=bU.step (bn.mono bU.size);have iP:=mZ aZ bn;have lT:B0≤W2.heap.size:=cL lS bn.size;clear bn bU aZ lS)
        |(go_at_call 34
          refine(hJ W2 v' (w.heap.size+1+1) (w.heap.size+1) dh.below (eU.of_own iP) (by simp[World.cell?,dh.c]) (by simp[World.cell?,dh.b])).mono ?_;rintro e W3 ⟨rfl,fB⟩;have cH:=dh.step (fB.mono dh.size);have gP:=mZ iP fB;have MU:B0≤W3.heap.size:=cL lT fB.size;obtain⟨e0,e1,e2,ef⟩:=yo W3 _ _ _ _ cH.e;have hlen:∃p c,v'=.slice p N c:=by
           rcases gP.2 with⟨e,h0⟩|⟨g,cap,cur,e,_⟩
           ·exact⟨none,0,by rw[e,h0]⟩
           ·exact⟨_,_,e⟩
          obtain⟨p0,c0,rfl⟩:=hlen;clear fB dh iP lT)
        |(go_at_call 39
          refine(IJ B0 (.slice p0 N c0) N N cells [.int .i64 k,.int .i64 a,.int .i64 0] W3.heap.size (W3.alloc (.cells #[.int .i64 k,.int .i64 a,.int .i64 0] 61)) (by simp;omega) (mZ gP ((Below.refl _ _).alloc (aX _) _)) H7 hN rfl (by show(W3.heap.push _)[W3.heap.size]?=_;exact Bc) (by simp[Value.oneCell']) jd (fun e=>by have:=(gP.lt _ e).2;omega)).mono ?_;rintro e W4 ⟨xO,rfl,qa,dU⟩
          have j3:Below (w.heap.size+5) W3 W4:=⟨dU.os,dU.tape,dU.output,cL (by simp) dU.size,fun q hq=>by
           have hs:=cH.size;refine(dU.block q (by simp;omega) (fun e=>?_)).trans (Below.heap_alloc _ _ _ (by omega));have:=(gP.lt q e.symm).1;omega⟩
          have bB:=cH.step j3;have nu:W4.cell? ⟨w.heap.size,18,none⟩=some iZ:=by simp[World.cell?,bB.a,mM]
          have cf:W4.frozen? ⟨w.heap.size,18,none⟩=false:=by simp[World.frozen?,bB.a]
          obtain⟨g,cap,bl,rfl,bQ,bx,ic,mK,Nt,pX⟩:∃g cap bl,xO=.slice (some ⟨g,0,none⟩) (N+1) cap∧B0≤g∧W4.heap[g]?=some (.cells bl 61 (0,0))∧N+1≤cap∧cap≤maxLen∧bl.size=cap*3∧bl.toList.take ((N+1)*3)=cells.take (N*3)++[.int .i64 k,.int .i64 a,.int .i64 0]++cells.drop (N*3):=by
           rcases qa.2 with⟨_,h0⟩|h
           ·exact absurd h0 (by omega)
           ·exact h
          obtain⟨bf,HV⟩:∃y,Hid (vs.setIfInBounds 18 (.slice (some ⟨g,0,none⟩) (N+1) cap)=y):=⟨_,rfl⟩
          have hX:=setCell_eq_setRow W4 w.heap.size 18 vs 41 (0,0) (.slice (some ⟨g,0,none⟩) (N+1) cap) bB.a;rw[HV.out] at hX;have lW:(W4.setCell ⟨w.heap.size,18,none⟩ (.slice (some ⟨g,0,none⟩) (N+1) cap)).heap[w.heap.size]?=some (.cells bf 41 (0,0)):=by rw[hX];exact setRow_heap W4 w.heap.size vs bf 41 (0,0) bB.a
          have gM:(W4.setCell ⟨w.heap.size,18,none⟩ (.slice (some ⟨g,0,none⟩) (N+1) cap)).heap[w.heap.size+1+1+1]?=some (.cells #[.int .i64 0,.int .i64 0,.int .i64 0,.int .i64 0,.int .i64 0,.int .i64 0,.int .i64 0,.int .i64 0,.int .i64 0,.int .i64 0,.int .i64 0,.int .i64 0,.int .i64 0,.int .i64 0,.int .i64 0,.slice none 0 0,.slice none 0 0,.slice none 0 0,.slice none 0 0] 41 (0,0)):=by
           rw[←bB.d];exact Below.heap_setCell _ _ _ _ (by show w.heap.size+1+1+1≠w.heap.size;omega)
          have gf:(W4.setCell ⟨w.heap.size,18,none⟩ (.slice (some ⟨g,0,none⟩) (N+1) cap)).heap[g]?=some (.cells bl 61 (0,0)):=by
           rw[←bx];exact Below.heap_setCell _ _ _ _ (by show g≠w.heap.size;omega)
          have lU:Below w.heap.size w (W4.setCell ⟨w.heap.size,18,none⟩ (.slice (some ⟨g,0,none⟩) (N+1) cap)):=bB.below.setCell (aX _) _;have aF:bf.all (·.oneCell')=true:=by
           rw[←HV.out];rw[tI] at h1 ⊢;intro u hu;rcases vH hu with h|h
           ·exact h1 u h
           ·subst h;rfl
          have gR:bf.size=19:=by rw[←HV.out];simp[cE]
          have eH:(Tryz.prog.info? 41).map (·.size)=some bf.size:=by rw[gR];kernel_rfl
          have HK:Hid (bl.toList.take ((N+1)*3)=cells.take (N*3)++[.int .i64 k,.int .i64 a,.int .i64 0]++cells.drop (N*3)):=pX;have gq:w.heap.size+5≤g:=cL hB bQ;clear j3 dU qa gP cH e0 e1 e2 ef hX pX bx bB bQ)
        |(refine wpList_load_row rfl 41 _ rfl w.heap.size rfl 41 bf (0,0) _ lW Tryz.underlying41 rfl eH ?_)
        |(refine wpList_store_row rfl 41 _ _ rfl (w.heap.size+1+1+1) bf rfl rfl 41 _ gM eH (by rw[gR];rfl) aF ?_))
   refine bodyPost_ret (results_cell_row (p:=8) (ty:=41) rfl _ _ (w.heap.size+1+1+1) 41 bf (0,0) _ rfl (setRow_heap _ (w.heap.size+1+1+1) _ bf 41 (0,0) gM) Tryz.underlying41 rfl eH) rfl ?_;refine⟨_,g,cap,by rw[HV.out],?_,by omega,rfl,ic,mK,fun i u hj=>?_⟩
   ·refine lU.trans ⟨rfl,rfl,rfl,by simp[World.setRow],fun q hq=>?_⟩;simp only[World.setRow,dy];rw[if_neg (by omega)]
   ·have lZ:((W4.setCell ⟨w.heap.size,18,none⟩ (.slice (some ⟨g,0,none⟩) (N+1) cap)).setRow (w.heap.size+1+1+1) bf).heap[g]?=some (.cells bl 61 (0,0)):=by
     rw[←gf];simp only[World.setRow,dy];rw[if_neg (by omega)]
    rw[←HK.out,dA] at hj;split at hj
    ·simpa [World.cell?,lZ] using hj
    ·cases hj
  ·go_enter Tryz.func16,Tryz.ntmps16
   go_wp2_with (first
        |(go_at_call 33
          have dg:=ym w (.cells vs 41 (0,0)) (.cells #[.int .i64 k] 3 (0,0)) (.cells #[.int .i64 a] 3 (0,0)) (.cells #[.int .i64 0,.int .i64 0,.int .i64 0,.int .i64 0,.int .i64 0,.int .i64 0,.int .i64 0,.int .i64 0,.int .i64 0,.int .i64 0,.int .i64 0,.int .i64 0,.int .i64 0,.int .i64 0,.int .i64 0,.slice none 0 0,.slice none 0 0,.slice none 0 0,.slice none 0 0] 41 (0,0)) (.cells #[.int .i64 k,.int .i64 a,.int .i64 0] 61 (0,0));refine(y7 iZ N cells _ (fG.below dg.below) hN jd).mono ?_;rintro e W1 ⟨v',rfl,aZ,cu⟩;have bU:=dg.step (cu.mono dg.size);have hB:w.heap.size+5≤(((((w.alloc (.cells vs 41 (0,0))).alloc (.cells #[.int .i64 k] 3 (0,0))).alloc (.cells #[.int .i64 a] 3 (0,0))).alloc (.cells #[.int .i64 0,.int .i64 0,.int .i64 0,.int .i64 0,.int .i64 0,.int .i64 0,.int .i64 0,.int .i64 0,.int .i64 0,.int .i64 0,.int .i64 0,.int .i64 0,.int .i64 0,.int .i64 0,.int .i64 0,.slice none 0 0,.slice none 0 0,.slice none 0 0,.slice none 0 0] 41 (0,0))).alloc (.cells #[.int .i64 k,.int .i64 a,.int .i64 0] 61 (0,0))).heap.size:=dg.size;have lS:(((((w.alloc (.cells vs 41 (0,0))).alloc (.cells #[.int .i64 k] 3 (0,0))).alloc (.cells #[.int .i64 a] 3 (0,0))).alloc (.cells #[.int .i64 0,.int .i64 0,.int .i64 0,.int .i64 0,.int .i64 0,.int .i64 0,.int .i64 0,.int .i64 0,.int .i64 0,.int .i64 0,.int .i64 0,.int .i64 0,.int .i64 0,.int .i64 0,.int .i64 0,.slice none 0 0,.slice none 0 0,.slice none 0 0,.slice none 0 0] 41 (0,0))).alloc (.cells #[.int .i64 k,.int .i64 a,.int .i64 0] 61 (0,0))).heap.size≤W1.heap.size:=cu.size;generalize (((((w.alloc (.cells vs 41 (0,0))).alloc (.cells #[.int .i64 k] 3 (0,0))).alloc (.cells #[.int .i64 a] 3 (0,0))).alloc (.cells #[.int .i64 0,.int .i64 0,.int .i64 0,.int .i64 0,.int .i64 0,.int .i64 0,.int .i64 0,.int .i64 0,.int .i64 0,.int .i64 0,.int .i64 0,.int .i64 0,.int .i64 0,.int .i64 0,.int .i64 0,.slice none 0 0,.slice none 0 0,.slice none 0 0,.slice none 0 0] 41 (0,0))).alloc (.cells #[.int .i64 k,.int .i64 a,.int .i64 0] 61 (0,0))).heap.size=B0 at aZ hB lS;clear cu dg)
        |(go_at_call 34
          refine(hI W1 v' (w.heap.size+1) (w.heap.size+1+1) bU.below (eU.of_own aZ) (by simp[World.cell?,bU.b]) (by simp[World.cell?,bU.c])).mono ?_;rintro e W2 ⟨rfl,bn⟩;have dh:=bU.step (bn.mono bU.size);have iP:=mZ aZ bn;have lT:B0≤W2.heap.size:=cL lS bn.size;clear bn bU aZ lS)
        |(go_at_call 34
          refine(hJ W2 v' (w.heap.size+1+1) (w.heap.size+1) dh.below (eU.of_own iP) (by simp[World.cell?,dh.c]) (by simp[World.cell?,dh.b])).mono ?_;rintro e W3 ⟨rfl,fB⟩;have cH:=dh.step (fB.mono dh.size);have gP:=mZ iP fB;have MU:B0≤W3.heap.size:=cL lT fB.size;obtain⟨e0,e1,e2,ef⟩:=yo W3 _ _ _ _ cH.e;have hlen:∃p c,v'=.slice p N c:=by
           rcases gP.2 with⟨e,h0⟩|⟨g,cap,cur,e,_⟩
           ·exact⟨none,0,by rw[e,h0]⟩
           ·exact⟨_,_,e⟩
          obtain⟨p0,c0,rfl⟩:=hlen;clear fB dh iP lT)
        |(go_at_call 39
          refine(IJ B0 (.slice p0 N c0) N j cells [.int .i64 k,.int .i64 a,.int .i64 0] W3.heap.size (W3.alloc (.cells #[.int .i64 k,.int .i64 a,.int .i64 0] 61)) (by simp;omega) (mZ gP ((Below.refl _ _).alloc (aX _) _)) H7 hN rfl (by show(W3.heap.push _)[W3.heap.size]?=_;exact Bc) (by simp[Value.oneCell']) jd (fun e=>by have:=(gP.lt _ e).2;omega)).mono ?_;rintro e W4 ⟨xO,rfl,qa,dU⟩
          have j3:Below (w.heap.size+5) W3 W4:=⟨dU.os,dU.tape,dU.output,cL (by simp) dU.size,fun q hq=>by
           have hs:=cH.size;refine(dU.block q (by simp;omega) (fun e=>?_)).trans (Below.heap_alloc _ _ _ (by omega));have:=(gP.lt q e.symm).1;omega⟩
          have bB:=cH.step j3;have nu:W4.cell? ⟨w.heap.size,18,none⟩=some iZ:=by simp[World.cell?,bB.a,mM]
          have cf:W4.frozen? ⟨w.heap.size,18,none⟩=false:=by simp[World.frozen?,bB.a]
          obtain⟨g,cap,bl,rfl,bQ,bx,ic,mK,Nt,pX⟩:∃g cap bl,xO=.slice (some ⟨g,0,none⟩) (N+1) cap∧B0≤g∧W4.heap[g]?=some (.cells bl 61 (0,0))∧N+1≤cap∧cap≤maxLen∧bl.size=cap*3∧bl.toList.take ((N+1)*3)=cells.take (j*3)++[.int .i64 k,.int .i64 a,.int .i64 0]++cells.drop (j*3):=by
           rcases qa.2 with⟨_,h0⟩|h
           ·exact absurd h0 (by omega)
           ·exact h
          obtain⟨bf,HV⟩:∃y,Hid (vs.setIfInBounds 18 (.slice (some ⟨g,0,none⟩) (N+1) cap)=y):=⟨_,rfl⟩
          have hX:=setCell_eq_setRow W4 w.heap.size 18 vs 41 (0,0) (.slice (some ⟨g,0,none⟩) (N+1) cap) bB.a;rw[HV.out] at hX;have lW:(W4.setCell ⟨w.heap.size,18,none⟩ (.slice (some ⟨g,0,none⟩) (N+1) cap)).heap[w.heap.size]?=some (.cells bf 41 (0,0)):=by rw[hX];exact setRow_heap W4 w.heap.size vs bf 41 (0,0) bB.a
          have gM:(W4.setCell ⟨w.heap.size,18,none⟩ (.slice (some ⟨g,0,none⟩) (N+1) cap)).heap[w.heap.size+1+1+1]?=some (.cells #[.int .i64 0,.int .i64 0,.int .i64 0,.int .i64 0,.int .i64 0,.int .i64 0,.int .i64 0,.int .i64 0,.int .i64 0,.int .i64 0,.int .i64 0,.int .i64 0,.int .i64 0,.int .i64 0,.int .i64 0,.slice none 0 0,.slice none 0 0,.slice none 0 0,.slice none 0 0] 41 (0,0)):=by
           rw[←bB.d];exact Below.heap_setCell _ _ _ _ (by show w.heap.size+1+1+1≠w.heap.size;omega)
          have gf:(W4.setCell ⟨w.heap.size,18,none⟩ (.slice (some ⟨g,0,none⟩) (N+1) cap)).heap[g]?=some (.cells bl 61 (0,0)):=by
           rw[←bx];exact Below.heap_setCell _ _ _ _ (by show g≠w.heap.size;omega)
          have lU:Below w.heap.size w (W4.setCell ⟨w.heap.size,18,none⟩ (.slice (some ⟨g,0,none⟩) (N+1) cap)):=bB.below.setCell (aX _) _;have aF:bf.all (·.oneCell')=true:=by
           rw[←HV.out];rw[tI] at h1 ⊢;intro u hu;rcases vH hu with h|h
           ·exact h1 u h
           ·subst h;rfl
          have gR:bf.size=19:=by rw[←HV.out];simp[cE]
          have eH:(Tryz.prog.info? 41).map (·.size)=some bf.size:=by rw[gR];kernel_rfl
          have HK:Hid (bl.toList.take ((N+1)*3)=cells.take (j*3)++[.int .i64 k,.int .i64 a,.int .i64 0]++cells.drop (j*3)):=pX;have gq:w.heap.size+5≤g:=cL hB bQ;clear j3 dU qa gP cH e0 e1 e2 ef hX pX bx bB bQ)
        |(refine wpList_load_row rfl 41 _ rfl w.heap.size rfl 41 bf (0,0) _ lW Tryz.underlying41 rfl eH ?_)
        |(refine wpList_store_row rfl 41 _ _ rfl (w.heap.size+1+1+1) bf rfl rfl 41 _ gM eH (by rw[gR];rfl) aF ?_))
   refine bodyPost_ret (results_cell_row (p:=8) (ty:=41) rfl _ _ (w.heap.size+1+1+1) 41 bf (0,0) _ rfl (setRow_heap _ (w.heap.size+1+1+1) _ bf 41 (0,0) gM) Tryz.underlying41 rfl eH) rfl ?_;refine⟨_,g,cap,by rw[HV.out],?_,by omega,rfl,ic,mK,fun i u hj=>?_⟩
   ·refine lU.trans ⟨rfl,rfl,rfl,by simp[World.setRow],fun q hq=>?_⟩;simp only[World.setRow,dy];rw[if_neg (by omega)]
   ·have lZ:((W4.setCell ⟨w.heap.size,18,none⟩ (.slice (some ⟨g,0,none⟩) (N+1) cap)).setRow (w.heap.size+1+1+1) bf).heap[g]?=some (.cells bl 61 (0,0)):=by
     rw[←gf];simp only[World.setRow,dy];rw[if_neg (by omega)]
    rw[←HK.out,dA] at hj;split at hj
    ·simpa [World.cell?,lZ] using hj
    ·cases hj
 ·rcases hj with⟨hj,Ns⟩|⟨rfl,hj⟩
  obtain rfl:N=j:=Ns.symm
  ·go_enter Tryz.func16,Tryz.ntmps16
   go_wp2_with (first
        |(go_at_call 33
          have dg:=ym w (.cells vs 41 (0,0)) (.cells #[.int .i64 k] 3 (0,0)) (.cells #[.int .i64 a] 3 (0,0)) (.cells #[.int .i64 0,.int .i64 0,.int .i64 0,.int .i64 0,.int .i64 0,.int .i64 0,.int .i64 0,.int .i64 0,.int .i64 0,.int .i64 0,.int .i64 0,.int .i64 0,.int .i64 0,.int .i64 0,.int .i64 0,.slice none 0 0,.slice none 0 0,.slice none 0 0,.slice none 0 0] 41 (0,0)) (.cells #[.int .i64 k,.int .i64 a,.int .i64 1] 61 (0,0));refine(y7 iZ N cells _ (fG.below dg.below) hN jd).mono ?_;rintro e W1 ⟨v',rfl,aZ,cu⟩;have bU:=dg.step (cu.mono dg.size);have hB:w.heap.size+5≤(((((w.alloc (.cells vs 41 (0,0))).alloc (.cells #[.int .i64 k] 3 (0,0))).alloc (.cells #[.int .i64 a] 3 (0,0))).alloc (.cells #[.int .i64 0,.int .i64 0,.int .i64 0,.int .i64 0,.int .i64 0,.int .i64 0,.int .i64 0,.int .i64 0,.int .i64 0,.int .i64 0,.int .i64 0,.int .i64 0,.int .i64 0,.int .i64 0,.int .i64 0,.slice none 0 0,.slice none 0 0,.slice none 0 0,.slice none 0 0] 41 (0,0))).alloc (.cells #[.int .i64 k,.int .i64 a,.int .i64 1] 61 (0,0))).heap.size:=dg.size;have lS:(((((w.alloc (.cells vs 41 (0,0))).alloc (.cells #[.int .i64 k] 3 (0,0))).alloc (.cells #[.int .i64 a] 3 (0,0))).alloc (.cells #[.int .i64 0,.int .i64 0,.int .i64 0,.int .i64 0,.int .i64 0,.int .i64 0,.int .i64 0,.int .i64 0,.int .i64 0,.int .i64 0,.int .i64 0,.int .i64 0,.int .i64 0,.int .i64 0,.int .i64 0,.slice none 0 0,.slice none 0 0,.slice none 0 0,.slice none 0 0] 41 (0,0))).alloc (.cells #[.int .i64 k,.int .i64 a,.int .i64 1] 61 (0,0))).heap.size≤W1.heap.size:=cu.size;generalize (((((w.alloc (.cells vs 41 (0,0))).alloc (.cells #[.int .i64 k] 3 (0,0))).alloc (.cells #[.int .i64 a] 3 (0,0))).alloc (.cells #[.int .i64 0,.int .i64 0,.int .i64 0,.int .i64 0,.int .i64 0,.int .i64 0,.int .i64 0,.int .i64 0,.int .i64 0,.int .i64 0,.int .i64 0,.int .i64 0,.int .i64 0,.int .i64 0,.int .i64 0,.slice none 0 0,.slice none 0 0,.slice none 0 0,.slice none 0 0] 41 (0,0))).alloc (.cells #[.int .i64 k,.int .i64 a,.int .i64 1] 61 (0,0))).heap.size=B0 at aZ hB lS;clear cu dg)
        |(go_at_call 34
          refine(hI W1 v' (w.heap.size+1) (w.heap.size+1+1) bU.below (eU.of_own aZ) (by simp[World.cell?,bU.b]) (by simp[World.cell?,bU.c])).mono ?_;rintro e W2 ⟨rfl,bn⟩;have dh:=bU.step (bn.mono bU.size);have iP:=mZ aZ bn;have lT:B0≤W2.heap.size:=cL lS bn.size;clear bn bU aZ lS)
        |(go_at_call 34
          refine(hJ W2 v' (w.heap.size+1+1) (w.heap.size+1) dh.below (eU.of_own iP) (by simp[World.cell?,dh.c]) (by simp[World.cell?,dh.b])).mono ?_;rintro e W3 ⟨rfl,fB⟩;have cH:=dh.step (fB.mono dh.size);have gP:=mZ iP fB;have MU:B0≤W3.heap.size:=cL lT fB.size;obtain⟨e0,e1,e2,ef⟩:=yo W3 _ _ _ _ cH.e;have hlen:∃p c,v'=.slice p N c:=by
           rcases gP.2 with⟨e,h0⟩|⟨g,cap,cur,e,_⟩
           ·exact⟨none,0,by rw[e,h0]⟩
           ·exact⟨_,_,e⟩
          obtain⟨p0,c0,rfl⟩:=hlen;clear fB dh iP lT)
        |(go_at_call 39
          refine(IJ B0 (.slice p0 N c0) N N cells [.int .i64 k,.int .i64 a,.int .i64 1] W3.heap.size (W3.alloc (.cells #[.int .i64 k,.int .i64 a,.int .i64 1] 61)) (by simp;omega) (mZ gP ((Below.refl _ _).alloc (aX _) _)) H7 hN rfl (by show(W3.heap.push _)[W3.heap.size]?=_;exact Bc) (by simp[Value.oneCell']) jd (fun e=>by have:=(gP.lt _ e).2;omega)).mono ?_;rintro e W4 ⟨xO,rfl,qa,dU⟩
          have j3:Below (w.heap.size+5) W3 W4:=⟨dU.os,dU.tape,dU.output,cL (by simp) dU.size,fun q hq=>by
           have hs:=cH.size;refine(dU.block q (by simp;omega) (fun e=>?_)).trans (Below.heap_alloc _ _ _ (by omega));have:=(gP.lt q e.symm).1;omega⟩
          have bB:=cH.step j3;have nu:W4.cell? ⟨w.heap.size,18,none⟩=some iZ:=by simp[World.cell?,bB.a,mM]
          have cf:W4.frozen? ⟨w.heap.size,18,none⟩=false:=by simp[World.frozen?,bB.a]
          obtain⟨g,cap,bl,rfl,bQ,bx,ic,mK,Nt,pX⟩:∃g cap bl,xO=.slice (some ⟨g,0,none⟩) (N+1) cap∧B0≤g∧W4.heap[g]?=some (.cells bl 61 (0,0))∧N+1≤cap∧cap≤maxLen∧bl.size=cap*3∧bl.toList.take ((N+1)*3)=cells.take (N*3)++[.int .i64 k,.int .i64 a,.int .i64 1]++cells.drop (N*3):=by
           rcases qa.2 with⟨_,h0⟩|h
           ·exact absurd h0 (by omega)
           ·exact h
          obtain⟨bf,HV⟩:∃y,Hid (vs.setIfInBounds 18 (.slice (some ⟨g,0,none⟩) (N+1) cap)=y):=⟨_,rfl⟩
          have hX:=setCell_eq_setRow W4 w.heap.size 18 vs 41 (0,0) (.slice (some ⟨g,0,none⟩) (N+1) cap) bB.a;rw[HV.out] at hX;have lW:(W4.setCell ⟨w.heap.size,18,none⟩ (.slice (some ⟨g,0,none⟩) (N+1) cap)).heap[w.heap.size]?=some (.cells bf 41 (0,0)):=by rw[hX];exact setRow_heap W4 w.heap.size vs bf 41 (0,0) bB.a
          have gM:(W4.setCell ⟨w.heap.size,18,none⟩ (.slice (some ⟨g,0,none⟩) (N+1) cap)).heap[w.heap.size+1+1+1]?=some (.cells #[.int .i64 0,.int .i64 0,.int .i64 0,.int .i64 0,.int .i64 0,.int .i64 0,.int .i64 0,.int .i64 0,.int .i64 0,.int .i64 0,.int .i64 0,.int .i64 0,.int .i64 0,.int .i64 0,.int .i64 0,.slice none 0 0,.slice none 0 0,.slice none 0 0,.slice none 0 0] 41 (0,0)):=by
           rw[←bB.d];exact Below.heap_setCell _ _ _ _ (by show w.heap.size+1+1+1≠w.heap.size;omega)
          have gf:(W4.setCell ⟨w.heap.size,18,none⟩ (.slice (some ⟨g,0,none⟩) (N+1) cap)).heap[g]?=some (.cells bl 61 (0,0)):=by
           rw[←bx];exact Below.heap_setCell _ _ _ _ (by show g≠w.heap.size;omega)
          have lU:Below w.heap.size w (W4.setCell ⟨w.heap.size,18,none⟩ (.slice (some ⟨g,0,none⟩) (N+1) cap)):=bB.below.setCell (aX _) _;have aF:bf.all (·.oneCell')=true:=by
           rw[←HV.out];rw[tI] at h1 ⊢;intro u hu;rcases vH hu with h|h
           ·exact h1 u h
           ·subst h;rfl
          have gR:bf.size=19:=by rw[←HV.out];simp[cE]
          have eH:(Tryz.prog.info? 41).map (·.size)=some bf.size:=by rw[gR];kernel_rfl
          have HK:Hid (bl.toList.take ((N+1)*3)=cells.take (N*3)++[.int .i64 k,.int .i64 a,.int .i64 1]++cells.drop (N*3)):=pX;have gq:w.heap.size+5≤g:=cL hB bQ;clear j3 dU qa gP cH e0 e1 e2 ef hX pX bx bB bQ)
        |(refine wpList_load_row rfl 41 _ rfl w.heap.size rfl 41 bf (0,0) _ lW Tryz.underlying41 rfl eH ?_)
        |(refine wpList_store_row rfl 41 _ _ rfl (w.heap.size+1+1+1) bf rfl rfl 41 _ gM eH (by rw[gR];rfl) aF ?_))
   refine bodyPost_ret (results_cell_row (p:=8) (ty:=41) rfl _ _ (w.heap.size+1+1+1) 41 bf (0,0) _ rfl (setRow_heap _ (w.heap.size+1+1+1) _ bf 41 (0,0) gM) Tryz.underlying41 rfl eH) rfl ?_;refine⟨_,g,cap,by rw[HV.out],?_,by omega,rfl,ic,mK,fun i u hj=>?_⟩
   ·refine lU.trans ⟨rfl,rfl,rfl,by simp[World.setRow],fun q hq=>?_⟩;simp only[World.setRow,dy];rw[if_neg (by omega)]
   ·have lZ:((W4.setCell ⟨w.heap.size,18,none⟩ (.slice (some ⟨g,0,none⟩) (N+1) cap)).setRow (w.heap.size+1+1+1) bf).heap[g]?=some (.cells bl 61 (0,0)):=by
     rw[←gf];simp only[World.setRow,dy];rw[if_neg (by omega)]
    rw[←HK.out,dA] at hj;split at hj
    ·simpa [World.cell?,lZ] using hj
    ·cases hj
  ·go_enter Tryz.func16,Tryz.ntmps16
   go_wp2_with (first
        |(go_at_call 33
          have dg:=ym w (.cells vs 41 (0,0)) (.cells #[.int .i64 k] 3 (0,0)) (.cells #[.int .i64 a] 3 (0,0)) (.cells #[.int .i64 0,.int .i64 0,.int .i64 0,.int .i64 0,.int .i64 0,.int .i64 0,.int .i64 0,.int .i64 0,.int .i64 0,.int .i64 0,.int .i64 0,.int .i64 0,.int .i64 0,.int .i64 0,.int .i64 0,.slice none 0 0,.slice none 0 0,.slice none 0 0,.slice none 0 0] 41 (0,0)) (.cells #[.int .i64 k,.int .i64 a,.int .i64 1] 61 (0,0));refine(y7 iZ N cells _ (fG.below dg.below) hN jd).mono ?_;rintro e W1 ⟨v',rfl,aZ,cu⟩;have bU:=dg.step (cu.mono dg.size);have hB:w.heap.size+5≤(((((w.alloc (.cells vs 41 (0,0))).alloc (.cells #[.int .i64 k] 3 (0,0))).alloc (.cells #[.int .i64 a] 3 (0,0))).alloc (.cells #[.int .i64 0,.int .i64 0,.int .i64 0,.int .i64 0,.int .i64 0,.int .i64 0,.int .i64 0,.int .i64 0,.int .i64 0,.int .i64 0,.int .i64 0,.int .i64 0,.int .i64 0,.int .i64 0,.int .i64 0,.slice none 0 0,.slice none 0 0,.slice none 0 0,.slice none 0 0] 41 (0,0))).alloc (.cells #[.int .i64 k,.int .i64 a,.int .i64 1] 61 (0,0))).heap.size:=dg.size;have lS:(((((w.alloc (.cells vs 41 (0,0))).alloc (.cells #[.int .i64 k] 3 (0,0))).alloc (.cells #[.int .i64 a] 3 (0,0))).alloc (.cells #[.int .i64 0,.int .i64 0,.int .i64 0,.int .i64 0,.int .i64 0,.int .i64 0,.int .i64 0,.int .i64 0,.int .i64 0,.int .i64 0,.int .i64 0,.int .i64 0,.int .i64 0,.int .i64 0,.int .i64 0,.slice none 0 0,.slice none 0 0,.slice none 0 0,.slice none 0 0] 41 (0,0))).alloc (.cells #[.int .i64 k,.int .i64 a,.int .i64 1] 61 (0,0))).heap.size≤W1.heap.size:=cu.size;generalize (((((w.alloc (.cells vs 41 (0,0))).alloc (.cells #[.int .i64 k] 3 (0,0))).alloc (.cells #[.int .i64 a] 3 (0,0))).alloc (.cells #[.int .i64 0,.int .i64 0,.int .i64 0,.int .i64 0,.int .i64 0,.int .i64 0,.int .i64 0,.int .i64 0,.int .i64 0,.int .i64 0,.int .i64 0,.int .i64 0,.int .i64 0,.int .i64 0,.int .i64 0,.slice none 0 0,.slice none 0 0,.slice none 0 0,.slice none 0 0] 41 (0,0))).alloc (.cells #[.int .i64 k,.int .i64 a,.int .i64 1] 61 (0,0))).heap.size=B0 at aZ hB lS;clear cu dg)
        |(go_at_call 34
          refine(hI W1 v' (w.heap.size+1) (w.heap.size+1+1) bU.below (eU.of_own aZ) (by simp[World.cell?,bU.b]) (by simp[World.cell?,bU.c])).mono ?_;rintro e W2 ⟨rfl,bn⟩;have dh:=bU.step (bn.mono bU.size);have iP:=mZ aZ bn;have lT:B0≤W2.heap.size:=cL lS bn.size;clear bn bU aZ lS)
        |(go_at_call 34
          refine(hJ W2 v' (w.heap.size+1+1) (w.heap.size+1) dh.below (eU.of_own iP) (by simp[World.cell?,dh.c]) (by simp[World.cell?,dh.b])).mono ?_;rintro e W3 ⟨rfl,fB⟩;have cH:=dh.step (fB.mono dh.size);have gP:=mZ iP fB;have MU:B0≤W3.heap.size:=cL lT fB.size;obtain⟨e0,e1,e2,ef⟩:=yo W3 _ _ _ _ cH.e;have hlen:∃p c,v'=.slice p N c:=by
           rcases gP.2 with⟨e,h0⟩|⟨g,cap,cur,e,_⟩
           ·exact⟨none,0,by rw[e,h0]⟩
           ·exact⟨_,_,e⟩
          obtain⟨p0,c0,rfl⟩:=hlen;clear fB dh iP lT)
        |(go_at_call 39
          refine(IJ B0 (.slice p0 N c0) N j cells [.int .i64 k,.int .i64 a,.int .i64 1] W3.heap.size (W3.alloc (.cells #[.int .i64 k,.int .i64 a,.int .i64 1] 61)) (by simp;omega) (mZ gP ((Below.refl _ _).alloc (aX _) _)) H7 hN rfl (by show(W3.heap.push _)[W3.heap.size]?=_;exact Bc) (by simp[Value.oneCell']) jd (fun e=>by have:=(gP.lt _ e).2;omega)).mono ?_;rintro e W4 ⟨xO,rfl,qa,dU⟩
          have j3:Below (w.heap.size+5) W3 W4:=⟨dU.os,dU.tape,dU.output,cL (by simp) dU.size,fun q hq=>by
           have hs:=cH.size;refine(dU.block q (by simp;omega) (fun e=>?_)).trans (Below.heap_alloc _ _ _ (by omega));have:=(gP.lt q e.symm).1;omega⟩
          have bB:=cH.step j3;have nu:W4.cell? ⟨w.heap.size,18,none⟩=some iZ:=by simp[World.cell?,bB.a,mM]
          have cf:W4.frozen? ⟨w.heap.size,18,none⟩=false:=by simp[World.frozen?,bB.a]
          obtain⟨g,cap,bl,rfl,bQ,bx,ic,mK,Nt,pX⟩:∃g cap bl,xO=.slice (some ⟨g,0,none⟩) (N+1) cap∧B0≤g∧W4.heap[g]?=some (.cells bl 61 (0,0))∧N+1≤cap∧cap≤maxLen∧bl.size=cap*3∧bl.toList.take ((N+1)*3)=cells.take (j*3)++[.int .i64 k,.int .i64 a,.int .i64 1]++cells.drop (j*3):=by
           rcases qa.2 with⟨_,h0⟩|h
           ·exact absurd h0 (by omega)
           ·exact h
          obtain⟨bf,HV⟩:∃y,Hid (vs.setIfInBounds 18 (.slice (some ⟨g,0,none⟩) (N+1) cap)=y):=⟨_,rfl⟩
          have hX:=setCell_eq_setRow W4 w.heap.size 18 vs 41 (0,0) (.slice (some ⟨g,0,none⟩) (N+1) cap) bB.a;rw[HV.out] at hX;have lW:(W4.setCell ⟨w.heap.size,18,none⟩ (.slice (some ⟨g,0,none⟩) (N+1) cap)).heap[w.heap.size]?=some (.cells bf 41 (0,0)):=by rw[hX];exact setRow_heap W4 w.heap.size vs bf 41 (0,0) bB.a
          have gM:(W4.setCell ⟨w.heap.size,18,none⟩ (.slice (some ⟨g,0,none⟩) (N+1) cap)).heap[w.heap.size+1+1+1]?=some (.cells #[.int .i64 0,.int .i64 0,.int .i64 0,.int .i64 0,.int .i64 0,.int .i64 0,.int .i64 0,.int .i64 0,.int .i64 0,.int .i64 0,.int .i64 0,.int .i64 0,.int .i64 0,.int .i64 0,.int .i64 0,.slice none 0 0,.slice none 0 0,.slice none 0 0,.slice none 0 0] 41 (0,0)):=by
           rw[←bB.d];exact Below.heap_setCell _ _ _ _ (by show w.heap.size+1+1+1≠w.heap.size;omega)
          have gf:(W4.setCell ⟨w.heap.size,18,none⟩ (.slice (some ⟨g,0,none⟩) (N+1) cap)).heap[g]?=some (.cells bl 61 (0,0)):=by
           rw[←bx];exact Below.heap_setCell _ _ _ _ (by show g≠w.heap.size;omega)
          have lU:Below w.heap.size w (W4.setCell ⟨w.heap.size,18,none⟩ (.slice (some ⟨g,0,none⟩) (N+1) cap)):=bB.below.setCell (aX _) _;have aF:bf.all (·.oneCell')=true:=by
           rw[←HV.out];rw[tI] at h1 ⊢;intro u hu;rcases vH hu with h|h
           ·exact h1 u h
           ·subst h;rfl
          have gR:bf.size=19:=by rw[←HV.out];simp[cE]
          have eH:(Tryz.prog.info? 41).map (·.size)=some bf.size:=by rw[gR];kernel_rfl
          have HK:Hid (bl.toList.take ((N+1)*3)=cells.take (j*3)++[.int .i64 k,.int .i64 a,.int .i64 1]++cells.drop (j*3)):=pX;have gq:w.heap.size+5≤g:=cL hB bQ;clear j3 dU qa gP cH e0 e1 e2 ef hX pX bx bB bQ)
        |(refine wpList_load_row rfl 41 _ rfl w.heap.size rfl 41 bf (0,0) _ lW Tryz.underlying41 rfl eH ?_)
        |(refine wpList_store_row rfl 41 _ _ rfl (w.heap.size+1+1+1) bf rfl rfl 41 _ gM eH (by rw[gR];rfl) aF ?_))
   refine bodyPost_ret (results_cell_row (p:=8) (ty:=41) rfl _ _ (w.heap.size+1+1+1) 41 bf (0,0) _ rfl (setRow_heap _ (w.heap.size+1+1+1) _ bf 41 (0,0) gM) Tryz.underlying41 rfl eH) rfl ?_;refine⟨_,g,cap,by rw[HV.out],?_,by omega,rfl,ic,mK,fun i u hj=>?_⟩
   ·refine lU.trans ⟨rfl,rfl,rfl,by simp[World.setRow],fun q hq=>?_⟩;simp only[World.setRow,dy];rw[if_neg (by omega)]
   ·have lZ:((W4.setCell ⟨w.heap.size,18,none⟩ (.slice (some ⟨g,0,none⟩) (N+1) cap)).setRow (w.heap.size+1+1+1) bf).heap[g]?=some (.cells bl 61 (0,0)):=by
     rw[←gf];simp only[World.setRow,dy];rw[if_neg (by omega)]
    rw[←HK.out,dA] at hj;split at hj
    ·simpa [World.cell?,lZ] using hj
    ·cases hj
end Rm
namespace Rm
open Go Go.Proofs Cx Go.RowKit
def vq (k a n:Int):D:=.agg [.int k,.int a,.int (if n=0 then 0 else 1)]
def Fh (ds:List D):D:=
 let cs:=(ds.getD 0 .none).cells
 let k:=(ds.getD 1 .none).i
 let a:=(ds.getD 2 .none).i
 let xs:=(cs.getD 18 .none).l
 .agg (cs.set 18 (.list (xs.filter (fun y=>decide ((y.c 1).i<a)||(decide ((y.c 1).i=a)&&decide ((y.c 0).i<k)))++[vq k a (ds.getD 3 .none).i]++xs.filter (fun y=>decide (a<(y.c 1).i)||(decide ((y.c 1).i=a)&&decide (k<(y.c 0).i))))))
def Un (Φ:aV)(ds:List D)(r:D):Prop:=
 ∃cs k a n xs,ds=[.agg cs,.int k,.int a,.int n]∧cs[18]?=some (.list xs)∧xs.length≤4294967296∧
  ((∃i:Nat,i<xs.length∧Φ 34 [.list xs,.clo 32 [.ref (.int k),.ref (.int a)]]=some (.int i)∧Φ 34 [.list (xs.drop (i+1)),.clo 32 [.ref (.int k),.ref (.int a)]]=some (.int (-1))∧
    r=.agg (cs.set 18 (.list (xs.take i++[vq k a n]++xs.drop (i+1)))))∨
   (Φ 34 [.list xs,.clo 32 [.ref (.int k),.ref (.int a)]]=some (.int (-1))∧∃(j:Nat) (jv:Int),Φ 34 [.list xs,.clo 36 [.ref (.int a),.ref (.int k)]]=some (.int jv)∧(jv<0∧j=xs.length∨jv=j∧j≤xs.length)∧
    r=.agg (cs.set 18 (.list (xs.take j++[vq k a n]++xs.drop j)))))
open Classical in
def AU (Φ:aV)(ds:List D):Option D:=if Un Φ ds (Fh ds) then some (Fh ds) else none
def la (d:D):List Value:=[.int .i64 (d.c 0).i,.int .i64 (d.c 1).i,.int .i64 (d.c 2).i]
def fA (xs:List D):List Value:=xs.flatMap la
theorem ui (xs:List D):(fA xs).length=xs.length*3:=by
 induction xs with
 |nil=>rfl
 |cons x xs ih=>
  have:fA (x::xs)=la x++fA xs:=rfl;rw[this,jy,ih];simp[la];omega
theorem zk (xs ys:List D):fA (xs++ys)=fA xs++fA ys:=by simp[fA]
theorem VR (xs:List D)(i:Nat):fA (xs.take i)=(fA xs).take (i*3):=by
 rcases Nat.le_total i xs.length with h|h
 ·have e:=congrArg fA (tQ i xs);rw[zk] at e;have hl:(fA (xs.take i)).length=i*3:=by rw[ui,du,jz h]
  rw[←e,FP hl]
 ·rw[tR h,tR (by rw[ui];omega)]
theorem Hq (xs:List D)(i:Nat):fA (xs.drop i)=(fA xs).drop (i*3):=by
 rcases Nat.le_total i xs.length with h|h
 ·have e:=congrArg fA (tQ i xs);rw[zk] at e;have hl:(fA (xs.take i)).length=i*3:=by rw[ui,du,jz h]
  rw[←e,List.drop_left' hl]
 ·rw[T2 h,T2 (by rw[ui];omega)];rfl
theorem MG (xs:List D)(i j:Nat)(x:D)(hi:xs[i]?=some x)(hj:j<3):(fA xs)[i*3+j]?=(la x)[j]?:=by
 have ae:=(eE.1 hi).1;have e:(fA xs)[i*3+j]?=((fA xs).drop (i*3))[j]?:=by rw[dZ]
 rw[e,←Hq,TZ ae,(eE.1 hi).2];show(la x++fA (xs.drop (i+1)))[j]?=_;rw[kT (by simp[la];omega)]
theorem VQ (xs:List D):∀v∈fA xs,v.oneCell'=true:=by
 intro v hv;obtain⟨x,_,hx⟩:=jb.1 hv;simp[la] at hx;rcases hx with rfl|rfl|rfl<;>rfl
def vQ (n:Int):Prop:=IntKind.i64.min≤n∧n≤IntKind.i64.max
def mu (d:D):Prop:=∃k a n:Int,d=.agg [.int k,.int a,.int n]∧vQ k∧vQ a∧vQ n
theorem mu.of_rep {cap:Nat→Option CSig}{σ:Im}{v:Value}{d:D}(h:Rep cap σ Y6 v d):mu d∧v=.agg (la d).toArray:=by
 obtain⟨vs,ds,rfl,rfl,h1,h2,h3,_⟩:=h.agg_inv
 match vs,ds,h1,h2 with
 |[x,y,z],[a,b,c],_,_=>
  obtain⟨n0,e0,f0,g0⟩:=(h3 0 _ rfl).int_inv;obtain⟨n1,e1,f1,g1⟩:=(h3 1 _ rfl).int_inv;obtain⟨n2,e2,f2,g2⟩:=(h3 2 _ rfl).int_inv;simp only[rW,ya] at e0 f0 e1 f1 e2 f2;subst e0 f0 e1 f1 e2 f2;exact⟨⟨n0,n1,n2,rfl,g0,g1,g2⟩,rfl⟩
theorem mu.rep {cap:Nat→Option CSig}{σ:Im}{d:D}(h:mu d):Rep cap σ Y6 (.agg (la d).toArray) d:=by
 obtain⟨k,a,n,rfl,h1,h2,h3⟩:=h;refine .agg [I,I,I] [.int .i64 k,.int .i64 a,.int .i64 n] _ rfl rfl (fun i t hi=>?_) (fun i t hi=>?_)
 ·match i,hi with
  |0,hi=>cases hi;exact .int _ _ h1.1 h1.2
  |1,hi=>cases hi;exact .int _ _ h2.1 h2.2
  |2,hi=>cases hi;exact .int _ _ h3.1 h3.2
 ·match i,hi with
  |0,hi=>cases hi;rfl
  |1,hi=>cases hi;rfl
  |2,hi=>cases hi;rfl
theorem aoE {cap:Nat→Option CSig}{σ:Im}{w:World}{v:Value}{xs:List D}(az:σ.ok w)(h:Rep cap σ (.slice Y6) v (.list xs)):eU w v xs.length (fA xs)∧∀x∈xs,mu x:=by
 obtain⟨kQ,hx,q9⟩:=h.slice_inv;cases hx;rcases q9 with⟨⟨p,rfl⟩,rfl⟩|⟨k,o,c,rfl,h1,h2,vs,h3,h4⟩
 ·exact⟨⟨rfl,.inl ⟨p,rfl,rfl⟩⟩,fun x hx=>by cases hx⟩
 ·refine⟨⟨ui _,.inr ⟨k,o,c,rfl,h1,h2,fun j u hj=>?_⟩⟩,fun x hx=>?_⟩
  ·have ae:j<xs.length*3:=by have:=(eE.1 hj).1;rwa [ui] at this
   have hi:j/3<xs.length:=by omega
   have e:j=j/3*3+j%3:=by omega
   have hx:=bu hi;rw[e,MG xs _ _ _ hx (by omega)] at hj;have hr:=(mu.of_rep (h3 _ _ hx)).2;have:=h4 (j/3) (j%3) u hi (by rw[hr];show(la _).toArray[j%3]?=_;simpa using hj);have hs:o+j/3*Y6.size+j%3=o+j:=by show o+j/3*3+j%3=o+j;omega
   rw[hs] at this;exact az.c _ _ _ this
  ·obtain⟨i,hi,rfl⟩:=gZ hx;exact(mu.of_rep (h3 i _ (bu hi))).1
theorem aou {cap:Nat→Option CSig}{m:Nat→Option (List (Value×Value))}{W:World}{v:Value}{n:Nat}{xs:List D}(hr:eU W v n (fA xs))(hF:∀x∈xs,mu x):
 Rep cap ⟨fun k o=>W.cell? ⟨k,o,none⟩,m⟩ (.slice Y6) v (.list xs):=by
 obtain⟨hl,hr⟩:=hr;rw[ui] at hl;have hn:xs.length=n:=by omega
 rcases hr with⟨p,rfl,h0⟩|⟨g,o,c,rfl,h1,h2,h3⟩
 ·obtain rfl:xs=[]:=Ua.1 (by omega);cases p with
  |none=>exact .nil _
  |some a=>exact .emp _ a
 ·refine .slice Y6 g o n c xs (fun i=>.agg (la (xs.getD i .none)).toArray) hn h1 h2 (fun i x hx=>?_) (fun i j u hi hj=>?_)
  ·have e:xs.getD i .none=x:=by rw[aH,hx];rfl
   rw[e];exact mu.rep (hF x (kl hx))
  ·have hx:=bu (show i<xs.length by omega);have e:xs.getD i .none=xs[i]'(by omega):=by rw[aH,hx];rfl
   have bA:(la (xs[i]'(by omega)))[j]?=some u:=by rw[←e];simpa [Value.cells] using hj
   have Nr:j<3:=by have:=(eE.1 bA).1;simpa [la] using this
   have:=h3 (i*3+j) u (by rw[MG xs i j _ hx Nr];exact bA);show W.cell? ⟨g,o+i*3+j,none⟩=some u;rw[tS];exact this
theorem IG {Φ:aV}(hΦ:dQ ctx Φ){σ:Im}{w:World}(az:σ.ok w)(hC:CtxOK ctx σ)(f:Nat)(hf:ctx.cap f=some ⟨[.ref I,.ref I],[Y6],.bool⟩){xs:List D}(hF:∀x∈xs,mu x){k a r:Int}(hk:vQ k)(ha:vQ a)
 (h:Φ 34 [.list xs,.clo f [.ref (.int k),.ref (.int a)]]=some (.int r)) (W:World) (v:Value) (p q n:Nat) (hb:Below w.heap.size w W) (hr:eU W v n (fA xs))
 (hp:W.cell? ⟨p,0,none⟩=some (.int .i64 k)) (hq:W.cell? ⟨q,0,none⟩=some (.int .i64 a)):
 Calls Tryz.prog 34 #[v,y5 f p q] W fun e w'=>e=.returned (.int .i64 r)∧Below W.heap.size W w':=by
 have hfn:=(hΦ 34 _ _ h _ rfl).1 rfl
 have hle:σ.le ⟨fun k o=>W.cell? ⟨k,o,none⟩,σ.m⟩:=⟨fun k o u hu=>by
  have:=az.c k o u hu;show W.cell? ⟨k,o,none⟩=some u;rw[hb.cell (World.block_lt_of_cell? w _ this)];exact this,fun _ _ h=>h⟩
 have jk:Im.ok ⟨fun k o=>W.cell? ⟨k,o,none⟩,σ.m⟩ W:=⟨fun _ _ _ h=>h,fun k es h=>(az.m k es h).keep (hb.block k (az.m k es h).lt)⟩
 have Xs:∀(b:Nat) (x:Int),vQ x→W.cell? ⟨b,0,none⟩=some (.int .i64 x)→Rep ctx.cap ⟨fun k o=>W.cell? ⟨k,o,none⟩,σ.m⟩ (.ref I) (.pointer (some ⟨b,0,none⟩)) (.ref (.int x)):=fun b x hx hc=>by
  refine .ref I b 0 (.int .i64 x) (.int x) (.int _ _ hx.1 hx.2) fun j u hj=>?_;have hj0:j=0:=by
   have:=(dI.1 hj).1;simp[Value.cells] at this;omega
  subst hj0;simp[Value.cells] at hj;subst hj;exact hc
 refine(hfn _ W #[v,y5 f p q] jk ⟨fun g x hx=>(hC.glob g x hx).mono hle⟩ ⟨rfl,rfl,fun i t hi=>?_⟩).mono fun e w' hh=>?_
 ·match i,hi with
  |0,hi=>cases hi;exact aou hr hF
  |1,hi=>
   cases hi;refine .fn f ⟨[.ref I,.ref I],[Y6],.bool⟩ [.pointer (some ⟨p,0,none⟩),.pointer (some ⟨q,0,none⟩)] _ hf rfl rfl fun i t hi=>?_
   match i,hi with
   |0,hi=>cases hi;exact Xs p k hk hp
   |1,hi=>cases hi;exact Xs q a ha hq
 ·obtain⟨u,σ',rfl,_,_,hB,_,_,eZ⟩:=hh;have eZ:Rep ctx.cap σ' I u (.int r):=eZ;obtain⟨n',e1,e2,_⟩:=eZ.int_inv;cases e2;exact⟨by rw[e1],hB⟩
theorem aoZ {Φ:aV}(hΦ:dQ ctx Φ){ds:List D}{d:D}(h:AU Φ ds=some d):∃s,ctx.sig 16=some s∧FE ctx 16 s ds d:=by
 refine⟨_,rfl,fun _=>?_,fun shs obs hm=>by cases hm⟩;unfold AU at h;split at h
 case isFalse=>cases h
 rename_i hs;cases h;generalize Fh ds=d at hs;obtain⟨cs,k,a,n,xs,rfl,dL,hN,q9⟩:=hs;intro σ w args az hC ha;obtain⟨a1,a2,a3⟩:=ha;have h0:=a3 0 _ rfl;have h1:=a3 1 _ rfl;have h2:=a3 2 _ rfl;have h3:=a3 3 _ rfl;obtain⟨u,x,y,z,rfl⟩:∃u x y z,args=#[u,x,y,z]:=by
  have:args.size=4:=by simpa using a1
  match args,this with
  |⟨[u,x,y,z]⟩,_=>exact⟨u,x,y,z,rfl⟩
 simp only[rW,ya] at h0 h1 h2 h3;change Rep ctx.cap σ jY u (.agg cs) at h0;change Rep ctx.cap σ I x (.int k) at h1;change Rep ctx.cap σ I y (.int a) at h2;change Rep ctx.cap σ I z (.int n) at h3;obtain⟨k',e1,f1,hk⟩:=h1.int_inv;obtain⟨a',e2,f2,nz⟩:=h2.int_inv;obtain⟨n',e3,f3,jI⟩:=h3.int_inv;cases f1;cases f2;cases f3;subst e1 e2 e3;obtain⟨vs,ds',rfl,hd,l1,l2,bN,dw⟩:=h0.agg_inv;cases hd;have Xt:=bN 18 _ rfl;have ecs:cs.getD 18 .none=.list xs:=by rw[aH,dL];rfl
 rw[ecs] at Xt;have Ic:vs.length=19:=l1;have mM:vs.toArray[18]?=some (vs.getD 18 undef):=by
  rw[aH,bu (show 18<vs.length by omega)];simp[Ic]
 obtain⟨fG,hF⟩:=aoE az Xt;have aF:vs.toArray.all (·.oneCell')=true:=by
  rw[tI];intro v hv;obtain⟨i,hi,rfl⟩:=gZ (Array.mem_toList_iff.2 hv);have cw:i<vs.length:=by simpa using hi
  have Dw:∃t,([I,I,I,I,I,I,I,I,I,I,I,I,I,I,I,(.slice Y9),(.slice qM),(.slice Y9),(.slice Y6)]:List Ty)[i]?=some t:=⟨_,bu (by simpa [Ic] using cw)⟩
  obtain⟨t,ht⟩:=Dw;have:=((bN i t ht).oneCell (dw i t ht)).2
  rwa [aH,bu cw] at this
 have hm:(n=0∧(if n=0 then(0:Int) else 1)=0∨n≠0∧(if n=0 then(0:Int) else 1)=1):=by
  by_cases h:n=0
  ·exact .inl ⟨h,by simp[h]⟩
  ·exact .inr ⟨h,by simp[h]⟩
 have hX:mu (vq k a n):=⟨k,a,_,rfl,hk,nz,by unfold vQ;split<;>decide⟩
 have fin:∀(v':Value) (g c:Nat) (w':World) (ys:List D),(∀y∈ys,mu y)→Below w.heap.size w w'→w.heap.size≤g→v'=.slice (some ⟨g,0,none⟩) ys.length c→ys.length≤c→c≤maxLen→(∀j u,(fA ys)[j]?=some u→w'.cell? ⟨g,j,none⟩=some u)→
  ∃v σ',Ending.returned (.agg (vs.toArray.setIfInBounds 18 v'))=Ending.returned v∧σ.le σ'∧σ'.ok w'∧Below w.heap.size w w'∧(∀k o x,σ'.c k o=some x→σ.c k o=some x∨w.heap.size≤k)∧(∀k x,σ'.m k=some x→σ.m k=some x∨w.heap.size≤k)∧Rep ctx.cap σ' jY v (.agg (cs.set 18 (.list ys))):=by
  intro v' g c w' ys sV hb hg hv' CH uq eW
  have oJ:∀o,σ.c g o=none:=fun o=>by
   cases hc:σ.c g o with
   |none=>rfl
   |some u=>have:=World.block_lt_of_cell? w (a:=⟨g,o,none⟩) (az.c _ _ _ hc);simp at this;omega
  have hle:σ.le ⟨fun k o=>if k=g then w'.cell? ⟨k,o,none⟩ else σ.c k o,σ.m⟩:=⟨fun k o u hu=>by
   show(if k=g then w'.cell? ⟨k,o,none⟩ else σ.c k o)=some u;split
   ·rename_i e;subst e;rw[oJ o] at hu;cases hu
   ·exact hu,fun _ _ h=>h⟩
  refine⟨_,⟨fun k o=>if k=g then w'.cell? ⟨k,o,none⟩ else σ.c k o,σ.m⟩,rfl,hle,⟨fun k o u hu=>?_,fun k es h=>(az.m k es h).keep (hb.block k (az.m k es h).lt)⟩,hb,fun k o u hu=>?_,fun _ _ h=>.inl h,?_⟩
  ·have hu:(if k=g then w'.cell? ⟨k,o,none⟩ else σ.c k o)=some u:=hu;split at hu
   ·exact hu
   ·have:=az.c k o u hu;rw[hb.cell (World.block_lt_of_cell? w _ this)];exact this
  ·have hu:(if k=g then w'.cell? ⟨k,o,none⟩ else σ.c k o)=some u:=hu;split at hu
   ·rename_i e;subst e;exact .inr hg
   ·exact .inl hu
  ·have e:vs.toArray.setIfInBounds 18 v'=(vs.set 18 v').toArray:=by simp
   rw[e];refine .agg _ (vs.set 18 v') _ (by rw[K0];exact l1) (by rw[K0];exact l2) (fun i t hi=>?_) dw;by_cases q7:i=18
   ·subst q7;cases hi;rw[aH,aH,List.getElem?_set_self (by omega),List.getElem?_set_self (by rw[l2];decide)];show Rep _ _ (.slice Y6) v' (.list ys);have hr:eU w' v' ys.length (fA ys):=⟨ui _,.inr ⟨g,0,c,hv',CH,uq,fun j u hj=>by rw[fq];exact eW j u hj⟩⟩
    subst hv';refine .slice Y6 g 0 ys.length c ys (fun i=>.agg (la (ys.getD i .none)).toArray) rfl CH uq (fun i x hx=>?_) (fun i j u hi hj=>?_)
    ·have e:ys.getD i .none=x:=by rw[aH,hx];rfl
     rw[e];exact mu.rep (sV x (kl hx))
    ·have hx:=bu hi;have e:ys.getD i .none=ys[i]:=by rw[aH,hx];rfl
     have bA:(la ys[i])[j]?=some u:=by rw[←e];simpa [Value.cells] using hj
     have Nr:j<3:=by have:=(eE.1 bA).1;simpa [la] using this
     have:=eW (i*3+j) u (by rw[MG ys i j _ hx Nr];exact bA);show(if g=g then w'.cell? ⟨g,0+i*3+j,none⟩ else _)=some u;rw[if_pos rfl,fq];exact this
   ·have:=(bN i t hi).mono hle;rw[aH,aH,vN (sf q7),vN (sf q7),←aH,←aH];exact this
 have cA:∀{ys:List D},(∀y,y∈ys→y∈xs∨y=vq k a n)→∀y∈ys,mu y:=fun h y hy=>by
  rcases h y hy with h|rfl
  ·exact hF y h
  ·exact hX
 rcases q9 with⟨i,hi,hI,hD,rfl⟩|⟨hI,j,jv,hJ,hj,rfl⟩
 ·refine(aoW vs.toArray (vs.getD 18 undef) (by simpa using Ic) mM aF k a n _ hm w xs.length i (fA xs) fG hN hi (VQ xs)
   (fun W v p q hb hr hp hq=>IG hΦ az hC 32 rfl hF hk nz hI W v p q _ hb hr hp hq)
   (fun W v p q hb hr hp hq=>by rw[←Hq] at hr;exact IG hΦ az hC 32 rfl (fun x hx=>hF x (ye hx)) hk nz hD W v p q _ hb hr hp hq)).mono fun e w' hh=>?_
  obtain⟨v',g,c,rfl,hb,hg,rfl,CH,uq,eW⟩:=hh;have hlen:(xs.take i++[vq k a n]++xs.drop (i+1)).length=xs.length:=by simp;omega
  refine fin _ g c w' _ (cA fun y hy=>?_) hb hg (by rw[hlen]) (by omega) uq (fun j u hj=>eW j u ?_)
  ·rcases cR.1 hy with hy|hy
   ·rcases cR.1 hy with hy|hy
    ·exact .inl (List.mem_of_mem_take hy)
    ·exact .inr (lL.1 hy)
   ·exact .inl (ye hy)
  ·rw[zk,zk,VR,Hq] at hj;exact hj
 ·refine(aoY vs.toArray (vs.getD 18 undef) (by simpa using Ic) mM aF k a n _ hm w xs.length j jv hj (fA xs) fG hN (VQ xs)
   (fun W v p q hb hr hp hq=>IG hΦ az hC 32 rfl hF hk nz hI W v p q _ hb hr hp hq)
   (fun W v p q hb hr hp hq=>IG hΦ az hC 36 rfl hF nz hk hJ W v p q _ hb hr hp hq)).mono fun e w' hh=>?_
  obtain⟨v',g,c,rfl,hb,hg,rfl,CH,uq,eW⟩:=hh;have hlen:(xs.take j++[vq k a n]++xs.drop j).length=xs.length+1:=by simp;omega
  refine fin _ g c w' _ (cA fun y hy=>?_) hb hg (by rw[hlen]) (by omega) uq (fun i u hj=>eW i u ?_)
  ·rcases cR.1 hy with hy|hy
   ·rcases cR.1 hy with hy|hy
    ·exact .inl (List.mem_of_mem_take hy)
    ·exact .inr (lL.1 hy)
   ·exact .inl (ye hy)
  ·rw[zk,zk,VR,Hq] at hj;exact hj
end Rm
