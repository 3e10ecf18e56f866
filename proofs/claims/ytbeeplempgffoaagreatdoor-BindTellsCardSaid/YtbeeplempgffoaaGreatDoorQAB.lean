/-
  Shared texts of this claim.
-/
import Derived.Test.YtbeeplempgffoaaGreatDoorQAA
import Derived.ChangeKeysEq
import Derived.Laws.Tables
set_option linter.unusedSimpArgs false
set_option linter.unusedVariables false
namespace Cx
open Go Go.RowKit
theorem tQ {n:Nat}(h:n≤maxLen):IntKind.i64.min≤(n:Int)∧(n:Int)≤IntKind.i64.max:=by
 simp only[maxLen] at h;simp only[IntKind.min,IntKind.max,IntKind.signed,IntKind.bits];simp;omega
section
variable {C:Ctx} {S:St} {ρ:Env} {σ:Im} {own:Nat→Option Nat} {hv:Nat→Value} {w0:World} {σ0:Base} {A:Nat→Prop} {a:Act} {w:World} {gs:List (Nat×Bool)} {Φ:aR} {dst:Nat}
def Ma (C:Ctx)(σ:Im)(w:World)(B:Nat)(t:Ty)(v:Value)(d:D):Prop:=
 Rep C.cap σ t v d∨
 (∃T e cells xs,t=.slice e.rol∧d=.list xs∧w.ownsRow B T e.size v xs.length cells∧iW C.cap σ e cells xs)∨
 (∃k arr clock es kt et,t=.map kt et∧v=.map (some k)∧w.heap[k]?=some (.map arr clock)∧d=.map es∧es.length=arr.size∧es.length≤maxLen∧
    ∀(i:Nat) (e:MapEntry) (p:D×D),arr[i]?=some e→es[i]?=some p→Rep C.cap σ kt e.key p.1∧Rep C.cap σ et e.val p.2)
theorem Wl (h:Inv C S ρ σ own hv w0 σ0 A a w)(hC:CtxOK C σ0)(hg:holds gs ρ=true){x:Operand}{r:Ty×PE}(hu:view C S gs x=some r):Ma C σ w w0.heap.size r.1 (a.eval x) (r.2.ev ρ):=by
 unfold view at hu;split at hu
 ·rename_i r' rC;cases hu;exact .inl (cv h hC hg rC)
 ·split at hu
  ·rename_i t _;obtain⟨hs,_⟩:=sr h hg t;split at hu
   ·rename_i j ver e;rw[e] at hs;cases hb:Nat.beq ver (S.ver j)<;>simp only[hb,cond_true,cond_false] at hu
    ·cases hu
    ·have fq:=aG hb;have ho:=h.objs j;have cT:a.eval (.tmp t)=hv j:=hs.2 fq;split at hu
     ·rename_i T e eo;rw[eo] at ho;cases hu;obtain⟨cells,xs,h1,h2,h3,h4⟩:=ho;rw[cT];exact .inr (.inl ⟨T,e,cells,xs,rfl,h1,h2,h3⟩)
     ·rename_i kt et eo;rw[eo] at ho;cases hu;obtain⟨k,arr,clock,es,h1,h2,h3,h4,h5,⟨hx,_⟩,h6⟩:=ho;rw[cT];exact .inr (.inr ⟨k,arr,clock,es,kt,et,rfl,h1,h3,h4,h5,hx,h6⟩)
     ·cases hu
   ·cases hu
  ·cases hu
theorem wJ {w:World}{B e size n:Nat}{v:Value}{cells:List Value}(h:w.ownsRow B e size v n cells):∃b c,v=.slice b n c∧n≤maxLen∧n≤c:=by
 rcases h.2 with⟨rfl,rfl⟩|⟨g,cap,cur,rfl,h1,h2,h3,h4,h5⟩
 ·exact⟨none,0,rfl,by decide,bJ _⟩
 ·exact⟨_,cap,rfl,jv h3 h4,h3⟩
theorem SY {b:Builtin}{args:Array Operand}{ts:Array TypeId}{o:Oper}(ho:o.op=.call {callee:=.builtin b,args:=args,argTypes:=ts}):
 ∃cs,(execOp a.eval o).run C.P w=(builtin b ts o.type cs (args.map a.eval)).run C.P w:=
 ⟨_,by simp only[execOp,ho,resolve,invoke];rfl⟩
theorem ap9 (h:Inv C S ρ σ own hv w0 σ0 A a w)(hC:CtxOK C σ0)(hg:holds gs ρ=true){T:TypeId}{x:Operand}{r:Sh×List PI}(hr:QN C S gs dst T x=some r){o:Oper}
 (ho:o.op=.call {callee:=.builtin .len,args:=#[x],argTypes:=#[T]}):ed C S ρ σ hv Φ dst a w o r:=by
 simp only[QN,aB] at hr;obtain⟨p,hp,hr⟩:=hr;have aU:=Wl h hC hg hp;obtain⟨cs,ax⟩:=SY (C:=C) (w:=w) (a:=a) ho;split at hr
 ·rename_i e T' e1 e2;rw[e1] at aU;cases hr;have hx:∃b n c xs,a.eval x=.slice b n c∧p.2.ev ρ=.list xs∧xs.length=n∧n≤maxLen:=by
   rcases aU with aU|⟨T,e,cells,xs,ht,hd,df,iy⟩|⟨k,arr,clock,es,kt,et,ht,_⟩
   ·obtain⟨xs,hd,⟨⟨p0,bF⟩,rfl⟩|⟨k,o,c,bF,h1,h2,_⟩⟩:=aU.slice_inv
    ·exact⟨p0,0,0,[],bF,hd,rfl,by decide⟩
    ·exact⟨_,_,c,xs,bF,hd,rfl,by omega⟩
   ·obtain⟨b,c,bF,h1,_⟩:=wJ df;exact⟨b,_,c,xs,bF,hd,rfl,h1⟩
   ·cases ht
  obtain⟨b,n,c,xs,bF,hd,hl,hm⟩:=hx;refine .dat (v:=.int .i64 n) ?_ ?_
  ·rw[ax];simp[builtin,Builtin.len_,bF,run_underlying e2,goInt]
  ·simp only[PE.ev,hd,D.l_list,hl];exact .int _ _ (tQ hm).1 (tQ hm).2
 ·rename_i e T' e1 e2;rw[e1] at aU;cases hr;rcases aU with aU|⟨T,e,cells,xs,ht,_⟩|⟨k,arr,clock,es,kt,et,ht,_⟩
  ·generalize vV:a.eval x=v at aU;generalize CF:p.2.ev ρ=d at aU;cases aU;refine .dat (v:=.int .i64 0) ?_ ?_
   ·rw[ax];simp[builtin,Builtin.len_,vV,run_underlying e2,goInt]
   ·simp only[PE.ev,CF,D.l_list];exact .int _ _ (by decide) (by decide)
  ·cases ht
  ·cases ht
 ·rename_i e1 e2;rw[e1] at aU;cases hr;rcases aU with aU|⟨T,e,cells,xs,ht,_⟩|⟨k,arr,clock,es,kt,et,ht,_⟩
  ·obtain⟨n,bF,bB,hm⟩:=aU.str_inv;refine .dat (v:=.int .i64 n.size) ?_ ?_
   ·rw[ax];simp[builtin,Builtin.len_,bF,run_underlying e2,goInt]
   ·simp only[PE.ev,bB,D.s_str];exact .int _ _ (tQ hm).1 (tQ hm).2
  ·cases ht
  ·cases ht
 ·rename_i k0 e0 a0 b0 e1 e2;rw[e1] at aU;cases hr;rcases aU with aU|⟨T,e,cells,xs,ht,_⟩|⟨k,arr,clock,es,kt,et,ht,bF,hb,bB,hl,hx,_⟩
  ·generalize vV:a.eval x=v at aU;generalize CF:p.2.ev ρ=d at aU;cases aU with
   |mapnil=>
    refine .dat (v:=.int .i64 0) ?_ ?_
    ·rw[ax];simp[builtin,Builtin.len_,vV,run_underlying e2,goInt]
    ·simp only[PE.ev,CF,D.m];exact .int _ _ (by decide) (by decide)
   |map kt et r iU es hm hl hx hk _=>
    obtain⟨_,arr,clock,hb,ky⟩:=(h.ok.m _ _ hm).resolve_right (fun e=>DC hl hk e.1);have hn:arr.size=es.length:=by rw[hl,←ky];simp[entriesOf]
    refine .dat (v:=.int .i64 arr.size) ?_ ?_
    ·rw[ax];simp[builtin,Builtin.len_,vV,run_underlying e2,goInt,getObj,Sem.run,hb]
    ·simp only[PE.ev,CF,D.m,hn];exact .int _ _ (tQ hx).1 (tQ hx).2
  ·cases ht
  ·refine .dat (v:=.int .i64 arr.size) ?_ ?_
   ·rw[ax];simp[builtin,Builtin.len_,bF,run_underlying e2,goInt,getObj,Sem.run,hb]
   ·simp only[PE.ev,bB,D.m,hl];exact .int _ _ (tQ (hl▸hx)).1 (tQ (hl▸hx)).2
 ·cases hr
theorem ac1 (h:Inv C S ρ σ own hv w0 σ0 A a w)(hC:CtxOK C σ0)(hg:holds gs ρ=true){mx:Bool}{x y:Operand}{ts:Array TypeId}{r:Sh×List PI}(hr:JS C S gs dst mx x y=some r){o:Oper}
 (ho:o.op=.call {callee:=.builtin (bif mx then .max else .min),args:=#[x,y],argTypes:=ts}):ed C S ρ σ hv Φ dst a w o r:=by
 simp only[JS,aB] at hr;obtain⟨p,hp,q,hq,hr⟩:=hr;have aU:=cv h hC hg hp;have dv:=cv h hC hg hq;obtain⟨cs,ax⟩:=SY (C:=C) (w:=w) (a:=a) ho;split at hr
 ·rename_i k k' e1 e2;rw[e1] at aU;rw[e2] at dv;obtain⟨n,bF,bB,b1,b2⟩:=aU.int_inv;obtain⟨m,gL,dC,b3,b4⟩:=dv.int_inv;cases tp:(k==k')<;>simp only[tp,cond_true,cond_false] at hr
  ·cases hr
  ·have Ov:k=k':=by simpa using tp
   subst Ov;cases hr;cases mx with
   |true=>
    refine .dat (v:=.int k (if m>n then m else n)) ?_ ?_
    ·rw[ax];simp[builtin,Builtin.max_,Builtin.max2,bF,gL]
    ·simp only[cond_true,PE.ev,bB,dC,D.i_int];by_cases aq:m>n<;>simp[aq]<;>constructor<;>assumption
   |false=>
    refine .dat (v:=.int k (if m<n then m else n)) ?_ ?_
    ·rw[ax];simp[builtin,Builtin.min_,Builtin.min2,bF,gL]
    ·simp only[cond_false,PE.ev,bB,dC,D.i_int];by_cases aq:m<n<;>simp[aq]<;>constructor<;>assumption
 ·cases hr
theorem ap3 (h:Inv C S ρ σ own hv w0 σ0 A a w)(hC:CtxOK C σ0)(hg:holds gs ρ=true){x:Operand}{i:Nat}{r:Sh×List PI}(hr:QH C S gs dst x i=some r){o:Oper}(ho:o.op=.extract x i):
 ed C S ρ σ hv Φ dst a w o r:=by
 simp only[QH,aB] at hr;obtain⟨p,hp,hr⟩:=hr;have aU:=cv h hC hg hp;split at hr
 ·rename_i ts e1;rw[e1] at aU;simp only[aK] at hr;obtain⟨t,ht,rfl⟩:=hr;obtain⟨vs,ds,bF,bB,l1,l2,aW⟩:=aU.tup_inv;have hi:i<vs.length:=by rw[l1];exact(iu.1 ht).1
  refine .dat (v:=vs.getD i undef) ?_ ?_
  ·obtain⟨u,hu⟩:∃u,vs[i]?=some u:=⟨_,bW hi⟩
   have mf:vs.getD i undef=u:=by rw[be,hu];rfl
   rw[mf];simp[execOp,ho,bF,Instr.extract,hu]
  ·simp only[PE.ev,bB];exact aW i t ht
 ·cases hr
end
end Cx
namespace Cx
open Go Go.RowKit
theorem tM {P:Program}{T:TypeId}{ag:Bool}(h:oL P T=some ag)(w:World):(isAgg T).run P w=.ok ag w:=by
 unfold oL at h;split at h
 ·rename_i fs hu;cases h;simp[isAgg,run_underlying hu]
 ·rename_i n e hu;cases h;simp[isAgg,run_underlying hu]
 ·rename_i d h1 h2 hu;cases h;cases d<;>simp_all [isAgg,run_underlying hu]
 ·cases h
theorem sN (k o n:Nat):(⟨k,o,none⟩:Addr).add n=⟨k,o+n,none⟩:=by
 unfold Addr.add;split<;>simp_all
theorem K0 {P:Program}{T:TypeId}{inf:TypeInfo}{ag:Bool}{w:World}{k o:Nat}{cs:List Value}(hi:P.info? T=some inf)(ha:oL P T=some ag)(hl:cs.length=inf.size)
 (h1:ag=false→cs.length=1) (hc:∀j u,cs[j]?=some u→w.cell? ⟨k,o+j,none⟩=some u):(loadVar T ⟨k,o,none⟩).run P w=.ok (rowOf ag cs) w:=by
 cases ag with
 |true=>
  have:=run_loadCells_list (P:=P) w ⟨k,o,none⟩ cs (fun j v hv=>by rw[sN];exact hc j v hv);rw[hl] at this;simp[loadVar,tM ha,Go.sizeOf,run_typeInfo w hi,this,rowOf]
 |false=>
  obtain⟨u,hu⟩:∃u,cs=[u]:=by
   have:=h1 rfl
   match cs,this with
   |[u],_=>exact⟨u,rfl⟩
  subst hu;have h0:=hc 0 u rfl;simp only[qL] at h0;simp[loadVar,tM ha,rowOf,run_load,h0]
section
variable {C:Ctx} {S:St} {ρ:Env} {σ:Im} {own:Nat→Option Nat} {hv:Nat→Value} {w0:World} {σ0:Base} {A:Nat→Prop} {a:Act} {w:World} {gs:List (Nat×Bool)} {Φ:aR} {dst:Nat}
theorem uu {o:Oper}{T:TypeId}{x:Operand}{v:Value}{k off:Nat}(ho:o.op=.load T x)(hx:a.eval x=.pointer (some ⟨k,off,none⟩))(hl:(loadVar T ⟨k,off,none⟩).run C.P w=.ok v w):
 (execOp a.eval o).run C.P w=.ok (.value v) w:=by
 simp[execOp,ho,Instr.loadAt,hx,Instr.sureAddr,hl]
theorem rf {α:Type}{l:List α}{i:Nat}{x d:α}(h:l[i]?=some x):l.getD i d=x:=by
 rw[be,h];rfl
theorem JX {cap:Nat→Option CSig}{ts:List Ty}{vs:List Value}{ds:List D}{ag:Bool}{n off:Nat}{ty:Ty}(hp:tX ag n ts off=some ty)
 (h1:vs.length=ts.length) (h2:ds.length=ts.length) (hr:∀(i:Nat) (t:Ty),ts[i]?=some t→Rep cap σ t (vs.getD i undef) (ds.getD i .none)) (ho:∀(i:Nat) (t:Ty),ts[i]?=some t→t.one=true):
 Rep cap σ ty (rowOf ag ((vs.drop off).take n)) (bif ag then .agg ((ds.drop off).take n) else ds.getD off .none)∧((vs.drop off).take n).length=n∧(ag=false→n=1):=by
 unfold tX at hp;cases hle:Nat.ble (off+n) ts.length<;>simp only[hle,cond_true,cond_false] at hp
 ·cases hp
 ·have IS:=kZ hle;have hlen:((vs.drop off).take n).length=n:=by simp;omega
  cases ag with
  |true=>
   simp only[cond_true] at hp;cases hp;refine⟨?_,hlen,fun e=>by cases e⟩;simp only[rowOf,if_true,cond_true];refine .agg _ _ _ (by simp;omega) (by simp;omega) (fun i t hi=>?_) (fun i t hi=>?_)
   ·simp only[gB,gT] at hi;split at hi
    ·rename_i cf;have:=hr (off+i) t hi;simpa [be,gB,gT,cf] using this
    ·cases hi
   ·simp only[gB,gT] at hi;split at hi
    ·exact ho _ t hi
    ·cases hi
  |false=>
   simp only[cond_false] at hp;cases hn:Nat.beq n 1<;>simp only[hn,cond_true,cond_false] at hp
   ·cases hp
   ·have oE:=aG hn;subst oE;refine⟨?_,hlen,fun _=>rfl⟩;have:=hr off ty hp;have aq:off<vs.length:=by omega
    simpa [rowOf,be,gB,gT] using this
theorem JW {ag:Bool}{n:Nat}{e:PE}{off:Nat}{ds:List D}(h:e.ev ρ=.agg ds):(Au ag n e off).ev ρ=bif ag then .agg ((ds.drop off).take n) else ds.getD off .none:=by
 cases ag<;>simp[Au,PE.ev,h,D.cells,D.c]
theorem Inv.cell (h:Inv C S ρ σ own hv w0 σ0 A a w){k o:Nat}{u:Value}(hc:σ.c k o=some u):w.cell? ⟨k,o,none⟩=some u:=h.ok.c _ _ _ hc
theorem Rep.rowOf {cap:Nat→Option CSig}{t:Ty}{v:Value}{d:D}(h:Rep cap σ t v d):v=Cx.rowOf t.rowT v.cells.toList:=by
 cases h<;>simp[Cx.rowOf,Ty.rowT,Value.cells]
theorem Rep.cells1 {cap:Nat→Option CSig}{t:Ty}{v:Value}{d:D}(h:Rep cap σ t v d)(ht:t.rowT=false):v.cells=#[v]:=by
 cases h<;>simp_all [Ty.rowT,Value.cells]
theorem aqa (h:Inv C S ρ σ own hv w0 σ0 A a w){T:TypeId}{x:Operand}{inf:TypeInfo}{ag:Bool}(hi:C.P.info? T=some inf)(ha:oL C.P T=some ag){o:Oper}(ho:o.op=.load T x)
 {ty:Ty} {e:PE} (hr:Rep C.cap σ (.ref ty) (a.eval x) (e.ev ρ)) (hs:Nat.beq inf.size ty.size=true) (hag:(ag==ty.rowT)=true):
 ed C S ρ σ hv Φ dst a w o (.dat ty,[.setR dst (.deref e)]):=by
 obtain⟨k,off,v,y,bF,bB,cB,j0⟩:=hr.ref_inv;have dV:=aG hs;have Ys:ag=ty.rowT:=by simpa using hag
 have hz:=cB.size;have C5:=cB.rowOf;refine .dat (v:=v) (uu ho bF ?_) ?_
 ·rw[C5,←Ys];refine K0 hi ha (by simp[hz,dV]) (fun e=>?_) (fun j u hu=>?_)
  ·subst e;simp[cB.cells1 Ys.symm]
  ·exact h.cell (j0 j u (by simpa using hu))
 ·simp only[PE.ev,bB,D.deref];exact cB
theorem Rep.dcells {cap:Nat→Option CSig}{t:Ty}{v:Value}{d:D}(h:Rep cap σ t v d)(ht:t.one=true):d.cells=[d]:=by
 cases h<;>simp_all [Ty.one,D.cells]
theorem Xf (h:Inv C S ρ σ own hv w0 σ0 A a w){j:Nat}{cs:List Value}{ds:List D}(hd:ρ.o j=.agg ds):
 ∀(aJ:List Sh) (i:Nat) (r:List Ty×List PE),(∀m s,aJ[m]?=some s→aT C S ρ σ hv s (cs.getD (i+m) undef) (ds.getD (i+m) .none))→xL S j aJ i=some r→
  r.1.length=aJ.length∧∃es,(PE.evc ρ r.2=es∧PE.evs ρ r.2=es)∧es.length=aJ.length∧(∀m t,r.1[m]?=some t→t.one=true∧Rep C.cap σ t (cs.getD (i+m) undef) (es.getD m .none)):=by
 intro aJ
 induction aJ with
 |nil=>intro i r aW hr;simp[xL] at hr;subst hr;exact⟨rfl,[],⟨rfl,rfl⟩,rfl,by simp⟩
 |cons s aJ ih=>
  intro i r aW hr;simp only[xL,aB] at hr;obtain⟨x,hx,hr⟩:=hr
  have zt:∀m s,aJ[m]?=some s→aT C S ρ σ hv s (cs.getD (i+1+m) undef) (ds.getD (i+1+m) .none):=fun m s hm=>by
   have:=aW (m+1) s (by simpa using hm)
   rwa [show i+(m+1)=i+1+m by omega] at this
  obtain⟨l1,es,⟨he,rl⟩,l2,cB⟩:=ih (i+1) x zt hx;have h0:=aW 0 s rfl;simp only[qL] at h0;split at hr
  ·rename_i t;cases du:t.one<;>simp only[du,cond_true,cond_false] at hr
   ·cases hr
   ·cases hr;have eI:Rep C.cap σ t (cs.getD i undef) (ds.getD i .none):=h0;refine⟨by simp[l1],ds.getD i .none::es,⟨?_,by simp only[PE.evs,PE.ev,hd,D.c,D.cells,rl]⟩,by simp[l2],fun m t' hm=>?_⟩
    ·simp only[PE.evc,PE.ev,hd,D.c,D.cells,he];have:=eI.dcells du;simp only[D.cells] at this;rw[this];rfl
    ·cases m with
     |zero=>simp at hm;subst hm;exact⟨du,eI⟩
     |succ m=>simp at hm;have:=cB m t' hm;rwa [show i+1+m=i+(m+1) by omega] at this
  ·rename_i j' ver;cases hb:Nat.beq ver (S.ver j')<;>simp only[hb,cond_true,cond_false] at hr
   ·cases hr
   ·have fq:=aG hb;split at hr
    ·rename_i t eo;cases hr;have ho:=h.objs j';rw[eo] at ho;have eI:cs.getD i undef=hv j':=h0.2 fq;refine⟨by simp[l1],ρ.o j'::es,⟨?_,by simp only[PE.evs,PE.ev,rl]⟩,by simp[l2],fun m t' hm=>?_⟩
     ·simp only[PE.evc,PE.ev,he];rw[ho.2.dcells ho.1];rfl
     ·cases m with
      |zero=>simp at hm;subst hm;exact⟨ho.1,by rw[qL,eI];exact ho.2⟩
      |succ m=>simp at hm;have:=cB m t' hm;rwa [show i+1+m=i+(m+1) by omega] at this
    ·cases hr
  ·cases hr
theorem Ni {w:World}{k:Nat}{cs:Array Value}{T:TypeId}{fr:Nat×Nat}(hb:w.heap[k]?=some (.cells cs T fr)){i:Nat}(hi:i<cs.size):w.cell? ⟨k,i,none⟩=some (cs.getD i undef):=by
 simp[World.cell?,hb,gA,jo hi]
theorem zl (cs:Array Value)(i:Nat):cs.toList.getD i undef=cs.getD i undef:=by
 simp[be,gA]
theorem JR (h:Inv C S ρ σ own hv w0 σ0 A a w)(hC:CtxOK C σ0)(hg:holds gs ρ=true){T:TypeId}{x:Operand}{r:Sh×List PI}(hr:DH C S gs dst T x=some r){o:Oper}(ho:o.op=.load T x):
 ed C S ρ σ hv Φ dst a w o r:=by
 unfold DH at hr;split at hr
 case h_2=>cases hr
 rename_i inf ag hi ha;have eK:aT C S ρ σ hv (jQ S gs x) (a.eval x) ((uo x).ev ρ):=by
  cases x with
  |tmp t=>exact(sr h hg t).1
  |_=>trivial
 split at hr
 ·
  rename_i j ver off es;rw[es] at eK;cases hb:Nat.beq ver (S.ver j)<;>simp only[hb,cond_true,cond_false] at hr
  ·cases hr
  have fq:=aG hb;obtain⟨k,eL,fH⟩:=eK.2 fq;have bC:=h.objs j;split at hr
  ·rename_i bag aJ eo;rw[eo] at bC;obtain⟨k',cs,T',ds,h1,h2,h3,h4,h5,h6,h7⟩:=bC;rw[eL] at h1;cases h1;cases ag with
   |true=>
    simp only[cond_true] at hr;cases hle:Nat.ble (off+inf.size) aJ.length<;>simp only[hle,cond_true,cond_false] at hr
    ·cases hr
    have IS:=kZ hle;simp only[aK] at hr;obtain⟨p,hp,rfl⟩:=hr
    obtain⟨l1,es,⟨he,_⟩,l2,cB⟩:=Xf h (cs:=cs.toList) h5 _ off p (fun m s hm=>by
     simp only[gB,gT] at hm;split at hm
     ·have:=(h7 (off+m) s hm).2;rw[zl];exact this
     ·cases hm) hp
    have hlen:((aJ.drop off).take inf.size).length=inf.size:=by simp;omega
    refine .dat (v:=rowOf true ((cs.toList.drop off).take inf.size)) (uu ho fH (K0 hi ha (by simp;omega) (fun e=>by cases e) (fun m u hu=>?_))) ?_
    ·simp only[gB,gT] at hu;split at hu
     ·rename_i hm;have:=Ni h3 (i:=off+m) (by omega);rw[this,←zl];exact congrArg some (rf hu)
     ·cases hu
    ·simp only[PE.ev,rowOf,if_true,he];refine .agg _ _ _ (by simp;omega) (by omega) (fun m t hm=>?_) (fun m t hm=>(cB m t hm).1);have oD:m<inf.size:=by have:=(iu.1 hm).1;omega
     have:=(cB m t hm).2;simpa [be,gB,gT,oD] using this
   |false=>
    simp only[cond_false] at hr;split at hr
    ·rename_i ty hs;cases du:ty.one<;>simp only[du,cond_true,cond_false] at hr
     ·cases hr
     cases hr;have ox:=(h7 off _ hs).2;have aq:off<aJ.length:=(iu.1 hs).1;have vJ:(loadVar T ⟨k,off,none⟩).run C.P w=.ok (cs.getD off undef) w:=by
      simp[loadVar,tM ha,run_load,Ni h3 (i:=off) (by omega)]
     refine .dat (v:=cs.getD off undef) (uu ho fH vJ) ?_;simp only[PE.ev,h5,D.c,D.cells];exact ox
    ·rename_i j' qz hs;cases hr;have ox:=(h7 off _ hs).2;have aq:off<aJ.length:=(iu.1 hs).1;have vJ:(loadVar T ⟨k,off,none⟩).run C.P w=.ok (cs.getD off undef) w:=by
      simp[loadVar,tM ha,run_load,Ni h3 (i:=off) (by omega)]
     intro ρ' ax;exact⟨_,_,xg ax,uu ho fH vJ,ox,fun _ _ e=>by cases e⟩
    ·cases hr
  ·rename_i ts eo;rw[eo] at bC;obtain⟨k',v,h1,h2,h3⟩:=bC;rw[eL] at h1;cases h1;simp only[aK] at hr;obtain⟨ty,bn,rfl⟩:=hr;obtain⟨vs,ds,rfl,hd,l1,l2,aW,du⟩:=h2.agg_inv;obtain⟨cB,hlen,oE⟩:=JX bn l1 l2 aW du;refine .dat (uu ho fH (K0 hi ha hlen (fun e=>by rw[hlen];exact oE e) (fun m u hu=>h.cell ?_))) (by rw[JW (e:=.o j) hd];exact cB);simp only[gB,gT] at hu;split at hu
   ·exact h3 (off+m) u (by simpa [Value.cells] using hu)
   ·cases hu
  ·rename_i ty aC eo;rw[eo] at bC;obtain⟨k',v,h1,h2,h3⟩:=bC;rw[eL] at h1;cases h1;cases hc:(!ag&&ty.one&&Nat.beq off 0)<;>simp only[hc,cond_true,cond_false] at hr
   ·cases hr
   cases hr;simp only[ay,kh] at hc;have iI:=aG hc.2;subst iI;have vJ:(loadVar T ⟨k,0,none⟩).run C.P w=.ok v w:=by
        have:=h.cell (h3 0 v (by simp[(h2.oneCell hc.1.2).1]));rw[hc.1.1] at ha;simp[loadVar,tM ha,run_load,this]
   exact .dat (uu ho fH vJ) h2
  ·cases hr
 ·
  rename_i j ver size off es;rw[es] at eK;cases hb:Nat.beq ver (S.ver j)<;>simp only[hb,cond_true,cond_false] at hr
  ·cases hr
  have fq:=aG hb;obtain⟨k,n,c,ik,i,eL,td,cf,fH⟩:=eK.2 fq;have bC:=h.objs j;split at hr
  ·rename_i T' ts eo;rw[eo] at bC;obtain⟨cells,xs,h1,h2,⟨vs,h3,h4⟩,h5⟩:=bC;cases bh:Nat.beq size ts.length<;>simp only[bh,cond_true,cond_false] at hr
   ·cases hr
   have tG:=aG bh;simp only[aK] at hr;obtain⟨ty,bn,rfl⟩:=hr;rw[eL] at h2;have bD:=h2.cells (g:=k) rfl;obtain⟨b,c',e1,vL,vM⟩:=wJ h2;cases e1;obtain⟨y,hy⟩:∃y,xs[i]?=some y:=⟨_,bW cf⟩
   have I4:=h3 i y hy;obtain⟨us,ds,zZ,hd,l1,l2,aW,du⟩:=I4.agg_inv;obtain⟨cB,hlen,oE⟩:=JX bn l1 l2 aW du;have al8:(PE.nth (.o j) (uo x)).ev ρ=.agg ds:=by
        simp only[PE.ev,h1,D.l_list,td,D.i_int,uQ];rw[rf hy,hd]
   refine .dat (uu ho fH (K0 hi ha hlen (fun e=>by rw[hlen];exact oE e) (fun m u hu=>?_))) (by rw[JW al8];exact cB);simp only[gB,gT] at hu;split at hu
   ·have:=h4 i (off+m) u (by omega) (by rw[zZ];simpa [Value.cells] using hu);have:=bD _ _ this;rw[sN] at this;simpa [Ty.size,tG,FO] using this
   ·cases hu
  ·rename_i T' e aC eo;rw[eo] at bC;obtain⟨cells,xs,h1,h2,⟨vs,h3,h4⟩,h5⟩:=bC;cases hc:(!ag&&e.one&&Nat.beq off 0&&Nat.beq size 1)<;>simp only[hc,cond_true,cond_false] at hr
   ·cases hr
   cases hr;simp only[ay,kh] at hc;have iI:=aG hc.1.2;have bh:=aG hc.2;subst iI;subst bh;rw[eL] at h2;have bD:=h2.cells (g:=k) rfl;obtain⟨b,c',e1,vL,vM⟩:=wJ h2;cases e1;obtain⟨y,hy⟩:∃y,xs[i]?=some y:=⟨_,bW cf⟩
   have I4:=h3 i y hy;have vJ:(loadVar T ⟨k,i*1+0,none⟩).run C.P w=.ok (vs i) w:=by
        have h6:=h4 i 0 (vs i) cf (by simp[(I4.oneCell hc.1.1.2).1]);have:=bD _ _ h6;rw[sN] at this;have CJ:e.size=1:=by cases e<;>simp_all [Ty.size,Ty.one]
        rw[hc.1.1.1] at ha;rw[CJ] at this;simp only[lV,qL,Nat.mul_one] at this;simp[loadVar,tM ha,run_load,this]
   refine .dat (uu ho fH vJ) ?_;simp only[PE.ev,h1,D.l_list,td,D.i_int,uQ];rw[rf hy];exact I4
  ·cases hr
 ·simp only[aB] at hr;obtain⟨p,hp,hr⟩:=hr;have aU:=cv h hC hg hp;split at hr
  ·rename_i ty e1;rw[e1] at aU;cases hc:(Nat.beq inf.size ty.size&&(ag==ty.rowT))<;>simp only[hc,cond_true,cond_false] at hr
   ·cases hr
   cases hr;simp only[ay] at hc;exact aqa h hi ha ho aU hc.1 hc.2
  ·cases hr
end
end Cx
namespace Cx
open Go Go.RowKit
section
variable {C:Ctx} {S:St} {ρ:Env} {σ:Im} {own:Nat→Option Nat} {hv:Nat→Value} {w0:World} {σ0:Base} {A:Nat→Prop} {a:Act} {w:World} {gs:List (Nat×Bool)} {Φ:aR} {dst:Nat}
theorem xl (h:Inv C S ρ σ own hv w0 σ0 A a w)(hg:holds gs ρ=true)(x:Operand):aT C S ρ σ hv (jQ S gs x) (a.eval x) ((uo x).ev ρ)∧∀bT s,jQ S gs x≠.opt bT s:=by
 cases x with
 |tmp t=>exact sr h hg t
 |_=>exact⟨trivial,fun _ _ e=>by cases e⟩
theorem XW {P:Program}{T:TypeId}{i:Nat}{f:Field}(h:Cp P T i=some f):∃fs,P.underlying T=some (.struct fs)∧fs[i]?=some f:=by
 unfold Cp at h;split at h
 ·rename_i fs hu;exact⟨fs,hu,h⟩
 ·cases h
theorem SZ {o:Oper}{T:TypeId}{x:Operand}{i:Nat}{f:Field}{inf:TypeInfo}{k off:Nat}(ho:o.op=.fieldAddr T x i)(hf:Cp C.P T i=some f)(hi:C.P.info? f.type=some inf)(hn:Nat.beq inf.size 0=false)
 (hx:a.eval x=.pointer (some ⟨k,off,none⟩)):(execOp a.eval o).run C.P w=.ok (.value (.pointer (some ⟨k,off+f.offset,none⟩))) w:=by
 obtain⟨fs,hu,vF⟩:=XW hf;have iz:inf.size≠0:=by intro e;simp[e] at hn
 simp[execOp,ho,Instr.fieldAt,run_underlying hu,vF,hx,Instr.sureAddr,fieldPlace,Go.sizeOf,run_typeInfo w hi,iz,sN]
theorem ap4 (h:Inv C S ρ σ own hv w0 σ0 A a w)(hC:CtxOK C σ0)(hg:holds gs ρ=true){T:TypeId}{x:Operand}{i:Nat}{r:Sh×List PI}(hr:QJ C S gs dst T x i=some r){o:Oper}(ho:o.op=.fieldAddr T x i):
 ed C S ρ σ hv Φ dst a w o r:=by
 simp only[QJ,aB] at hr;obtain⟨f,hf,hr⟩:=hr;obtain⟨eK,eT⟩:=xl h hg x;split at hr
 case h_2=>cases hr
 rename_i inf ag hi ha;cases hn:Nat.beq inf.size 0<;>simp only[hn,cond_true,cond_false] at hr
 case true=>cases hr
 split at hr
 ·rename_i j ver size off es;cases hb:Nat.beq ver (S.ver j)<;>simp only[hb,cond_true,cond_false] at hr
  ·cases hr
  cases hr;rw[es] at eK;intro ρ' ax;obtain⟨k,n,c,ik,idx,eL,td,cf,fH⟩:=eK.2 (aG hb);exact⟨_,_,xg ax,SZ ho hf hi hn fH,⟨eK.1,fun _=>⟨k,n,c,ik,idx,eL,td,cf,by rw[FO]⟩⟩,fun _ _ e=>by cases e⟩
 ·split at hr
  ·rename_i ts e hu;have aU:=cv h hC hg hu;simp only[aK] at hr;obtain⟨ty,bn,rfl⟩:=hr;obtain⟨k,off,v,y,bF,bB,cB,j0⟩:=Rep.ref_inv aU;obtain⟨vs,ds,rfl,rfl,l1,l2,aW,du⟩:=cB.agg_inv;obtain⟨pS,hlen,oE⟩:=JX bn l1 l2 aW du;refine .dat (SZ ho hf hi hn bF) ?_;have IE:(PE.deref e).ev ρ=.agg ds:=by simp only[PE.ev,bB,D.deref]
   simp only[PE.ev];rw[JW IE];refine .ref ty k (off+f.offset) _ _ pS (fun j u hu=>?_);have j5:((vs.drop f.offset).take inf.size)[j]?=some u:=by
        cases ag with
        |true=>simpa [rowOf,Value.cells] using hu
        |false=>
         have:=oE rfl;rw[this] at hlen ⊢;obtain⟨q,hq⟩:∃q,(vs.drop f.offset).take 1=[q]:=by
          match(vs.drop f.offset).take 1,hlen with
          |[q],_=>exact⟨q,rfl⟩
         rw[this] at pS hu;rw[hq] at pS hu ⊢;simp only[rowOf,uS] at pS hu;have tB:ty.rowT=false:=by
          unfold tX at bn;cases hle:Nat.ble (f.offset+inf.size) ts.length<;>simp only[hle,cond_true,cond_false] at bn
          ·cases bn
          ·cases hb:Nat.beq inf.size 1<;>simp only[hb,cond_true,cond_false] at bn
           ·cases bn
           ·have:=du _ _ bn;cases ty<;>simp_all [Ty.one,Ty.rowT]
         rw[pS.cells1 tB] at hu;simpa using hu
   simp only[gB,gT] at j5;split at j5
   ·have:=j0 (f.offset+j) u (by simpa [Value.cells] using j5)
    rwa [←FO] at this
   ·cases j5
  ·split at hr
   ·rename_i j ver off es;cases hb:Nat.beq ver (S.ver j)<;>simp only[hb,cond_true,cond_false] at hr
    ·cases hr
    cases hr;rw[es] at eK;intro ρ' ax;obtain⟨k,eL,fH⟩:=eK.2 (aG hb);exact⟨_,_,xg ax,SZ ho hf hi hn fH,⟨eK.1,fun _=>⟨k,eL,rfl⟩⟩,fun _ _ e=>by cases e⟩
   ·cases hr
theorem ap5 (h:Inv C S ρ σ own hv w0 σ0 A a w)(hC:CtxOK C σ0)(hg:holds gs ρ=true){T:TypeId}{x:Operand}{i:Nat}{r:Sh×List PI}(hr:QI C S gs dst T x i=some r){o:Oper}(ho:o.op=.field T x i):
 ed C S ρ σ hv Φ dst a w o r:=by
 simp only[QI,aB] at hr;obtain⟨f,hf,hr⟩:=hr;split at hr
 case h_2=>cases hr
 rename_i inf ag hi ha;split at hr
 case h_2=>cases hr
 rename_i ts e hu;have aU:=cv h hC hg hu;simp only[aK] at hr;obtain⟨ty,bn,rfl⟩:=hr;obtain⟨vs,ds,bF,bB,l1,l2,aW,du⟩:=Rep.agg_inv aU;obtain⟨pS,hlen,oE⟩:=JX bn l1 l2 aW du;obtain⟨fs,j5,vF⟩:=XW hf;have hle:f.offset+inf.size≤ts.length:=by
  unfold tX at bn;cases hle:Nat.ble (f.offset+inf.size) ts.length<;>simp only[hle,cond_true,cond_false] at bn
  ·cases bn
  ·exact kZ hle
 refine .dat (v:=rowOf ag ((vs.drop f.offset).take inf.size)) ?_ (by rw[JW bB];exact pS);cases ag with
 |true=>
  simp only[execOp,ho,Instr.field,bF,asAgg,part];simp[run_underlying j5,vF,tM ha,Go.sizeOf,run_typeInfo w hi,rowOf]
 |false=>
  have hn:=oE rfl;have aq:f.offset<vs.length:=by omega
  simp only[execOp,ho,Instr.field,bF,asAgg,part];simp[run_underlying j5,vF,tM ha,rowOf,hn,bW aq,be,gB,gT]
theorem aeN {o:Oper}{T e:TypeId}{x i:Operand}{inf:TypeInfo}{k off n c idx:Nat}{ik:IntKind}(ho:o.op=.indexAddr T x i)(hT:C.P.underlying T=some (.slice e))(hi:C.P.info? e=some inf)
 (hx:a.eval x=.slice (some ⟨k,off,none⟩) n c) (alu:a.eval i=.int ik idx) (aq:idx<n):(execOp a.eval o).run C.P w=.ok (.value (.pointer (some ⟨k,off+idx*inf.size,none⟩))) w:=by
 simp[execOp,ho,Instr.indexAt,run_underlying hT,hx,alu,asIntOf,aq,Go.sizeOf,run_typeInfo w hi,sN]
theorem K7 {P:Program}{T:TypeId}{t:Ty}(h:qs P T t=true):∃inf,P.info? T=some inf∧inf.size=t.size:=by
 unfold qs at h;split at h
 ·rename_i i hi;exact⟨i,hi,aG h⟩
 ·cases h
theorem ap7 (h:Inv C S ρ σ own hv w0 σ0 A a w)(hC:CtxOK C σ0)(hg:holds gs ρ=true){T:TypeId}{x i:Operand}{r:Sh×List PI}(hr:QM C S gs dst T x i=some r){o:Oper}(ho:o.op=.indexAddr T x i):
 ed C S ρ σ hv Φ dst a w o r:=by
 unfold QM at hr;split at hr
 case h_2=>cases hr
 rename_i e hT;simp only[aB] at hr;obtain⟨p,hp,hr⟩:=hr;have aU:=cv h hC hg hp;split at hr
 case h_2=>cases hr
 rename_i ik e1;rw[e1] at aU;obtain⟨idx,bF,bB,b1,b2⟩:=aU.int_inv;split at hr
 ·rename_i t pe hu;have db:=cv h hC hg hu;cases bh:qs C.P e t<;>simp only[bh,cond_true,cond_false] at hr
  ·cases hr
  cases hr;obtain⟨inf,hi,hs⟩:=K7 bh;obtain⟨xs,hd,zy⟩:=Rep.slice_inv db;refine .datc hg fun hc=>?_;simp only[PE.ev,hd,bB,D.l_list,D.i_int,D.b_bool,decide_eq_true_eq] at hc;rcases zy with⟨_,rfl⟩|⟨k,off,c,tH,h1,h2,vs,h3,h4⟩
  ·simp at hc;omega
  ·obtain⟨m,rfl⟩:=mT hc.1;have aq:m<xs.length:=by omega
   refine⟨_,aeN ho hT hi tH bF aq,?_⟩;obtain⟨y,hy⟩:∃y,xs[m]?=some y:=⟨_,bW aq⟩
   simp only[PE.ev,hd,bB,D.l_list,D.i_int,uQ,rf hy];exact .ref t.unf k _ (vs m) y (h3 m y hy) (fun j u hu=>by rw[hs];exact h4 m j u aq hu)
 ·cases hr
 ·obtain⟨eK,eT⟩:=xl h hg x;split at hr
  ·rename_i j ver es;rw[es] at eK;cases hb:Nat.beq ver (S.ver j)<;>simp only[hb,cond_true,cond_false] at hr
   ·cases hr
   have fq:=aG hb;have bC:=h.objs j;have cT:=eK.2 fq;split at hr
   ·rename_i T' t eo;rw[eo] at bC;cases bh:qs C.P e t<;>simp only[bh,cond_true,cond_false] at hr
    ·cases hr
    cases hr;obtain⟨inf,hi,hs⟩:=K7 bh;obtain⟨cells,xs,h1,h2,⟨vs,h3,h4⟩,h5⟩:=bC;intro ρ' ax;obtain⟨hc,hρ⟩:=S4 hg ax;simp only[PE.ev,h1,bB,D.l_list,D.i_int,D.b_bool,decide_eq_true_eq] at hc;obtain⟨m,rfl⟩:=mT hc.1;have aq:m<xs.length:=by omega
    rcases h2.2 with⟨_,e0⟩|⟨g,cap,cur,eL,_⟩
    ·omega
    ·refine⟨_,_,hρ,aeN ho hT hi (cT.trans eL) bF aq,⟨by omega,fun _=>⟨g,xs.length,cap,ik,m,eL,bB,aq,?_⟩⟩,fun _ _ e=>by cases e⟩;rw[hs];simp
   ·cases hr
  ·cases hr
theorem ap8 (h:Inv C S ρ σ own hv w0 σ0 A a w)(hC:CtxOK C σ0)(hg:holds gs ρ=true){T:TypeId}{x i:Operand}{r:Sh×List PI}(hr:QL C S gs dst T x i=some r){o:Oper}(ho:o.op=.index T x i):
 ed C S ρ σ hv Φ dst a w o r:=by
 unfold QL at hr;split at hr
 case h_2=>cases hr
 rename_i hT;simp only[aB] at hr;obtain⟨p,hp,q,hq,hr⟩:=hr;have aU:=cv h hC hg hp;have dv:=cv h hC hg hq;split at hr
 case h_2=>cases hr
 rename_i ik e1 e2;rw[e1] at aU;rw[e2] at dv;obtain⟨idx,bF,bB,b1,b2⟩:=aU.int_inv;obtain⟨s,gL,dC,_⟩:=dv.str_inv;cases hr;refine .datc hg fun hc=>?_;simp only[PE.ev,dC,bB,D.s_str,D.i_int,D.b_bool,decide_eq_true_eq] at hc;obtain⟨m,rfl⟩:=mT hc.1;have aq:m<s.size:=by omega
 refine⟨.int .u8 (s.data.getD m 0).toNat,?_,?_⟩
 ·have:s[m]?=some (s.data.getD m 0):=by
   rw[getElem?_pos s m aq];simp[ByteArray.getElem_eq_getElem_data,gA,jo (show m<s.data.size from aq)]
  simp[execOp,ho,Instr.index,run_underlying hT,bF,gL,asIntOf,this]
 ·simp only[PE.ev,dC,bB,D.s_str,D.i_int,uQ];refine .int _ _ ?_ ?_
  ·simp only[IntKind.min,IntKind.signed];simp
  ·simp only[IntKind.max,IntKind.signed,IntKind.bits];have:=UInt8.toNat_lt (s.data.getD m 0);simp at this ⊢;omega
end
end Cx
namespace Cx
open Go Go.RowKit
section
variable {C:Ctx} {S:St} {ρ:Env} {σ:Im} {own:Nat→Option Nat} {hv:Nat→Value} {w0:World} {σ0:Base} {A:Nat→Prop} {a:Act} {w:World} {gs:List (Nat×Bool)} {Φ:aR} {dst:Nat}
theorem awl (h:Inv C S ρ σ own hv w0 σ0 A a w)(hC:CtxOK C σ0)(hg:holds gs ρ=true){lo:Option Operand}{l:Ty×PE}{k:IntKind}(hl:Wh C S gs lo=some l)(hk:l.1=.int k):
 ∃n,l.2.ev ρ=.v (.int k n)∧((lo=none∧n=0)∨∃x,lo=some x∧a.eval x=.int k n):=by
 cases lo with
 |none=>simp[Wh] at hl;subst hl;simp at hk;subst hk;exact⟨0,rfl,.inl ⟨rfl,rfl⟩⟩
 |some x=>
  have:=cv h hC hg hl;rw[hk] at this;obtain⟨n,h1,h2,_⟩:=this.int_inv;exact⟨n,h2,.inr ⟨x,rfl,h1⟩⟩
theorem awk (h:Inv C S ρ σ own hv w0 σ0 A a w)(hC:CtxOK C σ0)(hg:holds gs ρ=true){e:PE}{hi:Option Operand}{l:Ty×PE}{k:IntKind}(hl:Wg C S gs e hi=some l)(hk:l.1=.int k):
 ∃n,l.2.ev ρ=.v (.int k n)∧((hi=none∧n=(e.ev ρ).l.length)∨∃x,hi=some x∧a.eval x=.int k n):=by
 cases hi with
 |none=>simp[Wg] at hl;subst hl;simp at hk;subst hk;exact⟨_,rfl,.inl ⟨rfl,rfl⟩⟩
 |some x=>
  have:=cv h hC hg hl;rw[hk] at this;obtain⟨n,h1,h2,_⟩:=this.int_inv;exact⟨n,h2,.inr ⟨x,rfl,h1⟩⟩
theorem run_sliceBound {P:Program}{x:Value}{y i:Nat}{k:IntKind}{code:BoundsCode}{w:World}(hx:x=.int k i)(h:i≤y):(Instr.sliceBound x y code).run P w=.ok i w:=by
 subst hx;simp[Instr.sliceBound,asIntOf,h]
theorem aqf (h:Inv C S ρ σ own hv w0 σ0 A a w)(hC:CtxOK C σ0)(hg:holds gs ρ=true){T:TypeId}{x:Operand}{lo hi mx:Option Operand}{r:Sh×List PI}(hr:QR C S gs dst T x lo hi mx=some r){o:Oper}(ho:o.op=.slice T x lo hi mx):
 ed C S ρ σ hv Φ dst a w o r:=by
 unfold QR at hr;split at hr
 case h_3=>cases hr
 case h_2=>
  rename_i n e hT;split at hr
  case h_2=>cases hr
  simp only[aB] at hr;obtain⟨p,hp,hr⟩:=hr;have aU:=cv h hC hg hp;split at hr
  case h_2=>cases hr
  rename_i t ts e1;cases hc:(Nat.beq n (ts.length+1)&&ts.all (Ty.beq t)&&t.one&&qs C.P e t&&Nat.ble n maxLen)<;>simp only[hc,cond_true,cond_false] at hr
  ·cases hr
  cases hr;simp only[ay] at hc;obtain⟨⟨⟨⟨c1,c2⟩,c3⟩,c4⟩,c5⟩:=hc;have hn:=aG c1;have hm:=kZ c5;obtain⟨inf,nf,hs⟩:=K7 c4;rw[e1] at aU;obtain⟨k,off,x0,y,tH,hd,hr0,j0⟩:=aU.ref_inv;obtain⟨vs,ds,rfl,rfl,l1,l2,iy,_⟩:=hr0.agg_inv
  have aW:∀(i:Nat),i<n→(t::ts)[i]?=some t:=fun i hi=>by
   cases i with
   |zero=>rfl
   |succ i=>
    have aq:i<ts.length:=by omega
    rw[WC,bW aq];rw[Ty.beq_eq _ _ (eQ.1 c2 _ (cq aq))]
  have Oy:vs.length=n:=by rw[l1,hn];rfl
  have Ze:ds.length=n:=by rw[l2,hn];rfl
  have du:t.size=1:=by cases t<;>simp_all [Ty.one,Ty.size]
  refine ed.dat (v:=.slice (some ⟨k,off,none⟩) n n) ?_ ?_
  ·have:Addr.add ⟨k,off,none⟩ 0=⟨k,off,none⟩:=by simp[Addr.add]
   simp[execOp,ho,Instr.sliceAt,run_underlying hT,tH,Instr.sureAddr,Instr.sliceBounds,Go.sizeOf,run_typeInfo w nf,this]
  ·have alQ:(PE.lst ((List.range n).map fun i=>.cell (.deref p.2) i)).ev ρ=.list ds:=by
        simp only[PE.ev]
        congr 1
        have bU:∀l:List PE,PE.evs ρ l=l.map fun e=>e.ev ρ:=fun l=>by induction l with|nil=>rfl|cons e l ih=>simp[PE.evs,ih]
        rw[bU,LZ];apply WA;intro i;rw[dm];by_cases hi:i<n
        ·rw[pw hi,bW (by omega)];simp only[kj,Function.comp,PE.ev,hd,D.deref,D.c,D.cells];rw[be,bW (by omega)];rfl
        ·rw[qI (by simp;omega),qI (by omega)];rfl
   rw[alQ];refine .slice t k off n n ds (fun i=>vs.getD i undef) Ze (bJ _) hm (fun i x hx=>?_) (fun i j u hi hu=>?_)
   ·have aq:i<n:=by rw[←Ze];exact(iu.1 hx).1
    have:=iy i t (aW i aq);rw[rf hx] at this;exact this.unf
   ·have h1:=(iy i t (aW i hi)).oneCell c3;rw[h1.1] at hu;cases j with
    |zero=>
     simp at hu;have:=j0 i (vs.getD i undef) (by
      simp only[Value.cells];rw[FK,bW (by omega),be,bW (by omega)];rfl)
     rw[du,←hu];simpa using this
    |succ j=>simp at hu
 rename_i e hT;simp only[aB] at hr;obtain⟨p,hp,hr⟩:=hr;have aU:=cv h hC hg hp;split at hr
 case h_2=>cases hr
 rename_i t e1;rw[e1] at aU;simp only[aB] at hr;obtain⟨l,hl,u,hu,hr⟩:=hr;split at hr
 case h_2=>cases hr
 rename_i k1 k2 e2 e3;cases bh:qs C.P e t<;>simp only[bh,cond_true,cond_false] at hr
 ·cases hr
 cases hr;obtain⟨inf,nf,hs⟩:=K7 bh;obtain⟨n1,bB,vI⟩:=awl h hC hg hl e2;obtain⟨n2,dC,On⟩:=awk h hC hg hu e3;obtain⟨xs,hd,zy⟩:=Rep.slice_inv aU;refine .datc hg fun hc=>?_;simp only[PE.ev,hd,bB,dC,D.l_list,D.i_int,D.b_bool,decide_eq_true_eq] at hc;obtain⟨m1,rfl⟩:=mT hc.1;obtain⟨m2,rfl⟩:=mT (show 0≤n2 by omega);have ln:m1≤m2:=by omega
 have h2l:m2≤xs.length:=by omega
 have YB:∀c,xs.length≤c→(Instr.sliceBounds true xs.length c (lo.map a.eval) (hi.map a.eval) none).run C.P w=.ok (m1,m2,c) w:=by
  intro c hZ
  have hh:∀code,(match hi.map a.eval with|some v=>Instr.sliceBound v c code|none=>(pure xs.length:Sem Nat)).run C.P w=.ok m2 w:=by
   intro code;rcases On with⟨rfl,e⟩|⟨y,rfl,e⟩
   ·rw[hd,D.l_list] at e;simp;omega
   ·simp only[kj];exact run_sliceBound e (by omega)
  have Ox:∀code,(match lo.map a.eval with|some v=>Instr.sliceBound v m2 code|none=>(pure 0:Sem Nat)).run C.P w=.ok m1 w:=by
   intro code;rcases vI with⟨rfl,e⟩|⟨y,rfl,e⟩
   ·simp;omega
   ·simp only[kj];exact run_sliceBound e ln
  have zG:=hh .sliceAcap;have Zf:=Ox .sliceB;unfold Instr.sliceBounds;cases hi<;>cases lo<;>simp at zG Zf ⊢<;>simp[zG,Zf]
 rcases zy with⟨⟨p0,tH⟩,rfl⟩|⟨k,off,c,tH,h1,h2,vs,h3,h4⟩
 ·have:m2=0:=by simpa using h2l
  have:m1=0:=by omega
  subst_vars
  refine⟨.slice p0 0 0,?_,?_⟩
  ·have hb:=YB 0 (bJ _);simp only[qK] at hb;cases p0 with
   |none=>simp[execOp,ho,Instr.sliceAt,Instr.slice,run_underlying hT,tH,hb,Go.sizeOf,run_typeInfo w nf]
   |some a0=>simp[execOp,ho,Instr.sliceAt,Instr.slice,run_underlying hT,tH,hb,Go.sizeOf,run_typeInfo w nf]
  ·simp only[PE.ev,hd,bB,dC,D.l_list,D.i_int];cases p0 with
   |none=>exact .nil t
   |some a0=>exact .emp t a0
 ·refine⟨.slice (some (if c=m1 then⟨k,off,none⟩ else⟨k,off+m1*inf.size,none⟩)) (m2-m1) (c-m1),?_,?_⟩
  ·have hb:=YB c h1;simp only[execOp,ho,Option.map_none,Instr.sliceAt,run_underlying hT,tH];simp[run_underlying hT,Instr.slice,hb,Go.sizeOf,run_typeInfo w nf,sN];split<;>simp
  ·simp only[PE.ev,hd,bB,dC,D.l_list,D.i_int,uQ];have hlen:((xs.take m2).drop m1).length=m2-m1:=by simp;omega
   have iy:∀(i:Nat) (y:D),((xs.take m2).drop m1)[i]?=some y→xs[m1+i]?=some y:=by
        intro i y hy;simp only[gT,gB] at hy;split at hy
        ·exact hy
        ·cases hy
   have j0:∀(i j:Nat) (v:Value),i<m2-m1→(vs (m1+i)).cells[j]?=some v→σ.c k (off+m1*inf.size+i*t.size+j)=some v:=by
        intro i j v hi hj;have:=h4 (m1+i) j v (by omega) hj;rw[nT] at this;rw[hs]
        rwa [←FO] at this
   split
   ·rename_i ku;refine .slice t k off (m2-m1) (c-m1) _ (fun i=>vs (m1+i)) hlen (by omega) (by omega) (fun i y hy=>h3 _ _ (iy i y hy)) (fun i j v hi hj=>by omega)
   ·exact .slice t k (off+m1*inf.size) (m2-m1) (c-m1) _ (fun i=>vs (m1+i)) hlen (by omega) (by omega) (fun i y hy=>h3 _ _ (iy i y hy)) j0
theorem afR (h:Inv C S ρ σ own hv w0 σ0 A a w)(hC:CtxOK C σ0)(hg:holds gs ρ=true):∀(xs:List Operand) (r:List Ty×List PE),qy C S gs xs=some r→
 r.1.length=xs.length∧r.2.length=xs.length∧∀(i:Nat) (t:Ty),r.1[i]?=some t→Rep C.cap σ t ((xs.map a.eval).getD i undef) ((PE.evs ρ r.2).getD i .none):=by
 intro xs
 induction xs with
 |nil=>intro r hr;simp[qy] at hr;subst hr;exact⟨rfl,rfl,by simp⟩
 |cons x xs ih=>
  intro r hr;simp only[qy,aB,aK] at hr;obtain⟨p,hp,q,hq,rfl⟩:=hr;obtain⟨l1,l2,aW⟩:=ih q hq;refine⟨by simp[l1],by simp[l2],fun i t hi=>?_⟩;cases i with
  |zero=>simp at hi;subst hi;simpa [PE.evs] using cv h hC hg hp
  |succ i=>simp at hi;simpa [PE.evs] using aW i t hi
theorem ap6 (h:Inv C S ρ σ own hv w0 σ0 A a w)(hC:CtxOK C σ0)(hg:holds gs ρ=true){fn:Fn}{first caps:Array Operand}{r:Sh×List PI}(hr:QK C S gs dst fn first caps=some r){o:Oper}(ho:o.op=.makeFunc fn first caps):
 ed C S ρ σ hv Φ dst a w o r:=by
 unfold QK at hr;split at hr
 case h_2=>cases hr
 rename_i f ald;have hf0:first=#[]:=by simpa using ald
 subst hf0;simp only[aB] at hr;obtain⟨cs,je,p,hp,hr⟩:=hr;cases hb:Ty.subs p.1 cs.caps<;>simp only[hb,cond_true,cond_false] at hr
 ·cases hr
 cases hr;obtain⟨l1,l2,aW⟩:=afR h hC hg _ _ hp;have hl:=Ty.subs_len _ _ hb;refine .dat (v:=.func (.func f) #[] (caps.map a.eval)) ?_ ?_
 ·simp[execOp,ho,Instr.makeFunc]
 ·simp only[PE.ev];have:caps.map a.eval=(caps.toList.map a.eval).toArray:=by apply LJ;rw[FF]
  rw[this];have e1:(caps.toList.map a.eval).length=cs.caps.length:=by rw[mV];omega
  have e2:(PE.evs ρ p.2).length=cs.caps.length:=by rw[PE.evs_eq,mV];omega
  refine .fn f cs _ _ je e1 e2 (fun i t hi=>?_);obtain⟨s,hs,da⟩:=Ty.subs_get _ _ hb i t hi;exact(aW i s hs).sub da
theorem aqc (h:Inv C S ρ σ own hv w0 σ0 A a w)(hC:CtxOK C σ0)(hg:holds gs ρ=true){x:Operand}{r:Sh×List PI}(hr:QP C S gs dst x=some r){o:Oper}(ho:o.op=.nilCheck x):
 ed C S ρ σ hv Φ dst a w o r:=by
 have ax:∀k off,a.eval x=.pointer (some ⟨k,off,none⟩)→(execOp a.eval o).run C.P w=.ok (.value (a.eval x)) w:=by
  intro k off e;simp[execOp,ho,e]
 unfold QP at hr;split at hr
 ·rename_i t e hu;cases hr;have aU:=cv h hC hg hu;obtain⟨k,off,v,y,bF,bB,cB,j0⟩:=Rep.ref_inv aU;exact .dat (ax k off bF) aU
 ·split at hr
  ·rename_i t _;obtain⟨hs,eT⟩:=sr h hg t;split at hr
   ·rename_i j ver off es;rw[es] at hs;cases hb:Nat.beq ver (S.ver j)<;>simp only[hb,cond_true,cond_false] at hr
    ·cases hr
    cases hr;obtain⟨k,eL,fH⟩:=hs.2 (aG hb);intro ρ' rC;exact⟨_,_,xg rC,ax k off fH,hs,fun _ _ e=>by cases e⟩
   ·rename_i j ver sz off es;rw[es] at hs;cases hb:Nat.beq ver (S.ver j)<;>simp only[hb,cond_true,cond_false] at hr
    ·cases hr
    cases hr;have fg:=hs;obtain⟨k,n,c,ik,i,eL,td,cf,fH⟩:=hs.2 (aG hb);intro ρ' rC;exact⟨_,_,xg rC,ax _ _ fH,fg,fun _ _ e=>by cases e⟩
   ·cases hr
  ·cases hr
theorem afW {cap:Nat→Option CSig}{t:Ty}{z:Ty×D}{v:Value}(h:po t=some z)(hz:xt t v=true):Rep cap σ z.1 v z.2∧z.1.one=true∧Ty.sub z.1 t=true:=by
 unfold xt at hz;split at hz
 ·simp at hz;obtain⟨rfl,rfl⟩:=hz;simp[po] at h;subst h;exact⟨.int _ 0 (by rename_i k;cases k<;>decide) (by rename_i k;cases k<;>decide),rfl,by simp[Ty.sub,Ty.beq]⟩
 ·simp at hz;subst hz;simp[po] at h;subst h;exact⟨.bool false,rfl,rfl⟩
 ·rename_i s;have:s=ByteArray.empty:=by
   have:s.size=0:=by simpa using hz
   cases s with|mk d=>simp[ByteArray.size] at this;subst this;rfl
  subst this;simp[po] at h;subst h;exact⟨.str _ (by decide),rfl,rfl⟩
 ·simp[po] at h;subst h;exact⟨.nils _,rfl,rfl⟩
 ·simp[po] at h;subst h;refine⟨.mapnil _ _,rfl,?_⟩;simp only[Ty.sub];exact Ty.beq_refl _
 ·simp[po] at h;subst h;exact⟨.fnnil _ _,rfl,by simp only[Ty.sub];exact Ty.beq_refl _⟩
 ·cases hz
end
end Cx
namespace Cx
open Go Go.RowKit
theorem mapM_some {α β:Type}(f:α→Option β):∀(l:List α) (r:List β),l.mapM f=some r→r.length=l.length∧∀(i:Nat) (x:α),l[i]?=some x→∃y,r[i]?=some y∧f x=some y
 |[],r,h=>by simp at h;subst h;exact⟨rfl,by simp⟩
 |x::l,r,h=>by
  simp only[WE,Option.bind_eq_bind,aB] at h;obtain⟨y,hy,ys,tJ,h⟩:=h;cases h;obtain⟨h1,h2⟩:=mapM_some f l ys tJ;refine⟨by simp[h1],fun i z hi=>?_⟩;cases i with
  |zero=>simp at hi;subst hi;exact⟨y,rfl,hy⟩
  |succ i=>simp at hi;simpa using h2 i z hi
theorem Wr:∀(ts:List Ty) (vs:List Value),Ba ts vs=true→vs.length=ts.length∧∀(i:Nat) (t:Ty),ts[i]?=some t→∃v,vs[i]?=some v∧xt t v=true
 |[],vs,h=>by cases vs<;>simp_all [Ba]
 |t::ts,vs,h=>by
  cases vs with
  |nil=>simp[Ba] at h
  |cons v vs=>
   simp only[Ba,ay] at h;obtain⟨h1,h2⟩:=Wr ts vs h.2;refine⟨by simp[h1],fun i u hi=>?_⟩;cases i with
   |zero=>simp at hi;subst hi;exact⟨v,rfl,h.1⟩
   |succ i=>simp at hi;simpa using h2 i u hi
theorem xu {cap:Nat→Option CSig}{σ:Im}{t:Ty}{z:Ty×D}{v:Value}(h:nP t=some z)(hz:iV t v=true):Rep cap σ z.1 v z.2∧Ty.sub z.1 t=true∧z.1.one=t.one:=by
 cases t with
 |agg ts=>
  simp only[nP,aK] at h;obtain⟨zs,rF,rfl⟩:=h;cases v with
  |agg vs=>
   simp only[iV] at hz;obtain⟨l1,h1⟩:=Wr ts vs.toList hz;obtain⟨l2,h2⟩:=mapM_some _ _ _ rF;have key:∀(i:Nat) (t:Ty),ts[i]?=some t→∃y v,zs[i]?=some y∧vs.toList[i]?=some v∧Rep cap σ y.1 v y.2∧y.1.one=true∧Ty.sub y.1 t=true:=by
      intro i t hi;obtain⟨y,hy,Dj⟩:=h2 i t hi;obtain⟨v,hv,gL⟩:=h1 i t hi;obtain⟨g1,g2,g3⟩:=afW (cap:=cap) (σ:=σ) Dj gL;exact⟨y,v,hy,hv,g1,g2,g3⟩
   have cJ:∀(ts:List Ty) (zs:List (Ty×D)),zs.length=ts.length→(∀(i:Nat) (t:Ty),ts[i]?=some t→∃y,zs[i]?=some y∧Ty.sub y.1 t=true)→Ty.subs (zs.map (·.1)) ts=true:=by
      intro ts
      induction ts with
      |nil=>intro zs hl _;cases zs<;>simp_all [Ty.subs]
      |cons t ts ih=>
       intro zs hl hh;cases zs with
       |nil=>simp at hl
       |cons z zs=>
        simp only[iX,Ty.subs,ay];refine⟨?_,ih zs (by simpa using hl) fun i u hu=>by simpa using hh (i+1) u (by simpa using hu)⟩;obtain⟨y,hy,Dj⟩:=hh 0 t rfl;simp at hy;subst hy;exact Dj
   refine⟨?_,?_,rfl⟩
   ·have:vs=vs.toList.toArray:=by simp
    rw[this];refine .agg _ _ _ (by rw[mV];omega) (by simp) (fun i t hi=>?_) (fun i t hi=>?_)
    ·simp only[dm,aK] at hi;obtain⟨q,hq,rfl⟩:=hi;obtain⟨t',O4⟩:∃t',ts[i]?=some t':=⟨_,bW (by have:=(iu.1 hq).1;omega)⟩
     obtain⟨y,v,hy,hv,g1,g2,g3⟩:=key i t' O4;rw[hq] at hy;cases hy;rw[rf hv,rf (show(zs.map (·.2))[i]?=some q.2 by simp[hq])];exact g1
    ·simp only[dm,aK] at hi;obtain⟨q,hq,rfl⟩:=hi;obtain⟨t',O4⟩:∃t',ts[i]?=some t':=⟨_,bW (by have:=(iu.1 hq).1;omega)⟩
     obtain⟨y,v,hy,hv,g1,g2,g3⟩:=key i t' O4;rw[hq] at hy;cases hy;exact g2
   ·simp only[Ty.sub];exact cJ ts zs l2 fun i t hi=>by obtain⟨y,v,hy,hv,g1,g2,g3⟩:=key i t hi;exact⟨y,hy,g3⟩
  |_=>simp[iV] at hz
 |_=>
  obtain⟨g1,g2,g3⟩:=afW (cap:=cap) (σ:=σ) (by simpa [nP] using h) (by simpa [iV] using hz);exact⟨g1,g3,(Ty.sub_one _ _ g3).1⟩
theorem agK {a b:ByteArray}(h:(a==b)=true):a=b:=by
 cases a with|mk x=>cases b with|mk y=>
 have:(x==y)=true:=h;rw[eq_of_beq this]
theorem agL (a:ByteArray):(a==a)=true:=by
 cases a with|mk x=>
 show(x==x)=true;simp
theorem Pm {P:Program}{K:TypeId}{kt:Ty}(hk:oM P K kt=true):
 (∃k k',kt=.int k∧P.underlying K=some (.int k'))∨(kt=.str∧P.underlying K=some .string)∨(kt=.bool∧P.underlying K=some .bool):=by
 unfold oM at hk;split at hk
 ·split at hk
  ·exact .inl ⟨_,_,rfl,by assumption⟩
  ·cases hk
 ·split at hk
  ·exact .inr (.inl ⟨rfl,by assumption⟩)
  ·cases hk
 ·split at hk
  ·exact .inr (.inr ⟨rfl,by assumption⟩)
  ·cases hk
 ·cases hk
theorem aiV {cap:Nat→Option CSig}{σ:Im}{P:Program}{K:TypeId}{kt:Ty}{desc:TypeDesc}(hk:oM P K kt=true)(hu:P.underlying K=some desc){v:Value}{d:D}(hv:Rep cap σ kt v d):
 ∀(es:List MapEntry) (ds:List (D×D)) (i:Nat),ds.length=es.length→(∀(j:Nat) (e:MapEntry) (p:D×D),es[j]?=some e→ds[j]?=some p→Rep cap σ kt e.key p.1)→
  (Instr.findNow desc v es i=some none∧∀(j:Nat) (p:D×D),ds[j]?=some p→dg d p.1=false)∨
  ∃j e p,es[j]?=some e∧ds[j]?=some p∧Instr.findNow desc v es i=some (some (i+j,e.val))∧dg d p.1=true∧Instr.sameBits 10000 e.key v=true∧∀m q,m<j→ds[m]?=some q→dg d q.1=false:=by
 have du:∀(v':Value) (d':D),Rep cap σ kt v' d'→Instr.sameNow desc v v'=some (dg d d')∧(dg d d'=true→Instr.sameBits 10000 v' v=true):=by
  intro v' d' h';rcases Pm hk with⟨k,k',rfl,j5⟩|⟨rfl,j5⟩|⟨rfl,j5⟩
  ·rw[hu] at j5;cases j5;obtain⟨n,rfl,rfl,_⟩:=hv.int_inv;obtain⟨m,rfl,rfl,_⟩:=h'.int_inv;refine⟨by simp[Instr.sameNow,dg,D.cells,ji,mD],fun e=>?_⟩;have:n=m:=by simpa [dg,D.cells,ji,mD] using e
   subst this;simp[Instr.sameBits]
  ·rw[hu] at j5;cases j5;obtain⟨n,rfl,rfl,_⟩:=hv.str_inv;obtain⟨m,rfl,rfl,_⟩:=h'.str_inv;refine⟨by simp[Instr.sameNow,dg,D.cells,ji,mD],fun e=>?_⟩;have:n=m:=agK (by simpa [dg,D.cells,ji,mD] using e);subst this;simpa [Instr.sameBits] using agL n
  ·rw[hu] at j5;cases j5;obtain⟨n,rfl,rfl⟩:=hv.bool_inv;obtain⟨m,rfl,rfl⟩:=h'.bool_inv;refine⟨by simp[Instr.sameNow,dg,D.cells,ji,mD],fun e=>?_⟩;have:n=m:=by simpa [dg,D.cells,ji,mD] using e
   subst this;simp[Instr.sameBits]
 intro es
 induction es with
 |nil=>intro ds i hl _;left;exact⟨rfl,by cases ds<;>simp_all⟩
 |cons e es ih=>
  intro ds i hl aW;cases ds with
  |nil=>simp at hl
  |cons p ds=>
   obtain⟨hs,hb⟩:=du e.key p.1 (aW 0 e p rfl rfl);cases mg:dg d p.1 with
   |true=>
    right;rw[mg] at hs;exact⟨0,e,p,rfl,rfl,by simp[Instr.findNow,hs],mg,hb mg,fun m q hm=>by omega⟩
   |false=>
    rw[mg] at hs;rcases ih ds (i+1) (by simpa using hl) (fun j e' p' he hp=>aW (j+1) e' p' (by simpa using he) (by simpa using hp)) with⟨h1,h2⟩|⟨j,e',p',h1,h2,h3,h4,h5,h6⟩
    ·left;refine⟨by simp[Instr.findNow,hs,h1],fun j q hq=>?_⟩;cases j with
     |zero=>simp at hq;subst hq;exact mg
     |succ j=>exact h2 j q (by simpa using hq)
    ·right;refine⟨j+1,e',p',by simpa using h1,by simpa using h2,?_,h4,h5,fun m q hm hq=>?_⟩
     ·simp[Instr.findNow,hs,h3];omega
     ·cases m with
      |zero=>simp at hq;subst hq;exact mg
      |succ m=>exact h6 m q (by omega) (by simpa using hq)
theorem Pv {d:D}:∀{ds:List (D×D)},(∀(j:Nat) (p:D×D),ds[j]?=some p→dg d p.1=false)→dO d ds=none
 |[],_=>rfl
 |p::ds,h=>by simp only[dO,h 0 p rfl];exact Pv fun j q hq=>h (j+1) q (by simpa using hq)
theorem Pw {d:D}:∀{ds:List (D×D)} {j:Nat} {p:D×D},ds[j]?=some p→dg d p.1=true→(∀(m:Nat) (q:D×D),m<j→ds[m]?=some q→dg d q.1=false)→dO d ds=some p.2
 |[],j,p,hp,_,_=>by simp at hp
 |x::ds,0,p,hp,hk,_=>by simp at hp;subst hp;simp[dO,hk]
 |x::ds,j+1,p,hp,hk,hm=>by
  simp only[dO,hm 0 x (by omega) rfl];exact Pw (j:=j) (by simpa using hp) hk fun m q aq hq=>hm (m+1) q (by omega) (by simpa using hq)
theorem Q6 {d v:D}:∀{ds:List (D×D)},(∀(j:Nat) (p:D×D),ds[j]?=some p→dg d p.1=false)→dG d v ds=ds++[(d,v)]
 |[],_=>rfl
 |p::ds,h=>by simp only[dG,h 0 p rfl,xx,if_false,LV];rw[Q6 fun j q hq=>h (j+1) q (by simpa using hq)]
theorem Q7 {d v:D}:∀{ds:List (D×D)} {j:Nat} {p:D×D},ds[j]?=some p→dg d p.1=true→(∀(m:Nat) (q:D×D),m<j→ds[m]?=some q→dg d q.1=false)→dG d v ds=ds.set j (d,v)
 |[],j,p,hp,_,_=>by simp at hp
 |x::ds,0,p,hp,hk,_=>by simp at hp;subst hp;simp[dG,hk]
 |x::ds,j+1,p,hp,hk,hm=>by
  simp only[dG,hm 0 x (by omega) rfl,xx,if_false,List.set_cons_succ];rw[Q7 (j:=j) (by simpa using hp) hk fun m q aq hq=>hm (m+1) q (by omega) (by simpa using hq)]
theorem aaf {P:Program}{K:TypeId}{kt:Ty}(hk:Ac P K kt=true):
 ∃k k' e q i,kt=.agg [.int k,.int k']∧P.underlying K=some (.array 2 e)∧P.underlying e=some (.int q)∧P.plainKey e=true∧P.info? e=some i∧P.cellsOf e=1:=by
 unfold Ac at hk;split at hk
 case h_2=>cases hk
 rename_i k k';split at hk
 case h_2=>cases hk
 rename_i n e hu;simp only[ay] at hk;obtain⟨⟨⟨h1,h2⟩,h3⟩,h4⟩:=hk;have hn:=aG h1;subst hn;split at h2
 case h_2=>cases h2
 rename_i q hq;split at h4
 case h_2=>cases h4
 rename_i i hi;exact⟨k,k',e,q,i,rfl,hu,hq,h3,hi,aG h4⟩
theorem Rep.pair_inv {cap:Nat→Option CSig}{σ:Im}{k k':IntKind}{v:Value}{d:D}(h:Rep cap σ (.agg [.int k,.int k']) v d):∃a b,v=.agg #[.int k a,.int k' b]∧d=.agg [.v (.int k a),.v (.int k' b)]:=by
 generalize ht:Ty.agg [.int k,.int k']=t at h;cases h with
 |agg ts vs ds h1 h2 h ho=>
  cases ht;obtain⟨x,y,rfl⟩:∃x y,vs=[x,y]:=by
   match vs,h1 with
   |[x,y],_=>exact⟨x,y,rfl⟩
  obtain⟨p,q,rfl⟩:∃x y,ds=[x,y]:=by
   match ds,h2 with
   |[x,y],_=>exact⟨x,y,rfl⟩
  obtain⟨a,e1,e2,_⟩:=(h 0 _ rfl).int_inv;obtain⟨b,e3,e4,_⟩:=(h 1 _ rfl).int_inv;simp at e1 e2 e3 e4;subst e1 e2 e3 e4;exact⟨a,b,rfl,rfl⟩
 |_=>cases ht
theorem asf {P:Program}{K e:TypeId}{q:IntKind}{i:TypeInfo}(hu:P.underlying K=some (.array 2 e))(hq:P.underlying e=some (.int q))(hp:P.plainKey e=true)(hi:P.info? e=some i)(hc:P.cellsOf e=1)(k k':IntKind)(a b c d:Int)(w:World):
 (Op.equal K (.agg #[.int k a,.int k' b]) (.agg #[.int k c,.int k' d])).run P w=.ok (a==c&&b==d) w:=by
 unfold Op.equal;show(Op.equalIn (9999+1) K _ _).run P w=_;rw[run_equalIn_array w 9999 _ _ hu hi,hc];have e0:List.range 2=[0,1]:=rfl;have p0:∀(x y:Value) (w:World),(part e #[x,y] 0).run P w=.ok x w:=fun x y w=>run_part_plain w hp rfl;have p1:∀(x y:Value) (w:World),(part e #[x,y] 1).run P w=.ok y w:=fun x y w=>run_part_plain w hp rfl;have q0:∀(k:IntKind) (a b:Int) (w:World),(Op.equalIn 9999 e (.int k a) (.int k b)).run P w=.ok (a==b) w:=fun k a b w=>run_equalIn_int w 9998 e k q a b hq;rw[e0];simp only[Op.eqItems,Sem.run_bind,Nat.zero_mul,Nat.one_mul,p0,p1,Result.andThen_ok,q0];cases a==c
 ·simp
 ·simp only[Bool.not_true,xx,if_false,Sem.run_bind,p1,Result.andThen_ok,q0];cases b==d<;>simp
theorem aae {P:Program}{K:TypeId}{kt:Ty}(hk:tO P K kt=true):oM P K kt=true∨Ac P K kt=true:=by
 unfold tO at hk;simpa using hk
theorem ahj {cap:Nat→Option CSig}{σ:Im}{P:Program}{K:TypeId}{kt:Ty}(hk:Ac P K kt=true){v:Value}{d:D}(hv:Rep cap σ kt v d){w:World}{b:Bool}:(Instr.checkKey b 10000 K v).run P w=.ok () w:=by
 obtain⟨k,k',e,q,i,rfl,hu,hq,hp,hi,hc⟩:=aaf hk;obtain⟨x,y,rfl,_⟩:=hv.pair_inv;have p0:∀(x y:Value) (w:World),(part e #[x,y] 0).run P w=.ok x w:=fun x y w=>run_part_plain w hp rfl;have p1:∀(x y:Value) (w:World),(part e #[x,y] 1).run P w=.ok y w:=fun x y w=>run_part_plain w hp rfl
 have c0:∀(m:Nat) (k:IntKind) (n:Int) (w:World),(Instr.checkKey b (m+1) e (.int k n)).run P w=.ok () w:=fun m k n w=>by
  simp[Instr.checkKey,run_underlying hq]
 have s0:∀w:World,(Go.sizeOf e).run P w=Result.ok 1 w:=fun w=>by rw[run_sizeOf w hi,hc]
 have main:∀m,(Instr.checkKey b (m+1+1) K (.agg #[.int k x,.int k' y])).run P w=.ok () w:=by
  intro m;rw[Instr.checkKey];simp only[Sem.run_bind,run_underlying hu,Result.andThen_ok,Std.Legacy.Range.forIn_eq_forIn_range',Std.Legacy.Range.size,Nat.sub_zero,Nat.add_one_sub_one,Nat.div_one];simp[List.range',s0,p0,p1,c0,Sem.run_bind,Result.andThen_ok]
 exact main 9998
theorem Xj {cap:Nat→Option CSig}{σ:Im}{P:Program}{K:TypeId}{kt:Ty}(hk:tO P K kt=true){v:Value}{d:D}(hv:Rep cap σ kt v d){w:World}{b:Bool}:(Instr.checkKey b 10000 K v).run P w=.ok () w:=by
 rcases aae hk with hk|hk
 case inr=>exact ahj hk hv
 have:∀n,(Instr.checkKey b (n+1) K v).run P w=.ok () w:=by
  intro n;rcases Pm hk with⟨k,k',rfl,hu⟩|⟨rfl,hu⟩|⟨rfl,hu⟩<;>cases v<;>simp[Instr.checkKey,run_underlying hu]
 exact this 9999
section
variable {C:Ctx} {S:St} {ρ:Env} {σ:Im} {own:Nat→Option Nat} {hv:Nat→Value} {w0:World} {σ0:Base} {A:Nat→Prop} {a:Act} {w:World} {gs:List (Nat×Bool)} {Φ:aR} {dst:Nat}
theorem anD {P:Program}{K:TypeId}{kt:Ty}(hk:oM P K kt=true):∃desc,P.underlying K=some desc:=by
 rcases Pm hk with⟨k,k',rfl,hu⟩|⟨rfl,hu⟩|⟨rfl,hu⟩<;>exact⟨_,hu⟩
theorem asg {cap:Nat→Option CSig}{P:Program}{K:TypeId}{kt et:Ty}(hk:Ac P K kt=true){v:Value}{d:D}(hv:Rep cap σ kt v d)(arr:Array MapEntry)(ds:List (D×D))(hl:ds.length=arr.size)
 (aW:∀(j:Nat) (e:MapEntry) (p:D×D),arr[j]?=some e→ds[j]?=some p→Rep cap σ kt e.key p.1∧Rep cap σ et e.val p.2) (w:World):
 ((Instr.findKey K v arr.toList).run P w=.ok none w∧dO d ds=none∧∀u,dG d u ds=ds++[(d,u)])∨
 ∃j e p,arr[j]?=some e∧ds[j]?=some p∧(Instr.findKey K v arr.toList).run P w=.ok (some (j,e.val)) w∧dO d ds=some p.2∧(∀u,dG d u ds=ds.set j (d,u))∧Instr.sameBits 10000 e.key v=true:=by
 obtain⟨k,k',e,q,i,rfl,hu,hq,hp,hi,hc⟩:=aaf hk;have du:∀(v':Value) (d':D),Rep cap σ (.agg [.int k,.int k']) v' d'→(Op.equal K v v').run P w=.ok (dg d d') w∧(dg d d'=true→Instr.sameBits 10000 v' v=true)∧Instr.sameNow (.array 2 e) v v'=none:=by
  intro v' d' h';obtain⟨a,b,rfl,rfl⟩:=hv.pair_inv;obtain⟨a',b',rfl,rfl⟩:=h'.pair_inv;refine⟨?_,fun he=>?_,rfl⟩
  ·rw[asf hu hq hp hi hc];simp[dg,D.cells,ji,mD]
  ·have:a=a'∧b=b':=by simpa [dg,D.cells,ji,mD] using he
   obtain⟨rfl,rfl⟩:=this;simp[Instr.sameBits]
 have ask:∀(es:List MapEntry) (ds:List (D×D)) (i:Nat),ds.length=es.length→(∀(j:Nat) (e:MapEntry) (p:D×D),es[j]?=some e→ds[j]?=some p→Rep cap σ (.agg [.int k,.int k']) e.key p.1)→
  ((Instr.findAsking K v es i).run P w=.ok none w∧∀(j:Nat) (p:D×D),ds[j]?=some p→dg d p.1=false)∨
  ∃j e p,es[j]?=some e∧ds[j]?=some p∧(Instr.findAsking K v es i).run P w=.ok (some (i+j,e.val)) w∧dg d p.1=true∧Instr.sameBits 10000 e.key v=true∧∀m q,m<j→ds[m]?=some q→dg d q.1=false:=by
  intro es
  induction es with
  |nil=>intro ds i hl _;left;exact⟨by simp[Instr.findAsking],by cases ds<;>simp_all⟩
  |cons en es ih=>
   intro ds i hl aW;cases ds with
   |nil=>simp at hl
   |cons p ds=>
    obtain⟨hs,hb,_⟩:=du en.key p.1 (aW 0 en p rfl rfl);cases mg:dg d p.1 with
    |true=>
     right;rw[mg] at hs;exact⟨0,en,p,rfl,rfl,by simp[Instr.findAsking,hs],mg,hb mg,fun m q hm=>by omega⟩
    |false=>
     rw[mg] at hs;rcases ih ds (i+1) (by simpa using hl) (fun j e' p' he hp=>aW (j+1) e' p' (by simpa using he) (by simpa using hp)) with⟨h1,h2⟩|⟨j,e',p',h1,h2,h3,h4,h5,h6⟩
     ·left;refine⟨by simp[Instr.findAsking,hs,h1],fun j q hq=>?_⟩;cases j with
      |zero=>simp at hq;subst hq;exact mg
      |succ j=>exact h2 j q (by simpa using hq)
     ·right;refine⟨j+1,e',p',by simpa using h1,by simpa using h2,?_,h4,h5,fun m q hm hq=>?_⟩
      ·simp[Instr.findAsking,hs,h3];omega
      ·cases m with
       |zero=>simp at hq;subst hq;exact mg
       |succ m=>exact h6 m q (by omega) (by simpa using hq)
 have pM:(Instr.findKey K v arr.toList).run P w=(Instr.findAsking K v arr.toList 0).run P w:=by
  cases ky:arr.toList with
  |nil=>simp[Instr.findKey,run_underlying hu,Instr.findNow,Instr.findAsking]
  |cons en es=>
   obtain⟨p,zP⟩:∃p,ds[0]?=some p:=by
        have:0<ds.length:=by rw[hl];have:=congrArg List.length ky;simp at this;omega
        exact⟨_,bW this⟩
   have Oi:arr[0]?=some en:=by rw[←Bc,ky];rfl
   have:=(du en.key p.1 (aW 0 en p Oi zP).1).2.2;simp[Instr.findKey,run_underlying hu,Instr.findNow,this]
 rw[pM];rcases ask arr.toList ds 0 (by simpa using hl) (fun j e p he hp=>(aW j e p (by simpa using he) hp).1) with⟨h1,h2⟩|⟨j,e,p,h1,h2,h3,h4,h5,h6⟩
 ·left;exact⟨h1,Pv h2,fun u=>Q6 h2⟩
 ·right;simp only[lV] at h3;exact⟨j,e,p,by simpa using h1,h2,h3,Pw h2 h4 h6,fun u=>Q7 h2 h4 h6,h5⟩
theorem run_findKey {cap:Nat→Option CSig}{P:Program}{K:TypeId}{kt et:Ty}(fU:tO P K kt=true){v:Value}{d:D}(hv:Rep cap σ kt v d)(arr:Array MapEntry)(ds:List (D×D))(hl:ds.length=arr.size)
 (aW:∀(j:Nat) (e:MapEntry) (p:D×D),arr[j]?=some e→ds[j]?=some p→Rep cap σ kt e.key p.1∧Rep cap σ et e.val p.2) (w:World):
 ((Instr.findKey K v arr.toList).run P w=.ok none w∧dO d ds=none∧∀u,dG d u ds=ds++[(d,u)])∨
 ∃j e p,arr[j]?=some e∧ds[j]?=some p∧(Instr.findKey K v arr.toList).run P w=.ok (some (j,e.val)) w∧dO d ds=some p.2∧(∀u,dG d u ds=ds.set j (d,u))∧Instr.sameBits 10000 e.key v=true:=by
 rcases aae fU with hk|hk
 case inr=>exact asg hk hv arr ds hl aW w
 obtain⟨desc,hu⟩:=anD hk;rcases aiV hk hu hv arr.toList ds 0 (by simpa using hl) (fun j e p he hp=>(aW j e p (by simpa using he) hp).1) with⟨h1,h2⟩|⟨j,e,p,h1,h2,h3,h4,h5,h6⟩
 ·left;exact⟨by simp[Instr.findKey,run_underlying hu,h1],Pv h2,fun u=>Q6 h2⟩
 ·right;refine⟨j,e,p,by simpa using h1,h2,?_,Pw h2 h4 h6,fun u=>Q7 h2 h4 h6,h5⟩;simp only[lV] at h3;simp[Instr.findKey,run_underlying hu,h3]
theorem aqb (h:Inv C S ρ σ own hv w0 σ0 A a w)(hC:CtxOK C σ0)(hg:holds gs ρ=true){T:TypeId}{m k:Operand}{ok:Bool}{r:Sh×List PI}(hr:QO C S gs dst T m k ok=some r){o:Oper}(ho:o.op=.lookup T m k ok):
 ed C S ρ σ hv Φ dst a w o r:=by
 unfold QO at hr;split at hr
 case h_2=>cases hr
 rename_i K E hT;simp only[aB] at hr;obtain⟨p,hp,q,hq,hr⟩:=hr;have aU:=Wl h hC hg hp;have dv:=cv h hC hg hq;split at hr
 case h_2=>cases hr
 rename_i kt et e1;rw[e1] at aU;split at hr
 case h_2=>cases hr
 rename_i z inf hz nf;cases hc:(Ty.beq q.1 kt&&tO C.P K kt&&Ty.sub z.1 et&&sD inf et)<;>simp only[hc,cond_true,cond_false] at hr
 ·cases hr
 simp only[ay] at hc;obtain⟨⟨⟨IP,CQ⟩,cJ⟩,hzero⟩:=hc;rw[Ty.beq_eq _ _ IP] at dv;obtain⟨v0,vU,Dl⟩:∃v0,inf.zero=some v0∧Rep C.cap σ et v0 z.2:=by
  unfold sD at hzero;split at hzero
  ·rename_i v0 e0;exact⟨v0,e0,(xu hz hzero).1.sub cJ⟩
  ·cases hzero
 have ala:∃(arr:Array MapEntry) (ds:List (D×D)),(p.2.ev ρ).m=ds∧ds.length=arr.size∧
  (∀(j:Nat) (e:MapEntry) (p:D×D),arr[j]?=some e→ds[j]?=some p→Rep C.cap σ kt e.key p.1∧Rep C.cap σ et e.val p.2)∧
  ((a.eval m=.map none∧arr=#[])∨∃g clock,a.eval m=.map (some g)∧w.heap[g]?=some (.map arr clock)):=by
  rcases aU with aU|⟨T',e,cells,xs,ht,_⟩|⟨g,arr,clock,es,kt',et',ht,ZQ,hb,hd,hl,hx,aW⟩
  ·generalize vV:a.eval m=v at aU;generalize CF:p.2.ev ρ=d at aU;cases aU with
   |mapnil=>exact⟨#[],[],by simp[D.m],rfl,by simp,.inl ⟨rfl,rfl⟩⟩
   |map kt et r iU es hm hl hx hk he=>
    obtain⟨_,arr,clock,hb,ky⟩:=(h.ok.m _ _ hm).resolve_right (fun e=>DC hl hk e.1);have hn:es.length=arr.size:=by rw[hl,←ky];simp[entriesOf]
    refine⟨arr,es,by simp[D.m],hn,fun j e p hj hp=>?_,.inr ⟨r,clock,rfl,hb⟩⟩;have:iU[j]?=some (e.key,e.val):=by rw[←ky];simp[entriesOf,hj]
    exact⟨hk j _ p this hp,he j _ p this hp⟩
  ·cases ht
  ·cases ht;exact⟨arr,es,by rw[hd];rfl,hl,aW,.inr ⟨g,clock,ZQ,hb⟩⟩
 obtain⟨arr,ds,hd,hl,aW,cT⟩:=ala;have gG:∀b,(Instr.checkKey b 10000 K (a.eval k)).run C.P w=.ok () w:=fun b=>Xj (cap:=C.cap) (σ:=σ) CQ dv;have OA:∃u b x,(Instr.lookup T (a.eval m) (a.eval k) ok).run C.P w=.ok (if ok then .tuple #[u,.bool b] else u) w∧(dO (q.2.ev ρ) (p.2.ev ρ).m).getD z.2=x∧(dO (q.2.ev ρ) (p.2.ev ρ).m).isSome=b∧Rep C.cap σ et u x:=by
  rw[hd];rcases run_findKey CQ dv arr ds hl aW w with⟨h1,h2,_⟩|⟨j,e,x,h1,h2,h3,h4,_,_⟩
  ·refine⟨v0,false,z.2,?_,by rw[h2];rfl,by rw[h2];rfl,Dl⟩;rcases cT with⟨em,rfl⟩|⟨g,clock,em,hb⟩
   ·simp only[List.toList_toArray] at h1;cases ok<;>simp[Instr.lookup,run_underlying hT,em,gG,h1,zeroValue,run_typeInfo w nf,vU]
   ·cases ok<;>simp[Instr.lookup,run_underlying hT,em,getObj,Sem.run,hb,gG,h1,zeroValue,run_typeInfo w nf,vU]
  ·refine⟨e.val,true,x.2,?_,by rw[h4];rfl,by rw[h4];rfl,(aW j e x h1 h2).2⟩;rcases cT with⟨em,rfl⟩|⟨g,clock,em,hb⟩
   ·simp at h1
   ·cases ok<;>simp[Instr.lookup,run_underlying hT,em,getObj,Sem.run,hb,gG,h3]
 obtain⟨u,b,x,ax,mw,hx2,cB⟩:=OA;cases ok with
 |true=>
  simp only[cond_true] at hr;cases hr;refine .dat (v:=.tuple #[u,.bool b]) (by simp[execOp,ho,ax]) ?_;simp only[PE.ev,PE.evs,mw,hx2];refine .tup [et,.bool] [u,.bool b] [x,.v (.bool b)] rfl rfl (fun i t hi=>?_)
  match i,hi with
  |0,hi=>simp at hi;subst hi;exact cB
  |1,hi=>simp at hi;subst hi;exact .bool b
  |i+2,hi=>simp at hi
 |false=>
  simp only[cond_false] at hr;cases hr;refine .dat (v:=u) (by simp[execOp,ho,ax]) ?_;simp only[PE.ev,mw];exact cB
end
end Cx
namespace Cx
open Go Go.RowKit
theorem X4 (off:Nat):∀(l:List Value) (s:Nat) (cells:Array Value),off+s+l.length≤cells.size→
 ((l.zipIdx s).foldl (fun cs (x:Value×Nat)=>cs.setIfInBounds (off+x.2) x.1) cells).size=cells.size∧
 ∀p,((l.zipIdx s).foldl (fun cs (x:Value×Nat)=>cs.setIfInBounds (off+x.2) x.1) cells)[p]?=if off+s≤p∧p<off+s+l.length then l[p-(off+s)]? else cells[p]?
 |[],s,cells,_=>by
  refine⟨rfl,fun p=>?_⟩;have:¬(off+s≤p∧p<off+s+0):=by omega
  simp only[List.zipIdx_nil,List.foldl_nil,qK];rw[if_neg this]
 |v::l,s,cells,h=>by
  simp only[mU] at h;obtain⟨h1,h2⟩:=X4 off l (s+1) (cells.setIfInBounds (off+s) v) (by simp;omega);simp only[List.zipIdx_cons,FI];refine⟨by rw[h1];simp,fun p=>?_⟩;rw[h2 p];by_cases hp:p=off+s
  ·subst hp;have c1:¬(off+(s+1)≤off+s∧off+s<off+(s+1)+l.length):=by omega
   have c2:off+s≤off+s∧off+s<off+s+(v::l).length:=by simp
   rw[if_neg c1,if_pos c2,Bb,if_pos rfl,if_pos (by omega)];simp
  ·by_cases hc:off+(s+1)≤p∧p<off+(s+1)+l.length
   ·have c2:off+s≤p∧p<off+s+(v::l).length:=by simp only[mU];omega
    rw[if_pos hc,if_pos c2];rw[show p-(off+s)=(p-(off+(s+1)))+1 by omega];simp
   ·have c2:¬(off+s≤p∧p<off+s+(v::l).length):=by simp only[mU];omega
    rw[if_neg hc,if_neg c2,Bb];rw[if_neg (by omega)]
theorem NI (place:Nat→Option (Nat×Nat)):∀(parts:List (Nat×Value)) (cells:Array Value),
 (∀p,p∈parts→∃o,place p.1=some (o,p.2.cells.size)∧o+p.2.cells.size≤cells.size)→
 (∀i j oi si oj sj,i≠j→place i=some (oi,si)→place j=some (oj,sj)→oi+si≤oj∨oj+sj≤oi)→(parts.map (·.1)).Nodup→
 ∃fc,Instr.fill place cells parts=some fc∧fc.size=cells.size∧
  (∀i v o,(i,v)∈parts→place i=some (o,v.cells.size)→∀m,m<v.cells.size→fc[o+m]?=v.cells[m]?)∧
  (∀i o s,i∉parts.map (·.1)→place i=some (o,s)→∀m,m<s→fc[o+m]?=cells[o+m]?)
 |[],cells,_,_,_=>⟨cells,rfl,rfl,by simp,fun _ _ _ _ _ _ _=>rfl⟩
 |(i,v)::parts,cells,h,zA,bS=>by
  obtain⟨o,hp,hle⟩:=h (i,v) (fF ..);simp only at hp hle;obtain⟨g1,g2⟩:=X4 o v.cells.toList 0 cells (by simp;omega);simp only[iX,sI] at bS
  have hz:v.cells.zipIdx.foldl (fun cs (x:Value×Nat)=>cs.setIfInBounds (o+x.2) x.1) cells=(v.cells.toList.zipIdx 0).foldl (fun cs (x:Value×Nat)=>cs.setIfInBounds (o+x.2) x.1) cells:=by
    rw[←Array.foldl_toList];simp
  generalize YC:(v.cells.toList.zipIdx 0).foldl (fun cs (x:Value×Nat)=>cs.setIfInBounds (o+x.2) x.1) cells=c1 at g1 g2 hz
  obtain⟨fc,k1,k2,k3,k4⟩:=NI place parts c1 (fun p hm=>by
    obtain⟨o',h1,h2⟩:=h p (fj _ hm);exact⟨o',h1,by rw[g1];exact h2⟩) zA bS.2
  refine⟨fc,?_,k2.trans g1,?_,?_⟩
  ·simp only[Instr.fill,hp];have:¬((v.cells.size≠v.cells.size||decide (o+v.cells.size>cells.size))=true):=by simp;omega
   rw[if_neg this];rw[←k1,←hz]
  ·intro j u o' hm zQ m aq;rcases di.1 hm with e|cA
   ·cases e;rw[hp] at zQ;cases zQ;rw[k4 i o v.cells.size bS.1 hp m aq,g2];rw[if_pos (by simp;omega)];simp
   ·exact k3 j u o' cA zQ m aq
  ·intro j o' s' ml zQ m aq;simp only[iX,di,not_or] at ml;rw[k4 j o' s' ml.2 zQ m aq,g2];have:=zA i j o v.cells.size o' s' (fun e=>ml.1 e.symm) hp zQ;rw[if_neg (by simp;omega)]
section
variable {C:Ctx} {S:St} {ρ:Env} {σ:Im} {own:Nat→Option Nat} {hv:Nat→Value} {w0:World} {σ0:Base} {A:Nat→Prop} {a:Act} {w:World} {gs:List (Nat×Bool)} {Φ:aR} {dst:Nat}
theorem Rep.flat {cap:Nat→Option CSig}{t:Ty}{v:Value}{d:D}(h:Rep cap σ t v d)(ht:t.rowT=true∨t.one=true):
 t.flat.length=t.size∧d.cells.length=t.size∧∀(m:Nat) (tm:Ty),t.flat[m]?=some tm→tm.one=true∧Rep cap σ tm (v.cells.getD m undef) (d.cells.getD m .none):=by
 cases h with
 |agg ts vs ds h1 h2 h ho=>
  refine⟨rfl,by simp[D.cells,Ty.size,h2],fun m tm hm=>⟨ho m tm hm,?_⟩⟩;have:=h m tm hm;simpa [Value.cells,D.cells,gA,be] using this
 |tup ts vs ds h1 h2 h=>simp[Ty.rowT,Ty.one] at ht
 |_=>
  refine⟨rfl,rfl,fun m tm hm=>?_⟩
  match m,hm with
  |0,hm=>
   simp only[Ty.flat,LY,bp] at hm;subst hm;refine⟨rfl,?_⟩;simp only[Value.cells,D.cells,uS];constructor<;>assumption
  |m+1,hm=>simp[Ty.flat] at hm
theorem rK:∀{l:List Nat},lE l=true→l.Nodup
 |[],_=>List.nodup_nil
 |a::r,h=>by
  simp only[lE,ay,kh] at h;refine sI.2 ⟨fun hm=>?_,rK h.2⟩;have:=LU.1 h.1 a hm;simp at this
def Laid (P:Program):List Field→Nat→Prop
 |[],_=>True
 |f::fs,off=>f.offset=off∧∃inf,P.info? f.type=some inf∧Laid P fs (off+inf.size)
theorem Laid.get {P:Program}:∀{fs:List Field} {off:Nat},Laid P fs off→∀(i:Nat) (f:Field),fs[i]?=some f→∃inf,P.info? f.type=some inf∧off≤f.offset∧
 ∀(j:Nat) (g:Field),i<j→fs[j]?=some g→f.offset+inf.size≤g.offset
 |[],_,_,i,f,hi=>by simp at hi
 |f0::fs,off,h,i,f,hi=>by
  obtain⟨h1,inf,h2,h3⟩:=h;cases i with
  |zero=>
   simp at hi;subst hi;refine⟨inf,h2,by omega,fun j g hj hg=>?_⟩;cases j with
   |zero=>omega
   |succ j=>obtain⟨_,_,h4,_⟩:=h3.get j g (by simpa using hg);omega
  |succ i=>
   simp at hi;obtain⟨ann,k1,k2,k3⟩:=h3.get i f hi;refine⟨ann,k1,by omega,fun j g hj hg=>?_⟩;cases j with
   |zero=>omega
   |succ j=>exact k3 j g (by omega) (by simpa using hg)
theorem ag0 {zs:List Value}{parts:List (Nat×Operand)}:∀(fs:List Field) (i off:Nat) (r:List Ty×List PE),lY C S gs zs parts fs i off=some r→Laid C.P fs off:=by
 intro fs
 induction fs with
 |nil=>intro i off r _;trivial
 |cons f fs ih=>
  intro i off r h;simp only[lY] at h;split at h
  case h_2=>cases h
  rename_i inf ft hi ht;cases hc:(Nat.beq f.offset off&&Nat.beq inf.size ft.size)<;>simp only[hc,cond_true,cond_false] at h
  ·cases h
  simp only[ay] at hc;simp only[aB] at h;obtain⟨q,hq,_⟩:=h;exact⟨aG hc.1,inf,hi,ih _ _ _ hq⟩
theorem Xb {zs:List Value}{parts:List (Nat×Operand)}:∀(fs:List Field) (i off:Nat) (r:List Ty×List PE),lY C S gs zs parts fs i off=some r→off≤zs.length:=by
 intro fs
 induction fs with
 |nil=>intro i off r h;simp only[lY] at h;cases hb:Nat.beq off zs.length<;>simp[hb] at h;exact Nat.le_of_eq (aG hb)
 |cons f fs ih=>
  intro i off r h;simp only[lY] at h;split at h
  case h_2=>cases h
  rename_i inf ft hi ht;cases hc:(Nat.beq f.offset off&&Nat.beq inf.size ft.size)<;>simp only[hc,cond_true,cond_false] at h
  ·cases h
  simp only[aB] at h;obtain⟨q,hq,_⟩:=h;have:=ih _ _ _ hq;omega
theorem agZ {zs:List Value}{parts:List (Nat×Operand)}:∀(fs:List Field) (i off:Nat) (r:List Ty×List PE),lY C S gs zs parts fs i off=some r→
 ∃ft:List Ty×List PE,r=ft∧(∀(m:Nat) (f:Field) (inf:TypeInfo),fs[m]?=some f→C.P.info? f.type=some inf→f.offset+inf.size≤zs.length)∧(∀(m:Nat) (x:Nat×Operand) (f:Field) (inf:TypeInfo),fs[m]?=some f→C.P.info? f.type=some inf→parts.find? (fun p=>Nat.beq p.1 (i+m))=some x→∃y ft,use C S gs x.2=some y∧Ty.sub y.1 ft=true∧ft.size=inf.size)∧off+r.1.length=zs.length:=by
 intro fs
 induction fs with
 |nil=>intro i off r h;simp only[lY] at h;cases hb:Nat.beq off zs.length<;>simp[hb] at h;subst h;exact⟨_,rfl,by simp,by simp,by simpa using aG hb⟩
 |cons f fs ih=>
  intro i off r h;simp only[lY] at h;split at h
  case h_2=>cases h
  rename_i inf ft hi ht;cases hc:(Nat.beq f.offset off&&Nat.beq inf.size ft.size)<;>simp only[hc,cond_true,cond_false] at h
  ·cases h
  simp only[ay] at hc;have iI:=aG hc.1;have bh:=aG hc.2;simp only[aB] at h;obtain⟨q,hq,h⟩:=h;have hle:=Xb _ _ _ _ hq;obtain⟨_,rfl,k1,k2,k3⟩:=ih _ _ _ hq;have e1:∀(m:Nat) (g:Field) (ig:TypeInfo),(f::fs)[m]?=some g→C.P.info? g.type=some ig→g.offset+ig.size≤zs.length:=by
   intro m g ig hm fJ;cases m with
   |zero=>simp at hm;subst hm;rw[hi] at fJ;cases fJ;omega
   |succ m=>exact k1 m g ig (by simpa using hm) fJ
  have X3:∀t:Ty,t.flat.length=t.size:=fun t=>by cases t<;>simp[Ty.flat,Ty.size]
  split at h
  ·rename_i x hx;simp only[aB] at h;obtain⟨y,hy,h⟩:=h;cases hs:(Ty.sub y.1 ft&&(y.1.rowT||y.1.one))<;>simp only[hs,cond_true,cond_false] at h
   ·cases h
   cases h;simp only[ay] at hs;refine⟨_,rfl,e1,fun m x' g ig hm fJ hf=>?_,?_⟩
   ·cases m with
    |zero=>
     simp at hm;subst hm;rw[hi] at fJ;cases fJ;simp only[qL] at hf;rw[hx] at hf;cases hf;exact⟨y,ft,hy,hs.1,bh.symm⟩
    |succ m=>exact k2 m x' g ig (by simpa using hm) fJ (by rwa [show i+(m+1)=i+1+m by omega] at hf)
   ·have:=(Ty.sub_one _ _ hs.1).2;simp only[lT,X3];omega
  ·rename_i hx;cases lz:iV ft (rowOf ft.rowT ((zs.drop off).take inf.size))<;>simp only[lz,cond_true,cond_false] at h
   ·cases h
   simp only[aK] at h;obtain⟨z,hz,rfl⟩:=h;have de:=(xu (cap:=C.cap) (σ:=⟨fun _ _=>none,fun _=>none⟩) hz lz).2.1;refine⟨_,rfl,e1,fun m x' g ig hm fJ hf=>?_,?_⟩
   ·cases m with
    |zero=>simp only[qL] at hf;rw[hx] at hf;cases hf
    |succ m=>exact k2 m x' g ig (by simpa using hm) fJ (by rwa [show i+(m+1)=i+1+m by omega] at hf)
   ·have:=(Ty.sub_one _ _ de).2;simp only[lT,X3];omega
theorem ag1 (h:Inv C S ρ σ own hv w0 σ0 A a w)(hC:CtxOK C σ0)(hg:holds gs ρ=true){zs:List Value}{parts:List (Nat×Operand)}(cells:Array Value):
 ∀(fs:List Field) (i off:Nat) (r:List Ty×List PE),lY C S gs zs parts fs i off=some r→
  (∀(m:Nat) (f:Field) (inf:TypeInfo),fs[m]?=some f→C.P.info? f.type=some inf→
        (∀x,parts.find? (fun p=>Nat.beq p.1 (i+m))=some x→∀q,q<inf.size→cells[f.offset+q]?=(a.eval x.2).cells[q]?)∧
        (parts.find? (fun p=>Nat.beq p.1 (i+m))=none→∀q,q<inf.size→cells[f.offset+q]?=zs[f.offset+q]?))→
  (PE.evc ρ r.2).length=r.1.length∧∀(m:Nat) (t:Ty),r.1[m]?=some t→t.one=true∧Rep C.cap σ t (cells.getD (off+m) undef) ((PE.evc ρ r.2).getD m .none):=by
 intro fs
 induction fs with
 |nil=>intro i off r hr _;simp only[lY] at hr;cases hb:Nat.beq off zs.length<;>simp[hb] at hr;subst hr;simp[PE.evc]
 |cons f fs ih=>
  intro i off r hr aW;simp only[lY] at hr;split at hr
  case h_2=>cases hr
  rename_i inf ft hi ht;cases hc:(Nat.beq f.offset off&&Nat.beq inf.size ft.size)<;>simp only[hc,cond_true,cond_false] at hr
  ·cases hr
  simp only[ay] at hc;have iI:=aG hc.1;have bh:=aG hc.2;simp only[aB] at hr;obtain⟨q,hq,hr⟩:=hr
  obtain⟨l1,tA⟩:=ih (i+1) (off+inf.size) q hq (fun m g ano hm fJ=>by
   have:=aW (m+1) g ano (by simpa using hm) fJ
   rwa [show i+(m+1)=i+1+m by omega] at this)
  obtain⟨hp,hn⟩:=aW 0 f inf rfl hi;have join:∀(t:Ty) (v:Value) (d:D) (pe:PE),Rep C.cap σ t v d→(t.rowT=true∨t.one=true)→pe.ev ρ=d→t.size=inf.size→(∀m,m<inf.size→cells[f.offset+m]?=v.cells[m]?)→
        (PE.evc ρ (pe::q.2)).length=(t.flat++q.1).length∧∀(m:Nat) (t':Ty),(t.flat++q.1)[m]?=some t'→t'.one=true∧Rep C.cap σ t' (cells.getD (off+m) undef) ((PE.evc ρ (pe::q.2)).getD m .none):=by
   intro t v d pe cB gJ tu I9 bD;obtain⟨f1,f2,f3⟩:=cB.flat gJ;simp only[PE.evc,tu];refine⟨by simp[f1,f2,l1],fun m t' hm=>?_⟩;rw[lS] at hm;split at hm
   ·rename_i aq;obtain⟨g1,g2⟩:=f3 m t' hm;refine⟨g1,?_⟩;have e1:cells.getD (off+m) undef=v.cells.getD m undef:=by
     rw[gA,gA,←iI,bD m (by omega)]
    have e2:(d.cells++PE.evc ρ q.2).getD m .none=d.cells.getD m .none:=by
     rw[be,be,qH (by omega)]
    rw[e1,e2];exact g2
   ·rename_i gH;obtain⟨g1,g2⟩:=tA _ t' hm;refine⟨g1,?_⟩;have e1:off+inf.size+(m-t.flat.length)=off+m:=by omega
    have e2:(d.cells++PE.evc ρ q.2).getD m .none=(PE.evc ρ q.2).getD (m-t.flat.length) .none:=by
     rw[be,be,pv (by omega)];rw[f1,←f2]
    rw[e1] at g2;rw[e2];exact g2
  simp only[qL] at hp hn;split at hr
  ·rename_i x hx;simp only[aB] at hr;obtain⟨y,hy,hr⟩:=hr;cases hs:(Ty.sub y.1 ft&&(y.1.rowT||y.1.one))<;>simp only[hs,cond_true,cond_false] at hr
   ·cases hr
   cases hr;simp only[ay,kV] at hs;exact join y.1 _ _ y.2 (cv h hC hg hy) hs.2 rfl (by rw[(Ty.sub_one _ _ hs.1).2,bh]) (hp x hx)
  ·rename_i hx;cases lz:iV ft (rowOf ft.rowT ((zs.drop off).take inf.size))<;>simp only[lz,cond_true,cond_false] at hr
   ·cases hr
   simp only[aK] at hr;obtain⟨z,hz,rfl⟩:=hr;obtain⟨k1,k2,k3⟩:=xu (cap:=C.cap) (σ:=σ) hz lz;have IU:(rowOf ft.rowT ((zs.drop off).take inf.size)).cells.size=inf.size:=by rw[k1.size,(Ty.sub_one _ _ k2).2,bh]
   refine join z.1 _ z.2 (.con z.2) k1 ?_ rfl (by rw[(Ty.sub_one _ _ k2).2,bh]) (fun m hm=>?_)
   ·cases ft<;>simp[nP,po] at hz<;>first|(subst hz;simp[Ty.one])|(obtain⟨_,_,rfl⟩:=hz;simp[Ty.rowT])
   ·rw[hn hx m hm,iI];cases tB:ft.rowT with
    |true=>simp[rowOf,Value.cells,gB,gT,hm]
    |false=>
     rw[tB] at IU k1;have h1:(z.1).rowT=false:=by
       have:=(Ty.sub_one _ _ k2)
       cases ft<;>simp[Ty.rowT] at tB<;>simp[nP,po] at hz<;>subst hz<;>rfl
     rw[k1.cells1 h1] at IU ⊢;simp at IU;have hm0:m=0:=by omega
     subst hm0;have:∃u,zs[off]?=some u:=⟨_,bW (show off<zs.length by have:=Xb _ _ _ _ hq;omega)⟩
     simp[rowOf,be,gB,gT,←IU];obtain⟨u,hu⟩:=this;simp[hu]
theorem aah {P:Program}:∀(fs:List Field) (off:Nat),Laid P fs off→
 ∃l:List (Nat×Nat),fs.mapM (fun f=>(P.info? f.type).map fun i=>(f.offset,i.size))=some l∧l.length=fs.length∧
  ∀(i:Nat) (f:Field) (inf:TypeInfo),fs[i]?=some f→P.info? f.type=some inf→l[i]?=some (f.offset,inf.size)
 |[],_,_=>⟨[],rfl,rfl,by simp⟩
 |f::fs,off,h=>by
  obtain⟨h1,inf,h2,h3⟩:=h;obtain⟨l,k1,k2,k3⟩:=aah fs _ h3;refine⟨(f.offset,inf.size)::l,?_,by simp[k2],fun i g ig hi fJ=>?_⟩
  ·simp[WE,h2,k1]
  ·cases i with
   |zero=>simp at hi;subst hi;rw[h2] at fJ;cases fJ;rfl
   |succ i=>simp at hi;simpa using k3 i g ig hi fJ
theorem XY {parts:List (Nat×Operand)}(bS:(parts.map (·.1)).Nodup){i:Nat}{x:Operand}(h:(i,x)∈parts):parts.find? (fun p=>Nat.beq p.1 i)=some (i,x):=by
 induction parts with
 |nil=>cases h
 |cons p ps ih=>
  simp only[iX,sI] at bS;rcases di.1 h with e|hm
  ·subst e;simp
  ·have:¬p.1=i:=fun e=>bS.1 (e▸List.mem_map_of_mem (f:=(·.1)) hm);rw[List.find?_cons_of_neg (by simpa using this)];exact ih bS.2 hm
theorem ap1 (h:Inv C S ρ σ own hv w0 σ0 A a w)(hC:CtxOK C σ0)(hg:holds gs ρ=true){T:TypeId}{ps:Array (Nat×Operand)}{r:Sh×List PI}(hr:QF C S gs dst T ps.toList=some r){o:Oper}(ho:o.op=.build T ps):
 ed C S ρ σ hv Φ dst a w o r:=by
 unfold QF at hr;split at hr
 case h_3=>cases hr
 case h_2=>
  rename_i n e inf hT nf;split at hr
  case h_2=>cases hr
  rename_i zs ie hz hie;split at hr
  case h_2=>cases hr
  rename_i x y zS;simp only[aB] at hr;obtain⟨p,hp,q,hq,hr⟩:=hr;split at hr
  case h_2=>cases hr
  rename_i k k' hk br;cases hc:(Nat.beq n 2&&Nat.beq zs.size 2&&Nat.beq ie.size 1)<;>simp only[hc,cond_true,cond_false] at hr
  ·cases hr
  cases hr;simp only[ay] at hc;obtain⟨⟨c1,c2⟩,c3⟩:=hc;have c1:=aG c1;have c2:=aG c2;have c3:=aG c3;subst c1;have hx:=cv h hC hg hp;have hy:=cv h hC hg hq;rw[hk] at hx;rw[br] at hy;obtain⟨a1,Ny,ea2,_⟩:=hx.int_inv;obtain⟨b1,Nz,eb2,_⟩:=hy.int_inv;have amq:ps=#[(0,x),(1,y)]:=by rw[←uN];exact zS
  obtain⟨z0,z1,rfl⟩:∃z0 z1,zs=#[z0,z1]:=by
   match zs,c2 with
   |⟨[z0,z1]⟩,_=>exact⟨z0,z1,rfl⟩
  have N5:C.P.built T [(0,a.eval x),(1,a.eval y)]=some #[a.eval x,a.eval y]:=by
   rw[Ny,Nz];simp only[Program.built,nf,hT,hz,hie,c3];simp[Instr.fill,Value.cells]
  have ax:(execOp a.eval o).run C.P w=.ok (.value (.agg #[a.eval x,a.eval y])) w:=by
   have:=run_build (P:=C.P) w T (ps.map fun(x:Nat×Operand)=>(x.1,a.eval x.2)) #[a.eval x,a.eval y] (by rw[amq];simpa using N5);simp[execOp,ho,this]
  refine .dat ax ?_;have e1:(PE.mk [p.2,q.2]).ev ρ=.agg [p.2.ev ρ,q.2.ev ρ]:=by simp[PE.ev,PE.evc,ea2,eb2,D.cells]
  rw[e1];refine .agg _ [a.eval x,a.eval y] _ rfl rfl (fun i t hi=>?_) (fun i t hi=>?_)
  ·match i,hi with
   |0,hi=>simp at hi;subst hi;rw[hk];simpa using hx
   |1,hi=>simp at hi;subst hi;rw[br];simpa using hy
   |i+2,hi=>simp at hi
  ·match i,hi with
   |0,hi=>simp at hi;subst hi;rw[hk];rfl
   |1,hi=>simp at hi;subst hi;rw[br];rfl
   |i+2,hi=>simp at hi
 rename_i fs inf hT nf;split at hr
 case h_2=>cases hr
 rename_i zs hz;cases hc:(lE (ps.toList.map (·.1))&&ps.toList.all (fun p=>Nat.blt p.1 fs.size))<;>simp only[hc,cond_true,cond_false] at hr
 ·cases hr
 simp only[ay] at hc;obtain⟨bS,aq⟩:=hc;simp only[aK] at hr;obtain⟨q,hq,rfl⟩:=hr;have IQ:=ag0 _ _ _ _ hq;have ly:=rK bS;obtain⟨_,rfl,cf,am2,Oj⟩:=agZ _ _ _ _ hq;obtain⟨pl,eu,aBt,C1⟩:=aah _ _ IQ
 have pX:∀p,p∈(ps.toList.map fun(x:Nat×Operand)=>(x.1,a.eval x.2))→∃o,pl.toArray[p.1]?=some (o,p.2.cells.size)∧o+p.2.cells.size≤zs.size:=by
  intro p hp;obtain⟨x,hx,rfl⟩:=eR.1 hp;have vZ:x.1<fs.toList.length:=by
   have:=eQ.1 aq x hx;have h2:x.1<fs.size:=by simpa [py] using this
   simpa using h2
  obtain⟨f,hf⟩:∃f,fs.toList[x.1]?=some f:=⟨_,bW vZ⟩
  obtain⟨ig,fJ,_,_⟩:=IQ.get _ _ hf;have CL:=XY ly (i:=x.1) (x:=x.2) hx;obtain⟨y,ft,hy,cJ,bh⟩:=am2 x.1 (x.1,x.2) f ig hf fJ (by simpa using CL);have zX:=(cv h hC hg hy).size;rw[(Ty.sub_one _ _ cJ).2,bh] at zX;simp only;refine⟨f.offset,?_,?_⟩
  ·rw[zX];simpa using C1 x.1 f ig hf fJ
  ·rw[zX];simpa using cf x.1 f ig hf fJ
 have zA:∀(i j oi si oj sj:Nat),i≠j→pl.toArray[i]?=some (oi,si)→pl.toArray[j]?=some (oj,sj)→oi+si≤oj∨oj+sj≤oi:=by
  intro i j oi si oj sj aC hi hj;simp only[FK] at hi hj;obtain⟨f,hf⟩:∃f,fs.toList[i]?=some f:=⟨_,bW (by have:=(iu.1 hi).1;omega)⟩
  obtain⟨g,zF⟩:∃g,fs.toList[j]?=some g:=⟨_,bW (by have:=(iu.1 hj).1;omega)⟩
  obtain⟨ig,fJ,_,alS⟩:=IQ.get _ _ hf;obtain⟨jg,hjg,_,alT⟩:=IQ.get _ _ zF;rw[C1 i f ig hf fJ] at hi;rw[C1 j g jg zF hjg] at hj;cases hi;cases hj;rcases L4 i j with aq|gH
  ·exact .inl (alS j g aq zF)
  ·exact .inr (alT i f (by omega) hf)
 obtain⟨fc,f1,f2,f3,f4⟩:=NI (pl.toArray[·]?) (ps.toList.map fun(x:Nat×Operand)=>(x.1,a.eval x.2)) zs pX zA (by simpa [LP] using ly)
 have N5:C.P.built T (ps.toList.map fun(x:Nat×Operand)=>(x.1,a.eval x.2))=some fc:=by
  simp only[Program.built,nf,hT,hz,eu];exact f1
 have ax:(execOp a.eval o).run C.P w=.ok (.value (.agg fc)) w:=by
  have:=run_build (P:=C.P) w T (ps.map fun(x:Nat×Operand)=>(x.1,a.eval x.2)) fc (by rw[FF];exact N5);simp[execOp,ho,this]
 refine .dat ax ?_;have vD:∀(m:Nat) (f:Field) (ig:TypeInfo),fs.toList[m]?=some f→C.P.info? f.type=some ig→
  (∀x,ps.toList.find? (fun p=>Nat.beq p.1 (0+m))=some x→∀q,q<ig.size→fc[f.offset+q]?=(a.eval x.2).cells[q]?)∧
  (ps.toList.find? (fun p=>Nat.beq p.1 (0+m))=none→∀q,q<ig.size→fc[f.offset+q]?=zs.toList[f.offset+q]?):=by
  intro m f ig hm fJ;refine⟨fun x hx p hp=>?_,fun hx p hp=>?_⟩
  ·have mw:x.1=m:=by have:=LX hx;simpa using this
   have Ab:(x.1,a.eval x.2)∈(ps.toList.map fun(x:Nat×Operand)=>(x.1,a.eval x.2)):=eR.2 ⟨x,xG hx,rfl⟩;obtain⟨o',fp,hle⟩:=pX _ Ab;simp only at fp hle;have Zy:=C1 m f ig hm fJ;simp only[FK,mw] at fp;rw[Zy] at fp;simp only[bp,mW] at fp;obtain⟨e1,e2⟩:=fp;exact f3 x.1 (a.eval x.2) f.offset Ab (by simp[mw,Zy,←e2]) p (by omega)
  ·have ml:m∉(ps.toList.map fun(x:Nat×Operand)=>(x.1,a.eval x.2)).map (·.1):=by
        intro cI;simp only[LZ,eR,LP] at cI;obtain⟨x,Ab,e⟩:=cI;have:=sG.1 hx x Ab;simp[e] at this
   rw[f4 m f.offset ig.size ml (by simpa using C1 m f ig hm fJ) p hp];simp
 obtain⟨l1,aW⟩:=ag1 h hC hg fc _ _ _ _ hq vD
 ·simp only[PE.ev];have:fc=fc.toList.toArray:=by simp
  rw[this];have hlen:fc.toList.length=q.1.length:=by simp[f2] at Oj ⊢;omega
  refine .agg _ _ _ hlen l1 (fun i t hi=>?_) (fun i t hi=>(aW i t hi).1);have:=(aW i t hi).2;simpa [gA,be] using this
end
end Cx
namespace Cx
open Go Go.RowKit
def Zs (b i:Nat):Nat:=4096*(i+1)+b
def St.fz (S:St)(j:Nat):St:=
 match S.o j with
 |.row _ e=>S.setO j (.fz (.slice e.rol))
 |.mp k e=>S.setO j (.fz (.map k e))
 |_=>S
def Cr (S:St)(b:Nat):Option (St×List PI):=
 match S.o b with
 |.box ag aJ=>
  (xL S b aJ 0).bind fun x=>
    bif ag then some (S.setO b (.fbox (.agg x.1)),[.setO b (.mk x.2)])
    else match x.1,x.2 with
     |[t],[e]=>some (S.setO b (.fbox t),[.setO b e])
     |_,_=>Option.none
 |_=>Option.none
def St.mv (S:St)(j j':Nat):St:=
 {S with o:=cu (cu S.o j' (S.o j)) j .dead,ver:=cu (cu S.ver j' (S.ver j'+1)) j (S.ver j+1)}
def mA:Ob→Bool
 |.row ..=>true
 |.mp ..=>true
 |_=>false
def Fj (S:St)(t j':Nat):Option (St×List PI):=
 match S.r t with
 |.obj j ver=>
  bif Nat.beq ver (S.ver j)&&mA (S.o j)&& !Nat.beq j j' then some ((S.mv j j').setR t (.obj j' (S.ver j'+1)),[.setO j' (.o j)])
  else some (S,[])
 |_=>some (S,[])
def Fi (S:St)(b i j':Nat):Option (St×List PI):=
 match S.o b with
 |.box ag aJ=>
  match aJ[i]? with
  |some (.obj j ver)=>
   bif Nat.beq ver (S.ver j)&&mA (S.o j)&& !Nat.beq j j'&& !Nat.beq b j'&& !Nat.beq b j then
    some ((S.mv j j').setO b (.box ag (aJ.set i (.obj j' (S.ver j'+1)))),[.setO j' (.o j)])
   else some (S,[])
  |_=>some (S,[])
 |_=>some (S,[])
def CY (C:Ctx)(S:St)(b i j:Nat)(T:TypeId):Option (St×List PI):=
 match S.o b with
 |.box ag aJ=>
  match aJ[i]?,nO C.P T with
  |some (.dat (.nils _)),some e=>
   bif !Nat.beq b j then some ((S.newO j (.row T e)).setO b (.box ag (aJ.set i (.obj j (S.ver j+1)))),[.setO j (.con (.list []))])
   else some (S,[])
  |_,_=>some (S,[])
 |_=>some (S,[])
section
variable {C:Ctx} {S:St} {ρ:Env} {σ:Im} {own:Nat→Option Nat} {hv:Nat→Value} {w0:World} {σ0:Base} {A:Nat→Prop} {a:Act} {w:World} {gs:List (Nat×Bool)} {Φ:aR} {dst:Nat}
theorem Inv.lt (h:Inv C S ρ σ own hv w0 σ0 A a w){k o:Nat}{u:Value}(hc:σ.c k o=some u):k<w.heap.size:=World.block_lt_of_cell? w (a:=⟨k,o,none⟩) (h.ok.c _ _ _ hc)
theorem Inv.ltm (h:Inv C S ρ σ own hv w0 σ0 A a w){k:Nat}{es:List (Value×Value)}(hc:σ.m k=some es):k<w.heap.size:=by
 exact(h.ok.m _ _ hc).lt
theorem Im.ok.below {σ:Im}{w w':World}(h:σ.ok w)(hb:Below w.heap.size w w'):σ.ok w':=by
 refine⟨fun k o v hc=>?_,fun k es hc=>?_⟩
 ·have h1:=h.c k o v hc;rw[hb.cell (World.block_lt_of_cell? w (a:=⟨k,o,none⟩) h1)];exact h1
 ·exact(h.m k es hc).keep (hb.block k (h.m k es hc).lt)
def fL (own:Nat→Option Nat)(j:Nat)(nb:Nat→Bool):Nat→Option Nat:=fun k=>if nb k then some j else if own k=some j then none else own k
theorem Inv.newOσ (h:Inv C S ρ σ own hv w0 σ0 A a w)(j:Nat)(ob:Ob)(d:D)(v:Value)(nb:Nat→Bool){σ':Im}{w':World}(hle:σ.le σ')(az:σ'.ok w')(fK:∀k o x,σ'.c k o=some x→σ.c k o=some x∨w.heap.size≤k)(dM:∀k x,σ'.m k=some x→σ.m k=some x∨w.heap.size≤k)
 (hw:Below w.heap.size w w') (dL:∀k,nb k=true→w.heap.size≤k∧k<w'.heap.size) (fI:∀k,nb k=true→(∀o,σ'.c k o=none)∧σ'.m k=none)
 (cS:dI C (S.newO j ob) (ρ.setO j d) σ' (fL own j nb) (cu hv j v) w' w0.heap.size j ob) (oG:ob≠.tr:=by intro h;cases h):Inv C (S.newO j ob) (ρ.setO j d) σ' (fL own j nb) (cu hv j v) w0 σ0 A a w':=by
 have bh:w0.heap.size≤w.heap.size:=h.below.size;have df:∀k i,i≠j→own k=some i→fL own j nb k=some i:=by
  intro k i hi hk;have h1:=h.owns k i hk;have h2:nb k=false:=by
   cases hn:nb k with
   |false=>rfl
   |true=>have:=dL k hn;omega
  simp[fL,h2,hk,hi]
 refine h.step (fun i=>i=j) rfl hle az (fun k o x hx=>(fK k o x hx).imp id fun e=>⟨by omega,.inr e⟩) (fun k x hx=>(dM k x hx).imp id fun e=>⟨by omega,.inr e⟩) (hw.mono bh) ⟨fun i=>?_,fun i e=>?_⟩ (fun i hi=>⟨?_,?_,?_,fun k hk=>⟨df k i hi hk,?_⟩⟩) (fun i hi=>?_) (fun k i hk=>?_) (fun _=>id) (fun t=>.inl ⟨rfl,rfl,rfl⟩) (fun _ _=>rfl) (fun k hk _=>hw.block k hk) (fun k i hk=>by
  unfold fL at hk;split at hk
  ·rename_i hn;exact .inr (dL k hn).1
  ·split at hk
   ·cases hk
   ·exact .inl ⟨i,hk⟩) (fun i hi=>by subst hi;simpa only[St.newO,aS] using oG)
 ·simp only[St.newO,gj];split<;>rename_i e
  ·subst e;omega
  ·omega
 ·simp only[St.newO,gj] at e;split at e
  ·rename_i e';subst e';omega
  ·rename_i aC;exact bO _ _ aC
 ·simp[St.newO,bO _ _ hi]
 ·simp[Env.setO,bO _ _ hi]
 ·exact bO _ _ hi
 ·exact hw.block k (h.owns k i hk).2.1
 ·subst hi;simp only[St.newO,aS];exact cS
 ·unfold fL at hk;split at hk
  ·rename_i hn;obtain⟨g1,g2⟩:=dL k hn;exact⟨by omega,g2,(fI k hn).1,(fI k hn).2⟩
  ·split at hk
   ·cases hk
   ·obtain⟨g1,g2,g3,g4⟩:=h.owns k i hk;refine⟨g1,by have:=hw.size;omega,fun o=>?_,?_⟩
    ·cases hc:σ'.c k o with
     |none=>rfl
     |some u=>
      rcases fK k o u hc with e|e
      ·rw[g3 o] at e;cases e
      ·omega
    ·cases hc:σ'.m k with
     |none=>rfl
     |some u=>
      rcases dM k u hc with e|e
      ·rw[g4] at e;cases e
      ·omega
theorem Inv.newO (h:Inv C S ρ σ own hv w0 σ0 A a w)(j:Nat)(ob:Ob)(d:D)(v:Value)(nb:Nat→Bool){w':World}(hw:Below w.heap.size w w')(dL:∀k,nb k=true→w.heap.size≤k∧k<w'.heap.size)
 (cS:dI C (S.newO j ob) (ρ.setO j d) σ (fL own j nb) (cu hv j v) w' w0.heap.size j ob) (oG:ob≠.tr:=by intro h;cases h):Inv C (S.newO j ob) (ρ.setO j d) σ (fL own j nb) (cu hv j v) w0 σ0 A a w':=by
 refine h.newOσ j ob d v nb (.refl σ) (h.ok.below hw) (fun _ _ _ hx=>.inl hx) (fun _ _ hx=>.inl hx) hw dL (fun k hn=>⟨fun o=>?_,?_⟩) cS oG
 ·cases hc:σ.c k o with
  |none=>rfl
  |some u=>have:=h.lt hc;have:=(dL k hn).1;omega
 ·cases hc:σ.m k with
  |none=>rfl
  |some u=>have:=h.ltm hc;have:=(dL k hn).1;omega
theorem Inv.setObj (h:Inv C S ρ σ own hv w0 σ0 A a w){t j:Nat}(ht:¬A t){v:Value}(eL:hv j=v)(aq:t<a.tmps.size):
 Inv C (S.setR t (.obj j (S.ver j))) (ρ.setR t .none) σ own hv w0 σ0 (fun u=>A u∨u=t) (a.put (some t) v) w:=
 h.setReg ht (s:=.obj j (S.ver j)) (v:=v) (d:=.none) ⟨bJ _,fun _=>eL.symm⟩ aq (fun _ _ e=>by cases e)
theorem NM (S:St)(j:Nat):(S.fz j).ver=S.ver∧(S.fz j).r=S.r:=by
 unfold St.fz;split<;>exact⟨rfl,rfl⟩
theorem Inv.fz (h:Inv C S ρ σ own hv w0 σ0 A a w)(j:Nat):∃σ' own',σ.le σ'∧Inv C (S.fz j) ρ σ' own' hv w0 σ0 A a w:=by
 have bC:=h.objs j;unfold St.fz;split
 ·rename_i T e eo;rw[eo] at bC;obtain⟨cells,xs,h1,h2,⟨vs,h3,h4⟩,h5⟩:=bC;have bh:w0.heap.size≤w.heap.size:=h.below.size
  let nb:Nat→Bool:=fun k=>decide ((hv j).ownBlock=some k)
  let σ':Im:={c:=fun k o=>if nb k then cells[o]? else σ.c k o,m:=σ.m}
  have dL:∀k,nb k=true→own k=some j:=fun k hk=>h5 k (by simpa [nb] using hk);have hle:σ.le σ':=by
   refine⟨fun k o v hc=>?_,fun k es hc=>hc⟩;have:nb k=false:=by
        cases hn:nb k with
        |false=>rfl
        |true=>have:=(h.owns k j (dL k hn)).2.2.1 o;rw[this] at hc;cases hc
   simp[σ',this,hc]
  refine⟨σ',fun k=>if nb k then none else own k,hle,h.step (fun i=>i=j) rfl hle ?_ (fun k o x hx=>?_) (fun _ _ hx=>.inl hx) (.refl _ _) ⟨fun _=>bJ _,fun _ _=>rfl⟩ (fun i hi=>⟨?_,rfl,rfl,fun k hk=>⟨?_,rfl⟩⟩) (fun i hi=>?_) (fun k i hk=>?_) (fun _=>id) (fun t=>.inl ⟨rfl,rfl,rfl⟩) (fun _ _=>rfl) (fun _ _ _=>rfl) (fun k i hk=>by
        split at hk
        ·cases hk
        ·exact .inl ⟨i,hk⟩) (fun i hi=>by subst hi;simp[St.setO,aS])⟩
  ·refine⟨fun k o v hc=>?_,h.ok.m⟩;simp only[σ'] at hc;split at hc
   ·rename_i hn;have cS:(hv j).ownBlock=some k:=by simpa [nb] using hn
    have:=h2.cells cS o v hc;rw[sN] at this;simpa using this
   ·exact h.ok.c k o v hc
  ·simp only[σ'] at hx;split at hx
   ·rename_i hn;exact .inr ⟨(h.owns k j (dL k hn)).1,.inl ⟨j,dL k hn⟩⟩
   ·exact .inl hx
  ·simp[St.setO,bO _ _ hi]
  ·have:nb k=false:=by
        cases hn:nb k with
        |false=>rfl
        |true=>rw[dL k hn] at hk;simp at hk;exact absurd hk.symm hi
   simp[this,hk]
  ·subst hi;simp only[St.setO,aS];refine⟨rfl,?_⟩;rw[h1];rcases h2.2 with⟨e1,e2⟩|⟨g,cap,cur,e1,e2,e3,e4,e5,e6,e7⟩
   ·rw[e1];have:xs=[]:=Wz e2;subst this;exact .nil _
   ·rw[e1];refine .slice e.rol g 0 xs.length cap xs vs rfl e4 e5 (fun i x hx=>((h3 i x hx).mono hle).unf_rol) (fun i m u hi hu=>?_);rw[Ty.rol_size];have hn:nb g=true:=by simp[nb,e1,Value.ownBlock]
    simp only[σ',hn,if_true,lV];exact h4 i m u hi hu
  ·split at hk
   ·cases hk
   ·rename_i hn;obtain⟨g1,g2,g3,g4⟩:=h.owns k i hk;exact⟨g1,g2,fun o=>by simp[σ',hn,g3 o],g4⟩
 ·rename_i kt et eo;rw[eo] at bC;obtain⟨k0,arr,clock,fT,h1,h2,h3,h4,h5,⟨hx,_⟩,h6⟩:=bC;have bh:w0.heap.size≤w.heap.size:=h.below.size
  let σ':Im:={c:=σ.c,m:=fun k=>if k=k0 then some (entriesOf arr) else σ.m k}
  have hle:σ.le σ':=by
   refine⟨fun k o v hc=>hc,fun k es hc=>?_⟩;have:k≠k0:=fun e=>by subst e;rw[(h.owns k j h2).2.2.2] at hc;cases hc
   simp[σ',this,hc]
  refine⟨σ',fun k=>if k=k0 then none else own k,hle,h.step (fun i=>i=j) rfl hle ?_ (fun k o x hx=>.inl hx) (fun k x hx=>?_) (.refl _ _) ⟨fun _=>bJ _,fun _ _=>rfl⟩ (fun i hi=>⟨?_,rfl,rfl,fun k hk=>⟨?_,rfl⟩⟩) (fun i hi=>?_) (fun k i hk=>?_) (fun _=>id) (fun t=>.inl ⟨rfl,rfl,rfl⟩) (fun _ _=>rfl) (fun _ _ _=>rfl) (fun k i hk=>by
        split at hk
        ·cases hk
        ·exact .inl ⟨i,hk⟩) (fun i hi=>by subst hi;simp[St.setO,aS])⟩
  ·refine⟨h.ok.c,fun k es hc=>?_⟩;simp only[σ'] at hc;split at hc
   ·rename_i e;subst e;cases hc;refine .inl ⟨fun e=>?_,arr,clock,h3,rfl⟩;refine DC (cap:=C.cap) (σ:=σ) (kt:=kt) (es:=fT) (by simp[entriesOf,h5]) (fun i p q hp hq=>?_) e;simp only[entriesOf,dm,aK] at hp;obtain⟨x,db,rfl⟩:=hp;exact(h6 i x q (by simpa using db) hq).1
   ·exact h.ok.m k es hc
  ·simp only[σ'] at hx;split at hx
   ·rename_i e;subst e;exact .inr ⟨(h.owns k j h2).1,.inl ⟨j,h2⟩⟩
   ·exact .inl hx
  ·simp[St.setO,bO _ _ hi]
  ·have:k≠k0:=fun e=>by subst e;rw[h2] at hk;simp at hk;exact hi hk.symm
   simp[this,hk]
  ·subst hi;simp only[St.setO,aS];refine⟨rfl,?_⟩;rw[h1,h4];refine .map kt et k0 (entriesOf arr) fT (by simp[σ']) (by simp[entriesOf,h5]) hx (fun i p q hp hq=>?_) (fun i p q hp hq=>?_)
   ·simp only[entriesOf,dm,aK] at hp;obtain⟨e,he,rfl⟩:=hp;exact((h6 i e q (by simpa using he) hq).1).mono hle
   ·simp only[entriesOf,dm,aK] at hp;obtain⟨e,he,rfl⟩:=hp;exact((h6 i e q (by simpa using he) hq).2).mono hle
  ·split at hk
   ·cases hk
   ·rename_i hn;obtain⟨g1,g2,g3,g4⟩:=h.owns k i hk;exact⟨g1,g2,g3,by simp[σ',hn,g4]⟩
 ·exact⟨σ,own,.refl σ,h⟩
end
end Cx
namespace Cx
open Go Go.RowKit
section
variable {C:Ctx} {S:St} {ρ:Env} {σ:Im} {own:Nat→Option Nat} {hv:Nat→Value} {w0:World} {σ0:Base} {A:Nat→Prop} {a:Act} {w:World} {gs:List (Nat×Bool)} {Φ:aR} {dst:Nat}
theorem sl {j:Nat}{e:PE}{ρ':Env}(h:PI.runs Φ [.setO j e] ρ=some ρ'):ρ'=ρ.setO j (e.ev ρ):=by
 simp[PI.runs,PI.run] at h;exact h.symm
theorem nL {ρ':Env}(h:PI.runs Φ [] ρ=some ρ'):ρ'=ρ:=by
 simp[PI.runs] at h;exact h.symm
def Bg (C:Ctx)(w0:World)(σ0:Base)(Φ:aR)(S:St)(ρ:Env)(A:Nat→Prop)(a:Act)(w:World)(r:St×List PI):Prop:=
 ∀ρ',PI.runs Φ r.2 ρ=some ρ'→Good C w0 σ0 r.1 ρ' A a w
theorem akf (h:Inv C S ρ σ own hv w0 σ0 A a w){b:Nat}{r:St×List PI}(hr:Cr S b=some r):Bg C w0 σ0 Φ S ρ A a w r:=by
 unfold Cr at hr;split at hr
 case h_2=>cases hr
 rename_i ag aJ eo;simp only[aB] at hr;obtain⟨x,hx,hr⟩:=hr;have bC:=h.objs b;rw[eo] at bC;obtain⟨k,cs,T,ds,h1,h2,h3,h4,h5,h6,h7⟩:=bC;obtain⟨l1,es,⟨he,rl⟩,l2,cB⟩:=Xf h (cs:=cs.toList) h5 aJ 0 x (fun m s hm=>by rw[zl,lV];exact(h7 m s hm).2) hx
 let σ':Im:={c:=fun k' o=>if k'=k then cs[o]? else σ.c k' o,m:=σ.m}
 have hle:σ.le σ':=by
  refine⟨fun k' o v hc=>?_,fun k es hc=>hc⟩;have:k'≠k:=fun e=>by subst e;rw[(h.owns k' b h2).2.2.1 o] at hc;cases hc
  simp[σ',this,hc]
 have key:∀(t:Ty) (v:Value) (d:D),Rep C.cap σ' t v d→(∀(i:Nat) (u:Value),v.cells[i]?=some u→cs[i]?=some u)→
  Inv C (S.setO b (.fbox t)) (ρ.setO b d) σ' (fun k'=>if k'=k then none else own k') hv w0 σ0 A a w:=by
  intro t v d hrv bD
  refine h.step (fun i=>i=b) rfl hle ?_ (fun k' o x hx=>?_) (fun _ _ hx=>.inl hx) (.refl _ _) ⟨fun _=>bJ _,fun _ _=>rfl⟩ (fun i hi=>⟨?_,?_,rfl,fun k' hk=>⟨?_,rfl⟩⟩) (fun i hi=>?_) (fun k' i hk=>?_) (fun _=>id) (fun t=>.inl ⟨rfl,rfl,rfl⟩) (fun _ _=>rfl) (fun _ _ _=>rfl) (fun k' i hk=>by
        split at hk
        ·cases hk
        ·exact .inl ⟨i,hk⟩) (fun i hi=>by subst hi;simp[St.setO,aS])
  ·refine⟨fun k' o v hc=>?_,h.ok.m⟩;simp only[σ'] at hc;split at hc
   ·rename_i e;subst e;simp[World.cell?,h3,hc]
   ·exact h.ok.c k' o v hc
  ·simp only[σ'] at hx;split at hx
   ·rename_i e;subst e;exact .inr ⟨(h.owns k' b h2).1,.inl ⟨b,h2⟩⟩
   ·exact .inl hx
  ·simp[St.setO,bO _ _ hi]
  ·simp[Env.setO,bO _ _ hi]
  ·have:k'≠k:=fun e=>by subst e;rw[h2] at hk;simp at hk;exact hi hk.symm
   simp[this,hk]
  ·subst hi;simp only[St.setO,aS];exact⟨k,v,h1,by simp only[Env.setO,aS];exact hrv,fun i u hu=>by simp[σ',bD i u hu]⟩
  ·split at hk
   ·cases hk
   ·rename_i hn;obtain⟨g1,g2,g3,g4⟩:=h.owns k' i hk;exact⟨g1,g2,fun o=>by simp[σ',hn,g3 o],g4⟩
 have j0:∀(m:Nat) (t:Ty),x.1[m]?=some t→t.one=true∧Rep C.cap σ' t (cs.toList.getD m undef) (es.getD m .none):=fun m t hm=>by
  obtain⟨g1,g2⟩:=cB m t hm;rw[lV] at g2;exact⟨g1,g2.mono hle⟩
 intro ρ' ax;cases ag with
 |true=>
  simp only[cond_true] at hr;cases hr;have:=sl ax;subst this;refine⟨_,_,_,key (.agg x.1) (.agg cs.toList.toArray) _ ?_ (fun i u hu=>by simpa [Value.cells] using hu)⟩;simp only[PE.ev,he];exact .agg _ _ _ (by simp;omega) (by omega) (fun m t hm=>(j0 m t hm).2) (fun m t hm=>(j0 m t hm).1)
 |false=>
  simp only[cond_false] at hr;split at hr
  ·rename_i t e et ee;cases hr;have:=sl ax;subst this;obtain⟨g1,g2⟩:=j0 0 t (by rw[et];rfl);have ky:es=[e.ev ρ]:=by rw[←rl,ee];rfl
   subst ky;refine⟨_,_,_,key t (cs.toList.getD 0 undef) _ (by simpa using g2) (fun i u hu=>?_)⟩;rw[(g2.oneCell g1).1] at hu;have hi:i=0:=by
        have:=(gl.1 hu).1;simpa using this
   subst hi;simp at hu;subst hu;have:0<cs.size:=by rw[h4];rw[et] at l1;simp at l1;omega
   rw[jo this];simp[be,jo this]
  ·cases hr
theorem Inv.mv (h:Inv C S ρ σ own hv w0 σ0 A a w){j j':Nat}(aC:j≠j')(hk:mA (S.o j)=true):
 Inv C (S.mv j j') (ρ.setO j' (ρ.o j)) σ (fun k=>if own k=some j then some j' else if own k=some j' then none else own k) (cu hv j' (hv j)) w0 σ0 A a w:=by
 have bC:=h.objs j
 refine h.step (fun i=>i=j∨i=j') rfl (.refl σ) h.ok (fun _ _ _ hx=>.inl hx) (fun _ _ hx=>.inl hx) (.refl _ _) ⟨fun i=>?_,fun i e=>?_⟩ (fun i hi=>?_) (fun i hi=>?_) (fun k i hk=>?_) (fun _=>id) (fun t=>.inl ⟨rfl,rfl,rfl⟩) (fun _ _=>rfl) (fun _ _ _=>rfl) (fun k i hk=>by
        split at hk
        ·rename_i e;exact .inl ⟨j,e⟩
        ·split at hk
         ·cases hk
         ·exact .inl ⟨i,hk⟩) (fun i hi=>by
        rcases hi with rfl|rfl
        ·simp[St.mv,aS]
        ·simp only[St.mv,bO _ _ (sJ aC),aS];intro e;rw[e] at hk;cases hk)
 ·simp only[St.mv,gj];split
  ·rename_i e;subst e;omega
  ·split
   ·rename_i e;subst e;omega
   ·omega
 ·simp only[St.mv,gj] at e;split at e
  ·rename_i e';subst e';omega
  ·split at e
   ·rename_i e';subst e';omega
   ·rename_i OF;exact bO _ _ OF
 ·simp only[not_or] at hi;refine⟨by simp[St.mv,bO _ _ hi.1,bO _ _ hi.2],by simp[Env.setO,bO _ _ hi.2],bO _ _ hi.2,fun k hk=>⟨?_,rfl⟩⟩;have e1:i≠j:=hi.1;have e2:i≠j':=hi.2;simp[hk,e1,e2]
 ·rcases hi with rfl|rfl
  ·simp only[St.mv,aS];trivial
  ·simp only[St.mv,bO _ _ (sJ aC),aS];cases cS:S.o j with
   |row T e=>
    rw[cS] at bC;obtain⟨cells,xs,h1,h2,h3,h4⟩:=bC;refine⟨cells,xs,by simp only[Env.setO,aS];exact h1,by rw[aS];exact h2,h3,fun k hk=>?_⟩;rw[aS] at hk;simp[h4 k hk]
   |mp kt et=>
    rw[cS] at bC;obtain⟨k0,arr,clock,es,h1,h2,h3,h4,h5,h6⟩:=bC;exact⟨k0,arr,clock,es,by rw[aS];exact h1,by simp[h2],h3,by simp only[Env.setO,aS];exact h4,h5,h6⟩
   |_=>rw[cS] at hk;simp[mA] at hk
 ·split at hk
  ·rename_i e;exact h.owns k j e
  ·split at hk
   ·cases hk
   ·exact h.owns k i hk
theorem ar0 (h:Inv C S ρ σ own hv w0 σ0 A a w){t j':Nat}{r:St×List PI}(hr:Fj S t j'=some r):Bg C w0 σ0 Φ S ρ A a w r:=by
 intro ρ' ax;unfold Fj at hr;split at hr
 ·rename_i j ver es;cases hb:(Nat.beq ver (S.ver j)&&mA (S.o j)&& !Nat.beq j j')<;>simp only[hb,cond_true,cond_false] at hr
  ·cases hr;rw[nL ax];exact⟨_,_,_,h⟩
  ·cases hr;simp only[ay,kh] at hb;have fq:=aG hb.1.1;have aC:j≠j':=fun e=>by subst e;simp at hb
   have mj:=h.mv aC hb.1.2;have oJ:=h.regs t;rw[es] at oJ;have cT:=oJ.2 fq;rw[sl ax];refine⟨_,_,_,mj.step (S':=(S.mv j j').setR t (.obj j' (S.ver j'+1))) (fun _=>False) rfl (.refl σ) mj.ok (fun _ _ _ hx=>.inl hx) (fun _ _ hx=>.inl hx) (.refl _ _) ⟨fun _=>bJ _,fun _ _=>rfl⟩ (fun i _=>⟨rfl,rfl,rfl,fun k hk=>⟨hk,rfl⟩⟩) (fun _ hf=>hf.elim) mj.owns (fun _=>id) (fun u=>?_) (fun _ _=>rfl) (fun _ _ _=>rfl) (fun k i hk=>.inl ⟨i,hk⟩) (fun _ hf=>hf.elim)⟩;by_cases hu:u=t
   ·subst hu;refine .inr ⟨?_,fun gs s e=>by simp[St.setR,aS] at e⟩;simp only[St.setR,aS];refine⟨?_,fun _=>?_⟩
    ·simp[St.mv,bO _ _ (sJ aC),aS]
    ·rw[aS];exact cT
   ·exact .inl ⟨by simp[St.setR,bO _ _ hu],rfl,rfl⟩
 ·cases hr;rw[nL ax];exact⟨_,_,_,h⟩
theorem arZ (h:Inv C S ρ σ own hv w0 σ0 A a w){b i j':Nat}{r:St×List PI}(hr:Fi S b i j'=some r):Bg C w0 σ0 Φ S ρ A a w r:=by
 intro ρ' ax;unfold Fi at hr;split at hr
 ·rename_i ag aJ eo;split at hr
  ·rename_i j ver es;cases hb:(Nat.beq ver (S.ver j)&&mA (S.o j)&& !Nat.beq j j'&& !Nat.beq b j'&& !Nat.beq b j)<;>simp only[hb,cond_true,cond_false] at hr
   ·cases hr;rw[nL ax];exact⟨_,_,_,h⟩
   ·cases hr;simp only[ay,kh] at hb;have fq:=aG hb.1.1.1.1;have aC:j≠j':=fun e=>by subst e;simp at hb
    have jd:b≠j':=fun e=>by subst e;simp at hb
    have dT:b≠j:=fun e=>by subst e;simp at hb
    have bC:=h.objs b;rw[eo] at bC;obtain⟨k,cs,T,ds,h1,h2,h3,h4,h5,h6,h7⟩:=bC;have cT:=(h7 i _ es).2.2 fq;have mj:=h.mv aC hb.1.1.1.2;rw[sl ax];have ND:(S.mv j j').o b=.box ag aJ:=by simp[St.mv,bO _ _ jd,bO _ _ dT,eo]
    have CW:=mj.objs b;rw[ND] at CW;refine⟨_,_,_,mj.step (S':=(S.mv j j').setO b (.box ag (aJ.set i (.obj j' (S.ver j'+1))))) (fun m=>m=b) rfl (.refl σ) mj.ok (fun _ _ _ hx=>.inl hx) (fun _ _ hx=>.inl hx) (.refl _ _) ⟨fun _=>bJ _,fun _ _=>rfl⟩ (fun m hm=>⟨by simp[St.setO,bO _ _ hm],rfl,rfl,fun k hk=>⟨hk,rfl⟩⟩) (fun m hm=>?_) mj.owns (fun _=>id) (fun t=>.inl ⟨rfl,rfl,rfl⟩) (fun _ _=>rfl) (fun _ _ _=>rfl) (fun k i hk=>.inl ⟨i,hk⟩) (fun m hm=>by subst hm;simp[St.setO,aS])⟩;subst hm;rw[St.setO_o];obtain⟨k1,B6,T1,B7,g1,g2,g3,g4,g5,g6,g7⟩:=CW;have e1:B6=cs:=by
     rw[bO _ _ jd,h1] at g1;cases g1;rw[h3] at g3;cases g3;rfl
    refine⟨k1,B6,T1,B7,g1,g2,g3,by simpa using g4,g5,by simpa using g6,fun q x hq=>?_⟩;rw[Bk] at hq;split at hq
    ·rename_i e;subst e;split at hq
     ·cases hq;refine⟨(fun _ _ e=>by cases e),?_,fun _=>?_⟩
      ·simp[St.setO,St.mv,bO _ _ (sJ aC),aS]
      ·rw[aS,e1];exact cT
     ·cases hq
    ·obtain⟨f1,f2⟩:=g7 q x hq;exact⟨f1,f2.mono' (.refl σ) (Compat.setO _ _ _ _) f1⟩
  ·cases hr;rw[nL ax];exact⟨_,_,_,h⟩
 ·cases hr;rw[nL ax];exact⟨_,_,_,h⟩
theorem ami (h:Inv C S ρ σ own hv w0 σ0 A a w){b i j:Nat}{T:TypeId}{r:St×List PI}(hr:CY C S b i j T=some r):Bg C w0 σ0 Φ S ρ A a w r:=by
 intro ρ' ax;unfold CY at hr;split at hr
 ·rename_i ag aJ eo;split at hr
  ·rename_i e0 e es et;cases hb:(!Nat.beq b j)<;>simp only[hb,cond_true,cond_false] at hr
   ·cases hr;rw[nL ax];exact⟨_,_,_,h⟩
   ·cases hr;have aC:b≠j:=fun e=>by subst e;simp at hb
    have bC:=h.objs b;rw[eo] at bC;obtain⟨k,cs,T0,ds,h1,h2,h3,h4,h5,h6,h7⟩:=bC;have cT:cs.getD i undef=.slice none 0 0:=by
     have:=(h7 i _ es).2;generalize cs.getD i undef=v at this;generalize ds.getD i .none=d at this;cases this;rfl
    have kA:=h.newO j (.row T e) (.list []) (.slice none 0 0) (fun _=>false) (.refl _ _) (by simp) ⟨[],[],by simp[Env.setO,aS],by rw[aS];exact World.ownsRow_nil _ _ _ _,⟨fun _=>undef,by simp,by simp⟩,by rw[aS];simp[Value.ownBlock]⟩;rw[sl ax];have ND:(S.newO j (.row T e)).o b=.box ag aJ:=by simp[St.newO,bO _ _ aC,eo]
    have CW:=kA.objs b;rw[ND] at CW;refine⟨_,_,_,kA.step (S':=(S.newO j (.row T e)).setO b (.box ag (aJ.set i (.obj j (S.ver j+1))))) (fun m=>m=b) rfl (.refl σ) kA.ok (fun _ _ _ hx=>.inl hx) (fun _ _ hx=>.inl hx) (.refl _ _) ⟨fun _=>bJ _,fun _ _=>rfl⟩ (fun m hm=>⟨by simp[St.setO,bO _ _ hm],rfl,rfl,fun k hk=>⟨hk,rfl⟩⟩) (fun m hm=>?_) kA.owns (fun _=>id) (fun t=>.inl ⟨rfl,rfl,rfl⟩) (fun _ _=>rfl) (fun _ _ _=>rfl) (fun k i hk=>.inl ⟨i,hk⟩) (fun m hm=>by subst hm;simp[St.setO,aS])⟩;subst hm;rw[St.setO_o];obtain⟨k1,B6,T1,B7,g1,g2,g3,g4,g5,g6,g7⟩:=CW;have e1:B6=cs:=by
     rw[bO _ _ aC,h1] at g1;cases g1;rw[h3] at g3;cases g3;rfl
    refine⟨k1,B6,T1,B7,g1,g2,g3,by simpa using g4,g5,by simpa using g6,fun q x hq=>?_⟩;rw[Bk] at hq;split at hq
    ·rename_i e';subst e';split at hq
     ·cases hq;refine⟨(fun _ _ e=>by cases e),?_,fun _=>?_⟩
      ·simp[St.setO,St.newO,aS]
      ·rw[aS,e1];exact cT
     ·cases hq
    ·obtain⟨f1,f2⟩:=g7 q x hq;exact⟨f1,f2.mono' (.refl σ) (Compat.setO _ _ _ _) f1⟩
  ·cases hr;rw[nL ax];exact⟨_,_,_,h⟩
 ·cases hr;rw[nL ax];exact⟨_,_,_,h⟩
end
end Cx
