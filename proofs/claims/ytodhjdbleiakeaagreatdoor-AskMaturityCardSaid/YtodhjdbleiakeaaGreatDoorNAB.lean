/-
  Shared texts of this claim.
-/
import Derived.Test.YtodhjdbleiakeaaGreatDoorNAA
import Derived.ChangeKeysEq
import Derived.Laws.Tables
set_option linter.unusedSimpArgs false
set_option linter.unusedVariables false
namespace Cx
open Go Go.RowKit
theorem tM {n:Nat}(h:n≤maxLen):IntKind.i64.min≤(n:Int)∧(n:Int)≤IntKind.i64.max:=by
 simp only[maxLen] at h;simp only[IntKind.min,IntKind.max,IntKind.signed,IntKind.bits];simp;omega
section
variable {C:Ctx} {S:St} {ρ:Env} {σ:Im} {own:Nat→Option Nat} {hv:Nat→Value} {w0:World} {σ0:Base} {A:Nat→Prop} {a:Act} {w:World} {gs:List (Nat×Bool)} {Φ:aT} {dst:Nat}
def Nh (C:Ctx)(σ:Im)(w:World)(B:Nat)(t:Ty)(v:Value)(d:D):Prop:=
 Rep C.cap σ t v d∨
 (∃T e cells xs,t=.slice e.rol∧d=.list xs∧w.ownsRow B T e.size v xs.length cells∧gC C.cap σ e cells xs)∨
 (∃k arr clock es kt et,t=.map kt et∧v=.map (some k)∧w.heap[k]?=some (.map arr clock)∧d=.map es∧es.length=arr.size∧es.length≤maxLen∧
    ∀(i:Nat) (e:MapEntry) (p:D×D),arr[i]?=some e→es[i]?=some p→Rep C.cap σ kt e.key p.1∧Rep C.cap σ et e.val p.2)
theorem W3 (h:Inv C S ρ σ own hv w0 σ0 A a w)(hC:CtxOK C σ0)(hg:holds gs ρ=true){x:Operand}{r:Ty×PE}(hu:view C S gs x=some r):Nh C σ w w0.heap.size r.1 (a.eval x) (r.2.ev ρ):=by
 unfold view at hu;split at hu
 ·rename_i r' Dh;cases hu;exact .inl (cg h hC hg Dh)
 ·split at hu
  ·rename_i t _;obtain⟨hs,_⟩:=od h hg t;split at hu
   ·rename_i j ver e;rw[e] at hs;cases hb:Nat.beq ver (S.ver j)<;>simp only[hb,cond_true,cond_false] at hu
    ·cases hu
    ·have dS:=aL hb;have ho:=h.objs j;have cr:a.eval (.tmp t)=hv j:=hs.2 dS;split at hu
     ·rename_i T e eo;rw[eo] at ho;cases hu;obtain⟨cells,xs,h1,h2,h3,h4⟩:=ho;rw[cr];exact .inr (.inl ⟨T,e,cells,xs,rfl,h1,h2,h3⟩)
     ·rename_i kt et eo;rw[eo] at ho;cases hu;obtain⟨k,arr,clock,es,h1,h2,h3,h4,h5,⟨hx,_⟩,h6⟩:=ho;rw[cr];exact .inr (.inr ⟨k,arr,clock,es,kt,et,rfl,h1,h3,h4,h5,hx,h6⟩)
     ·cases hu
   ·cases hu
  ·cases hu
theorem wq {w:World}{B e size n:Nat}{v:Value}{cells:List Value}(h:w.ownsRow B e size v n cells):∃b c,v=.slice b n c∧n≤maxLen∧n≤c:=by
 rcases h.2 with⟨rfl,rfl⟩|⟨g,cap,cur,rfl,h1,h2,h3,h4,h5⟩
 ·exact⟨none,0,rfl,by decide,bk _⟩
 ·exact⟨_,cap,rfl,j5 h3 h4,h3⟩
theorem Ur {b:Builtin}{args:Array Operand}{ts:Array TypeId}{o:Oper}(ho:o.op=.call {callee:=.builtin b,args:=args,argTypes:=ts}):
 ∃cs,(execOp a.eval o).run C.P w=(builtin b ts o.type cs (args.map a.eval)).run C.P w:=
 ⟨_,by simp only[execOp,ho,resolve,invoke];rfl⟩
theorem azm (h:Inv C S ρ σ own hv w0 σ0 A a w)(hC:CtxOK C σ0)(hg:holds gs ρ=true){T:TypeId}{x:Operand}{r:Sh×List PI}(hr:y6 C S gs dst T x=some r){o:Oper}
 (ho:o.op=.call {callee:=.builtin .len,args:=#[x],argTypes:=#[T]}):dW C S ρ σ hv Φ dst a w o r:=by
 simp only[y6,ax] at hr;obtain⟨p,hp,hr⟩:=hr;have aZ:=W3 h hC hg hp;obtain⟨cs,ao⟩:=Ur (C:=C) (w:=w) (a:=a) ho;split at hr
 ·rename_i e T' e1 e2;rw[e1] at aZ;cases hr;have hx:∃b n c xs,a.eval x=.slice b n c∧p.2.ev ρ=.list xs∧xs.length=n∧n≤maxLen:=by
   rcases aZ with aZ|⟨T,e,cells,xs,ht,hd,bX,iN⟩|⟨k,arr,clock,es,kt,et,ht,_⟩
   ·obtain⟨xs,hd,⟨⟨p0,aW⟩,rfl⟩|⟨k,o,c,aW,h1,h2,_⟩⟩:=aZ.slice_inv
    ·exact⟨p0,0,0,[],aW,hd,rfl,by decide⟩
    ·exact⟨_,_,c,xs,aW,hd,rfl,by omega⟩
   ·obtain⟨b,c,aW,h1,_⟩:=wq bX;exact⟨b,_,c,xs,aW,hd,rfl,h1⟩
   ·cases ht
  obtain⟨b,n,c,xs,aW,hd,hl,hm⟩:=hx;refine .dat (v:=.int .i64 n) ?_ ?_
  ·rw[ao];simp[builtin,Builtin.len_,aW,run_underlying e2,goInt]
  ·simp only[PE.ev,hd,D.l_list,hl];exact .int _ _ (tM hm).1 (tM hm).2
 ·rename_i e T' e1 e2;rw[e1] at aZ;cases hr;rcases aZ with aZ|⟨T,e,cells,xs,ht,_⟩|⟨k,arr,clock,es,kt,et,ht,_⟩
  ·generalize vM:a.eval x=v at aZ;generalize CJ:p.2.ev ρ=d at aZ;cases aZ;refine .dat (v:=.int .i64 0) ?_ ?_
   ·rw[ao];simp[builtin,Builtin.len_,vM,run_underlying e2,goInt]
   ·simp only[PE.ev,CJ,D.l_list];exact .int _ _ (by decide) (by decide)
  ·cases ht
  ·cases ht
 ·rename_i e1 e2;rw[e1] at aZ;cases hr;rcases aZ with aZ|⟨T,e,cells,xs,ht,_⟩|⟨k,arr,clock,es,kt,et,ht,_⟩
  ·obtain⟨n,aW,bu,hm⟩:=aZ.str_inv;refine .dat (v:=.int .i64 n.size) ?_ ?_
   ·rw[ao];simp[builtin,Builtin.len_,aW,run_underlying e2,goInt]
   ·simp only[PE.ev,bu,D.s_str];exact .int _ _ (tM hm).1 (tM hm).2
  ·cases ht
  ·cases ht
 ·rename_i k0 e0 a0 b0 e1 e2;rw[e1] at aZ;cases hr;rcases aZ with aZ|⟨T,e,cells,xs,ht,_⟩|⟨k,arr,clock,es,kt,et,ht,aW,hb,bu,hl,hx,_⟩
  ·generalize vM:a.eval x=v at aZ;generalize CJ:p.2.ev ρ=d at aZ;cases aZ with
   |mapnil=>
    refine .dat (v:=.int .i64 0) ?_ ?_
    ·rw[ao];simp[builtin,Builtin.len_,vM,run_underlying e2,goInt]
    ·simp only[PE.ev,CJ,D.m];exact .int _ _ (by decide) (by decide)
   |map kt et r jc es hm hl hx hk _=>
    obtain⟨_,arr,clock,hb,iO⟩:=(h.ok.m _ _ hm).resolve_right (fun e=>DN hl hk e.1);have hn:arr.size=es.length:=by rw[hl,←iO];simp[entriesOf]
    refine .dat (v:=.int .i64 arr.size) ?_ ?_
    ·rw[ao];simp[builtin,Builtin.len_,vM,run_underlying e2,goInt,getObj,Sem.run,hb]
    ·simp only[PE.ev,CJ,D.m,hn];exact .int _ _ (tM hx).1 (tM hx).2
  ·cases ht
  ·refine .dat (v:=.int .i64 arr.size) ?_ ?_
   ·rw[ao];simp[builtin,Builtin.len_,aW,run_underlying e2,goInt,getObj,Sem.run,hb]
   ·simp only[PE.ev,bu,D.m,hl];exact .int _ _ (tM (hl▸hx)).1 (tM (hl▸hx)).2
 ·cases hr
theorem afJ (h:Inv C S ρ σ own hv w0 σ0 A a w)(hC:CtxOK C σ0)(hg:holds gs ρ=true){mx:Bool}{x y:Operand}{ts:Array TypeId}{r:Sh×List PI}(hr:wg C S gs dst mx x y=some r){o:Oper}
 (ho:o.op=.call {callee:=.builtin (bif mx then .max else .min),args:=#[x,y],argTypes:=ts}):dW C S ρ σ hv Φ dst a w o r:=by
 simp only[wg,ax] at hr;obtain⟨p,hp,q,hq,hr⟩:=hr;have aZ:=cg h hC hg hp;have dA:=cg h hC hg hq;obtain⟨cs,ao⟩:=Ur (C:=C) (w:=w) (a:=a) ho;split at hr
 ·rename_i k k' e1 e2;rw[e1] at aZ;rw[e2] at dA;obtain⟨n,aW,bu,b1,b2⟩:=aZ.int_inv;obtain⟨m,gO,dJ,b3,b4⟩:=dA.int_inv;cases tp:(k==k')<;>simp only[tp,cond_true,cond_false] at hr
  ·cases hr
  ·have Ps:k=k':=by simpa using tp
   subst Ps;cases hr;cases mx with
   |true=>
    refine .dat (v:=.int k (if m>n then m else n)) ?_ ?_
    ·rw[ao];simp[builtin,Builtin.max_,Builtin.max2,aW,gO]
    ·simp only[cond_true,PE.ev,bu,dJ,D.i_int];by_cases ah:m>n<;>simp[ah]<;>constructor<;>assumption
   |false=>
    refine .dat (v:=.int k (if m<n then m else n)) ?_ ?_
    ·rw[ao];simp[builtin,Builtin.min_,Builtin.min2,aW,gO]
    ·simp only[cond_false,PE.ev,bu,dJ,D.i_int];by_cases ah:m<n<;>simp[ah]<;>constructor<;>assumption
 ·cases hr
theorem azb (h:Inv C S ρ σ own hv w0 σ0 A a w)(hC:CtxOK C σ0)(hg:holds gs ρ=true){x:Operand}{i:Nat}{r:Sh×List PI}(hr:yZ C S gs dst x i=some r){o:Oper}(ho:o.op=.extract x i):
 dW C S ρ σ hv Φ dst a w o r:=by
 simp only[yZ,ax] at hr;obtain⟨p,hp,hr⟩:=hr;have aZ:=cg h hC hg hp;split at hr
 ·rename_i ts e1;rw[e1] at aZ;simp only[aH] at hr;obtain⟨t,ht,rfl⟩:=hr;obtain⟨vs,ds,aW,bu,l1,l2,aV⟩:=aZ.tup_inv;have hi:i<vs.length:=by rw[l1];exact(fi.1 ht).1
  refine .dat (v:=vs.getD i undef) ?_ ?_
  ·obtain⟨u,hu⟩:∃u,vs[i]?=some u:=⟨_,bK hi⟩
   have jN:vs.getD i undef=u:=by rw[aS,hu];rfl
   rw[jN];simp[execOp,ho,aW,Instr.extract,hu]
  ·simp only[PE.ev,bu];exact aV i t ht
 ·cases hr
end
end Cx
namespace Cx
open Go Go.RowKit
theorem tI {P:Program}{T:TypeId}{ag:Bool}(h:oY P T=some ag)(w:World):(isAgg T).run P w=.ok ag w:=by
 unfold oY at h;split at h
 ·rename_i fs hu;cases h;simp[isAgg,run_underlying hu]
 ·rename_i n e hu;cases h;simp[isAgg,run_underlying hu]
 ·rename_i d h1 h2 hu;cases h;cases d<;>simp_all [isAgg,run_underlying hu]
 ·cases h
theorem sM (k o n:Nat):(⟨k,o,none⟩:Addr).add n=⟨k,o+n,none⟩:=by
 unfold Addr.add;split<;>simp_all
theorem Ms {P:Program}{T:TypeId}{inf:TypeInfo}{ag:Bool}{w:World}{k o:Nat}{cs:List Value}(hi:P.info? T=some inf)(ha:oY P T=some ag)(hl:cs.length=inf.size)
 (h1:ag=false→cs.length=1) (hc:∀j u,cs[j]?=some u→w.cell? ⟨k,o+j,none⟩=some u):(loadVar T ⟨k,o,none⟩).run P w=.ok (rowOf ag cs) w:=by
 cases ag with
 |true=>
  have:=run_loadCells_list (P:=P) w ⟨k,o,none⟩ cs (fun j v hv=>by rw[sM];exact hc j v hv);rw[hl] at this;simp[loadVar,tI ha,Go.sizeOf,run_typeInfo w hi,this,rowOf]
 |false=>
  obtain⟨u,hu⟩:∃u,cs=[u]:=by
   have:=h1 rfl
   match cs,this with
   |[u],_=>exact⟨u,rfl⟩
  subst hu;have h0:=hc 0 u rfl;simp only[ox] at h0;simp[loadVar,tI ha,rowOf,run_load,h0]
section
variable {C:Ctx} {S:St} {ρ:Env} {σ:Im} {own:Nat→Option Nat} {hv:Nat→Value} {w0:World} {σ0:Base} {A:Nat→Prop} {a:Act} {w:World} {gs:List (Nat×Bool)} {Φ:aT} {dst:Nat}
theorem um {o:Oper}{T:TypeId}{x:Operand}{v:Value}{k off:Nat}(ho:o.op=.load T x)(hx:a.eval x=.pointer (some ⟨k,off,none⟩))(hl:(loadVar T ⟨k,off,none⟩).run C.P w=.ok v w):
 (execOp a.eval o).run C.P w=.ok (.value v) w:=by
 simp[execOp,ho,Instr.loadAt,hx,Instr.sureAddr,hl]
theorem rD {α:Type}{l:List α}{i:Nat}{x d:α}(h:l[i]?=some x):l.getD i d=x:=by
 rw[aS,h];rfl
theorem Jn {cap:Nat→Option CSig}{ts:List Ty}{vs:List Value}{ds:List D}{ag:Bool}{n off:Nat}{ty:Ty}(hp:tV ag n ts off=some ty)
 (h1:vs.length=ts.length) (h2:ds.length=ts.length) (hr:∀(i:Nat) (t:Ty),ts[i]?=some t→Rep cap σ t (vs.getD i undef) (ds.getD i .none)) (ho:∀(i:Nat) (t:Ty),ts[i]?=some t→t.one=true):
 Rep cap σ ty (rowOf ag ((vs.drop off).take n)) (bif ag then .agg ((ds.drop off).take n) else ds.getD off .none)∧((vs.drop off).take n).length=n∧(ag=false→n=1):=by
 unfold tV at hp;cases hle:Nat.ble (off+n) ts.length<;>simp only[hle,cond_true,cond_false] at hp
 ·cases hp
 ·have C1:=kO hle;have hlen:((vs.drop off).take n).length=n:=by simp;omega
  cases ag with
  |true=>
   simp only[cond_true] at hp;cases hp;refine⟨?_,hlen,fun e=>by cases e⟩;simp only[rowOf,if_true,cond_true];refine .agg _ _ _ (by simp;omega) (by simp;omega) (fun i t hi=>?_) (fun i t hi=>?_)
   ·simp only[gD,gX] at hi;split at hi
    ·rename_i bJ;have:=hr (off+i) t hi;simpa [aS,gD,gX,bJ] using this
    ·cases hi
   ·simp only[gD,gX] at hi;split at hi
    ·exact ho _ t hi
    ·cases hi
  |false=>
   simp only[cond_false] at hp;cases hn:Nat.beq n 1<;>simp only[hn,cond_true,cond_false] at hp
   ·cases hp
   ·have kT:=aL hn;subst kT;refine⟨?_,hlen,fun _=>rfl⟩;have:=hr off ty hp;have ah:off<vs.length:=by omega
    simpa [rowOf,aS,gD,gX] using this
theorem Jm {ag:Bool}{n:Nat}{e:PE}{off:Nat}{ds:List D}(h:e.ev ρ=.agg ds):(ze ag n e off).ev ρ=bif ag then .agg ((ds.drop off).take n) else ds.getD off .none:=by
 cases ag<;>simp[ze,PE.ev,h,D.cells,D.c]
theorem Inv.cell (h:Inv C S ρ σ own hv w0 σ0 A a w){k o:Nat}{u:Value}(hc:σ.c k o=some u):w.cell? ⟨k,o,none⟩=some u:=h.ok.c _ _ _ hc
theorem Rep.rowOf {cap:Nat→Option CSig}{t:Ty}{v:Value}{d:D}(h:Rep cap σ t v d):v=Cx.rowOf t.rowT v.cells.toList:=by
 cases h<;>simp[Cx.rowOf,Ty.rowT,Value.cells]
theorem Rep.cells1 {cap:Nat→Option CSig}{t:Ty}{v:Value}{d:D}(h:Rep cap σ t v d)(ht:t.rowT=false):v.cells=#[v]:=by
 cases h<;>simp_all [Ty.rowT,Value.cells]
theorem azo (h:Inv C S ρ σ own hv w0 σ0 A a w){T:TypeId}{x:Operand}{inf:TypeInfo}{ag:Bool}(hi:C.P.info? T=some inf)(ha:oY C.P T=some ag){o:Oper}(ho:o.op=.load T x)
 {ty:Ty} {e:PE} (hr:Rep C.cap σ (.ref ty) (a.eval x) (e.ev ρ)) (hs:Nat.beq inf.size ty.size=true) (hag:(ag==ty.rowT)=true):
 dW C S ρ σ hv Φ dst a w o (.dat ty,[.setR dst (.deref e)]):=by
 obtain⟨k,off,v,y,aW,bu,bU,kf⟩:=hr.ref_inv;have eA:=aL hs;have aah:ag=ty.rowT:=by simpa using hag
 have hz:=bU.size;have Dk:=bU.rowOf;refine .dat (v:=v) (um ho aW ?_) ?_
 ·rw[Dk,←aah];refine Ms hi ha (by simp[hz,eA]) (fun e=>?_) (fun j u hu=>?_)
  ·subst e;simp[bU.cells1 aah.symm]
  ·exact h.cell (kf j u (by simpa using hu))
 ·simp only[PE.ev,bu,D.deref];exact bU
theorem Rep.dcells {cap:Nat→Option CSig}{t:Ty}{v:Value}{d:D}(h:Rep cap σ t v d)(ht:t.one=true):d.cells=[d]:=by
 cases h<;>simp_all [Ty.one,D.cells]
theorem Yx (h:Inv C S ρ σ own hv w0 σ0 A a w){j:Nat}{cs:List Value}{ds:List D}(hd:ρ.o j=.agg ds):
 ∀(shs:List Sh) (i:Nat) (r:List Ty×List PE),(∀m s,shs[m]?=some s→aQ C S ρ σ hv s (cs.getD (i+m) undef) (ds.getD (i+m) .none))→rn S j shs i=some r→
  r.1.length=shs.length∧∃es,(PE.evc ρ r.2=es∧PE.evs ρ r.2=es)∧es.length=shs.length∧(∀m t,r.1[m]?=some t→t.one=true∧Rep C.cap σ t (cs.getD (i+m) undef) (es.getD m .none)):=by
 intro shs
 induction shs with
 |nil=>intro i r aV hr;simp[rn] at hr;subst hr;exact⟨rfl,[],⟨rfl,rfl⟩,rfl,by simp⟩
 |cons s shs ih=>
  intro i r aV hr;simp only[rn,ax] at hr;obtain⟨x,hx,hr⟩:=hr
  have jM:∀m s,shs[m]?=some s→aQ C S ρ σ hv s (cs.getD (i+1+m) undef) (ds.getD (i+1+m) .none):=fun m s hm=>by
   have:=aV (m+1) s (by simpa using hm)
   rwa [show i+(m+1)=i+1+m by omega] at this
  obtain⟨l1,es,⟨he,kR⟩,l2,bU⟩:=ih (i+1) x jM hx;have h0:=aV 0 s rfl;simp only[ox] at h0;split at hr
  ·rename_i t;cases dY:t.one<;>simp only[dY,cond_true,cond_false] at hr
   ·cases hr
   ·cases hr;have fG:Rep C.cap σ t (cs.getD i undef) (ds.getD i .none):=h0;refine⟨by simp[l1],ds.getD i .none::es,⟨?_,by simp only[PE.evs,PE.ev,hd,D.c,D.cells,kR]⟩,by simp[l2],fun m t' hm=>?_⟩
    ·simp only[PE.evc,PE.ev,hd,D.c,D.cells,he];have:=fG.dcells dY;simp only[D.cells] at this;rw[this];rfl
    ·cases m with
     |zero=>simp at hm;subst hm;exact⟨dY,fG⟩
     |succ m=>simp at hm;have:=bU m t' hm;rwa [show i+1+m=i+(m+1) by omega] at this
  ·rename_i j' ver;cases hb:Nat.beq ver (S.ver j')<;>simp only[hb,cond_true,cond_false] at hr
   ·cases hr
   ·have dS:=aL hb;split at hr
    ·rename_i t eo;cases hr;have ho:=h.objs j';rw[eo] at ho;have fG:cs.getD i undef=hv j':=h0.2 dS;refine⟨by simp[l1],ρ.o j'::es,⟨?_,by simp only[PE.evs,PE.ev,kR]⟩,by simp[l2],fun m t' hm=>?_⟩
     ·simp only[PE.evc,PE.ev,he];rw[ho.2.dcells ho.1];rfl
     ·cases m with
      |zero=>simp at hm;subst hm;exact⟨ho.1,by rw[ox,fG];exact ho.2⟩
      |succ m=>simp at hm;have:=bU m t' hm;rwa [show i+1+m=i+(m+1) by omega] at this
    ·cases hr
  ·cases hr
theorem N5 {w:World}{k:Nat}{cs:Array Value}{T:TypeId}{fr:Nat×Nat}(hb:w.heap[k]?=some (.cells cs T fr)){i:Nat}(hi:i<cs.size):w.cell? ⟨k,i,none⟩=some (cs.getD i undef):=by
 simp[World.cell?,hb,dO,fh hi]
theorem xU (cs:Array Value)(i:Nat):cs.toList.getD i undef=cs.getD i undef:=by
 simp[aS,dO]
theorem Jj (h:Inv C S ρ σ own hv w0 σ0 A a w)(hC:CtxOK C σ0)(hg:holds gs ρ=true){T:TypeId}{x:Operand}{r:Sh×List PI}(hr:tU C S gs dst T x=some r){o:Oper}(ho:o.op=.load T x):
 dW C S ρ σ hv Φ dst a w o r:=by
 unfold tU at hr;split at hr
 case h_2=>cases hr
 rename_i inf ag hi ha;have eD:aQ C S ρ σ hv (gj S gs x) (a.eval x) ((ui x).ev ρ):=by
  cases x with
  |tmp t=>exact(od h hg t).1
  |_=>trivial
 split at hr
 ·
  rename_i j ver off es;rw[es] at eD;cases hb:Nat.beq ver (S.ver j)<;>simp only[hb,cond_true,cond_false] at hr
  ·cases hr
  have dS:=aL hb;obtain⟨k,eF,fH⟩:=eD.2 dS;have bq:=h.objs j;split at hr
  ·rename_i bag shs eo;rw[eo] at bq;obtain⟨k',cs,T',ds,h1,h2,h3,h4,h5,h6,h7⟩:=bq;rw[eF] at h1;cases h1;cases ag with
   |true=>
    simp only[cond_true] at hr;cases hle:Nat.ble (off+inf.size) shs.length<;>simp only[hle,cond_true,cond_false] at hr
    ·cases hr
    have C1:=kO hle;simp only[aH] at hr;obtain⟨p,hp,rfl⟩:=hr
    obtain⟨l1,es,⟨he,_⟩,l2,bU⟩:=Yx h (cs:=cs.toList) h5 _ off p (fun m s hm=>by
     simp only[gD,gX] at hm;split at hm
     ·have:=(h7 (off+m) s hm).2;rw[xU];exact this
     ·cases hm) hp
    have hlen:((shs.drop off).take inf.size).length=inf.size:=by simp;omega
    refine .dat (v:=rowOf true ((cs.toList.drop off).take inf.size)) (um ho fH (Ms hi ha (by simp;omega) (fun e=>by cases e) (fun m u hu=>?_))) ?_
    ·simp only[gD,gX] at hu;split at hu
     ·rename_i hm;have:=N5 h3 (i:=off+m) (by omega);rw[this,←xU];exact congrArg some (rD hu)
     ·cases hu
    ·simp only[PE.ev,rowOf,if_true,he];refine .agg _ _ _ (by simp;omega) (by omega) (fun m t hm=>?_) (fun m t hm=>(bU m t hm).1);have rK:m<inf.size:=by have:=(fi.1 hm).1;omega
     have:=(bU m t hm).2;simpa [aS,gD,gX,rK] using this
   |false=>
    simp only[cond_false] at hr;split at hr
    ·rename_i ty hs;cases dY:ty.one<;>simp only[dY,cond_true,cond_false] at hr
     ·cases hr
     cases hr;have oS:=(h7 off _ hs).2;have ah:off<shs.length:=(fi.1 hs).1;have vB:(loadVar T ⟨k,off,none⟩).run C.P w=.ok (cs.getD off undef) w:=by
      simp[loadVar,tI ha,run_load,N5 h3 (i:=off) (by omega)]
     refine .dat (v:=cs.getD off undef) (um ho fH vB) ?_;simp only[PE.ev,h5,D.c,D.cells];exact oS
    ·rename_i j' oh hs;cases hr;have oS:=(h7 off _ hs).2;have ah:off<shs.length:=(fi.1 hs).1;have vB:(loadVar T ⟨k,off,none⟩).run C.P w=.ok (cs.getD off undef) w:=by
      simp[loadVar,tI ha,run_load,N5 h3 (i:=off) (by omega)]
     intro ρ' ao;exact⟨_,_,wP ao,um ho fH vB,oS,fun _ _ e=>by cases e⟩
    ·cases hr
  ·rename_i ts eo;rw[eo] at bq;obtain⟨k',v,h1,h2,h3⟩:=bq;rw[eF] at h1;cases h1;simp only[aH] at hr;obtain⟨ty,bm,rfl⟩:=hr;obtain⟨vs,ds,rfl,hd,l1,l2,aV,dY⟩:=h2.agg_inv;obtain⟨bU,hlen,kT⟩:=Jn bm l1 l2 aV dY;refine .dat (um ho fH (Ms hi ha hlen (fun e=>by rw[hlen];exact kT e) (fun m u hu=>h.cell ?_))) (by rw[Jm (e:=.o j) hd];exact bU);simp only[gD,gX] at hu;split at hu
   ·exact h3 (off+m) u (by simpa [Value.cells] using hu)
   ·cases hu
  ·rename_i ty aB eo;rw[eo] at bq;obtain⟨k',v,h1,h2,h3⟩:=bq;rw[eF] at h1;cases h1;cases hc:(!ag&&ty.one&&Nat.beq off 0)<;>simp only[hc,cond_true,cond_false] at hr
   ·cases hr
   cases hr;simp only[ar,iw] at hc;have iQ:=aL hc.2;subst iQ;have vB:(loadVar T ⟨k,0,none⟩).run C.P w=.ok v w:=by
        have:=h.cell (h3 0 v (by simp[(h2.oneCell hc.1.2).1]));rw[hc.1.1] at ha;simp[loadVar,tI ha,run_load,this]
   exact .dat (um ho fH vB) h2
  ·cases hr
 ·
  rename_i j ver size off es;rw[es] at eD;cases hb:Nat.beq ver (S.ver j)<;>simp only[hb,cond_true,cond_false] at hr
  ·cases hr
  have dS:=aL hb;obtain⟨k,n,c,ik,i,eF,tg,bJ,fH⟩:=eD.2 dS;have bq:=h.objs j;split at hr
  ·rename_i T' ts eo;rw[eo] at bq;obtain⟨cells,xs,h1,h2,⟨vs,h3,h4⟩,h5⟩:=bq;cases aR:Nat.beq size ts.length<;>simp only[aR,cond_true,cond_false] at hr
   ·cases hr
   have qu:=aL aR;simp only[aH] at hr;obtain⟨ty,bm,rfl⟩:=hr;rw[eF] at h2;have bn:=h2.cells (g:=k) rfl;obtain⟨b,c',e1,C2,tq⟩:=wq h2;cases e1;obtain⟨y,hy⟩:∃y,xs[i]?=some y:=⟨_,bK bJ⟩
   have Iq:=h3 i y hy;obtain⟨us,ds,yD,hd,l1,l2,aV,dY⟩:=Iq.agg_inv;obtain⟨bU,hlen,kT⟩:=Jn bm l1 l2 aV dY;have auy:(PE.nth (.o j) (ui x)).ev ρ=.agg ds:=by
        simp only[PE.ev,h1,D.l_list,tg,D.i_int,uJ];rw[rD hy,hd]
   refine .dat (um ho fH (Ms hi ha hlen (fun e=>by rw[hlen];exact kT e) (fun m u hu=>?_))) (by rw[Jm auy];exact bU);simp only[gD,gX] at hu;split at hu
   ·have:=h4 i (off+m) u (by omega) (by rw[yD];simpa [Value.cells] using hu);have:=bn _ _ this;rw[sM] at this;simpa [Ty.size,qu,uO] using this
   ·cases hu
  ·rename_i T' e aB eo;rw[eo] at bq;obtain⟨cells,xs,h1,h2,⟨vs,h3,h4⟩,h5⟩:=bq;cases hc:(!ag&&e.one&&Nat.beq off 0&&Nat.beq size 1)<;>simp only[hc,cond_true,cond_false] at hr
   ·cases hr
   cases hr;simp only[ar,iw] at hc;have iQ:=aL hc.1.2;have aR:=aL hc.2;subst iQ;subst aR;rw[eF] at h2;have bn:=h2.cells (g:=k) rfl;obtain⟨b,c',e1,C2,tq⟩:=wq h2;cases e1;obtain⟨y,hy⟩:∃y,xs[i]?=some y:=⟨_,bK bJ⟩
   have Iq:=h3 i y hy;have vB:(loadVar T ⟨k,i*1+0,none⟩).run C.P w=.ok (vs i) w:=by
        have h6:=h4 i 0 (vs i) bJ (by simp[(Iq.oneCell hc.1.1.2).1]);have:=bn _ _ h6;rw[sM] at this;have CM:e.size=1:=by cases e<;>simp_all [Ty.size,Ty.one]
        rw[hc.1.1.1] at ha;rw[CM] at this;simp only[lC,ox,Nat.mul_one] at this;simp[loadVar,tI ha,run_load,this]
   refine .dat (um ho fH vB) ?_;simp only[PE.ev,h1,D.l_list,tg,D.i_int,uJ];rw[rD hy];exact Iq
  ·cases hr
 ·simp only[ax] at hr;obtain⟨p,hp,hr⟩:=hr;have aZ:=cg h hC hg hp;split at hr
  ·rename_i ty e1;rw[e1] at aZ;cases hc:(Nat.beq inf.size ty.size&&(ag==ty.rowT))<;>simp only[hc,cond_true,cond_false] at hr
   ·cases hr
   cases hr;simp only[ar] at hc;exact azo h hi ha ho aZ hc.1 hc.2
  ·cases hr
end
end Cx
namespace Cx
open Go Go.RowKit
section
variable {C:Ctx} {S:St} {ρ:Env} {σ:Im} {own:Nat→Option Nat} {hv:Nat→Value} {w0:World} {σ0:Base} {A:Nat→Prop} {a:Act} {w:World} {gs:List (Nat×Bool)} {Φ:aT} {dst:Nat}
theorem wR (h:Inv C S ρ σ own hv w0 σ0 A a w)(hg:holds gs ρ=true)(x:Operand):aQ C S ρ σ hv (gj S gs x) (a.eval x) ((ui x).ev ρ)∧∀bM s,gj S gs x≠.opt bM s:=by
 cases x with
 |tmp t=>exact od h hg t
 |_=>exact⟨trivial,fun _ _ e=>by cases e⟩
theorem ZF {P:Program}{T:TypeId}{i:Nat}{f:Field}(h:Cj P T i=some f):∃fs,P.underlying T=some (.struct fs)∧fs[i]?=some f:=by
 unfold Cj at h;split at h
 ·rename_i fs hu;exact⟨fs,hu,h⟩
 ·cases h
theorem Ut {o:Oper}{T:TypeId}{x:Operand}{i:Nat}{f:Field}{inf:TypeInfo}{k off:Nat}(ho:o.op=.fieldAddr T x i)(hf:Cj C.P T i=some f)(hi:C.P.info? f.type=some inf)(hn:Nat.beq inf.size 0=false)
 (hx:a.eval x=.pointer (some ⟨k,off,none⟩)):(execOp a.eval o).run C.P w=.ok (.value (.pointer (some ⟨k,off+f.offset,none⟩))) w:=by
 obtain⟨fs,hu,vu⟩:=ZF hf;have iP:inf.size≠0:=by intro e;simp[e] at hn
 simp[execOp,ho,Instr.fieldAt,run_underlying hu,vu,hx,Instr.sureAddr,fieldPlace,Go.sizeOf,run_typeInfo w hi,iP,sM]
theorem azd (h:Inv C S ρ σ own hv w0 σ0 A a w)(hC:CtxOK C σ0)(hg:holds gs ρ=true){T:TypeId}{x:Operand}{i:Nat}{r:Sh×List PI}(hr:y3 C S gs dst T x i=some r){o:Oper}(ho:o.op=.fieldAddr T x i):
 dW C S ρ σ hv Φ dst a w o r:=by
 simp only[y3,ax] at hr;obtain⟨f,hf,hr⟩:=hr;obtain⟨eD,dX⟩:=wR h hg x;split at hr
 case h_2=>cases hr
 rename_i inf ag hi ha;cases hn:Nat.beq inf.size 0<;>simp only[hn,cond_true,cond_false] at hr
 case true=>cases hr
 split at hr
 ·rename_i j ver size off es;cases hb:Nat.beq ver (S.ver j)<;>simp only[hb,cond_true,cond_false] at hr
  ·cases hr
  cases hr;rw[es] at eD;intro ρ' ao;obtain⟨k,n,c,ik,idx,eF,tg,bJ,fH⟩:=eD.2 (aL hb);exact⟨_,_,wP ao,Ut ho hf hi hn fH,⟨eD.1,fun _=>⟨k,n,c,ik,idx,eF,tg,bJ,by rw[uO]⟩⟩,fun _ _ e=>by cases e⟩
 ·split at hr
  ·rename_i ts e hu;have aZ:=cg h hC hg hu;simp only[aH] at hr;obtain⟨ty,bm,rfl⟩:=hr;obtain⟨k,off,v,y,aW,bu,bU,kf⟩:=Rep.ref_inv aZ;obtain⟨vs,ds,rfl,rfl,l1,l2,aV,dY⟩:=bU.agg_inv;obtain⟨qp,hlen,kT⟩:=Jn bm l1 l2 aV dY;refine .dat (Ut ho hf hi hn aW) ?_;have hde:(PE.deref e).ev ρ=.agg ds:=by simp only[PE.ev,bu,D.deref]
   simp only[PE.ev];rw[Jm hde];refine .ref ty k (off+f.offset) _ _ qp (fun j u hu=>?_);have kr:((vs.drop f.offset).take inf.size)[j]?=some u:=by
        cases ag with
        |true=>simpa [rowOf,Value.cells] using hu
        |false=>
         have:=kT rfl;rw[this] at hlen ⊢;obtain⟨q,hq⟩:∃q,(vs.drop f.offset).take 1=[q]:=by
          match(vs.drop f.offset).take 1,hlen with
          |[q],_=>exact⟨q,rfl⟩
         rw[this] at qp hu;rw[hq] at qp hu ⊢;simp only[rowOf,uM] at qp hu;have tB:ty.rowT=false:=by
          unfold tV at bm;cases hle:Nat.ble (f.offset+inf.size) ts.length<;>simp only[hle,cond_true,cond_false] at bm
          ·cases bm
          ·cases hb:Nat.beq inf.size 1<;>simp only[hb,cond_true,cond_false] at bm
           ·cases bm
           ·have:=dY _ _ bm;cases ty<;>simp_all [Ty.one,Ty.rowT]
         rw[qp.cells1 tB] at hu;simpa using hu
   simp only[gD,gX] at kr;split at kr
   ·have:=kf (f.offset+j) u (by simpa [Value.cells] using kr)
    rwa [←uO] at this
   ·cases kr
  ·split at hr
   ·rename_i j ver off es;cases hb:Nat.beq ver (S.ver j)<;>simp only[hb,cond_true,cond_false] at hr
    ·cases hr
    cases hr;rw[es] at eD;intro ρ' ao;obtain⟨k,eF,fH⟩:=eD.2 (aL hb);exact⟨_,_,wP ao,Ut ho hf hi hn fH,⟨eD.1,fun _=>⟨k,eF,rfl⟩⟩,fun _ _ e=>by cases e⟩
   ·cases hr
theorem azf (h:Inv C S ρ σ own hv w0 σ0 A a w)(hC:CtxOK C σ0)(hg:holds gs ρ=true){T:TypeId}{x:Operand}{i:Nat}{r:Sh×List PI}(hr:y2 C S gs dst T x i=some r){o:Oper}(ho:o.op=.field T x i):
 dW C S ρ σ hv Φ dst a w o r:=by
 simp only[y2,ax] at hr;obtain⟨f,hf,hr⟩:=hr;split at hr
 case h_2=>cases hr
 rename_i inf ag hi ha;split at hr
 case h_2=>cases hr
 rename_i ts e hu;have aZ:=cg h hC hg hu;simp only[aH] at hr;obtain⟨ty,bm,rfl⟩:=hr;obtain⟨vs,ds,aW,bu,l1,l2,aV,dY⟩:=Rep.agg_inv aZ;obtain⟨qp,hlen,kT⟩:=Jn bm l1 l2 aV dY;obtain⟨fs,kr,vu⟩:=ZF hf;have hle:f.offset+inf.size≤ts.length:=by
  unfold tV at bm;cases hle:Nat.ble (f.offset+inf.size) ts.length<;>simp only[hle,cond_true,cond_false] at bm
  ·cases bm
  ·exact kO hle
 refine .dat (v:=rowOf ag ((vs.drop f.offset).take inf.size)) ?_ (by rw[Jm bu];exact qp);cases ag with
 |true=>
  simp only[execOp,ho,Instr.field,aW,asAgg,part];simp[run_underlying kr,vu,tI ha,Go.sizeOf,run_typeInfo w hi,rowOf]
 |false=>
  have hn:=kT rfl;have ah:f.offset<vs.length:=by omega
  simp only[execOp,ho,Instr.field,aW,asAgg,part];simp[run_underlying kr,vu,tI ha,rowOf,hn,bK ah,aS,gD,gX]
theorem ahk {o:Oper}{T e:TypeId}{x i:Operand}{inf:TypeInfo}{k off n c idx:Nat}{ik:IntKind}(ho:o.op=.indexAddr T x i)(hT:C.P.underlying T=some (.slice e))(hi:C.P.info? e=some inf)
 (hx:a.eval x=.slice (some ⟨k,off,none⟩) n c) (atZ:a.eval i=.int ik idx) (ah:idx<n):(execOp a.eval o).run C.P w=.ok (.value (.pointer (some ⟨k,off+idx*inf.size,none⟩))) w:=by
 simp[execOp,ho,Instr.indexAt,run_underlying hT,hx,atZ,asIntOf,ah,Go.sizeOf,run_typeInfo w hi,sM]
theorem My {P:Program}{T:TypeId}{t:Ty}(h:qQ P T t=true):∃inf,P.info? T=some inf∧inf.size=t.size:=by
 unfold qQ at h;split at h
 ·rename_i i hi;exact⟨i,hi,aL h⟩
 ·cases h
theorem azi (h:Inv C S ρ σ own hv w0 σ0 A a w)(hC:CtxOK C σ0)(hg:holds gs ρ=true){T:TypeId}{x i:Operand}{r:Sh×List PI}(hr:y5 C S gs dst T x i=some r){o:Oper}(ho:o.op=.indexAddr T x i):
 dW C S ρ σ hv Φ dst a w o r:=by
 unfold y5 at hr;split at hr
 case h_2=>cases hr
 rename_i e hT;simp only[ax] at hr;obtain⟨p,hp,hr⟩:=hr;have aZ:=cg h hC hg hp;split at hr
 case h_2=>cases hr
 rename_i ik e1;rw[e1] at aZ;obtain⟨idx,aW,bu,b1,b2⟩:=aZ.int_inv;split at hr
 ·rename_i t pe hu;have dc:=cg h hC hg hu;cases aR:qQ C.P e t<;>simp only[aR,cond_true,cond_false] at hr
  ·cases hr
  cases hr;obtain⟨inf,hi,hs⟩:=My aR;obtain⟨xs,hd,yf⟩:=Rep.slice_inv dc;refine .datc hg fun hc=>?_;simp only[PE.ev,hd,bu,D.l_list,D.i_int,D.b_bool,decide_eq_true_eq] at hc;rcases yf with⟨_,rfl⟩|⟨k,off,c,tF,h1,h2,vs,h3,h4⟩
  ·simp at hc;omega
  ·obtain⟨m,rfl⟩:=uI hc.1;have ah:m<xs.length:=by omega
   refine⟨_,ahk ho hT hi tF aW ah,?_⟩;obtain⟨y,hy⟩:∃y,xs[m]?=some y:=⟨_,bK ah⟩
   simp only[PE.ev,hd,bu,D.l_list,D.i_int,uJ,rD hy];exact .ref t.unf k _ (vs m) y (h3 m y hy) (fun j u hu=>by rw[hs];exact h4 m j u ah hu)
 ·cases hr
 ·obtain⟨eD,dX⟩:=wR h hg x;split at hr
  ·rename_i j ver es;rw[es] at eD;cases hb:Nat.beq ver (S.ver j)<;>simp only[hb,cond_true,cond_false] at hr
   ·cases hr
   have dS:=aL hb;have bq:=h.objs j;have cr:=eD.2 dS;split at hr
   ·rename_i T' t eo;rw[eo] at bq;cases aR:qQ C.P e t<;>simp only[aR,cond_true,cond_false] at hr
    ·cases hr
    cases hr;obtain⟨inf,hi,hs⟩:=My aR;obtain⟨cells,xs,h1,h2,⟨vs,h3,h4⟩,h5⟩:=bq;intro ρ' ao;obtain⟨hc,hρ⟩:=Uu hg ao;simp only[PE.ev,h1,bu,D.l_list,D.i_int,D.b_bool,decide_eq_true_eq] at hc;obtain⟨m,rfl⟩:=uI hc.1;have ah:m<xs.length:=by omega
    rcases h2.2 with⟨_,e0⟩|⟨g,cap,cur,eF,_⟩
    ·omega
    ·refine⟨_,_,hρ,ahk ho hT hi (cr.trans eF) aW ah,⟨by omega,fun _=>⟨g,xs.length,cap,ik,m,eF,bu,ah,?_⟩⟩,fun _ _ e=>by cases e⟩;rw[hs];simp
   ·cases hr
  ·cases hr
theorem azk (h:Inv C S ρ σ own hv w0 σ0 A a w)(hC:CtxOK C σ0)(hg:holds gs ρ=true){T:TypeId}{x i:Operand}{r:Sh×List PI}(hr:y4 C S gs dst T x i=some r){o:Oper}(ho:o.op=.index T x i):
 dW C S ρ σ hv Φ dst a w o r:=by
 unfold y4 at hr;split at hr
 case h_2=>cases hr
 rename_i hT;simp only[ax] at hr;obtain⟨p,hp,q,hq,hr⟩:=hr;have aZ:=cg h hC hg hp;have dA:=cg h hC hg hq;split at hr
 case h_2=>cases hr
 rename_i ik e1 e2;rw[e1] at aZ;rw[e2] at dA;obtain⟨idx,aW,bu,b1,b2⟩:=aZ.int_inv;obtain⟨s,gO,dJ,_⟩:=dA.str_inv;cases hr;refine .datc hg fun hc=>?_;simp only[PE.ev,dJ,bu,D.s_str,D.i_int,D.b_bool,decide_eq_true_eq] at hc;obtain⟨m,rfl⟩:=uI hc.1;have ah:m<s.size:=by omega
 refine⟨.int .u8 (s.data.getD m 0).toNat,?_,?_⟩
 ·have:s[m]?=some (s.data.getD m 0):=by
   rw[getElem?_pos s m ah];simp[ByteArray.getElem_eq_getElem_data,dO,fh (show m<s.data.size from ah)]
  simp[execOp,ho,Instr.index,run_underlying hT,aW,gO,asIntOf,this]
 ·simp only[PE.ev,dJ,bu,D.s_str,D.i_int,uJ];refine .int _ _ ?_ ?_
  ·simp only[IntKind.min,IntKind.signed];simp
  ·simp only[IntKind.max,IntKind.signed,IntKind.bits];have:=UInt8.toNat_lt (s.data.getD m 0);simp at this ⊢;omega
end
end Cx
namespace Cx
open Go Go.RowKit
section
variable {C:Ctx} {S:St} {ρ:Env} {σ:Im} {own:Nat→Option Nat} {hv:Nat→Value} {w0:World} {σ0:Base} {A:Nat→Prop} {a:Act} {w:World} {gs:List (Nat×Bool)} {Φ:aT} {dst:Nat}
theorem aEe (h:Inv C S ρ σ own hv w0 σ0 A a w)(hC:CtxOK C σ0)(hg:holds gs ρ=true){lo:Option Operand}{l:Ty×PE}{k:IntKind}(hl:Fx C S gs lo=some l)(hk:l.1=.int k):
 ∃n,l.2.ev ρ=.v (.int k n)∧((lo=none∧n=0)∨∃x,lo=some x∧a.eval x=.int k n):=by
 cases lo with
 |none=>simp[Fx] at hl;subst hl;simp at hk;subst hk;exact⟨0,rfl,.inl ⟨rfl,rfl⟩⟩
 |some x=>
  have:=cg h hC hg hl;rw[hk] at this;obtain⟨n,h1,h2,_⟩:=this.int_inv;exact⟨n,h2,.inr ⟨x,rfl,h1⟩⟩
theorem aEc (h:Inv C S ρ σ own hv w0 σ0 A a w)(hC:CtxOK C σ0)(hg:holds gs ρ=true){e:PE}{hi:Option Operand}{l:Ty×PE}{k:IntKind}(hl:Fw C S gs e hi=some l)(hk:l.1=.int k):
 ∃n,l.2.ev ρ=.v (.int k n)∧((hi=none∧n=(e.ev ρ).l.length)∨∃x,hi=some x∧a.eval x=.int k n):=by
 cases hi with
 |none=>simp[Fw] at hl;subst hl;simp at hk;subst hk;exact⟨_,rfl,.inl ⟨rfl,rfl⟩⟩
 |some x=>
  have:=cg h hC hg hl;rw[hk] at this;obtain⟨n,h1,h2,_⟩:=this.int_inv;exact⟨n,h2,.inr ⟨x,rfl,h1⟩⟩
theorem run_sliceBound {P:Program}{x:Value}{y i:Nat}{k:IntKind}{code:BoundsCode}{w:World}(hx:x=.int k i)(h:i≤y):(Instr.sliceBound x y code).run P w=.ok i w:=by
 subst hx;simp[Instr.sliceBound,asIntOf,h]
theorem azx (h:Inv C S ρ σ own hv w0 σ0 A a w)(hC:CtxOK C σ0)(hg:holds gs ρ=true){T:TypeId}{x:Operand}{lo hi mx:Option Operand}{r:Sh×List PI}(hr:za C S gs dst T x lo hi mx=some r){o:Oper}(ho:o.op=.slice T x lo hi mx):
 dW C S ρ σ hv Φ dst a w o r:=by
 unfold za at hr;split at hr
 case h_3=>cases hr
 case h_2=>
  rename_i n e hT;split at hr
  case h_2=>cases hr
  simp only[ax] at hr;obtain⟨p,hp,hr⟩:=hr;have aZ:=cg h hC hg hp;split at hr
  case h_2=>cases hr
  rename_i t ts e1;cases hc:(Nat.beq n (ts.length+1)&&ts.all (Ty.beq t)&&t.one&&qQ C.P e t&&Nat.ble n maxLen)<;>simp only[hc,cond_true,cond_false] at hr
  ·cases hr
  cases hr;simp only[ar] at hc;obtain⟨⟨⟨⟨c1,c2⟩,c3⟩,c4⟩,c5⟩:=hc;have hn:=aL c1;have hm:=kO c5;obtain⟨inf,nB,hs⟩:=My c4;rw[e1] at aZ;obtain⟨k,off,x0,y,tF,hd,hr0,kf⟩:=aZ.ref_inv;obtain⟨vs,ds,rfl,rfl,l1,l2,iN,_⟩:=hr0.agg_inv
  have aV:∀(i:Nat),i<n→(t::ts)[i]?=some t:=fun i hi=>by
   cases i with
   |zero=>rfl
   |succ i=>
    have ah:i<ts.length:=by omega
    rw[Xw,bK ah];rw[Ty.beq_eq _ _ (bL.1 c2 _ (di ah))]
  have Pu:vs.length=n:=by rw[l1,hn];rfl
  have hld:ds.length=n:=by rw[l2,hn];rfl
  have dY:t.size=1:=by cases t<;>simp_all [Ty.one,Ty.size]
  refine dW.dat (v:=.slice (some ⟨k,off,none⟩) n n) ?_ ?_
  ·have:Addr.add ⟨k,off,none⟩ 0=⟨k,off,none⟩:=by simp[Addr.add]
   simp[execOp,ho,Instr.sliceAt,run_underlying hT,tF,Instr.sureAddr,Instr.sliceBounds,Go.sizeOf,run_typeInfo w nB,this]
  ·have auh:(PE.lst ((List.range n).map fun i=>.cell (.deref p.2) i)).ev ρ=.list ds:=by
        simp only[PE.ev]
        congr 1
        have bO:∀l:List PE,PE.evs ρ l=l.map fun e=>e.ev ρ:=fun l=>by induction l with|nil=>rfl|cons e l ih=>simp[PE.evs,ih]
        rw[bO,FM];apply Xr;intro i;rw[cU];by_cases hi:i<n
        ·rw[pR hi,bK (by omega)];simp only[jF,Function.comp,PE.ev,hd,D.deref,D.c,D.cells];rw[aS,bK (by omega)];rfl
        ·rw[q9 (by simp;omega),q9 (by omega)];rfl
   rw[auh];refine .slice t k off n n ds (fun i=>vs.getD i undef) hld (bk _) hm (fun i x hx=>?_) (fun i j u hi hu=>?_)
   ·have ah:i<n:=by rw[←hld];exact(fi.1 hx).1
    have:=iN i t (aV i ah);rw[rD hx] at this;exact this.unf
   ·have h1:=(iN i t (aV i hi)).oneCell c3;rw[h1.1] at hu;cases j with
    |zero=>
     simp at hu;have:=kf i (vs.getD i undef) (by
      simp only[Value.cells];rw[FK,bK (by omega),aS,bK (by omega)];rfl)
     rw[dY,←hu];simpa using this
    |succ j=>simp at hu
 rename_i e hT;simp only[ax] at hr;obtain⟨p,hp,hr⟩:=hr;have aZ:=cg h hC hg hp;split at hr
 case h_2=>cases hr
 rename_i t e1;rw[e1] at aZ;simp only[ax] at hr;obtain⟨l,hl,u,hu,hr⟩:=hr;split at hr
 case h_2=>cases hr
 rename_i k1 k2 e2 e3;cases aR:qQ C.P e t<;>simp only[aR,cond_true,cond_false] at hr
 ·cases hr
 cases hr;obtain⟨inf,nB,hs⟩:=My aR;obtain⟨n1,bu,vA⟩:=aEe h hC hg hl e2;obtain⟨n2,dJ,Po⟩:=aEc h hC hg hu e3;obtain⟨xs,hd,yf⟩:=Rep.slice_inv aZ;refine .datc hg fun hc=>?_;simp only[PE.ev,hd,bu,dJ,D.l_list,D.i_int,D.b_bool,decide_eq_true_eq] at hc;obtain⟨m1,rfl⟩:=uI hc.1;obtain⟨m2,rfl⟩:=uI (show 0≤n2 by omega);have xX:m1≤m2:=by omega
 have h2l:m2≤xs.length:=by omega
 have aap:∀c,xs.length≤c→(Instr.sliceBounds true xs.length c (lo.map a.eval) (hi.map a.eval) none).run C.P w=.ok (m1,m2,c) w:=by
  intro c ia
  have hh:∀code,(match hi.map a.eval with|some v=>Instr.sliceBound v c code|none=>(pure xs.length:Sem Nat)).run C.P w=.ok m2 w:=by
   intro code;rcases Po with⟨rfl,e⟩|⟨y,rfl,e⟩
   ·rw[hd,D.l_list] at e;simp;omega
   ·simp only[jF];exact run_sliceBound e (by omega)
  have Pt:∀code,(match lo.map a.eval with|some v=>Instr.sliceBound v m2 code|none=>(pure 0:Sem Nat)).run C.P w=.ok m1 w:=by
   intro code;rcases vA with⟨rfl,e⟩|⟨y,rfl,e⟩
   ·simp;omega
   ·simp only[jF];exact run_sliceBound e xX
  have hh':=hh .sliceAcap;have aaU:=Pt .sliceB;unfold Instr.sliceBounds;cases hi<;>cases lo<;>simp at hh' aaU ⊢<;>simp[hh',aaU]
 rcases yf with⟨⟨p0,tF⟩,rfl⟩|⟨k,off,c,tF,h1,h2,vs,h3,h4⟩
 ·have:m2=0:=by simpa using h2l
  have:m1=0:=by omega
  subst_vars
  refine⟨.slice p0 0 0,?_,?_⟩
  ·have hb:=aap 0 (bk _);simp only[xg] at hb;cases p0 with
   |none=>simp[execOp,ho,Instr.sliceAt,Instr.slice,run_underlying hT,tF,hb,Go.sizeOf,run_typeInfo w nB]
   |some a0=>simp[execOp,ho,Instr.sliceAt,Instr.slice,run_underlying hT,tF,hb,Go.sizeOf,run_typeInfo w nB]
  ·simp only[PE.ev,hd,bu,dJ,D.l_list,D.i_int];cases p0 with
   |none=>exact .nil t
   |some a0=>exact .emp t a0
 ·refine⟨.slice (some (if c=m1 then⟨k,off,none⟩ else⟨k,off+m1*inf.size,none⟩)) (m2-m1) (c-m1),?_,?_⟩
  ·have hb:=aap c h1;simp only[execOp,ho,Option.map_none,Instr.sliceAt,run_underlying hT,tF];simp[run_underlying hT,Instr.slice,hb,Go.sizeOf,run_typeInfo w nB,sM];split<;>simp
  ·simp only[PE.ev,hd,bu,dJ,D.l_list,D.i_int,uJ];have hlen:((xs.take m2).drop m1).length=m2-m1:=by simp;omega
   have iN:∀(i:Nat) (y:D),((xs.take m2).drop m1)[i]?=some y→xs[m1+i]?=some y:=by
        intro i y hy;simp only[gX,gD] at hy;split at hy
        ·exact hy
        ·cases hy
   have kf:∀(i j:Nat) (v:Value),i<m2-m1→(vs (m1+i)).cells[j]?=some v→σ.c k (off+m1*inf.size+i*t.size+j)=some v:=by
        intro i j v hi hj;have:=h4 (m1+i) j v (by omega) hj;rw[ou] at this;rw[hs]
        rwa [←uO] at this
   split
   ·rename_i mw;refine .slice t k off (m2-m1) (c-m1) _ (fun i=>vs (m1+i)) hlen (by omega) (by omega) (fun i y hy=>h3 _ _ (iN i y hy)) (fun i j v hi hj=>by omega)
   ·exact .slice t k (off+m1*inf.size) (m2-m1) (c-m1) _ (fun i=>vs (m1+i)) hlen (by omega) (by omega) (fun i y hy=>h3 _ _ (iN i y hy)) kf
theorem ais (h:Inv C S ρ σ own hv w0 σ0 A a w)(hC:CtxOK C σ0)(hg:holds gs ρ=true):∀(xs:List Operand) (r:List Ty×List PE),ll C S gs xs=some r→
 r.1.length=xs.length∧r.2.length=xs.length∧∀(i:Nat) (t:Ty),r.1[i]?=some t→Rep C.cap σ t ((xs.map a.eval).getD i undef) ((PE.evs ρ r.2).getD i .none):=by
 intro xs
 induction xs with
 |nil=>intro r hr;simp[ll] at hr;subst hr;exact⟨rfl,rfl,by simp⟩
 |cons x xs ih=>
  intro r hr;simp only[ll,ax,aH] at hr;obtain⟨p,hp,q,hq,rfl⟩:=hr;obtain⟨l1,l2,aV⟩:=ih q hq;refine⟨by simp[l1],by simp[l2],fun i t hi=>?_⟩;cases i with
  |zero=>simp at hi;subst hi;simpa [PE.evs] using cg h hC hg hp
  |succ i=>simp at hi;simpa [PE.evs] using aV i t hi
theorem azg (h:Inv C S ρ σ own hv w0 σ0 A a w)(hC:CtxOK C σ0)(hg:holds gs ρ=true){fn:Fn}{first caps:Array Operand}{r:Sh×List PI}(hr:Su C S gs dst fn first caps=some r){o:Oper}(ho:o.op=.makeFunc fn first caps):
 dW C S ρ σ hv Φ dst a w o r:=by
 unfold Su at hr;split at hr
 case h_2=>cases hr
 rename_i f CQ;have CN:first=#[]:=by simpa using CQ
 subst CN;simp only[ax] at hr;obtain⟨cs,eT,p,hp,hr⟩:=hr;cases hb:Ty.subs p.1 cs.caps<;>simp only[hb,cond_true,cond_false] at hr
 ·cases hr
 cases hr;obtain⟨l1,l2,aV⟩:=ais h hC hg _ _ hp;have hl:=Ty.subs_len _ _ hb;refine .dat (v:=.func (.func f) #[] (caps.map a.eval)) ?_ ?_
 ·simp[execOp,ho,Instr.makeFunc]
 ·simp only[PE.ev];have:caps.map a.eval=(caps.toList.map a.eval).toArray:=by apply w7;rw[Ak]
  rw[this];have e1:(caps.toList.map a.eval).length=cs.caps.length:=by rw[ix];omega
  have e2:(PE.evs ρ p.2).length=cs.caps.length:=by rw[PE.evs_eq,ix];omega
  refine .fn f cs _ _ eT e1 e2 (fun i t hi=>?_);obtain⟨s,hs,cL⟩:=Ty.subs_get _ _ hb i t hi;exact(aV i s hs).sub cL
theorem azs (h:Inv C S ρ σ own hv w0 σ0 A a w)(hC:CtxOK C σ0)(hg:holds gs ρ=true){x:Operand}{r:Sh×List PI}(hr:y8 C S gs dst x=some r){o:Oper}(ho:o.op=.nilCheck x):
 dW C S ρ σ hv Φ dst a w o r:=by
 have ao:∀k off,a.eval x=.pointer (some ⟨k,off,none⟩)→(execOp a.eval o).run C.P w=.ok (.value (a.eval x)) w:=by
  intro k off e;simp[execOp,ho,e]
 unfold y8 at hr;split at hr
 ·rename_i t e hu;cases hr;have aZ:=cg h hC hg hu;obtain⟨k,off,v,y,aW,bu,bU,kf⟩:=Rep.ref_inv aZ;exact .dat (ao k off aW) aZ
 ·split at hr
  ·rename_i t _;obtain⟨hs,dX⟩:=od h hg t;split at hr
   ·rename_i j ver off es;rw[es] at hs;cases hb:Nat.beq ver (S.ver j)<;>simp only[hb,cond_true,cond_false] at hr
    ·cases hr
    cases hr;obtain⟨k,eF,fH⟩:=hs.2 (aL hb);intro ρ' Dh;exact⟨_,_,wP Dh,ao k off fH,hs,fun _ _ e=>by cases e⟩
   ·rename_i j ver sz off es;rw[es] at hs;cases hb:Nat.beq ver (S.ver j)<;>simp only[hb,cond_true,cond_false] at hr
    ·cases hr
    cases hr;have eC:=hs;obtain⟨k,n,c,ik,i,eF,tg,bJ,fH⟩:=hs.2 (aL hb);intro ρ' Dh;exact⟨_,_,wP Dh,ao _ _ fH,eC,fun _ _ e=>by cases e⟩
   ·cases hr
  ·cases hr
theorem aiB {cap:Nat→Option CSig}{t:Ty}{z:Ty×D}{v:Value}(h:pK t=some z)(hz:wZ t v=true):Rep cap σ z.1 v z.2∧z.1.one=true∧Ty.sub z.1 t=true:=by
 unfold wZ at hz;split at hz
 ·simp at hz;obtain⟨rfl,rfl⟩:=hz;simp[pK] at h;subst h;exact⟨.int _ 0 (by rename_i k;cases k<;>decide) (by rename_i k;cases k<;>decide),rfl,by simp[Ty.sub,Ty.beq]⟩
 ·simp at hz;subst hz;simp[pK] at h;subst h;exact⟨.bool false,rfl,rfl⟩
 ·rename_i s;have:s=ByteArray.empty:=by
   have:s.size=0:=by simpa using hz
   cases s with|mk d=>simp[ByteArray.size] at this;subst this;rfl
  subst this;simp[pK] at h;subst h;exact⟨.str _ (by decide),rfl,rfl⟩
 ·simp[pK] at h;subst h;exact⟨.nils _,rfl,rfl⟩
 ·simp[pK] at h;subst h;refine⟨.mapnil _ _,rfl,?_⟩;simp only[Ty.sub];exact Ty.beq_refl _
 ·simp[pK] at h;subst h;exact⟨.fnnil _ _,rfl,by simp only[Ty.sub];exact Ty.beq_refl _⟩
 ·cases hz
end
end Cx
namespace Cx
open Go Go.RowKit
theorem mapM_some {α β:Type}(f:α→Option β):∀(l:List α) (r:List β),l.mapM f=some r→r.length=l.length∧∀(i:Nat) (x:α),l[i]?=some x→∃y,r[i]?=some y∧f x=some y
 |[],r,h=>by simp at h;subst h;exact⟨rfl,by simp⟩
 |x::l,r,h=>by
  simp only[Xz,Option.bind_eq_bind,ax] at h;obtain⟨y,hy,ys,vP,h⟩:=h;cases h;obtain⟨h1,h2⟩:=mapM_some f l ys vP;refine⟨by simp[h1],fun i z hi=>?_⟩;cases i with
  |zero=>simp at hi;subst hi;exact⟨y,rfl,hy⟩
  |succ i=>simp at hi;simpa using h2 i z hi
theorem Xa:∀(ts:List Ty) (vs:List Value),Ag ts vs=true→vs.length=ts.length∧∀(i:Nat) (t:Ty),ts[i]?=some t→∃v,vs[i]?=some v∧wZ t v=true
 |[],vs,h=>by cases vs<;>simp_all [Ag]
 |t::ts,vs,h=>by
  cases vs with
  |nil=>simp[Ag] at h
  |cons v vs=>
   simp only[Ag,ar] at h;obtain⟨h1,h2⟩:=Xa ts vs h.2;refine⟨by simp[h1],fun i u hi=>?_⟩;cases i with
   |zero=>simp at hi;subst hi;exact⟨v,rfl,h.1⟩
   |succ i=>simp at hi;simpa using h2 i u hi
theorem w6 {cap:Nat→Option CSig}{σ:Im}{t:Ty}{z:Ty×D}{v:Value}(h:om t=some z)(hz:jd t v=true):Rep cap σ z.1 v z.2∧Ty.sub z.1 t=true∧z.1.one=t.one:=by
 cases t with
 |agg ts=>
  simp only[om,aH] at h;obtain⟨zs,rR,rfl⟩:=h;cases v with
  |agg vs=>
   simp only[jd] at hz;obtain⟨l1,h1⟩:=Xa ts vs.toList hz;obtain⟨l2,h2⟩:=mapM_some _ _ _ rR;have key:∀(i:Nat) (t:Ty),ts[i]?=some t→∃y v,zs[i]?=some y∧vs.toList[i]?=some v∧Rep cap σ y.1 v y.2∧y.1.one=true∧Ty.sub y.1 t=true:=by
      intro i t hi;obtain⟨y,hy,rQ⟩:=h2 i t hi;obtain⟨v,hv,gO⟩:=h1 i t hi;obtain⟨g1,g2,g3⟩:=aiB (cap:=cap) (σ:=σ) rQ gO;exact⟨y,v,hy,hv,g1,g2,g3⟩
   have cn:∀(ts:List Ty) (zs:List (Ty×D)),zs.length=ts.length→(∀(i:Nat) (t:Ty),ts[i]?=some t→∃y,zs[i]?=some y∧Ty.sub y.1 t=true)→Ty.subs (zs.map (·.1)) ts=true:=by
      intro ts
      induction ts with
      |nil=>intro zs hl _;cases zs<;>simp_all [Ty.subs]
      |cons t ts ih=>
       intro zs hl hh;cases zs with
       |nil=>simp at hl
       |cons z zs=>
        simp only[gE,Ty.subs,ar];refine⟨?_,ih zs (by simpa using hl) fun i u hu=>by simpa using hh (i+1) u (by simpa using hu)⟩;obtain⟨y,hy,rQ⟩:=hh 0 t rfl;simp at hy;subst hy;exact rQ
   refine⟨?_,?_,rfl⟩
   ·have:vs=vs.toList.toArray:=by simp
    rw[this];refine .agg _ _ _ (by rw[ix];omega) (by simp) (fun i t hi=>?_) (fun i t hi=>?_)
    ·simp only[cU,aH] at hi;obtain⟨q,hq,rfl⟩:=hi;obtain⟨t',Qi⟩:∃t',ts[i]?=some t':=⟨_,bK (by have:=(fi.1 hq).1;omega)⟩
     obtain⟨y,v,hy,hv,g1,g2,g3⟩:=key i t' Qi;rw[hq] at hy;cases hy;rw[rD hv,rD (show(zs.map (·.2))[i]?=some q.2 by simp[hq])];exact g1
    ·simp only[cU,aH] at hi;obtain⟨q,hq,rfl⟩:=hi;obtain⟨t',Qi⟩:∃t',ts[i]?=some t':=⟨_,bK (by have:=(fi.1 hq).1;omega)⟩
     obtain⟨y,v,hy,hv,g1,g2,g3⟩:=key i t' Qi;rw[hq] at hy;cases hy;exact g2
   ·simp only[Ty.sub];exact cn ts zs l2 fun i t hi=>by obtain⟨y,v,hy,hv,g1,g2,g3⟩:=key i t hi;exact⟨y,hy,g3⟩
  |_=>simp[jd] at hz
 |_=>
  obtain⟨g1,g2,g3⟩:=aiB (cap:=cap) (σ:=σ) (by simpa [om] using h) (by simpa [jd] using hz);exact⟨g1,g3,(Ty.sub_one _ _ g3).1⟩
theorem aly {a b:ByteArray}(h:(a==b)=true):a=b:=by
 cases a with|mk x=>cases b with|mk y=>
 have:(x==y)=true:=h;rw[eq_of_beq this]
theorem alz (a:ByteArray):(a==a)=true:=by
 cases a with|mk x=>
 show(x==x)=true;simp
theorem QE {P:Program}{K:TypeId}{kt:Ty}(hk:oZ P K kt=true):
 (∃k k',kt=.int k∧P.underlying K=some (.int k'))∨(kt=.str∧P.underlying K=some .string)∨(kt=.bool∧P.underlying K=some .bool):=by
 unfold oZ at hk;split at hk
 ·split at hk
  ·exact .inl ⟨_,_,rfl,by assumption⟩
  ·cases hk
 ·split at hk
  ·exact .inr (.inl ⟨rfl,by assumption⟩)
  ·cases hk
 ·split at hk
  ·exact .inr (.inr ⟨rfl,by assumption⟩)
  ·cases hk
 ·cases hk
theorem apN {cap:Nat→Option CSig}{σ:Im}{P:Program}{K:TypeId}{kt:Ty}{desc:TypeDesc}(hk:oZ P K kt=true)(hu:P.underlying K=some desc){v:Value}{d:D}(hv:Rep cap σ kt v d):
 ∀(es:List MapEntry) (ds:List (D×D)) (i:Nat),ds.length=es.length→(∀(j:Nat) (e:MapEntry) (p:D×D),es[j]?=some e→ds[j]?=some p→Rep cap σ kt e.key p.1)→
  (Instr.findNow desc v es i=some none∧∀(j:Nat) (p:D×D),ds[j]?=some p→ec d p.1=false)∨
  ∃j e p,es[j]?=some e∧ds[j]?=some p∧Instr.findNow desc v es i=some (some (i+j,e.val))∧ec d p.1=true∧Instr.sameBits 10000 e.key v=true∧∀m q,m<j→ds[m]?=some q→ec d q.1=false:=by
 have dY:∀(v':Value) (d':D),Rep cap σ kt v' d'→Instr.sameNow desc v v'=some (ec d d')∧(ec d d'=true→Instr.sameBits 10000 v' v=true):=by
  intro v' d' h';rcases QE hk with⟨k,k',rfl,kr⟩|⟨rfl,kr⟩|⟨rfl,kr⟩
  ·rw[hu] at kr;cases kr;obtain⟨n,rfl,rfl,_⟩:=hv.int_inv;obtain⟨m,rfl,rfl,_⟩:=h'.int_inv;refine⟨by simp[Instr.sameNow,ec,D.cells,qy,rT],fun e=>?_⟩;have:n=m:=by simpa [ec,D.cells,qy,rT] using e
   subst this;simp[Instr.sameBits]
  ·rw[hu] at kr;cases kr;obtain⟨n,rfl,rfl,_⟩:=hv.str_inv;obtain⟨m,rfl,rfl,_⟩:=h'.str_inv;refine⟨by simp[Instr.sameNow,ec,D.cells,qy,rT],fun e=>?_⟩;have:n=m:=aly (by simpa [ec,D.cells,qy,rT] using e);subst this;simpa [Instr.sameBits] using alz n
  ·rw[hu] at kr;cases kr;obtain⟨n,rfl,rfl⟩:=hv.bool_inv;obtain⟨m,rfl,rfl⟩:=h'.bool_inv;refine⟨by simp[Instr.sameNow,ec,D.cells,qy,rT],fun e=>?_⟩;have:n=m:=by simpa [ec,D.cells,qy,rT] using e
   subst this;simp[Instr.sameBits]
 intro es
 induction es with
 |nil=>intro ds i hl _;left;exact⟨rfl,by cases ds<;>simp_all⟩
 |cons e es ih=>
  intro ds i hl aV;cases ds with
  |nil=>simp at hl
  |cons p ds=>
   obtain⟨hs,hb⟩:=dY e.key p.1 (aV 0 e p rfl rfl);cases mA:ec d p.1 with
   |true=>
    right;rw[mA] at hs;exact⟨0,e,p,rfl,rfl,by simp[Instr.findNow,hs],mA,hb mA,fun m q hm=>by omega⟩
   |false=>
    rw[mA] at hs;rcases ih ds (i+1) (by simpa using hl) (fun j e' p' he hp=>aV (j+1) e' p' (by simpa using he) (by simpa using hp)) with⟨h1,h2⟩|⟨j,e',p',h1,h2,h3,h4,h5,h6⟩
    ·left;refine⟨by simp[Instr.findNow,hs,h1],fun j q hq=>?_⟩;cases j with
     |zero=>simp at hq;subst hq;exact mA
     |succ j=>exact h2 j q (by simpa using hq)
    ·right;refine⟨j+1,e',p',by simpa using h1,by simpa using h2,?_,h4,h5,fun m q hm hq=>?_⟩
     ·simp[Instr.findNow,hs,h3];omega
     ·cases m with
      |zero=>simp at hq;subst hq;exact mA
      |succ m=>exact h6 m q (by omega) (by simpa using hq)
theorem Rf {d:D}:∀{ds:List (D×D)},(∀(j:Nat) (p:D×D),ds[j]?=some p→ec d p.1=false)→lS d ds=none
 |[],_=>rfl
 |p::ds,h=>by simp only[lS,h 0 p rfl];exact Rf fun j q hq=>h (j+1) q (by simpa using hq)
theorem Rg {d:D}:∀{ds:List (D×D)} {j:Nat} {p:D×D},ds[j]?=some p→ec d p.1=true→(∀(m:Nat) (q:D×D),m<j→ds[m]?=some q→ec d q.1=false)→lS d ds=some p.2
 |[],j,p,hp,_,_=>by simp at hp
 |x::ds,0,p,hp,hk,_=>by simp at hp;subst hp;simp[lS,hk]
 |x::ds,j+1,p,hp,hk,hm=>by
  simp only[lS,hm 0 x (by omega) rfl];exact Rg (j:=j) (by simpa using hp) hk fun m q ah hq=>hm (m+1) q (by omega) (by simpa using hq)
theorem SW {d v:D}:∀{ds:List (D×D)},(∀(j:Nat) (p:D×D),ds[j]?=some p→ec d p.1=false)→kC d v ds=ds++[(d,v)]
 |[],_=>rfl
 |p::ds,h=>by simp only[kC,h 0 p rfl,uG,if_false,FG];rw[SW fun j q hq=>h (j+1) q (by simpa using hq)]
theorem SX {d v:D}:∀{ds:List (D×D)} {j:Nat} {p:D×D},ds[j]?=some p→ec d p.1=true→(∀(m:Nat) (q:D×D),m<j→ds[m]?=some q→ec d q.1=false)→kC d v ds=ds.set j (d,v)
 |[],j,p,hp,_,_=>by simp at hp
 |x::ds,0,p,hp,hk,_=>by simp at hp;subst hp;simp[kC,hk]
 |x::ds,j+1,p,hp,hk,hm=>by
  simp only[kC,hm 0 x (by omega) rfl,uG,if_false,List.set_cons_succ];rw[SX (j:=j) (by simpa using hp) hk fun m q ah hq=>hm (m+1) q (by omega) (by simpa using hq)]
theorem abN {P:Program}{K:TypeId}{kt:Ty}(hk:yK P K kt=true):
 ∃k k' e q i,kt=.agg [.int k,.int k']∧P.underlying K=some (.array 2 e)∧P.underlying e=some (.int q)∧P.plainKey e=true∧P.info? e=some i∧P.cellsOf e=1:=by
 unfold yK at hk;split at hk
 case h_2=>cases hk
 rename_i k k';split at hk
 case h_2=>cases hk
 rename_i n e hu;simp only[ar] at hk;obtain⟨⟨⟨h1,h2⟩,h3⟩,h4⟩:=hk;have hn:=aL h1;subst hn;split at h2
 case h_2=>cases h2
 rename_i q hq;split at h4
 case h_2=>cases h4
 rename_i i hi;exact⟨k,k',e,q,i,rfl,hu,hq,h3,hi,aL h4⟩
theorem Rep.pair_inv {cap:Nat→Option CSig}{σ:Im}{k k':IntKind}{v:Value}{d:D}(h:Rep cap σ (.agg [.int k,.int k']) v d):∃a b,v=.agg #[.int k a,.int k' b]∧d=.agg [.v (.int k a),.v (.int k' b)]:=by
 generalize ht:Ty.agg [.int k,.int k']=t at h;cases h with
 |agg ts vs ds h1 h2 h ho=>
  cases ht;obtain⟨x,y,rfl⟩:∃x y,vs=[x,y]:=by
   match vs,h1 with
   |[x,y],_=>exact⟨x,y,rfl⟩
  obtain⟨p,q,rfl⟩:∃x y,ds=[x,y]:=by
   match ds,h2 with
   |[x,y],_=>exact⟨x,y,rfl⟩
  obtain⟨a,e1,e2,_⟩:=(h 0 _ rfl).int_inv;obtain⟨b,e3,e4,_⟩:=(h 1 _ rfl).int_inv;simp at e1 e2 e3 e4;subst e1 e2 e3 e4;exact⟨a,b,rfl,rfl⟩
 |_=>cases ht
theorem aBa {P:Program}{K e:TypeId}{q:IntKind}{i:TypeInfo}(hu:P.underlying K=some (.array 2 e))(hq:P.underlying e=some (.int q))(hp:P.plainKey e=true)(hi:P.info? e=some i)(hc:P.cellsOf e=1)(k k':IntKind)(a b c d:Int)(w:World):
 (Op.equal K (.agg #[.int k a,.int k' b]) (.agg #[.int k c,.int k' d])).run P w=.ok (a==c&&b==d) w:=by
 unfold Op.equal;show(Op.equalIn (9999+1) K _ _).run P w=_;rw[run_equalIn_array w 9999 _ _ hu hi,hc];have e0:List.range 2=[0,1]:=rfl;have p0:∀(x y:Value) (w:World),(part e #[x,y] 0).run P w=.ok x w:=fun x y w=>run_part_plain w hp rfl;have p1:∀(x y:Value) (w:World),(part e #[x,y] 1).run P w=.ok y w:=fun x y w=>run_part_plain w hp rfl;have q0:∀(k:IntKind) (a b:Int) (w:World),(Op.equalIn 9999 e (.int k a) (.int k b)).run P w=.ok (a==b) w:=fun k a b w=>run_equalIn_int w 9998 e k q a b hq;rw[e0];simp only[Op.eqItems,Sem.run_bind,Nat.zero_mul,Nat.one_mul,p0,p1,Result.andThen_ok,q0];cases a==c
 ·simp
 ·simp only[q8,uG,if_false,Sem.run_bind,p1,Result.andThen_ok,q0];cases b==d<;>simp
theorem abM {P:Program}{K:TypeId}{kt:Ty}(hk:tL P K kt=true):oZ P K kt=true∨yK P K kt=true:=by
 unfold tL at hk;simpa using hk
theorem aoa {cap:Nat→Option CSig}{σ:Im}{P:Program}{K:TypeId}{kt:Ty}(hk:yK P K kt=true){v:Value}{d:D}(hv:Rep cap σ kt v d){w:World}{b:Bool}:(Instr.checkKey b 10000 K v).run P w=.ok () w:=by
 obtain⟨k,k',e,q,i,rfl,hu,hq,hp,hi,hc⟩:=abN hk;obtain⟨x,y,rfl,_⟩:=hv.pair_inv;have p0:∀(x y:Value) (w:World),(part e #[x,y] 0).run P w=.ok x w:=fun x y w=>run_part_plain w hp rfl;have p1:∀(x y:Value) (w:World),(part e #[x,y] 1).run P w=.ok y w:=fun x y w=>run_part_plain w hp rfl
 have c0:∀(m:Nat) (k:IntKind) (n:Int) (w:World),(Instr.checkKey b (m+1) e (.int k n)).run P w=.ok () w:=fun m k n w=>by
  simp[Instr.checkKey,run_underlying hq]
 have s0:∀w:World,(Go.sizeOf e).run P w=Result.ok 1 w:=fun w=>by rw[run_sizeOf w hi,hc]
 have main:∀m,(Instr.checkKey b (m+1+1) K (.agg #[.int k x,.int k' y])).run P w=.ok () w:=by
  intro m;rw[Instr.checkKey];simp only[Sem.run_bind,run_underlying hu,Result.andThen_ok,Std.Legacy.Range.forIn_eq_forIn_range',Std.Legacy.Range.size,Nat.sub_zero,Nat.add_one_sub_one,Nat.div_one];simp[List.range',s0,p0,p1,c0,Sem.run_bind,Result.andThen_ok]
 exact main 9998
theorem Za {cap:Nat→Option CSig}{σ:Im}{P:Program}{K:TypeId}{kt:Ty}(hk:tL P K kt=true){v:Value}{d:D}(hv:Rep cap σ kt v d){w:World}{b:Bool}:(Instr.checkKey b 10000 K v).run P w=.ok () w:=by
 rcases abM hk with hk|hk
 case inr=>exact aoa hk hv
 have:∀n,(Instr.checkKey b (n+1) K v).run P w=.ok () w:=by
  intro n;rcases QE hk with⟨k,k',rfl,hu⟩|⟨rfl,hu⟩|⟨rfl,hu⟩<;>cases v<;>simp[Instr.checkKey,run_underlying hu]
 exact this 9999
section
variable {C:Ctx} {S:St} {ρ:Env} {σ:Im} {own:Nat→Option Nat} {hv:Nat→Value} {w0:World} {σ0:Base} {A:Nat→Prop} {a:Act} {w:World} {gs:List (Nat×Bool)} {Φ:aT} {dst:Nat}
theorem avU {P:Program}{K:TypeId}{kt:Ty}(hk:oZ P K kt=true):∃desc,P.underlying K=some desc:=by
 rcases QE hk with⟨k,k',rfl,hu⟩|⟨rfl,hu⟩|⟨rfl,hu⟩<;>exact⟨_,hu⟩
theorem aBb {cap:Nat→Option CSig}{P:Program}{K:TypeId}{kt et:Ty}(hk:yK P K kt=true){v:Value}{d:D}(hv:Rep cap σ kt v d)(arr:Array MapEntry)(ds:List (D×D))(hl:ds.length=arr.size)
 (aV:∀(j:Nat) (e:MapEntry) (p:D×D),arr[j]?=some e→ds[j]?=some p→Rep cap σ kt e.key p.1∧Rep cap σ et e.val p.2) (w:World):
 ((Instr.findKey K v arr.toList).run P w=.ok none w∧lS d ds=none∧∀u,kC d u ds=ds++[(d,u)])∨
 ∃j e p,arr[j]?=some e∧ds[j]?=some p∧(Instr.findKey K v arr.toList).run P w=.ok (some (j,e.val)) w∧lS d ds=some p.2∧(∀u,kC d u ds=ds.set j (d,u))∧Instr.sameBits 10000 e.key v=true:=by
 obtain⟨k,k',e,q,i,rfl,hu,hq,hp,hi,hc⟩:=abN hk;have dY:∀(v':Value) (d':D),Rep cap σ (.agg [.int k,.int k']) v' d'→(Op.equal K v v').run P w=.ok (ec d d') w∧(ec d d'=true→Instr.sameBits 10000 v' v=true)∧Instr.sameNow (.array 2 e) v v'=none:=by
  intro v' d' h';obtain⟨a,b,rfl,rfl⟩:=hv.pair_inv;obtain⟨a',b',rfl,rfl⟩:=h'.pair_inv;refine⟨?_,fun he=>?_,rfl⟩
  ·rw[aBa hu hq hp hi hc];simp[ec,D.cells,qy,rT]
  ·have:a=a'∧b=b':=by simpa [ec,D.cells,qy,rT] using he
   obtain⟨rfl,rfl⟩:=this;simp[Instr.sameBits]
 have ask:∀(es:List MapEntry) (ds:List (D×D)) (i:Nat),ds.length=es.length→(∀(j:Nat) (e:MapEntry) (p:D×D),es[j]?=some e→ds[j]?=some p→Rep cap σ (.agg [.int k,.int k']) e.key p.1)→
  ((Instr.findAsking K v es i).run P w=.ok none w∧∀(j:Nat) (p:D×D),ds[j]?=some p→ec d p.1=false)∨
  ∃j e p,es[j]?=some e∧ds[j]?=some p∧(Instr.findAsking K v es i).run P w=.ok (some (i+j,e.val)) w∧ec d p.1=true∧Instr.sameBits 10000 e.key v=true∧∀m q,m<j→ds[m]?=some q→ec d q.1=false:=by
  intro es
  induction es with
  |nil=>intro ds i hl _;left;exact⟨by simp[Instr.findAsking],by cases ds<;>simp_all⟩
  |cons en es ih=>
   intro ds i hl aV;cases ds with
   |nil=>simp at hl
   |cons p ds=>
    obtain⟨hs,hb,_⟩:=dY en.key p.1 (aV 0 en p rfl rfl);cases mA:ec d p.1 with
    |true=>
     right;rw[mA] at hs;exact⟨0,en,p,rfl,rfl,by simp[Instr.findAsking,hs],mA,hb mA,fun m q hm=>by omega⟩
    |false=>
     rw[mA] at hs;rcases ih ds (i+1) (by simpa using hl) (fun j e' p' he hp=>aV (j+1) e' p' (by simpa using he) (by simpa using hp)) with⟨h1,h2⟩|⟨j,e',p',h1,h2,h3,h4,h5,h6⟩
     ·left;refine⟨by simp[Instr.findAsking,hs,h1],fun j q hq=>?_⟩;cases j with
      |zero=>simp at hq;subst hq;exact mA
      |succ j=>exact h2 j q (by simpa using hq)
     ·right;refine⟨j+1,e',p',by simpa using h1,by simpa using h2,?_,h4,h5,fun m q hm hq=>?_⟩
      ·simp[Instr.findAsking,hs,h3];omega
      ·cases m with
       |zero=>simp at hq;subst hq;exact mA
       |succ m=>exact h6 m q (by omega) (by simpa using hq)
 have kj:(Instr.findKey K v arr.toList).run P w=(Instr.findAsking K v arr.toList 0).run P w:=by
  cases iO:arr.toList with
  |nil=>simp[Instr.findKey,run_underlying hu,Instr.findNow,Instr.findAsking]
  |cons en es=>
   obtain⟨p,Da⟩:∃p,ds[0]?=some p:=by
        have:0<ds.length:=by rw[hl];have:=congrArg List.length iO;simp at this;omega
        exact⟨_,bK this⟩
   have Ph:arr[0]?=some en:=by rw[←Ai,iO];rfl
   have:=(dY en.key p.1 (aV 0 en p Ph Da).1).2.2;simp[Instr.findKey,run_underlying hu,Instr.findNow,this]
 rw[kj];rcases ask arr.toList ds 0 (by simpa using hl) (fun j e p he hp=>(aV j e p (by simpa using he) hp).1) with⟨h1,h2⟩|⟨j,e,p,h1,h2,h3,h4,h5,h6⟩
 ·left;exact⟨h1,Rf h2,fun u=>SW h2⟩
 ·right;simp only[lC] at h3;exact⟨j,e,p,by simpa using h1,h2,h3,Rg h2 h4 h6,fun u=>SX h2 h4 h6,h5⟩
theorem run_findKey {cap:Nat→Option CSig}{P:Program}{K:TypeId}{kt et:Ty}(gL:tL P K kt=true){v:Value}{d:D}(hv:Rep cap σ kt v d)(arr:Array MapEntry)(ds:List (D×D))(hl:ds.length=arr.size)
 (aV:∀(j:Nat) (e:MapEntry) (p:D×D),arr[j]?=some e→ds[j]?=some p→Rep cap σ kt e.key p.1∧Rep cap σ et e.val p.2) (w:World):
 ((Instr.findKey K v arr.toList).run P w=.ok none w∧lS d ds=none∧∀u,kC d u ds=ds++[(d,u)])∨
 ∃j e p,arr[j]?=some e∧ds[j]?=some p∧(Instr.findKey K v arr.toList).run P w=.ok (some (j,e.val)) w∧lS d ds=some p.2∧(∀u,kC d u ds=ds.set j (d,u))∧Instr.sameBits 10000 e.key v=true:=by
 rcases abM gL with hk|hk
 case inr=>exact aBb hk hv arr ds hl aV w
 obtain⟨desc,hu⟩:=avU hk;rcases apN hk hu hv arr.toList ds 0 (by simpa using hl) (fun j e p he hp=>(aV j e p (by simpa using he) hp).1) with⟨h1,h2⟩|⟨j,e,p,h1,h2,h3,h4,h5,h6⟩
 ·left;exact⟨by simp[Instr.findKey,run_underlying hu,h1],Rf h2,fun u=>SW h2⟩
 ·right;refine⟨j,e,p,by simpa using h1,h2,?_,Rg h2 h4 h6,fun u=>SX h2 h4 h6,h5⟩;simp only[lC] at h3;simp[Instr.findKey,run_underlying hu,h3]
theorem azq (h:Inv C S ρ σ own hv w0 σ0 A a w)(hC:CtxOK C σ0)(hg:holds gs ρ=true){T:TypeId}{m k:Operand}{ok:Bool}{r:Sh×List PI}(hr:y7 C S gs dst T m k ok=some r){o:Oper}(ho:o.op=.lookup T m k ok):
 dW C S ρ σ hv Φ dst a w o r:=by
 unfold y7 at hr;split at hr
 case h_2=>cases hr
 rename_i K E hT;simp only[ax] at hr;obtain⟨p,hp,q,hq,hr⟩:=hr;have aZ:=W3 h hC hg hp;have dA:=cg h hC hg hq;split at hr
 case h_2=>cases hr
 rename_i kt et e1;rw[e1] at aZ;split at hr
 case h_2=>cases hr
 rename_i z inf hz nB;cases hc:(Ty.beq q.1 kt&&tL C.P K kt&&Ty.sub z.1 et&&sC inf et)<;>simp only[hc,cond_true,cond_false] at hr
 ·cases hr
 simp only[ar] at hc;obtain⟨⟨⟨H8,CX⟩,cn⟩,hzero⟩:=hc;rw[Ty.beq_eq _ _ H8] at dA;obtain⟨v0,vL,Du⟩:∃v0,inf.zero=some v0∧Rep C.cap σ et v0 z.2:=by
  unfold sC at hzero;split at hzero
  ·rename_i v0 e0;exact⟨v0,e0,(w6 hz hzero).1.sub cn⟩
  ·cases hzero
 have atH:∃(arr:Array MapEntry) (ds:List (D×D)),(p.2.ev ρ).m=ds∧ds.length=arr.size∧
  (∀(j:Nat) (e:MapEntry) (p:D×D),arr[j]?=some e→ds[j]?=some p→Rep C.cap σ kt e.key p.1∧Rep C.cap σ et e.val p.2)∧
  ((a.eval m=.map none∧arr=#[])∨∃g clock,a.eval m=.map (some g)∧w.heap[g]?=some (.map arr clock)):=by
  rcases aZ with aZ|⟨T',e,cells,xs,ht,_⟩|⟨g,arr,clock,es,kt',et',ht,hvm,hb,hd,hl,hx,aV⟩
  ·generalize vM:a.eval m=v at aZ;generalize CJ:p.2.ev ρ=d at aZ;cases aZ with
   |mapnil=>exact⟨#[],[],by simp[D.m],rfl,by simp,.inl ⟨rfl,rfl⟩⟩
   |map kt et r jc es hm hl hx hk he=>
    obtain⟨_,arr,clock,hb,iO⟩:=(h.ok.m _ _ hm).resolve_right (fun e=>DN hl hk e.1);have hn:es.length=arr.size:=by rw[hl,←iO];simp[entriesOf]
    refine⟨arr,es,by simp[D.m],hn,fun j e p hj hp=>?_,.inr ⟨r,clock,rfl,hb⟩⟩;have:jc[j]?=some (e.key,e.val):=by rw[←iO];simp[entriesOf,hj]
    exact⟨hk j _ p this hp,he j _ p this hp⟩
  ·cases ht
  ·cases ht;exact⟨arr,es,by rw[hd];rfl,hl,aV,.inr ⟨g,clock,hvm,hb⟩⟩
 obtain⟨arr,ds,hd,hl,aV,cr⟩:=atH;have jm:∀b,(Instr.checkKey b 10000 K (a.eval k)).run C.P w=.ok () w:=fun b=>Za (cap:=C.cap) (σ:=σ) CX dA;have Px:∃u b x,(Instr.lookup T (a.eval m) (a.eval k) ok).run C.P w=.ok (if ok then .tuple #[u,.bool b] else u) w∧(lS (q.2.ev ρ) (p.2.ev ρ).m).getD z.2=x∧(lS (q.2.ev ρ) (p.2.ev ρ).m).isSome=b∧Rep C.cap σ et u x:=by
  rw[hd];rcases run_findKey CX dA arr ds hl aV w with⟨h1,h2,_⟩|⟨j,e,x,h1,h2,h3,h4,_,_⟩
  ·refine⟨v0,false,z.2,?_,by rw[h2];rfl,by rw[h2];rfl,Du⟩;rcases cr with⟨em,rfl⟩|⟨g,clock,em,hb⟩
   ·simp only[List.toList_toArray] at h1;cases ok<;>simp[Instr.lookup,run_underlying hT,em,jm,h1,zeroValue,run_typeInfo w nB,vL]
   ·cases ok<;>simp[Instr.lookup,run_underlying hT,em,getObj,Sem.run,hb,jm,h1,zeroValue,run_typeInfo w nB,vL]
  ·refine⟨e.val,true,x.2,?_,by rw[h4];rfl,by rw[h4];rfl,(aV j e x h1 h2).2⟩;rcases cr with⟨em,rfl⟩|⟨g,clock,em,hb⟩
   ·simp at h1
   ·cases ok<;>simp[Instr.lookup,run_underlying hT,em,getObj,Sem.run,hb,jm,h3]
 obtain⟨u,b,x,ao,nG,Qv,bU⟩:=Px;cases ok with
 |true=>
  simp only[cond_true] at hr;cases hr;refine .dat (v:=.tuple #[u,.bool b]) (by simp[execOp,ho,ao]) ?_;simp only[PE.ev,PE.evs,nG,Qv];refine .tup [et,.bool] [u,.bool b] [x,.v (.bool b)] rfl rfl (fun i t hi=>?_)
  match i,hi with
  |0,hi=>simp at hi;subst hi;exact bU
  |1,hi=>simp at hi;subst hi;exact .bool b
  |i+2,hi=>simp at hi
 |false=>
  simp only[cond_false] at hr;cases hr;refine .dat (v:=u) (by simp[execOp,ho,ao]) ?_;simp only[PE.ev,nG];exact bU
end
end Cx
namespace Cx
open Go Go.RowKit
theorem ZT (off:Nat):∀(l:List Value) (s:Nat) (cells:Array Value),off+s+l.length≤cells.size→
 ((l.zipIdx s).foldl (fun cs (x:Value×Nat)=>cs.setIfInBounds (off+x.2) x.1) cells).size=cells.size∧
 ∀p,((l.zipIdx s).foldl (fun cs (x:Value×Nat)=>cs.setIfInBounds (off+x.2) x.1) cells)[p]?=if off+s≤p∧p<off+s+l.length then l[p-(off+s)]? else cells[p]?
 |[],s,cells,_=>by
  refine⟨rfl,fun p=>?_⟩;have:¬(off+s≤p∧p<off+s+0):=by omega
  simp only[List.zipIdx_nil,Xv,xg];rw[if_neg this]
 |v::l,s,cells,h=>by
  simp only[pS] at h;obtain⟨h1,h2⟩:=ZT off l (s+1) (cells.setIfInBounds (off+s) v) (by simp;omega);simp only[List.zipIdx_cons,M3];refine⟨by rw[h1];simp,fun p=>?_⟩;rw[h2 p];by_cases hp:p=off+s
  ·subst hp;have c1:¬(off+(s+1)≤off+s∧off+s<off+(s+1)+l.length):=by omega
   have c2:off+s≤off+s∧off+s<off+s+(v::l).length:=by simp
   rw[if_neg c1,if_pos c2,uF,if_pos rfl,if_pos (by omega)];simp
  ·by_cases hc:off+(s+1)≤p∧p<off+(s+1)+l.length
   ·have c2:off+s≤p∧p<off+s+(v::l).length:=by simp only[pS];omega
    rw[if_pos hc,if_pos c2];rw[show p-(off+s)=(p-(off+(s+1)))+1 by omega];simp
   ·have c2:¬(off+s≤p∧p<off+s+(v::l).length):=by simp only[pS];omega
    rw[if_neg hc,if_neg c2,uF];rw[if_neg (by omega)]
theorem OF (place:Nat→Option (Nat×Nat)):∀(parts:List (Nat×Value)) (cells:Array Value),
 (∀p,p∈parts→∃o,place p.1=some (o,p.2.cells.size)∧o+p.2.cells.size≤cells.size)→
 (∀i j oi si oj sj,i≠j→place i=some (oi,si)→place j=some (oj,sj)→oi+si≤oj∨oj+sj≤oi)→(parts.map (·.1)).Nodup→
 ∃eP,Instr.fill place cells parts=some eP∧eP.size=cells.size∧
  (∀i v o,(i,v)∈parts→place i=some (o,v.cells.size)→∀m,m<v.cells.size→eP[o+m]?=v.cells[m]?)∧
  (∀i o s,i∉parts.map (·.1)→place i=some (o,s)→∀m,m<s→eP[o+m]?=cells[o+m]?)
 |[],cells,_,_,_=>⟨cells,rfl,rfl,by simp,fun _ _ _ _ _ _ _=>rfl⟩
 |(i,v)::parts,cells,h,yj,bp=>by
  obtain⟨o,hp,hle⟩:=h (i,v) (dw ..);simp only at hp hle;obtain⟨g1,g2⟩:=ZT o v.cells.toList 0 cells (by simp;omega);simp only[gE,m8] at bp
  have hz:v.cells.zipIdx.foldl (fun cs (x:Value×Nat)=>cs.setIfInBounds (o+x.2) x.1) cells=(v.cells.toList.zipIdx 0).foldl (fun cs (x:Value×Nat)=>cs.setIfInBounds (o+x.2) x.1) cells:=by
    rw[←Array.foldl_toList];simp
  generalize hc1:(v.cells.toList.zipIdx 0).foldl (fun cs (x:Value×Nat)=>cs.setIfInBounds (o+x.2) x.1) cells=c1 at g1 g2 hz
  obtain⟨eP,k1,k2,k3,k4⟩:=OF place parts c1 (fun p hm=>by
    obtain⟨o',h1,h2⟩:=h p (dj _ hm);exact⟨o',h1,by rw[g1];exact h2⟩) yj bp.2
  refine⟨eP,?_,k2.trans g1,?_,?_⟩
  ·simp only[Instr.fill,hp];have:¬((v.cells.size≠v.cells.size||decide (o+v.cells.size>cells.size))=true):=by simp;omega
   rw[if_neg this];rw[←k1,←hz]
  ·intro j u o' hm yx m ah;rcases cG.1 hm with e|eW
   ·cases e;rw[hp] at yx;cases yx;rw[k4 i o v.cells.size bp.1 hp m ah,g2];rw[if_pos (by simp;omega)];simp
   ·exact k3 j u o' eW yx m ah
  ·intro j o' s' lK yx m ah;simp only[gE,cG,not_or] at lK;rw[k4 j o' s' lK.2 yx m ah,g2];have:=yj i j o v.cells.size o' s' (fun e=>lK.1 e.symm) hp yx;rw[if_neg (by simp;omega)]
section
variable {C:Ctx} {S:St} {ρ:Env} {σ:Im} {own:Nat→Option Nat} {hv:Nat→Value} {w0:World} {σ0:Base} {A:Nat→Prop} {a:Act} {w:World} {gs:List (Nat×Bool)} {Φ:aT} {dst:Nat}
theorem Rep.flat {cap:Nat→Option CSig}{t:Ty}{v:Value}{d:D}(h:Rep cap σ t v d)(ht:t.rowT=true∨t.one=true):
 t.flat.length=t.size∧d.cells.length=t.size∧∀(m:Nat) (tm:Ty),t.flat[m]?=some tm→tm.one=true∧Rep cap σ tm (v.cells.getD m undef) (d.cells.getD m .none):=by
 cases h with
 |agg ts vs ds h1 h2 h ho=>
  refine⟨rfl,by simp[D.cells,Ty.size,h2],fun m tm hm=>⟨ho m tm hm,?_⟩⟩;have:=h m tm hm;simpa [Value.cells,D.cells,dO,aS] using this
 |tup ts vs ds h1 h2 h=>simp[Ty.rowT,Ty.one] at ht
 |_=>
  refine⟨rfl,rfl,fun m tm hm=>?_⟩
  match m,hm with
  |0,hm=>
   simp only[Ty.flat,M4,bf] at hm;subst hm;refine⟨rfl,?_⟩;simp only[Value.cells,D.cells,uM];constructor<;>assumption
  |m+1,hm=>simp[Ty.flat] at hm
theorem mP:∀{l:List Nat},ju l=true→l.Nodup
 |[],_=>List.nodup_nil
 |a::r,h=>by
  simp only[ju,ar,iw] at h;refine m8.2 ⟨fun hm=>?_,mP h.2⟩;have:=List.any_eq_false.1 h.1 a hm;simp at this
def Laid (P:Program):List Field→Nat→Prop
 |[],_=>True
 |f::fs,off=>f.offset=off∧∃inf,P.info? f.type=some inf∧Laid P fs (off+inf.size)
theorem Laid.get {P:Program}:∀{fs:List Field} {off:Nat},Laid P fs off→∀(i:Nat) (f:Field),fs[i]?=some f→∃inf,P.info? f.type=some inf∧off≤f.offset∧
 ∀(j:Nat) (g:Field),i<j→fs[j]?=some g→f.offset+inf.size≤g.offset
 |[],_,_,i,f,hi=>by simp at hi
 |f0::fs,off,h,i,f,hi=>by
  obtain⟨h1,inf,h2,h3⟩:=h;cases i with
  |zero=>
   simp at hi;subst hi;refine⟨inf,h2,by omega,fun j g hj hg=>?_⟩;cases j with
   |zero=>omega
   |succ j=>obtain⟨_,_,h4,_⟩:=h3.get j g (by simpa using hg);omega
  |succ i=>
   simp at hi;obtain⟨avJ,k1,k2,k3⟩:=h3.get i f hi;refine⟨avJ,k1,by omega,fun j g hj hg=>?_⟩;cases j with
   |zero=>omega
   |succ j=>exact k3 j g (by omega) (by simpa using hg)
theorem alU {zs:List Value}{parts:List (Nat×Operand)}:∀(fs:List Field) (i off:Nat) (r:List Ty×List PE),j8 C S gs zs parts fs i off=some r→Laid C.P fs off:=by
 intro fs
 induction fs with
 |nil=>intro i off r _;trivial
 |cons f fs ih=>
  intro i off r h;simp only[j8] at h;split at h
  case h_2=>cases h
  rename_i inf ft hi ht;cases hc:(Nat.beq f.offset off&&Nat.beq inf.size ft.size)<;>simp only[hc,cond_true,cond_false] at h
  ·cases h
  simp only[ar] at hc;simp only[ax] at h;obtain⟨q,hq,_⟩:=h;exact⟨aL hc.1,inf,hi,ih _ _ _ hq⟩
theorem Yo {zs:List Value}{parts:List (Nat×Operand)}:∀(fs:List Field) (i off:Nat) (r:List Ty×List PE),j8 C S gs zs parts fs i off=some r→off≤zs.length:=by
 intro fs
 induction fs with
 |nil=>intro i off r h;simp only[j8] at h;cases hb:Nat.beq off zs.length<;>simp[hb] at h;exact Nat.le_of_eq (aL hb)
 |cons f fs ih=>
  intro i off r h;simp only[j8] at h;split at h
  case h_2=>cases h
  rename_i inf ft hi ht;cases hc:(Nat.beq f.offset off&&Nat.beq inf.size ft.size)<;>simp only[hc,cond_true,cond_false] at h
  ·cases h
  simp only[ax] at h;obtain⟨q,hq,_⟩:=h;have:=ih _ _ _ hq;omega
theorem alT {zs:List Value}{parts:List (Nat×Operand)}:∀(fs:List Field) (i off:Nat) (r:List Ty×List PE),j8 C S gs zs parts fs i off=some r→
 ∃ft:List Ty×List PE,r=ft∧(∀(m:Nat) (f:Field) (inf:TypeInfo),fs[m]?=some f→C.P.info? f.type=some inf→f.offset+inf.size≤zs.length)∧(∀(m:Nat) (x:Nat×Operand) (f:Field) (inf:TypeInfo),fs[m]?=some f→C.P.info? f.type=some inf→parts.find? (fun p=>Nat.beq p.1 (i+m))=some x→∃y ft,use C S gs x.2=some y∧Ty.sub y.1 ft=true∧ft.size=inf.size)∧off+r.1.length=zs.length:=by
 intro fs
 induction fs with
 |nil=>intro i off r h;simp only[j8] at h;cases hb:Nat.beq off zs.length<;>simp[hb] at h;subst h;exact⟨_,rfl,by simp,by simp,by simpa using aL hb⟩
 |cons f fs ih=>
  intro i off r h;simp only[j8] at h;split at h
  case h_2=>cases h
  rename_i inf ft hi ht;cases hc:(Nat.beq f.offset off&&Nat.beq inf.size ft.size)<;>simp only[hc,cond_true,cond_false] at h
  ·cases h
  simp only[ar] at hc;have iQ:=aL hc.1;have aR:=aL hc.2;simp only[ax] at h;obtain⟨q,hq,h⟩:=h;have hle:=Yo _ _ _ _ hq;obtain⟨_,rfl,k1,k2,k3⟩:=ih _ _ _ hq;have e1:∀(m:Nat) (g:Field) (ig:TypeInfo),(f::fs)[m]?=some g→C.P.info? g.type=some ig→g.offset+ig.size≤zs.length:=by
   intro m g ig hm fI;cases m with
   |zero=>simp at hm;subst hm;rw[hi] at fI;cases fI;omega
   |succ m=>exact k1 m g ig (by simpa using hm) fI
  have ZS:∀t:Ty,t.flat.length=t.size:=fun t=>by cases t<;>simp[Ty.flat,Ty.size]
  split at h
  ·rename_i x hx;simp only[ax] at h;obtain⟨y,hy,h⟩:=h;cases hs:(Ty.sub y.1 ft&&(y.1.rowT||y.1.one))<;>simp only[hs,cond_true,cond_false] at h
   ·cases h
   cases h;simp only[ar] at hs;refine⟨_,rfl,e1,fun m x' g ig hm fI hf=>?_,?_⟩
   ·cases m with
    |zero=>
     simp at hm;subst hm;rw[hi] at fI;cases fI;simp only[ox] at hf;rw[hx] at hf;cases hf;exact⟨y,ft,hy,hs.1,aR.symm⟩
    |succ m=>exact k2 m x' g ig (by simpa using hm) fI (by rwa [show i+(m+1)=i+1+m by omega] at hf)
   ·have:=(Ty.sub_one _ _ hs.1).2;simp only[j4,ZS];omega
  ·rename_i hx;cases lO:jd ft (rowOf ft.rowT ((zs.drop off).take inf.size))<;>simp only[lO,cond_true,cond_false] at h
   ·cases h
   simp only[aH] at h;obtain⟨z,hz,rfl⟩:=h;have cD:=(w6 (cap:=C.cap) (σ:=⟨fun _ _=>none,fun _=>none⟩) hz lO).2.1;refine⟨_,rfl,e1,fun m x' g ig hm fI hf=>?_,?_⟩
   ·cases m with
    |zero=>simp only[ox] at hf;rw[hx] at hf;cases hf
    |succ m=>exact k2 m x' g ig (by simpa using hm) fI (by rwa [show i+(m+1)=i+1+m by omega] at hf)
   ·have:=(Ty.sub_one _ _ cD).2;simp only[j4,ZS];omega
theorem alV (h:Inv C S ρ σ own hv w0 σ0 A a w)(hC:CtxOK C σ0)(hg:holds gs ρ=true){zs:List Value}{parts:List (Nat×Operand)}(cells:Array Value):
 ∀(fs:List Field) (i off:Nat) (r:List Ty×List PE),j8 C S gs zs parts fs i off=some r→
  (∀(m:Nat) (f:Field) (inf:TypeInfo),fs[m]?=some f→C.P.info? f.type=some inf→
        (∀x,parts.find? (fun p=>Nat.beq p.1 (i+m))=some x→∀q,q<inf.size→cells[f.offset+q]?=(a.eval x.2).cells[q]?)∧
        (parts.find? (fun p=>Nat.beq p.1 (i+m))=none→∀q,q<inf.size→cells[f.offset+q]?=zs[f.offset+q]?))→
  (PE.evc ρ r.2).length=r.1.length∧∀(m:Nat) (t:Ty),r.1[m]?=some t→t.one=true∧Rep C.cap σ t (cells.getD (off+m) undef) ((PE.evc ρ r.2).getD m .none):=by
 intro fs
 induction fs with
 |nil=>intro i off r hr _;simp only[j8] at hr;cases hb:Nat.beq off zs.length<;>simp[hb] at hr;subst hr;simp[PE.evc]
 |cons f fs ih=>
  intro i off r hr aV;simp only[j8] at hr;split at hr
  case h_2=>cases hr
  rename_i inf ft hi ht;cases hc:(Nat.beq f.offset off&&Nat.beq inf.size ft.size)<;>simp only[hc,cond_true,cond_false] at hr
  ·cases hr
  simp only[ar] at hc;have iQ:=aL hc.1;have aR:=aL hc.2;simp only[ax] at hr;obtain⟨q,hq,hr⟩:=hr
  obtain⟨l1,tA⟩:=ih (i+1) (off+inf.size) q hq (fun m g avK hm fI=>by
   have:=aV (m+1) g avK (by simpa using hm) fI
   rwa [show i+(m+1)=i+1+m by omega] at this)
  obtain⟨hp,hn⟩:=aV 0 f inf rfl hi;have join:∀(t:Ty) (v:Value) (d:D) (pe:PE),Rep C.cap σ t v d→(t.rowT=true∨t.one=true)→pe.ev ρ=d→t.size=inf.size→(∀m,m<inf.size→cells[f.offset+m]?=v.cells[m]?)→
        (PE.evc ρ (pe::q.2)).length=(t.flat++q.1).length∧∀(m:Nat) (t':Ty),(t.flat++q.1)[m]?=some t'→t'.one=true∧Rep C.cap σ t' (cells.getD (off+m) undef) ((PE.evc ρ (pe::q.2)).getD m .none):=by
   intro t v d pe bU gM tw Iv bn;obtain⟨f1,f2,f3⟩:=bU.flat gM;simp only[PE.evc,tw];refine⟨by simp[f1,f2,l1],fun m t' hm=>?_⟩;rw[lz] at hm;split at hm
   ·rename_i ah;obtain⟨g1,g2⟩:=f3 m t' hm;refine⟨g1,?_⟩;have e1:cells.getD (off+m) undef=v.cells.getD m undef:=by
     rw[dO,dO,←iQ,bn m (by omega)]
    have e2:(d.cells++PE.evc ρ q.2).getD m .none=d.cells.getD m .none:=by
     rw[aS,aS,jA (by omega)]
    rw[e1,e2];exact g2
   ·rename_i eV;obtain⟨g1,g2⟩:=tA _ t' hm;refine⟨g1,?_⟩;have e1:off+inf.size+(m-t.flat.length)=off+m:=by omega
    have e2:(d.cells++PE.evc ρ q.2).getD m .none=(PE.evc ρ q.2).getD (m-t.flat.length) .none:=by
     rw[aS,aS,kN (by omega)];rw[f1,←f2]
    rw[e1] at g2;rw[e2];exact g2
  simp only[ox] at hp hn;split at hr
  ·rename_i x hx;simp only[ax] at hr;obtain⟨y,hy,hr⟩:=hr;cases hs:(Ty.sub y.1 ft&&(y.1.rowT||y.1.one))<;>simp only[hs,cond_true,cond_false] at hr
   ·cases hr
   cases hr;simp only[ar,gB] at hs;exact join y.1 _ _ y.2 (cg h hC hg hy) hs.2 rfl (by rw[(Ty.sub_one _ _ hs.1).2,aR]) (hp x hx)
  ·rename_i hx;cases lO:jd ft (rowOf ft.rowT ((zs.drop off).take inf.size))<;>simp only[lO,cond_true,cond_false] at hr
   ·cases hr
   simp only[aH] at hr;obtain⟨z,hz,rfl⟩:=hr;obtain⟨k1,k2,k3⟩:=w6 (cap:=C.cap) (σ:=σ) hz lO;have Ib:(rowOf ft.rowT ((zs.drop off).take inf.size)).cells.size=inf.size:=by rw[k1.size,(Ty.sub_one _ _ k2).2,aR]
   refine join z.1 _ z.2 (.con z.2) k1 ?_ rfl (by rw[(Ty.sub_one _ _ k2).2,aR]) (fun m hm=>?_)
   ·cases ft<;>simp[om,pK] at hz<;>first|(subst hz;simp[Ty.one])|(obtain⟨_,_,rfl⟩:=hz;simp[Ty.rowT])
   ·rw[hn hx m hm,iQ];cases tB:ft.rowT with
    |true=>simp[rowOf,Value.cells,gD,gX,hm]
    |false=>
     rw[tB] at Ib k1;have h1:(z.1).rowT=false:=by
       have:=(Ty.sub_one _ _ k2)
       cases ft<;>simp[Ty.rowT] at tB<;>simp[om,pK] at hz<;>subst hz<;>rfl
     rw[k1.cells1 h1] at Ib ⊢;simp at Ib;have hm0:m=0:=by omega
     subst hm0;have:∃u,zs[off]?=some u:=⟨_,bK (show off<zs.length by have:=Yo _ _ _ _ hq;omega)⟩
     simp[rowOf,aS,gD,gX,←Ib];obtain⟨u,hu⟩:=this;simp[hu]
theorem abO {P:Program}:∀(fs:List Field) (off:Nat),Laid P fs off→
 ∃l:List (Nat×Nat),fs.mapM (fun f=>(P.info? f.type).map fun i=>(f.offset,i.size))=some l∧l.length=fs.length∧
  ∀(i:Nat) (f:Field) (inf:TypeInfo),fs[i]?=some f→P.info? f.type=some inf→l[i]?=some (f.offset,inf.size)
 |[],_,_=>⟨[],rfl,rfl,by simp⟩
 |f::fs,off,h=>by
  obtain⟨h1,inf,h2,h3⟩:=h;obtain⟨l,k1,k2,k3⟩:=abO fs _ h3;refine⟨(f.offset,inf.size)::l,?_,by simp[k2],fun i g ig hi fI=>?_⟩
  ·simp[Xz,h2,k1]
  ·cases i with
   |zero=>simp at hi;subst hi;rw[h2] at fI;cases fI;rfl
   |succ i=>simp at hi;simpa using k3 i g ig hi fI
theorem ZH {parts:List (Nat×Operand)}(bp:(parts.map (·.1)).Nodup){i:Nat}{x:Operand}(h:(i,x)∈parts):parts.find? (fun p=>Nat.beq p.1 i)=some (i,x):=by
 induction parts with
 |nil=>cases h
 |cons p ps ih=>
  simp only[gE,m8] at bp;rcases cG.1 h with e|hm
  ·subst e;simp
  ·have:¬p.1=i:=fun e=>bp.1 (e▸List.mem_map_of_mem (f:=(·.1)) hm);rw[List.find?_cons_of_neg (by simpa using this)];exact ih bp.2 hm
theorem ay7 (h:Inv C S ρ σ own hv w0 σ0 A a w)(hC:CtxOK C σ0)(hg:holds gs ρ=true){T:TypeId}{ps:Array (Nat×Operand)}{r:Sh×List PI}(hr:yX C S gs dst T ps.toList=some r){o:Oper}(ho:o.op=.build T ps):
 dW C S ρ σ hv Φ dst a w o r:=by
 unfold yX at hr;split at hr
 case h_3=>cases hr
 case h_2=>
  rename_i n e inf hT nB;split at hr
  case h_2=>cases hr
  rename_i zs ie hz hie;split at hr
  case h_2=>cases hr
  rename_i x y rM;simp only[ax] at hr;obtain⟨p,hp,q,hq,hr⟩:=hr;split at hr
  case h_2=>cases hr
  rename_i k k' hk bt;cases hc:(Nat.beq n 2&&Nat.beq zs.size 2&&Nat.beq ie.size 1)<;>simp only[hc,cond_true,cond_false] at hr
  ·cases hr
  cases hr;simp only[ar] at hc;obtain⟨⟨c1,c2⟩,c3⟩:=hc;have c1:=aL c1;have c2:=aL c2;have c3:=aL c3;subst c1;have hx:=cg h hC hg hp;have hy:=cg h hC hg hq;rw[hk] at hx;rw[bt] at hy;obtain⟨a1,Ou,ea2,_⟩:=hx.int_inv;obtain⟨b1,Ov,eb2,_⟩:=hy.int_inv;have auQ:ps=#[(0,x),(1,y)]:=by rw[←sD];exact rM
  obtain⟨z0,z1,rfl⟩:∃z0 z1,zs=#[z0,z1]:=by
   match zs,c2 with
   |⟨[z0,z1]⟩,_=>exact⟨z0,z1,rfl⟩
  have O7:C.P.built T [(0,a.eval x),(1,a.eval y)]=some #[a.eval x,a.eval y]:=by
   rw[Ou,Ov];simp only[Program.built,nB,hT,hz,hie,c3];simp[Instr.fill,Value.cells]
  have ao:(execOp a.eval o).run C.P w=.ok (.value (.agg #[a.eval x,a.eval y])) w:=by
   have:=run_build (P:=C.P) w T (ps.map fun(x:Nat×Operand)=>(x.1,a.eval x.2)) #[a.eval x,a.eval y] (by rw[auQ];simpa using O7);simp[execOp,ho,this]
  refine .dat ao ?_;have e1:(PE.mk [p.2,q.2]).ev ρ=.agg [p.2.ev ρ,q.2.ev ρ]:=by simp[PE.ev,PE.evc,ea2,eb2,D.cells]
  rw[e1];refine .agg _ [a.eval x,a.eval y] _ rfl rfl (fun i t hi=>?_) (fun i t hi=>?_)
  ·match i,hi with
   |0,hi=>simp at hi;subst hi;rw[hk];simpa using hx
   |1,hi=>simp at hi;subst hi;rw[bt];simpa using hy
   |i+2,hi=>simp at hi
  ·match i,hi with
   |0,hi=>simp at hi;subst hi;rw[hk];rfl
   |1,hi=>simp at hi;subst hi;rw[bt];rfl
   |i+2,hi=>simp at hi
 rename_i fs inf hT nB;split at hr
 case h_2=>cases hr
 rename_i zs hz;cases hc:(ju (ps.toList.map (·.1))&&ps.toList.all (fun p=>Nat.blt p.1 fs.size))<;>simp only[hc,cond_true,cond_false] at hr
 ·cases hr
 simp only[ar] at hc;obtain⟨bp,ah⟩:=hc;simp only[aH] at hr;obtain⟨q,hq,rfl⟩:=hr;have H9:=alU _ _ _ _ hq;have jo:=mP bp;obtain⟨_,rfl,bJ,avu,Pj⟩:=alT _ _ _ _ hq;obtain⟨pl,dZ,aJa,De⟩:=abO _ _ H9
 have lM:∀p,p∈(ps.toList.map fun(x:Nat×Operand)=>(x.1,a.eval x.2))→∃o,pl.toArray[p.1]?=some (o,p.2.cells.size)∧o+p.2.cells.size≤zs.size:=by
  intro p hp;obtain⟨x,hx,rfl⟩:=dx.1 hp;have vO:x.1<fs.toList.length:=by
   have:=bL.1 ah x hx;have h2:x.1<fs.size:=by simpa [iy] using this
   simpa using h2
  obtain⟨f,hf⟩:∃f,fs.toList[x.1]?=some f:=⟨_,bK vO⟩
  obtain⟨ig,fI,_,_⟩:=H9.get _ _ hf;have CP:=ZH jo (i:=x.1) (x:=x.2) hx;obtain⟨y,ft,hy,cn,aR⟩:=avu x.1 (x.1,x.2) f ig hf fI (by simpa using CP);have tD:=(cg h hC hg hy).size;rw[(Ty.sub_one _ _ cn).2,aR] at tD;simp only;refine⟨f.offset,?_,?_⟩
  ·rw[tD];simpa using De x.1 f ig hf fI
  ·rw[tD];simpa using bJ x.1 f ig hf fI
 have yj:∀(i j oi si oj sj:Nat),i≠j→pl.toArray[i]?=some (oi,si)→pl.toArray[j]?=some (oj,sj)→oi+si≤oj∨oj+sj≤oi:=by
  intro i j oi si oj sj aB hi hj;simp only[FK] at hi hj;obtain⟨f,hf⟩:∃f,fs.toList[i]?=some f:=⟨_,bK (by have:=(fi.1 hi).1;omega)⟩
  obtain⟨g,yn⟩:∃g,fs.toList[j]?=some g:=⟨_,bK (by have:=(fi.1 hj).1;omega)⟩
  obtain⟨ig,fI,_,auj⟩:=H9.get _ _ hf;obtain⟨jg,hjg,_,auk⟩:=H9.get _ _ yn;rw[De i f ig hf fI] at hi;rw[De j g jg yn hjg] at hj;cases hi;cases hj;rcases Na i j with ah|eV
  ·exact .inl (auj j g ah yn)
  ·exact .inr (auk i f (by omega) hf)
 obtain⟨eP,f1,f2,f3,f4⟩:=OF (pl.toArray[·]?) (ps.toList.map fun(x:Nat×Operand)=>(x.1,a.eval x.2)) zs lM yj (by simpa [FE] using jo)
 have O7:C.P.built T (ps.toList.map fun(x:Nat×Operand)=>(x.1,a.eval x.2))=some eP:=by
  simp only[Program.built,nB,hT,hz,dZ];exact f1
 have ao:(execOp a.eval o).run C.P w=.ok (.value (.agg eP)) w:=by
  have:=run_build (P:=C.P) w T (ps.map fun(x:Nat×Operand)=>(x.1,a.eval x.2)) eP (by rw[Ak];exact O7);simp[execOp,ho,this]
 refine .dat ao ?_;have vm:∀(m:Nat) (f:Field) (ig:TypeInfo),fs.toList[m]?=some f→C.P.info? f.type=some ig→
  (∀x,ps.toList.find? (fun p=>Nat.beq p.1 (0+m))=some x→∀q,q<ig.size→eP[f.offset+q]?=(a.eval x.2).cells[q]?)∧
  (ps.toList.find? (fun p=>Nat.beq p.1 (0+m))=none→∀q,q<ig.size→eP[f.offset+q]?=zs.toList[f.offset+q]?):=by
  intro m f ig hm fI;refine⟨fun x hx p hp=>?_,fun hx p hp=>?_⟩
  ·have nG:x.1=m:=by have:=FI hx;simpa using this
   have yH:(x.1,a.eval x.2)∈(ps.toList.map fun(x:Nat×Operand)=>(x.1,a.eval x.2)):=dx.2 ⟨x,pU hx,rfl⟩;obtain⟨o',dQ,hle⟩:=lM _ yH;simp only at dQ hle;have aba:=De m f ig hm fI;simp only[FK,nG] at dQ;rw[aba] at dQ;simp only[bf,na] at dQ;obtain⟨e1,e2⟩:=dQ;exact f3 x.1 (a.eval x.2) f.offset yH (by simp[nG,aba,←e2]) p (by omega)
  ·have lK:m∉(ps.toList.map fun(x:Nat×Operand)=>(x.1,a.eval x.2)).map (·.1):=by
        intro cV;simp only[FM,dx,FE] at cV;obtain⟨x,yH,e⟩:=cV;have:=uK.1 hx x yH;simp[e] at this
   rw[f4 m f.offset ig.size lK (by simpa using De m f ig hm fI) p hp];simp
 obtain⟨l1,aV⟩:=alV h hC hg eP _ _ _ _ hq vm
 ·simp only[PE.ev];have:eP=eP.toList.toArray:=by simp
  rw[this];have hlen:eP.toList.length=q.1.length:=by simp[f2] at Pj ⊢;omega
  refine .agg _ _ _ hlen l1 (fun i t hi=>?_) (fun i t hi=>(aV i t hi).1);have:=(aV i t hi).2;simpa [dO,aS] using this
end
end Cx
namespace Cx
open Go Go.RowKit
def aa8 (b i:Nat):Nat:=4096*(i+1)+b
def St.fz (S:St)(j:Nat):St:=
 match S.o j with
 |.row _ e=>S.setO j (.fz (.slice e.rol))
 |.mp k e=>S.setO j (.fz (.map k e))
 |_=>S
def Cu (S:St)(b:Nat):Option (St×List PI):=
 match S.o b with
 |.box ag shs=>
  (rn S b shs 0).bind fun x=>
    bif ag then some (S.setO b (.fbox (.agg x.1)),[.setO b (.mk x.2)])
    else match x.1,x.2 with
     |[t],[e]=>some (S.setO b (.fbox t),[.setO b e])
     |_,_=>Option.none
 |_=>Option.none
def St.mv (S:St)(j j':Nat):St:=
 {S with o:=cf (cf S.o j' (S.o j)) j .dead,ver:=cf (cf S.ver j' (S.ver j'+1)) j (S.ver j+1)}
def mJ:Ob→Bool
 |.row ..=>true
 |.mp ..=>true
 |_=>false
def wN (S:St)(t j':Nat):Option (St×List PI):=
 match S.r t with
 |.obj j ver=>
  bif Nat.beq ver (S.ver j)&&mJ (S.o j)&& !Nat.beq j j' then some ((S.mv j j').setR t (.obj j' (S.ver j'+1)),[.setO j' (.o j)])
  else some (S,[])
 |_=>some (S,[])
def E7 (S:St)(b i j':Nat):Option (St×List PI):=
 match S.o b with
 |.box ag shs=>
  match shs[i]? with
  |some (.obj j ver)=>
   bif Nat.beq ver (S.ver j)&&mJ (S.o j)&& !Nat.beq j j'&& !Nat.beq b j'&& !Nat.beq b j then
    some ((S.mv j j').setO b (.box ag (shs.set i (.obj j' (S.ver j'+1)))),[.setO j' (.o j)])
   else some (S,[])
  |_=>some (S,[])
 |_=>some (S,[])
def C9 (C:Ctx)(S:St)(b i j:Nat)(T:TypeId):Option (St×List PI):=
 match S.o b with
 |.box ag shs=>
  match shs[i]?,og C.P T with
  |some (.dat (.nils _)),some e=>
   bif !Nat.beq b j then some ((S.newO j (.row T e)).setO b (.box ag (shs.set i (.obj j (S.ver j+1)))),[.setO j (.con (.list []))])
   else some (S,[])
  |_,_=>some (S,[])
 |_=>some (S,[])
section
variable {C:Ctx} {S:St} {ρ:Env} {σ:Im} {own:Nat→Option Nat} {hv:Nat→Value} {w0:World} {σ0:Base} {A:Nat→Prop} {a:Act} {w:World} {gs:List (Nat×Bool)} {Φ:aT} {dst:Nat}
theorem Inv.lt (h:Inv C S ρ σ own hv w0 σ0 A a w){k o:Nat}{u:Value}(hc:σ.c k o=some u):k<w.heap.size:=World.block_lt_of_cell? w (a:=⟨k,o,none⟩) (h.ok.c _ _ _ hc)
theorem Inv.ltm (h:Inv C S ρ σ own hv w0 σ0 A a w){k:Nat}{es:List (Value×Value)}(hc:σ.m k=some es):k<w.heap.size:=by
 exact(h.ok.m _ _ hc).lt
theorem Im.ok.below {σ:Im}{w w':World}(h:σ.ok w)(hb:Below w.heap.size w w'):σ.ok w':=by
 refine⟨fun k o v hc=>?_,fun k es hc=>?_⟩
 ·have h1:=h.c k o v hc;rw[hb.cell (World.block_lt_of_cell? w (a:=⟨k,o,none⟩) h1)];exact h1
 ·exact(h.m k es hc).keep (hb.block k (h.m k es hc).lt)
def fM (own:Nat→Option Nat)(j:Nat)(nb:Nat→Bool):Nat→Option Nat:=fun k=>if nb k then some j else if own k=some j then none else own k
theorem Inv.newOσ (h:Inv C S ρ σ own hv w0 σ0 A a w)(j:Nat)(ob:Ob)(d:D)(v:Value)(nb:Nat→Bool){σ':Im}{w':World}(hle:σ.le σ')(aE:σ'.ok w')(dq:∀k o x,σ'.c k o=some x→σ.c k o=some x∨w.heap.size≤k)(db:∀k x,σ'.m k=some x→σ.m k=some x∨w.heap.size≤k)
 (hw:Below w.heap.size w w') (dp:∀k,nb k=true→w.heap.size≤k∧k<w'.heap.size) (da:∀k,nb k=true→(∀o,σ'.c k o=none)∧σ'.m k=none)
 (cJ:cl C (S.newO j ob) (ρ.setO j d) σ' (fM own j nb) (cf hv j v) w' w0.heap.size j ob) (mC:ob≠.tr:=by intro h;cases h):Inv C (S.newO j ob) (ρ.setO j d) σ' (fM own j nb) (cf hv j v) w0 σ0 A a w':=by
 have aR:w0.heap.size≤w.heap.size:=h.below.size;have bX:∀k i,i≠j→own k=some i→fM own j nb k=some i:=by
  intro k i hi hk;have h1:=h.owns k i hk;have h2:nb k=false:=by
   cases hn:nb k with
   |false=>rfl
   |true=>have:=dp k hn;omega
  simp[fM,h2,hk,hi]
 refine h.step (fun i=>i=j) rfl hle aE (fun k o x hx=>(dq k o x hx).imp id fun e=>⟨by omega,.inr e⟩) (fun k x hx=>(db k x hx).imp id fun e=>⟨by omega,.inr e⟩) (hw.mono aR) ⟨fun i=>?_,fun i e=>?_⟩ (fun i hi=>⟨?_,?_,?_,fun k hk=>⟨bX k i hi hk,?_⟩⟩) (fun i hi=>?_) (fun k i hk=>?_) (fun _=>id) (fun t=>.inl ⟨rfl,rfl,rfl⟩) (fun _ _=>rfl) (fun k hk _=>hw.block k hk) (fun k i hk=>by
  unfold fM at hk;split at hk
  ·rename_i hn;exact .inr (dp k hn).1
  ·split at hk
   ·cases hk
   ·exact .inl ⟨i,hk⟩) (fun i hi=>by subst hi;simpa only[St.newO,aU] using mC)
 ·simp only[St.newO,fS];split<;>rename_i e
  ·subst e;omega
  ·omega
 ·simp only[St.newO,fS] at e;split at e
  ·rename_i e';subst e';omega
  ·rename_i aB;exact bz _ _ aB
 ·simp[St.newO,bz _ _ hi]
 ·simp[Env.setO,bz _ _ hi]
 ·exact bz _ _ hi
 ·exact hw.block k (h.owns k i hk).2.1
 ·subst hi;simp only[St.newO,aU];exact cJ
 ·unfold fM at hk;split at hk
  ·rename_i hn;obtain⟨g1,g2⟩:=dp k hn;exact⟨by omega,g2,(da k hn).1,(da k hn).2⟩
  ·split at hk
   ·cases hk
   ·obtain⟨g1,g2,g3,g4⟩:=h.owns k i hk;refine⟨g1,by have:=hw.size;omega,fun o=>?_,?_⟩
    ·cases hc:σ'.c k o with
     |none=>rfl
     |some u=>
      rcases dq k o u hc with e|e
      ·rw[g3 o] at e;cases e
      ·omega
    ·cases hc:σ'.m k with
     |none=>rfl
     |some u=>
      rcases db k u hc with e|e
      ·rw[g4] at e;cases e
      ·omega
theorem Inv.newO (h:Inv C S ρ σ own hv w0 σ0 A a w)(j:Nat)(ob:Ob)(d:D)(v:Value)(nb:Nat→Bool){w':World}(hw:Below w.heap.size w w')(dp:∀k,nb k=true→w.heap.size≤k∧k<w'.heap.size)
 (cJ:cl C (S.newO j ob) (ρ.setO j d) σ (fM own j nb) (cf hv j v) w' w0.heap.size j ob) (mC:ob≠.tr:=by intro h;cases h):Inv C (S.newO j ob) (ρ.setO j d) σ (fM own j nb) (cf hv j v) w0 σ0 A a w':=by
 refine h.newOσ j ob d v nb (.refl σ) (h.ok.below hw) (fun _ _ _ hx=>.inl hx) (fun _ _ hx=>.inl hx) hw dp (fun k hn=>⟨fun o=>?_,?_⟩) cJ mC
 ·cases hc:σ.c k o with
  |none=>rfl
  |some u=>have:=h.lt hc;have:=(dp k hn).1;omega
 ·cases hc:σ.m k with
  |none=>rfl
  |some u=>have:=h.ltm hc;have:=(dp k hn).1;omega
theorem Inv.setObj (h:Inv C S ρ σ own hv w0 σ0 A a w){t j:Nat}(ht:¬A t){v:Value}(eF:hv j=v)(ah:t<a.tmps.size):
 Inv C (S.setR t (.obj j (S.ver j))) (ρ.setR t .none) σ own hv w0 σ0 (fun u=>A u∨u=t) (a.put (some t) v) w:=
 h.setReg ht (s:=.obj j (S.ver j)) (v:=v) (d:=.none) ⟨bk _,fun _=>eF.symm⟩ ah (fun _ _ e=>by cases e)
theorem Hz (S:St)(j:Nat):(S.fz j).ver=S.ver∧(S.fz j).r=S.r:=by
 unfold St.fz;split<;>exact⟨rfl,rfl⟩
theorem Inv.fz (h:Inv C S ρ σ own hv w0 σ0 A a w)(j:Nat):∃σ' own',σ.le σ'∧Inv C (S.fz j) ρ σ' own' hv w0 σ0 A a w:=by
 have bq:=h.objs j;unfold St.fz;split
 ·rename_i T e eo;rw[eo] at bq;obtain⟨cells,xs,h1,h2,⟨vs,h3,h4⟩,h5⟩:=bq;have aR:w0.heap.size≤w.heap.size:=h.below.size
  let nb:Nat→Bool:=fun k=>decide ((hv j).ownBlock=some k)
  let σ':Im:={c:=fun k o=>if nb k then cells[o]? else σ.c k o,m:=σ.m}
  have dp:∀k,nb k=true→own k=some j:=fun k hk=>h5 k (by simpa [nb] using hk);have hle:σ.le σ':=by
   refine⟨fun k o v hc=>?_,fun k es hc=>hc⟩;have:nb k=false:=by
        cases hn:nb k with
        |false=>rfl
        |true=>have:=(h.owns k j (dp k hn)).2.2.1 o;rw[this] at hc;cases hc
   simp[σ',this,hc]
  refine⟨σ',fun k=>if nb k then none else own k,hle,h.step (fun i=>i=j) rfl hle ?_ (fun k o x hx=>?_) (fun _ _ hx=>.inl hx) (.refl _ _) ⟨fun _=>bk _,fun _ _=>rfl⟩ (fun i hi=>⟨?_,rfl,rfl,fun k hk=>⟨?_,rfl⟩⟩) (fun i hi=>?_) (fun k i hk=>?_) (fun _=>id) (fun t=>.inl ⟨rfl,rfl,rfl⟩) (fun _ _=>rfl) (fun _ _ _=>rfl) (fun k i hk=>by
        split at hk
        ·cases hk
        ·exact .inl ⟨i,hk⟩) (fun i hi=>by subst hi;simp[St.setO,aU])⟩
  ·refine⟨fun k o v hc=>?_,h.ok.m⟩;simp only[σ'] at hc;split at hc
   ·rename_i hn;have cJ:(hv j).ownBlock=some k:=by simpa [nb] using hn
    have:=h2.cells cJ o v hc;rw[sM] at this;simpa using this
   ·exact h.ok.c k o v hc
  ·simp only[σ'] at hx;split at hx
   ·rename_i hn;exact .inr ⟨(h.owns k j (dp k hn)).1,.inl ⟨j,dp k hn⟩⟩
   ·exact .inl hx
  ·simp[St.setO,bz _ _ hi]
  ·have:nb k=false:=by
        cases hn:nb k with
        |false=>rfl
        |true=>rw[dp k hn] at hk;simp at hk;exact absurd hk.symm hi
   simp[this,hk]
  ·subst hi;simp only[St.setO,aU];refine⟨rfl,?_⟩;rw[h1];rcases h2.2 with⟨e1,e2⟩|⟨g,cap,cur,e1,e2,e3,e4,e5,e6,e7⟩
   ·rw[e1];have:xs=[]:=Xq e2;subst this;exact .nil _
   ·rw[e1];refine .slice e.rol g 0 xs.length cap xs vs rfl e4 e5 (fun i x hx=>((h3 i x hx).mono hle).unf_rol) (fun i m u hi hu=>?_);rw[Ty.rol_size];have hn:nb g=true:=by simp[nb,e1,Value.ownBlock]
    simp only[σ',hn,if_true,lC];exact h4 i m u hi hu
  ·split at hk
   ·cases hk
   ·rename_i hn;obtain⟨g1,g2,g3,g4⟩:=h.owns k i hk;exact⟨g1,g2,fun o=>by simp[σ',hn,g3 o],g4⟩
 ·rename_i kt et eo;rw[eo] at bq;obtain⟨k0,arr,clock,fY,h1,h2,h3,h4,h5,⟨hx,_⟩,h6⟩:=bq;have aR:w0.heap.size≤w.heap.size:=h.below.size
  let σ':Im:={c:=σ.c,m:=fun k=>if k=k0 then some (entriesOf arr) else σ.m k}
  have hle:σ.le σ':=by
   refine⟨fun k o v hc=>hc,fun k es hc=>?_⟩;have:k≠k0:=fun e=>by subst e;rw[(h.owns k j h2).2.2.2] at hc;cases hc
   simp[σ',this,hc]
  refine⟨σ',fun k=>if k=k0 then none else own k,hle,h.step (fun i=>i=j) rfl hle ?_ (fun k o x hx=>.inl hx) (fun k x hx=>?_) (.refl _ _) ⟨fun _=>bk _,fun _ _=>rfl⟩ (fun i hi=>⟨?_,rfl,rfl,fun k hk=>⟨?_,rfl⟩⟩) (fun i hi=>?_) (fun k i hk=>?_) (fun _=>id) (fun t=>.inl ⟨rfl,rfl,rfl⟩) (fun _ _=>rfl) (fun _ _ _=>rfl) (fun k i hk=>by
        split at hk
        ·cases hk
        ·exact .inl ⟨i,hk⟩) (fun i hi=>by subst hi;simp[St.setO,aU])⟩
  ·refine⟨h.ok.c,fun k es hc=>?_⟩;simp only[σ'] at hc;split at hc
   ·rename_i e;subst e;cases hc;refine .inl ⟨fun e=>?_,arr,clock,h3,rfl⟩;refine DN (cap:=C.cap) (σ:=σ) (kt:=kt) (es:=fY) (by simp[entriesOf,h5]) (fun i p q hp hq=>?_) e;simp only[entriesOf,cU,aH] at hp;obtain⟨x,dc,rfl⟩:=hp;exact(h6 i x q (by simpa using dc) hq).1
   ·exact h.ok.m k es hc
  ·simp only[σ'] at hx;split at hx
   ·rename_i e;subst e;exact .inr ⟨(h.owns k j h2).1,.inl ⟨j,h2⟩⟩
   ·exact .inl hx
  ·simp[St.setO,bz _ _ hi]
  ·have:k≠k0:=fun e=>by subst e;rw[h2] at hk;simp at hk;exact hi hk.symm
   simp[this,hk]
  ·subst hi;simp only[St.setO,aU];refine⟨rfl,?_⟩;rw[h1,h4];refine .map kt et k0 (entriesOf arr) fY (by simp[σ']) (by simp[entriesOf,h5]) hx (fun i p q hp hq=>?_) (fun i p q hp hq=>?_)
   ·simp only[entriesOf,cU,aH] at hp;obtain⟨e,he,rfl⟩:=hp;exact((h6 i e q (by simpa using he) hq).1).mono hle
   ·simp only[entriesOf,cU,aH] at hp;obtain⟨e,he,rfl⟩:=hp;exact((h6 i e q (by simpa using he) hq).2).mono hle
  ·split at hk
   ·cases hk
   ·rename_i hn;obtain⟨g1,g2,g3,g4⟩:=h.owns k i hk;exact⟨g1,g2,g3,by simp[σ',hn,g4]⟩
 ·exact⟨σ,own,.refl σ,h⟩
end
end Cx
namespace Cx
open Go Go.RowKit
section
variable {C:Ctx} {S:St} {ρ:Env} {σ:Im} {own:Nat→Option Nat} {hv:Nat→Value} {w0:World} {σ0:Base} {A:Nat→Prop} {a:Act} {w:World} {gs:List (Nat×Bool)} {Φ:aT} {dst:Nat}
theorem sv {j:Nat}{e:PE}{ρ':Env}(h:PI.runs Φ [.setO j e] ρ=some ρ'):ρ'=ρ.setO j (e.ev ρ):=by
 simp[PI.runs,PI.run] at h;exact h.symm
theorem mW {ρ':Env}(h:PI.runs Φ [] ρ=some ρ'):ρ'=ρ:=by
 simp[PI.runs] at h;exact h.symm
def An (C:Ctx)(w0:World)(σ0:Base)(Φ:aT)(S:St)(ρ:Env)(A:Nat→Prop)(a:Act)(w:World)(r:St×List PI):Prop:=
 ∀ρ',PI.runs Φ r.2 ρ=some ρ'→Good C w0 σ0 r.1 ρ' A a w
theorem ass (h:Inv C S ρ σ own hv w0 σ0 A a w){b:Nat}{r:St×List PI}(hr:Cu S b=some r):An C w0 σ0 Φ S ρ A a w r:=by
 unfold Cu at hr;split at hr
 case h_2=>cases hr
 rename_i ag shs eo;simp only[ax] at hr;obtain⟨x,hx,hr⟩:=hr;have bq:=h.objs b;rw[eo] at bq;obtain⟨k,cs,T,ds,h1,h2,h3,h4,h5,h6,h7⟩:=bq;obtain⟨l1,es,⟨he,kR⟩,l2,bU⟩:=Yx h (cs:=cs.toList) h5 shs 0 x (fun m s hm=>by rw[xU,lC];exact(h7 m s hm).2) hx
 let σ':Im:={c:=fun k' o=>if k'=k then cs[o]? else σ.c k' o,m:=σ.m}
 have hle:σ.le σ':=by
  refine⟨fun k' o v hc=>?_,fun k es hc=>hc⟩;have:k'≠k:=fun e=>by subst e;rw[(h.owns k' b h2).2.2.1 o] at hc;cases hc
  simp[σ',this,hc]
 have key:∀(t:Ty) (v:Value) (d:D),Rep C.cap σ' t v d→(∀(i:Nat) (u:Value),v.cells[i]?=some u→cs[i]?=some u)→
  Inv C (S.setO b (.fbox t)) (ρ.setO b d) σ' (fun k'=>if k'=k then none else own k') hv w0 σ0 A a w:=by
  intro t v d hrv bn
  refine h.step (fun i=>i=b) rfl hle ?_ (fun k' o x hx=>?_) (fun _ _ hx=>.inl hx) (.refl _ _) ⟨fun _=>bk _,fun _ _=>rfl⟩ (fun i hi=>⟨?_,?_,rfl,fun k' hk=>⟨?_,rfl⟩⟩) (fun i hi=>?_) (fun k' i hk=>?_) (fun _=>id) (fun t=>.inl ⟨rfl,rfl,rfl⟩) (fun _ _=>rfl) (fun _ _ _=>rfl) (fun k' i hk=>by
        split at hk
        ·cases hk
        ·exact .inl ⟨i,hk⟩) (fun i hi=>by subst hi;simp[St.setO,aU])
  ·refine⟨fun k' o v hc=>?_,h.ok.m⟩;simp only[σ'] at hc;split at hc
   ·rename_i e;subst e;simp[World.cell?,h3,hc]
   ·exact h.ok.c k' o v hc
  ·simp only[σ'] at hx;split at hx
   ·rename_i e;subst e;exact .inr ⟨(h.owns k' b h2).1,.inl ⟨b,h2⟩⟩
   ·exact .inl hx
  ·simp[St.setO,bz _ _ hi]
  ·simp[Env.setO,bz _ _ hi]
  ·have:k'≠k:=fun e=>by subst e;rw[h2] at hk;simp at hk;exact hi hk.symm
   simp[this,hk]
  ·subst hi;simp only[St.setO,aU];exact⟨k,v,h1,by simp only[Env.setO,aU];exact hrv,fun i u hu=>by simp[σ',bn i u hu]⟩
  ·split at hk
   ·cases hk
   ·rename_i hn;obtain⟨g1,g2,g3,g4⟩:=h.owns k' i hk;exact⟨g1,g2,fun o=>by simp[σ',hn,g3 o],g4⟩
 have kf:∀(m:Nat) (t:Ty),x.1[m]?=some t→t.one=true∧Rep C.cap σ' t (cs.toList.getD m undef) (es.getD m .none):=fun m t hm=>by
  obtain⟨g1,g2⟩:=bU m t hm;rw[lC] at g2;exact⟨g1,g2.mono hle⟩
 intro ρ' ao;cases ag with
 |true=>
  simp only[cond_true] at hr;cases hr;have:=sv ao;subst this;refine⟨_,_,_,key (.agg x.1) (.agg cs.toList.toArray) _ ?_ (fun i u hu=>by simpa [Value.cells] using hu)⟩;simp only[PE.ev,he];exact .agg _ _ _ (by simp;omega) (by omega) (fun m t hm=>(kf m t hm).2) (fun m t hm=>(kf m t hm).1)
 |false=>
  simp only[cond_false] at hr;split at hr
  ·rename_i t e et ee;cases hr;have:=sv ao;subst this;obtain⟨g1,g2⟩:=kf 0 t (by rw[et];rfl);have iO:es=[e.ev ρ]:=by rw[←kR,ee];rfl
   subst iO;refine⟨_,_,_,key t (cs.toList.getD 0 undef) _ (by simpa using g2) (fun i u hu=>?_)⟩;rw[(g2.oneCell g1).1] at hu;have hi:i=0:=by
        have:=(fU.1 hu).1;simpa using this
   subst hi;simp at hu;subst hu;have:0<cs.size:=by rw[h4];rw[et] at l1;simp at l1;omega
   rw[fh this];simp[aS,fh this]
  ·cases hr
theorem Inv.mv (h:Inv C S ρ σ own hv w0 σ0 A a w){j j':Nat}(aB:j≠j')(hk:mJ (S.o j)=true):
 Inv C (S.mv j j') (ρ.setO j' (ρ.o j)) σ (fun k=>if own k=some j then some j' else if own k=some j' then none else own k) (cf hv j' (hv j)) w0 σ0 A a w:=by
 have bq:=h.objs j
 refine h.step (fun i=>i=j∨i=j') rfl (.refl σ) h.ok (fun _ _ _ hx=>.inl hx) (fun _ _ hx=>.inl hx) (.refl _ _) ⟨fun i=>?_,fun i e=>?_⟩ (fun i hi=>?_) (fun i hi=>?_) (fun k i hk=>?_) (fun _=>id) (fun t=>.inl ⟨rfl,rfl,rfl⟩) (fun _ _=>rfl) (fun _ _ _=>rfl) (fun k i hk=>by
        split at hk
        ·rename_i e;exact .inl ⟨j,e⟩
        ·split at hk
         ·cases hk
         ·exact .inl ⟨i,hk⟩) (fun i hi=>by
        rcases hi with rfl|rfl
        ·simp[St.mv,aU]
        ·simp only[St.mv,bz _ _ (xk aB),aU];intro e;rw[e] at hk;cases hk)
 ·simp only[St.mv,fS];split
  ·rename_i e;subst e;omega
  ·split
   ·rename_i e;subst e;omega
   ·omega
 ·simp only[St.mv,fS] at e;split at e
  ·rename_i e';subst e';omega
  ·split at e
   ·rename_i e';subst e';omega
   ·rename_i PG;exact bz _ _ PG
 ·simp only[not_or] at hi;refine⟨by simp[St.mv,bz _ _ hi.1,bz _ _ hi.2],by simp[Env.setO,bz _ _ hi.2],bz _ _ hi.2,fun k hk=>⟨?_,rfl⟩⟩;have e1:i≠j:=hi.1;have e2:i≠j':=hi.2;simp[hk,e1,e2]
 ·rcases hi with rfl|rfl
  ·simp only[St.mv,aU];trivial
  ·simp only[St.mv,bz _ _ (xk aB),aU];cases cJ:S.o j with
   |row T e=>
    rw[cJ] at bq;obtain⟨cells,xs,h1,h2,h3,h4⟩:=bq;refine⟨cells,xs,by simp only[Env.setO,aU];exact h1,by rw[aU];exact h2,h3,fun k hk=>?_⟩;rw[aU] at hk;simp[h4 k hk]
   |mp kt et=>
    rw[cJ] at bq;obtain⟨k0,arr,clock,es,h1,h2,h3,h4,h5,h6⟩:=bq;exact⟨k0,arr,clock,es,by rw[aU];exact h1,by simp[h2],h3,by simp only[Env.setO,aU];exact h4,h5,h6⟩
   |_=>rw[cJ] at hk;simp[mJ] at hk
 ·split at hk
  ·rename_i e;exact h.owns k j e
  ·split at hk
   ·cases hk
   ·exact h.owns k i hk
theorem aAV (h:Inv C S ρ σ own hv w0 σ0 A a w){t j':Nat}{r:St×List PI}(hr:wN S t j'=some r):An C w0 σ0 Φ S ρ A a w r:=by
 intro ρ' ao;unfold wN at hr;split at hr
 ·rename_i j ver es;cases hb:(Nat.beq ver (S.ver j)&&mJ (S.o j)&& !Nat.beq j j')<;>simp only[hb,cond_true,cond_false] at hr
  ·cases hr;rw[mW ao];exact⟨_,_,_,h⟩
  ·cases hr;simp only[ar,iw] at hb;have dS:=aL hb.1.1;have aB:j≠j':=fun e=>by subst e;simp at hb
   have mB:=h.mv aB hb.1.2;have jt:=h.regs t;rw[es] at jt;have cr:=jt.2 dS;rw[sv ao];refine⟨_,_,_,mB.step (S':=(S.mv j j').setR t (.obj j' (S.ver j'+1))) (fun _=>False) rfl (.refl σ) mB.ok (fun _ _ _ hx=>.inl hx) (fun _ _ hx=>.inl hx) (.refl _ _) ⟨fun _=>bk _,fun _ _=>rfl⟩ (fun i _=>⟨rfl,rfl,rfl,fun k hk=>⟨hk,rfl⟩⟩) (fun _ hf=>hf.elim) mB.owns (fun _=>id) (fun u=>?_) (fun _ _=>rfl) (fun _ _ _=>rfl) (fun k i hk=>.inl ⟨i,hk⟩) (fun _ hf=>hf.elim)⟩;by_cases hu:u=t
   ·subst hu;refine .inr ⟨?_,fun gs s e=>by simp[St.setR,aU] at e⟩;simp only[St.setR,aU];refine⟨?_,fun _=>?_⟩
    ·simp[St.mv,bz _ _ (xk aB),aU]
    ·rw[aU];exact cr
   ·exact .inl ⟨by simp[St.setR,bz _ _ hu],rfl,rfl⟩
 ·cases hr;rw[mW ao];exact⟨_,_,_,h⟩
theorem aAU (h:Inv C S ρ σ own hv w0 σ0 A a w){b i j':Nat}{r:St×List PI}(hr:E7 S b i j'=some r):An C w0 σ0 Φ S ρ A a w r:=by
 intro ρ' ao;unfold E7 at hr;split at hr
 ·rename_i ag shs eo;split at hr
  ·rename_i j ver es;cases hb:(Nat.beq ver (S.ver j)&&mJ (S.o j)&& !Nat.beq j j'&& !Nat.beq b j'&& !Nat.beq b j)<;>simp only[hb,cond_true,cond_false] at hr
   ·cases hr;rw[mW ao];exact⟨_,_,_,h⟩
   ·cases hr;simp only[ar,iw] at hb;have dS:=aL hb.1.1.1.1;have aB:j≠j':=fun e=>by subst e;simp at hb
    have jk:b≠j':=fun e=>by subst e;simp at hb
    have dm:b≠j:=fun e=>by subst e;simp at hb
    have bq:=h.objs b;rw[eo] at bq;obtain⟨k,cs,T,ds,h1,h2,h3,h4,h5,h6,h7⟩:=bq;have cr:=(h7 i _ es).2.2 dS;have mB:=h.mv aB hb.1.1.1.2;rw[sv ao];have OA:(S.mv j j').o b=.box ag shs:=by simp[St.mv,bz _ _ jk,bz _ _ dm,eo]
    have C7:=mB.objs b;rw[OA] at C7;refine⟨_,_,_,mB.step (S':=(S.mv j j').setO b (.box ag (shs.set i (.obj j' (S.ver j'+1))))) (fun m=>m=b) rfl (.refl σ) mB.ok (fun _ _ _ hx=>.inl hx) (fun _ _ hx=>.inl hx) (.refl _ _) ⟨fun _=>bk _,fun _ _=>rfl⟩ (fun m hm=>⟨by simp[St.setO,bz _ _ hm],rfl,rfl,fun k hk=>⟨hk,rfl⟩⟩) (fun m hm=>?_) mB.owns (fun _=>id) (fun t=>.inl ⟨rfl,rfl,rfl⟩) (fun _ _=>rfl) (fun _ _ _=>rfl) (fun k i hk=>.inl ⟨i,hk⟩) (fun m hm=>by subst hm;simp[St.setO,aU])⟩;subst hm;rw[St.setO_o];obtain⟨k1,B0,T1,B2,g1,g2,g3,g4,g5,g6,g7⟩:=C7;have e1:B0=cs:=by
     rw[bz _ _ jk,h1] at g1;cases g1;rw[h3] at g3;cases g3;rfl
    refine⟨k1,B0,T1,B2,g1,g2,g3,by simpa using g4,g5,by simpa using g6,fun q x hq=>?_⟩;rw[Aq] at hq;split at hq
    ·rename_i e;subst e;split at hq
     ·cases hq;refine⟨(fun _ _ e=>by cases e),?_,fun _=>?_⟩
      ·simp[St.setO,St.mv,bz _ _ (xk aB),aU]
      ·rw[aU,e1];exact cr
     ·cases hq
    ·obtain⟨f1,f2⟩:=g7 q x hq;exact⟨f1,f2.mono' (.refl σ) (Compat.setO _ _ _ _) f1⟩
  ·cases hr;rw[mW ao];exact⟨_,_,_,h⟩
 ·cases hr;rw[mW ao];exact⟨_,_,_,h⟩
theorem auG (h:Inv C S ρ σ own hv w0 σ0 A a w){b i j:Nat}{T:TypeId}{r:St×List PI}(hr:C9 C S b i j T=some r):An C w0 σ0 Φ S ρ A a w r:=by
 intro ρ' ao;unfold C9 at hr;split at hr
 ·rename_i ag shs eo;split at hr
  ·rename_i e0 e es et;cases hb:(!Nat.beq b j)<;>simp only[hb,cond_true,cond_false] at hr
   ·cases hr;rw[mW ao];exact⟨_,_,_,h⟩
   ·cases hr;have aB:b≠j:=fun e=>by subst e;simp at hb
    have bq:=h.objs b;rw[eo] at bq;obtain⟨k,cs,T0,ds,h1,h2,h3,h4,h5,h6,h7⟩:=bq;have cr:cs.getD i undef=.slice none 0 0:=by
     have:=(h7 i _ es).2;generalize cs.getD i undef=v at this;generalize ds.getD i .none=d at this;cases this;rfl
    have kU:=h.newO j (.row T e) (.list []) (.slice none 0 0) (fun _=>false) (.refl _ _) (by simp) ⟨[],[],by simp[Env.setO,aU],by rw[aU];exact World.ownsRow_nil _ _ _ _,⟨fun _=>undef,by simp,by simp⟩,by rw[aU];simp[Value.ownBlock]⟩;rw[sv ao];have OA:(S.newO j (.row T e)).o b=.box ag shs:=by simp[St.newO,bz _ _ aB,eo]
    have C7:=kU.objs b;rw[OA] at C7;refine⟨_,_,_,kU.step (S':=(S.newO j (.row T e)).setO b (.box ag (shs.set i (.obj j (S.ver j+1))))) (fun m=>m=b) rfl (.refl σ) kU.ok (fun _ _ _ hx=>.inl hx) (fun _ _ hx=>.inl hx) (.refl _ _) ⟨fun _=>bk _,fun _ _=>rfl⟩ (fun m hm=>⟨by simp[St.setO,bz _ _ hm],rfl,rfl,fun k hk=>⟨hk,rfl⟩⟩) (fun m hm=>?_) kU.owns (fun _=>id) (fun t=>.inl ⟨rfl,rfl,rfl⟩) (fun _ _=>rfl) (fun _ _ _=>rfl) (fun k i hk=>.inl ⟨i,hk⟩) (fun m hm=>by subst hm;simp[St.setO,aU])⟩;subst hm;rw[St.setO_o];obtain⟨k1,B0,T1,B2,g1,g2,g3,g4,g5,g6,g7⟩:=C7;have e1:B0=cs:=by
     rw[bz _ _ aB,h1] at g1;cases g1;rw[h3] at g3;cases g3;rfl
    refine⟨k1,B0,T1,B2,g1,g2,g3,by simpa using g4,g5,by simpa using g6,fun q x hq=>?_⟩;rw[Aq] at hq;split at hq
    ·rename_i e';subst e';split at hq
     ·cases hq;refine⟨(fun _ _ e=>by cases e),?_,fun _=>?_⟩
      ·simp[St.setO,St.newO,aU]
      ·rw[aU,e1];exact cr
     ·cases hq
    ·obtain⟨f1,f2⟩:=g7 q x hq;exact⟨f1,f2.mono' (.refl σ) (Compat.setO _ _ _ _) f1⟩
  ·cases hr;rw[mW ao];exact⟨_,_,_,h⟩
 ·cases hr;rw[mW ao];exact⟨_,_,_,h⟩
end
end Cx
