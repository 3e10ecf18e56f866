/-
  Shared texts of this claim.
-/
import Derived.Test.YtepfoekldooaeaaGreatDoorKAP
set_option linter.unusedSimpArgs false
set_option linter.unusedVariables false
namespace Rm
open Go Go.Proofs Cx
structure RightD (r:Realm):Prop where
 small:Small r
 halts:sc r
theorem RightD.cities {r:Realm}(h:RightD r)(c:City)(hc:c∈r.cities):Ei c:=by
 obtain⟨h1,h2,h3,_⟩:=h.small.city c hc;exact⟨by omega,by omega,by omega⟩
theorem Wi (d:Int)(t:Tenor):∃n e:Int,aj T acs [.int d,pK t] (.tup [.int n,.int e]):=by
 by_cases h0:t.n<0
 ·refine⟨0,3,.of_tree rfl ER MG ?_⟩;simp[zx,h0]
 by_cases h1:20000<t.n
 ·refine⟨0,3,.of_tree rfl ER MG ?_⟩;simp[zx,h0,h1]
 by_cases h2:t.unit=1
 ·obtain⟨n,e,h,_⟩:=ag1 d t.n;refine⟨n,e,.of_tree rfl ER MG ?_⟩;simp[zx,h0,h1,h2];refine⟨_,h,?_⟩;simp
 ·refine⟨IntKind.i64.wrap (d+t.n),0,.of_tree rfl ER MG ?_⟩;simp[zx,h0,h1,h2]
theorem WA (r:Realm)(hr:RightD r)(b:Bill)(seen:Int):∃n e:Int,aj T CV [aZ r,dp b,.int seen] (.tup [.int n,.int e]):=by
 have Zr:D.agg [D.int b.tenor.kind,D.int b.tenor.n,D.int b.tenor.unit]=pK b.tenor:=rfl;by_cases h0:b.tenor.kind=0
 ·refine⟨seen,0,.of_tree rfl xh zy ?_⟩;simp[uo,h0]
 by_cases h1:b.tenor.kind=1
 ·obtain⟨n,e,h⟩:=Wi seen b.tenor;refine⟨n,e,.of_tree rfl xh zy ?_⟩;have cJ:(b.tenor.kind=1)=True:=eq_true h1;simp[uo,h0,cJ];refine⟨_,h,?_⟩;simp
 by_cases h2:b.tenor.kind=2
 ·obtain⟨n,e,h⟩:=Wi b.day b.tenor;refine⟨n,e,.of_tree rfl xh zy ?_⟩;have hZ:(b.tenor.kind=2)=True:=eq_true h2;simp[uo,h0,h1,hZ];refine⟨_,h,?_⟩;simp
 by_cases h4:b.tenor.kind=4
 ·obtain⟨n,e,h,_⟩:=ahp r b.city b.pay (by have:=hr.small.us;omega);refine⟨IntKind.i64.wrap (b.day+n),e,.of_tree rfl xh zy ?_⟩;have ox:(b.tenor.kind=4)=True:=eq_true h4;simp[uo,h0,h1,h2,ox];refine⟨_,h,?_⟩;simp
 ·refine⟨b.tenor.n,0,.of_tree rfl xh zy ?_⟩;simp[uo,h0,h1,h2,h4]
theorem aj.ex_of_tree {tab:Nat→Option PC}{ext:Nat→Option (aS→List D→Option D)}{f:Nat}{pc:PC}{t:PT}{ds:List D}{P:D→Prop}(hx:ext f=none)(ht:tab f=some pc)(he:tree pc=t)
 (h:aI (dK tab ext) t (kC ds) (fun x=>∃d,x=.ret d∧P d)):∃d,aj (dK tab ext) f ds d∧P d:=by
 subst he;obtain⟨x,⟨d,rfl,hd⟩,n0,hn⟩:=agN (K7 ⟨fun _ _ _ h=>(by obtain⟨_,h,_⟩:=h;cases h),fun _ _ _ _ _ _ h=>(by obtain⟨_,h,_⟩:=h;cases h),fun _ h=>h⟩ h);exact⟨d,.of_pc hx ht ⟨.ret d,rfl,n0,hn⟩,hd⟩
def EE (d:D):Prop:=∃n e:Int,d=.tup [.int n,.int e]
@[simp] theorem aEN (n e:Int):EE (.tup [.int n,.int e])=True:=eq_true ⟨n,e,rfl⟩
theorem w9 (r:Realm)(hr:RightD r)(b:Bill)(seen cZ:Int):∃d,aj T CU [aZ r,dp b,.int seen,.int cZ] d∧EE d:=by
 have Zr:D.agg [D.int b.tenor.kind,D.int b.tenor.n,D.int b.tenor.unit]=pK b.tenor:=rfl;have ff:=D3 r hr.small;refine aj.ex_of_tree rfl Nd Vk ?_;simp[Er];refine⟨_,ff,?_⟩;by_cases h0:eB r=0
 case neg=>simp[h0]
 simp[h0];refine⟨_,yk r b.city,?_⟩;cases h1:aF b.city r.cities.length
 ·simp[h1]
 simp[h1];refine⟨_,yk r b.pay,?_⟩;cases h2:aF b.pay r.cities.length
 ·simp[h2]
 simp[h2];refine⟨_,tp b.day,?_⟩;cases h3:fb b.day
 ·simp[h3]
 simp[h3];intro _ _ _ _;have hp:0≤b.pay∧b.pay<r.cities.length:=by simpa [aF] using h2
 have fin:0≤cZ→cZ≤20000→∃d,aj T CV [aZ r,dp b,D.int seen] d∧
  if(d.tget 1).i=0 then ∃d1,aj T Ij [d.tget 0] d1∧(d1.b=true→IntKind.i64.wrap ((d.tget 0).i+cZ)≤100000→
        ∃d2,aj T Ik [aZ r,D.int b.pay,D.int (IntKind.i64.wrap ((d.tget 0).i+cZ))] d2∧EE (D.tup [d2.tget 0,d2.tget 1]))
  else EE (D.tup [D.int 0,d.tget 1]):=by
  intro oB gR;obtain⟨n,e,h⟩:=WA r hr b seen;refine⟨_,h,?_⟩;by_cases he:e=0
  ·simp[he];refine⟨_,tp n,?_⟩;cases hd:fb n
   ·simp[hd]
   have dH:0≤n∧n≤100000:=by simpa [fb] using hd
   have hw:IntKind.i64.wrap (n+cZ)=n+cZ:=aW (by omega);simp[hd,hw];intro hle;refine⟨_,To r hr.halts b.pay (n+cZ) hp hr.cities (by omega) (by omega),?_⟩;simp
  ·simp[he]
 by_cases hs:seen=-1
 ·simp[hs] at fin ⊢;intro oB gR;refine⟨_,zI b.tenor,?_⟩;simp;intro _;exact fin oB gR
 ·simp[hs] at fin ⊢;refine⟨_,tp seen,?_⟩;cases hk:fb seen
  ·simp[hk]
  simp[hk];intro oB gR;exact⟨⟨_,zI b.tenor⟩,fin oB gR⟩
noncomputable def m9 (r:Realm)(b:Bill)(seen cZ:Int):Int×Int:=
 open Classical in if h:RightD r then((w9 r h b seen cZ).choose_spec.2.choose,(w9 r h b seen cZ).choose_spec.2.choose_spec.choose) else(0,0)
theorem MU (r:Realm)(hr:RightD r)(b:Bill)(seen cZ:Int):aj T CU [aZ r,dp b,.int seen,.int cZ] (.tup [.int (m9 r b seen cZ).1,.int (m9 r b seen cZ).2]):=by
 have h:=(w9 r hr b seen cZ).choose_spec.2.choose_spec.choose_spec;have h1:=(w9 r hr b seen cZ).choose_spec.1;rw[h] at h1;have e:m9 r b seen cZ=((w9 r hr b seen cZ).choose_spec.2.choose,(w9 r hr b seen cZ).choose_spec.2.choose_spec.choose):=by unfold m9;rw[dif_pos hr]
 rw[e];exact h1
noncomputable def bX (r:Realm)(forum:Int)(f:File)(day:Int):Int:=
 if(aG f day).signs=[] then-1
 else if(m9 r f.bill (iN (aG f day)) (max (dE (iY r forum 6 (aG f day) day)) 0)).2≠0 then-1
 else(m9 r f.bill (iN (aG f day)) (max (dE (iY r forum 6 (aG f day) day)) 0)).1
@[simp] theorem aIW (x:File)(a0 a1 a2 a3 a4 a5 a6 a7 a8 a9 gH gI gJ gK gL iV iW jC iX:D):(cH [a0,a1,a2,a3,a4,a5,a6,a7,a8,a9,gH,gI,gJ,gK,gL,iV,iW,jC,iX] 0 [.int x.bill.drawer,.int x.bill.drawee,.int x.bill.payee,.int x.bill.sum,.int x.bill.currency,.int x.bill.tenor.kind,.int x.bill.tenor.n,.int x.bill.tenor.unit,.int x.bill.day,.int x.bill.city,.int x.bill.pay,.int x.bill.need,.int x.bill.rate,.int x.bill.flags,.int x.bill.parts,signs x.signs,alters x.alters,acts x.acts,facts x.facts])[15]?.getD D.none=signs x.signs:=_root_.id rfl
theorem MX (r:Realm)(hr:Right r)(hd:RightD r)(forum:Int)(f:File)(day:Int)(hf:FewS f):aj T aaV [aZ r,.int forum,bT f,.int day] (.int (bX r forum f day)):=by
 refine .of_tree rfl aiw az1 ?_;simp[TK];refine⟨_,D5 f day (by have:=hf.signs;omega) (by have:=hf.acts;omega) (by have:=hf.alters;omega) (by have:=hf.facts;omega),?_⟩;have hg:=hf.at_ day;have hb:(aG f day).bill=f.bill:=rfl;unfold bX;generalize aG f day=g at*;simp;by_cases h0:g.signs=[]
 ·simp[h0]
 simp[h0];refine⟨_,Wr r hr forum 6 g day hg,_,Ws _,_,ayQ g (by have:=hg.signs;omega) (by have:=hg.acts;omega),?_⟩;have hm:(if(D.int (dE (iY r forum 6 g day))).i<0 then D.int 0 else D.int (dE (iY r forum 6 g day)))=D.int (max (dE (iY r forum 6 g day)) 0):=by
  simp only[xp];split
  ·rw[Int.max_eq_right (by omega)]
  ·rw[Int.max_eq_left (by omega)]
 rw[hm,hb];refine⟨_,MU r hd f.bill _ _,?_⟩;by_cases he:(m9 r f.bill (iN g) (max (dE (iY r forum 6 g day)) 0)).2=0<;>simp[he]
end Rm
namespace Rm
open Go Go.Proofs Cx
theorem awB (y:Nat)(h:y<18446744073709551616):aj T aa6 [u y] (.int ((64-tz y:Nat):Int)):=by
 refine .of_tree rfl aiI aAf ?_;have hb:=(Z3 h).2.2.2;have hw:IntKind.i64.wrap (64-(tz y:Nat))=((64-tz y:Nat):Int):=by rw[aW (by omega)];omega
 simp[TX];refine⟨_,avs y h,?_⟩;simp[hw]
set_option maxHeartbeats 4000000 in
theorem Xk (hi lo y:Nat)(hy:0<y)(vg:hi<y)(lq:lo<18446744073709551616)(mI:y<18446744073709551616):
 ∃d,aj T aa5 [u hi,u lo,u y] d∧∃d2,d=.tup [u ((hi*18446744073709551616+lo)/y),d2]:=by
 refine aj.ex_of_tree rfl aiH aAe ?_;have c1:¬y=0:=by omega
 have c2:¬y≤hi:=by omega
 by_cases c3:hi=0
 ·subst c3;have hq:IntKind.u64.wrap ((lo:Int)/(y:Int))=((lo/y:Nat):Int):=by
   rw[←Int.natCast_ediv];exact dT (Nat.lt_of_le_of_lt (Nat.div_le_self ..) lq)
  simp[My,c1,c2,hq]
 ·have hb:=Z3 mI;obtain⟨L,hL⟩:∃L,L=tz y:=⟨_,rfl⟩
  have sW:=awB y mI;rw[←hL] at hb sW;have G8:0<L:=by
   rcases Nat.eq_zero_or_pos L with h|h
   ·have:=hb.1 h;omega
   ·exact h
  have hLs:=hb.2.2.2;obtain⟨s,hs⟩:∃s,s=64-L:=⟨_,rfl⟩
  obtain⟨s',il⟩:∃s',s'=L:=⟨_,rfl⟩
  rw[←hs] at sW;have vt:2^s'*2^s=18446744073709551616:=by rw[←Nat.pow_add,show s'+s=64 by omega]
  have Zk:2^(L-1)*2^s=9223372036854775808:=by rw[←Nat.pow_add,show L-1+s=63 by omega]
  have aP:y*2^s<18446744073709551616:=by rw[←vt];exact Nat.mul_lt_mul_of_pos_right (by rw[il];exact hb.2.2.1) (Nat.two_pow_pos s)
  have gh:9223372036854775808≤y*2^s:=by rw[←Zk];exact Nat.mul_le_mul_right _ (hb.2.1 G8)
  have ws:IntKind.u64.wrap (s:Int)=s:=dT (by omega);have lY:bD .shl .u64 (y:Int) (s:Int)=((y*2^s:Nat):Int):=by rw[Tp y s (by omega),Nat.mod_eq_of_lt aP]
  have YS:lo/2^s'<2^s:=by rw[Nat.div_lt_iff_lt_mul (Nat.two_pow_pos s'),Nat.mul_comm,vt];exact lq
  have p5:0<2^s:=Nat.two_pow_pos s;have atg:hi*2^s+2^s≤y*2^s:=by rw[←Nat.succ_mul];exact Nat.mul_le_mul_right _ vg
  have l5:bD .shl .u64 (hi:Int) (s:Int)=((hi*2^s:Nat):Int):=by rw[Tp hi s (by omega),Nat.mod_eq_of_lt (by omega)]
  have l6:IntKind.u64.wrap (64-(s:Int))=s':=by rw[iS (by omega)];omega
  have l7:bD .shr .u64 (lo:Int) (s':Int)=((lo/2^s':Nat):Int):=Mj lo s' (by omega);have l9:bD .or .u64 ((hi*2^s:Nat):Int) ((lo/2^s':Nat):Int)=((hi*2^s+lo/2^s':Nat):Int):=axN _ _ s (by omega) YS (Nat.mul_mod_left ..) (by omega);have ma:bD .shl .u64 (lo:Int) (s:Int)=((lo*2^s%18446744073709551616:Nat):Int):=Tp lo s (by omega);have law:((hi*2^s+lo/2^s')*18446744073709551616+lo*2^s%18446744073709551616)/(y*2^s)=(hi*18446744073709551616+lo)/y:=by
   have h1:lo*2^s/18446744073709551616=lo/2^s':=by rw[←vt];exact Nat.mul_div_mul_right _ _ (Nat.two_pow_pos s)
   have h2:=Nat.div_add_mod (lo*2^s) 18446744073709551616;rw[h1] at h2;have h3:(hi*2^s+lo/2^s')*18446744073709551616+lo*2^s%18446744073709551616=(hi*18446744073709551616+lo)*2^s:=by
        rw[Nat.add_mul,Nat.add_mul,Nat.mul_right_comm hi];omega
   rw[h3];exact Nat.mul_div_mul_right _ _ (Nat.two_pow_pos s)
  have hu:hi*2^s+lo/2^s'<y*2^s:=by omega
  have ya:lo*2^s%18446744073709551616<18446744073709551616:=Nat.mod_lt _ (by decide);clear hb vt Zk YS atg hL;rw[←law];clear law;generalize y*2^s=v at*;generalize hi*2^s+lo/2^s'=u32 at*;generalize lo*2^s%18446744073709551616=un at*;have lZ:bD .shr .u64 (v:Int) 32=((v/4294967296:Nat):Int):=dS v;have l0:bD .and .u64 (v:Int) 4294967295=((v%4294967296:Nat):Int):=zT v aP;have mc:bD .shr .u64 (un:Int) 32=((un/4294967296:Nat):Int):=dS un;have me:bD .and .u64 (un:Int) 4294967295=((un%4294967296:Nat):Int):=zT un ya;have hv:v=v/4294967296*4294967296+v%4294967296:=by omega
  have hn:un=un/4294967296*4294967296+un%4294967296:=by omega
  have Zv:2147483648≤v/4294967296:=by omega
  have Zw:v/4294967296<4294967296:=by omega
  have jm:v%4294967296<4294967296:=by omega
  have ic:un/4294967296<4294967296:=by omega
  have Ca:un%4294967296<4294967296:=by omega
  generalize v/4294967296=v1 at*;generalize v%4294967296=v0 at*;generalize un/4294967296=n1 at*;generalize un%4294967296=n0 at*;have gr:¬v1=0:=by omega
  have mf:IntKind.u64.wrap ((u32:Int)/(v1:Int))=((u32/v1:Nat):Int):=by
   rw[←Int.natCast_ediv];exact dT (Nat.lt_of_le_of_lt (Nat.div_le_self ..) (by omega))
  have HI:u32/v1*v1+u32%v1=u32:=Nat.div_add_mod' u32 v1;have mg:IntKind.u64.wrap (((u32/v1:Nat):Int)*(v1:Int))=((u32/v1*v1:Nat):Int):=by
   rw[←Int.natCast_mul];exact dT (by omega)
  have mh:IntKind.u64.wrap ((u32:Int)-((u32/v1*v1:Nat):Int))=((u32%v1:Nat):Int):=by
   rw[iS (by omega)];omega
  simp[My,c1,c2,c3,-dS,-Int.natCast_add,-Int.natCast_mul,-Int.natCast_ediv,-Int.natCast_emod];refine⟨_,sW,?_⟩;simp[-dS,-Int.natCast_add,-Int.natCast_mul,-Int.natCast_ediv,-Int.natCast_emod,ws,lY,lZ,l0,l5,l6,l7,l9,ma,mc,me,gr,mf,mg,mh];refine avy _ (u32/v1) (u32%v1) v1 v0 u32 n1 jm Zv Zw ic (by omega) rfl rfl (by simp[-dS,-Int.natCast_add,-Int.natCast_mul,-Int.natCast_ediv,-Int.natCast_emod,ws,lY,lZ,l0,l5,l6,l7,l9,ma,mc,me,gr,mf,mg,mh]) (by simp[-dS,-Int.natCast_add,-Int.natCast_mul,-Int.natCast_ediv,-Int.natCast_emod,ws,lY,lZ,l0,l5,l6,l7,l9,ma,mc,me,gr,mf,mg,mh]) (by simp[-dS,-Int.natCast_add,-Int.natCast_mul,-Int.natCast_ediv,-Int.natCast_emod,ws,lY,lZ,l0,l5,l6,l7,l9,ma,mc,me,gr,mf,mg,mh]) (by simp[-dS,-Int.natCast_add,-Int.natCast_mul,-Int.natCast_ediv,-Int.natCast_emod,ws,lY,lZ,l0,l5,l6,l7,l9,ma,mc,me,gr,mf,mg,mh]) (by simp[-dS,-Int.natCast_add,-Int.natCast_mul,-Int.natCast_ediv,-Int.natCast_emod,ws,lY,lZ,l0,l5,l6,l7,l9,ma,mc,me,gr,mf,mg,mh]) _ _ fun ρ hq hk=>?_;have k2:ρ.r 2=u v:=by rw[hk 2 (by simp)];simp[-dS,-Int.natCast_add,-Int.natCast_mul,-Int.natCast_ediv,-Int.natCast_emod,ws,lY,lZ,l0,l5,l6,l7,l9,ma,mc,me,gr,mf,mg,mh]
  have k8:ρ.r 8=u s:=by rw[hk 8 (by simp)];simp[-dS,-Int.natCast_add,-Int.natCast_mul,-Int.natCast_ediv,-Int.natCast_emod,ws,lY,lZ,l0,l5,l6,l7,l9,ma,mc,me,gr,mf,mg,mh]
  have k9:ρ.r 9=u v1:=by rw[hk 9 (by simp)];simp[-dS,-Int.natCast_add,-Int.natCast_mul,-Int.natCast_ediv,-Int.natCast_emod,ws,lY,lZ,l0,l5,l6,l7,l9,ma,mc,me,gr,mf,mg,mh]
  have vK:ρ.r 10=u v0:=by rw[hk 10 (by simp)];simp[-dS,-Int.natCast_add,-Int.natCast_mul,-Int.natCast_ediv,-Int.natCast_emod,ws,lY,lZ,l0,l5,l6,l7,l9,ma,mc,me,gr,mf,mg,mh]
  have tq:ρ.r 11=u u32:=by rw[hk 11 (by simp)];simp[-dS,-Int.natCast_add,-Int.natCast_mul,-Int.natCast_ediv,-Int.natCast_emod,ws,lY,lZ,l0,l5,l6,l7,l9,ma,mc,me,gr,mf,mg,mh]
  have tu:ρ.r 13=u n1:=by rw[hk 13 (by simp)];simp[-dS,-Int.natCast_add,-Int.natCast_mul,-Int.natCast_ediv,-Int.natCast_emod,ws,lY,lZ,l0,l5,l6,l7,l9,ma,mc,me,gr,mf,mg,mh]
  have vL:ρ.r 14=u n0:=by rw[hk 14 (by simp)];simp[-dS,-Int.natCast_add,-Int.natCast_mul,-Int.natCast_ediv,-Int.natCast_emod,ws,lY,lZ,l0,l5,l6,l7,l9,ma,mc,me,gr,mf,mg,mh]
  clear hk;rw[←hv] at hq;obtain⟨q1,vu⟩:∃q1,q1=(u32*4294967296+n1)/v:=⟨_,rfl⟩
  obtain⟨R,hR⟩:∃R,R=(u32*4294967296+n1)%v:=⟨_,rfl⟩
  rw[←vu] at hq;have HS:0<v:=by omega
  have aHp:R<v:=by rw[hR];exact Nat.mod_lt _ HS
  have hqR:q1*v+R=u32*4294967296+n1:=by rw[vu,hR];exact Nat.div_add_mod' _ v
  have aHV:q1<4294967296:=by rw[vu,Nat.div_lt_iff_lt_mul HS];omega
  have sy:IntKind.u64.wrap (IntKind.u64.wrap (IntKind.u64.wrap ((u32:Int)*4294967296)+(n1:Int))-IntKind.u64.wrap ((q1:Int)*(v:Int)))=(R:Int):=by
   have h1:(q1:Int)*(v:Int)+(R:Int)=(u32:Int)*4294967296+n1:=by rw[←Int.natCast_mul];omega
   simp only[MQ];generalize (q1:Int)*(v:Int)=M at*;omega
  have sA:IntKind.u64.wrap ((R:Int)/(v1:Int))=((R/v1:Nat):Int):=by
   rw[←Int.natCast_ediv];exact dT (Nat.lt_of_le_of_lt (Nat.div_le_self ..) (by omega))
  have aHY:R/v1*v1+R%v1=R:=Nat.div_add_mod' R v1;have sq:IntKind.u64.wrap (((R/v1:Nat):Int)*(v1:Int))=((R/v1*v1:Nat):Int):=by
   rw[←Int.natCast_mul];exact dT (by omega)
  have sr:IntKind.u64.wrap ((R:Int)-((R/v1*v1:Nat):Int))=((R%v1:Nat):Int):=by
   rw[iS (by omega)];omega
  simp[-dS,-Int.natCast_add,-Int.natCast_mul,-Int.natCast_ediv,-Int.natCast_emod,k2,k9,tq,tu,hq,gr,sy,sA,sq,sr];refine avz _ (R/v1) (R%v1) v1 v0 R n0 jm Zv Zw Ca (by omega) rfl rfl (by simp[-dS,-Int.natCast_add,-Int.natCast_mul,-Int.natCast_ediv,-Int.natCast_emod,k2,k8,k9,vK,tq,tu,vL,hq,gr,sy,sA,sq,sr]) (by simp[-dS,-Int.natCast_add,-Int.natCast_mul,-Int.natCast_ediv,-Int.natCast_emod,k2,k8,k9,vK,tq,tu,vL,hq,gr,sy,sA,sq,sr]) (by simp[-dS,-Int.natCast_add,-Int.natCast_mul,-Int.natCast_ediv,-Int.natCast_emod,k2,k8,k9,vK,tq,tu,vL,hq,gr,sy,sA,sq,sr]) (by simp[-dS,-Int.natCast_add,-Int.natCast_mul,-Int.natCast_ediv,-Int.natCast_emod,k2,k8,k9,vK,tq,tu,vL,hq,gr,sy,sA,sq,sr]) (by simp[-dS,-Int.natCast_add,-Int.natCast_mul,-Int.natCast_ediv,-Int.natCast_emod,k2,k8,k9,vK,tq,tu,vL,hq,gr,sy,sA,sq,sr]) _ _ fun σ eE hk=>?_;have j15:σ.r 15=u q1:=by rw[hk 15 (by simp)];simp[-dS,-Int.natCast_add,-Int.natCast_mul,-Int.natCast_ediv,-Int.natCast_emod,k2,k8,k9,vK,tq,tu,vL,hq,gr,sy,sA,sq,sr]
  have j8:σ.r 8=u s:=by rw[hk 8 (by simp)];simp[-dS,-Int.natCast_add,-Int.natCast_mul,-Int.natCast_ediv,-Int.natCast_emod,k2,k8,k9,vK,tq,tu,vL,hq,gr,sy,sA,sq,sr]
  rw[←hv] at eE;clear hk;obtain⟨q0,oG⟩:∃q0,q0=(R*4294967296+n0)/v:=⟨_,rfl⟩
  rw[←oG] at eE;have aHU:q0<4294967296:=by rw[oG,Nat.div_lt_iff_lt_mul HS];omega
  have w1:IntKind.u64.wrap (IntKind.u64.wrap ((q1:Int)*4294967296)+(q0:Int))=((q1*4294967296+q0:Nat):Int):=by
   rw[iS (n:=(q1:Int)*4294967296) (by omega),iS (by omega)];omega
  have fin:(u32*18446744073709551616+un)/v=q1*4294967296+q0:=by
   have h1:u32*18446744073709551616+un=R*4294967296+n0+v*(q1*4294967296):=by
        have:v*(q1*4294967296)=(q1*v)*4294967296:=by rw[←Nat.mul_assoc,Nat.mul_comm v q1]
        omega
   rw[h1,Nat.add_mul_div_left _ _ HS,←oG];omega
  rw[fin];simp[j8,j15,eE,w1,-Int.natCast_add,-Int.natCast_mul]
end Rm
namespace Rm
open Go Go.Proofs Cx
structure View where
 realm:Realm
 forum:Int
 day:Int
 file:File
 form:Int
 due:Int
 deriving Inhabited
def dq (x:View):D:=.agg [strs x.realm.currencies,m6 x.realm.cities,groups x.realm.groups,firms x.realm.firms,orders x.realm.orders,usances x.realm.usances,rates x.realm.rates,halts x.realm.halts,.int x.forum,.int x.day,.int x.file.bill.drawer,.int x.file.bill.drawee,.int x.file.bill.payee,.int x.file.bill.sum,.int x.file.bill.currency,.int x.file.bill.tenor.kind,.int x.file.bill.tenor.n,.int x.file.bill.tenor.unit,.int x.file.bill.day,.int x.file.bill.city,.int x.file.bill.pay,.int x.file.bill.need,.int x.file.bill.rate,.int x.file.bill.flags,.int x.file.bill.parts,signs x.file.signs,alters x.file.alters,acts x.file.acts,facts x.file.facts,.int x.form,.int x.due]
@[simp] theorem aFf (x:View):(dq x).cells=[strs x.realm.currencies,m6 x.realm.cities,groups x.realm.groups,firms x.realm.firms,orders x.realm.orders,usances x.realm.usances,rates x.realm.rates,halts x.realm.halts,.int x.forum,.int x.day,.int x.file.bill.drawer,.int x.file.bill.drawee,.int x.file.bill.payee,.int x.file.bill.sum,.int x.file.bill.currency,.int x.file.bill.tenor.kind,.int x.file.bill.tenor.n,.int x.file.bill.tenor.unit,.int x.file.bill.day,.int x.file.bill.city,.int x.file.bill.pay,.int x.file.bill.need,.int x.file.bill.rate,.int x.file.bill.flags,.int x.file.bill.parts,signs x.file.signs,alters x.file.alters,acts x.file.acts,facts x.file.facts,.int x.form,.int x.due]:=_root_.id rfl
@[simp] theorem aIL (x:View):D.agg [strs x.realm.currencies,m6 x.realm.cities,groups x.realm.groups,firms x.realm.firms,orders x.realm.orders,usances x.realm.usances,rates x.realm.rates,halts x.realm.halts,.int x.forum,.int x.day,.int x.file.bill.drawer,.int x.file.bill.drawee,.int x.file.bill.payee,.int x.file.bill.sum,.int x.file.bill.currency,.int x.file.bill.tenor.kind,.int x.file.bill.tenor.n,.int x.file.bill.tenor.unit,.int x.file.bill.day,.int x.file.bill.city,.int x.file.bill.pay,.int x.file.bill.need,.int x.file.bill.rate,.int x.file.bill.flags,.int x.file.bill.parts,signs x.file.signs,alters x.file.alters,acts x.file.acts,facts x.file.facts,.int x.form,.int x.due]=dq x:=_root_.id rfl
@[simp] theorem aFz (x:View):gM 31 (dq x)=dq x:=_root_.id rfl
@[simp] theorem aI0 (x:View)(a0 a1 a2 a3 a4 a5 a6 a7 a8 a9 gH gI gJ gK gL iV iW jC iX zL zM zN zO zP M3 M4 M5 M6 M7 M8 M9:D):D.agg (cH [a0,a1,a2,a3,a4,a5,a6,a7,a8,a9,gH,gI,gJ,gK,gL,iV,iW,jC,iX,zL,zM,zN,zO,zP,M3,M4,M5,M6,M7,M8,M9] 0 [strs x.realm.currencies,m6 x.realm.cities,groups x.realm.groups,firms x.realm.firms,orders x.realm.orders,usances x.realm.usances,rates x.realm.rates,halts x.realm.halts,.int x.forum,.int x.day,.int x.file.bill.drawer,.int x.file.bill.drawee,.int x.file.bill.payee,.int x.file.bill.sum,.int x.file.bill.currency,.int x.file.bill.tenor.kind,.int x.file.bill.tenor.n,.int x.file.bill.tenor.unit,.int x.file.bill.day,.int x.file.bill.city,.int x.file.bill.pay,.int x.file.bill.need,.int x.file.bill.rate,.int x.file.bill.flags,.int x.file.bill.parts,signs x.file.signs,alters x.file.alters,acts x.file.acts,facts x.file.facts,.int x.form,.int x.due])=dq x:=_root_.id rfl
@[simp] theorem aFd (x:View):(dq x).c 8=.int x.forum:=_root_.id rfl
@[simp] theorem aFe (x:View):(dq x).c 9=.int x.day:=_root_.id rfl
@[simp] theorem aES (x:View):(dq x).c 10=.int x.file.bill.drawer:=_root_.id rfl
@[simp] theorem aET (x:View):(dq x).c 11=.int x.file.bill.drawee:=_root_.id rfl
@[simp] theorem aEU (x:View):(dq x).c 12=.int x.file.bill.payee:=_root_.id rfl
@[simp] theorem aEV (x:View):(dq x).c 13=.int x.file.bill.sum:=_root_.id rfl
@[simp] theorem aEW (x:View):(dq x).c 14=.int x.file.bill.currency:=_root_.id rfl
@[simp] theorem aEX (x:View):(dq x).c 15=.int x.file.bill.tenor.kind:=_root_.id rfl
@[simp] theorem aEY (x:View):(dq x).c 16=.int x.file.bill.tenor.n:=_root_.id rfl
@[simp] theorem aEZ (x:View):(dq x).c 17=.int x.file.bill.tenor.unit:=_root_.id rfl
@[simp] theorem aE0 (x:View):(dq x).c 18=.int x.file.bill.day:=_root_.id rfl
@[simp] theorem aE1 (x:View):(dq x).c 19=.int x.file.bill.city:=_root_.id rfl
@[simp] theorem aE2 (x:View):(dq x).c 20=.int x.file.bill.pay:=_root_.id rfl
@[simp] theorem aE3 (x:View):(dq x).c 21=.int x.file.bill.need:=_root_.id rfl
@[simp] theorem aE4 (x:View):(dq x).c 22=.int x.file.bill.rate:=_root_.id rfl
@[simp] theorem aE5 (x:View):(dq x).c 23=.int x.file.bill.flags:=_root_.id rfl
@[simp] theorem aE6 (x:View):(dq x).c 24=.int x.file.bill.parts:=_root_.id rfl
@[simp] theorem aE7 (x:View):(dq x).c 25=signs x.file.signs:=_root_.id rfl
@[simp] theorem aE8 (x:View):(dq x).c 26=alters x.file.alters:=_root_.id rfl
@[simp] theorem aE9 (x:View):(dq x).c 27=acts x.file.acts:=_root_.id rfl
@[simp] theorem aFa (x:View):(dq x).c 28=facts x.file.facts:=_root_.id rfl
@[simp] theorem aFb (x:View):(dq x).c 29=.int x.form:=_root_.id rfl
@[simp] theorem aFc (x:View):(dq x).c 30=.int x.due:=_root_.id rfl
@[simp] theorem aFo (x:View):gM 8 (dq x)=aZ x.realm:=_root_.id rfl
def jQ:List Int→Int→Int
 |[],o=>o
 |x::l,o=>if x=0 then 0 else jQ l (if x=2 then 2 else o)
theorem avk {l:List Int}{o:Int}(hn:∀x,x∈l→¬x=0)(h2:o=1∨o=2):jQ l o=if o=2∨2∈l then 2 else 1:=by
 induction l generalizing o with
 |nil=>rcases h2 with h|h<;>simp[jQ,h]
 |cons x l ih=>
  have hx:=hn x (by simp);unfold jQ;rw[if_neg hx];by_cases e:x=2
  ·rw[if_pos e,ih (fun y hy=>hn y (by simp[hy])) (.inr rfl)];simp[e]
  ·rw[if_neg e,ih (fun y hy=>hn y (by simp[hy])) h2];simp[Ne.symm e]
theorem ZW:∀{l:List Int} {o:Int} {k:Nat} (hk:k<l.length),(∀j (hj:j<k),¬l[j]'(by omega)=0)→l[k]=0→jQ l o=0
 |[],o,k,hk,_,_=>by simp at hk
 |x::l,o,0,hk,hj,h=>by
  unfold jQ;rw[if_pos (by simpa using h)]
 |x::l,o,k+1,hk,hj,h=>by
  unfold jQ;rw[if_neg (by have:=hj 0 (by omega);simpa using this)];exact ZW (k:=k) (by simpa using hk) (fun j Ht=>by have:=hj (j+1) (by omega);simpa using this) (by simpa using h)
def yx (l:List Int)(k:Nat):Int:=if 2∈l.take k then 2 else 1
theorem avl (l:List Int)(hl:l.length≤100000):aj T QH [ints l] (.int (jQ l 1)):=by
 refine .of_tree rfl aiC az9 ?_;simp[TR];refine aO.scan l.length (fun k=>l.getD k 0≠0) (fun k=>[.int 0,.int (yx l k),.int k]) (fun _=>[]) ?_ (fun k hk hj az=>?_) (fun k hk hj az=>?_) (fun hj=>?_)
 ·simp[yx]
 ·have hw:=bI hk (by omega);have hx:¬l[k]=0:=by simpa [hk] using az
  have hm:yx l (k+1)=if l[k]=2 then 2 else yx l k:=by
   unfold yx;rw[List.take_succ_eq_append_getElem hk];simp only[List.mem_append,List.mem_singleton];by_cases e:l[k]=2
   ·simp[e]
   ·simp[e,Ne.symm e]
  rw[hm];simp[Sj,Dr,hk,hw,hx];by_cases e:l[k]=2<;>simp[e]
 ·have hx:l[k]=0:=by simpa [hk] using az
  simp[Sj,Dr,hk,hx];rw[ZW hk (fun j Ht=>by simpa [show j<l.length by omega] using hj j Ht) hx]
 ·simp[Sj,Dr];rw[avk (fun x hx=>by obtain⟨j,eD,rfl⟩:=List.getElem_of_mem hx;simpa [eD] using hj j eD) (.inl rfl)];simp[yx]
def bO (v:View)(q sign:Int):Int:=fY (bS v.realm v.forum q ⟨v.file,sign,sign,-1,v.due,v.day⟩)
theorem Tk (v:View)(hr:Right v.realm)(hf:FewS v.file)(q sign:Int):aj T aa3 [dq v,.int q,.int sign] (.int (bO v q sign)):=by
 refine .of_tree rfl aiF aAc ?_;simp[TV];refine⟨nf (bS v.realm v.forum q ⟨v.file,sign,sign,-1,v.due,v.day⟩),Nc v.realm hr v.forum q ⟨v.file,sign,sign,-1,v.due,v.day⟩ hf,EL _⟩
def kA (f:File)(sign:Int)(n:Nat):Bool:=(f.alters.take n).any fun a=>decide (sign<a.at_)
def nz (f:File):Int:=(f.alters.getD (f.alters.length-1) default).sum
def gG (v:View)(sign:Int):Int×Int:=
 if kA v.file sign v.file.alters.length=false then(0,jy v.file sign v.file.alters.length)
 else if bO v 4 sign=1 then(1,nz v.file)
 else if bO v 4 sign=2 then(2,min (jy v.file sign v.file.alters.length) (nz v.file))
 else(bO v 4 sign,jy v.file sign v.file.alters.length)
theorem azN (v:View)(hr:Right v.realm)(hf:FewS v.file)(sign:Int):aj T aa4 [dq v,.int sign] (.tup [.int (gG v sign).1,.int (gG v sign).2]):=by
 refine .of_tree rfl aiG aAd ?_;simp[TW];have u9:=hf.alters;refine⟨_,ax0 v.file sign (by omega),?_⟩;refine aO.forRounds v.file.alters.length (fun k=>[.bool (kA v.file sign k),.int k]) (fun _=>[]) ?_ (fun k hk=>?_) ?_
 ·simp[kA]
 ·have hw:=bI hk (by omega);have hs:kA v.file sign (k+1)=(kA v.file sign k||decide (sign<v.file.alters[k].at_)):=by
   unfold kA;rw[List.take_succ_eq_append_getElem hk,List.any_append];simp
  rw[hs];cases kA v.file sign k<;>simp[Sk,Ds,hk,hw]
 ·unfold gG;cases ha:kA v.file sign v.file.alters.length
  ·simp[Sk,Ds,ha]
  simp[Sk,Ds,ha];have PJ:0<v.file.alters.length:=by
   rcases Nat.eq_zero_or_pos v.file.alters.length with e|e
   ·simp[kA,List.length_eq_zero_iff.mp e] at ha
   ·exact e
  have hw:IntKind.i64.wrap ((v.file.alters.length:Int)-1)=(v.file.alters.length:Int)-1:=aW (by omega);have hn:((v.file.alters.length:Int)-1).toNat=v.file.alters.length-1:=by omega
  have af:v.file.alters.length-1<v.file.alters.length:=by omega
  have sV:nz v.file=v.file.alters[v.file.alters.length-1].sum:=by simp[nz,af]
  simp[hw,hn,af];refine⟨by omega,_,Tk v hr hf 4 sign,?_⟩;rw[sV];by_cases h1:bO v 4 sign=1
  ·simp[h1]
  by_cases h2:bO v 4 sign=2
  ·simp[h1,h2];split
   ·rw[Int.min_eq_right (by omega)]
   ·rw[Int.min_eq_left (by omega)]
  ·simp[h1,h2]
@[simp] theorem aJz (a0 a1 a2 a3 a4 a5 a6 x:D):cH [a0,a1,a2,a3,a4,a5,a6] 3 [x]=[a0,a1,a2,x,a4,a5,a6]:=_root_.id rfl
@[simp] theorem aJA (a0 a1 a2 a3 a4 a5 a6 x:D):cH [a0,a1,a2,a3,a4,a5,a6] 4 [x]=[a0,a1,a2,a3,x,a5,a6]:=_root_.id rfl
@[simp] theorem aJB (a0 a1 a2 a3 a4 a5 a6 x:D):cH [a0,a1,a2,a3,a4,a5,a6] 5 [x]=[a0,a1,a2,a3,a4,x,a6]:=_root_.id rfl
def mi (v:View)(sign:Int):Effect:=
 let s:=v.file.signs.getD sign.toNat default
 ⟨sign,s.kind,s.who,if jW v.file sign v.day=true then 0 else jQ [v.form,bO v 1 sign,bO v 2 sign] 1,(gG v sign).1,
    if s.kind=1∨s.kind=4 then min (gG v sign).2 s.sum else(gG v sign).2,decide (s.kind≠1)&&decide (bD .and .i64 s.flags 1=0)⟩
theorem aoG (v:View)(hr:Right v.realm)(hf:FewS v.file)(sign:Int)(h0:0≤sign)(h1:sign<v.file.signs.length):aj T aa2 [dq v,.int sign] (uQ (mi v sign)):=by
 refine .of_tree rfl aiE aAb ?_;obtain⟨k,rfl⟩:=Int.eq_ofNat_of_zero_le h0;have hk:k<v.file.signs.length:=by omega
 have cA:=azQ v.file k v.day (by have:=hf.acts;omega);have P4:=azN v hr hf k;have kJ:v.file.signs.getD (k:Int).toNat default=v.file.signs[k]:=by simp[hk]
 have Cr:=Tk v hr hf 1 k;have dj:=Tk v hr hf 2 k;have hj:aj T QH [.list [.int v.form,.int (bO v 1 k),.int (bO v 2 k)]] (.int (jQ [v.form,bO v 1 k,bO v 2 k] 1)):=avl [v.form,bO v 1 k,bO v 2 k] (by simp);have hif:(if v.file.signs[k].kind=1 then D.bool false else D.bool (decide (bD BinOp.and IntKind.i64 v.file.signs[k].flags 1=0)))=D.bool (decide (v.file.signs[k].kind≠1)&&decide (bD BinOp.and IntKind.i64 v.file.signs[k].flags 1=0)):=by
  by_cases h:v.file.signs[k].kind=1<;>simp[h]
 unfold mi;rw[kJ];generalize bO v 1 k=s1 at*;generalize bO v 2 k=s2 at*;generalize jQ [v.form,s1,s2] 1=jj at*;generalize gG v k=tx at*;obtain⟨t1,t2⟩:=tx;simp only at P4;simp[TU,hk,hif];refine⟨_,cA,?_⟩;have ru:∀a b:Int,(if b<a then D.int b else D.int a)=D.int (min a b):=by
  intro a b;split
  ·rw[Int.min_eq_right (by omega)]
  ·rw[Int.min_eq_left (by omega)]
 cases xY:jW v.file k v.day
 ·simp[xY];refine⟨_,Cr,_,dj,_,hj,_,P4,?_⟩;by_cases h1:v.file.signs[k].kind=1∨v.file.signs[k].kind=4
  ·simp[h1,ru];rfl
  ·simp[h1,ru];rfl
 ·simp[xY];refine⟨_,P4,?_⟩;by_cases h1:v.file.signs[k].kind=1∨v.file.signs[k].kind=4
  ·simp[h1,ru];rfl
  ·simp[h1,ru];rfl
noncomputable def dR (r:Realm)(forum:Int)(f:File)(day:Int):View:=⟨r,forum,day,aG f day,fY (iY r forum 0 (aG f day) day),bX r forum (aG f day) day⟩
theorem axK (r:Realm)(hr:Right r)(hd:RightD r)(forum:Int)(f:File)(day:Int)(hf:FewS f):aj T aa1 [aZ r,.int forum,bT f,.int day] (dq (dR r forum f day)):=by
 refine .of_tree rfl aiD aAa ?_;simp[TS];have hg:=hf.at_ day;refine⟨_,D5 f day (by have:=hf.signs;omega) (by have:=hf.acts;omega) (by have:=hf.alters;omega) (by have:=hf.facts;omega),?_⟩;simp;refine⟨_,Wr r hr forum 0 _ day hg,_,EL _,_,MX r hr hd forum _ day hg,?_⟩;simp;rfl
@[simp] theorem aI1 (x:View)(a0 a1 a2 a3 a4 a5 a6 a7 a8 a9 gH gI gJ gK gL iV iW jC iX zL zM zN zO zP M3 M4 M5 M6 M7 M8 M9:D):(cH [a0,a1,a2,a3,a4,a5,a6,a7,a8,a9,gH,gI,gJ,gK,gL,iV,iW,jC,iX,zL,zM,zN,zO,zP,M3,M4,M5,M6,M7,M8,M9] 0 [strs x.realm.currencies,m6 x.realm.cities,groups x.realm.groups,firms x.realm.firms,orders x.realm.orders,usances x.realm.usances,rates x.realm.rates,halts x.realm.halts,.int x.forum,.int x.day,.int x.file.bill.drawer,.int x.file.bill.drawee,.int x.file.bill.payee,.int x.file.bill.sum,.int x.file.bill.currency,.int x.file.bill.tenor.kind,.int x.file.bill.tenor.n,.int x.file.bill.tenor.unit,.int x.file.bill.day,.int x.file.bill.city,.int x.file.bill.pay,.int x.file.bill.need,.int x.file.bill.rate,.int x.file.bill.flags,.int x.file.bill.parts,signs x.file.signs,alters x.file.alters,acts x.file.acts,facts x.file.facts,.int x.form,.int x.due])[25]?.getD D.none=signs x.file.signs:=_root_.id rfl
def noE:Effect:=⟨0,0,0,0,0,0,false⟩
noncomputable def bA (r:Realm)(forum:Int)(f:File)(sign day:Int):Effect×Bool:=
 if sign<0∨(dR r forum f day).file.signs.length≤sign then(noE,false) else(mi (dR r forum f day) sign,true)
theorem MV (r:Realm)(hr:Right r)(hd:RightD r)(forum:Int)(f:File)(sign day:Int)(hf:FewS f):aj T aa0 [aZ r,.int forum,bT f,.int sign,.int day] (.tup [uQ (bA r forum f sign day).1,.bool (bA r forum f sign day).2]):=by
 refine .of_tree rfl aiB az8 ?_;simp[TQ];refine⟨_,axK r hr hd forum f day hf,?_⟩;have hg:FewS (dR r forum f day).file:=hf.at_ day;have vx:(dR r forum f day).realm=r:=rfl;unfold bA;generalize dR r forum f day=v at*;simp;by_cases h:sign<0∨(v.file.signs.length:Int)≤sign
 ·simp[h];rfl
 ·simp[h];refine⟨_,aoG v (vx▸hr) hg sign (by omega) (by omega),?_⟩;simp
end Rm
namespace Rm
open Go Go.Proofs Cx
theorem Bv {n:Nat}{f:Nat→Int}(h:fc n f=0)(k:Nat)(hk:k<n):f k=0:=Ov.1 h k hk
theorem ank {r:Realm}(h:eB r=0)(k:Nat)(hk:k<r.orders.length):tK r.orders[k]=true:=by
 unfold eB at h;rw[Mf] at h;have h1:=h (lg (rH r) 20 (we r)) (by simp);unfold lg at h1;split at h1
 ·cases h1
 have h2:=Bv h1 k (by simpa [rH] using hk);have h3:=(XM h2).2;unfold we at h3;simpa [hk] using h3
theorem arQ {r:Realm}(hs:Small r)(h:eB r=0):zG r:=by
 intro o ho;obtain⟨k,hk,rfl⟩:=List.getElem_of_mem ho;have h1:=ank h k hk;obtain⟨hc,_⟩:=hs.order _ ho;refine⟨by omega,fun ch pV=>?_⟩;unfold tK at h1;simp only[Bool.and_eq_true] at h1;obtain⟨j,hj,rfl⟩:=List.getElem_of_mem pV;have h2:=zS.1 h1.1 j hj;simpa [aF,hj] using h2
theorem arR {r:Realm}(hs:Small r)(h:eB r=0):sc r:=by
 refine⟨by have:=hs.halts;omega,fun x hx=>?_⟩;obtain⟨k,hk,rfl⟩:=List.getElem_of_mem hx;unfold eB at h;rw[Mf] at h;have h1:=h (qC r) (by simp);unfold qC at h1;split at h1
 ·cases h1
 split at h1
 ·cases h1
 split at h1
 ·cases h1
 split at h1
 ·rename_i aR;have h2:=zS.1 aR k hk;simp[BP,wi,aF,hk] at h2;omega
 ·cases h1
structure Good (r:Realm) (f:File):Prop where
 right:Right r
 rightD:RightD r
 few:FewS f
theorem BF {r:Realm}{f:File}(hr:r.OK)(h:ot r f=true):Good r f:=by
 unfold ot om at h;simp only[Bool.and_eq_true,decide_eq_true_eq] at h;obtain⟨⟨⟨h1,h2⟩,h3⟩,h4⟩:=h;have hs:=Oo hr h1;refine⟨⟨arQ hs h4,by have:=hs.orders;omega,fun o ho=>?_⟩,⟨hs,arR hs h4⟩,?_⟩
 ·have:=hs.order o ho;refine⟨?_,by omega⟩;exact hr.2.2.2.2.1.2 o ho
 ·simp[xx] at h2;exact⟨by omega,by omega,by omega,by omega⟩
theorem ao2 {r:Realm}{f:File}(h:ot r f=true):f.facts.length≤220:=by
 unfold ot om at h;simp only[Bool.and_eq_true,decide_eq_true_eq] at h;have:=h.1.1.2;simp[xx] at this;omega
end Rm
namespace Rm
open Go Go.Proofs Cx
def iU (a b:Cell):Prop:=a.known=true→b=a
theorem iU.rfl' (a:Cell):iU a a:=fun _=>rfl
theorem iU.no (b:Cell):iU dI b:=fun h=>by cases h
def px (l l':List Cell):Prop:=l.length=l'.length∧∀i,iU (aN l i) (aN l' i)
theorem WZ {α:Type}(f:α→Cell)(l:List α)(i:Nat)(hi:i<l.length):aN (l.map f) i=f l[i]:=by
 simp[aN,hi]
theorem W0 (l:List Cell)(i:Nat)(hi:l.length≤i):aN l i=default:=by
 simp[aN,hi]
theorem px.map {α:Type}{f g:α→Cell}{l:List α}(h:∀a,a∈l→iU (f a) (g a)):px (l.map f) (l.map g):=by
 refine⟨by simp,fun i=>?_⟩;by_cases hi:i<l.length
 ·rw[WZ f l i hi,WZ g l i hi];exact h _ (List.getElem_mem hi)
 ·rw[W0 _ i (by simpa using hi),W0 _ i (by simpa using hi)];exact .rfl' _
theorem aCg {cs fL:List Cell}(h:px cs fL)(v:Int):iU (jz cs v) (jz fL v):=by
 intro hk;have hv:=h.2 v.toNat;unfold jz at hk ⊢;unfold cellAt at hk ⊢;unfold aN at hv;by_cases h1:cs.length≤v.toNat∨(cs.getD v.toNat default).known=false
 ·rw[if_pos h1] at hk;cases hk
 ·have h2:(cs.getD v.toNat default).known=true:=by
   cases e:(cs.getD v.toNat default).known
   ·exact absurd (.inr e) h1
   ·rfl
  rw[hv h2,←h.1]
theorem W8 {l l':List Cell}(h:px l l')(op:Int):iU (fa op l) (fa op l'):=by
 intro hk;have h0:=h.2 0;have h1:=h.2 1;have h2:=h.2 2;unfold fa at hk ⊢;by_cases o3:op=3
 ·rw[if_pos o3] at hk ⊢;rw[if_pos o3];cases e:(aN l 0).known
  ·rw[e] at hk;cases hk
  ·rw[h0 e,e]
 rw[if_neg o3] at hk ⊢;rw[if_neg o3];by_cases o4:(op=4∨op=5)∧(aN l 0=dU (decide (op=5))∨aN l 1=dU (decide (op=5)))
 ·have o4':(op=4∨op=5)∧(aN l' 0=dU (decide (op=5))∨aN l' 1=dU (decide (op=5))):=by
   refine⟨o4.1,?_⟩;have hy:∀b,(dU b).known=true:=fun b=>by cases b<;>rfl
   rcases o4.2 with e|e
   ·exact .inl ((h0 (by rw[e];exact hy _)).trans e)
   ·exact .inr ((h1 (by rw[e];exact hy _)).trans e)
  rw[if_pos o4,if_pos o4']
 rw[if_neg o4] at hk ⊢;by_cases o6:op=6
 ·have o5:¬((op=4∨op=5)∧(aN l' 0=dU (decide (op=5))∨aN l' 1=dU (decide (op=5)))):=by omega
  rw[if_pos o6] at hk ⊢;rw[if_neg o5,if_pos o6];by_cases e:(aN l 1).known=true∧aN l 1=aN l 2
  ·have e1:=h1 e.1;have e2:=h2 (by rw[←e.2];exact e.1);rw[if_pos e,e1,e2,if_pos e]
  ·rw[if_neg e] at hk;cases hk
 rw[if_neg o6] at hk ⊢;by_cases ok:(aN l 0).known=false∨(aN l 1).known=false
 ·rw[if_pos ok] at hk;cases hk
 have k0:(aN l 0).known=true:=by cases e:(aN l 0).known<;>simp[e] at ok ⊢
 have k1:(aN l 1).known=true:=by cases e:(aN l 1).known<;>simp[e] at ok ⊢
 rw[h0 k0,h1 k1,if_neg o4,if_neg o6]
theorem Xy:∀{L:Nat} {t:Tm} {k:Int} {cs fL:List Cell},px cs fL→bP L t=(k,0)→iU (bh L cs t) (bh L fL t)
 |0,t,k,cs,fL,hc,h=>.no _
 |L+1,t,k,cs,fL,hc,h=>by
  obtain⟨hn,hk⟩:=GB h;obtain⟨ha,_⟩:=GA h;have ih:∀a,a∈t.args→iU (bh L cs a) (bh L fL a):=fun a hm=>Xy hc (show bP L a=((bP L a).1,0) by rw[←ha a hm]);have ir:∀(c:List Cell) a,a∈t.args→se (bP L a).1 (bh L c a):=fun c a hm=>On c (show bP L a=((bP L a).1,0) by rw[←ha a hm]);have im:=px.map ih;rw[xw,xw];by_cases o0:t.op=0∨t.op=1
  ·rw[if_pos o0,if_pos o0];exact .rfl' _
  rw[if_neg o0,if_neg o0];by_cases o2:t.op=2
  ·rw[if_pos o2,if_pos o2];exact aCg hc _
  rw[if_neg o2,if_neg o2];by_cases o6:t.op=6
  ·cases hn with
   |ite k h0 ct=>
    obtain⟨a,b,c,hl,e1,e2,e3⟩:=Ia ct;rw[hl] at ih ir im ⊢;have r1:=ir fL a (by simp);rw[e1] at r1;have m1:=ih a (by simp);have m2:=ih b (by simp);have m3:=ih c (by simp);by_cases g:t.op=6∧(aN ([a,b,c].map (bh L cs)) 0).known=true
    ·have e:aN ([a,b,c].map (bh L fL)) 0=aN ([a,b,c].map (bh L cs)) 0:=im.2 0 g.2;have g':t.op=6∧(aN ([a,b,c].map (bh L fL)) 0).known=true:=⟨g.1,by rw[e];exact g.2⟩
     rw[if_pos g,if_pos g',e];exact im.2 _
    rw[if_neg g];by_cases g':t.op=6∧(aN ([a,b,c].map (bh L fL)) 0).known=true
    ·rw[if_pos g'];intro oC;unfold fa at oC ⊢;rw[if_neg (by omega),if_neg (by omega),if_pos o6] at oC ⊢;simp only[List.map_cons,List.map_nil,aN,List.getD_cons_zero,List.getD_cons_succ] at oC g' ⊢;by_cases e:(bh L cs b).known=true∧bh L cs b=bh L cs c
     ·rw[if_pos e];have q1:=m2 e.1;have q2:=m3 (by rw[←e.2];exact e.1);rcases(r1.2 g'.2).1 rfl with h1|h1<;>rw[h1]
      ·show bh L fL c=_;rw[q2,e.2]
      ·show bh L fL b=_;exact q1
     ·rw[if_neg e] at oC;cases oC
    ·rw[if_neg g'];exact W8 im _
   |_=>omega
  ·rw[if_neg (by omega),if_neg (by omega)];exact W8 im _
theorem aoS {cs fL:List Cell}(h:px cs fL)(t:Tm):iU (pM cs t) (pM fL t):=by
 unfold pM;by_cases e:(lX t).2=0
 ·rw[if_pos e,if_pos e];exact Xy h (W2 e).2
 ·rw[if_neg e];exact .no _
theorem aif {cs fL:List Cell}(h:px cs fL)(o:Order)(ask:Int):iU (kB o ask cs).1 (kB o ask fL).1∧(kB o ask fL).2=(kB o ask cs).2:=by
 unfold kB;by_cases e:(findF o ask).2≠0
 ·rw[if_pos e,if_pos e];exact⟨.rfl' _,rfl⟩
 rw[if_neg e,if_neg e];refine⟨?_,rfl⟩;intro hk;have hm:=aoS h (findF o ask).1;simp only at hk ⊢;cases e2:(pM cs (findF o ask).1).known
 ·rw[e2] at hk;simp[e2] at hk
 ·rw[hm e2,e2]
structure SameF (f g:File):Prop where
 bill:g.bill=f.bill
 signs:g.signs=f.signs
 alters:g.alters=f.alters
 acts:g.acts=f.acts
theorem SameF.at_ {f g:File}(h:SameF f g)(day:Int):SameF (aG f day) (aG g day):=by
 obtain⟨h1,h2,h3,h4⟩:=h;constructor<;>simp[aG,h1,h2,h3,h4]
def gk (c:Case)(g:File):Case:={c with file:=g}
theorem azd {c:Case}{g:File}(h:SameF c.file g)(r:Realm)(s:Sign)(i:Nat):aN (oq r (gk c g) s) i=
 if i=15 then cF g 0 c.sign else if i=16 then cF g 1 c.sign else if i=17 then cF g 2 c.sign else if i=18 then cF g 3 (fO c) else if i=19 then cF g 4 (fO c) else aN (oq r c s) i:=by
 obtain⟨h1,h2,h3,h4⟩:=h
 have e:(oq r (gk c g) s)=(kq c s).map (fun p=>⟨true,p.2⟩)++(kS r c s).map (fun p=>dU p.2)++
  [cF g 0 c.sign,cF g 1 c.sign,cF g 2 c.sign,cF g 3 (fO c),cF g 4 (fO c)]:=by
  simp[oq,gk,kq,kS,fO,xe,h1,h3,vN];exact⟨rfl,rfl,rfl,rfl⟩
 rw[e];unfold oq kq kS;rcases i with _|_|_|_|_|_|_|_|_|_|_|_|_|_|_|_|_|_|_|_|i<;>simp[aN]
theorem azf {c:Case}{g:File}(h:SameF c.file g)(r:Realm):(ew r (gk c g)=[]↔ew r c=[]):=by
 obtain⟨h1,h2,h3,h4⟩:=h;have e1:jD (gk c g)=jD c:=by simp[jD,gk,h2,fO];rfl
 unfold ew;rw[e1];simp only[gk,h2];split
 ·simp[oq,kq]
 ·simp
def V3 (f g:File)(s h:Int):Prop:=(∀k,iU (cF f k s) (cF g k s))∧(∀k,iU (cF f k h) (cF g k h))
theorem aCi {c:Case}{g:File}(h:SameF c.file g)(hf:V3 c.file g c.sign (fO c))(r:Realm):px (ew r c) (ew r (gk c g)):=by
 have e1:jD (gk c g)=jD c:=by simp[jD,gk,h.signs,fO];rfl
 unfold ew;rw[e1];simp only[show(gk c g).file.signs=c.file.signs from h.signs,show(gk c g).sign=c.sign from rfl];split
 ·generalize c.file.signs.getD c.sign.toNat default=s;refine⟨by simp[oq,kq,kS],fun i=>?_⟩;rw[azd h r s i];have hs:∀j,j=15∨j=16∨j=17∨j=18∨j=19∨(j≠15∧j≠16∧j≠17∧j≠18∧j≠19):=by omega
  rcases hs i with e|e|e|e|e|⟨a,b,c',d,e⟩
  ·subst e;exact hf.1 0
  ·subst e;exact hf.1 1
  ·subst e;exact hf.1 2
  ·subst e;exact hf.2 3
  ·subst e;exact hf.2 4
  ·rw[if_neg a,if_neg b,if_neg c',if_neg d,if_neg e];exact .rfl' _
 ·exact⟨rfl,fun i=>.rfl' _⟩
theorem aze {c:Case}{g:File}(h:SameF c.file g)(r:Realm)(forum:Int):fT r forum (gk c g)=fT r forum c:=by
 obtain⟨h1,h2,h3,h4⟩:=h;simp[fT,kZ,jq,gk,cL,h1,h2]
theorem ac2 (c:Case)(g:File):aV (gk c g)=gk (aV c) (aG g c.day):=rfl
theorem Wt (r:Realm)(forum q:Int){c:Case}{g:File}(h:SameF c.file g)(hf:V3 (aG c.file c.day) (aG g c.day) c.sign (fO c)):
 iU (bS r forum q c).cell (bS r forum q (gk c g)).cell∧(bS r forum q (gk c g)).err=(bS r forum q c).err:=by
 have hs:=h.at_ c.day;have hv:=aCi (c:=aV c) hs hf r;have he:=azf (c:=aV c) hs r;have hp:=aze (c:=aV c) hs r forum;have e1:(eJ r forum q (gk c g)).1=(eJ r forum q c).1:=by
  unfold eJ;rw[ac2];rw[hp];by_cases e:ew r (aV c)=[]
  ·rw[if_pos e,if_pos (he.2 e)]
  ·rw[if_neg e,if_neg (fun x=>e (he.1 x))];split
   ·rfl
   split
   ·rfl
   rfl
 have e2:px (eJ r forum q c).2 (eJ r forum q (gk c g)).2:=by
  unfold eJ;rw[ac2];rw[hp];by_cases e:ew r (aV c)=[]
  ·rw[if_pos e,if_pos (he.2 e)];exact⟨rfl,fun i=>.rfl' _⟩
  ·rw[if_neg e,if_neg (fun x=>e (he.1 x))];split
   ·exact⟨rfl,fun i=>.rfl' _⟩
   split
   ·exact⟨rfl,fun i=>.rfl' _⟩
   exact hv
 unfold bS;rw[e1];split
 ·exact⟨.rfl' _,rfl⟩
 ·exact aif e2 _ _
theorem agO {a b:Said}(h:iU a.cell b.cell)(he:b.err=a.err)(hn:fY a≠2):fY b=fY a:=by
 unfold fY at*;rw[he];split
 ·rfl
 ·rename_i e;rw[if_neg e] at hn;cases hk:a.cell.known
  ·rw[hk] at hn;simp at hn
  ·rw[h hk,hk]
end Rm
namespace Rm
open Go Go.Proofs Cx
theorem XE (f:File)(day k s:Int):cF (aG f day) k s=if aF s (mY day f.signs).length=true then cF f k s else dI:=by
 unfold cF;have h:(aG f day).facts.find? (ld k s)=if aF s (mY day f.signs).length=true then f.facts.find? (ld k s) else none:=by
  show(f.facts.filter (j0 (mY day f.signs).length)).find? (ld k s)=_;generalize (mY day f.signs).length=n
  induction f.facts with
  |nil=>simp
  |cons x l ih=>
   by_cases hx:ld k s x=true
   ·have hs:x.at_=s:=by simp[ld] at hx;exact hx.2
    by_cases hn:aF s n=true
    ·have:j0 n x=true:=by unfold j0;rw[hs];exact hn
     simp[List.filter_cons,this,hx,hn]
    ·have:¬j0 n x=true:=by unfold j0;rw[hs];exact hn
     simp only[List.filter_cons,if_neg this,ih,if_neg hn]
   ·by_cases hn:j0 n x=true
    ·simp[List.filter_cons,hn,hx,ih]
    ·simp[List.filter_cons,hn,hx,ih]
 rw[h];by_cases hn:aF s (mY day f.signs).length=true
 ·rw[if_pos hn,if_pos hn]
 ·rw[if_neg hn,if_neg hn]
theorem WC (r:Realm)(forum q:Int){f g:File}(h:SameF f g)(day:Int):iY r forum q g day=iY r forum q f day:=by
 obtain⟨h1,h2,h3,h4⟩:=h;unfold iY;rw[show({g with facts:=[]}:File)={f with facts:=[]} by rw[h1,h2,h3,h4]]
theorem azj {f g:File}(h:SameF f g):iN g=iN f:=by
 obtain⟨h1,h2,h3,h4⟩:=h;have e:ku g=ku f:=by funext a;unfold ku;rw[h1]
 unfold iN lL iM;rw[h4,h2,e,h1]
theorem aaA (r:Realm)(forum:Int){f g:File}(h:SameF f g)(day:Int):bX r forum g day=bX r forum f day:=by
 have ha:=h.at_ day;unfold bX;rw[ha.signs,h.bill,azj ha,WC r forum 6 ha]
theorem azy {f g:File}(h:SameF f g)(sign day:Int):jW g sign day=jW f sign day:=by
 unfold jW;rw[h.signs,h.acts]
theorem azC {f g:File}(h:SameF f g)(sign:Int)(n:Nat):jy g sign n=jy f sign n:=by
 unfold jy;rw[h.alters,h.bill]
def ed (v:View)(g:File):View:={v with file:=g}
theorem axL (r:Realm)(forum:Int){f g:File}(h:SameF f g)(day:Int):dR r forum g day=ed (dR r forum f day) (aG g day):=by
 have ha:=h.at_ day;unfold dR ed;rw[WC r forum 0 ha,aaA r forum ha]
end Rm
namespace Rm
open Go Go.Proofs Cx
@[simp] theorem aIQ:D.none.cells=[D.none]:=_root_.id rfl
end Rm
namespace Rm
open Go Go.Proofs Cx
structure MoreF (f g:File):Prop where
 same:SameF f g
 le:∀k s,iU (cF f k s) (cF g k s)
theorem MoreF.at_ {f g:File}(h:MoreF f g)(day:Int):MoreF (aG f day) (aG g day):=by
 refine⟨h.same.at_ day,fun k s=>?_⟩;rw[XE,XE,h.same.signs];split
 ·exact h.le k s
 ·exact .no _
theorem Tj {v:View}{g:File}(h:MoreF v.file g)(q s:Int)(hn:bO v q s≠2):bO (ed v g) q s=bO v q s:=by
 unfold bO at*;have hm:=Wt v.realm v.forum q (c:=⟨v.file,s,s,-1,v.due,v.day⟩) h.same ⟨fun k=>(h.at_ v.day).le k _,fun k=>(h.at_ v.day).le k _⟩;exact agO hm.1 hm.2 hn
theorem ZV (a b c:Int)(ha:a=0∨a=1∨a=2)(hb:b=0∨b=1∨b=2)(hc:c=0∨c=1∨c=2):jQ [a,b,c] 1=if a=0∨b=0∨c=0 then 0 else if a=2∨b=2∨c=2 then 2 else 1:=by
 rcases ha with rfl|rfl|rfl<;>rcases hb with rfl|rfl|rfl<;>rcases hc with rfl|rfl|rfl<;>decide
theorem Et (x:Said):fY x=0∨fY x=1∨fY x=2:=by
 unfold fY
 repeat' split
 all_goals simp
def OE (a b:Effect):Bool:=(decide (a.binds=2)||decide (b.binds=a.binds))&&(decide (a.text=2)||decide (b.text=a.text))&&decide (a.sum≤b.sum)&&decide (a.recourse=b.recourse)
theorem aoD {v:View}{g:File}(h:MoreF v.file g)(s:Int)(Yx:v.form=0∨v.form=1∨v.form=2):OE (mi v s) (mi (ed v g) s)=true:=by
 have m1:=Tj h 1 s;have m2:=Tj h 2 s;have m4:=Tj h 4 s;have t1:bO v 1 s=0∨bO v 1 s=1∨bO v 1 s=2:=Et _;have t2:bO v 2 s=0∨bO v 2 s=1∨bO v 2 s=2:=Et _;have u1:bO (ed v g) 1 s=0∨bO (ed v g) 1 s=1∨bO (ed v g) 1 s=2:=Et _;have u2:bO (ed v g) 2 s=0∨bO (ed v g) 2 s=1∨bO (ed v g) 2 s=2:=Et _;have e1:(ed v g).file.alters=v.file.alters:=h.same.alters;have e2:kA (ed v g).file s v.file.alters.length=kA v.file s v.file.alters.length:=by unfold kA;rw[e1]
 have e3:nz (ed v g).file=nz v.file:=by unfold nz;rw[e1]
 have e4:=azC (g:=(ed v g).file) h.same s v.file.alters.length;have es:=azy (g:=(ed v g).file) h.same s v.day;have hb:jQ [v.form,bO v 1 s,bO v 2 s] 1=2∨jQ [v.form,bO (ed v g) 1 s,bO (ed v g) 2 s] 1=jQ [v.form,bO v 1 s,bO v 2 s] 1:=by
  rw[ZV _ _ _ Yx t1 t2,ZV _ _ _ Yx u1 u2];generalize bO v 1 s=a1 at*;generalize bO v 2 s=a2 at*;generalize bO (ed v g) 1 s=b1 at*;generalize bO (ed v g) 2 s=b2 at*
  repeat' split
  all_goals omega
 have ht:((gG v s).1=2∨(gG (ed v g) s).1=(gG v s).1)∧(gG v s).2≤(gG (ed v g) s).2:=by
  unfold gG;rw[e1,e2,e3,e4];split
  ·exact⟨.inr rfl,Int.le_refl _⟩
  generalize jy v.file s v.file.alters.length=x at*;generalize nz v.file=y at*;generalize bO v 4 s=a at*;generalize bO (ed v g) 4 s=b at*;by_cases ha:a=2
  ·subst ha;rw[if_neg (by decide),if_pos rfl];refine⟨.inl rfl,?_⟩
   repeat' split
   all_goals simp
   all_goals omega
  ·have:=m4 ha;subst this;exact⟨.inr rfl,Int.le_refl _⟩
 unfold OE mi;simp only[show(ed v g).file.signs=v.file.signs from h.same.signs,show(ed v g).day=v.day from rfl,show(ed v g).form=v.form from rfl,es];generalize gG v s=tx at*;generalize gG (ed v g) s=ty at*;generalize jQ [v.form,bO v 1 s,bO v 2 s] 1=ja at*;generalize jQ [v.form,bO (ed v g) 1 s,bO (ed v g) 2 s] 1=jb at*;obtain⟨h1,h2⟩:=ht;simp only[Bool.and_eq_true,Bool.or_eq_true,decide_eq_true_eq];refine⟨⟨⟨?_,h1⟩,?_⟩,trivial⟩
 ·split
  ·exact .inr rfl
  ·exact hb
 ·split<;>omega
end Rm
namespace Rm
open Go Cx
structure Owed where
 sum:Int
 interest:Int
 costs:Int
 exchange:Int
 paid:Int
 rest:Int
 currency:Int
 deriving DecidableEq,Inhabited
def mj (x:Owed):D:=.agg [.int x.sum,.int x.interest,.int x.costs,.int x.exchange,.int x.paid,.int x.rest,.int x.currency]
@[simp] theorem aD7 (x:Owed):(mj x).cells=[.int x.sum,.int x.interest,.int x.costs,.int x.exchange,.int x.paid,.int x.rest,.int x.currency]:=_root_.id rfl
@[simp] theorem aIC (x:Owed):D.agg [.int x.sum,.int x.interest,.int x.costs,.int x.exchange,.int x.paid,.int x.rest,.int x.currency]=mj x:=_root_.id rfl
@[simp] theorem aFv (x:Owed):gM 7 (mj x)=mj x:=_root_.id rfl
@[simp] theorem aD0 (x:Owed):(mj x).c 0=.int x.sum:=_root_.id rfl
@[simp] theorem aD1 (x:Owed):(mj x).c 1=.int x.interest:=_root_.id rfl
@[simp] theorem aD2 (x:Owed):(mj x).c 2=.int x.costs:=_root_.id rfl
@[simp] theorem aD3 (x:Owed):(mj x).c 3=.int x.exchange:=_root_.id rfl
@[simp] theorem aD4 (x:Owed):(mj x).c 4=.int x.paid:=_root_.id rfl
@[simp] theorem aD5 (x:Owed):(mj x).c 5=.int x.rest:=_root_.id rfl
@[simp] theorem aD6 (x:Owed):(mj x).c 6=.int x.currency:=_root_.id rfl
end Rm
namespace Rm
open Go Go.Proofs Cx
structure ActsF (f g:File):Prop where
 bill:g.bill=f.bill
 signs:g.signs=f.signs
 alters:g.alters=f.alters
 facts:g.facts=f.facts
theorem ActsF.fact {f g:File}(h:ActsF f g)(k s:Int):cF g k s=cF f k s:=by unfold cF;rw[h.facts]
theorem ActsF.of_eq {f g:File}(h:g=f):ActsF f g:=by subst h;exact⟨rfl,rfl,rfl,rfl⟩
theorem EM (r:Realm)(forum q:Int){c c':Case}(h:ActsF (aG c.file c.day) (aG c'.file c'.day))(hs:c'.sign=c.sign)(hh:c'.holder=c.holder)(hd:c'.defence=c.defence)(hu:c'.due=c.due):
 bS r forum q c'=bS r forum q c:=by
 have e0:fO (aV c')=fO (aV c):=by unfold fO;rw[show(aV c').holder=(aV c).holder from hh]
 have e1:jD (aV c')=jD (aV c):=by
  unfold jD;rw[e0,show(aV c').sign=(aV c).sign from hs,show(aV c').holder=(aV c).holder from hh,show(aV c').due=(aV c).due from hu,show(aV c').file.signs=(aV c).file.signs from h.signs]
 have hv:ew r (aV c')=ew r (aV c):=by
  unfold ew;rw[e1];rw[show(aV c').sign=(aV c).sign from hs,show(aV c').file.signs=(aV c).file.signs from h.signs];split
  ·generalize (aV c).file.signs.getD (aV c).sign.toNat default=s;have h1:kq (aV c') s=kq (aV c) s:=by
        unfold kq;rw[show(aV c').file.bill=(aV c).file.bill from h.bill,show(aV c').defence=(aV c).defence from hd,show(aV c').due=(aV c).due from hu]
   have h2:kS r (aV c') s=kS r (aV c) s:=by
        have ha:xe (aV c').file (aV c').sign=xe (aV c).file (aV c).sign:=by
         unfold xe;rw[show(aV c').file.alters=(aV c).file.alters from h.alters,show(aV c').sign=(aV c).sign from hs]
        unfold kS;rw[ha,show(aV c').file.bill=(aV c).file.bill from h.bill,show(aV c').due=(aV c).due from hu]
   unfold oq;rw[h1,h2,e0,show(aV c').sign=(aV c).sign from hs];have hf:∀k s,cF (aV c').file k s=cF (aV c).file k s:=fun k s=>h.fact k s;rw[hf,hf,hf,hf,hf]
  ·rfl
 have hp:fT r forum (aV c')=fT r forum (aV c):=by
  have xX:cL (aV c').file (aV c').sign=cL (aV c).file (aV c).sign:=by
   unfold cL;rw[show(aV c').sign=(aV c).sign from hs,show(aV c').file.signs=(aV c).file.signs from h.signs]
  have ho:jq r forum (aV c')=jq r forum (aV c):=by
   unfold jq;rw[xX,show(aV c').file.bill=(aV c).file.bill from h.bill]
  have hb:kZ r forum (aV c')=kZ r forum (aV c):=by
   unfold kZ;rw[xX]
  unfold fT;simp only[ho,hb]
 unfold bS eJ;rw[hv,hp]
theorem MJ {α:Type}{p:α→Bool}{l:List α}(h:∀x,x∈l→p x=true):l.takeWhile p=l:=by
 induction l with
 |nil=>rfl
 |cons x l ih=>rw[List.takeWhile_cons,if_pos (h x (by simp)),ih fun y hy=>h y (by simp[hy])]
theorem agR {α:Type}{p:α→Bool}{l:List α}{x:α}(h:x∈l.takeWhile p):p x=true:=by
 induction l with
 |nil=>cases h
 |cons y l ih=>
  rw[List.takeWhile_cons] at h;split at h
  ·rcases List.mem_cons.1 h with rfl|h
   ·assumption
   ·exact ih h
  ·cases h
structure Stab (f:File) (day:Int):Prop where
 signs:∀s,s∈f.signs→s.day≤day
 acts:∀s,s∈f.acts→s.day≤day
 alters:∀a,a∈f.alters→nY f.signs.length a=true
 facts:∀a,a∈f.facts→j0 f.signs.length a=true
theorem Stab.at_ {f:File}{day d:Int}(h:Stab f day)(hd:day≤d):aG f d=f:=by
 have h1:mY d f.signs=f.signs:=MJ fun s hs=>by simpa using Int.le_trans (h.signs s hs) hd
 have h2:wY d f.acts=f.acts:=MJ fun s hs=>by simpa using Int.le_trans (h.acts s hs) hd
 unfold aG;rw[h1,h2,List.filter_eq_self.2 h.alters,List.filter_eq_self.2 h.facts]
theorem Ek (f:File)(day:Int):Stab (aG f day) day:=by
 refine⟨fun s hs=>?_,fun s hs=>?_,fun a ha=>?_,fun a ha=>?_⟩
 ·simpa using agR hs
 ·simpa using agR hs
 ·exact(List.mem_filter.1 ha).2
 ·exact(List.mem_filter.1 ha).2
theorem Stab.bare {f:File}{day:Int}(h:Stab f day):Stab {f with facts:=[]} day:=⟨h.signs,h.acts,h.alters,fun _ ha=>by cases ha⟩
theorem NP (r:Realm)(forum q:Int){f g:File}{day d d':Int}(hf:Stab f day)(hg:Stab g day)(h:ActsF f g)(hd:day≤d)(dH:day≤d'):iY r forum q g d'=iY r forum q f d:=by
 unfold iY;refine EM r forum q ?_ rfl rfl rfl rfl;show ActsF (aG {f with facts:=[]} d) (aG {g with facts:=[]} d');rw[hf.bare.at_ hd,hg.bare.at_ dH];exact⟨h.bill,h.signs,h.alters,rfl⟩
theorem aaz (r:Realm)(forum:Int){f g:File}{day d d':Int}(hf:Stab f day)(hg:Stab g day)(h:ActsF f g)(hs:iN g=iN f)(hd:day≤d)(dH:day≤d'):bX r forum g d'=bX r forum f d:=by
 unfold bX;rw[hf.at_ hd,hg.at_ dH,hs,h.signs,h.bill,NP r forum 6 hf hg h hd dH]
structure Near (v w:View) (day:Int):Prop where
 realm:w.realm=v.realm
 forum:w.forum=v.forum
 form:w.form=v.form
 due:w.due=v.due
 file:ActsF v.file w.file
 sv:Stab v.file day
 sw:Stab w.file day
 dv:day≤v.day
 dw:day≤w.day
theorem Near.says {v w:View}{day:Int}(h:Near v w day)(q s:Int):bO w q s=bO v q s:=by
 unfold bO;rw[h.realm,h.forum,h.due];refine congrArg fY (EM v.realm v.forum q (c:=⟨v.file,s,s,-1,v.due,v.day⟩) (c':=⟨w.file,s,s,-1,v.due,w.day⟩) ?_ rfl rfl rfl rfl);show ActsF (aG v.file v.day) (aG w.file w.day);rw[h.sv.at_ h.dv,h.sw.at_ h.dw];exact h.file
theorem Near.text {v w:View}{day:Int}(h:Near v w day)(s:Int):gG w s=gG v s:=by
 unfold gG kA nz jy;rw[h.says,h.file.alters,h.file.bill]
theorem Near.eff {v w:View}{day:Int}(h:Near v w day)(s:Int)(b:Bool)(hb:jW w.file s w.day=(b||jW v.file s v.day)):mi w s=if b=true then {mi v s with binds:=0} else mi v s:=by
 unfold mi;rw[h.says,h.says,h.text,h.form,h.file.signs,hb];cases b<;>simp
theorem azv {day d:Int}(hd:day≤d):∀(l:List Act) (es:List (D×D)),(∀a,a∈l→a.day≤day)→fW d l es=fW day l es:=by
 intro l
 induction l with
 |nil=>exact fun _ _=>rfl
 |cons a l ih=>
  intro es h;have ha:=h a (by simp);unfold fW;simp only[List.foldl_cons];have e:(a.kind=7∧a.day≤d)=(a.kind=7∧a.day≤day):=propext ⟨fun x=>⟨x.1,ha⟩,fun x=>⟨x.1,by omega⟩⟩;simp only[e];exact ih _ fun b hb=>h b (by simp[hb])
theorem Stab.struck {f:File}{day d:Int}(h:Stab f day)(hd:day≤d)(s:Int):jW f s d=jW f s day:=by
 unfold jW;rw[azv hd f.acts [] h.acts]
end Rm
namespace Rm
open Go Go.Proofs Cx
def jG (sum rate fr to:Int):Bool:=(wi sum 0 1099511627776&&wi rate 0 1000)&&(wi fr 0 100000&&wi to 0 100000)&&decide (fr≤to)
def pg (sum rate fr to:Int):Int:=sum*(rate*(to-fr))/360000
def kK (sum rate fr to:Int):Int:=if jG sum rate fr to=true then min 1099511627776 (pg sum rate fr to) else 0
theorem Bu {s q a b:Int}:jG s q a b=true↔(0≤s∧s≤1099511627776)∧(0≤q∧q≤1000)∧(0≤a∧a≤100000)∧(0≤b∧b≤100000)∧a≤b:=by
 unfold jG wi;simp only[Bool.and_eq_true,decide_eq_true_eq];constructor
 ·rintro⟨⟨⟨h1,h2⟩,h3,h4⟩,h5⟩;exact⟨h1,h2,h3,h4,h5⟩
 ·rintro⟨h1,h2,h3,h4,h5⟩;exact⟨⟨⟨h1,h2⟩,h3,h4⟩,h5⟩
theorem afE {s q a b:Int}(h:jG s q a b=true):0≤pg s q a b:=by
 obtain⟨h1,h2,h3,h4,h5⟩:=Bu.1 h;exact Int.ediv_nonneg (Int.mul_nonneg h1.1 (Int.mul_nonneg h2.1 (by omega))) (by decide)
theorem HY (s q a b:Int):0≤kK s q a b:=by
 unfold kK;split
 ·rename_i h;have:=afE h;omega
 ·exact Int.le_refl _
theorem ayC {s s' q q' a b b':Int}(hs:0≤s)(ry:s≤s')(hq:0≤q)(hqq:q≤q')(hb:a≤b)(sK:b≤b'):pg s q a b≤pg s' q' a b':=by
 refine Int.ediv_le_ediv (by decide) ?_;refine Int.mul_le_mul ry (Int.mul_le_mul hqq (by omega) (by omega) (by omega)) (Int.mul_nonneg hq (by omega)) (by omega)
theorem ZM {s s' q q' a b b':Int}(hs:s≤s')(il:s'≤1099511627776)(hq:q≤q')(dh:q'≤1000)(hb:b≤b')(eO:b'≤100000):kK s q a b≤kK s' q' a b':=by
 by_cases h:jG s q a b=true
 ·obtain⟨h1,h2,h3,h4,h5⟩:=Bu.1 h;have h':jG s' q' a b'=true:=Bu.2 ⟨by omega,by omega,h3,by omega,by omega⟩;have:=ayC (s':=s') (q':=q') (b':=b') h1.1 hs h2.1 hq h5 hb;unfold kK;rw[if_pos h,if_pos h'];omega
 ·unfold kK;rw[if_neg h];exact HY s' q' a b'
def qj (sum kept whole:Int):Int:=if whole≤kept then 0 else sum*(whole-kept)/whole
theorem avD {s k w:Int}(hs:0≤s)(hk:0≤k):0≤qj s k w:=by
 unfold qj;split
 ·exact Int.le_refl _
 ·exact Int.ediv_nonneg (Int.mul_nonneg hs (by omega)) (by omega)
theorem avB {s k w:Int}(hs:0≤s)(hk:0≤k):qj s k w≤s:=by
 unfold qj;split
 ·exact hs
 ·rename_i h;refine Int.ediv_le_of_le_mul (by omega) ?_;exact Int.mul_le_mul_of_nonneg_left (by omega) hs
theorem avC {s s' k w:Int}(h:s≤s')(hk:0≤k):qj s k w≤qj s' k w:=by
 unfold qj;split
 ·exact Int.le_refl _
 ·exact Int.ediv_le_ediv (by omega) (Int.mul_le_mul_of_nonneg_right h (by omega))
def lb (a:Act):Bool:=decide (a.kind=4)||decide (a.kind=5)
def qU (c:Int)(a:Act):Int:=if lb a=true then min 1099511627776 (c+a.sum) else c
def eg (l:List Act):Int:=l.foldl qU 0
theorem N6 (l:List Act)(a:Act):eg (l++[a])=qU (eg l) a:=by
 unfold eg;rw[List.foldl_append];rfl
def pO (rate:Int→Int→Int→Int×Int×Bool)(own cur sum fr to:Int):Int:=
 if own=cur then 0
 else if(rate cur own fr).2.2=true∧(rate own cur to).2.2=true then qj sum ((rate cur own fr).1*(rate own cur to).1) ((rate cur own fr).2.1*(rate own cur to).2.1)
 else 0
def xd (rate:Int→Int→Int→Int×Int×Bool):Prop:=∀a b d,(rate a b d).2.2=true→(0<(rate a b d).1∧(rate a b d).1≤1073741824)∧(0<(rate a b d).2.1∧(rate a b d).2.1≤1073741824)
theorem XB {rate:Int→Int→Int→Int×Int×Bool}(hr:xd rate)(own cur fr to:Int){s:Int}(hs:0≤s):0≤pO rate own cur s fr to:=by
 unfold pO;split
 ·exact Int.le_refl _
 split
 ·rename_i h;have h1:=(hr _ _ _ h.1).1;have h2:=(hr _ _ _ h.2).1;exact avD hs (Int.mul_nonneg (by omega) (by omega))
 ·exact Int.le_refl _
theorem aoV {rate:Int→Int→Int→Int×Int×Bool}(hr:xd rate)(own cur fr to:Int){s s':Int}(h:s≤s'):pO rate own cur s fr to≤pO rate own cur s' fr to:=by
 unfold pO;split
 ·exact Int.le_refl _
 split
 ·rename_i hh;have h1:=(hr _ _ _ hh.1).1;have h2:=(hr _ _ _ hh.2).1;exact avC h (Int.mul_nonneg (by omega) (by omega))
 ·exact Int.le_refl _
structure Due where
 there:Bool
 sum:Int
 cur:Int
 due:Int
 end_:Int
 clause:Int
 rate:Int
 re:Int
 own:Int
 costs:Int
def Due.now (d:Due):Bool:=decide (d.due≠-1)&&decide (d.due≤d.end_)
def Due.rateF (d:Due):Int:=if d.clause=0 then min 1000 (max 0 d.rate) else d.clause
def Due.interest (d:Due):Int:=if d.now=true then kK d.sum d.rateF d.due d.end_ else 0
def Due.exch (d:Due)(rate:Int→Int→Int→Int×Int×Bool):Int:=if d.now=true∧d.re=1 then pO rate d.own d.cur d.sum d.due d.end_ else 0
def tH:Owed:=⟨0,0,0,0,0,0,0⟩
def Due.owed (d:Due)(rate:Int→Int→Int→Int×Int×Bool):Owed:=
 if d.there=false then tH else⟨d.sum,d.interest,d.costs,d.exch rate,0,min 1099511627776 (d.sum+d.interest+d.costs+d.exch rate),d.cur⟩
structure Due.Le (d e:Due):Prop where
 there:e.there=d.there
 sum:d.sum≤e.sum
 cur:e.cur=d.cur
 due:e.due=d.due
 end_:e.end_=d.end_
 clause:e.clause=d.clause
 rate:d.rate≤e.rate
 re:d.re=1→e.re=1
 own:e.own=d.own
 costs:e.costs=d.costs
structure Due.OK (d:Due):Prop where
 low:0≤d.sum
 sum:d.sum≤1099511627776
 clause:0≤d.clause∧d.clause≤1000
 end_:d.end_≤100000
theorem afD {d:Due}(h:d.OK):0≤d.rateF∧d.rateF≤1000:=by
 have:=h.clause;unfold Due.rateF;split<;>omega
theorem Due.Le.rate_le {d e:Due}(h:d.Le e):d.rateF≤e.rateF:=by
 have h1:=h.rate;unfold Due.rateF;rw[h.clause];split<;>omega
theorem Due.Le.interest {d e:Due}(h:d.Le e)(he:e.OK):d.interest≤e.interest:=by
 have hn:e.now=d.now:=by unfold Due.now;rw[h.due,h.end_]
 unfold Due.interest;rw[hn];split
 ·rw[h.due,h.end_];exact ZM h.sum he.sum h.rate_le (afD he).2 (Int.le_refl _) (h.end_▸he.end_)
 ·exact Int.le_refl _
theorem Due.Le.exch {d e:Due}(h:d.Le e)(he:e.OK){rate:Int→Int→Int→Int×Int×Bool}(hr:xd rate):d.exch rate≤e.exch rate:=by
 have hn:e.now=d.now:=by unfold Due.now;rw[h.due,h.end_]
 unfold Due.exch;by_cases h1:d.now=true∧d.re=1
 ·rw[if_pos h1,if_pos ⟨hn.trans h1.1,h.re h1.2⟩,h.own,h.cur,h.due,h.end_];exact aoV hr _ _ _ _ h.sum
 ·rw[if_neg h1];split
  ·exact XB hr _ _ _ _ he.low
  ·exact Int.le_refl _
theorem Due.Le.owed {d e:Due}(h:d.Le e)(he:e.OK){rate:Int→Int→Int→Int×Int×Bool}(hr:xd rate):
 (d.owed rate).sum≤(e.owed rate).sum∧(d.owed rate).interest≤(e.owed rate).interest∧(d.owed rate).costs=(e.owed rate).costs∧(d.owed rate).exchange≤(e.owed rate).exchange∧(d.owed rate).rest≤(e.owed rate).rest∧(d.owed rate).paid=0∧(e.owed rate).paid=0∧(d.owed rate).currency=(e.owed rate).currency:=by
 have h1:=h.interest he;have h2:=h.exch he hr;have h3:=h.sum;unfold Due.owed;rw[h.there];split
 ·simp[tH]
 ·simp only[h.cur,h.costs,true_and,and_true];refine⟨h3,h1,h2,?_⟩;omega
theorem XC {d:Due}(h:d.OK){rate:Int→Int→Int→Int×Int×Bool}(hr:xd rate):0≤d.exch rate∧d.exch rate≤d.sum:=by
 unfold Due.exch;split
 ·refine⟨XB hr _ _ _ _ h.low,?_⟩;unfold pO;split
  ·exact h.low
  split
  ·rename_i hh;have h1:=(hr _ _ _ hh.1).1;have h2:=(hr _ _ _ hh.2).1;exact avB h.low (Int.mul_nonneg (by omega) (by omega))
  ·exact h.low
 ·exact⟨Int.le_refl _,h.low⟩
structure Due.Later (d e:Due):Prop where
 there:e.there=d.there
 sum:e.sum=d.sum
 cur:e.cur=d.cur
 due:e.due=d.due
 end_:d.end_≤e.end_
 clause:e.clause=d.clause
 rate:e.rate=d.rate
 costs:e.costs=d.costs
theorem Due.Later.interest {d e:Due}(h:d.Later e)(he:e.OK):d.interest≤e.interest:=by
 have oH:e.rateF=d.rateF:=by unfold Due.rateF;rw[h.clause,h.rate]
 unfold Due.interest;by_cases hn:d.now=true
 ·have gx:e.now=true:=by
   unfold Due.now at hn ⊢;have:=h.end_;simp only[Bool.and_eq_true,decide_eq_true_eq] at hn ⊢;rw[h.due];exact⟨hn.1,by omega⟩
  rw[if_pos hn,if_pos gx,h.due,oH,h.sum];exact ZM (Int.le_refl _) (h.sum▸he.sum) (Int.le_refl _) (oH▸(afD he).2) h.end_ he.end_
 ·rw[if_neg hn];split
  ·exact HY _ _ _ _
  ·exact Int.le_refl _
theorem Due.Later.owed {d e:Due}(h:d.Later e)(he:e.OK)(rate:Int→Int→Int→Int×Int×Bool):
 (d.owed rate).sum=(e.owed rate).sum∧(d.owed rate).costs=(e.owed rate).costs∧(d.owed rate).interest≤(e.owed rate).interest∧(d.owed rate).currency=(e.owed rate).currency:=by
 have h1:=h.interest he;unfold Due.owed;rw[h.there];split
 ·simp[tH]
 ·exact⟨h.sum.symm,h.costs.symm,h1,h.cur.symm⟩
def qV (r:Realm)(who:Int):Int:=(r.cities.getD (r.firms.getD who.toNat default).city.toNat default).currency
noncomputable def cU (r:Realm)(forum:Int)(f:File)(sign day:Int):Case:=⟨f,sign,sign,-1,bX r forum f day,day⟩
noncomputable def bm (r:Realm)(forum:Int)(f:File)(sign day:Int):Due where
 there:=(bA r forum f sign day).2
 sum:=(bA r forum f sign day).1.sum
 cur:=f.bill.currency
 due:=bX r forum f day
 end_:=min day 100000
 clause:=f.bill.rate
 rate:=dE (bS r forum 16 (cU r forum f sign day))
 re:=fY (bS r forum 17 (cU r forum f sign day))
 own:=qV r (cL (aG f day) sign).who
 costs:=eg (aG f day).acts
structure SumsOK (f:File):Prop where
 bill:1≤f.bill.sum∧f.bill.sum≤1099511627776
 rate:0≤f.bill.rate∧f.bill.rate≤1000
 alters:∀a,a∈f.alters→1≤a.sum∧a.sum≤1099511627776
 signs:∀s,s∈f.signs→s.kind=1∨s.kind=4→1≤s.sum∧s.sum≤1099511627776
theorem SumsOK.at_ {f:File}(h:SumsOK f)(day:Int):SumsOK (aG f day):=
 ⟨h.bill,h.rate,fun a ha=>h.alters a ((List.mem_filter.1 ha).1),fun s hs=>h.signs s ((List.takeWhile_sublist _).subset hs)⟩
theorem azB {f:File}(h:SumsOK f)(sign:Int)(n:Nat):1≤jy f sign n∧jy f sign n≤1099511627776:=by
 unfold jy
 have key:∀(l:List Alter) (s:Int),(∀a,a∈l→a∈f.alters)→1≤s∧s≤1099511627776→1≤l.foldl (fun s a=>if a.at_≤sign then a.sum else s) s∧l.foldl (fun s a=>if a.at_≤sign then a.sum else s) s≤1099511627776:=by
  intro l
  induction l with
  |nil=>exact fun s _ hs=>hs
  |cons a l ih=>
   intro s hl hs;rw[List.foldl_cons];refine ih _ (fun b hb=>hl b (by simp[hb])) ?_;split
   ·exact h.alters a (hl a (by simp))
   ·exact hs
 exact key _ _ (fun a ha=>List.mem_of_mem_take ha) h.bill
theorem avq {f:File}{sign:Int}(h:SumsOK f)(aE:kA f sign f.alters.length=true):1≤nz f∧nz f≤1099511627776:=by
 unfold nz;have PJ:0<f.alters.length:=by
  rcases Nat.eq_zero_or_pos f.alters.length with e|e
  ·simp[kA,List.length_eq_zero_iff.mp e] at aE
  ·exact e
 have af:f.alters.length-1<f.alters.length:=by omega
 have e:f.alters.getD (f.alters.length-1) default=f.alters[f.alters.length-1]:=by simp[af]
 rw[e];exact h.alters _ (List.getElem_mem af)
theorem azM {v:View}(h:SumsOK v.file)(sign:Int):1≤(gG v sign).2∧(gG v sign).2≤1099511627776:=by
 have h1:=azB h sign v.file.alters.length;unfold gG;split
 ·exact h1
 rename_i ha;have h2:=avq (sign:=sign) h (by simpa using ha);split
 ·exact h2
 split
 ·simp only;omega
 ·exact h1
theorem aoE {v:View}(h:SumsOK v.file)(sign:Int)(h0:0≤sign)(h1:sign<v.file.signs.length):1≤(mi v sign).sum∧(mi v sign).sum≤1099511627776:=by
 have ht:=azM h sign;have af:sign.toNat<v.file.signs.length:=by omega
 have e:v.file.signs.getD sign.toNat default=v.file.signs[sign.toNat]:=by simp[af]
 unfold mi;simp only[e];split
 ·rename_i hk;have:=h.signs _ (List.getElem_mem af) hk;omega
 ·exact ht
theorem GJ (r:Realm)(forum:Int){f:File}(h:SumsOK f)(sign day:Int):0≤(bA r forum f sign day).1.sum∧(bA r forum f sign day).1.sum≤1099511627776:=by
 unfold bA;split
 ·simp[noE]
 ·rename_i hs;have:=aoE (v:=dR r forum f day) (h.at_ day) sign (by omega) (by omega);simp only;omega
theorem GI (r:Realm)(forum:Int){f:File}(h:SumsOK f)(sign day:Int):(bm r forum f sign day).OK:=
 ⟨(GJ r forum h sign day).1,(GJ r forum h sign day).2,h.rate,by show min day 100000≤100000;omega⟩
theorem aoF (r:Realm)(forum:Int){f g:File}(h:MoreF f g)(sign day:Int):(bA r forum g sign day).2=(bA r forum f sign day).2∧(bA r forum f sign day).1.sum≤(bA r forum g sign day).1.sum:=by
 have hg:=aoD (v:=dR r forum f day) (h.at_ day) sign (Et _);unfold bA;rw[axL r forum h.same day];have hs:(ed (dR r forum f day) (aG g day)).file.signs=(dR r forum f day).file.signs:=(h.same.at_ day).signs;rw[hs];split
 ·exact⟨rfl,Int.le_refl _⟩
 ·refine⟨rfl,?_⟩;simp[OE] at hg;simp only;omega
theorem aw5 {a b:Said}(h:iU a.cell b.cell)(he:b.err=a.err)(hn:dE a≠-1):dE b=dE a:=by
 unfold dE at hn ⊢;rw[he];by_cases e:a.err≠0∨a.cell.known=false
 ·exact absurd (if_pos e) hn
 ·have hk:a.cell.known=true:=by
   cases e':a.cell.known
   ·exact absurd (.inr e') e
   ·rfl
  rw[h hk]
theorem anS (r:Realm)(forum:Int){f g:File}(h:MoreF f g)(sign day:Int)(hr:dE (bS r forum 16 (cU r forum g sign day))=-1∨0≤dE (bS r forum 16 (cU r forum g sign day))):(bm r forum f sign day).Le (bm r forum g sign day):=by
 have hm:bX r forum g day=bX r forum f day:=aaA r forum h.same day;have hc:cU r forum g sign day=gk (cU r forum f sign day) g:=by
  unfold cU gk;rw[hm]
 have ha:=fun q=>Wt r forum q (c:=cU r forum f sign day) (g:=g) h.same ⟨fun k=>(h.at_ day).le k _,fun k=>(h.at_ day).le k _⟩;have he:=aoF r forum h sign day;refine⟨he.1,he.2,by show g.bill.currency=_;rw[h.same.bill];rfl,hm,rfl,by show g.bill.rate=_;rw[h.same.bill];rfl,?_,?_,?_,?_⟩
 ·show dE (bS r forum 16 (cU r forum f sign day))≤dE (bS r forum 16 (cU r forum g sign day));by_cases e:dE (bS r forum 16 (cU r forum f sign day))=-1
  ·rw[e];omega
  ·rw[hc,aw5 (ha 16).1 (ha 16).2 e];exact Int.le_refl _
 ·show fY (bS r forum 17 (cU r forum f sign day))=1→fY (bS r forum 17 (cU r forum g sign day))=1;intro e;rw[hc,agO (ha 17).1 (ha 17).2 (by omega)];exact e
 ·show qV r (cL (aG g day) sign).who=qV r (cL (aG f day) sign).who;unfold cL;rw[(h.same.at_ day).signs]
 ·show eg (aG g day).acts=eg (aG f day).acts;rw[(h.same.at_ day).acts]
end Rm
namespace Rm
open Go Go.Proofs Cx
theorem agQ {α:Type}{p q:α→Bool}{l:List α}(h:(l.takeWhile p).length=(l.takeWhile q).length):l.takeWhile p=l.takeWhile q:=by
 obtain⟨m,hm,e1,_⟩:=zz p l;obtain⟨n,hn,e2,_⟩:=zz q l;rw[e1,e2,List.length_take,List.length_take] at h;rw[e1,e2];have:m=n:=by omega
 rw[this]
theorem aiY {f:File}{d e:Int}(h1:(aG f d).signs.length=(aG f e).signs.length)(h2:(aG f d).acts.length=(aG f e).acts.length):aG f e=aG f d:=by
 have e1:mY d f.signs=mY e f.signs:=agQ h1;have e2:wY d f.acts=wY e f.acts:=agQ h2;unfold aG;rw[e1,e2]
theorem ql (r:Realm)(forum:Int)(f:File)(d:Int):bX r forum (aG f d) d=bX r forum f d:=by
 unfold bX;rw[(Ek f d).at_ (Int.le_refl _)];rfl
theorem aw0 (r:Realm)(forum:Int){f:File}{d e:Int}(hd:d≤e)(h:aG f e=aG f d):Near (dR r forum f d) (dR r forum f e) d:=by
 have hS:=Ek f d;refine⟨rfl,rfl,?_,?_,.of_eq h,hS,?_,Int.le_refl _,hd⟩
 ·show fY (iY r forum 0 (aG f e) e)=fY (iY r forum 0 (aG f d) d);rw[h,NP r forum 0 hS hS (.of_eq rfl) (Int.le_refl _) hd]
 ·show bX r forum (aG f e) e=bX r forum (aG f d) d;rw[h,aaz r forum hS hS (.of_eq rfl) rfl (Int.le_refl _) hd]
 ·show Stab (aG f e) d;rw[h];exact hS
theorem acO {r:Realm}{forum:Int}{f g:File}{d e x:Int}(h:Near (dR r forum f d) (dR r forum g e) x)(cA:∀s,jW (aG g e) s e=jW (aG f d) s d)(sign:Int):bA r forum g sign e=bA r forum f sign d:=by
 unfold bA;rw[show(dR r forum g e).file.signs=(dR r forum f d).file.signs from h.file.signs];split
 ·rfl
 ·rw[h.eff sign false (by show jW (aG g e) sign e=(false||jW (aG f d) sign d);rw[cA];rfl)];rfl
theorem anR (r:Realm)(forum:Int){f:File}(sign:Int){d e:Int}(hd:d≤e)(h:aG f e=aG f d):(bm r forum f sign d).Later (bm r forum f sign e):=by
 have hn:=aw0 r forum hd h;have hS:=Ek f d;have he:=acO hn (fun s=>by rw[h,hS.struck hd]) sign;have hm:bX r forum f e=bX r forum f d:=by
  rw[←ql r forum f e,←ql r forum f d];exact hn.due
 have ha:∀q,bS r forum q (cU r forum f sign e)=bS r forum q (cU r forum f sign d):=fun q=>
  EM r forum q (.of_eq h) rfl rfl rfl hm
 refine⟨?_,?_,rfl,hm,?_,rfl,?_,?_⟩
 ·show(bA r forum f sign e).2=(bA r forum f sign d).2;rw[he]
 ·show(bA r forum f sign e).1.sum=(bA r forum f sign d).1.sum;rw[he]
 ·show min d 100000≤min e 100000;omega
 ·show dE (bS r forum 16 (cU r forum f sign e))=dE (bS r forum 16 (cU r forum f sign d));rw[ha]
 ·show eg (aG f e).acts=eg (aG f d).acts;rw[h]
def de (f:File)(a:Act):File:={f with acts:=f.acts++[a]}
theorem EO {f:File}{a:Act}{day:Int}(ha:a.day≤day)(h:∀b,b∈f.acts→b.day≤a.day):aG (de f a) day=de (aG f day) a∧(aG f day).acts=f.acts:=by
 have e1:wY day f.acts=f.acts:=MJ fun b hb=>by have:=h b hb;simp;omega
 have e2:wY day (f.acts++[a])=f.acts++[a]:=MJ fun b hb=>by
  rcases List.mem_append.1 hb with hb|hb
  ·have:=h b hb;simp;omega
  ·obtain rfl:=List.mem_singleton.1 hb;simpa using ha
 unfold aG de;simp only[e1,e2,and_self]
theorem Wh (r:Realm)(forum:Int){f:File}{a:Act}{day:Int}(ha:a.day≤day)(h:∀b,b∈f.acts→b.day≤a.day)(sign:Int):(bA r forum (de f a) sign day).2=(bA r forum f sign day).2:=by
 have e:(dR r forum (de f a) day).file.signs=(dR r forum f day).file.signs:=by
  show(aG (de f a) day).signs=(aG f day).signs;rw[(EO ha h).1];rfl
 unfold bA;rw[e];split<;>rfl
theorem ahu {f:File}{a:Act}(hk:a.kind≠1∧a.kind≠2):iN (de f a)=iN f:=by
 have h1:(de f a).acts.find? (ku (de f a))=f.acts.find? (ku f):=by
  show(f.acts++[_]).find? (ku f)=_;rw[List.find?_append];have:[a].find? (ku f)=none:=by simp[ku,hk]
  rw[this];cases f.acts.find? (ku f)<;>rfl
 have h2:iM (de f a) (de f a).acts.length=iM f f.acts.length:=by
  unfold iM;rw[List.take_length,List.take_length];show(if f.bill.tenor.kind=1 then((f.acts++[_]).filter _).map _ else[])=_;rw[List.filter_append];simp[hk]
 unfold iN;rw[h1,h2];rfl
theorem ahv {day:Int}{l:List Act}{a:Act}(hk:a.kind≠7):fW day (l++[a]) []=fW day l []:=by
 unfold fW;rw[List.foldl_append];simp[hk]
theorem awZ (r:Realm)(forum:Int){f:File}{a:Act}{day:Int}(ha:a.day≤day)(h:∀b,b∈f.acts→b.day≤a.day)(hk:a.kind≠1∧a.kind≠2):Near (dR r forum f day) (dR r forum (de f a) day) day:=by
 have hS:=Ek f day;have OM:=Ek (de f a) day;have e:=(EO ha h).1;have hA:ActsF (aG f day) (aG (de f a) day):=by rw[e];exact⟨rfl,rfl,rfl,rfl⟩
 have hs:iN (aG (de f a) day)=iN (aG f day):=by rw[e];exact ahu hk
 exact⟨rfl,rfl,congrArg fY (NP r forum 0 hS OM hA (Int.le_refl _) (Int.le_refl _)),aaz r forum hS OM hA hs (Int.le_refl _) (Int.le_refl _),hA,hS,OM,Int.le_refl _,Int.le_refl _⟩
theorem anP (r:Realm)(forum:Int){f:File}{a:Act}{day:Int}(ha:a.day≤day)(h:∀b,b∈f.acts→b.day≤a.day)(hk:a.kind=4∨a.kind=5)(sign:Int):
 bm r forum (de f a) sign day={bm r forum f sign day with costs:=min 1099511627776 ((bm r forum f sign day).costs+a.sum)}:=by
 have hn:=awZ r forum ha h (by omega);have e:=(EO ha h).1
 have he:=acO hn (fun s=>by
  rw[e];unfold jW;show(aF s (aG f day).signs.length&&((gi (.int s) (fW day ((aG f day).acts++[a]) [])).getD (.bool false)).b)=_;rw[ahv (by omega)]) sign
 have hm:bX r forum (de f a) day=bX r forum f day:=by
  rw[←ql r forum (de f a) day,←ql r forum f day];exact hn.due
 have hq:∀q,bS r forum q (cU r forum (de f a) sign day)=bS r forum q (cU r forum f sign day):=fun q=>
  EM r forum q hn.file rfl rfl rfl hm
 unfold bm;rw[he,hm,hq,hq,e];have hc:eg (de (aG f day) a).acts=min 1099511627776 (eg (aG f day).acts+a.sum):=by
  show eg ((aG f day).acts++[a])=_;rw[N6];unfold qU lb;rw[if_pos (by simpa using hk)]
 rw[hc];rfl
theorem anT (r:Realm)(forum:Int){f:File}{a:Act}{day:Int}(ha:a.day≤day)(h:∀b,b∈f.acts→b.day≤a.day)(hk:¬(a.kind=4∨a.kind=5))(sign:Int):
 (bm r forum (de f a) sign day).costs=(bm r forum f sign day).costs∧(bm r forum (de f a) sign day).there=(bm r forum f sign day).there:=by
 refine⟨?_,Wh r forum ha h sign⟩;show eg (aG (de f a) day).acts=eg (aG f day).acts;rw[(EO ha h).1];show eg ((aG f day).acts++[a])=_;rw[N6];unfold qU lb;rw[if_neg (by simpa using hk)]
end Rm
namespace Rm
open Go Go.Proofs Cx
theorem MO (n m:Int):aj T abz [.int n,.int m] (.bool (wi n 0 m)):=by
 refine .of_tree rfl ai9 aAG ?_;simp[Uo];by_cases h:0≤n<;>simp[wi,h]
def EC (n:Nat)(d:D):Prop:=if 1099511627776<n then d=.tup [.int 0,.int 0,.bool false] else ∃r:Int,d=.tup [.int n,.int r,.bool true]
theorem ax6 (a b c:Nat)(ha:a<9223372036854775808)(hb:b<9223372036854775808)(hc:0<c)(Yn:c<9223372036854775808):∃d,aj T aby [.int a,.int b,.int c] d∧EC (a*b/c) d:=by
 refine aj.ex_of_tree rfl ai8 aAF ?_;have wa:IntKind.u64.wrap (a:Int)=a:=dT (by omega);have wb:IntKind.u64.wrap (b:Int)=b:=dT (by omega);have wc:IntKind.u64.wrap (c:Int)=c:=dT (by omega);simp[Un,wa,wb,wc];refine⟨_,QF a b (by omega) (by omega),?_⟩;have vc:=Nat.div_add_mod (a*b) 18446744073709551616;have lq:a*b%18446744073709551616<18446744073709551616:=Nat.mod_lt _ (by decide);generalize vg:a*b/18446744073709551616=hi at*;generalize atz:a*b%18446744073709551616=lo at*;by_cases h1:c≤hi
 ·have cJ:(c:Int)≤(hi:Int):=by omega
  have OU:18446744073709551616≤a*b/c:=by
   rw[Nat.le_div_iff_mul_le hc];have:=Nat.mul_le_mul_left 18446744073709551616 h1;omega
  simp[h1];unfold EC;rw[if_pos (by omega)]
 ·have cJ:¬(c:Int)≤(hi:Int):=by omega
  obtain⟨d,hd,d2,rfl⟩:=Xk hi lo c hc (by omega) lq (by omega);have e:hi*18446744073709551616+lo=a*b:=by omega
  rw[e] at hd;simp[h1];refine⟨_,hd,?_⟩;unfold EC;generalize a*b/c=q at*;by_cases h2:1099511627776<q
  ·have hZ:(1099511627776:Int)<(q:Int):=by omega
   simp[h2,hZ]
  ·have hZ:¬(1099511627776:Int)<(q:Int):=by omega
   have hw:IntKind.i64.wrap (q:Int)=q:=aW (by omega);simp[h2,hZ,hw]
def vI (s q a b:Int):Int×Int:=if jG s q a b=false then(0,1) else if 1099511627776<pg s q a b then(0,3) else(pg s q a b,0)
theorem V4 (s q a b:Int):aj T abx [.int s,.int q,.int a,.int b,.int 360] (.tup [.int (vI s q a b).1,.int (vI s q a b).2]):=by
 refine .of_tree rfl ai7 aAE ?_;generalize hP:vI s q a b=P
 have bad:jG s q a b=false→P.1=0∧P.2=1:=fun h=>by
  unfold vI at hP;rw[if_pos h] at hP;simp[←hP]
 simp[Um];refine⟨_,MO _ _,?_⟩;cases a1:wi s 0 1099511627776
 ·have:=bad (by simp[jG,a1]);simp[this]
 simp;refine⟨_,MO _ _,?_⟩;cases a2:wi q 0 1000
 ·have:=bad (by simp[jG,a2]);simp[this]
 simp;refine⟨_,MO _ _,?_⟩;cases a3:wi a 0 100000
 ·have:=bad (by simp[jG,a3]);simp[this]
 simp;refine⟨_,MO _ _,?_⟩;cases a4:wi b 0 100000
 ·have:=bad (by simp[jG,a4]);simp[this]
 by_cases a5:b<a
 ·have:=bad (by simp[jG];omega);simp[this,a5]
 have hf:jG s q a b=true:=by simp[jG,a1,a2,a3,a4];omega
 obtain⟨h1,h2,h3,h4,h5⟩:=Bu.1 hf;simp[a5];obtain⟨S,rfl⟩:=Int.eq_ofNat_of_zero_le h1.1;obtain⟨Q,rfl⟩:=Int.eq_ofNat_of_zero_le h2.1;obtain⟨Y,hY⟩:=Int.eq_ofNat_of_zero_le (show 0≤b-a by omega);have hQY:Q*Y≤1000*100000:=Nat.mul_le_mul (by omega) (by omega);have w1:IntKind.i64.wrap (b-a)=(Y:Int):=by rw[hY];exact aW (by omega)
 have w2:IntKind.i64.wrap ((Q:Int)*(Y:Int))=((Q*Y:Nat):Int):=by rw[←Int.natCast_mul];exact aW (by omega)
 have w3:IntKind.i64.wrap 360000=((360000:Nat):Int):=aW (by omega);rw[w1,w2,w3];obtain⟨d,hd,hp⟩:=ax6 S (Q*Y) 360000 (by omega) (by omega) (by decide) (by decide);refine⟨_,hd,?_⟩;have auj:pg S Q a b=((S*(Q*Y)/360000:Nat):Int):=by
  unfold pg;rw[hY];simp
 unfold vI at hP;rw[if_neg (by simp[hf]),auj] at hP;unfold EC at hp;generalize S*(Q*Y)/360000=n at*;by_cases hn:1099511627776<n
 ·rw[if_pos hn] at hp;rw[if_pos (by omega)] at hP;subst hp;simp[←hP]
 ·rw[if_neg hn] at hp;rw[if_neg (by omega)] at hP;obtain⟨r,rfl⟩:=hp;simp[←hP]
theorem avf (s q a b:Int):aj T aaR [.int s,.int q,.int a,.int b] (.int (kK s q a b)):=by
 refine .of_tree rfl air azW ?_;simp[TF];refine⟨_,V4 s q a b,?_⟩;unfold vI kK;cases hf:jG s q a b
 ·simp
 have:=afE hf;by_cases h:1099511627776<pg s q a b
 ·simp[h];omega
 ·simp[h];omega
structure RealmOK (r:Realm):Prop where
 rates:∀x,x∈r.rates→(1≤x.num∧x.num≤1073741824)∧1≤x.den∧x.den≤1073741824
 firms:∀x,x∈r.firms→0≤x.city∧x.city<r.cities.length
theorem L6 {r:Realm}(h:eB r=0):RealmOK r:=by
 unfold eB at h;rw[Mf] at h;refine⟨fun x hx=>?_,fun x hx=>?_⟩
 ·obtain⟨k,hk,rfl⟩:=List.getElem_of_mem hx;have h1:=h (qC r) (by simp);unfold qC at h1;split at h1
  ·cases h1
  split at h1
  ·cases h1
  rename_i aR;have h2:=zS.1 (by simpa using aR) k hk;simp[Dq,wi,hk] at h2;omega
 ·obtain⟨k,hk,rfl⟩:=List.getElem_of_mem hx;have h1:=h (lg (rG r) 200 (uT r)) (by simp);unfold lg at h1;split at h1
  ·cases h1
  have h2:=Ov.1 h1 k (by simpa [rG] using hk);have h3:=(XM h2).2;simp[uT,aF,hk] at h3;omega
def yT (l:List Rate)(a b day:Int)(n:Int)(k:Nat):Int:=
 if(((l.getD k default).fr=a∧(l.getD k default).to=b)∧(l.getD k default).since≤day)∧(n<0∨(l.getD n.toNat default).since<(l.getD k default).since) then k else n
def oQ (l:List Rate)(a b day:Int)(k:Nat):Int:=(List.range k).foldl (yT l a b day) (-1)
def jr (l:List Rate)(a b day:Int):Int:=oQ l a b day l.length
theorem aeI (l:List Rate)(a b day:Int)(k:Nat):oQ l a b day (k+1)=yT l a b day (oQ l a b day k) k:=by
 unfold oQ;rw[List.range_succ,List.foldl_append];rfl
theorem C4 (l:List Rate)(a b day:Int):∀k,oQ l a b day k<k
 |0=>by simp[oQ]
 |k+1=>by
  have:=C4 l a b day k;rw[aeI];unfold yT;split<;>omega
theorem aeL (l:List Rate)(a b day:Int)(hl:l.length≤100000):aj T aaT [rates l,.int a,.int b,.int day] (.int (jr l a b day)):=by
 refine .of_tree rfl ait azY ?_;simp[TH];refine aO.forRounds l.length (fun k=>[.int (oQ l a b day k),.int k]) (fun _=>[]) ?_ (fun k af=>?_) ?_
 ·simp[oQ]
 ·have hw:=bI af (by omega);have hn:=C4 l a b day k;have hs:yT l a b day (oQ l a b day k) k=yT l a b day (oQ l a b day k) k:=rfl;rw[aeI];generalize oQ l a b day k=n at*;unfold yT;have hk:l.getD k default=l[k]:=by simp[af]
  rw[hk];simp[afG,LJ,af,hw];refine⟨by omega,?_⟩;by_cases h0:n<0
  ·simp[h0];split<;>rfl
  ·have h1:n.toNat<l.length:=by omega
   simp[h0,h1];split<;>rfl
 ·simp[afG,LJ,jr]
theorem We (n:Int)(h:0≤n∧n≤1073741824):aj T abS [.int n] (u n.toNat):=by
 refine .of_tree rfl aju aA1 ?_;obtain⟨N,rfl⟩:=Int.eq_ofNat_of_zero_le h.1;have hw:IntKind.u64.wrap (N:Int)=N:=dT (by omega);have hn:¬(N:Int)<0:=by omega
 simp[UI,hw,hn]
theorem arN (a b:Nat)(ha:a<18446744073709551616)(hb:b<18446744073709551616):aj T abT [u a,u b] (u (Nat.gcd a b)):=by
 refine .of_tree rfl ajv aA2 ?_;simp[UJ];generalize hg:Nat.gcd a b=g;refine aO.forLoop (α:=Nat×Nat) (fun s vr vo=>(s.1<18446744073709551616∧s.2<18446744073709551616∧Nat.gcd s.1 s.2=g)∧vr=[u s.1,u s.2]∧vo=[]) (fun s=>s.2) (a,b) ?_ ?_
 ·simp;exact⟨ha,hb,hg⟩
 rintro⟨x,y⟩ vr vo ⟨⟨hx,hy,HW⟩,rfl,rfl⟩;simp only at hx hy HW ⊢;by_cases ZE:y=0
 ·subst ZE;simp at HW;simp[afN,LR,HW]
 ·have af:x%y<y:=Nat.mod_lt _ (by omega);have hw:IntKind.u64.wrap (((x%y:Nat)):Int)=((x%y:Nat):Int):=dT (by omega);simp[afN,LR,ZE];refine⟨y,x%y,af,⟨hy,by omega,?_⟩,rfl,?_⟩
  ·rw[←HW,Nat.gcd_comm x y,Nat.gcd_rec y x,Nat.gcd_comm]
  ·rw[Int.tmod_eq_emod_of_nonneg (by omega)];exact(Int.natCast_emod x y).symm
def qk (n d:Int):Int×Int×Bool:=if d=0 then(0,0,false) else(((n.toNat/Nat.gcd n.toNat d.toNat:Nat):Int),((d.toNat/Nat.gcd n.toNat d.toNat:Nat):Int),true)
theorem EA (n d:Int)(hn:1≤n∧n≤1073741824)(hd:1≤d∧d≤1073741824):aj T QM [.int n,.int d] (.tup [.agg [.int (qk n d).1,.int (qk n d).2.1],.int 0])∧(qk n d).2.2=true∧(0<(qk n d).1∧(qk n d).1≤1073741824)∧0<(qk n d).2.1∧(qk n d).2.1≤1073741824:=by
 obtain⟨N,rfl⟩:=Int.eq_ofNat_of_zero_le (show 0≤n by omega);obtain⟨M,rfl⟩:=Int.eq_ofNat_of_zero_le (show 0≤d by omega);unfold qk;rw[if_neg (by omega)];simp only[Int.toNat_natCast];have gR:0<Nat.gcd N M:=Nat.gcd_pos_of_pos_left _ (by omega);have jn:0<N/Nat.gcd N M:=Nat.div_pos (Nat.gcd_le_left _ (by omega)) gR;have ZF:0<M/Nat.gcd N M:=Nat.div_pos (Nat.gcd_le_right _ (by omega)) gR;have qd:N/Nat.gcd N M≤N:=Nat.div_le_self _ _;have mI:M/Nat.gcd N M≤M:=Nat.div_le_self _ _;have hgg:=arN N M (by omega) (by omega);have YD:Nat.gcd N M≤N:=Nat.gcd_le_left _ (by omega);have vu:IntKind.u64.wrap ((N:Int)/(Nat.gcd N M:Int))=((N/Nat.gcd N M:Nat):Int):=by rw[←Int.natCast_ediv];exact dT (by omega)
 have eE:IntKind.u64.wrap ((M:Int)/(Nat.gcd N M:Int))=((M/Nat.gcd N M:Nat):Int):=by rw[←Int.natCast_ediv];exact dT (by omega)
 generalize Nat.gcd N M=g at*;generalize N/g=x at*;generalize M/g=y at*;refine⟨?_,trivial,by omega,by omega⟩;have a1:=We N (by omega);have a2:=We M (by omega);simp only[Int.toNat_natCast] at a1 a2;have ata:aj T abU [.bool false,.agg [.v (.int .u64 0),u x],.agg [.v (.int .u64 0),u y]] (.tup [.agg [.int x,.int y],.int 0]):=by
  refine .of_tree rfl ajw aA3 ?_;have w1:IntKind.i64.wrap (x:Int)=x:=aW (by omega);have w2:IntKind.i64.wrap (y:Int)=y:=aW (by omega);have l1:¬(1152921504606846976:Int)<x:=by omega
  have l2:¬(1152921504606846976:Int)<y:=by omega
  simp[UK,w1,w2,l1,l2]
 refine .of_tree rfl Wy agK ?_;have m0:¬(M:Int)=0:=by omega
 have m1:¬(M:Int)<0:=by omega
 have n1:¬(N:Int)<0:=by omega
 have g0:¬(g:Int)=0:=by omega
 simp[MF,m0];refine⟨by omega,_,a1,_,a2,_,hgg,by simpa using g0,?_⟩;simp[vu,eE];have e:(!decide ((N:Int)<0)==decide ((M:Int)<0))=false:=by simp[n1,m1]
 rw[e];refine⟨_,ata,?_⟩;simp
def rateF (r:Realm)(a b day:Int):Int×Int×Bool:=
 if 0≤jr r.rates a b day then qk (r.rates.getD (jr r.rates a b day).toNat default).num (r.rates.getD (jr r.rates a b day).toNat default).den
 else if 0≤jr r.rates b a day then qk (r.rates.getD (jr r.rates b a day).toNat default).den (r.rates.getD (jr r.rates b a day).toNat default).num
 else(0,0,false)
theorem aeK {r:Realm}(hr:RealmOK r){a b day:Int}(h:0≤jr r.rates a b day):(jr r.rates a b day).toNat<r.rates.length∧∀h2:(jr r.rates a b day).toNat<r.rates.length,r.rates.getD (jr r.rates a b day).toNat default=r.rates[(jr r.rates a b day).toNat]:=by
 have:=C4 r.rates a b day r.rates.length;have h1:jr r.rates a b day<r.rates.length:=this;exact⟨by omega,fun h2=>by simp[h2]⟩
theorem LH {r:Realm}(hr:RealmOK r):xd (rateF r):=by
 intro a b d h;unfold rateF at h ⊢;split
 ·rename_i h0;obtain⟨h1,h2⟩:=aeK hr h0;have hx:=hr.rates _ (List.getElem_mem h1);rw[h2 h1];exact(EA _ _ hx.1 hx.2).2.2
 ·rename_i h0;rw[if_neg h0] at h;split
  ·rename_i h3;obtain⟨h1,h2⟩:=aeK hr h3;have hx:=hr.rates _ (List.getElem_mem h1);rw[h2 h1];exact(EA _ _ hx.2 hx.1).2.2
  ·rename_i h3;rw[if_neg h3] at h;cases h
theorem ED (r:Realm)(hr:RealmOK r)(hl:r.rates.length≤100000)(a b day:Int):aj T aaP [aZ r,.int a,.int b,.int day] (.tup [.agg [.int (rateF r a b day).1,.int (rateF r a b day).2.1],.bool (rateF r a b day).2.2]):=by
 refine .of_tree rfl aip azU ?_;have xQ:aj T QM [.int 0,.int 0] (.tup [.agg [.int 0,.int 0],.int 1]):=by
  refine .of_tree rfl Wy agK ?_;simp[MF]
 have h1:=aeL r.rates a b day hl;have h2:=aeL r.rates b a day hl;have q1:=C4 r.rates a b day r.rates.length;have q2:=C4 r.rates b a day r.rates.length;have q1:jr r.rates a b day<r.rates.length:=q1;have q2:jr r.rates b a day<r.rates.length:=q2;unfold rateF;generalize jr r.rates a b day=n at*;generalize jr r.rates b a day=m at*;simp[TD];refine⟨_,h1,?_⟩;simp;by_cases h0:0≤n
 ·have af:n.toNat<r.rates.length:=by omega
  have hx:=hr.rates _ (List.getElem_mem af);obtain⟨h,hb,_⟩:=EA _ _ hx.1 hx.2;simp[h0,q1,af];refine⟨_,h,?_⟩;simp[hb]
 ·simp[h0];refine⟨_,h2,?_⟩;simp;by_cases h3:0≤m
  ·have af:m.toNat<r.rates.length:=by omega
   have hx:=hr.rates _ (List.getElem_mem af);obtain⟨h,hb,_⟩:=EA _ _ hx.2 hx.1;simp[h3,q2,af];refine⟨_,h,?_⟩;simp[hb]
  ·simp[h3];refine⟨_,xQ,?_⟩;simp
theorem avE (s a b c d:Int)(hs:0≤s∧s≤1099511627776)(ha:0<a∧a≤1073741824)(hb:0<b∧b≤1073741824)(hc:0<c∧c≤1073741824)(hd:0<d∧d≤1073741824):
 aj T aaS [.int s,.agg [.int a,.int b],.agg [.int c,.int d]] (.int (qj s (a*c) (b*d))):=by
 obtain⟨S,rfl⟩:=Int.eq_ofNat_of_zero_le hs.1;obtain⟨A,rfl⟩:=Int.eq_ofNat_of_zero_le (Int.le_of_lt ha.1);obtain⟨B,rfl⟩:=Int.eq_ofNat_of_zero_le (Int.le_of_lt hb.1);obtain⟨C,rfl⟩:=Int.eq_ofNat_of_zero_le (Int.le_of_lt hc.1);obtain⟨E,rfl⟩:=Int.eq_ofNat_of_zero_le (Int.le_of_lt hd.1);have hAC:A*C≤1073741824*1073741824:=Nat.mul_le_mul (by omega) (by omega);have hBE:B*E≤1073741824*1073741824:=Nat.mul_le_mul (by omega) (by omega);have wA:IntKind.u64.wrap (A:Int)=A:=dT (by omega);have wB:IntKind.u64.wrap (B:Int)=B:=dT (by omega);have wC:IntKind.u64.wrap (C:Int)=C:=dT (by omega);have wE:IntKind.u64.wrap (E:Int)=E:=dT (by omega);have wS:IntKind.u64.wrap (S:Int)=S:=dT (by omega);have wAC:IntKind.u64.wrap ((A:Int)*(C:Int))=((A*C:Nat):Int):=by rw[←Int.natCast_mul];exact dT (by omega)
 have wBE:IntKind.u64.wrap ((B:Int)*(E:Int))=((B*E:Nat):Int):=by rw[←Int.natCast_mul];exact dT (by omega)
 have e1:(A:Int)*(C:Int)=((A*C:Nat):Int):=(Int.natCast_mul _ _).symm;have e2:(B:Int)*(E:Int)=((B*E:Nat):Int):=(Int.natCast_mul _ _).symm;rw[e1,e2];refine .of_tree rfl ais azX ?_;simp[TG,wA,wB,wC,wE,wS,wAC,wBE,-Int.natCast_mul];generalize A*C=K at*;generalize B*E=W at*;unfold qj;by_cases h:W≤K
 ·have h':(W:Int)≤K:=by omega
  simp[h]
 have h':¬(W:Int)≤K:=by omega
 have wd:IntKind.u64.wrap ((W:Int)-(K:Int))=((W-K:Nat):Int):=by rw[iS (by omega)];omega
 have hSW:S*(W-K)≤1099511627776*W:=Nat.mul_le_mul (by omega) (by omega);have vc:=Nat.div_add_mod (S*(W-K)) 18446744073709551616;have lq:S*(W-K)%18446744073709551616<18446744073709551616:=Nat.mod_lt _ (by decide);simp[h,wd];refine⟨_,QF S (W-K) (by omega) (by omega),?_⟩;generalize vg:S*(W-K)/18446744073709551616=hi at*;generalize atz:S*(W-K)%18446744073709551616=lo at*;obtain⟨d,hd,d2,rfl⟩:=Xk hi lo W (by omega) (by omega) lq (by omega);have e:hi*18446744073709551616+lo=S*(W-K):=by omega
 rw[e] at hd;refine⟨_,hd,?_⟩;have hq:S*(W-K)/W≤1099511627776:=Nat.div_le_of_le_mul (by rw[Nat.mul_comm W];exact hSW);have e3:(S:Int)*((W:Int)-(K:Int))/(W:Int)=((S*(W-K)/W:Nat):Int):=by
  rw[Int.natCast_ediv,Int.natCast_mul,Int.natCast_sub (by omega)]
 rw[e3];generalize S*(W-K)/W=q at*;have hw:IntKind.i64.wrap (q:Int)=q:=aW (by omega);simp[hw]
theorem aoW (r:Realm)(hr:RealmOK r)(hl:r.rates.length≤100000)(b:Bill)(who s fr to:Int)(hw:0≤who∧who<r.firms.length)(hs:0≤s∧s≤1099511627776):
 aj T aaQ [aZ r,dp b,.int who,.int s,.int fr,.int to] (.int (pO (rateF r) (qV r who) b.currency s fr to)):=by
 refine .of_tree rfl aiq azV ?_;have h1:who.toNat<r.firms.length:=by omega
 have h2:=hr.firms _ (List.getElem_mem h1);have h3:(r.firms[who.toNat]).city.toNat<r.cities.length:=by omega
 have asN:qV r who=r.cities[(r.firms[who.toNat]).city.toNat].currency:=by simp[qV,h1,h3]
 rw[asN];simp[TE,hw,h1,h2,h3];generalize r.cities[(r.firms[who.toNat]).city.toNat].currency=own at*;unfold pO;by_cases h4:own=b.currency
 ·simp[h4]
 simp[h4];refine⟨_,ED r hr hl _ _ _,_,ED r hr hl _ _ _,?_⟩;simp;have hk:=LH hr;cases e1:(rateF r b.currency own fr).2.2
 ·simp
 cases e2:(rateF r own b.currency to).2.2
 ·simp
 have k1:=hk _ _ _ e1;have k2:=hk _ _ _ e2;simp;exact avE s _ _ _ _ hs k1.1 k1.2 k2.1 k2.2
end Rm
namespace Rm
open Go Go.Proofs Cx
@[simp] theorem aIP:D.none.b=false:=_root_.id rfl
theorem eu (n a b:Int):aj T CT [.int n,.int a,.int b] (.bool (wi n a b)):=by
 refine .of_tree rfl ajl aAS ?_;simp[UA];by_cases h:a≤n<;>simp[wi,h]
theorem mZ (n m:Int):aj T acM [.int n,.int m] (.bool (aF n m)):=by
 refine .of_tree rfl akr aBY ?_;simp[VF];by_cases h:0≤n<;>simp[aF,h]
def Mt (b:Bill):Bool:=
 if b.tenor.kind=0∨b.tenor.kind=4 then decide (b.tenor.n=0)&&decide (b.tenor.unit=0)
 else if b.tenor.kind=1∨b.tenor.kind=2 then(decide (1≤b.tenor.n)&&decide (b.tenor.n≤400))&&(decide (b.tenor.unit=0)||decide (b.tenor.unit=1))
 else if b.tenor.kind=3 then(decide (b.day≤b.tenor.n)&&decide (b.tenor.n≤100000))&&decide (b.tenor.unit=0)
 else false
theorem aCr (b:Bill):aj T acN [dp b] (.bool (Mt b)):=by
 refine .of_tree rfl aks aBZ ?_;unfold Mt;simp[VG];by_cases h0:b.tenor.kind=0
 ·by_cases h1:b.tenor.n=0<;>simp[h0,h1]
 by_cases h4:b.tenor.kind=4
 ·by_cases h1:b.tenor.n=0<;>simp[h4,h1]
 simp[h0,h4];by_cases k1:b.tenor.kind=1
 ·by_cases h1:1≤b.tenor.n<;>by_cases h2:b.tenor.n≤400<;>by_cases h3:b.tenor.unit=0<;>simp[k1,h1,h2,h3]
 by_cases k2:b.tenor.kind=2
 ·by_cases h1:1≤b.tenor.n<;>by_cases h2:b.tenor.n≤400<;>by_cases h3:b.tenor.unit=0<;>simp[k2,h1,h2,h3]
 simp[k1,k2];by_cases k3:b.tenor.kind=3
 ·by_cases h1:b.day≤b.tenor.n<;>by_cases h2:b.tenor.n≤100000<;>simp[k3,h1,h2]
 simp[k3]
def rI (n m:Int):Bool:=decide (n=-1)||aF n m
def wZ (r:Realm)(b:Bill):Bool:=((aF b.drawer r.firms.length&&aF b.drawee r.firms.length)&&rI b.payee r.firms.length)&&rI b.need r.firms.length
def uB (r:Realm)(b:Bill):Bool:=(aF b.currency r.currencies.length&&aF b.city r.cities.length)&&aF b.pay r.cities.length
def wJ (b:Bill):Prop:=((((1≤b.sum∧b.sum≤1099511627776)∧0≤b.day)∧b.day≤100000)∧0≤b.rate)∧b.rate≤1000
def OA (b:Bill):Prop:=((0≤b.flags∧b.flags≤7)∧(bD .and .i64 b.flags 4=0∨¬b.payee=-1))∧Mt b=true
structure BillOK (r:Realm) (b:Bill):Prop where
 realm:eB r=0
 who:wZ r b=true
 where_:uB r b=true
 range:wJ b
 parts:1≤b.parts∧b.parts≤4
 form:OA b
 usance:b.tenor.kind=4→∃u,u∈r.usances∧u.fr=b.city∧u.to=b.pay
def nW (P:Prop)(d:D):Prop:=∃e:Int,d=.int e∧(e=0↔P)
theorem nW.no {P:Prop}{e:Int}(h:¬P)(he:e≠0):nW P (.int e):=⟨e,rfl,fun x=>absurd x he,fun x=>absurd x h⟩
theorem nW.ok {P:Prop}(h:P):nW P (.int 0):=⟨0,rfl,fun _=>h,fun _=>rfl⟩
theorem aCq (r:Realm)(hs:Small r)(b:Bill):∃d,aj T acL [aZ r,dp b] d∧nW (BillOK r b) d:=by
 refine aj.ex_of_tree rfl akq aBX ?_;simp[VE];refine⟨_,D3 r hs,?_⟩;by_cases h0:eB r=0
 case neg=>
  simp[h0];exact .no (fun h=>h0 h.realm) h0
 simp[h0];refine⟨_,mZ _ _,?_⟩;cases h1:aF b.drawer r.firms.length
 ·simp;exact .no (fun h=>by simpa [wZ,h1] using h.who) (by decide)
 simp;refine⟨_,mZ _ _,?_⟩;cases h2:aF b.drawee r.firms.length
 ·simp;exact .no (fun h=>by simpa [wZ,h2] using h.who) (by decide)
 by_cases h3:rI b.payee r.firms.length=true
 case neg=>
  have kE:¬b.payee=-1∧aF b.payee r.firms.length=false:=by simpa [rI] using h3
  simp[kE.1];refine⟨_,mZ _ _,?_⟩;simp[kE.2];exact .no (fun h=>h3 (by have:=h.who;simp[wZ] at this;exact this.1.2)) (by decide)
 by_cases h4:rI b.need r.firms.length=true
 case neg=>
  have ox:¬b.need=-1∧aF b.need r.firms.length=false:=by simpa [rI] using h4
  have fN:nW (BillOK r b) (.int 1):=.no (fun h=>h4 (by have:=h.who;simp[wZ] at this;exact this.2)) (by decide);by_cases hp:b.payee=-1
  ·simp[hp,ox.1];refine⟨_,mZ _ _,?_⟩;simp[ox.2];exact fN
  ·have kE:aF b.payee r.firms.length=true:=by simpa [rI,hp] using h3
   simp[hp];refine⟨_,mZ _ _,?_⟩;simp[kE,ox.1];refine⟨_,mZ _ _,?_⟩;simp[ox.2];exact fN
 have yf:wZ r b=true:=by simp[wZ,h1,h2,h3,h4]
 have hp:b.payee=-1∨(¬b.payee=-1∧aF b.payee r.firms.length=true):=by
  by_cases e:b.payee=-1
  ·exact .inl e
  ·exact .inr ⟨e,by simpa [rI,e] using h3⟩
 have hn:b.need=-1∨(¬b.need=-1∧aF b.need r.firms.length=true):=by
  by_cases e:b.need=-1
  ·exact .inl e
  ·exact .inr ⟨e,by simpa [rI,e] using h4⟩
 have bad:¬uB r b=true→nW (BillOK r b) (.int 1):=fun h=>.no (fun k=>h k.where_) (by decide);have fin:∀u:Int,(u=0↔∃u,u∈r.usances∧u.fr=b.city∧u.to=b.pay)→wJ b→(1≤b.parts∧b.parts≤4)→OA b→uB r b=true→nW (BillOK r b) (if b.tenor.kind=4 then .int u else .int 0):=by
  intro u hu h6 h7 h8 h9;by_cases e:b.tenor.kind=4
  ·rw[if_pos e];exact⟨u,rfl,fun h=>⟨h0,yf,h9,h6,h7,h8,fun _=>hu.1 h⟩,fun h=>hu.2 (h.usance e)⟩
  ·rw[if_neg e];exact .ok ⟨h0,yf,h9,h6,h7,h8,fun h=>absurd h e⟩
 obtain⟨un,ue,hu1,_,hu2⟩:=V8 r b.city b.pay (by have:=hs.us;omega);rcases hp with hp|⟨hp,eR⟩<;>rcases hn with hn|⟨hn,mC⟩
 case' inl.inl=>simp[hp,hn]
 case' inl.inr=>simp[hp,hn];refine⟨_,mZ _ _,?_⟩;simp[mC]
 case' inr.inl=>simp[hp,hn];refine⟨_,mZ _ _,?_⟩;simp[eR]
 case' inr.inr=>simp[hp,hn];refine⟨_,mZ _ _,?_⟩;simp[eR];refine⟨_,mZ _ _,?_⟩;simp[mC]
 all_goals
  refine⟨_,mZ _ _,?_⟩;cases h5:aF b.currency r.currencies.length
  ·simp;exact bad (by simp[uB,h5])
  simp;refine⟨_,mZ _ _,?_⟩;cases h6:aF b.city r.cities.length
  ·simp;exact bad (by simp[uB,h6])
  simp;refine⟨_,mZ _ _,?_⟩;cases h7:aF b.pay r.cities.length
  ·simp;exact bad (by simp[uB,h7])
  have Cz:uB r b=true:=by simp[uB,h5,h6,h7]
  simp;by_cases h8:wJ b
  case neg=>
   have OG:((((b.sum<1∨1099511627776<b.sum)∨b.day<0)∨100000<b.day)∨b.rate<0)∨1000<b.rate:=by unfold wJ at h8;omega
   rw[if_pos OG];exact .no (fun k=>h8 k.range) (by decide)
  have OG:¬(((((b.sum<1∨1099511627776<b.sum)∨b.day<0)∨100000<b.day)∨b.rate<0)∨1000<b.rate):=by unfold wJ at h8;omega
  rw[if_neg OG];by_cases h9:1≤b.parts∧b.parts≤4
  case neg=>
   rw[if_pos (by omega)];exact .no (fun k=>h9 k.parts) (by decide)
  rw[if_neg (by omega)];have Nf:¬OA b→nW (BillOK r b) (.int 2):=fun h=>.no (fun k=>h k.form) (by decide);by_cases g1:0≤b.flags∧b.flags≤7
  case neg=>
   have iZ:b.flags<0∨7<b.flags:=by omega
   simp[g1,iZ];exact Nf (fun h=>g1 h.1.1)
  have iZ:¬(b.flags<0∨7<b.flags):=by omega
  by_cases g2:bD .and .i64 b.flags 4=0∨¬b.payee=-1
  case neg=>
   have sI:¬bD .and .i64 b.flags 4=0∧b.payee=-1:=by simpa using g2
   first
        |exact absurd sI.2 hp
        |(simp[g1,iZ,sI]
          exact Nf (fun h=>g2 h.1.2))
  have g3:(b.payee=-1→bD .and .i64 b.flags 4=0):=fun e=>g2.resolve_right (fun h=>h e);simp[g1,iZ,hp,g3];refine⟨_,aCr b,?_⟩;cases gP:Mt b
  ·simp;exact Nf (fun h=>by have:=h.2;rw[gP] at this;cases this)
  have hf:=fin ue hu2 h8 h9 ⟨⟨g1,g2⟩,gP⟩ Cz;simp;by_cases e:b.tenor.kind=4
  ·simp[e] at hf ⊢;exact⟨_,hu1,hf⟩
  ·simp[e] at hf ⊢;exact hf
end Rm
namespace Rm
open Go Go.Proofs Cx
def zr (f:File)(i part:Int):Bool:=decide (i=0)||decide ((cL f i).part=part)
theorem aeN (f:File)(i part:Int)(h:i=0∨(0≤i∧i<f.signs.length)):aj T abL [bT f,.int i,.int part] (.bool (zr f i part)):=by
 refine .of_tree rfl ajn aAU ?_;unfold zr;by_cases h0:i=0
 ·simp[MD,h0]
 ·obtain⟨h1,h2⟩:=h.resolve_left h0;have h3:i.toNat<f.signs.length:=by omega
  simp[MD,h0,h1,h2,h3,cL]
def ET (f:File)(i:Int)(kinds:List Int):Bool:=wi (cL f i).for_ 0 (i-1)&&(zr f (cL f i).for_ (cL f i).part&&hasB kinds (cL f (cL f i).for_).kind)
theorem ax3 (f:File)(i:Int)(kinds:List Int)(h:0≤i∧i<f.signs.length)(hl:f.signs.length≤100000)(hk:kinds.length≤100):aj T abH [bT f,.int i,ints kinds] (.bool (ET f i kinds)):=by
 refine .of_tree rfl aji aAP ?_;have h1:i.toNat<f.signs.length:=by omega
 have hw:IntKind.i64.wrap (i-1)=i-1:=aW (by omega);have hs:cL f i=f.signs[i.toNat]:=by simp[cL,h1]
 unfold ET;rw[hs];simp[Ux,h,h1,hw];refine⟨_,eu _ _ _,?_⟩;cases hb:wi f.signs[i.toNat].for_ 0 (i-1)
 ·simp
 ·have bC:0≤f.signs[i.toNat].for_∧f.signs[i.toNat].for_<f.signs.length:=by
   simp[wi] at hb;omega
  have h2:f.signs[i.toNat].for_.toNat<f.signs.length:=by omega
  have dj:cL f f.signs[i.toNat].for_=f.signs[f.signs[i.toNat].for_.toNat]:=by simp[cL,h2]
  rw[dj];simp;refine⟨_,aeN f _ _ (.inr bC),?_⟩;cases cA:zr f f.signs[i.toNat].for_ f.signs[i.toNat].part
  ·simp
  simp[bC,h2];exact uE kinds _ (by omega)
def Ox (r:Realm)(b:Bill)(s:Sign)(B:List Int→Bool):Bool:=
 if s.kind=0 then((((decide (s.who=b.drawer)&&decide (s.sum=0))&&decide (bD .or .i64 s.flags 1=1))&&decide (s.part=0))&&decide (s.day=b.day))&&decide (s.city=b.city)
 else if s.kind=1 then decide (s.who=b.drawee)&&(wi s.sum 1 1099511627776&&decide (s.flags=0))
 else if s.kind=2 then((wi s.to (-1) ((r.firms.length:Int)-1)&&decide (s.sum=0))&&wi s.flags 0 7)&&decide (bD .and .i64 s.flags 6≠6)
 else if s.kind=3 then(decide (s.sum=0)&&decide (s.flags=0))&&B [0,1,2,4]
 else if s.kind=4 then((wi s.sum 1 1099511627776&&decide (s.flags=0))&&decide (s.who≠b.drawee))&&B [0,2]
 else false
def GR (r:Realm)(b:Bill)(i:Nat)(s:Sign)(B:List Int→Bool):Bool:=
 if ¬(i=0↔s.kind=0)∨(¬s.kind=2∧¬s.to=-1) then false
 else if(¬s.kind=3∧¬s.kind=4)∧¬s.for_=-1 then false
 else Ox r b s B
def uV (r:Realm)(f:File)(i:Nat):Bool:=GR r f.bill i (f.signs.getD i default) (ET f i)
theorem ax5 (r:Realm)(hr:Small r)(f:File)(i:Nat)(h:i<f.signs.length)(hl:f.signs.length≤100000):aj T abJ [aZ r,bT f,.int i] (.bool (uV r f i)):=by
 refine .of_tree rfl ajk aAR ?_;have kG:=hr.firms;have hw:IntKind.i64.wrap ((r.firms.length:Int)-1)=(r.firms.length:Int)-1:=aW (by omega);have hs:f.signs.getD i default=f.signs[i]:=by simp[h]
 have OS:=fun ks hk=>ax3 f i ks ⟨by omega,by omega⟩ hl hk;unfold uV;rw[hs];generalize hB:ET f i=B at OS ⊢;generalize hX:GR r f.bill i f.signs[i] B=X;simp[Uz,h];generalize f.signs[i]=s at*;unfold GR at hX;by_cases h1:¬(i=0↔s.kind=0)∨(¬s.kind=2∧¬s.to=-1)
 ·rw[if_pos h1] at hX ⊢;exact hX.symm
 rw[if_neg h1] at hX ⊢;by_cases h2:(¬s.kind=3∧¬s.kind=4)∧¬s.for_=-1
 ·rw[if_pos h2] at hX ⊢;exact hX.symm
 rw[if_neg h2] at hX ⊢;refine⟨_,eu _ _ _,?_⟩;unfold Ox at hX;by_cases k0:s.kind=0
 ·rw[if_pos k0] at hX ⊢;rw[←hX];by_cases a:(((s.who=f.bill.drawer∧s.sum=0)∧bD BinOp.or IntKind.i64 s.flags 1=1)∧s.part=0)∧s.day=f.bill.day
  ·simp[a]
  ·rw[if_neg a]
   congr 1
   rw[eq_comm,Bool.eq_false_iff];intro e;simp at e;exact a e.1
 rw[if_neg k0] at hX ⊢;by_cases k1:s.kind=1
 ·rw[if_pos k1] at hX ⊢;rw[←hX];by_cases a:s.who=f.bill.drawee<;>cases wi s.sum 1 1099511627776<;>simp[a]
 rw[if_neg k1] at hX ⊢;by_cases k2:s.kind=2
 ·rw[if_pos k2] at hX ⊢;rw[←hX,hw];refine⟨_,eu _ _ _,?_⟩;cases wi s.to (-1) ((r.firms.length:Int)-1)
  ·simp
  by_cases a:s.sum=0
  case neg=>simp[a]
  simp[a];refine⟨_,eu _ _ _,?_⟩;cases wi s.flags 0 7<;>simp
 rw[if_neg k2] at hX ⊢;by_cases k3:s.kind=3
 ·rw[if_pos k3] at hX ⊢;rw[←hX];by_cases a:s.sum=0∧s.flags=0
  case neg=>
   rw[if_neg a,if_neg a]
   congr 1
   rw[eq_comm,Bool.eq_false_iff];intro e;simp at e;exact a e.1
  rw[if_pos a];refine⟨_,OS [0,1,2,4] (by decide),?_⟩;simp[a]
 rw[if_neg k3] at hX ⊢;by_cases k4:s.kind=4
 ·rw[if_pos k4] at hX ⊢;rw[←hX];cases wi s.sum 1 1099511627776
  ·simp
  by_cases a:s.flags=0∧¬s.who=f.bill.drawee
  case neg=>
   simp[a]
  simp[a];exact OS [0,2] (by decide)
 rw[if_neg k4] at hX ⊢;exact hX.symm
end Rm
