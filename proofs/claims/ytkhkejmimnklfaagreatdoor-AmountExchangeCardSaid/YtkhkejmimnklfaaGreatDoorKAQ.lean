/-
  Shared texts of this claim.
-/
import Derived.Test.YtkhkejmimnklfaaGreatDoorKAP
set_option linter.unusedSimpArgs false
set_option linter.unusedVariables false
namespace Rm
open Go Go.Proofs Cx
structure RightD (r:Realm):Prop where
 small:Small r
 halts:tD r
theorem RightD.cities {r:Realm}(h:RightD r)(c:City)(hc:c∈r.cities):Dv c:=by
 obtain⟨h1,h2,h3,_⟩:=h.small.city c hc;exact⟨by omega,by omega,by omega⟩
theorem y8 (d:Int)(t:Tenor):∃n e:Int,ak T PS [.int d,mj t] (.tup [.int n,.int e]):=by
 by_cases h0:t.n<0
 ·refine⟨0,3,.of_tree rfl D2 LF ?_⟩;simp[yO,h0]
 by_cases h1:20000<t.n
 ·refine⟨0,3,.of_tree rfl D2 LF ?_⟩;simp[yO,h0,h1]
 by_cases h2:t.unit=1
 ·obtain⟨n,e,h,_⟩:=afz d t.n;refine⟨n,e,.of_tree rfl D2 LF ?_⟩;simp[yO,h0,h1,h2];refine⟨_,h,?_⟩;simp
 ·refine⟨IntKind.i64.wrap (d+t.n),0,.of_tree rfl D2 LF ?_⟩;simp[yO,h0,h1,h2]
theorem aiC (r:Realm)(hr:RightD r)(b:Bill)(seen:Int):∃n e:Int,ak T xG [aX r,cX b,.int seen] (.tup [.int n,.int e]):=by
 have OS:D.agg [D.int b.tenor.kind,D.int b.tenor.n,D.int b.tenor.unit]=mj b.tenor:=rfl;by_cases h0:b.tenor.kind=0
 ·refine⟨seen,0,.of_tree rfl tI vO ?_⟩;simp[l6,h0]
 by_cases h1:b.tenor.kind=1
 ·obtain⟨n,e,h⟩:=y8 seen b.tenor;refine⟨n,e,.of_tree rfl tI vO ?_⟩;have cq:(b.tenor.kind=1)=True:=eq_true h1;simp[l6,h0,cq];refine⟨_,h,?_⟩;simp
 by_cases h2:b.tenor.kind=2
 ·obtain⟨n,e,h⟩:=y8 b.day b.tenor;refine⟨n,e,.of_tree rfl tI vO ?_⟩;have fR:(b.tenor.kind=2)=True:=eq_true h2;simp[l6,h0,h1,fR];refine⟨_,h,?_⟩;simp
 by_cases h4:b.tenor.kind=4
 ·obtain⟨n,e,h,_⟩:=afX r b.city b.pay (by have:=hr.small.us;omega);refine⟨IntKind.i64.wrap (b.day+n),e,.of_tree rfl tI vO ?_⟩;have ly:(b.tenor.kind=4)=True:=eq_true h4;simp[l6,h0,h1,h2,ly];refine⟨_,h,?_⟩;simp
 ·refine⟨b.tenor.n,0,.of_tree rfl tI vO ?_⟩;simp[l6,h0,h1,h2,h4]
theorem ak.ex_of_tree {tab:Nat→Option PC}{ext:Nat→Option (aR→List D→Option D)}{f:Nat}{pc:PC}{t:PT}{ds:List D}{P:D→Prop}(hx:ext f=none)(ht:tab f=some pc)(he:tree pc=t)
 (h:aH (dA tab ext) t (jM ds) (fun x=>∃d,x=.ret d∧P d)):∃d,ak (dA tab ext) f ds d∧P d:=by
 subst he;obtain⟨x,⟨d,rfl,hd⟩,n0,hn⟩:=afl (J6 ⟨fun _ _ _ h=>(by obtain⟨_,h,_⟩:=h;cases h),fun _ _ _ _ _ _ h=>(by obtain⟨_,h,_⟩:=h;cases h),fun _ h=>h⟩ h);exact⟨d,.of_pc hx ht ⟨.ret d,rfl,n0,hn⟩,hd⟩
def DS (d:D):Prop:=∃n e:Int,d=.tup [.int n,.int e]
@[simp] theorem aCs (n e:Int):DS (.tup [.int n,.int e])=True:=eq_true ⟨n,e,rfl⟩
theorem vT (r:Realm)(hr:RightD r)(b:Bill)(seen bD:Int):∃d,ak T Cb [aX r,cX b,.int seen,.int bD] d∧DS d:=by
 have OS:D.agg [D.int b.tenor.kind,D.int b.tenor.n,D.int b.tenor.unit]=mj b.tenor:=rfl;have gA:=Dg r hr.small;refine ak.ex_of_tree rfl Mc Ug ?_;simp[DC];refine⟨_,gA,?_⟩;by_cases h0:cG r=0
 case neg=>simp[h0]
 simp[h0];refine⟨_,xr r b.city,?_⟩;cases h1:aG b.city r.cities.length
 ·simp[h1]
 simp[h1];refine⟨_,xr r b.pay,?_⟩;cases h2:aG b.pay r.cities.length
 ·simp[h2]
 simp[h2];refine⟨_,rU b.day,?_⟩;cases h3:dO b.day
 ·simp[h3]
 simp[h3];intro _ _ _ _;have hp:0≤b.pay∧b.pay<r.cities.length:=by simpa [aG] using h2
 have fin:0≤bD→bD≤20000→∃d,ak T xG [aX r,cX b,D.int seen] d∧
  if(d.tget 1).i=0 then ∃d1,ak T Hn [d.tget 0] d1∧(d1.b=true→IntKind.i64.wrap ((d.tget 0).i+bD)≤100000→
        ∃d2,ak T Ho [aX r,D.int b.pay,D.int (IntKind.i64.wrap ((d.tget 0).i+bD))] d2∧DS (D.tup [d2.tget 0,d2.tget 1]))
  else DS (D.tup [D.int 0,d.tget 1]):=by
  intro ur jr;obtain⟨n,e,h⟩:=aiC r hr b seen;refine⟨_,h,?_⟩;by_cases he:e=0
  ·simp[he];refine⟨_,rU n,?_⟩;cases hd:dO n
   ·simp[hd]
   have eA:0≤n∧n≤100000:=by simpa [dO] using hd
   have hw:IntKind.i64.wrap (n+bD)=n+bD:=aU (by omega);simp[hd,hw];intro hle;refine⟨_,Sg r hr.halts b.pay (n+bD) hp hr.cities (by omega) (by omega),?_⟩;simp
  ·simp[he]
 by_cases hs:seen=-1
 ·simp[hs] at fin ⊢;intro ur jr;refine⟨_,yY b.tenor,?_⟩;simp;intro _;exact fin ur jr
 ·simp[hs] at fin ⊢;refine⟨_,rU seen,?_⟩;cases hk:dO seen
  ·simp[hk]
  simp[hk];intro ur jr;exact⟨⟨_,yY b.tenor⟩,fin ur jr⟩
noncomputable def mg (r:Realm)(b:Bill)(seen bD:Int):Int×Int:=
 open Classical in if h:RightD r then((vT r h b seen bD).choose_spec.2.choose,(vT r h b seen bD).choose_spec.2.choose_spec.choose) else(0,0)
theorem LR (r:Realm)(hr:RightD r)(b:Bill)(seen bD:Int):ak T Cb [aX r,cX b,.int seen,.int bD] (.tup [.int (mg r b seen bD).1,.int (mg r b seen bD).2]):=by
 have h:=(vT r hr b seen bD).choose_spec.2.choose_spec.choose_spec;have h1:=(vT r hr b seen bD).choose_spec.1;rw[h] at h1;have e:mg r b seen bD=((vT r hr b seen bD).choose_spec.2.choose,(vT r hr b seen bD).choose_spec.2.choose_spec.choose):=by unfold mg;rw[dif_pos hr]
 rw[e];exact h1
noncomputable def eT (r:Realm)(forum:Int)(f:File)(day:Int):Int:=
 if(bn f day).signs=[] then-1
 else if(mg r f.bill (qP (bn f day)) (max (jT (ma r forum 6 (bn f day) day)) 0)).2≠0 then-1
 else(mg r f.bill (qP (bn f day)) (max (jT (ma r forum 6 (bn f day) day)) 0)).1
@[simp] theorem aGE (x:File)(a0 a1 a2 a3 a4 a5 a6 a7 a8 a9 kS kT kU kV kW m9 na nf ng:D):(cK [a0,a1,a2,a3,a4,a5,a6,a7,a8,a9,kS,kT,kU,kV,kW,m9,na,nf,ng] 0 [.int x.bill.drawer,.int x.bill.drawee,.int x.bill.payee,.int x.bill.sum,.int x.bill.currency,.int x.bill.tenor.kind,.int x.bill.tenor.n,.int x.bill.tenor.unit,.int x.bill.day,.int x.bill.city,.int x.bill.pay,.int x.bill.need,.int x.bill.rate,.int x.bill.flags,.int x.bill.parts,signs x.signs,alters x.alters,acts x.acts,facts x.facts])[15]?.getD D.none=signs x.signs:=_root_.id rfl
theorem U3 (r:Realm)(hr:Right r)(hd:RightD r)(forum:Int)(f:File)(day:Int)(hf:FewS f):ak T ZB [aX r,.int forum,bU f,.int day] (.int (eT r forum f day)):=by
 refine .of_tree rfl agx axN ?_;simp[SD];refine⟨_,K4 f day (by have:=hf.signs;omega) (by have:=hf.acts;omega) (by have:=hf.alters;omega) (by have:=hf.facts;omega),?_⟩;have hg:=hf.at_ day;have hb:(bn f day).bill=f.bill:=rfl;unfold eT;generalize bn f day=g at*;simp;by_cases h0:g.signs=[]
 ·simp[h0]
 simp[h0];refine⟨_,Vj r hr forum 6 g day hg,_,Vk _,_,awC g (by have:=hg.signs;omega) (by have:=hg.acts;omega),?_⟩;have hm:(if(D.int (jT (ma r forum 6 g day))).i<0 then D.int 0 else D.int (jT (ma r forum 6 g day)))=D.int (max (jT (ma r forum 6 g day)) 0):=by
  simp only[Ar];split
  ·rw[Int.max_eq_right (by omega)]
  ·rw[Int.max_eq_left (by omega)]
 rw[hm,hb];refine⟨_,LR r hd f.bill _ _,?_⟩;by_cases he:(mg r f.bill (qP g) (max (jT (ma r forum 6 g day)) 0)).2=0<;>simp[he]
end Rm
namespace Rm
open Go Go.Proofs Cx
theorem auk (y:Nat)(h:y<18446744073709551616):ak T ZM [u y] (.int ((64-rY y:Nat):Int)):=by
 refine .of_tree rfl agJ ax1 ?_;have hb:=(YC h).2.2.2;have hw:IntKind.i64.wrap (64-(rY y:Nat))=((64-rY y:Nat):Int):=by rw[aU (by omega)];omega
 simp[SQ];refine⟨_,as8 y h,?_⟩;simp[hw]
set_option maxHeartbeats 4000000 in
theorem V6 (hi lo y:Nat)(hy:0<y)(uu:hi<y)(km:lo<18446744073709551616)(lJ:y<18446744073709551616):
 ∃d,ak T ZL [u hi,u lo,u y] d∧∃d2,d=.tup [u ((hi*18446744073709551616+lo)/y),d2]:=by
 refine ak.ex_of_tree rfl agI ax0 ?_;have c1:¬y=0:=by omega
 have c2:¬y≤hi:=by omega
 by_cases c3:hi=0
 ·subst c3;have hq:IntKind.u64.wrap ((lo:Int)/(y:Int))=((lo/y:Nat):Int):=by
   rw[←Int.natCast_ediv];exact dI (Nat.lt_of_le_of_lt (Nat.div_le_self ..) km)
  simp[Lu,c1,c2,hq]
 ·have hb:=YC lJ;obtain⟨L,hL⟩:∃L,L=rY y:=⟨_,rfl⟩
  have rH:=auk y lJ;rw[←hL] at hb rH;have Gb:0<L:=by
   rcases Nat.eq_zero_or_pos L with h|h
   ·have:=hb.1 h;omega
   ·exact h
  have hLs:=hb.2.2.2;obtain⟨s,hs⟩:∃s,s=64-L:=⟨_,rfl⟩
  obtain⟨s',ia⟩:∃s',s'=L:=⟨_,rfl⟩
  rw[←hs] at rH;have GN:2^s'*2^s=18446744073709551616:=by rw[←Nat.pow_add,show s'+s=64 by omega]
  have XW:2^(L-1)*2^s=9223372036854775808:=by rw[←Nat.pow_add,show L-1+s=63 by omega]
  have aN:y*2^s<18446744073709551616:=by rw[←GN];exact Nat.mul_lt_mul_of_pos_right (by rw[ia];exact hb.2.2.1) (Nat.two_pow_pos s)
  have fH:9223372036854775808≤y*2^s:=by rw[←XW];exact Nat.mul_le_mul_right _ (hb.2.1 Gb)
  have ws:IntKind.u64.wrap (s:Int)=s:=dI (by omega);have kX:bJ .shl .u64 (y:Int) (s:Int)=((y*2^s:Nat):Int):=by rw[Si y s (by omega),Nat.mod_eq_of_lt aN]
  have XE:lo/2^s'<2^s:=by rw[Nat.div_lt_iff_lt_mul (Nat.two_pow_pos s'),Nat.mul_comm,GN];exact km
  have oW:0<2^s:=Nat.two_pow_pos s;have aq0:hi*2^s+2^s≤y*2^s:=by rw[←Nat.succ_mul];exact Nat.mul_le_mul_right _ uu
  have la:bJ .shl .u64 (hi:Int) (s:Int)=((hi*2^s:Nat):Int):=by rw[Si hi s (by omega),Nat.mod_eq_of_lt (by omega)]
  have lb:IntKind.u64.wrap (64-(s:Int))=s':=by rw[gQ (by omega)];omega
  have ld:bJ .shr .u64 (lo:Int) (s':Int)=((lo/2^s':Nat):Int):=Lg lo s' (by omega);have lf:bJ .or .u64 ((hi*2^s:Nat):Int) ((lo/2^s':Nat):Int)=((hi*2^s+lo/2^s':Nat):Int):=avx _ _ s (by omega) XE (Nat.mul_mod_left ..) (by omega);have lg:bJ .shl .u64 (lo:Int) (s:Int)=((lo*2^s%18446744073709551616:Nat):Int):=Si lo s (by omega);have law:((hi*2^s+lo/2^s')*18446744073709551616+lo*2^s%18446744073709551616)/(y*2^s)=(hi*18446744073709551616+lo)/y:=by
   have h1:lo*2^s/18446744073709551616=lo/2^s':=by rw[←GN];exact Nat.mul_div_mul_right _ _ (Nat.two_pow_pos s)
   have h2:=Nat.div_add_mod (lo*2^s) 18446744073709551616;rw[h1] at h2;have h3:(hi*2^s+lo/2^s')*18446744073709551616+lo*2^s%18446744073709551616=(hi*18446744073709551616+lo)*2^s:=by
        rw[Nat.add_mul,Nat.add_mul,Nat.mul_right_comm hi];omega
   rw[h3];exact Nat.mul_div_mul_right _ _ (Nat.two_pow_pos s)
  have hu:hi*2^s+lo/2^s'<y*2^s:=by omega
  have xg:lo*2^s%18446744073709551616<18446744073709551616:=Nat.mod_lt _ (by decide);clear hb GN XW XE aq0 hL;rw[←law];clear law;generalize y*2^s=v at*;generalize hi*2^s+lo/2^s'=u32 at*;generalize lo*2^s%18446744073709551616=un at*;have kY:bJ .shr .u64 (v:Int) 32=((v/4294967296:Nat):Int):=dH v;have kZ:bJ .and .u64 (v:Int) 4294967295=((v%4294967296:Nat):Int):=za v aN;have lh:bJ .shr .u64 (un:Int) 32=((un/4294967296:Nat):Int):=dH un;have lj:bJ .and .u64 (un:Int) 4294967295=((un%4294967296:Nat):Int):=za un xg;have hv:v=v/4294967296*4294967296+v%4294967296:=by omega
  have hn:un=un/4294967296*4294967296+un%4294967296:=by omega
  have X6:2147483648≤v/4294967296:=by omega
  have X7:v/4294967296<4294967296:=by omega
  have ib:v%4294967296<4294967296:=by omega
  have iJ:un/4294967296<4294967296:=by omega
  have Bu:un%4294967296<4294967296:=by omega
  generalize v/4294967296=v1 at*;generalize v%4294967296=v0 at*;generalize un/4294967296=n1 at*;generalize un%4294967296=n0 at*;have fP:¬v1=0:=by omega
  have ll:IntKind.u64.wrap ((u32:Int)/(v1:Int))=((u32/v1:Nat):Int):=by
   rw[←Int.natCast_ediv];exact dI (Nat.lt_of_le_of_lt (Nat.div_le_self ..) (by omega))
  have GP:u32/v1*v1+u32%v1=u32:=Nat.div_add_mod' u32 v1;have ln:IntKind.u64.wrap (((u32/v1:Nat):Int)*(v1:Int))=((u32/v1*v1:Nat):Int):=by
   rw[←Int.natCast_mul];exact dI (by omega)
  have lq:IntKind.u64.wrap ((u32:Int)-((u32/v1*v1:Nat):Int))=((u32%v1:Nat):Int):=by
   rw[gQ (by omega)];omega
  simp[Lu,c1,c2,c3,-dH,-Int.natCast_add,-Int.natCast_mul,-Int.natCast_ediv,-Int.natCast_emod];refine⟨_,rH,?_⟩;simp[-dH,-Int.natCast_add,-Int.natCast_mul,-Int.natCast_ediv,-Int.natCast_emod,ws,kX,kY,kZ,la,lb,ld,lf,lg,lh,lj,fP,ll,ln,lq];refine atd _ (u32/v1) (u32%v1) v1 v0 u32 n1 ib X6 X7 iJ (by omega) rfl rfl (by simp[-dH,-Int.natCast_add,-Int.natCast_mul,-Int.natCast_ediv,-Int.natCast_emod,ws,kX,kY,kZ,la,lb,ld,lf,lg,lh,lj,fP,ll,ln,lq]) (by simp[-dH,-Int.natCast_add,-Int.natCast_mul,-Int.natCast_ediv,-Int.natCast_emod,ws,kX,kY,kZ,la,lb,ld,lf,lg,lh,lj,fP,ll,ln,lq]) (by simp[-dH,-Int.natCast_add,-Int.natCast_mul,-Int.natCast_ediv,-Int.natCast_emod,ws,kX,kY,kZ,la,lb,ld,lf,lg,lh,lj,fP,ll,ln,lq]) (by simp[-dH,-Int.natCast_add,-Int.natCast_mul,-Int.natCast_ediv,-Int.natCast_emod,ws,kX,kY,kZ,la,lb,ld,lf,lg,lh,lj,fP,ll,ln,lq]) (by simp[-dH,-Int.natCast_add,-Int.natCast_mul,-Int.natCast_ediv,-Int.natCast_emod,ws,kX,kY,kZ,la,lb,ld,lf,lg,lh,lj,fP,ll,ln,lq]) _ _ fun ρ hq hk=>?_;have k2:ρ.r 2=u v:=by rw[hk 2 (by simp)];simp[-dH,-Int.natCast_add,-Int.natCast_mul,-Int.natCast_ediv,-Int.natCast_emod,ws,kX,kY,kZ,la,lb,ld,lf,lg,lh,lj,fP,ll,ln,lq]
  have k8:ρ.r 8=u s:=by rw[hk 8 (by simp)];simp[-dH,-Int.natCast_add,-Int.natCast_mul,-Int.natCast_ediv,-Int.natCast_emod,ws,kX,kY,kZ,la,lb,ld,lf,lg,lh,lj,fP,ll,ln,lq]
  have k9:ρ.r 9=u v1:=by rw[hk 9 (by simp)];simp[-dH,-Int.natCast_add,-Int.natCast_mul,-Int.natCast_ediv,-Int.natCast_emod,ws,kX,kY,kZ,la,lb,ld,lf,lg,lh,lj,fP,ll,ln,lq]
  have uU:ρ.r 10=u v0:=by rw[hk 10 (by simp)];simp[-dH,-Int.natCast_add,-Int.natCast_mul,-Int.natCast_ediv,-Int.natCast_emod,ws,kX,kY,kZ,la,lb,ld,lf,lg,lh,lj,fP,ll,ln,lq]
  have rV:ρ.r 11=u u32:=by rw[hk 11 (by simp)];simp[-dH,-Int.natCast_add,-Int.natCast_mul,-Int.natCast_ediv,-Int.natCast_emod,ws,kX,kY,kZ,la,lb,ld,lf,lg,lh,lj,fP,ll,ln,lq]
  have rW:ρ.r 13=u n1:=by rw[hk 13 (by simp)];simp[-dH,-Int.natCast_add,-Int.natCast_mul,-Int.natCast_ediv,-Int.natCast_emod,ws,kX,kY,kZ,la,lb,ld,lf,lg,lh,lj,fP,ll,ln,lq]
  have uV:ρ.r 14=u n0:=by rw[hk 14 (by simp)];simp[-dH,-Int.natCast_add,-Int.natCast_mul,-Int.natCast_ediv,-Int.natCast_emod,ws,kX,kY,kZ,la,lb,ld,lf,lg,lh,lj,fP,ll,ln,lq]
  clear hk;rw[←hv] at hq;obtain⟨q1,uE⟩:∃q1,q1=(u32*4294967296+n1)/v:=⟨_,rfl⟩
  obtain⟨R,hR⟩:∃R,R=(u32*4294967296+n1)%v:=⟨_,rfl⟩
  rw[←uE] at hq;have G0:0<v:=by omega
  have aE5:R<v:=by rw[hR];exact Nat.mod_lt _ G0
  have hqR:q1*v+R=u32*4294967296+n1:=by rw[uE,hR];exact Nat.div_add_mod' _ v
  have aFD:q1<4294967296:=by rw[uE,Nat.div_lt_iff_lt_mul G0];omega
  have rf:IntKind.u64.wrap (IntKind.u64.wrap (IntKind.u64.wrap ((u32:Int)*4294967296)+(n1:Int))-IntKind.u64.wrap ((q1:Int)*(v:Int)))=(R:Int):=by
   have h1:(q1:Int)*(v:Int)+(R:Int)=(u32:Int)*4294967296+n1:=by rw[←Int.natCast_mul];omega
   simp only[LN];generalize (q1:Int)*(v:Int)=M at*;omega
  have rh:IntKind.u64.wrap ((R:Int)/(v1:Int))=((R/v1:Nat):Int):=by
   rw[←Int.natCast_ediv];exact dI (Nat.lt_of_le_of_lt (Nat.div_le_self ..) (by omega))
  have aFG:R/v1*v1+R%v1=R:=Nat.div_add_mod' R v1;have q7:IntKind.u64.wrap (((R/v1:Nat):Int)*(v1:Int))=((R/v1*v1:Nat):Int):=by
   rw[←Int.natCast_mul];exact dI (by omega)
  have q8:IntKind.u64.wrap ((R:Int)-((R/v1*v1:Nat):Int))=((R%v1:Nat):Int):=by
   rw[gQ (by omega)];omega
  simp[-dH,-Int.natCast_add,-Int.natCast_mul,-Int.natCast_ediv,-Int.natCast_emod,k2,k9,rV,rW,hq,fP,rf,rh,q7,q8];refine ate _ (R/v1) (R%v1) v1 v0 R n0 ib X6 X7 Bu (by omega) rfl rfl (by simp[-dH,-Int.natCast_add,-Int.natCast_mul,-Int.natCast_ediv,-Int.natCast_emod,k2,k8,k9,uU,rV,rW,uV,hq,fP,rf,rh,q7,q8]) (by simp[-dH,-Int.natCast_add,-Int.natCast_mul,-Int.natCast_ediv,-Int.natCast_emod,k2,k8,k9,uU,rV,rW,uV,hq,fP,rf,rh,q7,q8]) (by simp[-dH,-Int.natCast_add,-Int.natCast_mul,-Int.natCast_ediv,-Int.natCast_emod,k2,k8,k9,uU,rV,rW,uV,hq,fP,rf,rh,q7,q8]) (by simp[-dH,-Int.natCast_add,-Int.natCast_mul,-Int.natCast_ediv,-Int.natCast_emod,k2,k8,k9,uU,rV,rW,uV,hq,fP,rf,rh,q7,q8]) (by simp[-dH,-Int.natCast_add,-Int.natCast_mul,-Int.natCast_ediv,-Int.natCast_emod,k2,k8,k9,uU,rV,rW,uV,hq,fP,rf,rh,q7,q8]) _ _ fun σ dX hk=>?_;have j15:σ.r 15=u q1:=by rw[hk 15 (by simp)];simp[-dH,-Int.natCast_add,-Int.natCast_mul,-Int.natCast_ediv,-Int.natCast_emod,k2,k8,k9,uU,rV,rW,uV,hq,fP,rf,rh,q7,q8]
  have j8:σ.r 8=u s:=by rw[hk 8 (by simp)];simp[-dH,-Int.natCast_add,-Int.natCast_mul,-Int.natCast_ediv,-Int.natCast_emod,k2,k8,k9,uU,rV,rW,uV,hq,fP,rf,rh,q7,q8]
  rw[←hv] at dX;clear hk;obtain⟨q0,nH⟩:∃q0,q0=(R*4294967296+n0)/v:=⟨_,rfl⟩
  rw[←nH] at dX;have aFC:q0<4294967296:=by rw[nH,Nat.div_lt_iff_lt_mul G0];omega
  have w1:IntKind.u64.wrap (IntKind.u64.wrap ((q1:Int)*4294967296)+(q0:Int))=((q1*4294967296+q0:Nat):Int):=by
   rw[gQ (n:=(q1:Int)*4294967296) (by omega),gQ (by omega)];omega
  have fin:(u32*18446744073709551616+un)/v=q1*4294967296+q0:=by
   have h1:u32*18446744073709551616+un=R*4294967296+n0+v*(q1*4294967296):=by
        have:v*(q1*4294967296)=(q1*v)*4294967296:=by rw[←Nat.mul_assoc,Nat.mul_comm v q1]
        omega
   rw[h1,Nat.add_mul_div_left _ _ G0,←nH];omega
  rw[fin];simp[j8,j15,dX,w1,-Int.natCast_add,-Int.natCast_mul]
end Rm
namespace Rm
open Go Go.Proofs Cx
structure View where
 realm:Realm
 forum:Int
 day:Int
 file:File
 form:Int
 due:Int
 deriving Inhabited
def de (x:View):D:=.agg [strs x.realm.currencies,kc x.realm.cities,groups x.realm.groups,firms x.realm.firms,orders x.realm.orders,usances x.realm.usances,rates x.realm.rates,halts x.realm.halts,.int x.forum,.int x.day,.int x.file.bill.drawer,.int x.file.bill.drawee,.int x.file.bill.payee,.int x.file.bill.sum,.int x.file.bill.currency,.int x.file.bill.tenor.kind,.int x.file.bill.tenor.n,.int x.file.bill.tenor.unit,.int x.file.bill.day,.int x.file.bill.city,.int x.file.bill.pay,.int x.file.bill.need,.int x.file.bill.rate,.int x.file.bill.flags,.int x.file.bill.parts,signs x.file.signs,alters x.file.alters,acts x.file.acts,facts x.file.facts,.int x.form,.int x.due]
@[simp] theorem aCU (x:View):(de x).cells=[strs x.realm.currencies,kc x.realm.cities,groups x.realm.groups,firms x.realm.firms,orders x.realm.orders,usances x.realm.usances,rates x.realm.rates,halts x.realm.halts,.int x.forum,.int x.day,.int x.file.bill.drawer,.int x.file.bill.drawee,.int x.file.bill.payee,.int x.file.bill.sum,.int x.file.bill.currency,.int x.file.bill.tenor.kind,.int x.file.bill.tenor.n,.int x.file.bill.tenor.unit,.int x.file.bill.day,.int x.file.bill.city,.int x.file.bill.pay,.int x.file.bill.need,.int x.file.bill.rate,.int x.file.bill.flags,.int x.file.bill.parts,signs x.file.signs,alters x.file.alters,acts x.file.acts,facts x.file.facts,.int x.form,.int x.due]:=_root_.id rfl
@[simp] theorem aGt (x:View):D.agg [strs x.realm.currencies,kc x.realm.cities,groups x.realm.groups,firms x.realm.firms,orders x.realm.orders,usances x.realm.usances,rates x.realm.rates,halts x.realm.halts,.int x.forum,.int x.day,.int x.file.bill.drawer,.int x.file.bill.drawee,.int x.file.bill.payee,.int x.file.bill.sum,.int x.file.bill.currency,.int x.file.bill.tenor.kind,.int x.file.bill.tenor.n,.int x.file.bill.tenor.unit,.int x.file.bill.day,.int x.file.bill.city,.int x.file.bill.pay,.int x.file.bill.need,.int x.file.bill.rate,.int x.file.bill.flags,.int x.file.bill.parts,signs x.file.signs,alters x.file.alters,acts x.file.acts,facts x.file.facts,.int x.form,.int x.due]=de x:=_root_.id rfl
@[simp] theorem aDc (x:View):ga 31 (de x)=de x:=_root_.id rfl
@[simp] theorem aGG (x:View)(a0 a1 a2 a3 a4 a5 a6 a7 a8 a9 kS kT kU kV kW m9 na nf ng y1 y2 y3 y4 y5 L1 L2 L3 L4 L5 L6 L7:D):D.agg (cK [a0,a1,a2,a3,a4,a5,a6,a7,a8,a9,kS,kT,kU,kV,kW,m9,na,nf,ng,y1,y2,y3,y4,y5,L1,L2,L3,L4,L5,L6,L7] 0 [strs x.realm.currencies,kc x.realm.cities,groups x.realm.groups,firms x.realm.firms,orders x.realm.orders,usances x.realm.usances,rates x.realm.rates,halts x.realm.halts,.int x.forum,.int x.day,.int x.file.bill.drawer,.int x.file.bill.drawee,.int x.file.bill.payee,.int x.file.bill.sum,.int x.file.bill.currency,.int x.file.bill.tenor.kind,.int x.file.bill.tenor.n,.int x.file.bill.tenor.unit,.int x.file.bill.day,.int x.file.bill.city,.int x.file.bill.pay,.int x.file.bill.need,.int x.file.bill.rate,.int x.file.bill.flags,.int x.file.bill.parts,signs x.file.signs,alters x.file.alters,acts x.file.acts,facts x.file.facts,.int x.form,.int x.due])=de x:=_root_.id rfl
@[simp] theorem aCS (x:View):(de x).c 8=.int x.forum:=_root_.id rfl
@[simp] theorem aCT (x:View):(de x).c 9=.int x.day:=_root_.id rfl
@[simp] theorem aCx (x:View):(de x).c 10=.int x.file.bill.drawer:=_root_.id rfl
@[simp] theorem aCy (x:View):(de x).c 11=.int x.file.bill.drawee:=_root_.id rfl
@[simp] theorem aCz (x:View):(de x).c 12=.int x.file.bill.payee:=_root_.id rfl
@[simp] theorem aCA (x:View):(de x).c 13=.int x.file.bill.sum:=_root_.id rfl
@[simp] theorem aCB (x:View):(de x).c 14=.int x.file.bill.currency:=_root_.id rfl
@[simp] theorem aCC (x:View):(de x).c 15=.int x.file.bill.tenor.kind:=_root_.id rfl
@[simp] theorem aCD (x:View):(de x).c 16=.int x.file.bill.tenor.n:=_root_.id rfl
@[simp] theorem aCE (x:View):(de x).c 17=.int x.file.bill.tenor.unit:=_root_.id rfl
@[simp] theorem aCF (x:View):(de x).c 18=.int x.file.bill.day:=_root_.id rfl
@[simp] theorem aCG (x:View):(de x).c 19=.int x.file.bill.city:=_root_.id rfl
@[simp] theorem aCH (x:View):(de x).c 20=.int x.file.bill.pay:=_root_.id rfl
@[simp] theorem aCI (x:View):(de x).c 21=.int x.file.bill.need:=_root_.id rfl
@[simp] theorem aCJ (x:View):(de x).c 22=.int x.file.bill.rate:=_root_.id rfl
@[simp] theorem aCK (x:View):(de x).c 23=.int x.file.bill.flags:=_root_.id rfl
@[simp] theorem aCL (x:View):(de x).c 24=.int x.file.bill.parts:=_root_.id rfl
@[simp] theorem aCM (x:View):(de x).c 25=signs x.file.signs:=_root_.id rfl
@[simp] theorem aCN (x:View):(de x).c 26=alters x.file.alters:=_root_.id rfl
@[simp] theorem aCO (x:View):(de x).c 27=acts x.file.acts:=_root_.id rfl
@[simp] theorem aCP (x:View):(de x).c 28=facts x.file.facts:=_root_.id rfl
@[simp] theorem aCQ (x:View):(de x).c 29=.int x.form:=_root_.id rfl
@[simp] theorem aCR (x:View):(de x).c 30=.int x.due:=_root_.id rfl
@[simp] theorem aC1 (x:View):ga 8 (de x)=aX x.realm:=_root_.id rfl
def nK:List Int→Int→Int
 |[],o=>o
 |x::l,o=>if x=0 then 0 else nK l (if x=2 then 2 else o)
theorem asZ {l:List Int}{o:Int}(hn:∀x,x∈l→¬x=0)(h2:o=1∨o=2):nK l o=if o=2∨2∈l then 2 else 1:=by
 induction l generalizing o with
 |nil=>rcases h2 with h|h<;>simp[nK,h]
 |cons x l ih=>
  have hx:=hn x (by simp);unfold nK;rw[if_neg hx];by_cases e:x=2
  ·rw[if_pos e,ih (fun y hy=>hn y (by simp[hy])) (.inr rfl)];simp[e]
  ·rw[if_neg e,ih (fun y hy=>hn y (by simp[hy])) h2];simp[Ne.symm e]
theorem Yw:∀{l:List Int} {o:Int} {k:Nat} (hk:k<l.length),(∀j (hj:j<k),¬l[j]'(by omega)=0)→l[k]=0→nK l o=0
 |[],o,k,hk,_,_=>by simp at hk
 |x::l,o,0,hk,hj,h=>by
  unfold nK;rw[if_pos (by simpa using h)]
 |x::l,o,k+1,hk,hj,h=>by
  unfold nK;rw[if_neg (by have:=hj 0 (by omega);simpa using this)];exact Yw (k:=k) (by simpa using hk) (fun j Gy=>by have:=hj (j+1) (by omega);simpa using this) (by simpa using h)
def xD (l:List Int)(k:Nat):Int:=if 2∈l.take k then 2 else 1
theorem as0 (l:List Int)(hl:l.length≤100000):ak T PG [ints l] (.int (nK l 1)):=by
 refine .of_tree rfl agD axV ?_;simp[SL];refine aL.scan l.length (fun k=>l.getD k 0≠0) (fun k=>[.int 0,.int (xD l k),.int k]) (fun _=>[]) ?_ (fun k hk hj au=>?_) (fun k hk hj au=>?_) (fun hj=>?_)
 ·simp[xD]
 ·have hw:=bF hk (by omega);have hx:¬l[k]=0:=by simpa [hk] using au
  have hm:xD l (k+1)=if l[k]=2 then 2 else xD l k:=by
   unfold xD;rw[List.take_succ_eq_append_getElem hk];simp only[List.mem_append,List.mem_singleton];by_cases e:l[k]=2
   ·simp[e]
   ·simp[e,Ne.symm e]
  rw[hm];simp[Rm,CE,hk,hw,hx];by_cases e:l[k]=2<;>simp[e]
 ·have hx:l[k]=0:=by simpa [hk] using au
  simp[Rm,CE,hk,hx];rw[Yw hk (fun j Gy=>by simpa [show j<l.length by omega] using hj j Gy) hx]
 ·simp[Rm,CE];rw[asZ (fun x hx=>by obtain⟨j,dW,rfl⟩:=List.getElem_of_mem hx;simpa [dW] using hj j dW) (.inl rfl)];simp[xD]
def jG (v:View)(q sign:Int):Int:=qQ (gu v.realm v.forum q ⟨v.file,sign,sign,-1,v.due,v.day⟩)
theorem Sd (v:View)(hr:Right v.realm)(hf:FewS v.file)(q sign:Int):ak T ZJ [de v,.int q,.int sign] (.int (jG v q sign)):=by
 refine .of_tree rfl agG axY ?_;simp[SO];refine⟨mi (gu v.realm v.forum q ⟨v.file,sign,sign,-1,v.due,v.day⟩),Mb v.realm hr v.forum q ⟨v.file,sign,sign,-1,v.due,v.day⟩ hf,DZ _⟩
def nj (f:File)(sign:Int)(n:Nat):Bool:=(f.alters.take n).any fun a=>decide (sign<a.at_)
def uX (f:File):Int:=(f.alters.getD (f.alters.length-1) default).sum
def pQ (v:View)(sign:Int):Int×Int:=
 if nj v.file sign v.file.alters.length=false then(0,l0 v.file sign v.file.alters.length)
 else if jG v 4 sign=1 then(1,uX v.file)
 else if jG v 4 sign=2 then(2,min (l0 v.file sign v.file.alters.length) (uX v.file))
 else(jG v 4 sign,l0 v.file sign v.file.alters.length)
theorem axz (v:View)(hr:Right v.realm)(hf:FewS v.file)(sign:Int):ak T ZK [de v,.int sign] (.tup [.int (pQ v sign).1,.int (pQ v sign).2]):=by
 refine .of_tree rfl agH axZ ?_;simp[SP];have ud:=hf.alters;refine⟨_,avN v.file sign (by omega),?_⟩;refine aL.forRounds v.file.alters.length (fun k=>[.bool (nj v.file sign k),.int k]) (fun _=>[]) ?_ (fun k hk=>?_) ?_
 ·simp[nj]
 ·have hw:=bF hk (by omega);have hs:nj v.file sign (k+1)=(nj v.file sign k||decide (sign<v.file.alters[k].at_)):=by
   unfold nj;rw[List.take_succ_eq_append_getElem hk,List.any_append];simp
  rw[hs];cases nj v.file sign k<;>simp[Rn,CF,hk,hw]
 ·unfold pQ;cases ha:nj v.file sign v.file.alters.length
  ·simp[Rn,CF,ha]
  simp[Rn,CF,ha];have Oz:0<v.file.alters.length:=by
   rcases Nat.eq_zero_or_pos v.file.alters.length with e|e
   ·simp[nj,List.length_eq_zero_iff.mp e] at ha
   ·exact e
  have hw:IntKind.i64.wrap ((v.file.alters.length:Int)-1)=(v.file.alters.length:Int)-1:=aU (by omega);have hn:((v.file.alters.length:Int)-1).toNat=v.file.alters.length-1:=by omega
  have ah:v.file.alters.length-1<v.file.alters.length:=by omega
  have ux:uX v.file=v.file.alters[v.file.alters.length-1].sum:=by simp[uX,ah]
  simp[hw,hn,ah];refine⟨by omega,_,Sd v hr hf 4 sign,?_⟩;rw[ux];by_cases h1:jG v 4 sign=1
  ·simp[h1]
  by_cases h2:jG v 4 sign=2
  ·simp[h1,h2];split
   ·rw[Int.min_eq_right (by omega)]
   ·rw[Int.min_eq_left (by omega)]
  ·simp[h1,h2]
@[simp] theorem aG9 (a0 a1 a2 a3 a4 a5 a6 x:D):cK [a0,a1,a2,a3,a4,a5,a6] 3 [x]=[a0,a1,a2,x,a4,a5,a6]:=_root_.id rfl
@[simp] theorem aHa (a0 a1 a2 a3 a4 a5 a6 x:D):cK [a0,a1,a2,a3,a4,a5,a6] 4 [x]=[a0,a1,a2,a3,x,a5,a6]:=_root_.id rfl
@[simp] theorem aHb (a0 a1 a2 a3 a4 a5 a6 x:D):cK [a0,a1,a2,a3,a4,a5,a6] 5 [x]=[a0,a1,a2,a3,a4,x,a6]:=_root_.id rfl
def rl (v:View)(sign:Int):Effect:=
 let s:=v.file.signs.getD sign.toNat default
 ⟨sign,s.kind,s.who,if Ll v.file sign v.day=true then 0 else nK [v.form,jG v 1 sign,jG v 2 sign] 1,(pQ v sign).1,
    if s.kind=1∨s.kind=4 then min (pQ v sign).2 s.sum else(pQ v sign).2,decide (s.kind≠1)&&decide (bJ .and .i64 s.flags 1=0)⟩
theorem amA (v:View)(hr:Right v.realm)(hf:FewS v.file)(sign:Int)(h0:0≤sign)(h1:sign<v.file.signs.length):ak T ZI [de v,.int sign] (tS (rl v sign)):=by
 refine .of_tree rfl agF axX ?_;obtain⟨k,rfl⟩:=Int.eq_ofNat_of_zero_le h0;have hk:k<v.file.signs.length:=by omega
 have cu:=axC v.file k v.day (by have:=hf.acts;omega);have OU:=axz v hr hf k;have jS:v.file.signs.getD (k:Int).toNat default=v.file.signs[k]:=by simp[hk]
 have BL:=Sd v hr hf 1 k;have dw:=Sd v hr hf 2 k;have hj:ak T PG [.list [.int v.form,.int (jG v 1 k),.int (jG v 2 k)]] (.int (nK [v.form,jG v 1 k,jG v 2 k] 1)):=as0 [v.form,jG v 1 k,jG v 2 k] (by simp);have hif:(if v.file.signs[k].kind=1 then D.bool false else D.bool (decide (bJ BinOp.and IntKind.i64 v.file.signs[k].flags 1=0)))=D.bool (decide (v.file.signs[k].kind≠1)&&decide (bJ BinOp.and IntKind.i64 v.file.signs[k].flags 1=0)):=by
  by_cases h:v.file.signs[k].kind=1<;>simp[h]
 unfold rl;rw[jS];generalize jG v 1 k=s1 at*;generalize jG v 2 k=s2 at*;generalize nK [v.form,s1,s2] 1=jj at*;generalize pQ v k=tx at*;obtain⟨t1,t2⟩:=tx;simp only at OU;simp[SN,hk,hif];refine⟨_,cu,?_⟩;have qo:∀a b:Int,(if b<a then D.int b else D.int a)=D.int (min a b):=by
  intro a b;split
  ·rw[Int.min_eq_right (by omega)]
  ·rw[Int.min_eq_left (by omega)]
 cases GX:Ll v.file k v.day
 ·simp[GX];refine⟨_,BL,_,dw,_,hj,_,OU,?_⟩;by_cases h1:v.file.signs[k].kind=1∨v.file.signs[k].kind=4
  ·simp[h1,qo];rfl
  ·simp[h1,qo];rfl
 ·simp[GX];refine⟨_,OU,?_⟩;by_cases h1:v.file.signs[k].kind=1∨v.file.signs[k].kind=4
  ·simp[h1,qo];rfl
  ·simp[h1,qo];rfl
noncomputable def gp (r:Realm)(forum:Int)(f:File)(day:Int):View:=⟨r,forum,day,bn f day,qQ (ma r forum 0 (bn f day) day),eT r forum (bn f day) day⟩
theorem avv (r:Realm)(hr:Right r)(hd:RightD r)(forum:Int)(f:File)(day:Int)(hf:FewS f):ak T ZH [aX r,.int forum,bU f,.int day] (de (gp r forum f day)):=by
 refine .of_tree rfl agE axW ?_;simp[SM];have hg:=hf.at_ day;refine⟨_,K4 f day (by have:=hf.signs;omega) (by have:=hf.acts;omega) (by have:=hf.alters;omega) (by have:=hf.facts;omega),?_⟩;simp;refine⟨_,Vj r hr forum 0 _ day hg,_,DZ _,_,U3 r hr hd forum _ day hg,?_⟩;simp;rfl
@[simp] theorem aGH (x:View)(a0 a1 a2 a3 a4 a5 a6 a7 a8 a9 kS kT kU kV kW m9 na nf ng y1 y2 y3 y4 y5 L1 L2 L3 L4 L5 L6 L7:D):(cK [a0,a1,a2,a3,a4,a5,a6,a7,a8,a9,kS,kT,kU,kV,kW,m9,na,nf,ng,y1,y2,y3,y4,y5,L1,L2,L3,L4,L5,L6,L7] 0 [strs x.realm.currencies,kc x.realm.cities,groups x.realm.groups,firms x.realm.firms,orders x.realm.orders,usances x.realm.usances,rates x.realm.rates,halts x.realm.halts,.int x.forum,.int x.day,.int x.file.bill.drawer,.int x.file.bill.drawee,.int x.file.bill.payee,.int x.file.bill.sum,.int x.file.bill.currency,.int x.file.bill.tenor.kind,.int x.file.bill.tenor.n,.int x.file.bill.tenor.unit,.int x.file.bill.day,.int x.file.bill.city,.int x.file.bill.pay,.int x.file.bill.need,.int x.file.bill.rate,.int x.file.bill.flags,.int x.file.bill.parts,signs x.file.signs,alters x.file.alters,acts x.file.acts,facts x.file.facts,.int x.form,.int x.due])[25]?.getD D.none=signs x.file.signs:=_root_.id rfl
def noE:Effect:=⟨0,0,0,0,0,0,false⟩
noncomputable def cL (r:Realm)(forum:Int)(f:File)(sign day:Int):Effect×Bool:=
 if sign<0∨(gp r forum f day).file.signs.length≤sign then(noE,false) else(rl (gp r forum f day) sign,true)
theorem afH (r:Realm)(hr:Right r)(hd:RightD r)(forum:Int)(f:File)(sign day:Int)(hf:FewS f):ak T ZG [aX r,.int forum,bU f,.int sign,.int day] (.tup [tS (cL r forum f sign day).1,.bool (cL r forum f sign day).2]):=by
 refine .of_tree rfl agC axU ?_;simp[SK];refine⟨_,avv r hr hd forum f day hf,?_⟩;have hg:FewS (gp r forum f day).file:=hf.at_ day;have uG:(gp r forum f day).realm=r:=rfl;unfold cL;generalize gp r forum f day=v at*;simp;by_cases h:sign<0∨(v.file.signs.length:Int)≤sign
 ·simp[h];rfl
 ·simp[h];refine⟨_,amA v (uG▸hr) hg sign (by omega) (by omega),?_⟩;simp
end Rm
namespace Rm
open Go Go.Proofs Cx
theorem FU {n:Nat}{f:Nat→Int}(h:eL n f=0)(k:Nat)(hk:k<n):f k=0:=Np.1 h k hk
theorem alc {r:Realm}(h:cG r=0)(k:Nat)(hk:k<r.orders.length):sv r.orders[k]=true:=by
 unfold cG at h;rw[vH] at h;have h1:=h (gT (pv r) 20 (su r)) (by simp);unfold gT at h1;split at h1
 ·cases h1
 have h2:=FU h1 k (by simpa [pv] using hk);have h3:=(Wy h2).2;unfold su at h3;simpa [hk] using h3
theorem apF {r:Realm}(hs:Small r)(h:cG r=0):yW r:=by
 intro o ho;obtain⟨k,hk,rfl⟩:=List.getElem_of_mem ho;have h1:=alc h k hk;obtain⟨hc,_⟩:=hs.order _ ho;refine⟨by omega,fun ch oQ=>?_⟩;unfold sv at h1;simp only[Bool.and_eq_true] at h1;obtain⟨j,hj,rfl⟩:=List.getElem_of_mem oQ;have h2:=vX.1 h1.1 j hj;simpa [aG,hj] using h2
theorem apG {r:Realm}(hs:Small r)(h:cG r=0):tD r:=by
 refine⟨by have:=hs.halts;omega,fun x hx=>?_⟩;obtain⟨k,hk,rfl⟩:=List.getElem_of_mem hx;unfold cG at h;rw[vH] at h;have h1:=h (kF r) (by simp);unfold kF at h1;split at h1
 ·cases h1
 split at h1
 ·cases h1
 split at h1
 ·cases h1
 split at h1
 ·rename_i aQ;have h2:=vX.1 aQ k hk;simp[wO,wi,aG,hk] at h2;omega
 ·cases h1
structure Good (r:Realm) (f:File):Prop where
 right:Right r
 rightD:RightD r
 few:FewS f
theorem apH {r:Realm}{f:File}(hr:r.OK)(h:wK r f=true):Good r f:=by
 unfold wK oK at h;simp only[Bool.and_eq_true,decide_eq_true_eq] at h;obtain⟨⟨⟨h1,h2⟩,h3⟩,h4⟩:=h;have hs:=Nl hr h1;refine⟨⟨apF hs h4,by have:=hs.orders;omega,fun o ho=>?_⟩,⟨hs,apG hs h4⟩,?_⟩
 ·have:=hs.order o ho;refine⟨?_,by omega⟩;exact hr.2.2.2.2.1.2 o ho
 ·simp[AJ] at h2;exact⟨by omega,by omega,by omega,by omega⟩
end Rm
namespace Rm
open Go Go.Proofs Cx
end Rm
namespace Rm
open Go Go.Proofs Cx
end Rm
namespace Rm
open Go Go.Proofs Cx
@[simp] theorem aGy:D.none.cells=[D.none]:=_root_.id rfl
end Rm
namespace Rm
open Go Go.Proofs Cx
end Rm
namespace Rm
open Go Cx
structure Owed where
 sum:Int
 interest:Int
 costs:Int
 exchange:Int
 paid:Int
 rest:Int
 currency:Int
 deriving DecidableEq,Inhabited
def ke (x:Owed):D:=.agg [.int x.sum,.int x.interest,.int x.costs,.int x.exchange,.int x.paid,.int x.rest,.int x.currency]
@[simp] theorem aBN (x:Owed):(ke x).cells=[.int x.sum,.int x.interest,.int x.costs,.int x.exchange,.int x.paid,.int x.rest,.int x.currency]:=_root_.id rfl
@[simp] theorem aGk (x:Owed):D.agg [.int x.sum,.int x.interest,.int x.costs,.int x.exchange,.int x.paid,.int x.rest,.int x.currency]=ke x:=_root_.id rfl
@[simp] theorem aC8 (x:Owed):ga 7 (ke x)=ke x:=_root_.id rfl
@[simp] theorem aBG (x:Owed):(ke x).c 0=.int x.sum:=_root_.id rfl
@[simp] theorem aBH (x:Owed):(ke x).c 1=.int x.interest:=_root_.id rfl
@[simp] theorem aBI (x:Owed):(ke x).c 2=.int x.costs:=_root_.id rfl
@[simp] theorem aBJ (x:Owed):(ke x).c 3=.int x.exchange:=_root_.id rfl
@[simp] theorem aBK (x:Owed):(ke x).c 4=.int x.paid:=_root_.id rfl
@[simp] theorem aBL (x:Owed):(ke x).c 5=.int x.rest:=_root_.id rfl
@[simp] theorem aBM (x:Owed):(ke x).c 6=.int x.currency:=_root_.id rfl
end Rm
namespace Rm
open Go Go.Proofs Cx
theorem afm {α:Type}{p:α→Bool}{l:List α}(h:∀x,x∈l→p x=true):l.takeWhile p=l:=by
 induction l with
 |nil=>rfl
 |cons x l ih=>rw[List.takeWhile_cons,if_pos (h x (by simp)),ih fun y hy=>h y (by simp[hy])]
theorem afo {α:Type}{p:α→Bool}{l:List α}{x:α}(h:x∈l.takeWhile p):p x=true:=by
 induction l with
 |nil=>cases h
 |cons y l ih=>
  rw[List.takeWhile_cons] at h;split at h
  ·rcases List.mem_cons.1 h with rfl|h
   ·assumption
   ·exact ih h
  ·cases h
structure Stab (f:File) (day:Int):Prop where
 signs:∀s,s∈f.signs→s.day≤day
 acts:∀s,s∈f.acts→s.day≤day
 alters:∀a,a∈f.alters→ni f.signs.length a=true
 facts:∀a,a∈f.facts→oJ f.signs.length a=true
theorem Stab.at_ {f:File}{day d:Int}(h:Stab f day)(hd:day≤d):bn f d=f:=by
 have h1:yP d f.signs=f.signs:=afm fun s hs=>by simpa using Int.le_trans (h.signs s hs) hd
 have h2:UR d f.acts=f.acts:=afm fun s hs=>by simpa using Int.le_trans (h.acts s hs) hd
 unfold bn;rw[h1,h2,List.filter_eq_self.2 h.alters,List.filter_eq_self.2 h.facts]
theorem axg (f:File)(day:Int):Stab (bn f day) day:=by
 refine⟨fun s hs=>?_,fun s hs=>?_,fun a ha=>?_,fun a ha=>?_⟩
 ·simpa using afo hs
 ·simpa using afo hs
 ·exact(List.mem_filter.1 ha).2
 ·exact(List.mem_filter.1 ha).2
end Rm
namespace Rm
open Go Go.Proofs Cx
def kg (sum rate fr to:Int):Bool:=(wi sum 0 1099511627776&&wi rate 0 1000)&&(wi fr 0 100000&&wi to 0 100000)&&decide (fr≤to)
def vA (sum rate fr to:Int):Int:=sum*(rate*(to-fr))/360000
def uS (sum rate fr to:Int):Int:=if kg sum rate fr to=true then min 1099511627776 (vA sum rate fr to) else 0
theorem Wv {s q a b:Int}:kg s q a b=true↔(0≤s∧s≤1099511627776)∧(0≤q∧q≤1000)∧(0≤a∧a≤100000)∧(0≤b∧b≤100000)∧a≤b:=by
 unfold kg wi;simp only[Bool.and_eq_true,decide_eq_true_eq];constructor
 ·rintro⟨⟨⟨h1,h2⟩,h3,h4⟩,h5⟩;exact⟨h1,h2,h3,h4,h5⟩
 ·rintro⟨h1,h2,h3,h4,h5⟩;exact⟨⟨⟨h1,h2⟩,h3,h4⟩,h5⟩
theorem aed {s q a b:Int}(h:kg s q a b=true):0≤vA s q a b:=by
 obtain⟨h1,h2,h3,h4,h5⟩:=Wv.1 h;exact Int.ediv_nonneg (Int.mul_nonneg h1.1 (Int.mul_nonneg h2.1 (by omega))) (by decide)
theorem asT (s q a b:Int):0≤uS s q a b:=by
 unfold uS;split
 ·rename_i h;have:=aed h;omega
 ·exact Int.le_refl _
def sk (sum kept whole:Int):Int:=if whole≤kept then 0 else sum*(whole-kept)/whole
theorem ath {s k w:Int}(hs:0≤s)(hk:0≤k):0≤sk s k w:=by
 unfold sk;split
 ·exact Int.le_refl _
 ·exact Int.ediv_nonneg (Int.mul_nonneg hs (by omega)) (by omega)
theorem atg {s k w:Int}(hs:0≤s)(hk:0≤k):sk s k w≤s:=by
 unfold sk;split
 ·exact hs
 ·rename_i h;refine Int.ediv_le_of_le_mul (by omega) ?_;exact Int.mul_le_mul_of_nonneg_left (by omega) hs
def nm (a:Act):Bool:=decide (a.kind=4)||decide (a.kind=5)
def tQ (c:Int)(a:Act):Int:=if nm a=true then min 1099511627776 (c+a.sum) else c
def jL (l:List Act):Int:=l.foldl tQ 0
theorem alz (l:List Act)(a:Act):jL (l++[a])=tQ (jL l) a:=by
 unfold jL;rw[List.foldl_append];rfl
def nv (rate:Int→Int→Int→Int×Int×Bool)(own cur sum fr to:Int):Int:=
 if own=cur then 0
 else if(rate cur own fr).2.2=true∧(rate own cur to).2.2=true then sk sum ((rate cur own fr).1*(rate own cur to).1) ((rate cur own fr).2.1*(rate own cur to).2.1)
 else 0
def LV (rate:Int→Int→Int→Int×Int×Bool):Prop:=∀a b d,(rate a b d).2.2=true→(0<(rate a b d).1∧(rate a b d).1≤1073741824)∧(0<(rate a b d).2.1∧(rate a b d).2.1≤1073741824)
theorem amQ {rate:Int→Int→Int→Int×Int×Bool}(hr:LV rate)(own cur fr to:Int){s:Int}(hs:0≤s):0≤nv rate own cur s fr to:=by
 unfold nv;split
 ·exact Int.le_refl _
 split
 ·rename_i h;have h1:=(hr _ _ _ h.1).1;have h2:=(hr _ _ _ h.2).1;exact ath hs (Int.mul_nonneg (by omega) (by omega))
 ·exact Int.le_refl _
structure Due where
 there:Bool
 sum:Int
 cur:Int
 due:Int
 end_:Int
 clause:Int
 rate:Int
 re:Int
 own:Int
 costs:Int
def Due.now (d:Due):Bool:=decide (d.due≠-1)&&decide (d.due≤d.end_)
def Due.rateF (d:Due):Int:=if d.clause=0 then min 1000 (max 0 d.rate) else d.clause
def Due.interest (d:Due):Int:=if d.now=true then uS d.sum d.rateF d.due d.end_ else 0
def Due.exch (d:Due)(rate:Int→Int→Int→Int×Int×Bool):Int:=if d.now=true∧d.re=1 then nv rate d.own d.cur d.sum d.due d.end_ else 0
def noO:Owed:=⟨0,0,0,0,0,0,0⟩
def Due.owed (d:Due)(rate:Int→Int→Int→Int×Int×Bool):Owed:=
 if d.there=false then noO else⟨d.sum,d.interest,d.costs,d.exch rate,0,min 1099511627776 (d.sum+d.interest+d.costs+d.exch rate),d.cur⟩
structure Due.OK (d:Due):Prop where
 low:0≤d.sum
 sum:d.sum≤1099511627776
 clause:0≤d.clause∧d.clause≤1000
 end_:d.end_≤100000
theorem Wp {d:Due}(h:d.OK){rate:Int→Int→Int→Int×Int×Bool}(hr:LV rate):0≤d.exch rate∧d.exch rate≤d.sum:=by
 unfold Due.exch;split
 ·refine⟨amQ hr _ _ _ _ h.low,?_⟩;unfold nv;split
  ·exact h.low
  split
  ·rename_i hh;have h1:=(hr _ _ _ hh.1).1;have h2:=(hr _ _ _ hh.2).1;exact atg h.low (Int.mul_nonneg (by omega) (by omega))
  ·exact h.low
 ·exact⟨Int.le_refl _,h.low⟩
def mf (r:Realm)(who:Int):Int:=(r.cities.getD (r.firms.getD who.toNat default).city.toNat default).currency
noncomputable def gd (r:Realm)(forum:Int)(f:File)(sign day:Int):Case:=⟨f,sign,sign,-1,eT r forum f day,day⟩
noncomputable def cH (r:Realm)(forum:Int)(f:File)(sign day:Int):Due where
 there:=(cL r forum f sign day).2
 sum:=(cL r forum f sign day).1.sum
 cur:=f.bill.currency
 due:=eT r forum f day
 end_:=min day 100000
 clause:=f.bill.rate
 rate:=jT (gu r forum 16 (gd r forum f sign day))
 re:=qQ (gu r forum 17 (gd r forum f sign day))
 own:=mf r (cW (bn f day) sign).who
 costs:=jL (bn f day).acts
structure SumsOK (f:File):Prop where
 bill:1≤f.bill.sum∧f.bill.sum≤1099511627776
 rate:0≤f.bill.rate∧f.bill.rate≤1000
 alters:∀a,a∈f.alters→1≤a.sum∧a.sum≤1099511627776
 signs:∀s,s∈f.signs→s.kind=1∨s.kind=4→1≤s.sum∧s.sum≤1099511627776
theorem SumsOK.at_ {f:File}(h:SumsOK f)(day:Int):SumsOK (bn f day):=
 ⟨h.bill,h.rate,fun a ha=>h.alters a ((List.mem_filter.1 ha).1),fun s hs=>h.signs s ((List.takeWhile_sublist _).subset hs)⟩
theorem axm {f:File}(h:SumsOK f)(sign:Int)(n:Nat):1≤l0 f sign n∧l0 f sign n≤1099511627776:=by
 unfold l0
 have key:∀(l:List Alter) (s:Int),(∀a,a∈l→a∈f.alters)→1≤s∧s≤1099511627776→1≤l.foldl (fun s a=>if a.at_≤sign then a.sum else s) s∧l.foldl (fun s a=>if a.at_≤sign then a.sum else s) s≤1099511627776:=by
  intro l
  induction l with
  |nil=>exact fun s _ hs=>hs
  |cons a l ih=>
   intro s hl hs;rw[List.foldl_cons];refine ih _ (fun b hb=>hl b (by simp[hb])) ?_;split
   ·exact h.alters a (hl a (by simp))
   ·exact hs
 exact key _ _ (fun a ha=>List.mem_of_mem_take ha) h.bill
theorem as5 {f:File}{sign:Int}(h:SumsOK f)(aC:nj f sign f.alters.length=true):1≤uX f∧uX f≤1099511627776:=by
 unfold uX;have Oz:0<f.alters.length:=by
  rcases Nat.eq_zero_or_pos f.alters.length with e|e
  ·simp[nj,List.length_eq_zero_iff.mp e] at aC
  ·exact e
 have ah:f.alters.length-1<f.alters.length:=by omega
 have e:f.alters.getD (f.alters.length-1) default=f.alters[f.alters.length-1]:=by simp[ah]
 rw[e];exact h.alters _ (List.getElem_mem ah)
theorem axy {v:View}(h:SumsOK v.file)(sign:Int):1≤(pQ v sign).2∧(pQ v sign).2≤1099511627776:=by
 have h1:=axm h sign v.file.alters.length;unfold pQ;split
 ·exact h1
 rename_i ha;have h2:=as5 (sign:=sign) h (by simpa using ha);split
 ·exact h2
 split
 ·simp only;omega
 ·exact h1
theorem amy {v:View}(h:SumsOK v.file)(sign:Int)(h0:0≤sign)(h1:sign<v.file.signs.length):1≤(rl v sign).sum∧(rl v sign).sum≤1099511627776:=by
 have ht:=axy h sign;have ah:sign.toNat<v.file.signs.length:=by omega
 have e:v.file.signs.getD sign.toNat default=v.file.signs[sign.toNat]:=by simp[ah]
 unfold rl;simp only[e];split
 ·rename_i hk;have:=h.signs _ (List.getElem_mem ah) hk;omega
 ·exact ht
theorem Nd (r:Realm)(forum:Int){f:File}(h:SumsOK f)(sign day:Int):0≤(cL r forum f sign day).1.sum∧(cL r forum f sign day).1.sum≤1099511627776:=by
 unfold cL;split
 ·simp[noE]
 ·rename_i hs;have:=amy (v:=gp r forum f day) (h.at_ day) sign (by omega) (by omega);simp only;omega
theorem V7 (r:Realm)(forum:Int){f:File}(h:SumsOK f)(sign day:Int):(cH r forum f sign day).OK:=
 ⟨(Nd r forum h sign day).1,(Nd r forum h sign day).2,h.rate,by show min day 100000≤100000;omega⟩
end Rm
namespace Rm
open Go Go.Proofs Cx
theorem xB (r:Realm)(forum:Int)(f:File)(d:Int):eT r forum (bn f d) d=eT r forum f d:=by
 unfold eT;rw[(axg f d).at_ (Int.le_refl _)];rfl
end Rm
namespace Rm
open Go Go.Proofs Cx
theorem LM (n m:Int):ak T aab [.int n,.int m] (.bool (wi n 0 m)):=by
 refine .of_tree rfl ag6 ayp ?_;simp[Th];by_cases h:0≤n<;>simp[wi,h]
def DQ (n:Nat)(d:D):Prop:=if 1099511627776<n then d=.tup [.int 0,.int 0,.bool false] else ∃r:Int,d=.tup [.int n,.int r,.bool true]
theorem avT (a b c:Nat)(ha:a<9223372036854775808)(hb:b<9223372036854775808)(hc:0<c)(A8:c<9223372036854775808):∃d,ak T aaa [.int a,.int b,.int c] d∧DQ (a*b/c) d:=by
 refine ak.ex_of_tree rfl ag5 ayo ?_;have wa:IntKind.u64.wrap (a:Int)=a:=dI (by omega);have wb:IntKind.u64.wrap (b:Int)=b:=dI (by omega);have wc:IntKind.u64.wrap (c:Int)=c:=dI (by omega);simp[Tg,wa,wb,wc];refine⟨_,PB a b (by omega) (by omega),?_⟩;have ui:=Nat.div_add_mod (a*b) 18446744073709551616;have km:a*b%18446744073709551616<18446744073709551616:=Nat.mod_lt _ (by decide);generalize uu:a*b/18446744073709551616=hi at*;generalize arj:a*b%18446744073709551616=lo at*;by_cases h1:c≤hi
 ·have cq:(c:Int)≤(hi:Int):=by omega
  have aFf:18446744073709551616≤a*b/c:=by
   rw[Nat.le_div_iff_mul_le hc];have:=Nat.mul_le_mul_left 18446744073709551616 h1;omega
  simp[h1];unfold DQ;rw[if_pos (by omega)]
 ·have cq:¬(c:Int)≤(hi:Int):=by omega
  obtain⟨d,hd,d2,rfl⟩:=V6 hi lo c hc (by omega) km (by omega);have e:hi*18446744073709551616+lo=a*b:=by omega
  rw[e] at hd;simp[h1];refine⟨_,hd,?_⟩;unfold DQ;generalize a*b/c=q at*;by_cases h2:1099511627776<q
  ·have fR:(1099511627776:Int)<(q:Int):=by omega
   simp[h2,fR]
  ·have fR:¬(1099511627776:Int)<(q:Int):=by omega
   have hw:IntKind.i64.wrap (q:Int)=q:=aU (by omega);simp[h2,fR,hw]
def xq (s q a b:Int):Int×Int:=if kg s q a b=false then(0,1) else if 1099511627776<vA s q a b then(0,3) else(vA s q a b,0)
theorem afN (s q a b:Int):ak T Z9 [.int s,.int q,.int a,.int b,.int 360] (.tup [.int (xq s q a b).1,.int (xq s q a b).2]):=by
 refine .of_tree rfl ag4 ayn ?_;generalize hP:xq s q a b=P
 have bad:kg s q a b=false→P.1=0∧P.2=1:=fun h=>by
  unfold xq at hP;rw[if_pos h] at hP;simp[←hP]
 simp[Tf];refine⟨_,LM _ _,?_⟩;cases a1:wi s 0 1099511627776
 ·have:=bad (by simp[kg,a1]);simp[this]
 simp;refine⟨_,LM _ _,?_⟩;cases a2:wi q 0 1000
 ·have:=bad (by simp[kg,a2]);simp[this]
 simp;refine⟨_,LM _ _,?_⟩;cases a3:wi a 0 100000
 ·have:=bad (by simp[kg,a3]);simp[this]
 simp;refine⟨_,LM _ _,?_⟩;cases a4:wi b 0 100000
 ·have:=bad (by simp[kg,a4]);simp[this]
 by_cases a5:b<a
 ·have:=bad (by simp[kg];omega);simp[this,a5]
 have hf:kg s q a b=true:=by simp[kg,a1,a2,a3,a4];omega
 obtain⟨h1,h2,h3,h4,h5⟩:=Wv.1 hf;simp[a5];obtain⟨S,rfl⟩:=Int.eq_ofNat_of_zero_le h1.1;obtain⟨Q,rfl⟩:=Int.eq_ofNat_of_zero_le h2.1;obtain⟨Y,hY⟩:=Int.eq_ofNat_of_zero_le (show 0≤b-a by omega);have hQY:Q*Y≤1000*100000:=Nat.mul_le_mul (by omega) (by omega);have w1:IntKind.i64.wrap (b-a)=(Y:Int):=by rw[hY];exact aU (by omega)
 have w2:IntKind.i64.wrap ((Q:Int)*(Y:Int))=((Q*Y:Nat):Int):=by rw[←Int.natCast_mul];exact aU (by omega)
 have w3:IntKind.i64.wrap 360000=((360000:Nat):Int):=aU (by omega);rw[w1,w2,w3];obtain⟨d,hd,hp⟩:=avT S (Q*Y) 360000 (by omega) (by omega) (by decide) (by decide);refine⟨_,hd,?_⟩;have arZ:vA S Q a b=((S*(Q*Y)/360000:Nat):Int):=by
  unfold vA;rw[hY];simp
 unfold xq at hP;rw[if_neg (by simp[hf]),arZ] at hP;unfold DQ at hp;generalize S*(Q*Y)/360000=n at*;by_cases hn:1099511627776<n
 ·rw[if_pos hn] at hp;rw[if_pos (by omega)] at hP;subst hp;simp[←hP]
 ·rw[if_neg hn] at hp;rw[if_neg (by omega)] at hP;obtain⟨r,rfl⟩:=hp;simp[←hP]
theorem asU (s q a b:Int):ak T Zx [.int s,.int q,.int a,.int b] (.int (uS s q a b)):=by
 refine .of_tree rfl ags axI ?_;simp[Sy];refine⟨_,afN s q a b,?_⟩;unfold xq uS;cases hf:kg s q a b
 ·simp
 have:=aed hf;by_cases h:1099511627776<vA s q a b
 ·simp[h];omega
 ·simp[h];omega
structure RealmOK (r:Realm):Prop where
 rates:∀x,x∈r.rates→(1≤x.num∧x.num≤1073741824)∧1≤x.den∧x.den≤1073741824
 firms:∀x,x∈r.firms→0≤x.city∧x.city<r.cities.length
theorem K1 {r:Realm}(h:cG r=0):RealmOK r:=by
 unfold cG at h;rw[vH] at h;refine⟨fun x hx=>?_,fun x hx=>?_⟩
 ·obtain⟨k,hk,rfl⟩:=List.getElem_of_mem hx;have h1:=h (kF r) (by simp);unfold kF at h1;split at h1
  ·cases h1
  split at h1
  ·cases h1
  rename_i aQ;have h2:=vX.1 (by simpa using aQ) k hk;simp[sL,wi,hk] at h2;omega
 ·obtain⟨k,hk,rfl⟩:=List.getElem_of_mem hx;have h1:=h (gT (pq r) 200 (rp r)) (by simp);unfold gT at h1;split at h1
  ·cases h1
  have h2:=Np.1 h1 k (by simpa [pq] using hk);have h3:=(Wy h2).2;simp[rp,aG,hk] at h3;omega
def sw (l:List Rate)(a b day:Int)(n:Int)(k:Nat):Int:=
 if(((l.getD k default).fr=a∧(l.getD k default).to=b)∧(l.getD k default).since≤day)∧(n<0∨(l.getD n.toNat default).since<(l.getD k default).since) then k else n
def nR (l:List Rate)(a b day:Int)(k:Nat):Int:=(List.range k).foldl (sw l a b day) (-1)
def fw (l:List Rate)(a b day:Int):Int:=nR l a b day l.length
theorem adg (l:List Rate)(a b day:Int)(k:Nat):nR l a b day (k+1)=sw l a b day (nR l a b day k) k:=by
 unfold nR;rw[List.range_succ,List.foldl_append];rfl
theorem Cl (l:List Rate)(a b day:Int):∀k,nR l a b day k<k
 |0=>by simp[nR]
 |k+1=>by
  have:=Cl l a b day k;rw[adg];unfold sw;split<;>omega
theorem adi (l:List Rate)(a b day:Int)(hl:l.length≤100000):ak T Zz [rates l,.int a,.int b,.int day] (.int (fw l a b day)):=by
 refine .of_tree rfl agu axK ?_;simp[SA];refine aL.forRounds l.length (fun k=>[.int (nR l a b day k),.int k]) (fun _=>[]) ?_ (fun k ah=>?_) ?_
 ·simp[nR]
 ·have hw:=bF ah (by omega);have hn:=Cl l a b day k;have hs:sw l a b day (nR l a b day k) k=sw l a b day (nR l a b day k) k:=rfl;rw[adg];generalize nR l a b day k=n at*;unfold sw;have hk:l.getD k default=l[k]:=by simp[ah]
  rw[hk];simp[aef,KI,ah,hw];refine⟨by omega,?_⟩;by_cases h0:n<0
  ·simp[h0];split<;>rfl
  ·have h1:n.toNat<l.length:=by omega
   simp[h0,h1];split<;>rfl
 ·simp[aef,KI,fw]
theorem Vb (n:Int)(h:0≤n∧n≤1073741824):ak T aau [.int n] (u n.toNat):=by
 refine .of_tree rfl ahr ayK ?_;obtain⟨N,rfl⟩:=Int.eq_ofNat_of_zero_le h.1;have hw:IntKind.u64.wrap (N:Int)=N:=dI (by omega);have hn:¬(N:Int)<0:=by omega
 simp[TD,hw,hn]
theorem apC (a b:Nat)(ha:a<18446744073709551616)(hb:b<18446744073709551616):ak T aav [u a,u b] (u (Nat.gcd a b)):=by
 refine .of_tree rfl ahs ayL ?_;simp[TE];generalize hg:Nat.gcd a b=g;refine aL.forLoop (α:=Nat×Nat) (fun s vr vo=>(s.1<18446744073709551616∧s.2<18446744073709551616∧Nat.gcd s.1 s.2=g)∧vr=[u s.1,u s.2]∧vo=[]) (fun s=>s.2) (a,b) ?_ ?_
 ·simp;exact⟨ha,hb,hg⟩
 rintro⟨x,y⟩ vr vo ⟨⟨hx,hy,G4⟩,rfl,rfl⟩;simp only at hx hy G4 ⊢;by_cases Yg:y=0
 ·subst Yg;simp at G4;simp[ael,KP,G4]
 ·have ah:x%y<y:=Nat.mod_lt _ (by omega);have hw:IntKind.u64.wrap (((x%y:Nat)):Int)=((x%y:Nat):Int):=dI (by omega);simp[ael,KP,Yg];refine⟨y,x%y,ah,⟨hy,by omega,?_⟩,rfl,?_⟩
  ·rw[←G4,Nat.gcd_comm x y,Nat.gcd_rec y x,Nat.gcd_comm]
  ·rw[Int.tmod_eq_emod_of_nonneg (by omega)];exact(Int.natCast_emod x y).symm
def iT (n d:Int):Int×Int×Bool:=if d=0 then(0,0,false) else(((n.toNat/Nat.gcd n.toNat d.toNat:Nat):Int),((d.toNat/Nat.gcd n.toNat d.toNat:Nat):Int),true)
theorem DN (n d:Int)(hn:1≤n∧n≤1073741824)(hd:1≤d∧d≤1073741824):ak T PM [.int n,.int d] (.tup [.agg [.int (iT n d).1,.int (iT n d).2.1],.int 0])∧(iT n d).2.2=true∧(0<(iT n d).1∧(iT n d).1≤1073741824)∧0<(iT n d).2.1∧(iT n d).2.1≤1073741824:=by
 obtain⟨N,rfl⟩:=Int.eq_ofNat_of_zero_le (show 0≤n by omega);obtain⟨M,rfl⟩:=Int.eq_ofNat_of_zero_le (show 0≤d by omega);unfold iT;rw[if_neg (by omega)];simp only[Int.toNat_natCast];have jr:0<Nat.gcd N M:=Nat.gcd_pos_of_pos_left _ (by omega);have gm:0<N/Nat.gcd N M:=Nat.div_pos (Nat.gcd_le_left _ (by omega)) jr;have Yh:0<M/Nat.gcd N M:=Nat.div_pos (Nat.gcd_le_right _ (by omega)) jr;have mD:N/Nat.gcd N M≤N:=Nat.div_le_self _ _;have lJ:M/Nat.gcd N M≤M:=Nat.div_le_self _ _;have hgg:=apC N M (by omega) (by omega);have Xp:Nat.gcd N M≤N:=Nat.gcd_le_left _ (by omega);have uE:IntKind.u64.wrap ((N:Int)/(Nat.gcd N M:Int))=((N/Nat.gcd N M:Nat):Int):=by rw[←Int.natCast_ediv];exact dI (by omega)
 have dX:IntKind.u64.wrap ((M:Int)/(Nat.gcd N M:Int))=((M/Nat.gcd N M:Nat):Int):=by rw[←Int.natCast_ediv];exact dI (by omega)
 generalize Nat.gcd N M=g at*;generalize N/g=x at*;generalize M/g=y at*;refine⟨?_,trivial,by omega,by omega⟩;have a1:=Vb N (by omega);have a2:=Vb M (by omega);simp only[Int.toNat_natCast] at a1 a2;have aqU:ak T aaw [.bool false,.agg [.v (.int .u64 0),u x],.agg [.v (.int .u64 0),u y]] (.tup [.agg [.int x,.int y],.int 0]):=by
  refine .of_tree rfl aht ayM ?_;have w1:IntKind.i64.wrap (x:Int)=x:=aU (by omega);have w2:IntKind.i64.wrap (y:Int)=y:=aU (by omega);have l1:¬(1152921504606846976:Int)<x:=by omega
  have l2:¬(1152921504606846976:Int)<y:=by omega
  simp[TF,w1,w2,l1,l2]
 refine .of_tree rfl Vq afh ?_;have m0:¬(M:Int)=0:=by omega
 have m1:¬(M:Int)<0:=by omega
 have n1:¬(N:Int)<0:=by omega
 have g0:¬(g:Int)=0:=by omega
 simp[LB,m0];refine⟨by omega,_,a1,_,a2,_,hgg,by simpa using g0,?_⟩;simp[uE,dX];have e:(!decide ((N:Int)<0)==decide ((M:Int)<0))=false:=by simp[n1,m1]
 rw[e];refine⟨_,aqU,?_⟩;simp
def rateF (r:Realm)(a b day:Int):Int×Int×Bool:=
 if 0≤fw r.rates a b day then iT (r.rates.getD (fw r.rates a b day).toNat default).num (r.rates.getD (fw r.rates a b day).toNat default).den
 else if 0≤fw r.rates b a day then iT (r.rates.getD (fw r.rates b a day).toNat default).den (r.rates.getD (fw r.rates b a day).toNat default).num
 else(0,0,false)
theorem adh {r:Realm}(hr:RealmOK r){a b day:Int}(h:0≤fw r.rates a b day):(fw r.rates a b day).toNat<r.rates.length∧∀h2:(fw r.rates a b day).toNat<r.rates.length,r.rates.getD (fw r.rates a b day).toNat default=r.rates[(fw r.rates a b day).toNat]:=by
 have:=Cl r.rates a b day r.rates.length;have h1:fw r.rates a b day<r.rates.length:=this;exact⟨by omega,fun h2=>by simp[h2]⟩
theorem Rl {r:Realm}(hr:RealmOK r):LV (rateF r):=by
 intro a b d h;unfold rateF at h ⊢;split
 ·rename_i h0;obtain⟨h1,h2⟩:=adh hr h0;have hx:=hr.rates _ (List.getElem_mem h1);rw[h2 h1];exact(DN _ _ hx.1 hx.2).2.2
 ·rename_i h0;rw[if_neg h0] at h;split
  ·rename_i h3;obtain⟨h1,h2⟩:=adh hr h3;have hx:=hr.rates _ (List.getElem_mem h1);rw[h2 h1];exact(DN _ _ hx.2 hx.1).2.2
  ·rename_i h3;rw[if_neg h3] at h;cases h
theorem DR (r:Realm)(hr:RealmOK r)(hl:r.rates.length≤100000)(a b day:Int):ak T Zv [aX r,.int a,.int b,.int day] (.tup [.agg [.int (rateF r a b day).1,.int (rateF r a b day).2.1],.bool (rateF r a b day).2.2]):=by
 refine .of_tree rfl agq axG ?_;have w6:ak T PM [.int 0,.int 0] (.tup [.agg [.int 0,.int 0],.int 1]):=by
  refine .of_tree rfl Vq afh ?_;simp[LB]
 have h1:=adi r.rates a b day hl;have h2:=adi r.rates b a day hl;have q1:=Cl r.rates a b day r.rates.length;have q2:=Cl r.rates b a day r.rates.length;have q1:fw r.rates a b day<r.rates.length:=q1;have q2:fw r.rates b a day<r.rates.length:=q2;unfold rateF;generalize fw r.rates a b day=n at*;generalize fw r.rates b a day=m at*;simp[Sv];refine⟨_,h1,?_⟩;simp;by_cases h0:0≤n
 ·have ah:n.toNat<r.rates.length:=by omega
  have hx:=hr.rates _ (List.getElem_mem ah);obtain⟨h,hb,_⟩:=DN _ _ hx.1 hx.2;simp[h0,q1,ah];refine⟨_,h,?_⟩;simp[hb]
 ·simp[h0];refine⟨_,h2,?_⟩;simp;by_cases h3:0≤m
  ·have ah:m.toNat<r.rates.length:=by omega
   have hx:=hr.rates _ (List.getElem_mem ah);obtain⟨h,hb,_⟩:=DN _ _ hx.2 hx.1;simp[h3,q2,ah];refine⟨_,h,?_⟩;simp[hb]
  ·simp[h3];refine⟨_,w6,?_⟩;simp
theorem ati (s a b c d:Int)(hs:0≤s∧s≤1099511627776)(ha:0<a∧a≤1073741824)(hb:0<b∧b≤1073741824)(hc:0<c∧c≤1073741824)(hd:0<d∧d≤1073741824):
 ak T Zy [.int s,.agg [.int a,.int b],.agg [.int c,.int d]] (.int (sk s (a*c) (b*d))):=by
 obtain⟨S,rfl⟩:=Int.eq_ofNat_of_zero_le hs.1;obtain⟨A,rfl⟩:=Int.eq_ofNat_of_zero_le (Int.le_of_lt ha.1);obtain⟨B,rfl⟩:=Int.eq_ofNat_of_zero_le (Int.le_of_lt hb.1);obtain⟨C,rfl⟩:=Int.eq_ofNat_of_zero_le (Int.le_of_lt hc.1);obtain⟨E,rfl⟩:=Int.eq_ofNat_of_zero_le (Int.le_of_lt hd.1);have hAC:A*C≤1073741824*1073741824:=Nat.mul_le_mul (by omega) (by omega);have hBE:B*E≤1073741824*1073741824:=Nat.mul_le_mul (by omega) (by omega);have wA:IntKind.u64.wrap (A:Int)=A:=dI (by omega);have wB:IntKind.u64.wrap (B:Int)=B:=dI (by omega);have wC:IntKind.u64.wrap (C:Int)=C:=dI (by omega);have wE:IntKind.u64.wrap (E:Int)=E:=dI (by omega);have wS:IntKind.u64.wrap (S:Int)=S:=dI (by omega);have wAC:IntKind.u64.wrap ((A:Int)*(C:Int))=((A*C:Nat):Int):=by rw[←Int.natCast_mul];exact dI (by omega)
 have wBE:IntKind.u64.wrap ((B:Int)*(E:Int))=((B*E:Nat):Int):=by rw[←Int.natCast_mul];exact dI (by omega)
 have e1:(A:Int)*(C:Int)=((A*C:Nat):Int):=(Int.natCast_mul _ _).symm;have e2:(B:Int)*(E:Int)=((B*E:Nat):Int):=(Int.natCast_mul _ _).symm;rw[e1,e2];refine .of_tree rfl agt axJ ?_;simp[Sz,wA,wB,wC,wE,wS,wAC,wBE,-Int.natCast_mul];generalize A*C=K at*;generalize B*E=W at*;unfold sk;by_cases h:W≤K
 ·have h':(W:Int)≤K:=by omega
  simp[h]
 have h':¬(W:Int)≤K:=by omega
 have wd:IntKind.u64.wrap ((W:Int)-(K:Int))=((W-K:Nat):Int):=by rw[gQ (by omega)];omega
 have hSW:S*(W-K)≤1099511627776*W:=Nat.mul_le_mul (by omega) (by omega);have ui:=Nat.div_add_mod (S*(W-K)) 18446744073709551616;have km:S*(W-K)%18446744073709551616<18446744073709551616:=Nat.mod_lt _ (by decide);simp[h,wd];refine⟨_,PB S (W-K) (by omega) (by omega),?_⟩;generalize uu:S*(W-K)/18446744073709551616=hi at*;generalize arj:S*(W-K)%18446744073709551616=lo at*;obtain⟨d,hd,d2,rfl⟩:=V6 hi lo W (by omega) (by omega) km (by omega);have e:hi*18446744073709551616+lo=S*(W-K):=by omega
 rw[e] at hd;refine⟨_,hd,?_⟩;have hq:S*(W-K)/W≤1099511627776:=Nat.div_le_of_le_mul (by rw[Nat.mul_comm W];exact hSW);have e3:(S:Int)*((W:Int)-(K:Int))/(W:Int)=((S*(W-K)/W:Nat):Int):=by
  rw[Int.natCast_ediv,Int.natCast_mul,Int.natCast_sub (by omega)]
 rw[e3];generalize S*(W-K)/W=q at*;have hw:IntKind.i64.wrap (q:Int)=q:=aU (by omega);simp[hw]
theorem amS (r:Realm)(hr:RealmOK r)(hl:r.rates.length≤100000)(b:Bill)(who s fr to:Int)(hw:0≤who∧who<r.firms.length)(hs:0≤s∧s≤1099511627776):
 ak T Zw [aX r,cX b,.int who,.int s,.int fr,.int to] (.int (nv (rateF r) (mf r who) b.currency s fr to)):=by
 refine .of_tree rfl agr axH ?_;have h1:who.toNat<r.firms.length:=by omega
 have h2:=hr.firms _ (List.getElem_mem h1);have h3:(r.firms[who.toNat]).city.toNat<r.cities.length:=by omega
 have NS:mf r who=r.cities[(r.firms[who.toNat]).city.toNat].currency:=by simp[mf,h1,h3]
 rw[NS];simp[Sw,hw,h1,h2,h3];generalize r.cities[(r.firms[who.toNat]).city.toNat].currency=own at*;unfold nv;by_cases h4:own=b.currency
 ·simp[h4]
 simp[h4];refine⟨_,DR r hr hl _ _ _,_,DR r hr hl _ _ _,?_⟩;simp;have hk:=Rl hr;cases e1:(rateF r b.currency own fr).2.2
 ·simp
 cases e2:(rateF r own b.currency to).2.2
 ·simp
 have k1:=hk _ _ _ e1;have k2:=hk _ _ _ e2;simp;exact ati s _ _ _ _ hs k1.1 k1.2 k2.1 k2.2
end Rm
namespace Rm
open Go Go.Proofs Cx
@[simp] theorem aGx:D.none.b=false:=_root_.id rfl
theorem dT (n a b:Int):ak T Ca [.int n,.int a,.int b] (.bool (wi n a b)):=by
 refine .of_tree rfl ahi ayB ?_;simp[Tu];by_cases h:a≤n<;>simp[wi,h]
theorem l7 (n m:Int):ak T abk [.int n,.int m] (.bool (aG n m)):=by
 refine .of_tree rfl aio azG ?_;simp[UB];by_cases h:0≤n<;>simp[aG,h]
def Lp (b:Bill):Bool:=
 if b.tenor.kind=0∨b.tenor.kind=4 then decide (b.tenor.n=0)&&decide (b.tenor.unit=0)
 else if b.tenor.kind=1∨b.tenor.kind=2 then(decide (1≤b.tenor.n)&&decide (b.tenor.n≤400))&&(decide (b.tenor.unit=0)||decide (b.tenor.unit=1))
 else if b.tenor.kind=3 then(decide (b.day≤b.tenor.n)&&decide (b.tenor.n≤100000))&&decide (b.tenor.unit=0)
 else false
theorem az7 (b:Bill):ak T abl [cX b] (.bool (Lp b)):=by
 refine .of_tree rfl aip azH ?_;unfold Lp;simp[UC];by_cases h0:b.tenor.kind=0
 ·by_cases h1:b.tenor.n=0<;>simp[h0,h1]
 by_cases h4:b.tenor.kind=4
 ·by_cases h1:b.tenor.n=0<;>simp[h4,h1]
 simp[h0,h4];by_cases k1:b.tenor.kind=1
 ·by_cases h1:1≤b.tenor.n<;>by_cases h2:b.tenor.n≤400<;>by_cases h3:b.tenor.unit=0<;>simp[k1,h1,h2,h3]
 by_cases k2:b.tenor.kind=2
 ·by_cases h1:1≤b.tenor.n<;>by_cases h2:b.tenor.n≤400<;>by_cases h3:b.tenor.unit=0<;>simp[k2,h1,h2,h3]
 simp[k1,k2];by_cases k3:b.tenor.kind=3
 ·by_cases h1:b.day≤b.tenor.n<;>by_cases h2:b.tenor.n≤100000<;>simp[k3,h1,h2]
 simp[k3]
def qy (n m:Int):Bool:=decide (n=-1)||aG n m
def vQ (r:Realm)(b:Bill):Bool:=((aG b.drawer r.firms.length&&aG b.drawee r.firms.length)&&qy b.payee r.firms.length)&&qy b.need r.firms.length
def tz (r:Realm)(b:Bill):Bool:=(aG b.currency r.currencies.length&&aG b.city r.cities.length)&&aG b.pay r.cities.length
def yu (b:Bill):Prop:=((((1≤b.sum∧b.sum≤1099511627776)∧0≤b.day)∧b.day≤100000)∧0≤b.rate)∧b.rate≤1000
def Nu (b:Bill):Prop:=((0≤b.flags∧b.flags≤7)∧(bJ .and .i64 b.flags 4=0∨¬b.payee=-1))∧Lp b=true
structure BillOK (r:Realm) (b:Bill):Prop where
 realm:cG r=0
 who:vQ r b=true
 where_:tz r b=true
 range:yu b
 parts:1≤b.parts∧b.parts≤4
 form:Nu b
 usance:b.tenor.kind=4→∃u,u∈r.usances∧u.fr=b.city∧u.to=b.pay
def m6 (P:Prop)(d:D):Prop:=∃e:Int,d=.int e∧(e=0↔P)
theorem m6.no {P:Prop}{e:Int}(h:¬P)(he:e≠0):m6 P (.int e):=⟨e,rfl,fun x=>absurd x he,fun x=>absurd x h⟩
theorem m6.ok {P:Prop}(h:P):m6 P (.int 0):=⟨0,rfl,fun _=>h,fun _=>rfl⟩
theorem az6 (r:Realm)(hs:Small r)(b:Bill):∃d,ak T abj [aX r,cX b] d∧m6 (BillOK r b) d:=by
 refine ak.ex_of_tree rfl ain azF ?_;simp[UA];refine⟨_,Dg r hs,?_⟩;by_cases h0:cG r=0
 case neg=>
  simp[h0];exact .no (fun h=>h0 h.realm) h0
 simp[h0];refine⟨_,l7 _ _,?_⟩;cases h1:aG b.drawer r.firms.length
 ·simp;exact .no (fun h=>by simpa [vQ,h1] using h.who) (by decide)
 simp;refine⟨_,l7 _ _,?_⟩;cases h2:aG b.drawee r.firms.length
 ·simp;exact .no (fun h=>by simpa [vQ,h2] using h.who) (by decide)
 by_cases h3:qy b.payee r.firms.length=true
 case neg=>
  have jO:¬b.payee=-1∧aG b.payee r.firms.length=false:=by simpa [qy] using h3
  simp[jO.1];refine⟨_,l7 _ _,?_⟩;simp[jO.2];exact .no (fun h=>h3 (by have:=h.who;simp[vQ] at this;exact this.1.2)) (by decide)
 by_cases h4:qy b.need r.firms.length=true
 case neg=>
  have ly:¬b.need=-1∧aG b.need r.firms.length=false:=by simpa [qy] using h4
  have fo:m6 (BillOK r b) (.int 1):=.no (fun h=>h4 (by have:=h.who;simp[vQ] at this;exact this.2)) (by decide);by_cases hp:b.payee=-1
  ·simp[hp,ly.1];refine⟨_,l7 _ _,?_⟩;simp[ly.2];exact fo
  ·have jO:aG b.payee r.firms.length=true:=by simpa [qy,hp] using h3
   simp[hp];refine⟨_,l7 _ _,?_⟩;simp[jO,ly.1];refine⟨_,l7 _ _,?_⟩;simp[ly.2];exact fo
 have xm:vQ r b=true:=by simp[vQ,h1,h2,h3,h4]
 have hp:b.payee=-1∨(¬b.payee=-1∧aG b.payee r.firms.length=true):=by
  by_cases e:b.payee=-1
  ·exact .inl e
  ·exact .inr ⟨e,by simpa [qy,e] using h3⟩
 have hn:b.need=-1∨(¬b.need=-1∧aG b.need r.firms.length=true):=by
  by_cases e:b.need=-1
  ·exact .inl e
  ·exact .inr ⟨e,by simpa [qy,e] using h4⟩
 have bad:¬tz r b=true→m6 (BillOK r b) (.int 1):=fun h=>.no (fun k=>h k.where_) (by decide);have fin:∀u:Int,(u=0↔∃u,u∈r.usances∧u.fr=b.city∧u.to=b.pay)→yu b→(1≤b.parts∧b.parts≤4)→Nu b→tz r b=true→m6 (BillOK r b) (if b.tenor.kind=4 then .int u else .int 0):=by
  intro u hu h6 h7 h8 h9;by_cases e:b.tenor.kind=4
  ·rw[if_pos e];exact⟨u,rfl,fun h=>⟨h0,xm,h9,h6,h7,h8,fun _=>hu.1 h⟩,fun h=>hu.2 (h.usance e)⟩
  ·rw[if_neg e];exact .ok ⟨h0,xm,h9,h6,h7,h8,fun h=>absurd h e⟩
 obtain⟨un,ue,hu1,_,hu2⟩:=U5 r b.city b.pay (by have:=hs.us;omega);rcases hp with hp|⟨hp,eC⟩<;>rcases hn with hn|⟨hn,nD⟩
 case' inl.inl=>simp[hp,hn]
 case' inl.inr=>simp[hp,hn];refine⟨_,l7 _ _,?_⟩;simp[nD]
 case' inr.inl=>simp[hp,hn];refine⟨_,l7 _ _,?_⟩;simp[eC]
 case' inr.inr=>simp[hp,hn];refine⟨_,l7 _ _,?_⟩;simp[eC];refine⟨_,l7 _ _,?_⟩;simp[nD]
 all_goals
  refine⟨_,l7 _ _,?_⟩;cases h5:aG b.currency r.currencies.length
  ·simp;exact bad (by simp[tz,h5])
  simp;refine⟨_,l7 _ _,?_⟩;cases h6:aG b.city r.cities.length
  ·simp;exact bad (by simp[tz,h6])
  simp;refine⟨_,l7 _ _,?_⟩;cases h7:aG b.pay r.cities.length
  ·simp;exact bad (by simp[tz,h7])
  have BS:tz r b=true:=by simp[tz,h5,h6,h7]
  simp;by_cases h8:yu b
  case neg=>
   have Nz:((((b.sum<1∨1099511627776<b.sum)∨b.day<0)∨100000<b.day)∨b.rate<0)∨1000<b.rate:=by unfold yu at h8;omega
   rw[if_pos Nz];exact .no (fun k=>h8 k.range) (by decide)
  have Nz:¬(((((b.sum<1∨1099511627776<b.sum)∨b.day<0)∨100000<b.day)∨b.rate<0)∨1000<b.rate):=by unfold yu at h8;omega
  rw[if_neg Nz];by_cases h9:1≤b.parts∧b.parts≤4
  case neg=>
   rw[if_pos (by omega)];exact .no (fun k=>h9 k.parts) (by decide)
  rw[if_neg (by omega)];have Md:¬Nu b→m6 (BillOK r b) (.int 2):=fun h=>.no (fun k=>h k.form) (by decide);by_cases g1:0≤b.flags∧b.flags≤7
  case neg=>
   have gU:b.flags<0∨7<b.flags:=by omega
   simp[g1,gU];exact Md (fun h=>g1 h.1.1)
  have gU:¬(b.flags<0∨7<b.flags):=by omega
  by_cases g2:bJ .and .i64 b.flags 4=0∨¬b.payee=-1
  case neg=>
   have rv:¬bJ .and .i64 b.flags 4=0∧b.payee=-1:=by simpa using g2
   first
        |exact absurd rv.2 hp
        |(simp[g1,gU,rv]
          exact Md (fun h=>g2 h.1.2))
  have g3:(b.payee=-1→bJ .and .i64 b.flags 4=0):=fun e=>g2.resolve_right (fun h=>h e);simp[g1,gU,hp,g3];refine⟨_,az7 b,?_⟩;cases gh:Lp b
  ·simp;exact Md (fun h=>by have:=h.2;rw[gh] at this;cases this)
  have hf:=fin ue hu2 h8 h9 ⟨⟨g1,g2⟩,gh⟩ BS;simp;by_cases e:b.tenor.kind=4
  ·simp[e] at hf ⊢;exact⟨_,hu1,hf⟩
  ·simp[e] at hf ⊢;exact hf
end Rm
namespace Rm
open Go Go.Proofs Cx
def yK (f:File)(i part:Int):Bool:=decide (i=0)||decide ((cW f i).part=part)
theorem adk (f:File)(i part:Int)(h:i=0∨(0≤i∧i<f.signs.length)):ak T aan [bU f,.int i,.int part] (.bool (yK f i part)):=by
 refine .of_tree rfl ahk ayD ?_;unfold yK;by_cases h0:i=0
 ·simp[Lz,h0]
 ·obtain⟨h1,h2⟩:=h.resolve_left h0;have h3:i.toNat<f.signs.length:=by omega
  simp[Lz,h0,h1,h2,h3,cW]
def D4 (f:File)(i:Int)(kinds:List Int):Bool:=wi (cW f i).for_ 0 (i-1)&&(yK f (cW f i).for_ (cW f i).part&&hasB kinds (cW f (cW f i).for_).kind)
theorem avQ (f:File)(i:Int)(kinds:List Int)(h:0≤i∧i<f.signs.length)(hl:f.signs.length≤100000)(hk:kinds.length≤100):ak T aaj [bU f,.int i,ints kinds] (.bool (D4 f i kinds)):=by
 refine .of_tree rfl ahf ayy ?_;have h1:i.toNat<f.signs.length:=by omega
 have hw:IntKind.i64.wrap (i-1)=i-1:=aU (by omega);have hs:cW f i=f.signs[i.toNat]:=by simp[cW,h1]
 unfold D4;rw[hs];simp[Tr,h,h1,hw];refine⟨_,dT _ _ _,?_⟩;cases hb:wi f.signs[i.toNat].for_ 0 (i-1)
 ·simp
 ·have bx:0≤f.signs[i.toNat].for_∧f.signs[i.toNat].for_<f.signs.length:=by
   simp[wi] at hb;omega
  have h2:f.signs[i.toNat].for_.toNat<f.signs.length:=by omega
  have dw:cW f f.signs[i.toNat].for_=f.signs[f.signs[i.toNat].for_.toNat]:=by simp[cW,h2]
  rw[dw];simp;refine⟨_,adk f _ _ (.inr bx),?_⟩;cases cu:yK f f.signs[i.toNat].for_ f.signs[i.toNat].part
  ·simp
  simp[bx,h2];exact tC kinds _ (by omega)
def Nr (r:Realm)(b:Bill)(s:Sign)(B:List Int→Bool):Bool:=
 if s.kind=0 then((((decide (s.who=b.drawer)&&decide (s.sum=0))&&decide (bJ .or .i64 s.flags 1=1))&&decide (s.part=0))&&decide (s.day=b.day))&&decide (s.city=b.city)
 else if s.kind=1 then decide (s.who=b.drawee)&&(wi s.sum 1 1099511627776&&decide (s.flags=0))
 else if s.kind=2 then((wi s.to (-1) ((r.firms.length:Int)-1)&&decide (s.sum=0))&&wi s.flags 0 7)&&decide (bJ .and .i64 s.flags 6≠6)
 else if s.kind=3 then(decide (s.sum=0)&&decide (s.flags=0))&&B [0,1,2,4]
 else if s.kind=4 then((wi s.sum 1 1099511627776&&decide (s.flags=0))&&decide (s.who≠b.drawee))&&B [0,2]
 else false
def FV (r:Realm)(b:Bill)(i:Nat)(s:Sign)(B:List Int→Bool):Bool:=
 if ¬(i=0↔s.kind=0)∨(¬s.kind=2∧¬s.to=-1) then false
 else if(¬s.kind=3∧¬s.kind=4)∧¬s.for_=-1 then false
 else Nr r b s B
def tX (r:Realm)(f:File)(i:Nat):Bool:=FV r f.bill i (f.signs.getD i default) (D4 f i)
theorem avS (r:Realm)(hr:Small r)(f:File)(i:Nat)(h:i<f.signs.length)(hl:f.signs.length≤100000):ak T aal [aX r,bU f,.int i] (.bool (tX r f i)):=by
 refine .of_tree rfl ahh ayA ?_;have jn:=hr.firms;have hw:IntKind.i64.wrap ((r.firms.length:Int)-1)=(r.firms.length:Int)-1:=aU (by omega);have hs:f.signs.getD i default=f.signs[i]:=by simp[h]
 have NK:=fun ks hk=>avQ f i ks ⟨by omega,by omega⟩ hl hk;unfold tX;rw[hs];generalize hB:D4 f i=B at NK ⊢;generalize hX:FV r f.bill i f.signs[i] B=X;simp[Tt,h];generalize f.signs[i]=s at*;unfold FV at hX;by_cases h1:¬(i=0↔s.kind=0)∨(¬s.kind=2∧¬s.to=-1)
 ·rw[if_pos h1] at hX ⊢;exact hX.symm
 rw[if_neg h1] at hX ⊢;by_cases h2:(¬s.kind=3∧¬s.kind=4)∧¬s.for_=-1
 ·rw[if_pos h2] at hX ⊢;exact hX.symm
 rw[if_neg h2] at hX ⊢;refine⟨_,dT _ _ _,?_⟩;unfold Nr at hX;by_cases k0:s.kind=0
 ·rw[if_pos k0] at hX ⊢;rw[←hX];by_cases a:(((s.who=f.bill.drawer∧s.sum=0)∧bJ BinOp.or IntKind.i64 s.flags 1=1)∧s.part=0)∧s.day=f.bill.day
  ·simp[a]
  ·rw[if_neg a]
   congr 1
   rw[eq_comm,Bool.eq_false_iff];intro e;simp at e;exact a e.1
 rw[if_neg k0] at hX ⊢;by_cases k1:s.kind=1
 ·rw[if_pos k1] at hX ⊢;rw[←hX];by_cases a:s.who=f.bill.drawee<;>cases wi s.sum 1 1099511627776<;>simp[a]
 rw[if_neg k1] at hX ⊢;by_cases k2:s.kind=2
 ·rw[if_pos k2] at hX ⊢;rw[←hX,hw];refine⟨_,dT _ _ _,?_⟩;cases wi s.to (-1) ((r.firms.length:Int)-1)
  ·simp
  by_cases a:s.sum=0
  case neg=>simp[a]
  simp[a];refine⟨_,dT _ _ _,?_⟩;cases wi s.flags 0 7<;>simp
 rw[if_neg k2] at hX ⊢;by_cases k3:s.kind=3
 ·rw[if_pos k3] at hX ⊢;rw[←hX];by_cases a:s.sum=0∧s.flags=0
  case neg=>
   rw[if_neg a,if_neg a]
   congr 1
   rw[eq_comm,Bool.eq_false_iff];intro e;simp at e;exact a e.1
  rw[if_pos a];refine⟨_,NK [0,1,2,4] (by decide),?_⟩;simp[a]
 rw[if_neg k3] at hX ⊢;by_cases k4:s.kind=4
 ·rw[if_pos k4] at hX ⊢;rw[←hX];cases wi s.sum 1 1099511627776
  ·simp
  by_cases a:s.flags=0∧¬s.who=f.bill.drawee
  case neg=>
   simp[a]
  simp[a];exact NK [0,2] (by decide)
 rw[if_neg k4] at hX ⊢;exact hX.symm
end Rm
namespace Rm
open Go Go.Proofs Cx
def qf (f:File)(i:Nat):Int:=if i=0 then f.bill.day else(f.signs.getD (i-1) default).day
def DE (f:File)(i:Nat)(s:Sign):Bool:=(f.signs.take i).any fun x=>(decide (s.kind=1)&&decide (x.kind=1))&&decide (x.part=s.part)
def yJ (r:Realm)(f:File)(i:Nat):Int:=
 let s:=f.signs.getD i default
 if wi s.part 0 (f.bill.parts-1)=false then 15
 else if aG s.who r.firms.length=false∨aG s.city r.cities.length=false then 1
 else if wi s.day (qf f i) 100000=false∨(i=0∧¬s.day=qf f i) then 13
 else if tX r f i=false then 14
 else if DE f i s=true then 5 else 0
theorem adj (r:Realm)(hr:Small r)(f:File)(hp:1≤f.bill.parts∧f.bill.parts≤4)(i:Nat)(h:i<f.signs.length)(hl:f.signs.length≤100000):ak T aam [aX r,bU f,.int i] (.int (yJ r f i)):=by
 refine .of_tree rfl ahj ayC ?_;have jn:=hr.firms;have NR:=hr.cities;have fI:IntKind.i64.wrap ((r.firms.length:Int)-1)=(r.firms.length:Int)-1:=aU (by omega);have dY:IntKind.i64.wrap ((r.cities.length:Int)-1)=(r.cities.length:Int)-1:=aU (by omega);have O0:IntKind.i64.wrap (f.bill.parts-1)=f.bill.parts-1:=aU (by omega);have hs:f.signs.getD i default=f.signs[i]:=by simp[h]
 generalize hX:yJ r f i=X;unfold yJ at hX;simp only[hs] at hX;simp[Tv,h,fI,dY,O0];refine⟨_,dT _ _ _,?_⟩;cases a1:wi f.signs[i].part 0 (f.bill.parts-1)
 ·simpa [a1] using hX
 simp[a1] at hX ⊢;refine⟨_,dT _ _ _,?_⟩;rw[xp] at hX;cases a2:wi f.signs[i].who 0 ((r.firms.length:Int)-1)
 ·simpa [a2] using hX
 simp[a2] at hX ⊢;refine⟨_,dT _ _ _,?_⟩;rw[xp] at hX;cases a3:wi f.signs[i].city 0 ((r.cities.length:Int)-1)
 ·simpa [a3] using hX
 simp[a3] at hX ⊢;refine⟨by omega,?_⟩;have qo:min i f.signs.length=i:=by omega
 refine aL.forRounds i (fun k=>[.int (qf f k),.bool ((f.signs.take k).any fun x=>(decide (f.signs[i].kind=1)&&decide (x.kind=1))&&decide (x.part=f.signs[i].part)),.int k]) (fun _=>[]) ?_ (fun k hk=>?_) ?_
 ·simp[qf]
 ·have hw:=bF hk (by omega);have bN:k<f.signs.length:=by omega
  have hf:qf f (k+1)=f.signs[k].day:=by simp[qf,bN]
  rw[List.take_succ_eq_append_getElem bN,List.any_append];generalize ((f.signs.take k).any fun x=>(decide (f.signs[i].kind=1)&&decide (x.kind=1))&&decide (x.part=f.signs[i].part))=A;simp[aek,KN,hk,bN,h,hw,hf,qo];cases A
  ·by_cases e1:f.signs[i].kind=1<;>by_cases e2:f.signs[k].kind=1<;>simp[e1,e2]
  ·simp
 ·have ht:DE f i f.signs[i]=true↔∃x,x∈List.take i f.signs∧(f.signs[i].kind=1∧x.kind=1)∧x.part=f.signs[i].part:=by simp[DE]
  simp[aek,KN,qo,h];refine⟨_,dT _ _ _,?_⟩;by_cases a4:wi f.signs[i].day (qf f i) 100000=false∨(i=0∧¬f.signs[i].day=qf f i)
  ·rw[if_pos a4] at hX;rw[if_pos (by simpa using a4)];exact hX
  rw[if_neg a4] at hX;rw[if_neg (by simpa using a4)];refine⟨_,avS r hr f i h hl,?_⟩;cases a5:tX r f i
  ·simpa [a5] using hX
  simp[a5] at hX;simp only[alG,if_true];rw[←hX];by_cases a6:DE f i f.signs[i]=true
  ·rw[if_pos a6,if_pos (ht.1 a6)]
  ·rw[if_neg a6,if_neg (fun x=>a6 (ht.2 x))]
def y7 (a:Act)(to at_ own:Bool):Bool:=
 if a.kind=0∨a.kind=1∨a.kind=2 then(to&&decide (a.at_=-1))&&decide (a.sum=0)
 else if a.kind=3∨a.kind=4∨a.kind=5 then((to&&decide (a.at_=-1))&&wi a.sum 0 1099511627776)&&wi a.form 0 1
 else if a.kind=6 then(to&&own)&&wi a.sum 1 1099511627776
 else if a.kind=9 then(decide (a.to=-1)&&own)&&decide (a.sum=0)
 else(decide (a.to=-1)&&at_)&&decide (a.sum=0)
def zd (f:File)(a:Act):Bool:=aG a.at_ f.signs.length&&yK f a.at_ a.part
def QA (f:File)(a:Act):Bool:=zd f a&&decide ((cW f a.at_).who=a.who)
def oA (r:Realm)(f:File)(a:Act):Bool:=
 if aG a.who r.firms.length=false∨(¬a.kind=4∧¬a.form=0) then false else y7 a (aG a.to r.firms.length) (zd f a) (QA f a)
theorem avO (r:Realm)(hr:Small r)(f:File)(a:Act)(hl:f.signs.length≤100000):ak T aah [aX r,bU f,gS a] (.bool (oA r f a)):=by
 refine .of_tree rfl ahd ayw ?_;have jn:=hr.firms;have fI:IntKind.i64.wrap ((r.firms.length:Int)-1)=(r.firms.length:Int)-1:=aU (by omega);have dY:IntKind.i64.wrap ((f.signs.length:Int)-1)=(f.signs.length:Int)-1:=aU (by omega);generalize hX:oA r f a=X;unfold oA QA zd at hX;simp[Tp,fI,dY];refine⟨_,dT _ _ _,?_⟩;rw[←xp];have uM:=dT a.to 0 ((r.firms.length:Int)-1);have BS:=dT a.who 0 ((r.firms.length:Int)-1);rw[←xp] at uM BS;generalize aG a.to r.firms.length=tt at*;generalize aG a.who r.firms.length=ww at*;have fin:∀at_ own:Bool,(if ww=false∨(¬a.kind=4∧¬a.form=0) then false else y7 a tt at_ own)=X→
  if ww=false∨(¬a.kind=4∧¬a.form=0) then X=false
  else if a.kind=0∨a.kind=1∨a.kind=2 then(if tt=true∧a.at_=-1 then D.bool (decide (a.sum=0)) else D.bool false)=D.bool X
  else if a.kind=3∨a.kind=5∨a.kind=4 then
        if tt=true∧a.at_=-1 then
         ∃d,ak (dA tab ext) Ca [D.int a.sum,D.int 0,D.int 1099511627776] d∧
          if(tt=true∧a.at_=-1)∧d.b=true then
             ∃Aq,ak (dA tab ext) Ca [D.int a.form,D.int 0,D.int 1] Aq∧(if(tt=true∧a.at_=-1)∧d.b=true then Aq else D.bool false)=D.bool X
          else(if(tt=true∧a.at_=-1)∧d.b=true then D.none else D.bool false)=D.bool X
        else D.bool false=D.bool X
  else if a.kind=6 then
        if tt=true∧own=true then ∃Aq,ak (dA tab ext) Ca [D.int a.sum,D.int 1,D.int 1099511627776] Aq∧(if tt=true∧own=true then Aq else D.bool false)=D.bool X
        else(if tt=true∧own=true then D.none else D.bool false)=D.bool X
  else if a.kind=9 then(if a.to=-1∧own=true then D.bool (decide (a.sum=0)) else D.bool false)=D.bool X
  else(if a.to=-1∧at_=true then D.bool (decide (a.sum=0)) else D.bool false)=D.bool X:=by
  intro at_ own hX;by_cases p:ww=false∨(¬a.kind=4∧¬a.form=0)
  ·rw[if_pos p] at hX ⊢;exact hX.symm
  rw[if_neg p] at hX ⊢;unfold y7 at hX;by_cases k0:a.kind=0∨a.kind=1∨a.kind=2
  ·rw[if_pos k0] at hX ⊢;rw[←hX];by_cases e:tt=true∧a.at_=-1
   ·simp[e]
   ·rw[if_neg e];cases tt<;>simp at e ⊢;simp[e]
  rw[if_neg k0] at hX ⊢;by_cases k3:a.kind=3∨a.kind=4∨a.kind=5
  ·rw[if_pos k3] at hX;rw[if_pos (by omega),←hX];by_cases e:tt=true∧a.at_=-1
   ·rw[if_pos e];refine⟨_,dT _ _ _,?_⟩;cases wi a.sum 0 1099511627776
    ·simp
    ·simp[e];exact dT _ _ _
   ·rw[if_neg e];cases tt<;>simp at e ⊢;simp[e]
  rw[if_neg k3] at hX;rw[if_neg (by omega)];by_cases k6:a.kind=6
  ·rw[if_pos k6] at hX ⊢;rw[←hX];by_cases e:tt=true∧own=true
   ·rw[if_pos e];refine⟨_,dT _ _ _,?_⟩;simp[e]
   ·rw[if_neg e,if_neg e];cases tt<;>cases own<;>simp at e ⊢
  rw[if_neg k6] at hX ⊢;by_cases k9:a.kind=9
  ·rw[if_pos k9] at hX ⊢;rw[←hX];cases own<;>by_cases e:a.to=-1<;>simp[e]
  rw[if_neg k9] at hX ⊢;rw[←hX];cases at_<;>by_cases e:a.to=-1<;>simp[e]
 cases h1:aG a.at_ f.signs.length
 ·have hf:=fin false false (by simpa [h1] using hX);simp at hf ⊢;refine⟨_,uM,_,BS,?_⟩;simpa using hf
 have cq:0≤a.at_∧a.at_<f.signs.length:=by simpa [aG] using h1
 have h2:a.at_.toNat<f.signs.length:=by omega
 have hs:cW f a.at_=f.signs[a.at_.toNat]:=by simp[cW,h2]
 simp[cq];refine⟨_,adk f _ _ (.inr cq),_,uM,_,BS,?_⟩;rw[h1,hs] at hX;have hf:=fin _ _ hX;cases h3:yK f a.at_ a.part
 ·rw[h3] at hf;simpa using hf
 ·rw[h3] at hf;simpa [h2] using hf
theorem B9 (a b:Int):(if a<b then b else a)=max a b:=by split<;>omega
theorem Hl (a b:Int):(if a<b then D.int b else D.int a)=D.int (max a b):=by
 rw[←B9];split<;>rfl
def Pj (f:File)(i:Nat)(a:Act):Int:=
 let x:=if a.at_=-1 then f.bill.day else max f.bill.day (cW f a.at_).day
 if i=0 then x else max x (f.acts.getD (i-1) default).day
def pX (r:Realm)(f:File)(i:Nat):Int:=
 let a:=f.acts.getD i default
 if wi a.part 0 (f.bill.parts-1)=false then 15
 else if aG a.city r.cities.length=false∨wi a.kind 0 9=false then 1
 else if oA r f a=false then 14
 else if wi a.day (Pj f i a) 100000=false then 13 else 0
theorem Vc {r:Realm}{f:File}{a:Act}(h:oA r f a=true)(hn:¬a.at_=-1):0≤a.at_∧a.at_<f.signs.length:=by
 unfold oA at h;split at h
 ·cases h
 have key:zd f a=true→0≤a.at_∧a.at_<f.signs.length:=fun e=>by
  unfold zd at e;simp only[Bool.and_eq_true] at e;simpa [aG] using e.1
 unfold y7 QA at h
 repeat' split at h
 all_goals simp only[Bool.and_eq_true,decide_eq_true_eq] at h
 ·exact absurd h.1.2 hn
 ·exact absurd h.1.1.2 hn
 ·exact key h.1.2.1
 ·exact key h.1.2.1
 ·exact key h.1.2
theorem avP (r:Realm)(hr:Small r)(f:File)(hp:1≤f.bill.parts∧f.bill.parts≤4)(hl:f.signs.length≤100000)(ux:f.acts.length≤100000):ak T aai [aX r,bU f] (.int (eL f.acts.length (pX r f))):=by
 refine .of_tree rfl ahe ayx ?_;have NR:=hr.cities;have dY:IntKind.i64.wrap ((r.cities.length:Int)-1)=(r.cities.length:Int)-1:=aU (by omega);have O0:IntKind.i64.wrap (f.bill.parts-1)=f.bill.parts-1:=aU (by omega);simp[Tq];refine vG f.acts.length (pX r f) (fun k=>[.int 0,.int k]) (fun _=>[]) ?_ (fun k hk ho=>?_) (fun k hk ho hb=>?_) (fun hj=>?_)
 ·simp
 case' refine_2=>have hb:pX r f k=pX r f k:=rfl
 case' refine_3=>rw[hb]
 case refine_4=>simp[aei,KL,hj]
 all_goals
  have hw:=bF hk (by omega);have hs:f.acts.getD k default=f.acts[k]:=by simp[hk]
  clear hb;generalize hX:pX r f k=X at*;unfold pX at hX;simp only[hs] at hX;simp[aei,KL,hk,dY,O0,hw];refine⟨_,dT _ _ _,?_⟩;cases a1:wi f.acts[k].part 0 (f.bill.parts-1)
  ·simp[a1] at hX ⊢
   first|exact hX|(exfalso;omega)
  simp[a1] at hX ⊢;refine⟨_,dT _ _ _,?_⟩;rw[xp] at hX;cases a2:wi f.acts[k].city 0 ((r.cities.length:Int)-1)
  ·simp[a2] at hX ⊢
   first|exact hX|(exfalso;omega)
  simp[a2] at hX ⊢;refine⟨_,dT _ _ _,?_⟩;cases a3:wi f.acts[k].kind 0 9
  ·simp[a3] at hX ⊢
   first|exact hX|(exfalso;omega)
  simp[a3] at hX ⊢;refine⟨_,avO r hr f f.acts[k] hl,?_⟩;cases a4:oA r f f.acts[k]
  ·simp[a4] at hX ⊢
   first|exact hX|(exfalso;omega)
  simp[a4] at hX ⊢;unfold Pj at hX;by_cases k0:k=0
  ·subst k0;by_cases e1:f.acts[0].at_=-1
   ·simp[e1] at hX;simp[e1];refine⟨_,dT _ _ _,?_⟩;split at hX
    ·rename_i e;simp[e]
     first|exact hX|(exfalso;omega)
    ·rename_i e
     first|(exfalso;omega)|simp[e]
   ·obtain⟨h5,h6⟩:=Vc a4 e1;have h7:f.acts[0].at_.toNat<f.signs.length:=by omega
    have h8:cW f f.acts[0].at_=f.signs[f.acts[0].at_.toNat]:=by simp[cW,h7]
    simp[e1,h8] at hX;simp[e1,h5,h6,h7,Hl,B9];refine⟨_,dT _ _ _,?_⟩;split at hX
    ·rename_i e;simp[e]
     first|exact hX|(exfalso;omega)
    ·rename_i e
     first|(exfalso;omega)|simp[e]
  ·have cr:IntKind.i64.wrap ((k:Int)-1)=(k:Int)-1:=aU (by omega);have cl:((k:Int)-1).toNat=k-1:=by omega
   have ki:k-1<f.acts.length:=by omega
   have wY:0<k:=by omega
   by_cases e1:f.acts[k].at_=-1
   ·simp[k0,e1,ki] at hX;simp[e1,wY,cr,cl,ki,Hl,B9];refine⟨by omega,_,dT _ _ _,?_⟩;split at hX
    ·rename_i e;simp[e]
     first|exact hX|(exfalso;omega)
    ·rename_i e
     first|(exfalso;omega)|simp[e]
   ·obtain⟨h5,h6⟩:=Vc a4 e1;have h7:f.acts[k].at_.toNat<f.signs.length:=by omega
    have h8:cW f f.acts[k].at_=f.signs[f.acts[k].at_.toNat]:=by simp[cW,h7]
    simp[k0,e1,ki,h8] at hX;simp[e1,wY,cr,cl,ki,h5,h6,h7,Hl,B9];refine⟨by omega,_,dT _ _ _,?_⟩;split at hX
    ·rename_i e;simp[e]
     first|exact hX|(exfalso;omega)
    ·rename_i e
     first|(exfalso;omega)|simp[e]
end Rm
namespace Rm
open Go Go.Proofs Cx
def nk (a b:Int):Int:=if a<b then-1 else if b<a then 1 else 0
theorem Ys (a:Int):ak T Z0 [.int a] (.bool false):=by
 refine .of_tree rfl agU ayd ?_;simp[S6]
theorem U0 (a b:Int):ak T ZY [.int a,.int b] (.int (nk a b)):=by
 refine .of_tree rfl agS ayb ?_;simp[S4];refine⟨_,Ys a,_,Ys b,?_⟩;unfold nk;by_cases h1:a<b
 ·simp[h1]
 by_cases h2:b<a<;>simp[h1,h2]
theorem afU (l:List Int)(hl:l.length≤100000):ak T ZZ [ints l] (.int (eL l.length fun k=>l.getD k 0)):=by
 refine .of_tree rfl agT ayc ?_;simp[S5];refine vG l.length (fun k=>l.getD k 0) (fun k=>[.int 0,.int k]) (fun _=>[]) ?_ (fun k hk ho=>?_) (fun k hk ho hb=>?_) (fun hj=>?_)
 ·simp
 ·have hw:=bF hk (by omega);have hx:l[k]=0:=by simpa [hk] using ho
  simp[Rr,CI,hk,hx,hw]
 ·have hx:¬l[k]=0:=by simpa [hk] using ho
  simp only[List.getD_eq_getElem?_getD] at hb ⊢;rw[hb];simp[Rr,CI,hk,hx]
 ·simp only[List.getD_eq_getElem?_getD] at hj ⊢;rw[hj];simp[Rr,CI]
theorem or2 (a b:Int):(eL 2 fun k=>[a,b].getD k 0)=if a=0 then b else a:=by
 have e:List.range 2=[0,1]:=rfl;unfold eL;rw[e];by_cases ha:a=0<;>by_cases hb:b=0<;>simp[ha,hb]
def vW (x y:Fact):Prop:=x.at_<y.at_∨(x.at_=y.at_∧x.kind<y.kind)
instance (x y:Fact):Decidable (vW x y):=by unfold vW;infer_instance
theorem af4 (x y:Fact):0≤(if nk x.at_ y.at_=0 then nk x.kind y.kind else nk x.at_ y.at_)↔¬vW x y:=by
 unfold nk vW
 repeat' split
 all_goals omega
def tV (f:File)(i:Nat):Int:=
 let x:=f.facts.getD i default
 if wi x.kind 0 4=false then 1 else if aG x.at_ f.signs.length=false then 1 else if wi x.n 0 1=false then 1
 else if i=0 then 0 else if vW (f.facts.getD (i-1) default) x then 0 else 5
theorem avR (f:File)(hl:f.signs.length≤100000)(hlf:f.facts.length≤100000):ak T aak [bU f] (.int (eL f.facts.length (tV f))):=by
 refine .of_tree rfl ahg ayz ?_;have dY:IntKind.i64.wrap ((f.signs.length:Int)-1)=(f.signs.length:Int)-1:=aU (by omega);simp[Ts];refine vG f.facts.length (tV f) (fun k=>[.int 0,.int k]) (fun _=>[]) ?_ (fun k hk ho=>?_) (fun k hk ho hb=>?_) (fun hj=>?_)
 ·simp
 case' refine_2=>have hb:tV f k=tV f k:=rfl
 case' refine_3=>rw[hb]
 case refine_4=>simp[aej,KM,hj]
 all_goals
  have hw:=bF hk (by omega);have hs:f.facts.getD k default=f.facts[k]:=by simp[hk]
  clear hb;generalize hX:tV f k=X at*;unfold tV at hX;simp only[hs] at hX;simp[aej,KM,hk,dY,hw];refine⟨_,dT _ _ _,?_⟩;cases a1:wi f.facts[k].kind 0 4
  ·simp[a1] at hX ⊢
   first|exact hX|(exfalso;omega)
  simp[a1] at hX ⊢;refine⟨_,dT _ _ _,?_⟩;rw[xp] at hX;cases a2:wi f.facts[k].at_ 0 ((f.signs.length:Int)-1)
  ·simp[a2] at hX ⊢
   first|exact hX|(exfalso;omega)
  simp[a2] at hX ⊢;refine⟨_,dT _ _ _,?_⟩;cases a3:wi f.facts[k].n 0 1
  ·simp[a3] at hX ⊢
   first|exact hX|(exfalso;omega)
  simp[a3] at hX ⊢;by_cases k0:k=0
  ·subst k0;simp at hX ⊢
   first|(exfalso;omega)|done
  ·have cr:IntKind.i64.wrap ((k:Int)-1)=(k:Int)-1:=aU (by omega);have cl:((k:Int)-1).toNat=k-1:=by omega
   have ki:k-1<f.facts.length:=by omega
   simp[k0,ki] at hX;simp[k0,cr,cl,ki];refine⟨by omega,_,U0 _ _,_,U0 _ _,?_⟩;have ho:=afU [nk f.facts[k-1].at_ f.facts[k].at_,nk f.facts[k-1].kind f.facts[k].kind] (by simp);simp only[List.length_cons,List.length_nil] at ho;rw[or2] at ho;refine⟨_,ho,?_⟩;have ha:=af4 f.facts[k-1] f.facts[k];generalize (if nk f.facts[k-1].at_ f.facts[k].at_=0 then nk f.facts[k-1].kind f.facts[k].kind else nk f.facts[k-1].at_ f.facts[k].at_)=n at*;clear ho;by_cases e:vW f.facts[k-1] f.facts[k]
   ·have hn:¬0≤n:=fun h=>ha.1 h e;simp[e] at hX;simp[hn]
    first|done|(exfalso;omega)
   ·have hn:0≤n:=ha.2 e;simp[e] at hX;simp[hn]
    first|exact hX|(exfalso;omega)
def tG (f:File)(i:Nat):Int:=
 let x:=f.alters.getD i default
 if wi x.at_ ((if i=0 then 0 else(f.alters.getD (i-1) default).at_)+1) f.signs.length=false then 1 else if wi x.sum 1 1099511627776=false then 3 else 0
structure PaperOK (r:Realm) (f:File):Prop where
 full:(f.signs.length≤40∧f.alters.length≤4)∧f.acts.length≤100∧f.facts.length≤200
 bill:BillOK r f.bill
 ne:f.signs≠[]
 signs:eL f.signs.length (yJ r f)=0
 alters:eL f.alters.length (tG f)=0
 acts:eL f.acts.length (pX r f)=0
 facts:eL f.facts.length (tV f)=0
theorem avM (r:Realm)(hs:Small r)(f:File)(AZ:f.OK):∃d,ak T aaf [aX r,bU f] d∧m6 (PaperOK r f) d:=by
 refine ak.ex_of_tree rfl ahb ayu ?_;simp[Tn];by_cases hf:(f.signs.length≤40∧f.alters.length≤4)∧f.acts.length≤100∧f.facts.length≤200
 case neg=>
  rw[if_pos (by omega)];exact .no (fun h=>hf h.full) (by decide)
 rw[if_neg (by omega)];obtain⟨d,hb,e,rfl,he⟩:=az6 r hs f.bill;refine⟨_,hb,?_⟩;by_cases e0:e=0
 case neg=>
  simp[e0];exact .no (fun h=>e0 (he.2 h.bill)) e0
 have Gg:=he.1 e0;simp[e0];by_cases aC:f.signs=[]
 ·simp[aC];exact .no (fun h=>h.ne aC) (by decide)
 simp[aC];refine vG f.signs.length (yJ r f) (fun k=>[.int 0,.int k]) (fun _=>[]) ?_ (fun k hk ho=>?_) (fun k hk ho hb=>?_) (fun hj=>?_)
 ·simp
 ·have hw:=bF hk (by omega);simp[Ru,CK,hk,hw];refine⟨_,adj r hs f Gg.parts k hk (by omega),?_⟩;simp[ho]
 ·simp[Ru,CK,hk];refine⟨_,adj r hs f Gg.parts k hk (by omega),?_⟩;simp[ho];exact .no (fun h=>ho (by rw[←hb];exact h.signs)) ho
 simp[Ru,CK];have ju:∀k,k<f.alters.length→(∀j,j<k→tG f j=0)→IntKind.i64.wrap ((if k=0 then 0 else(f.alters.getD (k-1) default).at_)+1)=(if k=0 then 0 else(f.alters.getD (k-1) default).at_)+1:=by
  intro k hk hj;refine aU ?_;by_cases k0:k=0
  ·rw[if_pos k0];omega
  ·rw[if_neg k0];have h1:=hj (k-1) (by omega);have cr:k-1<f.alters.length:=by omega
   have h2:=(AZ.2.2.1.2 _ (List.getElem_mem cr)).1;have h3:f.alters.getD (k-1) default=f.alters[k-1]:=by simp[cr]
   unfold tG at h1;rw[h3] at h1 ⊢;simp only at h1;generalize (if k-1=0 then(0:Int) else(f.alters.getD (k-1-1) default).at_)=L0 at h1;split at h1
   ·cases h1
   ·rename_i hh;simp[wi] at hh;unfold aS at h2;omega
 refine aL.scan f.alters.length (fun k=>tG f k=0) (fun k=>[.int 0,.int (if k=0 then 0 else(f.alters.getD (k-1) default).at_),.int k]) (fun _=>[]) ?_ (fun k hk uw ho=>?_) (fun k hk uw ho=>?_) (fun Bk=>?_)
 ·simp
 ·have hw:=bF hk (by omega);have hl:=ju k hk uw;generalize hL:(if k=0 then 0 else(f.alters.getD (k-1) default).at_)=L at*;have hs:f.alters.getD k default=f.alters[k]:=by simp[hk]
  unfold tG at ho;simp only[hs,hL] at ho;simp[Rv,CL,hk,hl];refine⟨_,dT _ _ _,?_⟩;cases a1:wi f.alters[k].at_ (L+1) f.signs.length
  ·simp[a1] at ho
  simp[a1] at ho ⊢;refine⟨_,dT _ _ _,?_⟩;simp[ho,hw]
 ·have hl:=ju k hk uw;have Bf:=No hk uw ho;generalize hL:(if k=0 then 0 else(f.alters.getD (k-1) default).at_)=L at*;have hs:f.alters.getD k default=f.alters[k]:=by simp[hk]
  have bad:∀e:Int,e≠0→m6 (PaperOK r f) (.int e):=fun e h=>.no (fun h=>ho (by rw[←Bf];exact h.alters)) h;unfold tG at ho;simp only[hs,hL] at ho;simp[Rv,CL,hk,hl];refine⟨_,dT _ _ _,?_⟩;cases a1:wi f.alters[k].at_ (L+1) f.signs.length
  ·simp;exact bad 1 (by decide)
  simp[a1] at ho ⊢;refine⟨_,dT _ _ _,?_⟩;simp[ho];exact bad 3 (by decide)
 have Bk:=Nq Bk;simp[Rv,CL];refine⟨_,avP r hs f Gg.parts (by omega) (by omega),?_⟩;by_cases e3:eL f.acts.length (pX r f)=0
 case neg=>
  simp[e3];exact .no (fun h=>e3 h.acts) e3
 simp[e3];refine⟨_,avR f (by omega) (by omega),?_⟩;exact⟨_,rfl,fun h=>⟨hf,Gg,aC,hj,Bk,e3,h⟩,fun h=>h.facts⟩
end Rm
namespace Rm
open Go Go.Proofs Cx
structure SignOK (r:Realm) (f:File) (i:Nat) (s:Sign):Prop where
 part:0≤s.part∧s.part≤f.bill.parts-1
 who:0≤s.who∧s.who<r.firms.length
 city:0≤s.city∧s.city<r.cities.length
 day:qf f i≤s.day∧s.day≤100000
 fits:tX r f i=true
 once:DE f i s=false
theorem PaperOK.sign {r:Realm}{f:File}(h:PaperOK r f)(i:Nat)(hi:i<f.signs.length):SignOK r f i f.signs[i]:=by
 have h1:=FU h.signs i hi;have hs:f.signs.getD i default=f.signs[i]:=by simp[hi]
 unfold yJ at h1;simp only[hs] at h1;split at h1
 ·cases h1
 rename_i a1;split at h1
 ·cases h1
 rename_i a2;split at h1
 ·cases h1
 rename_i a3;split at h1
 ·cases h1
 rename_i a4;split at h1
 ·cases h1
 rename_i a5;simp[wi,aG] at a1 a2 a3;exact⟨⟨by omega,by omega⟩,⟨by omega,by omega⟩,⟨by omega,by omega⟩,⟨by omega,by omega⟩,by simpa using a4,by simpa using a5⟩
structure yV (r:Realm) (f:File) (i:Nat) (a:Act):Prop where
 part:0≤a.part∧a.part≤f.bill.parts-1
 city:0≤a.city∧a.city<r.cities.length
 kind:0≤a.kind∧a.kind≤9
 fits:oA r f a=true
 day:Pj f i a≤a.day∧a.day≤100000
theorem PaperOK.act {r:Realm}{f:File}(h:PaperOK r f)(i:Nat)(hi:i<f.acts.length):yV r f i f.acts[i]:=by
 have h1:=FU h.acts i hi;have hs:f.acts.getD i default=f.acts[i]:=by simp[hi]
 unfold pX at h1;simp only[hs] at h1;split at h1
 ·cases h1
 rename_i a1;split at h1
 ·cases h1
 rename_i a2;split at h1
 ·cases h1
 rename_i a3;split at h1
 ·cases h1
 rename_i a4;simp[wi,aG] at a1 a2 a4;exact⟨⟨by omega,by omega⟩,⟨by omega,by omega⟩,⟨by omega,by omega⟩,by simpa using a3,by omega⟩
theorem axb {r:Realm}{f:File}{i:Nat}(hi:i<f.signs.length)(h:tX r f i=true)(hk:f.signs[i].kind=1∨f.signs[i].kind=4):1≤f.signs[i].sum∧f.signs[i].sum≤1099511627776:=by
 have hs:f.signs.getD i default=f.signs[i]:=by simp[hi]
 unfold tX at h;rw[hs] at h;unfold FV at h;split at h
 ·cases h
 split at h
 ·cases h
 unfold Nr at h;rcases hk with hk|hk
 ·simp[hk,wi] at h;omega
 ·simp[hk,wi] at h;omega
theorem PaperOK.sums {r:Realm}{f:File}(h:PaperOK r f):SumsOK f:=by
 have hr:=h.bill.range;unfold yu at hr;refine⟨by omega,by omega,fun a ha=>?_,fun s hs hk=>?_⟩
 ·obtain⟨i,hi,rfl⟩:=List.getElem_of_mem ha;have h1:=FU h.alters i hi;have hs:f.alters.getD i default=f.alters[i]:=by simp[hi]
  unfold tG at h1;simp only[hs] at h1;generalize (if i=0 then(0:Int) else(f.alters.getD (i-1) default).at_)=L at h1;split at h1
  ·cases h1
  split at h1
  ·cases h1
  rename_i a1;simp[wi] at a1;omega
 ·obtain⟨i,hi,rfl⟩:=List.getElem_of_mem hs;exact axb hi (h.sign i hi).fits hk
end Rm
namespace Rm
open Go Go.Proofs Cx
@[simp] theorem aHc (a0 a1 a2 a3 a4 a5 a6 x:D):cK [a0,a1,a2,a3,a4,a5,a6] 1 [x]=[a0,x,a2,a3,a4,a5,a6]:=_root_.id rfl
@[simp] theorem aHd (a0 a1 a2 a3 a4 a5 a6 x:D):cK [a0,a1,a2,a3,a4,a5,a6] 2 [x]=[a0,a1,x,a3,a4,a5,a6]:=_root_.id rfl
theorem Hj (a b:Int):(if b<a then b else a)=min a b:=by split<;>omega
theorem PA (a b:Int):(if b<a then D.int b else D.int a)=D.int (min a b):=by
 rw[←Hj];split<;>rfl
theorem xF (a b:Int):(if a<b then a else b)=min b a:=by split<;>omega
theorem B7 (a b:Int):(if a<b then D.int a else D.int b)=D.int (min b a):=by
 rw[←xF];split<;>rfl
noncomputable def da (r:Realm)(forum:Int)(f:File)(sign day:Int):Owed:=(cH r forum f sign day).owed (rateF r)
structure ORun (r:Realm) (f:File):Prop where
 right:Right r
 rightD:RightD r
 few:FewS f
 realm:RealmOK r
 sums:SumsOK f
 who:∀s,s∈f.signs→0≤s.who∧s.who<r.firms.length
 acts:∀a,a∈f.acts→nm a=true→0≤a.sum∧a.sum≤1099511627776
theorem VW {l:List Act}(h:∀a,a∈l→nm a=true→0≤a.sum∧a.sum≤1099511627776):0≤jL l∧jL l≤1099511627776:=by
 have key:∀(l:List Act) (c:Int),0≤c∧c≤1099511627776→(∀a,a∈l→nm a=true→0≤a.sum∧a.sum≤1099511627776)→0≤l.foldl tQ c∧l.foldl tQ c≤1099511627776:=by
  intro l
  induction l with
  |nil=>exact fun c h _=>h
  |cons a l ih=>
   intro c hc hl;rw[List.foldl_cons];refine ih _ ?_ fun b hb=>hl b (by simp[hb]);unfold tQ;split
   ·rename_i h;have:=hl a (by simp) h;omega
   ·exact hc
 exact key l 0 (by omega) h
theorem DP (r:Realm)(forum:Int)(f:File)(sign day:Int)(h:ORun r f):ak T PD [aX r,.int forum,bU f,.int sign,.int day] (ke (da r forum f sign day)):=by
 refine .of_tree rfl agp axF ?_;have hf:=h.few;have hg:=hf.at_ day;have hl:r.rates.length≤100000:=by have:=h.rightD.small.rates;omega
 have asl:=Nd r forum h.sums sign day;simp[Su];refine⟨_,K4 f day (by have:=hf.signs;omega) (by have:=hf.acts;omega) (by have:=hf.alters;omega) (by have:=hf.facts;omega),_,afH r h.right h.rightD forum f sign day hf,?_⟩;simp;have BO:(cL r forum f sign day).2=true→0≤sign∧sign<(bn f day).signs.length:=by
  intro e;unfold cL at e;split at e
  ·cases e
  ·rename_i hs;have e2:(gp r forum f day).file.signs.length=(bn f day).signs.length:=rfl;omega
 unfold da Due.owed;cases e1:(cL r forum f sign day).2
 ·have e2:(cH r forum f sign day).there=false:=e1;simp[e2];rfl
 have e2:¬(cH r forum f sign day).there=false:=by
  have:(cH r forum f sign day).there=true:=e1;simp[this]
 obtain⟨GS,BL⟩:=BO e1;have dw:¬sign<0:=by omega
 have GU:¬((bn f day).signs.length:Int)≤sign:=by omega
 rw[if_neg e2];simp[dw,GU];refine⟨_,U3 r h.right h.rightD forum f day hf,?_⟩;have aFi:∀(b:Bool),(cH r forum f sign day).now=b↔(decide (eT r forum f day≠-1)&&decide (eT r forum f day≤min day 100000))=b:=fun b=>Iff.rfl;have oP:∀q,ak T PF [aX r,.int forum,.int q,ew (gd r forum f sign day)] (mi (gu r forum q (gd r forum f sign day))):=fun q=>Mb r h.right forum q _ hf;have NH:∀a,a∈(bn f day).acts→nm a=true→0≤a.sum∧a.sum≤1099511627776:=fun a ha=>h.acts a ((List.takeWhile_sublist _).subset ha);have loop:∀(i x:Int) (ρ:Env),ρ.r 116=.int 0→ρ.r 115=.int (bn f day).acts.length→ρ.r 114=acts (bn f day).acts→ρ.o 14=.agg [.int (cL r forum f sign day).1.sum,.int i,.int 0,.int x,.int 0,.int 0,.int f.bill.currency]→
  ∀(K:Env→Prop) (Q:Out→Prop),(∀ρ':Env,ρ'.o 14=.agg [.int (cL r forum f sign day).1.sum,.int i,.int (jL (bn f day).acts),.int x,.int 0,.int 0,.int f.bill.currency]→(∀j,j≠14→ρ'.o j=ρ.o j)→K ρ')→aL (dA tab ext) (YW D3) ρ (eY K Q):=by
  intro i x ρ r1 r2 r3 r4 K Q hK;refine aL.forRounds (bn f day).acts.length (fun k=>[.int k]) (fun k=>[.agg [.int (cL r forum f sign day).1.sum,.int i,.int (jL ((bn f day).acts.take k)),.int x,.int 0,.int 0,.int f.bill.currency]]) ?_ (fun k hk=>?_) ?_
  ·simp[r1,r4,jL]
  ·have hw:=bF hk (by have:=hg.acts;omega);have hc:jL ((bn f day).acts.take (k+1))=tQ (jL ((bn f day).acts.take k)) (bn f day).acts[k]:=by
        rw[List.take_succ_eq_append_getElem hk,alz]
   have hcr:=VW (l:=(bn f day).acts.take k) fun a ha=>NH a (List.mem_of_mem_take ha);have NI:=NH (bn f day).acts[k] (List.getElem_mem hk);rw[hc];generalize jL ((bn f day).acts.take k)=c at*;simp[aee,KH,r2,r3,hk,hw];generalize (bn f day).acts[k]=a at*;unfold tQ;by_cases e:a.kind=4∨a.kind=5
   ·have e':nm a=true:=by simpa [nm] using e
    have dY:IntKind.i64.wrap (c+a.sum)=c+a.sum:=aU (by have:=NI e';omega);simp[e,e',dY,Hj,PA]
   ·have e':¬nm a=true:=by simpa [nm] using e
    simp[e,e']
  ·simp[aee,KH,r2];exact hK _ (by simp) (fun j hj=>by simp[hj])
 have apQ:(if(100000:Int)<day then(100000:Int) else day)=min day 100000:=Hj day 100000;have apR:(if(100000:Int)<day then D.int 100000 else D.int day)=D.int (min day 100000):=PA day 100000;simp only[Ar,apQ,apR];have be:(cH r forum f sign day).sum=(cL r forum f sign day).1.sum:=rfl;have df:(cH r forum f sign day).cur=f.bill.currency:=rfl;have hd3:(cH r forum f sign day).costs=jL (bn f day).acts:=rfl;rw[be,df,hd3];have Xb:=VW NH;have fin:∀i x:Int,(0≤i∧i≤1099511627776)→(0≤x∧x≤1099511627776)→IntKind.i64.wrap (IntKind.i64.wrap (IntKind.i64.wrap ((cL r forum f sign day).1.sum+i)+jL (bn f day).acts)+x)=(cL r forum f sign day).1.sum+i+jL (bn f day).acts+x:=by
  intro i x hi hx;rw[aU (n:=(cL r forum f sign day).1.sum+i) (by omega),aU (n:=(cL r forum f sign day).1.sum+i+_) (by omega),aU (by omega)]
 by_cases GI:¬eT r forum f day=-1∧eT r forum f day≤min day 100000
 case neg=>
  have hn:(cH r forum f sign day).now=false:=by
   show(decide (eT r forum f day≠-1)&&decide (eT r forum f day≤min day 100000))=false;rw[Bool.eq_false_iff];intro e;simp only[Bool.and_eq_true,decide_eq_true_eq] at e;exact GI e
  have hi:(cH r forum f sign day).interest=0:=by unfold Due.interest;rw[hn];rfl
  have hx:(cH r forum f sign day).exch (rateF r)=0:=by unfold Due.exch;rw[if_neg (by simp[hn])]
  obtain⟨i,Xt⟩:∃i:Int,i=0:=⟨0,rfl⟩
  obtain⟨x,G3⟩:∃x:Int,x=0:=⟨0,rfl⟩
  rw[←Xt] at hi;rw[←G3] at hx;rw[if_neg GI,hi,hx];have mu:=fin i x (by omega) (by omega);refine loop i x _ (by simp) (by simp) (by simp) (by simp[Xt,G3]) _ _ fun ρ' h1 h2=>?_;simp[h1,h2,mu,xF,B7];rfl
 rw[if_pos GI];have hn:(cH r forum f sign day).now=true:=by
  show(decide (eT r forum f day≠-1)&&decide (eT r forum f day≤min day 100000))=true;simp only[Bool.and_eq_true,decide_eq_true_eq];exact GI
 have hi:(cH r forum f sign day).interest=uS (cL r forum f sign day).1.sum (cH r forum f sign day).rateF (eT r forum f day) (min day 100000):=by unfold Due.interest;rw[if_pos hn];rfl
 have aq9:0≤(cH r forum f sign day).interest∧(cH r forum f sign day).interest≤1099511627776:=by
  rw[hi];refine⟨asT _ _ _ _,?_⟩;unfold uS;split<;>omega
 have hint:=asU (cL r forum f sign day).1.sum (cH r forum f sign day).rateF (eT r forum f day) (min day 100000);rw[←hi] at hint;have Yf:=Wp (V7 r forum h.sums sign day) (Rl h.realm);have jS:sign.toNat<(bn f day).signs.length:=by omega
 have OH:cW (bn f day) sign=(bn f day).signs[sign.toNat]:=by simp[cW,jS]
 have xm:=h.who _ ((List.takeWhile_sublist _).subset (List.getElem_mem (show sign.toNat<(yP day f.signs).length from jS)));have hex:=amS r h.realm hl f.bill (bn f day).signs[sign.toNat].who (cL r forum f sign day).1.sum (eT r forum f day) (min day 100000) xm asl;have bE:(cH r forum f sign day).own=mf r (bn f day).signs[sign.toNat].who:=by
  show mf r (cW (bn f day) sign).who=_;rw[OH]
 have eD:(cH r forum f sign day).exch (rateF r)=if qQ (gu r forum 17 (gd r forum f sign day))=1 then nv (rateF r) (mf r (bn f day).signs[sign.toNat].who) f.bill.currency (cL r forum f sign day).1.sum (eT r forum f day) (min day 100000) else 0:=by
  unfold Due.exch;rw[bE];by_cases e:qQ (gu r forum 17 (gd r forum f sign day))=1
  ·rw[if_pos ⟨hn,e⟩,if_pos e];rfl
  ·rw[if_neg (fun q=>e q.2),if_neg e]
 have GQ:(cH r forum f sign day).rateF=if f.bill.rate=0 then min 1000 (max 0 (jT (gu r forum 16 (gd r forum f sign day)))) else f.bill.rate:=rfl;generalize (cH r forum f sign day).interest=i at*;generalize (cH r forum f sign day).exch (rateF r)=x at*;generalize (cH r forum f sign day).rateF=q at*;have mu:=fin i x aq9 (by have:=Yf.1;have:=Yf.2;have:(cH r forum f sign day).sum=(cL r forum f sign day).1.sum:=rfl;omega);by_cases h0:f.bill.rate=0
 ·rw[if_pos h0] at GQ ⊢;refine⟨_,oP 16,_,Vk _,?_⟩;have dX:(if(if 0<(D.int (jT (gu r forum 16 (gd r forum f sign day)))).i then(D.int (jT (gu r forum 16 (gd r forum f sign day)))).i else 0)<1000 then if 0<(D.int (jT (gu r forum 16 (gd r forum f sign day)))).i then D.int (jT (gu r forum 16 (gd r forum f sign day))) else D.int 0 else D.int 1000)=D.int q:=by
   rw[GQ];simp only[Ar,B9,Hl,Hj,PA]
  rw[dX];refine⟨_,hint,_,oP 17,_,DZ _,?_⟩;simp only[Ar];by_cases ht:qQ (gu r forum 17 (gd r forum f sign day))=1
  ·rw[if_pos ht] at eD;rw[←eD] at hex;rw[if_pos ht];simp[GS,BL,jS];refine⟨_,hex,?_⟩;refine loop i x _ (by simp) (by simp) (by simp) (by simp) _ _ fun ρ' h1 h2=>?_;simp[h1,h2,mu,xF,B7];rfl
  ·rw[if_neg ht] at eD;rw[if_neg ht];refine loop i x _ (by simp) (by simp) (by simp) (by simp[eD]) _ _ fun ρ' h1 h2=>?_;simp[h1,h2,mu,xF,B7];rfl
 ·rw[if_neg h0] at GQ ⊢;rw[GQ] at hint;refine⟨_,hint,_,oP 17,_,DZ _,?_⟩;simp only[Ar];by_cases ht:qQ (gu r forum 17 (gd r forum f sign day))=1
  ·rw[if_pos ht] at eD;rw[←eD] at hex;rw[if_pos ht];simp[GS,BL,jS];refine⟨_,hex,?_⟩;refine loop i x _ (by simp) (by simp) (by simp) (by simp) _ _ fun ρ' h1 h2=>?_;simp[h1,h2,mu,xF,B7];rfl
  ·rw[if_neg ht] at eD;rw[if_neg ht];refine loop i x _ (by simp) (by simp) (by simp) (by simp[eD]) _ _ fun ρ' h1 h2=>?_;simp[h1,h2,mu,xF,B7];rfl
end Rm
namespace Rm
open Go Go.Proofs Cx
theorem alM {r:Realm}{b:Bill}(hr:RightD r)(hc:cG r=0)(NR:aG b.city r.cities.length=true)(dC:aG b.pay r.cities.length=true)(hd:dO b.day=true)(hk:b.tenor.kind=3)(hu:b.tenor.unit=0)
 (hn:dO b.tenor.n=true) {g:Int} (hg:0≤g∧g≤20000) (hs:b.tenor.n+g≤100000):mg r b (-1) g=pM r b.pay (b.tenor.n+g):=by
 have gA:=Dg r hr.small;rw[hc] at gA;have gD:0≤b.tenor.n∧b.tenor.n≤100000:=by simpa [dO] using hn
 have nI:=Sg r hr.halts b.pay (b.tenor.n+g) (by simpa [aG] using dC) hr.cities (by omega) (by omega);have hb:ak T xG [aX r,cX b,.int (-1)] (.tup [.int b.tenor.n,.int 0]):=by
  refine .of_tree rfl tI vO ?_;simp[l6,hk]
 have h:ak T Cb [aX r,cX b,.int (-1),.int g] (.tup [.int (pM r b.pay (b.tenor.n+g)).1,.int (pM r b.pay (b.tenor.n+g)).2]):=by
  have mw:=xr r b.city;have Xu:=xr r b.pay;have uv:=rU b.day;have Xv:=rU b.tenor.n;have Xw:=yY b.tenor;rw[NR] at mw;rw[dC] at Xu;rw[hd] at uv;rw[hn] at Xv;rw[show yI b.tenor=false from by simp[yI,hk]] at Xw;have hw:IntKind.i64.wrap (b.tenor.n+g)=b.tenor.n+g:=aU (by omega);have jr:¬g<0:=by omega
  have fD:¬20000<g:=by omega
  have dw:¬100000<b.tenor.n+g:=by omega
  refine .of_tree rfl Mc Ug ?_;simp[DC];refine⟨_,gA,?_⟩;simp;refine⟨_,mw,?_⟩;simp;refine⟨_,Xu,?_⟩;simp;refine⟨_,uv,?_⟩;simp[hk,hu,jr,fD];refine⟨_,Xw,?_⟩;simp;refine⟨_,hb,?_⟩;simp;refine⟨_,Xv,?_⟩;simp[hw,dw];refine⟨_,nI,?_⟩;simp
 have h2:=h.det (LR r hr b (-1) g);simp at h2;exact Prod.ext h2.1.symm h2.2.symm
end Rm
namespace Rm
open Go Go.Proofs Cx
def tB:Order:=⟨⟨#[103,101,110,101,118,97]⟩,false,[],[⟨17,⟨1,1,[]⟩⟩]⟩
def bQ (a b:Int):Realm:=⟨[⟨#[102,114,97,110,99]⟩,⟨#[112,111,117,110,100]⟩],[⟨⟨#[76,121,111,110]⟩,0,0,[],[],[]⟩,⟨⟨#[76,111,110,100,111,110]⟩,0,1,[],[],[]⟩],[⟨0⟩],[⟨⟨#[65]⟩,1,0⟩,⟨⟨#[66]⟩,0,0⟩],[tB],[],[⟨0,1,1,a,0⟩,⟨0,1,1,b,120⟩],[]⟩
def qU:Bill:=⟨0,1,1,1000,0,⟨3,100,0⟩,10,0,0,-1,60,0,1⟩
def eJ:File:=⟨qU,[⟨0,0,0,-1,-1,0,10,0,0⟩],[],[⟨4,1,1,0,-1,5,101,0,0⟩],[]⟩
set_option maxRecDepth 10000 in
theorem afx (a b:Int):ak T Z5 [.int a,.int b] (.tup [aX (bQ a b),bU eJ]):=by
 refine .of_tree rfl ag0 ayj ?_;simp[Tb];exact⟨rfl,rfl⟩
theorem aAg {a b:Int}(ha:aS a)(hb:aS b):Small (bQ a b):=by
 refine⟨by simp[bQ],by simp[bQ],by simp[bQ],by simp[bQ],by simp[bQ],by simp[bQ],by simp[bQ],by simp[bQ],?_,?_,?_⟩
 ·intro c hc;simp[bQ] at hc;rcases hc with rfl|rfl<;>simp
 ·intro o ho;obtain rfl:o=tB:=by simpa [bQ] using ho
  simp[tB]
 ·intro x hx;have h1:aS 1:=by unfold aS;omega
  simp[bQ] at hx;rcases hx with rfl|rfl
  ·exact⟨h1,ha⟩
  ·exact⟨h1,hb⟩
theorem afw {a b:Int}(ha:aS a)(hb:aS b):RightD (bQ a b):=⟨aAg ha hb,by simp[tD,bQ]⟩
theorem aAf (a b:Int):Right (bQ a b):=by
 refine⟨?_,by simp[bQ],?_⟩
 ·intro o ho;obtain rfl:o=tB:=by simpa [bQ] using ho
  exact⟨by decide,fun ch h=>by simp[tB] at h⟩
 ·intro o ho;obtain rfl:o=tB:=by simpa [bQ] using ho
  refine⟨⟨⟨by decide,fun ch h=>by simp[tB] at h⟩,by decide,?_⟩,by decide⟩;intro x hx;simp[tB] at hx;subst hx;exact⟨by unfold aS;decide,.mk _ _ [] (by unfold aS;omega) (by unfold aS;omega) (by decide) (fun _ h=>by cases h)⟩
theorem aAe:FewS eJ:=⟨by decide,by decide,by decide,by decide⟩
theorem afv {a b:Int}(ha:aS a)(hb:aS b)(h:cG (bQ a b)=0):ORun (bQ a b) eJ:=by
 refine⟨aAf a b,afw ha hb,aAe,K1 h,?_,fun s hs=>?_,fun c hc _=>?_⟩
 ·refine⟨by simp[eJ,qU],by simp[eJ,qU],fun c hc=>by simp[eJ] at hc,fun s hs hk=>?_⟩;simp[eJ] at hs;subst hs;simp at hk
 ·simp[eJ] at hs;subst hs;simp[bQ]
 ·simp[eJ] at hc;subst hc;simp
theorem yT {a b:Int}(ha:aS a)(hb:aS b)(hc:cG (bQ a b)=0)(day:Int)(h1:(bn eJ day).signs≠[])(h3:max (jT (ma (bQ a b) 0 6 (bn eJ day) day)) 0=0)(h5:pM (bQ a b) 0 100=(100,0)):eT (bQ a b) 0 eJ day=100:=by
 have h2:qP (bn eJ day)=-1:=by
  unfold qP;have:(bn eJ day).acts.find? (vL (bn eJ day))=none:=by
   refine List.find?_eq_none.2 fun a _=>?_;simp[vL,bn,eJ,qU]
  rw[this];rfl
 have h4:mg (bQ a b) qU (-1) 0=pM (bQ a b) 0 100:=alM (b:=qU) (afw ha hb) hc (by simp[aG,qU,bQ]) (by simp[aG,qU,bQ]) (by decide) rfl rfl (by decide) (by decide) (by decide);unfold eT;rw[if_neg h1,h2,h3,show eJ.bill=qU from rfl,h4,h5];simp
theorem i20:aS 20:=by unfold aS;omega
theorem i25:aS 25:=by unfold aS;omega
theorem az8:da (bQ 20 25) 0 eJ 0 100=⟨1000,0,0,0,0,1000,0⟩:=by
 have hm:=yT i20 i25 (by kernel_rfl) 100 (by decide) (by kernel_rfl) (by kernel_rfl);unfold da cH cL gp gd;rw[xB,hm];show Due.owed _ _=_;kernel_rfl
theorem az9:da (bQ 20 25) 0 eJ 0 101=⟨1000,0,5,0,0,1005,0⟩:=by
 have hm:=yT i20 i25 (by kernel_rfl) 101 (by decide) (by kernel_rfl) (by kernel_rfl);unfold da cH cL gp gd;rw[xB,hm];show Due.owed _ _=_;kernel_rfl
theorem aAa:da (bQ 20 25) 0 eJ 0 106=⟨1000,1,5,0,0,1006,0⟩:=by
 have hm:=yT i20 i25 (by kernel_rfl) 106 (by decide) (by kernel_rfl) (by kernel_rfl);unfold da cH cL gp gd;rw[xB,hm];show Due.owed _ _=_;kernel_rfl
theorem aAb:da (bQ 20 25) 0 eJ 0 130=⟨1000,5,5,0,0,1010,0⟩:=by
 have hm:=yT i20 i25 (by kernel_rfl) 130 (by decide) (by kernel_rfl) (by kernel_rfl);unfold da cH cL gp gd;rw[xB,hm];show Due.owed _ _=_;kernel_rfl
theorem aAc:da (bQ 25 20) 0 eJ 0 130=⟨1000,5,5,200,0,1210,0⟩:=by
 have hm:=yT i25 i20 (by kernel_rfl) 130 (by decide) (by kernel_rfl) (by kernel_rfl);unfold da cH cL gp gd;rw[xB,hm];show Due.owed _ _=_;kernel_rfl
theorem aAd:da (bQ 20 25) 0 eJ 1 130=⟨0,0,0,0,0,0,0⟩:=by
 have hm:=yT i20 i25 (by kernel_rfl) 130 (by decide) (by kernel_rfl) (by kernel_rfl);unfold da cH cL gp gd;rw[xB,hm];show Due.owed _ _=_;kernel_rfl
theorem Dr {a b:Int}(ha:aS a)(hb:aS b)(hc:cG (bQ a b)=0)(day:Int)(o:Owed)(h:da (bQ a b) 0 eJ 0 day=o):ak T Z8 [.int a,.int b,.int day,ke o] (.bool true):=by
 have k:=DP (bQ a b) 0 eJ 0 day (afv ha hb hc);rw[h] at k;refine .of_tree rfl ag3 aym ?_;simp[Te];refine⟨_,afx a b,?_⟩;simp;refine⟨_,k,?_⟩;simp
theorem awZ:ak T Z7 [] (.bool true):=by
 have c1:cG (bQ 20 25)=0:=by kernel_rfl
 have c2:cG (bQ 25 20)=0:=by kernel_rfl
 have s1:=Dr i20 i25 c1 100 _ az8;have s2:=Dr i20 i25 c1 101 _ az9;have s3:=Dr i20 i25 c1 106 _ aAa;have s4:=Dr i20 i25 c1 130 _ aAb;have s5:=Dr i25 i20 c2 130 _ aAc;have k:=DP (bQ 20 25) 0 eJ 1 130 (afv i20 i25 c1);rw[aAd] at k;have r1:=DR (bQ 20 25) (K1 c1) (by simp[bQ]) 1 0 50;have r2:=DR (bQ 20 25) (K1 c1) (by simp[bQ]) 0 0 50;rw[show rateF (bQ 20 25) 1 0 50=(20,1,true) from by kernel_rfl] at r1;rw[show rateF (bQ 20 25) 0 0 50=(0,0,false) from by kernel_rfl] at r2;refine .of_tree rfl ag2 ayl ?_;simp[Td];refine⟨_,afx 20 25,?_⟩;simp;refine⟨_,r1,_,r2,_,s1,?_⟩;simp;refine⟨_,s2,?_⟩;simp;refine⟨_,s3,_,s4,?_⟩;simp;refine⟨_,s5,?_⟩;simp;refine⟨_,k,?_⟩;simp
end Rm
namespace Rm
open Go Go.Proofs Cx
end Rm
