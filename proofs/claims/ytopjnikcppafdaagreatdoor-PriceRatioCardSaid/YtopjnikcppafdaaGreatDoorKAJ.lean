/-
  Shared texts of this claim.
-/
import Derived.Test.YtopjnikcppafdaaGreatDoorKAI
import Derived.Shelf.SlSortCmp.KitK
import Derived.Lib.SlKept
import Derived.Shelf.SlicesQ.IndexFunc
import Derived.Shelf.SlicesE.DeleteFunc
import Derived.Ground.Names7Prog
import Derived.Shelf.Spec.BitsCarry
import Derived.Test.YtopjnikcppafdaaGreatDoorProg
import Derived.WalkKit
import Derived.WalkSpells
import Derived.Below
set_option linter.unusedSimpArgs false
set_option linter.unusedVariables false
namespace Rm
open Go Go.Proofs Cx Go.RowKit Go.Sort
def dQ (r d:D):Int:=(((r.c 2).l.getD d.i.toNat .none).c 0).i
def zl (r d:D):Bool:=(decide (0≤d.i)&&decide (d.i<(r.c 2).l.length))&&(decide (0≤dQ r d)&&decide (dQ r d≤9))
def ON (ds:List D):Option D:=
 match ds with
 |[_,.clo f [.ref r],.list xs]=>if f=75∧xs.length≤4294967296∧xs.all (zl r)=true then some (.tup [.tup [],.list (gE (dQ r) xs)]) else none
 |_=>none
set_option maxHeartbeats 1000000 in
theorem amw (W:World)(b o k o' n c i j:Nat)(gi gj:Int)(hi:i<n)(hj:j<n)(hn:n≤9223372036854775807)(hs:IntKind.i64.wrap (gi-gj)=gi-gj)
 (h2:W.cell? ⟨b,o+2,none⟩=some (.slice (some ⟨k,o',none⟩) n c)) (hgi:W.cell? ⟨k,o'+i,none⟩=some (.int .i64 gi)) (yB:W.cell? ⟨k,o'+j,none⟩=some (.int .i64 gj)):
 Calls Tryz.prog 75 #[.int .i64 i,.int .i64 j,.pointer (some ⟨b,o,none⟩)] W fun e w'=>e=.returned (.int .i64 (gi-gj))∧∃q mS,w'=grow (W.drewN q) mS:=by
 have db:(i:Int)<(n:Int):=by omega
 have bK:(j:Int)<(n:Int):=by omega
 have mixed:Tryz.prog.follows .mixedOrders=true:=by kernel_rfl
 go_enter Tryz.func75,Tryz.ntmps75
 go_wp2
 go_region_o
 go_wp2
 go_ret
 exact⟨rfl,1,#[],by rw[grow_empty];rfl⟩
theorem amr {α:Type}[Inhabited α]{enc:α→Value}{w:World}{g m:Nat}{dk:Array α}{os:Array Obj}{a:Addr}(h1:a.block<w.heap.size)(h2:a.block≠g):(sortWorld enc w g 0 m dk os).cell? a=w.cell? a:=
 World.cell?_of_block ((RT (enc:=enc) (w:=w) (g:=g) (n:=m) (os:=os) dk).block _ h1 (fun e=>h2 (by cases e;rfl)))
theorem axG {cap:Nat→Option CSig}{σ:Im}{u:Value}{r:D}(h:Rep cap σ (.ref Y8) u (.ref r)):∃(b o k o' n c:Nat),u=.pointer (some ⟨b,o,none⟩)∧((r.c 2).l≠[]→σ.c b (o+2)=some (.slice (some ⟨k,o',none⟩) n c)∧n=(r.c 2).l.length∧n≤9223372036854775807∧
 ∀i (hi:i<(r.c 2).l.length),σ.c k (o'+i)=some (.int .i64 (((r.c 2).l[i]).c 0).i)):=by
 cases h with
 |ref t b o v d hv hc=>
  obtain⟨vs,ds,rfl,rfl,h1,h2,h3,_⟩:=hv.agg_inv;have h8:vs.length=8:=h1;have hr:=h3 2 _ rfl;have mC:σ.c b (o+2)=some (vs.getD 2 undef):=hc 2 _ (by
   show vs.toArray[2]?=_;rw[xy,aI,aX (by omega)];rfl)
  have jG:(D.agg ds).c 2=ds.getD 2 .none:=rfl;rw[jG];generalize ds.getD 2 .none=x at*;generalize vs.getD 2 undef=y at*;obtain⟨xs,rfl,sw⟩:=hr.slice_inv;show ∃(b' o2 k o' n c:Nat),_∧(xs≠[]→_)
  rcases sw with⟨_,rfl⟩|⟨k,o',c,rfl,k1,k2,zX,k3,k4⟩
  ·exact⟨b,o,0,0,0,0,rfl,fun e=>absurd rfl e⟩
  ·refine⟨b,o,k,o',xs.length,c,rfl,fun _=>⟨mC,rfl,by unfold maxLen at k2;omega,fun i hi=>?_⟩⟩;obtain⟨ws,es,e1,e2,f1,f2,f3,_⟩:=(k3 i _ (aX hi)).agg_inv
   match ws,es,f1,f2 with
   |[w0],[e0],_,_=>
    obtain⟨m,g1,g2,_⟩:=(f3 0 _ rfl).int_inv;simp only[oI] at g1 g2;subst g1 g2;have:=k4 i 0 (.int .i64 m) hi (by rw[e1];rfl);have db:i<xs.length:=hi;have se:xs[i]'db=D.agg [D.v (Value.int IntKind.i64 m)]:=e2;show σ.c k (o'+i)=some (.int .i64 ((xs[i]'db).c 0).i);rw[se];have e3:o'+i*Y1.size+0=o'+i:=by show o'+i*1+0=_;omega
    rw[e3] at this;exact this
theorem amP {xs:List D}{n:Nat}{r:D}(aO:xs.all (zl r)=true)(hn:xs.length=n+1){σ:Im}{w:World}{g:Nat}(ax:σ.ok w)(hg:∀o,σ.c g o=none){u:Value}(hu:Rep ctx.cap σ (.ref Y8) u (.ref r))(size:Nat):
 CmpLays1 Tryz.prog 75 #[u] (fun i:Fin (n+1)=>Value.int .i64 (xs.getD i .none).i) (fun i j=>dQ r (xs.getD i .none)-dQ r (xs.getD j .none)) g 0 size w:=by
 intro m os dk hs x y
 have hr:∀i:Fin (n+1),zl r (xs.getD i .none)=true:=fun i=>by
  have hi:(i:Nat)<xs.length:=by rw[hn];exact i.2
  have:=da.1 aO _ (bW hi);rw[aI,aX hi];exact this
 have h1:=hr x;have h2:=hr y;simp only[zl,aw,decide_eq_true_eq] at h1 h2;obtain⟨b,o,k,o',nn,c,rfl,hl⟩:=axG hu;have ay:(r.c 2).l≠[]:=fun e=>by rw[e] at h1;simp at h1;omega
 obtain⟨l1,l2,l3,l4⟩:=hl ay;have hgn:∀kk oo v,σ.c kk oo=some v→kk≠g:=fun kk oo v e h=>by subst h;rw[hg oo] at e;cases e
 have look:∀kk oo v,σ.c kk oo=some v→(sortWorld (fun i:Fin (n+1)=>Value.int .i64 (xs.getD i .none).i) w g 0 m dk os).cell? ⟨kk,oo,none⟩=some v:=fun kk oo v e=>by
  have hw:=ax.c _ _ _ e;rw[amr (World.block_lt_of_cell? w (a:=⟨kk,oo,none⟩) hw) (hgn _ _ _ e)];exact hw
 have pg:∀i:Fin (n+1),0≤(xs.getD i .none).i→(xs.getD i .none).i<((r.c 2).l.length:Int)→σ.c k (o'+(xs.getD i .none).i.toNat)=some (.int .i64 (dQ r (xs.getD i .none))):=fun i a1 a2=>by
  have af:(xs.getD i .none).i.toNat<(r.c 2).l.length:=by omega
  rw[l4 _ af];unfold dQ;rw[aI (l:=(r.c 2).l),aX af];rfl
 have e1:=pg x h1.1.1 h1.1.2;have e2:=pg y h2.1.1 h2.1.2;have c:=amw (sortWorld (fun i:Fin (n+1)=>Value.int .i64 (xs.getD i .none).i) w g 0 m dk os) b o k o' nn c (xs.getD x .none).i.toNat (xs.getD y .none).i.toNat (dQ r (xs.getD x .none)) (dQ r (xs.getD y .none)) (by omega) (by omega) l3 (aN (by omega)) (look _ _ _ l1) (look _ _ _ e1) (look _ _ _ e2);rw[Py h1.1.1,Py h2.1.1] at c;exact c
theorem ayv (ds:List D)(d:D)(h:ON ds=some d):eJ ctx 74 [.obj 0 0,.dat (.fn [tI,tI] tI)] [(0,.row 3 tI)] (.tup []) ds d:=by
 refine eJ.of (by simp) ?_;unfold ON at h;split at h
 case h_2=>cases h
 rename_i d0 f r xs;split at h
 case isFalse=>cases h
 rename_i hc;obtain⟨rfl,hlen,aO⟩:=hc;cases h;intro N σ own hv w args cx FY ax hC bx hN aP bC gP h1 h2;obtain⟨v,u,rfl⟩:∃v u,args=#[v,u]:=by
  match args,aP with
  |⟨[v,u]⟩,_=>exact⟨v,u,rfl⟩
 have eT:v=hv 0:=(h1 0).2 rfl;have hu:Rep ctx.cap σ (.fn [tI,tI] tI) u (.clo 75 [.ref r]):=h1 1;obtain⟨p,rfl,hp⟩:∃p,u=.func (.func 75) #[] #[p]∧Rep ctx.cap σ (.ref Y8) p (.ref r):=by
  obtain⟨vs,cs,rfl,k0,k1,k2,k3⟩:=Re hu;have cK:cs=⟨[.ref Y8],[I,I],I⟩:=by
   have e:ctx.cap 75=some ⟨[.ref Y8],[I,I],I⟩:=rfl;rw[e] at k0;exact(tO k0).symm
  subst cK
  match vs,k1 with
  |[p],_=>exact⟨p,rfl,k3 0 _ rfl⟩
 obtain⟨cells,fw,hx,de,du,iQ⟩:=h2 0;have hx:D.list xs=D.list fw:=hx;cases hx;obtain⟨aZ,bo⟩:=TN de.1 du
 have hint:∀x,x∈xs→x=.int x.i:=fun x hx=>by
  obtain⟨i,hi,rfl⟩:=fX hx;obtain⟨vs,bO,_⟩:=du;obtain⟨n,e1,e2,_⟩:=(bO i _ (aX hi)).int_inv;rw[e2];rfl
 by_cases h0:xs=[]
 ·subst h0;obtain⟨q,cap,e1⟩:∃p cap,hv 0=.slice p 0 cap:=by
   rcases de.2 with⟨e,_⟩|⟨g,cap,cur,e,_⟩
   ·exact⟨_,_,e⟩
   ·exact⟨_,_,e⟩
  rw[eT,e1];refine(AnyF.slices_SortFunc_none {Tryz.laysSlF6_f61 with} q cap _ w).mono fun e w' hh=>?_;obtain⟨rfl,rfl⟩:=hh
  refine⟨.tuple #[],σ,own,hv,.tup [],[.list []],rfl,rfl,rfl,.refl σ,ax,.refl _ _,fun k hk _=>rfl,
   fun k o x hx=>⟨.inl hx,fun hc=>by rw[(gP k hc).2.2.1 o] at hx;cases hx⟩,fun k x hx=>⟨.inl hx,fun hc=>by rw[(gP k hc).2.2.2] at hx;cases hx⟩,fun k hx=>absurd hx (bx k),
   fun k j hk=>by obtain⟨g1,g2,g3,g4⟩:=bC k j hk;exact⟨g1,g2,g3,g4,fun _ hn=>by rw[hk] at hn;cases hn⟩,fun t sh hs hd=>?_,fun j=>?_,.tup [] [] [] rfl rfl (fun i t hi=>by simp at hi)⟩
  ·match t,hs with
   |0,hs=>simp at hs;subst hs;exact⟨bn _,fun _=>by simp[e1]⟩
   |1,hs=>simp at hs;subst hs;cases hd
   |t+2,hs=>simp at hs
  ·exact h2 j
 obtain⟨n,hn⟩:∃n,xs.length=n+1:=⟨xs.length-1,by have:=DP.2 h0;omega⟩
 rcases de.2 with⟨_,h0⟩|⟨g,cap,cur,e1,e2,e3,e4,e5,e6,e7⟩
 ·omega
 have cK:(Ty.int .i64).size=1:=rfl;rw[cK] at e6 e7;have hg:g<w.heap.size:=(ei.1 e3).1;have nW:own g=some 0:=iQ g (by rw[e1];rfl)
 have hH:Go.Sort.Holds (fun i:Fin (n+1)=>Value.int .i64 (xs.getD i .none).i) w g 0 (Array.ofFn id):=by
  have hF:Go.Sort.Holds id w g 0 (xs.map fun x=>Value.int .i64 x.i).toArray:=S6 e3 (by
   rw[DX] at e7;have:(xs.map fun x=>Value.int .i64 x.i).toArray.size=xs.length:=by simp
   rw[this,e7,aZ,nq];rfl)
  intro j hj;have bK:j<n+1:=by simpa using hj
  have Sv:j<xs.length:=by omega
  have:=hF j (by simpa using Sv);rw[getElem!_pos _ j (by simpa using Sv)] at this;rw[getElem!_pos _ j hj];simpa [Sv] using this
 have dq:=Any.slices_SortFunc_eq Tryz.laysSlF6_f61 (fun i:Fin (n+1)=>Value.int .i64 (xs.getD i .none).i) (fun _=>rfl) (fun i j=>dQ r (xs.getD i .none)-dQ r (xs.getD j .none)) (Xn (dQ r) xs (n+1)) 75 #[p] g 0 cap (Array.ofFn id) w
  (enters_of Tryz.func75 (by kernel_rfl) rfl) (amP aO hn ax (bC g 0 nW).2.2.1 hp _) hH hg (by simp;omega)
 change Calls Tryz.prog 74 _ _ _ at dq;simp only[aaG] at dq;have mz:hv 0=.slice (some ⟨g,0,none⟩) (n+1) cap:=by rw[e1,hn]
 rw[eT,mz];refine dq.mono fun e w' hh=>?_;obtain⟨rfl,m,os,rfl⟩:=hh;have vR:=OO (dQ r) xs n;have od:(gE (dQ r) xs).length=xs.length:=(rK (dQ r) xs).length_eq;refine W7 (C:=ctx) (k:=1) (rest:=[.dat (.fn [tI,tI] tI)]) (enc:=fun i:Fin (n+1)=>Value.int .i64 (xs.getD i .none).i) (F:=oC (dQ r) xs n) rfl ax bx bC gP mz e2 e3 (by rw[←hn];exact e4) e5 e6 nW (by rw[od,hn]) (by rw[vR,DX]) ?_ (by simp[mz]) rfl
 have e8:(oC (dQ r) xs n).toList.map (fun i:Fin (n+1)=>Value.int .i64 (xs.getD i .none).i)=((gE (dQ r) xs).map D.i).map (Value.int .i64):=by
  rw[ajY hn,nq,nq];rfl
 have e9:((gE (dQ r) xs).map D.i).map D.int=gE (dQ r) xs:=by
  rw[nq]
  conv=>rhs;rw[←xz (gE (dQ r) xs)]
  exact tL fun x hx=>(hint x ((rK (dQ r) xs).mem_iff.1 hx)).symm
 rw[e8]
 have:=Mk (cap:=ctx.cap) (σ:=σ) (l:=(gE (dQ r) xs).map D.i) fun x hx=>by
  obtain⟨y,hy,rfl⟩:=cu.1 hx;exact bo _ (Ar ((rK (dQ r) xs).mem_iff.1 hy))
 rw[e9] at this;exact this
end Rm
namespace Rm
open Go Go.Proofs Cx Go.RowKit Go.Sort
theorem ayj {α:Type}[Inhabited α](enc:α→List Value)(k:Nat)(hk:∀x,(enc x).length=k)(d:Array α)(i:Nat)(hi:i<d.size)(y:α):setMany (flatK enc k d) (i*k) (enc y)=flatK enc k (d.setIfInBounds i y):=by
 refine ext_get! (by simp) fun t ht=>?_;have vS:t<d.size*k:=by simpa using ht
 have k0:0<k:=by rcases DT k with h|h;·subst h;simp at vS
                 ·exact h
 rw[get_setMany _ _ _ t (by simpa using vS),get_flatK _ _ _ t vS,get_flatK _ _ _ t (by simpa using vS),hk];have m:∀q,t/k=q→t-q*k=t%k:=fun q h=>by subst h;rw[Nat.mod_eq_sub_div_mul]
 by_cases a:t/k=i
 ·rw[if_pos ((blk_iff k i t k0).2 a),m i a,a];have e:(d.setIfInBounds i y)[i]! =y:=getElem!_set_same d i y hi;rw[e]
 ·rw[if_neg (fun h=>a ((blk_iff k i t k0).1 h))];have e:(d.setIfInBounds i y)[t/k]! =d[t/k]!:=getElem!_set_other d i (t/k) y a;rw[e]
theorem alm {α:Type}[Inhabited α]{enc:α→List Value}{k:Nat}{w0 W:World}{iK off:Nat}{dk:Array α}(h:SWK enc k w0 iK off dk W)(hk:∀x,(enc x).length=k)(hblk:iK<w0.heap.size)(i:Nat)(hi:i<dk.size)(y:α):SWK enc k w0 iK off (dk.setIfInBounds i y) (W.setCells iK (off+i*k) (enc y)):=by
 obtain⟨m,os,rfl⟩:=h;refine⟨m,os,?_⟩;unfold sortWorldK;rw[setCells_grow os iK _ _ _ (by show iK<(putRowK enc k _ iK off dk).heap.size;rw[size_putRowK];exact hblk)];unfold putRowK;rw[setCells_putRow _ _ _ _ _ _ (by rw[hk,size_flatK];exact rowK_bnd dk k i hi),ayj enc k hk dk i hi y]
theorem aya {P:Program}(w:World)(t e ty:TypeId)(z:Value)(ht:P.underlying t=some (.slice e))(hv:∀w,(zeroValue e).run P w=.ok z w)(b o n c:Nat)(hn:0<n)(w':World)
 (hs:Sem.run P (storeCells ⟨b,o,none⟩ (Builtin.zeroCells z.cells n).toList 0) w=.ok () w'):
 (Builtin.clear_ #[t] ty #[.slice (some ⟨b,o,none⟩) n c]).run P w=.ok (.tuple #[]) w':=by
 obtain⟨m,rfl⟩:∃m,n=m+1:=⟨n-1,by omega⟩
 simp[Builtin.clear_,run_underlying ht,hv,hs]
end Rm
namespace Rm
open Go Go.Proofs Cx Go.RowKit Go.Sort Go.Lib
def gW (d:D):Bool:=decide ((d.c 3).i=1)&&(decide ((d.c 1).i=1)||(d.c 6).b)
set_option maxHeartbeats 1000000 in
theorem afp (a0 a1 a2 a3 a4 a5:Int)(a6:Bool)(W:World):
 Calls Tryz.prog 70 #[.agg #[.int .i64 a0,.int .i64 a1,.int .i64 a2,.int .i64 a3,.int .i64 a4,.int .i64 a5,.bool a6]] W fun e w'=>e=.returned (.bool (!(decide (a3=1)&&(decide (a1=1)||a6))))∧∃q mS,w'=grow (W.drewN q) mS:=by
 go_enter Tryz.func70,Tryz.ntmps70
 go_wp2
 all_goals
  go_ret
  refine⟨?_,0,_,by rw[alloc_eq_grow];rfl⟩;simp_all
theorem al5 (W:World)(q:Nat)(os:Array Obj):Below W.heap.size W (grow (W.drewN q) os):=
 ⟨rfl,rfl,rfl,by show W.heap.size≤(W.heap++os).size;rw[Array.size_append];omega,fun _ hj=>heap_grow_old (W.drewN q) os hj⟩
theorem awJ (w:World):PredBelow Tryz.prog 70 #[] (fun x:D=>.agg (bU x).toArray) (fun x=> !gW x) w:=fun W x hb=>by
 refine(afp (x.c 0).i (x.c 1).i (x.c 2).i (x.c 3).i (x.c 4).i (x.c 5).i (x.c 6).b W).mono fun e w' hh=>?_;obtain⟨rfl,q,mS,rfl⟩:=hh;exact⟨rfl,hb.trans ((al5 W q mS).mono hb.size)⟩
theorem aoM {xs:List D}{j:Nat}(hj:j<xs.length){i:Nat}{v:Value}(hv:(bU xs[j]!)[i]?=some v):(flatK bU 7 xs.toArray)[j*7+i]?=some v:=by
 have hi:i<7:=by have:=(fe.1 hv).1;simpa [bU] using this
 rw[←qe,BR nN];have e:xs[j]! =xs[j]:=getElem!_pos xs j hj;rw[e] at hv;have:=E9 nN xs j i _ (aX hj) hi;simp only[List.toList_toArray] at*;rw[this,hv]
theorem aei {w:World}{g off:Nat}{xs:List D}(hH:HoldsK bU 7 w g off xs.toArray){j:Nat}(hj:j<xs.length)(i:Nat)(v:Value)(hv:(bU xs[j]!)[i]?=some v):w.cell? ⟨g,off+j*7+i,none⟩=some v:=by
 have h:=aoM hj hv;have af:=(ei.1 h).1;have:=(hH (j*7+i) af).1;rw[getElem!_pos (flatK bU 7 xs.toArray) _ af,(ei.1 h).2] at this;rw[xF];exact this
theorem aej {w:World}{g off:Nat}{d:Array D}(hH:HoldsK bU 7 w g off d){j:Nat}(hj:j<d.size)(i:Nat)(v:Value)(hv:(bU d[j]!)[i]?=some v):w.cell? ⟨g,off+j*7+i,none⟩=some v∧w.frozen? ⟨g,off+j*7+i,none⟩=false:=by
 have hi:i<7:=by have:=(fe.1 hv).1;simpa [bU] using this
 have af:j*7+i<(flatK bU 7 d).size:=by rw[size_flatK];omega
 refine⟨?_,by have:=(hH (j*7+i) af).2;rw[xF];exact this⟩;have e:d.toList.toArray=d:=by simp
 have bK:j<d.toList.length:=by simpa using hj
 have e2:d.toList[j]! =d[j]!:=by rw[getElem!_pos d.toList j bK,getElem!_pos d j hj];simp
 exact aei (xs:=d.toList) (by rw[e];exact hH) bK i v (by rw[e2];exact hv)
theorem Ep (wr:World)(cs:Array Value)(T:TypeId)(q:Nat)(os:Array Obj)(k:Nat)(v:Value)(hv:cs[k]?=some v):(grow ((wr.alloc (.cells cs T)).drewN q) os).cell? ⟨wr.heap.size,k,none⟩=some v:=by
 rw[cell?_grow _ _ _ (by show wr.heap.size<(wr.heap.push _).size;rw[Pq];omega)];show(wr.alloc _).cell? _=_;have e:(wr.alloc (.cells cs T)).heap[wr.heap.size]?=some (.cells cs T):=akK;unfold World.cell?;simp only[e];exact hv
theorem aoL {α:Type}{f:α→List Value}{k:Nat}(hk:∀x,(f x).length=k)(l:List α)(i:Nat)(hi:i≤l.length):(l.flatMap f).take (i*k)=(l.take i).flatMap f:=by
 have e:l.flatMap f=(l.take i).flatMap f++(l.drop i).flatMap f:=by rw[←List.flatMap_append,I1]
 rw[e];exact List.take_left' (by rw[Fa hk,ej,mu hi])
theorem ayk (F:Array Value)(s:Nat)(vs:List Value)(hs:s≤F.size):(setMany F s vs).toList.take s=F.toList.take s:=by
 apply vc;intro t;by_cases ht:t<s
 ·have h1:t<F.size:=by omega
  have h2:t<(setMany F s vs).size:=by rw[size_setMany];omega
  rw[DO ht,DO ht,qe,qe,jz h1,jz h2];have:=get_setMany vs s F t h1;rw[if_neg (by omega),getElem!_pos _ t h2,getElem!_pos F t h1] at this;rw[this]
 ·rw[aaZ (by omega),aaZ (by omega)]
theorem aeh {w w1:World}{g off:Nat}{d:Array D}(hH:HoldsK bU 7 w g off d)(hg:g<w.heap.size)(hb:Below w.heap.size w w1):HoldsK bU 7 w1 g off d:=fun j hj=>by
 have e:=hb.block g hg;obtain⟨h1,h2⟩:=hH j hj;exact⟨by rw[World.cell?_of_block (w:=w) e];exact h1,by rw[World.frozen?_of_block (w:=w) e];exact h2⟩
set_option maxHeartbeats 1000000 in
set_option maxRecDepth 100000 in
theorem ano (g off cap:Nat)(xs:List D)(w:World)(hH:HoldsK bU 7 w g off xs.toArray)(hg:g<w.heap.size)(aP:xs.length≤4294967296)(eR:xs.length≤cap)(aHd:cap≤9223372036854775807):
 Calls Tryz.prog 69 #[.slice (some ⟨g,off,none⟩) xs.length cap,.func (.func 70) #[] #[]] w fun e w'=>e=.returned (.slice (some ⟨g,off,none⟩) (xs.filter gW).length cap)∧
  ∃(w1:World) (m:Nat) (os:Array Obj) (F:Array Value),Below w.heap.size w w1∧F.size=xs.length*7∧F.toList.take ((xs.filter gW).length*7)=(xs.filter gW).flatMap bU∧w'=grow (putRow id (Sort.ahead w1 m) g off F) os:=by
 have eg:∀args w,(callFunc 70 args).run Tryz.prog w=.ok (.enter 70 args) w:=enters_of Tryz.func70 (by kernel_rfl) rfl;have uv:=AnyQ.slices_IndexFunc Tryz.ixE 7 Tryz.isAgg59 Tryz.sizeOf59 bU nN (fun x=> !gW x) 70 #[] eg g off xs.length cap xs w (awJ w) (bn _) (by omega) hg (fun j hj i v hv=>aei hH hj i v hv);change Calls Tryz.prog 111 _ _ _ at uv;rw[DR] at uv;obtain⟨d,hd⟩:∃d,d=xs.toArray:=⟨_,rfl⟩
 have jG:d.size=xs.length:=by rw[hd];simp
 have LG:∀j,j<xs.length→xs[j]! =d[j]!:=fun j hj=>by rw[hd,getElem!_pos xs j hj,getElem!_pos xs.toArray j (by simpa using hj)];simp
 obtain⟨kp,HK⟩:∃kp:Nat→Bool,Hid (kp=fun j=>gW d[j]!):=⟨_,rfl⟩
 have vC:xs.filter gW=keptUpTo kp d d.size:=by rw[HK.out,keptUpTo_filter gW d,hd]
 rw[vC];rcases idxByFrom_spec (fun _ y=> !gW y) default xs 0 with⟨e1,aO⟩|⟨k0,gT,e1,ht,aO⟩
 ·have e2:Lib.idxBy (fun _ y=> !gW y) xs default=-1:=e1;rw[e2] at uv
  have uE:∀j,j<d.size→kp j=true:=fun j hj=>by
   rw[HK.out];have:=aO j (by omega);rw[LG j (by omega)] at this;simpa using this
  have e3:keptUpTo kp d d.size=d.toList:=by rw[keptUpTo_all kp d _ uE,range_map_get]
  have A:Aside (HoldsK bU 7 w g off xs.toArray):=hH;clear hH
  go_enter Tryz.func69,Tryz.ntmps69
  go_wp2_with (go_at_call 111;refine uv.mono ?_;rintro e w' ⟨rfl,hb⟩)
  go_ret
  rw[e3];refine⟨by simp[jG],w',0,#[],flatK bU 7 d,hb,by rw[size_flatK,jG],?_,?_⟩
  ·rw[BR nN,xE (by rw[Fa nN];exact bn _)]
  ·rw[grow_empty];rw[←hd] at A;exact(putRow_self id w' g off _ (aeh A.out hg hb)).symm
 ·have arK:k0<d.size:=by omega
  have e2:Lib.idxBy (fun _ y=> !gW y) xs default=(k0:Int):=by unfold Lib.idxBy;rw[e1];simp
  rw[e2] at uv
  have uE:∀j,j<k0→kp j=true:=fun j hj=>by
   rw[HK.out];have:=aO j hj;rw[LG j (by omega)] at this;simpa using this
  have aq0:kp k0=false:=by
   rw[HK.out];have:=ht;rw[LG k0 (by omega)] at this;simpa using this
  have SN:((k0:Int)==-1)=false:=beq_eq_false_iff_ne.2 (by omega);have A:Aside (HoldsK bU 7 w g off xs.toArray):=hH;have AD:Aside (xs.toArray=d):=hd.symm;clear hH vC LG aO ht e1 e2;have HD:Hid (d.size=xs.length):=jG;rw[jG];clear hd jG arK;obtain⟨n,hn⟩:∃n,n=xs.length:=⟨_,rfl⟩
  have HN:Hid (d.size=n):=HD.out.trans hn.symm;rw[←hn] at aP eR uv gT ⊢;clear hn HD
  go_enter Tryz.func69,Tryz.ntmps69
  go_wp2_with (go_at_call 111;refine uv.mono ?_;rintro e w1 ⟨rfl,hb⟩)
  have hH1:HoldsK bU 7 w1 g off d:=by rw[←AD.out];exact aeh A.out hg hb
  have jo:g<w1.heap.size:=lR hg hb.size;have HH:Hid (HoldsK bU 7 w1 g off d):=hH1;have HB:Hid (Below w.heap.size w w1):=hb;clear hH1 hb
  go_loopg [5,6,7] n (fun gg s5 s6 _ wr=>∃(i j:Nat) (dk:Array D),s5=.int .i64 i∧s6=.int .i64 j∧j≤n∧n-j≤gg∧Hid (SWK bU 7 w1 g off dk wr)∧Aside (KeptInv kp d j i dk))
  case atStart=>exact⟨k0,k0+1,d,rfl,by go_num,by omega,by omega,SWK.start HH.out,KeptInv.start uE aq0⟩
  case round=>
   obtain⟨i,j,dk,rfl,rfl,hjd,LM,HS,I2⟩:=hrel;have hI:=I2.out;have dH:=hI.lt;have LH:=hI.size;have bx:=HN.out;by_cases af:j<n
   ·have arV:(j:Int)<(n:Int):=by omega
    have Sz:kp j=gW d[j]!:=by rw[HK.out]
    have EQ:Hid (d[j]! =d[j]!):=rfl;obtain⟨u,hu⟩:∃u,u=d[j]!:=⟨_,rfl⟩
    rw[←hu] at Sz;have hc:=fun i v hv=>(aej (HS.out.holds jo HH.out LH) (show j<dk.size by omega) i v hv).1;rw[hI.high j (by omega),←hu] at hc;have c0:wr.cell? ⟨g,off+j*7,none⟩=some (.int .i64 (u.c 0).i):=hc 0 _ rfl;have c1:wr.cell? ⟨g,off+j*7+1,none⟩=some (.int .i64 (u.c 1).i):=hc 1 _ rfl;have c2:wr.cell? ⟨g,off+j*7+2,none⟩=some (.int .i64 (u.c 2).i):=hc 2 _ rfl;have c3:wr.cell? ⟨g,off+j*7+3,none⟩=some (.int .i64 (u.c 3).i):=hc 3 _ rfl;have c4:wr.cell? ⟨g,off+j*7+4,none⟩=some (.int .i64 (u.c 4).i):=hc 4 _ rfl;have c5:wr.cell? ⟨g,off+j*7+5,none⟩=some (.int .i64 (u.c 5).i):=hc 5 _ rfl;have c6:wr.cell? ⟨g,off+j*7+6,none⟩=some (.bool (u.c 6).b):=hc 6 _ rfl;clear hc;have dq:∀W,Calls Tryz.prog 70 #[.agg #[.int .i64 (u.c 0).i,.int .i64 (u.c 1).i,.int .i64 (u.c 2).i,.int .i64 (u.c 3).i,.int .i64 (u.c 4).i,.int .i64 (u.c 5).i,.bool (u.c 6).b]] W fun e w'=>e=.returned (.bool (!gW u))∧∃q mS,w'=grow (W.drewN q) mS:=fun W=>afp _ _ _ _ _ _ _ W;have U:Hid (u=d[j]!∧kp j=gW u):=⟨hu,Sz⟩
    clear hu Sz hI;have EU:Hid (bU u=[.int .i64 (u.c 0).i,.int .i64 (u.c 1).i,.int .i64 (u.c 2).i,.int .i64 (u.c 3).i,.int .i64 (u.c 4).i,.int .i64 (u.c 5).i,.bool (u.c 6).b]):=rfl;generalize gW u=ku at dq U;generalize (u.c 0).i=a0 at c0 dq EU;generalize (u.c 1).i=a1 at c1 dq EU;generalize (u.c 2).i=a2 at c2 dq EU;generalize (u.c 3).i=a3 at c3 dq EU;generalize (u.c 4).i=a4 at c4 dq EU;generalize (u.c 5).i=a5 at c5 dq EU;generalize (u.c 6).b=a6 at c6 dq EU
    go_wp2_with fail
    refine(dq _).mono ?_;rintro e w' ⟨rfl,qq,M8,rfl⟩;have IT:SWK bU 7 w1 g off dk (grow ((wr.alloc (.cells #[.int .i64 a0,.int .i64 a1,.int .i64 a2,.int .i64 a3,.int .i64 a4,.int .i64 a5,.bool a6] 59)).drewN qq) M8):=(HS.out.alloc _).grown qq M8;have qO:=fun k v hv=>Ep wr #[.int .i64 a0,.int .i64 a1,.int .i64 a2,.int .i64 a3,.int .i64 a4,.int .i64 a5,.bool a6] 59 qq M8 k v hv;have de:=fun k v hv=>aej (IT.holds jo HH.out LH) (show i<dk.size by omega) k v hv;generalize grow ((wr.alloc (.cells #[.int .i64 a0,.int .i64 a1,.int .i64 a2,.int .i64 a3,.int .i64 a4,.int .i64 a5,.bool a6] 59)).drewN qq) M8=W2 at IT qO de ⊢;obtain⟨x,hx⟩:∃x,x=dk[i]!:=⟨_,rfl⟩
    rw[←hx] at de;clear hx c0 c1 c2 c3 c4 c5 c6 HS dq;have b0:=qO 0 _ rfl;have b1:=qO 1 _ rfl;have b2:=qO 2 _ rfl;have b3:=qO 3 _ rfl;have b4:=qO 4 _ rfl;have b5:=qO 5 _ rfl;have b6:=qO 6 _ rfl;have r0:W2.cell? ⟨g,off+i*7,none⟩=some (.int .i64 (x.c 0).i)∧W2.frozen? ⟨g,off+i*7,none⟩=false:=de 0 _ rfl;have r1:=de 1 _ rfl;have r2:=de 2 _ rfl;have r3:=de 3 _ rfl;have r4:=de 4 _ rfl;have r5:=de 5 _ rfl;have r6:=de 6 _ rfl;obtain⟨r0,s0⟩:=r0;obtain⟨r1,s1⟩:=r1;obtain⟨r2,s2⟩:=r2;obtain⟨r3,s3⟩:=r3;obtain⟨r4,s4⟩:=r4;obtain⟨r5,s5⟩:=r5;obtain⟨r6,s6⟩:=r6;clear de qO;have SS:Hid (SWK bU 7 w1 g off dk W2):=IT;clear IT;cases ku with
    |false=>
     go_wp2
     go_roundg (n-(j+1))
     case measure=>omega
     case rel=>exact⟨i,j+1,dk,rfl,by go_num,by omega,bn _,SS,I2.out.skip U.out.2⟩
    |true=>
     have hiz:(i:Int)<(n:Int):=by omega
     go_wp2
     go_roundg (n-(j+1))
     case measure=>omega
     case rel=>
      refine⟨i+1,j+1,dk.setIfInBounds i u,by go_num,by go_num,by omega,bn _,?_,(show Aside _ from ?_)⟩
      ·have:=alm SS.out nN jo i (by omega) u;rw[EU.out] at this;exact this
      ·have:=I2.out.keep (by omega) U.out.2;rw[←U.out.1] at this;exact this
   ·obtain rfl:j=n:=by omega
    have arV:¬(j:Int)<(j:Int):=by omega
    obtain⟨m,os,eW⟩:=HS.out;have hHk:=HS.out.holds jo HH.out LH;have hiz:(i:Int)≤(j:Int):=by omega
    have hic:(i:Int)≤(cap:Int):=by omega
    obtain⟨zs,mO⟩:∃zs,zs=(Builtin.zeroCells (Value.agg #[.int .i64 0,.int .i64 0,.int .i64 0,.int .i64 0,.int .i64 0,.int .i64 0,.bool false]).cells (j-i)).toList:=⟨_,rfl⟩
    have kH:zs.length=(j-i)*7:=by rw[mO,Aa,size_zeroCells];simp[Value.cells]
    have pw:∀v∈zs,v.oneCell'=true:=by
     intro v hv;rw[mO] at hv;unfold Builtin.zeroCells at hv;rw[Ac,cu] at hv;obtain⟨a,_,rfl⟩:=hv;have h7:a%7<7:=nr _ (by decide);show((#[Value.int .i64 0,.int .i64 0,.int .i64 0,.int .i64 0,.int .i64 0,.int .i64 0,.bool false]:Array Value)[a%7]!).oneCell'=true;generalize a%7=b at h7;rcases b with _|_|_|_|_|_|_|b<;>first|rfl|omega
    have df:Sem.run Tryz.prog (storeCells ⟨g,off+i*7,none⟩ zs 0) wr=.ok () (wr.setCells g (off+i*7) zs):=stores_of_holds Tryz.prog hHk (i*7) zs (by rw[kH,size_flatK];omega) pw;have aHf:∀ty,(Builtin.clear_ #[55] ty #[.slice (some ⟨g,off+i*7,none⟩) (j-i) (cap-i)]).run Tryz.prog wr=.ok (.tuple #[]) (wr.setCells g (off+i*7) zs):=fun ty=>
     aya wr 55 59 ty _ Tryz.underlying55 Tryz.zeroValue59 g (off+i*7) (j-i) (cap-i) (by omega) _ (by rw[←mO];exact df)
    have R:Hid (wr=sortWorldK bU 7 w1 g off m dk os∧zs.length=(j-i)*7):=⟨eW,kH⟩
    clear eW hHk mO kH pw df
    go_wp2
    go_ret
    have hI:=I2.out;have hlen:=hI.len;refine⟨by rw[hlen];rfl,w1,HB.out,m,os,setMany (flatK bU 7 dk) (i*7) zs,by rw[size_setMany,size_flatK,LH,bx],?_,?_⟩
    ·rw[hlen,ayk _ _ _ (by rw[size_flatK];omega),BR nN,aoL nN _ _ (by simp;omega)]
     congr 1
     apply vc;intro t;by_cases ht:t<i
     ·have h1:=hI.low t ht;rw[h1,DO ht,qe,jz (by omega),getElem!_pos dk t (by omega)]
     ·rw[jW (by simp;omega),jW (by omega)]
    ·rw[R.out.1];unfold sortWorldK;rw[setCells_grow os g _ _ _ (by show g<(putRowK bU 7 _ g off dk).heap.size;rw[size_putRowK];exact jo)];unfold putRowK;rw[setCells_putRow _ _ _ _ _ _ (by rw[R.out.2,size_flatK];omega)]
set_option maxHeartbeats 1000000 in
theorem ats (fv:Value)(w:World):Calls Tryz.prog 111 #[.slice none 0 0,fv] w fun e w'=>e=.returned (.int .i64 (-1))∧w'=w:=by
 go_enter Tryz.func111,Tryz.ntmps111
 go_wp2
 refine wp_loop_rounds 1 ?_;rw[rounds_succ]
 go_wp2
 go_ret
 exact⟨rfl,rfl⟩
set_option maxHeartbeats 1000000 in
theorem anp (fv:Value)(w:World):Calls Tryz.prog 69 #[.slice none 0 0,fv] w fun e w'=>e=.returned (.slice none 0 0)∧w'=w:=by
 have uv:=ats fv w
 go_enter Tryz.func69,Tryz.ntmps69
 go_wp2_with (go_at_call 111;refine uv.mono ?_;rintro e w' ⟨rfl,rfl⟩)
 go_ret
 exact⟨rfl,rfl⟩
def K1 (ds:List D):Option D:=
 match ds with
 |[.list xs,.clo f []]=>if f=70∧xs.length≤4294967296 then some (.list (xs.filter gW)) else none
 |_=>none
theorem anm (ds:List D)(d:D)(h:K1 ds=some d):eJ ctx 69 [.obj 0 0,.dat (.fn [tE] .bool)] [(0,.row 59 tE),(1,.tr)] (.slice tE) ds d:=by
 unfold K1 at h;split at h
 case h_2=>cases h
 rename_i dX f;split at h
 case isFalse=>cases h
 rename_i hc;obtain⟨rfl,hlen⟩:=hc;cases h;show xp ctx 69 59 tE [.fn [tE] .bool] [.list dX,.clo 70 []] _;intro N σ w v args xs cells ds' jG ax hC hN de du hblk ha;cases jG;obtain⟨a1,a2,a3⟩:=ha;obtain⟨u,rfl⟩:∃u,args=[u]:=by
  match args,a1 with
  |[u],_=>exact⟨u,rfl⟩
 have hu:Rep ctx.cap σ (.fn [tE] .bool) u (.clo 70 []):=a3 0 _ rfl;obtain rfl:u=.func (.func 70) #[] #[]:=by
  obtain⟨vs,cs,rfl,_,k1,k2,_⟩:=Re hu;have:vs=[]:=ve.1 (by rw[k1,←k2];rfl);rw[this]
 obtain⟨aZ,hE⟩:=acu de.1 du;rcases de.2 with⟨e1,h0⟩|⟨g,cap,cur,e1,e2,e3,e4,e5,e6,e7⟩
 ·obtain rfl:dX=[]:=ve.1 h0;subst e1;refine(anp _ w).mono fun x w' hh=>?_;obtain⟨rfl,rfl⟩:=hh;exact⟨_,[],[],rfl,rfl,.refl _ _,fun _ _ _=>rfl,World.ownsRow_nil _ _ _ _,⟨fun _=>undef,by simp,by simp⟩,fun k hk=>by cases hk⟩
 subst e1;have hg:g<w.heap.size:=(ei.1 e3).1;have hH:HoldsK bU 7 w g 0 dX.toArray:=by
  refine S6 e3 ?_;rw[BR nN,size_flatK,show dX.toArray.size*7=dX.length*tE.size by simp;rfl,e7,aZ]
 have dq:=ano g 0 cap dX w hH hg hlen e4 (by unfold maxLen at e5;omega);refine dq.mono fun x w' hh=>?_;obtain⟨rfl,w1,m,os,F,hb,hF,hT,rfl⟩:=hh;have EJ:w1.heap[g]?=some (.cells cur 59 (0,0)):=by rw[hb.block g hg];exact e3
 have fD:=RT (enc:=id) (w:=w1) (g:=g) (n:=m) (os:=os) F;have Cn:=ah6 (enc:=id) (w:=w1) (base:=N) (n:=m) (os:=os) (m:=dX.length) (k:=7) hF e2 EJ e4 e5 e6;generalize Go.Sort.grow (Go.Sort.putRow id (Go.Sort.ahead w1 m) g 0 F) os=W at*;have B9:(dX.filter gW).length≤dX.length:=oM _ _;refine⟨_,dX.filter gW,(dX.filter gW).flatMap bU,rfl,rfl,⟨fD.os.trans hb.os,fD.tape.trans hb.tape,fD.output.trans hb.output,dO hb.size fD.size,fun k hk=>?_⟩,fun k hk ay=>?_,?_,acv fun x hx=>hE x (eu.1 hx).1,fun k hk=>?_⟩
 ·rw[fD.block k (lR hk (dO hN hb.size)) (fun e=>by cases e;omega),hb.block k (lR hk hN)]
 ·rw[fD.block k (lR hk hb.size) (fun e=>ay (by cases e;rfl)),hb.block k hk]
 ·refine⟨by rw[Fa nN];rfl,?_⟩;rcases Cn.2 with⟨f1,_⟩|⟨g',amn,Ri,f1,f2,f3,f4,f5,f6,f7⟩
  ·cases f1
  ·cases f1;refine .inr ⟨g,cap,Ri,rfl,f2,f3,by omega,f5,f6,?_⟩;have:=congrArg (List.take ((dX.filter gW).length*7)) f7;rw[PL,mu (ff _ B9),xz,hT] at this;exact this
 ·have bp:g=k:=by simpa [Value.ownBlock] using hk
  subst bp;exact⟨.inl (by simp[Value.ownBlock]),lR (lR hg hb.size) fD.size⟩
end Rm
namespace Go.Proofs
open Go.Shelf
def Tryz.add64_ren:Go.Shelf.Ren:=⟨fun|25=>86|n=>n,fun|22=>101|n=>n,fun|n=>n⟩
theorem Tryz.add64:Go.Proofs.Lays7.n25 Tryz.prog Tryz.add64_ren:={
 mixed:=by kernel_rfl
 f25:=Tryz.func86.trans (congrArg some (by kernel_rfl))
 t22:=Tryz.underlying101
 a22:=Tryz.isAgg101
 z22:=Tryz.sizeOf101
 v22:=Tryz.zeroValue101
 i22:=by kernel_rfl}
def Tryz.sub64_ren:Go.Shelf.Ren:=⟨fun|26=>87|n=>n,fun|22=>101|n=>n,fun|n=>n⟩
theorem Tryz.sub64:Go.Proofs.Lays7.n26 Tryz.prog Tryz.sub64_ren:={
 mixed:=by kernel_rfl
 f26:=Tryz.func87.trans (congrArg some (by kernel_rfl))
 t22:=Tryz.underlying101
 a22:=Tryz.isAgg101
 z22:=Tryz.sizeOf101
 v22:=Tryz.zeroValue101
 i22:=by kernel_rfl}
end Go.Proofs
set_option maxRecDepth 100000
namespace Rm
open Go Go.Proofs Cx Go.RowKit
theorem abm (x y c:Nat)(hc:c≤1)(w:World):(callFunc 86 #[.int .u64 x,.int .u64 y,.int .u64 c]).run Tryz.prog w=
 .ok (.value (.tuple #[.int .u64 (((x+y+c)%18446744073709551616:Nat):Int),.int .u64 (((x+y+c)/18446744073709551616:Nat):Int)])) w:=Any7.bits_Add64 Tryz.add64 x y c hc w
theorem Iv (x y b:Nat)(hb:b≤1)(w:World):(callFunc 87 #[.int .u64 x,.int .u64 y,.int .u64 b]).run Tryz.prog w=
 .ok (.value (.tuple #[.int .u64 (((x+18446744073709551616-y-b)%18446744073709551616:Nat):Int),.int .u64 ((if x<y+b then 1 else 0:Nat):Int)])) w:=Any7.bits_Sub64 Tryz.sub64 x y b hb w
theorem alx (x y:Nat)(w:World):(callFunc 86 #[.int .u64 x,.int .u64 y,.int .u64 0]).run Tryz.prog w=
 .ok (.value (.tuple #[.int .u64 (((x+y)%18446744073709551616:Nat):Int),.int .u64 (((x+y)/18446744073709551616:Nat):Int)])) w:=abm x y 0 (by omega) w
theorem OS (x y:Nat)(w:World):(callFunc 87 #[.int .u64 x,.int .u64 y,.int .u64 0]).run Tryz.prog w=
 .ok (.value (.tuple #[.int .u64 (((x+18446744073709551616-y)%18446744073709551616:Nat):Int),.int .u64 ((if x<y then 1 else 0:Nat):Int)])) w:=Iv x y 0 (by omega) w
theorem Ix (tmps:Array Value)(w:World)(x y b:Value)(k:Nat)(h8:tmps.getD 8 undef=.pointer (some ⟨k,0,none⟩))(h9:tmps.getD 9 undef=b)(hx:w.cell? ⟨k,0,none⟩=some x)(hy:w.cell? ⟨k,1,none⟩=some y):(results Tryz.f46 tmps).run Tryz.prog w=.ok (.tuple #[.agg #[x,y],b]) w:=by
 have hr:Tryz.f46.results=#[.cell 8 106,.tmp 9]:=by kernel_rfl
 have hi0:(Tryz.prog.info? 106).map (·.size)=some 2:=by kernel_rfl
 obtain⟨i0,hi,hs⟩:=aC.1 hi0
 have hl:=Ij (P:=Tryz.prog) (T:=106) (ag:=true) (w:=w) (k:=k) (o:=0) (cs:=[x,y]) hi (by kernel_rfl) hs.symm (fun h=>by cases h) (fun j u hj=>by
  match j,hj with
  |0,hj=>cases hj;exact hx
  |1,hj=>cases hj;exact hy)
 rw[gG] at h8 h9;simp[results,hr,h8,h9,asAddr,hl,rowOf]
theorem P5 (w:World)(a:Obj):w.heap.size≤(w.alloc a).heap.size:=by show _≤(w.heap.push a).size;rw[Pq];omega
theorem Eo (w:World)(a b c:Obj):Below w.heap.size w (((w.alloc a).alloc b).alloc c):=(((Below.refl _ w).alloc (bn _) a).alloc (P5 w a) b).alloc (dO (P5 w a) (P5 _ b)) c
theorem Et (w:World)(a b:Obj)(x y:Value)(j:Nat)(u:Value)(hj:#[x,y][j]?=some u):(((w.alloc a).alloc b).alloc (.cells #[x,y] 106)).cell? ⟨w.heap.size+1+1,j,none⟩=some u:=by
 have e:(((w.alloc a).alloc b).alloc (.cells #[x,y] 106)).heap[w.heap.size+1+1]?=some (.cells #[x,y] 106):=by
  have h:=akK (xs:=((w.alloc a).alloc b).heap) (x:=Obj.cells #[x,y] 106);have hs:((w.alloc a).alloc b).heap.size=w.heap.size+1+1:=by
   show((w.heap.push a).push b).size=_;rw[Pq,Pq]
  rw[hs] at h;exact h
 unfold World.cell?;simp only[e];exact hj
set_option maxHeartbeats 2000000 in
theorem ax5 (ah al bh bl:Nat)(m:Bool)(h1:al<18446744073709551616)(h2:bl<18446744073709551616)(w:World):
 Calls Tryz.prog 46 #[.agg #[.int .u64 ah,.int .u64 al],.bool m,.agg #[.int .u64 bh,.int .u64 bl],.bool m] w fun e w'=>e=.returned (.tuple #[.agg #[.int .u64 (((ah+bh+(al+bl)/18446744073709551616)%18446744073709551616:Nat):Int),.int .u64 (((al+bl)%18446744073709551616:Nat):Int)],.bool m])∧Below w.heap.size w w':=by
 have hc:(al+bl)/18446744073709551616≤1:=by omega
 have a1:=fun w=>alx al bl w;have a2:=fun w=>abm ah bh ((al+bl)/18446744073709551616) hc w;generalize (al+bl)%18446744073709551616=lo at*;generalize (al+bl)/18446744073709551616=c at*;generalize (ah+bh+c)%18446744073709551616=hi at*;generalize (ah+bh+c)/18446744073709551616=yw at*
 go_enter Tryz.func46,Tryz.ntmps46
 go_wp2
 go_wp2_with (rw[a1])
 go_wp2_with (rw[a2])
 refine bodyPost_ret (Ix _ _ (.int .u64 hi) (.int .u64 lo) (.bool m) (w.heap.size+1+1) rfl rfl ?_ ?_) rfl ⟨rfl,Eo w _ _ _⟩
 all_goals exact Et _ _ _ _ _ _ _ rfl
set_option maxHeartbeats 2000000 in
theorem ax3 (ah al bh bl:Nat)(h:ah<bh∨(ah=bh∧al<bl))(w:World):
 Calls Tryz.prog 46 #[.agg #[.int .u64 ah,.int .u64 al],.bool false,.agg #[.int .u64 bh,.int .u64 bl],.bool true] w fun e w'=>e=.returned (.tuple #[.agg #[.int .u64 (((bh+18446744073709551616-ah-if bl<al then 1 else 0)%18446744073709551616:Nat):Int),.int .u64 (((bl+18446744073709551616-al)%18446744073709551616:Nat):Int)],.bool true])∧Below w.heap.size w w':=by
 rcases h with h|⟨rfl,h⟩
 ·have a1:=fun w=>OS bl al w;have a2:=fun w=>Iv bh ah (if bl<al then 1 else 0) (by split<;>omega) w;generalize (bl+18446744073709551616-al)%18446744073709551616=lo at*;generalize (if bl<al then 1 else 0)=c at*;generalize (bh+18446744073709551616-ah-c)%18446744073709551616=hi at*;generalize (if bh<ah+c then 1 else 0)=yw at*
  go_enter Tryz.func46,Tryz.ntmps46
  go_wp2
  all_goals first
   |omega
   |((try simp only[Exit.inBlock,Exit.then]);refine bodyPost_ret (Ix _ _ (.int .u64 hi) (.int .u64 lo) (.bool true) (w.heap.size+1+1) rfl rfl ?_ ?_) rfl ⟨rfl,Eo w _ _ _⟩<;>exact Et _ _ _ _ _ _ _ rfl)
 ·have a1:=fun w=>OS bl al w;have a2:=fun w=>Iv ah ah (if bl<al then 1 else 0) (by split<;>omega) w;generalize (bl+18446744073709551616-al)%18446744073709551616=lo at*;generalize (if bl<al then 1 else 0)=c at*;generalize (ah+18446744073709551616-ah-c)%18446744073709551616=hi at*;generalize (if ah<ah+c then 1 else 0)=yw at*
  go_enter Tryz.func46,Tryz.ntmps46
  go_wp2
  all_goals first
   |omega
   |((try simp only[Exit.inBlock,Exit.then]);refine bodyPost_ret (Ix _ _ (.int .u64 hi) (.int .u64 lo) (.bool true) (w.heap.size+1+1) rfl rfl ?_ ?_) rfl ⟨rfl,Eo w _ _ _⟩<;>exact Et _ _ _ _ _ _ _ rfl)
set_option maxHeartbeats 2000000 in
theorem ax4 (ah al bh bl:Nat)(h0:¬(ah<bh∨(ah=bh∧al<bl)))(w:World):
 Calls Tryz.prog 46 #[.agg #[.int .u64 ah,.int .u64 al],.bool false,.agg #[.int .u64 bh,.int .u64 bl],.bool true] w fun e w'=>e=.returned (.tuple #[.agg #[.int .u64 (((ah+18446744073709551616-bh-if al<bl then 1 else 0)%18446744073709551616:Nat):Int),.int .u64 (((al+18446744073709551616-bl)%18446744073709551616:Nat):Int)],.bool false])∧Below w.heap.size w w':=by
 have h:bh<ah∨(ah=bh∧bl≤al):=by omega
 rcases h with h|⟨rfl,h⟩
 ·have a1:=fun w=>OS al bl w;have a2:=fun w=>Iv ah bh (if al<bl then 1 else 0) (by split<;>omega) w;generalize (al+18446744073709551616-bl)%18446744073709551616=lo at*;generalize (if al<bl then 1 else 0)=c at*;generalize (ah+18446744073709551616-bh-c)%18446744073709551616=hi at*;generalize (if ah<bh+c then 1 else 0)=yw at*
  go_enter Tryz.func46,Tryz.ntmps46
  go_wp2
  all_goals first
   |omega
   |((try simp only[Exit.inBlock,Exit.then]);refine bodyPost_ret (Ix _ _ (.int .u64 hi) (.int .u64 lo) (.bool false) (w.heap.size+1+1) rfl rfl ?_ ?_) rfl ⟨rfl,Eo w _ _ _⟩<;>exact Et _ _ _ _ _ _ _ rfl)
 ·have a1:=fun w=>OS al bl w;have a2:=fun w=>Iv ah ah (if al<bl then 1 else 0) (by split<;>omega) w;generalize (al+18446744073709551616-bl)%18446744073709551616=lo at*;generalize (if al<bl then 1 else 0)=c at*;generalize (ah+18446744073709551616-ah-c)%18446744073709551616=hi at*;generalize (if ah<ah+c then 1 else 0)=yw at*
  go_enter Tryz.func46,Tryz.ntmps46
  go_wp2
  all_goals first
   |omega
   |((try simp only[Exit.inBlock,Exit.then]);refine bodyPost_ret (Ix _ _ (.int .u64 hi) (.int .u64 lo) (.bool false) (w.heap.size+1+1) rfl rfl ?_ ?_) rfl ⟨rfl,Eo w _ _ _⟩<;>exact Et _ _ _ _ _ _ _ rfl)
end Rm
namespace Rm
open Go Go.Proofs Cx Go.RowKit
abbrev cD:Nat:=18446744073709551616
def rO (n:Nat):D:=.v (.int .u64 n)
def zT (ah al:Nat)(m:Bool)(bh bl:Nat)(l:Bool):D:=
 if m=l then .tup [.agg [rO ((ah+bh+(al+bl)/cD)%cD),rO ((al+bl)%cD)],.v (.bool m)]
 else if ah<bh∨(ah=bh∧al<bl) then .tup [.agg [rO ((bh+cD-ah-if bl<al then 1 else 0)%cD),rO ((bl+cD-al)%cD)],.v (.bool true)]
 else .tup [.agg [rO ((ah+cD-bh-if al<bl then 1 else 0)%cD),rO ((al+cD-bl)%cD)],.v (.bool false)]
def OU (ds:List D):Option D:=
 match ds with
 |[.agg [.v (.int .u64 a),.v (.int .u64 b)],.v (.bool m),.agg [.v (.int .u64 c),.v (.int .u64 e)],.v (.bool l)]=>if m=l∨(m=false∧l=true) then some (zT a.toNat b.toNat m c.toNat e.toNat l) else none
 |_=>none
abbrev tU:Ty:=.int .u64
theorem aks {cap:Nat→Option CSig}{σ:Im}{v:Value}{a b:Int}(h:Rep cap σ (.agg [tU,tU]) v (.agg [.v (.int .u64 a),.v (.int .u64 b)])):v=.agg #[.int .u64 a,.int .u64 b]∧(0≤a∧a<cD)∧(0≤b∧b<cD):=by
 have e1:IntKind.u64.min=0:=by decide
 have e2:IntKind.u64.max=18446744073709551615:=by decide
 obtain⟨vs,ds,rfl,hd,h1,h2,h3,_⟩:=h.agg_inv;obtain rfl:ds=[.v (.int .u64 a),.v (.int .u64 b)]:=by injection hd with hd;exact hd.symm
 match vs,h1 with
 |[x0,x1],_=>
  obtain⟨n0,f0,g0,b0,c0⟩:=(h3 0 _ rfl).int_inv;obtain⟨n1,f1,g1,b1,c1⟩:=(h3 1 _ rfl).int_inv;simp only[oI,xx] at f0 g0 f1 g1;injection g0 with g0;injection g0 with _ g0;injection g1 with g1;injection g1 with _ g1;subst f0 f1 g0 g1;rw[e1] at b0 b1;rw[e2] at c0 c1;exact⟨rfl,⟨b0,by unfold cD;omega⟩,⟨b1,by unfold cD;omega⟩⟩
theorem aB0 {cap:Nat→Option CSig}{σ:Im}{x y:Nat}{b:Bool}(hx:x<cD)(hy:y<cD):Rep cap σ (.tup [.agg [tU,tU],.bool]) (.tuple #[.agg #[.int .u64 x,.int .u64 y],.bool b]) (.tup [.agg [rO x,rO y],.v (.bool b)]):=by
 have e1:IntKind.u64.min=0:=by decide
 have e2:IntKind.u64.max=18446744073709551615:=by decide
 have hi:∀n:Nat,n<cD→Rep cap σ tU (.int .u64 n) (rO n):=fun n hn=>.int _ _ (by rw[e1];omega) (by rw[e2];unfold cD at hn;omega);refine .tup [.agg [tU,tU],.bool] [.agg #[.int .u64 x,.int .u64 y],.bool b] _ rfl rfl (fun i t db=>?_)
 match i,db with
 |0,db=>
  cases db;refine .agg [tU,tU] [.int .u64 x,.int .u64 y] _ rfl rfl (fun i t h=>?_) (fun i t h=>?_)
  ·match i,h with
   |0,h=>cases h;exact hi x hx
   |1,h=>cases h;exact hi y hy
  ·match i,h with
   |0,h=>cases h;rfl
   |1,h=>cases h;rfl
 |1,db=>cases db;exact .bool b
theorem ayJ (ds:List D)(d:D)(h:OU ds=some d):∃s,ctx.sig 46=some s∧ij ctx 46 s ds d:=by
 refine⟨_,rfl,?_⟩;unfold OU at h;split at h
 case h_2=>cases h
 rename_i a b m c e l;split at h
 case isFalse=>cases h
 rename_i qU;cases h;intro σ w args ax hC ha;obtain⟨a1,a2,a3⟩:=ha;have r0:=a3 0 _ rfl;have r1:=a3 1 _ rfl;have r2:=a3 2 _ rfl;have r3:=a3 3 _ rfl;obtain⟨v0,v1,v2,v3,rfl⟩:∃v0 v1 v2 v3,args=#[v0,v1,v2,v3]:=by
  have:args.size=4:=by simpa using a1
  match args,this with
  |⟨[v0,v1,v2,v3]⟩,_=>exact⟨v0,v1,v2,v3,rfl⟩
 simp only[oI,xx] at r0 r1 r2 r3;obtain⟨rfl,⟨ba,ca⟩,⟨bb,cb⟩⟩:=aks (show Rep ctx.cap σ (.agg [tU,tU]) v0 _ from r0);obtain⟨rfl,⟨bc,cc⟩,⟨be,ce⟩⟩:=aks (show Rep ctx.cap σ (.agg [tU,tU]) v2 _ from r2);obtain⟨m',rfl,hm⟩:=(show Rep ctx.cap σ .bool v1 _ from r1).bool_inv;obtain⟨l',rfl,hl⟩:=(show Rep ctx.cap σ .bool v3 _ from r3).bool_inv;obtain rfl:m=m':=by injection hm with hm;injection hm
 obtain rfl:l=l':=by injection hl with hl;injection hl
 obtain⟨a,rfl⟩:=lO ba;obtain⟨b,rfl⟩:=lO bb;obtain⟨c,rfl⟩:=lO bc;obtain⟨e,rfl⟩:=lO be;have ca:a<cD:=by omega
 have cb:b<cD:=by omega
 have cc:c<cD:=by omega
 have ce:e<cD:=by omega
 have fin:∀(x y:Nat) (k:Bool) (w':World),x<cD→y<cD→Below w.heap.size w w'→∃v σ',Ending.returned (.tuple #[.agg #[.int .u64 x,.int .u64 y],.bool k])=Ending.returned v∧σ.le σ'∧σ'.ok w'∧Below w.heap.size w w'∧(∀k o x,σ'.c k o=some x→σ.c k o=some x∨w.heap.size≤k)∧(∀k x,σ'.m k=some x→σ.m k=some x∨w.heap.size≤k)∧nu ctx ⟨[.agg [tU,tU],.bool,.agg [tU,tU],.bool],.tup [.agg [tU,tU],.bool],.dat⟩ σ' w w' v (.tup [.agg [rO x,rO y],.v (.bool k)]):=by
  intro x y k w' hx hy hb;exact⟨_,σ,rfl,.refl σ,ax.below hb,hb,fun _ _ _ h=>.inl h,fun _ _ h=>.inl h,aB0 hx hy⟩
 have af:∀n:Nat,n%cD<cD:=fun n=>nr _ (by decide);simp only[vb];unfold zT;by_cases SI:m=l
 ·subst SI;rw[if_pos rfl];refine(ax5 a b c e m cb ce w).mono fun en w' hh=>?_;obtain⟨rfl,hb⟩:=hh;exact fin _ _ m w' (af _) (af _) hb
 ·rw[if_neg SI];obtain⟨rfl,rfl⟩:=qU.resolve_left SI;by_cases hc:a<c∨(a=c∧b<e)
  ·rw[if_pos hc];refine(ax3 a b c e hc w).mono fun en w' hh=>?_;obtain⟨rfl,hb⟩:=hh;exact fin _ _ true w' (af _) (af _) hb
  ·rw[if_neg hc];refine(ax4 a b c e hc w).mono fun en w' hh=>?_;obtain⟨rfl,hb⟩:=hh;exact fin _ _ false w' (af _) (af _) hb
end Rm
namespace Rm
open Go Cx
abbrev str (b:ByteArray):D:=.v (.string b)
def strs (l:List ByteArray):D:=.list (l.map str)
@[simp] theorem ayF (l:List ByteArray):(strs l).l=l.map str:=_root_.id rfl
theorem str_inv {d:D}(h:DTy .str d):∃b,d=str b:=by
 cases h with
 |str b=>exact⟨b,rfl⟩
 |other t d h=>exact h.elim
theorem ayE {d:D}(h:DTy (.slice .str) d):∃l:List ByteArray,d=strs l∧l.length≤maxLen:=by
 obtain⟨xs,rfl,hm,hx⟩:=h.slice_inv;obtain⟨l,rfl,hl⟩:=ka (enc:=str) (P:=fun _=>True) fun x hh=>(str_inv (hx x hh)).imp fun b hb=>⟨hb,trivial⟩
 exact⟨l,rfl,by simpa using hm⟩
@[simp] theorem aEq (t:Tm):(dP t).cells=[.int t.op,.int t.n,.list (t.args.map dP)]:=by rw[EZ];rfl
@[simp] theorem aEr (t:Tm):D.agg [.int t.op,.int t.n,.list (t.args.map dP)]=dP t:=(EZ t).symm
@[simp] theorem aEn (t:Tm):(dP t).c 0=.int t.op:=by rw[EZ];rfl
@[simp] theorem aEo (t:Tm):(dP t).c 1=.int t.n:=by rw[EZ];rfl
@[simp] theorem aEp (t:Tm):(dP t).c 2=.list (t.args.map dP):=by rw[EZ];rfl
structure City where
 name:ByteArray
 order:Int
 currency:Int
 rest:List Int
 feasts:List Int
 shut:List Int
 deriving Inhabited
def gL (x:City):D:=.agg [str x.name,.int x.order,.int x.currency,ints x.rest,ints x.feasts,ints x.shut]
@[simp] theorem aDd (x:City):(gL x).cells=[str x.name,.int x.order,.int x.currency,ints x.rest,ints x.feasts,ints x.shut]:=_root_.id rfl
@[simp] theorem aIe (x:City):D.agg [str x.name,.int x.order,.int x.currency,ints x.rest,ints x.feasts,ints x.shut]=gL x:=_root_.id rfl
@[simp] theorem aE8 (x:City):jZ 6 (gL x)=gL x:=_root_.id rfl
@[simp] theorem aC7 (x:City):(gL x).c 0=str x.name:=_root_.id rfl
@[simp] theorem aC8 (x:City):(gL x).c 1=.int x.order:=_root_.id rfl
@[simp] theorem aC9 (x:City):(gL x).c 2=.int x.currency:=_root_.id rfl
@[simp] theorem aDa (x:City):(gL x).c 3=ints x.rest:=_root_.id rfl
@[simp] theorem aDb (x:City):(gL x).c 4=ints x.feasts:=_root_.id rfl
@[simp] theorem aDc (x:City):(gL x).c 5=ints x.shut:=_root_.id rfl
def oT (l:List City):D:=.list (l.map gL)
@[simp] theorem aFz (l:List City):(oT l).l=l.map gL:=_root_.id rfl
abbrev Z7:Ty:=.agg [.str,.int .i64,.int .i64,.slice (.int .i64),.slice (.int .i64),.slice (.int .i64)]
def City.OK (x:City):Prop:=aY x.order∧aY x.currency∧(x.rest.length≤maxLen∧∀y,y∈x.rest→aY y)∧(x.feasts.length≤maxLen∧∀y,y∈x.feasts→aY y)∧(x.shut.length≤maxLen∧∀y,y∈x.shut→aY y)
theorem amJ {d:D}(h:DTy Z7 d):∃x:City,d=gL x∧x.OK:=by
 obtain⟨ds,rfl,hs⟩:=h.agg_inv;obtain⟨d0,ds,rfl,h0,hs⟩:=hs.cons_inv;obtain⟨d1,ds,rfl,h1,hs⟩:=hs.cons_inv;obtain⟨d2,ds,rfl,h2,hs⟩:=hs.cons_inv;obtain⟨d3,ds,rfl,h3,hs⟩:=hs.cons_inv;obtain⟨d4,ds,rfl,h4,hs⟩:=hs.cons_inv;obtain⟨d5,ds,rfl,h5,hs⟩:=hs.cons_inv;obtain rfl:=hs.nil_inv;obtain⟨n0,rfl⟩:=str_inv h0;obtain⟨n1,rfl,b1⟩:=h1.i64_inv;obtain⟨n2,rfl,b2⟩:=h2.i64_inv;obtain⟨n3,rfl,b3,c3⟩:=h3.ints_inv;obtain⟨n4,rfl,b4,c4⟩:=h4.ints_inv;obtain⟨n5,rfl,b5,c5⟩:=h5.ints_inv;exact⟨⟨n0,n1,n2,n3,n4,n5⟩,rfl,⟨b1,b2,⟨b3,c3⟩,⟨b4,c4⟩,⟨b5,c5⟩⟩⟩
theorem amK {d:D}(h:DTy (.slice Z7) d):∃l:List City,d=oT l∧l.length≤maxLen∧∀y,y∈l→City.OK y:=by
 obtain⟨xs,rfl,hm,hx⟩:=h.slice_inv;obtain⟨l,rfl,hl⟩:=ka (enc:=gL) (P:=City.OK) fun x hh=>amJ (hx x hh);exact⟨l,rfl,by simpa using hm,hl⟩
structure Firm where
 name:ByteArray
 city:Int
 group:Int
 deriving Inhabited
def ud (x:Firm):D:=.agg [str x.name,.int x.city,.int x.group]
@[simp] theorem aDA (x:Firm):(ud x).cells=[str x.name,.int x.city,.int x.group]:=_root_.id rfl
@[simp] theorem aIi (x:Firm):D.agg [str x.name,.int x.city,.int x.group]=ud x:=_root_.id rfl
@[simp] theorem aDx (x:Firm):(ud x).c 0=str x.name:=_root_.id rfl
@[simp] theorem aDy (x:Firm):(ud x).c 1=.int x.city:=_root_.id rfl
@[simp] theorem aDz (x:Firm):(ud x).c 2=.int x.group:=_root_.id rfl
def firms (l:List Firm):D:=.list (l.map ud)
@[simp] theorem aGQ (l:List Firm):(firms l).l=l.map ud:=_root_.id rfl
abbrev Z9:Ty:=.agg [.str,.int .i64,.int .i64]
def Firm.OK (x:Firm):Prop:=aY x.city∧aY x.group
theorem aoG {d:D}(h:DTy Z9 d):∃x:Firm,d=ud x∧x.OK:=by
 obtain⟨ds,rfl,hs⟩:=h.agg_inv;obtain⟨d0,ds,rfl,h0,hs⟩:=hs.cons_inv;obtain⟨d1,ds,rfl,h1,hs⟩:=hs.cons_inv;obtain⟨d2,ds,rfl,h2,hs⟩:=hs.cons_inv;obtain rfl:=hs.nil_inv;obtain⟨n0,rfl⟩:=str_inv h0;obtain⟨n1,rfl,b1⟩:=h1.i64_inv;obtain⟨n2,rfl,b2⟩:=h2.i64_inv;exact⟨⟨n0,n1,n2⟩,rfl,⟨b1,b2⟩⟩
theorem aoH {d:D}(h:DTy (.slice Z9) d):∃l:List Firm,d=firms l∧l.length≤maxLen∧∀y,y∈l→Firm.OK y:=by
 obtain⟨xs,rfl,hm,hx⟩:=h.slice_inv;obtain⟨l,rfl,hl⟩:=ka (enc:=ud) (P:=Firm.OK) fun x hh=>aoG (hx x hh);exact⟨l,rfl,by simpa using hm,hl⟩
structure Group where
 grade:Int
 deriving DecidableEq,Inhabited
def qI (x:Group):D:=.agg [.int x.grade]
@[simp] theorem aDC (x:Group):(qI x).cells=[.int x.grade]:=_root_.id rfl
@[simp] theorem aIj (x:Group):D.agg [.int x.grade]=qI x:=_root_.id rfl
@[simp] theorem aDB (x:Group):(qI x).c 0=.int x.grade:=_root_.id rfl
def groups (l:List Group):D:=.list (l.map qI)
@[simp] theorem aGY (l:List Group):(groups l).l=l.map qI:=_root_.id rfl
abbrev aaa:Ty:=.agg [.int .i64]
def Group.OK (x:Group):Prop:=aY x.grade
theorem ap3 {d:D}(h:DTy aaa d):∃x:Group,d=qI x∧x.OK:=by
 obtain⟨ds,rfl,hs⟩:=h.agg_inv;obtain⟨d0,ds,rfl,h0,hs⟩:=hs.cons_inv;obtain rfl:=hs.nil_inv;obtain⟨n0,rfl,b0⟩:=h0.i64_inv;exact⟨⟨n0⟩,rfl,b0⟩
theorem ap6 {d:D}(h:DTy (.slice aaa) d):∃l:List Group,d=groups l∧l.length≤maxLen∧∀y,y∈l→Group.OK y:=by
 obtain⟨xs,rfl,hm,hx⟩:=h.slice_inv;obtain⟨l,rfl,hl⟩:=ka (enc:=qI) (P:=Group.OK) fun x hh=>ap3 (hx x hh);exact⟨l,rfl,by simpa using hm,hl⟩
structure Usance where
 fr:Int
 to:Int
 days:Int
 deriving DecidableEq,Inhabited
def ui (x:Usance):D:=.agg [.int x.fr,.int x.to,.int x.days]
@[simp] theorem aEA (x:Usance):(ui x).cells=[.int x.fr,.int x.to,.int x.days]:=_root_.id rfl
@[simp] theorem aIv (x:Usance):D.agg [.int x.fr,.int x.to,.int x.days]=ui x:=_root_.id rfl
@[simp] theorem aEx (x:Usance):(ui x).c 0=.int x.fr:=_root_.id rfl
@[simp] theorem aEy (x:Usance):(ui x).c 1=.int x.to:=_root_.id rfl
@[simp] theorem aEz (x:Usance):(ui x).c 2=.int x.days:=_root_.id rfl
def usances (l:List Usance):D:=.list (l.map ui)
@[simp] theorem aJu (l:List Usance):(usances l).l=l.map ui:=_root_.id rfl
abbrev aag:Ty:=.agg [.int .i64,.int .i64,.int .i64]
def Usance.OK (x:Usance):Prop:=aY x.fr∧aY x.to∧aY x.days
theorem aBO {d:D}(h:DTy aag d):∃x:Usance,d=ui x∧x.OK:=by
 obtain⟨ds,rfl,hs⟩:=h.agg_inv;obtain⟨d0,ds,rfl,h0,hs⟩:=hs.cons_inv;obtain⟨d1,ds,rfl,h1,hs⟩:=hs.cons_inv;obtain⟨d2,ds,rfl,h2,hs⟩:=hs.cons_inv;obtain rfl:=hs.nil_inv;obtain⟨n0,rfl,b0⟩:=h0.i64_inv;obtain⟨n1,rfl,b1⟩:=h1.i64_inv;obtain⟨n2,rfl,b2⟩:=h2.i64_inv;exact⟨⟨n0,n1,n2⟩,rfl,⟨b0,b1,b2⟩⟩
theorem aBP {d:D}(h:DTy (.slice aag) d):∃l:List Usance,d=usances l∧l.length≤maxLen∧∀y,y∈l→Usance.OK y:=by
 obtain⟨xs,rfl,hm,hx⟩:=h.slice_inv;obtain⟨l,rfl,hl⟩:=ka (enc:=ui) (P:=Usance.OK) fun x hh=>aBO (hx x hh);exact⟨l,rfl,by simpa using hm,hl⟩
structure Rate where
 fr:Int
 to:Int
 num:Int
 den:Int
 since:Int
 deriving DecidableEq,Inhabited
def qJ (x:Rate):D:=.agg [.int x.fr,.int x.to,.int x.num,.int x.den,.int x.since]
@[simp] theorem aDU (x:Rate):(qJ x).cells=[.int x.fr,.int x.to,.int x.num,.int x.den,.int x.since]:=_root_.id rfl
@[simp] theorem aIn (x:Rate):D.agg [.int x.fr,.int x.to,.int x.num,.int x.den,.int x.since]=qJ x:=_root_.id rfl
@[simp] theorem aDP (x:Rate):(qJ x).c 0=.int x.fr:=_root_.id rfl
@[simp] theorem aDQ (x:Rate):(qJ x).c 1=.int x.to:=_root_.id rfl
@[simp] theorem aDR (x:Rate):(qJ x).c 2=.int x.num:=_root_.id rfl
@[simp] theorem aDS (x:Rate):(qJ x).c 3=.int x.den:=_root_.id rfl
@[simp] theorem aDT (x:Rate):(qJ x).c 4=.int x.since:=_root_.id rfl
def rates (l:List Rate):D:=.list (l.map qJ)
@[simp] theorem aIP (l:List Rate):(rates l).l=l.map qJ:=_root_.id rfl
abbrev aad:Ty:=.agg [.int .i64,.int .i64,.int .i64,.int .i64,.int .i64]
def Rate.OK (x:Rate):Prop:=aY x.fr∧aY x.to∧aY x.num∧aY x.den∧aY x.since
theorem axt {d:D}(h:DTy aad d):∃x:Rate,d=qJ x∧x.OK:=by
 obtain⟨ds,rfl,hs⟩:=h.agg_inv;obtain⟨d0,ds,rfl,h0,hs⟩:=hs.cons_inv;obtain⟨d1,ds,rfl,h1,hs⟩:=hs.cons_inv;obtain⟨d2,ds,rfl,h2,hs⟩:=hs.cons_inv;obtain⟨d3,ds,rfl,h3,hs⟩:=hs.cons_inv;obtain⟨d4,ds,rfl,h4,hs⟩:=hs.cons_inv;obtain rfl:=hs.nil_inv;obtain⟨n0,rfl,b0⟩:=h0.i64_inv;obtain⟨n1,rfl,b1⟩:=h1.i64_inv;obtain⟨n2,rfl,b2⟩:=h2.i64_inv;obtain⟨n3,rfl,b3⟩:=h3.i64_inv;obtain⟨n4,rfl,b4⟩:=h4.i64_inv;exact⟨⟨n0,n1,n2,n3,n4⟩,rfl,⟨b0,b1,b2,b3,b4⟩⟩
theorem axu {d:D}(h:DTy (.slice aad) d):∃l:List Rate,d=rates l∧l.length≤maxLen∧∀y,y∈l→Rate.OK y:=by
 obtain⟨xs,rfl,hm,hx⟩:=h.slice_inv;obtain⟨l,rfl,hl⟩:=ka (enc:=qJ) (P:=Rate.OK) fun x hh=>axt (hx x hh);exact⟨l,rfl,by simpa using hm,hl⟩
structure Halt where
 order:Int
 fr:Int
 to:Int
 deriving DecidableEq,Inhabited
def uf (x:Halt):D:=.agg [.int x.order,.int x.fr,.int x.to]
@[simp] theorem aDG (x:Halt):(uf x).cells=[.int x.order,.int x.fr,.int x.to]:=_root_.id rfl
@[simp] theorem aIk (x:Halt):D.agg [.int x.order,.int x.fr,.int x.to]=uf x:=_root_.id rfl
@[simp] theorem aDD (x:Halt):(uf x).c 0=.int x.order:=_root_.id rfl
@[simp] theorem aDE (x:Halt):(uf x).c 1=.int x.fr:=_root_.id rfl
@[simp] theorem aDF (x:Halt):(uf x).c 2=.int x.to:=_root_.id rfl
def halts (l:List Halt):D:=.list (l.map uf)
@[simp] theorem aHb (l:List Halt):(halts l).l=l.map uf:=_root_.id rfl
abbrev aab:Ty:=.agg [.int .i64,.int .i64,.int .i64]
def Halt.OK (x:Halt):Prop:=aY x.order∧aY x.fr∧aY x.to
theorem aqA {d:D}(h:DTy aab d):∃x:Halt,d=uf x∧x.OK:=by
 obtain⟨ds,rfl,hs⟩:=h.agg_inv;obtain⟨d0,ds,rfl,h0,hs⟩:=hs.cons_inv;obtain⟨d1,ds,rfl,h1,hs⟩:=hs.cons_inv;obtain⟨d2,ds,rfl,h2,hs⟩:=hs.cons_inv;obtain rfl:=hs.nil_inv;obtain⟨n0,rfl,b0⟩:=h0.i64_inv;obtain⟨n1,rfl,b1⟩:=h1.i64_inv;obtain⟨n2,rfl,b2⟩:=h2.i64_inv;exact⟨⟨n0,n1,n2⟩,rfl,⟨b0,b1,b2⟩⟩
theorem aqB {d:D}(h:DTy (.slice aab) d):∃l:List Halt,d=halts l∧l.length≤maxLen∧∀y,y∈l→Halt.OK y:=by
 obtain⟨xs,rfl,hm,hx⟩:=h.slice_inv;obtain⟨l,rfl,hl⟩:=ka (enc:=uf) (P:=Halt.OK) fun x hh=>aqA (hx x hh);exact⟨l,rfl,by simpa using hm,hl⟩
structure Choice where
 ask:Int
 by_:Int
 whole:Bool
 deriving DecidableEq,Inhabited
def vu (x:Choice):D:=.agg [.int x.ask,.int x.by_,.bool x.whole]
@[simp] theorem aC6 (x:Choice):(vu x).cells=[.int x.ask,.int x.by_,.bool x.whole]:=_root_.id rfl
@[simp] theorem aId (x:Choice):D.agg [.int x.ask,.int x.by_,.bool x.whole]=vu x:=_root_.id rfl
@[simp] theorem aC4 (x:Choice):(vu x).c 0=.int x.ask:=_root_.id rfl
@[simp] theorem aC5 (x:Choice):(vu x).c 1=.int x.by_:=_root_.id rfl
def choices (l:List Choice):D:=.list (l.map vu)
@[simp] theorem aFy (l:List Choice):(choices l).l=l.map vu:=_root_.id rfl
abbrev Z6:Ty:=.agg [.int .i64,.int .i64,.bool]
def Choice.OK (x:Choice):Prop:=aY x.ask∧aY x.by_
theorem amG {d:D}(h:DTy Z6 d):∃x:Choice,d=vu x∧x.OK:=by
 obtain⟨ds,rfl,hs⟩:=h.agg_inv;obtain⟨d0,ds,rfl,h0,hs⟩:=hs.cons_inv;obtain⟨d1,ds,rfl,h1,hs⟩:=hs.cons_inv;obtain⟨d2,ds,rfl,h2,hs⟩:=hs.cons_inv;obtain rfl:=hs.nil_inv;obtain⟨n0,rfl,b0⟩:=h0.i64_inv;obtain⟨n1,rfl,b1⟩:=h1.i64_inv;obtain⟨n2,rfl⟩:=h2.bool_inv;exact⟨⟨n0,n1,n2⟩,rfl,⟨b0,b1⟩⟩
theorem amH {d:D}(h:DTy (.slice Z6) d):∃l:List Choice,d=choices l∧l.length≤maxLen∧∀y,y∈l→Choice.OK y:=by
 obtain⟨xs,rfl,hm,hx⟩:=h.slice_inv;obtain⟨l,rfl,hl⟩:=ka (enc:=vu) (P:=Choice.OK) fun x hh=>amG (hx x hh);exact⟨l,rfl,by simpa using hm,hl⟩
structure Rule where
 ask:Int
 term:Tm
 deriving Inhabited
def ug (x:Rule):D:=.agg [.int x.ask,.int x.term.op,.int x.term.n,.list (x.term.args.map dP)]
@[simp] theorem aD8 (x:Rule):(ug x).cells=[.int x.ask,.int x.term.op,.int x.term.n,.list (x.term.args.map dP)]:=_root_.id rfl
@[simp] theorem aIq (x:Rule):D.agg [.int x.ask,.int x.term.op,.int x.term.n,.list (x.term.args.map dP)]=ug x:=_root_.id rfl
@[simp] theorem aD7 (x:Rule):(ug x).c 0=.int x.ask:=_root_.id rfl
def rules (l:List Rule):D:=.list (l.map ug)
@[simp] theorem aIV (l:List Rule):(rules l).l=l.map ug:=_root_.id rfl
abbrev aae:Ty:=.agg [.int .i64,.int .i64,.int .i64,.slice .trm]
def Rule.OK (x:Rule):Prop:=aY x.ask∧Tm.OK x.term
theorem ax6 {d:D}(h:DTy aae d):∃x:Rule,d=ug x∧x.OK:=by
 obtain⟨ds,rfl,hs⟩:=h.agg_inv;obtain⟨d0,ds,rfl,h0,hs⟩:=hs.cons_inv;obtain⟨d1,ds,rfl,h1,hs⟩:=hs.cons_inv;obtain⟨d2,ds,rfl,h2,hs⟩:=hs.cons_inv;obtain⟨d3,ds,rfl,h3,hs⟩:=hs.cons_inv;obtain rfl:=hs.nil_inv;obtain⟨n0,rfl,b0⟩:=h0.i64_inv;obtain⟨n1,rfl,b1⟩:=h1.i64_inv;obtain⟨n2,rfl,b2⟩:=h2.i64_inv;obtain⟨n3,rfl,b3,c3⟩:=h3.trms_inv;exact⟨⟨n0,.mk n1 n2 n3⟩,rfl,⟨b0,.mk _ _ _ b1 b2 b3 c3⟩⟩
theorem ax7 {d:D}(h:DTy (.slice aae) d):∃l:List Rule,d=rules l∧l.length≤maxLen∧∀y,y∈l→Rule.OK y:=by
 obtain⟨xs,rfl,hm,hx⟩:=h.slice_inv;obtain⟨l,rfl,hl⟩:=ka (enc:=ug) (P:=Rule.OK) fun x hh=>ax6 (hx x hh);exact⟨l,rfl,by simpa using hm,hl⟩
structure Order where
 name:ByteArray
 accepts:Bool
 choices:List Choice
 rules:List Rule
 deriving Inhabited
def j3 (x:Order):D:=.agg [str x.name,.bool x.accepts,choices x.choices,rules x.rules]
@[simp] theorem aDL (x:Order):(j3 x).cells=[str x.name,.bool x.accepts,choices x.choices,rules x.rules]:=_root_.id rfl
@[simp] theorem aIl (x:Order):D.agg [str x.name,.bool x.accepts,choices x.choices,rules x.rules]=j3 x:=_root_.id rfl
@[simp] theorem aFa (x:Order):jZ 4 (j3 x)=j3 x:=_root_.id rfl
@[simp] theorem aDH (x:Order):(j3 x).c 0=str x.name:=_root_.id rfl
@[simp] theorem aDI (x:Order):(j3 x).c 1=.bool x.accepts:=_root_.id rfl
@[simp] theorem aDJ (x:Order):(j3 x).c 2=choices x.choices:=_root_.id rfl
@[simp] theorem aDK (x:Order):(j3 x).c 3=rules x.rules:=_root_.id rfl
def orders (l:List Order):D:=.list (l.map j3)
@[simp] theorem aIB (l:List Order):(orders l).l=l.map j3:=_root_.id rfl
abbrev aac:Ty:=.agg [.str,.bool,.slice Z6,.slice aae]
def Order.OK (x:Order):Prop:=(x.choices.length≤maxLen∧∀y,y∈x.choices→Choice.OK y)∧(x.rules.length≤maxLen∧∀y,y∈x.rules→Rule.OK y)
theorem awh {d:D}(h:DTy aac d):∃x:Order,d=j3 x∧x.OK:=by
 obtain⟨ds,rfl,hs⟩:=h.agg_inv;obtain⟨d0,ds,rfl,h0,hs⟩:=hs.cons_inv;obtain⟨d1,ds,rfl,h1,hs⟩:=hs.cons_inv;obtain⟨d2,ds,rfl,h2,hs⟩:=hs.cons_inv;obtain⟨d3,ds,rfl,h3,hs⟩:=hs.cons_inv;obtain rfl:=hs.nil_inv;obtain⟨n0,rfl⟩:=str_inv h0;obtain⟨n1,rfl⟩:=h1.bool_inv;obtain⟨n2,rfl,b2,c2⟩:=amH h2;obtain⟨n3,rfl,b3,c3⟩:=ax7 h3;exact⟨⟨n0,n1,n2,n3⟩,rfl,⟨⟨b2,c2⟩,⟨b3,c3⟩⟩⟩
theorem awi {d:D}(h:DTy (.slice aac) d):∃l:List Order,d=orders l∧l.length≤maxLen∧∀y,y∈l→Order.OK y:=by
 obtain⟨xs,rfl,hm,hx⟩:=h.slice_inv;obtain⟨l,rfl,hl⟩:=ka (enc:=j3) (P:=Order.OK) fun x hh=>awh (hx x hh);exact⟨l,rfl,by simpa using hm,hl⟩
structure Realm where
 currencies:List ByteArray
 cities:List City
 groups:List Group
 firms:List Firm
 orders:List Order
 usances:List Usance
 rates:List Rate
 halts:List Halt
 deriving Inhabited
def aT (x:Realm):D:=.agg [strs x.currencies,oT x.cities,groups x.groups,firms x.firms,orders x.orders,usances x.usances,rates x.rates,halts x.halts]
@[simp] theorem aD6 (x:Realm):(aT x).cells=[strs x.currencies,oT x.cities,groups x.groups,firms x.firms,orders x.orders,usances x.usances,rates x.rates,halts x.halts]:=_root_.id rfl
@[simp] theorem aIp (x:Realm):D.agg [strs x.currencies,oT x.cities,groups x.groups,firms x.firms,orders x.orders,usances x.usances,rates x.rates,halts x.halts]=aT x:=_root_.id rfl
@[simp] theorem aFb (x:Realm):jZ 8 (aT x)=aT x:=_root_.id rfl
@[simp] theorem aIF (x:Realm)(a0 a1 a2 a3 a4 a5 a6 a7:D):D.agg (dK [a0,a1,a2,a3,a4,a5,a6,a7] 0 [strs x.currencies,oT x.cities,groups x.groups,firms x.firms,orders x.orders,usances x.usances,rates x.rates,halts x.halts])=aT x:=_root_.id rfl
@[simp] theorem aDY (x:Realm):(aT x).c 0=strs x.currencies:=_root_.id rfl
@[simp] theorem aDZ (x:Realm):(aT x).c 1=oT x.cities:=_root_.id rfl
@[simp] theorem aD0 (x:Realm):(aT x).c 2=groups x.groups:=_root_.id rfl
@[simp] theorem aD1 (x:Realm):(aT x).c 3=firms x.firms:=_root_.id rfl
@[simp] theorem aD2 (x:Realm):(aT x).c 4=orders x.orders:=_root_.id rfl
@[simp] theorem aD3 (x:Realm):(aT x).c 5=usances x.usances:=_root_.id rfl
@[simp] theorem aD4 (x:Realm):(aT x).c 6=rates x.rates:=_root_.id rfl
@[simp] theorem aD5 (x:Realm):(aT x).c 7=halts x.halts:=_root_.id rfl
abbrev aBI:Ty:=.agg [.slice .str,.slice Z7,.slice aaa,.slice Z9,.slice aac,.slice aag,.slice aad,.slice aab]
def Realm.OK (x:Realm):Prop:=x.currencies.length≤maxLen∧(x.cities.length≤maxLen∧∀y,y∈x.cities→City.OK y)∧(x.groups.length≤maxLen∧∀y,y∈x.groups→Group.OK y)∧(x.firms.length≤maxLen∧∀y,y∈x.firms→Firm.OK y)∧(x.orders.length≤maxLen∧∀y,y∈x.orders→Order.OK y)∧(x.usances.length≤maxLen∧∀y,y∈x.usances→Usance.OK y)∧(x.rates.length≤maxLen∧∀y,y∈x.rates→Rate.OK y)∧(x.halts.length≤maxLen∧∀y,y∈x.halts→Halt.OK y)
theorem axE {d:D}(h:DTy aBI d):∃x:Realm,d=aT x∧x.OK:=by
 obtain⟨ds,rfl,hs⟩:=h.agg_inv;obtain⟨d0,ds,rfl,h0,hs⟩:=hs.cons_inv;obtain⟨d1,ds,rfl,h1,hs⟩:=hs.cons_inv;obtain⟨d2,ds,rfl,h2,hs⟩:=hs.cons_inv;obtain⟨d3,ds,rfl,h3,hs⟩:=hs.cons_inv;obtain⟨d4,ds,rfl,h4,hs⟩:=hs.cons_inv;obtain⟨d5,ds,rfl,h5,hs⟩:=hs.cons_inv;obtain⟨d6,ds,rfl,h6,hs⟩:=hs.cons_inv;obtain⟨d7,ds,rfl,h7,hs⟩:=hs.cons_inv;obtain rfl:=hs.nil_inv;obtain⟨n0,rfl,b0⟩:=ayE h0;obtain⟨n1,rfl,b1,c1⟩:=amK h1;obtain⟨n2,rfl,b2,c2⟩:=ap6 h2;obtain⟨n3,rfl,b3,c3⟩:=aoH h3;obtain⟨n4,rfl,b4,c4⟩:=awi h4;obtain⟨n5,rfl,b5,c5⟩:=aBP h5;obtain⟨n6,rfl,b6,c6⟩:=axu h6;obtain⟨n7,rfl,b7,c7⟩:=aqB h7;exact⟨⟨n0,n1,n2,n3,n4,n5,n6,n7⟩,rfl,⟨b0,⟨b1,c1⟩,⟨b2,c2⟩,⟨b3,c3⟩,⟨b4,c4⟩,⟨b5,c5⟩,⟨b6,c6⟩,⟨b7,c7⟩⟩⟩
structure Tenor where
 kind:Int
 n:Int
 unit:Int
 deriving DecidableEq,Inhabited
def uh (x:Tenor):D:=.agg [.int x.kind,.int x.n,.int x.unit]
@[simp] theorem aEv (x:Tenor):(uh x).cells=[.int x.kind,.int x.n,.int x.unit]:=_root_.id rfl
@[simp] theorem aIu (x:Tenor):D.agg [.int x.kind,.int x.n,.int x.unit]=uh x:=_root_.id rfl
@[simp] theorem aEs (x:Tenor):(uh x).c 0=.int x.kind:=_root_.id rfl
@[simp] theorem aEt (x:Tenor):(uh x).c 1=.int x.n:=_root_.id rfl
@[simp] theorem aEu (x:Tenor):(uh x).c 2=.int x.unit:=_root_.id rfl
def Tenor.OK (x:Tenor):Prop:=aY x.kind∧aY x.n∧aY x.unit
structure Bill where
 drawer:Int
 drawee:Int
 payee:Int
 sum:Int
 currency:Int
 tenor:Tenor
 day:Int
 city:Int
 pay:Int
 need:Int
 rate:Int
 flags:Int
 parts:Int
 deriving DecidableEq,Inhabited
def eA (x:Bill):D:=.agg [.int x.drawer,.int x.drawee,.int x.payee,.int x.sum,.int x.currency,.int x.tenor.kind,.int x.tenor.n,.int x.tenor.unit,.int x.day,.int x.city,.int x.pay,.int x.need,.int x.rate,.int x.flags,.int x.parts]
@[simp] theorem aCR (x:Bill):(eA x).cells=[.int x.drawer,.int x.drawee,.int x.payee,.int x.sum,.int x.currency,.int x.tenor.kind,.int x.tenor.n,.int x.tenor.unit,.int x.day,.int x.city,.int x.pay,.int x.need,.int x.rate,.int x.flags,.int x.parts]:=_root_.id rfl
@[simp] theorem aIa (x:Bill):D.agg [.int x.drawer,.int x.drawee,.int x.payee,.int x.sum,.int x.currency,.int x.tenor.kind,.int x.tenor.n,.int x.tenor.unit,.int x.day,.int x.city,.int x.pay,.int x.need,.int x.rate,.int x.flags,.int x.parts]=eA x:=_root_.id rfl
@[simp] theorem aE7 (x:Bill):jZ 15 (eA x)=eA x:=_root_.id rfl
@[simp] theorem aIC (x:Bill)(a0 a1 a2 a3 a4 a5 a6 a7 a8 a9 qm qn a12 qo qp:D):D.agg (dK [a0,a1,a2,a3,a4,a5,a6,a7,a8,a9,qm,qn,a12,qo,qp] 0 [.int x.drawer,.int x.drawee,.int x.payee,.int x.sum,.int x.currency,.int x.tenor.kind,.int x.tenor.n,.int x.tenor.unit,.int x.day,.int x.city,.int x.pay,.int x.need,.int x.rate,.int x.flags,.int x.parts])=eA x:=_root_.id rfl
@[simp] theorem aCC (x:Bill):(eA x).c 0=.int x.drawer:=_root_.id rfl
@[simp] theorem aCD (x:Bill):(eA x).c 1=.int x.drawee:=_root_.id rfl
@[simp] theorem aCJ (x:Bill):(eA x).c 2=.int x.payee:=_root_.id rfl
@[simp] theorem aCK (x:Bill):(eA x).c 3=.int x.sum:=_root_.id rfl
@[simp] theorem aCL (x:Bill):(eA x).c 4=.int x.currency:=_root_.id rfl
@[simp] theorem aCM (x:Bill):(eA x).c 5=.int x.tenor.kind:=_root_.id rfl
@[simp] theorem aCN (x:Bill):(eA x).c 6=.int x.tenor.n:=_root_.id rfl
@[simp] theorem aCO (x:Bill):(eA x).c 7=.int x.tenor.unit:=_root_.id rfl
@[simp] theorem aCP (x:Bill):(eA x).c 8=.int x.day:=_root_.id rfl
@[simp] theorem aCQ (x:Bill):(eA x).c 9=.int x.city:=_root_.id rfl
@[simp] theorem aCE (x:Bill):(eA x).c 10=.int x.pay:=_root_.id rfl
@[simp] theorem aCF (x:Bill):(eA x).c 11=.int x.need:=_root_.id rfl
@[simp] theorem aCG (x:Bill):(eA x).c 12=.int x.rate:=_root_.id rfl
@[simp] theorem aCH (x:Bill):(eA x).c 13=.int x.flags:=_root_.id rfl
@[simp] theorem aCI (x:Bill):(eA x).c 14=.int x.parts:=_root_.id rfl
def Bill.OK (x:Bill):Prop:=aY x.drawer∧aY x.drawee∧aY x.payee∧aY x.sum∧aY x.currency∧Tenor.OK x.tenor∧aY x.day∧aY x.city∧aY x.pay∧aY x.need∧aY x.rate∧aY x.flags∧aY x.parts
structure Sign where
 kind:Int
 part:Int
 who:Int
 for_:Int
 to:Int
 sum:Int
 day:Int
 city:Int
 flags:Int
 deriving DecidableEq,Inhabited
def kz (x:Sign):D:=.agg [.int x.kind,.int x.part,.int x.who,.int x.for_,.int x.to,.int x.sum,.int x.day,.int x.city,.int x.flags]
@[simp] theorem aEm (x:Sign):(kz x).cells=[.int x.kind,.int x.part,.int x.who,.int x.for_,.int x.to,.int x.sum,.int x.day,.int x.city,.int x.flags]:=_root_.id rfl
@[simp] theorem aIt (x:Sign):D.agg [.int x.kind,.int x.part,.int x.who,.int x.for_,.int x.to,.int x.sum,.int x.day,.int x.city,.int x.flags]=kz x:=_root_.id rfl
@[simp] theorem aFd (x:Sign):jZ 9 (kz x)=kz x:=_root_.id rfl
@[simp] theorem aEd (x:Sign):(kz x).c 0=.int x.kind:=_root_.id rfl
@[simp] theorem aEe (x:Sign):(kz x).c 1=.int x.part:=_root_.id rfl
@[simp] theorem aEf (x:Sign):(kz x).c 2=.int x.who:=_root_.id rfl
@[simp] theorem aEg (x:Sign):(kz x).c 3=.int x.for_:=_root_.id rfl
@[simp] theorem aEh (x:Sign):(kz x).c 4=.int x.to:=_root_.id rfl
@[simp] theorem aEi (x:Sign):(kz x).c 5=.int x.sum:=_root_.id rfl
@[simp] theorem aEj (x:Sign):(kz x).c 6=.int x.day:=_root_.id rfl
@[simp] theorem aEk (x:Sign):(kz x).c 7=.int x.city:=_root_.id rfl
@[simp] theorem aEl (x:Sign):(kz x).c 8=.int x.flags:=_root_.id rfl
def signs (l:List Sign):D:=.list (l.map kz)
@[simp] theorem aI8 (l:List Sign):(signs l).l=l.map kz:=_root_.id rfl
@[simp] theorem aI7 (l:List Sign):(signs l).cells=[signs l]:=_root_.id rfl
abbrev aaf:Ty:=.agg [.int .i64,.int .i64,.int .i64,.int .i64,.int .i64,.int .i64,.int .i64,.int .i64,.int .i64]
def Sign.OK (x:Sign):Prop:=aY x.kind∧aY x.part∧aY x.who∧aY x.for_∧aY x.to∧aY x.sum∧aY x.day∧aY x.city∧aY x.flags
theorem ayp {d:D}(h:DTy aaf d):∃x:Sign,d=kz x∧x.OK:=by
 obtain⟨ds,rfl,hs⟩:=h.agg_inv;obtain⟨d0,ds,rfl,h0,hs⟩:=hs.cons_inv;obtain⟨d1,ds,rfl,h1,hs⟩:=hs.cons_inv;obtain⟨d2,ds,rfl,h2,hs⟩:=hs.cons_inv;obtain⟨d3,ds,rfl,h3,hs⟩:=hs.cons_inv;obtain⟨d4,ds,rfl,h4,hs⟩:=hs.cons_inv;obtain⟨d5,ds,rfl,h5,hs⟩:=hs.cons_inv;obtain⟨d6,ds,rfl,h6,hs⟩:=hs.cons_inv;obtain⟨d7,ds,rfl,h7,hs⟩:=hs.cons_inv;obtain⟨d8,ds,rfl,h8,hs⟩:=hs.cons_inv;obtain rfl:=hs.nil_inv;obtain⟨n0,rfl,b0⟩:=h0.i64_inv;obtain⟨n1,rfl,b1⟩:=h1.i64_inv;obtain⟨n2,rfl,b2⟩:=h2.i64_inv;obtain⟨n3,rfl,b3⟩:=h3.i64_inv;obtain⟨n4,rfl,b4⟩:=h4.i64_inv;obtain⟨n5,rfl,b5⟩:=h5.i64_inv;obtain⟨n6,rfl,b6⟩:=h6.i64_inv;obtain⟨n7,rfl,b7⟩:=h7.i64_inv;obtain⟨n8,rfl,b8⟩:=h8.i64_inv;exact⟨⟨n0,n1,n2,n3,n4,n5,n6,n7,n8⟩,rfl,⟨b0,b1,b2,b3,b4,b5,b6,b7,b8⟩⟩
theorem ayr {d:D}(h:DTy (.slice aaf) d):∃l:List Sign,d=signs l∧l.length≤maxLen∧∀y,y∈l→Sign.OK y:=by
 obtain⟨xs,rfl,hm,hx⟩:=h.slice_inv;obtain⟨l,rfl,hl⟩:=ka (enc:=kz) (P:=Sign.OK) fun x hh=>ayp (hx x hh);exact⟨l,rfl,by simpa using hm,hl⟩
structure Alter where
 at_:Int
 sum:Int
 deriving DecidableEq,Inhabited
def qH (x:Alter):D:=.agg [.int x.at_,.int x.sum]
@[simp] theorem aCB (x:Alter):(qH x).cells=[.int x.at_,.int x.sum]:=_root_.id rfl
@[simp] theorem aH9 (x:Alter):D.agg [.int x.at_,.int x.sum]=qH x:=_root_.id rfl
@[simp] theorem aCz (x:Alter):(qH x).c 0=.int x.at_:=_root_.id rfl
@[simp] theorem aCA (x:Alter):(qH x).c 1=.int x.sum:=_root_.id rfl
def alters (l:List Alter):D:=.list (l.map qH)
@[simp] theorem aFh (l:List Alter):(alters l).l=l.map qH:=_root_.id rfl
@[simp] theorem aFg (l:List Alter):(alters l).cells=[alters l]:=_root_.id rfl
abbrev Z5:Ty:=.agg [.int .i64,.int .i64]
def Alter.OK (x:Alter):Prop:=aY x.at_∧aY x.sum
theorem alE {d:D}(h:DTy Z5 d):∃x:Alter,d=qH x∧x.OK:=by
 obtain⟨ds,rfl,hs⟩:=h.agg_inv;obtain⟨d0,ds,rfl,h0,hs⟩:=hs.cons_inv;obtain⟨d1,ds,rfl,h1,hs⟩:=hs.cons_inv;obtain rfl:=hs.nil_inv;obtain⟨n0,rfl,b0⟩:=h0.i64_inv;obtain⟨n1,rfl,b1⟩:=h1.i64_inv;exact⟨⟨n0,n1⟩,rfl,⟨b0,b1⟩⟩
theorem alF {d:D}(h:DTy (.slice Z5) d):∃l:List Alter,d=alters l∧l.length≤maxLen∧∀y,y∈l→Alter.OK y:=by
 obtain⟨xs,rfl,hm,hx⟩:=h.slice_inv;obtain⟨l,rfl,hl⟩:=ka (enc:=qH) (P:=Alter.OK) fun x hh=>alE (hx x hh);exact⟨l,rfl,by simpa using hm,hl⟩
structure Act where
 kind:Int
 who:Int
 to:Int
 part:Int
 at_:Int
 sum:Int
 day:Int
 city:Int
 form:Int
 deriving DecidableEq,Inhabited
def j1 (x:Act):D:=.agg [.int x.kind,.int x.who,.int x.to,.int x.part,.int x.at_,.int x.sum,.int x.day,.int x.city,.int x.form]
@[simp] theorem aCy (x:Act):(j1 x).cells=[.int x.kind,.int x.who,.int x.to,.int x.part,.int x.at_,.int x.sum,.int x.day,.int x.city,.int x.form]:=_root_.id rfl
@[simp] theorem aH8 (x:Act):D.agg [.int x.kind,.int x.who,.int x.to,.int x.part,.int x.at_,.int x.sum,.int x.day,.int x.city,.int x.form]=j1 x:=_root_.id rfl
@[simp] theorem aE6 (x:Act):jZ 9 (j1 x)=j1 x:=_root_.id rfl
@[simp] theorem aCp (x:Act):(j1 x).c 0=.int x.kind:=_root_.id rfl
@[simp] theorem aCq (x:Act):(j1 x).c 1=.int x.who:=_root_.id rfl
@[simp] theorem aCr (x:Act):(j1 x).c 2=.int x.to:=_root_.id rfl
@[simp] theorem aCs (x:Act):(j1 x).c 3=.int x.part:=_root_.id rfl
@[simp] theorem aCt (x:Act):(j1 x).c 4=.int x.at_:=_root_.id rfl
@[simp] theorem aCu (x:Act):(j1 x).c 5=.int x.sum:=_root_.id rfl
@[simp] theorem aCv (x:Act):(j1 x).c 6=.int x.day:=_root_.id rfl
@[simp] theorem aCw (x:Act):(j1 x).c 7=.int x.city:=_root_.id rfl
@[simp] theorem aCx (x:Act):(j1 x).c 8=.int x.form:=_root_.id rfl
def acts (l:List Act):D:=.list (l.map j1)
@[simp] theorem aE0 (l:List Act):(acts l).l=l.map j1:=_root_.id rfl
@[simp] theorem aEZ (l:List Act):(acts l).cells=[acts l]:=_root_.id rfl
abbrev Z4:Ty:=.agg [.int .i64,.int .i64,.int .i64,.int .i64,.int .i64,.int .i64,.int .i64,.int .i64,.int .i64]
def Act.OK (x:Act):Prop:=aY x.kind∧aY x.who∧aY x.to∧aY x.part∧aY x.at_∧aY x.sum∧aY x.day∧aY x.city∧aY x.form
theorem alu {d:D}(h:DTy Z4 d):∃x:Act,d=j1 x∧x.OK:=by
 obtain⟨ds,rfl,hs⟩:=h.agg_inv;obtain⟨d0,ds,rfl,h0,hs⟩:=hs.cons_inv;obtain⟨d1,ds,rfl,h1,hs⟩:=hs.cons_inv;obtain⟨d2,ds,rfl,h2,hs⟩:=hs.cons_inv;obtain⟨d3,ds,rfl,h3,hs⟩:=hs.cons_inv;obtain⟨d4,ds,rfl,h4,hs⟩:=hs.cons_inv;obtain⟨d5,ds,rfl,h5,hs⟩:=hs.cons_inv;obtain⟨d6,ds,rfl,h6,hs⟩:=hs.cons_inv;obtain⟨d7,ds,rfl,h7,hs⟩:=hs.cons_inv;obtain⟨d8,ds,rfl,h8,hs⟩:=hs.cons_inv;obtain rfl:=hs.nil_inv;obtain⟨n0,rfl,b0⟩:=h0.i64_inv;obtain⟨n1,rfl,b1⟩:=h1.i64_inv;obtain⟨n2,rfl,b2⟩:=h2.i64_inv;obtain⟨n3,rfl,b3⟩:=h3.i64_inv;obtain⟨n4,rfl,b4⟩:=h4.i64_inv;obtain⟨n5,rfl,b5⟩:=h5.i64_inv;obtain⟨n6,rfl,b6⟩:=h6.i64_inv;obtain⟨n7,rfl,b7⟩:=h7.i64_inv;obtain⟨n8,rfl,b8⟩:=h8.i64_inv;exact⟨⟨n0,n1,n2,n3,n4,n5,n6,n7,n8⟩,rfl,⟨b0,b1,b2,b3,b4,b5,b6,b7,b8⟩⟩
theorem alv {d:D}(h:DTy (.slice Z4) d):∃l:List Act,d=acts l∧l.length≤maxLen∧∀y,y∈l→Act.OK y:=by
 obtain⟨xs,rfl,hm,hx⟩:=h.slice_inv;obtain⟨l,rfl,hl⟩:=ka (enc:=j1) (P:=Act.OK) fun x hh=>alu (hx x hh);exact⟨l,rfl,by simpa using hm,hl⟩
structure Fact where
 kind:Int
 at_:Int
 n:Int
 deriving DecidableEq,Inhabited
def uc (x:Fact):D:=.agg [.int x.kind,.int x.at_,.int x.n]
@[simp] theorem aDn (x:Fact):(uc x).cells=[.int x.kind,.int x.at_,.int x.n]:=_root_.id rfl
@[simp] theorem aIg (x:Fact):D.agg [.int x.kind,.int x.at_,.int x.n]=uc x:=_root_.id rfl
@[simp] theorem aDk (x:Fact):(uc x).c 0=.int x.kind:=_root_.id rfl
@[simp] theorem aDl (x:Fact):(uc x).c 1=.int x.at_:=_root_.id rfl
@[simp] theorem aDm (x:Fact):(uc x).c 2=.int x.n:=_root_.id rfl
def facts (l:List Fact):D:=.list (l.map uc)
@[simp] theorem aGO (l:List Fact):(facts l).l=l.map uc:=_root_.id rfl
@[simp] theorem aGN (l:List Fact):(facts l).cells=[facts l]:=_root_.id rfl
abbrev Z8:Ty:=.agg [.int .i64,.int .i64,.int .i64]
def Fact.OK (x:Fact):Prop:=aY x.kind∧aY x.at_∧aY x.n
theorem aoy {d:D}(h:DTy Z8 d):∃x:Fact,d=uc x∧x.OK:=by
 obtain⟨ds,rfl,hs⟩:=h.agg_inv;obtain⟨d0,ds,rfl,h0,hs⟩:=hs.cons_inv;obtain⟨d1,ds,rfl,h1,hs⟩:=hs.cons_inv;obtain⟨d2,ds,rfl,h2,hs⟩:=hs.cons_inv;obtain rfl:=hs.nil_inv;obtain⟨n0,rfl,b0⟩:=h0.i64_inv;obtain⟨n1,rfl,b1⟩:=h1.i64_inv;obtain⟨n2,rfl,b2⟩:=h2.i64_inv;exact⟨⟨n0,n1,n2⟩,rfl,⟨b0,b1,b2⟩⟩
theorem aoz {d:D}(h:DTy (.slice Z8) d):∃l:List Fact,d=facts l∧l.length≤maxLen∧∀y,y∈l→Fact.OK y:=by
 obtain⟨xs,rfl,hm,hx⟩:=h.slice_inv;obtain⟨l,rfl,hl⟩:=ka (enc:=uc) (P:=Fact.OK) fun x hh=>aoy (hx x hh);exact⟨l,rfl,by simpa using hm,hl⟩
structure File where
 bill:Bill
 signs:List Sign
 alters:List Alter
 acts:List Act
 facts:List Fact
 deriving Inhabited
def cg (x:File):D:=.agg [.int x.bill.drawer,.int x.bill.drawee,.int x.bill.payee,.int x.bill.sum,.int x.bill.currency,.int x.bill.tenor.kind,.int x.bill.tenor.n,.int x.bill.tenor.unit,.int x.bill.day,.int x.bill.city,.int x.bill.pay,.int x.bill.need,.int x.bill.rate,.int x.bill.flags,.int x.bill.parts,signs x.signs,alters x.alters,acts x.acts,facts x.facts]
@[simp] theorem aDw (x:File):(cg x).cells=[.int x.bill.drawer,.int x.bill.drawee,.int x.bill.payee,.int x.bill.sum,.int x.bill.currency,.int x.bill.tenor.kind,.int x.bill.tenor.n,.int x.bill.tenor.unit,.int x.bill.day,.int x.bill.city,.int x.bill.pay,.int x.bill.need,.int x.bill.rate,.int x.bill.flags,.int x.bill.parts,signs x.signs,alters x.alters,acts x.acts,facts x.facts]:=_root_.id rfl
@[simp] theorem aIh (x:File):D.agg [.int x.bill.drawer,.int x.bill.drawee,.int x.bill.payee,.int x.bill.sum,.int x.bill.currency,.int x.bill.tenor.kind,.int x.bill.tenor.n,.int x.bill.tenor.unit,.int x.bill.day,.int x.bill.city,.int x.bill.pay,.int x.bill.need,.int x.bill.rate,.int x.bill.flags,.int x.bill.parts,signs x.signs,alters x.alters,acts x.acts,facts x.facts]=cg x:=_root_.id rfl
@[simp] theorem aE9 (x:File):jZ 19 (cg x)=cg x:=_root_.id rfl
@[simp] theorem aID (x:File)(a0 a1 a2 a3 a4 a5 a6 a7 a8 a9 qm qn a12 qo qp tS tT a17 tV:D):D.agg (dK [a0,a1,a2,a3,a4,a5,a6,a7,a8,a9,qm,qn,a12,qo,qp,tS,tT,a17,tV] 0 [.int x.bill.drawer,.int x.bill.drawee,.int x.bill.payee,.int x.bill.sum,.int x.bill.currency,.int x.bill.tenor.kind,.int x.bill.tenor.n,.int x.bill.tenor.unit,.int x.bill.day,.int x.bill.city,.int x.bill.pay,.int x.bill.need,.int x.bill.rate,.int x.bill.flags,.int x.bill.parts,signs x.signs,alters x.alters,acts x.acts,facts x.facts])=cg x:=_root_.id rfl
@[simp] theorem aDt (x:File):(cg x).c 3=.int x.bill.sum:=_root_.id rfl
@[simp] theorem aDu (x:File):(cg x).c 5=.int x.bill.tenor.kind:=_root_.id rfl
@[simp] theorem aDv (x:File):(cg x).c 8=.int x.bill.day:=_root_.id rfl
@[simp] theorem aDo (x:File):(cg x).c 14=.int x.bill.parts:=_root_.id rfl
@[simp] theorem aDp (x:File):(cg x).c 15=signs x.signs:=_root_.id rfl
@[simp] theorem aDq (x:File):(cg x).c 16=alters x.alters:=_root_.id rfl
@[simp] theorem aDr (x:File):(cg x).c 17=acts x.acts:=_root_.id rfl
@[simp] theorem aDs (x:File):(cg x).c 18=facts x.facts:=_root_.id rfl
abbrev aBG:Ty:=.agg [.int .i64,.int .i64,.int .i64,.int .i64,.int .i64,.int .i64,.int .i64,.int .i64,.int .i64,.int .i64,.int .i64,.int .i64,.int .i64,.int .i64,.int .i64,.slice aaf,.slice Z5,.slice Z4,.slice Z8]
def File.OK (x:File):Prop:=Bill.OK x.bill∧(x.signs.length≤maxLen∧∀y,y∈x.signs→Sign.OK y)∧(x.alters.length≤maxLen∧∀y,y∈x.alters→Alter.OK y)∧(x.acts.length≤maxLen∧∀y,y∈x.acts→Act.OK y)∧(x.facts.length≤maxLen∧∀y,y∈x.facts→Fact.OK y)
theorem aoA {d:D}(h:DTy aBG d):∃x:File,d=cg x∧x.OK:=by
 obtain⟨ds,rfl,hs⟩:=h.agg_inv;obtain⟨d0,ds,rfl,h0,hs⟩:=hs.cons_inv;obtain⟨d1,ds,rfl,h1,hs⟩:=hs.cons_inv;obtain⟨d2,ds,rfl,h2,hs⟩:=hs.cons_inv;obtain⟨d3,ds,rfl,h3,hs⟩:=hs.cons_inv;obtain⟨d4,ds,rfl,h4,hs⟩:=hs.cons_inv;obtain⟨d5,ds,rfl,h5,hs⟩:=hs.cons_inv;obtain⟨d6,ds,rfl,h6,hs⟩:=hs.cons_inv;obtain⟨d7,ds,rfl,h7,hs⟩:=hs.cons_inv;obtain⟨d8,ds,rfl,h8,hs⟩:=hs.cons_inv;obtain⟨d9,ds,rfl,h9,hs⟩:=hs.cons_inv;obtain⟨d10,ds,rfl,jk,hs⟩:=hs.cons_inv;obtain⟨d11,ds,rfl,uu,hs⟩:=hs.cons_inv;obtain⟨d12,ds,rfl,RV,hs⟩:=hs.cons_inv;obtain⟨d13,ds,rfl,h13,hs⟩:=hs.cons_inv;obtain⟨d14,ds,rfl,h14,hs⟩:=hs.cons_inv;obtain⟨d15,ds,rfl,Lm,hs⟩:=hs.cons_inv;obtain⟨d16,ds,rfl,Ln,hs⟩:=hs.cons_inv;obtain⟨d17,ds,rfl,Lo,hs⟩:=hs.cons_inv;obtain⟨d18,ds,rfl,Lp,hs⟩:=hs.cons_inv;obtain rfl:=hs.nil_inv;obtain⟨n0,rfl,b0⟩:=h0.i64_inv;obtain⟨n1,rfl,b1⟩:=h1.i64_inv;obtain⟨n2,rfl,b2⟩:=h2.i64_inv;obtain⟨n3,rfl,b3⟩:=h3.i64_inv;obtain⟨n4,rfl,b4⟩:=h4.i64_inv;obtain⟨n5,rfl,b5⟩:=h5.i64_inv;obtain⟨n6,rfl,b6⟩:=h6.i64_inv;obtain⟨n7,rfl,b7⟩:=h7.i64_inv;obtain⟨n8,rfl,b8⟩:=h8.i64_inv;obtain⟨n9,rfl,b9⟩:=h9.i64_inv;obtain⟨n10,rfl,b10⟩:=jk.i64_inv;obtain⟨n11,rfl,b11⟩:=uu.i64_inv;obtain⟨n12,rfl,b12⟩:=RV.i64_inv;obtain⟨n13,rfl,b13⟩:=h13.i64_inv;obtain⟨n14,rfl,b14⟩:=h14.i64_inv;obtain⟨n15,rfl,b15,c15⟩:=ayr Lm;obtain⟨n16,rfl,b16,c16⟩:=alF Ln;obtain⟨n17,rfl,b17,c17⟩:=alv Lo;obtain⟨n18,rfl,b18,c18⟩:=aoz Lp;exact⟨⟨⟨n0,n1,n2,n3,n4,⟨n5,n6,n7⟩,n8,n9,n10,n11,n12,n13,n14⟩,n15,n16,n17,n18⟩,rfl,⟨⟨b0,b1,b2,b3,b4,⟨b5,b6,b7⟩,b8,b9,b10,b11,b12,b13,b14⟩,⟨b15,c15⟩,⟨b16,c16⟩,⟨b17,c17⟩,⟨b18,c18⟩⟩⟩
structure Case where
 file:File
 sign:Int
 holder:Int
 defence:Int
 due:Int
 day:Int
 deriving Inhabited
def fL (x:Case):D:=.agg [.int x.file.bill.drawer,.int x.file.bill.drawee,.int x.file.bill.payee,.int x.file.bill.sum,.int x.file.bill.currency,.int x.file.bill.tenor.kind,.int x.file.bill.tenor.n,.int x.file.bill.tenor.unit,.int x.file.bill.day,.int x.file.bill.city,.int x.file.bill.pay,.int x.file.bill.need,.int x.file.bill.rate,.int x.file.bill.flags,.int x.file.bill.parts,signs x.file.signs,alters x.file.alters,acts x.file.acts,facts x.file.facts,.int x.sign,.int x.holder,.int x.defence,.int x.due,.int x.day]
@[simp] theorem aC0 (x:Case):(fL x).cells=[.int x.file.bill.drawer,.int x.file.bill.drawee,.int x.file.bill.payee,.int x.file.bill.sum,.int x.file.bill.currency,.int x.file.bill.tenor.kind,.int x.file.bill.tenor.n,.int x.file.bill.tenor.unit,.int x.file.bill.day,.int x.file.bill.city,.int x.file.bill.pay,.int x.file.bill.need,.int x.file.bill.rate,.int x.file.bill.flags,.int x.file.bill.parts,signs x.file.signs,alters x.file.alters,acts x.file.acts,facts x.file.facts,.int x.sign,.int x.holder,.int x.defence,.int x.due,.int x.day]:=_root_.id rfl
@[simp] theorem aIb (x:Case):D.agg [.int x.file.bill.drawer,.int x.file.bill.drawee,.int x.file.bill.payee,.int x.file.bill.sum,.int x.file.bill.currency,.int x.file.bill.tenor.kind,.int x.file.bill.tenor.n,.int x.file.bill.tenor.unit,.int x.file.bill.day,.int x.file.bill.city,.int x.file.bill.pay,.int x.file.bill.need,.int x.file.bill.rate,.int x.file.bill.flags,.int x.file.bill.parts,signs x.file.signs,alters x.file.alters,acts x.file.acts,facts x.file.facts,.int x.sign,.int x.holder,.int x.defence,.int x.due,.int x.day]=fL x:=_root_.id rfl
@[simp] theorem alD (x:Case):jZ 24 (fL x)=fL x:=_root_.id rfl
@[simp] theorem awk (x:Case)(a0 a1 a2 a3 a4 a5 a6 a7 a8 a9 qm qn a12 qo qp tS tT a17 tV P3 a20 a21 a22 a23:D):D.agg (dK [a0,a1,a2,a3,a4,a5,a6,a7,a8,a9,qm,qn,a12,qo,qp,tS,tT,a17,tV,P3,a20,a21,a22,a23] 0 [.int x.file.bill.drawer,.int x.file.bill.drawee,.int x.file.bill.payee,.int x.file.bill.sum,.int x.file.bill.currency,.int x.file.bill.tenor.kind,.int x.file.bill.tenor.n,.int x.file.bill.tenor.unit,.int x.file.bill.day,.int x.file.bill.city,.int x.file.bill.pay,.int x.file.bill.need,.int x.file.bill.rate,.int x.file.bill.flags,.int x.file.bill.parts,signs x.file.signs,alters x.file.alters,acts x.file.acts,facts x.file.facts,.int x.sign,.int x.holder,.int x.defence,.int x.due,.int x.day])=fL x:=_root_.id rfl
@[simp] theorem aCZ (x:Case):(fL x).c 9=.int x.file.bill.city:=_root_.id rfl
@[simp] theorem aCS (x:Case):(fL x).c 10=.int x.file.bill.pay:=_root_.id rfl
@[simp] theorem aCT (x:Case):(fL x).c 15=signs x.file.signs:=_root_.id rfl
@[simp] theorem aCU (x:Case):(fL x).c 19=.int x.sign:=_root_.id rfl
@[simp] theorem aCV (x:Case):(fL x).c 20=.int x.holder:=_root_.id rfl
@[simp] theorem aCW (x:Case):(fL x).c 21=.int x.defence:=_root_.id rfl
@[simp] theorem aCX (x:Case):(fL x).c 22=.int x.due:=_root_.id rfl
@[simp] theorem aCY (x:Case):(fL x).c 23=.int x.day:=_root_.id rfl
def cases(l:List Case):D:=.list (l.map fL)
structure Cell where
 known:Bool
 n:Int
 deriving DecidableEq,Inhabited
def dg (x:Cell):D:=.agg [.bool x.known,.int x.n]
@[simp] theorem aC3 (x:Cell):(dg x).cells=[.bool x.known,.int x.n]:=_root_.id rfl
@[simp] theorem aIc (x:Cell):D.agg [.bool x.known,.int x.n]=dg x:=_root_.id rfl
@[simp] theorem aC1 (x:Cell):(dg x).c 0=.bool x.known:=_root_.id rfl
@[simp] theorem aC2 (x:Cell):(dg x).c 1=.int x.n:=_root_.id rfl
def cells (l:List Cell):D:=.list (l.map dg)
@[simp] theorem aFx (l:List Cell):(cells l).l=l.map dg:=_root_.id rfl
@[simp] theorem aFw (l:List Cell):(cells l).cells=[cells l]:=_root_.id rfl
structure Said where
 cell:Cell
 order:Int
 path:List Int
 err:Int
 deriving Inhabited
def qK (x:Said):D:=.agg [.bool x.cell.known,.int x.cell.n,.int x.order,ints x.path,.int x.err]
@[simp] theorem aD9 (x:Said):(qK x).cells=[.bool x.cell.known,.int x.cell.n,.int x.order,ints x.path,.int x.err]:=_root_.id rfl
@[simp] theorem aIr (x:Said):D.agg [.bool x.cell.known,.int x.cell.n,.int x.order,ints x.path,.int x.err]=qK x:=_root_.id rfl
@[simp] theorem aFc (x:Said):jZ 5 (qK x)=qK x:=_root_.id rfl
structure Effect where
 sign:Int
 kind:Int
 firm:Int
 binds:Int
 text:Int
 sum:Int
 recourse:Bool
 deriving DecidableEq,Inhabited
def gM (x:Effect):D:=.agg [.int x.sign,.int x.kind,.int x.firm,.int x.binds,.int x.text,.int x.sum,.bool x.recourse]
@[simp] theorem aDj (x:Effect):(gM x).cells=[.int x.sign,.int x.kind,.int x.firm,.int x.binds,.int x.text,.int x.sum,.bool x.recourse]:=_root_.id rfl
@[simp] theorem aIf (x:Effect):D.agg [.int x.sign,.int x.kind,.int x.firm,.int x.binds,.int x.text,.int x.sum,.bool x.recourse]=gM x:=_root_.id rfl
@[simp] theorem aDe (x:Effect):(gM x).c 1=.int x.kind:=_root_.id rfl
@[simp] theorem aDf (x:Effect):(gM x).c 2=.int x.firm:=_root_.id rfl
@[simp] theorem aDg (x:Effect):(gM x).c 3=.int x.binds:=_root_.id rfl
@[simp] theorem aDh (x:Effect):(gM x).c 5=.int x.sum:=_root_.id rfl
@[simp] theorem aDi (x:Effect):(gM x).c 6=.bool x.recourse:=_root_.id rfl
def nO (l:List Effect):D:=.list (l.map gM)
@[simp] theorem aF1 (l:List Effect):(nO l).l=l.map gM:=_root_.id rfl
@[simp] theorem aJj (a0 x0:D):dK [a0] 0 [x0]=[x0]:=_root_.id rfl
@[simp] theorem aJk (a0 a1 x0 x1:D):dK [a0,a1] 0 [x0,x1]=[x0,x1]:=_root_.id rfl
@[simp] theorem aJl (a0 a1 a2 x0 x1 x2:D):dK [a0,a1,a2] 0 [x0,x1,x2]=[x0,x1,x2]:=_root_.id rfl
@[simp] theorem aJm (a0 a1 a2 a3 x0 x1 x2 x3:D):dK [a0,a1,a2,a3] 0 [x0,x1,x2,x3]=[x0,x1,x2,x3]:=_root_.id rfl
@[simp] theorem aJn (a0 a1 a2 a3 a4 x0 x1 x2 x3 x4:D):dK [a0,a1,a2,a3,a4] 0 [x0,x1,x2,x3,x4]=[x0,x1,x2,x3,x4]:=_root_.id rfl
@[simp] theorem aJo (a0 a1 a2 a3 a4 a5 x0 x1 x2 x3 x4 x5:D):dK [a0,a1,a2,a3,a4,a5] 0 [x0,x1,x2,x3,x4,x5]=[x0,x1,x2,x3,x4,x5]:=_root_.id rfl
@[simp] theorem aJp (a0 a1 a2 a3 a4 a5 a6 x0 x1 x2 x3 x4 x5 x6:D):dK [a0,a1,a2,a3,a4,a5,a6] 0 [x0,x1,x2,x3,x4,x5,x6]=[x0,x1,x2,x3,x4,x5,x6]:=_root_.id rfl
@[simp] theorem aJq (a0 a1 a2 a3 a4 a5 a6 a7 a8 x0 x1 x2 x3 x4 x5 x6 x7 x8:D):dK [a0,a1,a2,a3,a4,a5,a6,a7,a8] 0 [x0,x1,x2,x3,x4,x5,x6,x7,x8]=[x0,x1,x2,x3,x4,x5,x6,x7,x8]:=_root_.id rfl
end Rm
