/-
  Shared texts of this claim.
-/
import Derived.Test.YtodhjdbleiakeaaGreatDoorNAQ
import Derived.Test.YtodhjdbleiakeaaGreatDoorNAO
import Derived.KernelRfl
set_option linter.unusedSimpArgs false
set_option linter.unusedVariables false
namespace Rm
open Go Go.Proofs Cx
theorem ayG {c:City}{x:Int}(h:(fy c x).2=0):mQ c.rest c.feasts c.shut (fy c x).1=true:=by
 unfold fy at h ⊢;cases hd:cI x
 ·simp[hd] at h
 ·simp only[hd] at h ⊢;cases hk:dP c x (kQ x-x+1).toNat with
  |nil=>rw[hk] at h;simp at h
  |cons y l=>
   have hm:y∈dP c x (kQ x-x+1).toNat:=by rw[hk];simp
   unfold dP at hm;exact(cQ.1 hm).2
theorem aBq {r:Realm}(hh:sE r)(city:Int){d:Int}(h0:0≤d)(hd:d≤100001)(h:(gV r city d).2=0):
 d≤(gV r city d).1∧mQ (r.cities.getD city.toNat default).rest (r.cities.getD city.toNat default).feasts (r.cities.getD city.toNat default).shut (gV r city d).1=true:=by
 revert h
 unfold gV;generalize r.cities.getD city.toNat default=c;generalize fB r city=o;have key:∀(n:Nat) (d:Int),0≤d→d≤100001→(100002-d).toNat≤n→(mX r c o n d).2=0→d≤(mX r c o n d).1∧mQ c.rest c.feasts c.shut (mX r c o n d).1=true:=by
  intro n
  induction n with
  |zero=>intro d h0 h1 h2;omega
  |succ n ih=>
   intro e h1 h2 h3;have yA:=Mz hh o (100002-e).toNat e h2;rw[Ux];change e≤gx r o e∧gx r o e≤100001 at yA;generalize gx r o e=x at*;have lK:=RO (c:=c) (d:=x);by_cases he:(fy c x).2=0
   ·obtain⟨g1,g2,g3⟩:=lK he;have ho:=ayG he;rw[if_neg (by simp[he])];by_cases hy:(fy c x).1=x
    ·rw[if_pos hy];rw[hy] at ho;exact fun _=>⟨yA.1,ho⟩
    ·rw[if_neg hy];intro h;have:=ih _ (by omega) (by omega) (by omega) h;exact⟨by omega,this.2⟩
   ·rw[if_pos he];intro h;cases h
 exact key _ d h0 hd (bk _)
theorem XK {d:Int}{t:Tenor}(hd:0≤d∧d≤100000)(hn:1≤t.n∧t.n≤400)(h:(xm d t).2=0):d≤(xm d t).1:=by
 have hi:=Nj d t;have h0:¬t.n<0:=by omega
 have h1:¬20000<t.n:=by omega
 by_cases h2:t.unit=1
 ·obtain⟨x,e,hr,_⟩:=Xb d t.n;have hx:ak T DM [.int d,lE t] (.tup [.int x,.int e]):=by
   refine .of_tree rfl xw z8 ?_;simp[uA,h0,h1,h2];refine⟨_,hr,?_⟩;simp
  have h3:=hi.det hx;simp at h3;rw[h3.2] at h;rw[h3.1];exact ays d t.n x e hd (by omega) hr h
 ·have hx:ak T DM [.int d,lE t] (.tup [.int (IntKind.i64.wrap (d+t.n)),.int 0]):=by
   refine .of_tree rfl xw z8 ?_;simp[uA,h0,h1,h2]
  have h3:=hi.det hx;simp at h3;rw[h3.1,bF (by omega)];omega
theorem aD8 {r:Realm}(hc:hH r=0){fr to:Int}(h:(qX r.usances fr to).2=0):1≤(qX r.usances fr to).1∧(qX r.usances fr to).1≤20000:=by
 unfold qX at h ⊢;cases hf:r.usances.find? (Aa fr to) with
 |none=>rw[hf] at h;cases h
 |some u=>
  have hm:=pU hf;obtain⟨k,hk,rfl⟩:=jB hm;unfold hH at hc;rw[Mu] at hc;have h1:=hc (qY r) (by simp);unfold qY at h1;split at h1
  ·cases h1
  have h2:=Hv h1 k hk;have hg:r.usances.getD k default=r.usances[k]:=by simp[hk]
  unfold uC at h2;rw[hg] at h2;split at h2
  ·cases h2
  rename_i h3;simp[wi] at h3;show 1≤r.usances[k].days∧r.usances[k].days≤20000;omega
theorem PaperOK.sign_ge {r:Realm}{f:File}(h:PaperOK r f):∀s,s∈f.signs→f.bill.day≤s.day∧s.day≤100000:=by
 have key:∀i (hi:i<f.signs.length),f.bill.day≤f.signs[i].day:=by
  intro i
  induction i with
  |zero=>
   intro hi;have:=(h.sign 0 hi).day.1;simpa [jh] using this
  |succ i ih=>
   intro hi;have h1:=(h.sign (i+1) hi).day.1;have h2:=ih (by omega);have e:jh f (i+1)=f.signs[i].day:=by simp[jh,show i<f.signs.length by omega]
   omega
 intro s hs;obtain⟨i,hi,rfl⟩:=jB hs;exact⟨key i hi,(h.sign i hi).day.2⟩
theorem PaperOK.act_ge {r:Realm}{f:File}(h:PaperOK r f):∀a,a∈f.acts→f.bill.day≤a.day∧a.day≤100000:=by
 intro s hs;obtain⟨i,hi,rfl⟩:=jB hs;have h1:=(h.act i hi).day;have h2:=(Q9 f i f.acts[i]).1;exact⟨by omega,h1.2⟩
theorem aBk {r:Realm}{f:File}(h:PaperOK r f)(x:Int)(hn:gi (aX f x)≠-1):f.bill.day≤gi (aX f x):=by
 unfold gi at hn ⊢;cases hf:(aX f x).acts.find? (kM (aX f x)) with
 |some a=>exact(h.act_ge a (FZ (pU hf)).2).1
 |none=>
  rw[hf] at hn;simp only at hn ⊢;generalize hl:gu (aX f x) (aX f x).signs.length++fQ (aX f x) (aX f x).acts.length=l at*;by_cases aB:l=[]
  ·subst aB;exact absurd rfl hn
  have key:∀v,v∈l→f.bill.day≤v:=by
   intro v hv;rw[←hl] at hv;rcases cY.1 hv with hm|hm
   ·unfold gu at hm;split at hm
    ·obtain⟨s,hs,e⟩:=dx.1 hm;rw[xj] at hs;have:=(h.sign_ge s (Nq (cQ.1 hs).1).2).1;rw[←e];exact this
    ·cases hm
   ·unfold fQ at hm;split at hm
    ·obtain⟨s,hs,e⟩:=dx.1 hm;rw[xj] at hs;have:=(h.act_ge s (FZ (cQ.1 hs).1).2).1;rw[←e];exact this
    ·cases hm
  exact key _ (IN l aB)
theorem ayh {r:Realm}(hr:RightD r){f:File}(h:PaperOK r f)(au day:Int)(hm:fL r au f day≠-1):
 f.bill.day≤fL r au f day∧f.bill.day≤day∧mQ (r.cities.getD f.bill.pay.toNat default).rest (r.cities.getD f.bill.pay.toNat default).feasts (r.cities.getD f.bill.pay.toNat default).shut (fL r au f day)=true:=by
 unfold fL at hm ⊢;by_cases aB:(aX f day).signs=[]
 ·rw[if_pos aB] at hm;exact absurd rfl hm
 have yi:f.bill.day≤day:=by
  obtain⟨s,hs⟩:=List.exists_mem_of_ne_nil _ aB;have h1:=Nq hs;have h2:=h.sign_ge s h1.2;omega
 rw[if_neg aB,Hn hr] at hm;rw[if_neg aB,Hn hr];have lL:=aBk h day;generalize gi (aX f day)=sn at*;generalize max (nM (gG r au 6 (aX f day) day)) 0=g at*;by_cases he:(ml r f.bill sn g).2=0
 case neg=>rw[if_pos he] at hm;exact absurd rfl hm
 rw[if_neg (by simp[he])];clear hm
 suffices hs:f.bill.day≤(ml r f.bill sn g).1∧mQ (r.cities.getD f.bill.pay.toNat default).rest (r.cities.getD f.bill.pay.toNat default).feasts (r.cities.getD f.bill.pay.toNat default).shut (ml r f.bill sn g).1=true from⟨hs.1,yi,hs.2⟩
 unfold ml at he ⊢;split at he
 ·cases he
 rename_i c1;rw[if_neg c1];split at he
 ·cases he
 rename_i c2;rw[if_neg c2];split at he
 ·cases he
 rename_i c3;rw[if_neg c3];split at he
 ·cases he
 rename_i c4;rw[if_neg c4];have bG:=h.day;have CR:=h.bill.form.2;have hB:(nm r.usances f.bill sn).2=0→f.bill.day≤(nm r.usances f.bill sn).1∨cI (nm r.usances f.bill sn).1=false:=by
  have jm:hH r=0:=h.bill.realm;have vn:sn≠-1→0≤sn∧sn≤100000:=by
   intro hx;have:¬cI sn=false:=fun e=>c3 (.inl (.inl ⟨hx,e⟩));simpa [cI] using this
  unfold Fl at CR;unfold nm;intro hb;by_cases k0:f.bill.tenor.kind=0
  ·rw[if_pos k0];have:sn≠-1:=fun e=>c4 ⟨by simp[qP,k0],e⟩;exact .inl (lL this)
  rw[if_neg k0] at hb ⊢;by_cases k1:f.bill.tenor.kind=1
  ·rw[if_pos k1] at hb ⊢;have hx:sn≠-1:=fun e=>c4 ⟨by simp[qP,k1],e⟩;have rL:1≤f.bill.tenor.n∧f.bill.tenor.n≤400:=by simp[k1] at CR;omega
   have h1:=XK (vn hx) rL hb;have h2:=lL hx;exact .inl (by omega)
  rw[if_neg k1] at hb ⊢;by_cases k2:f.bill.tenor.kind=2
  ·rw[if_pos k2] at hb ⊢;have rL:1≤f.bill.tenor.n∧f.bill.tenor.n≤400:=by simp[k2] at CR;omega
   exact .inl (XK bG rL hb)
  rw[if_neg k2] at hb ⊢;by_cases k4:f.bill.tenor.kind=4
  ·rw[if_pos k4] at hb ⊢;have hu:=aD8 jm hb;left;show f.bill.day≤IntKind.i64.wrap (f.bill.day+(qX r.usances f.bill.city f.bill.pay).1);rw[bF (by omega)];omega
  rw[if_neg k4];left;by_cases k3:f.bill.tenor.kind=3
  ·simp[k3] at CR;show f.bill.day≤f.bill.tenor.n;omega
  ·simp[k0,k1,k2,k3,k4] at CR
 generalize nm r.usances f.bill sn=B at*;unfold DA at he ⊢;split at he
 ·rename_i hb;exact absurd he hb
 rename_i c5;rw[if_neg c5];split at he
 ·cases he
 rename_i c6;rw[if_neg c6];have td:¬cI B.1=false:=fun e=>c6 (.inl e);have hd:0≤B.1∧B.1≤100000:=by simpa [cI] using td
 have hw:IntKind.i64.wrap (B.1+g)=B.1+g:=bF (by omega);rw[hw] at he c6 ⊢;have cL:=aBq hr.halts f.bill.pay (by omega) (by omega) he;rcases hB (by omega) with e|e
 ·exact⟨by omega,cL.2⟩
 ·exact absurd e td
end Rm
set_option maxRecDepth 100000
namespace Rm
open Go Go.Proofs Cx
def QK:PC:=
 (.seq
  (.is [.setO 3 (.mk [(.r 0)]),
    .setR 3 (.con .none),
    .setR 6 (.con (.list []))])
  (.seq
   (.is [.setR 10 (aC 4 (.o 3)),
     .setR 11 (.r 1),
     .call [] 12 95 [(.r 10),(.r 11)],
     .setR 9 (.r 12),
     .setR 13 (.tget (.r 9) 0),
     .setR 14 (.tget (.r 9) 1),
     .setO 7 (.con (.agg [(.int 0),(.int 0),(.list [])])),
     .setR 7 (.con .none),
     .setO 12295 (.con (.list [])),
     .setO 7 (.setc (.o 7) 0 (.r 13)),
     .setR 8 (.r 14)])
   (.seq
    (.seq
     (.is [.setR 15 (.r 8),
       .setR 16 (.ci .neq (.r 15) (.con (.int 0)))])
     (.ite (.r 16) [6] []
      (.seq
       (.is [.setR 6 (.con (.list []))])
       (.ret (.r 6)))
      .skip))
    (.seq
     (.is [.setR 17 (.mk [(.cell (.o 7) 0),(.cell (.o 7) 1),(.cell (.o 7) 2)]),
       .setR 18 (.r 2),
       .call [] 19 215 [(.r 17),(.r 18)],
       .setR 6 (.r 19)])
     (.ret (.r 6))))))
theorem axo:A3=some QK:=by kernel_rfl
theorem axN:tab Rr=some QK:=by rw[aj6,←axo,←YC]
def Q7:PC:=
 (.seq
  (.is [.setO 2 (.mk [(.r 0)]),
    .setR 2 (.con .none),
    .setO 3 (.mk [(.r 1)]),
    .setR 3 (.con .none),
    .setO 4 (.con (.agg [(.int 0),(.int 0),(.list [])])),
    .setR 4 (.con .none),
    .setO 12292 (.con (.list [])),
    .setR 5 (.con (.int 0))])
  (.seq
   (.is [.setR 13 (.cell (.o 3) 0),
     .call [] 14 97 [(.r 13)],
     .setR 12 (.r 14),
     .setR 15 (.tget (.r 12) 0),
     .setR 16 (.tget (.r 12) 1),
     .setR 6 (.r 15),
     .setR 7 (.r 16)])
   (.seq
    (.seq
     (.is [.setR 17 (.r 7),
       .setR 18 (.nt (.r 17))])
     (.ite (.r 18) [5] [12292,4]
      (.seq
       (.is [.setR 19 (.mk [(.con (.int 0)),(.con (.int 0)),(.con (.list []))]),
        .setO 4 (.setc (.o 4) 0 (.r 19)),
        .setO 12292 (.con (.list [])),
        .setR 5 (.con (.int 1))])
       (.ret (.tup [(.mk [(.cell (.o 4) 0),(.cell (.o 4) 1),(.o 12292)]),(.r 5)])))
      .skip))
    (.seq
     (.is [.setR 20 (.con .none),
       .setR 21 (.cell (.o 2) 3),
       .setO 3 (.cell (.o 3) 0),
       .setR 22 (.clo 169 [(.ref (.o 3))]),
       .call [] 23 168 [(.r 21),(.r 22)],
       .setR 8 (.r 23)])
     (.seq
      (.seq
       (.is [.setR 24 (.r 8),
        .setR 25 (.ci .lss (.r 24) (.con (.int 0)))])
       (.ite (.r 25) [5] [12292,4]
        (.seq
         (.is [.setR 26 (.mk [(.con (.int 0)),(.con (.int 0)),(.con (.list []))]),
          .setO 4 (.setc (.o 4) 0 (.r 26)),
          .setO 12292 (.con (.list [])),
          .setR 5 (.con (.int 4))])
         (.ret (.tup [(.mk [(.cell (.o 4) 0),(.cell (.o 4) 1),(.o 12292)]),(.r 5)])))
        .skip))
      (.seq
       (.is [.setR 27 (.con .none),
        .setR 28 (.cell (.o 2) 3),
        .setR 29 (.r 8),
        .chk (.idx (.r 28) (.r 29)),
        .setR 30 (.ref (.nth (.r 28) (.r 29))),
        .setR 31 (.ref (.sub (.deref (.r 30)) 1 3)),
        .setR 32 (.deref (.r 31)),
        .setO 9 (.con (.agg [(.int 0),(.int 0),(.list [])])),
        .setR 9 (.con .none),
        .setO 12297 (.con (.list [])),
        .setO 9 (.setc (.o 9) 0 (.r 32))])
       (.seq
        (.seq
         (.is [.setR 34 (.mk [(.cell (.o 9) 0),(.cell (.o 9) 1),(.cell (.o 9) 2)]),
          .call [] 35 170 [(.r 34)],
          .setR 33 (.r 35),
          .setR 36 (.tget (.r 33) 0),
          .setR 37 (.tget (.r 33) 1),
          .setR 10 (.r 36),
          .setR 11 (.r 37)])
         (.seq
          (.is [.setR 38 (.r 11),
            .setR 39 (.ci .neq (.r 38) (.con (.int 0))),
            .setR 40 (.r 39),
            .setR 41 (.r 10),
            .setR 42 (.r 6),
            .setR 43 (.ci .neq (.r 41) (.r 42)),
            .setR 44 (.pick (.r 40) (.con (.bool true)) (.r 43))])
          (.ite (.r 44) [5] [12292,4]
           (.seq
            (.is [.setR 45 (.mk [(.con (.int 0)),(.con (.int 0)),(.con (.list []))]),
             .setO 4 (.setc (.o 4) 0 (.r 45)),
             .setO 12292 (.con (.list [])),
             .setR 5 (.con (.int 11))])
            (.ret (.tup [(.mk [(.cell (.o 4) 0),(.cell (.o 4) 1),(.o 12292)]),(.r 5)])))
           .skip)))
        (.seq
         (.is [.setR 46 (.mk [(.cell (.o 9) 0),(.cell (.o 9) 1),(.cell (.o 9) 2)]),
          .setO 4 (.setc (.o 4) 0 (.r 46)),
          .setR 5 (.con (.int 0))])
         (.ret (.tup [(.mk [(.cell (.o 4) 0),(.cell (.o 4) 1),(.cell (.o 4) 2)]),(.r 5)]))))))))))
theorem axJ:A5=some Q7:=by kernel_rfl
theorem ax9:tab Rt=some Q7:=by rw[X0,←axJ,←YG]
def QS:PC:=
 (.seq
  (.is [.setO 2 (.mk [(.r 0)]),
    .setR 2 (.con .none),
    .setR 4 (.con (.list []))])
  (.seq
   (.seq
    (.is [.setR 10 (.mk [(.cell (.o 2) 0),(.cell (.o 2) 1),(.cell (.o 2) 2)]),
      .call [] 11 170 [(.r 10)],
      .setR 9 (.r 11),
      .setR 12 (.tget (.r 9) 0),
      .setR 13 (.tget (.r 9) 1),
      .setR 5 (.r 12),
      .setR 6 (.r 13)])
    (.seq
     (.is [.setR 14 (.r 6),
       .setR 15 (.ci .neq (.r 14) (.con (.int 0)))])
     (.ite (.r 15) [4] []
      (.seq
       (.is [.setR 4 (.con (.list []))])
       (.ret (.r 4)))
      .skip)))
   (.seq
    (.is [.setR 17 (.r 1),
      .setR 18 (.mk [(.r 17)]),
      .setR 19 (.mk [(.cell (.o 2) 0),(.cell (.o 2) 1),(.cell (.o 2) 2)]),
      .call [] 20 171 [(.r 18),(.r 19)],
      .setR 16 (.r 20),
      .setR 21 (.tget (.r 16) 0),
      .setR 22 (.tget (.r 16) 1),
      .setO 7 (.con (.agg [(.bool false),(.int 0)])),
      .setR 7 (.con .none),
      .setO 7 (.setc (.o 7) 0 (.r 21)),
      .setR 8 (.r 22)])
    (.seq
     (.is [.setR 23 (.r 8),
       .call [] 24 139 [(.r 23)]])
     (.seq
      (.is [.setR 25 (.r 8),
        .call [] 26 140 [(.r 25)],
        .setR 4 (.r 26)])
      (.ret (.r 4)))))))
theorem axw:BR=some QS:=by kernel_rfl
theorem axW:tab ad7=some QS:=by rw[alf,←axw,←YQ]
def Q8:PC:=
 (.seq
  (.is [.setR 2 (.con (.int 0)),
    .setR 3 (.con (.bool false))])
  (.seq
   (.block 0 [2,3,4,5,6,7,10,11,12,13,14] []
    (.seq
     (.is [.setR 5 (.r 0),
       .setR 6 (.ci .lss (.r 5) (.con (.int 0))),
       .setR 7 (.r 6),
       .setR 8 (.r 0),
       .setR 9 (.ci .geq (.r 8) (.con (.int 22))),
       .setR 10 (.pick (.r 7) (.con (.bool true)) (.r 9)),
       .setR 4 (.r 10)])
     (.ite (.r 4) [2,3,11,12,13,14] []
      (.seq
       (.is [.setR 2 (.con (.int 0)),
        .setR 3 (.con (.bool false))])
       (.ret (.tup [(.r 2),(.r 3)])))
      (.seq
       (.is [.setR 12 (.lst [(.cell (.deref (.con (.ref (.agg [(.int 6),(.int 7),(.int 10),(.int 12),(.int 13),(.int 14),(.int 15),(.int 16),(.int 20),(.int 21)])))) 0),(.cell (.deref (.con (.ref (.agg [(.int 6),(.int 7),(.int 10),(.int 12),(.int 13),(.int 14),(.int 15),(.int 16),(.int 20),(.int 21)])))) 1),(.cell (.deref (.con (.ref (.agg [(.int 6),(.int 7),(.int 10),(.int 12),(.int 13),(.int 14),(.int 15),(.int 16),(.int 20),(.int 21)])))) 2),(.cell (.deref (.con (.ref (.agg [(.int 6),(.int 7),(.int 10),(.int 12),(.int 13),(.int 14),(.int 15),(.int 16),(.int 20),(.int 21)])))) 3),(.cell (.deref (.con (.ref (.agg [(.int 6),(.int 7),(.int 10),(.int 12),(.int 13),(.int 14),(.int 15),(.int 16),(.int 20),(.int 21)])))) 4),(.cell (.deref (.con (.ref (.agg [(.int 6),(.int 7),(.int 10),(.int 12),(.int 13),(.int 14),(.int 15),(.int 16),(.int 20),(.int 21)])))) 5),(.cell (.deref (.con (.ref (.agg [(.int 6),(.int 7),(.int 10),(.int 12),(.int 13),(.int 14),(.int 15),(.int 16),(.int 20),(.int 21)])))) 6),(.cell (.deref (.con (.ref (.agg [(.int 6),(.int 7),(.int 10),(.int 12),(.int 13),(.int 14),(.int 15),(.int 16),(.int 20),(.int 21)])))) 7),(.cell (.deref (.con (.ref (.agg [(.int 6),(.int 7),(.int 10),(.int 12),(.int 13),(.int 14),(.int 15),(.int 16),(.int 20),(.int 21)])))) 8),(.cell (.deref (.con (.ref (.agg [(.int 6),(.int 7),(.int 10),(.int 12),(.int 13),(.int 14),(.int 15),(.int 16),(.int 20),(.int 21)])))) 9)]),
        .setR 13 (.r 0),
        .call [] 14 94 [(.r 12),(.r 13)],
        .setR 11 (.r 14)])
       (.ite (.r 11) [2,3] []
        (.seq
         (.is [.setR 2 (.con (.int 0)),
           .setR 3 (.con (.bool true))])
         (.ret (.tup [(.r 2),(.r 3)])))
        .skip)))))
   (.seq
    (.is [.setR 2 (.con (.int 1)),
      .setR 3 (.con (.bool true))])
    (.ret (.tup [(.r 2),(.r 3)])))))
theorem axK:A4=some Q8:=by kernel_rfl
theorem aya:tab Rs=some Q8:=by rw[XZ,←axK,←YD]
def Q6:PC:=
 (.seq
  (.is [.setR 4 (.con (.bool false))])
  (.seq
   (.is [.setR 5 (.r 0),
     .setR 6 (.r 1),
     .call [] 7 167 [(.r 5),(.r 6)],
     .setR 8 (.ci .geq (.r 7) (.con (.int 0))),
     .setR 4 (.r 8)])
   (.ret (.r 4))))
theorem axI:BG=some Q6:=by kernel_rfl
theorem ax8:tab RB=some Q6:=by rw[X5,←axI,←YJ]
def alG:PC:=
 (.seq
  (.is [.setR 9 (.ci .lss (.r 8) (.r 7))])
  (.seq
   (.ite (.r 9) [] []
    .skip
    (.exit 0))
   (.seq
    (.block 1 [4,5,10,11,12,13,14,15,16] []
     (.seq
      (.is [.setR 10 (.r 8),
        .setR 5 (.r 10)])
      (.seq
       (.is [.setR 11 (.r 1),
         .setR 12 (.r 0),
         .setR 13 (.r 5),
         .chk (.idx (.r 12) (.r 13)),
         .setR 14 (.ref (.nth (.r 12) (.r 13))),
         .setR 15 (.deref (.r 14)),
         .callc [] 16 (.r 11) [(.r 15)]])
       (.ite (.r 16) [4] []
        (.seq
         (.is [.setR 17 (.r 5),
           .setR 4 (.r 17)])
         (.ret (.r 4)))
        .skip))))
    (.is [.setR 18 (.ai .add .i64 (.r 8) (.con (.int 1))),
      .setR 8 (.r 18)]))))
def av2:PC:=.block 0 [4,8,9] [] (.loop [4,8] [] alG)
def QM:PC:=
 (.seq
  (.is [.setR 4 (.con (.int 0))])
  (.seq
   (.seq
    (.is [.setR 6 (.r 0),
      .setR 7 (.llen (.r 6)),
      .setR 8 (.con (.int 0))])
    av2)
   (.seq
    (.is [.setR 4 (.con (.int (-1)))])
    (.ret (.r 4)))))
theorem axq:xA=some QM:=by kernel_rfl
theorem axP:tab RC=some QM:=by rw[X6,←axq,←YK]
def QO:PC:=
 (.seq
  (.is [.setO 1 (.mk [(.r 0)]),
    .setR 1 (.con .none),
    .setR 2 (.con (.int 0)),
    .setR 3 (.con (.int 0))])
  (.seq
   (.seq
    (.is [.setR 4 (.mk [(.cell (.o 1) 0),(.cell (.o 1) 1),(.cell (.o 1) 2)]),
      .call [] 5 217 [(.r 4),(.con (.int 1))],
      .setR 6 (.ci .gtr (.r 5) (.con (.int 60)))])
    (.ite (.r 6) [2,3] []
     (.seq
      (.is [.setR 2 (.con (.int 0)),
        .setR 3 (.con (.int 6))])
      (.ret (.tup [(.r 2),(.r 3)])))
     .skip))
   (.seq
    (.is [.setR 7 (.mk [(.cell (.o 1) 0),(.cell (.o 1) 1),(.cell (.o 1) 2)]),
      .call [] 8 218 [(.r 7)],
      .setR 9 (.tget (.r 8) 0),
      .setR 10 (.tget (.r 8) 1),
      .setR 2 (.r 9),
      .setR 3 (.r 10)])
    (.ret (.tup [(.r 2),(.r 3)])))))
theorem axs:BQ=some QO:=by kernel_rfl
theorem axR:tab RE=some QO:=by rw[X8,←axs,←YP]
def QN:PC:=
 (.seq
  (.is [.setO 2 (.mk [(.r 0)]),
    .setR 2 (.con .none),
    .setR 3 (.con (.bool false))])
  (.seq
   (.is [.setR 4 (.con .none),
     .setR 5 (.cell (.o 2) 0),
     .setR 6 (.deref (.r 1)),
     .setR 7 (.ci .eql (.r 5) (.r 6)),
     .setR 3 (.r 7)])
   (.ret (.r 3))))
theorem axr:A6=some QN:=by kernel_rfl
theorem axQ:tab IU=some QN:=by rw[X1,←axr,←YE]
def alH:PC:=
 (.seq
  (.is [.setR 46 (.ci .lss (.r 45) (.r 44))])
  (.seq
   (.ite (.r 46) [] []
    .skip
    (.exit 1))
   (.seq
    (.block 2 [9,10,47,48,49,50,51,52,53,54,55,56,57,58,59,60,61] [10,12298,8,7]
     (.seq
      (.is [.setR 47 (.r 45),
        .chk (.idx (.r 43) (.r 45)),
        .setR 48 (.ref (.nth (.r 43) (.r 45))),
        .setR 49 (.deref (.r 48)),
        .setO 10 (.con (.agg [(.int 0),(.int 0),(.list [])])),
        .setR 10 (.con .none),
        .setO 12298 (.con (.list [])),
        .setR 9 (.r 47),
        .setO 10 (.setc (.o 10) 0 (.r 49))])
      (.is [.setR 51 (.r 7),
        .setR 52 (.r 9),
        .setR 53 (.r 8),
        .setR 54 (.r 9),
        .setR 55 (.mk [(.cell (.o 2) 0)]),
        .setR 56 (.mk [(.cell (.o 10) 0),(.cell (.o 10) 1),(.cell (.o 10) 2)]),
        .call [] 57 171 [(.r 55),(.r 56)],
        .setR 50 (.r 57),
        .setR 58 (.tget (.r 50) 0),
        .setR 59 (.tget (.r 50) 1),
        .chk (.idx (.o 7) (.r 52)),
        .setR 60 (.r 52),
        .setO 7 (.setn (.o 7) (.r 60) 0 (.r 58)),
        .chk (.idx (.o 8) (.r 54)),
        .setR 61 (.r 54),
        .setO 8 (.setn (.o 8) (.r 61) 0 (.r 59))])))
    (.is [.setR 62 (.ai .add .i64 (.r 45) (.con (.int 1))),
      .setR 45 (.r 62)]))))
def av3:PC:=.block 1 [45,46] [7,8] (.loop [45] [7,8] alH)
def QP:PC:=
 (.seq
  (.is [.setO 2 (.mk [(.r 0)]),
    .setR 2 (.con .none),
    .setO 3 (.mk [(.r 1)]),
    .setR 3 (.con .none),
    .setO 4 (.con (.agg [(.bool false),(.int 0)])),
    .setR 4 (.con .none),
    .setR 5 (.con (.list []))])
  (.seq
   (.seq
    (.is [.setR 13 (.con .none),
      .setR 14 (.cell (.o 3) 0)])
    (.block 0 [5,15,16,21,22] [4]
     (.seq
      (.seq
       (.is [.setR 16 (.ci .eql (.r 14) (.con (.int 0))),
         .setR 15 (.r 16)])
       (.ite (.r 15) [15] []
        .skip
        (.is [.setR 17 (.ci .eql (.r 14) (.con (.int 1))),
         .setR 15 (.r 17)])))
      (.ite (.r 15) [5,21,22] [4]
       (.seq
        (.is [.setR 18 (.con .none),
         .setR 19 (.cell (.o 3) 1),
         .setR 20 (.mk [(.con (.bool true)),(.r 19)]),
         .setO 4 (.setc (.o 4) 0 (.r 20)),
         .setR 5 (.con (.list []))])
        (.ret (.tup [(.mk [(.cell (.o 4) 0),(.cell (.o 4) 1)]),(.r 5)])))
       (.seq
        (.is [.setR 22 (.ci .eql (.r 14) (.con (.int 2))),
         .setR 21 (.r 22)])
        (.ite (.r 21) [5] [4]
         (.seq
          (.seq
           (.is [.setR 23 (.mk [(.cell (.o 2) 0)]),
             .setR 24 (.con .none),
             .setR 25 (.cell (.o 3) 1),
             .call [] 26 219 [(.r 23),(.r 25)],
             .setO 6 (.con (.agg [(.bool false),(.int 0)])),
             .setR 6 (.con .none),
             .setO 6 (.setc (.o 6) 0 (.r 26))])
           (.seq
            (.is [.setR 27 (.con .none),
              .setR 28 (.cell (.o 6) 0)])
            (.ite (.r 28) [5] [4]
             (.seq
              (.is [.setR 29 (.mk [(.cell (.o 6) 0),(.cell (.o 6) 1)]),
                .setO 4 (.setc (.o 4) 0 (.r 29)),
                .setR 5 (.con (.list []))])
              (.ret (.tup [(.mk [(.cell (.o 4) 0),(.cell (.o 4) 1)]),(.r 5)])))
             .skip)))
          (.seq
           (.is [.setR 30 (.mk [(.con (.bool false)),(.con (.int 0))]),
             .setR 31 (.con .none),
             .setR 32 (.cell (.o 3) 1),
             .setO 33 (.lst [(.r 32)]),
             .setR 33 (.con .none),
             .setO 4 (.setc (.o 4) 0 (.r 30)),
             .setR 5 (.o 33)])
           (.ret (.tup [(.mk [(.cell (.o 4) 0),(.cell (.o 4) 1)]),(.r 5)]))))
         .skip))))))
   (.seq
    (.is [.setR 34 (.con .none),
      .setR 35 (.cell (.o 3) 2),
      .setR 36 (.llen (.r 35)),
      .chk (.an (.ci .geq (.r 36) (.con (.int 0))) (.ci .leq (.r 36) (.con (.int 4294967296)))),
      .chk (.ci .eql (.r 36) (.r 36)),
      .setO 37 (.rep (.r 36) (.con (.agg [(.bool false),(.int 0)]))),
      .setR 37 (.con .none),
      .setR 7 (.r 37),
      .setO 7 (.o 37)])
    (.seq
     (.is [.setR 38 (.con .none),
       .setR 39 (.cell (.o 3) 2),
       .setR 40 (.llen (.r 39)),
       .chk (.an (.ci .geq (.r 40) (.con (.int 0))) (.ci .leq (.r 40) (.con (.int 4294967296)))),
       .chk (.ci .eql (.r 40) (.r 40)),
       .setO 41 (.rep (.r 40) (.con (.list []))),
       .setR 41 (.con .none),
       .setR 8 (.r 41),
       .setO 8 (.o 41)])
     (.seq
      (.seq
       (.is [.setR 42 (.con .none),
         .setR 43 (.cell (.o 3) 2),
         .setR 44 (.llen (.r 43)),
         .setR 45 (.con (.int 0))])
       av3)
      (.seq
       (.seq
        (.is [.setR 63 (.con .none),
         .setR 64 (.cell (.o 3) 0),
         .setR 65 (.ci .eql (.r 64) (.con (.int 6))),
         .setR 66 (.r 65),
         .setR 67 (.r 7),
         .chk (.imp [(66,true)] (.idx (.o 7) (.con (.int 0)))),
         .setR 68 (.con (.int 0)),
         .setR 69 (.r 68),
         .setR 70 (.cell (.nth (.o 7) (.r 69)) 0),
         .setR 71 (.pick (.r 66) (.r 70) (.con (.bool false)))])
        (.ite (.r 71) [5] [4]
         (.seq
          (.is [.setR 72 (.r 7),
           .chk (.idx (.o 7) (.con (.int 0))),
           .setR 73 (.con (.int 0)),
           .setR 74 (.r 73),
           .setR 75 (.cell (.nth (.o 7) (.r 74)) 1),
           .setR 76 (.ai .sub .i64 (.con (.int 2)) (.r 75)),
           .setR 11 (.r 76)])
          (.seq
           (.is [.setR 77 (.r 7),
             .setR 78 (.r 11),
             .chk (.idx (.o 7) (.r 78)),
             .setR 79 (.r 78),
             .setR 80 (.sub (.nth (.o 7) (.r 79)) 0 2),
             .setR 81 (.r 8),
             .setR 82 (.r 11),
             .chk (.idx (.o 8) (.r 82)),
             .setR 83 (.r 82),
             .setR 84 (.nth (.o 8) (.r 83)),
             .setO 4 (.setc (.o 4) 0 (.r 80)),
             .setR 5 (.r 84)])
           (.ret (.tup [(.mk [(.cell (.o 4) 0),(.cell (.o 4) 1)]),(.r 5)]))))
         .skip))
       (.seq
        (.seq
         (.is [.setR 85 (.con .none),
           .setR 86 (.cell (.o 3) 0),
           .setR 87 (.r 7),
           .call [] 88 220 [(.r 86),(.o 7)],
           .setO 12 (.con (.agg [(.bool false),(.int 0)])),
           .setR 12 (.con .none),
           .setO 12 (.setc (.o 12) 0 (.r 88))])
         (.seq
          (.is [.setR 89 (.con .none),
           .setR 90 (.cell (.o 12) 0)])
          (.ite (.r 90) [5] [4]
           (.seq
            (.is [.setR 91 (.mk [(.cell (.o 12) 0),(.cell (.o 12) 1)]),
              .setO 4 (.setc (.o 4) 0 (.r 91)),
              .setR 5 (.con (.list []))])
            (.ret (.tup [(.mk [(.cell (.o 4) 0),(.cell (.o 4) 1)]),(.r 5)])))
           .skip)))
        (.seq
         (.is [.setR 92 (.mk [(.con (.bool false)),(.con (.int 0))]),
           .setR 93 (.r 8),
           .call [] 94 221 [(.o 8)],
           .setO 4 (.setc (.o 4) 0 (.r 92)),
           .setR 5 (.r 94)])
         (.ret (.tup [(.mk [(.cell (.o 4) 0),(.cell (.o 4) 1)]),(.r 5)]))))))))))
theorem axt:xD=some QP:=by kernel_rfl
theorem axS:tab IY=some QP:=by rw[Yd,←axt,←YV]
def QI:PC:=
 (.seq
  (.seq
   (.is [.setR 3 (.r 0),
     .setR 4 (.llen (.r 3)),
     .setR 2 (.r 4)])
   (.is [.setR 5 (.r 0),
     .setR 6 (.r 2),
     .setR 7 (.r 2),
     .setR 8 (.conv .u64 (.r 7)),
     .call [] 9 207 [(.r 8)],
     .call [] 10 206 [(.r 5),(.con (.int 0)),(.r 6),(.r 9)]]))
  (.ret (.tup [])))
theorem axm:BL=some QI:=by kernel_rfl
theorem axL:tab ad0=some QI:=by rw[ak6,←axm,←YM]
def alD:PC:=
 (.seq
  (.seq
   (.is [.setR 29 (.r 5),
     .setR 30 (.r 4),
     .setR 31 (.llen (.r 30)),
     .setR 32 (.ci .lss (.r 29) (.r 31))])
   (.ite (.r 32) [] []
    .skip
    (.exit 2)))
  (.seq
   (.block 3 [3,35,36,37,38,39,40,41,42,43,44] []
    (.seq
     (.is [.setR 35 (.r 4),
       .setR 36 (.r 5),
       .chk (.idx (.r 35) (.r 36)),
       .setR 37 (.ref (.nth (.r 35) (.r 36))),
       .setR 38 (.deref (.r 37)),
       .setR 39 (.r 4),
       .setR 40 (.r 5),
       .setR 41 (.ai .sub .i64 (.r 40) (.con (.int 1))),
       .chk (.idx (.r 39) (.r 41)),
       .setR 42 (.ref (.nth (.r 39) (.r 41))),
       .setR 43 (.deref (.r 42)),
       .setR 44 (.ci .neq (.r 38) (.r 43))])
     (.ite (.r 44) [3] []
      (.seq
       (.is [.setR 45 (.r 0),
         .setR 46 (.r 3),
         .setR 47 (.r 4),
         .setR 48 (.r 5),
         .chk (.idx (.r 47) (.r 48)),
         .setR 49 (.ref (.nth (.r 47) (.r 48))),
         .setR 50 (.deref (.r 49)),
         .chk (.idx (.r 45) (.r 46)),
         .setR 51 (.ref (.nth (.r 45) (.r 46))),
         .chk (.con (.bool false))])
       (.is [.setR 52 (.r 3),
         .setR 53 (.ai .add .i64 (.r 52) (.con (.int 1))),
         .setR 3 (.r 53)]))
      .skip)))
   (.is [.setR 33 (.r 5),
     .setR 34 (.ai .add .i64 (.r 33) (.con (.int 1))),
     .setR 5 (.r 34)])))
def avZ:PC:=.block 2 [3,5,29,30,31,32] [] (.loop [3,5] [] alD)
def alE:PC:=
 (.seq
  (.seq
   (.is [.setR 10 (.r 3),
     .setR 11 (.r 0),
     .setR 12 (.llen (.r 11)),
     .setR 13 (.ci .lss (.r 10) (.r 12))])
   (.ite (.r 13) [] []
    .skip
    (.exit 0)))
  (.seq
   (.block 1 [2,3,16,17,18,19,20,21,22,23,24,25] []
    (.seq
     (.is [.setR 16 (.r 0),
       .setR 17 (.r 3),
       .chk (.idx (.r 16) (.r 17)),
       .setR 18 (.ref (.nth (.r 16) (.r 17))),
       .setR 19 (.deref (.r 18)),
       .setR 20 (.r 0),
       .setR 21 (.r 3),
       .setR 22 (.ai .sub .i64 (.r 21) (.con (.int 1))),
       .chk (.idx (.r 20) (.r 22)),
       .setR 23 (.ref (.nth (.r 20) (.r 22))),
       .setR 24 (.deref (.r 23)),
       .setR 25 (.ci .eql (.r 19) (.r 24))])
     (.ite (.r 25) [2,3] []
      (.seq
       (.is [.setR 26 (.r 0),
         .setR 27 (.r 3),
         .chk (.slok (.r 26) (.r 27) (.llen (.r 26))),
         .setR 28 (.slc (.r 26) (.r 27) (.llen (.r 26))),
         .setR 4 (.r 28)])
       (.seq
        (.seq
         (.is [.setR 5 (.con (.int 1))])
         avZ)
        (.seq
         (.is [.setR 54 (.r 0),
           .setR 55 (.r 3),
           .chk (.slok (.r 54) (.r 55) (.llen (.r 54))),
           .setR 56 (.slc (.r 54) (.r 55) (.llen (.r 54))),
           .chk (.con (.bool false))])
         (.seq
          (.is [.setR 57 (.r 0),
            .setR 58 (.r 3),
            .chk (.slok (.r 57) (.con (.int 0)) (.r 58)),
            .setR 59 (.slc (.r 57) (.con (.int 0)) (.r 58)),
            .setR 2 (.r 59)])
          (.ret (.r 2))))))
      .skip)))
   (.is [.setR 14 (.r 3),
     .setR 15 (.ai .add .i64 (.r 14) (.con (.int 1))),
     .setR 3 (.r 15)])))
def av0:PC:=.block 0 [2,3,10,11,12,13] [] (.loop [2,3] [] alE)
def QJ:PC:=
 (.seq
  (.is [.setR 2 (.con (.list []))])
  (.seq
   (.seq
    (.is [.setR 6 (.r 0),
      .setR 7 (.llen (.r 6)),
      .setR 8 (.ci .lss (.r 7) (.con (.int 2)))])
    (.ite (.r 8) [2] []
     (.seq
      (.is [.setR 9 (.r 0),
        .setR 2 (.r 9)])
      (.ret (.r 2)))
     .skip))
   (.seq
    (.seq
     (.is [.setR 3 (.con (.int 1))])
     av0)
    (.seq
     (.is [.setR 60 (.r 0),
       .setR 2 (.r 60)])
     (.ret (.r 2))))))
theorem axn:BF=some QJ:=by kernel_rfl
theorem axM:tab adS=some QJ:=by rw[akY,←axn,←YH]
def alJ:PC:=
 (.seq
  (.is [.setR 14 (.ci .lss (.r 13) (.r 12))])
  (.seq
   (.ite (.r 14) [] []
    .skip
    (.exit 0))
   (.seq
    (.block 1 [5,7,15,16,17,18,19,20,21,22,23,24] [7,12295]
     (.seq
      (.is [.chk (.idx (.r 11) (.r 13)),
        .setR 15 (.ref (.nth (.r 11) (.r 13))),
        .setR 16 (.deref (.r 15)),
        .setO 7 (.con (.agg [(.int 0),(.int 0),(.list [])])),
        .setR 7 (.con .none),
        .setO 12295 (.con (.list [])),
        .setO 7 (.setc (.o 7) 0 (.r 16))])
      (.seq
       (.is [.setR 17 (.r 5),
         .setR 18 (.mk [(.cell (.o 7) 0),(.cell (.o 7) 1),(.cell (.o 7) 2)]),
         .setR 19 (.r 1),
         .setR 20 (.ai .add .i64 (.r 19) (.con (.int 1))),
         .call [] 21 217 [(.r 18),(.r 20)],
         .setR 22 (.ai .add .i64 (.r 17) (.r 21)),
         .setR 5 (.r 22)])
       (.seq
        (.is [.setR 23 (.r 5),
          .setR 24 (.ci .gtr (.r 23) (.con (.int 60)))])
        (.ite (.r 24) [] []
         (.exit 0)
         .skip)))))
    (.is [.setR 25 (.ai .add .i64 (.r 13) (.con (.int 1))),
      .setR 13 (.r 25)]))))
def av5:PC:=.block 0 [5,13,14] [] (.loop [5,13] [] alJ)
def QT:PC:=
 (.seq
  (.is [.setO 2 (.mk [(.r 0)]),
    .setR 2 (.con .none),
    .setR 4 (.con (.int 0))])
  (.seq
   (.seq
    (.is [.setR 8 (.r 1),
      .setR 9 (.ci .gtr (.r 8) (.con (.int 8)))])
    (.ite (.r 9) [4] []
     (.seq
      (.is [.setR 4 (.con (.int 61))])
      (.ret (.r 4)))
     .skip))
   (.seq
    (.is [.setR 5 (.con (.int 1))])
    (.seq
     (.seq
      (.is [.setR 10 (.con .none),
        .setR 11 (.cell (.o 2) 2),
        .setR 12 (.llen (.r 11)),
        .setR 13 (.con (.int 0))])
      av5)
     (.seq
      (.is [.setR 26 (.r 5),
        .setR 4 (.r 26)])
      (.ret (.r 4)))))))
theorem axx:xE=some QT:=by kernel_rfl
theorem axX:tab RK=some QT:=by rw[Ns,←axx,←YX]
def alK:PC:=
 (.seq
  (.is [.setR 21 (.ci .lss (.r 20) (.r 19))])
  (.seq
   (.ite (.r 21) [] []
    .skip
    (.exit 0))
   (.seq
    (.block 1 [2,3,5,6,7,8,22,23,24,25,26,27,28,29,30,31,33,34,35,36] [6,12294,4]
     (.seq
      (.is [.setR 22 (.r 20),
        .chk (.idx (.r 18) (.r 20)),
        .setR 23 (.ref (.nth (.r 18) (.r 20))),
        .setR 24 (.deref (.r 23)),
        .setO 6 (.con (.agg [(.int 0),(.int 0),(.list [])])),
        .setR 6 (.con .none),
        .setO 12294 (.con (.list [])),
        .setR 5 (.r 22),
        .setO 6 (.setc (.o 6) 0 (.r 24))])
      (.seq
       (.is [.setR 26 (.mk [(.cell (.o 6) 0),(.cell (.o 6) 1),(.cell (.o 6) 2)]),
         .call [] 27 218 [(.r 26)],
         .setR 25 (.r 27),
         .setR 28 (.tget (.r 25) 0),
         .setR 29 (.tget (.r 25) 1),
         .setR 7 (.r 28),
         .setR 8 (.r 29)])
       (.seq
        (.seq
         (.is [.setR 30 (.r 8),
           .setR 31 (.ci .neq (.r 30) (.con (.int 0)))])
         (.ite (.r 31) [2,3] []
          (.seq
           (.is [.setR 32 (.r 8),
             .setR 2 (.con (.int 0)),
             .setR 3 (.r 32)])
           (.ret (.tup [(.r 2),(.r 3)])))
          .skip))
        (.is [.setR 33 (.r 4),
          .setR 34 (.r 5),
          .setR 35 (.r 7),
          .chk (.idx (.o 4) (.r 34)),
          .setR 36 (.r 34),
          .setO 4 (.setn (.o 4) (.r 36) 0 (.r 35))])))))
    (.is [.setR 37 (.ai .add .i64 (.r 20) (.con (.int 1))),
      .setR 20 (.r 37)]))))
def av6:PC:=.block 0 [2,3,20,21] [4] (.loop [2,3,20] [4] alK)
def alL:PC:=
 (.seq
  (.is [.setR 83 (.ci .lss (.r 82) (.r 81))])
  (.seq
   (.ite (.r 83) [] []
    .skip
    (.exit 3))
   (.seq
    (.block 4 [2,3,10,11,12,84,85,86,87,88,89,92,97,98,100,101,102,103,104,105] []
     (.seq
      (.is [.setR 84 (.r 82),
        .chk (.idx (.r 80) (.r 82)),
        .setR 85 (.ref (.nth (.r 80) (.r 82))),
        .setR 86 (.deref (.r 85)),
        .setR 11 (.r 84),
        .setR 12 (.r 86)])
      (.seq
       (.seq
        (.is [.setR 87 (.r 12),
          .setR 88 (.ci .eql (.r 87) (.con (.int (-1)))),
          .setR 89 (.r 88),
          .setR 90 (.r 10),
          .setR 91 (.ci .eql (.r 90) (.con (.int (-1)))),
          .setR 92 (.pick (.r 89) (.r 91) (.con (.bool false)))])
        (.ite (.r 92) [10] []
         (.is [.setR 93 (.r 4),
           .setR 94 (.r 11),
           .chk (.idx (.o 4) (.r 94)),
           .setR 95 (.r 94),
           .setR 96 (.nth (.o 4) (.r 95)),
           .setR 10 (.r 96)])
         .skip))
       (.seq
        (.seq
         (.is [.setR 97 (.r 12),
           .setR 98 (.ci .eql (.r 97) (.con (.int (-1))))])
         (.ite (.r 98) [12] []
          (.is [.setR 99 (.r 10),
            .setR 12 (.r 99)])
          .skip))
        (.seq
         (.is [.setR 100 (.r 4),
           .setR 101 (.r 11),
           .chk (.idx (.o 4) (.r 101)),
           .setR 102 (.r 101),
           .setR 103 (.nth (.o 4) (.r 102)),
           .setR 104 (.r 12),
           .setR 105 (.ci .neq (.r 103) (.r 104))])
         (.ite (.r 105) [2,3] []
          (.seq
           (.is [.setR 2 (.con (.int 0)),
             .setR 3 (.con (.int 11))])
           (.ret (.tup [(.r 2),(.r 3)])))
          .skip))))))
    (.is [.setR 106 (.ai .add .i64 (.r 82) (.con (.int 1))),
      .setR 82 (.r 106)]))))
def av7:PC:=.block 3 [2,3,10,82,83] [] (.loop [2,3,10,82] [] alL)
def QU:PC:=
 (.seq
  (.is [.setO 1 (.mk [(.r 0)]),
    .setR 1 (.con .none),
    .setR 2 (.con (.int 0)),
    .setR 3 (.con (.int 0))])
  (.seq
   (.is [.setR 13 (.con .none),
     .setR 14 (.cell (.o 1) 2),
     .setR 15 (.llen (.r 14)),
     .chk (.an (.ci .geq (.r 15) (.con (.int 0))) (.ci .leq (.r 15) (.con (.int 4294967296)))),
     .chk (.ci .eql (.r 15) (.r 15)),
     .setO 16 (.rep (.r 15) (.con (.int 0))),
     .setR 16 (.con .none),
     .setR 4 (.r 16),
     .setO 4 (.o 16)])
   (.seq
    (.seq
     (.is [.setR 17 (.con .none),
       .setR 18 (.cell (.o 1) 2),
       .setR 19 (.llen (.r 18)),
       .setR 20 (.con (.int 0))])
     av6)
    (.seq
     (.block 2 [2,3,38,39,40,41,42,46,47,48,49,50,51,55,56,60] []
      (.seq
       (.is [.setR 39 (.con .none),
         .setR 40 (.cell (.o 1) 0),
         .setR 41 (.ci .lss (.r 40) (.con (.int 0))),
         .setR 42 (.r 41),
         .setR 43 (.con .none),
         .setR 44 (.cell (.o 1) 0),
         .setR 45 (.ci .gtr (.r 44) (.con (.int 13))),
         .setR 46 (.pick (.r 42) (.con (.bool true)) (.r 45)),
         .setR 38 (.r 46)])
       (.ite (.r 38) [2,3,47,48,49,50,51,55,56,60] []
        (.seq
         (.is [.setR 2 (.con (.int 0)),
           .setR 3 (.con (.int 1))])
         (.ret (.tup [(.r 2),(.r 3)])))
        (.seq
         (.is [.setR 48 (.con .none),
           .setR 49 (.cell (.o 1) 0),
           .setR 50 (.ci .eql (.r 49) (.con (.int 0))),
           .setR 51 (.r 50),
           .setR 52 (.con .none),
           .setR 53 (.cell (.o 1) 0),
           .setR 54 (.ci .eql (.r 53) (.con (.int 1))),
           .setR 55 (.pick (.r 51) (.con (.bool true)) (.r 54)),
           .setR 56 (.r 55),
           .setR 57 (.con .none),
           .setR 58 (.cell (.o 1) 0),
           .setR 59 (.ci .eql (.r 58) (.con (.int 2))),
           .setR 60 (.pick (.r 56) (.con (.bool true)) (.r 59)),
           .setR 47 (.r 60)])
         (.ite (.r 47) [2,3] []
          (.seq
           (.is [.setR 61 (.mk [(.cell (.o 1) 0),(.cell (.o 1) 1),(.cell (.o 1) 2)]),
             .call [] 62 260 [(.r 61)],
             .setR 63 (.tget (.r 62) 0),
             .setR 64 (.tget (.r 62) 1),
             .setR 2 (.r 63),
             .setR 3 (.r 64)])
           (.ret (.tup [(.r 2),(.r 3)])))
          .skip)))))
     (.seq
      (.is [.setR 65 (.con .none),
        .setR 66 (.cell (.o 1) 0),
        .call [] 67 261 [(.r 66)],
        .setO 9 (.con (.agg [(.list []),(.int 0)])),
        .setR 9 (.con .none),
        .setO 4105 (.con (.list [])),
        .setO 9 (.setc (.o 9) 0 (.r 67))])
      (.seq
       (.seq
        (.is [.setR 68 (.r 4),
         .setR 69 (.llen (.o 4)),
         .setR 70 (.con .none),
         .setR 71 (.cell (.o 9) 0),
         .setR 72 (.llen (.r 71)),
         .setR 73 (.ci .neq (.r 69) (.r 72)),
         .setR 74 (.r 73),
         .setR 75 (.con .none),
         .setR 76 (.cell (.o 1) 1),
         .setR 77 (.ci .neq (.r 76) (.con (.int 0))),
         .setR 78 (.pick (.r 74) (.con (.bool true)) (.r 77))])
        (.ite (.r 78) [2,3] []
         (.seq
          (.is [.setR 2 (.con (.int 0)),
           .setR 3 (.con (.int 2))])
          (.ret (.tup [(.r 2),(.r 3)])))
         .skip))
       (.seq
        (.is [.setR 10 (.con (.int (-1)))])
        (.seq
         (.seq
          (.is [.setR 79 (.con .none),
           .setR 80 (.cell (.o 9) 0),
           .setR 81 (.llen (.r 80)),
           .setR 82 (.con (.int 0))])
          av7)
         (.seq
          (.seq
           (.is [.setR 107 (.con .none),
             .setR 108 (.cell (.o 9) 1),
             .setR 109 (.ci .eql (.r 108) (.con (.int (-1))))])
           (.ite (.r 109) [2,3] []
            (.seq
             (.is [.setR 110 (.r 10),
              .setR 2 (.r 110),
              .setR 3 (.con (.int 0))])
             (.ret (.tup [(.r 2),(.r 3)])))
            .skip))
          (.seq
           (.is [.setR 111 (.con .none),
             .setR 112 (.cell (.o 9) 1),
             .setR 2 (.r 112),
             .setR 3 (.con (.int 0))])
           (.ret (.tup [(.r 2),(.r 3)]))))))))))))
theorem axy:xC=some QU:=by kernel_rfl
theorem axY:tab RG=some QU:=by rw[Ya,←axy,←YS]
def QV:PC:=
 (.seq
  (.is [.setO 2 (.mk [(.r 0)]),
    .setR 2 (.con .none),
    .setO 4 (.con (.agg [(.bool false),(.int 0)])),
    .setR 4 (.con .none)])
  (.seq
   (.seq
    (.is [.setR 7 (.r 1),
      .setR 8 (.con .none),
      .setR 9 (.cell (.o 2) 0),
      .setR 10 (.llen (.r 9)),
      .setR 11 (.ci .geq (.r 7) (.r 10)),
      .setR 12 (.r 11),
      .setR 13 (.con .none),
      .setR 14 (.cell (.o 2) 0),
      .setR 15 (.r 1),
      .chk (.imp [(12,false)] (.idx (.r 14) (.r 15))),
      .setR 16 (.ref (.nth (.r 14) (.r 15))),
      .setR 17 (.ref (.cell (.deref (.r 16)) 0)),
      .setR 18 (.deref (.r 17)),
      .setR 19 (.nt (.r 18)),
      .setR 20 (.pick (.r 12) (.con (.bool true)) (.r 19))])
    (.ite (.r 20) [] [4]
     (.seq
      (.is [.setR 21 (.mk [(.con (.bool false)),(.con (.int 0))]),
        .setO 4 (.setc (.o 4) 0 (.r 21))])
      (.ret (.mk [(.cell (.o 4) 0),(.cell (.o 4) 1)])))
     .skip))
   (.seq
    (.seq
     (.is [.setR 23 (.r 1),
       .call [] 24 262 [(.r 23)],
       .setR 22 (.r 24),
       .setR 25 (.tget (.r 22) 0),
       .setR 26 (.tget (.r 22) 1),
       .setR 5 (.r 25),
       .setR 6 (.r 26)])
     (.seq
      (.is [.setR 27 (.r 5),
        .setR 28 (.ci .eql (.r 27) (.con (.int 1)))])
      (.ite (.r 28) [] [4]
       (.seq
        (.is [.setR 29 (.con .none),
         .setR 30 (.cell (.o 2) 0),
         .setR 31 (.r 1),
         .chk (.idx (.r 30) (.r 31)),
         .setR 32 (.ref (.nth (.r 30) (.r 31))),
         .setR 33 (.ref (.cell (.deref (.r 32)) 1)),
         .setR 34 (.deref (.r 33)),
         .setR 35 (.ci .neq (.r 34) (.con (.int 0))),
         .call [] 36 263 [(.r 35)],
         .setO 4 (.setc (.o 4) 0 (.r 36))])
        (.ret (.mk [(.cell (.o 4) 0),(.cell (.o 4) 1)])))
       .skip)))
    (.seq
     (.is [.setR 37 (.con .none),
       .setR 38 (.cell (.o 2) 0),
       .setR 39 (.r 1),
       .chk (.idx (.r 38) (.r 39)),
       .setR 40 (.ref (.nth (.r 38) (.r 39))),
       .setR 41 (.ref (.cell (.deref (.r 40)) 1)),
       .setR 42 (.deref (.r 41)),
       .call [] 43 264 [(.r 42)],
       .setR 44 (.mk [(.con (.bool true)),(.r 43)]),
       .setO 4 (.setc (.o 4) 0 (.r 44))])
     (.ret (.mk [(.cell (.o 4) 0),(.cell (.o 4) 1)]))))))
theorem axz:BV=some QV:=by kernel_rfl
theorem axZ:tab RJ=some QV:=by rw[Ye,←axz,←YW]
def QW:PC:=
 (.seq
  (.is [.setO 4 (.con (.agg [(.bool false),(.int 0)])),
    .setR 4 (.con .none)])
  (.seq
   (.seq
    (.is [.setR 8 (.r 0)])
    (.block 0 [9,10,22,23] [4]
     (.seq
      (.is [.setR 10 (.ci .eql (.r 8) (.con (.int 3))),
        .setR 9 (.r 10)])
      (.ite (.r 9) [22,23] [4]
       (.seq
        (.seq
         (.is [.setR 11 (.r 1),
           .chk (.idx (.r 11) (.con (.int 0))),
           .setR 12 (.ref (.nth (.r 11) (.con (.int 0)))),
           .setR 13 (.ref (.cell (.deref (.r 12)) 0)),
           .setR 14 (.deref (.r 13))])
         (.ite (.r 14) [] [4]
          (.seq
           (.is [.setR 15 (.r 1),
             .chk (.idx (.r 15) (.con (.int 0))),
             .setR 16 (.ref (.nth (.r 15) (.con (.int 0)))),
             .setR 17 (.ref (.cell (.deref (.r 16)) 1)),
             .setR 18 (.deref (.r 17)),
             .setR 19 (.ci .eql (.r 18) (.con (.int 0))),
             .call [] 20 263 [(.r 19)],
             .setO 4 (.setc (.o 4) 0 (.r 20))])
           (.ret (.mk [(.cell (.o 4) 0),(.cell (.o 4) 1)])))
          .skip))
        (.seq
         (.is [.setR 21 (.mk [(.con (.bool false)),(.con (.int 0))]),
           .setO 4 (.setc (.o 4) 0 (.r 21))])
         (.ret (.mk [(.cell (.o 4) 0),(.cell (.o 4) 1)]))))
       (.seq
        (.seq
         (.is [.setR 23 (.ci .eql (.r 8) (.con (.int 4))),
           .setR 22 (.r 23)])
         (.ite (.r 22) [22] []
          .skip
          (.is [.setR 24 (.ci .eql (.r 8) (.con (.int 5))),
            .setR 22 (.r 24)])))
        (.ite (.r 22) [] [4]
         (.seq
          (.is [.setR 25 (.r 0),
            .setR 26 (.ci .eql (.r 25) (.con (.int 5))),
            .call [] 27 263 [(.r 26)],
            .setO 5 (.con (.agg [(.bool false),(.int 0)])),
            .setR 5 (.con .none),
            .setO 5 (.setc (.o 5) 0 (.r 27))])
          (.seq
           (.is [.setR 28 (.r 1),
             .chk (.idx (.r 28) (.con (.int 0))),
             .setR 29 (.ref (.nth (.r 28) (.con (.int 0)))),
             .setR 30 (.deref (.r 29)),
             .setR 31 (.mk [(.cell (.o 5) 0),(.cell (.o 5) 1)]),
             .setR 32 (.an (.cb .eql (.cell (.r 30) 0) (.cell (.r 31) 0)) (.an (.ci .eql (.cell (.r 30) 1) (.cell (.r 31) 1)) (.con (.bool true)))),
             .setR 33 (.r 32),
             .setR 34 (.r 1),
             .chk (.imp [(33,false)] (.idx (.r 34) (.con (.int 1)))),
             .setR 35 (.ref (.nth (.r 34) (.con (.int 1)))),
             .setR 36 (.deref (.r 35)),
             .setR 37 (.mk [(.cell (.o 5) 0),(.cell (.o 5) 1)]),
             .setR 38 (.an (.cb .eql (.cell (.r 36) 0) (.cell (.r 37) 0)) (.an (.ci .eql (.cell (.r 36) 1) (.cell (.r 37) 1)) (.con (.bool true)))),
             .setR 39 (.pick (.r 33) (.con (.bool true)) (.r 38))])
           (.ite (.r 39) [] [4]
            (.seq
             (.is [.setR 40 (.mk [(.cell (.o 5) 0),(.cell (.o 5) 1)]),
               .setO 4 (.setc (.o 4) 0 (.r 40))])
             (.ret (.mk [(.cell (.o 4) 0),(.cell (.o 4) 1)])))
            .skip)))
         (.seq
          (.is [.setR 42 (.ci .eql (.r 8) (.con (.int 6))),
            .setR 41 (.r 42)])
          (.ite (.r 41) [] [4]
           (.seq
            (.seq
             (.is [.setR 43 (.r 1),
               .chk (.idx (.r 43) (.con (.int 1))),
               .setR 44 (.ref (.nth (.r 43) (.con (.int 1)))),
               .setR 45 (.ref (.cell (.deref (.r 44)) 0)),
               .setR 46 (.deref (.r 45)),
               .setR 47 (.r 46),
               .setR 48 (.r 1),
               .chk (.imp [(47,true)] (.idx (.r 48) (.con (.int 1)))),
               .setR 49 (.ref (.nth (.r 48) (.con (.int 1)))),
               .setR 50 (.deref (.r 49)),
               .setR 51 (.r 1),
               .chk (.imp [(47,true)] (.idx (.r 51) (.con (.int 2)))),
               .setR 52 (.ref (.nth (.r 51) (.con (.int 2)))),
               .setR 53 (.deref (.r 52)),
               .setR 54 (.an (.cb .eql (.cell (.r 50) 0) (.cell (.r 53) 0)) (.an (.ci .eql (.cell (.r 50) 1) (.cell (.r 53) 1)) (.con (.bool true)))),
               .setR 55 (.pick (.r 47) (.r 54) (.con (.bool false)))])
             (.ite (.r 55) [] [4]
              (.seq
               (.is [.setR 56 (.r 1),
                 .chk (.idx (.r 56) (.con (.int 1))),
                 .setR 57 (.ref (.nth (.r 56) (.con (.int 1)))),
                 .setR 58 (.deref (.r 57)),
                 .setO 4 (.setc (.o 4) 0 (.r 58))])
               (.ret (.mk [(.cell (.o 4) 0),(.cell (.o 4) 1)])))
              .skip))
            (.seq
             (.is [.setR 59 (.mk [(.con (.bool false)),(.con (.int 0))]),
               .setO 4 (.setc (.o 4) 0 (.r 59))])
             (.ret (.mk [(.cell (.o 4) 0),(.cell (.o 4) 1)]))))
           .skip))))))))
   (.seq
    (.seq
     (.is [.setR 60 (.r 1),
       .chk (.idx (.r 60) (.con (.int 0))),
       .setR 61 (.ref (.nth (.r 60) (.con (.int 0)))),
       .setR 62 (.ref (.cell (.deref (.r 61)) 0)),
       .setR 63 (.deref (.r 62)),
       .setR 64 (.nt (.r 63)),
       .setR 65 (.r 64),
       .setR 66 (.r 1),
       .chk (.imp [(65,false)] (.idx (.r 66) (.con (.int 1)))),
       .setR 67 (.ref (.nth (.r 66) (.con (.int 1)))),
       .setR 68 (.ref (.cell (.deref (.r 67)) 0)),
       .setR 69 (.deref (.r 68)),
       .setR 70 (.nt (.r 69)),
       .setR 71 (.pick (.r 65) (.con (.bool true)) (.r 70))])
     (.ite (.r 71) [] [4]
      (.seq
       (.is [.setR 72 (.mk [(.con (.bool false)),(.con (.int 0))]),
         .setO 4 (.setc (.o 4) 0 (.r 72))])
       (.ret (.mk [(.cell (.o 4) 0),(.cell (.o 4) 1)])))
      .skip))
    (.seq
     (.is [.setR 73 (.r 1),
       .chk (.idx (.r 73) (.con (.int 0))),
       .setR 74 (.ref (.nth (.r 73) (.con (.int 0)))),
       .setR 75 (.ref (.cell (.deref (.r 74)) 1)),
       .setR 76 (.deref (.r 75)),
       .setR 77 (.r 1),
       .chk (.idx (.r 77) (.con (.int 1))),
       .setR 78 (.ref (.nth (.r 77) (.con (.int 1)))),
       .setR 79 (.ref (.cell (.deref (.r 78)) 1)),
       .setR 80 (.deref (.r 79)),
       .setR 6 (.r 76),
       .setR 7 (.r 80)])
     (.seq
      (.seq
       (.is [.setR 81 (.r 0)])
       (.block 1 [82,83,88,89,94,95] [4]
        (.seq
         (.seq
          (.is [.setR 83 (.ci .eql (.r 81) (.con (.int 4))),
           .setR 82 (.r 83)])
          (.ite (.r 82) [82] []
           .skip
           (.is [.setR 84 (.ci .eql (.r 81) (.con (.int 5))),
             .setR 82 (.r 84)])))
         (.ite (.r 82) [88,89,94,95] [4]
          (.seq
           (.is [.setR 85 (.r 0),
             .setR 86 (.ci .eql (.r 85) (.con (.int 4))),
             .call [] 87 263 [(.r 86)],
             .setO 4 (.setc (.o 4) 0 (.r 87))])
           (.ret (.mk [(.cell (.o 4) 0),(.cell (.o 4) 1)])))
          (.seq
           (.is [.setR 89 (.ci .eql (.r 81) (.con (.int 7))),
             .setR 88 (.r 89)])
           (.ite (.r 88) [94,95] [4]
            (.seq
             (.is [.setR 90 (.r 6),
               .setR 91 (.r 7),
               .setR 92 (.ci .lss (.r 90) (.r 91)),
               .call [] 93 263 [(.r 92)],
               .setO 4 (.setc (.o 4) 0 (.r 93))])
             (.ret (.mk [(.cell (.o 4) 0),(.cell (.o 4) 1)])))
            (.seq
             (.is [.setR 95 (.ci .eql (.r 81) (.con (.int 8))),
               .setR 94 (.r 95)])
             (.ite (.r 94) [] [4]
              (.seq
               (.is [.setR 96 (.r 6),
                 .setR 97 (.r 7),
                 .setR 98 (.ci .eql (.r 96) (.r 97)),
                 .call [] 99 263 [(.r 98)],
                 .setO 4 (.setc (.o 4) 0 (.r 99))])
               (.ret (.mk [(.cell (.o 4) 0),(.cell (.o 4) 1)])))
              .skip))))))))
      (.seq
       (.is [.setR 100 (.r 0),
         .setR 101 (.r 6),
         .setR 102 (.r 7),
         .call [] 103 265 [(.r 100),(.r 101),(.r 102)],
         .setR 104 (.mk [(.con (.bool true)),(.r 103)]),
         .setO 4 (.setc (.o 4) 0 (.r 104))])
       (.ret (.mk [(.cell (.o 4) 0),(.cell (.o 4) 1)]))))))))
theorem axA:BT=some QW:=by kernel_rfl
theorem ax0:tab RH=some QW:=by rw[Yb,←axA,←YT]
def alM:PC:=
 (.seq
  (.is [.setR 12 (.ci .lss (.r 11) (.r 10))])
  (.seq
   (.ite (.r 12) [] []
    .skip
    (.exit 0))
   (.seq
    (.block 1 [3,5,13,14,15,16,17,18,19,20] []
     (.seq
      (.is [.chk (.idx (.r 9) (.r 11)),
        .setR 13 (.ref (.nth (.r 9) (.r 11))),
        .setR 14 (.deref (.r 13)),
        .setR 5 (.r 14)])
      (.seq
       (.is [.setR 15 (.r 3),
         .setR 16 (.r 5),
         .setR 17 (.llen (.r 16)),
         .setR 18 (.ai .add .i64 (.r 15) (.r 17)),
         .setR 3 (.r 18)])
       (.seq
        (.is [.setR 19 (.r 3),
          .setR 20 (.ci .lss (.r 19) (.con (.int 0)))])
        (.ite (.r 20) [] []
         (.is [.chk (.nt (.con (.bool true))),
           .setR 21 (.con .none),
           .chk (.nt (.con (.bool true)))])
         .skip)))))
    (.is [.setR 22 (.ai .add .i64 (.r 11) (.con (.int 1))),
      .setR 11 (.r 22)]))))
def av8:PC:=.block 0 [3,11,12] [] (.loop [3,11] [] alM)
def alN:PC:=
 (.seq
  (.is [.setR 28 (.ci .lss (.r 27) (.r 26))])
  (.seq
   (.ite (.r 28) [] []
    .skip
    (.exit 2))
   (.seq
    (.block 3 [6,8,29,30,32,33] [6]
     (.seq
      (.is [.chk (.idx (.r 25) (.r 27)),
        .setR 29 (.ref (.nth (.r 25) (.r 27))),
        .setR 30 (.deref (.r 29)),
        .setR 8 (.r 30)])
      (.is [.setR 31 (.r 6),
        .setR 32 (.r 8),
        .chk (.ci .leq (.llen (.app (.o 6) (.r 32))) (.con (.int 4294967296))),
        .setO 6 (.app (.o 6) (.r 32)),
        .setR 33 (.con .none),
        .setR 6 (.r 33)])))
    (.is [.setR 34 (.ai .add .i64 (.r 27) (.con (.int 1))),
      .setR 27 (.r 34)]))))
def av9:PC:=.block 2 [6,27,28] [6] (.loop [6,27] [6] alN)
def QX:PC:=
 (.seq
  (.is [.setR 2 (.con (.list []))])
  (.seq
   (.is [.setR 3 (.con (.int 0))])
   (.seq
    (.seq
     (.is [.setR 9 (.r 0),
       .setR 10 (.llen (.r 9)),
       .setR 11 (.con (.int 0))])
     av8)
    (.seq
     (.is [.setR 23 (.r 3),
       .call [] 24 266 [(.con (.list [])),(.r 23)],
       .setO 24 (.r 24),
       .setR 24 (.con .none),
       .setR 6 (.r 24),
       .setO 6 (.o 24)])
     (.seq
      (.seq
       (.is [.setR 25 (.r 0),
         .setR 26 (.llen (.r 25)),
         .setR 27 (.con (.int 0))])
       av9)
      (.seq
       (.is [.setR 35 (.r 6),
         .setR 2 (.o 6)])
       (.ret (.r 2))))))))
theorem axB:xz=some QX:=by kernel_rfl
theorem ax1:tab RA=some QX:=by rw[X4,←axB,←YI]
def QR:PC:=
 (.seq
  (.is [.setR 2 (.con (.int 0))])
  (.seq
   (.ite (.con (.bool false)) [2] []
    (.seq
     (.is [.setR 3 (.r 0),
       .setR 4 (.conv .u32 (.r 3)),
       .call [] 5 255 [(.r 4)],
       .setR 2 (.r 5)])
     (.ret (.r 2)))
    .skip)
   (.seq
    (.is [.setR 6 (.r 0),
      .call [] 7 256 [(.r 6)],
      .setR 2 (.r 7)])
    (.ret (.r 2)))))
theorem axv:AX=some QR:=by kernel_rfl
theorem axV:tab acI=some QR:=by rw[ajI,←axv,←YB]
def alI:PC:=
 (.block 1 [1,2,3,8,9,10,11,12,19,20,21,22,23,28,29,34,35,42,43,44,45,46,47,48,49,50,61,62,64,65,68,73,74,75,87] []
  (.seq
   (.is [.setR 19 (.r 2),
     .setR 20 (.r 1),
     .setR 21 (.ai .sub .i64 (.r 19) (.r 20)),
     .setR 10 (.r 21)])
   (.seq
    (.seq
     (.is [.setR 22 (.r 10),
       .setR 23 (.ci .leq (.r 22) (.con (.int 12)))])
     (.ite (.r 23) [] []
      (.seq
       (.is [.setR 24 (.r 0),
         .setR 25 (.r 1),
         .setR 26 (.r 2),
         .call [] 27 246 [(.r 24),(.r 25),(.r 26)]])
       (.ret (.tup [])))
      .skip))
    (.seq
     (.seq
      (.is [.setR 28 (.r 3),
        .setR 29 (.ci .eql (.r 28) (.con (.int 0)))])
      (.ite (.r 29) [] []
       (.seq
        (.is [.setR 30 (.r 0),
          .setR 31 (.r 1),
          .setR 32 (.r 2),
          .call [] 33 247 [(.r 30),(.r 31),(.r 32)]])
        (.ret (.tup [])))
       .skip))
     (.seq
      (.seq
       (.is [.setR 34 (.r 8),
         .setR 35 (.nt (.r 34))])
       (.ite (.r 35) [3] []
        (.seq
         (.is [.setR 36 (.r 0),
           .setR 37 (.r 1),
           .setR 38 (.r 2),
           .call [] 39 248 [(.r 36),(.r 37),(.r 38)]])
         (.is [.setR 40 (.r 3),
           .setR 41 (.ai .sub .i64 (.r 40) (.con (.int 1))),
           .setR 3 (.r 41)]))
        .skip))
      (.seq
       (.is [.setR 43 (.r 0),
         .setR 44 (.r 1),
         .setR 45 (.r 2),
         .call [] 46 249 [(.r 43),(.r 44),(.r 45)],
         .setR 42 (.r 46),
         .setR 47 (.tget (.r 42) 0),
         .setR 48 (.tget (.r 42) 1),
         .setR 11 (.r 47),
         .setR 12 (.r 48)])
       (.seq
        (.seq
         (.is [.setR 49 (.r 12),
           .setR 50 (.ci .eql (.r 49) (.con (.int 2)))])
         (.ite (.r 50) [11,12] []
          (.seq
           (.is [.setR 51 (.r 0),
             .setR 52 (.r 1),
             .setR 53 (.r 2),
             .call [] 54 250 [(.r 51),(.r 52),(.r 53)]])
           (.seq
            (.is [.setR 55 (.r 2),
             .setR 56 (.ai .sub .i64 (.r 55) (.con (.int 1))),
             .setR 57 (.r 11),
             .setR 58 (.r 1),
             .setR 59 (.ai .sub .i64 (.r 57) (.r 58)),
             .setR 60 (.ai .sub .i64 (.r 56) (.r 59)),
             .setR 11 (.r 60)])
            (.is [.setR 12 (.con (.int 1))])))
          .skip))
        (.seq
         (.seq
          (.is [.setR 61 (.r 8),
            .setR 62 (.r 61),
            .setR 63 (.r 9),
            .setR 64 (.pick (.r 62) (.r 63) (.con (.bool false))),
            .setR 65 (.r 64),
            .setR 66 (.r 12),
            .setR 67 (.ci .eql (.r 66) (.con (.int 1))),
            .setR 68 (.pick (.r 65) (.r 67) (.con (.bool false)))])
          (.ite (.r 68) [] []
           (.seq
            (.is [.setR 69 (.r 0),
             .setR 70 (.r 1),
             .setR 71 (.r 2),
             .call [] 72 251 [(.r 69),(.r 70),(.r 71)]])
            (.ite (.r 72) [] []
             (.ret (.tup []))
             .skip))
           .skip))
         (.seq
          (.seq
           (.is [.setR 73 (.r 1),
             .setR 74 (.ci .gtr (.r 73) (.con (.int 0))),
             .setR 75 (.r 74),
             .setR 76 (.r 0),
             .setR 77 (.r 1),
             .setR 78 (.ai .sub .i64 (.r 77) (.con (.int 1))),
             .chk (.imp [(75,true)] (.idx (.r 76) (.r 78))),
             .setR 79 (.ref (.nth (.r 76) (.r 78))),
             .setR 80 (.deref (.r 79)),
             .setR 81 (.r 0),
             .setR 82 (.r 11),
             .chk (.imp [(75,true)] (.idx (.r 81) (.r 82))),
             .setR 83 (.ref (.nth (.r 81) (.r 82))),
             .setR 84 (.deref (.r 83)),
             .call [(75,true)] 85 252 [(.r 80),(.r 84)],
             .setR 86 (.nt (.r 85)),
             .setR 87 (.pick (.r 75) (.r 86) (.con (.bool false)))])
           (.ite (.r 87) [1] []
            (.seq
             (.is [.setR 88 (.r 0),
              .setR 89 (.r 1),
              .setR 90 (.r 2),
              .setR 91 (.r 11),
              .call [] 92 253 [(.r 88),(.r 89),(.r 90),(.r 91)],
              .setR 13 (.r 92)])
             (.seq
              (.is [.setR 93 (.r 13),
               .setR 1 (.r 93)])
              (.exit 1)))
            .skip))
          (.seq
           (.is [.setR 95 (.r 0),
             .setR 96 (.r 1),
             .setR 97 (.r 2),
             .setR 98 (.r 11),
             .call [] 99 254 [(.r 95),(.r 96),(.r 97),(.r 98)],
             .setR 94 (.r 99),
             .setR 100 (.tget (.r 94) 0),
             .setR 101 (.tget (.r 94) 1),
             .setR 14 (.r 100),
             .setR 15 (.r 101)])
           (.seq
            (.is [.setR 102 (.r 15),
             .setR 9 (.r 102)])
            (.seq
             (.is [.setR 103 (.r 14),
              .setR 104 (.r 1),
              .setR 105 (.ai .sub .i64 (.r 103) (.r 104)),
              .setR 106 (.r 2),
              .setR 107 (.r 14),
              .setR 108 (.ai .sub .i64 (.r 106) (.r 107)),
              .setR 16 (.r 105),
              .setR 17 (.r 108)])
             (.seq
              (.is [.setR 109 (.r 10),
               .chk (.ci .neq (.con (.int 8)) (.con (.int 0))),
               .setR 110 (.ai .quo .i64 (.r 109) (.con (.int 8))),
               .setR 18 (.r 110)])
              (.seq
               (.is [.setR 111 (.r 16),
                .setR 112 (.r 17),
                .setR 113 (.ci .lss (.r 111) (.r 112))])
               (.ite (.r 113) [1,2,8] []
                (.seq
                 (.is [.setR 114 (.r 16),
                  .setR 115 (.r 18),
                  .setR 116 (.ci .geq (.r 114) (.r 115)),
                  .setR 8 (.r 116)])
                 (.seq
                  (.is [.setR 117 (.r 0),
                    .setR 118 (.r 1),
                    .setR 119 (.r 14),
                    .setR 120 (.r 3),
                    .call [] 121 206 [(.r 117),(.r 118),(.r 119),(.r 120)]])
                  (.is [.setR 122 (.r 14),
                    .setR 123 (.ai .add .i64 (.r 122) (.con (.int 1))),
                    .setR 1 (.r 123)])))
                (.seq
                 (.is [.setR 124 (.r 17),
                  .setR 125 (.r 18),
                  .setR 126 (.ci .geq (.r 124) (.r 125)),
                  .setR 8 (.r 126)])
                 (.seq
                  (.is [.setR 127 (.r 0),
                    .setR 128 (.r 14),
                    .setR 129 (.ai .add .i64 (.r 128) (.con (.int 1))),
                    .setR 130 (.r 2),
                    .setR 131 (.r 3),
                    .call [] 132 206 [(.r 127),(.r 129),(.r 130),(.r 131)]])
                  (.is [.setR 133 (.r 14),
                    .setR 2 (.r 133)]))))))))))))))))))
def av4:PC:=.block 0 [] [] (.loop [1,2,3,8,9] [] alI)
def QQ:PC:=
 (.seq
  (.is [.setR 8 (.con (.bool true))])
  (.seq
   (.is [.setR 9 (.con (.bool true))])
   av4))
theorem axu:BN=some QQ:=by kernel_rfl
theorem axU:tab ad2=some QQ:=by rw[ak8,←axu,←YO]
def alF:PC:=
 (.seq
  (.is [.setR 9 (.ci .lss (.r 8) (.r 7))])
  (.seq
   (.ite (.r 9) [] []
    .skip
    (.exit 0))
   (.seq
    (.block 1 [4,5,10,11,12,13,14,15,16] []
     (.seq
      (.is [.setR 10 (.r 8),
        .setR 5 (.r 10)])
      (.seq
       (.is [.setR 11 (.r 1),
         .setR 12 (.r 0),
         .setR 13 (.r 5),
         .chk (.idx (.r 12) (.r 13)),
         .setR 14 (.ref (.nth (.r 12) (.r 13))),
         .setR 15 (.deref (.r 14)),
         .setR 16 (.ci .eql (.r 11) (.r 15))])
       (.ite (.r 16) [4] []
        (.seq
         (.is [.setR 17 (.r 5),
           .setR 4 (.r 17)])
         (.ret (.r 4)))
        .skip))))
    (.is [.setR 18 (.ai .add .i64 (.r 8) (.con (.int 1))),
      .setR 8 (.r 18)]))))
def av1:PC:=.block 0 [4,8,9] [] (.loop [4,8] [] alF)
def QL:PC:=
 (.seq
  (.is [.setR 4 (.con (.int 0))])
  (.seq
   (.seq
    (.is [.setR 6 (.r 0),
      .setR 7 (.llen (.r 6)),
      .setR 8 (.con (.int 0))])
    av1)
   (.seq
    (.is [.setR 4 (.con (.int (-1)))])
    (.ret (.r 4)))))
theorem axp:xB=some QL:=by kernel_rfl
theorem axO:tab RD=some QL:=by rw[X7,←axp,←YL]
def Q0:PC:=
 (.seq
  (.is [.setO 1 (.mk [(.r 0)]),
    .setR 1 (.con .none),
    .setR 2 (.con (.int 0)),
    .setR 3 (.con (.int 0))])
  (.seq
   (.seq
    (.is [.setR 6 (.con .none),
      .setR 7 (.cell (.o 1) 2),
      .setR 8 (.llen (.r 7)),
      .setR 9 (.ci .gtr (.r 8) (.con (.int 0)))])
    (.ite (.r 9) [2,3] []
     (.seq
      (.is [.setR 2 (.con (.int 0)),
        .setR 3 (.con (.int 2))])
      (.ret (.tup [(.r 2),(.r 3)])))
     .skip))
   (.seq
    (.seq
     (.is [.setR 10 (.con .none),
       .setR 11 (.cell (.o 1) 0)])
     (.block 0 [2,3,12,13,20,21] []
      (.seq
       (.is [.setR 13 (.ci .eql (.r 11) (.con (.int 0))),
         .setR 12 (.r 13)])
       (.ite (.r 12) [2,3,20,21] []
        (.seq
         (.seq
          (.is [.setR 14 (.con .none),
           .setR 15 (.cell (.o 1) 1),
           .call [] 16 264 [(.r 15)],
           .setR 17 (.con .none),
           .setR 18 (.cell (.o 1) 1),
           .setR 19 (.ci .neq (.r 16) (.r 18))])
          (.ite (.r 19) [2,3] []
           (.seq
            (.is [.setR 2 (.con (.int 0)),
              .setR 3 (.con (.int 3))])
            (.ret (.tup [(.r 2),(.r 3)])))
           .skip))
         (.seq
          (.is [.setR 2 (.con (.int 0)),
           .setR 3 (.con (.int 0))])
          (.ret (.tup [(.r 2),(.r 3)]))))
        (.seq
         (.is [.setR 21 (.ci .eql (.r 11) (.con (.int 1))),
           .setR 20 (.r 21)])
         (.ite (.r 20) [2,3] []
          (.seq
           (.seq
            (.is [.setR 22 (.con .none),
              .setR 23 (.cell (.o 1) 1),
              .setR 24 (.ci .lss (.r 23) (.con (.int 0))),
              .setR 25 (.r 24),
              .setR 26 (.con .none),
              .setR 27 (.cell (.o 1) 1),
              .setR 28 (.ci .gtr (.r 27) (.con (.int 1))),
              .setR 29 (.pick (.r 25) (.con (.bool true)) (.r 28))])
            (.ite (.r 29) [2,3] []
             (.seq
              (.is [.setR 2 (.con (.int 0)),
                .setR 3 (.con (.int 3))])
              (.ret (.tup [(.r 2),(.r 3)])))
             .skip))
           (.seq
            (.is [.setR 2 (.con (.int 1)),
              .setR 3 (.con (.int 0))])
            (.ret (.tup [(.r 2),(.r 3)]))))
          .skip))))))
    (.seq
     (.is [.setR 31 (.con .none),
       .setR 32 (.cell (.o 1) 1),
       .call [] 33 262 [(.r 32)],
       .setR 30 (.r 33),
       .setR 34 (.tget (.r 30) 0),
       .setR 35 (.tget (.r 30) 1),
       .setR 4 (.r 34),
       .setR 5 (.r 35)])
     (.seq
      (.seq
       (.is [.setR 36 (.r 5),
         .setR 37 (.nt (.r 36))])
       (.ite (.r 37) [2,3] []
        (.seq
         (.is [.setR 2 (.con (.int 0)),
           .setR 3 (.con (.int 10))])
         (.ret (.tup [(.r 2),(.r 3)])))
        .skip))
      (.seq
       (.is [.setR 38 (.r 4),
         .setR 2 (.r 38),
         .setR 3 (.con (.int 0))])
       (.ret (.tup [(.r 2),(.r 3)]))))))))
theorem axE:BU=some Q0:=by kernel_rfl
theorem ax4:tab RI=some Q0:=by rw[Yc,←axE,←YU]
def Q3:PC:=
 (.seq
  (.is [.setO 2 (.con (.agg [(.list []),(.int 0)])),
    .setR 2 (.con .none),
    .setO 4098 (.con (.list []))])
  (.seq
   (.seq
    (.is [.setR 3 (.r 0)])
    (.block 0 [4,5,8,9,13,14,17,18,21,22] [2]
     (.seq
      (.is [.setR 5 (.ci .eql (.r 3) (.con (.int 3))),
        .setR 4 (.r 5)])
      (.ite (.r 4) [8,9,13,14,17,18,21,22] [2]
       (.seq
        (.is [.setO 6 (.lst [(.con (.int 1))]),
         .setR 6 (.con .none),
         .setR 7 (.mk [(.o 6),(.con (.int 1))]),
         .setO 2 (.setc (.o 2) 0 (.r 7))])
        (.ret (.mk [(.cell (.o 2) 0),(.cell (.o 2) 1)])))
       (.seq
        (.seq
         (.is [.setR 9 (.ci .eql (.r 3) (.con (.int 4))),
           .setR 8 (.r 9)])
         (.ite (.r 8) [8] []
          .skip
          (.is [.setR 10 (.ci .eql (.r 3) (.con (.int 5))),
            .setR 8 (.r 10)])))
        (.ite (.r 8) [13,14,17,18,21,22] [2]
         (.seq
          (.is [.setO 11 (.lst [(.con (.int 1)),(.con (.int 1))]),
            .setR 11 (.con .none),
            .setR 12 (.mk [(.o 11),(.con (.int 1))]),
            .setO 2 (.setc (.o 2) 0 (.r 12))])
          (.ret (.mk [(.cell (.o 2) 0),(.cell (.o 2) 1)])))
         (.seq
          (.is [.setR 14 (.ci .eql (.r 3) (.con (.int 6))),
            .setR 13 (.r 14)])
          (.ite (.r 13) [17,18,21,22] [2]
           (.seq
            (.is [.setO 15 (.lst [(.con (.int 1)),(.con (.int (-1))),(.con (.int (-1)))]),
              .setR 15 (.con .none),
              .setR 16 (.mk [(.o 15),(.con (.int (-1)))]),
              .setO 2 (.setc (.o 2) 0 (.r 16))])
            (.ret (.mk [(.cell (.o 2) 0),(.cell (.o 2) 1)])))
           (.seq
            (.is [.setR 18 (.ci .eql (.r 3) (.con (.int 7))),
              .setR 17 (.r 18)])
            (.ite (.r 17) [21,22] [2]
             (.seq
              (.is [.setO 19 (.lst [(.con (.int 0)),(.con (.int 0))]),
                .setR 19 (.con .none),
                .setR 20 (.mk [(.o 19),(.con (.int 1))]),
                .setO 2 (.setc (.o 2) 0 (.r 20))])
              (.ret (.mk [(.cell (.o 2) 0),(.cell (.o 2) 1)])))
             (.seq
              (.is [.setR 22 (.ci .eql (.r 3) (.con (.int 8))),
                .setR 21 (.r 22)])
              (.ite (.r 21) [] [2]
               (.seq
                (.is [.setO 23 (.lst [(.con (.int (-1))),(.con (.int (-1)))]),
                  .setR 23 (.con .none),
                  .setR 24 (.mk [(.o 23),(.con (.int 1))]),
                  .setO 2 (.setc (.o 2) 0 (.r 24))])
                (.ret (.mk [(.cell (.o 2) 0),(.cell (.o 2) 1)])))
               .skip))))))))))))
   (.seq
    (.is [.setO 25 (.lst [(.con (.int 0)),(.con (.int 0))]),
      .setR 25 (.con .none),
      .setR 26 (.mk [(.o 25),(.con (.int 0))]),
      .setO 2 (.setc (.o 2) 0 (.r 26))])
    (.ret (.mk [(.cell (.o 2) 0),(.cell (.o 2) 1)])))))
theorem axF:BW=some Q3:=by kernel_rfl
theorem ax5:tab RL=some Q3:=by rw[Yf,←axF,←YY]
def Q4:PC:=
 (.seq
  (.is [.setR 2 (.con (.int 0)),
    .setR 3 (.con (.bool false))])
  (.seq
   (.block 0 [2,3,4,5,6,7,10,11,12,13] []
    (.seq
     (.is [.setR 5 (.r 0),
       .setR 6 (.ci .lss (.r 5) (.con (.int 0))),
       .setR 7 (.r 6),
       .setR 8 (.r 0),
       .setR 9 (.ci .gtr (.r 8) (.con (.int 19))),
       .setR 10 (.pick (.r 7) (.con (.bool true)) (.r 9)),
       .setR 4 (.r 10)])
     (.ite (.r 4) [2,3,11,12,13] []
      (.seq
       (.is [.setR 2 (.con (.int 0)),
         .setR 3 (.con (.bool false))])
       (.ret (.tup [(.r 2),(.r 3)])))
      (.seq
       (.is [.setR 12 (.r 0),
         .setR 13 (.ci .lss (.r 12) (.con (.int 7))),
         .setR 11 (.r 13)])
       (.ite (.r 11) [2,3] []
        (.seq
         (.is [.setR 2 (.con (.int 0)),
           .setR 3 (.con (.bool true))])
         (.ret (.tup [(.r 2),(.r 3)])))
        .skip)))))
   (.seq
    (.is [.setR 2 (.con (.int 1)),
      .setR 3 (.con (.bool true))])
    (.ret (.tup [(.r 2),(.r 3)])))))
theorem axG:BS=some Q4:=by kernel_rfl
theorem ax6:tab RF=some Q4:=by rw[X9,←axG,←YR]
def Q5:PC:=
 (.seq
  (.is [.setO 2 (.con (.agg [(.bool false),(.int 0)])),
    .setR 2 (.con .none)])
  (.seq
   (.seq
    (.is [.setR 3 (.r 0)])
    (.ite (.r 3) [] [2]
     (.seq
      (.is [.setR 4 (.mk [(.con (.bool true)),(.con (.int 1))]),
        .setO 2 (.setc (.o 2) 0 (.r 4))])
      (.ret (.mk [(.cell (.o 2) 0),(.cell (.o 2) 1)])))
     .skip))
   (.seq
    (.is [.setR 5 (.mk [(.con (.bool true)),(.con (.int 0))]),
      .setO 2 (.setc (.o 2) 0 (.r 5))])
    (.ret (.mk [(.cell (.o 2) 0),(.cell (.o 2) 1)])))))
theorem axH:BX=some Q5:=by kernel_rfl
theorem ax7:tab RM=some Q5:=by rw[Yg,←axH,←YZ]
def QZ:PC:=
 (.seq
  (.is [.setR 2 (.con (.int 0))])
  (.seq
   (.seq
    (.is [.setR 3 (.r 0),
      .setR 4 (.ci .geq (.r 3) (.con (.v (.int .u64 4294967296))))])
    (.ite (.r 4) [0,2] []
     (.seq
      (.is [.setR 5 (.r 0),
        .chk (.ci .geq (.con (.v (.int .u64 32))) (.con (.int 0))),
        .setR 6 (.ai .shr .u64 (.r 5) (.con (.v (.int .u64 32)))),
        .setR 0 (.r 6)])
      (.is [.setR 2 (.con (.int 32))]))
     .skip))
   (.seq
    (.seq
     (.is [.setR 7 (.r 0),
       .setR 8 (.ci .geq (.r 7) (.con (.v (.int .u64 65536))))])
     (.ite (.r 8) [0,2] []
      (.seq
       (.is [.setR 9 (.r 0),
         .chk (.ci .geq (.con (.v (.int .u64 16))) (.con (.int 0))),
         .setR 10 (.ai .shr .u64 (.r 9) (.con (.v (.int .u64 16)))),
         .setR 0 (.r 10)])
       (.is [.setR 11 (.r 2),
         .setR 12 (.ai .add .i64 (.r 11) (.con (.int 16))),
         .setR 2 (.r 12)]))
      .skip))
    (.seq
     (.seq
      (.is [.setR 13 (.r 0),
        .setR 14 (.ci .geq (.r 13) (.con (.v (.int .u64 256))))])
      (.ite (.r 14) [0,2] []
       (.seq
        (.is [.setR 15 (.r 0),
         .chk (.ci .geq (.con (.v (.int .u64 8))) (.con (.int 0))),
         .setR 16 (.ai .shr .u64 (.r 15) (.con (.v (.int .u64 8)))),
         .setR 0 (.r 16)])
        (.is [.setR 17 (.r 2),
         .setR 18 (.ai .add .i64 (.r 17) (.con (.int 8))),
         .setR 2 (.r 18)]))
       .skip))
     (.seq
      (.is [.setR 19 (.r 2),
        .setR 20 (.r 0),
        .setR 21 (.conv .u8 (.r 20)),
        .chk (.sok (.con (.v (.string ⟨#[0,1,2,2,3,3,3,3,4,4,4,4,4,4,4,4,5,5,5,5,5,5,5,5,5,5,5,5,5,5,5,5,6,6,6,6,6,6,6,6,6,6,6,6,6,6,6,6,6,6,6,6,6,6,6,6,6,6,6,6,6,6,6,6,7,7,7,7,7,7,7,7,7,7,7,7,7,7,7,7,7,7,7,7,7,7,7,7,7,7,7,7,7,7,7,7,7,7,7,7,7,7,7,7,7,7,7,7,7,7,7,7,7,7,7,7,7,7,7,7,7,7,7,7,7,7,7,7,8,8,8,8,8,8,8,8,8,8,8,8,8,8,8,8,8,8,8,8,8,8,8,8,8,8,8,8,8,8,8,8,8,8,8,8,8,8,8,8,8,8,8,8,8,8,8,8,8,8,8,8,8,8,8,8,8,8,8,8,8,8,8,8,8,8,8,8,8,8,8,8,8,8,8,8,8,8,8,8,8,8,8,8,8,8,8,8,8,8,8,8,8,8,8,8,8,8,8,8,8,8,8,8,8,8,8,8,8,8,8,8,8,8,8,8,8,8,8,8,8,8,8,8,8,8,8,8]⟩))) (.r 21)),
        .setR 22 (.sidx (.con (.v (.string ⟨#[0,1,2,2,3,3,3,3,4,4,4,4,4,4,4,4,5,5,5,5,5,5,5,5,5,5,5,5,5,5,5,5,6,6,6,6,6,6,6,6,6,6,6,6,6,6,6,6,6,6,6,6,6,6,6,6,6,6,6,6,6,6,6,6,7,7,7,7,7,7,7,7,7,7,7,7,7,7,7,7,7,7,7,7,7,7,7,7,7,7,7,7,7,7,7,7,7,7,7,7,7,7,7,7,7,7,7,7,7,7,7,7,7,7,7,7,7,7,7,7,7,7,7,7,7,7,7,7,8,8,8,8,8,8,8,8,8,8,8,8,8,8,8,8,8,8,8,8,8,8,8,8,8,8,8,8,8,8,8,8,8,8,8,8,8,8,8,8,8,8,8,8,8,8,8,8,8,8,8,8,8,8,8,8,8,8,8,8,8,8,8,8,8,8,8,8,8,8,8,8,8,8,8,8,8,8,8,8,8,8,8,8,8,8,8,8,8,8,8,8,8,8,8,8,8,8,8,8,8,8,8,8,8,8,8,8,8,8,8,8,8,8,8,8,8,8,8,8,8,8,8,8,8,8,8,8]⟩))) (.r 21)),
        .setR 23 (.conv .i64 (.r 22)),
        .setR 24 (.ai .add .i64 (.r 19) (.r 23)),
        .setR 2 (.r 24)])
      (.ret (.r 2)))))))
theorem axD:AY=some QZ:=by kernel_rfl
theorem ax3:tab acJ=some QZ:=by rw[ajJ,←axD,←YA]
def alO:PC:=
 (.seq
  (.seq
   (.is [.setR 16 (.r 7),
     .setR 17 (.r 1),
     .setR 18 (.ci .gtr (.r 16) (.r 17)),
     .setR 19 (.r 18),
     .setR 20 (.r 0),
     .setR 21 (.r 7),
     .chk (.imp [(19,true)] (.idx (.r 20) (.r 21))),
     .setR 22 (.ref (.nth (.r 20) (.r 21))),
     .setR 23 (.deref (.r 22)),
     .setR 24 (.r 0),
     .setR 25 (.r 7),
     .setR 26 (.ai .sub .i64 (.r 25) (.con (.int 1))),
     .chk (.imp [(19,true)] (.idx (.r 24) (.r 26))),
     .setR 27 (.ref (.nth (.r 24) (.r 26))),
     .setR 28 (.deref (.r 27)),
     .call [(19,true)] 29 252 [(.r 23),(.r 28)],
     .setR 30 (.pick (.r 19) (.r 29) (.con (.bool false)))])
   (.ite (.r 30) [] []
    .skip
    (.exit 2)))
  (.seq
   (.block 3 [33,34,35,36,37,38,39,40,41,42,43,44,45,46,47,48] []
    (.is [.setR 33 (.r 0),
      .setR 34 (.r 7),
      .setR 35 (.r 0),
      .setR 36 (.r 7),
      .setR 37 (.ai .sub .i64 (.r 36) (.con (.int 1))),
      .setR 38 (.r 0),
      .setR 39 (.r 7),
      .setR 40 (.ai .sub .i64 (.r 39) (.con (.int 1))),
      .chk (.idx (.r 38) (.r 40)),
      .setR 41 (.ref (.nth (.r 38) (.r 40))),
      .setR 42 (.deref (.r 41)),
      .setR 43 (.r 0),
      .setR 44 (.r 7),
      .chk (.idx (.r 43) (.r 44)),
      .setR 45 (.ref (.nth (.r 43) (.r 44))),
      .setR 46 (.deref (.r 45)),
      .chk (.idx (.r 33) (.r 34)),
      .setR 47 (.ref (.nth (.r 33) (.r 34))),
      .chk (.con (.bool false)),
      .chk (.idx (.r 35) (.r 37)),
      .setR 48 (.ref (.nth (.r 35) (.r 37))),
      .chk (.con (.bool false))]))
   (.is [.setR 31 (.r 7),
     .setR 32 (.ai .sub .i64 (.r 31) (.con (.int 1))),
     .setR 7 (.r 32)])))
def awa:PC:=.block 2 [7,16,17,18,19,30] [] (.loop [7] [] alO)
def alP:PC:=
 (.seq
  (.seq
   (.is [.setR 10 (.r 6),
     .setR 11 (.r 2),
     .setR 12 (.ci .lss (.r 10) (.r 11))])
   (.ite (.r 12) [] []
    .skip
    (.exit 0)))
  (.seq
   (.block 1 [7,15,16,17,18,19,30] []
    (.seq
     (.is [.setR 15 (.r 6),
       .setR 7 (.r 15)])
     awa))
   (.is [.setR 13 (.r 6),
     .setR 14 (.ai .add .i64 (.r 13) (.con (.int 1))),
     .setR 6 (.r 14)])))
def awb:PC:=.block 0 [6,10,11,12] [] (.loop [6] [] alP)
def QY:PC:=
 (.seq
  (.seq
   (.is [.setR 8 (.r 1),
     .setR 9 (.ai .add .i64 (.r 8) (.con (.int 1))),
     .setR 6 (.r 9)])
   awb)
  (.ret (.tup [])))
theorem axC:BM=some QY:=by kernel_rfl
theorem ax2:tab ad1=some QY:=by rw[ak7,←axC,←YN]
def Zy:List (Nat×PC):=[(163,QK),(95,Q7),(215,QS),(97,Q8),(94,Q6),(168,QM),(170,QO),(169,QN),(171,QP),(139,QI),(140,QJ),(217,QT),(218,QU),(219,QV),(220,QW),(221,QX),(207,QR),(206,QQ),(167,QL),(260,Q0),(261,Q3),(262,Q4),(263,Q5),(256,QZ),(246,QY)]
def OC:Nat→Option PC:=ab Zy
theorem apD:∀f pc,OC f=some pc→tab f=some pc∧ext f=none:=
 DF (R:=fun f pc=>tab f=some pc∧ext f=none) (l:=Zy) ⟨⟨axN,rfl⟩,⟨ax9,rfl⟩,⟨axW,rfl⟩,⟨aya,rfl⟩,⟨ax8,rfl⟩,⟨axP,rfl⟩,⟨axR,rfl⟩,⟨axQ,rfl⟩,⟨axS,rfl⟩,⟨axL,rfl⟩,⟨axM,rfl⟩,⟨axX,rfl⟩,⟨axY,rfl⟩,⟨axZ,rfl⟩,⟨ax0,rfl⟩,⟨ax1,rfl⟩,⟨axV,rfl⟩,⟨axU,rfl⟩,⟨axO,rfl⟩,⟨ax4,rfl⟩,⟨ax5,rfl⟩,⟨ax6,rfl⟩,⟨ax7,rfl⟩,⟨ax3,rfl⟩,⟨ax2,rfl⟩,trivial⟩
def Hr:Nat→Option (aT→List D→Option D):=fun f=>bif Nat.beq f 266 then some (fun _ ds=>Cw ds) else none
theorem Zz:∀n,Le (cH OC Hr n) (cH tab ext n)
 |0=>fun f ds d h=>by simp[cH] at h
 |n+1=>by
  have ih:=Zz n;intro f ds d h;unfold cH at h ⊢;cases hf:Nat.beq f 266 with
  |true=>
   obtain rfl:=cK hf;exact h
  |false=>
   have hx:Hr f=none:=by unfold Hr;rw[hf];rfl
   rw[hx] at h;dsimp only at h;split at h
   case h_2=>cases h
   rename_i pc hp;obtain⟨h1,h2⟩:=apD f pc hp;rw[h2];dsimp only;rw[h1];dsimp only;split at h
   case h_2=>cases h
   rename_i d' he;rw[PC.ev_mono ih (bk _) he];exact h
theorem ak.of_ev (n:Nat){f:Nat}{ds:List D}{d:D}(h:cH OC Hr n f ds=some d):ak T f ds d:=.of_at apH n (Zz n f ds d h)
end Rm
namespace Rm
open Go Go.Proofs Cx
theorem agz (l:List Int)(hl:l.length≤4000000):ak T adu [ints l,ints l] (.bool true):=by
 refine .of_tree rfl akx aCX ?_;simp[VL];refine aY.forRounds l.length (fun k=>[.bool false,.int k]) (fun _=>[]) ?_ (fun k hk=>?_) ?_
 ·simp
 ·have hw:=bE hk (by omega);simp[agP,L7,hk,hw]
 ·simp[agP,L7]
theorem LU (s:Said)(hl:s.path.length≤4000000):ak T ady [jI s,jI s] (.bool true):=by
 refine .of_tree rfl akA aC0 ?_;simp[VO];refine aY.forRounds s.path.length (fun k=>[.bool false,.int k]) (fun _=>[]) ?_ (fun k hk=>?_) ?_
 ·simp
 ·have hw:=bE hk (by omega);simp[agQ,L8,hk,hw]
 ·simp[agQ,L8]
def SO (r:Realm)(au:Int)(c:Case):List Int:=if fT r (be c)=[] then[] else gf r au (be c)
theorem ajx (r:Realm)(au:Int)(c:Case)(hf:FewS c.file):ak T acE [bl r,.int au,ew c] (ints (SO r au c)):=by
 refine .of_tree rfl ajE aBV ?_;simp[UQ];refine⟨_,XV r c hf,?_⟩;unfold SO;by_cases hv:fT r (be c)=[]
 ·simp[hv];rfl
 simp[hv];exact af2 r au (be c) (ait hv)
def W6:Tm:=.mk 2 15 []
def aiA:Tm:=.mk 4 0 [W6,.mk 2 17 []]
def Fz:Order:=⟨⟨#[103,101,110,101,118,97]⟩,false,[],[⟨2,W6⟩,⟨6,.mk 0 0 []⟩]⟩
def Af:Order:=⟨⟨#[108,111,110,100,111,110]⟩,false,[⟨2,1,false⟩],[⟨2,aiA⟩,⟨6,.mk 0 3 []⟩]⟩
def cX:Realm:=⟨[⟨#[102,114,97,110,99]⟩],[⟨⟨#[76,121,111,110]⟩,0,0,[],[],[]⟩,⟨⟨#[76,111,110,100,111,110]⟩,1,0,[],[],[]⟩],[⟨0⟩],[⟨⟨#[97]⟩,0,0⟩,⟨⟨#[98]⟩,1,0⟩],[Fz,Af],[],[],[]⟩
def MU (c:Int):Bill:=⟨0,1,0,5,0,⟨3,10,0⟩,2,c,1,-1,0,1,1⟩
def gW (c:Int):File:=⟨MU c,[⟨0,0,0,-1,-1,0,2,c,0⟩],[],[],[⟨0,0,1⟩]⟩
def lq (c:Int):Case:=⟨gW c,0,-1,-1,-1,5⟩
set_option maxRecDepth 10000 in
theorem aEp:ak T ac3 [] (bl cX):=by
 refine .of_tree rfl aj3 aCp ?_;simp[Vg];kernel_rfl
set_option maxRecDepth 10000 in
theorem sB (c:Int):ak T ac2 [.int c] (cZ (gW c)):=by
 refine .of_tree rfl aj2 aCo ?_;simp[Vf];rfl
set_option maxRecDepth 10000 in
theorem Ae (f:File):ak T ac0 [cZ f] (ew ⟨f,0,-1,-1,-1,5⟩):=by
 refine .of_tree rfl aj0 aCm ?_;simp[Vd];rfl
theorem aEB:Small cX:=by
 refine⟨by decide,by decide,by decide,by decide,by decide,by decide,by decide,by decide,?_,?_,?_⟩
 ·intro c hc;simp[cX] at hc;rcases hc with rfl|rfl<;>simp
 ·intro o ho;simp[cX] at ho;rcases ho with rfl|rfl<;>simp[Fz,Af]
 ·intro x hx;simp[cX] at hx
theorem aiz:RightD cX:=⟨aEB,by decide,fun h hh=>by simp[cX] at hh⟩
theorem lP {n:Int}(h:-100000≤n∧n≤100000):bj n:=by unfold bj;omega
theorem W5:Right cX:=by
 have g:W6.OK:=.mk _ _ [] (lP (by omega)) (lP (by omega)) (by decide) (fun _ h=>by cases h);have n:∀k:Int,0≤k→k≤100→(Tm.mk 0 k []).OK:=fun k h1 h2=>.mk _ _ [] (lP (by omega)) (lP (by omega)) (by decide) (fun _ h=>by cases h)
 have b:aiA.OK:=.mk _ _ _ (lP (by omega)) (lP (by omega)) (by decide) (fun a h=>by
  simp at h;rcases h with rfl|rfl
  ·exact g
  ·exact .mk _ _ [] (lP (by omega)) (lP (by omega)) (by decide) (fun _ h=>by cases h))
 refine⟨?_,by decide,?_⟩
 ·intro o ho;simp[cX] at ho;rcases ho with rfl|rfl
  ·exact⟨by decide,fun ch h=>by simp[Fz] at h⟩
  ·exact⟨by decide,fun ch h=>by simp[Af] at h;subst h;decide⟩
 ·intro o ho;simp[cX] at ho;rcases ho with rfl|rfl
  ·refine⟨⟨⟨by decide,fun ch h=>by simp[Fz] at h⟩,by decide,?_⟩,by decide⟩;intro x hx;simp[Fz] at hx;rcases hx with rfl|rfl
   ·exact⟨lP (by decide),g⟩
   ·exact⟨lP (by decide),n 0 (by decide) (by decide)⟩
  ·refine⟨⟨⟨by decide,fun ch h=>?_⟩,by decide,?_⟩,by decide⟩
   ·simp[Af] at h;subst h;exact⟨lP (by decide),lP (by decide)⟩
   intro x hx;simp[Af] at hx;rcases hx with rfl|rfl
   ·exact⟨lP (by decide),b⟩
   ·exact⟨lP (by decide),n 3 (by decide) (by decide)⟩
theorem MV (c:Int):FewS (gW c):=⟨by simp[gW],by simp[gW],by simp[gW],by simp[gW]⟩
theorem aEq:j7 cX 0 2 (lq 0)=⟨⟨true,1⟩,0,[0],0⟩:=by kernel_rfl
theorem aEr:j7 cX 1 2 (lq 0)=⟨⟨true,1⟩,0,[1,0],0⟩:=by kernel_rfl
theorem aEs:j7 cX 1 2 (lq 1)=⟨⟨false,0⟩,1,[1],0⟩:=by kernel_rfl
theorem aEt:(j7 cX 0 0 (lq 0)).err=4∧WI (j7 cX 0 0 (lq 0))=0∧nM (j7 cX 0 0 (lq 0))=-1:=⟨by kernel_rfl,by kernel_rfl,by kernel_rfl⟩
theorem aEA:SO cX 1 (lq 0)=[1,0,1,0,0]:=by kernel_rfl
theorem aEu:gF cX 1 2 (lq 1)=(⟨dK,1,[1],0⟩,fT cX (be (lq 1))):=by kernel_rfl
theorem aEz:ak T Rr [iJ Af,.int 2,cells (fT cX (be (lq 1)))] (ints [17]):=ak.of_ev 200 (by kernel_rfl)
theorem aEy:ak T acC [bl cX,.int 1,.int 2,ew (lq 1)] (ints [17]):=by
 have hf:=XU cX W5 1 2 (lq 1) (MV 1);rw[aEu] at hf;refine .of_tree rfl ajC aBT ?_;simp[UO];refine⟨_,hf,?_⟩;simp[dK];exact⟨by decide,aEz⟩
theorem aiy (au:Int)(g:Int)(hg:max (nM (gG cX au 6 (aX (gW 0) 5) 5)) 0=g)(h0:0≤g∧g≤100):fL cX au (gW 0) 5=if(gV cX 1 (10+g)).2≠0 then-1 else(gV cX 1 (10+g)).1:=by
 have h2:gi (aX (gW 0) 5)=-1:=by kernel_rfl
 have h4:qa cX (MU 0) (-1) g=gV cX 1 (10+g):=aoJ (b:=MU 0) aiz (by kernel_rfl) (by decide) (by decide) (by decide) rfl rfl (by decide) (by omega) (by show(10:Int)+g≤100000;omega);unfold fL;rw[if_neg (by decide),h2,hg,show(gW 0).bill=MU 0 from rfl,h4]
theorem aEv:fL cX 0 (gW 0) 5=10:=by
 have h5:gV cX 1 10=(10,0):=by kernel_rfl
 have:=aiy 0 0 (by kernel_rfl) (by decide);rw[this,show(10:Int)+0=10 from rfl,h5];simp
theorem aEw:fL cX 1 (gW 0) 5=13:=by
 have h5:gV cX 1 13=(13,0):=by kernel_rfl
 have:=aiy 1 3 (by kernel_rfl) (by decide);rw[this,show(10:Int)+3=13 from rfl,h5];simp
theorem aEx:fL cX 0 (gW 0) 1=-1:=by
 unfold fL;rw[if_pos (by decide)]
def ahS:PT:=
 (.call ⟨[],[]⟩ [(102,true)] 105 41 [LS,(pi 0),Tg,(pi 1)] (.ret (.pick Tf (aq agx (pi (-1))) pF)))
def ah3:PT:=
 (.call ⟨[(103,(aC 8 o1)),(102,(.pick Tr (aq qM (pi 13)) pF))],[]⟩ [(102,true)] 104 81 [(pi 0)] ahS)
def aie:PT:=
 (.call ⟨[],[]⟩ [(96,true)] 99 41 [r97,(pi 1),Ts,(pi 5)] ah3)
def ail:PT:=
 (.call ⟨[(97,(aC 8 o1)),(96,(.pick Tq (aq zE (pi 10)) pF))],[]⟩ [(96,true)] 98 81 [(pi 0)] aie)
def aim:PT:=
 (.call ⟨[],[]⟩ [(90,true)] 93 41 [r91,(pi 0),zD,(pi 5)] ail)
def ain:PT:=
 (.call ⟨[(91,(aC 8 o1)),(90,(.pick (.pick r7 r8 pF) (.pick zB sr pF) pF))],[]⟩ [(90,true)] 92 81 [(pi 0)] aim)
def aio:PT:=
 (.call ⟨[],[]⟩ [(75,true)] 81 34 [r79,(.lst [(pi 1),(pi 0),(pi 1),(pi 0),(pi 0)])] ain)
def aip:PT:=
 (.call ⟨[],[]⟩ [(75,true)] 79 29 [pA,(pi 1),To] aio)
def aiq:PT:=
 (.call ⟨[],[]⟩ [(75,true)] 78 80 [LY] aip)
def ahT:PT:=
 (.call ⟨[(76,(aC 8 o1)),(75,Ei)],[]⟩ [(75,true)] 77 81 [(pi 0)] aiq)
def ahU:PT:=
 (.call ⟨[],[]⟩ [] 74 34 [ud,(.lst [(pi 17)])] ahT)
def ahV:PT:=
 (.call ⟨[],[]⟩ [] 72 82 [sq,(pi 1),(pi 2),r71] ahU)
def ahW:PT:=
 (.call ⟨[],[]⟩ [] 71 80 [Tn] ahV)
def ahX:PT:=
 (.call ⟨[(69,(aC 8 o1)),(8,(.pick kI (aq LX (pi 2)) pF))],[]⟩ [] 70 81 [(pi 1)] ahW)
def ahY:PT:=
 (.call ⟨[(64,(.pick Tl (aq wH (pi 1)) pF))],[]⟩ [(64,true)] 66 46 [(aC 5 o4)] ahX)
def ahZ:PT:=
 (.call ⟨[(59,(.pick pz (aq nX (pi (-1))) pF))],[]⟩ [(59,true)] 61 46 [(aC 5 o2)] ahY)
def ah0:PT:=
 (.call ⟨[(54,(.pick mU (aq lf (pi 0)) pF))],[]⟩ [(54,true)] 56 48 [(aC 5 o5)] ahZ)
def ah1:PT:=
 (.call ⟨[(49,(aq (pc o5 4) (pi 4))),(7,(.pick nW ua pF))],[]⟩ [(49,true)] 51 46 [(aC 5 o5)] ah0)
def ah2:PT:=
 (.call ⟨[(40,(.pick sm iv pF))],[]⟩ [(40,true)] 44 49 [(aC 5 o4),(.mk [(.con (.agg [(.bool false),(.int 0)])),(pi 1),(.lst [(pi 1)]),(pi 0)])] ah1)
def ah4:PT:=
 (.call ⟨[(33,Ed)],[]⟩ [(33,true)] 38 49 [(aC 5 o3),(.mk [(.mk [(pc o6 0),(pc o6 1)]),(pi 0),(.lst [(pi 1),(pi 0)]),(pi 0)])] ah2)
def ah5:PT:=
 (.call ⟨[],[(6,(.setc (.con (.agg [(.bool false),(.int 0)])) 0 (.mk [pT,(pi 1)]))),(5,(.setc (.con (.agg [(.bool false),(.int 0),(.int 0),(.list []),(.int 0)])) 0 ld))]⟩ [] 32 49 [(aC 5 o2),(.mk [(.mk [(pc (.setc (.con (.agg [(.bool false),(.int 0)])) 0 (.mk [pT,(pi 1)])) 0),(pc (.setc (.con (.agg [(.bool false),(.int 0)])) 0 (.mk [pT,(pi 1)])) 1)]),(pi 0),(.lst [(pi 0)]),(pi 0)])] ah4)
def ah6:PT:=
 (.call ⟨[],[]⟩ [] 26 28 [jy,(pi 0),(pi 0),iZ] ah5)
def ah7:PT:=
 (.call ⟨[],[]⟩ [] 25 80 [nU] ah6)
def ah8:PT:=
 (.call ⟨[(23,(aC 8 o1))],[(4,(.setc (.con (.agg [(.bool false),(.int 0),(.int 0),(.list []),(.int 0)])) 0 zx))]⟩ [] 24 81 [(pi 0)] ah7)
def ah9:PT:=
 (.call ⟨[],[]⟩ [] 22 28 [gr,(pi 1),(pi 2),lV] ah8)
def aia:PT:=
 (.call ⟨[],[]⟩ [] 21 80 [ed] ah9)
def aib:PT:=
 (.call ⟨[(19,(aC 8 o1))],[(3,(.setc (.con (.agg [(.bool false),(.int 0),(.int 0),(.list []),(.int 0)])) 0 gT))]⟩ [] 20 81 [(pi 1)] aia)
def aic:PT:=
 (.call ⟨[],[]⟩ [] 18 28 [gg,(pi 1),(pi 2),kF] aib)
def aid:PT:=
 (.call ⟨[],[]⟩ [] 17 80 [dM] aic)
def aif:PT:=
 (.call ⟨[(15,(aC 8 o1))],[(2,(.setc (.con (.agg [(.bool false),(.int 0),(.int 0),(.list []),(.int 0)])) 0 dv))]⟩ [] 16 81 [(pi 0)] aid)
def aih:PT:=
 (.call ⟨[],[]⟩ [] 14 28 [bD,(pi 0),(pi 2),dL] aif)
def aii:PT:=
 (.call ⟨[],[]⟩ [] 13 80 [bY] aih)
def aij:PT:=
 (.call ⟨[(11,(aC 8 (.setc (.con (.agg [(.list []),(.list []),(.list []),(.list []),(.list []),(.list []),(.list []),(.list [])])) 0 cT)))],[(1,(.setc (.con (.agg [(.list []),(.list []),(.list []),(.list []),(.list []),(.list []),(.list []),(.list [])])) 0 cT))]⟩ [] 12 81 [(pi 0)] aii)
def aik:PT:=
 (.call ⟨[],[]⟩ [] 10 79 [] aij)
theorem aCq:Vh=aik:=rfl
theorem aBe:ak T ac4 [] (.bool true):=by
 have k:=fun au q c=>XS cX W5 au q (lq c) (MV c);have k1:=k 0 2 0;have k2:=k 1 2 0;have k3:=k 1 2 1;have k4:=k 0 0 0;rw[aEq] at k1;rw[aEr] at k2;rw[aEs] at k3;obtain⟨g1,g2,g3⟩:=aEt;generalize j7 cX 0 0 (lq 0)=S4 at*;obtain⟨⟨kn,nn⟩,oo,pp,ee⟩:=S4;simp only at g1;subst g1;have t4:=Nn ⟨⟨kn,nn⟩,oo,pp,4⟩;have n4:=XT ⟨⟨kn,nn⟩,oo,pp,4⟩;rw[g2] at t4;rw[g3] at n4;have t1:=Nn ⟨⟨true,1⟩,0,[0],0⟩;have t3:=Nn ⟨⟨false,0⟩,1,[1],0⟩;have m:=fun au day=>M9 cX W5 aiz au (gW 0) day (MV 0);have m1:=m 0 5;have m2:=m 1 5;have m3:=m 0 1;rw[aEv] at m1;rw[aEw] at m2;rw[aEx] at m3;have pl:=ajx cX 1 (lq 0) (MV 0);rw[aEA] at pl;refine .of_tree rfl aj4 aCr ?_;rw[aCq];simp[aik];refine⟨_,aEp,?_⟩;simp[aij];refine⟨_,sB 0,?_⟩;simp[aii];refine⟨_,Ae (gW 0),?_⟩;simp[aih];refine⟨_,k1,?_⟩;simp[aif];refine⟨_,sB 0,?_⟩;simp[aid];refine⟨_,Ae (gW 0),?_⟩;simp[aic];refine⟨_,k2,?_⟩;simp[aib];refine⟨_,sB 1,?_⟩;simp[aia];refine⟨_,Ae (gW 1),?_⟩;simp[ah9];refine⟨_,k3,?_⟩;simp[ah8];refine⟨_,sB 0,?_⟩;simp[ah7];refine⟨_,Ae (gW 0),?_⟩;simp[ah6];refine⟨_,k4,?_⟩;simp[ah5];refine⟨_,LU ⟨⟨true,1⟩,0,[0],0⟩ (by decide),?_⟩;simp[ah4];refine⟨_,LU ⟨⟨true,1⟩,0,[1,0],0⟩ (by decide),?_⟩;simp[ah2];refine⟨_,LU ⟨⟨false,0⟩,1,[1],0⟩ (by decide),?_⟩;simp[ah1];refine⟨_,t4,?_⟩;simp[ah0];refine⟨_,n4,?_⟩;simp[ahZ];refine⟨_,t1,?_⟩;simp[ahY];refine⟨_,t3,?_⟩;simp[ahX];refine⟨_,sB 1,?_⟩;simp[ahW];refine⟨_,Ae (gW 1),?_⟩;simp[ahV];refine⟨_,aEy,?_⟩;simp[ahU];refine⟨_,agz [17] (by decide),?_⟩;simp[ahT];refine⟨_,sB 0,?_⟩;simp[aiq];refine⟨_,Ae (gW 0),?_⟩;simp[aip];refine⟨_,pl,?_⟩;simp[aio];refine⟨_,agz [1,0,1,0,0] (by decide),?_⟩;simp[ain];refine⟨_,sB 0,?_⟩;simp[aim];refine⟨_,m1,?_⟩;simp[ail];refine⟨_,sB 0,?_⟩;simp[aie];refine⟨_,m2,?_⟩;simp[ah3];refine⟨_,sB 0,?_⟩;simp[ahS];refine⟨_,m3,?_⟩;rfl
end Rm
namespace Rm
open Go Go.Proofs Cx
theorem alx (r:Realm)(hr:r.OK)(f:File):ak T ac1 [bl r,cZ f] (.bool (xV r f)):=by
 refine .of_tree rfl aj1 aCn ?_;simp[Ve];refine⟨_,aAo r f hr,?_⟩;cases e1:rC r f
 ·simp[xV,e1]
 have hs:Small r:=OE hr (by simp only[rC,ar] at e1;exact e1.1.1);simp;refine⟨_,az9 r hs,?_⟩;simp[xV,e1]
end Rm
namespace Rm
open Go Go.Proofs Cx
theorem ai0 (c:City)(hc:zV c)(n:Int)(h:0≤n∧n≤100000):ak T acM [fF c,.int n] (.tup [.bool (mQ c.rest c.feasts c.shut n),.int 0]):=by
 have hv:=sw n;rw[show cI n=true by simp[cI];omega] at hv;refine .of_tree rfl ajM aB6 ?_;simp[UZ];refine⟨_,hv,?_⟩;simp;exact afN c hc n (by omega)
theorem azV {r:Realm}(hr:Right r)(au q:Int)(c:Case):(j7 r au q c).path.length≤100001:=by
 have:(j7 r au q c).path=(gF r au q c).1.path:=by unfold j7;split<;>rfl
 rw[this];unfold gF;split
 ·simp[yS]
 split
 ·simp[yS]
 split
 ·simp[yS]
 ·have h1:=abQ r au q (gf r au (be c));have h2:=hr.len;show(il r au q (gf r au (be c))).1.length≤_;omega
theorem aiD (r:Realm)(hr:r.OK)(au q:Int)(f:File)(OS:f.OK)(day more:Int):ak T acZ [bl r,.int au,.int q,cZ f,.int day,.int more] (.bool true):=by
 refine .of_tree rfl ajZ aCl ?_;simp[Vc];refine⟨_,aBe,_,alx r hr f,?_⟩;cases hg:xV r f
 ·simp
 have G:=asD hr hg;have hs:Small r:=G.rightD.small;obtain⟨d,hd,e,rfl,he⟩:=azN r hs f OS;simp;refine⟨_,hd,?_⟩;by_cases e0:e=0
 case neg=>simp[e0]
 have hP:=he.1 e0;simp[e0];have gN:SameF f {f with facts:=[]}:=⟨rfl,rfl,rfl,rfl⟩
 have aaA:FewS {f with facts:=[]}:=⟨G.few.1,G.few.2,G.few.3,by simp⟩
 have hM:=fun d=>M9 r G.right G.rightD au f d G.few;have OX:=M9 r G.right G.rightD au {f with facts:=[]} day aaA;rw[ayk r au gN day] at OX;have hB:=Nm r G.right au q f day G.few;have xY:=Nm r G.right au q {f with facts:=[]} day aaA;have eB:gG r au q {f with facts:=[]} day=gG r au q f day:=rfl;rw[eB] at xY;have hS:=LU (gG r au q f day) (by have:=azV G.right au q ⟨{f with facts:=[]},0,-1,-1,-1,day⟩;unfold gG;omega);refine⟨_,hM day,_,OX,?_⟩;simp;refine⟨_,hB,_,xY,_,hS,rfl,fun hm=>?_⟩;obtain⟨g1,g2,g3⟩:=ayh G.rightD hP au day hm;have auL:0≤f.bill.pay∧f.bill.pay<r.cities.length:=by simpa [aA] using alR hP
 have dZ:f.bill.pay.toNat<r.cities.length:=by omega
 have aud:=fun y eY=>ayi G.rightD au hP.sorted (x:=day) (y:=y) eY hm;rcases ayj G.rightD au f day with e|⟨r1,r2⟩
 ·exact absurd e hm
 refine⟨⟨⟨g1,g2⟩,r2⟩,auL,?_⟩;have Pb:r.cities.getD f.bill.pay.toNat default=r.cities[f.bill.pay.toNat]:=by simp[dZ]
 rw[Pb] at g3;have hO:=ai0 r.cities[f.bill.pay.toNat] (G.rightD.cities _ (di dZ)) (fL r au f day) (by omega);rw[g3] at hO;simp[dZ];refine⟨_,hO,?_⟩;simp;by_cases hd:day<more
 ·simp[hd];have:=hM more;rw[aud more (by omega)] at this;exact⟨_,this,rfl⟩
 ·simp[hd];exact⟨_,hM day,rfl⟩
end Rm
