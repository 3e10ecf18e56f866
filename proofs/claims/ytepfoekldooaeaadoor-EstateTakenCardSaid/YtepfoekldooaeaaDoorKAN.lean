/-
  Shared texts of this claim.
-/
import Derived.Test.YtepfoekldooaeaaDoorKAJ
import Derived.Test.YtepfoekldooaeaaDoorKAM
import Derived.WalkKit
import Derived.WalkSpells
import Derived.Lib.SliceRun
import Derived.Lib.AppendZeros
import Derived.KernelRfl
import Derived.Laws.Strings
set_option linter.unusedSimpArgs false
set_option linter.unusedVariables false
set_option maxRecDepth 100000
namespace Rm
open Go Go.Proofs Cx Go.RowKit Go.Lib
theorem ahN:(Tryd.prog.info? 3).map (fun i=>(i.zero,i.size,i.bytes))=some (some (.int .i64 0),1,8):=by kernel_rfl
set_option maxHeartbeats 2000000 in
set_option maxRecDepth 100000 in
theorem aeP (w:World):Calls Tryd.prog 100 #[.slice none 0 0,.int .i64 0] w fun e w'=>e=.returned (.slice none 0 0)∧w'=w:=by
 go_enter Tryd.func100,Tryd.ntmps100
 go_wp2
 go_ret
 exact⟨rfl,rfl⟩
set_option maxHeartbeats 2000000 in
set_option maxRecDepth 100000 in
theorem aeO (n:Nat)(w:World)(h0:0<n)(h1:n≤4294967296):Calls Tryd.prog 100 #[.slice none 0 0,.int .i64 n] w fun e w'=>
 ∃v',e=.returned v'∧w'.ownsRow w.heap.size 3 1 v' 0 []∧Below w.heap.size w w':=by
 obtain⟨i0,hi,tP,rA,hz2⟩:=info_parts ahN;have hr:=run_append_nil_zeros w 50 3 50 3 i0 (.int .i64 0) .i64 .i64 Tryd.underlying50 Tryd.underlying3 hi tP n h0 (by rw[rA];decide) (by omega) (by rw[hz2];omega);have hn:¬((n:Int)<0):=by omega
 have lF:(n:Int)>0:=by omega
 have hw:IntKind.i64.wrap (n:Int)=n:=by rw[IntKind.wrap_i64];omega
 have mI:IntKind.i64.wrap 0=0:=by decide
 have eP:=grownCap_ge w n 0 3;have hle:=grownCap_le_maxLen w n 0 3 (by unfold maxLen;omega);have hs:(Builtin.zeroCells #[Value.int IntKind.i64 0] n++Builtin.zeroCells #[Value.int IntKind.i64 0] (grownCap w n 0 3-n)).size=grownCap w n 0 3*1:=by
  rw[Array.size_append,size_zeroCells,size_zeroCells];simp;omega
 go_enter Tryd.func100,Tryd.ntmps100
 go_wp2_with (at_builtin;refine wpList_append_run _ rfl _ _ 50 3 rfl _ _ rfl rfl _ _ hr ?qc)
 go_ret
 refine⟨_,rfl,?_,?_⟩
 ·exact World.ownsRow.drew (World.ownsRow_made w _ _ (Nat.le_refl _) hle hs)
 ·exact((Below.refl _ w).alloc (Nat.le_refl _) _).drew
def BC (ds:List D):Option D:=
 match ds with
 |[.list [],.v (.int .i64 n)]=>if 0≤n∧n≤4294967296 then some (.list []) else none
 |_=>none
theorem aeN (ds:List D)(d:D)(h:BC ds=some d):∃s,ctx.sig 100=some s∧FP ctx 100 s ds d:=by
 refine⟨_,rfl,fun _=>?_,fun shs obs hm=>by cases hm⟩;unfold BC at h;split at h
 case h_2=>cases h
 rename_i n;split at h
 case isFalse=>cases h
 rename_i hn;cases h;obtain⟨k,rfl⟩:=Int.eq_ofNat_of_zero_le hn.1;intro σ w args aw hC ha;obtain⟨a1,a2,a3⟩:=ha;have h0:=a3 0 _ rfl;have h1:=a3 1 _ rfl;obtain⟨u,v,rfl⟩:∃u v,args=#[u,v]:=by
  have:args.size=2:=by simpa using a1
  match args,this with
  |⟨[u,v]⟩,_=>exact⟨u,v,rfl⟩
 simp only[List.getD_cons_zero,List.getD_cons_succ] at h0 h1;change Rep ctx.cap σ (.nils .bool) u (.list []) at h0;change Rep ctx.cap σ (.int .i64) v (.v (.int .i64 k)) at h1;have hu:u=.slice none 0 0:=by cases h0;rfl
 have hv:v=.int .i64 k:=by cases h1;rfl
 subst hu hv;by_cases hk:k=0
 ·subst hk;refine(aeP w).mono fun e w' hh=>?_;obtain⟨rfl,rfl⟩:=hh;refine⟨_,σ,rfl,.refl σ,aw,.refl _ _,fun _ _ _ h=>.inl h,fun _ _ h=>.inl h,?_⟩;exact⟨[],[],rfl,⟨by simp,.inl ⟨rfl,rfl⟩⟩,⟨fun _=>undef,fun i x hx=>by simp at hx,fun i j u hi=>by simp at hi⟩,fun k hk=>by cases hk⟩
 ·refine(aeO k w (by omega) (by omega)).mono fun e w' hh=>?_;obtain⟨v',rfl,bz,hb⟩:=hh;refine⟨v',σ,rfl,.refl σ,aw.below hb,hb,fun _ _ _ h=>.inl h,fun _ _ h=>.inl h,?_⟩;refine⟨[],[],rfl,bz,⟨fun _=>undef,fun i x hx=>by simp at hx,fun i j u hi=>by simp at hi⟩,fun k hk=>?_⟩;have bB:=(bz.lt k hk).1;refine⟨fun o=>?_,?_⟩
  ·cases hc:σ.c k o with
   |none=>rfl
   |some u=>have:=World.block_lt_of_cell? w (a:=⟨k,o,none⟩) (aw.c _ _ _ hc);simp at this;omega
  ·cases hc:σ.m k with
   |none=>rfl
   |some u=>rcases aw.m _ _ hc with⟨arr,clock,x,g1,_⟩|⟨_,g1⟩<;>(have:=(Array.getElem?_eq_some_iff.1 g1).1;omega)
def sK (r:D)(city:Int):Int:=if 0≤city∧city<(r.c 1).l.length then(((r.c 1).l.getD city.toNat .none).c 1).i else-1
def Ky (ds:List D):D:=
 let r:=ds.getD 0 .none
 let ar:=(ds.getD 1 .none).i
 let c:=ds.getD 2 .none
 let s:=(c.c 15).l.getD (c.c 19).i.toNat .none
 let who:=(s.c 2).i
 if who<0∨(r.c 3).l.length≤who∨ar<0∨(r.c 4).l.length≤ar then .list [] else
 let out:=[ar,sK r (s.c 7).i,sK r (c.c 10).i,sK r (c.c 9).i,sK r (((r.c 3).l.getD who.toNat .none).c 1).i]
 if(-1)∈out then .list [] else ints out
noncomputable def G0:List (Nat×(aO→List D→Option D)):=[(100,fun _ ds=>BC ds),(54,nY Ke Kf Ky)]
noncomputable def ext:Nat→Option (aO→List D→Option D):=ab G0
theorem ana:TabOK ctx tab ext:=by
 refine⟨clos,its,fun f pc _ h=>anb f pc h,fun f g hg Φ hΦ fJ ds d h=>?_⟩
 have:=yH (R:=fun f (g:aO→List D→Option D)=>∀Φ,dh ctx Φ→gr ctx Φ→∀ds d,g Φ ds=some d→(∀s,ctx.sig f=some s→FP ctx f s ds d)∧
  ∀cs ys,ctx.cap f=some cs→jt cs.args cs.res=some ys→∃xs,d=.list xs∧(∀x,x∈xs→∃ds',x=.tup ds'∧ds'.length=ys.length)∧sF ctx f cs.caps ys ds xs) (l:=G0)
  ⟨fun Φ hΦ fJ ds d h=>⟨fun s hs=>by obtain⟨s',h1,h2⟩:=aeN ds d h;rw[hs] at h1;cases h1;exact h2,fun cs ys hc hi=>by cases hc⟩,
   fun Φ hΦ fJ ds d h=>⟨fun s hs=>by cases hs;exact⟨fun _=>akd clos hΦ fJ Tryd.func54 ZH ZI h,fun shs obs hm=>by cases hm⟩,fun cs ys hc hi=>by cases hc⟩,
   trivial⟩ f g hg
 exact this Φ hΦ fJ ds d h
noncomputable abbrev T:cB:=cr tab ext
theorem akc {pa pb:PC}{spec:List D→D}{Φ Ψ:aO}(h:Le Φ Ψ){ds:List D}{d:D}(e:nY pa pb spec Φ ds=some d):nY pa pb spec Ψ ds=some d:=by
 unfold nY at e ⊢;split at e
 ·rename_i hs;rw[if_pos]
  ·exact e
  ·rcases hs with⟨N,xs,h1,h2⟩|⟨N,h1,h2⟩
   ·exact .inl ⟨N,xs,PC.ev_mono h (Nat.le_refl _) h1,h2⟩
   ·exact .inr ⟨N,PC.ev_mono h (Nat.le_refl _) h1,h2⟩
 ·cases e
theorem acz:∀f g,ext f=some g→∀Φ Ψ,Le Φ Ψ→∀ds d,g Φ ds=some d→g Ψ ds=some d:=fun f g hg=>
 yH (R:=fun _ (g:aO→List D→Option D)=>∀Φ Ψ,Le Φ Ψ→∀ds d,g Φ ds=some d→g Ψ ds=some d) (l:=G0) ⟨fun _ _ _ _ _ e=>e,fun _ _ h _ _ e=>akc h e,trivial⟩ f g hg
theorem au.of_nsl {tab:Nat→Option PC}{ext:Nat→Option (aO→List D→Option D)}{f:Nat}{pa pb:PC}{spec:List D→D}{ds:List D}{ta tb:PT}(hx:ext f=some (nY pa pb spec))(hta:tree pa=ta)(htb:tree pb=tb)
 (h:(∃xs,xs≠[]∧spec ds=.list xs∧ax (cr tab ext) ta (gR ds) (fun x=>x=.ret (.list xs)))∨(spec ds=.list []∧ax (cr tab ext) tb (gR ds) (fun x=>x=.ret (.list [])))):au (cr tab ext) f ds (spec ds):=by
 refine au.of_ext hx ?_;rcases h with⟨xs,h1,h2,h3⟩|⟨h2,h3⟩
 ·obtain⟨x,rfl,n0,hn⟩:=Nj (c:=pa) (hta▸h3);refine⟨n0,fun n hle=>?_⟩;unfold nY;rw[if_pos (.inl ⟨n,xs,hn n hle,h1,h2⟩)]
 ·obtain⟨x,rfl,n0,hn⟩:=Nj (c:=pb) (htb▸h3);refine⟨n0,fun n hle=>?_⟩;unfold nY;rw[if_pos (.inr ⟨n,hn n hle,h2⟩)]
end Rm
namespace Rm
open Go Go.Proofs Cx
def I8:PC:=
 (.seq
  (.is [.setR 0 (.con (.bool false))])
  (.seq
   (.is [.setO 8 (.lst [(.con (.int 50))]),
     .setR 8 (.con .none),
     .setO 9 (.lst [(.con (.int 100)),(.con (.int 100))]),
     .setR 9 (.con .none),
     .setR 10 (.mk [(.con (.int 0)),(.con (.int 0)),(.con (.int 100))]),
     .setR 11 (.mk [(.con (.int 1)),(.con (.int 0)),(.con (.int 100))]),
     .setO 12 (.lst [(.r 10),(.r 11)]),
     .setR 12 (.con .none),
     .setO 13 (.lst [(.con (.int 25)),(.con (.int 25))]),
     .setR 13 (.con .none),
     .call [] 14 12 [(.o 8),(.o 9),(.o 12),(.o 13)],
     .setR 1 (.r 14)])
   (.seq
    (.is [.setO 15 (.lst [(.con (.int 50)),(.con (.int 80))]),
      .setR 15 (.con .none),
      .setO 16 (.lst [(.con (.int 100))]),
      .setR 16 (.con .none),
      .setR 17 (.mk [(.con (.int 0)),(.con (.int 0)),(.con (.int 100))]),
      .setR 18 (.mk [(.con (.int 0)),(.con (.int 1)),(.con (.int 100))]),
      .setO 19 (.lst [(.r 17),(.r 18)]),
      .setR 19 (.con .none),
      .setO 20 (.lst [(.con (.int 50)),(.con (.int 50))]),
      .setR 20 (.con .none),
      .call [] 21 12 [(.o 15),(.o 16),(.o 19),(.o 20)],
      .setR 2 (.r 21)])
    (.seq
     (.is [.setO 22 (.lst [(.con (.int 10))]),
       .setR 22 (.con .none),
       .setO 23 (.lst [(.con (.int 7)),(.con (.int 7)),(.con (.int 7))]),
       .setR 23 (.con .none),
       .setR 24 (.mk [(.con (.int 0)),(.con (.int 0)),(.con (.int 7))]),
       .setR 25 (.mk [(.con (.int 1)),(.con (.int 0)),(.con (.int 7))]),
       .setR 26 (.mk [(.con (.int 2)),(.con (.int 0)),(.con (.int 7))]),
       .setO 27 (.lst [(.r 24),(.r 25),(.r 26)]),
       .setR 27 (.con .none),
       .setO 28 (.lst [(.con (.int 3)),(.con (.int 3)),(.con (.int 3))]),
       .setR 28 (.con .none),
       .call [] 29 12 [(.o 22),(.o 23),(.o 27),(.o 28)],
       .setR 3 (.r 29)])
     (.seq
      (.is [.setO 30 (.lst [(.con (.int 90)),(.con (.int 60))]),
       .setR 30 (.con .none),
       .setO 31 (.lst [(.con (.int 100)),(.con (.int 20))]),
       .setR 31 (.con .none),
       .setR 32 (.mk [(.con (.int 0)),(.con (.int 0)),(.con (.int 100))]),
       .setR 33 (.mk [(.con (.int 0)),(.con (.int 1)),(.con (.int 100))]),
       .setR 34 (.mk [(.con (.int 1)),(.con (.int 1)),(.con (.int 20))]),
       .setO 35 (.lst [(.r 32),(.r 33),(.r 34)]),
       .setR 35 (.con .none),
       .setO 36 (.lst [(.con (.int 90)),(.con (.int 10)),(.con (.int 20))]),
       .setR 36 (.con .none),
       .call [] 37 12 [(.o 30),(.o 31),(.o 35),(.o 36)],
       .setR 4 (.r 37)])
      (.seq
       (.is [.setO 39 (.lst [(.con (.int 5))]),
         .setR 39 (.con .none),
         .setR 40 (.mk [(.con (.int 0)),(.con (.int 0)),(.con (.int 5))]),
         .setO 41 (.lst [(.r 40)]),
         .setR 41 (.con .none),
         .call [] 42 13 [(.con (.list [])),(.o 39),(.o 41)],
         .setR 38 (.r 42),
         .setR 43 (.tget (.r 38) 0),
         .setR 44 (.tget (.r 38) 1),
         .setR 5 (.r 43),
         .setR 6 (.r 44)])
       (.seq
        (.is [.setR 45 (.mk [(.con (.int 0)),(.con (.int 0)),(.con (.int 10))]),
         .setO 46 (.lst [(.r 45)]),
         .setR 46 (.con .none),
         .setR 47 (.mk [(.con (.int 0)),(.con (.int 0)),(.con (.int 7))]),
         .setO 48 (.lst [(.r 47)]),
         .setR 48 (.con .none),
         .setR 49 (.mk [(.con (.int 0)),(.con (.int 3))]),
         .setR 50 (.mk [(.con (.int 1)),(.con (.int 5))]),
         .setO 51 (.lst [(.r 49),(.r 50)]),
         .setR 51 (.con .none),
         .call [] 52 14 [(.o 46),(.o 48),(.o 51)],
         .setR 7 (.r 52)])
        (.seq
         (.is [.setR 53 (.r 1),
           .setR 54 (.r 53),
           .setR 55 (.r 2),
           .setR 56 (.pick (.r 54) (.r 55) (.con (.bool false))),
           .setR 57 (.r 56),
           .setR 58 (.r 3),
           .setR 59 (.pick (.r 57) (.r 58) (.con (.bool false))),
           .setR 60 (.r 59),
           .setR 61 (.r 4),
           .setR 62 (.pick (.r 60) (.r 61) (.con (.bool false))),
           .setR 63 (.r 62),
           .setR 64 (.r 6),
           .setR 65 (.ci .eql (.r 64) (.con (.int 1))),
           .setR 66 (.pick (.r 63) (.r 65) (.con (.bool false))),
           .setR 67 (.r 66),
           .setR 68 (.r 7),
           .setR 69 (.lst [(.con (.int 7))]),
           .call [(67,true)] 70 15 [(.r 68),(.r 69)],
           .setR 71 (.pick (.r 67) (.r 70) (.con (.bool false))),
           .setR 72 (.r 71),
           .setR 73 (.mk [(.con (.int 0)),(.con (.int 0)),(.con (.int 7))]),
           .setR 74 (.lst [(.r 73)]),
           .setR 75 (.mk [(.con (.int 0)),(.con (.int 3))]),
           .setR 76 (.lst [(.r 75)]),
           .call [(72,true)] 77 16 [(.r 74),(.r 76),(.con (.int 0))],
           .setR 78 (.ci .eql (.r 77) (.con (.int 3))),
           .setR 79 (.pick (.r 72) (.r 78) (.con (.bool false))),
           .setR 80 (.r 79),
           .call [(80,true)] 81 17 [(.con (.list [])),(.con (.list [])),(.con (.list []))],
           .setR 82 (.pick (.r 80) (.r 81) (.con (.bool false))),
           .setR 0 (.r 82)])
         (.ret (.r 0))))))))))
theorem lq4:vS=some I8:=by kernel_rfl
theorem lt4:tab Jx=some I8:=by rw[XD,←lq4,←OA]
def YX:PC:=
 (.seq
  (.seq
   (.is [.setR 14 (.r 10),
     .setR 15 (.r 0),
     .setR 16 (.llen (.r 15)),
     .setR 17 (.ci .lss (.r 14) (.r 16))])
   (.ite (.r 17) [] []
    .skip
    (.exit 0)))
  (.seq
   (.block 1 [9,21,22,23,24,25,26,27] [9,26]
    (.is [.setR 20 (.r 9),
      .setR 21 (.r 0),
      .setR 22 (.r 10),
      .chk (.idx (.r 21) (.r 22)),
      .setR 23 (.ref (.nth (.r 21) (.r 22))),
      .setR 24 (.deref (.r 23)),
      .setR 25 (.mk [(.con (.int 0)),(.con (.int 0)),(.r 24)]),
      .setO 26 (.lst [(.r 25)]),
      .setR 26 (.con .none),
      .chk (.ci .leq (.llen (.app (.o 9) (.o 26))) (.con (.int 4294967296))),
      .setO 9 (.app (.o 9) (.o 26)),
      .setR 27 (.con .none),
      .setR 9 (.r 27)]))
   (.is [.setR 18 (.r 10),
     .setR 19 (.ai .add .i64 (.r 18) (.con (.int 1))),
     .setR 10 (.r 19)])))
def ahZ:PC:=.block 0 [9,10,14,15,16,17] [9] (.loop [9,10] [9] YX)
def YY:PC:=
 (.seq
  (.seq
   (.is [.setR 44 (.r 13),
     .setR 45 (.r 11),
     .setR 46 (.llen (.r 45)),
     .setR 47 (.ci .lss (.r 44) (.r 46))])
   (.ite (.r 47) [] []
    .skip
    (.exit 2)))
  (.seq
   (.block 3 [8,50,51,52,53,54,55,56,57,58,59,60] []
    (.seq
     (.is [.setR 50 (.r 11),
       .setR 51 (.r 13),
       .chk (.idx (.r 50) (.r 51)),
       .setR 52 (.ref (.nth (.r 50) (.r 51))),
       .setR 53 (.deref (.r 52)),
       .setR 54 (.r 13),
       .setR 55 (.r 3),
       .setR 56 (.r 13),
       .chk (.idx (.r 55) (.r 56)),
       .setR 57 (.ref (.nth (.r 55) (.r 56))),
       .setR 58 (.deref (.r 57)),
       .setR 59 (.mk [(.r 54),(.r 58)]),
       .setR 60 (.nt (.an (.ci .eql (.cell (.r 53) 0) (.cell (.r 59) 0)) (.an (.ci .eql (.cell (.r 53) 1) (.cell (.r 59) 1)) (.con (.bool true)))))])
     (.ite (.r 60) [8] []
      (.seq
       (.is [.setR 8 (.con (.bool false))])
       (.ret (.r 8)))
      .skip)))
   (.is [.setR 48 (.r 13),
     .setR 49 (.ai .add .i64 (.r 48) (.con (.int 1))),
     .setR 13 (.r 49)])))
def ah0:PC:=.block 2 [8,13,44,45,46,47] [] (.loop [8,13] [] YY)
def I1:PC:=
 (.seq
  (.is [.setR 8 (.con (.bool false))])
  (.seq
   (.is [.setO 9 (.con (.list [])),
     .setR 9 (.con .none)])
   (.seq
    (.seq
     (.is [.setR 10 (.con (.int 0))])
     ahZ)
    (.seq
     (.is [.setR 29 (.r 9),
       .setR 30 (.r 1),
       .setR 31 (.r 2),
       .call [] 32 13 [(.o 9),(.r 30),(.r 31)],
       .setR 28 (.r 32),
       .setR 33 (.tget (.r 28) 0),
       .setR 34 (.tget (.r 28) 1),
       .setR 11 (.r 33),
       .setR 12 (.r 34)])
     (.seq
      (.seq
       (.is [.setR 35 (.r 12),
        .setR 36 (.ci .neq (.r 35) (.con (.int 0))),
        .setR 37 (.r 36),
        .setR 38 (.r 11),
        .setR 39 (.llen (.r 38)),
        .setR 40 (.r 3),
        .setR 41 (.llen (.r 40)),
        .setR 42 (.ci .neq (.r 39) (.r 41)),
        .setR 43 (.pick (.r 37) (.con (.bool true)) (.r 42))])
       (.ite (.r 43) [8] []
        (.seq
         (.is [.setR 8 (.con (.bool false))])
         (.ret (.r 8)))
        .skip))
      (.seq
       (.seq
        (.is [.setR 13 (.con (.int 0))])
        ah0)
       (.seq
        (.is [.setR 8 (.con (.bool true))])
        (.ret (.r 8)))))))))
theorem ajh:vT=some I1:=by kernel_rfl
theorem ajw:tab Sd=some I1:=by rw[XE,←ajh,←OB]
def YZ:PC:=
 (.seq
  (.is [.setR 26 (.ci .lss (.r 25) (.r 24))])
  (.seq
   (.ite (.r 26) [] []
    .skip
    (.exit 0))
   (.seq
    (.block 1 [9,27,29,30,31,32] [8,4104,31]
     (.seq
      (.is [.setR 27 (.r 25),
        .setR 9 (.r 27)])
      (.is [.setR 28 (.con .none),
        .setR 29 (.r 9),
        .setR 30 (.mk [(.r 29),(.con (.int 0))]),
        .setO 31 (.lst [(.r 30)]),
        .setR 31 (.con .none),
        .chk (.ci .leq (.llen (.app (.o 4104) (.o 31))) (.con (.int 4294967296))),
        .setO 4104 (.app (.o 4104) (.o 31)),
        .setR 32 (.con .none),
        .setO 8 (.setc (.o 8) 0 (.con .none))])))
    (.is [.setR 33 (.ai .add .i64 (.r 25) (.con (.int 1))),
      .setR 25 (.r 33)]))))
def ah1:PC:=.block 0 [25,26] [4104,8] (.loop [25] [4104,8] YZ)
def Za:PC:=
 (.seq
  (.is [.setR 52 (.ci .lss (.r 51) (.r 50))])
  (.seq
   (.ite (.r 52) [] []
    .skip
    (.exit 6))
   (.seq
    (.block 7 [15,16,53,54,55,56,57,58,59,60,61,62,63,64,65,66,67,68,69,70,71,72,73,74,75,76,77,78] [16,14]
     (.seq
      (.is [.setR 53 (.r 51),
        .chk (.idx (.r 49) (.r 51)),
        .setR 54 (.ref (.nth (.r 49) (.r 51))),
        .setR 55 (.deref (.r 54)),
        .setO 16 (.con (.agg [(.int 0),(.int 0),(.int 0)])),
        .setR 16 (.con .none),
        .setR 15 (.r 53),
        .setO 16 (.setc (.o 16) 0 (.r 55))])
      (.is [.setR 56 (.r 14),
        .setR 57 (.r 15),
        .setR 58 (.con .none),
        .setR 59 (.cell (.o 16) 2),
        .setR 60 (.con .none),
        .setR 61 (.r 15),
        .chk (.idx (.o 4104) (.r 61)),
        .setR 62 (.r 61),
        .setR 63 (.r 62),
        .setR 64 (.cell (.nth (.o 4104) (.r 63)) 1),
        .setR 65 (.ai .sub .i64 (.r 59) (.r 64)),
        .setR 66 (.r 1),
        .setR 67 (.con .none),
        .setR 68 (.cell (.o 16) 0),
        .chk (.idx (.r 66) (.r 68)),
        .setR 69 (.ref (.nth (.r 66) (.r 68))),
        .setR 70 (.deref (.r 69)),
        .setR 71 (.con .none),
        .setR 72 (.con .none),
        .setR 73 (.cell (.o 16) 0),
        .chk (.idx (.o 4106) (.r 73)),
        .setR 74 (.r 73),
        .setR 75 (.nth (.o 4106) (.r 74)),
        .setR 76 (.ai .sub .i64 (.r 70) (.r 75)),
        .setR 77 (.mn (.r 65) (.r 76)),
        .chk (.idx (.o 14) (.r 57)),
        .setR 78 (.r 57),
        .setO 14 (.setn (.o 14) (.r 78) 0 (.r 77))])))
    (.is [.setR 79 (.ai .add .i64 (.r 51) (.con (.int 1))),
      .setR 51 (.r 79)]))))
def ah2:PC:=.block 6 [51,52] [14] (.loop [51] [14] Za)
def Zb:PC:=
 (.block 5 [13,14,17,46,47,49,50,51,52,80,81,82,83,84,85,86,87,88,89,90] [14,8,4104,10,4106,5]
  (.seq
   (.is [.setR 46 (.cell (.o 5) 0),
     .setR 47 (.llen (.r 46)),
     .chk (.an (.ci .geq (.r 47) (.con (.int 0))) (.ci .leq (.r 47) (.con (.int 4294967296)))),
     .chk (.ci .eql (.r 47) (.r 47)),
     .setO 48 (.rep (.r 47) (.con (.int 0))),
     .setR 48 (.con .none),
     .setR 14 (.r 48),
     .setO 14 (.o 48)])
   (.seq
    (.seq
     (.is [.setR 49 (.cell (.o 5) 0),
       .setR 50 (.llen (.r 49)),
       .setR 51 (.con (.int 0))])
     ah2)
    (.seq
     (.is [.setR 80 (.r 11),
       .setR 81 (.r 13),
       .setR 82 (.r 14),
       .setR 83 (.cell (.o 5) 0),
       .setR 84 (.con .none),
       .mcall 1000000013 39 [(.r 80),(.r 81),(.o 14),(.r 83),(.con .none),(.o 8),(.o 4104),(.o 10),(.o 4106),(.o 5)],
       .setO 8 (.tget (.o 1000000013) 1),
       .setO 4104 (.tget (.o 1000000013) 2),
       .setO 10 (.tget (.o 1000000013) 3),
       .setO 4106 (.tget (.o 1000000013) 4),
       .setO 5 (.tget (.o 1000000013) 5),
       .setR 85 (.tget (.o 1000000013) 0),
       .setR 17 (.r 85)])
     (.seq
      (.seq
       (.is [.setR 86 (.r 17),
         .setR 87 (.ci .eql (.r 86) (.con (.int 0)))])
       (.ite (.r 87) [] []
        (.exit 4)
        .skip))
      (.is [.setR 88 (.r 13),
        .setR 89 (.r 17),
        .setR 90 (.ai .sub .i64 (.r 88) (.r 89)),
        .setR 13 (.r 90)]))))))
def ah3:PC:=.block 4 [13,14,17,46,47,49,50,51,52,80,81,82,83,84,85,86,87] [14,8,4104,10,4106,5] (.loop [13] [8,4104,10,4106,5] Zb)
def Zc:PC:=
 (.seq
  (.is [.setR 40 (.ci .lss (.r 39) (.r 38))])
  (.seq
   (.ite (.r 40) [] []
    .skip
    (.exit 2))
   (.seq
    (.block 3 [11,12,13,14,17,41,42,43,44,45,46,47,49,50,51,52,80,81,82,83,84,85,86,87] [12,14,8,4104,10,4106,5]
     (.seq
      (.is [.setR 41 (.r 39),
        .chk (.idx (.r 37) (.r 39)),
        .setR 42 (.ref (.nth (.r 37) (.r 39))),
        .setR 43 (.deref (.r 42)),
        .setO 12 (.con (.agg [(.int 0),(.int 0),(.int 0)])),
        .setR 12 (.con .none),
        .setR 11 (.r 41),
        .setO 12 (.setc (.o 12) 0 (.r 43))])
      (.seq
       (.is [.setR 44 (.con .none),
         .setR 45 (.cell (.o 12) 2),
         .setR 13 (.r 45)])
       ah3)))
    (.is [.setR 91 (.ai .add .i64 (.r 39) (.con (.int 1))),
      .setR 39 (.r 91)]))))
def ah4:PC:=.block 2 [39,40] [5,4106,10,4104,8] (.loop [39] [5,4106,10,4104,8] Zc)
def I2:PC:=
 (.seq
  (.is [.setO 5 (.mk [(.r 2)]),
    .setR 5 (.con .none),
    .setR 6 (.con (.list [])),
    .setR 7 (.con (.int 0))])
  (.seq
   (.seq
    (.is [.setR 18 (.r 0),
      .setR 19 (.r 1),
      .setR 20 (.cell (.o 5) 0),
      .call [] 21 17 [(.r 18),(.r 19),(.r 20)],
      .setR 22 (.nt (.r 21))])
    (.ite (.r 22) [6,7] []
     (.seq
      (.is [.setR 6 (.con (.list [])),
        .setR 7 (.con (.int 1))])
      (.ret (.tup [(.r 6),(.r 7)])))
     .skip))
   (.seq
    (.is [.setO 8 (.con (.agg [(.list [])])),
      .setR 8 (.con .none),
      .setO 4104 (.con (.list []))])
    (.seq
     (.seq
      (.is [.setR 23 (.cell (.o 5) 0),
        .setR 24 (.llen (.r 23)),
        .setR 25 (.con (.int 0))])
      ah1)
     (.seq
      (.is [.setR 34 (.r 1),
        .setR 35 (.llen (.r 34)),
        .chk (.an (.ci .geq (.r 35) (.con (.int 0))) (.ci .leq (.r 35) (.con (.int 4294967296)))),
        .chk (.ci .eql (.r 35) (.r 35)),
        .setO 36 (.rep (.r 35) (.con (.int 0))),
        .setR 36 (.con .none),
        .setO 10 (.con (.agg [(.list [])])),
        .setR 10 (.con .none),
        .setO 4106 (.con (.list [])),
        .setO 10 (.setc (.o 10) 0 (.con .none)),
        .setO 4106 (.o 36)])
      (.seq
       (.seq
        (.is [.setR 37 (.r 0),
          .setR 38 (.llen (.r 37)),
          .setR 39 (.con (.int 0))])
        ah4)
       (.seq
        (.is [.setR 92 (.con .none),
          .setR 6 (.o 4104),
          .setR 7 (.con (.int 0))])
        (.ret (.tup [(.r 6),(.r 7)])))))))))
theorem aji:vL=some I2:=by kernel_rfl
theorem ajx:tab R6=some I2:=by rw[Xw,←aji,←Ow]
def Zh:PC:=
 (.seq
  (.is [.setR 31 (.ci .lss (.r 30) (.r 29))])
  (.seq
   (.ite (.r 31) [] []
    .skip
    (.exit 0))
   (.seq
    (.block 1 [6,8,32,33,34,35,36,37] [8]
     (.seq
      (.is [.chk (.idx (.r 28) (.r 30)),
        .setR 32 (.ref (.nth (.r 28) (.r 30))),
        .setR 33 (.deref (.r 32)),
        .setO 8 (.con (.agg [(.int 0),(.int 0),(.int 0)])),
        .setR 8 (.con .none),
        .setO 8 (.setc (.o 8) 0 (.r 33))])
      (.seq
       (.is [.setR 34 (.con .none),
         .setR 35 (.cell (.o 8) 2),
         .call [] 36 41 [(.r 35),(.con (.int 0)),(.con (.int 1099511627776))],
         .setR 37 (.nt (.r 36))])
       (.ite (.r 37) [6] []
        (.seq
         (.is [.setR 6 (.con (.bool false))])
         (.ret (.r 6)))
        .skip))))
    (.is [.setR 38 (.ai .add .i64 (.r 30) (.con (.int 1))),
      .setR 30 (.r 38)]))))
def ah9:PC:=.block 0 [6,30,31] [] (.loop [6,30] [] Zh)
def Zi:PC:=
 (.seq
  (.is [.setR 42 (.ci .lss (.r 41) (.r 40))])
  (.seq
   (.ite (.r 42) [] []
    .skip
    (.exit 2))
   (.seq
    (.block 3 [6,10,43,44,45,46,47] []
     (.seq
      (.is [.chk (.idx (.r 39) (.r 41)),
        .setR 43 (.ref (.nth (.r 39) (.r 41))),
        .setR 44 (.deref (.r 43)),
        .setR 10 (.r 44)])
      (.seq
       (.is [.setR 45 (.r 10),
         .call [] 46 41 [(.r 45),(.con (.int 1)),(.con (.int 1099511627776))],
         .setR 47 (.nt (.r 46))])
       (.ite (.r 47) [6] []
        (.seq
         (.is [.setR 6 (.con (.bool false))])
         (.ret (.r 6)))
        .skip))))
    (.is [.setR 48 (.ai .add .i64 (.r 41) (.con (.int 1))),
      .setR 41 (.r 48)]))))
def aia:PC:=.block 2 [6,41,42] [] (.loop [6,41] [] Zi)
def Zj:PC:=
 (.seq
  (.is [.setR 53 (.ci .lss (.r 52) (.r 51))])
  (.seq
   (.ite (.r 53) [] []
    .skip
    (.exit 4))
   (.seq
    (.block 5 [6,13,14,54,55,56,57,58,59,60,61,62,63,64,65,66,67,68,76,77,81,82,92,93,94] [13,14,11]
     (.seq
      (.is [.chk (.idx (.r 50) (.r 52)),
        .setR 54 (.ref (.nth (.r 50) (.r 52))),
        .setR 55 (.deref (.r 54)),
        .setO 13 (.con (.agg [(.int 0),(.int 0),(.int 0)])),
        .setR 13 (.con .none),
        .setO 13 (.setc (.o 13) 0 (.r 55))])
      (.seq
       (.is [.setR 56 (.con .none),
         .setR 57 (.cell (.o 13) 0),
         .setR 58 (.con .none),
         .setR 59 (.cell (.o 13) 1),
         .setR 60 (.mk [(.r 57),(.r 59)]),
         .setO 14 (.con (.agg [(.int 0),(.int 0)])),
         .setR 14 (.con .none),
         .setO 14 (.setc (.o 14) 0 (.r 60))])
       (.seq
        (.seq
         (.is [.setR 61 (.con .none),
          .setR 62 (.cell (.o 13) 0),
          .setR 63 (.r 1),
          .setR 64 (.llen (.r 63)),
          .setR 65 (.ai .sub .i64 (.r 64) (.con (.int 1))),
          .call [] 66 41 [(.r 62),(.con (.int 0)),(.r 65)],
          .setR 67 (.nt (.r 66)),
          .setR 68 (.r 67),
          .setR 69 (.con .none),
          .setR 70 (.cell (.o 13) 1),
          .setR 71 (.r 0),
          .setR 72 (.llen (.r 71)),
          .setR 73 (.ai .sub .i64 (.r 72) (.con (.int 1))),
          .call [(68,false)] 74 41 [(.r 70),(.con (.int 0)),(.r 73)],
          .setR 75 (.nt (.r 74)),
          .setR 76 (.pick (.r 68) (.con (.bool true)) (.r 75)),
          .setR 77 (.r 76),
          .setR 78 (.r 11),
          .setR 79 (.mk [(.cell (.o 14) 0),(.cell (.o 14) 1)]),
          .setR 80 (.look (.o 11) (.r 79) (.con (.bool false))),
          .setR 81 (.pick (.r 77) (.con (.bool true)) (.r 80)),
          .setR 82 (.r 81),
          .setR 83 (.con .none),
          .setR 84 (.cell (.o 13) 2),
          .setR 85 (.r 1),
          .setR 86 (.con .none),
          .setR 87 (.cell (.o 13) 0),
          .chk (.imp [(82,false)] (.idx (.r 85) (.r 87))),
          .setR 88 (.ref (.nth (.r 85) (.r 87))),
          .setR 89 (.deref (.r 88)),
          .call [(82,false)] 90 41 [(.r 84),(.con (.int 1)),(.r 89)],
          .setR 91 (.nt (.r 90)),
          .setR 92 (.pick (.r 82) (.con (.bool true)) (.r 91))])
         (.ite (.r 92) [6] []
          (.seq
           (.is [.setR 6 (.con (.bool false))])
           (.ret (.r 6)))
          .skip))
        (.is [.setR 93 (.r 11),
          .setR 94 (.mk [(.cell (.o 14) 0),(.cell (.o 14) 1)]),
          .chk (.ci .lss (.mlen (.o 11)) (.con (.int 4294967296))),
          .setO 11 (.put (.o 11) (.r 94) (.con (.bool true)))])))))
    (.is [.setR 95 (.ai .add .i64 (.r 52) (.con (.int 1))),
      .setR 52 (.r 95)]))))
def aib:PC:=.block 4 [6,52,53] [11] (.loop [6,52] [11] Zj)
def I6:PC:=
 (.seq
  (.is [.setR 6 (.con (.bool false))])
  (.seq
   (.seq
    (.is [.setR 15 (.r 0),
      .setR 16 (.llen (.r 15)),
      .setR 17 (.ci .gtr (.r 16) (.con (.int 10))),
      .setR 18 (.r 17),
      .setR 19 (.r 1),
      .setR 20 (.llen (.r 19)),
      .setR 21 (.ci .gtr (.r 20) (.con (.int 50))),
      .setR 22 (.pick (.r 18) (.con (.bool true)) (.r 21)),
      .setR 23 (.r 22),
      .setR 24 (.r 2),
      .setR 25 (.llen (.r 24)),
      .setR 26 (.ci .gtr (.r 25) (.con (.int 100))),
      .setR 27 (.pick (.r 23) (.con (.bool true)) (.r 26))])
    (.ite (.r 27) [6] []
     (.seq
      (.is [.setR 6 (.con (.bool false))])
      (.ret (.r 6)))
     .skip))
   (.seq
    (.seq
     (.is [.setR 28 (.r 0),
       .setR 29 (.llen (.r 28)),
       .setR 30 (.con (.int 0))])
     ah9)
    (.seq
     (.seq
      (.is [.setR 39 (.r 1),
        .setR 40 (.llen (.r 39)),
        .setR 41 (.con (.int 0))])
      aia)
     (.seq
      (.is [.setO 49 (.con (.map [])),
        .setR 49 (.con .none),
        .setR 11 (.r 49),
        .setO 11 (.o 49)])
      (.seq
       (.seq
        (.is [.setR 50 (.r 2),
          .setR 51 (.llen (.r 50)),
          .setR 52 (.con (.int 0))])
        aib)
       (.seq
        (.is [.setR 6 (.con (.bool true))])
        (.ret (.r 6)))))))))
theorem ajm:vK=some I6:=by kernel_rfl
theorem ajB:tab R5=some I6:=by rw[Xv,←ajm,←Ou]
def Ja:PC:=
 (.seq
  (.is [.setR 6 (.con (.bool false))])
  (.seq
   (.is [.setR 7 (.r 0),
     .setR 8 (.r 1),
     .setR 9 (.ci .geq (.r 7) (.r 8)),
     .setR 10 (.r 9),
     .setR 11 (.r 0),
     .setR 12 (.r 2),
     .setR 13 (.ci .leq (.r 11) (.r 12)),
     .setR 14 (.pick (.r 10) (.r 13) (.con (.bool false))),
     .setR 6 (.r 14)])
   (.ret (.r 6))))
theorem ajq:vO=some Ja:=by kernel_rfl
theorem ajG:tab R9=some Ja:=by rw[Xz,←ajq,←Ox]
def Zk:PC:=
 (.seq
  (.is [.setR 21 (.ci .lss (.r 20) (.r 19))])
  (.seq
   (.ite (.r 21) [] []
    .skip
    (.exit 0))
   (.seq
    (.block 1 [11,12,13,22,23,24,25,26,27,28,29,35] [13]
     (.seq
      (.is [.setR 22 (.r 20),
        .chk (.idx (.r 18) (.r 20)),
        .setR 23 (.ref (.nth (.r 18) (.r 20))),
        .setR 24 (.deref (.r 23)),
        .setO 13 (.con (.agg [(.int 0),(.int 0),(.int 0)])),
        .setR 13 (.con .none),
        .setR 12 (.r 22),
        .setO 13 (.setc (.o 13) 0 (.r 24))])
      (.seq
       (.is [.setR 25 (.con .none),
         .setR 26 (.cell (.o 13) 1),
         .setR 27 (.r 0),
         .setR 28 (.ci .eql (.r 26) (.r 27)),
         .setR 29 (.r 28),
         .setR 30 (.r 2),
         .setR 31 (.r 12),
         .chk (.imp [(29,true)] (.idx (.r 30) (.r 31))),
         .setR 32 (.ref (.nth (.r 30) (.r 31))),
         .setR 33 (.deref (.r 32)),
         .setR 34 (.ci .gtr (.r 33) (.con (.int 0))),
         .setR 35 (.pick (.r 29) (.r 34) (.con (.bool false)))])
       (.ite (.r 35) [11] []
        (.is [.setR 36 (.r 11),
          .setR 37 (.con .none),
          .setR 38 (.cell (.o 13) 2),
          .setR 39 (.ai .add .i64 (.r 36) (.r 38)),
          .setR 11 (.r 39)])
        .skip))))
    (.is [.setR 40 (.ai .add .i64 (.r 20) (.con (.int 1))),
      .setR 20 (.r 40)]))))
def aic:PC:=.block 0 [11,20,21] [] (.loop [11,20] [] Zk)
def Zl:PC:=
 (.seq
  (.is [.setR 44 (.ci .lss (.r 43) (.r 42))])
  (.seq
   (.ite (.r 44) [] []
    .skip
    (.exit 2))
   (.seq
    (.block 3 [14,15,16,45,46,47,48,49,50,51,52,58] [16,900,901,902,903,904]
     (.seq
      (.is [.setR 45 (.r 43),
        .chk (.idx (.r 41) (.r 43)),
        .setR 46 (.ref (.nth (.r 41) (.r 43))),
        .setR 47 (.deref (.r 46)),
        .setO 16 (.con (.agg [(.int 0),(.int 0),(.int 0)])),
        .setR 16 (.con .none),
        .setR 15 (.r 45),
        .setO 16 (.setc (.o 16) 0 (.r 47))])
      (.seq
       (.is [.setR 48 (.con .none),
         .setR 49 (.cell (.o 16) 1),
         .setR 50 (.r 0),
         .setR 51 (.ci .eql (.r 49) (.r 50)),
         .setR 52 (.r 51),
         .setR 53 (.r 2),
         .setR 54 (.r 15),
         .chk (.imp [(52,true)] (.idx (.r 53) (.r 54))),
         .setR 55 (.ref (.nth (.r 53) (.r 54))),
         .setR 56 (.deref (.r 55)),
         .setR 57 (.ci .gtr (.r 56) (.con (.int 0))),
         .setR 58 (.pick (.r 52) (.r 57) (.con (.bool false)))])
       (.ite (.r 58) [14] [900,901,902,903,904]
        (.seq
         (.is [.setR 59 (.r 2),
          .setR 60 (.r 15),
          .chk (.idx (.r 59) (.r 60)),
          .setR 61 (.ref (.nth (.r 59) (.r 60))),
          .setR 62 (.deref (.r 61)),
          .setR 63 (.r 1),
          .setR 64 (.con .none),
          .setR 65 (.cell (.o 16) 2),
          .setR 66 (.r 11),
          .call [] 67 58 [(.r 63),(.r 65),(.r 66)],
          .setR 68 (.mn (.r 62) (.r 67)),
          .setR 17 (.r 68)])
         (.seq
          (.is [.setR 69 (.r 14),
            .setR 70 (.r 17),
            .setR 71 (.ai .add .i64 (.r 69) (.r 70)),
            .setR 14 (.r 71)])
          (.is [.setR 72 (.r 4),
            .setR 73 (.r 15),
            .setR 74 (.r 17),
            .mcall 1000000013 40 [(.r 73),(.r 74),(.con .none),(.con .none),(.con .none),(.o 900),(.o 901),(.o 902),(.o 903),(.o 904)],
            .setO 900 (.tget (.o 1000000013) 1),
            .setO 901 (.tget (.o 1000000013) 2),
            .setO 902 (.tget (.o 1000000013) 3),
            .setO 903 (.tget (.o 1000000013) 4),
            .setO 904 (.tget (.o 1000000013) 5),
            .setR 75 (.tget (.o 1000000013) 0)])))
        .skip))))
    (.is [.setR 76 (.ai .add .i64 (.r 43) (.con (.int 1))),
      .setR 43 (.r 76)]))))
def aid:PC:=.block 2 [14,43,44] [904,903,902,901,900] (.loop [14,43] [904,903,902,901,900] Zl)
def I7:PC:=
 (.seq
  (.is [.setO 904 (.r 9),
    .setO 903 (.r 8),
    .setO 902 (.r 7),
    .setO 901 (.r 6),
    .setO 900 (.r 5)])
  (.seq
   (.is [.setR 10 (.con (.int 0))])
   (.seq
    (.is [.setR 11 (.con (.int 0))])
    (.seq
     (.seq
      (.is [.setR 18 (.r 3),
        .setR 19 (.llen (.r 18)),
        .setR 20 (.con (.int 0))])
      aic)
     (.seq
      (.is [.setR 14 (.con (.int 0))])
      (.seq
       (.seq
        (.is [.setR 41 (.r 3),
          .setR 42 (.llen (.r 41)),
          .setR 43 (.con (.int 0))])
        aid)
       (.seq
        (.is [.setR 77 (.r 14),
          .setR 10 (.r 77)])
        (.ret (.tup [(.r 10),(.o 900),(.o 901),(.o 902),(.o 903),(.o 904)])))))))))
theorem ajn:vQ=some I7:=by kernel_rfl
theorem ajD:tab Sb=some I7:=by rw[XB,←ajn,←Oz]
def Jb:PC:=
 (.seq
  (.is [.setR 6 (.con (.int 0))])
  (.seq
   (.is [.setR 12 (.r 0),
     .setR 13 (.conv .u64 (.r 12)),
     .setR 14 (.r 1),
     .setR 15 (.conv .u64 (.r 14)),
     .call [] 16 75 [(.r 13),(.r 15)],
     .setR 11 (.r 16),
     .setR 17 (.tget (.r 11) 0),
     .setR 18 (.tget (.r 11) 1),
     .setR 7 (.r 17),
     .setR 8 (.r 18)])
   (.seq
    (.is [.setR 20 (.r 7),
      .setR 21 (.r 8),
      .setR 22 (.r 2),
      .setR 23 (.conv .u64 (.r 22)),
      .call [] 24 76 [(.r 20),(.r 21),(.r 23)],
      .setR 19 (.r 24),
      .setR 25 (.tget (.r 19) 0),
      .setR 26 (.tget (.r 19) 1),
      .setR 9 (.r 25),
      .setR 10 (.r 26)])
    (.seq
     (.is [.setR 27 (.r 9),
       .setR 28 (.conv .i64 (.r 27)),
       .setR 6 (.r 28)])
     (.ret (.r 6))))))
theorem ajr:vP=some Jb:=by kernel_rfl
theorem ajH:tab Sa=some Jb:=by rw[XA,←ajr,←Oy]
def Jc:PC:=
 (.seq
  (.is [.setR 4 (.con (.v (.int .u64 0))),
    .setR 5 (.con (.v (.int .u64 0)))])
  (.seq
   (.is [.setR 14 (.r 0),
     .setR 15 (.ai .and .u64 (.r 14) (.con (.v (.int .u64 4294967295)))),
     .setR 6 (.r 15)])
   (.seq
    (.is [.setR 16 (.r 0),
      .chk (.ci .geq (.con (.v (.int .u64 32))) (.con (.int 0))),
      .setR 17 (.ai .shr .u64 (.r 16) (.con (.v (.int .u64 32)))),
      .setR 7 (.r 17)])
    (.seq
     (.is [.setR 18 (.r 1),
       .setR 19 (.ai .and .u64 (.r 18) (.con (.v (.int .u64 4294967295)))),
       .setR 8 (.r 19)])
     (.seq
      (.is [.setR 20 (.r 1),
        .chk (.ci .geq (.con (.v (.int .u64 32))) (.con (.int 0))),
        .setR 21 (.ai .shr .u64 (.r 20) (.con (.v (.int .u64 32)))),
        .setR 9 (.r 21)])
      (.seq
       (.is [.setR 22 (.r 6),
        .setR 23 (.r 8),
        .setR 24 (.ai .mul .u64 (.r 22) (.r 23)),
        .setR 10 (.r 24)])
       (.seq
        (.is [.setR 25 (.r 7),
          .setR 26 (.r 8),
          .setR 27 (.ai .mul .u64 (.r 25) (.r 26)),
          .setR 28 (.r 10),
          .chk (.ci .geq (.con (.v (.int .u64 32))) (.con (.int 0))),
          .setR 29 (.ai .shr .u64 (.r 28) (.con (.v (.int .u64 32)))),
          .setR 30 (.ai .add .u64 (.r 27) (.r 29)),
          .setR 11 (.r 30)])
        (.seq
         (.is [.setR 31 (.r 11),
          .setR 32 (.ai .and .u64 (.r 31) (.con (.v (.int .u64 4294967295)))),
          .setR 12 (.r 32)])
         (.seq
          (.is [.setR 33 (.r 11),
            .chk (.ci .geq (.con (.v (.int .u64 32))) (.con (.int 0))),
            .setR 34 (.ai .shr .u64 (.r 33) (.con (.v (.int .u64 32)))),
            .setR 13 (.r 34)])
          (.seq
           (.is [.setR 35 (.r 12),
             .setR 36 (.r 6),
             .setR 37 (.r 9),
             .setR 38 (.ai .mul .u64 (.r 36) (.r 37)),
             .setR 39 (.ai .add .u64 (.r 35) (.r 38)),
             .setR 12 (.r 39)])
           (.seq
            (.is [.setR 40 (.r 7),
             .setR 41 (.r 9),
             .setR 42 (.ai .mul .u64 (.r 40) (.r 41)),
             .setR 43 (.r 13),
             .setR 44 (.ai .add .u64 (.r 42) (.r 43)),
             .setR 45 (.r 12),
             .chk (.ci .geq (.con (.v (.int .u64 32))) (.con (.int 0))),
             .setR 46 (.ai .shr .u64 (.r 45) (.con (.v (.int .u64 32)))),
             .setR 47 (.ai .add .u64 (.r 44) (.r 46)),
             .setR 4 (.r 47)])
            (.seq
             (.is [.setR 48 (.r 0),
               .setR 49 (.r 1),
               .setR 50 (.ai .mul .u64 (.r 48) (.r 49)),
               .setR 5 (.r 50)])
             (.ret (.tup [(.r 4),(.r 5)]))))))))))))))
theorem ajs:vE=some Jc:=by kernel_rfl
theorem ajI:tab Jv=some Jc:=by rw[NX,←ajs,←Oo]
def Zm:PC:=
 (.seq
  (.seq
   (.is [.setR 67 (.r 15),
     .setR 68 (.ci .geq (.r 67) (.con (.v (.int .u64 4294967296)))),
     .setR 69 (.r 68),
     .setR 70 (.r 15),
     .setR 71 (.r 10),
     .setR 72 (.ai .mul .u64 (.r 70) (.r 71)),
     .setR 73 (.r 16),
     .setR 74 (.ai .mul .u64 (.con (.v (.int .u64 4294967296))) (.r 73)),
     .setR 75 (.r 13),
     .setR 76 (.ai .add .u64 (.r 74) (.r 75)),
     .setR 77 (.ci .gtr (.r 72) (.r 76)),
     .setR 78 (.pick (.r 69) (.con (.bool true)) (.r 77))])
   (.ite (.r 78) [] []
    .skip
    (.exit 0)))
  (.block 1 [15,16,79,80,81,82,83,84,85] []
   (.seq
    (.is [.setR 79 (.r 15),
      .setR 80 (.ai .sub .u64 (.r 79) (.con (.v (.int .u64 1)))),
      .setR 15 (.r 80)])
    (.seq
     (.is [.setR 81 (.r 16),
       .setR 82 (.r 9),
       .setR 83 (.ai .add .u64 (.r 81) (.r 82)),
       .setR 16 (.r 83)])
     (.seq
      (.is [.setR 84 (.r 16),
        .setR 85 (.ci .geq (.r 84) (.con (.v (.int .u64 4294967296))))])
      (.ite (.r 85) [] []
       (.exit 0)
       .skip))))))
def aie:PC:=.block 0 [15,16,67,68,69,78] [] (.loop [15,16] [] Zm)
def Zn:PC:=
 (.seq
  (.seq
   (.is [.setR 102 (.r 18),
     .setR 103 (.ci .geq (.r 102) (.con (.v (.int .u64 4294967296)))),
     .setR 104 (.r 103),
     .setR 105 (.r 18),
     .setR 106 (.r 10),
     .setR 107 (.ai .mul .u64 (.r 105) (.r 106)),
     .setR 108 (.r 16),
     .setR 109 (.ai .mul .u64 (.con (.v (.int .u64 4294967296))) (.r 108)),
     .setR 110 (.r 14),
     .setR 111 (.ai .add .u64 (.r 109) (.r 110)),
     .setR 112 (.ci .gtr (.r 107) (.r 111)),
     .setR 113 (.pick (.r 104) (.con (.bool true)) (.r 112))])
   (.ite (.r 113) [] []
    .skip
    (.exit 2)))
  (.block 3 [16,18,114,115,116,117,118,119,120] []
   (.seq
    (.is [.setR 114 (.r 18),
      .setR 115 (.ai .sub .u64 (.r 114) (.con (.v (.int .u64 1)))),
      .setR 18 (.r 115)])
    (.seq
     (.is [.setR 116 (.r 16),
       .setR 117 (.r 9),
       .setR 118 (.ai .add .u64 (.r 116) (.r 117)),
       .setR 16 (.r 118)])
     (.seq
      (.is [.setR 119 (.r 16),
        .setR 120 (.ci .geq (.r 119) (.con (.v (.int .u64 4294967296))))])
      (.ite (.r 120) [] []
       (.exit 2)
       .skip))))))
def aif:PC:=.block 2 [16,18,102,103,104,113] [] (.loop [16,18] [] Zn)
def Jd:PC:=
 (.seq
  (.is [.setR 6 (.con (.v (.int .u64 0))),
    .setR 7 (.con (.v (.int .u64 0)))])
  (.seq
   (.seq
    (.is [.setR 19 (.r 2),
      .setR 20 (.ci .eql (.r 19) (.con (.v (.int .u64 0))))])
    (.ite (.r 20) [] []
     (.is [.chk (.con (.bool false)),
       .chk (.nt (.con (.bool true)))])
     .skip))
   (.seq
    (.seq
     (.is [.setR 22 (.r 2),
       .setR 23 (.r 0),
       .setR 24 (.ci .leq (.r 22) (.r 23))])
     (.ite (.r 24) [] []
      (.is [.chk (.con (.bool false)),
        .chk (.nt (.con (.bool true)))])
      .skip))
    (.seq
     (.seq
      (.is [.setR 26 (.r 0),
        .setR 27 (.ci .eql (.r 26) (.con (.v (.int .u64 0))))])
      (.ite (.r 27) [6,7] []
       (.seq
        (.is [.setR 28 (.r 1),
          .setR 29 (.r 2),
          .chk (.ci .neq (.r 29) (.con (.int 0))),
          .setR 30 (.ai .quo .u64 (.r 28) (.r 29)),
          .setR 31 (.r 1),
          .setR 32 (.r 2),
          .chk (.ci .neq (.r 32) (.con (.int 0))),
          .setR 33 (.ai .rem .u64 (.r 31) (.r 32)),
          .setR 6 (.r 30),
          .setR 7 (.r 33)])
        (.ret (.tup [(.r 6),(.r 7)])))
       .skip))
     (.seq
      (.is [.setR 34 (.r 2),
        .call [] 35 91 [(.r 34)],
        .setR 36 (.conv .u64 (.r 35)),
        .setR 8 (.r 36)])
      (.seq
       (.is [.setR 37 (.r 2),
        .setR 38 (.r 8),
        .chk (.ci .geq (.r 38) (.con (.int 0))),
        .setR 39 (.ai .shl .u64 (.r 37) (.r 38)),
        .setR 2 (.r 39)])
       (.seq
        (.is [.setR 40 (.r 2),
          .chk (.ci .geq (.con (.v (.int .u64 32))) (.con (.int 0))),
          .setR 41 (.ai .shr .u64 (.r 40) (.con (.v (.int .u64 32)))),
          .setR 9 (.r 41)])
        (.seq
         (.is [.setR 42 (.r 2),
          .setR 43 (.ai .and .u64 (.r 42) (.con (.v (.int .u64 4294967295)))),
          .setR 10 (.r 43)])
         (.seq
          (.is [.setR 44 (.r 0),
            .setR 45 (.r 8),
            .chk (.ci .geq (.r 45) (.con (.int 0))),
            .setR 46 (.ai .shl .u64 (.r 44) (.r 45)),
            .setR 47 (.r 1),
            .setR 48 (.r 8),
            .setR 49 (.ai .sub .u64 (.con (.v (.int .u64 64))) (.r 48)),
            .chk (.ci .geq (.r 49) (.con (.int 0))),
            .setR 50 (.ai .shr .u64 (.r 47) (.r 49)),
            .setR 51 (.ai .or .u64 (.r 46) (.r 50)),
            .setR 11 (.r 51)])
          (.seq
           (.is [.setR 52 (.r 1),
             .setR 53 (.r 8),
             .chk (.ci .geq (.r 53) (.con (.int 0))),
             .setR 54 (.ai .shl .u64 (.r 52) (.r 53)),
             .setR 12 (.r 54)])
           (.seq
            (.is [.setR 55 (.r 12),
             .chk (.ci .geq (.con (.v (.int .u64 32))) (.con (.int 0))),
             .setR 56 (.ai .shr .u64 (.r 55) (.con (.v (.int .u64 32)))),
             .setR 13 (.r 56)])
            (.seq
             (.is [.setR 57 (.r 12),
               .setR 58 (.ai .and .u64 (.r 57) (.con (.v (.int .u64 4294967295)))),
               .setR 14 (.r 58)])
             (.seq
              (.is [.setR 59 (.r 11),
                .setR 60 (.r 9),
                .chk (.ci .neq (.r 60) (.con (.int 0))),
                .setR 61 (.ai .quo .u64 (.r 59) (.r 60)),
                .setR 15 (.r 61)])
              (.seq
               (.is [.setR 62 (.r 11),
                 .setR 63 (.r 15),
                 .setR 64 (.r 9),
                 .setR 65 (.ai .mul .u64 (.r 63) (.r 64)),
                 .setR 66 (.ai .sub .u64 (.r 62) (.r 65)),
                 .setR 16 (.r 66)])
               (.seq
                aie
                (.seq
                 (.is [.setR 86 (.r 11),
                   .setR 87 (.ai .mul .u64 (.r 86) (.con (.v (.int .u64 4294967296)))),
                   .setR 88 (.r 13),
                   .setR 89 (.ai .add .u64 (.r 87) (.r 88)),
                   .setR 90 (.r 15),
                   .setR 91 (.r 2),
                   .setR 92 (.ai .mul .u64 (.r 90) (.r 91)),
                   .setR 93 (.ai .sub .u64 (.r 89) (.r 92)),
                   .setR 17 (.r 93)])
                 (.seq
                  (.is [.setR 94 (.r 17),
                    .setR 95 (.r 9),
                    .chk (.ci .neq (.r 95) (.con (.int 0))),
                    .setR 96 (.ai .quo .u64 (.r 94) (.r 95)),
                    .setR 18 (.r 96)])
                  (.seq
                   (.is [.setR 97 (.r 17),
                     .setR 98 (.r 18),
                     .setR 99 (.r 9),
                     .setR 100 (.ai .mul .u64 (.r 98) (.r 99)),
                     .setR 101 (.ai .sub .u64 (.r 97) (.r 100)),
                     .setR 16 (.r 101)])
                   (.seq
                    aif
                    (.seq
                     (.is [.setR 121 (.r 15),
                       .setR 122 (.ai .mul .u64 (.r 121) (.con (.v (.int .u64 4294967296)))),
                       .setR 123 (.r 18),
                       .setR 124 (.ai .add .u64 (.r 122) (.r 123)),
                       .setR 125 (.r 17),
                       .setR 126 (.ai .mul .u64 (.r 125) (.con (.v (.int .u64 4294967296)))),
                       .setR 127 (.r 14),
                       .setR 128 (.ai .add .u64 (.r 126) (.r 127)),
                       .setR 129 (.r 18),
                       .setR 130 (.r 2),
                       .setR 131 (.ai .mul .u64 (.r 129) (.r 130)),
                       .setR 132 (.ai .sub .u64 (.r 128) (.r 131)),
                       .setR 133 (.r 8),
                       .chk (.ci .geq (.r 133) (.con (.int 0))),
                       .setR 134 (.ai .shr .u64 (.r 132) (.r 133)),
                       .setR 6 (.r 124),
                       .setR 7 (.r 134)])
                     (.ret (.tup [(.r 6),(.r 7)]))))))))))))))))))))))
theorem ajt:vB=some Jd:=by kernel_rfl
theorem ajJ:tab RU=some Jd:=by rw[Xj,←ajt,←Ol]
def Je:PC:=
 (.seq
  (.is [.setR 2 (.con (.int 0))])
  (.seq
   (.is [.setR 3 (.r 0),
     .call [] 4 101 [(.r 3)],
     .setR 5 (.ai .sub .i64 (.con (.int 64)) (.r 4)),
     .setR 2 (.r 5)])
   (.ret (.r 2))))
theorem aju:vC=some Je:=by kernel_rfl
theorem ajK:tab RV=some Je:=by rw[Xk,←aju,←Om]
def I0:PC:=
 (.seq
  (.is [.setR 2 (.con (.int 0))])
  (.seq
   (.seq
    (.is [.setR 3 (.r 0),
      .setR 4 (.ci .geq (.r 3) (.con (.v (.int .u64 4294967296))))])
    (.ite (.r 4) [0,2] []
     (.seq
      (.is [.setR 5 (.r 0),
        .chk (.ci .geq (.con (.v (.int .u64 32))) (.con (.int 0))),
        .setR 6 (.ai .shr .u64 (.r 5) (.con (.v (.int .u64 32)))),
        .setR 0 (.r 6)])
      (.is [.setR 2 (.con (.int 32))]))
     .skip))
   (.seq
    (.seq
     (.is [.setR 7 (.r 0),
       .setR 8 (.ci .geq (.r 7) (.con (.v (.int .u64 65536))))])
     (.ite (.r 8) [0,2] []
      (.seq
       (.is [.setR 9 (.r 0),
         .chk (.ci .geq (.con (.v (.int .u64 16))) (.con (.int 0))),
         .setR 10 (.ai .shr .u64 (.r 9) (.con (.v (.int .u64 16)))),
         .setR 0 (.r 10)])
       (.is [.setR 11 (.r 2),
         .setR 12 (.ai .add .i64 (.r 11) (.con (.int 16))),
         .setR 2 (.r 12)]))
      .skip))
    (.seq
     (.seq
      (.is [.setR 13 (.r 0),
        .setR 14 (.ci .geq (.r 13) (.con (.v (.int .u64 256))))])
      (.ite (.r 14) [0,2] []
       (.seq
        (.is [.setR 15 (.r 0),
         .chk (.ci .geq (.con (.v (.int .u64 8))) (.con (.int 0))),
         .setR 16 (.ai .shr .u64 (.r 15) (.con (.v (.int .u64 8)))),
         .setR 0 (.r 16)])
        (.is [.setR 17 (.r 2),
         .setR 18 (.ai .add .i64 (.r 17) (.con (.int 8))),
         .setR 2 (.r 18)]))
       .skip))
     (.seq
      (.is [.setR 19 (.r 2),
        .setR 20 (.r 0),
        .setR 21 (.conv .u8 (.r 20)),
        .chk (.sok (.con (.v (.string ⟨#[0,1,2,2,3,3,3,3,4,4,4,4,4,4,4,4,5,5,5,5,5,5,5,5,5,5,5,5,5,5,5,5,6,6,6,6,6,6,6,6,6,6,6,6,6,6,6,6,6,6,6,6,6,6,6,6,6,6,6,6,6,6,6,6,7,7,7,7,7,7,7,7,7,7,7,7,7,7,7,7,7,7,7,7,7,7,7,7,7,7,7,7,7,7,7,7,7,7,7,7,7,7,7,7,7,7,7,7,7,7,7,7,7,7,7,7,7,7,7,7,7,7,7,7,7,7,7,7,8,8,8,8,8,8,8,8,8,8,8,8,8,8,8,8,8,8,8,8,8,8,8,8,8,8,8,8,8,8,8,8,8,8,8,8,8,8,8,8,8,8,8,8,8,8,8,8,8,8,8,8,8,8,8,8,8,8,8,8,8,8,8,8,8,8,8,8,8,8,8,8,8,8,8,8,8,8,8,8,8,8,8,8,8,8,8,8,8,8,8,8,8,8,8,8,8,8,8,8,8,8,8,8,8,8,8,8,8,8,8,8,8,8,8,8,8,8,8,8,8,8,8,8,8,8,8,8]⟩))) (.r 21)),
        .setR 22 (.sidx (.con (.v (.string ⟨#[0,1,2,2,3,3,3,3,4,4,4,4,4,4,4,4,5,5,5,5,5,5,5,5,5,5,5,5,5,5,5,5,6,6,6,6,6,6,6,6,6,6,6,6,6,6,6,6,6,6,6,6,6,6,6,6,6,6,6,6,6,6,6,6,7,7,7,7,7,7,7,7,7,7,7,7,7,7,7,7,7,7,7,7,7,7,7,7,7,7,7,7,7,7,7,7,7,7,7,7,7,7,7,7,7,7,7,7,7,7,7,7,7,7,7,7,7,7,7,7,7,7,7,7,7,7,7,7,8,8,8,8,8,8,8,8,8,8,8,8,8,8,8,8,8,8,8,8,8,8,8,8,8,8,8,8,8,8,8,8,8,8,8,8,8,8,8,8,8,8,8,8,8,8,8,8,8,8,8,8,8,8,8,8,8,8,8,8,8,8,8,8,8,8,8,8,8,8,8,8,8,8,8,8,8,8,8,8,8,8,8,8,8,8,8,8,8,8,8,8,8,8,8,8,8,8,8,8,8,8,8,8,8,8,8,8,8,8,8,8,8,8,8,8,8,8,8,8,8,8,8,8,8,8,8,8]⟩))) (.r 21)),
        .setR 23 (.conv .i64 (.r 22)),
        .setR 24 (.ai .add .i64 (.r 19) (.r 23)),
        .setR 2 (.r 24)])
      (.ret (.r 2)))))))
theorem ajg:vD=some I0:=by kernel_rfl
theorem ajv:tab RW=some I0:=by rw[Xl,←ajg,←On]
def I9:PC:=
 (.seq
  (.is [.setO 904 (.r 9),
    .setO 903 (.r 8),
    .setO 902 (.r 7),
    .setO 901 (.r 6),
    .setO 900 (.r 5)])
  (.seq
   (.seq
    (.is [.setR 7 (.con .none),
      .setR 8 (.r 0),
      .chk (.idx (.o 901) (.r 8)),
      .setR 9 (.r 8),
      .setR 10 (.r 9),
      .setR 11 (.cell (.nth (.o 901) (.r 10)) 1),
      .setR 12 (.r 1),
      .setR 13 (.ai .add .i64 (.r 11) (.r 12)),
      .chk (.idx (.o 901) (.r 8)),
      .setR 14 (.r 8),
      .setR 15 (.r 14),
      .setO 901 (.setn (.o 901) (.r 15) 1 (.r 13))])
    (.is [.setR 16 (.con .none),
      .setR 17 (.cell (.o 904) 0),
      .setR 18 (.r 0),
      .chk (.idx (.r 17) (.r 18)),
      .setR 19 (.ref (.nth (.r 17) (.r 18))),
      .setR 20 (.ref (.cell (.deref (.r 19)) 0)),
      .setR 21 (.deref (.r 20)),
      .chk (.idx (.o 903) (.r 21)),
      .setR 22 (.r 21),
      .setR 23 (.nth (.o 903) (.r 22)),
      .setR 24 (.r 1),
      .setR 25 (.ai .add .i64 (.r 23) (.r 24)),
      .chk (.idx (.o 903) (.r 21)),
      .setR 26 (.r 21),
      .setO 903 (.setn (.o 903) (.r 26) 0 (.r 25))]))
   (.ret (.tup [(.tup []),(.o 900),(.o 901),(.o 902),(.o 903),(.o 904)]))))
theorem ajp:vM=some I9:=by kernel_rfl
theorem ajF:tab R7=some I9:=by rw[Xx,←ajp,←Ov]
def Zd:PC:=
 (.seq
  (.is [.setR 30 (.ci .lss (.r 29) (.r 28))])
  (.seq
   (.ite (.r 30) [] []
    .skip
    (.exit 2))
   (.seq
    (.block 3 [11,31,32,33,34,35,36,37,38,39,48] [11,7]
     (.seq
      (.is [.chk (.idx (.r 27) (.r 29)),
        .setR 31 (.ref (.nth (.r 27) (.r 29))),
        .setR 32 (.deref (.r 31)),
        .setO 11 (.con (.agg [(.int 0),(.int 0)])),
        .setR 11 (.con .none),
        .setO 11 (.setc (.o 11) 0 (.r 32))])
      (.seq
       (.is [.setR 33 (.con .none),
         .setR 34 (.cell (.o 11) 0),
         .setR 35 (.r 1),
         .setR 36 (.llen (.r 35)),
         .setR 37 (.ai .sub .i64 (.r 36) (.con (.int 1))),
         .call [] 38 41 [(.r 34),(.con (.int 0)),(.r 37)],
         .setR 39 (.r 38),
         .setR 40 (.r 1),
         .setR 41 (.con .none),
         .setR 42 (.cell (.o 11) 0),
         .chk (.imp [(39,true)] (.idx (.r 40) (.r 42))),
         .setR 43 (.ref (.nth (.r 40) (.r 42))),
         .setR 44 (.ref (.cell (.deref (.r 43)) 1)),
         .setR 45 (.deref (.r 44)),
         .setR 46 (.r 8),
         .setR 47 (.ci .eql (.r 45) (.r 46)),
         .setR 48 (.pick (.r 39) (.r 47) (.con (.bool false)))])
       (.ite (.r 48) [] [7]
        (.is [.setR 49 (.r 7),
          .setR 50 (.r 8),
          .chk (.idx (.o 7) (.r 50)),
          .setR 51 (.r 50),
          .setR 52 (.nth (.o 7) (.r 51)),
          .setR 53 (.con .none),
          .setR 54 (.cell (.o 11) 1),
          .setR 55 (.ai .sub .i64 (.r 52) (.r 54)),
          .chk (.idx (.o 7) (.r 50)),
          .setR 56 (.r 50),
          .setO 7 (.setn (.o 7) (.r 56) 0 (.r 55))])
        .skip))))
    (.is [.setR 57 (.ai .add .i64 (.r 29) (.con (.int 1))),
      .setR 29 (.r 57)]))))
def ah5:PC:=.block 2 [29,30] [7] (.loop [29] [7] Zd)
def Ze:PC:=
 (.seq
  (.is [.setR 18 (.ci .lss (.r 17) (.r 16))])
  (.seq
   (.ite (.r 18) [] []
    .skip
    (.exit 0))
   (.seq
    (.block 1 [8,9,19,20,21,22,23,24,25,26,27,28,29,30] [9,7]
     (.seq
      (.is [.setR 19 (.r 17),
        .chk (.idx (.r 15) (.r 17)),
        .setR 20 (.ref (.nth (.r 15) (.r 17))),
        .setR 21 (.deref (.r 20)),
        .setO 9 (.con (.agg [(.int 0),(.int 0),(.int 0)])),
        .setR 9 (.con .none),
        .setR 8 (.r 19),
        .setO 9 (.setc (.o 9) 0 (.r 21))])
      (.seq
       (.is [.setR 22 (.r 7),
         .setR 23 (.r 8),
         .setR 24 (.con .none),
         .setR 25 (.cell (.o 9) 2),
         .chk (.idx (.o 7) (.r 23)),
         .setR 26 (.r 23),
         .setO 7 (.setn (.o 7) (.r 26) 0 (.r 25))])
       (.seq
        (.is [.setR 27 (.r 2),
          .setR 28 (.llen (.r 27)),
          .setR 29 (.con (.int 0))])
        ah5))))
    (.is [.setR 58 (.ai .add .i64 (.r 17) (.con (.int 1))),
      .setR 17 (.r 58)]))))
def ah6:PC:=.block 0 [17,18] [7] (.loop [17] [7] Ze)
def I3:PC:=
 (.seq
  (.is [.setR 6 (.con (.list []))])
  (.seq
   (.is [.setR 12 (.r 0),
     .setR 13 (.llen (.r 12)),
     .chk (.an (.ci .geq (.r 13) (.con (.int 0))) (.ci .leq (.r 13) (.con (.int 4294967296)))),
     .chk (.ci .eql (.r 13) (.r 13)),
     .setO 14 (.rep (.r 13) (.con (.int 0))),
     .setR 14 (.con .none),
     .setR 7 (.r 14),
     .setO 7 (.o 14)])
   (.seq
    (.seq
     (.is [.setR 15 (.r 0),
       .setR 16 (.llen (.r 15)),
       .setR 17 (.con (.int 0))])
     ah6)
    (.seq
     (.is [.setR 59 (.r 7),
       .setR 6 (.o 7)])
     (.ret (.r 6))))))
theorem ajj:vI=some I3:=by kernel_rfl
theorem ajy:tab R3=some I3:=by rw[Xt,←ajj,←Oq]
def Zf:PC:=
 (.seq
  (.seq
   (.is [.setR 11 (.r 5),
     .setR 12 (.r 0),
     .setR 13 (.llen (.r 12)),
     .setR 14 (.ci .lss (.r 11) (.r 13))])
   (.ite (.r 14) [] []
    .skip
    (.exit 0)))
  (.seq
   (.block 1 [4,17,18,19,20,21,22,23,24,25] []
    (.seq
     (.is [.setR 17 (.r 0),
       .setR 18 (.r 5),
       .chk (.idx (.r 17) (.r 18)),
       .setR 19 (.ref (.nth (.r 17) (.r 18))),
       .setR 20 (.deref (.r 19)),
       .setR 21 (.r 1),
       .setR 22 (.r 5),
       .chk (.idx (.r 21) (.r 22)),
       .setR 23 (.ref (.nth (.r 21) (.r 22))),
       .setR 24 (.deref (.r 23)),
       .setR 25 (.ci .neq (.r 20) (.r 24))])
     (.ite (.r 25) [4] []
      (.seq
       (.is [.setR 4 (.con (.bool false))])
       (.ret (.r 4)))
      .skip)))
   (.is [.setR 15 (.r 5),
     .setR 16 (.ai .add .i64 (.r 15) (.con (.int 1))),
     .setR 5 (.r 16)])))
def ah7:PC:=.block 0 [4,5,11,12,13,14] [] (.loop [4,5] [] Zf)
def I4:PC:=
 (.seq
  (.is [.setR 4 (.con (.bool false))])
  (.seq
   (.seq
    (.is [.setR 6 (.r 0),
      .setR 7 (.llen (.r 6)),
      .setR 8 (.r 1),
      .setR 9 (.llen (.r 8)),
      .setR 10 (.ci .neq (.r 7) (.r 9))])
    (.ite (.r 10) [4] []
     (.seq
      (.is [.setR 4 (.con (.bool false))])
      (.ret (.r 4)))
     .skip))
   (.seq
    (.seq
     (.is [.setR 5 (.con (.int 0))])
     ah7)
    (.seq
     (.is [.setR 4 (.con (.bool true))])
     (.ret (.r 4))))))
theorem ajk:vY=some I4:=by kernel_rfl
theorem ajz:tab Sq=some I4:=by rw[XS,←ajk,←OC]
def Zg:PC:=
 (.seq
  (.is [.setR 13 (.ci .lss (.r 12) (.r 11))])
  (.seq
   (.ite (.r 13) [] []
    .skip
    (.exit 0))
   (.seq
    (.block 1 [7,9,14,15,16,17,18,19,20,21,22,31] [9]
     (.seq
      (.is [.chk (.idx (.r 10) (.r 12)),
        .setR 14 (.ref (.nth (.r 10) (.r 12))),
        .setR 15 (.deref (.r 14)),
        .setO 9 (.con (.agg [(.int 0),(.int 0)])),
        .setR 9 (.con .none),
        .setO 9 (.setc (.o 9) 0 (.r 15))])
      (.seq
       (.is [.setR 16 (.con .none),
         .setR 17 (.cell (.o 9) 0),
         .setR 18 (.r 0),
         .setR 19 (.llen (.r 18)),
         .setR 20 (.ai .sub .i64 (.r 19) (.con (.int 1))),
         .call [] 21 41 [(.r 17),(.con (.int 0)),(.r 20)],
         .setR 22 (.r 21),
         .setR 23 (.r 0),
         .setR 24 (.con .none),
         .setR 25 (.cell (.o 9) 0),
         .chk (.imp [(22,true)] (.idx (.r 23) (.r 25))),
         .setR 26 (.ref (.nth (.r 23) (.r 25))),
         .setR 27 (.ref (.cell (.deref (.r 26)) 0)),
         .setR 28 (.deref (.r 27)),
         .setR 29 (.r 2),
         .setR 30 (.ci .eql (.r 28) (.r 29)),
         .setR 31 (.pick (.r 22) (.r 30) (.con (.bool false)))])
       (.ite (.r 31) [7] []
        (.is [.setR 32 (.r 7),
          .setR 33 (.con .none),
          .setR 34 (.cell (.o 9) 1),
          .setR 35 (.ai .add .i64 (.r 32) (.r 34)),
          .setR 7 (.r 35)])
        .skip))))
    (.is [.setR 36 (.ai .add .i64 (.r 12) (.con (.int 1))),
      .setR 12 (.r 36)]))))
def ah8:PC:=.block 0 [7,12,13] [] (.loop [7,12] [] Zg)
def I5:PC:=
 (.seq
  (.is [.setR 6 (.con (.int 0))])
  (.seq
   (.is [.setR 7 (.con (.int 0))])
   (.seq
    (.seq
     (.is [.setR 10 (.r 1),
       .setR 11 (.llen (.r 10)),
       .setR 12 (.con (.int 0))])
     ah8)
    (.seq
     (.is [.setR 37 (.r 7),
       .setR 6 (.r 37)])
     (.ret (.r 6))))))
theorem ajl:vJ=some I5:=by kernel_rfl
theorem ajA:tab R4=some I5:=by rw[Xu,←ajl,←Ot]
def OZ:List (Nat×PC):=[(4,I8),(12,I1),(13,I2),(17,I6),(41,Ja),(39,I7),(58,Jb),(75,Jc),(76,Jd),(91,Je),(101,I0),(40,I9),(14,I3),(15,I4),(16,I5)]
def GZ:Nat→Option PC:=ab OZ
theorem acv:∀f pc,GZ f=some pc→tab f=some pc∧ext f=none:=
 yH (R:=fun f pc=>tab f=some pc∧ext f=none) (l:=OZ) ⟨⟨lt4,rfl⟩,⟨ajw,rfl⟩,⟨ajx,rfl⟩,⟨ajB,rfl⟩,⟨ajG,rfl⟩,⟨ajD,rfl⟩,⟨ajH,rfl⟩,⟨ajI,rfl⟩,⟨ajJ,rfl⟩,⟨ajK,rfl⟩,⟨ajv,rfl⟩,⟨ajF,rfl⟩,⟨ajy,rfl⟩,⟨ajz,rfl⟩,⟨ajA,rfl⟩,trivial⟩
theorem O0:∀n,Le (cr GZ (fun _=>none) n) (cr tab ext n)
 |0=>fun f ds d h=>by simp[cr] at h
 |n+1=>by
  have ih:=O0 n;intro f ds d h;simp only[cr] at h ⊢;split at h
  case h_2=>cases h
  rename_i pc hp;obtain⟨h1,h2⟩:=acv f pc hp;rw[h1,h2];simp only;split at h
  case h_2=>cases h
  rename_i d' he;rw[PC.ev_mono ih (Nat.le_refl _) he];exact h
theorem WM (n:Nat){f:Nat}{ds:List D}{d:D}(h:cr GZ (fun _=>none) n f ds=some d):au T f ds d:=.of_at acz n (O0 n f ds d h)
end Rm
namespace Rm
open Go Go.Proofs Cx
theorem amS:au T Jx [] (.bool true):=WM 200 (by kernel_rfl)
end Rm
namespace Rm
open Go Go.Proofs Cx
def eN (n:Nat)(p:Nat→Bool):Bool:=(List.range n).all p
theorem NP {n:Nat}{p:Nat→Bool}(h:∀k,k<n→p k=true):eN n p=true:=List.all_eq_true.2 fun k hk=>h k (List.mem_range.1 hk)
theorem W4 {n k:Nat}{p:Nat→Bool}(hk:k<n)(h:p k=false):eN n p=false:=List.all_eq_false.2 ⟨k,List.mem_range.2 hk,by simp[h]⟩
theorem Ai {n:Nat}{p:Nat→Bool}:eN n p=true↔∀k,k<n→p k=true:=⟨fun h k hk=>List.all_eq_true.1 h k (List.mem_range.2 hk),NP⟩
def dQ (n:Nat)(f:Nat→Int):Int:=(((List.range n).map f).find? fun x=>x !=0).getD 0
theorem G7 {n:Nat}{f:Nat→Int}(h:∀k,k<n→f k=0):dQ n f=0:=by
 unfold dQ;rw[List.find?_eq_none.2]
 ·rfl
 ·intro x hx;obtain⟨k,hk,rfl⟩:=List.mem_map.1 hx;simp[h k (List.mem_range.1 hk)]
theorem G6 {n k:Nat}{f:Nat→Int}(hk:k<n)(hj:∀j,j<k→f j=0)(h:f k≠0):dQ n f=f k:=by
 unfold dQ;have e:List.range n=List.range k++k::(List.range' (k+1) (n-k-1)):=by
  rw[List.range_eq_range',List.range_eq_range',←List.range'_succ];have:=List.range'_append_1 (s:=0) (m:=k) (n:=n-k-1+1);rw[Nat.zero_add] at this;rw[this];congr 1;omega
 rw[e,List.map_append,List.find?_append,List.find?_eq_none.2,Option.none_or,List.map_cons,List.find?_cons_of_pos (by simpa using h)]
 ·rfl
 ·intro x hx;obtain⟨j,oX,rfl⟩:=List.mem_map.1 hx;simp[hj j (List.mem_range.1 oX)]
theorem O9 {n:Nat}{f:Nat→Int}:dQ n f=0↔∀k,k<n→f k=0:=by
 refine⟨fun h k=>?_,G7⟩
 induction k using Nat.strongRecOn with
 |ind k ih=>
  intro hk;refine Classical.byContradiction fun av=>?_;rw[G6 hk (fun j hj=>ih j hj (by omega)) av] at h;exact av h
section
variable {T:cB} {id:Nat} {bf be lr lo:List Nat} {a:PC} {ρ:Env} {Q:Out→Prop}
theorem jC (N:Nat)(p:Nat→Bool)(str dM:Nat→List D)(h0:lr.map ρ.r=str 0∧lo.map ρ.o=dM 0)
 (step:∀k,k<N→p k=true→ax T (round id bf be lr lo a) (ρ.put lr (str k) lo (dM k)) (dz ρ id bf be lr lo (fun vr vo=>vr=str (k+1)∧vo=dM (k+1)) Q))
 (bad:∀k,k<N→p k=false→eN N p=false→ax T (round id bf be lr lo a) (ρ.put lr (str k) lo (dM k)) (dz ρ id bf be lr lo (fun _ _=>False) Q))
 (last:eN N p=true→ax T (round id bf be lr lo a) (ρ.put lr (str N) lo (dM N)) (dz ρ id bf be lr lo (fun _ _=>False) Q)):aU T (.block id bf be (.loop lr lo a)) ρ Q:=
 .scan N (fun k=>p k=true) str dM h0 (fun k hk _ h=>step k hk h) (fun k hk _ h=>bad k hk (by simpa using h) (W4 hk (by simpa using h))) (fun h=>last (NP h))
theorem sr (N:Nat)(f:Nat→Int)(str dM:Nat→List D)(h0:lr.map ρ.r=str 0∧lo.map ρ.o=dM 0)
 (step:∀k,k<N→f k=0→ax T (round id bf be lr lo a) (ρ.put lr (str k) lo (dM k)) (dz ρ id bf be lr lo (fun vr vo=>vr=str (k+1)∧vo=dM (k+1)) Q))
 (bad:∀k,k<N→f k≠0→dQ N f=f k→ax T (round id bf be lr lo a) (ρ.put lr (str k) lo (dM k)) (dz ρ id bf be lr lo (fun _ _=>False) Q))
 (last:dQ N f=0→ax T (round id bf be lr lo a) (ρ.put lr (str N) lo (dM N)) (dz ρ id bf be lr lo (fun _ _=>False) Q)):aU T (.block id bf be (.loop lr lo a)) ρ Q:=
 .scan N (fun k=>f k=0) str dM h0 (fun k hk _ h=>step k hk h) (fun k hk hj h=>bad k hk h (G6 hk hj h)) (fun h=>last (G7 h))
end
theorem bM {k n:Nat}(h:k<n)(hn:n≤4294967296):IntKind.i64.wrap ((k:Int)+1)=(k:Int)+1:=cd (by omega)
theorem Ws {k:Nat}(hn:k≤4294967296):IntKind.i64.wrap ((k:Int)-1)=(k:Int)-1:=cd (by omega)
def aC (i n:Int):Bool:=decide (0≤i)&&decide (i<n)
def wi (n a b:Int):Bool:=decide (a≤n)&&decide (n≤b)
theorem ec (i n:Int):au T SF [.int i,.int n] (.bool (aC i n)):=by
 refine .of_tree rfl X8 aol ?_;simp[MF,aC];by_cases h:0≤i<;>simp[h]
theorem l0 (i n:Int):au T SS [.int i,.int n] (.bool (aC i n)):=by
 refine .of_tree rfl Yl aoy ?_;simp[MS,aC];by_cases h:0≤i<;>simp[h]
theorem idx_eq {α:Type}[DecidableEq α]{l:List α}{x z:α}{k:Nat}(hk:k<l.length)(hj:∀j,j<k→l.getD j z≠x)(h:¬l.getD k z≠x):x∈l∧l.findIdx (fun y=>decide (y=x))=k:=by
 have e:l[k]=x:=by simpa [hk] using h
 refine⟨e▸List.getElem_mem hk,(List.findIdx_eq hk).2 ⟨by simp[e],fun j oW=>?_⟩⟩;have ei:j<l.length:=by omega
 simpa [ei] using hj j oW
theorem QS {α:Type}[DecidableEq α]{l:List α}{x z:α}(hj:∀j,j<l.length→l.getD j z≠x):¬x∈l:=fun hm=>by
 obtain⟨j,ei,rfl⟩:=List.getElem_of_mem hm;have:=hj j ei;simp[ei] at this
def pw {α:Type}[DecidableEq α](l:List α)(x:α):Int:=if x∈l then(l.findIdx (fun y=>decide (y=x)):Nat) else-1
def hasB {α:Type}[DecidableEq α](l:List α)(x:α):Bool:=l.any fun y=>decide (y=x)
theorem PN {α:Type}[DecidableEq α]{l:List α}{x:α}:hasB l x=true↔x∈l:=by simp[hasB]
theorem afk {α:Type}[DecidableEq α]{l:List α}{x:α}:hasB l x=false↔¬x∈l:=by rw[←PN];simp
theorem QR {α:Type}[DecidableEq α](l:List α)(x:α):decide (0≤pw l x)=hasB l x:=by
 unfold pw;by_cases h:x∈l
 ·rw[PN.2 h];simp[h]
 ·rw[afk.2 h];simp[h]
@[simp] theorem asb (a b:ByteArray):qH .eql a b=decide (a=b):=by
  simp only[qH,ByteArray.toList_eq];by_cases h:a=b
  ·subst h;simp
  ·rw[decide_eq_false h,beq_eq_false_iff_ne];intro e;have:a.data=b.data:=by rw[←Array.toList_inj];exact e
   exact h (by cases a;cases b;cases this;rfl)
@[simp] theorem avv (a:ByteArray):(str a).s=a:=_root_.id rfl
theorem WG (l:List Int)(x:Int)(hl:l.length≤4294967296):au T S6 [ints l,.int x] (.int (pw l x)):=by
 refine .of_tree rfl Yu aoH ?_;simp[M1];refine .scan l.length (fun k=>l.getD k 0≠x) (fun k=>[.int 0,.int k]) (fun _=>[]) ?_ (fun k hk hj ho=>?_) (fun k hk hj ho=>?_) (fun hj=>?_)
 ·simp
 ·have hw:=bM hk hl;simp[hk] at ho;have db:¬x=l[k]:=fun e=>ho e.symm;simp[Lr,zC,hk,hw,ints,ho,db]
 ·obtain⟨hm,he⟩:=idx_eq hk hj ho;simp[hk] at ho;simp[Lr,zC,hk,ints,ho,pw,hm,he]
 ·have:=QS hj;simp[Lr,zC,pw,this,ints]
theorem Ae (l:List Int)(x:Int)(hl:l.length≤4294967296):au T SX [ints l,.int x] (.bool (hasB l x)):=by
 refine .of_tree rfl Yp aoC ?_;simp[MW];refine⟨_,WG l x hl,?_⟩;have:=QR l x;simp at this ⊢;exact this
theorem WH (l:List ByteArray)(x:ByteArray)(hl:l.length≤4294967296):au T S7 [strs l,str x] (.int (pw l x)):=by
 refine .of_tree rfl Yv aoI ?_;simp[M2];refine .scan l.length (fun k=>l.getD k default≠x) (fun k=>[.int 0,.int k]) (fun _=>[]) ?_ (fun k hk hj ho=>?_) (fun k hk hj ho=>?_) (fun hj=>?_)
 ·simp
 ·have hw:=bM hk hl;simp[hk] at ho;have db:¬x=l[k]:=fun e=>ho e.symm;simp[Ls,zD,hk,hw,strs,ho,db]
 ·obtain⟨hm,he⟩:=idx_eq hk hj ho;simp[hk] at ho;simp[Ls,zD,hk,strs,ho,pw,hm,he]
 ·have:=QS hj;simp[Ls,zD,pw,this,strs]
theorem WA (l:List ByteArray)(x:ByteArray)(hl:l.length≤4294967296):au T SY [strs l,str x] (.bool (hasB l x)):=by
 refine .of_tree rfl Yq aoD ?_;simp[MX];refine⟨_,WH l x hl,?_⟩;have:=QR l x;simp at this ⊢;exact this
def Fo (l:List Int)(a b:Int)(k:Nat):Bool:=wi (l.getD k 0) a b&&(k==0||decide (l.getD (k-1) 0<l.getD k 0))
def rising (l:List Int)(a b:Int):Bool:=eN l.length (Fo l a b)
theorem zI (l:List Int)(a b:Int)(hl:l.length≤4294967296):au T SL [ints l,.int a,.int b] (.bool (rising l a b)):=by
 refine .of_tree rfl Ye aor ?_;simp[ML];refine jC l.length (Fo l a b) (fun k=>[.bool false,.int k]) (fun _=>[]) ?_ (fun k hk ho=>?_) (fun k hk ho hb=>?_) (fun hj=>?_)
 ·simp
 ·have hw:=bM hk hl;simp[Fo,wi,hk] at ho;obtain⟨⟨h1,h2⟩,h3⟩:=ho;have cE:¬l[k]<a:=by omega
  have jQ:¬b<l[k]:=by omega
  by_cases tA:0<k
  ·have bV:k-1<l.length:=by omega
   have ej:IntKind.i64.wrap ((k:Int)-1)=((k-1:Nat):Int):=by rw[Ws (by omega)];omega
   have iN:¬l[k]≤l[k-1]:=by
        rcases h3 with h3|h3
        ·omega
        ·simp[bV] at h3;omega
   simp[uN,p6,hk,hw,ej,ints,cE,jQ,iN,tA,bV]
  ·simp[uN,p6,hk,hw,ints,cE,jQ,tA]
 ·have hf:rising l a b=false:=hb;simp[Fo,wi,hk] at ho;by_cases h1:l[k]<a
  ·simp[uN,p6,hk,ints,h1,hf]
  by_cases h2:b<l[k]
  ·simp[uN,p6,hk,ints,h1,h2,hf]
  have h3:=ho (by omega) (by omega);have tA:0<k:=by omega
  have bV:k-1<l.length:=by omega
  have ej:IntKind.i64.wrap ((k:Int)-1)=((k-1:Nat):Int):=by rw[Ws (by omega)];omega
  have iN:=h3.2;simp[bV] at iN;simp[uN,p6,hk,ej,ints,h1,h2,iN,tA,bV,hf]
 ·have hf:rising l a b=true:=hj;simp[uN,p6,hf]
def Jf (c:Int):Bool:=wi c 97 122||wi c 65 90
def C0 (i:Nat)(c:Int):Bool:=Jf c||(i !=0&&(decide (c=95)||wi c 48 57))
def Aq (s:ByteArray)(k:Nat):Int:=((s.data.toList.getD k 0).toNat:Nat)
def mM (s:ByteArray):Bool:=decide (1≤s.size)&&decide (s.size≤20)&&eN s.size (fun k=>C0 k (Aq s k))
theorem N8 {s:ByteArray}{k:Nat}(h:k<s.data.size):(s.data[k].toNat:Int)=Aq s k:=by
 unfold Aq;rw[List.getD_eq_getElem?_getD,List.getElem?_eq_getElem (by simpa using h)];rfl
theorem V6 {s:ByteArray}:s=⟨#[]⟩↔s.size=0:=by
 constructor
 ·rintro rfl;rfl
 ·intro h;cases s with|mk d=>congr;exact Array.eq_empty_of_size_eq_zero h
theorem amp (s:ByteArray):au T SG [str s] (.bool (mM s)):=by
 refine .of_tree rfl X9 aom ?_;simp[MG];by_cases h0:s=⟨#[]⟩
 ·have hn:mM s=false:=by simp[mM,V6.1 h0]
  rw[hn];simp[h0]
 by_cases h1:(20:Int)<s.size
 ·have cE:¬s.size≤20:=by omega
  simp[h0,h1,mM,cE]
 have hz:1≤s.size:=by
  have:s.size≠0:=fun e=>h0 (V6.2 e);omega
 have cE:s.size≤20:=by omega
 simp[h0,h1];refine⟨by omega,jC s.size (fun k=>C0 k (Aq s k)) (fun k=>[.bool false,.int k]) (fun _=>[]) ?_ (fun k hk ho=>?_) (fun k hk ho hb=>?_) (fun hj=>?_)⟩
 ·simp
 ·have hw:=bM hk (by omega);have bB:k<s.data.size:=hk;have hg:=N8 bB;simp[C0,Jf,wi] at ho;simp[La,zn,hk,bB,hw,hg];omega
 ·have bB:k<s.data.size:=hk;have hg:=N8 bB;have hn:mM s=false:=by simp[mM,hb]
  simp[C0,Jf,wi] at ho;simp[La,zn,hk,bB,hg,hn];omega
 ·have hn:mM s=true:=by simp[mM,hj,hz,cE]
  have hd:s.data.size=s.size:=rfl;simp[La,zn,hn,hd]
end Rm
namespace Rm
open Go Go.Proofs Cx
def pE (l:List ByteArray)(i:Nat):Int:=if mM (l.getD i default)=false then 2 else if hasB (l.take i) (l.getD i default) then 5 else 0
theorem VD (l:List ByteArray)(i:Nat)(hi:i<l.length)(hl:l.length≤4294967296):au T SH [strs l,.int i] (.int (pE l i)):=by
 refine .of_tree rfl Ya aon ?_;simp[MH,hi];refine⟨_,by simpa [strs,hi] using amp l[i],?_⟩;unfold pE;rw[List.getD_eq_getElem?_getD,List.getElem?_eq_getElem hi,Option.getD_some];cases h1:mM l[i]<;>simp[h1];refine⟨by omega,_,by simpa [strs,hi] using WA (l.take i) l[i] (by rw[List.length_take];omega),?_⟩;cases h2:hasB (l.take i) l[i]<;>simp[h2]
def qN (l:List ByteArray)(g:Nat→Bool)(i:Nat):Int:=if pE l i≠0 then pE l i else if g i then 0 else 1
def kl (l:List ByteArray)(yJ:Int)(g:Nat→Bool):Int:=if yJ<l.length then 6 else dQ l.length (qN l g)
theorem Fj (l:List ByteArray)(yJ:Int)(f:Nat)(caps:List D)(g:Nat→Bool)(hg:∀i:Nat,i<l.length→au T f (.int i::caps) (.bool (g i)))(hl:l.length≤4294967296):
 au T SD [strs l,.int yJ,.clo f caps] (.int (kl l yJ g)):=by
 refine .of_tree rfl X7 aok ?_;simp[ME,kl];by_cases h0:yJ<l.length
 ·simp[h0];intro h;omega
 simp[h0];refine sr l.length (qN l g) (fun k=>[.int 0,.int k]) (fun _=>[]) ?_ (fun k hk ho=>?_) (fun k hk ho hb=>?_) (fun hj=>?_)
 ·simp
 ·have hw:=bM hk hl;have h1:pE l k=0:=by
   refine Classical.byContradiction fun h=>?_;unfold qN at ho;rw[if_pos h] at ho;exact h ho
  have h2:g k=true:=by
   unfold qN at ho;rw[if_neg (by simpa using h1)] at ho;cases h:g k with
   |true=>rfl
   |false=>rw[h] at ho;simp at ho
  simp[K9,zm,hk,hw];refine⟨_,VD l k hk hl,?_⟩;simp[h1];refine⟨_,_,⟨rfl,rfl⟩,_,hg k hk,?_⟩;simp[h2,hw]
 ·simp[K9,zm,hk,hb];refine⟨_,VD l k hk hl,?_⟩;unfold qN at ho ⊢;by_cases h1:pE l k=0
  ·simp[h1] at ho ⊢;refine⟨_,_,⟨rfl,rfl⟩,_,hg k hk,?_⟩;simp[ho]
  ·simp[h1]
 ·simp[K9,zm,hj]
def mi (r:Realm)(c:City):Bool:=eN c.feasts.length (fun k=>wi ((c.feasts.getD k 0).tmod 100) 1 31)&&(decide (c.feasts.length≤60)&&decide (c.shut.length≤200)&&aC c.order r.orders.length&&aC c.currency r.currencies.length)&&
 (rising c.rest 0 6&&rising c.feasts 101 1231&&rising c.shut 0 100000)
theorem amn (r:Realm)(c:City)(h1:c.rest.length≤4294967296)(h2:c.feasts.length≤4294967296)(h3:c.shut.length≤4294967296):au T SC [bH r,jO c] (.bool (mi r c)):=by
 refine .of_tree rfl X6 aoj ?_;simp[MD];refine jC c.feasts.length (fun k=>wi ((c.feasts.getD k 0).tmod 100) 1 31) (fun k=>[.bool false,.int k]) (fun _=>[]) ?_ (fun k hk ho=>?_) (fun k hk ho hb=>?_) (fun hj=>?_)
 ·simp
 ·have hw:=bM hk h2;simp[wi,hk] at ho;have g1:¬(c.feasts[k].tmod 100<1):=by omega
  have g2:¬(31<c.feasts[k].tmod 100):=by omega
  simp[K8,zl,hk,hw,ints,g1,g2]
 ·have hf:mi r c=false:=by simp only[mi,hb,Bool.false_and]
  simp[wi,hk] at ho;simp[K8,zl,hk,ints,hf];by_cases g1:c.feasts[k].tmod 100<1
  ·simp[g1]
  ·have g2:=ho (by omega);simp[g1,g2]
 ·simp[K8,zl];by_cases g1:(c.feasts.length:Int)≤60
  case neg=>
   have hf:mi r c=false:=by
        have ga:decide (c.feasts.length≤60)=false:=decide_eq_false (by omega);simp only[mi,ga,Bool.false_and,Bool.and_false]
   have ga:(60:Int)<c.feasts.length:=by omega
   simp[g1,ga,hf]
  by_cases g2:(c.shut.length:Int)≤200
  case neg=>
   have hf:mi r c=false:=by
        have ga:decide (c.shut.length≤200)=false:=decide_eq_false (by omega);simp only[mi,ga,Bool.false_and,Bool.and_false]
   have oP:(200:Int)<c.shut.length:=by omega
   simp[g1,g2,oP,hf]
  have ga:¬(60:Int)<c.feasts.length:=by omega
  have oP:¬(200:Int)<c.shut.length:=by omega
  have hf:mi r c=(aC c.order r.orders.length&&aC c.currency r.currencies.length&&(rising c.rest 0 6&&rising c.feasts 101 1231&&rising c.shut 0 100000)):=by
   have e1:decide (c.feasts.length≤60)=true:=decide_eq_true (by omega);have e2:decide (c.shut.length≤200)=true:=decide_eq_true (by omega);simp only[mi,hj,e1,e2,Bool.true_and]
  rw[hf];simp[g1,g2,ga,oP];refine⟨_,ec _ _,?_⟩;simp;cases e1:aC c.order r.orders.length<;>simp;refine⟨_,ec _ _,?_⟩;simp;cases e2:aC c.currency r.currencies.length<;>simp;refine⟨_,zI _ _ _ h1,?_⟩;simp;cases e3:rising c.rest 0 6<;>simp;refine⟨_,zI _ _ _ h2,?_⟩;simp;cases e4:rising c.feasts 101 1231<;>simp;exact zI _ _ _ h3
end Rm
namespace Rm
open Go Go.Proofs Cx
theorem uZ {α β:Type}(f:α→β){l:List α}{k:Nat}(h:k<l.length):(l.take (k+1)).map f=(l.take k).map f++[f l[k]]:=by
 rw[List.take_succ_eq_append_getElem h,List.map_append];rfl
theorem tQ (i:Int)(n:Nat):aC i n=wi i 0 ((n:Int)-1):=by
 rw[Bool.eq_iff_iff];simp[wi,aC];omega
def vj (o:Order):List Int:=o.choices.map (·.ask)
def Al (o:Order):List Int:=o.rules.map (·.ask)
def pJ (o:Order):Bool:=eN o.choices.length (fun k=>aC (o.choices.getD k default).by_ 5)&&(rising (vj o) 0 21&&rising (Al o) 0 21)
theorem amr (o:Order)(h1:o.choices.length≤100000)(h2:o.rules.length≤100000):au T SJ [gQ o] (.bool (pJ o)):=by
 refine .of_tree rfl Yc aop ?_;simp[MJ];refine jC o.choices.length (fun k=>aC (o.choices.getD k default).by_ 5) (fun k=>[.bool false,.none,.int k]) (fun k=>[ints ((o.choices.take k).map (·.ask))]) ?_ (fun k hk ho=>?_) (fun k hk ho hb=>?_) (fun hj=>?_)
 ·simp[ints]
 ·have hw:=bM hk (by omega);have hl:(o.choices.take k).length=k:=by rw[List.length_take];omega
  simp[hk] at ho;rw[uZ _ hk];simp[Lb,zo,hk,hw,ints,hl];refine⟨by omega,_,ec _ _,?_⟩;simp[ho,hw]
 ·have hf:pJ o=false:=by simp only[pJ,hb,Bool.false_and]
  have hl:(o.choices.take k).length=k:=by rw[List.length_take];omega
  simp[hk] at ho;simp[Lb,zo,hk,ints,hl,hf];refine⟨by omega,_,ec _ _,?_⟩;simp[ho]
 ·have hf:pJ o=(rising (vj o) 0 21&&rising (Al o) 0 21):=by simp only[pJ,hj,Bool.true_and]
  rw[hf];simp[Lb,zo];refine aU.forRounds o.rules.length (fun k=>[.none,.int k]) (fun k=>[ints ((o.rules.take k).map (·.ask))]) ?_ (fun k hk=>?_) ?_
  ·simp[ints]
  ·have hw:=bM hk (by omega);have hl:(o.rules.take k).length=k:=by rw[List.length_take];omega
   rw[uZ _ hk];simp[Vw,Ff,hk,hw,ints,hl];omega
  ·simp[Vw,Ff];refine⟨_,zI (vj o) _ _ (by simp[vj];omega),?_⟩;simp;cases e1:rising (vj o) 0 21<;>simp;exact zI (Al o) _ _ (by simp[Al];omega)
def rL (r:Realm):List ByteArray:=r.cities.map (·.name)
def rM (r:Realm):List ByteArray:=r.firms.map (·.name)
def nU (r:Realm):List ByteArray:=r.orders.map (·.name)
theorem amq (r:Realm)(h1:r.cities.length≤100000)(h2:r.firms.length≤100000)(h3:r.orders.length≤100000):au T SI [bH r] (.tup [strs (rL r),strs (rM r),strs (nU r)]):=by
 refine .of_tree rfl Yb aoo ?_;simp[MI];refine aU.forRounds r.cities.length (fun k=>[.none,.int k]) (fun k=>[strs ((r.cities.take k).map (·.name))]) ?_ (fun k hk=>?_) ?_
 ·simp[strs]
 ·have hw:=bM hk (by omega);have hl:(r.cities.take k).length=k:=by rw[List.length_take];omega
  rw[uZ _ hk];simp[Vt,Fb,hk,hw,strs,hl];omega
 ·simp[Vt,Fb];refine aU.forRounds r.firms.length (fun k=>[.none,.int k]) (fun k=>[strs ((r.firms.take k).map (·.name))]) ?_ (fun k hk=>?_) ?_
  ·simp[strs]
  ·have hw:=bM hk (by omega);have hl:(r.firms.take k).length=k:=by rw[List.length_take];omega
   rw[uZ _ hk];simp[Vu,Fc,hk,hw,strs,hl];omega
  ·simp[Vu,Fc];refine aU.forRounds r.orders.length (fun k=>[.none,.int k]) (fun k=>[strs ((r.orders.take k).map (·.name))]) ?_ (fun k hk=>?_) ?_
   ·simp[strs]
   ·have hw:=bM hk (by omega);have hl:(r.orders.take k).length=k:=by rw[List.length_take];omega
    rw[uZ _ hk];simp[Vv,Fe,hk,hw,strs,hl];omega
   ·simp[Vv,Fe,rL,rM,nU]
end Rm
namespace Rm
open Go Go.Proofs Cx
structure Small (r:Realm):Prop where
 cur:r.currencies.length≤1000
 cities:r.cities.length≤1000
 groups:r.groups.length≤1000
 firms:r.firms.length≤1000
 orders:r.orders.length≤1000
 us:r.usances.length≤1000
 rates:r.rates.length≤1000
 halts:r.halts.length≤1000
 city:∀c,c∈r.cities→c.rest.length≤1000∧c.feasts.length≤1000∧c.shut.length≤1000∧∀y,y∈c.feasts→aR y
 order:∀o,o∈r.orders→o.choices.length≤1000∧o.rules.length≤1000
 rate:∀x,x∈r.rates→aR x.num∧aR x.den
def qs (r:Realm)(k j:Nat):Bool:=(r.usances.getD j default).fr !=(r.usances.getD k default).fr||(r.usances.getD j default).to !=(r.usances.getD k default).to
def FK (r:Realm)(k:Nat):Int:=
 if(aC (r.usances.getD k default).fr r.cities.length&&aC (r.usances.getD k default).to r.cities.length&&wi (r.usances.getD k default).days 1 20000)=false then 1 else if eN k (qs r k) then 0 else 5
def FL (r:Realm):Int:=if 100<r.usances.length then 6 else dQ r.usances.length (FK r)
theorem amt (r:Realm)(h:Small r):au T SM [bH r] (.int (FL r)):=by
 refine .of_tree rfl Yf aos ?_;have hu:=h.us;simp[MM,FL];by_cases h0:100<r.usances.length
 ·have gT:(100:Int)<r.usances.length:=by omega
  have Hg:¬r.usances.length≤100:=by omega
  simp[h0,gT,Hg]
 have gT:¬(100:Int)<r.usances.length:=by omega
 simp[h0,gT];refine sr r.usances.length (FK r) (fun k=>[.int 0,.int k]) (fun _=>[]) ?_ (fun k hk ho=>?_) (fun k hk ho hb=>?_) (fun hj=>?_)
 ·simp
 ·have hw:=bM hk (by omega);have ha:aC r.usances[k].fr r.cities.length=true∧aC r.usances[k].to r.cities.length=true∧wi r.usances[k].days 1 20000=true∧eN k (qs r k)=true:=by
   unfold FK at ho;simp only[List.getD_eq_getElem?_getD,List.getElem?_eq_getElem hk,Option.getD_some] at ho;cases e1:aC r.usances[k].fr r.cities.length<;>cases e2:aC r.usances[k].to r.cities.length<;>cases e3:wi r.usances[k].days 1 20000<;>cases e4:eN k (qs r k)<;>simp[e1,e2,e3,e4] at ho ⊢
  obtain⟨a1,a2,a3,a4⟩:=ha;simp[wi] at a3;have a5:¬r.usances[k].days<1:=by omega
  have a6:¬20000<r.usances[k].days:=by omega
  simp[Lf,zr,hk];refine⟨_,ec _ _,?_⟩;simp[a1];refine⟨_,ec _ _,?_⟩;simp[a2,a5,a6];refine⟨by omega,jC k (qs r k) (fun j=>[.int 0,.int j]) (fun _=>[]) ?_ (fun j hj gz=>?_) (fun j hj gz dq=>?_) (fun q6=>?_)⟩
  ·simp
  ·have IG:=bM hj (by omega);have cL:j<r.usances.length:=by omega
   have hm:j<min k r.usances.length:=by omega
   simp[qs,cL,hk] at gz;simp[Fg,uO,hj,cL,hk,IG,hm];intro e e';rcases gz with h|h
   ·exact absurd e h
   ·exact absurd e' h
  ·rw[a4] at dq;cases dq
  ·simp[Fg,uO,hw];omega
 ·simp[Lf,zr,hk,hb];refine⟨_,ec _ _,?_⟩;unfold FK at ho ⊢;simp only[List.getD_eq_getElem?_getD,List.getElem?_eq_getElem hk,Option.getD_some] at ho ⊢;cases e1:aC r.usances[k].fr r.cities.length
  ·simp
  simp;refine⟨_,ec _ _,?_⟩;cases e2:aC r.usances[k].to r.cities.length
  ·simp
  cases e3:wi r.usances[k].days 1 20000
  ·simp[wi] at e3;by_cases g:r.usances[k].days<1
   ·simp[g]
   ·simp[g,e3 (by omega)]
  have GM:=e3;simp[wi] at GM;have a5:¬r.usances[k].days<1:=by omega
  have a6:¬20000<r.usances[k].days:=by omega
  simp[e1,e2,e3] at ho;simp[a5,a6];refine⟨by omega,jC k (qs r k) (fun j=>[.int 0,.int j]) (fun _=>[]) ?_ (fun j hj gz=>?_) (fun j hj gz dq=>?_) (fun q6=>?_)⟩
  ·simp
  ·have IG:=bM hj (by omega);have cL:j<r.usances.length:=by omega
   have hm:j<min k r.usances.length:=by omega
   simp[qs,cL,hk] at gz;simp[Fg,uO,hj,cL,hk,IG,hm];intro e e';rcases gz with h|h
   ·exact absurd e h
   ·exact absurd e' h
  ·have cL:j<r.usances.length:=by omega
   have hm:j<min k r.usances.length:=by omega
   simp[qs,cL,hk] at gz;simp[Fg,uO,hj,cL,hk,ho,hm]
   first|exact gz|simp[gz]
  ·rw[q6] at ho;cases ho
 ·simp[Lf,zr,hj]
def E4 (r:Realm)(k:Nat):Bool:=aC (r.rates.getD k default).fr r.currencies.length&&aC (r.rates.getD k default).to r.currencies.length&&((r.rates.getD k default).fr !=(r.rates.getD k default).to)&&
 wi (r.rates.getD k default).num 1 1073741824&&wi (r.rates.getD k default).den 1 1073741824&&wi (r.rates.getD k default).since 0 100000
def xz (r:Realm)(k:Nat):Bool:=aC (r.halts.getD k default).order r.orders.length&&wi (r.halts.getD k default).fr 0 (r.halts.getD k default).to&&decide ((r.halts.getD k default).to≤100000)
def p9 (r:Realm):Int:=if 100<r.rates.length then 6 else if eN r.rates.length (E4 r)=false then 1 else if 20<r.halts.length then 6 else if eN r.halts.length (xz r) then 0 else 1
theorem Cy {n:Int}(h:aR n)(m:Int)(hm:0≤m∧m≤4294967296):aC (IntKind.i64.wrap (n-1)) m=wi n 1 m:=by
 unfold aR at h;by_cases e:n=-9223372036854775808
 ·subst e;have:IntKind.i64.wrap (-9223372036854775808-1)=9223372036854775807:=by decide
  rw[this,Bool.eq_iff_iff];simp[aC,wi];omega
 ·rw[cd (by omega),Bool.eq_iff_iff];simp[aC,wi];omega
theorem QW (n:Int):aC n 100001=wi n 0 100000:=by rw[Bool.eq_iff_iff];simp[aC,wi];omega
theorem ams (r:Realm)(h:Small r):au T SK [bH r] (.int (p9 r)):=by
 refine .of_tree rfl Yd aoq ?_;have hu:=h.rates;have hh:=h.halts;simp[MK,p9];by_cases h0:100<r.rates.length
 ·have gT:(100:Int)<r.rates.length:=by omega
  have Hg:¬r.rates.length≤100:=by omega
  simp[h0,gT,Hg]
 have gT:¬(100:Int)<r.rates.length:=by omega
 simp[h0,gT];have key:∀k (hk:k<r.rates.length),∀{ρ:Env} {Q:Out→Prop},True:=fun _ _ _ _=>trivial;refine jC r.rates.length (E4 r) (fun k=>[.int 0,.int k]) (fun _=>[]) ?_ (fun k hk ho=>?_) (fun k hk ho hb=>?_) (fun hj=>?_)
 ·simp
 ·have hw:=bM hk (by omega);have hI:=h.rate _ (List.getElem_mem hk);simp[E4,hk] at ho;obtain⟨⟨⟨⟨⟨a1,a2⟩,a3⟩,a4⟩,a5⟩,a6⟩:=ho;simp[Lc,zp,hk];refine⟨_,ec _ _,?_⟩;simp[a1];refine⟨_,ec _ _,?_⟩;simp[a2,a3];refine⟨_,ec _ _,?_⟩;simp[Cy hI.1,a4];refine⟨_,ec _ _,?_⟩;simp[Cy hI.2,a5];refine⟨_,ec _ _,?_⟩;simp[QW,a6,hw]
 ·have hI:=h.rate _ (List.getElem_mem hk);rw[hb];simp[E4,hk] at ho;simp[Lc,zp,hk];refine⟨_,ec _ _,?_⟩;cases e1:aC r.rates[k].fr r.currencies.length
  ·simp
  simp;refine⟨_,ec _ _,?_⟩;cases e2:aC r.rates[k].to r.currencies.length
  ·simp
  by_cases e3:r.rates[k].fr=r.rates[k].to
  ·simp[e3]
  simp[e3];refine⟨_,ec _ _,?_⟩;rw[Cy hI.1 _ (by omega)];cases e4:wi r.rates[k].num 1 1073741824
  ·simp
  simp;refine⟨_,ec _ _,?_⟩;rw[Cy hI.2 _ (by omega)];cases e5:wi r.rates[k].den 1 1073741824
  ·simp
  simp;refine⟨_,ec _ _,?_⟩;rw[QW];simp[ho e1 e2 e3 e4 e5]
 ·rw[hj];simp[Lc,zp];by_cases h1:20<r.halts.length
  ·have cE:(20:Int)<r.halts.length:=by omega
   have aeS:¬r.halts.length≤20:=by omega
   simp[h1,cE,aeS]
  have cE:¬(20:Int)<r.halts.length:=by omega
  simp[h1,cE];refine jC r.halts.length (xz r) (fun k=>[.int 0,.int k]) (fun _=>[]) ?_ (fun k hk ho=>?_) (fun k hk ho hb=>?_) (fun hj=>?_)
  ·simp
  ·have hw:=bM hk (by omega);simp[xz,wi,hk] at ho;obtain⟨⟨a1,a2⟩,a3⟩:=ho;have b1:¬r.halts[k].fr<0:=by omega
   have b2:¬r.halts[k].to<r.halts[k].fr:=by omega
   have b3:¬100000<r.halts[k].to:=by omega
   simp[Ld,zq,hk];refine⟨_,ec _ _,?_⟩;simp[a1,b1,b2,b3,hw]
  ·rw[hb];simp[xz,wi,hk] at ho;simp[Ld,zq,hk];refine⟨_,ec _ _,?_⟩;cases e1:aC r.halts[k].order r.orders.length
   ·simp
   have:=ho e1;by_cases b1:r.halts[k].fr<0
   ·simp[b1]
   by_cases b2:r.halts[k].to<r.halts[k].fr
   ·simp[b1,b2]
   have b3:100000<r.halts[k].to:=this (by omega) (by omega);simp[b1,b2,b3]
  ·rw[hj];simp[Ld,zq]
end Rm
namespace Rm
open Go Go.Proofs Cx
def j9:List Int→Int
 |[]=>0
 |x::l=>if x=0 then j9 l else x
theorem LM:∀{l:List Int},j9 l=0↔∀x,x∈l→x=0
 |[]=>by simp[j9]
 |x::l=>by
  simp only[j9,List.mem_cons,forall_eq_or_imp];by_cases h:x=0
  ·simp[h,LM (l:=l)]
  ·simp[h]
def xb (r:Realm)(i:Nat):Bool:=aC (r.firms.getD i default).city r.cities.length&&aC (r.firms.getD i default).group r.groups.length
def wI (r:Realm)(i:Nat):Bool:=mi r (r.cities.getD i default)
def rS (r:Realm)(i:Nat):Bool:=pJ (r.orders.getD i default)
def BB (r:Realm)(i:Nat):Bool:=aC (r.groups.getD i default).grade 10
def Hf (r:Realm):Int:=if 20<r.groups.length then 6 else if eN r.groups.length (BB r) then 0 else 1
def ld (r:Realm):Int:=j9 [kl r.currencies 8 (fun _=>true),kl (rL r) 40 (wI r),Hf r,kl (rM r) 200 (xb r),kl (nU r) 20 (rS r),FL r,p9 r]
theorem aa0 (i:Int):au T JA [.int i] (.bool true):=by
 refine .of_tree rfl X0 aoc ?_;simp[Mx]
theorem aa1 (r:Realm)(h:Small r)(i:Nat)(hi:i<r.cities.length):au T JB [.int i,.ref (bH r)] (.bool (wI r i)):=by
 refine .of_tree rfl X1 aod ?_;obtain⟨h1,h2,h3,h4⟩:=h.city _ (List.getElem_mem hi);simp[My,hi,wI];exact amn r r.cities[i] (by omega) (by omega) (by omega)
theorem aa2 (r:Realm)(i:Nat)(hi:i<r.firms.length):au T JC [.int i,.ref (bH r)] (.bool (xb r i)):=by
 refine .of_tree rfl X2 aoe ?_;simp[Mz,hi,xb];refine⟨_,ec _ _,?_⟩;simp[hi];cases e1:aC r.firms[i].city r.cities.length<;>simp;exact ec _ _
theorem aa3 (r:Realm)(h:Small r)(i:Nat)(hi:i<r.orders.length):au T JD [.int i,.ref (bH r)] (.bool (rS r i)):=by
 refine .of_tree rfl X3 aof ?_;obtain⟨h1,h2⟩:=h.order _ (List.getElem_mem hi);simp[MA,hi,rS];exact amr r.orders[i] (by omega) (by omega)
theorem VC (r:Realm)(h:Small r):au T Sz [bH r] (.int (ld r)):=by
 refine .of_tree rfl XZ aog ?_;have g1:=h.cur;have g2:=h.cities;have g3:=h.firms;have g4:=h.orders;have g5:=h.groups;simp[Mw];refine⟨_,amq r (by omega) (by omega) (by omega),?_⟩;simp;refine⟨_,Fj r.currencies 8 JA [] (fun _=>true) (fun i _=>aa0 _) (by omega),?_⟩;unfold ld;generalize e1:kl r.currencies 8 (fun _=>true)=x1;by_cases z1:x1=0
 case neg=>simp[z1,j9]
 simp[z1,j9];refine⟨_,Fj (rL r) 40 JB [.ref (bH r)] (wI r) (fun i hi=>aa1 r h i (by simpa [rL] using hi)) (by simp[rL];omega),?_⟩;generalize e2:kl (rL r) 40 (wI r)=x2;by_cases z2:x2=0
 case neg=>simp[z2]
 simp[z2];by_cases z3:20<r.groups.length
 ·have NC:(20:Int)<r.groups.length:=by omega
  simp[NC,Hf,z3]
 have NC:¬(20:Int)<r.groups.length:=by omega
 simp[NC,Hf,z3];refine jC r.groups.length (BB r) (fun k=>[.int 0,.int k]) (fun _=>[]) ?_ (fun k hk ho=>?_) (fun k hk ho hb=>?_) (fun hj=>?_)
 ·simp
 ·have hw:=bM hk (by omega);simp[BB,hk] at ho;simp[K6,zj,hk];refine⟨_,ec _ _,?_⟩;simp[ho,hw]
 ·simp[BB,hk] at ho;rw[hb];simp[K6,zj,hk];refine⟨_,ec _ _,?_⟩;simp[ho]
 ·rw[hj];simp[K6,zj];refine⟨_,Fj (rM r) 200 JC [.ref (bH r)] (xb r) (fun i hi=>aa2 r i (by simpa [rM] using hi)) (by simp[rM];omega),?_⟩;generalize e4:kl (rM r) 200 (xb r)=x4;by_cases z4:x4=0
  case neg=>simp[z4]
  simp[z4];refine⟨_,Fj (nU r) 20 JD [.ref (bH r)] (rS r) (fun i hi=>aa3 r h i (by simpa [nU] using hi)) (by simp[nU];omega),?_⟩;generalize e5:kl (nU r) 20 (rS r)=x5;by_cases z5:x5=0
  case neg=>simp[z5]
  simp[z5];refine⟨_,amt r h,?_⟩;generalize e6:FL r=x6;by_cases z6:x6=0
  case neg=>simp[z6]
  simp[z6];have e7:(if p9 r=0 then 0 else p9 r)=p9 r:=by split<;>simp_all
  rw[e7];exact ams r h
theorem acL {l:List ByteArray}{g:Nat→Bool}{k:Nat}(h:qN l g k=0):pE l k=0∧g k=true:=by
 unfold qN at h;by_cases h1:pE l k=0
 ·simp[h1] at h;exact⟨h1,h⟩
 ·simp[h1] at h
end Rm
namespace Rm
open Go Go.Proofs Cx
def gq:Nat→Tm→Int→Int
 |0,_,_=>-1
 |L+1,t,n=>t.args.foldl (fun m a=>if 0≤m then gq L a m else m) (n-1)
theorem size_le:∀(L:Nat) (t:Tm) (n:Int),0≤n→-1≤gq L t n∧gq L t n≤n
 |0,t,n,h=>by simp[gq];omega
 |L+1,t,n,h=>by
  have key:∀(l:List Tm) (m:Int),-1≤m→m≤n→-1≤l.foldl (fun m a=>if 0≤m then gq L a m else m) m∧l.foldl (fun m a=>if 0≤m then gq L a m else m) m≤n:=by
   intro l
   induction l with
   |nil=>intro m h1 h2;exact⟨h1,h2⟩
   |cons a l ih=>
    intro m h1 h2;simp only[List.foldl_cons];split
    ·rename_i hm;have:=size_le L a m hm;exact ih _ this.1 (by omega)
    ·exact ih _ h1 h2
  exact key _ _ (by omega) (by omega)
theorem V5 (L:Nat):∀(l:List Tm) (m:Int),m<0→l.foldl (fun m a=>if 0≤m then gq L a m else m) m=m
 |[],m,h=>rfl
 |a::l,m,h=>by simp only[List.foldl_cons];rw[if_neg (by omega)];exact V5 L l m h
theorem aey {α β:Type}(f:β→α→β)(b:β){l:List α}{k:Nat}(h:k<l.length):(l.take (k+1)).foldl f b=f ((l.take k).foldl f b) l[k]:=by
 rw[List.take_succ_eq_append_getElem h,List.foldl_append];rfl
theorem aex {α β:Type}(f:β→α→β)(b:β)(l:List α)(k:Nat):l.foldl f b=(l.drop k).foldl f ((l.take k).foldl f b):=by
 rw[←List.foldl_append,List.take_append_drop]
theorem _root_.Cx.Tm.OK.len {t:Tm}(h:t.OK):t.args.length≤9223372036854775807:=by cases h with|mk o n xs h1 h2 h3 h4=>exact h3
theorem _root_.Cx.Tm.OK.arg {t:Tm}(h:t.OK){a:Tm}(ha:a∈t.args):a.OK:=by cases h with|mk o n xs h1 h2 h3 h4=>exact h4 a ha
theorem Va:∀(L:Nat) (t:Tm) (n:Int),t.OK→0≤n→n≤1000→L≤1000→au T Sv [cS t,.int n,.int L] (.int (gq L t n))
 |0,t,n,ht,h0,h1,hL=>by
  refine .of_tree rfl NY Wi ?_;simp[FF,gq]
 |L+1,t,n,ht,h0,h1,hL=>by
  refine .of_tree rfl NY Wi ?_;have mI:IntKind.i64.wrap (n-1)=n-1:=cd (by omega);have hl:=ht.len;have iP:¬((L:Int)+1<1):=by omega
  simp[FF,mI,iP]
  let g:Nat→Int:=fun k=>(t.args.take k).foldl (fun m a=>if 0≤m then gq L a m else m) (n-1)
  have gb:∀k,-1≤g k∧g k≤1000:=by
   intro k;have:g k=gq (L+1) (.mk 0 0 (t.args.take k)) n:=rfl;have:=size_le (L+1) (.mk 0 0 (t.args.take k)) n h0;omega
  refine .scan t.args.length (fun k=>0≤g k) (fun k=>[.int (g k),.int k]) (fun _=>[]) ?_ (fun k hk hj ho=>?_) (fun k hk hj ho=>?_) (fun hj=>?_)
  ·simp[g,mI]
  ·have hw:IntKind.i64.wrap ((k:Int)+1)=(k:Int)+1:=cd (by omega);have Cu:IntKind.i64.wrap (L:Int)=(L:Int):=cd (by omega);have hg:g (k+1)=gq L t.args[k] (g k):=by
    show(t.args.take (k+1)).foldl _ _=_;rw[aey _ _ hk];show(if 0≤g k then _ else _)=_;rw[if_pos ho]
   rw[hg];have fu:=Va L t.args[k] (g k) (ht.arg (List.getElem_mem hk)) ho (gb k).2 (by omega);generalize g k=m at*;simp[K3,zg,hk,ho,Cu];refine⟨_,fu,?_⟩;simp[hw]
  ·have hf:gq (L+1) t n=g k:=by
    show t.args.foldl _ _=_;rw[aex _ _ _ k];exact V5 L _ _ (by show g k<0;omega)
   rw[hf];generalize g k=m at*;simp[K3,zg,hk,ho]
  ·have hf:gq (L+1) t n=g t.args.length:=by
    show t.args.foldl _ _=(t.args.take t.args.length).foldl _ _;rw[List.take_length]
   rw[hf];generalize g t.args.length=m at*;simp[K3,zg]
theorem U9 (t:Tm)(ht:t.OK):au T Su [cS t] (.bool (decide (0≤gq 20 t 100))):=by
 refine .of_tree rfl XW an9 ?_;simp[Mt];refine⟨_,Va 20 t 100 ht (by omega) (by omega) (by omega),?_⟩;simp
def mq (o:Order):Bool:=(decide (o.rules.length≤60)&&decide (o.choices.length≤60))&&eN o.rules.length (fun k=>decide (0≤gq 20 (o.rules.getD k default).term 100))
theorem Vb (o:Order)(ho:o.OK):au T Sw [gQ o] (.bool (mq o)):=by
 refine .of_tree rfl XX aoa ?_;simp[Mu];by_cases h1:(o.rules.length:Int)≤60
 case neg=>
  have cE:(60:Int)<o.rules.length:=by omega
  have hf:mq o=false:=by
   have:decide (o.rules.length≤60)=false:=decide_eq_false (by omega);simp only[mq,this,Bool.false_and]
  simp[cE,hf]
 by_cases h2:(o.choices.length:Int)≤60
 case neg=>
  have cE:(60:Int)<o.choices.length:=by omega
  have hf:mq o=false:=by
   have:decide (o.choices.length≤60)=false:=decide_eq_false (by omega);simp only[mq,this,Bool.false_and,Bool.and_false]
  simp[cE,hf]
 have cE:¬(60:Int)<o.rules.length:=by omega
 have jQ:¬(60:Int)<o.choices.length:=by omega
 have hf:mq o=eN o.rules.length (fun k=>decide (0≤gq 20 (o.rules.getD k default).term 100)):=by
  have e1:decide (o.rules.length≤60)=true:=decide_eq_true (by omega);have e2:decide (o.choices.length≤60)=true:=decide_eq_true (by omega);simp only[mq,e1,e2,Bool.true_and]
 rw[hf];simp[cE,jQ];have hO:=ho.2.2;refine jC o.rules.length (fun k=>decide (0≤gq 20 (o.rules.getD k default).term 100)) (fun k=>[.bool false,.int k]) (fun _=>[]) ?_ (fun k hk ho=>?_) (fun k hk ho hb=>?_) (fun hj=>?_)
 ·simp
 ·have hw:=bM hk (by omega);simp[hk] at ho;simp[K4,zh,hk];refine⟨_,U9 _ (hO _ (List.getElem_mem hk)).2,?_⟩;simp[ho,hw]
 ·simp only[List.getD_eq_getElem?_getD] at hb;rw[hb];simp[hk] at ho;simp[K4,zh,hk];refine⟨_,U9 _ (hO _ (List.getElem_mem hk)).2,?_⟩;simp[ho]
 ·simp only[List.getD_eq_getElem?_getD] at hj;rw[hj];simp[K4,zh]
def w8 (f:File):Bool:=decide ((f.signs.length:Int)≤50)&&decide ((f.alters.length:Int)≤10)&&decide ((f.acts.length:Int)≤110)&&decide ((f.facts.length:Int)≤220)
theorem alL (f:File):au T Ss [cW f] (.bool (w8 f)):=by
 refine .of_tree rfl XV an8 ?_;simp[Ms,w8];by_cases h1:(f.signs.length:Int)≤50<;>by_cases h2:(f.alters.length:Int)≤10<;>by_cases h3:(f.acts.length:Int)≤110<;>by_cases h4:(f.facts.length:Int)≤220<;>
  simp[h1,h2,h3,h4]
end Rm
namespace Rm
open Go Go.Proofs Cx
def w6 (r:Realm)(k:Nat):Bool:=decide (((r.cities.getD k default).feasts.length:Int)≤70)&&decide (((r.cities.getD k default).shut.length:Int)≤210)&&decide (((r.cities.getD k default).rest.length:Int)≤8)
def w7 (r:Realm)(k:Nat):Bool:=decide (((r.orders.getD k default).choices.length:Int)≤40)&&decide (((r.orders.getD k default).rules.length:Int)≤40)
def Bu (r:Realm):Bool:=decide ((r.currencies.length:Int)<50)&&decide ((r.cities.length:Int)<50)&&decide ((r.groups.length:Int)<50)&&decide ((r.firms.length:Int)<210)&&decide ((r.orders.length:Int)<50)&&decide ((r.usances.length:Int)<110)&&decide ((r.rates.length:Int)<110)&&decide ((r.halts.length:Int)<50)
def ls (r:Realm):Bool:=eN (min r.cities.length 50) (w6 r)&&eN (min r.orders.length 50) (w7 r)&&Bu r
theorem alF (r:Realm)(hr:r.OK):au T Sr [bH r] (.bool (ls r)):=by
 refine .of_tree rfl XT an6 ?_;simp[Mq];refine jC (min r.cities.length 50) (w6 r) (fun k=>[.bool false,.int k]) (fun _=>[]) ?_ (fun k hk ho=>?_) (fun k hk ho hb=>?_) (fun hj=>?_)
 ·simp
 ·have bV:k<r.cities.length:=by omega
  have bW:k<50:=by omega
  have hw:=bM bW (by omega);simp[w6,bV] at ho;obtain⟨⟨a1,a2⟩,a3⟩:=ho;have b1:¬(70:Int)<r.cities[k].feasts.length:=by omega
  have b2:¬(210:Int)<r.cities[k].shut.length:=by omega
  have b3:¬(8:Int)<r.cities[k].rest.length:=by omega
  simp[zf,sl,bV,bW,hw,b1,b2,b3];omega
 ·have bV:k<r.cities.length:=by omega
  have bW:k<50:=by omega
  have hf:ls r=false:=by simp only[ls,hb,Bool.false_and]
  rw[hf];simp[w6,bV] at ho;by_cases b1:(70:Int)<r.cities[k].feasts.length
  ·simp[zf,sl,bV,bW,b1];omega
  by_cases b2:(210:Int)<r.cities[k].shut.length
  ·simp[zf,sl,bV,bW,b1,b2];omega
  have b3:(8:Int)<r.cities[k].rest.length:=by have:=ho (by omega) (by omega);omega
  simp[zf,sl,bV,bW,b1,b2,b3];omega
 ·have hn:¬((min r.cities.length 50:Nat):Int)<r.cities.length∨¬((min r.cities.length 50:Nat):Int)<50:=by omega
  simp[zf,sl];rw[if_neg (by omega)];refine jC (min r.orders.length 50) (w7 r) (fun k=>[.bool false,.int k]) (fun _=>[]) ?_ (fun k hk ho=>?_) (fun k hk ho hb=>?_) (fun xQ=>?_)
  ·simp
  ·have bV:k<r.orders.length:=by omega
   have bW:k<50:=by omega
   have hw:=bM bW (by omega);simp[w7,bV] at ho;obtain⟨a1,a2⟩:=ho;have b1:¬(40:Int)<r.orders[k].choices.length:=by omega
   have b2:¬(40:Int)<r.orders[k].rules.length:=by omega
   simp[Fa,uM,bV,bW,hw,b1,b2];omega
  ·have bV:k<r.orders.length:=by omega
   have bW:k<50:=by omega
   have hf:ls r=false:=by simp only[ls,hb,Bool.false_and,Bool.and_false]
   rw[hf];simp[w7,bV] at ho;by_cases b1:(40:Int)<r.orders[k].choices.length
   ·simp[Fa,uM,bV,bW,b1];omega
   have b2:(40:Int)<r.orders[k].rules.length:=by have:=ho (by omega);omega
   simp[Fa,uM,bV,bW,b1,b2];omega
  ·have hf:ls r=Bu r:=by simp only[ls,hj,xQ,Bool.true_and]
   rw[hf];simp[Fa,uM];rw[if_neg (by omega)];unfold Bu;by_cases c1:(r.currencies.length:Int)<50<;>simp[c1];by_cases c2:(r.cities.length:Int)<50<;>simp[c2];by_cases c3:(r.groups.length:Int)<50<;>simp[c3];by_cases c4:(r.firms.length:Int)<210<;>simp[c4];by_cases c5:(r.orders.length:Int)<50<;>simp[c5];by_cases c6:(r.usances.length:Int)<110<;>simp[c6];by_cases c7:(r.rates.length:Int)<110<;>simp[c7]
theorem G1 {r:Realm}(hr:r.OK)(h:ls r=true):Small r:=by
 simp only[ls,Bu,Bool.and_eq_true,decide_eq_true_eq,Ai] at h;obtain⟨⟨h1,h2⟩,⟨⟨⟨⟨⟨⟨⟨c1,c2⟩,c3⟩,c4⟩,c5⟩,c6⟩,c7⟩,c8⟩⟩:=h;obtain⟨k1,⟨k2,k2'⟩,⟨k3,k3'⟩,⟨k4,k4'⟩,⟨k5,k5'⟩,⟨k6,k6'⟩,⟨k7,k7'⟩,⟨k8,k8'⟩⟩:=hr;refine⟨by omega,by omega,by omega,by omega,by omega,by omega,by omega,by omega,fun c hc=>?_,fun o ho=>?_,fun x hx=>?_⟩
 ·obtain⟨k,hk,rfl⟩:=List.getElem_of_mem hc;have:=h1 k (by omega);simp[w6,hk] at this;have:=k2' _ hc;exact⟨by omega,by omega,by omega,fun y hy=>this.2.2.2.1.2 y hy⟩
 ·obtain⟨k,hk,rfl⟩:=List.getElem_of_mem ho;have:=h2 k (by omega);simp[w7,hk] at this;omega
 ·have:=k7' x hx;exact⟨this.2.2.1,this.2.2.2.1⟩
def ny (r:Realm)(f:File):Bool:=(ls r&&w8 f)&&eN r.orders.length (fun k=>mq (r.orders.getD k default))
theorem alM (r:Realm)(f:File)(hr:r.OK):au T Sy [bH r,cW f] (.bool (ny r f)):=by
 refine .of_tree rfl XY aob ?_;simp[Mv];refine⟨_,alF r hr,?_⟩;cases e1:ls r
 ·simp[ny,e1]
 simp;refine⟨_,alL f,?_⟩;cases e2:w8 f
 ·simp[ny,e1,e2]
 have hs:=G1 hr e1;have ho:=hs.orders;have hf:ny r f=eN r.orders.length (fun k=>mq (r.orders.getD k default)):=by simp only[ny,e1,e2,Bool.true_and]
 rw[hf];simp;have hO:=hr.2.2.2.2.1.2;refine jC r.orders.length (fun k=>mq (r.orders.getD k default)) (fun k=>[.bool false,.int k]) (fun _=>[]) ?_ (fun k hk ho=>?_) (fun k hk ho hb=>?_) (fun hj=>?_)
 ·simp
 ·have hw:=bM hk (by omega);simp[hk] at ho;simp[K5,zi,hk];refine⟨_,Vb _ (hO _ (List.getElem_mem hk)),?_⟩;simp[ho,hw]
 ·simp only[List.getD_eq_getElem?_getD] at hb;rw[hb];simp[hk] at ho;simp[K5,zi,hk];refine⟨_,Vb _ (hO _ (List.getElem_mem hk)),?_⟩;simp[ho]
 ·simp only[List.getD_eq_getElem?_getD] at hj;rw[hj];simp[K5,zi]
def BA (r:Realm)(f:File):Bool:=ny r f&&decide (ld r=0)
def lh (n:Int):Int:=min (max n (-1099511627776)) 1099511627776
theorem FA (n:Int):au T Te [.int n] (.int (lh n)):=by
 refine .of_tree rfl YC aoP ?_;simp[M9,lh];by_cases h1:-1099511627776>n
 ·have:¬(1099511627776:Int)< -1099511627776:=by omega
  simp[h1];omega
 ·by_cases h2:(1099511627776:Int)<n
  ·simp[h1,h2];omega
  ·simp[h1,h2];omega
def jH (v:Int):Int×Bool:=if v<0∨19<v then(0,false) else if v<7 then(0,true) else(1,true)
theorem Wd (v:Int):au T Ta [.int v] (.tup [.int (jH v).1,.bool (jH v).2]):=by
 refine .of_tree rfl Yy aoL ?_;simp[M5,jH];by_cases h1:v<0
 ·simp[h1]
 by_cases h2:19<v
 ·simp[h1,h2]
 by_cases h3:v<7
 ·simp[h1,h2,h3]
 ·simp[h1,h2,h3]
def yD (t:Tm):Int×Int:=
 if 0<t.args.length then(0,2) else if t.op=0 then(if lh t.n≠t.n then(0,3) else(0,0)) else if t.op=1 then(if t.n<0∨1<t.n then(0,3) else(1,0)) else if(jH t.n).2=false then(0,10) else((jH t.n).1,0)
theorem anh (t:Tm):au T Tf [cS t] (.tup [.int (yD t).1,.int (yD t).2]):=by
 refine .of_tree rfl YD aoQ ?_;simp[Na,yD];by_cases h0:0<t.args.length
 ·have gT:(0:Int)<t.args.length:=by omega
  simp[h0,gT]
 simp[h0];by_cases h1:t.op=0
 ·simp[h1];refine⟨_,FA _,?_⟩;by_cases h2:lh t.n=t.n<;>simp[h2]
 by_cases h2:t.op=1
 ·simp[h1,h2];by_cases h3:t.n<0<;>by_cases h4:1<t.n<;>simp[h3,h4]
 simp[h1,h2];refine⟨_,Wd _,?_⟩;cases h3:(jH t.n).2<;>simp[h3]
def dA (op:Int):List Int×Int:=
 if op=3 then([1],1) else if op=4∨op=5 then([1,1],1) else if op=6 then([1,-1,-1],-1) else if op=7 then([0,0],1) else if op=8 then([-1,-1],1) else([0,0],0)
def wX (s:List Int×Int):D:=.agg [ints s.1,.int s.2]
@[simp] theorem aq5 (s:List Int×Int):(wX s).cells=[ints s.1,.int s.2]:=_root_.id rfl
@[simp] theorem aq3 (s:List Int×Int):(wX s).c 0=ints s.1:=_root_.id rfl
@[simp] theorem aq4 (s:List Int×Int):(wX s).c 1=.int s.2:=_root_.id rfl
@[simp] theorem auG (s:List Int×Int):D.agg [ints s.1,.int s.2]=wX s:=_root_.id rfl
@[simp] theorem avm (x y:Int):ql (.int x) 0 (.int y)=.int y:=_root_.id rfl
theorem anj (op:Int):au T Tj [.int op] (wX (dA op)):=by
 refine .of_tree rfl YH aoU ?_;simp[Nd,dA];by_cases h3:op=3
 ·simp[h3];rfl
 by_cases h4:op=4
 ·simp[h4];rfl
 by_cases h5:op=5
 ·simp[h5];rfl
 by_cases h6:op=6
 ·simp[h6];rfl
 by_cases h7:op=7
 ·simp[h7];rfl
 by_cases h8:op=8
 ·simp[h8];rfl
 simp[h3,h4,h5,h6,h7,h8];rfl
end Rm
namespace Rm
open Go Go.Proofs Cx
def dX (f:Tm→Int):List Tm→Int→Int
 |[],n=>n
 |a::l,n=>if 60<n+f a then n+f a else dX f l (n+f a)
def cf:Nat→Tm→Int
 |0,_=>61
 |L+1,t=>dX (cf L) t.args 1
def cU (f:Tm→Int)(l:List Tm):Int:=(l.map f).sum
theorem CM {f:Tm→Int}{l:List Tm}{k:Nat}(h:k<l.length):cU f (l.take (k+1))=cU f (l.take k)+f l[k]:=by
 unfold cU;rw[uZ f h,List.sum_append];simp
theorem RD {f:Tm→Int}:∀{l:List Tm} {n:Int} {k:Nat},(hk:k<l.length)→(∀j,j<k→n+cU f (l.take (j+1))≤60)→60<n+cU f (l.take (k+1))→dX f l n=n+cU f (l.take (k+1))
 |a::l,n,0,hk,_,h=>by
  simp[cU] at h ⊢;unfold dX;rw[if_pos (by omega)]
 |a::l,n,k+1,hk,hj,h=>by
  have h0:=hj 0 (by omega);simp[cU] at h0;unfold dX;rw[if_neg (by omega)];have e:∀j,n+cU f ((a::l).take (j+1+1))=n+f a+cU f (l.take (j+1)):=by intro j;simp[cU];omega
  rw[RD (l:=l) (k:=k) (by simpa using hk) (fun j hjk=>by have:=hj (j+1) (by omega);rw[e] at this;exact this) (by rw[←e];exact h),e]
theorem RF {f:Tm→Int}:∀{l:List Tm} {n:Int},(∀j,j<l.length→n+cU f (l.take (j+1))≤60)→dX f l n=n+cU f l
 |[],n,_=>by simp[dX,cU]
 |a::l,n,hj=>by
  have h0:=hj 0 (by simp);simp[cU] at h0;unfold dX;rw[if_neg (by omega)];have e:∀j,n+cU f ((a::l).take (j+1+1))=n+f a+cU f (l.take (j+1)):=by intro j;simp[cU];omega
  rw[RF (l:=l) (fun j ei=>by have:=hj (j+1) (by simpa using ei);rw[e] at this;exact this)];simp[cU];omega
theorem RE {f:Tm→Int}(hf:∀a,1≤f a):∀{l:List Tm} {n:Int},n≤dX f l n
 |[],n=>by simp[dX]
 |a::l,n=>by
  unfold dX;have:=hf a;split
  ·omega
  ·have:=RE hf (l:=l) (n:=n+f a);omega
theorem rJ:∀(L:Nat) (t:Tm),1≤cf L t
 |0,t=>by simp[cf]
 |L+1,t=>RE (rJ L)
theorem RG {f:Tm→Int}{B:Int}(hf:∀a,f a≤B)(hB:0≤B):∀{l:List Tm} {n:Int},n≤60→dX f l n≤60+B
 |[],n,h=>by simp[dX];omega
 |a::l,n,h=>by
  unfold dX;have:=hf a;split
  ·omega
  ·exact RG hf hB (by omega)
theorem RI:∀(L:Nat) (t:Tm),cf L t≤61+60*L
 |0,t=>by simp[cf]
 |L+1,t=>by
  have:=RG (f:=cf L) (fun a=>RI L a) (by omega) (l:=t.args) (n:=1) (by omega);show dX _ _ _≤_;omega
theorem RH {f:Tm→Int}(hf:∀a,1≤f a):∀{l:List Tm} {n:Int},dX f l n≤60→(n:Int)+l.length≤60∧∀a,a∈l→f a≤60-n
 |[],n,h=>by simp[dX] at h ⊢;exact h
 |a::l,n,h=>by
  unfold dX at h;have:=hf a;split at h
  ·omega
  ·obtain⟨h1,h2⟩:=RH hf h;refine⟨by simp;omega,fun b hb=>?_⟩;rcases List.mem_cons.1 hb with rfl|hb
   ·omega
   ·have:=h2 b hb;omega
theorem Jr {L:Nat}{t:Tm}(h:cf (L+1) t≤60):t.args.length≤59∧∀a,a∈t.args→cf L a≤60:=by
 obtain⟨h1,h2⟩:=RH (rJ L) h;exact⟨by omega,fun a ha=>by have:=h2 a ha;omega⟩
theorem LW:∀(L:Nat) (t:Tm) (lv:Int),t.OK→L≤8→lv=9-(L:Int)→au T Th [cS t,.int lv] (.int (cf L t))
 |0,t,lv,ht,hL,HM=>by
  refine .of_tree rfl NZ Wj ?_;subst HM;simp[FG,cf]
 |L+1,t,lv,ht,hL,HM=>by
  refine .of_tree rfl NZ Wj ?_;have hl:=ht.len;have h8:¬(8<lv):=by omega
  have Cu:IntKind.i64.wrap (lv+1)=lv+1:=cd (by omega);simp[FG,h8];refine .scan t.args.length (fun k=>1+cU (cf L) (t.args.take (k+1))≤60) (fun k=>[.int (1+cU (cf L) (t.args.take k)),.int k]) (fun _=>[]) ?_ (fun k hk hj ho=>?_) (fun k hk hj ho=>?_) (fun hj=>?_)
  ·simp[cU]
  all_goals try rw[CM hk] at ho
  ·have hw:IntKind.i64.wrap ((k:Int)+1)=(k:Int)+1:=cd (by omega);have fu:=LW L t.args[k] (lv+1) (ht.arg (List.getElem_mem hk)) (by omega) (by omega);rw[CM hk];have hs:0≤cU (cf L) (t.args.take k):=by
    unfold cU;have:∀(l:List Tm),0≤(l.map (cf L)).sum:=by
     intro l
     induction l with
     |nil=>simp
     |cons a l ih=>have:=rJ L a;simp;omega
    exact this _
   have gy:=rJ L t.args[k];generalize cU (cf L) (t.args.take k)=m at*;generalize cf L t.args[k]=v at*;have nN:IntKind.i64.wrap (1+m+v)=1+m+v:=cd (by omega);have db:¬60<1+m+v:=by omega
   simp[Lv,zG,hk,Cu];refine⟨_,fu,?_⟩;simp[nN,db,hw];omega
  ·have fu:=LW L t.args[k] (lv+1) (ht.arg (List.getElem_mem hk)) (by omega) (by omega);have hf:cf (L+1) t=1+cU (cf L) (t.args.take (k+1)):=RD hk hj (by rw[CM hk];omega);rw[hf,CM hk];have hs:0≤cU (cf L) (t.args.take k)∧1+cU (cf L) (t.args.take k)≤60:=by
    constructor
    ·unfold cU;have:∀(l:List Tm),0≤(l.map (cf L)).sum:=by
       intro l
       induction l with
       |nil=>simp
       |cons a l ih=>have:=rJ L a;simp;omega
     exact this _
    ·cases k with
     |zero=>simp[cU]
     |succ k=>exact hj k (by omega)
   have gy:=rJ L t.args[k];have dq:=RI L t.args[k];generalize cU (cf L) (t.args.take k)=m at*;generalize cf L t.args[k]=v at*;have nN:IntKind.i64.wrap (1+m+v)=1+m+v:=cd (by omega);have db:60<1+m+v:=by omega
   simp[Lv,zG,hk,Cu];refine⟨_,fu,?_⟩;simp[nN,db];omega
  ·have hf:cf (L+1) t=1+cU (cf L) t.args:=RF hj;rw[hf];simp[Lv,zG]
def j2 (ws ts:List Int):Nat→Int
 |0=>-1
 |k+1=>if ws.getD k 0=-1∧j2 ws ts k=-1 then ts.getD k 0 else j2 ws ts k
def kE (ws ts:List Int)(k:Nat):Bool:=if ws.getD k 0=-1 then decide (j2 ws ts k=-1)||decide (ts.getD k 0=j2 ws ts k) else decide (ts.getD k 0=ws.getD k 0)
def rN (t:Tm)(ks:List Int):Int×Int:=
 if t.op<0∨13<t.op then(0,1) else if t.op=0∨t.op=1∨t.op=2 then yD t else
 if ks.length≠(dA t.op).1.length∨t.n≠0 then(0,2) else
 if eN (dA t.op).1.length (kE (dA t.op).1 ks)=false then(0,11) else if(dA t.op).2=-1 then(j2 (dA t.op).1 ks (dA t.op).1.length,0) else((dA t.op).2,0)
def bN:Nat→Tm→Int×Int
 |0,_=>(0,0)
 |L+1,t=>if dQ t.args.length (fun k=>(bN L (t.args.getD k default)).2)≠0 then(0,dQ t.args.length (fun k=>(bN L (t.args.getD k default)).2)) else rN t (t.args.map fun a=>(bN L a).1)
theorem GC (L:Nat)(t:Tm):bN (L+1) t=if dQ t.args.length (fun k=>(bN L (t.args.getD k default)).2)≠0 then(0,dQ t.args.length (fun k=>(bN L (t.args.getD k default)).2)) else rN t (t.args.map fun a=>(bN L a).1):=rfl
theorem LO {α:Type}(A:List α)(z:α){k n:Nat}(hA:A.length=n)(hk:k<n):(A.take k++List.replicate (n-k) z).set k A[k]=A.take (k+1)++List.replicate (n-(k+1)) z:=by
 have h1:(A.take k).length=k:=by rw[List.length_take];omega
 rw[List.set_append_right _ _ (by omega),h1,Nat.sub_self];have:n-k=(n-(k+1))+1:=by omega
 rw[this,List.replicate_succ,List.set_cons_zero,List.take_succ_eq_append_getElem (by omega),List.append_assoc];rfl
theorem am0 (op:Int):(dA op).1.length≤3:=by
 unfold dA;repeat' split
 all_goals simp
theorem LV:∀(L:Nat) (t:Tm),t.OK→cf L t≤60→au T Tc [cS t] (.tup [.int (bN L t).1,.int (bN L t).2])
 |0,t,ht,hm=>by simp[cf] at hm
 |L+1,t,ht,hm=>by
  refine .of_tree rfl YA aoN ?_;obtain⟨hl,hp⟩:=Jr hm;simp[M7];refine⟨by omega,?_⟩;refine sr t.args.length (fun k=>(bN L (t.args.getD k default)).2) (fun k=>[.int 0,.int 0,.int k]) (fun k=>[ints ((t.args.map fun a=>(bN L a).1).take k++List.replicate (t.args.length-k) 0)]) ?_ (fun k hk ho=>?_) (fun k hk ho hb=>?_) (fun hj=>?_)
  ·simp[ints]
  ·have hw:=bM hk (by omega);have cA:=List.getElem_mem hk;have fu:=LV L t.args[k] (ht.arg cA) (hp _ cA);have hs:=LO (t.args.map fun a=>(bN L a).1) 0 (n:=t.args.length) (by simp) hk;rw[←hs];have hlen:((t.args.map fun a=>(bN L a).1).take k++List.replicate (t.args.length-k) (0:Int)).length=t.args.length:=by simp;omega
   have hgk:(t.args.map fun a=>(bN L a).1)[k]'(by simpa using hk)=(bN L t.args[k]).1:=by simp
   rw[hgk];generalize (t.args.map fun a=>(bN L a).1).take k++List.replicate (t.args.length-k) (0:Int)=A at*;simp[hk] at ho;rw[ho] at fu;generalize (bN L t.args[k]).1=kd at*;simp[Lt,zE,hk];refine⟨_,fu,?_⟩;simp[hlen,hk,hw,ints]
  ·have cA:=List.getElem_mem hk;have fu:=LV L t.args[k] (ht.arg cA) (hp _ cA);have hf:bN (L+1) t=(0,(bN L (t.args.getD k default)).2):=by
    rw[GC,hb,if_pos ho]
   rw[hf];simp[hk] at ho ⊢;simp[Lt,zE,hk];refine⟨_,fu,?_⟩;simp[ho]
  ·have hf:bN (L+1) t=rN t (t.args.map fun a=>(bN L a).1):=by
    rw[GC,hj];simp
   rw[hf]
   have e0:(t.args.map fun a=>(bN L a).1).take t.args.length++List.replicate (t.args.length-t.args.length) 0=t.args.map fun a=>(bN L a).1:=by
    rw[Nat.sub_self,List.take_of_length_le (by simp)];simp
   rw[e0];have Qd:(t.args.map fun a=>(bN L a).1).length=t.args.length:=by simp
   generalize (t.args.map fun a=>(bN L a).1)=ks at*;simp[Lt,zE];unfold rN;by_cases h1:t.op<0
   ·simp[h1]
   by_cases h2:13<t.op
   ·simp[h1,h2]
   simp[h1,h2];by_cases h3:t.op=0∨t.op=1∨t.op=2
   ·have iN:(t.op=0∨t.op=1)∨t.op=2:=by omega
    simp[h3,iN];refine⟨_,anh t,?_⟩;simp
   have iN:¬((t.op=0∨t.op=1)∨t.op=2):=by omega
   simp[h3,iN];refine⟨_,anj _,?_⟩;have hsl:=am0 t.op;generalize dA t.op=sh at*;simp;by_cases h4:ks.length=sh.1.length
   case neg=>
    have nC:¬((ks.length:Int)=sh.1.length):=by omega
    have BI:¬t.args.length=sh.1.length:=by omega
    simp[h4,nC,BI]
   have nC:(ks.length:Int)=sh.1.length:=by omega
   have BI:t.args.length=sh.1.length:=by omega
   by_cases h5:t.n=0
   case neg=>simp[h4,nC,BI,h5]
   simp[h4,nC,BI,h5];refine jC sh.1.length (kE sh.1 ks) (fun k=>[.int 0,.int 0,.int (j2 sh.1 ks k),.int k]) (fun _=>[]) ?_ (fun k hk ho=>?_) (fun k hk ho hb=>?_) (fun hj=>?_)
   ·simp[j2]
   ·have hw:=bM hk (by omega);have bW:k<ks.length:=by omega
    simp only[j2];unfold kE at ho;simp only[List.getD_eq_getElem?_getD,List.getElem?_eq_getElem hk,List.getElem?_eq_getElem bW,Option.getD_some] at ho ⊢;generalize j2 sh.1 ks k=c at*;by_cases a1:sh.1[k]=-1
    ·by_cases a2:c=-1
     ·simp[uP,p7,hk,bW,hw,ints,a1,a2]
     ·simp[a1,a2] at ho;simp[uP,p7,hk,bW,hw,ints,a1,a2,ho]
    ·simp[a1] at ho;simp[uP,p7,hk,bW,hw,ints,a1,ho]
   ·rw[hb];have bW:k<ks.length:=by omega
    unfold kE at ho;simp only[List.getD_eq_getElem?_getD,List.getElem?_eq_getElem hk,List.getElem?_eq_getElem bW,Option.getD_some] at ho;generalize j2 sh.1 ks k=c at*;by_cases a1:sh.1[k]=-1
    ·by_cases a2:c=-1
     ·simp[a1,a2] at ho
     ·simp[a1,a2] at ho;simp[uP,p7,hk,bW,ints,a1,a2,ho]
    ·simp[a1] at ho;simp[uP,p7,hk,bW,ints,a1,ho]
   ·rw[hj];simp[uP,p7];by_cases a1:sh.2=-1<;>simp[a1]
def kg (t:Tm):Int×Int:=if 60<cf 8 t then(0,6) else bN 8 t
theorem Wc (t:Tm)(ht:t.OK):au T S8 [cS t] (.tup [.int (kg t).1,.int (kg t).2]):=by
 refine .of_tree rfl Yw aoJ ?_;simp[M3,kg];refine⟨_,LW 8 t 1 ht (by omega) (by omega),?_⟩;by_cases h:60<cf 8 t
 ·simp[h]
 simp[h];refine⟨_,LV 8 t ht (by omega),?_⟩;simp
end Rm
