/-
  Shared texts of this claim.
-/
import Derived.Test.YtefchokhgdmamaaGreatDoorHAM
import Derived.Test.YtefchokhgdmamaaGreatDoorHAN
import Derived.Test.YtefchokhgdmamaaGreatDoorHAO
import Derived.Test.YtefchokhgdmamaaGreatDoorHAK
import Derived.Test.YtefchokhgdmamaaGreatDoorHAL
import Derived.Test.YtefchokhgdmamaaGreatDoorHAJ
import Derived.WalkKit
import Derived.WalkSpells
import Derived.Lib.SliceRun
import Derived.Lib.AppendZeros
import Derived.Laws.Strings
import Derived.Lib.Mul64
set_option linter.unusedVariables false
set_option maxRecDepth 100000
noncomputable section
namespace Rm
open Go Go.Proofs Cx
def Og:List Nat:=[5,8,22,23,10,13,30,63,81,103,123,104,125,124,140,106,55,126,127,82,105,128,84,107,130,129,141,108,64,85,110,109,111,131,132,142,146,144,143,86,112,133,145,134,147,156,157,135,27,28,61,12,9,24,47,48,49,78,100,25,50,51,79,101,102,122,52,53,54,80,56,57,58,59,60,26,21,42,73,74,75,43,44,76,98,99,45,77,46,38,70,37,34,32,36]
def zA:List (Nat×PC):=[(5,(ah Fh)),(8,(ah Fj)),(22,(ah Fk)),(23,(ah Fi)),(10,(ah xo)),(13,(ah E8)),(30,(ah E2)),(63,(ah E3)),(81,(ah E4)),(103,(ah xM)),(123,(ah FH)),(104,(ah xO)),(125,(ah FF)),(124,(ah FI)),(140,(ah xQ)),(106,(ah FC)),(55,(ah FD)),(126,(ah FG)),(127,(ah xN)),(82,(ah Fm)),(105,(ah FK)),(128,(ah xU)),(84,(ah xr)),(107,(ah Ff)),(130,(ah Fg)),(129,(ah FJ)),(141,(ah xT)),(108,(ah xt)),(64,(ah Fl)),(85,(ah Fo)),(110,(ah Fp)),(109,(ah xS)),(111,(ah FM)),(131,(ah vi)),(132,(ah xW)),(142,(ah FU)),(146,(ah FT)),(144,(ah FO)),(143,(ah FX)),(86,(ah FN)),(112,(ah xX)),(133,(ah FV)),(145,(ah FY)),(134,(ah FQ)),(147,(ah FP)),(156,(ah FW)),(157,(ah E7)),(135,(ah xP)),(27,(ah vf)),(28,(ah xp)),(61,(ah Fb)),(12,(ah xy)),(9,(ah AW)),(24,(ah xB)),(47,(ah xz)),(48,(ah Fw)),(49,(ah xA)),(78,(ah Fx)),(100,(ah vh)),(25,(ah xC)),(50,(ah xH)),(51,(ah xF)),(79,(ah FE)),(101,(ah xG)),(102,(ah FL)),(122,(ah xV)),(52,(ah Fy)),(53,(ah Fz)),(54,(ah xE)),(80,(ah xK)),(56,(ah FA)),(57,(ah FB)),(58,(ah xI)),(59,(ah xL)),(60,(ah xJ)),(26,(ah AX)),(21,(ah vg)),(42,(ah AY)),(73,(ah FZ)),(74,(ah F0)),(75,(ah xD)),(43,(ah xx)),(44,(ah Fu)),(76,(ah Ft)),(98,(ah Fs)),(99,(ah Fv)),(45,(ah xu)),(77,(ah Fq)),(46,(ah xw)),(38,(ah Fc)),(70,(ah Fe)),(37,(ah xq)),(34,(ah xR)),(32,(ah E9)),(36,(ah Fa))]
def tab:Nat→Option PC:=bx zA
theorem Ya:zA.map (·.1)=Og:=by kernel_rfl
theorem akv:(zA.map (·.1)).Nodup:=by rw[Ya];exact l8 (by kernel_rfl)
theorem lA (k:Nat){f:Nat}{x:PC}(h:zA[k]?=some (f,x)):tab f=some x:=Wf akv h
theorem SM:tab 131=some (ah vi):=lA 33 (by kernel_rfl)
theorem SK:tab 27=some (ah vf):=lA 48 (by kernel_rfl)
theorem aa7:tab 9=some (ah AW):=lA 52 (by kernel_rfl)
theorem SL:tab 100=some (ah vh):=lA 58 (by kernel_rfl)
theorem aa9:tab 26=some (ah AX):=lA 75 (by kernel_rfl)
theorem aa8:tab 21=some (ah vg):=lA 76 (by kernel_rfl)
theorem aba:tab 42=some (ah AY):=lA 77 (by kernel_rfl)
theorem caps:∀f cs,bx KC f=some cs→(l0 cs.args cs.res=none→bx uz f=some ⟨cs.args++cs.caps,cs.res,.dat⟩)∧∀ys,l0 cs.args cs.res=some ys→fC Og f=false∧Ei Tryz.prog f=true:=S6 (l:=KC) (sig:=uz) (P:=Tryz.prog) (pcs:=Og) (by kernel_rfl)
theorem clos:dY ctx:=⟨(fun f cs h=>(caps f cs h).1),fun f s h=>Z2 (l:=uz) (P:=Tryz.prog) (by kernel_rfl) f s h⟩
theorem its:∀f cs ys,ctx.cap f=some cs→l0 cs.args cs.res=some ys→tab f=none∧∃fn,ctx.P.funcs[f]?=some fn∧fn.body.isSome=true∧(fn.name== "runtime.NumGoroutine")=false:=fun f cs ys h hi=>⟨V7 (l:=zA) (by rw[Ya];exact((caps f cs h).2 ys hi).1),amm ((caps f cs h).2 ys hi).2⟩
theorem amc:∀f pc,tab f=some pc→∃fn s ids fr nh,ctx.P.funcs[f]?=some fn∧ctx.sig f=some s∧lN {ctx with fr:=fr,nh:=nh} fn s ids=some pc:=
 Nu (R:=fun f pc=>∃fn s ids fr nh,ctx.P.funcs[f]?=some fn∧ctx.sig f=some s∧lN {ctx with fr:=fr,nh:=nh} fn s ids=some pc) (l:=zA)
  (aK (aN [5,9] [10,11,12,13,14,15,16,17] [] Tryz.func5 rfl (aJ Fh Xb))
  (aK (aN [5,6] [0,1,2,3] [] Tryz.func8 rfl (aJ Fj Xe))
  (aK (aN [9,10] [8,11,12,13] [] Tryz.func22 rfl (aJ Fk Xf))
  (aK (aN [2,3,4,12292,5,6,20486,24582,28678,32774,7,69639,73735] [] [] Tryz.func23 rfl (aJ Fi Xc))
  (aK (aN [5,9,11,96] [10,12,13,14,15,17,18,19,20] [] Tryz.func10 rfl (aJ xo zg))
  (aK (aN [5,9,11,12] [10,13,14,31,48] [] Tryz.func13 rfl (aJ E8 WY))
  (aK (aN [4,7,8,9] [10] [] Tryz.func30 rfl (aJ E2 WS))
  (aK (aN [4,7,8,10,16394] [9,11,12,13,14] [] Tryz.func63 rfl (aJ E3 WT))
  (aK (aN [2,3,4] [5] [] Tryz.func81 rfl (aJ E4 WU))
  (aK (aN [2,4,65540,69636,73732,77828,5,65541,69637,73733,77829,7,31,9,49,11,13] [1000004,1000005] [] Tryz.func103 rfl (aJ xM zh))
  (aK (aN [] [4] [] Tryz.func123 rfl (aJ FH XB))
  (aK (aN [2,3,5,6,8,10,90,139] [4,7,9,11,12,13,14,15,16] [] Tryz.func104 rfl (aJ xO H3))
  (aK (aN [2] [3] [] Tryz.func125 rfl (aJ FF Xz))
  (aK (aN [] [4] [] Tryz.func124 rfl (aJ FI XC))
  (aK (aN [] [4,5] [] Tryz.func140 rfl (aJ xQ N1))
  (aK (aN [2] [4] [] Tryz.func106 rfl (aJ FC Xw))
  (aK (aN [] [4] [] Tryz.func55 rfl (aJ FD Xx))
  (aK (aN [2] [] [] Tryz.func126 rfl (aJ FG XA))
  (aK (aN [3,6,8] [] [] Tryz.func127 rfl (aJ xN N0))
  (aK (aN [] [2,3,4,11] [] Tryz.func82 rfl (aJ Fm Xh))
  (aK (aN [] [4] [] Tryz.func105 rfl (aJ FK XE))
  (aK (aN [] [4,5] [] Tryz.func128 rfl (aJ xU N5))
  (aK (aN [4,10,53] [8,9,11,12,13,14,55,70] [] Tryz.func84 rfl (aJ xr NL))
  (aK (aN [4,9] [8] [] Tryz.func107 rfl (aJ Ff W9))
  (aK (aN [] [3] [] Tryz.func130 rfl (aJ Fg Xa))
  (aK (aN [] [4] [] Tryz.func129 rfl (aJ FJ XD))
  (aK (aN [] [4,5] [] Tryz.func141 rfl (aJ xT N4))
  (aK (aN [4,11] [8,9] [] Tryz.func108 rfl (aJ xt NM))
  (aK (aN [3,6,8,10] [7,9,11,12] [] Tryz.func64 rfl (aJ Fl Xg))
  (aK (aN [2,3,4,12292,9] [5,6,7,8,10,11] [] Tryz.func85 rfl (aJ Fo Xi))
  (aK (aN [2] [3] [] Tryz.func110 rfl (aJ Fp Xj))
  (aK (aN [] [4,5] [] Tryz.func109 rfl (aJ xS N3))
  (aK (aN [1] [2,3] [] Tryz.func111 rfl (aJ FM XG))
  (aK (aN [2,7,12295] [4,5] [] Tryz.func131 rfl (aJ vi N8))
  (aK (aN [1,4,6,12294,9] [2,3,5,7,8,38,47,10,11,12] [] Tryz.func132 rfl (aJ xW H5))
  (aK (aN [1] [2,3,12,20,4,5] [] Tryz.func142 rfl (aJ FU XM))
  (aK (aN [] [2] [] Tryz.func146 rfl (aJ FT XL))
  (aK (aN [] [2,3,4,11] [] Tryz.func144 rfl (aJ FO XI))
  (aK (aN [2] [4,8,13,17,21] [] Tryz.func143 rfl (aJ FX XP))
  (aK (aN [2,4,7] [5,6,8] [] Tryz.func86 rfl (aJ FN XH))
  (aK (aN [2,3,4,6,33,7,8,10,12298,12] [5,15,21,9,11] [] Tryz.func112 rfl (aJ xX N7))
  (aK (aN [2,4] [5,6] [] Tryz.func133 rfl (aJ FV XN))
  (aK (aN [2] [] [] Tryz.func145 rfl (aJ FY XQ))
  (aK (aN [4,5] [9,22,41,6,7,82,88,94] [] Tryz.func134 rfl (aJ FQ XK))
  (aK (aN [] [6,8,14,20,25] [] Tryz.func147 rfl (aJ FP XJ))
  (aK (aN [] [4,5,6,7] [] Tryz.func156 rfl (aJ FW XO))
  (aK (aN [] [4,5,6,7,8,9,10,11,12,13] [] Tryz.func157 rfl (aJ E7 WX))
  (aK (aN [6] [2,3,5,8] [] Tryz.func135 rfl (aJ xP H4))
  (aK (aN [5,29,32] [4,6,8] [] Tryz.func27 rfl (aJ vf HU))
  (aK (aN [3,6] [7,8] [] Tryz.func28 rfl (aJ xp NJ))
  (aK (aN [2] [4] [] Tryz.func61 rfl (aJ Fb W5))
  (aK (aN [] [4,5] [] Tryz.func12 rfl (aJ xy NQ))
  (aK (aN [2,3] [4] [] Tryz.func9 rfl (aJ AW Xd))
  (aK (aN [2,3] [4,5] [] Tryz.func24 rfl (aJ xB NT))
  (aK (aN [1] [2,3,4] [] Tryz.func47 rfl (aJ xz HY))
  (aK (aN [1] [2] [] Tryz.func48 rfl (aJ Fw Xq))
  (aK (aN [1] [2,3] [] Tryz.func49 rfl (aJ xA NS))
  (aK (aN [1] [2] [] Tryz.func78 rfl (aJ Fx Xr))
  (aK (aN [3] [6,1,7] [] Tryz.func100 rfl (aJ vh NR))
  (aK (aN [1,9] [2,3,4,5,6,7,10,11,12] [] Tryz.func25 rfl (aJ xC NU))
  (aK (aN [1,2,3,4,6,16390,20486,24582,21,8,34,10,12298,16394,47] [] [] Tryz.func50 rfl (aJ xH C3))
  (aK (aN [] [6,7,8] [] Tryz.func51 rfl (aJ xF NX))
  (aK (aN [] [4] [] Tryz.func79 rfl (aJ FE Xy))
  (aK (aN [] [2,3,4,5] [] Tryz.func101 rfl (aJ xG NY))
  (aK (aN [] [4] [] Tryz.func102 rfl (aJ FL XF))
  (aK (aN [] [4,5] [] Tryz.func122 rfl (aJ xV N6))
  (aK (aN [] [2] [] Tryz.func52 rfl (aJ Fy Xs))
  (aK (aN [] [3] [] Tryz.func53 rfl (aJ Fz Xt))
  (aK (aN [2,3] [4,6] [] Tryz.func54 rfl (aJ xE NW))
  (aK (aN [] [6,7,8] [] Tryz.func80 rfl (aJ xK NZ))
  (aK (aN [] [3] [] Tryz.func56 rfl (aJ FA Xu))
  (aK (aN [] [3] [] Tryz.func57 rfl (aJ FB Xv))
  (aK (aN [1,3,4,6,19,8,16392,36] [2] [] Tryz.func58 rfl (aJ xI HZ))
  (aK (aN [1,4,6] [2,3] [] Tryz.func59 rfl (aJ xL H2))
  (aK (aN [1,4,6] [2] [] Tryz.func60 rfl (aJ xJ H0))
  (aK (aN [1] [2] [] Tryz.func26 rfl (aJ AX Xp))
  (aK (aN [2,3,10] [4,5,6,7,8,11] [] Tryz.func21 rfl (aJ vg HX))
  (aK (aN [2,3] [4,5,6,7,8,54,80,109,118,9,10] [] Tryz.func42 rfl (aJ AY XR))
  (aK (aN [] [4] [] Tryz.func73 rfl (aJ FZ XS))
  (aK (aN [1,3] [2,8,19,40] [] Tryz.func74 rfl (aJ F0 XT))
  (aK (aN [3,9] [6,7] [] Tryz.func75 rfl (aJ xD NV))
  (aK (aN [3,4,7,11] [6,8,9,76,92,98] [] Tryz.func43 rfl (aJ xx NP))
  (aK (aN [] [6] [] Tryz.func44 rfl (aJ Fu Xn))
  (aK (aN [3,4,7,8] [6,9,10,66,103,113,11,140,149] [] Tryz.func76 rfl (aJ Ft Xm))
  (aK (aN [3] [6,7] [] Tryz.func98 rfl (aJ Fs Xl))
  (aK (aN [3] [6] [] Tryz.func99 rfl (aJ Fv Xo))
  (aK (aN [2,3,6] [4,5,7] [] Tryz.func45 rfl (aJ xu NN))
  (aK (aN [3,4,5] [6,7,8,9,65,80,100,111] [] Tryz.func77 rfl (aJ Fq Xk))
  (aK (aN [1,4,5] [2,3] [] Tryz.func46 rfl (aJ xw NO))
  (aK (aN [] [4,5,6] [] Tryz.func38 rfl (aJ Fc W7))
  (aK (aN [] [2] [] Tryz.func70 rfl (aJ Fe W8))
  (aK (aN [] [2,3,5] [] Tryz.func37 rfl (aJ xq NK))
  (aK (aN [] [4,5] [] Tryz.func34 rfl (aJ xR N2))
  (aK (aN [3] [4] [] Tryz.func32 rfl (aJ E9 WZ))
  (aK (aN [3] [4] [] Tryz.func36 rfl (aJ Fa W0))
  trivial)))))))))))))))))))))))))))))))))))))))))))))))))))))))))))))))))))))))))))))))))))))))))))))))
end Rm
set_option linter.unusedSimpArgs false
namespace Rm
open Go Go.Proofs Cx Go.RowKit Go.Lib
theorem ahQ:(Tryz.prog.info? 3).map (fun i=>(i.zero,i.size,i.bytes))=some (some (.int .i64 0),1,8):=by kernel_rfl
set_option maxHeartbeats 2000000 in
set_option maxRecDepth 100000 in
theorem aeJ (w:World):Calls Tryz.prog 148 #[.slice none 0 0,.int .i64 0] w fun e w'=>e=.returned (.slice none 0 0)∧w'=w:=by
 go_enter Tryz.func148,Tryz.ntmps148
 go_wp2
 go_ret
 exact⟨rfl,rfl⟩
set_option maxHeartbeats 2000000 in
set_option maxRecDepth 100000 in
theorem aeI (n:Nat)(w:World)(h0:0<n)(h1:n≤4294967296):Calls Tryz.prog 148 #[.slice none 0 0,.int .i64 n] w fun e w'=>
 ∃v',e=.returned v'∧w'.ownsRow w.heap.size 3 1 v' 0 []∧Below w.heap.size w w':=by
 obtain⟨i0,hi,mQ,kF,rL⟩:=info_parts ahQ;have hr:=run_append_nil_zeros w 46 3 46 3 i0 (.int .i64 0) .i64 .i64 Tryz.underlying46 Tryz.underlying3 hi mQ n h0 (by rw[kF];decide) (by omega) (by rw[rL];omega);have hn:¬((n:Int)<0):=by omega
 have oN:(n:Int)>0:=by omega
 have hw:IntKind.i64.wrap (n:Int)=n:=by rw[IntKind.wrap_i64];omega
 have lV:IntKind.i64.wrap 0=0:=by decide
 have fq:=grownCap_ge w n 0 3;have hle:=grownCap_le_maxLen w n 0 3 (by unfold maxLen;omega);have hs:(Builtin.zeroCells #[Value.int IntKind.i64 0] n++Builtin.zeroCells #[Value.int IntKind.i64 0] (grownCap w n 0 3-n)).size=grownCap w n 0 3*1:=by
  rw[RV,size_zeroCells,size_zeroCells];simp;omega
 go_enter Tryz.func148,Tryz.ntmps148
 go_wp2_with (at_builtin;refine wpList_append_run _ rfl _ _ 46 3 rfl _ _ rfl rfl _ _ hr ?qc)
 go_ret
 refine⟨_,rfl,?_,?_⟩
 ·exact World.ownsRow.drew (World.ownsRow_made w _ _ (aU _) hle hs)
 ·exact((Below.refl _ w).alloc (aU _) _).drew
def Gm (ds:List D):Option D:=
 match ds with
 |[.list [],.v (.int .i64 n)]=>if 0≤n∧n≤4294967296 then some (.list []) else none
 |_=>none
theorem aeH (ds:List D)(d:D)(h:Gm ds=some d):∃s,ctx.sig 148=some s∧Ey ctx 148 s ds d:=by
 refine⟨_,rfl,fun _=>?_,fun shs obs hm=>by cases hm⟩;unfold Gm at h;split at h
 case h_2=>cases h
 rename_i n;split at h
 case isFalse=>cases h
 rename_i hn;cases h;obtain⟨k,rfl⟩:=uR hn.1;intro σ w args ax hC ha;obtain⟨a1,a2,a3⟩:=ha;have h0:=a3 0 _ rfl;have h1:=a3 1 _ rfl;obtain⟨u,v,rfl⟩:∃u v,args=#[u,v]:=by
  have:args.size=2:=by simpa using a1
  match args,this with
  |⟨[u,v]⟩,_=>exact⟨u,v,rfl⟩
 simp only[sB,At] at h0 h1;change Rep ctx.cap σ (.nils .bool) u (.list []) at h0;change Rep ctx.cap σ (.int .i64) v (.v (.int .i64 k)) at h1;have hu:u=.slice none 0 0:=by cases h0;rfl
 have hv:v=.int .i64 k:=by cases h1;rfl
 subst hu hv;by_cases hk:k=0
 ·subst hk;refine(aeJ w).mono fun e w' hh=>?_;obtain⟨rfl,rfl⟩:=hh;refine⟨_,σ,rfl,.refl σ,ax,.refl _ _,fun _ _ _ h=>.inl h,fun _ _ h=>.inl h,?_⟩;exact⟨[],[],rfl,⟨by simp,.inl ⟨rfl,rfl⟩⟩,⟨fun _=>undef,fun i x hx=>by simp at hx,fun i j u hi=>by simp at hi⟩,fun k hk=>by cases hk⟩
 ·refine(aeI k w (by omega) (by omega)).mono fun e w' hh=>?_;obtain⟨v',rfl,aW,hb⟩:=hh;refine⟨v',σ,rfl,.refl σ,ax.below hb,hb,fun _ _ _ h=>.inl h,fun _ _ h=>.inl h,?_⟩;refine⟨[],[],rfl,aW,⟨fun _=>undef,fun i x hx=>by simp at hx,fun i j u hi=>by simp at hi⟩,fun k hk=>?_⟩;have bU:=(aW.lt k hk).1;refine⟨fun o=>?_,?_⟩
  ·cases hc:σ.c k o with
   |none=>rfl
   |some u=>have:=World.block_lt_of_cell? w (a:=⟨k,o,none⟩) (ax.c _ _ _ hc);simp at this;omega
  ·cases hc:σ.m k with
   |none=>rfl
   |some u=>rcases ax.m _ _ hc with⟨arr,clock,x,g1,_⟩|⟨_,g1⟩<;>(have:=(dy.1 g1).1;omega)
def xj (r:D)(city:Int):Int:=if 0≤city∧city<(r.c 1).l.length then(((r.c 1).l.getD city.toNat .none).c 1).i else-1
def Oj (ds:List D):D:=
 let r:=ds.getD 0 .none
 let aX:=(ds.getD 1 .none).i
 let c:=ds.getD 2 .none
 let s:=(c.c 15).l.getD (c.c 19).i.toNat .none
 let who:=(s.c 2).i
 if who<0∨(r.c 3).l.length≤who∨aX<0∨(r.c 4).l.length≤aX then .list [] else
 let out:=[aX,xj r (s.c 7).i,xj r (c.c 10).i,xj r (c.c 9).i,xj r (((r.c 3).l.getD who.toNat .none).c 1).i]
 if(-1)∈out then .list [] else ints out
def TE:List (Nat×(aR→List D→Option D)):=[(148,fun _ ds=>Gm ds),(83,ze (ah E5) (ah E6) Oj),(16,z7)]
def ext:Nat→Option (aR→List D→Option D):=bx TE
theorem amb:TabOK ctx tab ext:=by
 refine⟨clos,its,fun f pc _ h=>amc f pc h,fun f g hg Φ hΦ ic ds d h=>?_⟩
 have:=Nu (R:=fun f (g:aR→List D→Option D)=>∀Φ,dF ctx Φ→jM ctx Φ→∀ds d,g Φ ds=some d→(∀s,ctx.sig f=some s→Ey ctx f s ds d)∧
  ∀cs ys,ctx.cap f=some cs→l0 cs.args cs.res=some ys→∃xs,d=.list xs∧(∀x,x∈xs→∃ds',x=.tup ds'∧ds'.length=ys.length)∧w8 ctx f cs.caps ys ds xs) (l:=TE)
  ⟨fun Φ hΦ ic ds d h=>⟨fun s hs=>by obtain⟨s',h1,h2⟩:=aeH ds d h;rw[hs] at h1;cases h1;exact h2,fun cs ys hc hi=>by cases hc⟩,
   fun Φ hΦ ic ds d h=>⟨fun s hs=>by cases hs;exact⟨fun _=>ajx clos hΦ ic Tryz.func83 (aJ E5 WV) (aJ E6 WW) h,fun shs obs hm=>by cases hm⟩,fun cs ys hc hi=>by cases hc⟩,
   fun Φ hΦ ic ds d h=>⟨fun s hs=>by obtain⟨s',h1,h2⟩:=alW hΦ h;rw[hs] at h1;cases h1;exact h2,fun cs ys hc hi=>by cases hc⟩,
   trivial⟩ f g hg
 exact this Φ hΦ ic ds d h
abbrev T:dk:=fm tab ext
theorem aw.of_nsl {tab:Nat→Option PC}{ext:Nat→Option (aR→List D→Option D)}{f:Nat}{pa pb:PC}{spec:List D→D}{ds:List D}{ta tb:PT}(hx:ext f=some (ze pa pb spec))(hta:tree pa=ta)(htb:tree pb=tb)
 (h:(∃xs,xs≠[]∧spec ds=.list xs∧aE (fm tab ext) ta (kR ds) (fun x=>x=.ret (.list xs)))∨(spec ds=.list []∧aE (fm tab ext) tb (kR ds) (fun x=>x=.ret (.list [])))):aw (fm tab ext) f ds (spec ds):=by
 refine aw.of_ext hx ?_;rcases h with⟨xs,h1,h2,h3⟩|⟨h2,h3⟩
 ·obtain⟨x,rfl,n0,hn⟩:=Rs (c:=pa) (hta▸h3);refine⟨n0,fun n hle=>?_⟩;unfold ze;rw[if_pos (.inl ⟨n,xs,hn n hle,h1,h2⟩)]
 ·obtain⟨x,rfl,n0,hn⟩:=Rs (c:=pb) (htb▸h3);refine⟨n0,fun n hle=>?_⟩;unfold ze;rw[if_pos (.inr ⟨n,hn n hle,h2⟩)]
end Rm
namespace Rm
open Go Go.Proofs Cx
def gB (n:Nat)(p:Nat→Bool):Bool:=(List.range n).all p
theorem SD {n:Nat}{p:Nat→Bool}(h:∀k,k<n→p k=true):gB n p=true:=bz.2 fun k hk=>h k (bZ.1 hk)
theorem aaY {n k:Nat}{p:Nat→Bool}(hk:k<n)(h:p k=false):gB n p=false:=List.all_eq_false.2 ⟨k,bZ.2 hk,by simp[h]⟩
theorem EP {n:Nat}{p:Nat→Bool}:gB n p=true↔∀k,k<n→p k=true:=⟨fun h k hk=>bz.1 h k (bZ.2 hk),SD⟩
def fp (n:Nat)(f:Nat→Int):Int:=(((List.range n).map f).find? fun x=>x !=0).getD 0
theorem Ld {n:Nat}{f:Nat→Int}(h:∀k,k<n→f k=0):fp n f=0:=by
 unfold fp;rw[sA.2]
 ·rfl
 ·intro x hx;obtain⟨k,hk,rfl⟩:=eE.1 hx;simp[h k (bZ.1 hk)]
theorem Lb {n k:Nat}{f:Nat→Int}(hk:k<n)(hj:∀j,j<k→f j=0)(h:f k≠0):fp n f=f k:=by
 unfold fp;have e:List.range n=List.range k++k::(List.range' (k+1) (n-k-1)):=by
  rw[JO,JO,←EG];have:=List.range'_append_1 (s:=0) (m:=k) (n:=n-k-1+1);rw[eW] at this;rw[this];congr 1;omega
 rw[e,m9,R7,sA.2,Option.none_or,gz,List.find?_cons_of_pos (by simpa using h)]
 ·rfl
 ·intro x hx;obtain⟨j,tu,rfl⟩:=eE.1 hx;simp[hj j (bZ.1 tu)]
theorem Lc {n:Nat}{f:Nat→Int}:fp n f=0↔∀k,k<n→f k=0:=by
 refine⟨fun h k=>?_,Ld⟩
 induction k using Nat.strongRecOn with
 |ind k ih=>
  intro hk;refine w6 fun az=>?_;rw[Lb hk (fun j hj=>ih j hj (by omega)) az] at h;exact az h
section
variable {T:dk} {id:Nat} {bn bm lr lo:List Nat} {a:PC} {ρ:Env} {Q:Out→Prop}
theorem mi (N:Nat)(p:Nat→Bool)(str fF:Nat→List D)(h0:lr.map ρ.r=str 0∧lo.map ρ.o=fF 0)
 (step:∀k,k<N→p k=true→aE T (round id bn bm lr lo a) (ρ.put lr (str k) lo (fF k)) (fh ρ id bn bm lr lo (fun vr vo=>vr=str (k+1)∧vo=fF (k+1)) Q))
 (bad:∀k,k<N→p k=false→gB N p=false→aE T (round id bn bm lr lo a) (ρ.put lr (str k) lo (fF k)) (fh ρ id bn bm lr lo (fun _ _=>False) Q))
 (last:gB N p=true→aE T (round id bn bm lr lo a) (ρ.put lr (str N) lo (fF N)) (fh ρ id bn bm lr lo (fun _ _=>False) Q)):aS T (.block id bn bm (.loop lr lo a)) ρ Q:=
 .scan N (fun k=>p k=true) str fF h0 (fun k hk _ h=>step k hk h) (fun k hk _ h=>bad k hk (by simpa using h) (aaY hk (by simpa using h))) (fun h=>last (SD h))
theorem wP (N:Nat)(f:Nat→Int)(str fF:Nat→List D)(h0:lr.map ρ.r=str 0∧lo.map ρ.o=fF 0)
 (step:∀k,k<N→f k=0→aE T (round id bn bm lr lo a) (ρ.put lr (str k) lo (fF k)) (fh ρ id bn bm lr lo (fun vr vo=>vr=str (k+1)∧vo=fF (k+1)) Q))
 (bad:∀k,k<N→f k≠0→fp N f=f k→aE T (round id bn bm lr lo a) (ρ.put lr (str k) lo (fF k)) (fh ρ id bn bm lr lo (fun _ _=>False) Q))
 (last:fp N f=0→aE T (round id bn bm lr lo a) (ρ.put lr (str N) lo (fF N)) (fh ρ id bn bm lr lo (fun _ _=>False) Q)):aS T (.block id bn bm (.loop lr lo a)) ρ Q:=
 .scan N (fun k=>f k=0) str fF h0 (fun k hk _ h=>step k hk h) (fun k hk hj h=>bad k hk h (Lb hk hj h)) (fun h=>last (Ld h))
end
theorem bS {k n:Nat}(h:k<n)(hn:n≤4294967296):IntKind.i64.wrap ((k:Int)+1)=(k:Int)+1:=cm (by omega)
theorem aai {k:Nat}(hn:k≤4294967296):IntKind.i64.wrap ((k:Int)-1)=(k:Int)-1:=cm (by omega)
def aH (i n:Int):Bool:=decide (0≤i)&&decide (i<n)
def wi (n a b:Int):Bool:=decide (a≤n)&&decide (n≤b)
theorem fQ (i n:Int):aw T 55 [.int i,.int n] (.bool (aH i n)):=by
 refine .of_tree rfl (lA 16 (by kernel_rfl)) anh ?_;simp[QN,aH];by_cases h:0≤i<;>simp[h]
theorem pz (i n:Int):aw T 123 [.int i,.int n] (.bool (aH i n)):=by
 refine .of_tree rfl (lA 10 (by kernel_rfl)) anu ?_;simp[QZ,aH];by_cases h:0≤i<;>simp[h]
theorem idx_eq {α:Type}[DecidableEq α]{l:List α}{x z:α}{k:Nat}(hk:k<l.length)(hj:∀j,j<k→l.getD j z≠x)(h:¬l.getD k z≠x):x∈l∧l.findIdx (fun y=>decide (y=x))=k:=by
 have e:l[k]=x:=by simpa [hk] using h
 refine⟨e▸ec hk,(List.findIdx_eq hk).2 ⟨by simp[e],fun j eO=>?_⟩⟩;have fc:j<l.length:=by omega
 simpa [fc] using hj j eO
theorem VE {α:Type}[DecidableEq α]{l:List α}{x z:α}(hj:∀j,j<l.length→l.getD j z≠x):¬x∈l:=fun hm=>by
 obtain⟨j,fc,rfl⟩:=gy hm;have:=hj j fc;simp[fc] at this
def tI {α:Type}[DecidableEq α](l:List α)(x:α):Int:=if x∈l then(l.findIdx (fun y=>decide (y=x)):Nat) else-1
def hasB {α:Type}[DecidableEq α](l:List α)(x:α):Bool:=l.any fun y=>decide (y=x)
theorem Uu {α:Type}[DecidableEq α]{l:List α}{x:α}:hasB l x=true↔x∈l:=by simp[hasB]
theorem afo {α:Type}[DecidableEq α]{l:List α}{x:α}:hasB l x=false↔¬x∈l:=by rw[←Uu];simp
theorem VD {α:Type}[DecidableEq α](l:List α)(x:α):decide (0≤tI l x)=hasB l x:=by
 unfold tI;by_cases h:x∈l
 ·rw[Uu.2 h];simp[h]
 ·rw[afo.2 h];simp[h]
@[simp] theorem aq6 (a b:ByteArray):yd .eql a b=decide (a=b):=by
  simp only[yd,ByteArray.toList_eq];by_cases h:a=b
  ·subst h;simp
  ·rw[decide_eq_false h,beq_eq_false_iff_ne];intro e;have:a.data=b.data:=by rw[←sv];exact e
   exact h (by cases a;cases b;cases this;rfl)
@[simp] theorem auM (a:ByteArray):(str a).s=a:=_root_.id rfl
theorem aax (l:List Int)(x:Int)(hl:l.length≤4294967296):aw T 128 [ints l,.int x] (.int (tI l x)):=by
 refine .of_tree rfl (lA 21 (by kernel_rfl)) anF ?_;simp[Rb];refine .scan l.length (fun k=>l.getD k 0≠x) (fun k=>[.int 0,.int k]) (fun _=>[]) ?_ (fun k hk hj ho=>?_) (fun k hk hj ho=>?_) (fun hj=>?_)
 ·simp
 ·have hw:=bS hk hl;simp[hk] at ho;have dJ:¬x=l[k]:=fun e=>ho e.symm;simp[Pr,DV,hk,hw,ints,ho,dJ]
 ·obtain⟨hm,he⟩:=idx_eq hk hj ho;simp[hk] at ho;simp[Pr,DV,hk,ints,ho,tI,hm,he]
 ·have:=VE hj;simp[Pr,DV,tI,this,ints]
theorem Ew (l:List Int)(x:Int)(hl:l.length≤4294967296):aw T 105 [ints l,.int x] (.bool (hasB l x)):=by
 refine .of_tree rfl (lA 20 (by kernel_rfl)) anz ?_;simp[Q5];refine⟨_,aax l x hl,?_⟩;have:=VD l x;simp at this ⊢;exact this
theorem aay (l:List ByteArray)(x:ByteArray)(hl:l.length≤4294967296):aw T 122 [strs l,str x] (.int (tI l x)):=by
 refine .of_tree rfl (lA 65 (by kernel_rfl)) anG ?_;simp[Rc];refine .scan l.length (fun k=>l.getD k default≠x) (fun k=>[.int 0,.int k]) (fun _=>[]) ?_ (fun k hk hj ho=>?_) (fun k hk hj ho=>?_) (fun hj=>?_)
 ·simp
 ·have hw:=bS hk hl;simp[hk] at ho;have dJ:¬x=l[k]:=fun e=>ho e.symm;simp[Ps,DW,hk,hw,strs,ho,dJ]
 ·obtain⟨hm,he⟩:=idx_eq hk hj ho;simp[hk] at ho;simp[Ps,DW,hk,strs,ho,tI,hm,he]
 ·have:=VE hj;simp[Ps,DW,tI,this,strs]
theorem aat (l:List ByteArray)(x:ByteArray)(hl:l.length≤4294967296):aw T 102 [strs l,str x] (.bool (hasB l x)):=by
 refine .of_tree rfl (lA 64 (by kernel_rfl)) anA ?_;simp[Q6];refine⟨_,aay l x hl,?_⟩;have:=VD l x;simp at this ⊢;exact this
def I1 (l:List Int)(a b:Int)(k:Nat):Bool:=wi (l.getD k 0) a b&&(k==0||decide (l.getD (k-1) 0<l.getD k 0))
def rising (l:List Int)(a b:Int):Bool:=gB l.length (I1 l a b)
theorem D1 (l:List Int)(a b:Int)(hl:l.length≤4294967296):aw T 80 [ints l,.int a,.int b] (.bool (rising l a b)):=by
 refine .of_tree rfl (lA 69 (by kernel_rfl)) ann ?_;simp[QT];refine mi l.length (I1 l a b) (fun k=>[.bool false,.int k]) (fun _=>[]) ?_ (fun k hk ho=>?_) (fun k hk ho hb=>?_) (fun hj=>?_)
 ·simp
 ·have hw:=bS hk hl;simp[I1,wi,hk] at ho;obtain⟨⟨h1,h2⟩,h3⟩:=ho;have dq:¬l[k]<a:=by omega
  have mI:¬b<l[k]:=by omega
  by_cases yP:0<k
  ·have bH:k-1<l.length:=by omega
   have fB:IntKind.i64.wrap ((k:Int)-1)=((k-1:Nat):Int):=by rw[aai (by omega)];omega
   have kV:¬l[k]≤l[k-1]:=by
        rcases h3 with h3|h3
        ·omega
        ·simp[bH] at h3;omega
   simp[zT,uk,hk,hw,fB,ints,dq,mI,kV,yP,bH]
  ·simp[zT,uk,hk,hw,ints,dq,mI,yP]
 ·have hf:rising l a b=false:=hb;simp[I1,wi,hk] at ho;by_cases h1:l[k]<a
  ·simp[zT,uk,hk,ints,h1,hf]
  by_cases h2:b<l[k]
  ·simp[zT,uk,hk,ints,h1,h2,hf]
  have h3:=ho (by omega) (by omega);have yP:0<k:=by omega
  have bH:k-1<l.length:=by omega
  have fB:IntKind.i64.wrap ((k:Int)-1)=((k-1:Nat):Int):=by rw[aai (by omega)];omega
  have kV:=h3.2;simp[bH] at kV;simp[zT,uk,hk,fB,ints,h1,h2,kV,yP,bH,hf]
 ·have hf:rising l a b=true:=hj;simp[zT,uk,hf]
def Nl (c:Int):Bool:=wi c 97 122||wi c 65 90
def H6 (i:Nat)(c:Int):Bool:=Nl c||(i !=0&&(decide (c=95)||wi c 48 57))
def EY (s:ByteArray)(k:Nat):Int:=((s.data.toList.getD k 0).toNat:Nat)
def qp (s:ByteArray):Bool:=decide (1≤s.size)&&decide (s.size≤20)&&gB s.size (fun k=>H6 k (EY s k))
theorem SX {s:ByteArray}{k:Nat}(h:k<s.data.size):(s.data[k].toNat:Int)=EY s k:=by
 unfold EY;rw[aF,bo (by simpa using h)];rfl
theorem ZR {s:ByteArray}:s=⟨#[]⟩↔s.size=0:=by
 constructor
 ·rintro rfl;rfl
 ·intro h;cases s with|mk d=>congr;exact Jy h
theorem alc (s:ByteArray):aw T 101 [str s] (.bool (qp s)):=by
 refine .of_tree rfl (lA 63 (by kernel_rfl)) ani ?_;simp[QO];by_cases h0:s=⟨#[]⟩
 ·have hn:qp s=false:=by simp[qp,ZR.1 h0]
  rw[hn];simp[h0]
 by_cases h1:(20:Int)<s.size
 ·have dq:¬s.size≤20:=by omega
  simp[h0,h1,qp,dq]
 have hz:1≤s.size:=by
  have:s.size≠0:=fun e=>h0 (ZR.2 e);omega
 have dq:s.size≤20:=by omega
 simp[h0,h1];refine⟨by omega,mi s.size (fun k=>H6 k (EY s k)) (fun k=>[.bool false,.int k]) (fun _=>[]) ?_ (fun k hk ho=>?_) (fun k hk ho hb=>?_) (fun hj=>?_)⟩
 ·simp
 ·have hw:=bS hk (by omega);have bU:k<s.data.size:=hk;have hg:=SX bU;simp[H6,Nl,wi] at ho;simp[O9,DH,hk,bU,hw,hg];omega
 ·have bU:k<s.data.size:=hk;have hg:=SX bU;have hn:qp s=false:=by simp[qp,hb]
  simp[H6,Nl,wi] at ho;simp[O9,DH,hk,bU,hg,hn];omega
 ·have hn:qp s=true:=by simp[qp,hj,hz,dq]
  have hd:s.data.size=s.size:=rfl;simp[O9,DH,hn,hd]
end Rm
namespace Rm
open Go Go.Proofs Cx
def tQ (l:List ByteArray)(i:Nat):Int:=if qp (l.getD i default)=false then 2 else if hasB (l.take i) (l.getD i default) then 5 else 0
theorem Zh (l:List ByteArray)(i:Nat)(hi:i<l.length)(hl:l.length≤4294967296):aw T 79 [strs l,.int i] (.int (tQ l i)):=by
 refine .of_tree rfl (lA 62 (by kernel_rfl)) anj ?_;simp[QP,hi];refine⟨_,by simpa [strs,hi] using alc l[i],?_⟩;unfold tQ;rw[aF,bo hi,mD];cases h1:qp l[i]<;>simp[h1];refine⟨by omega,_,by simpa [strs,hi] using aat (l.take i) l[i] (by rw[db];omega),?_⟩;cases h2:hasB (l.take i) l[i]<;>simp[h2]
def vq (l:List ByteArray)(g:Nat→Bool)(i:Nat):Int:=if tQ l i≠0 then tQ l i else if g i then 0 else 1
def ns (l:List ByteArray)(C0:Int)(g:Nat→Bool):Int:=if C0<l.length then 6 else fp l.length (vq l g)
theorem IV (l:List ByteArray)(C0:Int)(f:Nat)(caps:List D)(g:Nat→Bool)(hg:∀i:Nat,i<l.length→aw T f (.int i::caps) (.bool (g i)))(hl:l.length≤4294967296):
 aw T 51 [strs l,.int C0,.clo f caps] (.int (ns l C0 g)):=by
 refine .of_tree rfl (lA 61 (by kernel_rfl)) ang ?_;simp[QM,ns];by_cases h0:C0<l.length
 ·simp[h0];intro h;omega
 simp[h0];refine wP l.length (vq l g) (fun k=>[.int 0,.int k]) (fun _=>[]) ?_ (fun k hk ho=>?_) (fun k hk ho hb=>?_) (fun hj=>?_)
 ·simp
 ·have hw:=bS hk hl;have h1:tQ l k=0:=by
   refine w6 fun h=>?_;unfold vq at ho;rw[if_pos h] at ho;exact h ho
  have h2:g k=true:=by
   unfold vq at ho;rw[if_neg (by simpa using h1)] at ho;cases h:g k with
   |true=>rfl
   |false=>rw[h] at ho;simp at ho
  simp[O8,DG,hk,hw];refine⟨_,Zh l k hk hl,?_⟩;simp[h1];refine⟨_,_,⟨rfl,rfl⟩,_,hg k hk,?_⟩;simp[h2,hw]
 ·simp[O8,DG,hk,hb];refine⟨_,Zh l k hk hl,?_⟩;unfold vq at ho ⊢;by_cases h1:tQ l k=0
  ·simp[h1] at ho ⊢;refine⟨_,_,⟨rfl,rfl⟩,_,hg k hk,?_⟩;simp[ho]
  ·simp[h1]
 ·simp[O8,DG,hj]
def pX (r:Realm)(c:City):Bool:=gB c.feasts.length (fun k=>wi ((c.feasts.getD k 0).tmod 100) 1 31)&&(decide (c.feasts.length≤60)&&decide (c.shut.length≤200)&&aH c.order r.orders.length&&aH c.currency r.currencies.length)&&
 (rising c.rest 0 6&&rising c.feasts 101 1231&&rising c.shut 0 100000)
theorem ala (r:Realm)(c:City)(h1:c.rest.length≤4294967296)(h2:c.feasts.length≤4294967296)(h3:c.shut.length≤4294967296):aw T 54 [bF r,mG c] (.bool (pX r c)):=by
 refine .of_tree rfl (lA 68 (by kernel_rfl)) anf ?_;simp[QL];refine mi c.feasts.length (fun k=>wi ((c.feasts.getD k 0).tmod 100) 1 31) (fun k=>[.bool false,.int k]) (fun _=>[]) ?_ (fun k hk ho=>?_) (fun k hk ho hb=>?_) (fun hj=>?_)
 ·simp
 ·have hw:=bS hk h2;simp[wi,hk] at ho;have g1:¬(c.feasts[k].tmod 100<1):=by omega
  have g2:¬(31<c.feasts[k].tmod 100):=by omega
  simp[O7,DF,hk,hw,ints,g1,g2]
 ·have hf:pX r c=false:=by simp only[pX,hb,uP]
  simp[wi,hk] at ho;simp[O7,DF,hk,ints,hf];by_cases g1:c.feasts[k].tmod 100<1
  ·simp[g1]
  ·have g2:=ho (by omega);simp[g1,g2]
 ·simp[O7,DF];by_cases g1:(c.feasts.length:Int)≤60
  case neg=>
   have hf:pX r c=false:=by
        have jy:decide (c.feasts.length≤60)=false:=decide_eq_false (by omega);simp only[pX,jy,uP,Es]
   have jy:(60:Int)<c.feasts.length:=by omega
   simp[g1,jy,hf]
  by_cases g2:(c.shut.length:Int)≤200
  case neg=>
   have hf:pX r c=false:=by
        have jy:decide (c.shut.length≤200)=false:=decide_eq_false (by omega);simp only[pX,jy,uP,Es]
   have sZ:(200:Int)<c.shut.length:=by omega
   simp[g1,g2,sZ,hf]
  have jy:¬(60:Int)<c.feasts.length:=by omega
  have sZ:¬(200:Int)<c.shut.length:=by omega
  have hf:pX r c=(aH c.order r.orders.length&&aH c.currency r.currencies.length&&(rising c.rest 0 6&&rising c.feasts 101 1231&&rising c.shut 0 100000)):=by
   have e1:decide (c.feasts.length≤60)=true:=decide_eq_true (by omega);have e2:decide (c.shut.length≤200)=true:=decide_eq_true (by omega);simp only[pX,hj,e1,e2,Et]
  rw[hf];simp[g1,g2,jy,sZ];refine⟨_,fQ _ _,?_⟩;simp;cases e1:aH c.order r.orders.length<;>simp;refine⟨_,fQ _ _,?_⟩;simp;cases e2:aH c.currency r.currencies.length<;>simp;refine⟨_,D1 _ _ _ h1,?_⟩;simp;cases e3:rising c.rest 0 6<;>simp;refine⟨_,D1 _ _ _ h2,?_⟩;simp;cases e4:rising c.feasts 101 1231<;>simp;exact D1 _ _ _ h3
end Rm
namespace Rm
open Go Go.Proofs Cx
theorem Af {α β:Type}(f:α→β){l:List α}{k:Nat}(h:k<l.length):(l.take (k+1)).map f=(l.take k).map f++[f l[k]]:=by
 rw[uV h,m9];rfl
theorem y6 (i:Int)(n:Nat):aH i n=wi i 0 ((n:Int)-1):=by
 rw[Jz];simp[wi,aH];omega
def AG (o:Order):List Int:=o.choices.map (·.ask)
def ET (o:Order):List Int:=o.rules.map (·.ask)
def tU (o:Order):Bool:=gB o.choices.length (fun k=>aH (o.choices.getD k default).by_ 5)&&(rising (AG o) 0 21&&rising (ET o) 0 21)
theorem ale (o:Order)(h1:o.choices.length≤100000)(h2:o.rules.length≤100000):aw T 58 [kl o] (.bool (tU o)):=by
 refine .of_tree rfl (lA 72 (by kernel_rfl)) anl ?_;simp[QR];refine mi o.choices.length (fun k=>aH (o.choices.getD k default).by_ 5) (fun k=>[.bool false,.none,.int k]) (fun k=>[ints ((o.choices.take k).map (·.ask))]) ?_ (fun k hk ho=>?_) (fun k hk ho hb=>?_) (fun hj=>?_)
 ·simp[ints]
 ·have hw:=bS hk (by omega);have hl:(o.choices.take k).length=k:=by rw[db];omega
  simp[hk] at ho;rw[Af _ hk];simp[Pb,DI,hk,hw,ints,hl];refine⟨by omega,_,fQ _ _,?_⟩;simp[ho,hw]
 ·have hf:tU o=false:=by simp only[tU,hb,uP]
  have hl:(o.choices.take k).length=k:=by rw[db];omega
  simp[hk] at ho;simp[Pb,DI,hk,ints,hl,hf];refine⟨by omega,_,fQ _ _,?_⟩;simp[ho]
 ·have hf:tU o=(rising (AG o) 0 21&&rising (ET o) 0 21):=by simp only[tU,hj,Et]
  rw[hf];simp[Pb,DI];refine aS.forRounds o.rules.length (fun k=>[.none,.int k]) (fun k=>[ints ((o.rules.take k).map (·.ask))]) ?_ (fun k hk=>?_) ?_
  ·simp[ints]
  ·have hw:=bS hk (by omega);have hl:(o.rules.take k).length=k:=by rw[db];omega
   rw[Af _ hk];simp[YZ,IP,hk,hw,ints,hl];omega
  ·simp[YZ,IP];refine⟨_,D1 (AG o) _ _ (by simp[AG];omega),?_⟩;simp;cases e1:rising (AG o) 0 21<;>simp;exact D1 (ET o) _ _ (by simp[ET];omega)
def wq (r:Realm):List ByteArray:=r.cities.map (·.name)
def wu (r:Realm):List ByteArray:=r.firms.map (·.name)
def rQ (r:Realm):List ByteArray:=r.orders.map (·.name)
theorem ald (r:Realm)(h1:r.cities.length≤100000)(h2:r.firms.length≤100000)(h3:r.orders.length≤100000):aw T 50 [bF r] (.tup [strs (wq r),strs (wu r),strs (rQ r)]):=by
 refine .of_tree rfl (lA 60 (by kernel_rfl)) ank ?_;simp[QQ];refine aS.forRounds r.cities.length (fun k=>[.none,.int k]) (fun k=>[strs ((r.cities.take k).map (·.name))]) ?_ (fun k hk=>?_) ?_
 ·simp[strs]
 ·have hw:=bS hk (by omega);have hl:(r.cities.take k).length=k:=by rw[db];omega
  rw[Af _ hk];simp[YW,IL,hk,hw,strs,hl];omega
 ·simp[YW,IL];refine aS.forRounds r.firms.length (fun k=>[.none,.int k]) (fun k=>[strs ((r.firms.take k).map (·.name))]) ?_ (fun k hk=>?_) ?_
  ·simp[strs]
  ·have hw:=bS hk (by omega);have hl:(r.firms.take k).length=k:=by rw[db];omega
   rw[Af _ hk];simp[YX,IM,hk,hw,strs,hl];omega
  ·simp[YX,IM];refine aS.forRounds r.orders.length (fun k=>[.none,.int k]) (fun k=>[strs ((r.orders.take k).map (·.name))]) ?_ (fun k hk=>?_) ?_
   ·simp[strs]
   ·have hw:=bS hk (by omega);have hl:(r.orders.take k).length=k:=by rw[db];omega
    rw[Af _ hk];simp[YY,IN,hk,hw,strs,hl];omega
   ·simp[YY,IN,wq,wu,rQ]
end Rm
namespace Rm
open Go Go.Proofs Cx
structure Small (r:Realm):Prop where
 cur:r.currencies.length≤1000
 cities:r.cities.length≤1000
 groups:r.groups.length≤1000
 firms:r.firms.length≤1000
 orders:r.orders.length≤1000
 us:r.usances.length≤1000
 rates:r.rates.length≤1000
 halts:r.halts.length≤1000
 city:∀c,c∈r.cities→c.rest.length≤1000∧c.feasts.length≤1000∧c.shut.length≤1000∧∀y,y∈c.feasts→aT y
 order:∀o,o∈r.orders→o.choices.length≤1000∧o.rules.length≤1000
 rate:∀x,x∈r.rates→aT x.num∧aT x.den
def uI (r:Realm)(k j:Nat):Bool:=(r.usances.getD j default).fr !=(r.usances.getD k default).fr||(r.usances.getD j default).to !=(r.usances.getD k default).to
def Ju (r:Realm)(k:Nat):Int:=
 if(aH (r.usances.getD k default).fr r.cities.length&&aH (r.usances.getD k default).to r.cities.length&&wi (r.usances.getD k default).days 1 20000)=false then 1 else if gB k (uI r k) then 0 else 5
def Jv (r:Realm):Int:=if 100<r.usances.length then 6 else fp r.usances.length (Ju r)
theorem alg (r:Realm)(h:Small r):aw T 59 [bF r] (.int (Jv r)):=by
 refine .of_tree rfl (lA 73 (by kernel_rfl)) ano ?_;have hu:=h.us;simp[QU,Jv];by_cases h0:100<r.usances.length
 ·have kp:(100:Int)<r.usances.length:=by omega
  have Lr:¬r.usances.length≤100:=by omega
  simp[h0,kp,Lr]
 have kp:¬(100:Int)<r.usances.length:=by omega
 simp[h0,kp];refine wP r.usances.length (Ju r) (fun k=>[.int 0,.int k]) (fun _=>[]) ?_ (fun k hk ho=>?_) (fun k hk ho hb=>?_) (fun hj=>?_)
 ·simp
 ·have hw:=bS hk (by omega);have ha:aH r.usances[k].fr r.cities.length=true∧aH r.usances[k].to r.cities.length=true∧wi r.usances[k].days 1 20000=true∧gB k (uI r k)=true:=by
   unfold Ju at ho;simp only[aF,bo hk,mD] at ho;cases e1:aH r.usances[k].fr r.cities.length<;>cases e2:aH r.usances[k].to r.cities.length<;>cases e3:wi r.usances[k].days 1 20000<;>cases e4:gB k (uI r k)<;>simp[e1,e2,e3,e4] at ho ⊢
  obtain⟨a1,a2,a3,a4⟩:=ha;simp[wi] at a3;have a5:¬r.usances[k].days<1:=by omega
  have a6:¬20000<r.usances[k].days:=by omega
  simp[Pe,DL,hk];refine⟨_,fQ _ _,?_⟩;simp[a1];refine⟨_,fQ _ _,?_⟩;simp[a2,a5,a6];refine⟨by omega,mi k (uI r k) (fun j=>[.int 0,.int j]) (fun _=>[]) ?_ (fun j hj gP=>?_) (fun j hj gP bk=>?_) (fun vH=>?_)⟩
  ·simp
  ·have CN:=bS hj (by omega);have bp:j<r.usances.length:=by omega
   have hm:j<min k r.usances.length:=by omega
   simp[uI,bp,hk] at gP;simp[IQ,zU,hj,bp,hk,CN,hm];intro e e';rcases gP with h|h
   ·exact absurd e h
   ·exact absurd e' h
  ·rw[a4] at bk;cases bk
  ·simp[IQ,zU,hw];omega
 ·simp[Pe,DL,hk,hb];refine⟨_,fQ _ _,?_⟩;unfold Ju at ho ⊢;simp only[aF,bo hk,mD] at ho ⊢;cases e1:aH r.usances[k].fr r.cities.length
  ·simp
  simp;refine⟨_,fQ _ _,?_⟩;cases e2:aH r.usances[k].to r.cities.length
  ·simp
  cases e3:wi r.usances[k].days 1 20000
  ·simp[wi] at e3;by_cases g:r.usances[k].days<1
   ·simp[g]
   ·simp[g,e3 (by omega)]
  have KR:=e3;simp[wi] at KR;have a5:¬r.usances[k].days<1:=by omega
  have a6:¬20000<r.usances[k].days:=by omega
  simp[e1,e2,e3] at ho;simp[a5,a6];refine⟨by omega,mi k (uI r k) (fun j=>[.int 0,.int j]) (fun _=>[]) ?_ (fun j hj gP=>?_) (fun j hj gP bk=>?_) (fun vH=>?_)⟩
  ·simp
  ·have CN:=bS hj (by omega);have bp:j<r.usances.length:=by omega
   have hm:j<min k r.usances.length:=by omega
   simp[uI,bp,hk] at gP;simp[IQ,zU,hj,bp,hk,CN,hm];intro e e';rcases gP with h|h
   ·exact absurd e h
   ·exact absurd e' h
  ·have bp:j<r.usances.length:=by omega
   have hm:j<min k r.usances.length:=by omega
   simp[uI,bp,hk] at gP;simp[IQ,zU,hj,bp,hk,ho,hm]
   first|exact gP|simp[gP]
  ·rw[vH] at ho;cases ho
 ·simp[Pe,DL,hj]
def IA (r:Realm)(k:Nat):Bool:=aH (r.rates.getD k default).fr r.currencies.length&&aH (r.rates.getD k default).to r.currencies.length&&((r.rates.getD k default).fr !=(r.rates.getD k default).to)&&
 wi (r.rates.getD k default).num 1 1073741824&&wi (r.rates.getD k default).den 1 1073741824&&wi (r.rates.getD k default).since 0 100000
def BN (r:Realm)(k:Nat):Bool:=aH (r.halts.getD k default).order r.orders.length&&wi (r.halts.getD k default).fr 0 (r.halts.getD k default).to&&decide ((r.halts.getD k default).to≤100000)
def uo (r:Realm):Int:=if 100<r.rates.length then 6 else if gB r.rates.length (IA r)=false then 1 else if 20<r.halts.length then 6 else if gB r.halts.length (BN r) then 0 else 1
theorem Hp {n:Int}(h:aT n)(m:Int)(hm:0≤m∧m≤4294967296):aH (IntKind.i64.wrap (n-1)) m=wi n 1 m:=by
 unfold aT at h;by_cases e:n=-9223372036854775808
 ·subst e;have:IntKind.i64.wrap (-9223372036854775808-1)=9223372036854775807:=by decide
  rw[this,Jz];simp[aH,wi];omega
 ·rw[cm (by omega),Jz];simp[aH,wi];omega
theorem VI (n:Int):aH n 100001=wi n 0 100000:=by rw[Jz];simp[aH,wi];omega
theorem alf (r:Realm)(h:Small r):aw T 60 [bF r] (.int (uo r)):=by
 refine .of_tree rfl (lA 74 (by kernel_rfl)) anm ?_;have hu:=h.rates;have hh:=h.halts;simp[QS,uo];by_cases h0:100<r.rates.length
 ·have kp:(100:Int)<r.rates.length:=by omega
  have Lr:¬r.rates.length≤100:=by omega
  simp[h0,kp,Lr]
 have kp:¬(100:Int)<r.rates.length:=by omega
 simp[h0,kp];have key:∀k (hk:k<r.rates.length),∀{ρ:Env} {Q:Out→Prop},True:=fun _ _ _ _=>trivial;refine mi r.rates.length (IA r) (fun k=>[.int 0,.int k]) (fun _=>[]) ?_ (fun k hk ho=>?_) (fun k hk ho hb=>?_) (fun hj=>?_)
 ·simp
 ·have hw:=bS hk (by omega);have hI:=h.rate _ (ec hk);simp[IA,hk] at ho;obtain⟨⟨⟨⟨⟨a1,a2⟩,a3⟩,a4⟩,a5⟩,a6⟩:=ho;simp[Pc,DJ,hk];refine⟨_,fQ _ _,?_⟩;simp[a1];refine⟨_,fQ _ _,?_⟩;simp[a2,a3];refine⟨_,fQ _ _,?_⟩;simp[Hp hI.1,a4];refine⟨_,fQ _ _,?_⟩;simp[Hp hI.2,a5];refine⟨_,fQ _ _,?_⟩;simp[VI,a6,hw]
 ·have hI:=h.rate _ (ec hk);rw[hb];simp[IA,hk] at ho;simp[Pc,DJ,hk];refine⟨_,fQ _ _,?_⟩;cases e1:aH r.rates[k].fr r.currencies.length
  ·simp
  simp;refine⟨_,fQ _ _,?_⟩;cases e2:aH r.rates[k].to r.currencies.length
  ·simp
  by_cases e3:r.rates[k].fr=r.rates[k].to
  ·simp[e3]
  simp[e3];refine⟨_,fQ _ _,?_⟩;rw[Hp hI.1 _ (by omega)];cases e4:wi r.rates[k].num 1 1073741824
  ·simp
  simp;refine⟨_,fQ _ _,?_⟩;rw[Hp hI.2 _ (by omega)];cases e5:wi r.rates[k].den 1 1073741824
  ·simp
  simp;refine⟨_,fQ _ _,?_⟩;rw[VI];simp[ho e1 e2 e3 e4 e5]
 ·rw[hj];simp[Pc,DJ];by_cases h1:20<r.halts.length
  ·have dq:(20:Int)<r.halts.length:=by omega
   have aeM:¬r.halts.length≤20:=by omega
   simp[h1,dq,aeM]
  have dq:¬(20:Int)<r.halts.length:=by omega
  simp[h1,dq];refine mi r.halts.length (BN r) (fun k=>[.int 0,.int k]) (fun _=>[]) ?_ (fun k hk ho=>?_) (fun k hk ho hb=>?_) (fun hj=>?_)
  ·simp
  ·have hw:=bS hk (by omega);simp[BN,wi,hk] at ho;obtain⟨⟨a1,a2⟩,a3⟩:=ho;have b1:¬r.halts[k].fr<0:=by omega
   have b2:¬r.halts[k].to<r.halts[k].fr:=by omega
   have b3:¬100000<r.halts[k].to:=by omega
   simp[Pd,DK,hk];refine⟨_,fQ _ _,?_⟩;simp[a1,b1,b2,b3,hw]
  ·rw[hb];simp[BN,wi,hk] at ho;simp[Pd,DK,hk];refine⟨_,fQ _ _,?_⟩;cases e1:aH r.halts[k].order r.orders.length
   ·simp
   have:=ho e1;by_cases b1:r.halts[k].fr<0
   ·simp[b1]
   by_cases b2:r.halts[k].to<r.halts[k].fr
   ·simp[b1,b2]
   have b3:100000<r.halts[k].to:=this (by omega) (by omega);simp[b1,b2,b3]
  ·rw[hj];simp[Pd,DK]
end Rm
namespace Rm
open Go Go.Proofs Cx
def m3:List Int→Int
 |[]=>0
 |x::l=>if x=0 then m3 l else x
theorem PL:∀{l:List Int},m3 l=0↔∀x,x∈l→x=0
 |[]=>by simp[m3]
 |x::l=>by
  simp only[m3,df,forall_eq_or_imp];by_cases h:x=0
  ·simp[h,PL (l:=l)]
  ·simp[h]
def Br (r:Realm)(i:Nat):Bool:=aH (r.firms.getD i default).city r.cities.length&&aH (r.firms.getD i default).group r.groups.length
def AZ (r:Realm)(i:Nat):Bool:=pX r (r.cities.getD i default)
def wA (r:Realm)(i:Nat):Bool:=tU (r.orders.getD i default)
def Gl (r:Realm)(i:Nat):Bool:=aH (r.groups.getD i default).grade 10
def Lq (r:Realm):Int:=if 20<r.groups.length then 6 else if gB r.groups.length (Gl r) then 0 else 1
def nk (r:Realm):Int:=m3 [ns r.currencies 8 (fun _=>true),ns (wq r) 40 (AZ r),Lq r,ns (wu r) 200 (Br r),ns (rQ r) 20 (wA r),Jv r,uo r]
theorem abJ (i:Int):aw T 52 [.int i] (.bool true):=by
 refine .of_tree rfl (lA 66 (by kernel_rfl)) am7 ?_;simp[QF]
theorem abK (r:Realm)(h:Small r)(i:Nat)(hi:i<r.cities.length):aw T 53 [.int i,.ref (bF r)] (.bool (AZ r i)):=by
 refine .of_tree rfl (lA 67 (by kernel_rfl)) am8 ?_;obtain⟨h1,h2,h3,h4⟩:=h.city _ (ec hi);simp[QG,hi,AZ];exact ala r r.cities[i] (by omega) (by omega) (by omega)
theorem abL (r:Realm)(i:Nat)(hi:i<r.firms.length):aw T 56 [.int i,.ref (bF r)] (.bool (Br r i)):=by
 refine .of_tree rfl (lA 70 (by kernel_rfl)) am9 ?_;simp[QH,hi,Br];refine⟨_,fQ _ _,?_⟩;simp[hi];cases e1:aH r.firms[i].city r.cities.length<;>simp;exact fQ _ _
theorem abM (r:Realm)(h:Small r)(i:Nat)(hi:i<r.orders.length):aw T 57 [.int i,.ref (bF r)] (.bool (wA r i)):=by
 refine .of_tree rfl (lA 71 (by kernel_rfl)) ana ?_;obtain⟨h1,h2⟩:=h.order _ (ec hi);simp[QI,hi,wA];exact ale r.orders[i] (by omega) (by omega)
theorem Zg (r:Realm)(h:Small r):aw T 25 [bF r] (.int (nk r)):=by
 refine .of_tree rfl (lA 59 (by kernel_rfl)) anb ?_;have g1:=h.cur;have g2:=h.cities;have g3:=h.firms;have g4:=h.orders;have g5:=h.groups;simp[QE];refine⟨_,ald r (by omega) (by omega) (by omega),?_⟩;simp;refine⟨_,IV r.currencies 8 52 [] (fun _=>true) (fun i _=>abJ _) (by omega),?_⟩;unfold nk;generalize e1:ns r.currencies 8 (fun _=>true)=x1;by_cases z1:x1=0
 case neg=>simp[z1,m3]
 simp[z1,m3];refine⟨_,IV (wq r) 40 53 [.ref (bF r)] (AZ r) (fun i hi=>abK r h i (by simpa [wq] using hi)) (by simp[wq];omega),?_⟩;generalize e2:ns (wq r) 40 (AZ r)=x2;by_cases z2:x2=0
 case neg=>simp[z2]
 simp[z2];by_cases z3:20<r.groups.length
 ·have RN:(20:Int)<r.groups.length:=by omega
  simp[RN,Lq,z3]
 have RN:¬(20:Int)<r.groups.length:=by omega
 simp[RN,Lq,z3];refine mi r.groups.length (Gl r) (fun k=>[.int 0,.int k]) (fun _=>[]) ?_ (fun k hk ho=>?_) (fun k hk ho hb=>?_) (fun hj=>?_)
 ·simp
 ·have hw:=bS hk (by omega);simp[Gl,hk] at ho;simp[O5,DD,hk];refine⟨_,fQ _ _,?_⟩;simp[ho,hw]
 ·simp[Gl,hk] at ho;rw[hb];simp[O5,DD,hk];refine⟨_,fQ _ _,?_⟩;simp[ho]
 ·rw[hj];simp[O5,DD];refine⟨_,IV (wu r) 200 56 [.ref (bF r)] (Br r) (fun i hi=>abL r i (by simpa [wu] using hi)) (by simp[wu];omega),?_⟩;generalize e4:ns (wu r) 200 (Br r)=x4;by_cases z4:x4=0
  case neg=>simp[z4]
  simp[z4];refine⟨_,IV (rQ r) 20 57 [.ref (bF r)] (wA r) (fun i hi=>abM r h i (by simpa [rQ] using hi)) (by simp[rQ];omega),?_⟩;generalize e5:ns (rQ r) 20 (wA r)=x5;by_cases z5:x5=0
  case neg=>simp[z5]
  simp[z5];refine⟨_,alg r h,?_⟩;generalize e6:Jv r=x6;by_cases z6:x6=0
  case neg=>simp[z6]
  simp[z6];have e7:(if uo r=0 then 0 else uo r)=uo r:=by split<;>simp_all
  rw[e7];exact alf r h
theorem adG {l:List ByteArray}{g:Nat→Bool}{k:Nat}(h:vq l g k=0):tQ l k=0∧g k=true:=by
 unfold vq at h;by_cases h1:tQ l k=0
 ·simp[h1] at h;exact⟨h1,h⟩
 ·simp[h1] at h
end Rm
namespace Rm
open Go Go.Proofs Cx
def jL:Nat→Tm→Int→Int
 |0,_,_=>-1
 |L+1,t,n=>t.args.foldl (fun m a=>if 0≤m then jL L a m else m) (n-1)
theorem size_le:∀(L:Nat) (t:Tm) (n:Int),0≤n→-1≤jL L t n∧jL L t n≤n
 |0,t,n,h=>by simp[jL];omega
 |L+1,t,n,h=>by
  have key:∀(l:List Tm) (m:Int),-1≤m→m≤n→-1≤l.foldl (fun m a=>if 0≤m then jL L a m else m) m∧l.foldl (fun m a=>if 0≤m then jL L a m else m) m≤n:=by
   intro l
   induction l with
   |nil=>intro m h1 h2;exact⟨h1,h2⟩
   |cons a l ih=>
    intro m h1 h2;simp only[JG];split
    ·rename_i hm;have:=size_le L a m hm;exact ih _ this.1 (by omega)
    ·exact ih _ h1 h2
  exact key _ _ (by omega) (by omega)
theorem ZQ (L:Nat):∀(l:List Tm) (m:Int),m<0→l.foldl (fun m a=>if 0≤m then jL L a m else m) m=m
 |[],m,h=>rfl
 |a::l,m,h=>by simp only[JG];rw[if_neg (by omega)];exact ZQ L l m h
theorem aer {α β:Type}(f:β→α→β)(b:β){l:List α}{k:Nat}(h:k<l.length):(l.take (k+1)).foldl f b=f ((l.take k).foldl f b) l[k]:=by
 rw[uV h,List.foldl_append];rfl
theorem aeq {α β:Type}(f:β→α→β)(b:β)(l:List α)(k:Nat):l.foldl f b=(l.drop k).foldl f ((l.take k).foldl f b):=by
 rw[←List.foldl_append,sG]
theorem _root_.Cx.Tm.OK.len {t:Tm}(h:t.OK):t.args.length≤9223372036854775807:=by cases h with|mk o n xs h1 h2 h3 h4=>exact h3
theorem _root_.Cx.Tm.OK.arg {t:Tm}(h:t.OK){a:Tm}(ha:a∈t.args):a.OK:=by cases h with|mk o n xs h1 h2 h3 h4=>exact h4 a ha
theorem YC:∀(L:Nat) (t:Tm) (n:Int),t.OK→0≤n→n≤1000→L≤1000→aw T 100 [dQ t,.int n,.int L] (.int (jL L t n))
 |0,t,n,ht,h0,h1,hL=>by
  refine .of_tree rfl SL Z6 ?_;simp[Jo,jL]
 |L+1,t,n,ht,h0,h1,hL=>by
  refine .of_tree rfl SL Z6 ?_;have lV:IntKind.i64.wrap (n-1)=n-1:=cm (by omega);have hl:=ht.len;have lh:¬((L:Int)+1<1):=by omega
  simp[Jo,lV,lh]
  let g:Nat→Int:=fun k=>(t.args.take k).foldl (fun m a=>if 0≤m then jL L a m else m) (n-1)
  have gb:∀k,-1≤g k∧g k≤1000:=by
   intro k;have:g k=jL (L+1) (.mk 0 0 (t.args.take k)) n:=rfl;have:=size_le (L+1) (.mk 0 0 (t.args.take k)) n h0;omega
  refine .scan t.args.length (fun k=>0≤g k) (fun k=>[.int (g k),.int k]) (fun _=>[]) ?_ (fun k hk hj ho=>?_) (fun k hk hj ho=>?_) (fun hj=>?_)
  ·simp[g,lV]
  ·have hw:IntKind.i64.wrap ((k:Int)+1)=(k:Int)+1:=cm (by omega);have Hn:IntKind.i64.wrap (L:Int)=(L:Int):=cm (by omega);have hg:g (k+1)=jL L t.args[k] (g k):=by
    show(t.args.take (k+1)).foldl _ _=_;rw[aer _ _ hk];show(if 0≤g k then _ else _)=_;rw[if_pos ho]
   rw[hg];have ix:=YC L t.args[k] (g k) (ht.arg (ec hk)) ho (gb k).2 (by omega);generalize g k=m at*;simp[O2,DA,hk,ho,Hn];refine⟨_,ix,?_⟩;simp[hw]
  ·have hf:jL (L+1) t n=g k:=by
    show t.args.foldl _ _=_;rw[aeq _ _ _ k];exact ZQ L _ _ (by show g k<0;omega)
   rw[hf];generalize g k=m at*;simp[O2,DA,hk,ho]
  ·have hf:jL (L+1) t n=g t.args.length:=by
    show t.args.foldl _ _=(t.args.take t.args.length).foldl _ _;rw[List.take_length]
   rw[hf];generalize g t.args.length=m at*;simp[O2,DA]
theorem YB (t:Tm)(ht:t.OK):aw T 78 [dQ t] (.bool (decide (0≤jL 20 t 100))):=by
 refine .of_tree rfl (lA 57 (by kernel_rfl)) am4 ?_;simp[QB];refine⟨_,YC 20 t 100 ht (by omega) (by omega) (by omega),?_⟩;simp
def p7 (o:Order):Bool:=(decide (o.rules.length≤60)&&decide (o.choices.length≤60))&&gB o.rules.length (fun k=>decide (0≤jL 20 (o.rules.getD k default).term 100))
theorem YD (o:Order)(ho:o.OK):aw T 49 [kl o] (.bool (p7 o)):=by
 refine .of_tree rfl (lA 56 (by kernel_rfl)) am5 ?_;simp[QC];by_cases h1:(o.rules.length:Int)≤60
 case neg=>
  have dq:(60:Int)<o.rules.length:=by omega
  have hf:p7 o=false:=by
   have:decide (o.rules.length≤60)=false:=decide_eq_false (by omega);simp only[p7,this,uP]
  simp[dq,hf]
 by_cases h2:(o.choices.length:Int)≤60
 case neg=>
  have dq:(60:Int)<o.choices.length:=by omega
  have hf:p7 o=false:=by
   have:decide (o.choices.length≤60)=false:=decide_eq_false (by omega);simp only[p7,this,uP,Es]
  simp[dq,hf]
 have dq:¬(60:Int)<o.rules.length:=by omega
 have mI:¬(60:Int)<o.choices.length:=by omega
 have hf:p7 o=gB o.rules.length (fun k=>decide (0≤jL 20 (o.rules.getD k default).term 100)):=by
  have e1:decide (o.rules.length≤60)=true:=decide_eq_true (by omega);have e2:decide (o.choices.length≤60)=true:=decide_eq_true (by omega);simp only[p7,e1,e2,Et]
 rw[hf];simp[dq,mI];have hO:=ho.2.2;refine mi o.rules.length (fun k=>decide (0≤jL 20 (o.rules.getD k default).term 100)) (fun k=>[.bool false,.int k]) (fun _=>[]) ?_ (fun k hk ho=>?_) (fun k hk ho hb=>?_) (fun hj=>?_)
 ·simp
 ·have hw:=bS hk (by omega);simp[hk] at ho;simp[O3,DB,hk];refine⟨_,YB _ (hO _ (ec hk)).2,?_⟩;simp[ho,hw]
 ·simp only[aF] at hb;rw[hb];simp[hk] at ho;simp[O3,DB,hk];refine⟨_,YB _ (hO _ (ec hk)).2,?_⟩;simp[ho]
 ·simp only[aF] at hj;rw[hj];simp[O3,DB]
def Bo (f:File):Bool:=decide ((f.signs.length:Int)≤50)&&decide ((f.alters.length:Int)≤10)&&decide ((f.acts.length:Int)≤110)&&decide ((f.facts.length:Int)≤220)
theorem akP (f:File):aw T 48 [dg f] (.bool (Bo f)):=by
 refine .of_tree rfl (lA 55 (by kernel_rfl)) am3 ?_;simp[QA,Bo];by_cases h1:(f.signs.length:Int)≤50<;>by_cases h2:(f.alters.length:Int)≤10<;>by_cases h3:(f.acts.length:Int)≤110<;>by_cases h4:(f.facts.length:Int)≤220<;>
  simp[h1,h2,h3,h4]
end Rm
namespace Rm
open Go Go.Proofs Cx
def Bm (r:Realm)(k:Nat):Bool:=decide (((r.cities.getD k default).feasts.length:Int)≤70)&&decide (((r.cities.getD k default).shut.length:Int)≤210)&&decide (((r.cities.getD k default).rest.length:Int)≤8)
def Bn (r:Realm)(k:Nat):Bool:=decide (((r.orders.getD k default).choices.length:Int)≤40)&&decide (((r.orders.getD k default).rules.length:Int)≤40)
def Gc (r:Realm):Bool:=decide ((r.currencies.length:Int)<50)&&decide ((r.cities.length:Int)<50)&&decide ((r.groups.length:Int)<50)&&decide ((r.firms.length:Int)<210)&&decide ((r.orders.length:Int)<50)&&decide ((r.usances.length:Int)<110)&&decide ((r.rates.length:Int)<110)&&decide ((r.halts.length:Int)<50)
def oA (r:Realm):Bool:=gB (min r.cities.length 50) (Bm r)&&gB (min r.orders.length 50) (Bn r)&&Gc r
theorem akJ (r:Realm)(hr:r.OK):aw T 47 [bF r] (.bool (oA r)):=by
 refine .of_tree rfl (lA 54 (by kernel_rfl)) am1 ?_;simp[Qy];refine mi (min r.cities.length 50) (Bm r) (fun k=>[.bool false,.int k]) (fun _=>[]) ?_ (fun k hk ho=>?_) (fun k hk ho hb=>?_) (fun hj=>?_)
 ·simp
 ·have bH:k<r.cities.length:=by omega
  have bt:k<50:=by omega
  have hw:=bS bt (by omega);simp[Bm,bH] at ho;obtain⟨⟨a1,a2⟩,a3⟩:=ho;have b1:¬(70:Int)<r.cities[k].feasts.length:=by omega
  have b2:¬(210:Int)<r.cities[k].shut.length:=by omega
  have b3:¬(8:Int)<r.cities[k].rest.length:=by omega
  simp[Dz,wL,bH,bt,hw,b1,b2,b3];omega
 ·have bH:k<r.cities.length:=by omega
  have bt:k<50:=by omega
  have hf:oA r=false:=by simp only[oA,hb,uP]
  rw[hf];simp[Bm,bH] at ho;by_cases b1:(70:Int)<r.cities[k].feasts.length
  ·simp[Dz,wL,bH,bt,b1];omega
  by_cases b2:(210:Int)<r.cities[k].shut.length
  ·simp[Dz,wL,bH,bt,b1,b2];omega
  have b3:(8:Int)<r.cities[k].rest.length:=by have:=ho (by omega) (by omega);omega
  simp[Dz,wL,bH,bt,b1,b2,b3];omega
 ·have hn:¬((min r.cities.length 50:Nat):Int)<r.cities.length∨¬((min r.cities.length 50:Nat):Int)<50:=by omega
  simp[Dz,wL];rw[if_neg (by omega)];refine mi (min r.orders.length 50) (Bn r) (fun k=>[.bool false,.int k]) (fun _=>[]) ?_ (fun k hk ho=>?_) (fun k hk ho hb=>?_) (fun vG=>?_)
  ·simp
  ·have bH:k<r.orders.length:=by omega
   have bt:k<50:=by omega
   have hw:=bS bt (by omega);simp[Bn,bH] at ho;obtain⟨a1,a2⟩:=ho;have b1:¬(40:Int)<r.orders[k].choices.length:=by omega
   have b2:¬(40:Int)<r.orders[k].rules.length:=by omega
   simp[IK,zS,bH,bt,hw,b1,b2];omega
  ·have bH:k<r.orders.length:=by omega
   have bt:k<50:=by omega
   have hf:oA r=false:=by simp only[oA,hb,uP,Es]
   rw[hf];simp[Bn,bH] at ho;by_cases b1:(40:Int)<r.orders[k].choices.length
   ·simp[IK,zS,bH,bt,b1];omega
   have b2:(40:Int)<r.orders[k].rules.length:=by have:=ho (by omega);omega
   simp[IK,zS,bH,bt,b1,b2];omega
  ·have hf:oA r=Gc r:=by simp only[oA,hj,vG,Et]
   rw[hf];simp[IK,zS];rw[if_neg (by omega)];unfold Gc;by_cases c1:(r.currencies.length:Int)<50<;>simp[c1];by_cases c2:(r.cities.length:Int)<50<;>simp[c2];by_cases c3:(r.groups.length:Int)<50<;>simp[c3];by_cases c4:(r.firms.length:Int)<210<;>simp[c4];by_cases c5:(r.orders.length:Int)<50<;>simp[c5];by_cases c6:(r.usances.length:Int)<110<;>simp[c6];by_cases c7:(r.rates.length:Int)<110<;>simp[c7]
theorem K6 {r:Realm}(hr:r.OK)(h:oA r=true):Small r:=by
 simp only[oA,Gc,aj,decide_eq_true_eq,EP] at h;obtain⟨⟨h1,h2⟩,⟨⟨⟨⟨⟨⟨⟨c1,c2⟩,c3⟩,c4⟩,c5⟩,c6⟩,c7⟩,c8⟩⟩:=h;obtain⟨k1,⟨k2,k2'⟩,⟨k3,k3'⟩,⟨k4,k4'⟩,⟨k5,k5'⟩,⟨k6,k6'⟩,⟨k7,k7'⟩,⟨k8,k8'⟩⟩:=hr;refine⟨by omega,by omega,by omega,by omega,by omega,by omega,by omega,by omega,fun c hc=>?_,fun o ho=>?_,fun x hx=>?_⟩
 ·obtain⟨k,hk,rfl⟩:=gy hc;have:=h1 k (by omega);simp[Bm,hk] at this;have:=k2' _ hc;exact⟨by omega,by omega,by omega,fun y hy=>this.2.2.2.1.2 y hy⟩
 ·obtain⟨k,hk,rfl⟩:=gy ho;have:=h2 k (by omega);simp[Bn,hk] at this;omega
 ·have:=k7' x hx;exact⟨this.2.2.1,this.2.2.2.1⟩
def ri (r:Realm)(f:File):Bool:=(oA r&&Bo f)&&gB r.orders.length (fun k=>p7 (r.orders.getD k default))
theorem akQ (r:Realm)(f:File)(hr:r.OK):aw T 24 [bF r,dg f] (.bool (ri r f)):=by
 refine .of_tree rfl (lA 53 (by kernel_rfl)) am6 ?_;simp[QD];refine⟨_,akJ r hr,?_⟩;cases e1:oA r
 ·simp[ri,e1]
 simp;refine⟨_,akP f,?_⟩;cases e2:Bo f
 ·simp[ri,e1,e2]
 have hs:=K6 hr e1;have ho:=hs.orders;have hf:ri r f=gB r.orders.length (fun k=>p7 (r.orders.getD k default)):=by simp only[ri,e1,e2,Et]
 rw[hf];simp;have hO:=hr.2.2.2.2.1.2;refine mi r.orders.length (fun k=>p7 (r.orders.getD k default)) (fun k=>[.bool false,.int k]) (fun _=>[]) ?_ (fun k hk ho=>?_) (fun k hk ho hb=>?_) (fun hj=>?_)
 ·simp
 ·have hw:=bS hk (by omega);simp[hk] at ho;simp[O4,DC,hk];refine⟨_,YD _ (hO _ (ec hk)),?_⟩;simp[ho,hw]
 ·simp only[aF] at hb;rw[hb];simp[hk] at ho;simp[O4,DC,hk];refine⟨_,YD _ (hO _ (ec hk)),?_⟩;simp[ho]
 ·simp only[aF] at hj;rw[hj];simp[O4,DC]
def Gk (r:Realm)(f:File):Bool:=ri r f&&decide (nk r=0)
def ot (n:Int):Int:=min (max n (-1099511627776)) 1099511627776
theorem Jh (n:Int):aw T 146 [.int n] (.int (ot n)):=by
 refine .of_tree rfl (lA 36 (by kernel_rfl)) anN ?_;simp[Rj,ot];by_cases h1:-1099511627776>n
 ·have:¬(1099511627776:Int)< -1099511627776:=by omega
  simp[h1];omega
 ·by_cases h2:(1099511627776:Int)<n
  ·simp[h1,h2];omega
  ·simp[h1,h2];omega
def mu (v:Int):Int×Bool:=if v<0∨19<v then(0,false) else if v<7 then(0,true) else(1,true)
theorem Z0 (v:Int):aw T 144 [.int v] (.tup [.int (mu v).1,.bool (mu v).2]):=by
 refine .of_tree rfl (lA 37 (by kernel_rfl)) anJ ?_;simp[Rf,mu];by_cases h1:v<0
 ·simp[h1]
 by_cases h2:19<v
 ·simp[h1,h2]
 by_cases h3:v<7
 ·simp[h1,h2,h3]
 ·simp[h1,h2,h3]
def CU (t:Tm):Int×Int:=
 if 0<t.args.length then(0,2) else if t.op=0 then(if ot t.n≠t.n then(0,3) else(0,0)) else if t.op=1 then(if t.n<0∨1<t.n then(0,3) else(1,0)) else if(mu t.n).2=false then(0,10) else((mu t.n).1,0)
theorem amh (t:Tm):aw T 142 [dQ t] (.tup [.int (CU t).1,.int (CU t).2]):=by
 refine .of_tree rfl (lA 35 (by kernel_rfl)) anO ?_;simp[Rk,CU];by_cases h0:0<t.args.length
 ·have kp:(0:Int)<t.args.length:=by omega
  simp[h0,kp]
 simp[h0];by_cases h1:t.op=0
 ·simp[h1];refine⟨_,Jh _,?_⟩;by_cases h2:ot t.n=t.n<;>simp[h2]
 by_cases h2:t.op=1
 ·simp[h1,h2];by_cases h3:t.n<0<;>by_cases h4:1<t.n<;>simp[h3,h4]
 simp[h1,h2];refine⟨_,Z0 _,?_⟩;cases h3:(mu t.n).2<;>simp[h3]
def fi (op:Int):List Int×Int:=
 if op=3 then([1],1) else if op=4∨op=5 then([1,1],1) else if op=6 then([1,-1,-1],-1) else if op=7 then([0,0],1) else if op=8 then([-1,-1],1) else([0,0],0)
def Bi (s:List Int×Int):D:=.agg [ints s.1,.int s.2]
@[simp] theorem ap6 (s:List Int×Int):(Bi s).cells=[ints s.1,.int s.2]:=_root_.id rfl
@[simp] theorem ap4 (s:List Int×Int):(Bi s).c 0=ints s.1:=_root_.id rfl
@[simp] theorem ap5 (s:List Int×Int):(Bi s).c 1=.int s.2:=_root_.id rfl
@[simp] theorem atC (s:List Int×Int):D.agg [ints s.1,.int s.2]=Bi s:=_root_.id rfl
@[simp] theorem auD (x y:Int):uB (.int x) 0 (.int y)=.int y:=_root_.id rfl
theorem amj (op:Int):aw T 143 [.int op] (Bi (fi op)):=by
 refine .of_tree rfl (lA 38 (by kernel_rfl)) anS ?_;simp[Rn,fi];by_cases h3:op=3
 ·simp[h3];rfl
 by_cases h4:op=4
 ·simp[h4];rfl
 by_cases h5:op=5
 ·simp[h5];rfl
 by_cases h6:op=6
 ·simp[h6];rfl
 by_cases h7:op=7
 ·simp[h7];rfl
 by_cases h8:op=8
 ·simp[h8];rfl
 simp[h3,h4,h5,h6,h7,h8];rfl
end Rm
namespace Rm
open Go Go.Proofs Cx
def fM (f:Tm→Int):List Tm→Int→Int
 |[],n=>n
 |a::l,n=>if 60<n+f a then n+f a else fM f l (n+f a)
def cL:Nat→Tm→Int
 |0,_=>61
 |L+1,t=>fM (cL L) t.args 1
def dV (f:Tm→Int)(l:List Tm):Int:=(l.map f).sum
theorem HM {f:Tm→Int}{l:List Tm}{k:Nat}(h:k<l.length):dV f (l.take (k+1))=dV f (l.take k)+f l[k]:=by
 unfold dV;rw[Af f h,List.sum_append];simp
theorem Ws {f:Tm→Int}:∀{l:List Tm} {n:Int} {k:Nat},(hk:k<l.length)→(∀j,j<k→n+dV f (l.take (j+1))≤60)→60<n+dV f (l.take (k+1))→fM f l n=n+dV f (l.take (k+1))
 |a::l,n,0,hk,_,h=>by
  simp[dV] at h ⊢;unfold fM;rw[if_pos (by omega)]
 |a::l,n,k+1,hk,hj,h=>by
  have h0:=hj 0 (by omega);simp[dV] at h0;unfold fM;rw[if_neg (by omega)];have e:∀j,n+dV f ((a::l).take (j+1+1))=n+f a+dV f (l.take (j+1)):=by intro j;simp[dV];omega
  rw[Ws (l:=l) (k:=k) (by simpa using hk) (fun j GW=>by have:=hj (j+1) (by omega);rw[e] at this;exact this) (by rw[←e];exact h),e]
theorem Wu {f:Tm→Int}:∀{l:List Tm} {n:Int},(∀j,j<l.length→n+dV f (l.take (j+1))≤60)→fM f l n=n+dV f l
 |[],n,_=>by simp[fM,dV]
 |a::l,n,hj=>by
  have h0:=hj 0 (by simp);simp[dV] at h0;unfold fM;rw[if_neg (by omega)];have e:∀j,n+dV f ((a::l).take (j+1+1))=n+f a+dV f (l.take (j+1)):=by intro j;simp[dV];omega
  rw[Wu (l:=l) (fun j fc=>by have:=hj (j+1) (by simpa using fc);rw[e] at this;exact this)];simp[dV];omega
theorem Wt {f:Tm→Int}(hf:∀a,1≤f a):∀{l:List Tm} {n:Int},n≤fM f l n
 |[],n=>by simp[fM]
 |a::l,n=>by
  unfold fM;have:=hf a;split
  ·omega
  ·have:=Wt hf (l:=l) (n:=n+f a);omega
theorem wj:∀(L:Nat) (t:Tm),1≤cL L t
 |0,t=>by simp[cL]
 |L+1,t=>Wt (wj L)
theorem Wv {f:Tm→Int}{B:Int}(hf:∀a,f a≤B)(hB:0≤B):∀{l:List Tm} {n:Int},n≤60→fM f l n≤60+B
 |[],n,h=>by simp[fM];omega
 |a::l,n,h=>by
  unfold fM;have:=hf a;split
  ·omega
  ·exact Wv hf hB (by omega)
theorem Wx:∀(L:Nat) (t:Tm),cL L t≤61+60*L
 |0,t=>by simp[cL]
 |L+1,t=>by
  have:=Wv (f:=cL L) (fun a=>Wx L a) (by omega) (l:=t.args) (n:=1) (by omega);show fM _ _ _≤_;omega
theorem Ww {f:Tm→Int}(hf:∀a,1≤f a):∀{l:List Tm} {n:Int},fM f l n≤60→(n:Int)+l.length≤60∧∀a,a∈l→f a≤60-n
 |[],n,h=>by simp[fM] at h ⊢;exact h
 |a::l,n,h=>by
  unfold fM at h;have:=hf a;split at h
  ·omega
  ·obtain⟨h1,h2⟩:=Ww hf h;refine⟨by simp;omega,fun b hb=>?_⟩;rcases df.1 hb with rfl|hb
   ·omega
   ·have:=h2 b hb;omega
theorem Ny {L:Nat}{t:Tm}(h:cL (L+1) t≤60):t.args.length≤59∧∀a,a∈t.args→cL L a≤60:=by
 obtain⟨h1,h2⟩:=Ww (wj L) h;exact⟨by omega,fun a ha=>by have:=h2 a ha;omega⟩
theorem PX:∀(L:Nat) (t:Tm) (lv:Int),t.OK→L≤8→lv=9-(L:Int)→aw T 131 [dQ t,.int lv] (.int (cL L t))
 |0,t,lv,ht,hL,Ma=>by
  refine .of_tree rfl SM Z7 ?_;subst Ma;simp[Jp,cL]
 |L+1,t,lv,ht,hL,Ma=>by
  refine .of_tree rfl SM Z7 ?_;have hl:=ht.len;have h8:¬(8<lv):=by omega
  have Hn:IntKind.i64.wrap (lv+1)=lv+1:=cm (by omega);simp[Jp,h8];refine .scan t.args.length (fun k=>1+dV (cL L) (t.args.take (k+1))≤60) (fun k=>[.int (1+dV (cL L) (t.args.take k)),.int k]) (fun _=>[]) ?_ (fun k hk hj ho=>?_) (fun k hk hj ho=>?_) (fun hj=>?_)
  ·simp[dV]
  all_goals try rw[HM hk] at ho
  ·have hw:IntKind.i64.wrap ((k:Int)+1)=(k:Int)+1:=cm (by omega);have ix:=PX L t.args[k] (lv+1) (ht.arg (ec hk)) (by omega) (by omega);rw[HM hk];have hs:0≤dV (cL L) (t.args.take k):=by
    unfold dV;have:∀(l:List Tm),0≤(l.map (cL L)).sum:=by
     intro l
     induction l with
     |nil=>simp
     |cons a l ih=>have:=wj L a;simp;omega
    exact this _
   have bW:=wj L t.args[k];generalize dV (cL L) (t.args.take k)=m at*;generalize cL L t.args[k]=v at*;have rH:IntKind.i64.wrap (1+m+v)=1+m+v:=cm (by omega);have dJ:¬60<1+m+v:=by omega
   simp[Pv,DZ,hk,Hn];refine⟨_,ix,?_⟩;simp[rH,dJ,hw];omega
  ·have ix:=PX L t.args[k] (lv+1) (ht.arg (ec hk)) (by omega) (by omega);have hf:cL (L+1) t=1+dV (cL L) (t.args.take (k+1)):=Ws hk hj (by rw[HM hk];omega);rw[hf,HM hk];have hs:0≤dV (cL L) (t.args.take k)∧1+dV (cL L) (t.args.take k)≤60:=by
    constructor
    ·unfold dV;have:∀(l:List Tm),0≤(l.map (cL L)).sum:=by
       intro l
       induction l with
       |nil=>simp
       |cons a l ih=>have:=wj L a;simp;omega
     exact this _
    ·cases k with
     |zero=>simp[dV]
     |succ k=>exact hj k (by omega)
   have bW:=wj L t.args[k];have bk:=Wx L t.args[k];generalize dV (cL L) (t.args.take k)=m at*;generalize cL L t.args[k]=v at*;have rH:IntKind.i64.wrap (1+m+v)=1+m+v:=cm (by omega);have dJ:60<1+m+v:=by omega
   simp[Pv,DZ,hk,Hn];refine⟨_,ix,?_⟩;simp[rH,dJ];omega
  ·have hf:cL (L+1) t=1+dV (cL L) t.args:=Wu hj;rw[hf];simp[Pv,DZ]
def mT (ws ts:List Int):Nat→Int
 |0=>-1
 |k+1=>if ws.getD k 0=-1∧mT ws ts k=-1 then ts.getD k 0 else mT ws ts k
def nK (ws ts:List Int)(k:Nat):Bool:=if ws.getD k 0=-1 then decide (mT ws ts k=-1)||decide (ts.getD k 0=mT ws ts k) else decide (ts.getD k 0=ws.getD k 0)
def wv (t:Tm)(ks:List Int):Int×Int:=
 if t.op<0∨13<t.op then(0,1) else if t.op=0∨t.op=1∨t.op=2 then CU t else
 if ks.length≠(fi t.op).1.length∨t.n≠0 then(0,2) else
 if gB (fi t.op).1.length (nK (fi t.op).1 ks)=false then(0,11) else if(fi t.op).2=-1 then(mT (fi t.op).1 ks (fi t.op).1.length,0) else((fi t.op).2,0)
def cB:Nat→Tm→Int×Int
 |0,_=>(0,0)
 |L+1,t=>if fp t.args.length (fun k=>(cB L (t.args.getD k default)).2)≠0 then(0,fp t.args.length (fun k=>(cB L (t.args.getD k default)).2)) else wv t (t.args.map fun a=>(cB L a).1)
theorem KI (L:Nat)(t:Tm):cB (L+1) t=if fp t.args.length (fun k=>(cB L (t.args.getD k default)).2)≠0 then(0,fp t.args.length (fun k=>(cB L (t.args.getD k default)).2)) else wv t (t.args.map fun a=>(cB L a).1):=rfl
theorem PN {α:Type}(A:List α)(z:α){k n:Nat}(hA:A.length=n)(hk:k<n):(A.take k++List.replicate (n-k) z).set k A[k]=A.take (k+1)++List.replicate (n-(k+1)) z:=by
 have h1:(A.take k).length=k:=by rw[db];omega
 rw[List.set_append_right _ _ (by omega),h1,JQ];have:n-k=(n-(k+1))+1:=by omega
 rw[this,List.replicate_succ,List.set_cons_zero,uV (by omega),jq];rfl
theorem alX (op:Int):(fi op).1.length≤3:=by
 unfold fi;repeat' split
 all_goals simp
theorem PW:∀(L:Nat) (t:Tm),t.OK→cL L t≤60→aw T 132 [dQ t] (.tup [.int (cB L t).1,.int (cB L t).2])
 |0,t,ht,hm=>by simp[cL] at hm
 |L+1,t,ht,hm=>by
  refine .of_tree rfl (lA 34 (by kernel_rfl)) anL ?_;obtain⟨hl,hp⟩:=Ny hm;simp[Rh];refine⟨by omega,?_⟩;refine wP t.args.length (fun k=>(cB L (t.args.getD k default)).2) (fun k=>[.int 0,.int 0,.int k]) (fun k=>[ints ((t.args.map fun a=>(cB L a).1).take k++List.replicate (t.args.length-k) 0)]) ?_ (fun k hk ho=>?_) (fun k hk ho hb=>?_) (fun hj=>?_)
  ·simp[ints]
  ·have hw:=bS hk (by omega);have cK:=ec hk;have ix:=PW L t.args[k] (ht.arg cK) (hp _ cK);have hs:=PN (t.args.map fun a=>(cB L a).1) 0 (n:=t.args.length) (by simp) hk;rw[←hs];have hlen:((t.args.map fun a=>(cB L a).1).take k++List.replicate (t.args.length-k) (0:Int)).length=t.args.length:=by simp;omega
   have hgk:(t.args.map fun a=>(cB L a).1)[k]'(by simpa using hk)=(cB L t.args[k]).1:=by simp
   rw[hgk];generalize (t.args.map fun a=>(cB L a).1).take k++List.replicate (t.args.length-k) (0:Int)=A at*;simp[hk] at ho;rw[ho] at ix;generalize (cB L t.args[k]).1=kd at*;simp[Pt,DX,hk];refine⟨_,ix,?_⟩;simp[hlen,hk,hw,ints]
  ·have cK:=ec hk;have ix:=PW L t.args[k] (ht.arg cK) (hp _ cK);have hf:cB (L+1) t=(0,(cB L (t.args.getD k default)).2):=by
    rw[KI,hb,if_pos ho]
   rw[hf];simp[hk] at ho ⊢;simp[Pt,DX,hk];refine⟨_,ix,?_⟩;simp[ho]
  ·have hf:cB (L+1) t=wv t (t.args.map fun a=>(cB L a).1):=by
    rw[KI,hj];simp
   rw[hf]
   have e0:(t.args.map fun a=>(cB L a).1).take t.args.length++List.replicate (t.args.length-t.args.length) 0=t.args.map fun a=>(cB L a).1:=by
    rw[JQ,sH (by simp)];simp
   rw[e0];have UW:(t.args.map fun a=>(cB L a).1).length=t.args.length:=by simp
   generalize (t.args.map fun a=>(cB L a).1)=ks at*;simp[Pt,DX];unfold wv;by_cases h1:t.op<0
   ·simp[h1]
   by_cases h2:13<t.op
   ·simp[h1,h2]
   simp[h1,h2];by_cases h3:t.op=0∨t.op=1∨t.op=2
   ·have kV:(t.op=0∨t.op=1)∨t.op=2:=by omega
    simp[h3,kV];refine⟨_,amh t,?_⟩;simp
   have kV:¬((t.op=0∨t.op=1)∨t.op=2):=by omega
   simp[h3,kV];refine⟨_,amj _,?_⟩;have hsl:=alX t.op;generalize fi t.op=sh at*;simp;by_cases h4:ks.length=sh.1.length
   case neg=>
    have rp:¬((ks.length:Int)=sh.1.length):=by omega
    have Gr:¬t.args.length=sh.1.length:=by omega
    simp[h4,rp,Gr]
   have rp:(ks.length:Int)=sh.1.length:=by omega
   have Gr:t.args.length=sh.1.length:=by omega
   by_cases h5:t.n=0
   case neg=>simp[h4,rp,Gr,h5]
   simp[h4,rp,Gr,h5];refine mi sh.1.length (nK sh.1 ks) (fun k=>[.int 0,.int 0,.int (mT sh.1 ks k),.int k]) (fun _=>[]) ?_ (fun k hk ho=>?_) (fun k hk ho hb=>?_) (fun hj=>?_)
   ·simp[mT]
   ·have hw:=bS hk (by omega);have bt:k<ks.length:=by omega
    simp only[mT];unfold nK at ho;simp only[aF,bo hk,bo bt,mD] at ho ⊢;generalize mT sh.1 ks k=c at*;by_cases a1:sh.1[k]=-1
    ·by_cases a2:c=-1
     ·simp[zV,um,hk,bt,hw,ints,a1,a2]
     ·simp[a1,a2] at ho;simp[zV,um,hk,bt,hw,ints,a1,a2,ho]
    ·simp[a1] at ho;simp[zV,um,hk,bt,hw,ints,a1,ho]
   ·rw[hb];have bt:k<ks.length:=by omega
    unfold nK at ho;simp only[aF,bo hk,bo bt,mD] at ho;generalize mT sh.1 ks k=c at*;by_cases a1:sh.1[k]=-1
    ·by_cases a2:c=-1
     ·simp[a1,a2] at ho
     ·simp[a1,a2] at ho;simp[zV,um,hk,bt,ints,a1,a2,ho]
    ·simp[a1] at ho;simp[zV,um,hk,bt,ints,a1,ho]
   ·rw[hj];simp[zV,um];by_cases a1:sh.2=-1<;>simp[a1]
def nl (t:Tm):Int×Int:=if 60<cL 8 t then(0,6) else cB 8 t
theorem ZZ (t:Tm)(ht:t.OK):aw T 111 [dQ t] (.tup [.int (nl t).1,.int (nl t).2]):=by
 refine .of_tree rfl (lA 32 (by kernel_rfl)) anH ?_;simp[Rd,nl];refine⟨_,PX 8 t 1 ht (by omega) (by omega),?_⟩;by_cases h:60<cL 8 t
 ·simp[h]
 simp[h];refine⟨_,PW 8 t ht (by omega),?_⟩;simp
end Rm
namespace Rm
open Go Go.Proofs Cx
abbrev u (n:Nat):D:=.v (.int .u64 n)
theorem aaj (n:Int):IntKind.u64.wrap n=n%18446744073709551616:=rfl
theorem En {n:Int}(h:0≤n∧n<18446744073709551616):IntKind.u64.wrap n=n:=by
 rw[aaj];omega
theorem wW {n:Nat}(h:n<18446744073709551616):IntKind.u64.wrap (n:Int)=n:=En (by omega)
theorem alY (a s:Nat)(h:s≤64):cU .shr .u64 a s=((a/2^s:Nat):Int):=by
 show Int.fdiv (a:Int) (2^(min (s:Int).toNat 64))=_;have:min (s:Int).toNat 64=s:=by simp;omega
 rw[this,aaz _ (Int.le_of_lt (Int.pow_pos (by decide)))];rw[Int.natCast_ediv,Int.natCast_pow];rfl
theorem J2 (a:Nat)(h:a<18446744073709551616):cU .and .u64 a 4294967295=((a%4294967296:Nat):Int):=by
 show IntKind.u64.wrap ((BitVec.ofInt 64 (a:Int)&&& BitVec.ofInt 64 4294967295).toNat:Nat)=_;have e:(BitVec.ofInt 64 (a:Int)&&& BitVec.ofInt 64 4294967295).toNat=a%4294967296:=by
  rw[BitVec.toNat_and];have e1:(BitVec.ofInt 64 (a:Int)).toNat=a:=by simp[BitVec.ofInt,BitVec.toNat_ofNat];omega
  have e2:(BitVec.ofInt 64 4294967295).toNat=2^32-1:=by decide
  rw[e1,e2,Nat.and_two_pow_sub_one_eq_mod]
 rw[e,wW (by omega)]
@[simp] theorem Ac (a:Nat):cU .shr .u64 a 32=((a/4294967296:Nat):Int):=alY a 32 (by decide)
set_option maxHeartbeats 2000000 in
theorem ajd (a b:Nat)(ha:a<18446744073709551616)(hb:b<18446744073709551616):aw T 157 [u a,u b] (.tup [u (a*b/18446744073709551616),u (a*b%18446744073709551616)]):=by
 refine .of_tree rfl (lA 46 (by kernel_rfl)) amu ?_;obtain⟨h1,h2,h3,h4⟩:=Go.Lib.mul64_hi a b ha hb;have elo:IntKind.u64.wrap ((a:Int)*(b:Int))=((a*b%18446744073709551616:Nat):Int):=by rw[aaj,Int.natCast_emod,Int.natCast_mul];rfl
 have KV:cU .shr .u64 (a:Int) 32=((a/4294967296:Nat):Int):=Ac a;have ea0:cU .and .u64 (a:Int) 4294967295=((a%4294967296:Nat):Int):=J2 a ha;have KW:cU .shr .u64 (b:Int) 32=((b/4294967296:Nat):Int):=Ac b;have eb0:cU .and .u64 (b:Int) 4294967295=((b%4294967296:Nat):Int):=J2 b hb;have asO:=Go.Lib.half_mul_le (a:=a/4294967296) (b:=b/4294967296) (by omega) (by omega);have asN:=Go.Lib.half_mul_le (a:=a/4294967296) (b:=b%4294967296) (by omega) (by omega);have asM:=Go.Lib.half_mul_le (a:=a%4294967296) (b:=b/4294967296) (by omega) (by omega);have asL:=Go.Lib.half_mul_le (a:=a%4294967296) (b:=b%4294967296) (by omega) (by omega);have L3:a*b/18446744073709551616<18446744073709551616:=by
  have:a*b<18446744073709551616*18446744073709551616:=Nat.mul_lt_mul'' ha hb;exact Nat.div_lt_of_lt_mul this
 simp only[P4];generalize a/4294967296=a1 at*;generalize a%4294967296=a0 at*;generalize b/4294967296=b1 at*;generalize b%4294967296=b0 at*;have p11:IntKind.u64.wrap ((a1:Int)*(b1:Int))=((a1*b1:Nat):Int):=by rw[←Int.natCast_mul];exact wW (by omega)
 have p10:IntKind.u64.wrap ((a1:Int)*(b0:Int))=((a1*b0:Nat):Int):=by rw[←Int.natCast_mul];exact wW (by omega)
 have p01:IntKind.u64.wrap ((a0:Int)*(b1:Int))=((a0*b1:Nat):Int):=by rw[←Int.natCast_mul];exact wW (by omega)
 have p00:IntKind.u64.wrap ((a0:Int)*(b0:Int))=((a0*b0:Nat):Int):=by rw[←Int.natCast_mul];exact wW (by omega)
 rw[←h4] at L3 ⊢;generalize a1*b1=P at*;generalize a1*b0=Q at*;generalize a0*b1=R at*;generalize a0*b0=S at*;have s1:cU .shr .u64 (S:Int) 32=((S/4294967296:Nat):Int):=Ac S;have s2:IntKind.u64.wrap ((Q:Int)+((S/4294967296:Nat):Int))=((Q+S/4294967296:Nat):Int):=by rw[En (by omega)];omega
 generalize S/4294967296=S1 at*;generalize hT:Q+S1=TT at*;have s3:cU .shr .u64 (TT:Int) 32=((TT/4294967296:Nat):Int):=Ac TT;have s4:cU .and .u64 (TT:Int) 4294967295=((TT%4294967296:Nat):Int):=J2 TT (by omega);have s5:IntKind.u64.wrap (((TT%4294967296:Nat):Int)+(R:Int))=((TT%4294967296+R:Nat):Int):=by rw[En (by omega)];omega
 generalize hU:TT%4294967296+R=U at*;have s6:cU .shr .u64 (U:Int) 32=((U/4294967296:Nat):Int):=Ac U;have s7:IntKind.u64.wrap ((P:Int)+((TT/4294967296:Nat):Int))=((P+TT/4294967296:Nat):Int):=by rw[En (by omega)];omega
 have s8:IntKind.u64.wrap (((P+TT/4294967296:Nat):Int)+((U/4294967296:Nat):Int))=((P+TT/4294967296+U/4294967296:Nat):Int):=by rw[En (by omega)];omega
 simp[-Ac,-Int.natCast_add,-Int.natCast_mul,-Int.natCast_ediv,-Int.natCast_emod,elo,KV,ea0,KW,eb0,p11,p10,p01,p00,s1,s2,s3,s4,s5,s6,s7,s8]
def rX (m:Nat):Int:=if m<1099511627776 then m else 1099511627776
def zC (a b:Int):Int:=if(decide (a<0)!=decide (b<0))=true then-rX (a.natAbs*b.natAbs) else rX (a.natAbs*b.natAbs)
theorem Ye (m:Nat):0≤rX m∧rX m≤1099511627776:=by unfold rX;split<;>omega
set_option maxHeartbeats 1000000 in
theorem ami (a b:Int)(ha:-1099511627776≤a∧a≤1099511627776)(hb:-1099511627776≤b∧b≤1099511627776):aw T 156 [.int a,.int b] (.int (zC a b)):=by
 refine .of_tree rfl (lA 45 (by kernel_rfl)) anR ?_;have wa:IntKind.u64.wrap (a.natAbs:Int)=a.natAbs:=wW (by omega);have wb:IntKind.u64.wrap (b.natAbs:Int)=b.natAbs:=wW (by omega);have w0a:IntKind.i64.wrap (0-a)=-a:=by rw[cm (by omega)];omega
 have w0b:IntKind.i64.wrap (0-b)=-b:=by rw[cm (by omega)];omega
 have aoj:IntKind.i64.wrap (-a)=-a:=cm (by omega);have aok:IntKind.i64.wrap (-b)=-b:=cm (by omega);have ea:(if a< -a then D.int (-a) else D.int a)=D.int a.natAbs:=by split<;>congr 1<;>omega
 have eb:(if b< -b then D.int (-b) else D.int b)=D.int b.natAbs:=by split<;>congr 1<;>omega
 have ea':(if a< -a then-a else a)=(a.natAbs:Int):=by split<;>omega
 have eb':(if b< -b then-b else b)=(b.natAbs:Int):=by split<;>omega
 simp[Rm,aoj,aok,ea,eb,ea',eb'];rw[wa,wb];refine⟨_,ajd a.natAbs b.natAbs (by omega) (by omega),?_⟩;unfold zC;generalize a.natAbs*b.natAbs=m;have hs:(decide (a<0)!=decide (b<0))=false↔(a<0↔b<0):=by
  by_cases h1:a<0<;>by_cases h2:b<0<;>simp[h1,h2]
 have key:((if((m/18446744073709551616:Nat):Int)=0∧((m%18446744073709551616:Nat):Int)<1099511627776 then IntKind.i64.wrap ((m%18446744073709551616:Nat):Int) else 1099511627776):Int)=rX m:=by
  unfold rX;by_cases hm:m<1099511627776
  ·have h1:m/18446744073709551616=0:=by omega
   have h2:m%18446744073709551616=m:=by omega
   rw[h1,h2,if_pos ⟨rfl,by omega⟩,if_pos hm,cm (by omega)]
  ·rw[if_neg hm,if_neg];rintro⟨h1,h2⟩;omega
 have gg:=Ye m;have ah0:(if((m/18446744073709551616:Nat):Int)=0∧((m%18446744073709551616:Nat):Int)<1099511627776 then D.int (IntKind.i64.wrap ((m%18446744073709551616:Nat):Int)) else D.int 1099511627776)=D.int (rX m):=by
  rw[←key];split<;>rfl
 show(if a<0↔b<0 then(if((m/18446744073709551616:Nat):Int)=0∧((m%18446744073709551616:Nat):Int)<1099511627776 then D.int (IntKind.i64.wrap ((m%18446744073709551616:Nat):Int)) else D.int 1099511627776)=_ else
  IntKind.i64.wrap (-(if((m/18446744073709551616:Nat):Int)=0∧((m%18446744073709551616:Nat):Int)<1099511627776 then IntKind.i64.wrap ((m%18446744073709551616:Nat):Int) else 1099511627776))=_)
 rw[ah0,key];generalize rX m=n at*;split
 ·rename_i h;rw[hs.2 h];simp
 ·rename_i h;have:(decide (a<0)!=decide (b<0))=true:=by
   cases e:(decide (a<0)!=decide (b<0)) with
   |true=>rfl
   |false=>exact absurd (hs.1 e) h
  rw[this,cm (by omega)];simp
def xg (op a b:Int):Int:=if op=9 then ot (a+b) else if op=10 then ot (a-b) else if op=11 then zC a b else if op=12 then min a b else max a b
theorem amf (op a b:Int)(ha:-1099511627776≤a∧a≤1099511627776)(hb:-1099511627776≤b∧b≤1099511627776):aw T 147 [.int op,.int a,.int b] (.int (xg op a b)):=by
 refine .of_tree rfl (lA 44 (by kernel_rfl)) anK ?_;have w1:IntKind.i64.wrap (a+b)=a+b:=cm (by omega);have w2:IntKind.i64.wrap (a-b)=a-b:=cm (by omega);simp[Rg,xg,w1,w2];by_cases h1:op=9
 ·simp[h1];exact Jh _
 by_cases h2:op=10
 ·simp[h1,h2];exact Jh _
 by_cases h3:op=11
 ·simp[h1,h2,h3];exact ami a b ha hb
 by_cases h4:op=12
 ·simp[h1,h2,h3,h4];by_cases h5:b<a<;>simp[h5]<;>omega
 simp[h1,h2,h3,h4];by_cases h5:b>a<;>simp[h5]<;>omega
def gI (b:Bool):Cell:=if b then⟨true,1⟩ else⟨true,0⟩
theorem uE (b:Bool):aw T 145 [.bool b] (cV (gI b)):=by
 refine .of_tree rfl (lA 42 (by kernel_rfl)) anT ?_;cases b<;>simp[Ro,gI]<;>rfl
def eR:Cell:=⟨false,0⟩
@[simp] theorem atH:D.agg [.bool false,.int 0]=cV eR:=_root_.id rfl
@[simp] theorem atI:eR.known=false:=rfl
@[simp] theorem atJ:eR.n=0:=rfl
def cellAt (cs:List Cell)(v:Int):Cell:=cs.getD v.toNat default
def lF (cs:List Cell)(v:Int):Cell:=if cs.length≤v.toNat∨(cellAt cs v).known=false then eR else if(mu v).1=1 then gI (decide ((cellAt cs v).n≠0)) else⟨true,ot (cellAt cs v).n⟩
abbrev KY (cs:List Cell):D:=.agg [cells cs]
theorem amk (cs:List Cell)(v:Int)(hv:0≤v):aw T 133 [KY cs,.int v] (cV (lF cs v)):=by
 refine .of_tree rfl (lA 41 (by kernel_rfl)) anQ ?_;obtain⟨k,rfl⟩:=uR hv;simp[Rl,lF,cellAt];by_cases h1:cs.length≤k
 ·simp[h1]
 have dq:k<cs.length:=by omega
 simp[h1,dq];cases h2:cs[k].known
 ·simp[h2]
 simp[h2];refine⟨_,Z0 _,?_⟩;by_cases h3:(mu k).1=1
 ·simp[h3,dq];refine⟨_,uE _,?_⟩;simp;rfl
 ·simp[h3,dq];refine⟨_,Jh _,?_⟩;simp;rfl
@[simp] theorem as5 (a b:Int):(a==b)=decide (a=b):=_root_.id rfl
@[simp] theorem as6 (a b:Int):(a !=b)= !decide (a=b):=_root_.id rfl
def bh (l:List Cell)(k:Nat):Cell:=l.getD k default
def gN (op:Int)(l:List Cell):Cell:=
 if op=3 then(if(bh l 0).known=true then gI (decide ((bh l 0).n=0)) else eR)
 else if(op=4∨op=5)∧(bh l 0=gI (decide (op=5))∨bh l 1=gI (decide (op=5))) then gI (decide (op=5))
 else if op=6 then(if(bh l 1).known=true∧bh l 1=bh l 2 then bh l 1 else eR)
 else if(bh l 0).known=false∨(bh l 1).known=false then eR
 else if op=4∨op=5 then gI (decide (op=4))
 else if op=7 then gI (decide ((bh l 0).n<(bh l 1).n)) else if op=8 then gI (decide ((bh l 0).n=(bh l 1).n)) else⟨true,xg op (bh l 0).n (bh l 1).n⟩
theorem abF (a b:Cell):a=b↔a.known=b.known∧a.n=b.n:=by cases a;cases b;simp
theorem amg (op:Int)(l:List Cell)(h1:1≤l.length)(h2:op≠3→2≤l.length)(h3:op=6→3≤l.length)
 (hb:9≤op→(-1099511627776≤(bh l 0).n∧(bh l 0).n≤1099511627776)∧(-1099511627776≤(bh l 1).n∧(bh l 1).n≤1099511627776)) (h9:op<3∨8<op→9≤op):
 aw T 134 [.int op,cells l] (cV (gN op l)):=by
 refine .of_tree rfl (lA 43 (by kernel_rfl)) anM ?_;have g0:0<l.length:=by omega
 have vt:l[0]=bh l 0:=by simp[bh,g0]
 simp[Ri];unfold gN;by_cases o3:op=3
 ·simp[o3,g0,vt];cases e:(bh l 0).known
  ·simp
  ·simp[g0];refine⟨_,uE _,?_⟩;simp
 have g1:1<l.length:=by have:=h2 o3;omega
 have BB:l[1]=bh l 1:=by simp[bh,g1]
 have jy:(1:Int)<l.length:=by omega
 simp[o3];have fin:∀a b:Cell,(a=b)=(a.known=b.known∧a.n=b.n):=fun a b=>propext (abF a b);rcases Eu (op=4) with o4|o4
 ·subst o4;simp;refine⟨_,uE _,?_⟩;simp[g0,g1,jy,vt,BB,fin];split
  ·rfl
  ·split
   ·rfl
   ·refine⟨_,uE _,?_⟩;simp
 rcases Eu (op=5) with o5|o5
 ·subst o5;simp;refine⟨_,uE _,?_⟩;simp[g0,g1,jy,vt,BB,fin];split
  ·rfl
  ·split
   ·rfl
   ·refine⟨_,uE _,?_⟩;simp
 rcases Eu (op=6) with o6|o6
 ·subst o6;have g2:2<l.length:=by have:=h3 rfl;omega
  have gg2:l[2]=bh l 2:=by simp[bh,g2]
  have sZ:(2:Int)<l.length:=by omega
  simp[g1,g2,jy,sZ,BB,gg2,fin];cases e1:(bh l 1).known
  ·simp
  by_cases e2:(bh l 1).known=(bh l 2).known∧(bh l 1).n=(bh l 2).n
  ·rw[e1] at e2;simp[e1,e2]
  ·rw[e1] at e2;have sQ:¬((bh l 2).known=true∧(bh l 1).n=(bh l 2).n):=fun h=>e2 ⟨h.1.symm,h.2⟩;simp only[e1,true_and,if_true]
   first|(rw[if_neg sQ,if_neg sQ])|(simp[sQ])
 simp[o4,o5,o6,g0,g1,jy,vt,BB];cases e1:(bh l 0).known
 ·simp
 cases e2:(bh l 1).known
 ·simp
 simp[g1,jy,BB];rcases Eu (op=7) with o7|o7
 ·subst o7;simp;refine⟨_,uE _,?_⟩;simp
 rcases Eu (op=8) with o8|o8
 ·subst o8;simp;refine⟨_,uE _,?_⟩;simp
 simp[o7,o8];obtain⟨b1,b2⟩:=hb (h9 (by omega));refine⟨_,amf op _ _ b1 b2,?_⟩;simp;rfl
end Rm
namespace Rm
open Go Go.Proofs Cx
def bL:Nat→List Cell→Tm→Cell
 |0,_,_=>eR
 |L+1,cs,t=>if t.op=0∨t.op=1 then⟨true,t.n⟩ else if t.op=2 then lF cs t.n else
   if t.op=6∧(bh (t.args.map (bL L cs)) 0).known=true then bh (t.args.map (bL L cs)) (2-(bh (t.args.map (bL L cs)) 0).n).toNat else gN t.op (t.args.map (bL L cs))
def eB:Nat→List Cell→Tm→List Int
 |0,_,_=>[]
 |L+1,cs,t=>if t.op=0∨t.op=1 then[] else if t.op=2 then(if(lF cs t.n).known=true then[] else[t.n]) else
   if t.op=6∧(bh (t.args.map (bL L cs)) 0).known=true then(t.args.map (eB L cs)).getD (2-(bh (t.args.map (bL L cs)) 0).n).toNat [] else
   if(gN t.op (t.args.map (bL L cs))).known=true then[] else(t.args.map (eB L cs)).flatten
theorem Ga (L:Nat)(cs:List Cell)(t:Tm):bL (L+1) cs t=if t.op=0∨t.op=1 then⟨true,t.n⟩ else if t.op=2 then lF cs t.n else
 if t.op=6∧(bh (t.args.map (bL L cs)) 0).known=true then bh (t.args.map (bL L cs)) (2-(bh (t.args.map (bL L cs)) 0).n).toNat else gN t.op (t.args.map (bL L cs)):=rfl
theorem HQ (L:Nat)(cs:List Cell)(t:Tm):eB (L+1) cs t=if t.op=0∨t.op=1 then[] else if t.op=2 then(if(lF cs t.n).known=true then[] else[t.n]) else
 if t.op=6∧(bh (t.args.map (bL L cs)) 0).known=true then(t.args.map (eB L cs)).getD (2-(bh (t.args.map (bL L cs)) 0).n).toNat [] else
 if(gN t.op (t.args.map (bL L cs))).known=true then[] else(t.args.map (eB L cs)).flatten:=rfl
theorem KJ {L:Nat}{t:Tm}{k:Int}(h:cB (L+1) t=(k,0)):(∀a,a∈t.args→(cB L a).2=0)∧wv t (t.args.map fun a=>(cB L a).1)=(k,0):=by
 rw[KI] at h;by_cases e:fp t.args.length (fun k=>(cB L (t.args.getD k default)).2)=0
 ·rw[if_neg (by simpa using e)] at h;refine⟨fun a ha=>?_,h⟩;obtain⟨j,hj,rfl⟩:=gy ha;have:=Lc.1 e j hj;simpa [hj] using this
 ·rw[if_pos e] at h;injection h with _ h
  exact absurd h e
inductive Node (ks:List Int) (t:Tm):Int→Prop where
 |int (h:t.op=0) (ha:t.args=[]) (hn:-1099511627776≤t.n∧t.n≤1099511627776):Node ks t 0
 |bool (h:t.op=1) (ha:t.args=[]) (hn:t.n=0∨t.n=1):Node ks t 1
 |var (h:t.op=2) (ha:t.args=[]) (hn:0≤t.n∧t.n≤19):Node ks t (mu t.n).1
 |not (h:t.op=3) (hk:ks=[1]):Node ks t 1
 |log (h:t.op=4∨t.op=5) (hk:ks=[1,1]):Node ks t 1
 |ite (k:Int) (h:t.op=6) (hk:ks=[1,k,k]):Node ks t k
 |less (h:t.op=7) (hk:ks=[0,0]):Node ks t 1
 |equal (k:Int) (h:t.op=8) (hk:ks=[k,k]):Node ks t 1
 |num (h:9≤t.op∧t.op≤13) (hk:ks=[0,0]):Node ks t 0
theorem aog (v:Int):(mu v).1=0∨(mu v).1=1:=by
 unfold mu;repeat' split
 all_goals simp
theorem ajv {t:Tm}{ks:List Int}{k:Int}(hl:ks.length=t.args.length)(iV:∀x,x∈ks→x=0∨x=1)(h:wv t ks=(k,0)):Node ks t k:=by
 unfold wv at h;split at h
 ·injection h with _ h;cases h
 rename_i bQ;split at h
 ·rename_i h3;unfold CU at h;split at h
  ·injection h with _ h;cases h
  rename_i ha0;have ha:t.args=[]:=JB (by omega);split at h
  ·rename_i h0;split at h
   ·injection h with _ h;cases h
   ·rename_i hc;injection h with h _
    subst h;refine .int h0 ha ?_;unfold ot at hc;omega
  split at h
  ·rename_i h0;split at h
   ·injection h with _ h;cases h
   ·rename_i hc;injection h with h _
    subst h;exact .bool h0 ha (by omega)
  split at h
  ·injection h with _ h;cases h
  ·rename_i g0 g1 hc;injection h with h _
   subst h;refine .var (by omega) ha ?_;unfold mu at hc;split at hc
   ·simp at hc
   ·omega
 rename_i h3;split at h
 ·injection h with _ h;cases h
 rename_i hlen;have nB:ks.length=(fi t.op).1.length:=by
  refine w6 fun hh=>hlen (.inl hh)
 split at h
 ·injection h with _ h;cases h
 rename_i ax;have iv:∀j,j<(fi t.op).1.length→nK (fi t.op).1 ks j=true:=EP.1 (by simpa using ax)
 have two:∀{n:Nat},ks.length=2→∃a b,ks=[a,b]:=fun h=>by
  match ks,h with
  |[a,b],_=>exact⟨a,b,rfl⟩
 by_cases o3:t.op=3
 ·have e:fi t.op=([1],1):=by simp[fi,o3]
  rw[e] at nB iv h
  match ks,nB with
  |[a],_=>
   have:=iv 0 (by simp);simp[nK] at this;simp at h;subst h this;exact .not o3 rfl
 by_cases HT:t.op=4∨t.op=5
 ·have e:fi t.op=([1,1],1):=by simp[fi,o3,HT]
  rw[e] at nB iv h
  match ks,nB with
  |[a,b],_=>
   have t1:=iv 0 (by simp);have t2:=iv 1 (by simp);simp[nK] at t1 t2;simp at h;subst h t1 t2;exact .log HT rfl
 by_cases o6:t.op=6
 ·have e:fi t.op=([1,-1,-1],-1):=by simp[fi,o6]
  rw[e] at nB iv h
  match ks,nB,iV with
  |[a,b,c],_,iV=>
   have t1:=iv 0 (by simp);have t3:=iv 2 (by simp);have hb:=iV b (by simp);have qa:¬b=-1:=by omega
   simp[nK] at t1;simp[nK,mT,qa] at t3;simp[mT,qa] at h;subst h t1 t3;exact .ite _ o6 rfl
 by_cases o7:t.op=7
 ·have e:fi t.op=([0,0],1):=by simp[fi,o7]
  rw[e] at nB iv h
  match ks,nB with
  |[a,b],_=>
   have t1:=iv 0 (by simp);have t2:=iv 1 (by simp);simp[nK] at t1 t2;simp at h;subst h t1 t2;exact .less o7 rfl
 by_cases o8:t.op=8
 ·have e:fi t.op=([-1,-1],1):=by simp[fi,o8]
  rw[e] at nB iv h
  match ks,nB,iV with
  |[a,b],_,iV=>
   have t2:=iv 1 (by simp);have ha:=iV a (by simp);have han:¬a=-1:=by omega
   simp[nK,mT,han] at t2;simp at h;subst h t2;exact .equal _ o8 rfl
 have e:fi t.op=([0,0],0):=by simp[fi,o3,HT,o6,o7,o8]
 rw[e] at nB iv h
 match ks,nB with
 |[a,b],_=>
  have t1:=iv 0 (by simp);have t2:=iv 1 (by simp);simp[nK] at t1 t2;simp at h;subst h t1 t2;exact .num (by omega) rfl
theorem KK:∀{L:Nat} {t:Tm} {k:Int},cB (L+1) t=(k,0)→Node (t.args.map fun a=>(cB L a).1) t k∧(k=0∨k=1)
 |L,t,k,h=>by
  obtain⟨h1,h2⟩:=KJ h
  have iV:∀x,x∈(t.args.map fun a=>(cB L a).1)→x=0∨x=1:=by
   intro x hx;obtain⟨a,ha,rfl⟩:=eE.1 hx;cases L with
   |zero=>exact .inl rfl
   |succ L=>exact(KK (L:=L) (t:=a) (k:=(cB (L+1) a).1) (by rw[←h1 a ha])).2
  have hn:=ajv (by simp) iV h2;refine⟨hn,?_⟩;cases hn with
  |int=>simp
  |bool=>simp
  |var=>exact aog _
  |not=>simp
  |log=>simp
  |ite k _ hk=>exact iV k (by rw[hk];simp)
  |less=>simp
  |equal=>simp
  |num=>simp
end Rm
namespace Rm
open Go Go.Proofs Cx
def uY (k:Int)(c:Cell):Prop:=(c.known=false→c=eR)∧(c.known=true→(k=1→c.n=0∨c.n=1)∧(k=0→-1099511627776≤c.n∧c.n≤1099511627776))
theorem uq (k:Int):uY k eR:=⟨fun _=>rfl,fun h=>by cases h⟩
theorem zY (b:Bool):uY 1 (gI b):=⟨fun h=>(by cases b<;>cases h),fun _=>⟨fun _=>(by cases b<;>simp[gI]),fun h=>by cases h⟩⟩
theorem KO (n:Int):-1099511627776≤ot n∧ot n≤1099511627776:=by unfold ot;omega
theorem alw (cs:List Cell)(v:Int)(hv:0≤v∧v≤19):uY (mu v).1 (lF cs v):=by
 unfold lF;split
 ·exact uq _
 ·split
  ·rename_i h;rw[h];exact zY _
  ·rename_i h;refine⟨fun h=>(by cases h),fun _=>⟨fun h'=>absurd h' h,fun _=>KO _⟩⟩
theorem akE (a b:Int):-1099511627776≤zC a b∧zC a b≤1099511627776:=by
 unfold zC;have:=Ye (a.natAbs*b.natAbs);split<;>omega
theorem aa3 (op a b:Int)(ha:-1099511627776≤a∧a≤1099511627776)(hb:-1099511627776≤b∧b≤1099511627776):-1099511627776≤xg op a b∧xg op a b≤1099511627776:=by
 unfold xg;split
 ·exact KO _
 split
 ·exact KO _
 split
 ·exact akE _ _
 split<;>omega
theorem ai1 {α β:Type}{f:α→β}{l:List α}{x:β}(h:l.map f=[x]):∃a,l=[a]∧f a=x:=by
 match l,h with
 |[a],h=>exact⟨a,rfl,by simpa using h⟩
theorem za {α β:Type}{f:α→β}{l:List α}{x y:β}(h:l.map f=[x,y]):∃a b,l=[a,b]∧f a=x∧f b=y:=by
 match l,h with
 |[a,b],h=>exact⟨a,b,rfl,by simpa using h⟩
theorem Nw {α β:Type}{f:α→β}{l:List α}{x y z:β}(h:l.map f=[x,y,z]):∃a b c,l=[a,b,c]∧f a=x∧f b=y∧f c=z:=by
 match l,h with
 |[a,b,c],h=>exact⟨a,b,c,rfl,by simpa using h⟩
theorem TB:∀{L:Nat} {t:Tm} {k:Int} (cs:List Cell),cB L t=(k,0)→uY k (bL L cs t)
 |0,t,k,cs,h=>uq _
 |L+1,t,k,cs,h=>by
  obtain⟨hn,hk⟩:=KK h;obtain⟨ha,_⟩:=KJ h;have ih:∀a,a∈t.args→uY (cB L a).1 (bL L cs a):=fun a hm=>TB cs (show cB L a=((cB L a).1,0) by rw[←ha a hm]);rw[Ga];cases hn with
  |int h0 ha hn=>rw[if_pos (.inl h0)];exact⟨fun h=>(by cases h),fun _=>⟨fun h=>(by cases h),fun _=>hn⟩⟩
  |bool h0 ha hn=>rw[if_pos (.inr h0)];exact⟨fun h=>(by cases h),fun _=>⟨fun _=>hn,fun h=>by cases h⟩⟩
  |var h0 ha hn=>rw[if_neg (by omega),if_pos h0];exact alw cs _ hn
  |not h0 hk=>
   rw[if_neg (by omega),if_neg (by omega),if_neg (by omega)];unfold gN;rw[if_pos h0];split
   ·exact zY _
   ·exact uq _
  |log h0 hk=>
   rw[if_neg (by omega),if_neg (by omega),if_neg (by omega)];unfold gN;rw[if_neg (by omega)];split
   ·exact zY _
   rw[if_neg (by omega)];split
   ·exact uq _
   exact zY _
  |ite k h0 bt=>
   obtain⟨a,b,c,hl,e1,e2,e3⟩:=Nw bt;rw[hl] at ih ⊢;have r1:=ih a (by simp);have r2:=ih b (by simp);have r3:=ih c (by simp);rw[e1] at r1;rw[e2] at r2;rw[e3] at r3;rw[if_neg (by omega),if_neg (by omega)];simp only[gz,Av,bh,sB];split
   ·rename_i hh;rcases(r1.2 hh.2).1 rfl with h1|h1<;>rw[h1]
    ·exact r3
    ·exact r2
   ·unfold gN;rw[if_neg (by omega),if_neg (by omega),if_pos h0];simp only[bh,sB,At];split
    ·exact r2
    ·exact uq _
  |less h0 hk=>
   rw[if_neg (by omega),if_neg (by omega),if_neg (by omega)];unfold gN;rw[if_neg (by omega),if_neg (by omega),if_neg (by omega)];split
   ·exact uq _
   repeat' split
   all_goals exact zY _
  |equal k h0 hk=>
   rw[if_neg (by omega),if_neg (by omega),if_neg (by omega)];unfold gN;rw[if_neg (by omega),if_neg (by omega),if_neg (by omega)];split
   ·exact uq _
   repeat' split
   all_goals exact zY _
  |num h0 bt=>
   obtain⟨a,b,hl,e1,e2⟩:=za bt;rw[hl] at ih ⊢;have r1:=ih a (by simp);have r2:=ih b (by simp);rw[e1] at r1;rw[e2] at r2;rw[if_neg (by omega),if_neg (by omega),if_neg (by omega)];unfold gN;rw[if_neg (by omega),if_neg (by omega),if_neg (by omega)];simp only[gz,Av,bh,sB,At];split
   ·exact uq _
   rename_i Ca;rw[if_neg (by omega),if_neg (by omega),if_neg (by omega)];have k1:(bL L cs a).known=true:=by
    cases e:(bL L cs a).known with
    |true=>rfl
    |false=>exact absurd (.inl e) Ca
   have k2:(bL L cs b).known=true:=by
    cases e:(bL L cs b).known with
    |true=>rfl
    |false=>exact absurd (.inr e) Ca
   exact⟨fun h=>(by cases h),fun _=>⟨fun h=>(by cases h),fun _=>aa3 _ _ _ ((r1.2 k1).2 rfl) ((r2.2 k2).2 rfl)⟩⟩
theorem WH:∀(L:Nat) (cs:List Cell) (t:Tm),cL L t≤60→((eB L cs t).length:Int)≤cL L t
 |0,cs,t,h=>by simp[cL] at h
 |L+1,cs,t,h=>by
  have h1:=wj (L+1) t;obtain⟨hl,hp⟩:=Ny h;have hs:∀(l:List Tm) (n:Int),(∀a,a∈l→cL L a≤60)→fM (cL L) l n≤60→((l.map (eB L cs)).flatten.length:Int)+n≤fM (cL L) l n∧∀j,(((l.map (eB L cs)).getD j []).length:Int)+n≤fM (cL L) l n:=by
   intro l
   induction l with
   |nil=>intro n _ _;simp[fM]
   |cons a l ih=>
    intro n hp hm;have ha:=WH L cs a (hp a (by simp));unfold fM at hm ⊢;split at hm
    ·omega
    ·rename_i h60;rw[if_neg h60];obtain⟨i1,i2⟩:=ih (n+cL L a) (fun b hb=>hp b (by simp[hb])) hm;refine⟨by rw[gz,Sa,iK];omega,fun j=>?_⟩;cases j with
     |zero=>simp;omega
     |succ j=>have:=i2 j;simp at this ⊢;omega
  obtain⟨ja,er⟩:=hs t.args 1 hp h;rw[HQ];split
  ·simp;omega
  split
  ·split<;>simp<;>omega
  split
  ·have:=er (2-(bh (t.args.map (bL L cs)) 0).n).toNat;show _≤fM _ _ _;omega
  split
  ·simp;omega
  ·show _≤fM _ _ _;omega
@[simp] theorem auE (x y:List Int):uB (ints x) 0 (ints y)=ints y:=_root_.id rfl
@[simp] theorem al4 (x y:Cell):uB (cV x) 0 (cV y)=cV y:=_root_.id rfl
@[simp] theorem as7 (a b:List Int):D.list (a.map D.int++b.map D.int)=ints (a++b):=by simp[ints]
def lists (l:List (List Int)):D:=.list (l.map ints)
@[simp] theorem atj (l:List (List Int)):(lists l).l=l.map ints:=_root_.id rfl
theorem aaq (l:List (List Int))(hl:l.length≤1000)(hs:l.flatten.length≤1000000):aw T 135 [lists l] (ints l.flatten):=by
 refine .of_tree rfl (lA 47 (by kernel_rfl)) anv ?_;simp[Q0];have hb:∀k,(l.take k).flatten.length≤l.flatten.length:=by
  intro k
  conv=>rhs;rw[←sG k l]
  rw[List.flatten_append,iK];omega
 have bH:∀k (hk:k<l.length),(l.take (k+1)).flatten=(l.take k).flatten++l[k]:=fun k hk=>by
  rw[uV hk,List.flatten_append];simp
 refine aS.forRounds l.length (fun k=>[.int ((l.take k).flatten.length:Nat),.int k]) (fun k=>[]) ?_ (fun k hk=>?_) ?_
 ·simp
 ·have hw:=bS hk (by omega);have h1:=bH k hk;have h2:=hb (k+1);rw[h1] at h2 ⊢;rw[iK] at h2 ⊢;generalize (l.take k).flatten.length=m at*;have rH:IntKind.i64.wrap ((m:Int)+(l[k].length:Int))=(m:Int)+l[k].length:=cm (by omega);have Ci:¬((m:Int)+l[k].length<0):=by omega
  simp[Za,IS,hk,hw,rH,Ci]
 ·simp[Za,IS];have yN:aw T 148 [.list [],.int (l.flatten.length:Nat)] (.list []):=by
   refine .of_ext (g:=fun _ ds=>Gm ds) rfl ⟨0,fun _ _=>?_⟩;show(if(0:Int)≤(l.flatten.length:Nat)∧((l.flatten.length:Nat):Int)≤4294967296 then some (D.list []) else none)=some (D.list []);rw[if_pos (by omega)]
  rw[List.length_flatten] at yN;refine⟨_,yN,?_⟩;refine aS.forRounds l.length (fun k=>[.none,.int k]) (fun k=>[ints (l.take k).flatten]) ?_ (fun k hk=>?_) ?_
  ·simp[ints]
  ·have hw:=bS hk (by omega);have h1:=bH k hk;have h2:=hb (k+1);rw[h1] at h2 ⊢;rw[iK] at h2;generalize (l.take k).flatten=m at*;simp[Zb,IT,hk,hw];omega
  ·simp[Zb,IT]
theorem ab5 {op:Int}{l:List Cell}(h:(gN op l).known=false):gN op l=eR:=by
 have hy:∀b,(gI b).known=true:=fun b=>by cases b<;>simp[gI]
 unfold gN at h ⊢;split<;>rename_i c1
 ·rw[if_pos c1] at h;split<;>rename_i c2
  ·rw[if_pos c2,hy] at h;cases h
  ·rfl
 rw[if_neg c1] at h;split<;>rename_i c2
 ·rw[if_pos c2,hy] at h;cases h
 rw[if_neg c2] at h;split<;>rename_i c3
 ·rw[if_pos c3] at h;split<;>rename_i c4
  ·rw[if_pos c4,c4.1] at h;cases h
  ·rfl
 rw[if_neg c3] at h;split<;>rename_i c4
 ·rfl
 rw[if_neg c4] at h
 repeat' split at h
 all_goals first|(rw[hy] at h;cases h)|cases h
theorem Z1:∀(L:Nat) (cs:List Cell) (t:Tm) (k:Int),t.OK→cL L t≤60→cB L t=(k,0)→aw T 112 [KY cs,dQ t] (.tup [cV (bL L cs t),ints (eB L cs t)])
 |0,cs,t,k,ht,hm,hc=>by simp[cL] at hm
 |L+1,cs,t,k,ht,hm,hc=>by
  refine .of_tree rfl (lA 40 (by kernel_rfl)) anP ?_;obtain⟨hl,hp⟩:=Ny hm;obtain⟨ha,_⟩:=KJ hc;obtain⟨hn,asI⟩:=KK hc;have ix:∀a,a∈t.args→aw T 112 [KY cs,dQ a] (.tup [cV (bL L cs a),ints (eB L cs a)]):=fun a fu=>Z1 L cs a (cB L a).1 (ht.arg fu) (hp a fu) (by rw[←ha a fu]);have Cy:∀a,a∈t.args→uY (cB L a).1 (bL L cs a):=fun a fu=>TB cs (show cB L a=((cB L a).1,0) by rw[←ha a fu]);have U9:∀a,a∈t.args→(eB L cs a).length≤60:=fun a fu=>by have:=WH L cs a (hp a fu);have:=hp a fu;omega
  by_cases iV:t.op=0∨t.op=1
  ·
   have e1:bL (L+1) cs t=⟨true,t.n⟩:=by rw[Ga,if_pos iV]
   have e2:eB (L+1) cs t=[]:=by rw[HQ,if_pos iV]
   rw[e1,e2];rcases iV with h|h<;>simp[Ej,h]<;>exact⟨rfl,rfl⟩
  have o0:t.op≠0:=fun h=>iV (.inl h);have o1:t.op≠1:=fun h=>iV (.inr h);by_cases o2:t.op=2
  ·have hv:0≤t.n:=by
    cases hn with
    |var h0 ha hn=>exact hn.1
    |_=>omega
   have e1:bL (L+1) cs t=lF cs t.n:=by rw[Ga,if_neg iV,if_pos o2]
   have e2:eB (L+1) cs t=if(lF cs t.n).known=true then[] else[t.n]:=by rw[HQ,if_neg iV,if_pos o2]
   rw[e1,e2];simp[Ej,o2];refine⟨_,amk cs t.n hv,?_⟩;cases e:(lF cs t.n).known
   ·have:lF cs t.n=eR:=by
     unfold lF at e ⊢;split
     ·rfl
     ·rename_i h;rw[if_neg h] at e;split at e
      ·cases hb:decide ((cellAt cs t.n).n≠0)<;>rw[hb] at e<;>cases e
      ·cases e
    rw[this];simp[ints]
   ·have h:lF cs t.n=⟨true,(lF cs t.n).n⟩:=by rw[←e]
    rw[h];simp[ints]
    try rfl
  have hlen:1≤t.args.length∧(t.op≠3→2≤t.args.length)∧(t.op=6→3≤t.args.length):=by
   cases hn with
   |int h0 ha hn=>omega
   |bool h0 ha hn=>omega
   |var h0 ha hn=>omega
   |not h0 hk=>obtain⟨a,hl,_⟩:=ai1 hk;rw[hl];simp;omega
   |log h0 hk=>obtain⟨a,b,hl,_⟩:=za hk;rw[hl];simp;omega
   |ite k h0 hk=>obtain⟨a,b,c,hl,_⟩:=Nw hk;rw[hl];simp
   |less h0 hk=>obtain⟨a,b,hl,_⟩:=za hk;rw[hl];simp;omega
   |equal k h0 hk=>obtain⟨a,b,hl,_⟩:=za hk;rw[hl];simp;omega
   |num h0 hk=>obtain⟨a,b,hl,_⟩:=za hk;rw[hl];simp;omega
  have hb9:9≤t.op→(-1099511627776≤(bh (t.args.map (bL L cs)) 0).n∧(bh (t.args.map (bL L cs)) 0).n≤1099511627776)∧(-1099511627776≤(bh (t.args.map (bL L cs)) 1).n∧(bh (t.args.map (bL L cs)) 1).n≤1099511627776):=by
   intro h9;have rb:∀c:Cell,uY 0 c→-1099511627776≤c.n∧c.n≤1099511627776:=by
    intro c hr;cases e:c.known with
    |false=>rw[hr.1 e];simp
    |true=>exact(hr.2 e).2 rfl
   cases hn with
   |num h0 hk=>
    obtain⟨a,b,hl,ea,eb⟩:=za hk;rw[hl] at Cy ⊢;have r1:=Cy a (by simp);have r2:=Cy b (by simp);rw[ea] at r1;rw[eb] at r2;exact⟨rb _ r1,rb _ r2⟩
   |log h0 hk=>omega
   |_=>omega
  have h6:t.op=6→(bh (t.args.map (bL L cs)) 0).known=true→(bh (t.args.map (bL L cs)) 0).n=0∨(bh (t.args.map (bL L cs)) 0).n=1:=by
   intro o6 Ca;cases hn with
   |ite k h0 hk=>
    obtain⟨a,b,c,hl,ea,_⟩:=Nw hk;rw[hl] at Cy Ca ⊢;have r1:=Cy a (by simp);rw[ea] at r1;exact(r1.2 Ca).1 rfl
   |log h0 hk=>omega
   |num h0 hk=>omega
   |_=>omega
  have bQ:t.op<3∨8<t.op→9≤t.op:=by
   cases hn with
   |log h0 hk=>omega
   |num h0 hk=>omega
   |_=>omega
  have e1:bL (L+1) cs t=if t.op=6∧(bh (t.args.map (bL L cs)) 0).known=true then bh (t.args.map (bL L cs)) (2-(bh (t.args.map (bL L cs)) 0).n).toNat else gN t.op (t.args.map (bL L cs)):=by
   rw[Ga,if_neg iV,if_neg o2]
  have e2:eB (L+1) cs t=if t.op=6∧(bh (t.args.map (bL L cs)) 0).known=true then(t.args.map (eB L cs)).getD (2-(bh (t.args.map (bL L cs)) 0).n).toNat [] else if(gN t.op (t.args.map (bL L cs))).known=true then[] else(t.args.map (eB L cs)).flatten:=by
   rw[HQ,if_neg iV,if_neg o2]
  rw[e1,e2];simp[Ej,o0,o1,o2];refine⟨by omega,?_⟩;refine aS.forRounds t.args.length (fun k=>[.int k]) (fun k=>[cells ((t.args.map (bL L cs)).take k++List.replicate (t.args.length-k) eR),lists ((t.args.map (eB L cs)).take k++List.replicate (t.args.length-k) [])]) ?_ (fun k hk=>?_) ?_
  ·simp[cells,lists,ints]
  ·have hw:=bS hk (by omega);have cK:=ec hk;have hr:=ix _ cK;have s1:=PN (t.args.map (bL L cs)) eR (n:=t.args.length) (by simp) hk;have s2:=PN (t.args.map (eB L cs)) [] (n:=t.args.length) (by simp) hk;rw[←s1,←s2];have l1:((t.args.map (bL L cs)).take k++List.replicate (t.args.length-k) eR).length=t.args.length:=by simp;omega
   have l2:((t.args.map (eB L cs)).take k++List.replicate (t.args.length-k) []).length=t.args.length:=by simp;omega
   have g1:(t.args.map (bL L cs))[k]'(by simpa using hk)=bL L cs t.args[k]:=by simp
   have g2:(t.args.map (eB L cs))[k]'(by simpa using hk)=eB L cs t.args[k]:=by simp
   rw[g1,g2];generalize (t.args.map (bL L cs)).take k++List.replicate (t.args.length-k) eR=A at*;generalize (t.args.map (eB L cs)).take k++List.replicate (t.args.length-k) []=B at*;generalize bL L cs t.args[k]=c at*;generalize eB L cs t.args[k]=d at*;simp[Pu,DY,hk];refine⟨_,hr,?_⟩;simp[hw,hk,l1,l2,cells,lists]
  ·have hA:(t.args.map (bL L cs)).take t.args.length++List.replicate (t.args.length-t.args.length) eR=t.args.map (bL L cs):=by rw[JQ,List.replicate_zero,kO,sH (by simp)]
   have hB:(t.args.map (eB L cs)).take t.args.length++List.replicate (t.args.length-t.args.length) []=t.args.map (eB L cs):=by rw[JQ,List.replicate_zero,kO,sH (by simp)]
   have lA:(t.args.map (bL L cs)).length=t.args.length:=by simp
   have lB:(t.args.map (eB L cs)).length=t.args.length:=by simp
   have jC:∀l:List Tm,(∀a,a∈l→a∈t.args)→((l.map (eB L cs)).flatten.length≤l.length*60):=by
    intro l
    induction l with
    |nil=>intro _;simp
    |cons a l ih=>
     intro h;have h1:=U9 a (h a (by simp));have h2:=ih (fun b hb=>h b (by simp[hb]));rw[gz,Sa,iK,og];omega
   have jC:=jC t.args (fun a h=>h);have hBg:∀m:Nat,(Option.map (eB L cs) t.args[m]?).getD []=(t.args.map (eB L cs)).getD m []:=fun m=>by simp[aF]
   rw[hA,hB];generalize t.args.map (bL L cs)=A at*;generalize t.args.map (eB L cs)=B at*;have g0:0<A.length:=by omega
   have vt:A[0]=bh A 0:=by simp[bh,g0]
   by_cases Gt:t.op=6∧(bh A 0).known=true
   ·obtain⟨o6,kn⟩:=Gt;have hv:=h6 o6 kn;have hw:IntKind.i64.wrap (2-(bh A 0).n)=2-(bh A 0).n:=cm (by omega);have h3:3≤t.args.length:=hlen.2.2 o6;rw[if_pos ⟨o6,kn⟩,if_pos ⟨o6,kn⟩];obtain⟨m,fu⟩:∃m:Nat,m=(2-(bh A 0).n).toNat:=⟨_,rfl⟩
    have Ce:m<A.length:=by omega
    have Md:m<B.length:=by omega
    simp[Pu,DY,o6,kn,g0,vt,hw,←fu,Ce,Md,cells,lists];refine⟨by omega,by omega,by simp[bh,Ce],?_⟩;rw[hBg,aF,bo Md];rfl
   ·rw[if_neg Gt,if_neg Gt];have afA:=amg t.op A (by omega) (by omega) (by omega) hb9 bQ;have afC:=aaq B (by omega) (by omega);simp[Pu,DY,g0,vt];rw[if_neg Gt];refine⟨_,afA,?_⟩;cases e:(gN t.op A).known
    ·have eI:gN t.op A=eR:=ab5 e;rw[eI];simp;exact afC
    ·have h:gN t.op A=⟨true,(gN t.op A).n⟩:=by rw[←e]
     rw[h];simp[ints]
     try rfl
end Rm
namespace Rm
open Go Go.Proofs Cx
def j0 (n:Nat)(g:Nat→Bool):Int:=if(List.range n).findIdx g<n then((List.range n).findIdx g:Nat) else-1
theorem v3 (n:Nat)(g:Nat→Bool):(j0 n g=-1∧∀k,k<n→g k=false)∨∃k:Nat,k<n∧j0 n g=k∧g k=true∧∀i,i<k→g i=false:=by
 unfold j0;split
 ·rename_i h;refine .inr ⟨_,h,rfl,?_,fun i hi=>?_⟩
  ·have:=List.findIdx_getElem (p:=g) (xs:=List.range n) (w:=by simpa using h);simpa using this
  ·have:=List.not_of_lt_findIdx (p:=g) (xs:=List.range n) hi;simpa using this
 ·rename_i h;refine .inl ⟨rfl,fun k hk=>?_⟩;have:=List.not_of_lt_findIdx (p:=g) (xs:=List.range n) (i:=k) (by omega);simpa using this
theorem CS {n:Nat}{g:Nat→Bool}(h:∀k,k<n→g k=false):j0 n g=-1:=by
 rcases v3 n g with⟨h1,_⟩|⟨k,hk,_,h2,_⟩
 ·exact h1
 ·rw[h k hk] at h2;cases h2
theorem Ht {n k:Nat}{g:Nat→Bool}(hk:k<n)(h:g k=true)(hj:∀i,i<k→g i=false):j0 n g=k:=by
 rcases v3 n g with⟨_,h1⟩|⟨m,hm,h1,h2,h3⟩
 ·rw[h1 k hk] at h;cases h
 ·rcases Nat.lt_trichotomy m k with h4|h4|h4
  ·rw[hj m h4] at h2;cases h2
  ·rw[h1,h4]
  ·rw[h3 k h4] at h;cases h
theorem VS (n:Nat)(g:Nat→Bool):decide (0≤j0 n g)=(List.range n).any g:=by
 rcases v3 n g with⟨h1,h2⟩|⟨m,hm,h1,h2,h3⟩
 ·rw[h1]
  symm
  simp;exact h2
 ·rw[h1];simp;exact⟨m,hm,h2⟩
theorem aav (l:List Rule)(f:Nat)(caps:List D)(g:Nat→Bool)(hg:∀k (hk:k<l.length),aw T f (re l[k]::caps) (.bool (g k)))(hl:l.length≤4294967296):
 aw T 109 [rules l,.clo f caps] (.int (j0 l.length g)):=by
 refine .of_tree rfl (lA 31 (by kernel_rfl)) anD ?_;simp[Q9];refine .scan l.length (fun k=>g k=false) (fun k=>[.int 0,.int k]) (fun _=>[]) ?_ (fun k hk hj ho=>?_) (fun k hk hj ho=>?_) (fun hj=>?_)
 ·simp
 ·have hw:=bS hk hl;simp[Pp,DT,hk,hw];refine⟨_,_,⟨rfl,rfl⟩,_,hg k hk,?_⟩;simp[ho,hw]
 ·have he:=Ht hk (by simpa using ho) hj;simp[Pp,DT,hk,he];refine⟨_,_,⟨rfl,rfl⟩,_,hg k hk,?_⟩;simp[ho]
 ·have he:=CS hj;simp[Pp,DT,he]
theorem aaw (l:List Int)(f:Nat)(caps:List D)(g:Nat→Bool)(hg:∀k (hk:k<l.length),aw T f (.int l[k]::caps) (.bool (g k)))(hl:l.length≤4294967296):
 aw T 141 [ints l,.clo f caps] (.int (j0 l.length g)):=by
 refine .of_tree rfl (lA 26 (by kernel_rfl)) anE ?_;simp[Ra];refine .scan l.length (fun k=>g k=false) (fun k=>[.int 0,.int k]) (fun _=>[]) ?_ (fun k hk hj ho=>?_) (fun k hk hj ho=>?_) (fun hj=>?_)
 ·simp
 ·have hw:=bS hk hl;simp[Pq,DU,hk,hw,ints];refine⟨_,_,⟨rfl,rfl⟩,_,hg k hk,?_⟩;simp[ho,hw]
 ·have he:=Ht hk (by simpa using ho) hj;simp[Pq,DU,hk,he,ints];refine⟨_,_,⟨rfl,rfl⟩,_,hg k hk,?_⟩;simp[ho]
 ·have he:=CS hj;simp[Pq,DU,he,ints]
theorem aau (l:List Alter)(f:Nat)(caps:List D)(g:Nat→Bool)(hg:∀k (hk:k<l.length),aw T f (oy l[k]::caps) (.bool (g k)))(hl:l.length≤4294967296):
 aw T 140 [alters l,.clo f caps] (.int (j0 l.length g)):=by
 refine .of_tree rfl (lA 14 (by kernel_rfl)) anB ?_;simp[Q7];refine .scan l.length (fun k=>g k=false) (fun k=>[.int 0,.int k]) (fun _=>[]) ?_ (fun k hk hj ho=>?_) (fun k hk hj ho=>?_) (fun hj=>?_)
 ·simp
 ·have hw:=bS hk hl;simp[Pn,DR,hk,hw];refine⟨_,_,⟨rfl,rfl⟩,_,hg k hk,?_⟩;simp[ho,hw]
 ·have he:=Ht hk (by simpa using ho) hj;simp[Pn,DR,hk,he];refine⟨_,_,⟨rfl,rfl⟩,_,hg k hk,?_⟩;simp[ho]
 ·have he:=CS hj;simp[Pn,DR,he]
theorem aas (l:List Int)(f:Nat)(caps:List D)(g:Nat→Bool)(hg:∀k (hk:k<l.length),aw T f (.int l[k]::caps) (.bool (g k)))(hl:l.length≤4294967296):
 aw T 129 [ints l,.clo f caps] (.bool ((List.range l.length).any g)):=by
 refine .of_tree rfl (lA 25 (by kernel_rfl)) anx ?_;simp[Q4];refine⟨_,aaw l f caps g hg hl,?_⟩;have:=VS l.length g;simp[←this]
theorem aar (l:List Alter)(f:Nat)(caps:List D)(g:Nat→Bool)(hg:∀k (hk:k<l.length),aw T f (oy l[k]::caps) (.bool (g k)))(hl:l.length≤4294967296):
 aw T 124 [alters l,.clo f caps] (.bool ((List.range l.length).any g)):=by
 refine .of_tree rfl (lA 13 (by kernel_rfl)) anw ?_;simp[Q3];refine⟨_,aau l f caps g hg hl,?_⟩;have:=VS l.length g;simp[←this]
def yn (cs:List Cell)(t:Tm):Cell:=if(nl t).2=0 then bL 8 cs t else eR
theorem abN {t:Tm}(h:(nl t).2=0):cL 8 t≤60∧cB 8 t=((nl t).1,0):=by
 unfold nl at h ⊢;split at h
 ·cases h
 ·rename_i hm;rw[if_neg hm];exact⟨by omega,by rw[←h]⟩
theorem ame (t:Tm)(cs:List Cell)(ht:t.OK):aw T 86 [dQ t,cells cs] (cV (yn cs t)):=by
 refine .of_tree rfl (lA 39 (by kernel_rfl)) anI ?_;simp[Re,yn];refine⟨_,ZZ t ht,?_⟩;by_cases h:(nl t).2=0
 ·obtain⟨h1,h2⟩:=abN h;simp[h];refine⟨_,Z1 8 cs t _ ht h1 h2,?_⟩;simp
  try rfl
 ·simp[h]
  try rfl
def NH:List Int:=[6,7,10,12,13,14,15,16,20,21]
def pE (ask:Int):Int×Bool:=if ask<0∨22≤ask then(0,false) else if hasB NH ask then(0,true) else(1,true)
theorem Oc (ask:Int):aw T 82 [.int ask] (.tup [.int (pE ask).1,.bool (pE ask).2]):=by
 refine .of_tree rfl (lA 19 (by kernel_rfl)) amO ?_;simp[Qm,pE];by_cases h0:ask<0
 ·simp[h0]
 by_cases h1:22≤ask
 ·simp[h0,h1]
 simp[h0,h1];refine⟨_,Ew NH ask (by decide),?_⟩;cases h:hasB NH ask<;>simp[h]
def HR:Tm:=⟨0,0,[]⟩
def uv (o:Order)(ask:Int)(k:Nat):Bool:=decide ((o.rules.getD k default).ask=ask)
def D6 (o:Order)(i:Int):Tm:=(o.rules.getD i.toNat default).term
def findF (o:Order)(ask:Int):Tm×Int:=
 if(pE ask).2=false then(HR,1) else if j0 o.rules.length (uv o ask)<0 then(HR,4) else
    if(nl (D6 o (j0 o.rules.length (uv o ask)))).2≠0∨(nl (D6 o (j0 o.rules.length (uv o ask)))).1≠(pE ask).1 then(HR,11) else(D6 o (j0 o.rules.length (uv o ask)),0)
theorem Zx {o:Order}(ho:o.OK){m:Nat}(hm:m<o.rules.length):o.rules[m].term.OK:=(ho.2.2 _ (ec hm)).2
theorem NF:HR.OK:=by
 exact .mk 0 0 [] (by unfold aT;omega) (by unfold aT;omega) (by decide) (fun _ h=>by cases h)
theorem adz {o:Order}(ho:o.OK)(ask:Int):(findF o ask).1.OK:=by
 unfold findF;split
 ·exact NF
 split
 ·exact NF
 split
 ·exact NF
 ·rename_i h _;rcases v3 o.rules.length (uv o ask) with⟨h1,h2⟩|⟨m,hm,h1,h2,h3⟩
  ·exact absurd (by rw[h1];decide) h
  ·rw[h1];simp[D6,hm];exact Zx ho hm
theorem adx (r:Rule)(ask:Int):aw T 110 [re r,.ref (.int ask)] (.bool (decide (r.ask=ask))):=by
 refine .of_tree rfl (lA 30 (by kernel_rfl)) amP ?_;simp[Qo]
theorem akc (o:Order)(ask:Int)(ho:o.OK)(hl:o.rules.length≤4294967296):aw T 85 [kl o,.int ask] (.tup [dQ (findF o ask).1,.int (findF o ask).2]):=by
 refine .of_tree rfl (lA 29 (by kernel_rfl)) amQ ?_;simp[Qn,findF];refine⟨_,Oc ask,?_⟩;cases h0:(pE ask).2
 ·simp[h0]
  try rfl
 simp[h0];refine⟨_,aav o.rules 110 [.ref (.int ask)] (uv o ask) (fun k hk=>by simpa [uv,hk] using adx o.rules[k] ask) hl,?_⟩;rcases v3 o.rules.length (uv o ask) with⟨h1,h2⟩|⟨m,hm,h1,h2,h3⟩
 ·rw[h1];simp
  try rfl
 ·rw[h1];have Ci:¬((m:Int)<0):=by omega
  have htm:o.rules[m].term.OK:=Zx ho hm;simp[hm,D6,Ci];refine⟨_,ZZ _ htm,?_⟩;by_cases h4:(nl o.rules[m].term).2=0<;>by_cases h5:(nl o.rules[m].term).1=(pE ask).1<;>simp[h4,h5]<;>try rfl
def xf (o:Order)(ask:Int)(cs:List Cell):Cell×Int:=
 if(findF o ask).2≠0 then(eR,(findF o ask).2) else
    (if(pE ask).1=0∧(yn cs (findF o ask).1).known=true then⟨true,min (max (yn cs (findF o ask).1).n 0) 20000⟩ else yn cs (findF o ask).1,0)
theorem akb (o:Order)(ask:Int)(cs:List Cell)(ho:o.OK)(hl:o.rules.length≤4294967296):aw T 64 [kl o,.int ask,cells cs] (.tup [cV (xf o ask cs).1,.int (xf o ask cs).2]):=by
 refine .of_tree rfl (lA 28 (by kernel_rfl)) amN ?_;simp[Ql];refine⟨_,akc o ask ho hl,?_⟩;have hf:(findF o ask).1.OK:=adz ho ask;by_cases h:(findF o ask).2=0
 ·simp[h,xf];refine⟨_,ame _ cs hf,_,Oc ask,?_⟩;generalize yn cs (findF o ask).1=c;obtain⟨kn,n⟩:=c;by_cases h1:(pE ask).1=0
  ·cases kn
   ·simp[h1,cV]
   ·by_cases h2:n<0
    ·have:min (max n 0) 20000=0:=by omega
     simp[h1,cV,h2,this];rfl
    ·by_cases h3:20000<n
     ·have:min (max n 0) 20000=20000:=by omega
      simp[h1,cV,h2,h3,this];rfl
     ·have:min (max n 0) 20000=n:=by omega
      simp[h1,cV,h2,h3,this];rfl
  ·simp[h1,cV]
 ·simp[h,xf]
  try rfl
end Rm
