/-
  Shared texts of this claim.
-/
import Derived.Test.YtefchokhgdmamaaGreatDoorUAM
import Derived.Test.YtefchokhgdmamaaGreatDoorUAN
import Derived.Test.YtefchokhgdmamaaGreatDoorUAO
import Derived.Test.YtefchokhgdmamaaGreatDoorUAK
import Derived.Test.YtefchokhgdmamaaGreatDoorUAL
import Derived.Test.YtefchokhgdmamaaGreatDoorUAJ
import Derived.WalkKit
import Derived.WalkSpells
import Derived.Lib.SliceRun
import Derived.Lib.AppendZeros
import Derived.Laws.Strings
import Derived.Lib.Mul64
set_option linter.unusedVariables false
set_option maxRecDepth 100000
noncomputable section
namespace Rm
open Go Go.Proofs Cx
def PQ:List Nat:=[4,8,22,23,10,13,30,63,81,103,123,104,125,124,140,106,55,126,127,82,105,128,84,107,130,129,141,108,64,85,110,109,111,131,132,142,146,144,143,86,112,133,145,134,147,156,157,135,27,28,61,12,9,24,47,48,49,78,100,25,50,51,79,101,102,122,52,53,54,80,56,57,58,59,60,26,21,42,73,74,75,43,44,76,98,99,45,77,46,38,70,37,18,41,19,20,6,7,34,32,36]
def Aw:List (Nat×PC):=[(4,(ah Gr)),(8,(ah Gt)),(22,(ah Gu)),(23,(ah Gs)),(10,(ah yp)),(13,(ah Gg)),(30,(ah Ga)),(63,(ah Gb)),(81,(ah Gc)),(103,(ah yR)),(123,(ah GR)),(104,(ah yT)),(125,(ah GP)),(124,(ah GS)),(140,(ah yV)),(106,(ah GM)),(55,(ah GN)),(126,(ah GQ)),(127,(ah yS)),(82,(ah Gw)),(105,(ah GV)),(128,(ah yZ)),(84,(ah yt)),(107,(ah Gn)),(130,(ah Gp)),(129,(ah GU)),(141,(ah yY)),(108,(ah yu)),(64,(ah Gv)),(85,(ah Gx)),(110,(ah Gy)),(109,(ah yX)),(111,(ah GX)),(131,(ah v9)),(132,(ah y2)),(142,(ah G3)),(146,(ah G2)),(144,(ah GZ)),(143,(ah G6)),(86,(ah GY)),(112,(ah y3)),(133,(ah G4)),(145,(ah G7)),(134,(ah G1)),(147,(ah G0)),(156,(ah G5)),(157,(ah Gf)),(135,(ah yU)),(27,(ah v5)),(28,(ah yq)),(61,(ah Gk)),(12,(ah yB)),(9,(ah BJ)),(24,(ah yE)),(47,(ah yC)),(48,(ah GF)),(49,(ah yD)),(78,(ah GG)),(100,(ah v8)),(25,(ah yH)),(50,(ah yM)),(51,(ah yK)),(79,(ah GO)),(101,(ah yL)),(102,(ah GW)),(122,(ah y1)),(52,(ah GI)),(53,(ah GJ)),(54,(ah yJ)),(80,(ah yP)),(56,(ah GK)),(57,(ah GL)),(58,(ah yN)),(59,(ah yQ)),(60,(ah yO)),(26,(ah BK)),(21,(ah v7)),(42,(ah BL)),(73,(ah G8)),(74,(ah G9)),(75,(ah yI)),(43,(ah yA)),(44,(ah GC)),(76,(ah GB)),(98,(ah GA)),(99,(ah GD)),(45,(ah yy)),(77,(ah Gz)),(46,(ah yz)),(38,(ah Gl)),(70,(ah Gm)),(37,(ah yr)),(18,(ah yx)),(41,(ah GH)),(19,(ah yG)),(20,(ah yF)),(6,(ah yw)),(7,(ah Gq)),(34,(ah yW)),(32,(ah Gi)),(36,(ah Gj))]
def tab:Nat→Option PC:=bm Aw
theorem aav:Aw.map (·.1)=PQ:=by kernel_rfl
theorem anu:(Aw.map (·.1)).Nodup:=by rw[aav];exact mW (by kernel_rfl)
theorem lA (k:Nat){f:Nat}{x:PC}(h:Aw[k]?=some (f,x)):tab f=some x:=Yq anu h
theorem UI:tab 131=some (ah v9):=lA 33 (by kernel_rfl)
theorem UF:tab 27=some (ah v5):=lA 48 (by kernel_rfl)
theorem adv:tab 9=some (ah BJ):=lA 52 (by kernel_rfl)
theorem UH:tab 100=some (ah v8):=lA 58 (by kernel_rfl)
theorem adx:tab 26=some (ah BK):=lA 75 (by kernel_rfl)
theorem adw:tab 21=some (ah v7):=lA 76 (by kernel_rfl)
theorem ady:tab 42=some (ah BL):=lA 77 (by kernel_rfl)
theorem caps:∀f cs,bm L2 f=some cs→(mS cs.args cs.res=none→bm m9 f=some ⟨cs.args++cs.caps,cs.res,.dat⟩)∧∀ys,mS cs.args cs.res=some ys→fU PQ f=false∧Fp Tryz.prog f=true:=UY (l:=L2) (sig:=m9) (P:=Tryz.prog) (pcs:=PQ) (by kernel_rfl)
theorem clos:eD ctx:=⟨(fun f cs h=>(caps f cs h).1),fun f s h=>acf (l:=m9) (P:=Tryz.prog) (by kernel_rfl) f s h⟩
theorem its:∀f cs ys,ctx.cap f=some cs→mS cs.args cs.res=some ys→tab f=none∧∃fn,ctx.P.funcs[f]?=some fn∧fn.body.isSome=true∧(fn.name== "runtime.NumGoroutine")=false:=fun f cs ys h hi=>⟨Yi (l:=Aw) (by rw[aav];exact((caps f cs h).2 ys hi).1),apm ((caps f cs h).2 ys hi).2⟩
theorem apc:∀f pc,tab f=some pc→∃fn s ids fr nh,ctx.P.funcs[f]?=some fn∧ctx.sig f=some s∧mF {ctx with fr:=fr,nh:=nh} fn s ids=some pc:=
 OZ (R:=fun f pc=>∃fn s ids fr nh,ctx.P.funcs[f]?=some fn∧ctx.sig f=some s∧mF {ctx with fr:=fr,nh:=nh} fn s ids=some pc) (l:=Aw)
  (aO (aP [6,10] [12,13,14,15,16,17,18,19,20,21] [] Tryz.func4 rfl (aN Gr Zt))
  (aO (aP [5,6] [0,1,2,3] [] Tryz.func8 rfl (aN Gt Zw))
  (aO (aP [9,10] [8,11,12,13] [] Tryz.func22 rfl (aN Gu Zx))
  (aO (aP [2,3,4,12292,5,6,20486,24582,28678,32774,7,69639,73735] [] [] Tryz.func23 rfl (aN Gs Zu))
  (aO (aP [5,9,11,96] [10,12,13,14,15,17,18,19,20] [] Tryz.func10 rfl (aN yp Ae))
  (aO (aP [5,9,11,12] [10,13,14,31,48] [] Tryz.func13 rfl (aN Gg Zk))
  (aO (aP [4,7,8,9] [10] [] Tryz.func30 rfl (aN Ga Ze))
  (aO (aP [4,7,8,10,16394] [9,11,12,13,14] [] Tryz.func63 rfl (aN Gb Zf))
  (aO (aP [2,3,4] [5] [] Tryz.func81 rfl (aN Gc Zg))
  (aO (aP [2,4,65540,69636,73732,77828,5,65541,69637,73733,77829,7,31,9,49,11,13] [1000004,1000005] [] Tryz.func103 rfl (aN yR Af))
  (aO (aP [] [4] [] Tryz.func123 rfl (aN GR ZU))
  (aO (aP [2,3,5,6,8,10,90,139] [4,7,9,11,12,13,14,15,16] [] Tryz.func104 rfl (aN yT Jj))
  (aO (aP [2] [3] [] Tryz.func125 rfl (aN GP ZS))
  (aO (aP [] [4] [] Tryz.func124 rfl (aN GS ZV))
  (aO (aP [] [4,5] [] Tryz.func140 rfl (aN yV Py))
  (aO (aP [2] [4] [] Tryz.func106 rfl (aN GM ZP))
  (aO (aP [] [4] [] Tryz.func55 rfl (aN GN ZQ))
  (aO (aP [2] [] [] Tryz.func126 rfl (aN GQ ZT))
  (aO (aP [3,6,8] [] [] Tryz.func127 rfl (aN yS Px))
  (aO (aP [] [2,3,4,11] [] Tryz.func82 rfl (aN Gw Zz))
  (aO (aP [] [4] [] Tryz.func105 rfl (aN GV ZX))
  (aO (aP [] [4,5] [] Tryz.func128 rfl (aN yZ PD))
  (aO (aP [4,10,53] [8,9,11,12,13,14,55,70] [] Tryz.func84 rfl (aN yt Pf))
  (aO (aP [4,9] [8] [] Tryz.func107 rfl (aN Gn Zq))
  (aO (aP [] [3] [] Tryz.func130 rfl (aN Gp Zr))
  (aO (aP [] [4] [] Tryz.func129 rfl (aN GU ZW))
  (aO (aP [] [4,5] [] Tryz.func141 rfl (aN yY PB))
  (aO (aP [4,11] [8,9] [] Tryz.func108 rfl (aN yu Pg))
  (aO (aP [3,6,8,10] [7,9,11,12] [] Tryz.func64 rfl (aN Gv Zy))
  (aO (aP [2,3,4,12292,9] [5,6,7,8,10,11] [] Tryz.func85 rfl (aN Gx ZA))
  (aO (aP [2] [3] [] Tryz.func110 rfl (aN Gy ZB))
  (aO (aP [] [4,5] [] Tryz.func109 rfl (aN yX PA))
  (aO (aP [1] [2,3] [] Tryz.func111 rfl (aN GX ZZ))
  (aO (aP [2,7,12295] [4,5] [] Tryz.func131 rfl (aN v9 PH))
  (aO (aP [1,4,6,12294,9] [2,3,5,7,8,38,47,10,11,12] [] Tryz.func132 rfl (aN y2 Jl))
  (aO (aP [1] [2,3,12,20,4,5] [] Tryz.func142 rfl (aN G3 Z5))
  (aO (aP [] [2] [] Tryz.func146 rfl (aN G2 Z4))
  (aO (aP [] [2,3,4,11] [] Tryz.func144 rfl (aN GZ Z1))
  (aO (aP [2] [4,8,13,17,21] [] Tryz.func143 rfl (aN G6 Z8))
  (aO (aP [2,4,7] [5,6,8] [] Tryz.func86 rfl (aN GY Z0))
  (aO (aP [2,3,4,6,33,7,8,10,12298,12] [5,15,21,9,11] [] Tryz.func112 rfl (aN y3 PG))
  (aO (aP [2,4] [5,6] [] Tryz.func133 rfl (aN G4 Z6))
  (aO (aP [2] [] [] Tryz.func145 rfl (aN G7 Z9))
  (aO (aP [4,5] [9,22,41,6,7,82,88,94] [] Tryz.func134 rfl (aN G1 Z3))
  (aO (aP [] [6,8,14,20,25] [] Tryz.func147 rfl (aN G0 Z2))
  (aO (aP [] [4,5,6,7] [] Tryz.func156 rfl (aN G5 Z7))
  (aO (aP [] [4,5,6,7,8,9,10,11,12,13] [] Tryz.func157 rfl (aN Gf Zj))
  (aO (aP [6] [2,3,5,8] [] Tryz.func135 rfl (aN yU Jk))
  (aO (aP [5,29,32] [4,6,8] [] Tryz.func27 rfl (aN v5 Jb))
  (aO (aP [3,6] [7,8] [] Tryz.func28 rfl (aN yq Pd))
  (aO (aP [2] [4] [] Tryz.func61 rfl (aN Gk Zn))
  (aO (aP [] [4,5] [] Tryz.func12 rfl (aN yB Pm))
  (aO (aP [2,3] [4] [] Tryz.func9 rfl (aN BJ Zv))
  (aO (aP [2,3] [4,5] [] Tryz.func24 rfl (aN yE Pp))
  (aO (aP [1] [2,3,4] [] Tryz.func47 rfl (aN yC Je))
  (aO (aP [1] [2] [] Tryz.func48 rfl (aN GF ZI))
  (aO (aP [1] [2,3] [] Tryz.func49 rfl (aN yD Po))
  (aO (aP [1] [2] [] Tryz.func78 rfl (aN GG ZJ))
  (aO (aP [3] [6,1,7] [] Tryz.func100 rfl (aN v8 Pn))
  (aO (aP [1,9] [2,3,4,5,6,7,10,11,12] [] Tryz.func25 rfl (aN yH Pr))
  (aO (aP [1,2,3,4,6,16390,20486,24582,21,8,34,10,12298,16394,47] [] [] Tryz.func50 rfl (aN yM DY))
  (aO (aP [] [6,7,8] [] Tryz.func51 rfl (aN yK Pu))
  (aO (aP [] [4] [] Tryz.func79 rfl (aN GO ZR))
  (aO (aP [] [2,3,4,5] [] Tryz.func101 rfl (aN yL Pv))
  (aO (aP [] [4] [] Tryz.func102 rfl (aN GW ZY))
  (aO (aP [] [4,5] [] Tryz.func122 rfl (aN y1 PF))
  (aO (aP [] [2] [] Tryz.func52 rfl (aN GI ZL))
  (aO (aP [] [3] [] Tryz.func53 rfl (aN GJ ZM))
  (aO (aP [2,3] [4,6] [] Tryz.func54 rfl (aN yJ Pt))
  (aO (aP [] [6,7,8] [] Tryz.func80 rfl (aN yP Pw))
  (aO (aP [] [3] [] Tryz.func56 rfl (aN GK ZN))
  (aO (aP [] [3] [] Tryz.func57 rfl (aN GL ZO))
  (aO (aP [1,3,4,6,19,8,16392,36] [2] [] Tryz.func58 rfl (aN yN Jg))
  (aO (aP [1,4,6] [2,3] [] Tryz.func59 rfl (aN yQ Ji))
  (aO (aP [1,4,6] [2] [] Tryz.func60 rfl (aN yO Jh))
  (aO (aP [1] [2] [] Tryz.func26 rfl (aN BK ZH))
  (aO (aP [2,3,10] [4,5,6,7,8,11] [] Tryz.func21 rfl (aN v7 Jd))
  (aO (aP [2,3] [4,5,6,7,8,54,80,109,118,9,10] [] Tryz.func42 rfl (aN BL aaa))
  (aO (aP [] [4] [] Tryz.func73 rfl (aN G8 aab))
  (aO (aP [1,3] [2,8,19,40] [] Tryz.func74 rfl (aN G9 aac))
  (aO (aP [3,9] [6,7] [] Tryz.func75 rfl (aN yI Ps))
  (aO (aP [3,4,7,11] [6,8,9,76,92,98] [] Tryz.func43 rfl (aN yA Pl))
  (aO (aP [] [6] [] Tryz.func44 rfl (aN GC ZF))
  (aO (aP [3,4,7,8] [6,9,10,66,103,113,11,140,149] [] Tryz.func76 rfl (aN GB ZE))
  (aO (aP [3] [6,7] [] Tryz.func98 rfl (aN GA ZD))
  (aO (aP [3] [6] [] Tryz.func99 rfl (aN GD ZG))
  (aO (aP [2,3,6] [4,5,7] [] Tryz.func45 rfl (aN yy Pj))
  (aO (aP [3,4,5] [6,7,8,9,65,80,100,111] [] Tryz.func77 rfl (aN Gz ZC))
  (aO (aP [1,4,5] [2,3] [] Tryz.func46 rfl (aN yz Pk))
  (aO (aP [] [4,5,6] [] Tryz.func38 rfl (aN Gl Zo))
  (aO (aP [] [2] [] Tryz.func70 rfl (aN Gm Zp))
  (aO (aP [] [2,3,5] [] Tryz.func37 rfl (aN yr Pe))
  (aO (aP [3,6] [7] [] Tryz.func18 rfl (aN yx Ph))
  (aO (aP [2] [4] [] Tryz.func41 rfl (aN GH ZK))
  (aO (aP [4,5] [2,3,6,0] [] Tryz.func19 rfl (aN yG Pq))
  (aO (aP [] [8,9,10] [] Tryz.func20 rfl (aN yF Jf))
  (aO (aP [6,10,15] [12,13,14,16,17,18] [] Tryz.func6 rfl (aN yw Jc))
  (aO (aP [5,9] [10,11,12,13,14] [] Tryz.func7 rfl (aN Gq Zs))
  (aO (aP [] [4,5] [] Tryz.func34 rfl (aN yW Pz))
  (aO (aP [3] [4] [] Tryz.func32 rfl (aN Gi Zl))
  (aO (aP [3] [4] [] Tryz.func36 rfl (aN Gj Zm))
  trivial)))))))))))))))))))))))))))))))))))))))))))))))))))))))))))))))))))))))))))))))))))))))))))))))))))))
end Rm
set_option linter.unusedSimpArgs false
namespace Rm
open Go Go.Proofs Cx Go.RowKit Go.Lib
theorem akF:(Tryz.prog.info? 3).map (fun i=>(i.zero,i.size,i.bytes))=some (some (.int .i64 0),1,8):=by kernel_rfl
set_option maxHeartbeats 2000000 in
set_option maxRecDepth 100000 in
theorem ahp (w:World):Calls Tryz.prog 148 #[.slice none 0 0,.int .i64 0] w fun e w'=>e=.returned (.slice none 0 0)∧w'=w:=by
 go_enter Tryz.func148,Tryz.ntmps148
 go_wp2
 go_ret
 exact⟨rfl,rfl⟩
set_option maxHeartbeats 2000000 in
set_option maxRecDepth 100000 in
theorem aho (n:Nat)(w:World)(h0:0<n)(h1:n≤4294967296):Calls Tryz.prog 148 #[.slice none 0 0,.int .i64 n] w fun e w'=>
 ∃v',e=.returned v'∧w'.ownsRow w.heap.size 3 1 v' 0 []∧Below w.heap.size w w':=by
 obtain⟨i0,hi,nI,ly,sW⟩:=info_parts akF;have hr:=run_append_nil_zeros w 46 3 46 3 i0 (.int .i64 0) .i64 .i64 Tryz.underlying46 Tryz.underlying3 hi nI n h0 (by rw[ly];decide) (by omega) (by rw[sW];omega);have hn:¬((n:Int)<0):=by omega
 have p8:(n:Int)>0:=by omega
 have hw:IntKind.i64.wrap (n:Int)=n:=by rw[IntKind.wrap_i64];omega
 have mN:IntKind.i64.wrap 0=0:=by decide
 have fP:=grownCap_ge w n 0 3;have hle:=grownCap_le_maxLen w n 0 3 (by unfold maxLen;omega);have hs:(Builtin.zeroCells #[Value.int IntKind.i64 0] n++Builtin.zeroCells #[Value.int IntKind.i64 0] (grownCap w n 0 3-n)).size=grownCap w n 0 3*1:=by
  rw[TQ,size_zeroCells,size_zeroCells];simp;omega
 go_enter Tryz.func148,Tryz.ntmps148
 go_wp2_with (at_builtin;refine wpList_append_run _ rfl _ _ 46 3 rfl _ _ rfl rfl _ _ hr ?qc)
 go_ret
 refine⟨_,rfl,?_,?_⟩
 ·exact World.ownsRow.drew (World.ownsRow_made w _ _ (aX _) hle hs)
 ·exact((Below.refl _ w).alloc (aX _) _).drew
def Hv (ds:List D):Option D:=
 match ds with
 |[.list [],.v (.int .i64 n)]=>if 0≤n∧n≤4294967296 then some (.list []) else none
 |_=>none
theorem ahn (ds:List D)(d:D)(h:Hv ds=some d):∃s,ctx.sig 148=some s∧FE ctx 148 s ds d:=by
 refine⟨_,rfl,fun _=>?_,fun shs obs hm=>by cases hm⟩;unfold Hv at h;split at h
 case h_2=>cases h
 rename_i n;split at h
 case isFalse=>cases h
 rename_i hn;cases h;obtain⟨k,rfl⟩:=tN hn.1;intro σ w args az hC ha;obtain⟨a1,a2,a3⟩:=ha;have h0:=a3 0 _ rfl;have h1:=a3 1 _ rfl;obtain⟨u,v,rfl⟩:∃u v,args=#[u,v]:=by
  have:args.size=2:=by simpa using a1
  match args,this with
  |⟨[u,v]⟩,_=>exact⟨u,v,rfl⟩
 simp only[rW,ya] at h0 h1;change Rep ctx.cap σ (.nils .bool) u (.list []) at h0;change Rep ctx.cap σ (.int .i64) v (.v (.int .i64 k)) at h1;have hu:u=.slice none 0 0:=by cases h0;rfl
 have hv:v=.int .i64 k:=by cases h1;rfl
 subst hu hv;by_cases hk:k=0
 ·subst hk;refine(ahp w).mono fun e w' hh=>?_;obtain⟨rfl,rfl⟩:=hh;refine⟨_,σ,rfl,.refl σ,az,.refl _ _,fun _ _ _ h=>.inl h,fun _ _ h=>.inl h,?_⟩;exact⟨[],[],rfl,⟨by simp,.inl ⟨rfl,rfl⟩⟩,⟨fun _=>undef,fun i x hx=>by simp at hx,fun i j u hi=>by simp at hi⟩,fun k hk=>by cases hk⟩
 ·refine(aho k w (by omega) (by omega)).mono fun e w' hh=>?_;obtain⟨v',rfl,aZ,hb⟩:=hh;refine⟨v',σ,rfl,.refl σ,az.below hb,hb,fun _ _ _ h=>.inl h,fun _ _ h=>.inl h,?_⟩;refine⟨[],[],rfl,aZ,⟨fun _=>undef,fun i x hx=>by simp at hx,fun i j u hi=>by simp at hi⟩,fun k hk=>?_⟩;have cj:=(aZ.lt k hk).1;refine⟨fun o=>?_,?_⟩
  ·cases hc:σ.c k o with
   |none=>rfl
   |some u=>have:=World.block_lt_of_cell? w (a:=⟨k,o,none⟩) (az.c _ _ _ hc);simp at this;omega
  ·cases hc:σ.m k with
   |none=>rfl
   |some u=>rcases az.m _ _ hc with⟨arr,clock,x,g1,_⟩|⟨_,g1⟩<;>(have:=(dI.1 g1).1;omega)
def yi (r:D)(city:Int):Int:=if 0≤city∧city<(r.c 1).l.length then(((r.c 1).l.getD city.toNat .none).c 1).i else-1
def PU (ds:List D):D:=
 let r:=ds.getD 0 .none
 let aL:=(ds.getD 1 .none).i
 let c:=ds.getD 2 .none
 let s:=(c.c 15).l.getD (c.c 19).i.toNat .none
 let who:=(s.c 2).i
 if who<0∨(r.c 3).l.length≤who∨aL<0∨(r.c 4).l.length≤aL then .list [] else
 let out:=[aL,yi r (s.c 7).i,yi r (c.c 10).i,yi r (c.c 9).i,yi r (((r.c 3).l.getD who.toNat .none).c 1).i]
 if(-1)∈out then .list [] else ints out
def VA:List (Nat×(aV→List D→Option D)):=[(148,fun _ ds=>Hv ds),(83,Ac (ah Gd) (ah Ge) PU),(16,AU)]
def ext:Nat→Option (aV→List D→Option D):=bm VA
theorem Rx:TabOK ctx tab ext:=by
 refine⟨clos,its,fun f pc _ h=>apc f pc h,fun f g hg Φ hΦ je ds d h=>?_⟩
 have:=OZ (R:=fun f (g:aV→List D→Option D)=>∀Φ,dQ ctx Φ→ki ctx Φ→∀ds d,g Φ ds=some d→(∀s,ctx.sig f=some s→FE ctx f s ds d)∧
  ∀cs ys,ctx.cap f=some cs→mS cs.args cs.res=some ys→∃xs,d=.list xs∧(∀x,x∈xs→∃ds',x=.tup ds'∧ds'.length=ys.length)∧xY ctx f cs.caps ys ds xs) (l:=VA)
  ⟨fun Φ hΦ je ds d h=>⟨fun s hs=>by obtain⟨s',h1,h2⟩:=ahn ds d h;rw[hs] at h1;cases h1;exact h2,fun cs ys hc hi=>by cases hc⟩,
   fun Φ hΦ je ds d h=>⟨fun s hs=>by cases hs;exact⟨fun _=>amx clos hΦ je Tryz.func83 (aN Gd Zh) (aN Ge Zi) h,fun shs obs hm=>by cases hm⟩,fun cs ys hc hi=>by cases hc⟩,
   fun Φ hΦ je ds d h=>⟨fun s hs=>by obtain⟨s',h1,h2⟩:=aoZ hΦ h;rw[hs] at h1;cases h1;exact h2,fun cs ys hc hi=>by cases hc⟩,
   trivial⟩ f g hg
 exact this Φ hΦ je ds d h
abbrev T:dz:=fM tab ext
theorem av.of_nsl {tab:Nat→Option PC}{ext:Nat→Option (aV→List D→Option D)}{f:Nat}{pa pb:PC}{spec:List D→D}{ds:List D}{ta tb:PT}(hx:ext f=some (Ac pa pb spec))(hta:tree pa=ta)(htb:tree pb=tb)
 (h:(∃xs,xs≠[]∧spec ds=.list xs∧aG (fM tab ext) ta (lO ds) (fun x=>x=.ret (.list xs)))∨(spec ds=.list []∧aG (fM tab ext) tb (lO ds) (fun x=>x=.ret (.list [])))):av (fM tab ext) f ds (spec ds):=by
 refine av.of_ext hx ?_;rcases h with⟨xs,h1,h2,h3⟩|⟨h2,h3⟩
 ·obtain⟨x,rfl,n0,hn⟩:=Ti (c:=pa) (hta▸h3);refine⟨n0,fun n hle=>?_⟩;unfold Ac;rw[if_pos (.inl ⟨n,xs,hn n hle,h1,h2⟩)]
 ·obtain⟨x,rfl,n0,hn⟩:=Ti (c:=pb) (htb▸h3);refine⟨n0,fun n hle=>?_⟩;unfold Ac;rw[if_pos (.inr ⟨n,hn n hle,h2⟩)]
end Rm
namespace Rm
open Go Go.Proofs Cx
def hZ (n:Nat)(p:Nat→Bool):Bool:=(List.range n).all p
theorem Uy {n:Nat}{p:Nat→Bool}(h:∀k,k<n→p k=true):hZ n p=true:=bz.2 fun k hk=>h k (cr.1 hk)
theorem adj {n k:Nat}{p:Nat→Bool}(hk:k<n)(h:p k=false):hZ n p=false:=List.all_eq_false.2 ⟨k,cr.2 hk,by simp[h]⟩
theorem FZ {n:Nat}{p:Nat→Bool}:hZ n p=true↔∀k,k<n→p k=true:=⟨fun h k hk=>bz.1 h k (cr.2 hk),Uy⟩
def fO (n:Nat)(f:Nat→Int):Int:=(((List.range n).map f).find? fun x=>x !=0).getD 0
theorem ME {n:Nat}{f:Nat→Int}(h:∀k,k<n→f k=0):fO n f=0:=by
 unfold fO;rw[nZ.2]
 ·rfl
 ·intro x hx;obtain⟨k,hk,rfl⟩:=ec.1 hx;simp[h k (cr.1 hk)]
theorem MC {n k:Nat}{f:Nat→Int}(hk:k<n)(hj:∀j,j<k→f j=0)(h:f k≠0):fO n f=f k:=by
 unfold fO;have e:List.range n=List.range k++k::(List.range' (k+1) (n-k-1)):=by
  rw[K5,K5,←FO];have:=List.range'_append_1 (s:=0) (m:=k) (n:=n-k-1+1);rw[fq] at this;rw[this];congr 1;omega
 rw[e,oa,FI,nZ.2,Option.none_or,gG,List.find?_cons_of_pos (by simpa using h)]
 ·rfl
 ·intro x hx;obtain⟨j,uA,rfl⟩:=ec.1 hx;simp[hj j (cr.1 uA)]
theorem MD {n:Nat}{f:Nat→Int}:fO n f=0↔∀k,k<n→f k=0:=by
 refine⟨fun h k=>?_,ME⟩
 induction k using Nat.strongRecOn with
 |ind k ih=>
  intro hk;refine vK fun ay=>?_;rw[MC hk (fun j hj=>ih j hj (by omega)) ay] at h;exact ay h
section
variable {T:dz} {id:Nat} {bq bp lr lo:List Nat} {a:PC} {ρ:Env} {Q:Out→Prop}
theorem m6 (N:Nat)(p:Nat→Bool)(str fX:Nat→List D)(h0:lr.map ρ.r=str 0∧lo.map ρ.o=fX 0)
 (step:∀k,k<N→p k=true→aG T (round id bq bp lr lo a) (ρ.put lr (str k) lo (fX k)) (fI ρ id bq bp lr lo (fun vr vo=>vr=str (k+1)∧vo=fX (k+1)) Q))
 (bad:∀k,k<N→p k=false→hZ N p=false→aG T (round id bq bp lr lo a) (ρ.put lr (str k) lo (fX k)) (fI ρ id bq bp lr lo (fun _ _=>False) Q))
 (last:hZ N p=true→aG T (round id bq bp lr lo a) (ρ.put lr (str N) lo (fX N)) (fI ρ id bq bp lr lo (fun _ _=>False) Q)):aU T (.block id bq bp (.loop lr lo a)) ρ Q:=
 .scan N (fun k=>p k=true) str fX h0 (fun k hk _ h=>step k hk h) (fun k hk _ h=>bad k hk (by simpa using h) (adj hk (by simpa using h))) (fun h=>last (Uy h))
theorem xJ (N:Nat)(f:Nat→Int)(str fX:Nat→List D)(h0:lr.map ρ.r=str 0∧lo.map ρ.o=fX 0)
 (step:∀k,k<N→f k=0→aG T (round id bq bp lr lo a) (ρ.put lr (str k) lo (fX k)) (fI ρ id bq bp lr lo (fun vr vo=>vr=str (k+1)∧vo=fX (k+1)) Q))
 (bad:∀k,k<N→f k≠0→fO N f=f k→aG T (round id bq bp lr lo a) (ρ.put lr (str k) lo (fX k)) (fI ρ id bq bp lr lo (fun _ _=>False) Q))
 (last:fO N f=0→aG T (round id bq bp lr lo a) (ρ.put lr (str N) lo (fX N)) (fI ρ id bq bp lr lo (fun _ _=>False) Q)):aU T (.block id bq bp (.loop lr lo a)) ρ Q:=
 .scan N (fun k=>f k=0) str fX h0 (fun k hk _ h=>step k hk h) (fun k hk hj h=>bad k hk h (MC hk hj h)) (fun h=>last (ME h))
end
theorem bJ {k n:Nat}(h:k<n)(hn:n≤4294967296):IntKind.i64.wrap ((k:Int)+1)=(k:Int)+1:=cn (by omega)
theorem acw {k:Nat}(hn:k≤4294967296):IntKind.i64.wrap ((k:Int)-1)=(k:Int)-1:=cn (by omega)
def aD (i n:Int):Bool:=decide (0≤i)&&decide (i<n)
def wi (n a b:Int):Bool:=decide (a≤n)&&decide (n≤b)
theorem gl (i n:Int):av T 55 [.int i,.int n] (.bool (aD i n)):=by
 refine .of_tree rfl (lA 16 (by kernel_rfl)) aqn ?_;simp[Sz,aD];by_cases h:0≤i<;>simp[h]
theorem qy (i n:Int):av T 123 [.int i,.int n] (.bool (aD i n)):=by
 refine .of_tree rfl (lA 10 (by kernel_rfl)) aqA ?_;simp[SM,aD];by_cases h:0≤i<;>simp[h]
theorem idx_eq {α:Type}[DecidableEq α]{l:List α}{x z:α}{k:Nat}(hk:k<l.length)(hj:∀j,j<k→l.getD j z≠x)(h:¬l.getD k z≠x):x∈l∧l.findIdx (fun y=>decide (y=x))=k:=by
 have e:l[k]=x:=by simpa [hk] using h
 refine⟨e▸dJ hk,(List.findIdx_eq hk).2 ⟨by simp[e],fun j eX=>?_⟩⟩;have fD:j<l.length:=by omega
 simpa [fD] using hj j eX
theorem XN {α:Type}[DecidableEq α]{l:List α}{x z:α}(hj:∀j,j<l.length→l.getD j z≠x):¬x∈l:=fun hm=>by
 obtain⟨j,fD,rfl⟩:=gZ hm;have:=hj j fD;simp[fD] at this
def uL {α:Type}[DecidableEq α](l:List α)(x:α):Int:=if x∈l then(l.findIdx (fun y=>decide (y=x)):Nat) else-1
def hasB {α:Type}[DecidableEq α](l:List α)(x:α):Bool:=l.any fun y=>decide (y=x)
theorem Wt {α:Type}[DecidableEq α]{l:List α}{x:α}:hasB l x=true↔x∈l:=by simp[hasB]
theorem aia {α:Type}[DecidableEq α]{l:List α}{x:α}:hasB l x=false↔¬x∈l:=by rw[←Wt];simp
theorem XM {α:Type}[DecidableEq α](l:List α)(x:α):decide (0≤uL l x)=hasB l x:=by
 unfold uL;by_cases h:x∈l
 ·rw[Wt.2 h];simp[h]
 ·rw[aia.2 h];simp[h]
@[simp] theorem auy (a b:ByteArray):za .eql a b=decide (a=b):=by
  simp only[za,ByteArray.toList_eq];by_cases h:a=b
  ·subst h;simp
  ·rw[decide_eq_false h,beq_eq_false_iff_ne];intro e;have:a.data=b.data:=by rw[←tJ];exact e
   exact h (by cases a;cases b;cases this;rfl)
@[simp] theorem axS (a:ByteArray):(str a).s=a:=_root_.id rfl
theorem acO (l:List Int)(x:Int)(hl:l.length≤4294967296):av T 128 [ints l,.int x] (.int (uL l x)):=by
 refine .of_tree rfl (lA 21 (by kernel_rfl)) aqK ?_;simp[SX];refine .scan l.length (fun k=>l.getD k 0≠x) (fun k=>[.int 0,.int k]) (fun _=>[]) ?_ (fun k hk hj ho=>?_) (fun k hk hj ho=>?_) (fun hj=>?_)
 ·simp
 ·have hw:=bJ hk hl;simp[hk] at ho;have dV:¬x=l[k]:=fun e=>ho e.symm;simp[Q4,EW,hk,hw,ints,ho,dV]
 ·obtain⟨hm,he⟩:=idx_eq hk hj ho;simp[hk] at ho;simp[Q4,EW,hk,ints,ho,uL,hm,he]
 ·have:=XN hj;simp[Q4,EW,uL,this,ints]
theorem FD (l:List Int)(x:Int)(hl:l.length≤4294967296):av T 105 [ints l,.int x] (.bool (hasB l x)):=by
 refine .of_tree rfl (lA 20 (by kernel_rfl)) aqE ?_;simp[SQ];refine⟨_,acO l x hl,?_⟩;have:=XM l x;simp at this ⊢;exact this
theorem acP (l:List ByteArray)(x:ByteArray)(hl:l.length≤4294967296):av T 122 [strs l,str x] (.int (uL l x)):=by
 refine .of_tree rfl (lA 65 (by kernel_rfl)) aqL ?_;simp[SY];refine .scan l.length (fun k=>l.getD k default≠x) (fun k=>[.int 0,.int k]) (fun _=>[]) ?_ (fun k hk hj ho=>?_) (fun k hk hj ho=>?_) (fun hj=>?_)
 ·simp
 ·have hw:=bJ hk hl;simp[hk] at ho;have dV:¬x=l[k]:=fun e=>ho e.symm;simp[Q5,EX,hk,hw,strs,ho,dV]
 ·obtain⟨hm,he⟩:=idx_eq hk hj ho;simp[hk] at ho;simp[Q5,EX,hk,strs,ho,uL,hm,he]
 ·have:=XN hj;simp[Q5,EX,uL,this,strs]
theorem acK (l:List ByteArray)(x:ByteArray)(hl:l.length≤4294967296):av T 102 [strs l,str x] (.bool (hasB l x)):=by
 refine .of_tree rfl (lA 64 (by kernel_rfl)) aqF ?_;simp[SR];refine⟨_,acP l x hl,?_⟩;have:=XM l x;simp at this ⊢;exact this
def Ke (l:List Int)(a b:Int)(k:Nat):Bool:=wi (l.getD k 0) a b&&(k==0||decide (l.getD (k-1) 0<l.getD k 0))
def rising (l:List Int)(a b:Int):Bool:=hZ l.length (Ke l a b)
theorem E2 (l:List Int)(a b:Int)(hl:l.length≤4294967296):av T 80 [ints l,.int a,.int b] (.bool (rising l a b)):=by
 refine .of_tree rfl (lA 69 (by kernel_rfl)) aqt ?_;simp[SG];refine m6 l.length (Ke l a b) (fun k=>[.bool false,.int k]) (fun _=>[]) ?_ (fun k hk ho=>?_) (fun k hk ho hb=>?_) (fun hj=>?_)
 ·simp
 ·have hw:=bJ hk hl;simp[Ke,wi,hk] at ho;obtain⟨⟨h1,h2⟩,h3⟩:=ho;have dC:¬l[k]<a:=by omega
  have ny:¬b<l[k]:=by omega
  by_cases zI:0<k
  ·have bQ:k-1<l.length:=by omega
   have fl:IntKind.i64.wrap ((k:Int)-1)=((k-1:Nat):Int):=by rw[acw (by omega)];omega
   have lR:¬l[k]≤l[k-1]:=by
        rcases h3 with h3|h3
        ·omega
        ·simp[bQ] at h3;omega
   simp[AN,vi,hk,hw,fl,ints,dC,ny,lR,zI,bQ]
  ·simp[AN,vi,hk,hw,ints,dC,ny,zI]
 ·have hf:rising l a b=false:=hb;simp[Ke,wi,hk] at ho;by_cases h1:l[k]<a
  ·simp[AN,vi,hk,ints,h1,hf]
  by_cases h2:b<l[k]
  ·simp[AN,vi,hk,ints,h1,h2,hf]
  have h3:=ho (by omega) (by omega);have zI:0<k:=by omega
  have bQ:k-1<l.length:=by omega
  have fl:IntKind.i64.wrap ((k:Int)-1)=((k-1:Nat):Int):=by rw[acw (by omega)];omega
  have lR:=h3.2;simp[bQ] at lR;simp[AN,vi,hk,fl,ints,h1,h2,lR,zI,bQ,hf]
 ·have hf:rising l a b=true:=hj;simp[AN,vi,hf]
def OO (c:Int):Bool:=wi c 97 122||wi c 65 90
def Jm (i:Nat)(c:Int):Bool:=OO c||(i !=0&&(decide (c=95)||wi c 48 57))
def F7 (s:ByteArray)(k:Nat):Int:=((s.data.toList.getD k 0).toNat:Nat)
def ru (s:ByteArray):Bool:=decide (1≤s.size)&&decide (s.size≤20)&&hZ s.size (fun k=>Jm k (F7 s k))
theorem US {s:ByteArray}{k:Nat}(h:k<s.data.size):(s.data[k].toNat:Int)=F7 s k:=by
 unfold F7;rw[aH,bu (by simpa using h)];rfl
theorem ab3 {s:ByteArray}:s=⟨#[]⟩↔s.size=0:=by
 constructor
 ·rintro rfl;rfl
 ·intro h;cases s with|mk d=>congr;exact KO h
theorem aoh (s:ByteArray):av T 101 [str s] (.bool (ru s)):=by
 refine .of_tree rfl (lA 63 (by kernel_rfl)) aqo ?_;simp[SA];by_cases h0:s=⟨#[]⟩
 ·have hn:ru s=false:=by simp[ru,ab3.1 h0]
  rw[hn];simp[h0]
 by_cases h1:(20:Int)<s.size
 ·have dC:¬s.size≤20:=by omega
  simp[h0,h1,ru,dC]
 have hz:1≤s.size:=by
  have:s.size≠0:=fun e=>h0 (ab3.2 e);omega
 have dC:s.size≤20:=by omega
 simp[h0,h1];refine⟨by omega,m6 s.size (fun k=>Jm k (F7 s k)) (fun k=>[.bool false,.int k]) (fun _=>[]) ?_ (fun k hk ho=>?_) (fun k hk ho hb=>?_) (fun hj=>?_)⟩
 ·simp
 ·have hw:=bJ hk (by omega);have cj:k<s.data.size:=hk;have hg:=US cj;simp[Jm,OO,wi] at ho;simp[QM,EH,hk,cj,hw,hg];omega
 ·have cj:k<s.data.size:=hk;have hg:=US cj;have hn:ru s=false:=by simp[ru,hb]
  simp[Jm,OO,wi] at ho;simp[QM,EH,hk,cj,hg,hn];omega
 ·have hn:ru s=true:=by simp[ru,hj,hz,dC]
  have hd:s.data.size=s.size:=rfl;simp[QM,EH,hn,hd]
end Rm
namespace Rm
open Go Go.Proofs Cx
def uT (l:List ByteArray)(i:Nat):Int:=if ru (l.getD i default)=false then 2 else if hasB (l.take i) (l.getD i default) then 5 else 0
theorem abv (l:List ByteArray)(i:Nat)(hi:i<l.length)(hl:l.length≤4294967296):av T 79 [strs l,.int i] (.int (uT l i)):=by
 refine .of_tree rfl (lA 62 (by kernel_rfl)) aqp ?_;simp[SB,hi];refine⟨_,by simpa [strs,hi] using aoh l[i],?_⟩;unfold uT;rw[aH,bu hi,nr];cases h1:ru l[i]<;>simp[h1];refine⟨by omega,_,by simpa [strs,hi] using acK (l.take i) l[i] (by rw[du];omega),?_⟩;cases h2:hasB (l.take i) l[i]<;>simp[h2]
def wu (l:List ByteArray)(g:Nat→Bool)(i:Nat):Int:=if uT l i≠0 then uT l i else if g i then 0 else 1
def ou (l:List ByteArray)(DT:Int)(g:Nat→Bool):Int:=if DT<l.length then 6 else fO l.length (wu l g)
theorem J8 (l:List ByteArray)(DT:Int)(f:Nat)(caps:List D)(g:Nat→Bool)(hg:∀i:Nat,i<l.length→av T f (.int i::caps) (.bool (g i)))(hl:l.length≤4294967296):
 av T 51 [strs l,.int DT,.clo f caps] (.int (ou l DT g)):=by
 refine .of_tree rfl (lA 61 (by kernel_rfl)) aqm ?_;simp[Sy,ou];by_cases h0:DT<l.length
 ·simp[h0];intro h;omega
 simp[h0];refine xJ l.length (wu l g) (fun k=>[.int 0,.int k]) (fun _=>[]) ?_ (fun k hk ho=>?_) (fun k hk ho hb=>?_) (fun hj=>?_)
 ·simp
 ·have hw:=bJ hk hl;have h1:uT l k=0:=by
   refine vK fun h=>?_;unfold wu at ho;rw[if_pos h] at ho;exact h ho
  have h2:g k=true:=by
   unfold wu at ho;rw[if_neg (by simpa using h1)] at ho;cases h:g k with
   |true=>rfl
   |false=>rw[h] at ho;simp at ho
  simp[QL,EG,hk,hw];refine⟨_,abv l k hk hl,?_⟩;simp[h1];refine⟨_,_,⟨rfl,rfl⟩,_,hg k hk,?_⟩;simp[h2,hw]
 ·simp[QL,EG,hk,hb];refine⟨_,abv l k hk hl,?_⟩;unfold wu at ho ⊢;by_cases h1:uT l k=0
  ·simp[h1] at ho ⊢;refine⟨_,_,⟨rfl,rfl⟩,_,hg k hk,?_⟩;simp[ho]
  ·simp[h1]
 ·simp[QL,EG,hj]
def qU (r:Realm)(c:City):Bool:=hZ c.feasts.length (fun k=>wi ((c.feasts.getD k 0).tmod 100) 1 31)&&(decide (c.feasts.length≤60)&&decide (c.shut.length≤200)&&aD c.order r.orders.length&&aD c.currency r.currencies.length)&&
 (rising c.rest 0 6&&rising c.feasts 101 1231&&rising c.shut 0 100000)
theorem aog (r:Realm)(c:City)(h1:c.rest.length≤4294967296)(h2:c.feasts.length≤4294967296)(h3:c.shut.length≤4294967296):av T 54 [bK r,nv c] (.bool (qU r c)):=by
 refine .of_tree rfl (lA 68 (by kernel_rfl)) aql ?_;simp[Sw];refine m6 c.feasts.length (fun k=>wi ((c.feasts.getD k 0).tmod 100) 1 31) (fun k=>[.bool false,.int k]) (fun _=>[]) ?_ (fun k hk ho=>?_) (fun k hk ho hb=>?_) (fun hj=>?_)
 ·simp
 ·have hw:=bJ hk h2;simp[wi,hk] at ho;have g1:¬(c.feasts[k].tmod 100<1):=by omega
  have g2:¬(31<c.feasts[k].tmod 100):=by omega
  simp[QK,EF,hk,hw,ints,g1,g2]
 ·have hf:qU r c=false:=by simp only[qU,hb,vJ]
  simp[wi,hk] at ho;simp[QK,EF,hk,ints,hf];by_cases g1:c.feasts[k].tmod 100<1
  ·simp[g1]
  ·have g2:=ho (by omega);simp[g1,g2]
 ·simp[QK,EF];by_cases g1:(c.feasts.length:Int)≤60
  case neg=>
   have hf:qU r c=false:=by
        have j0:decide (c.feasts.length≤60)=false:=decide_eq_false (by omega);simp only[qU,j0,vJ,Fz]
   have j0:(60:Int)<c.feasts.length:=by omega
   simp[g1,j0,hf]
  by_cases g2:(c.shut.length:Int)≤200
  case neg=>
   have hf:qU r c=false:=by
        have j0:decide (c.shut.length≤200)=false:=decide_eq_false (by omega);simp only[qU,j0,vJ,Fz]
   have uk:(200:Int)<c.shut.length:=by omega
   simp[g1,g2,uk,hf]
  have j0:¬(60:Int)<c.feasts.length:=by omega
  have uk:¬(200:Int)<c.shut.length:=by omega
  have hf:qU r c=(aD c.order r.orders.length&&aD c.currency r.currencies.length&&(rising c.rest 0 6&&rising c.feasts 101 1231&&rising c.shut 0 100000)):=by
   have e1:decide (c.feasts.length≤60)=true:=decide_eq_true (by omega);have e2:decide (c.shut.length≤200)=true:=decide_eq_true (by omega);simp only[qU,hj,e1,e2,FA]
  rw[hf];simp[g1,g2,j0,uk];refine⟨_,gl _ _,?_⟩;simp;cases e1:aD c.order r.orders.length<;>simp;refine⟨_,gl _ _,?_⟩;simp;cases e2:aD c.currency r.currencies.length<;>simp;refine⟨_,E2 _ _ _ h1,?_⟩;simp;cases e3:rising c.rest 0 6<;>simp;refine⟨_,E2 _ _ _ h2,?_⟩;simp;cases e4:rising c.feasts 101 1231<;>simp;exact E2 _ _ _ h3
end Rm
namespace Rm
open Go Go.Proofs Cx
theorem A3 {α β:Type}(f:α→β){l:List α}{k:Nat}(h:k<l.length):(l.take (k+1)).map f=(l.take k).map f++[f l[k]]:=by
 rw[se h,oa];rfl
theorem zX (i:Int)(n:Nat):aD i n=wi i 0 ((n:Int)-1):=by
 rw[KP];simp[wi,aD];omega
def Bq (o:Order):List Int:=o.choices.map (·.ask)
def F2 (o:Order):List Int:=o.rules.map (·.ask)
def uX (o:Order):Bool:=hZ o.choices.length (fun k=>aD (o.choices.getD k default).by_ 5)&&(rising (Bq o) 0 21&&rising (F2 o) 0 21)
theorem aoj (o:Order)(h1:o.choices.length≤100000)(h2:o.rules.length≤100000):av T 58 [kZ o] (.bool (uX o)):=by
 refine .of_tree rfl (lA 72 (by kernel_rfl)) aqr ?_;simp[SD];refine m6 o.choices.length (fun k=>aD (o.choices.getD k default).by_ 5) (fun k=>[.bool false,.none,.int k]) (fun k=>[ints ((o.choices.take k).map (·.ask))]) ?_ (fun k hk ho=>?_) (fun k hk ho hb=>?_) (fun hj=>?_)
 ·simp[ints]
 ·have hw:=bJ hk (by omega);have hl:(o.choices.take k).length=k:=by rw[du];omega
  simp[hk] at ho;rw[A3 _ hk];simp[QN,EI,hk,hw,ints,hl];refine⟨by omega,_,gl _ _,?_⟩;simp[ho,hw]
 ·have hf:uX o=false:=by simp only[uX,hb,vJ]
  have hl:(o.choices.take k).length=k:=by rw[du];omega
  simp[hk] at ho;simp[QN,EI,hk,ints,hl,hf];refine⟨by omega,_,gl _ _,?_⟩;simp[ho]
 ·have hf:uX o=(rising (Bq o) 0 21&&rising (F2 o) 0 21):=by simp only[uX,hj,FA]
  rw[hf];simp[QN,EI];refine aU.forRounds o.rules.length (fun k=>[.none,.int k]) (fun k=>[ints ((o.rules.take k).map (·.ask))]) ?_ (fun k hk=>?_) ?_
  ·simp[ints]
  ·have hw:=bJ hk (by omega);have hl:(o.rules.take k).length=k:=by rw[du];omega
   rw[A3 _ hk];simp[abm,J3,hk,hw,ints,hl];omega
  ·simp[abm,J3];refine⟨_,E2 (Bq o) _ _ (by simp[Bq];omega),?_⟩;simp;cases e1:rising (Bq o) 0 21<;>simp;exact E2 (F2 o) _ _ (by simp[F2];omega)
def xk (r:Realm):List ByteArray:=r.cities.map (·.name)
def xl (r:Realm):List ByteArray:=r.firms.map (·.name)
def tc (r:Realm):List ByteArray:=r.orders.map (·.name)
theorem aoi (r:Realm)(h1:r.cities.length≤100000)(h2:r.firms.length≤100000)(h3:r.orders.length≤100000):av T 50 [bK r] (.tup [strs (xk r),strs (xl r),strs (tc r)]):=by
 refine .of_tree rfl (lA 60 (by kernel_rfl)) aqq ?_;simp[SC];refine aU.forRounds r.cities.length (fun k=>[.none,.int k]) (fun k=>[strs ((r.cities.take k).map (·.name))]) ?_ (fun k hk=>?_) ?_
 ·simp[strs]
 ·have hw:=bJ hk (by omega);have hl:(r.cities.take k).length=k:=by rw[du];omega
  rw[A3 _ hk];simp[abj,J0,hk,hw,strs,hl];omega
 ·simp[abj,J0];refine aU.forRounds r.firms.length (fun k=>[.none,.int k]) (fun k=>[strs ((r.firms.take k).map (·.name))]) ?_ (fun k hk=>?_) ?_
  ·simp[strs]
  ·have hw:=bJ hk (by omega);have hl:(r.firms.take k).length=k:=by rw[du];omega
   rw[A3 _ hk];simp[abk,J1,hk,hw,strs,hl];omega
  ·simp[abk,J1];refine aU.forRounds r.orders.length (fun k=>[.none,.int k]) (fun k=>[strs ((r.orders.take k).map (·.name))]) ?_ (fun k hk=>?_) ?_
   ·simp[strs]
   ·have hw:=bJ hk (by omega);have hl:(r.orders.take k).length=k:=by rw[du];omega
    rw[A3 _ hk];simp[abl,J2,hk,hw,strs,hl];omega
   ·simp[abl,J2,xk,xl,tc]
end Rm
namespace Rm
open Go Go.Proofs Cx
structure Small (r:Realm):Prop where
 cur:r.currencies.length≤1000
 cities:r.cities.length≤1000
 groups:r.groups.length≤1000
 firms:r.firms.length≤1000
 orders:r.orders.length≤1000
 us:r.usances.length≤1000
 rates:r.rates.length≤1000
 halts:r.halts.length≤1000
 city:∀c,c∈r.cities→c.rest.length≤1000∧c.feasts.length≤1000∧c.shut.length≤1000∧∀y,y∈c.feasts→aW y
 order:∀o,o∈r.orders→o.choices.length≤1000∧o.rules.length≤1000
 rate:∀x,x∈r.rates→aW x.num∧aW x.den
def vB (r:Realm)(k j:Nat):Bool:=(r.usances.getD j default).fr !=(r.usances.getD k default).fr||(r.usances.getD j default).to !=(r.usances.getD k default).to
def KI (r:Realm)(k:Nat):Int:=
 if(aD (r.usances.getD k default).fr r.cities.length&&aD (r.usances.getD k default).to r.cities.length&&wi (r.usances.getD k default).days 1 20000)=false then 1 else if hZ k (vB r k) then 0 else 5
def KJ (r:Realm):Int:=if 100<r.usances.length then 6 else fO r.usances.length (KI r)
theorem aol (r:Realm)(h:Small r):av T 59 [bK r] (.int (KJ r)):=by
 refine .of_tree rfl (lA 73 (by kernel_rfl)) aqu ?_;have hu:=h.us;simp[SH,KJ];by_cases h0:100<r.usances.length
 ·have ld:(100:Int)<r.usances.length:=by omega
  have MQ:¬r.usances.length≤100:=by omega
  simp[h0,ld,MQ]
 have ld:¬(100:Int)<r.usances.length:=by omega
 simp[h0,ld];refine xJ r.usances.length (KI r) (fun k=>[.int 0,.int k]) (fun _=>[]) ?_ (fun k hk ho=>?_) (fun k hk ho hb=>?_) (fun hj=>?_)
 ·simp
 ·have hw:=bJ hk (by omega);have ha:aD r.usances[k].fr r.cities.length=true∧aD r.usances[k].to r.cities.length=true∧wi r.usances[k].days 1 20000=true∧hZ k (vB r k)=true:=by
   unfold KI at ho;simp only[aH,bu hk,nr] at ho;cases e1:aD r.usances[k].fr r.cities.length<;>cases e2:aD r.usances[k].to r.cities.length<;>cases e3:wi r.usances[k].days 1 20000<;>cases e4:hZ k (vB r k)<;>simp[e1,e2,e3,e4] at ho ⊢
  obtain⟨a1,a2,a3,a4⟩:=ha;simp[wi] at a3;have a5:¬r.usances[k].days<1:=by omega
  have a6:¬20000<r.usances[k].days:=by omega
  simp[QQ,EL,hk];refine⟨_,gl _ _,?_⟩;simp[a1];refine⟨_,gl _ _,?_⟩;simp[a2,a5,a6];refine⟨by omega,m6 k (vB r k) (fun j=>[.int 0,.int j]) (fun _=>[]) ?_ (fun j hj iO=>?_) (fun j hj iO bn=>?_) (fun wH=>?_)⟩
  ·simp
  ·have DE:=bJ hj (by omega);have bA:j<r.usances.length:=by omega
   have hm:j<min k r.usances.length:=by omega
   simp[vB,bA,hk] at iO;simp[J4,AO,hj,bA,hk,DE,hm];intro e e';rcases iO with h|h
   ·exact absurd e h
   ·exact absurd e' h
  ·rw[a4] at bn;cases bn
  ·simp[J4,AO,hw];omega
 ·simp[QQ,EL,hk,hb];refine⟨_,gl _ _,?_⟩;unfold KI at ho ⊢;simp only[aH,bu hk,nr] at ho ⊢;cases e1:aD r.usances[k].fr r.cities.length
  ·simp
  simp;refine⟨_,gl _ _,?_⟩;cases e2:aD r.usances[k].to r.cities.length
  ·simp
  cases e3:wi r.usances[k].days 1 20000
  ·simp[wi] at e3;by_cases g:r.usances[k].days<1
   ·simp[g]
   ·simp[g,e3 (by omega)]
  have Mh:=e3;simp[wi] at Mh;have a5:¬r.usances[k].days<1:=by omega
  have a6:¬20000<r.usances[k].days:=by omega
  simp[e1,e2,e3] at ho;simp[a5,a6];refine⟨by omega,m6 k (vB r k) (fun j=>[.int 0,.int j]) (fun _=>[]) ?_ (fun j hj iO=>?_) (fun j hj iO bn=>?_) (fun wH=>?_)⟩
  ·simp
  ·have DE:=bJ hj (by omega);have bA:j<r.usances.length:=by omega
   have hm:j<min k r.usances.length:=by omega
   simp[vB,bA,hk] at iO;simp[J4,AO,hj,bA,hk,DE,hm];intro e e';rcases iO with h|h
   ·exact absurd e h
   ·exact absurd e' h
  ·have bA:j<r.usances.length:=by omega
   have hm:j<min k r.usances.length:=by omega
   simp[vB,bA,hk] at iO;simp[J4,AO,hj,bA,hk,ho,hm]
   first|exact iO|simp[iO]
  ·rw[wH] at ho;cases ho
 ·simp[QQ,EL,hj]
def JN (r:Realm)(k:Nat):Bool:=aD (r.rates.getD k default).fr r.currencies.length&&aD (r.rates.getD k default).to r.currencies.length&&((r.rates.getD k default).fr !=(r.rates.getD k default).to)&&
 wi (r.rates.getD k default).num 1 1073741824&&wi (r.rates.getD k default).den 1 1073741824&&wi (r.rates.getD k default).since 0 100000
def CD (r:Realm)(k:Nat):Bool:=aD (r.halts.getD k default).order r.orders.length&&wi (r.halts.getD k default).fr 0 (r.halts.getD k default).to&&decide ((r.halts.getD k default).to≤100000)
def vk (r:Realm):Int:=if 100<r.rates.length then 6 else if hZ r.rates.length (JN r)=false then 1 else if 20<r.halts.length then 6 else if hZ r.halts.length (CD r) then 0 else 1
theorem IF {n:Int}(h:aW n)(m:Int)(hm:0≤m∧m≤4294967296):aD (IntKind.i64.wrap (n-1)) m=wi n 1 m:=by
 unfold aW at h;by_cases e:n=-9223372036854775808
 ·subst e;have:IntKind.i64.wrap (-9223372036854775808-1)=9223372036854775807:=by decide
  rw[this,KP];simp[aD,wi];omega
 ·rw[cn (by omega),KP];simp[aD,wi];omega
theorem XR (n:Int):aD n 100001=wi n 0 100000:=by rw[KP];simp[aD,wi];omega
theorem aok (r:Realm)(h:Small r):av T 60 [bK r] (.int (vk r)):=by
 refine .of_tree rfl (lA 74 (by kernel_rfl)) aqs ?_;have hu:=h.rates;have hh:=h.halts;simp[SF,vk];by_cases h0:100<r.rates.length
 ·have ld:(100:Int)<r.rates.length:=by omega
  have MQ:¬r.rates.length≤100:=by omega
  simp[h0,ld,MQ]
 have ld:¬(100:Int)<r.rates.length:=by omega
 simp[h0,ld];have key:∀k (hk:k<r.rates.length),∀{ρ:Env} {Q:Out→Prop},True:=fun _ _ _ _=>trivial;refine m6 r.rates.length (JN r) (fun k=>[.int 0,.int k]) (fun _=>[]) ?_ (fun k hk ho=>?_) (fun k hk ho hb=>?_) (fun hj=>?_)
 ·simp
 ·have hw:=bJ hk (by omega);have hI:=h.rate _ (dJ hk);simp[JN,hk] at ho;obtain⟨⟨⟨⟨⟨a1,a2⟩,a3⟩,a4⟩,a5⟩,a6⟩:=ho;simp[QO,EJ,hk];refine⟨_,gl _ _,?_⟩;simp[a1];refine⟨_,gl _ _,?_⟩;simp[a2,a3];refine⟨_,gl _ _,?_⟩;simp[IF hI.1,a4];refine⟨_,gl _ _,?_⟩;simp[IF hI.2,a5];refine⟨_,gl _ _,?_⟩;simp[XR,a6,hw]
 ·have hI:=h.rate _ (dJ hk);rw[hb];simp[JN,hk] at ho;simp[QO,EJ,hk];refine⟨_,gl _ _,?_⟩;cases e1:aD r.rates[k].fr r.currencies.length
  ·simp
  simp;refine⟨_,gl _ _,?_⟩;cases e2:aD r.rates[k].to r.currencies.length
  ·simp
  by_cases e3:r.rates[k].fr=r.rates[k].to
  ·simp[e3]
  simp[e3];refine⟨_,gl _ _,?_⟩;rw[IF hI.1 _ (by omega)];cases e4:wi r.rates[k].num 1 1073741824
  ·simp
  simp;refine⟨_,gl _ _,?_⟩;rw[IF hI.2 _ (by omega)];cases e5:wi r.rates[k].den 1 1073741824
  ·simp
  simp;refine⟨_,gl _ _,?_⟩;rw[XR];simp[ho e1 e2 e3 e4 e5]
 ·rw[hj];simp[QO,EJ];by_cases h1:20<r.halts.length
  ·have dC:(20:Int)<r.halts.length:=by omega
   have ahs:¬r.halts.length≤20:=by omega
   simp[h1,dC,ahs]
  have dC:¬(20:Int)<r.halts.length:=by omega
  simp[h1,dC];refine m6 r.halts.length (CD r) (fun k=>[.int 0,.int k]) (fun _=>[]) ?_ (fun k hk ho=>?_) (fun k hk ho hb=>?_) (fun hj=>?_)
  ·simp
  ·have hw:=bJ hk (by omega);simp[CD,wi,hk] at ho;obtain⟨⟨a1,a2⟩,a3⟩:=ho;have b1:¬r.halts[k].fr<0:=by omega
   have b2:¬r.halts[k].to<r.halts[k].fr:=by omega
   have b3:¬100000<r.halts[k].to:=by omega
   simp[QP,EK,hk];refine⟨_,gl _ _,?_⟩;simp[a1,b1,b2,b3,hw]
  ·rw[hb];simp[CD,wi,hk] at ho;simp[QP,EK,hk];refine⟨_,gl _ _,?_⟩;cases e1:aD r.halts[k].order r.orders.length
   ·simp
   have:=ho e1;by_cases b1:r.halts[k].fr<0
   ·simp[b1]
   by_cases b2:r.halts[k].to<r.halts[k].fr
   ·simp[b1,b2]
   have b3:100000<r.halts[k].to:=this (by omega) (by omega);simp[b1,b2,b3]
  ·rw[hj];simp[QP,EK]
end Rm
namespace Rm
open Go Go.Proofs Cx
def nS:List Int→Int
 |[]=>0
 |x::l=>if x=0 then nS l else x
theorem Rn:∀{l:List Int},nS l=0↔∀x,x∈l→x=0
 |[]=>by simp[nS]
 |x::l=>by
  simp only[nS,cW,forall_eq_or_imp];by_cases h:x=0
  ·simp[h,Rn (l:=l)]
  ·simp[h]
def Ch (r:Realm)(i:Nat):Bool:=aD (r.firms.getD i default).city r.cities.length&&aD (r.firms.getD i default).group r.groups.length
def BO (r:Realm)(i:Nat):Bool:=qU r (r.cities.getD i default)
def xq (r:Realm)(i:Nat):Bool:=uX (r.orders.getD i default)
def Hu (r:Realm)(i:Nat):Bool:=aD (r.groups.getD i default).grade 10
def MO (r:Realm):Int:=if 20<r.groups.length then 6 else if hZ r.groups.length (Hu r) then 0 else 1
def oh (r:Realm):Int:=nS [ou r.currencies 8 (fun _=>true),ou (xk r) 40 (BO r),MO r,ou (xl r) 200 (Ch r),ou (tc r) 20 (xq r),KJ r,vk r]
theorem ad6 (i:Int):av T 52 [.int i] (.bool true):=by
 refine .of_tree rfl (lA 66 (by kernel_rfl)) aqe ?_;simp[Sp]
theorem ad7 (r:Realm)(h:Small r)(i:Nat)(hi:i<r.cities.length):av T 53 [.int i,.ref (bK r)] (.bool (BO r i)):=by
 refine .of_tree rfl (lA 67 (by kernel_rfl)) aqf ?_;obtain⟨h1,h2,h3,h4⟩:=h.city _ (dJ hi);simp[Sq,hi,BO];exact aog r r.cities[i] (by omega) (by omega) (by omega)
theorem ad8 (r:Realm)(i:Nat)(hi:i<r.firms.length):av T 56 [.int i,.ref (bK r)] (.bool (Ch r i)):=by
 refine .of_tree rfl (lA 70 (by kernel_rfl)) aqg ?_;simp[Sr,hi,Ch];refine⟨_,gl _ _,?_⟩;simp[hi];cases e1:aD r.firms[i].city r.cities.length<;>simp;exact gl _ _
theorem ad9 (r:Realm)(h:Small r)(i:Nat)(hi:i<r.orders.length):av T 57 [.int i,.ref (bK r)] (.bool (xq r i)):=by
 refine .of_tree rfl (lA 71 (by kernel_rfl)) aqh ?_;obtain⟨h1,h2⟩:=h.order _ (dJ hi);simp[Ss,hi,xq];exact aoj r.orders[i] (by omega) (by omega)
theorem abu (r:Realm)(h:Small r):av T 25 [bK r] (.int (oh r)):=by
 refine .of_tree rfl (lA 59 (by kernel_rfl)) aqi ?_;have g1:=h.cur;have g2:=h.cities;have g3:=h.firms;have g4:=h.orders;have g5:=h.groups;simp[So];refine⟨_,aoi r (by omega) (by omega) (by omega),?_⟩;simp;refine⟨_,J8 r.currencies 8 52 [] (fun _=>true) (fun i _=>ad6 _) (by omega),?_⟩;unfold oh;generalize e1:ou r.currencies 8 (fun _=>true)=x1;by_cases z1:x1=0
 case neg=>simp[z1,nS]
 simp[z1,nS];refine⟨_,J8 (xk r) 40 53 [.ref (bK r)] (BO r) (fun i hi=>ad7 r h i (by simpa [xk] using hi)) (by simp[xk];omega),?_⟩;generalize e2:ou (xk r) 40 (BO r)=x2;by_cases z2:x2=0
 case neg=>simp[z2]
 simp[z2];by_cases z3:20<r.groups.length
 ·have TI:(20:Int)<r.groups.length:=by omega
  simp[TI,MO,z3]
 have TI:¬(20:Int)<r.groups.length:=by omega
 simp[TI,MO,z3];refine m6 r.groups.length (Hu r) (fun k=>[.int 0,.int k]) (fun _=>[]) ?_ (fun k hk ho=>?_) (fun k hk ho hb=>?_) (fun hj=>?_)
 ·simp
 ·have hw:=bJ hk (by omega);simp[Hu,hk] at ho;simp[QI,ED,hk];refine⟨_,gl _ _,?_⟩;simp[ho,hw]
 ·simp[Hu,hk] at ho;rw[hb];simp[QI,ED,hk];refine⟨_,gl _ _,?_⟩;simp[ho]
 ·rw[hj];simp[QI,ED];refine⟨_,J8 (xl r) 200 56 [.ref (bK r)] (Ch r) (fun i hi=>ad8 r i (by simpa [xl] using hi)) (by simp[xl];omega),?_⟩;generalize e4:ou (xl r) 200 (Ch r)=x4;by_cases z4:x4=0
  case neg=>simp[z4]
  simp[z4];refine⟨_,J8 (tc r) 20 57 [.ref (bK r)] (xq r) (fun i hi=>ad9 r h i (by simpa [tc] using hi)) (by simp[tc];omega),?_⟩;generalize e5:ou (tc r) 20 (xq r)=x5;by_cases z5:x5=0
  case neg=>simp[z5]
  simp[z5];refine⟨_,aol r h,?_⟩;generalize e6:KJ r=x6;by_cases z6:x6=0
  case neg=>simp[z6]
  simp[z6];have e7:(if vk r=0 then 0 else vk r)=vk r:=by split<;>simp_all
  rw[e7];exact aok r h
theorem age {l:List ByteArray}{g:Nat→Bool}{k:Nat}(h:wu l g k=0):uT l k=0∧g k=true:=by
 unfold wu at h;by_cases h1:uT l k=0
 ·simp[h1] at h;exact⟨h1,h⟩
 ·simp[h1] at h
end Rm
namespace Rm
open Go Go.Proofs Cx
def kg:Nat→Tm→Int→Int
 |0,_,_=>-1
 |L+1,t,n=>t.args.foldl (fun m a=>if 0≤m then kg L a m else m) (n-1)
theorem size_le:∀(L:Nat) (t:Tm) (n:Int),0≤n→-1≤kg L t n∧kg L t n≤n
 |0,t,n,h=>by simp[kg];omega
 |L+1,t,n,h=>by
  have key:∀(l:List Tm) (m:Int),-1≤m→m≤n→-1≤l.foldl (fun m a=>if 0≤m then kg L a m else m) m∧l.foldl (fun m a=>if 0≤m then kg L a m else m) m≤n:=by
   intro l
   induction l with
   |nil=>intro m h1 h2;exact⟨h1,h2⟩
   |cons a l ih=>
    intro m h1 h2;simp only[KW];split
    ·rename_i hm;have:=size_le L a m hm;exact ih _ this.1 (by omega)
    ·exact ih _ h1 h2
  exact key _ _ (by omega) (by omega)
theorem ab2 (L:Nat):∀(l:List Tm) (m:Int),m<0→l.foldl (fun m a=>if 0≤m then kg L a m else m) m=m
 |[],m,h=>rfl
 |a::l,m,h=>by simp only[KW];rw[if_neg (by omega)];exact ab2 L l m h
theorem ag7 {α β:Type}(f:β→α→β)(b:β){l:List α}{k:Nat}(h:k<l.length):(l.take (k+1)).foldl f b=f ((l.take k).foldl f b) l[k]:=by
 rw[se h,T8];rfl
theorem ag6 {α β:Type}(f:β→α→β)(b:β)(l:List α)(k:Nat):l.foldl f b=(l.drop k).foldl f ((l.take k).foldl f b):=by
 rw[←T8,tQ]
theorem _root_.Cx.Tm.OK.len {t:Tm}(h:t.OK):t.args.length≤9223372036854775807:=by cases h with|mk o n xs h1 h2 h3 h4=>exact h3
theorem _root_.Cx.Tm.OK.arg {t:Tm}(h:t.OK){a:Tm}(ha:a∈t.args):a.OK:=by cases h with|mk o n xs h1 h2 h3 h4=>exact h4 a ha
theorem aaX:∀(L:Nat) (t:Tm) (n:Int),t.OK→0≤n→n≤1000→L≤1000→av T 100 [eh t,.int n,.int L] (.int (kg L t n))
 |0,t,n,ht,h0,h1,hL=>by
  refine .of_tree rfl UH acj ?_;simp[KD,kg]
 |L+1,t,n,ht,h0,h1,hL=>by
  refine .of_tree rfl UH acj ?_;have mN:IntKind.i64.wrap (n-1)=n-1:=cn (by omega);have hl:=ht.len;have l7:¬((L:Int)+1<1):=by omega
  simp[KD,mN,l7]
  let g:Nat→Int:=fun k=>(t.args.take k).foldl (fun m a=>if 0≤m then kg L a m else m) (n-1)
  have gb:∀k,-1≤g k∧g k≤1000:=by
   intro k;have:g k=kg (L+1) (.mk 0 0 (t.args.take k)) n:=rfl;have:=size_le (L+1) (.mk 0 0 (t.args.take k)) n h0;omega
  refine .scan t.args.length (fun k=>0≤g k) (fun k=>[.int (g k),.int k]) (fun _=>[]) ?_ (fun k hk hj ho=>?_) (fun k hk hj ho=>?_) (fun hj=>?_)
  ·simp[g,mN]
  ·have hw:IntKind.i64.wrap ((k:Int)+1)=(k:Int)+1:=cn (by omega);have ID:IntKind.i64.wrap (L:Int)=(L:Int):=cn (by omega);have hg:g (k+1)=kg L t.args[k] (g k):=by
    show(t.args.take (k+1)).foldl _ _=_;rw[ag7 _ _ hk];show(if 0≤g k then _ else _)=_;rw[if_pos ho]
   rw[hg];have jn:=aaX L t.args[k] (g k) (ht.arg (dJ hk)) ho (gb k).2 (by omega);generalize g k=m at*;simp[QC,Ex,hk,ho,ID];refine⟨_,jn,?_⟩;simp[hw]
  ·have hf:kg (L+1) t n=g k:=by
    show t.args.foldl _ _=_;rw[ag6 _ _ _ k];exact ab2 L _ _ (by show g k<0;omega)
   rw[hf];generalize g k=m at*;simp[QC,Ex,hk,ho]
  ·have hf:kg (L+1) t n=g t.args.length:=by
    show t.args.foldl _ _=(t.args.take t.args.length).foldl _ _;rw[FQ]
   rw[hf];generalize g t.args.length=m at*;simp[QC,Ex]
theorem aaW (t:Tm)(ht:t.OK):av T 78 [eh t] (.bool (decide (0≤kg 20 t 100))):=by
 refine .of_tree rfl (lA 57 (by kernel_rfl)) ap8 ?_;simp[Si];refine⟨_,aaX 20 t 100 ht (by omega) (by omega) (by omega),?_⟩;simp
def qZ (o:Order):Bool:=(decide (o.rules.length≤60)&&decide (o.choices.length≤60))&&hZ o.rules.length (fun k=>decide (0≤kg 20 (o.rules.getD k default).term 100))
theorem aaY (o:Order)(ho:o.OK):av T 49 [kZ o] (.bool (qZ o)):=by
 refine .of_tree rfl (lA 56 (by kernel_rfl)) ap9 ?_;simp[Sj];by_cases h1:(o.rules.length:Int)≤60
 case neg=>
  have dC:(60:Int)<o.rules.length:=by omega
  have hf:qZ o=false:=by
   have:decide (o.rules.length≤60)=false:=decide_eq_false (by omega);simp only[qZ,this,vJ]
  simp[dC,hf]
 by_cases h2:(o.choices.length:Int)≤60
 case neg=>
  have dC:(60:Int)<o.choices.length:=by omega
  have hf:qZ o=false:=by
   have:decide (o.choices.length≤60)=false:=decide_eq_false (by omega);simp only[qZ,this,vJ,Fz]
  simp[dC,hf]
 have dC:¬(60:Int)<o.rules.length:=by omega
 have ny:¬(60:Int)<o.choices.length:=by omega
 have hf:qZ o=hZ o.rules.length (fun k=>decide (0≤kg 20 (o.rules.getD k default).term 100)):=by
  have e1:decide (o.rules.length≤60)=true:=decide_eq_true (by omega);have e2:decide (o.choices.length≤60)=true:=decide_eq_true (by omega);simp only[qZ,e1,e2,FA]
 rw[hf];simp[dC,ny];have hO:=ho.2.2;refine m6 o.rules.length (fun k=>decide (0≤kg 20 (o.rules.getD k default).term 100)) (fun k=>[.bool false,.int k]) (fun _=>[]) ?_ (fun k hk ho=>?_) (fun k hk ho hb=>?_) (fun hj=>?_)
 ·simp
 ·have hw:=bJ hk (by omega);simp[hk] at ho;simp[QD,Ey,hk];refine⟨_,aaW _ (hO _ (dJ hk)).2,?_⟩;simp[ho,hw]
 ·simp only[aH] at hb;rw[hb];simp[hk] at ho;simp[QD,Ey,hk];refine⟨_,aaW _ (hO _ (dJ hk)).2,?_⟩;simp[ho]
 ·simp only[aH] at hj;rw[hj];simp[QD,Ey]
def Ce (f:File):Bool:=decide ((f.signs.length:Int)≤50)&&decide ((f.alters.length:Int)≤10)&&decide ((f.acts.length:Int)≤110)&&decide ((f.facts.length:Int)≤220)
theorem anT (f:File):av T 48 [dv f] (.bool (Ce f)):=by
 refine .of_tree rfl (lA 55 (by kernel_rfl)) ap7 ?_;simp[Sg,Ce];by_cases h1:(f.signs.length:Int)≤50<;>by_cases h2:(f.alters.length:Int)≤10<;>by_cases h3:(f.acts.length:Int)≤110<;>by_cases h4:(f.facts.length:Int)≤220<;>
  simp[h1,h2,h3,h4]
end Rm
namespace Rm
open Go Go.Proofs Cx
def Cc (r:Realm)(k:Nat):Bool:=decide (((r.cities.getD k default).feasts.length:Int)≤70)&&decide (((r.cities.getD k default).shut.length:Int)≤210)&&decide (((r.cities.getD k default).rest.length:Int)≤8)
def Cd (r:Realm)(k:Nat):Bool:=decide (((r.orders.getD k default).choices.length:Int)≤40)&&decide (((r.orders.getD k default).rules.length:Int)≤40)
def Hm (r:Realm):Bool:=decide ((r.currencies.length:Int)<50)&&decide ((r.cities.length:Int)<50)&&decide ((r.groups.length:Int)<50)&&decide ((r.firms.length:Int)<210)&&decide ((r.orders.length:Int)<50)&&decide ((r.usances.length:Int)<110)&&decide ((r.rates.length:Int)<110)&&decide ((r.halts.length:Int)<50)
def pH (r:Realm):Bool:=hZ (min r.cities.length 50) (Cc r)&&hZ (min r.orders.length 50) (Cd r)&&Hm r
theorem anJ (r:Realm)(hr:r.OK):av T 47 [bK r] (.bool (pH r)):=by
 refine .of_tree rfl (lA 54 (by kernel_rfl)) ap5 ?_;simp[Se];refine m6 (min r.cities.length 50) (Cc r) (fun k=>[.bool false,.int k]) (fun _=>[]) ?_ (fun k hk ho=>?_) (fun k hk ho hb=>?_) (fun hj=>?_)
 ·simp
 ·have bQ:k<r.cities.length:=by omega
  have bx:k<50:=by omega
  have hw:=bJ bx (by omega);simp[Cc,bQ] at ho;obtain⟨⟨a1,a2⟩,a3⟩:=ho;have b1:¬(70:Int)<r.cities[k].feasts.length:=by omega
  have b2:¬(210:Int)<r.cities[k].shut.length:=by omega
  have b3:¬(8:Int)<r.cities[k].rest.length:=by omega
  simp[Ew,xE,bQ,bx,hw,b1,b2,b3];omega
 ·have bQ:k<r.cities.length:=by omega
  have bx:k<50:=by omega
  have hf:pH r=false:=by simp only[pH,hb,vJ]
  rw[hf];simp[Cc,bQ] at ho;by_cases b1:(70:Int)<r.cities[k].feasts.length
  ·simp[Ew,xE,bQ,bx,b1];omega
  by_cases b2:(210:Int)<r.cities[k].shut.length
  ·simp[Ew,xE,bQ,bx,b1,b2];omega
  have b3:(8:Int)<r.cities[k].rest.length:=by have:=ho (by omega) (by omega);omega
  simp[Ew,xE,bQ,bx,b1,b2,b3];omega
 ·have hn:¬((min r.cities.length 50:Nat):Int)<r.cities.length∨¬((min r.cities.length 50:Nat):Int)<50:=by omega
  simp[Ew,xE];rw[if_neg (by omega)];refine m6 (min r.orders.length 50) (Cd r) (fun k=>[.bool false,.int k]) (fun _=>[]) ?_ (fun k hk ho=>?_) (fun k hk ho hb=>?_) (fun mJ=>?_)
  ·simp
  ·have bQ:k<r.orders.length:=by omega
   have bx:k<50:=by omega
   have hw:=bJ bx (by omega);simp[Cd,bQ] at ho;obtain⟨a1,a2⟩:=ho;have b1:¬(40:Int)<r.orders[k].choices.length:=by omega
   have b2:¬(40:Int)<r.orders[k].rules.length:=by omega
   simp[JZ,AM,bQ,bx,hw,b1,b2];omega
  ·have bQ:k<r.orders.length:=by omega
   have bx:k<50:=by omega
   have hf:pH r=false:=by simp only[pH,hb,vJ,Fz]
   rw[hf];simp[Cd,bQ] at ho;by_cases b1:(40:Int)<r.orders[k].choices.length
   ·simp[JZ,AM,bQ,bx,b1];omega
   have b2:(40:Int)<r.orders[k].rules.length:=by have:=ho (by omega);omega
   simp[JZ,AM,bQ,bx,b1,b2];omega
  ·have hf:pH r=Hm r:=by simp only[pH,hj,mJ,FA]
   rw[hf];simp[JZ,AM];rw[if_neg (by omega)];unfold Hm;by_cases c1:(r.currencies.length:Int)<50<;>simp[c1];by_cases c2:(r.cities.length:Int)<50<;>simp[c2];by_cases c3:(r.groups.length:Int)<50<;>simp[c3];by_cases c4:(r.firms.length:Int)<210<;>simp[c4];by_cases c5:(r.orders.length:Int)<50<;>simp[c5];by_cases c6:(r.usances.length:Int)<110<;>simp[c6];by_cases c7:(r.rates.length:Int)<110<;>simp[c7]
theorem Mw {r:Realm}(hr:r.OK)(h:pH r=true):Small r:=by
 simp only[pH,Hm,aj,decide_eq_true_eq,FZ] at h;obtain⟨⟨h1,h2⟩,⟨⟨⟨⟨⟨⟨⟨c1,c2⟩,c3⟩,c4⟩,c5⟩,c6⟩,c7⟩,c8⟩⟩:=h;obtain⟨k1,⟨k2,k2'⟩,⟨k3,k3'⟩,⟨k4,k4'⟩,⟨k5,k5'⟩,⟨k6,k6'⟩,⟨k7,k7'⟩,⟨k8,k8'⟩⟩:=hr;refine⟨by omega,by omega,by omega,by omega,by omega,by omega,by omega,by omega,fun c hc=>?_,fun o ho=>?_,fun x hx=>?_⟩
 ·obtain⟨k,hk,rfl⟩:=gZ hc;have:=h1 k (by omega);simp[Cc,hk] at this;have:=k2' _ hc;exact⟨by omega,by omega,by omega,fun y hy=>this.2.2.2.1.2 y hy⟩
 ·obtain⟨k,hk,rfl⟩:=gZ ho;have:=h2 k (by omega);simp[Cd,hk] at this;omega
 ·have:=k7' x hx;exact⟨this.2.2.1,this.2.2.2.1⟩
def sE (r:Realm)(f:File):Bool:=(pH r&&Ce f)&&hZ r.orders.length (fun k=>qZ (r.orders.getD k default))
theorem anU (r:Realm)(f:File)(hr:r.OK):av T 24 [bK r,dv f] (.bool (sE r f)):=by
 refine .of_tree rfl (lA 53 (by kernel_rfl)) aqa ?_;simp[Sk];refine⟨_,anJ r hr,?_⟩;cases e1:pH r
 ·simp[sE,e1]
 simp;refine⟨_,anT f,?_⟩;cases e2:Ce f
 ·simp[sE,e1,e2]
 have hs:=Mw hr e1;have ho:=hs.orders;have hf:sE r f=hZ r.orders.length (fun k=>qZ (r.orders.getD k default)):=by simp only[sE,e1,e2,FA]
 rw[hf];simp;have hO:=hr.2.2.2.2.1.2;refine m6 r.orders.length (fun k=>qZ (r.orders.getD k default)) (fun k=>[.bool false,.int k]) (fun _=>[]) ?_ (fun k hk ho=>?_) (fun k hk ho hb=>?_) (fun hj=>?_)
 ·simp
 ·have hw:=bJ hk (by omega);simp[hk] at ho;simp[QE,Ez,hk];refine⟨_,aaY _ (hO _ (dJ hk)),?_⟩;simp[ho,hw]
 ·simp only[aH] at hb;rw[hb];simp[hk] at ho;simp[QE,Ez,hk];refine⟨_,aaY _ (hO _ (dJ hk)),?_⟩;simp[ho]
 ·simp only[aH] at hj;rw[hj];simp[QE,Ez]
def Ht (r:Realm)(f:File):Bool:=sE r f&&decide (oh r=0)
def pB (n:Int):Int:=min (max n (-1099511627776)) 1099511627776
theorem Kv (n:Int):av T 146 [.int n] (.int (pB n)):=by
 refine .of_tree rfl (lA 36 (by kernel_rfl)) aqS ?_;simp[S9,pB];by_cases h1:-1099511627776>n
 ·have:¬(1099511627776:Int)< -1099511627776:=by omega
  simp[h1];omega
 ·by_cases h2:(1099511627776:Int)<n
  ·simp[h1,h2];omega
  ·simp[h1,h2];omega
def ni (v:Int):Int×Bool:=if v<0∨19<v then(0,false) else if v<7 then(0,true) else(1,true)
theorem acd (v:Int):av T 144 [.int v] (.tup [.int (ni v).1,.bool (ni v).2]):=by
 refine .of_tree rfl (lA 37 (by kernel_rfl)) aqO ?_;simp[S5,ni];by_cases h1:v<0
 ·simp[h1]
 by_cases h2:19<v
 ·simp[h1,h2]
 by_cases h3:v<7
 ·simp[h1,h2,h3]
 ·simp[h1,h2,h3]
def DM (t:Tm):Int×Int:=
 if 0<t.args.length then(0,2) else if t.op=0 then(if pB t.n≠t.n then(0,3) else(0,0)) else if t.op=1 then(if t.n<0∨1<t.n then(0,3) else(1,0)) else if(ni t.n).2=false then(0,10) else((ni t.n).1,0)
theorem aph (t:Tm):av T 142 [eh t] (.tup [.int (DM t).1,.int (DM t).2]):=by
 refine .of_tree rfl (lA 35 (by kernel_rfl)) aqT ?_;simp[Ta,DM];by_cases h0:0<t.args.length
 ·have ld:(0:Int)<t.args.length:=by omega
  simp[h0,ld]
 simp[h0];by_cases h1:t.op=0
 ·simp[h1];refine⟨_,Kv _,?_⟩;by_cases h2:pB t.n=t.n<;>simp[h2]
 by_cases h2:t.op=1
 ·simp[h1,h2];by_cases h3:t.n<0<;>by_cases h4:1<t.n<;>simp[h3,h4]
 simp[h1,h2];refine⟨_,acd _,?_⟩;cases h3:(ni t.n).2<;>simp[h3]
def fJ (op:Int):List Int×Int:=
 if op=3 then([1],1) else if op=4∨op=5 then([1,1],1) else if op=6 then([1,-1,-1],-1) else if op=7 then([0,0],1) else if op=8 then([-1,-1],1) else([0,0],0)
def B8 (s:List Int×Int):D:=.agg [ints s.1,.int s.2]
@[simp] theorem atr (s:List Int×Int):(B8 s).cells=[ints s.1,.int s.2]:=_root_.id rfl
@[simp] theorem atp (s:List Int×Int):(B8 s).c 0=ints s.1:=_root_.id rfl
@[simp] theorem atq (s:List Int×Int):(B8 s).c 1=.int s.2:=_root_.id rfl
@[simp] theorem awY (s:List Int×Int):D.agg [ints s.1,.int s.2]=B8 s:=_root_.id rfl
@[simp] theorem axJ (x y:Int):vu (.int x) 0 (.int y)=.int y:=_root_.id rfl
theorem apj (op:Int):av T 143 [.int op] (B8 (fJ op)):=by
 refine .of_tree rfl (lA 38 (by kernel_rfl)) aqX ?_;simp[Td,fJ];by_cases h3:op=3
 ·simp[h3];rfl
 by_cases h4:op=4
 ·simp[h4];rfl
 by_cases h5:op=5
 ·simp[h5];rfl
 by_cases h6:op=6
 ·simp[h6];rfl
 by_cases h7:op=7
 ·simp[h7];rfl
 by_cases h8:op=8
 ·simp[h8];rfl
 simp[h3,h4,h5,h6,h7,h8];rfl
end Rm
namespace Rm
open Go Go.Proofs Cx
def gi (f:Tm→Int):List Tm→Int→Int
 |[],n=>n
 |a::l,n=>if 60<n+f a then n+f a else gi f l (n+f a)
def cP:Nat→Tm→Int
 |0,_=>61
 |L+1,t=>gi (cP L) t.args 1
def eu (f:Tm→Int)(l:List Tm):Int:=(l.map f).sum
theorem I4 {f:Tm→Int}{l:List Tm}{k:Nat}(h:k<l.length):eu f (l.take (k+1))=eu f (l.take k)+f l[k]:=by
 unfold eu;rw[A3 f h,List.sum_append];simp
theorem YD {f:Tm→Int}:∀{l:List Tm} {n:Int} {k:Nat},(hk:k<l.length)→(∀j,j<k→n+eu f (l.take (j+1))≤60)→60<n+eu f (l.take (k+1))→gi f l n=n+eu f (l.take (k+1))
 |a::l,n,0,hk,_,h=>by
  simp[eu] at h ⊢;unfold gi;rw[if_pos (by omega)]
 |a::l,n,k+1,hk,hj,h=>by
  have h0:=hj 0 (by omega);simp[eu] at h0;unfold gi;rw[if_neg (by omega)];have e:∀j,n+eu f ((a::l).take (j+1+1))=n+f a+eu f (l.take (j+1)):=by intro j;simp[eu];omega
  rw[YD (l:=l) (k:=k) (by simpa using hk) (fun j H9=>by have:=hj (j+1) (by omega);rw[e] at this;exact this) (by rw[←e];exact h),e]
theorem YG {f:Tm→Int}:∀{l:List Tm} {n:Int},(∀j,j<l.length→n+eu f (l.take (j+1))≤60)→gi f l n=n+eu f l
 |[],n,_=>by simp[gi,eu]
 |a::l,n,hj=>by
  have h0:=hj 0 (by simp);simp[eu] at h0;unfold gi;rw[if_neg (by omega)];have e:∀j,n+eu f ((a::l).take (j+1+1))=n+f a+eu f (l.take (j+1)):=by intro j;simp[eu];omega
  rw[YG (l:=l) (fun j fD=>by have:=hj (j+1) (by simpa using fD);rw[e] at this;exact this)];simp[eu];omega
theorem YE {f:Tm→Int}(hf:∀a,1≤f a):∀{l:List Tm} {n:Int},n≤gi f l n
 |[],n=>by simp[gi]
 |a::l,n=>by
  unfold gi;have:=hf a;split
  ·omega
  ·have:=YE hf (l:=l) (n:=n+f a);omega
theorem xh:∀(L:Nat) (t:Tm),1≤cP L t
 |0,t=>by simp[cP]
 |L+1,t=>YE (xh L)
theorem YH {f:Tm→Int}{B:Int}(hf:∀a,f a≤B)(hB:0≤B):∀{l:List Tm} {n:Int},n≤60→gi f l n≤60+B
 |[],n,h=>by simp[gi];omega
 |a::l,n,h=>by
  unfold gi;have:=hf a;split
  ·omega
  ·exact YH hf hB (by omega)
theorem YJ:∀(L:Nat) (t:Tm),cP L t≤61+60*L
 |0,t=>by simp[cP]
 |L+1,t=>by
  have:=YH (f:=cP L) (fun a=>YJ L a) (by omega) (l:=t.args) (n:=1) (by omega);show gi _ _ _≤_;omega
theorem YI {f:Tm→Int}(hf:∀a,1≤f a):∀{l:List Tm} {n:Int},gi f l n≤60→(n:Int)+l.length≤60∧∀a,a∈l→f a≤60-n
 |[],n,h=>by simp[gi] at h ⊢;exact h
 |a::l,n,h=>by
  unfold gi at h;have:=hf a;split at h
  ·omega
  ·obtain⟨h1,h2⟩:=YI hf h;refine⟨by simp;omega,fun b hb=>?_⟩;rcases cW.1 hb with rfl|hb
   ·omega
   ·have:=h2 b hb;omega
theorem I1 {L:Nat}{t:Tm}(h:cP (L+1) t≤60):t.args.length≤59∧∀a,a∈t.args→cP L a≤60:=by
 obtain⟨h1,h2⟩:=YI (xh L) h;exact⟨by omega,fun a ha=>by have:=h2 a ha;omega⟩
theorem Rz:∀(L:Nat) (t:Tm) (lv:Int),t.OK→L≤8→lv=9-(L:Int)→av T 131 [eh t,.int lv] (.int (cP L t))
 |0,t,lv,ht,hL,Nw=>by
  refine .of_tree rfl UI ack ?_;subst Nw;simp[KE,cP]
 |L+1,t,lv,ht,hL,Nw=>by
  refine .of_tree rfl UI ack ?_;have hl:=ht.len;have h8:¬(8<lv):=by omega
  have ID:IntKind.i64.wrap (lv+1)=lv+1:=cn (by omega);simp[KE,h8];refine .scan t.args.length (fun k=>1+eu (cP L) (t.args.take (k+1))≤60) (fun k=>[.int (1+eu (cP L) (t.args.take k)),.int k]) (fun _=>[]) ?_ (fun k hk hj ho=>?_) (fun k hk hj ho=>?_) (fun hj=>?_)
  ·simp[eu]
  all_goals try rw[I4 hk] at ho
  ·have hw:IntKind.i64.wrap ((k:Int)+1)=(k:Int)+1:=cn (by omega);have jn:=Rz L t.args[k] (lv+1) (ht.arg (dJ hk)) (by omega) (by omega);rw[I4 hk];have hs:0≤eu (cP L) (t.args.take k):=by
    unfold eu;have:∀(l:List Tm),0≤(l.map (cP L)).sum:=by
     intro l
     induction l with
     |nil=>simp
     |cons a l ih=>have:=xh L a;simp;omega
    exact this _
   have cu:=xh L t.args[k];generalize eu (cP L) (t.args.take k)=m at*;generalize cP L t.args[k]=v at*;have sS:IntKind.i64.wrap (1+m+v)=1+m+v:=cn (by omega);have dV:¬60<1+m+v:=by omega
   simp[Q8,E0,hk,ID];refine⟨_,jn,?_⟩;simp[sS,dV,hw];omega
  ·have jn:=Rz L t.args[k] (lv+1) (ht.arg (dJ hk)) (by omega) (by omega);have hf:cP (L+1) t=1+eu (cP L) (t.args.take (k+1)):=YD hk hj (by rw[I4 hk];omega);rw[hf,I4 hk];have hs:0≤eu (cP L) (t.args.take k)∧1+eu (cP L) (t.args.take k)≤60:=by
    constructor
    ·unfold eu;have:∀(l:List Tm),0≤(l.map (cP L)).sum:=by
       intro l
       induction l with
       |nil=>simp
       |cons a l ih=>have:=xh L a;simp;omega
     exact this _
    ·cases k with
     |zero=>simp[eu]
     |succ k=>exact hj k (by omega)
   have cu:=xh L t.args[k];have bn:=YJ L t.args[k];generalize eu (cP L) (t.args.take k)=m at*;generalize cP L t.args[k]=v at*;have sS:IntKind.i64.wrap (1+m+v)=1+m+v:=cn (by omega);have dV:60<1+m+v:=by omega
   simp[Q8,E0,hk,ID];refine⟨_,jn,?_⟩;simp[sS,dV];omega
  ·have hf:cP (L+1) t=1+eu (cP L) t.args:=YG hj;rw[hf];simp[Q8,E0]
def nK (ws ts:List Int):Nat→Int
 |0=>-1
 |k+1=>if ws.getD k 0=-1∧nK ws ts k=-1 then ts.getD k 0 else nK ws ts k
def oM (ws ts:List Int)(k:Nat):Bool:=if ws.getD k 0=-1 then decide (nK ws ts k=-1)||decide (ts.getD k 0=nK ws ts k) else decide (ts.getD k 0=ws.getD k 0)
def xm (t:Tm)(ks:List Int):Int×Int:=
 if t.op<0∨13<t.op then(0,1) else if t.op=0∨t.op=1∨t.op=2 then DM t else
 if ks.length≠(fJ t.op).1.length∨t.n≠0 then(0,2) else
 if hZ (fJ t.op).1.length (oM (fJ t.op).1 ks)=false then(0,11) else if(fJ t.op).2=-1 then(nK (fJ t.op).1 ks (fJ t.op).1.length,0) else((fJ t.op).2,0)
def bM:Nat→Tm→Int×Int
 |0,_=>(0,0)
 |L+1,t=>if fO t.args.length (fun k=>(bM L (t.args.getD k default)).2)≠0 then(0,fO t.args.length (fun k=>(bM L (t.args.getD k default)).2)) else xm t (t.args.map fun a=>(bM L a).1)
theorem Mb (L:Nat)(t:Tm):bM (L+1) t=if fO t.args.length (fun k=>(bM L (t.args.getD k default)).2)≠0 then(0,fO t.args.length (fun k=>(bM L (t.args.getD k default)).2)) else xm t (t.args.map fun a=>(bM L a).1):=rfl
theorem Rp {α:Type}(A:List α)(z:α){k n:Nat}(hA:A.length=n)(hk:k<n):(A.take k++List.replicate (n-k) z).set k A[k]=A.take (k+1)++List.replicate (n-(k+1)) z:=by
 have h1:(A.take k).length=k:=by rw[du];omega
 rw[List.set_append_right _ _ (by omega),h1,K8];have:n-k=(n-(k+1))+1:=by omega
 rw[this,List.replicate_succ,List.set_cons_zero,se (by omega),ja];rfl
theorem ao0 (op:Int):(fJ op).1.length≤3:=by
 unfold fJ;repeat' split
 all_goals simp
theorem Ry:∀(L:Nat) (t:Tm),t.OK→cP L t≤60→av T 132 [eh t] (.tup [.int (bM L t).1,.int (bM L t).2])
 |0,t,ht,hm=>by simp[cP] at hm
 |L+1,t,ht,hm=>by
  refine .of_tree rfl (lA 34 (by kernel_rfl)) aqQ ?_;obtain⟨hl,hp⟩:=I1 hm;simp[S7];refine⟨by omega,?_⟩;refine xJ t.args.length (fun k=>(bM L (t.args.getD k default)).2) (fun k=>[.int 0,.int 0,.int k]) (fun k=>[ints ((t.args.map fun a=>(bM L a).1).take k++List.replicate (t.args.length-k) 0)]) ?_ (fun k hk ho=>?_) (fun k hk ho hb=>?_) (fun hj=>?_)
  ·simp[ints]
  ·have hw:=bJ hk (by omega);have cA:=dJ hk;have jn:=Ry L t.args[k] (ht.arg cA) (hp _ cA);have hs:=Rp (t.args.map fun a=>(bM L a).1) 0 (n:=t.args.length) (by simp) hk;rw[←hs];have hlen:((t.args.map fun a=>(bM L a).1).take k++List.replicate (t.args.length-k) (0:Int)).length=t.args.length:=by simp;omega
   have hgk:(t.args.map fun a=>(bM L a).1)[k]'(by simpa using hk)=(bM L t.args[k]).1:=by simp
   rw[hgk];generalize (t.args.map fun a=>(bM L a).1).take k++List.replicate (t.args.length-k) (0:Int)=A at*;simp[hk] at ho;rw[ho] at jn;generalize (bM L t.args[k]).1=kd at*;simp[Q6,EY,hk];refine⟨_,jn,?_⟩;simp[hlen,hk,hw,ints]
  ·have cA:=dJ hk;have jn:=Ry L t.args[k] (ht.arg cA) (hp _ cA);have hf:bM (L+1) t=(0,(bM L (t.args.getD k default)).2):=by
    rw[Mb,hb,if_pos ho]
   rw[hf];simp[hk] at ho ⊢;simp[Q6,EY,hk];refine⟨_,jn,?_⟩;simp[ho]
  ·have hf:bM (L+1) t=xm t (t.args.map fun a=>(bM L a).1):=by
    rw[Mb,hj];simp
   rw[hf]
   have e0:(t.args.map fun a=>(bM L a).1).take t.args.length++List.replicate (t.args.length-t.args.length) 0=t.args.map fun a=>(bM L a).1:=by
    rw[K8,tR (by simp)];simp
   rw[e0];have WW:(t.args.map fun a=>(bM L a).1).length=t.args.length:=by simp
   generalize (t.args.map fun a=>(bM L a).1)=ks at*;simp[Q6,EY];unfold xm;by_cases h1:t.op<0
   ·simp[h1]
   by_cases h2:13<t.op
   ·simp[h1,h2]
   simp[h1,h2];by_cases h3:t.op=0∨t.op=1∨t.op=2
   ·have lR:(t.op=0∨t.op=1)∨t.op=2:=by omega
    simp[h3,lR];refine⟨_,aph t,?_⟩;simp
   have lR:¬((t.op=0∨t.op=1)∨t.op=2):=by omega
   simp[h3,lR];refine⟨_,apj _,?_⟩;have hsl:=ao0 t.op;generalize fJ t.op=sh at*;simp;by_cases h4:ks.length=sh.1.length
   case neg=>
    have sJ:¬((ks.length:Int)=sh.1.length):=by omega
    have HA:¬t.args.length=sh.1.length:=by omega
    simp[h4,sJ,HA]
   have sJ:(ks.length:Int)=sh.1.length:=by omega
   have HA:t.args.length=sh.1.length:=by omega
   by_cases h5:t.n=0
   case neg=>simp[h4,sJ,HA,h5]
   simp[h4,sJ,HA,h5];refine m6 sh.1.length (oM sh.1 ks) (fun k=>[.int 0,.int 0,.int (nK sh.1 ks k),.int k]) (fun _=>[]) ?_ (fun k hk ho=>?_) (fun k hk ho hb=>?_) (fun hj=>?_)
   ·simp[nK]
   ·have hw:=bJ hk (by omega);have bx:k<ks.length:=by omega
    simp only[nK];unfold oM at ho;simp only[aH,bu hk,bu bx,nr] at ho ⊢;generalize nK sh.1 ks k=c at*;by_cases a1:sh.1[k]=-1
    ·by_cases a2:c=-1
     ·simp[AP,vj,hk,bx,hw,ints,a1,a2]
     ·simp[a1,a2] at ho;simp[AP,vj,hk,bx,hw,ints,a1,a2,ho]
    ·simp[a1] at ho;simp[AP,vj,hk,bx,hw,ints,a1,ho]
   ·rw[hb];have bx:k<ks.length:=by omega
    unfold oM at ho;simp only[aH,bu hk,bu bx,nr] at ho;generalize nK sh.1 ks k=c at*;by_cases a1:sh.1[k]=-1
    ·by_cases a2:c=-1
     ·simp[a1,a2] at ho
     ·simp[a1,a2] at ho;simp[AP,vj,hk,bx,ints,a1,a2,ho]
    ·simp[a1] at ho;simp[AP,vj,hk,bx,ints,a1,ho]
   ·rw[hj];simp[AP,vj];by_cases a1:sh.2=-1<;>simp[a1]
def mE (t:Tm):Int×Int:=if 60<cP 8 t then(0,6) else bM 8 t
theorem acb (t:Tm)(ht:t.OK):av T 111 [eh t] (.tup [.int (mE t).1,.int (mE t).2]):=by
 refine .of_tree rfl (lA 32 (by kernel_rfl)) aqM ?_;simp[SZ,mE];refine⟨_,Rz 8 t 1 ht (by omega) (by omega),?_⟩;by_cases h:60<cP 8 t
 ·simp[h]
 simp[h];refine⟨_,Ry 8 t ht (by omega),?_⟩;simp
end Rm
namespace Rm
open Go Go.Proofs Cx
abbrev u (n:Nat):D:=.v (.int .u64 n)
theorem acx (n:Int):IntKind.u64.wrap n=n%18446744073709551616:=rfl
theorem Fu {n:Int}(h:0≤n∧n<18446744073709551616):IntKind.u64.wrap n=n:=by
 rw[acx];omega
theorem xR {n:Nat}(h:n<18446744073709551616):IntKind.u64.wrap (n:Int)=n:=Fu (by omega)
theorem ao1 (a s:Nat)(h:s≤64):cT .shr .u64 a s=((a/2^s:Nat):Int):=by
 show Int.fdiv (a:Int) (2^(min (s:Int).toNat 64))=_;have:min (s:Int).toNat 64=s:=by simp;omega
 rw[this,acQ _ (Int.le_of_lt (Int.pow_pos (by decide)))];rw[Int.natCast_ediv,Int.natCast_pow];rfl
theorem Lm (a:Nat)(h:a<18446744073709551616):cT .and .u64 a 4294967295=((a%4294967296:Nat):Int):=by
 show IntKind.u64.wrap ((BitVec.ofInt 64 (a:Int)&&& BitVec.ofInt 64 4294967295).toNat:Nat)=_;have e:(BitVec.ofInt 64 (a:Int)&&& BitVec.ofInt 64 4294967295).toNat=a%4294967296:=by
  rw[BitVec.toNat_and];have e1:(BitVec.ofInt 64 (a:Int)).toNat=a:=by simp[BitVec.ofInt,BitVec.toNat_ofNat];omega
  have e2:(BitVec.ofInt 64 4294967295).toNat=2^32-1:=by decide
  rw[e1,e2,Nat.and_two_pow_sub_one_eq_mod]
 rw[e,xR (by omega)]
@[simp] theorem AZ (a:Nat):cT .shr .u64 a 32=((a/4294967296:Nat):Int):=ao1 a 32 (by decide)
set_option maxHeartbeats 2000000 in
theorem amc (a b:Nat)(ha:a<18446744073709551616)(hb:b<18446744073709551616):av T 157 [u a,u b] (.tup [u (a*b/18446744073709551616),u (a*b%18446744073709551616)]):=by
 refine .of_tree rfl (lA 46 (by kernel_rfl)) apv ?_;obtain⟨h1,h2,h3,h4⟩:=Go.Lib.mul64_hi a b ha hb;have elo:IntKind.u64.wrap ((a:Int)*(b:Int))=((a*b%18446744073709551616:Nat):Int):=by rw[acx,Int.natCast_emod,Int.natCast_mul];rfl
 have Ml:cT .shr .u64 (a:Int) 32=((a/4294967296:Nat):Int):=AZ a;have ea0:cT .and .u64 (a:Int) 4294967295=((a%4294967296:Nat):Int):=Lm a ha;have Mm:cT .shr .u64 (b:Int) 32=((b/4294967296:Nat):Int):=AZ b;have eb0:cT .and .u64 (b:Int) 4294967295=((b%4294967296:Nat):Int):=Lm b hb;have awc:=Go.Lib.half_mul_le (a:=a/4294967296) (b:=b/4294967296) (by omega) (by omega);have awb:=Go.Lib.half_mul_le (a:=a/4294967296) (b:=b%4294967296) (by omega) (by omega);have awa:=Go.Lib.half_mul_le (a:=a%4294967296) (b:=b/4294967296) (by omega) (by omega);have av9:=Go.Lib.half_mul_le (a:=a%4294967296) (b:=b%4294967296) (by omega) (by omega);have Np:a*b/18446744073709551616<18446744073709551616:=by
  have:a*b<18446744073709551616*18446744073709551616:=Nat.mul_lt_mul'' ha hb;exact Nat.div_lt_of_lt_mul this
 simp only[RH];generalize a/4294967296=a1 at*;generalize a%4294967296=a0 at*;generalize b/4294967296=b1 at*;generalize b%4294967296=b0 at*;have p11:IntKind.u64.wrap ((a1:Int)*(b1:Int))=((a1*b1:Nat):Int):=by rw[←Int.natCast_mul];exact xR (by omega)
 have p10:IntKind.u64.wrap ((a1:Int)*(b0:Int))=((a1*b0:Nat):Int):=by rw[←Int.natCast_mul];exact xR (by omega)
 have p01:IntKind.u64.wrap ((a0:Int)*(b1:Int))=((a0*b1:Nat):Int):=by rw[←Int.natCast_mul];exact xR (by omega)
 have p00:IntKind.u64.wrap ((a0:Int)*(b0:Int))=((a0*b0:Nat):Int):=by rw[←Int.natCast_mul];exact xR (by omega)
 rw[←h4] at Np ⊢;generalize a1*b1=P at*;generalize a1*b0=Q at*;generalize a0*b1=R at*;generalize a0*b0=S at*;have s1:cT .shr .u64 (S:Int) 32=((S/4294967296:Nat):Int):=AZ S;have s2:IntKind.u64.wrap ((Q:Int)+((S/4294967296:Nat):Int))=((Q+S/4294967296:Nat):Int):=by rw[Fu (by omega)];omega
 generalize S/4294967296=S1 at*;generalize hT:Q+S1=TT at*;have s3:cT .shr .u64 (TT:Int) 32=((TT/4294967296:Nat):Int):=AZ TT;have s4:cT .and .u64 (TT:Int) 4294967295=((TT%4294967296:Nat):Int):=Lm TT (by omega);have s5:IntKind.u64.wrap (((TT%4294967296:Nat):Int)+(R:Int))=((TT%4294967296+R:Nat):Int):=by rw[Fu (by omega)];omega
 generalize hU:TT%4294967296+R=U at*;have s6:cT .shr .u64 (U:Int) 32=((U/4294967296:Nat):Int):=AZ U;have s7:IntKind.u64.wrap ((P:Int)+((TT/4294967296:Nat):Int))=((P+TT/4294967296:Nat):Int):=by rw[Fu (by omega)];omega
 have s8:IntKind.u64.wrap (((P+TT/4294967296:Nat):Int)+((U/4294967296:Nat):Int))=((P+TT/4294967296+U/4294967296:Nat):Int):=by rw[Fu (by omega)];omega
 simp[-AZ,-Int.natCast_add,-Int.natCast_mul,-Int.natCast_ediv,-Int.natCast_emod,elo,Ml,ea0,Mm,eb0,p11,p10,p01,p00,s1,s2,s3,s4,s5,s6,s7,s8]
def tp (m:Nat):Int:=if m<1099511627776 then m else 1099511627776
def Ay (a b:Int):Int:=if(decide (a<0)!=decide (b<0))=true then-tp (a.natAbs*b.natAbs) else tp (a.natAbs*b.natAbs)
theorem aay (m:Nat):0≤tp m∧tp m≤1099511627776:=by unfold tp;split<;>omega
set_option maxHeartbeats 1000000 in
theorem api (a b:Int)(ha:-1099511627776≤a∧a≤1099511627776)(hb:-1099511627776≤b∧b≤1099511627776):av T 156 [.int a,.int b] (.int (Ay a b)):=by
 refine .of_tree rfl (lA 45 (by kernel_rfl)) aqW ?_;have wa:IntKind.u64.wrap (a.natAbs:Int)=a.natAbs:=xR (by omega);have wb:IntKind.u64.wrap (b.natAbs:Int)=b.natAbs:=xR (by omega);have w0a:IntKind.i64.wrap (0-a)=-a:=by rw[cn (by omega)];omega
 have w0b:IntKind.i64.wrap (0-b)=-b:=by rw[cn (by omega)];omega
 have arx:IntKind.i64.wrap (-a)=-a:=cn (by omega);have ary:IntKind.i64.wrap (-b)=-b:=cn (by omega);have ea:(if a< -a then D.int (-a) else D.int a)=D.int a.natAbs:=by split<;>congr 1<;>omega
 have eb:(if b< -b then D.int (-b) else D.int b)=D.int b.natAbs:=by split<;>congr 1<;>omega
 have ea':(if a< -a then-a else a)=(a.natAbs:Int):=by split<;>omega
 have eb':(if b< -b then-b else b)=(b.natAbs:Int):=by split<;>omega
 simp[Tc,arx,ary,ea,eb,ea',eb'];rw[wa,wb];refine⟨_,amc a.natAbs b.natAbs (by omega) (by omega),?_⟩;unfold Ay;generalize a.natAbs*b.natAbs=m;have hs:(decide (a<0)!=decide (b<0))=false↔(a<0↔b<0):=by
  by_cases h1:a<0<;>by_cases h2:b<0<;>simp[h1,h2]
 have key:((if((m/18446744073709551616:Nat):Int)=0∧((m%18446744073709551616:Nat):Int)<1099511627776 then IntKind.i64.wrap ((m%18446744073709551616:Nat):Int) else 1099511627776):Int)=tp m:=by
  unfold tp;by_cases hm:m<1099511627776
  ·have h1:m/18446744073709551616=0:=by omega
   have h2:m%18446744073709551616=m:=by omega
   rw[h1,h2,if_pos ⟨rfl,by omega⟩,if_pos hm,cn (by omega)]
  ·rw[if_neg hm,if_neg];rintro⟨h1,h2⟩;omega
 have gL:=aay m;have akP:(if((m/18446744073709551616:Nat):Int)=0∧((m%18446744073709551616:Nat):Int)<1099511627776 then D.int (IntKind.i64.wrap ((m%18446744073709551616:Nat):Int)) else D.int 1099511627776)=D.int (tp m):=by
  rw[←key];split<;>rfl
 show(if a<0↔b<0 then(if((m/18446744073709551616:Nat):Int)=0∧((m%18446744073709551616:Nat):Int)<1099511627776 then D.int (IntKind.i64.wrap ((m%18446744073709551616:Nat):Int)) else D.int 1099511627776)=_ else
  IntKind.i64.wrap (-(if((m/18446744073709551616:Nat):Int)=0∧((m%18446744073709551616:Nat):Int)<1099511627776 then IntKind.i64.wrap ((m%18446744073709551616:Nat):Int) else 1099511627776))=_)
 rw[akP,key];generalize tp m=n at*;split
 ·rename_i h;rw[hs.2 h];simp
 ·rename_i h;have:(decide (a<0)!=decide (b<0))=true:=by
   cases e:(decide (a<0)!=decide (b<0)) with
   |true=>rfl
   |false=>exact absurd (hs.1 e) h
  rw[this,cn (by omega)];simp
def yh (op a b:Int):Int:=if op=9 then pB (a+b) else if op=10 then pB (a-b) else if op=11 then Ay a b else if op=12 then min a b else max a b
theorem apf (op a b:Int)(ha:-1099511627776≤a∧a≤1099511627776)(hb:-1099511627776≤b∧b≤1099511627776):av T 147 [.int op,.int a,.int b] (.int (yh op a b)):=by
 refine .of_tree rfl (lA 44 (by kernel_rfl)) aqP ?_;have w1:IntKind.i64.wrap (a+b)=a+b:=cn (by omega);have w2:IntKind.i64.wrap (a-b)=a-b:=cn (by omega);simp[S6,yh,w1,w2];by_cases h1:op=9
 ·simp[h1];exact Kv _
 by_cases h2:op=10
 ·simp[h1,h2];exact Kv _
 by_cases h3:op=11
 ·simp[h1,h2,h3];exact api a b ha hb
 by_cases h4:op=12
 ·simp[h1,h2,h3,h4];by_cases h5:b<a<;>simp[h5]<;>omega
 simp[h1,h2,h3,h4];by_cases h5:b>a<;>simp[h5]<;>omega
def eB (b:Bool):Cell:=if b then⟨true,1⟩ else⟨true,0⟩
theorem vx (b:Bool):av T 145 [.bool b] (dk (eB b)):=by
 refine .of_tree rfl (lA 42 (by kernel_rfl)) aqY ?_;cases b<;>simp[Te,eB]<;>rfl
def eP:Cell:=⟨false,0⟩
@[simp] theorem aw2:D.agg [.bool false,.int 0]=dk eP:=_root_.id rfl
@[simp] theorem amu:eP.known=false:=rfl
@[simp] theorem aw3:eP.n=0:=rfl
def cellAt (cs:List Cell)(v:Int):Cell:=cs.getD v.toNat default
def jt (cs:List Cell)(v:Int):Cell:=if cs.length≤v.toNat∨(cellAt cs v).known=false then eP else if(ni v).1=1 then eB (decide ((cellAt cs v).n≠0)) else⟨true,pB (cellAt cs v).n⟩
abbrev Mo (cs:List Cell):D:=.agg [cells cs]
theorem apk (cs:List Cell)(v:Int)(hv:0≤v):av T 133 [Mo cs,.int v] (dk (jt cs v)):=by
 refine .of_tree rfl (lA 41 (by kernel_rfl)) aqV ?_;obtain⟨k,rfl⟩:=tN hv;simp[Tb,jt,cellAt];by_cases h1:cs.length≤k
 ·simp[h1]
 have dC:k<cs.length:=by omega
 simp[h1,dC];cases h2:cs[k].known
 ·simp[h2]
 simp[h2];refine⟨_,acd _,?_⟩;by_cases h3:(ni k).1=1
 ·simp[h3,dC];refine⟨_,vx _,?_⟩;simp;rfl
 ·simp[h3,dC];refine⟨_,Kv _,?_⟩;simp;rfl
@[simp] theorem aws (a b:Int):(a==b)=decide (a=b):=_root_.id rfl
@[simp] theorem awt (a b:Int):(a !=b)= !decide (a=b):=_root_.id rfl
def aJ (l:List Cell)(k:Nat):Cell:=l.getD k default
def fw (op:Int)(l:List Cell):Cell:=
 if op=3 then(if(aJ l 0).known=true then eB (decide ((aJ l 0).n=0)) else eP)
 else if(op=4∨op=5)∧(aJ l 0=eB (decide (op=5))∨aJ l 1=eB (decide (op=5))) then eB (decide (op=5))
 else if op=6 then(if(aJ l 1).known=true∧aJ l 1=aJ l 2 then aJ l 1 else eP)
 else if(aJ l 0).known=false∨(aJ l 1).known=false then eP
 else if op=4∨op=5 then eB (decide (op=4))
 else if op=7 then eB (decide ((aJ l 0).n<(aJ l 1).n)) else if op=8 then eB (decide ((aJ l 0).n=(aJ l 1).n)) else⟨true,yh op (aJ l 0).n (aJ l 1).n⟩
theorem ad2 (a b:Cell):a=b↔a.known=b.known∧a.n=b.n:=by cases a;cases b;simp
theorem apg (op:Int)(l:List Cell)(h1:1≤l.length)(h2:op≠3→2≤l.length)(h3:op=6→3≤l.length)
 (hb:9≤op→(-1099511627776≤(aJ l 0).n∧(aJ l 0).n≤1099511627776)∧(-1099511627776≤(aJ l 1).n∧(aJ l 1).n≤1099511627776)) (h9:op<3∨8<op→9≤op):
 av T 134 [.int op,cells l] (dk (fw op l)):=by
 refine .of_tree rfl (lA 43 (by kernel_rfl)) aqR ?_;have g0:0<l.length:=by omega
 have wv:l[0]=aJ l 0:=by simp[aJ,g0]
 simp[S8];unfold fw;by_cases o3:op=3
 ·simp[o3,g0,wv];cases e:(aJ l 0).known
  ·simp
  ·simp[g0];refine⟨_,vx _,?_⟩;simp
 have g1:1<l.length:=by have:=h2 o3;omega
 have Cq:l[1]=aJ l 1:=by simp[aJ,g1]
 have j0:(1:Int)<l.length:=by omega
 simp[o3];have fin:∀a b:Cell,(a=b)=(a.known=b.known∧a.n=b.n):=fun a b=>propext (ad2 a b);rcases FB (op=4) with o4|o4
 ·subst o4;simp;refine⟨_,vx _,?_⟩;simp[g0,g1,j0,wv,Cq,fin];split
  ·rfl
  ·split
   ·rfl
   ·refine⟨_,vx _,?_⟩;simp
 rcases FB (op=5) with o5|o5
 ·subst o5;simp;refine⟨_,vx _,?_⟩;simp[g0,g1,j0,wv,Cq,fin];split
  ·rfl
  ·split
   ·rfl
   ·refine⟨_,vx _,?_⟩;simp
 rcases FB (op=6) with o6|o6
 ·subst o6;have g2:2<l.length:=by have:=h3 rfl;omega
  have gg2:l[2]=aJ l 2:=by simp[aJ,g2]
  have uk:(2:Int)<l.length:=by omega
  simp[g1,g2,j0,uk,Cq,gg2,fin];cases e1:(aJ l 1).known
  ·simp
  by_cases e2:(aJ l 1).known=(aJ l 2).known∧(aJ l 1).n=(aJ l 2).n
  ·rw[e1] at e2;simp[e1,e2]
  ·rw[e1] at e2;have ub:¬((aJ l 2).known=true∧(aJ l 1).n=(aJ l 2).n):=fun h=>e2 ⟨h.1.symm,h.2⟩;simp only[e1,true_and,if_true]
   first|(rw[if_neg ub,if_neg ub])|(simp[ub])
 simp[o4,o5,o6,g0,g1,j0,wv,Cq];cases e1:(aJ l 0).known
 ·simp
 cases e2:(aJ l 1).known
 ·simp
 simp[g1,j0,Cq];rcases FB (op=7) with o7|o7
 ·subst o7;simp;refine⟨_,vx _,?_⟩;simp
 rcases FB (op=8) with o8|o8
 ·subst o8;simp;refine⟨_,vx _,?_⟩;simp
 simp[o7,o8];obtain⟨b1,b2⟩:=hb (h9 (by omega));refine⟨_,apf op _ _ b1 b2,?_⟩;simp;rfl
end Rm
namespace Rm
open Go Go.Proofs Cx
def be:Nat→List Cell→Tm→Cell
 |0,_,_=>eP
 |L+1,cs,t=>if t.op=0∨t.op=1 then⟨true,t.n⟩ else if t.op=2 then jt cs t.n else
   if t.op=6∧(aJ (t.args.map (be L cs)) 0).known=true then aJ (t.args.map (be L cs)) (2-(aJ (t.args.map (be L cs)) 0).n).toNat else fw t.op (t.args.map (be L cs))
def eO:Nat→List Cell→Tm→List Int
 |0,_,_=>[]
 |L+1,cs,t=>if t.op=0∨t.op=1 then[] else if t.op=2 then(if(jt cs t.n).known=true then[] else[t.n]) else
   if t.op=6∧(aJ (t.args.map (be L cs)) 0).known=true then(t.args.map (eO L cs)).getD (2-(aJ (t.args.map (be L cs)) 0).n).toNat [] else
   if(fw t.op (t.args.map (be L cs))).known=true then[] else(t.args.map (eO L cs)).flatten
theorem wq (L:Nat)(cs:List Cell)(t:Tm):be (L+1) cs t=if t.op=0∨t.op=1 then⟨true,t.n⟩ else if t.op=2 then jt cs t.n else
 if t.op=6∧(aJ (t.args.map (be L cs)) 0).known=true then aJ (t.args.map (be L cs)) (2-(aJ (t.args.map (be L cs)) 0).n).toNat else fw t.op (t.args.map (be L cs)):=rfl
theorem I7 (L:Nat)(cs:List Cell)(t:Tm):eO (L+1) cs t=if t.op=0∨t.op=1 then[] else if t.op=2 then(if(jt cs t.n).known=true then[] else[t.n]) else
 if t.op=6∧(aJ (t.args.map (be L cs)) 0).known=true then(t.args.map (eO L cs)).getD (2-(aJ (t.args.map (be L cs)) 0).n).toNat [] else
 if(fw t.op (t.args.map (be L cs))).known=true then[] else(t.args.map (eO L cs)).flatten:=rfl
theorem BM {L:Nat}{t:Tm}{k:Int}(h:bM (L+1) t=(k,0)):(∀a,a∈t.args→(bM L a).2=0)∧xm t (t.args.map fun a=>(bM L a).1)=(k,0):=by
 rw[Mb] at h;by_cases e:fO t.args.length (fun k=>(bM L (t.args.getD k default)).2)=0
 ·rw[if_neg (by simpa using e)] at h;refine⟨fun a ha=>?_,h⟩;obtain⟨j,hj,rfl⟩:=gZ ha;have:=MD.1 e j hj;simpa [hj] using this
 ·rw[if_pos e] at h;injection h with _ h
  exact absurd h e
inductive Node (ks:List Int) (t:Tm):Int→Prop where
 |int (h:t.op=0) (ha:t.args=[]) (hn:-1099511627776≤t.n∧t.n≤1099511627776):Node ks t 0
 |bool (h:t.op=1) (ha:t.args=[]) (hn:t.n=0∨t.n=1):Node ks t 1
 |var (h:t.op=2) (ha:t.args=[]) (hn:0≤t.n∧t.n≤19):Node ks t (ni t.n).1
 |not (h:t.op=3) (hk:ks=[1]):Node ks t 1
 |log (h:t.op=4∨t.op=5) (hk:ks=[1,1]):Node ks t 1
 |ite (k:Int) (h:t.op=6) (hk:ks=[1,k,k]):Node ks t k
 |less (h:t.op=7) (hk:ks=[0,0]):Node ks t 1
 |equal (k:Int) (h:t.op=8) (hk:ks=[k,k]):Node ks t 1
 |num (h:9≤t.op∧t.op≤13) (hk:ks=[0,0]):Node ks t 0
theorem ars (v:Int):(ni v).1=0∨(ni v).1=1:=by
 unfold ni;repeat' split
 all_goals simp
theorem amv {t:Tm}{ks:List Int}{k:Int}(hl:ks.length=t.args.length)(jG:∀x,x∈ks→x=0∨x=1)(h:xm t ks=(k,0)):Node ks t k:=by
 unfold xm at h;split at h
 ·injection h with _ h;cases h
 rename_i bY;split at h
 ·rename_i h3;unfold DM at h;split at h
  ·injection h with _ h;cases h
  rename_i ha0;have ha:t.args=[]:=KR (by omega);split at h
  ·rename_i h0;split at h
   ·injection h with _ h;cases h
   ·rename_i hc;injection h with h _
    subst h;refine .int h0 ha ?_;unfold pB at hc;omega
  split at h
  ·rename_i h0;split at h
   ·injection h with _ h;cases h
   ·rename_i hc;injection h with h _
    subst h;exact .bool h0 ha (by omega)
  split at h
  ·injection h with _ h;cases h
  ·rename_i g0 g1 hc;injection h with h _
   subst h;refine .var (by omega) ha ?_;unfold ni at hc;split at hc
   ·simp at hc
   ·omega
 rename_i h3;split at h
 ·injection h with _ h;cases h
 rename_i hlen;have oD:ks.length=(fJ t.op).1.length:=by
  refine vK fun hh=>hlen (.inl hh)
 split at h
 ·injection h with _ h;cases h
 rename_i az;have jk:∀j,j<(fJ t.op).1.length→oM (fJ t.op).1 ks j=true:=FZ.1 (by simpa using az)
 have two:∀{n:Nat},ks.length=2→∃a b,ks=[a,b]:=fun h=>by
  match ks,h with
  |[a,b],_=>exact⟨a,b,rfl⟩
 by_cases o3:t.op=3
 ·have e:fJ t.op=([1],1):=by simp[fJ,o3]
  rw[e] at oD jk h
  match ks,oD with
  |[a],_=>
   have:=jk 0 (by simp);simp[oM] at this;simp at h;subst h this;exact .not o3 rfl
 by_cases Ja:t.op=4∨t.op=5
 ·have e:fJ t.op=([1,1],1):=by simp[fJ,o3,Ja]
  rw[e] at oD jk h
  match ks,oD with
  |[a,b],_=>
   have t1:=jk 0 (by simp);have t2:=jk 1 (by simp);simp[oM] at t1 t2;simp at h;subst h t1 t2;exact .log Ja rfl
 by_cases o6:t.op=6
 ·have e:fJ t.op=([1,-1,-1],-1):=by simp[fJ,o6]
  rw[e] at oD jk h
  match ks,oD,jG with
  |[a,b,c],_,jG=>
   have t1:=jk 0 (by simp);have t3:=jk 2 (by simp);have hb:=jG b (by simp);have q8:¬b=-1:=by omega
   simp[oM] at t1;simp[oM,nK,q8] at t3;simp[nK,q8] at h;subst h t1 t3;exact .ite _ o6 rfl
 by_cases o7:t.op=7
 ·have e:fJ t.op=([0,0],1):=by simp[fJ,o7]
  rw[e] at oD jk h
  match ks,oD with
  |[a,b],_=>
   have t1:=jk 0 (by simp);have t2:=jk 1 (by simp);simp[oM] at t1 t2;simp at h;subst h t1 t2;exact .less o7 rfl
 by_cases o8:t.op=8
 ·have e:fJ t.op=([-1,-1],1):=by simp[fJ,o8]
  rw[e] at oD jk h
  match ks,oD,jG with
  |[a,b],_,jG=>
   have t2:=jk 1 (by simp);have ha:=jG a (by simp);have han:¬a=-1:=by omega
   simp[oM,nK,han] at t2;simp at h;subst h t2;exact .equal _ o8 rfl
 have e:fJ t.op=([0,0],0):=by simp[fJ,o3,Ja,o6,o7,o8]
 rw[e] at oD jk h
 match ks,oD with
 |[a,b],_=>
  have t1:=jk 0 (by simp);have t2:=jk 1 (by simp);simp[oM] at t1 t2;simp at h;subst h t1 t2;exact .num (by omega) rfl
theorem BN:∀{L:Nat} {t:Tm} {k:Int},bM (L+1) t=(k,0)→Node (t.args.map fun a=>(bM L a).1) t k∧(k=0∨k=1)
 |L,t,k,h=>by
  obtain⟨h1,h2⟩:=BM h
  have jG:∀x,x∈(t.args.map fun a=>(bM L a).1)→x=0∨x=1:=by
   intro x hx;obtain⟨a,ha,rfl⟩:=ec.1 hx;cases L with
   |zero=>exact .inl rfl
   |succ L=>exact(BN (L:=L) (t:=a) (k:=(bM (L+1) a).1) (by rw[←h1 a ha])).2
  have hn:=amv (by simp) jG h2;refine⟨hn,?_⟩;cases hn with
  |int=>simp
  |bool=>simp
  |var=>exact ars _
  |not=>simp
  |log=>simp
  |ite k _ hk=>exact jG k (by rw[hk];simp)
  |less=>simp
  |equal=>simp
  |num=>simp
end Rm
namespace Rm
open Go Go.Proofs Cx
def sl (k:Int)(c:Cell):Prop:=(c.known=false→c=eP)∧(c.known=true→(k=1→c.n=0∨c.n=1)∧(k=0→-1099511627776≤c.n∧c.n≤1099511627776))
theorem vl (k:Int):sl k eP:=⟨fun _=>rfl,fun h=>by cases h⟩
theorem AS (b:Bool):sl 1 (eB b):=⟨fun h=>(by cases b<;>cases h),fun _=>⟨fun _=>(by cases b<;>simp[eB]),fun h=>by cases h⟩⟩
theorem Mf (n:Int):-1099511627776≤pB n∧pB n≤1099511627776:=by unfold pB;omega
theorem aoz (cs:List Cell)(v:Int)(hv:0≤v∧v≤19):sl (ni v).1 (jt cs v):=by
 unfold jt;split
 ·exact vl _
 ·split
  ·rename_i h;rw[h];exact AS _
  ·rename_i h;refine⟨fun h=>(by cases h),fun _=>⟨fun h'=>absurd h' h,fun _=>Mf _⟩⟩
theorem anE (a b:Int):-1099511627776≤Ay a b∧Ay a b≤1099511627776:=by
 unfold Ay;have:=aay (a.natAbs*b.natAbs);split<;>omega
theorem adr (op a b:Int)(ha:-1099511627776≤a∧a≤1099511627776)(hb:-1099511627776≤b∧b≤1099511627776):-1099511627776≤yh op a b∧yh op a b≤1099511627776:=by
 unfold yh;split
 ·exact Mf _
 split
 ·exact Mf _
 split
 ·exact anE _ _
 split<;>omega
theorem alY {α β:Type}{f:α→β}{l:List α}{x:β}(h:l.map f=[x]):∃a,l=[a]∧f a=x:=by
 match l,h with
 |[a],h=>exact⟨a,rfl,by simpa using h⟩
theorem z7 {α β:Type}{f:α→β}{l:List α}{x y:β}(h:l.map f=[x,y]):∃a b,l=[a,b]∧f a=x∧f b=y:=by
 match l,h with
 |[a,b],h=>exact⟨a,b,rfl,by simpa using h⟩
theorem DQ {α β:Type}{f:α→β}{l:List α}{x y z:β}(h:l.map f=[x,y,z]):∃a b c,l=[a,b,c]∧f a=x∧f b=y∧f c=z:=by
 match l,h with
 |[a,b,c],h=>exact⟨a,b,c,rfl,by simpa using h⟩
theorem Hk:∀{L:Nat} {t:Tm} {k:Int} (cs:List Cell),bM L t=(k,0)→sl k (be L cs t)
 |0,t,k,cs,h=>vl _
 |L+1,t,k,cs,h=>by
  obtain⟨hn,hk⟩:=BN h;obtain⟨ha,_⟩:=BM h;have ih:∀a,a∈t.args→sl (bM L a).1 (be L cs a):=fun a hm=>Hk cs (show bM L a=((bM L a).1,0) by rw[←ha a hm]);rw[wq];cases hn with
  |int h0 ha hn=>rw[if_pos (.inl h0)];exact⟨fun h=>(by cases h),fun _=>⟨fun h=>(by cases h),fun _=>hn⟩⟩
  |bool h0 ha hn=>rw[if_pos (.inr h0)];exact⟨fun h=>(by cases h),fun _=>⟨fun _=>hn,fun h=>by cases h⟩⟩
  |var h0 ha hn=>rw[if_neg (by omega),if_pos h0];exact aoz cs _ hn
  |not h0 hk=>
   rw[if_neg (by omega),if_neg (by omega),if_neg (by omega)];unfold fw;rw[if_pos h0];split
   ·exact AS _
   ·exact vl _
  |log h0 hk=>
   rw[if_neg (by omega),if_neg (by omega),if_neg (by omega)];unfold fw;rw[if_neg (by omega)];split
   ·exact AS _
   rw[if_neg (by omega)];split
   ·exact vl _
   exact AS _
  |ite k h0 bx=>
   obtain⟨a,b,c,hl,e1,e2,e3⟩:=DQ bx;rw[hl] at ih ⊢;have r1:=ih a (by simp);have r2:=ih b (by simp);have r3:=ih c (by simp);rw[e1] at r1;rw[e2] at r2;rw[e3] at r3;rw[if_neg (by omega),if_neg (by omega)];simp only[gG,yd,aJ,rW];split
   ·rename_i hh;rcases(r1.2 hh.2).1 rfl with h1|h1<;>rw[h1]
    ·exact r3
    ·exact r2
   ·unfold fw;rw[if_neg (by omega),if_neg (by omega),if_pos h0];simp only[aJ,rW,ya];split
    ·exact r2
    ·exact vl _
  |less h0 hk=>
   rw[if_neg (by omega),if_neg (by omega),if_neg (by omega)];unfold fw;rw[if_neg (by omega),if_neg (by omega),if_neg (by omega)];split
   ·exact vl _
   repeat' split
   all_goals exact AS _
  |equal k h0 hk=>
   rw[if_neg (by omega),if_neg (by omega),if_neg (by omega)];unfold fw;rw[if_neg (by omega),if_neg (by omega),if_neg (by omega)];split
   ·exact vl _
   repeat' split
   all_goals exact AS _
  |num h0 bx=>
   obtain⟨a,b,hl,e1,e2⟩:=z7 bx;rw[hl] at ih ⊢;have r1:=ih a (by simp);have r2:=ih b (by simp);rw[e1] at r1;rw[e2] at r2;rw[if_neg (by omega),if_neg (by omega),if_neg (by omega)];unfold fw;rw[if_neg (by omega),if_neg (by omega),if_neg (by omega)];simp only[gG,yd,aJ,rW,ya];split
   ·exact vl _
   rename_i pZ;rw[if_neg (by omega),if_neg (by omega),if_neg (by omega)];have k1:(be L cs a).known=true:=by
    cases e:(be L cs a).known with
    |true=>rfl
    |false=>exact absurd (.inl e) pZ
   have k2:(be L cs b).known=true:=by
    cases e:(be L cs b).known with
    |true=>rfl
    |false=>exact absurd (.inr e) pZ
   exact⟨fun h=>(by cases h),fun _=>⟨fun h=>(by cases h),fun _=>adr _ _ _ ((r1.2 k1).2 rfl) ((r2.2 k2).2 rfl)⟩⟩
theorem YS:∀(L:Nat) (cs:List Cell) (t:Tm),cP L t≤60→((eO L cs t).length:Int)≤cP L t
 |0,cs,t,h=>by simp[cP] at h
 |L+1,cs,t,h=>by
  have h1:=xh (L+1) t;obtain⟨hl,hp⟩:=I1 h;have hs:∀(l:List Tm) (n:Int),(∀a,a∈l→cP L a≤60)→gi (cP L) l n≤60→((l.map (eO L cs)).flatten.length:Int)+n≤gi (cP L) l n∧∀j,(((l.map (eO L cs)).getD j []).length:Int)+n≤gi (cP L) l n:=by
   intro l
   induction l with
   |nil=>intro n _ _;simp[gi]
   |cons a l ih=>
    intro n hp hm;have ha:=YS L cs a (hp a (by simp));unfold gi at hm ⊢;split at hm
    ·omega
    ·rename_i h60;rw[if_neg h60];obtain⟨i1,i2⟩:=ih (n+cP L a) (fun b hb=>hp b (by simp[hb])) hm;refine⟨by rw[gG,T7,jy];omega,fun j=>?_⟩;cases j with
     |zero=>simp;omega
     |succ j=>have:=i2 j;simp at this ⊢;omega
  obtain⟨jL,eI⟩:=hs t.args 1 hp h;rw[I7];split
  ·simp;omega
  split
  ·split<;>simp<;>omega
  split
  ·have:=eI (2-(aJ (t.args.map (be L cs)) 0).n).toNat;show _≤gi _ _ _;omega
  split
  ·simp;omega
  ·show _≤gi _ _ _;omega
@[simp] theorem axK (x y:List Int):vu (ints x) 0 (ints y)=ints y:=_root_.id rfl
@[simp] theorem ao5 (x y:Cell):vu (dk x) 0 (dk y)=dk y:=_root_.id rfl
@[simp] theorem awu (a b:List Int):D.list (a.map D.int++b.map D.int)=ints (a++b):=by simp[ints]
def lists (l:List (List Int)):D:=.list (l.map ints)
@[simp] theorem awG (l:List (List Int)):(lists l).l=l.map ints:=_root_.id rfl
theorem acH (l:List (List Int))(hl:l.length≤1000)(hs:l.flatten.length≤1000000):av T 135 [lists l] (ints l.flatten):=by
 refine .of_tree rfl (lA 47 (by kernel_rfl)) aqB ?_;simp[SN];have hb:∀k,(l.take k).flatten.length≤l.flatten.length:=by
  intro k
  conv=>rhs;rw[←tQ k l]
  rw[List.flatten_append,jy];omega
 have bQ:∀k (hk:k<l.length),(l.take (k+1)).flatten=(l.take k).flatten++l[k]:=fun k hk=>by
  rw[se hk,List.flatten_append];simp
 refine aU.forRounds l.length (fun k=>[.int ((l.take k).flatten.length:Nat),.int k]) (fun k=>[]) ?_ (fun k hk=>?_) ?_
 ·simp
 ·have hw:=bJ hk (by omega);have h1:=bQ k hk;have h2:=hb (k+1);rw[h1] at h2 ⊢;rw[jy] at h2 ⊢;generalize (l.take k).flatten.length=m at*;have sS:IntKind.i64.wrap ((m:Int)+(l[k].length:Int))=(m:Int)+l[k].length:=cn (by omega);have C6:¬((m:Int)+l[k].length<0):=by omega
  simp[abn,J5,hk,hw,sS,C6]
 ·simp[abn,J5];have zG:av T 148 [.list [],.int (l.flatten.length:Nat)] (.list []):=by
   refine .of_ext (g:=fun _ ds=>Hv ds) rfl ⟨0,fun _ _=>?_⟩;show(if(0:Int)≤(l.flatten.length:Nat)∧((l.flatten.length:Nat):Int)≤4294967296 then some (D.list []) else none)=some (D.list []);rw[if_pos (by omega)]
  rw[List.length_flatten] at zG;refine⟨_,zG,?_⟩;refine aU.forRounds l.length (fun k=>[.none,.int k]) (fun k=>[ints (l.take k).flatten]) ?_ (fun k hk=>?_) ?_
  ·simp[ints]
  ·have hw:=bJ hk (by omega);have h1:=bQ k hk;have h2:=hb (k+1);rw[h1] at h2 ⊢;rw[jy] at h2;generalize (l.take k).flatten=m at*;simp[abo,J6,hk,hw];omega
  ·simp[abo,J6]
theorem aeJ {op:Int}{l:List Cell}(h:(fw op l).known=false):fw op l=eP:=by
 have hy:∀b,(eB b).known=true:=fun b=>by cases b<;>simp[eB]
 unfold fw at h ⊢;split<;>rename_i c1
 ·rw[if_pos c1] at h;split<;>rename_i c2
  ·rw[if_pos c2,hy] at h;cases h
  ·rfl
 rw[if_neg c1] at h;split<;>rename_i c2
 ·rw[if_pos c2,hy] at h;cases h
 rw[if_neg c2] at h;split<;>rename_i c3
 ·rw[if_pos c3] at h;split<;>rename_i c4
  ·rw[if_pos c4,c4.1] at h;cases h
  ·rfl
 rw[if_neg c3] at h;split<;>rename_i c4
 ·rfl
 rw[if_neg c4] at h
 repeat' split at h
 all_goals first|(rw[hy] at h;cases h)|cases h
theorem ace:∀(L:Nat) (cs:List Cell) (t:Tm) (k:Int),t.OK→cP L t≤60→bM L t=(k,0)→av T 112 [Mo cs,eh t] (.tup [dk (be L cs t),ints (eO L cs t)])
 |0,cs,t,k,ht,hm,hc=>by simp[cP] at hm
 |L+1,cs,t,k,ht,hm,hc=>by
  refine .of_tree rfl (lA 40 (by kernel_rfl)) aqU ?_;obtain⟨hl,hp⟩:=I1 hm;obtain⟨ha,_⟩:=BM hc;obtain⟨hn,av4⟩:=BN hc;have jn:∀a,a∈t.args→av T 112 [Mo cs,eh a] (.tup [dk (be L cs a),ints (eO L cs a)]):=fun a fQ=>ace L cs a (bM L a).1 (ht.arg fQ) (hp a fQ) (by rw[←ha a fQ]);have Dm:∀a,a∈t.args→sl (bM L a).1 (be L cs a):=fun a fQ=>Hk cs (show bM L a=((bM L a).1,0) by rw[←ha a fQ]);have Xg:∀a,a∈t.args→(eO L cs a).length≤60:=fun a fQ=>by have:=YS L cs a (hp a fQ);have:=hp a fQ;omega
  by_cases jG:t.op=0∨t.op=1
  ·
   have e1:be (L+1) cs t=⟨true,t.n⟩:=by rw[wq,if_pos jG]
   have e2:eO (L+1) cs t=[]:=by rw[I7,if_pos jG]
   rw[e1,e2];rcases jG with h|h<;>simp[Fq,h]<;>exact⟨rfl,rfl⟩
  have o0:t.op≠0:=fun h=>jG (.inl h);have o1:t.op≠1:=fun h=>jG (.inr h);by_cases o2:t.op=2
  ·have hv:0≤t.n:=by
    cases hn with
    |var h0 ha hn=>exact hn.1
    |_=>omega
   have e1:be (L+1) cs t=jt cs t.n:=by rw[wq,if_neg jG,if_pos o2]
   have e2:eO (L+1) cs t=if(jt cs t.n).known=true then[] else[t.n]:=by rw[I7,if_neg jG,if_pos o2]
   rw[e1,e2];simp[Fq,o2];refine⟨_,apk cs t.n hv,?_⟩;cases e:(jt cs t.n).known
   ·have:jt cs t.n=eP:=by
     unfold jt at e ⊢;split
     ·rfl
     ·rename_i h;rw[if_neg h] at e;split at e
      ·cases hb:decide ((cellAt cs t.n).n≠0)<;>rw[hb] at e<;>cases e
      ·cases e
    rw[this];simp[ints]
   ·have h:jt cs t.n=⟨true,(jt cs t.n).n⟩:=by rw[←e]
    rw[h];simp[ints]
    try rfl
  have hlen:1≤t.args.length∧(t.op≠3→2≤t.args.length)∧(t.op=6→3≤t.args.length):=by
   cases hn with
   |int h0 ha hn=>omega
   |bool h0 ha hn=>omega
   |var h0 ha hn=>omega
   |not h0 hk=>obtain⟨a,hl,_⟩:=alY hk;rw[hl];simp;omega
   |log h0 hk=>obtain⟨a,b,hl,_⟩:=z7 hk;rw[hl];simp;omega
   |ite k h0 hk=>obtain⟨a,b,c,hl,_⟩:=DQ hk;rw[hl];simp
   |less h0 hk=>obtain⟨a,b,hl,_⟩:=z7 hk;rw[hl];simp;omega
   |equal k h0 hk=>obtain⟨a,b,hl,_⟩:=z7 hk;rw[hl];simp;omega
   |num h0 hk=>obtain⟨a,b,hl,_⟩:=z7 hk;rw[hl];simp;omega
  have hb9:9≤t.op→(-1099511627776≤(aJ (t.args.map (be L cs)) 0).n∧(aJ (t.args.map (be L cs)) 0).n≤1099511627776)∧(-1099511627776≤(aJ (t.args.map (be L cs)) 1).n∧(aJ (t.args.map (be L cs)) 1).n≤1099511627776):=by
   intro h9;have rb:∀c:Cell,sl 0 c→-1099511627776≤c.n∧c.n≤1099511627776:=by
    intro c hr;cases e:c.known with
    |false=>rw[hr.1 e];simp
    |true=>exact(hr.2 e).2 rfl
   cases hn with
   |num h0 hk=>
    obtain⟨a,b,hl,ea,eb⟩:=z7 hk;rw[hl] at Dm ⊢;have r1:=Dm a (by simp);have r2:=Dm b (by simp);rw[ea] at r1;rw[eb] at r2;exact⟨rb _ r1,rb _ r2⟩
   |log h0 hk=>omega
   |_=>omega
  have h6:t.op=6→(aJ (t.args.map (be L cs)) 0).known=true→(aJ (t.args.map (be L cs)) 0).n=0∨(aJ (t.args.map (be L cs)) 0).n=1:=by
   intro o6 pZ;cases hn with
   |ite k h0 hk=>
    obtain⟨a,b,c,hl,ea,_⟩:=DQ hk;rw[hl] at Dm pZ ⊢;have r1:=Dm a (by simp);rw[ea] at r1;exact(r1.2 pZ).1 rfl
   |log h0 hk=>omega
   |num h0 hk=>omega
   |_=>omega
  have bY:t.op<3∨8<t.op→9≤t.op:=by
   cases hn with
   |log h0 hk=>omega
   |num h0 hk=>omega
   |_=>omega
  have e1:be (L+1) cs t=if t.op=6∧(aJ (t.args.map (be L cs)) 0).known=true then aJ (t.args.map (be L cs)) (2-(aJ (t.args.map (be L cs)) 0).n).toNat else fw t.op (t.args.map (be L cs)):=by
   rw[wq,if_neg jG,if_neg o2]
  have e2:eO (L+1) cs t=if t.op=6∧(aJ (t.args.map (be L cs)) 0).known=true then(t.args.map (eO L cs)).getD (2-(aJ (t.args.map (be L cs)) 0).n).toNat [] else if(fw t.op (t.args.map (be L cs))).known=true then[] else(t.args.map (eO L cs)).flatten:=by
   rw[I7,if_neg jG,if_neg o2]
  rw[e1,e2];simp[Fq,o0,o1,o2];refine⟨by omega,?_⟩;refine aU.forRounds t.args.length (fun k=>[.int k]) (fun k=>[cells ((t.args.map (be L cs)).take k++List.replicate (t.args.length-k) eP),lists ((t.args.map (eO L cs)).take k++List.replicate (t.args.length-k) [])]) ?_ (fun k hk=>?_) ?_
  ·simp[cells,lists,ints]
  ·have hw:=bJ hk (by omega);have cA:=dJ hk;have hr:=jn _ cA;have s1:=Rp (t.args.map (be L cs)) eP (n:=t.args.length) (by simp) hk;have s2:=Rp (t.args.map (eO L cs)) [] (n:=t.args.length) (by simp) hk;rw[←s1,←s2];have l1:((t.args.map (be L cs)).take k++List.replicate (t.args.length-k) eP).length=t.args.length:=by simp;omega
   have l2:((t.args.map (eO L cs)).take k++List.replicate (t.args.length-k) []).length=t.args.length:=by simp;omega
   have g1:(t.args.map (be L cs))[k]'(by simpa using hk)=be L cs t.args[k]:=by simp
   have g2:(t.args.map (eO L cs))[k]'(by simpa using hk)=eO L cs t.args[k]:=by simp
   rw[g1,g2];generalize (t.args.map (be L cs)).take k++List.replicate (t.args.length-k) eP=A at*;generalize (t.args.map (eO L cs)).take k++List.replicate (t.args.length-k) []=B at*;generalize be L cs t.args[k]=c at*;generalize eO L cs t.args[k]=d at*;simp[Q7,EZ,hk];refine⟨_,hr,?_⟩;simp[hw,hk,l1,l2,cells,lists]
  ·have hA:(t.args.map (be L cs)).take t.args.length++List.replicate (t.args.length-t.args.length) eP=t.args.map (be L cs):=by rw[K8,List.replicate_zero,lK,tR (by simp)]
   have hB:(t.args.map (eO L cs)).take t.args.length++List.replicate (t.args.length-t.args.length) []=t.args.map (eO L cs):=by rw[K8,List.replicate_zero,lK,tR (by simp)]
   have lA:(t.args.map (be L cs)).length=t.args.length:=by simp
   have lB:(t.args.map (eO L cs)).length=t.args.length:=by simp
   have j6:∀l:List Tm,(∀a,a∈l→a∈t.args)→((l.map (eO L cs)).flatten.length≤l.length*60):=by
    intro l
    induction l with
    |nil=>intro _;simp
    |cons a l ih=>
     intro h;have h1:=Xg a (h a (by simp));have h2:=ih (fun b hb=>h b (by simp[hb]));rw[gG,T7,jy,pv];omega
   have j6:=j6 t.args (fun a h=>h);have hBg:∀m:Nat,(Option.map (eO L cs) t.args[m]?).getD []=(t.args.map (eO L cs)).getD m []:=fun m=>by simp[aH]
   rw[hA,hB];generalize t.args.map (be L cs)=A at*;generalize t.args.map (eO L cs)=B at*;have g0:0<A.length:=by omega
   have wv:A[0]=aJ A 0:=by simp[aJ,g0]
   by_cases HD:t.op=6∧(aJ A 0).known=true
   ·obtain⟨o6,kn⟩:=HD;have hv:=h6 o6 kn;have hw:IntKind.i64.wrap (2-(aJ A 0).n)=2-(aJ A 0).n:=cn (by omega);have h3:3≤t.args.length:=hlen.2.2 o6;rw[if_pos ⟨o6,kn⟩,if_pos ⟨o6,kn⟩];obtain⟨m,fQ⟩:∃m:Nat,m=(2-(aJ A 0).n).toNat:=⟨_,rfl⟩
    have C2:m<A.length:=by omega
    have Nz:m<B.length:=by omega
    simp[Q7,EZ,o6,kn,g0,wv,hw,←fQ,C2,Nz,cells,lists];refine⟨by omega,by omega,by simp[aJ,C2],?_⟩;rw[hBg,aH,bu Nz];rfl
   ·rw[if_neg HD,if_neg HD];have aim:=apg t.op A (by omega) (by omega) (by omega) hb9 bY;have aio:=acH B (by omega) (by omega);simp[Q7,EZ,g0,wv];rw[if_neg HD];refine⟨_,aim,?_⟩;cases e:(fw t.op A).known
    ·have eY:fw t.op A=eP:=aeJ e;rw[eY];simp;exact aio
    ·have h:fw t.op A=⟨true,(fw t.op A).n⟩:=by rw[←e]
     rw[h];simp[ints]
     try rfl
end Rm
namespace Rm
open Go Go.Proofs Cx
def kE (n:Nat)(g:Nat→Bool):Int:=if(List.range n).findIdx g<n then((List.range n).findIdx g:Nat) else-1
theorem w5 (n:Nat)(g:Nat→Bool):(kE n g=-1∧∀k,k<n→g k=false)∨∃k:Nat,k<n∧kE n g=k∧g k=true∧∀i,i<k→g i=false:=by
 unfold kE;split
 ·rename_i h;refine .inr ⟨_,h,rfl,?_,fun i hi=>?_⟩
  ·have:=List.findIdx_getElem (p:=g) (xs:=List.range n) (w:=by simpa using h);simpa using this
  ·have:=List.not_of_lt_findIdx (p:=g) (xs:=List.range n) hi;simpa using this
 ·rename_i h;refine .inl ⟨rfl,fun k hk=>?_⟩;have:=List.not_of_lt_findIdx (p:=g) (xs:=List.range n) (i:=k) (by omega);simpa using this
theorem DJ {n:Nat}{g:Nat→Bool}(h:∀k,k<n→g k=false):kE n g=-1:=by
 rcases w5 n g with⟨h1,_⟩|⟨k,hk,_,h2,_⟩
 ·exact h1
 ·rw[h k hk] at h2;cases h2
theorem IK {n k:Nat}{g:Nat→Bool}(hk:k<n)(h:g k=true)(hj:∀i,i<k→g i=false):kE n g=k:=by
 rcases w5 n g with⟨_,h1⟩|⟨m,hm,h1,h2,h3⟩
 ·rw[h1 k hk] at h;cases h
 ·rcases Nat.lt_trichotomy m k with h4|h4|h4
  ·rw[hj m h4] at h2;cases h2
  ·rw[h1,h4]
  ·rw[h3 k h4] at h;cases h
theorem X2 (n:Nat)(g:Nat→Bool):decide (0≤kE n g)=(List.range n).any g:=by
 rcases w5 n g with⟨h1,h2⟩|⟨m,hm,h1,h2,h3⟩
 ·rw[h1]
  symm
  simp;exact h2
 ·rw[h1];simp;exact⟨m,hm,h2⟩
theorem acM (l:List Rule)(f:Nat)(caps:List D)(g:Nat→Bool)(hg:∀k (hk:k<l.length),av T f (sB l[k]::caps) (.bool (g k)))(hl:l.length≤4294967296):
 av T 109 [rules l,.clo f caps] (.int (kE l.length g)):=by
 refine .of_tree rfl (lA 31 (by kernel_rfl)) aqI ?_;simp[SV];refine .scan l.length (fun k=>g k=false) (fun k=>[.int 0,.int k]) (fun _=>[]) ?_ (fun k hk hj ho=>?_) (fun k hk hj ho=>?_) (fun hj=>?_)
 ·simp
 ·have hw:=bJ hk hl;simp[Q0,EU,hk,hw];refine⟨_,_,⟨rfl,rfl⟩,_,hg k hk,?_⟩;simp[ho,hw]
 ·have he:=IK hk (by simpa using ho) hj;simp[Q0,EU,hk,he];refine⟨_,_,⟨rfl,rfl⟩,_,hg k hk,?_⟩;simp[ho]
 ·have he:=DJ hj;simp[Q0,EU,he]
theorem acN (l:List Int)(f:Nat)(caps:List D)(g:Nat→Bool)(hg:∀k (hk:k<l.length),av T f (.int l[k]::caps) (.bool (g k)))(hl:l.length≤4294967296):
 av T 141 [ints l,.clo f caps] (.int (kE l.length g)):=by
 refine .of_tree rfl (lA 26 (by kernel_rfl)) aqJ ?_;simp[SW];refine .scan l.length (fun k=>g k=false) (fun k=>[.int 0,.int k]) (fun _=>[]) ?_ (fun k hk hj ho=>?_) (fun k hk hj ho=>?_) (fun hj=>?_)
 ·simp
 ·have hw:=bJ hk hl;simp[Q3,EV,hk,hw,ints];refine⟨_,_,⟨rfl,rfl⟩,_,hg k hk,?_⟩;simp[ho,hw]
 ·have he:=IK hk (by simpa using ho) hj;simp[Q3,EV,hk,he,ints];refine⟨_,_,⟨rfl,rfl⟩,_,hg k hk,?_⟩;simp[ho]
 ·have he:=DJ hj;simp[Q3,EV,he,ints]
theorem acL (l:List Alter)(f:Nat)(caps:List D)(g:Nat→Bool)(hg:∀k (hk:k<l.length),av T f (pE l[k]::caps) (.bool (g k)))(hl:l.length≤4294967296):
 av T 140 [alters l,.clo f caps] (.int (kE l.length g)):=by
 refine .of_tree rfl (lA 14 (by kernel_rfl)) aqG ?_;simp[SS];refine .scan l.length (fun k=>g k=false) (fun k=>[.int 0,.int k]) (fun _=>[]) ?_ (fun k hk hj ho=>?_) (fun k hk hj ho=>?_) (fun hj=>?_)
 ·simp
 ·have hw:=bJ hk hl;simp[QY,ES,hk,hw];refine⟨_,_,⟨rfl,rfl⟩,_,hg k hk,?_⟩;simp[ho,hw]
 ·have he:=IK hk (by simpa using ho) hj;simp[QY,ES,hk,he];refine⟨_,_,⟨rfl,rfl⟩,_,hg k hk,?_⟩;simp[ho]
 ·have he:=DJ hj;simp[QY,ES,he]
theorem acJ (l:List Int)(f:Nat)(caps:List D)(g:Nat→Bool)(hg:∀k (hk:k<l.length),av T f (.int l[k]::caps) (.bool (g k)))(hl:l.length≤4294967296):
 av T 129 [ints l,.clo f caps] (.bool ((List.range l.length).any g)):=by
 refine .of_tree rfl (lA 25 (by kernel_rfl)) aqD ?_;simp[SP];refine⟨_,acN l f caps g hg hl,?_⟩;have:=X2 l.length g;simp[←this]
theorem acI (l:List Alter)(f:Nat)(caps:List D)(g:Nat→Bool)(hg:∀k (hk:k<l.length),av T f (pE l[k]::caps) (.bool (g k)))(hl:l.length≤4294967296):
 av T 124 [alters l,.clo f caps] (.bool ((List.range l.length).any g)):=by
 refine .of_tree rfl (lA 13 (by kernel_rfl)) aqC ?_;simp[SO];refine⟨_,acL l f caps g hg hl,?_⟩;have:=X2 l.length g;simp[←this]
def oq (cs:List Cell)(t:Tm):Cell:=if(mE t).2=0 then be 8 cs t else eP
theorem Ma {t:Tm}(h:(mE t).2=0):cP 8 t≤60∧bM 8 t=((mE t).1,0):=by
 unfold mE at h ⊢;split at h
 ·cases h
 ·rename_i hm;rw[if_neg hm];exact⟨by omega,by rw[←h]⟩
theorem ape (t:Tm)(cs:List Cell)(ht:t.OK):av T 86 [eh t,cells cs] (dk (oq cs t)):=by
 refine .of_tree rfl (lA 39 (by kernel_rfl)) aqN ?_;simp[S4,oq];refine⟨_,acb t ht,?_⟩;by_cases h:(mE t).2=0
 ·obtain⟨h1,h2⟩:=Ma h;simp[h];refine⟨_,ace 8 cs t _ ht h1 h2,?_⟩;simp
  try rfl
 ·simp[h]
  try rfl
def Pb:List Int:=[6,7,10,12,13,14,15,16,20,21]
def qD (ask:Int):Int×Bool:=if ask<0∨22≤ask then(0,false) else if hasB Pb ask then(0,true) else(1,true)
theorem PL (ask:Int):av T 82 [.int ask] (.tup [.int (qD ask).1,.bool (qD ask).2]):=by
 refine .of_tree rfl (lA 19 (by kernel_rfl)) apS ?_;simp[R2,qD];by_cases h0:ask<0
 ·simp[h0]
 by_cases h1:22≤ask
 ·simp[h0,h1]
 simp[h0,h1];refine⟨_,FD Pb ask (by decide),?_⟩;cases h:hasB Pb ask<;>simp[h]
def I8:Tm:=⟨0,0,[]⟩
def vm (o:Order)(ask:Int)(k:Nat):Bool:=decide ((o.rules.getD k default).ask=ask)
def E7 (o:Order)(i:Int):Tm:=(o.rules.getD i.toNat default).term
def findF (o:Order)(ask:Int):Tm×Int:=
 if(qD ask).2=false then(I8,1) else if kE o.rules.length (vm o ask)<0 then(I8,4) else
    if(mE (E7 o (kE o.rules.length (vm o ask)))).2≠0∨(mE (E7 o (kE o.rules.length (vm o ask)))).1≠(qD ask).1 then(I8,11) else(E7 o (kE o.rules.length (vm o ask)),0)
theorem abL {o:Order}(ho:o.OK){m:Nat}(hm:m<o.rules.length):o.rules[m].term.OK:=(ho.2.2 _ (dJ hm)).2
theorem O8:I8.OK:=by
 exact .mk 0 0 [] (by unfold aW;omega) (by unfold aW;omega) (by decide) (fun _ h=>by cases h)
theorem af7 {o:Order}(ho:o.OK)(ask:Int):(findF o ask).1.OK:=by
 unfold findF;split
 ·exact O8
 split
 ·exact O8
 split
 ·exact O8
 ·rename_i h _;rcases w5 o.rules.length (vm o ask) with⟨h1,h2⟩|⟨m,hm,h1,h2,h3⟩
  ·exact absurd (by rw[h1];decide) h
  ·rw[h1];simp[E7,hm];exact abL ho hm
theorem af5 (r:Rule)(ask:Int):av T 110 [sB r,.ref (.int ask)] (.bool (decide (r.ask=ask))):=by
 refine .of_tree rfl (lA 30 (by kernel_rfl)) apT ?_;simp[R4]
theorem anb (o:Order)(ask:Int)(ho:o.OK)(hl:o.rules.length≤4294967296):av T 85 [kZ o,.int ask] (.tup [eh (findF o ask).1,.int (findF o ask).2]):=by
 refine .of_tree rfl (lA 29 (by kernel_rfl)) apU ?_;simp[R3,findF];refine⟨_,PL ask,?_⟩;cases h0:(qD ask).2
 ·simp[h0]
  try rfl
 simp[h0];refine⟨_,acM o.rules 110 [.ref (.int ask)] (vm o ask) (fun k hk=>by simpa [vm,hk] using af5 o.rules[k] ask) hl,?_⟩;rcases w5 o.rules.length (vm o ask) with⟨h1,h2⟩|⟨m,hm,h1,h2,h3⟩
 ·rw[h1];simp
  try rfl
 ·rw[h1];have C6:¬((m:Int)<0):=by omega
  have htm:o.rules[m].term.OK:=abL ho hm;simp[hm,E7,C6];refine⟨_,acb _ htm,?_⟩;by_cases h4:(mE o.rules[m].term).2=0<;>by_cases h5:(mE o.rules[m].term).1=(qD ask).1<;>simp[h4,h5]<;>try rfl
def mC (o:Order)(ask:Int)(cs:List Cell):Cell×Int:=
 if(findF o ask).2≠0 then(eP,(findF o ask).2) else
    (if(qD ask).1=0∧(oq cs (findF o ask).1).known=true then⟨true,min (max (oq cs (findF o ask).1).n 0) 20000⟩ else oq cs (findF o ask).1,0)
theorem ana (o:Order)(ask:Int)(cs:List Cell)(ho:o.OK)(hl:o.rules.length≤4294967296):av T 64 [kZ o,.int ask,cells cs] (.tup [dk (mC o ask cs).1,.int (mC o ask cs).2]):=by
 refine .of_tree rfl (lA 28 (by kernel_rfl)) apR ?_;simp[R1];refine⟨_,anb o ask ho hl,?_⟩;have hf:(findF o ask).1.OK:=af7 ho ask;by_cases h:(findF o ask).2=0
 ·simp[h,mC];refine⟨_,ape _ cs hf,_,PL ask,?_⟩;generalize oq cs (findF o ask).1=c;obtain⟨kn,n⟩:=c;by_cases h1:(qD ask).1=0
  ·cases kn
   ·simp[h1,dk]
   ·by_cases h2:n<0
    ·have:min (max n 0) 20000=0:=by omega
     simp[h1,dk,h2,this];rfl
    ·by_cases h3:20000<n
     ·have:min (max n 0) 20000=20000:=by omega
      simp[h1,dk,h2,h3,this];rfl
     ·have:min (max n 0) 20000=n:=by omega
      simp[h1,dk,h2,h3,this];rfl
  ·simp[h1,dk]
 ·simp[h,mC]
  try rfl
end Rm
