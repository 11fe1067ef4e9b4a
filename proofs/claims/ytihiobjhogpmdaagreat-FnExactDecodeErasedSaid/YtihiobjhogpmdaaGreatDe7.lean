/- Part 7 of the proof of FnExactDecodeErased. -/
import Derived.Test.YtihiobjhogpmdaaGreatDe6
set_option maxRecDepth 100000
noncomputable section
namespace Go.Proofs.YtihiobjhogpmdaaGreat
open Go Go.Abs Go.Proofs
def sP (p0:aF) (p1:List Int) (p2:aT):Tre Bool:=
 .cond (decide ((p1.length:Int)>1048576))
  (.ret true)
  (let v1:=jD p0 1048576
  .cond (decide (v1<0))
   (.ret true)
   (.cond (decide ((Bf p2 v1)<0))
    (.ret true)
    (.mat (lI p0) fun r2=>
    .mat (fQ p1) fun r3=>
    .mat (qX p2) fun r4=>
    .mat (tO (r2.1,(r2.2.2,r2.2.1)) r3 (r4.1,(r4.2,()))) fun r5=>
    .mat (lI p0) fun r6=>
    .mat (fQ p1) fun r7=>
    .mat (qX p2) fun r8=>
    .mat (pY (r6.1,(r6.2.2,r6.2.1)) r7 (r8.1,(r8.2,()))) fun r9=>
    .mat (eqS r9.2 r5.1) fun r10=>
    .cond (!r10)
     (.ret false)
     (.cond (!decide (r9.1=r5.2))
      (.ret false)
      (.mat (lI p0) fun r11=>
      .mat (yt (r6.1,(r6.2.2,r6.2.1)) (r11.1,(r11.2.2,r11.2.1))) fun r12=>
      .cond (!r12)
       (.ret false)
       (.mat (fQ p1) fun r13=>
       .mat (eqS r7 r13) fun r14=>
       .cond (!r14)
        (.ret false)
        (.mat (qX p2) fun r15=>
        .mat (Ie (r8.1,(r8.2,())) (r15.1,(r15.2,()))) fun r16=>
        .cond (!r16)
         (.ret false)
         (.mat (lW r6.1 r6.2.1 1 (r6.1,(r6.2.2,r6.2.1))) fun r17=>
         .mat (aph r17.1 r7) fun r18=>
         .mat (pQ r8.1 r18.1 (r8.1,(r8.2,()))) fun r19=>
         .cond (decide (r19.1<0))
          (.ret false)
          (.mat (eqS r9.2 r5.1) fun r20=>
          .cond (!r20)
           (.ret false)
           (.cond (!decide (r9.1=r5.2))
            (.ret false)
            (.mat (aph 1 r9.2) fun r21=>
            .mat (akJ r21.2 1) fun r22=>
            .cond (decide (r22<0))
             (.ret false)
             (.cond (!decide (r22=r21.1))
              (.ret false)
              (.mat (lI p0) fun r23=>
              .mat (fQ p1) fun r24=>
              .mat (qX p2) fun r25=>
              .mat (pY (r23.1,(r23.2.2,r23.2.1)) r24 (r25.1,(r25.2,()))) fun r26=>
              .mat (eqS r26.2 r5.1) fun r27=>
              .cond (!r27)
               (.ret false)
               (.cond (!decide (r26.1=r5.2))
                (.ret false)
                (.mat (akJ r21.2 1) fun r28=>
                .cond (decide (r28<0))
                 (.ret false)
                 (.cond (!decide (r28=r21.1))
                  (.ret false)
                  (.ret true)))))))))))))))))
def qg (p0:aF) (p1:List Int) (p2:aT):Option Bool:=(sP p0 p1 p2).run some
-- law
theorem KJ(p0:TF3×List Int×Int×Unit)(p1:List Int)(p2:Int×List Int×Unit)(_h0:aU.wf p0)(_h1:(K.sl (.int .i64)).wf p1)(_h2:bC.wf p2):qg p0 p1 p2=some true:=by
 unfold qg sP
 rw [Tre.aA]
 by_cases hv:p1.length≤1048576
 case neg=>rw [decide_eq_true (by omega)];rfl
 rw [decide_eq_false (by omega),cond_false]
 dsimp only
 rw [Tre.aA]
 by_cases h:jD p0 1048576<0
 ·rw [decide_eq_true h];rfl
 have hz:¬eX p0.2.1 1048576<0:=fun hn=>h (by unfold jD;rw [decide_eq_true hn,cond_true];decide)
 have hs:p0.2.1.length≤1048576:=alA _h0.2.1.1 hz
 have hg:jD p0 1048576=1048576-(p0.2.1.length:Int):=by
  have e:jD p0 1048576=eX p0.2.1 1048576:=by unfold jD;rw [decide_eq_false hz,cond_false]
  rw [e]
  unfold eX at hz ⊢
  dsimp only at hz ⊢
  rw [dS (by omega) (by omega)] at hz ⊢
  rw [decide_eq_false (by omega),cond_false]
 rw [decide_eq_false h,cond_false,Tre.aA,hg]
 by_cases h2:Bf p2 (1048576-(p0.2.1.length:Int))<0
 ·rw [decide_eq_true h2];rfl
 rw [decide_eq_false h2,cond_false]
 have hu:p2.2.1.length≤1048576:=by
  have hlw:p2.2.1.length≤maxLen:=_h2.2.1.1
  unfold maxLen at hlw
  have hn:¬eX p2.2.1 (1048576-(p0.2.1.length:Int))<0:=fun hn=>h2 (by unfold Bf;rw [decide_eq_true hn,cond_true];decide)
  unfold eX at hn
  dsimp only at hn
  rw [dS (by omega) (by omega)] at hn
  by_cases hq:1048576-(p0.2.1.length:Int)-(p2.2.1.length:Int)<0
  ·rw [decide_eq_true hq,cond_true] at hn;omega
  ·omega
 have e1:lI p0=some (p0.1,p0.2.2,p0.2.1):=by
  unfold lI Nt
  rw [ah (show fQ p0.2.1=some p0.2.1 from Dl hs),Tre.aG]
 have e2:fQ p1=some p1:=Dl hv
 have e3:qX p2=some (p2.1,p2.2.1):=by
  unfold qX abn
  rw [ah (show fQ p2.2.1=some p2.2.1 from Dl hu),Tre.aG]
 have hp:(p0.1,p0.2.1,p0.2.2)=p0:=rfl
 have hp2:(p2.1,p2.2.1,())=p2:=rfl
 obtain ⟨y,hs4,hi4,hyl⟩:=asA p0 p1 p2 hv hu
 obtain ⟨yc,yl⟩:=y
 dsimp only at hyl hs4
 have e5:eqS yl yl=some true:=acp (by omega)
 have e7:eqS p1 p1=some true:=acp hv
 have e8:eqS p0.2.1 p0.2.1=some true:=acp hs
 have e9:eqS p2.2.1 p2.2.1=some true:=acp hu
 have e6:yt p0 p0=some true:=by
  unfold yt Nr
  have:Fg p0.1 p0.1=true:=by unfold Fg;simp
  rw [this,Tre.aA,Bool.not_true,cond_false,ah e8]
  simp only [Tre.aA,decide_true,Bool.not_true,cond_false]
  rfl
 have e10:Ie p2 p2=some true:=by
  unfold Ie abh
  rw [Tre.aA,decide_eq_true rfl,Bool.not_true,cond_false,ah e9]
  rfl
 obtain ⟨g',hmk⟩:=aAQ p0 hs
 obtain ⟨m',hmm⟩:=aBk p2 p2.1 (1+(p0.2.1.length:Int)+(p1.length:Int)) hu (by omega) (by omega)
 have hm:(marks 1 yl.length).length=yl.length:=by simp [marks]
 have m1:aph (1+(p0.2.1.length:Int)) p1=some (1+(p0.2.1.length:Int)+(p1.length:Int),marks (1+(p0.2.1.length:Int)) p1.length):=gY (by rw [Bool.and_eq_true,gX,decide_eq_true_eq];omega)
 have m2:aph 1 yl=some (1+(yl.length:Int),marks 1 yl.length):=gY (by rw [Bool.and_eq_true,gX,decide_eq_true_eq];omega)
 have m3:akJ (marks 1 yl.length) 1=some (1+(yl.length:Int)):=by
  unfold akJ
  rw [hm,if_pos ⟨by rw [Bool.and_eq_true,gX,decide_eq_true_eq];omega,rfl⟩]
 have c1:decide (1+(p0.2.1.length:Int)+(p1.length:Int)+(p2.2.1.length:Int)<0)=false:=decide_eq_false (by omega)
 have c2:decide (1+(yl.length:Int)<0)=false:=decide_eq_false (by omega)
 rw [ah e1,ah e2,ah e3]
 dsimp only
 rw [hp,hp2,ah hs4,ah e1,ah e2,ah e3]
 dsimp only
 rw [hp,hp2,ah (x:=(yc,yl)) hi4]
 dsimp only
 rw [ah (x:=true) e5]
 simp only [Tre.aA,decide_true,Bool.not_true,cond_false]
 rw [ah e1]
 dsimp only
 rw [hp,ah (x:=true) e6]
 simp only [Tre.aA,Bool.not_true,cond_false]
 rw [ah e2,ah (x:=true) e7]
 simp only [Tre.aA,Bool.not_true,cond_false]
 rw [ah e3]
 dsimp only
 rw [hp2,ah (x:=true) e10]
 simp only [Tre.aA,Bool.not_true,cond_false]
 rw [ah hmk]
 dsimp only
 rw [ah m1]
 dsimp only
 rw [ah hmm]
 simp only [Tre.aA,c1,cond_false]
 rw [ah (x:=true) e5]
 simp only [Tre.aA,Bool.not_true,cond_false]
 rw [ah m2]
 dsimp only
 rw [ah m3]
 simp only [Tre.aA,c2,decide_true,Bool.not_true,cond_false]
 rw [ah e1,ah e2,ah e3]
 dsimp only
 rw [hp,hp2,ah (x:=(yc,yl)) hi4]
 dsimp only
 rw [ah (x:=true) e5]
 simp only [Tre.aA,decide_true,Bool.not_true,cond_false]
 rw [ah m3]
 simp only [Tre.aA,c2,decide_true,Bool.not_true,cond_false]
 rfl
def zA:Env:=⟨tau,[(7,Tg),(19,ado),(9,Tj),(10,Ih),(21,ads),(25,Ma),(26,N8),(12,Ic),(13,Td),(23,adj),(14,A9),(15,GI),(24,GN),(16,Wt)],[]⟩
def OY:FnI:=fnI Tryz.f6 []
def wL (_:Bool) (_:Bool) (_:Bool) (_:aF) (_:List Int) (_:aT):Bool→au:=fun r=>⟨(.imm true .bool r),[],[]⟩
theorem Np:∀(zp0 zp1 zp2:Bool)(p0:aF)(p1:List Int)(p2:aT),bL zA OY ⟨[(.imm zp0 aU p0),(.imm zp1 .il p1),(.imm zp2 bC p2)],[]⟩=(sP p0 p1 p2).run fun r=>some (wL zp0 zp1 zp2 p0 p1 p2 r):=fun _ _ _ _ _ _=>by kernel_rfl
def OX (av:List AV) (rs:List Root):Tre au:=
 aD av fun a0_ av0=>
 aD av0 fun a1_ av1=>
 aD av1 fun a2_ av2=>
 aN av2<|
 aN rs<|
 bg aU a0_ fun z2 d1=>
 bg .il a1_ fun z4 d3=>
 bg bC a2_ fun z6 d5=>
 .mat (qg d1 d3 d5) fun r=>.ret (wL z2 z4 z6 d1 d3 d5 r)
def OZ:Ctr:=dD [] OX
theorem Nq:Contract Tryz.prog .none 6 OZ:=aB (V:=zA) aV (ak afW aHg (ak anZ aF3 (ak afY aHh (ak Nu aAw (ak an2 aF4 (ak abw aF7 (ak acy aF8 (ak Ns aAA (ak afT aF0 (ak anW aF5 (ak O5 aF1 (ak Wy aAD (ak WC aF6 (ak aiW aF2 aI)))))))))))))) Tryz.func6 bN fun _ _ _=>aK fun _ _=>aK fun _ _=>aK fun _ _=>bn<|bn<|bZ fun _ _=>bZ fun _ _=>bZ fun _ _=>fun h=>by intros;subst_vars;exact bB (Np _ _ _ _ _ _) h
end Go.Proofs.YtihiobjhogpmdaaGreat
