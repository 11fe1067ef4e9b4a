/- Part 7 of the proof of FnExactDecodeGabidulin. -/
import Derived.Test.YtihiobjhogpmdaaGreatDg6
set_option maxRecDepth 100000
namespace Go.Proofs.YtihiobjhogpmdaaGreat
open Go Go.Abs Go.Proofs
noncomputable def oD (p0:aK) (p1:(List Int)):Tre Bool :=
 .cond (decide ((p1.length:Int) > 1048576))
  (.ret true)
  (let v1:=rZ p0 1048576
  .cond (decide (v1 < 0))
   (.ret true)
   (.mat (fU p0) fun r2 =>
   .mat (fD p1) fun r3 =>
   .mat (o7 (r2.1,(r2.2.2,r2.2.1)) r3) fun r4 =>
   .alt r4
    (fun a5 =>
     .mat (fU p0) fun r7 =>
     .mat (fD p1) fun r8 =>
     .mat (gI (r7.1,(r7.2.2,r7.2.1)) r8) fun r9 =>
     .mat (eqS r9.2.2 a5.2.2) fun r10 =>
     .cond (!r10)
      (.ret false)
      (.cond (!decide (r9.1=a5.1))
       (.ret false)
       (.cond (!decide (r9.2.1=a5.2.1))
        (.ret false)
        (.mat (fU p0) fun r11 =>
        .mat (rY (r7.1,(r7.2.2,r7.2.1)) (r11.1,(r11.2.2,r11.2.1))) fun r12 =>
        .cond (!r12)
         (.ret false)
         (.mat (fD p1) fun r13 =>
         .mat (eqS r8 r13) fun r14 =>
         .cond (!r14)
          (.ret false)
          (.mat (jq r7.1 r7.2.1 1 (r7.1,(r7.2.2,r7.2.1))) fun r15 =>
          .mat (aeu r15.1 r8) fun r16 =>
          .cond (decide (r16.1 < 0))
           (.ret false)
           (.mat (eqS r9.2.2 a5.2.2) fun r17 =>
           .cond (!r17)
            (.ret false)
            (.cond (!decide (r9.1=a5.1))
             (.ret false)
             (.cond (!decide (r9.2.1=a5.2.1))
              (.ret false)
              (.mat (aeu 1 r9.2.2) fun r18 =>
              .mat (ZB r18.2 1) fun r19 =>
              .cond (decide (r19 < 0))
               (.ret false)
               (.cond (!decide (r19=r18.1))
                (.ret false)
                (.mat (fU p0) fun r20 =>
                .mat (fD p1) fun r21 =>
                .mat (gI (r20.1,(r20.2.2,r20.2.1)) r21) fun r22 =>
                .mat (eqS r22.2.2 a5.2.2) fun r23 =>
                .cond (!r23)
                 (.ret false)
                 (.cond (!decide (r22.1=a5.1))
                  (.ret false)
                  (.cond (!decide (r22.2.1=a5.2.1))
                   (.ret false)
                   (.mat (ZB r18.2 1) fun r24 =>
                   .cond (decide (r24 < 0))
                    (.ret false)
                    (.cond (!decide (r24=r18.1))
                     (.ret false)
                     (.ret true)))))))))))))))))
    (fun b6 =>
     .mat (fU p0) fun r25 =>
     .mat (fD p1) fun r26 =>
     .mat (gI (r25.1,(r25.2.2,r25.2.1)) r26) fun r27 =>
     .mat (eqS r27.2.2 b6.1) fun r28 =>
     .cond (!r28)
      (.ret false)
      (.cond (!decide (r27.1=b6.2.1))
       (.ret false)
       (.cond (!decide (r27.2.1=b6.2.2))
        (.ret false)
        (.mat (fU p0) fun r29 =>
        .mat (rY (r25.1,(r25.2.2,r25.2.1)) (r29.1,(r29.2.2,r29.2.1))) fun r30 =>
        .cond (!r30)
         (.ret false)
         (.mat (fD p1) fun r31 =>
         .mat (eqS r26 r31) fun r32 =>
         .cond (!r32)
          (.ret false)
          (.mat (jq r25.1 r25.2.1 1 (r25.1,(r25.2.2,r25.2.1))) fun r33 =>
          .mat (aeu r33.1 r26) fun r34 =>
          .cond (decide (r34.1 < 0))
           (.ret false)
           (.mat (eqS r27.2.2 b6.1) fun r35 =>
           .cond (!r35)
            (.ret false)
            (.cond (!decide (r27.1=b6.2.1))
             (.ret false)
             (.cond (!decide (r27.2.1=b6.2.2))
              (.ret false)
              (.mat (aeu 1 r27.2.2) fun r36 =>
              .mat (ZB r36.2 1) fun r37 =>
              .cond (decide (r37 < 0))
               (.ret false)
               (.cond (!decide (r37=r36.1))
                (.ret false)
                (.mat (fU p0) fun r38 =>
                .mat (fD p1) fun r39 =>
                .mat (gI (r38.1,(r38.2.2,r38.2.1)) r39) fun r40 =>
                .mat (eqS r40.2.2 b6.1) fun r41 =>
                .cond (!r41)
                 (.ret false)
                 (.cond (!decide (r40.1=b6.2.1))
                  (.ret false)
                  (.cond (!decide (r40.2.1=b6.2.2))
                   (.ret false)
                   (.mat (ZB r36.2 1) fun r42 =>
                   .cond (decide (r42 < 0))
                    (.ret false)
                    (.cond (!decide (r42=r36.1))
                     (.ret false)
                     (.ret true)))))))))))))))))))
noncomputable def mH (p0:aK) (p1:(List Int)):Option Bool:=(oD p0 p1).run some
-- law
theorem aud {α β γ:Type} (g:Nat→γ→α→γ) (fin:γ→β):∀ (l:List α) (i:Nat) (acc:γ),∃ a,qE (fun i acc x=>(.inl (g i acc x):γ ⊕ β)) fin i acc l=fin a:=by
 intro l
 induction l with
 |nil=>intro i acc;exact ⟨acc,rfl⟩
 |cons x l ih=>intro i acc;exact ih (i+1) _
theorem auk (g:TF3×List Int×Int×Unit) (hl:g.2.1.length≤1048576):∃ g',jq g.1 g.2.2 1 g=some (1+(g.2.1.length:Int),g'):=by
 obtain ⟨f,xs,k,u⟩:=g
 have:=lY (xs:=xs) (step:=eG) (fun i acc=>(1+(i:Int),(i:Int),(f,acc,k,u))) (fun i acc _=>.inl (acc.set i (1+(i:Int)))) (fun acc=>(1+(xs.length:Int),(f,acc,k,u))) (fun i acc=>acc.length=xs.length) (by
  intro i acc x hx hI
  have hi:i < xs.length:=(List.getElem?_eq_some_iff.1 hx).1
  dsimp only at hl
  refine ⟨?_,fun a ha=>by cases ha;simpa using hI⟩
  unfold eG
  dsimp only
  rw [eu (List.getElem?_eq_getElem (by omega:i < acc.length))]
  rw [Tre.aL,aX (by omega),dN (by omega) (by omega),Int.toNat_natCast]
  simp only [Int.natCast_add,Int.natCast_one,Int.add_assoc])
  (by
  intro acc hI
  unfold eG
  dsimp only
  rw [← show acc.length=xs.length from hI]
  exact dF) xs 0 xs rfl (Nat.zero_le _) rfl
 obtain ⟨a,ha⟩:=aud (fun i (acc:List Int) (_:Int)=>acc.set i (1+(i:Int))) (fun acc=>((1+(xs.length:Int),(f,acc,k,u)):Int×(TF3×List Int×Int×Unit))) xs 0 xs
 rw [ha] at this
 refine ⟨(f,a,k,u),?_⟩
 unfold jq vM
 rw [ah (show oW 1 (f,xs,k,u)=some (1+(xs.length:Int),(f,a,k,u)) from by
  unfold oW Bc
  have h1:aR eG (1,0,(f,xs,k,u))=some (1+(xs.length:Int),(f,a,k,u)):=by simpa using this
  rw [ah h1,Tre.aL])]
 rfl
theorem FH (p0:TF3×List Int×Int×Unit) (p1:List Int) (_h0:aV.wf p0) (_h1:(K.sl (.int .i64)).wf p1):mH p0 p1=some true:=by
 unfold mH oD
 rw [Tre.aG]
 by_cases hv:p1.length≤1048576
 case neg=>rw [decide_eq_true (by omega)];rfl
 rw [decide_eq_false (by omega),cond_false]
 dsimp only
 rw [Tre.aG]
 by_cases h:rZ p0 1048576 < 0
 ·rw [decide_eq_true h];rfl
 have hs:p0.2.1.length≤1048576:=by
  refine ahQ _h0.2.1.1 fun hn=>h ?_
  unfold rZ
  rw [decide_eq_true hn,cond_true]
  decide
 rw [decide_eq_false h,cond_false]
 have e1:fU p0=some (p0.1,p0.2.2,p0.2.1):=by
  unfold fU MX
  rw [ah (show fD p0.2.1=some p0.2.1 from JG hs),Tre.aL]
 have e2:fD p1=some p1:=JG hv
 have hp:(p0.1,p0.2.1,p0.2.2)=p0:=rfl
 have e3:=auq p0 p1 hv
 have hml:=atG p0 p1
 have e5:eqS (Zv p0 p1).2.2 (Zv p0 p1).2.2=some true:=ag3 (by omega)
 have e7:eqS p1 p1=some true:=ag3 hv
 have e8:eqS p0.2.1 p0.2.1=some true:=ag3 hs
 have e6:rY p0 p0=some true:=by
  unfold rY MV
  have:EM p0.1 p0.1=true:=by unfold EM;simp
  rw [this,Tre.aG,Bool.not_true,cond_false,ah e8]
  simp only [Tre.aG,decide_true,Bool.not_true,cond_false]
  rfl
 obtain ⟨g',hmk⟩:=auk p0 hs
 obtain ⟨y,hy,hyd⟩:=au5 p0 p1 hv
 generalize Zv p0 p1=v at *
 obtain ⟨vd,vc,vl⟩:=v
 dsimp only at hml e5
 have hm:(marks 1 vl.length).length=vl.length:=by simp [marks]
 have m1:aeu (1+(p0.2.1.length:Int)) p1=some (1+(p0.2.1.length:Int)+(p1.length:Int),marks (1+(p0.2.1.length:Int)) p1.length):=o9 (by rw [Bool.and_eq_true,kP,decide_eq_true_eq];omega)
 have m2:aeu 1 vl=some (1+(vl.length:Int),marks 1 vl.length):=o9 (by rw [Bool.and_eq_true,kP,decide_eq_true_eq];omega)
 have m3:ZB (marks 1 vl.length) 1=some (1+(vl.length:Int)):=by
  unfold ZB
  rw [hm,if_pos ⟨by rw [Bool.and_eq_true,kP,decide_eq_true_eq];omega,rfl⟩]
 have c1:decide (1+(p0.2.1.length:Int)+(p1.length:Int) < 0)=false:=decide_eq_false (by omega)
 have c2:decide (1+(vl.length:Int) < 0)=false:=decide_eq_false (by omega)
 rw [ah e1,ah e2]
 dsimp only
 rw [hp,ah hy]
 rcases hyd with ⟨a,rfl,rfl⟩ | ⟨b,rfl,hb⟩
 ·rw [Tre.awD,ah e1,ah e2]
  dsimp only
  rw [hp,ah (x:=(vd,vc,vl)) e3]
  dsimp only
  rw [ah (x:=true) e5]
  simp only [Tre.aG,decide_true,Bool.not_true,cond_false]
  rw [ah e1]
  dsimp only
  rw [hp,ah (x:=true) e6]
  simp only [Tre.aG,Bool.not_true,cond_false]
  rw [ah e2,ah (x:=true) e7]
  simp only [Tre.aG,Bool.not_true,cond_false]
  rw [ah hmk]
  dsimp only
  rw [ah m1]
  simp only [Tre.aG,c1,cond_false]
  rw [ah (x:=true) e5]
  simp only [Tre.aG,Bool.not_true,cond_false]
  rw [ah m2]
  dsimp only
  rw [ah m3]
  simp only [Tre.aG,c2,decide_true,Bool.not_true,cond_false]
  rw [ah e1,ah e2]
  dsimp only
  rw [hp,ah (x:=(vd,vc,vl)) e3]
  dsimp only
  rw [ah (x:=true) e5]
  simp only [Tre.aG,decide_true,Bool.not_true,cond_false]
  rw [ah m3]
  simp only [Tre.aG,c2,decide_true,Bool.not_true,cond_false]
  rfl
 ·obtain ⟨b1,b2,b3⟩:=b
  simp only [Prod.mk.injEq] at hb
  obtain ⟨rfl,rfl,rfl⟩:=hb
  rw [Tre.arJ,ah e1,ah e2]
  dsimp only
  rw [hp,ah (x:=(b2,b3,b1)) e3]
  dsimp only
  rw [ah (x:=true) e5]
  simp only [Tre.aG,decide_true,Bool.not_true,cond_false]
  rw [ah e1]
  dsimp only
  rw [hp,ah (x:=true) e6]
  simp only [Tre.aG,Bool.not_true,cond_false]
  rw [ah e2,ah (x:=true) e7]
  simp only [Tre.aG,Bool.not_true,cond_false]
  rw [ah hmk]
  dsimp only
  rw [ah m1]
  simp only [Tre.aG,c1,cond_false]
  rw [ah (x:=true) e5]
  simp only [Tre.aG,Bool.not_true,cond_false]
  rw [ah m2]
  dsimp only
  rw [ah m3]
  simp only [Tre.aG,c2,decide_true,Bool.not_true,cond_false]
  rw [ah e1,ah e2]
  dsimp only
  rw [hp,ah (x:=(b2,b3,b1)) e3]
  dsimp only
  rw [ah (x:=true) e5]
  simp only [Tre.aG,decide_true,Bool.not_true,cond_false]
  rw [ah m3]
  simp only [Tre.aG,c2,decide_true,Bool.not_true,cond_false]
  rfl
noncomputable def mI:Env:=⟨tau,[(7,Q8),(9,Rc),(10,PL),(8,GL),(11,Gl),(12,PE),(13,QZ),(14,A9),(15,Gz),(16,Uc)],[]⟩
noncomputable def vK:Code:=(Tryz.f3.body).getD .skip
noncomputable def vJ:FnI:=⟨vK,Tryz.f3.results.toList,Tryz.f3.resultTypes.toList,[]⟩
noncomputable def rX (_zp0:Bool) (_zp1:Bool) (_p0:aK) (_p1:(List Int)):Bool→aB:=fun r=>⟨(.imm true .bool r),[],[]⟩
theorem Ho:∀ (zp0:Bool) (zp1:Bool) (p0:aK) (p1:(List Int)),bQ mI vJ ⟨[(.imm zp0 aV p0),(.imm zp1 (.sl (.int .i64)) p1)],[]⟩=(oD p0 p1).run fun r=>some (rX zp0 zp1 p0 p1 r):=fun _ _ _ _=>by kernel_rfl
noncomputable def vI (av:List AV) (rs:List Root):Tre aB :=
 aJ av fun a0_ av0 =>
 aJ av0 fun a1_ av1 =>
 aU av1 <|
 aU rs <|
 bH aV a0_ fun z2 d1 =>
 bH (.sl (.int .i64)) a1_ fun z4 d3 =>
 .mat (mH d1 d3) fun r=>.ret (rX z2 z4 d1 d3 r)
noncomputable def JF:Ctr:=⟨[],fun ci=>vI ci.args ci.roots,false⟩
theorem FE:bP Tryz.prog .none mI:=(aA acN az1 (aA acP az3 (aA Xz axi (aA UC az2 (aA SV azh (aA Xw axj (aA acJ azi (aA Oa azj (aA Uf axk (aA afN azk aP))))))))))
theorem Hq:Contract Tryz.prog .none 3 JF:=by
 have hl:aZ mI [] vK:=bB (by kernel_rfl)
 refine (aI (F:=vJ) bn FE Tryz.func3 (by kernel_rfl) (by kernel_rfl) (by kernel_rfl) hl []).weaken ?_
 rintro ⟨av,rs⟩ co h
 have h:(vI av rs).run some=some co:=h
 obtain ⟨a0_,av0,rfl,h_0⟩:=au h
 obtain ⟨a1_,av1,rfl,h_1⟩:=au h_0
 obtain ⟨rfl,h_2⟩:=ay h_1
 obtain ⟨rfl,h_3⟩:=ay h_2
 obtain ⟨z2,d1,rfl,h_4⟩:=aF h_3
 obtain ⟨z4,d3,rfl,h_5⟩:=aF h_4
 exact bK (Ho z2 z4 d1 d3) h_5
end Go.Proofs.YtihiobjhogpmdaaGreat
