/- The edge step: what it comes to, and the law, lifted. Conditions: those in each lemma. -/
import Derived.Test.YtjhjkfoabhplfaaGreatL6
import Derived.Test.YtjhjkfoabhplfaaGreatEstA
import Derived.Test.YtjhjkfoabhplfaaGreatEsp
namespace Go.Proofs.YtjhjkfoabhplfaaGreat
open Go Dv
set_option linter.unusedSimpArgs false
set_option linter.unusedVariables false
set_option maxRecDepth 100000
set_option maxHeartbeats 4000000
noncomputable def A8(n D:Int)(ns es:List (List Int)):Int×Int×List (List Int)×List (List Int)×List Int×Bool:=(En n D ns es).getD (0,0,[],[],[],false)
theorem kZ(n D:Int)(ns es:List (List Int))(hN:Ai ns)(hE:Ai es):En n D ns es=some (A8 n D ns es)∧okR (A8 n D ns es).2.2.1 (A8 n D ns es).2.2.2.1 (A8 n D ns es).2.2.2.2.1:=by
 obtain⟨n',D',ns',es',sets,ok,_,hI,h⟩:=Y2 n D ns es hN hE;have e:A8 n D ns es=(n',D',ns',es',sets,ok):=by unfold A8;rw [hI];rfl
 rw [e];exact⟨hI,h⟩
theorem xx(n D:Int)(ns es:List (List Int))(hN:Ai ns)(hE:Ai es):FT n D ns es=some (.inl (A8 n D ns es))∨(FT n D ns es=some (.inr (.inr (A8 n D ns es)))∧A8 n D ns es=(0,0,[],[],[],false)):=(vL n D ns es hN hE).1
theorem Dh(pL pD:Int)(pN pE:List (List Int))(h0:Ai pN)(h1:Ai pE):Y.call 9 [D.agg [D.int .i64 pL,D.int .i64 pD,D.sl 27 (AB (fun x=>D.sl 3 (AB (D.int .i64) x)) pN),D.sl 27 (AB (fun x=>D.sl 3 (AB (D.int .i64) x)) pE)]] []=some (D.tup [D.agg [D.int .i64 ((A8 pL pD pN pE).1),D.int .i64 ((A8 pL pD pN pE).2.1),D.own 27 (AB (fun x=>D.own 3 (AB (D.int .i64) x)) ((A8 pL pD pN pE).2.2.1)),D.own 27 (AB (fun x=>D.own 3 (AB (D.int .i64) x)) ((A8 pL pD pN pE).2.2.2.1))],D.own 3 (AB (D.int .i64) ((A8 pL pD pN pE).2.2.2.2.1)),D.bool ((A8 pL pD pN pE).2.2.2.2.2)],[]):=by
 exact U7 _ _ _ _ (kZ _ _ _ _ h0 h1).1
noncomputable def HV(tL tD:Int)(tN tE:List (List Int)):Option (Bool):=
 ck (Q8 tN)<|
 ck (Q8 tE)<|
 ck (0≤(1048576:Int)∧(1048576:Int)≤1048576)<|
 if(vQ (1048576:Int) tN tE)<0 then
  some true
 else
  ck (Ai tN)<|
  ck (Ai tE)<|
  (FT tL tD tN tE).bind fun RD=>
  match RD with
  | .inl q9_=>
   ck (Ai ((A8 tL tD tN tE).2.2.1))<|
   ck (Ai ((A8 tL tD tN tE).2.2.2.1))<|
   if(EE ((A8 tL tD tN tE).1) ((A8 tL tD tN tE).2.1) ((A8 tL tD tN tE).2.2.1) ((A8 tL tD tN tE).2.2.2.1) q9_.1 q9_.2.1 q9_.2.2.1 q9_.2.2.2.1)=true then
    ck (((A8 tL tD tN tE).2.2.2.2.1).length<1099511627776)<|
    if(decide (((A8 tL tD tN tE).2.2.2.2.1)=q9_.2.2.2.2.1))=true then
     if((A8 tL tD tN tE).2.2.2.2.2)=true then
      if q9_.2.2.2.2.2=true then
       if(EE tL tD tN tE tL tD tN tE)=true then
        ck (0≤(1:Int)∧(1:Int)+Ab tN+Ab tE<1099511627776)<|
        if((1:Int)+Ab tN+Ab tE)<0 then
         some false
        else
         ck (0≤(1:Int)∧(1:Int)+Ab ((A8 tL tD tN tE).2.2.1)+Ab ((A8 tL tD tN tE).2.2.2.1)<1099511627776)<|
         ck (0≤((1:Int)+Ab ((A8 tL tD tN tE).2.2.1)+Ab ((A8 tL tD tN tE).2.2.2.1))∧((1:Int)+Ab ((A8 tL tD tN tE).2.2.1)+Ab ((A8 tL tD tN tE).2.2.2.1))<1099511627776)<|
         (D7 ((A8 tL tD tN tE).1) ((A8 tL tD tN tE).2.1) (Ca (1:Int) ((A8 tL tD tN tE).2.2.1)) (Ca ((1:Int)+Ab ((A8 tL tD tN tE).2.2.1)) ((A8 tL tD tN tE).2.2.2.1)) (1:Int)).bind fun M9=>
         if M9<0 then
          some false
         else
          ck ((upto ((1:Int)+Ab ((A8 tL tD tN tE).2.2.1)+Ab ((A8 tL tD tN tE).2.2.2.1)) ((A8 tL tD tN tE).2.2.2.2.1).length).length<1099511627776)<|
          ck (0≤M9∧M9+(upto ((1:Int)+Ab ((A8 tL tD tN tE).2.2.1)+Ab ((A8 tL tD tN tE).2.2.2.1)) ((A8 tL tD tN tE).2.2.2.2.1).length).length<1099511627776)<|
          if(F6 M9 (upto ((1:Int)+Ab ((A8 tL tD tN tE).2.2.1)+Ab ((A8 tL tD tN tE).2.2.2.1)) ((A8 tL tD tN tE).2.2.2.2.1).length))<0 then
           some false
          else
           if(F6 M9 (upto ((1:Int)+Ab ((A8 tL tD tN tE).2.2.1)+Ab ((A8 tL tD tN tE).2.2.2.1)) ((A8 tL tD tN tE).2.2.2.2.1).length))=(((1:Int)+Ab ((A8 tL tD tN tE).2.2.1)+Ab ((A8 tL tD tN tE).2.2.2.1))+((A8 tL tD tN tE).2.2.2.2.1).length)then
            some true
           else
            some false
       else
        some false
      else
       some false
     else
      if q9_.2.2.2.2.2=true then
       some false
      else
       if(EE tL tD tN tE tL tD tN tE)=true then
        ck (0≤(1:Int)∧(1:Int)+Ab tN+Ab tE<1099511627776)<|
        if((1:Int)+Ab tN+Ab tE)<0 then
         some false
        else
         ck (0≤(1:Int)∧(1:Int)+Ab ((A8 tL tD tN tE).2.2.1)+Ab ((A8 tL tD tN tE).2.2.2.1)<1099511627776)<|
         ck (0≤((1:Int)+Ab ((A8 tL tD tN tE).2.2.1)+Ab ((A8 tL tD tN tE).2.2.2.1))∧((1:Int)+Ab ((A8 tL tD tN tE).2.2.1)+Ab ((A8 tL tD tN tE).2.2.2.1))<1099511627776)<|
         (D7 ((A8 tL tD tN tE).1) ((A8 tL tD tN tE).2.1) (Ca (1:Int) ((A8 tL tD tN tE).2.2.1)) (Ca ((1:Int)+Ab ((A8 tL tD tN tE).2.2.1)) ((A8 tL tD tN tE).2.2.2.1)) (1:Int)).bind fun M9=>
         if M9<0 then
          some false
         else
          ck ((upto ((1:Int)+Ab ((A8 tL tD tN tE).2.2.1)+Ab ((A8 tL tD tN tE).2.2.2.1)) ((A8 tL tD tN tE).2.2.2.2.1).length).length<1099511627776)<|
          ck (0≤M9∧M9+(upto ((1:Int)+Ab ((A8 tL tD tN tE).2.2.1)+Ab ((A8 tL tD tN tE).2.2.2.1)) ((A8 tL tD tN tE).2.2.2.2.1).length).length<1099511627776)<|
          if(F6 M9 (upto ((1:Int)+Ab ((A8 tL tD tN tE).2.2.1)+Ab ((A8 tL tD tN tE).2.2.2.1)) ((A8 tL tD tN tE).2.2.2.2.1).length))<0 then
           some false
          else
           if(F6 M9 (upto ((1:Int)+Ab ((A8 tL tD tN tE).2.2.1)+Ab ((A8 tL tD tN tE).2.2.2.1)) ((A8 tL tD tN tE).2.2.2.2.1).length))=(((1:Int)+Ab ((A8 tL tD tN tE).2.2.1)+Ab ((A8 tL tD tN tE).2.2.2.1))+((A8 tL tD tN tE).2.2.2.2.1).length)then
            some true
           else
            some false
       else
        some false
    else
     some false
   else
    some false
  | .inr (.inl q9_)=>
   ck (Ai ((A8 tL tD tN tE).2.2.1))<|
   ck (Ai ((A8 tL tD tN tE).2.2.2.1))<|
   if(EE ((A8 tL tD tN tE).1) ((A8 tL tD tN tE).2.1) ((A8 tL tD tN tE).2.2.1) ((A8 tL tD tN tE).2.2.2.1) q9_.1 q9_.2.1 q9_.2.2.1 q9_.2.2.2.1)=true then
    ck (((A8 tL tD tN tE).2.2.2.2.1).length<1099511627776)<|
    if(decide (((A8 tL tD tN tE).2.2.2.2.1)=q9_.2.2.2.2.1))=true then
     if((A8 tL tD tN tE).2.2.2.2.2)=true then
      if q9_.2.2.2.2.2=true then
       if(EE tL tD tN tE tL tD tN tE)=true then
        ck (0≤(1:Int)∧(1:Int)+Ab tN+Ab tE<1099511627776)<|
        if((1:Int)+Ab tN+Ab tE)<0 then
         some false
        else
         ck (0≤(1:Int)∧(1:Int)+Ab ((A8 tL tD tN tE).2.2.1)+Ab ((A8 tL tD tN tE).2.2.2.1)<1099511627776)<|
         ck (0≤((1:Int)+Ab ((A8 tL tD tN tE).2.2.1)+Ab ((A8 tL tD tN tE).2.2.2.1))∧((1:Int)+Ab ((A8 tL tD tN tE).2.2.1)+Ab ((A8 tL tD tN tE).2.2.2.1))<1099511627776)<|
         (D7 ((A8 tL tD tN tE).1) ((A8 tL tD tN tE).2.1) (Ca (1:Int) ((A8 tL tD tN tE).2.2.1)) (Ca ((1:Int)+Ab ((A8 tL tD tN tE).2.2.1)) ((A8 tL tD tN tE).2.2.2.1)) (1:Int)).bind fun MB=>
         if MB<0 then
          some false
         else
          ck ((upto ((1:Int)+Ab ((A8 tL tD tN tE).2.2.1)+Ab ((A8 tL tD tN tE).2.2.2.1)) ((A8 tL tD tN tE).2.2.2.2.1).length).length<1099511627776)<|
          ck (0≤MB∧MB+(upto ((1:Int)+Ab ((A8 tL tD tN tE).2.2.1)+Ab ((A8 tL tD tN tE).2.2.2.1)) ((A8 tL tD tN tE).2.2.2.2.1).length).length<1099511627776)<|
          if(F6 MB (upto ((1:Int)+Ab ((A8 tL tD tN tE).2.2.1)+Ab ((A8 tL tD tN tE).2.2.2.1)) ((A8 tL tD tN tE).2.2.2.2.1).length))<0 then
           some false
          else
           if(F6 MB (upto ((1:Int)+Ab ((A8 tL tD tN tE).2.2.1)+Ab ((A8 tL tD tN tE).2.2.2.1)) ((A8 tL tD tN tE).2.2.2.2.1).length))=(((1:Int)+Ab ((A8 tL tD tN tE).2.2.1)+Ab ((A8 tL tD tN tE).2.2.2.1))+((A8 tL tD tN tE).2.2.2.2.1).length)then
            some true
           else
            some false
       else
        some false
      else
       some false
     else
      if q9_.2.2.2.2.2=true then
       some false
      else
       if(EE tL tD tN tE tL tD tN tE)=true then
        ck (0≤(1:Int)∧(1:Int)+Ab tN+Ab tE<1099511627776)<|
        if((1:Int)+Ab tN+Ab tE)<0 then
         some false
        else
         ck (0≤(1:Int)∧(1:Int)+Ab ((A8 tL tD tN tE).2.2.1)+Ab ((A8 tL tD tN tE).2.2.2.1)<1099511627776)<|
         ck (0≤((1:Int)+Ab ((A8 tL tD tN tE).2.2.1)+Ab ((A8 tL tD tN tE).2.2.2.1))∧((1:Int)+Ab ((A8 tL tD tN tE).2.2.1)+Ab ((A8 tL tD tN tE).2.2.2.1))<1099511627776)<|
         (D7 ((A8 tL tD tN tE).1) ((A8 tL tD tN tE).2.1) (Ca (1:Int) ((A8 tL tD tN tE).2.2.1)) (Ca ((1:Int)+Ab ((A8 tL tD tN tE).2.2.1)) ((A8 tL tD tN tE).2.2.2.1)) (1:Int)).bind fun MB=>
         if MB<0 then
          some false
         else
          ck ((upto ((1:Int)+Ab ((A8 tL tD tN tE).2.2.1)+Ab ((A8 tL tD tN tE).2.2.2.1)) ((A8 tL tD tN tE).2.2.2.2.1).length).length<1099511627776)<|
          ck (0≤MB∧MB+(upto ((1:Int)+Ab ((A8 tL tD tN tE).2.2.1)+Ab ((A8 tL tD tN tE).2.2.2.1)) ((A8 tL tD tN tE).2.2.2.2.1).length).length<1099511627776)<|
          if(F6 MB (upto ((1:Int)+Ab ((A8 tL tD tN tE).2.2.1)+Ab ((A8 tL tD tN tE).2.2.2.1)) ((A8 tL tD tN tE).2.2.2.2.1).length))<0 then
           some false
          else
           if(F6 MB (upto ((1:Int)+Ab ((A8 tL tD tN tE).2.2.1)+Ab ((A8 tL tD tN tE).2.2.2.1)) ((A8 tL tD tN tE).2.2.2.2.1).length))=(((1:Int)+Ab ((A8 tL tD tN tE).2.2.1)+Ab ((A8 tL tD tN tE).2.2.2.1))+((A8 tL tD tN tE).2.2.2.2.1).length)then
            some true
           else
            some false
       else
        some false
    else
     some false
   else
    some false
  | .inr (.inr q9_)=>
   ck (Ai ((A8 tL tD tN tE).2.2.1))<|
   ck (Ai ((A8 tL tD tN tE).2.2.2.1))<|
   if(EE ((A8 tL tD tN tE).1) ((A8 tL tD tN tE).2.1) ((A8 tL tD tN tE).2.2.1) ((A8 tL tD tN tE).2.2.2.1) q9_.1 q9_.2.1 q9_.2.2.1 q9_.2.2.2.1)=true then
    ck (((A8 tL tD tN tE).2.2.2.2.1).length<1099511627776)<|
    if(decide (((A8 tL tD tN tE).2.2.2.2.1)=q9_.2.2.2.2.1))=true then
     if((A8 tL tD tN tE).2.2.2.2.2)=true then
      if q9_.2.2.2.2.2=true then
       if(EE tL tD tN tE tL tD tN tE)=true then
        ck (0≤(1:Int)∧(1:Int)+Ab tN+Ab tE<1099511627776)<|
        if((1:Int)+Ab tN+Ab tE)<0 then
         some false
        else
         ck (0≤(1:Int)∧(1:Int)+Ab ((A8 tL tD tN tE).2.2.1)+Ab ((A8 tL tD tN tE).2.2.2.1)<1099511627776)<|
         ck (0≤((1:Int)+Ab ((A8 tL tD tN tE).2.2.1)+Ab ((A8 tL tD tN tE).2.2.2.1))∧((1:Int)+Ab ((A8 tL tD tN tE).2.2.1)+Ab ((A8 tL tD tN tE).2.2.2.1))<1099511627776)<|
         (D7 ((A8 tL tD tN tE).1) ((A8 tL tD tN tE).2.1) (Ca (1:Int) ((A8 tL tD tN tE).2.2.1)) (Ca ((1:Int)+Ab ((A8 tL tD tN tE).2.2.1)) ((A8 tL tD tN tE).2.2.2.1)) (1:Int)).bind fun MC=>
         if MC<0 then
          some false
         else
          ck ((upto ((1:Int)+Ab ((A8 tL tD tN tE).2.2.1)+Ab ((A8 tL tD tN tE).2.2.2.1)) ((A8 tL tD tN tE).2.2.2.2.1).length).length<1099511627776)<|
          ck (0≤MC∧MC+(upto ((1:Int)+Ab ((A8 tL tD tN tE).2.2.1)+Ab ((A8 tL tD tN tE).2.2.2.1)) ((A8 tL tD tN tE).2.2.2.2.1).length).length<1099511627776)<|
          if(F6 MC (upto ((1:Int)+Ab ((A8 tL tD tN tE).2.2.1)+Ab ((A8 tL tD tN tE).2.2.2.1)) ((A8 tL tD tN tE).2.2.2.2.1).length))<0 then
           some false
          else
           if(F6 MC (upto ((1:Int)+Ab ((A8 tL tD tN tE).2.2.1)+Ab ((A8 tL tD tN tE).2.2.2.1)) ((A8 tL tD tN tE).2.2.2.2.1).length))=(((1:Int)+Ab ((A8 tL tD tN tE).2.2.1)+Ab ((A8 tL tD tN tE).2.2.2.1))+((A8 tL tD tN tE).2.2.2.2.1).length)then
            some true
           else
            some false
       else
        some false
      else
       some false
     else
      if q9_.2.2.2.2.2=true then
       some false
      else
       if(EE tL tD tN tE tL tD tN tE)=true then
        ck (0≤(1:Int)∧(1:Int)+Ab tN+Ab tE<1099511627776)<|
        if((1:Int)+Ab tN+Ab tE)<0 then
         some false
        else
         ck (0≤(1:Int)∧(1:Int)+Ab ((A8 tL tD tN tE).2.2.1)+Ab ((A8 tL tD tN tE).2.2.2.1)<1099511627776)<|
         ck (0≤((1:Int)+Ab ((A8 tL tD tN tE).2.2.1)+Ab ((A8 tL tD tN tE).2.2.2.1))∧((1:Int)+Ab ((A8 tL tD tN tE).2.2.1)+Ab ((A8 tL tD tN tE).2.2.2.1))<1099511627776)<|
         (D7 ((A8 tL tD tN tE).1) ((A8 tL tD tN tE).2.1) (Ca (1:Int) ((A8 tL tD tN tE).2.2.1)) (Ca ((1:Int)+Ab ((A8 tL tD tN tE).2.2.1)) ((A8 tL tD tN tE).2.2.2.1)) (1:Int)).bind fun MC=>
         if MC<0 then
          some false
         else
          ck ((upto ((1:Int)+Ab ((A8 tL tD tN tE).2.2.1)+Ab ((A8 tL tD tN tE).2.2.2.1)) ((A8 tL tD tN tE).2.2.2.2.1).length).length<1099511627776)<|
          ck (0≤MC∧MC+(upto ((1:Int)+Ab ((A8 tL tD tN tE).2.2.1)+Ab ((A8 tL tD tN tE).2.2.2.1)) ((A8 tL tD tN tE).2.2.2.2.1).length).length<1099511627776)<|
          if(F6 MC (upto ((1:Int)+Ab ((A8 tL tD tN tE).2.2.1)+Ab ((A8 tL tD tN tE).2.2.2.1)) ((A8 tL tD tN tE).2.2.2.2.1).length))<0 then
           some false
          else
           if(F6 MC (upto ((1:Int)+Ab ((A8 tL tD tN tE).2.2.1)+Ab ((A8 tL tD tN tE).2.2.2.1)) ((A8 tL tD tN tE).2.2.2.2.1).length))=(((1:Int)+Ab ((A8 tL tD tN tE).2.2.1)+Ab ((A8 tL tD tN tE).2.2.2.1))+((A8 tL tD tN tE).2.2.2.2.1).length)then
            some true
           else
            some false
       else
        some false
    else
     some false
   else
    some false
def k3:SC:= .seq (.ops [oX 1 (.box 24 (tK 0)) 0,oX 2 (.assign (.const (.bool false))) 4]) (.seq (.ops [oX 3 (.assign (iK 1048576)) 3]) (.seq (.ops [oL 17 24 1 24,oM 18 3 3,oC 19 6 [(tK 17),(tK 18)] [24,3] 3,oA 3 19 3]) (.seq (.seq (.ops [oM 20 3 3,oB 21 .lss 3 (tK 20) (iK 0) 3 4]) (.cond (tK 21) (.seq (.ops [oX 2 (.assign (.const (.bool true))) 4]) .ret) .skip)) (.seq (.ops [oL 23 24 1 24,oC 24 8 [(tK 23)] [24] 900014,oC 25 7 [(tK 24)] [26] 28,oM 22 25 28,oE 26 22 0 26,oE 27 22 1 27,oE 28 22 2 4,oX 4 (.alloc 26) 0,oS 26 4 26,oA 5 27 27,oA 6 28 4]) (.seq (.ops [oL 29 24 1 24,oC 30 8 [(tK 29)] [24] 26,oX 7 (.alloc 26) 0,oS 26 7 30]) (.seq (.ops [oL 32 26 7 26,oC 33 9 [(tK 32)] [26] 28,oM 31 33 28,oE 34 31 0 26,oE 35 31 1 27,oE 36 31 2 4,oX 8 (.alloc 26) 0,oS 26 8 34,oA 9 35 27,oA 10 36 4]) (.seq (.seq (.ops [oL 37 26 8 26,oL 38 26 4 26,oC 39 10 [(tK 37),(tK 38)] [26,26] 4,oX 40 (.unOp .not 4 (tK 39)) 4,oM 41 40 4,⟨some 42,.move (tK 9),27,(some (some 41,false))⟩,⟨some 43,.move (tK 5),27,(some (some 41,false))⟩,⟨some 44,.call ⟨(.value (.func 11)), #[(tK 42),(tK 43)], #[27,27]⟩,4,(some (some 41,false))⟩,⟨some 45,.unOp .not 4 (tK 44),4,(some (some 41,false))⟩,
 oX 46 (.pick (tK 41) (.const (.bool true)) (tK 45)) 4,oM 47 46 4,⟨some 48,.move (tK 10),4,(some (some 47,false))⟩,⟨some 49,.move (tK 6),4,(some (some 47,false))⟩,⟨some 50,.binOp .neq 4 (tK 48) (tK 49) 4,4,(some (some 47,false))⟩,oX 51 (.pick (tK 47) (.const (.bool true)) (tK 50)) 4]) (.cond (tK 51) (.seq (.ops [oX 2 (.assign (.const (.bool false))) 4]) .ret) .skip)) (.seq (.seq (.draws [(⟨[52,7,7],[52,53,54,55,56],[52]⟩,oL 52 26 7 26),(⟨[53,1,1],[52,53,54,55,56],[53]⟩,oL 53 24 1 24),(⟨[54,53,1],[52,53,54,55,56],[54]⟩,oC 54 8 [(tK 53)] [24] 26),(⟨[55,52,54,7,54],[52,53,54,55,56],[55]⟩,oC 55 10 [(tK 52),(tK 54)] [26,26] 4),(⟨[56,55,55],[52,53,54,55,56],[56]⟩,oX 56 (.unOp .not 4 (tK 55)) 4)]) (.cond (tK 56) (.seq (.ops [oX 2 (.assign (.const (.bool false))) 4]) .ret) .skip)) (.seq (.ops [oX 11 (.assign (iK 1)) 3]) (.seq (.ops [oL 57 26 7 26,oM 58 11 3,oC 59 12 [(tK 57),(tK 58)] [26,3] 3,oA 11 59 3]) (.seq (.seq (.ops [oM 60 11 3,oB 61 .lss 3 (tK 60) (iK 0) 3 4,oM 62 61 4,⟨some 63,.load 26 (tK 8),26,(some (some 62,false))⟩,⟨some 64,.load 26 (tK 4),26,(some (some 62,false))⟩,⟨some 65,.call ⟨(.value (.func 10)), #[(tK 63),(tK 64)], #[26,26]⟩,4,(some (some 62,false))⟩,
 ⟨some 66,.unOp .not 4 (tK 65),4,(some (some 62,false))⟩,oX 67 (.pick (tK 62) (.const (.bool true)) (tK 66)) 4,oM 68 67 4,⟨some 69,.move (tK 9),27,(some (some 68,false))⟩,⟨some 70,.move (tK 5),27,(some (some 68,false))⟩,⟨some 71,.call ⟨(.value (.func 11)), #[(tK 69),(tK 70)], #[27,27]⟩,4,(some (some 68,false))⟩,⟨some 72,.unOp .not 4 (tK 71),4,(some (some 68,false))⟩,oX 73 (.pick (tK 68) (.const (.bool true)) (tK 72)) 4,oM 74 73 4,⟨some 75,.move (tK 10),4,(some (some 74,false))⟩,⟨some 76,.move (tK 6),4,(some (some 74,false))⟩,⟨some 77,.binOp .neq 4 (tK 75) (tK 76) 4,4,(some (some 74,false))⟩,oX 78 (.pick (tK 74) (.const (.bool true)) (tK 77)) 4]) (.cond (tK 78) (.seq (.ops [oX 2 (.assign (.const (.bool false))) 4]) .ret) .skip)) (.seq (.ops [oX 12 (.assign (iK 1)) 3]) (.seq (.ops [oL 79 26 8 26,oM 80 12 3,oC 81 12 [(tK 79),(tK 80)] [26,3] 3,oA 12 81 3]) (.seq (.ops [oM 82 9 27,oM 83 12 3,oC 84 13 [(tK 82),(tK 83)] [27,3] 3,oA 12 84 3]) (.seq (.ops [oX 13 (.assign (iK 1)) 3]) (.seq (.ops [oL 85 26 8 26,oM 86 13 3,oC 87 14 [(tK 85),(tK 86)] [26,3] 3,oA 13 87 3]) (.seq (.seq (.ops [oM 88 13 3,oB 89 .lss 3 (tK 88) (iK 0) 3 4]) (.cond (tK 89) (.seq (.ops [
 oX 2 (.assign (.const (.bool false))) 4]) .ret) .skip)) (.seq (.ops [oM 90 9 27,oM 91 13 3,oC 92 15 [(tK 90),(tK 91)] [27,3] 3,oA 13 92 3]) (.seq (.seq (.ops [oM 93 13 3,oB 94 .lss 3 (tK 93) (iK 0) 3 4]) (.cond (tK 94) (.seq (.ops [oX 2 (.assign (.const (.bool false))) 4]) .ret) .skip)) (.seq (.seq (.ops [oM 95 13 3,oM 96 12 3,oB 97 .neq 3 (tK 95) (tK 96) 3 4]) (.cond (tK 97) (.seq (.ops [oX 2 (.assign (.const (.bool false))) 4]) .ret) .skip)) (.seq (.ops [oL 99 24 1 24,oC 100 8 [(tK 99)] [24] 26,oC 101 9 [(tK 100)] [26] 28,oM 98 101 28,oE 102 98 0 26,oE 103 98 1 27,oE 104 98 2 4,oX 14 (.alloc 26) 0,oS 26 14 102,oA 15 103 27,oA 16 104 4]) (.seq (.seq (.ops [oL 105 26 14 26,oL 106 26 4 26,oC 107 10 [(tK 105),(tK 106)] [26,26] 4,oX 108 (.unOp .not 4 (tK 107)) 4,oM 109 108 4,⟨some 110,.move (tK 15),27,(some (some 109,false))⟩,⟨some 111,.move (tK 5),27,(some (some 109,false))⟩,⟨some 112,.call ⟨(.value (.func 11)), #[(tK 110),(tK 111)], #[27,27]⟩,4,(some (some 109,false))⟩,⟨some 113,.unOp .not 4 (tK 112),4,(some (some 109,false))⟩,oX 114 (.pick (tK 109) (.const (.bool true)) (tK 113)) 4,oM 115 114 4,⟨some 116,.move (tK 16),4,(some (some 115,false))⟩,
 ⟨some 117,.move (tK 6),4,(some (some 115,false))⟩,⟨some 118,.binOp .neq 4 (tK 116) (tK 117) 4,4,(some (some 115,false))⟩,oX 119 (.pick (tK 115) (.const (.bool true)) (tK 118)) 4]) (.cond (tK 119) (.seq (.ops [oX 2 (.assign (.const (.bool false))) 4]) .ret) .skip)) (.seq (.ops [oX 13 (.assign (iK 1)) 3]) (.seq (.ops [oL 120 26 8 26,oM 121 13 3,oC 122 14 [(tK 120),(tK 121)] [26,3] 3,oA 13 122 3]) (.seq (.seq (.ops [oM 123 13 3,oB 124 .lss 3 (tK 123) (iK 0) 3 4]) (.cond (tK 124) (.seq (.ops [oX 2 (.assign (.const (.bool false))) 4]) .ret) .skip)) (.seq (.ops [oM 125 9 27,oM 126 13 3,oC 127 15 [(tK 125),(tK 126)] [27,3] 3,oA 13 127 3]) (.seq (.seq (.ops [oM 128 13 3,oB 129 .lss 3 (tK 128) (iK 0) 3 4]) (.cond (tK 129) (.seq (.ops [oX 2 (.assign (.const (.bool false))) 4]) .ret) .skip)) (.seq (.seq (.ops [oM 130 13 3,oM 131 12 3,oB 132 .neq 3 (tK 130) (tK 131) 3 4]) (.cond (tK 132) (.seq (.ops [oX 2 (.assign (.const (.bool false))) 4]) .ret) .skip)) (.seq (.ops [oX 2 (.assign (.const (.bool true))) 4]) .ret)))))))))))))))))))))))))))))
theorem ACB:Tryz.f3.body.map (BO lends)=some k3:=by kernel_rfl
theorem ok3:Bi Tryz.f3 1=true:=by kernel_rfl
theorem c3{a l:List D}{r:D×List D}(h:Bf Y.env k3 (EG AV l.length [ResultVar.tmp 2] r) (entry a l))(ha:a.length=1):Y.call 3 a l=some r:=
 AL (Y:=Y) rfl Tryz.func3 (ha▸ok3) ACB h
theorem OE(tL tD:Int)(tN tE:List (List Int)){r:Bool}(h:HV tL tD tN tE=some r):Y.call 3 [D.agg [D.int .i64 tL,D.int .i64 tD,D.sl 27 (AB (fun x=>D.sl 3 (AB (D.int .i64) x)) tN),D.sl 27 (AB (fun x=>D.sl 3 (AB (D.int .i64) x)) tE)]] []=some (D.bool r,[]):=by
 refine c3 ?_ rfl;unfold k3;unfold HV at h;obtain⟨e1,h⟩:=Av h;obtain⟨e2,h⟩:=Av h;obtain⟨e3,h⟩:=Av h;have c4:=VZ tL tD tN tE (1048576:Int) e1 e2 e3;by_cases e5:(vQ (1048576:Int) tN tE)<0
 ·rw [if_pos e5]at h;cases h;simp (maxDischargeDepth:=9) only [↓AC,A7,BM,AA,AJ,↓reduceIte,Nat.reduceEqDiff,Nat.reduceLT,Nat.reduceAdd,c4,e5]
 ·rw [if_neg e5]at h;obtain⟨e6,h⟩:=Av h;obtain⟨e7,h⟩:=Av h;have c8:=BN tL tD tN tE e6 e7;obtain⟨RD,hl9,h⟩:=AU h;try dsimp only at h
  have c9:=U8 tL tD tN tE hl9;rcases RD with(q9_ | q9_ | q9_)
  ·dsimp only at h c9;have c10:=BN tL tD tN tE e6 e7;have aI:=Dh tL tD tN tE e6 e7;obtain⟨e12,h⟩:=Av h;obtain⟨e13,h⟩:=Av h;have aL:=Am ((A8 tL tD tN tE).1) ((A8 tL tD tN tE).2.1) ((A8 tL tD tN tE).2.2.1) ((A8 tL tD tN tE).2.2.2.1) q9_.1 q9_.2.1 q9_.2.2.1 q9_.2.2.2.1 e12 e13;by_cases e15:(EE ((A8 tL tD tN tE).1) ((A8 tL tD tN tE).2.1) ((A8 tL tD tN tE).2.2.1) ((A8 tL tD tN tE).2.2.2.1) q9_.1 q9_.2.1 q9_.2.2.1 q9_.2.2.2.1)=true
   ·rw [if_pos e15]at h;obtain⟨e16,h⟩:=Av h;have c17:=CQ ((A8 tL tD tN tE).2.2.2.2.1) q9_.2.2.2.2.1 e16;by_cases e18:(decide (((A8 tL tD tN tE).2.2.2.2.1)=q9_.2.2.2.2.1))=true
    ·rw [if_pos e18]at h;by_cases e19:((A8 tL tD tN tE).2.2.2.2.2)=true
     ·rw [if_pos e19]at h;by_cases e20:q9_.2.2.2.2.2=true
      ·rw [if_pos e20]at h;have c21:=BN tL tD tN tE e6 e7;have fH:=Am tL tD tN tE tL tD tN tE e6 e7;by_cases e23:(EE tL tD tN tE tL tD tN tE)=true
       ·rw [if_pos e23]at h;obtain⟨e24,h⟩:=Av h;have nT:=Bg tL tD tN tE (1:Int) e6 e7 e24;by_cases e26:((1:Int)+Ab tN+Ab tE)<0
        ·rw [if_pos e26]at h;cases h;simp (maxDischargeDepth:=9) only [↓AC,A7,AO,BM,AA,AJ,↓reduceIte,Nat.reduceEqDiff,Nat.reduceLT,Nat.reduceAdd,Nat.reduceBEq,c4,e5,c8,c9,aI,aL,e15,c17,e18,e19,e20,fH,e23,nT,e26]
        ·rw [if_neg e26]at h;have c27:=Am ((A8 tL tD tN tE).1) ((A8 tL tD tN tE).2.1) ((A8 tL tD tN tE).2.2.1) ((A8 tL tD tN tE).2.2.2.1) q9_.1 q9_.2.1 q9_.2.2.1 q9_.2.2.2.1 e12 e13;have dw:=CQ ((A8 tL tD tN tE).2.2.2.2.1) q9_.2.2.2.2.1 e16;obtain⟨e29,h⟩:=Av h;have c30:=Bg ((A8 tL tD tN tE).1) ((A8 tL tD tN tE).2.1) ((A8 tL tD tN tE).2.2.1) ((A8 tL tD tN tE).2.2.2.1) (1:Int) e12 e13 e29;obtain⟨e31,h⟩:=Av h;have sJ:=FJ ((A8 tL tD tN tE).2.2.2.2.1) ((1:Int)+Ab ((A8 tL tD tN tE).2.2.1)+Ab ((A8 tL tD tN tE).2.2.2.1)) e16 e31;obtain⟨M9,hl33,h⟩:=AU h;try dsimp only at h
         have jL:=DX ((A8 tL tD tN tE).1) ((A8 tL tD tN tE).2.1) (Ca (1:Int) ((A8 tL tD tN tE).2.2.1)) (Ca ((1:Int)+Ab ((A8 tL tD tN tE).2.2.1)) ((A8 tL tD tN tE).2.2.2.1)) (1:Int) hl33;by_cases e34:M9<0
         ·rw [if_pos e34]at h;cases h;simp (maxDischargeDepth:=9) only [↓AC,A7,AO,BM,AA,AJ,↓reduceIte,Nat.reduceEqDiff,Nat.reduceLT,Nat.reduceAdd,Nat.reduceBEq,c4,e5,c8,c9,aI,aL,e15,c17,e18,e19,e20,fH,e23,nT,e26,c30,sJ,jL,e34]
         ·rw [if_neg e34]at h;obtain⟨e35,h⟩:=Av h;obtain⟨e36,h⟩:=Av h;have Wt:=CO (upto ((1:Int)+Ab ((A8 tL tD tN tE).2.2.1)+Ab ((A8 tL tD tN tE).2.2.2.1)) ((A8 tL tD tN tE).2.2.2.2.1).length) M9 e35 e36;by_cases e38:(F6 M9 (upto ((1:Int)+Ab ((A8 tL tD tN tE).2.2.1)+Ab ((A8 tL tD tN tE).2.2.2.1)) ((A8 tL tD tN tE).2.2.2.2.1).length))<0
          ·rw [if_pos e38]at h;cases h;simp (maxDischargeDepth:=9) only [↓AC,A7,AO,BM,AA,AJ,↓reduceIte,Nat.reduceEqDiff,Nat.reduceLT,Nat.reduceAdd,Nat.reduceBEq,c4,e5,c8,c9,aI,aL,e15,c17,e18,e19,e20,fH,e23,nT,e26,c30,sJ,jL,e34,Wt,e38]
          ·rw [if_neg e38]at h;by_cases e39:(F6 M9 (upto ((1:Int)+Ab ((A8 tL tD tN tE).2.2.1)+Ab ((A8 tL tD tN tE).2.2.2.1)) ((A8 tL tD tN tE).2.2.2.2.1).length))=(((1:Int)+Ab ((A8 tL tD tN tE).2.2.1)+Ab ((A8 tL tD tN tE).2.2.2.1))+((A8 tL tD tN tE).2.2.2.2.1).length)
           ·rw [if_pos e39]at h;have c40:=BN tL tD tN tE e6 e7;have c41:=Dh tL tD tN tE e6 e7;have nQ:=Am ((A8 tL tD tN tE).1) ((A8 tL tD tN tE).2.1) ((A8 tL tD tN tE).2.2.1) ((A8 tL tD tN tE).2.2.2.1) q9_.1 q9_.2.1 q9_.2.2.1 q9_.2.2.2.1 e12 e13;have ut:=CQ ((A8 tL tD tN tE).2.2.2.2.1) q9_.2.2.2.2.1 e16;have nS:=CO (upto ((1:Int)+Ab ((A8 tL tD tN tE).2.2.1)+Ab ((A8 tL tD tN tE).2.2.2.1)) ((A8 tL tD tN tE).2.2.2.2.1).length) M9 e35 e36;cases h;simp (maxDischargeDepth:=9) only [↓AC,A7,AO,BM,AA,AJ,↓reduceIte,Nat.reduceEqDiff,Nat.reduceLT,Nat.reduceAdd,Nat.reduceBEq,c4,e5,c8,c9,aI,aL,e15,c17,e18,e19,e20,fH,e23,nT,e26,c30,sJ,jL,e34,Wt,e38,decide_eq_true e39]
           ·rw [if_neg e39]at h;cases h;simp (maxDischargeDepth:=9) only [↓AC,A7,AO,BM,AA,AJ,↓reduceIte,Nat.reduceEqDiff,Nat.reduceLT,Nat.reduceAdd,Nat.reduceBEq,c4,e5,c8,c9,aI,aL,e15,c17,e18,e19,e20,fH,e23,nT,e26,c30,sJ,jL,e34,Wt,e38,e39]
       ·rw [if_neg e23]at h;have e23f:(EE tL tD tN tE tL tD tN tE)=false:=Bool.eq_false_iff.mpr e23;cases h;simp (maxDischargeDepth:=9) only [↓AC,A7,AO,BM,AA,AJ,↓reduceIte,Nat.reduceEqDiff,Nat.reduceLT,Nat.reduceAdd,Nat.reduceBEq,c4,e5,c8,c9,aI,aL,e15,c17,e18,e19,e20,fH,e23f]
      ·rw [if_neg e20]at h;have e20f:q9_.2.2.2.2.2=false:=Bool.eq_false_iff.mpr e20;cases h;simp (maxDischargeDepth:=9) only [↓AC,A7,AO,BM,AA,AJ,↓reduceIte,Nat.reduceEqDiff,Nat.reduceLT,Nat.reduceAdd,c4,e5,c8,c9,aI,aL,e15,c17,e18,e19,e20f]
     ·rw [if_neg e19]at h;have e19f:((A8 tL tD tN tE).2.2.2.2.2)=false:=Bool.eq_false_iff.mpr e19;by_cases e20:q9_.2.2.2.2.2=true
      ·rw [if_pos e20]at h;cases h;simp (maxDischargeDepth:=9) only [↓AC,A7,AO,BM,AA,AJ,↓reduceIte,Nat.reduceEqDiff,Nat.reduceLT,Nat.reduceAdd,c4,e5,c8,c9,aI,aL,e15,c17,e18,e19f,e20]
      ·rw [if_neg e20]at h;have e20f:q9_.2.2.2.2.2=false:=Bool.eq_false_iff.mpr e20;have c21:=BN tL tD tN tE e6 e7;have fH:=Am tL tD tN tE tL tD tN tE e6 e7;by_cases e23:(EE tL tD tN tE tL tD tN tE)=true
       ·rw [if_pos e23]at h;obtain⟨e24,h⟩:=Av h;have nT:=Bg tL tD tN tE (1:Int) e6 e7 e24;by_cases e26:((1:Int)+Ab tN+Ab tE)<0
        ·rw [if_pos e26]at h;cases h;simp (maxDischargeDepth:=9) only [↓AC,A7,AO,BM,AA,AJ,↓reduceIte,Nat.reduceEqDiff,Nat.reduceLT,Nat.reduceAdd,Nat.reduceBEq,c4,e5,c8,c9,aI,aL,e15,c17,e18,e19f,e20f,fH,e23,nT,e26]
        ·rw [if_neg e26]at h;have c27:=Am ((A8 tL tD tN tE).1) ((A8 tL tD tN tE).2.1) ((A8 tL tD tN tE).2.2.1) ((A8 tL tD tN tE).2.2.2.1) q9_.1 q9_.2.1 q9_.2.2.1 q9_.2.2.2.1 e12 e13;have dw:=CQ ((A8 tL tD tN tE).2.2.2.2.1) q9_.2.2.2.2.1 e16;obtain⟨e29,h⟩:=Av h;have c30:=Bg ((A8 tL tD tN tE).1) ((A8 tL tD tN tE).2.1) ((A8 tL tD tN tE).2.2.1) ((A8 tL tD tN tE).2.2.2.1) (1:Int) e12 e13 e29;obtain⟨e31,h⟩:=Av h;have sJ:=FJ ((A8 tL tD tN tE).2.2.2.2.1) ((1:Int)+Ab ((A8 tL tD tN tE).2.2.1)+Ab ((A8 tL tD tN tE).2.2.2.1)) e16 e31;obtain⟨M9,hl33,h⟩:=AU h;try dsimp only at h
         have jL:=DX ((A8 tL tD tN tE).1) ((A8 tL tD tN tE).2.1) (Ca (1:Int) ((A8 tL tD tN tE).2.2.1)) (Ca ((1:Int)+Ab ((A8 tL tD tN tE).2.2.1)) ((A8 tL tD tN tE).2.2.2.1)) (1:Int) hl33;by_cases e34:M9<0
         ·rw [if_pos e34]at h;cases h;simp (maxDischargeDepth:=9) only [↓AC,A7,AO,BM,AA,AJ,↓reduceIte,Nat.reduceEqDiff,Nat.reduceLT,Nat.reduceAdd,Nat.reduceBEq,c4,e5,c8,c9,aI,aL,e15,c17,e18,e19f,e20f,fH,e23,nT,e26,c30,sJ,jL,e34]
         ·rw [if_neg e34]at h;obtain⟨e35,h⟩:=Av h;obtain⟨e36,h⟩:=Av h;have Wt:=CO (upto ((1:Int)+Ab ((A8 tL tD tN tE).2.2.1)+Ab ((A8 tL tD tN tE).2.2.2.1)) ((A8 tL tD tN tE).2.2.2.2.1).length) M9 e35 e36;by_cases e38:(F6 M9 (upto ((1:Int)+Ab ((A8 tL tD tN tE).2.2.1)+Ab ((A8 tL tD tN tE).2.2.2.1)) ((A8 tL tD tN tE).2.2.2.2.1).length))<0
          ·rw [if_pos e38]at h;cases h;simp (maxDischargeDepth:=9) only [↓AC,A7,AO,BM,AA,AJ,↓reduceIte,Nat.reduceEqDiff,Nat.reduceLT,Nat.reduceAdd,Nat.reduceBEq,c4,e5,c8,c9,aI,aL,e15,c17,e18,e19f,e20f,fH,e23,nT,e26,c30,sJ,jL,e34,Wt,e38]
          ·rw [if_neg e38]at h;by_cases e39:(F6 M9 (upto ((1:Int)+Ab ((A8 tL tD tN tE).2.2.1)+Ab ((A8 tL tD tN tE).2.2.2.1)) ((A8 tL tD tN tE).2.2.2.2.1).length))=(((1:Int)+Ab ((A8 tL tD tN tE).2.2.1)+Ab ((A8 tL tD tN tE).2.2.2.1))+((A8 tL tD tN tE).2.2.2.2.1).length)
           ·rw [if_pos e39]at h;have c40:=BN tL tD tN tE e6 e7;have c41:=Dh tL tD tN tE e6 e7;have nQ:=Am ((A8 tL tD tN tE).1) ((A8 tL tD tN tE).2.1) ((A8 tL tD tN tE).2.2.1) ((A8 tL tD tN tE).2.2.2.1) q9_.1 q9_.2.1 q9_.2.2.1 q9_.2.2.2.1 e12 e13;have ut:=CQ ((A8 tL tD tN tE).2.2.2.2.1) q9_.2.2.2.2.1 e16;have nS:=CO (upto ((1:Int)+Ab ((A8 tL tD tN tE).2.2.1)+Ab ((A8 tL tD tN tE).2.2.2.1)) ((A8 tL tD tN tE).2.2.2.2.1).length) M9 e35 e36;cases h;simp (maxDischargeDepth:=9) only [↓AC,A7,AO,BM,AA,AJ,↓reduceIte,Nat.reduceEqDiff,Nat.reduceLT,Nat.reduceAdd,Nat.reduceBEq,c4,e5,c8,c9,aI,aL,e15,c17,e18,e19f,e20f,fH,e23,nT,e26,c30,sJ,jL,e34,Wt,e38,decide_eq_true e39]
           ·rw [if_neg e39]at h;cases h;simp (maxDischargeDepth:=9) only [↓AC,A7,AO,BM,AA,AJ,↓reduceIte,Nat.reduceEqDiff,Nat.reduceLT,Nat.reduceAdd,Nat.reduceBEq,c4,e5,c8,c9,aI,aL,e15,c17,e18,e19f,e20f,fH,e23,nT,e26,c30,sJ,jL,e34,Wt,e38,e39]
       ·rw [if_neg e23]at h;have e23f:(EE tL tD tN tE tL tD tN tE)=false:=Bool.eq_false_iff.mpr e23;cases h;simp (maxDischargeDepth:=9) only [↓AC,A7,AO,BM,AA,AJ,↓reduceIte,Nat.reduceEqDiff,Nat.reduceLT,Nat.reduceAdd,Nat.reduceBEq,c4,e5,c8,c9,aI,aL,e15,c17,e18,e19f,e20f,fH,e23f]
    ·rw [if_neg e18]at h;have e18f:(decide (((A8 tL tD tN tE).2.2.2.2.1)=q9_.2.2.2.2.1))=false:=Bool.eq_false_iff.mpr e18;cases h;simp (maxDischargeDepth:=9) only [↓AC,A7,AO,BM,AA,AJ,↓reduceIte,Nat.reduceEqDiff,Nat.reduceLT,Nat.reduceAdd,c4,e5,c8,c9,aI,aL,e15,c17,e18f]
   ·rw [if_neg e15]at h;have e15f:(EE ((A8 tL tD tN tE).1) ((A8 tL tD tN tE).2.1) ((A8 tL tD tN tE).2.2.1) ((A8 tL tD tN tE).2.2.2.1) q9_.1 q9_.2.1 q9_.2.2.1 q9_.2.2.2.1)=false:=Bool.eq_false_iff.mpr e15;cases h;simp (maxDischargeDepth:=9) only [↓AC,A7,AO,BM,AA,AJ,↓reduceIte,Nat.reduceEqDiff,Nat.reduceLT,Nat.reduceAdd,c4,e5,c8,c9,aI,aL,e15f]
  ·dsimp only at h c9;have c16:=BN tL tD tN tE e6 e7;have c17:=Dh tL tD tN tE e6 e7;obtain⟨e18,h⟩:=Av h;obtain⟨e19,h⟩:=Av h;have aK:=Am ((A8 tL tD tN tE).1) ((A8 tL tD tN tE).2.1) ((A8 tL tD tN tE).2.2.1) ((A8 tL tD tN tE).2.2.2.1) q9_.1 q9_.2.1 q9_.2.2.1 q9_.2.2.2.1 e18 e19;by_cases e21:(EE ((A8 tL tD tN tE).1) ((A8 tL tD tN tE).2.1) ((A8 tL tD tN tE).2.2.1) ((A8 tL tD tN tE).2.2.2.1) q9_.1 q9_.2.1 q9_.2.2.1 q9_.2.2.2.1)=true
   ·rw [if_pos e21]at h;obtain⟨e22,h⟩:=Av h;have PR:=CQ ((A8 tL tD tN tE).2.2.2.2.1) q9_.2.2.2.2.1 e22;by_cases e24:(decide (((A8 tL tD tN tE).2.2.2.2.1)=q9_.2.2.2.2.1))=true
    ·rw [if_pos e24]at h;by_cases e25:((A8 tL tD tN tE).2.2.2.2.2)=true
     ·rw [if_pos e25]at h;by_cases e26:q9_.2.2.2.2.2=true
      ·rw [if_pos e26]at h;have c27:=BN tL tD tN tE e6 e7;have dw:=Am tL tD tN tE tL tD tN tE e6 e7;by_cases e29:(EE tL tD tN tE tL tD tN tE)=true
       ·rw [if_pos e29]at h;obtain⟨e30,h⟩:=Av h;have c31:=Bg tL tD tN tE (1:Int) e6 e7 e30;by_cases e32:((1:Int)+Ab tN+Ab tE)<0
        ·rw [if_pos e32]at h;cases h;simp (maxDischargeDepth:=9) only [↓AC,A7,AO,BM,AA,AJ,↓reduceIte,Nat.reduceEqDiff,Nat.reduceLT,Nat.reduceAdd,Nat.reduceBEq,c4,e5,c8,c9,c17,aK,e21,PR,e24,e25,e26,dw,e29,c31,e32]
        ·rw [if_neg e32]at h;have jL:=Am ((A8 tL tD tN tE).1) ((A8 tL tD tN tE).2.1) ((A8 tL tD tN tE).2.2.1) ((A8 tL tD tN tE).2.2.2.1) q9_.1 q9_.2.1 q9_.2.2.1 q9_.2.2.2.1 e18 e19;have eH:=CQ ((A8 tL tD tN tE).2.2.2.2.1) q9_.2.2.2.2.1 e22;obtain⟨e35,h⟩:=Av h;have uq:=Bg ((A8 tL tD tN tE).1) ((A8 tL tD tN tE).2.1) ((A8 tL tD tN tE).2.2.1) ((A8 tL tD tN tE).2.2.2.1) (1:Int) e18 e19 e35;obtain⟨e37,h⟩:=Av h;have sU:=FJ ((A8 tL tD tN tE).2.2.2.2.1) ((1:Int)+Ab ((A8 tL tD tN tE).2.2.1)+Ab ((A8 tL tD tN tE).2.2.2.1)) e22 e37;obtain⟨MB,hl39,h⟩:=AU h;try dsimp only at h
         have nG:=DX ((A8 tL tD tN tE).1) ((A8 tL tD tN tE).2.1) (Ca (1:Int) ((A8 tL tD tN tE).2.2.1)) (Ca ((1:Int)+Ab ((A8 tL tD tN tE).2.2.1)) ((A8 tL tD tN tE).2.2.2.1)) (1:Int) hl39;by_cases e40:MB<0
         ·rw [if_pos e40]at h;cases h;simp (maxDischargeDepth:=9) only [↓AC,A7,AO,BM,AA,AJ,↓reduceIte,Nat.reduceEqDiff,Nat.reduceLT,Nat.reduceAdd,Nat.reduceBEq,c4,e5,c8,c9,c17,aK,e21,PR,e24,e25,e26,dw,e29,c31,e32,uq,sU,nG,e40]
         ·rw [if_neg e40]at h;obtain⟨e41,h⟩:=Av h;obtain⟨e42,h⟩:=Av h;have ut:=CO (upto ((1:Int)+Ab ((A8 tL tD tN tE).2.2.1)+Ab ((A8 tL tD tN tE).2.2.2.1)) ((A8 tL tD tN tE).2.2.2.2.1).length) MB e41 e42;by_cases e44:(F6 MB (upto ((1:Int)+Ab ((A8 tL tD tN tE).2.2.1)+Ab ((A8 tL tD tN tE).2.2.2.1)) ((A8 tL tD tN tE).2.2.2.2.1).length))<0
          ·rw [if_pos e44]at h;cases h;simp (maxDischargeDepth:=9) only [↓AC,A7,AO,BM,AA,AJ,↓reduceIte,Nat.reduceEqDiff,Nat.reduceLT,Nat.reduceAdd,Nat.reduceBEq,c4,e5,c8,c9,c17,aK,e21,PR,e24,e25,e26,dw,e29,c31,e32,uq,sU,nG,e40,ut,e44]
          ·rw [if_neg e44]at h;by_cases e45:(F6 MB (upto ((1:Int)+Ab ((A8 tL tD tN tE).2.2.1)+Ab ((A8 tL tD tN tE).2.2.2.1)) ((A8 tL tD tN tE).2.2.2.2.1).length))=(((1:Int)+Ab ((A8 tL tD tN tE).2.2.1)+Ab ((A8 tL tD tN tE).2.2.2.1))+((A8 tL tD tN tE).2.2.2.2.1).length)
           ·rw [if_pos e45]at h;have c46:=BN tL tD tN tE e6 e7;have c47:=Dh tL tD tN tE e6 e7;have c48:=Am ((A8 tL tD tN tE).1) ((A8 tL tD tN tE).2.1) ((A8 tL tD tN tE).2.2.1) ((A8 tL tD tN tE).2.2.2.1) q9_.1 q9_.2.1 q9_.2.2.1 q9_.2.2.2.1 e18 e19;have c49:=CQ ((A8 tL tD tN tE).2.2.2.2.1) q9_.2.2.2.2.1 e22;have c50:=CO (upto ((1:Int)+Ab ((A8 tL tD tN tE).2.2.1)+Ab ((A8 tL tD tN tE).2.2.2.1)) ((A8 tL tD tN tE).2.2.2.2.1).length) MB e41 e42;cases h;simp (maxDischargeDepth:=9) only [↓AC,A7,AO,BM,AA,AJ,↓reduceIte,Nat.reduceEqDiff,Nat.reduceLT,Nat.reduceAdd,Nat.reduceBEq,c4,e5,c8,c9,c17,aK,e21,PR,e24,e25,e26,dw,e29,c31,e32,uq,sU,nG,e40,ut,e44,decide_eq_true e45]
           ·rw [if_neg e45]at h;cases h;simp (maxDischargeDepth:=9) only [↓AC,A7,AO,BM,AA,AJ,↓reduceIte,Nat.reduceEqDiff,Nat.reduceLT,Nat.reduceAdd,Nat.reduceBEq,c4,e5,c8,c9,c17,aK,e21,PR,e24,e25,e26,dw,e29,c31,e32,uq,sU,nG,e40,ut,e44,e45]
       ·rw [if_neg e29]at h;have e29f:(EE tL tD tN tE tL tD tN tE)=false:=Bool.eq_false_iff.mpr e29;cases h;simp (maxDischargeDepth:=9) only [↓AC,A7,AO,BM,AA,AJ,↓reduceIte,Nat.reduceEqDiff,Nat.reduceLT,Nat.reduceAdd,Nat.reduceBEq,c4,e5,c8,c9,c17,aK,e21,PR,e24,e25,e26,dw,e29f]
      ·rw [if_neg e26]at h;have e26f:q9_.2.2.2.2.2=false:=Bool.eq_false_iff.mpr e26;cases h;simp (maxDischargeDepth:=9) only [↓AC,A7,AO,BM,AA,AJ,↓reduceIte,Nat.reduceEqDiff,Nat.reduceLT,Nat.reduceAdd,c4,e5,c8,c9,c17,aK,e21,PR,e24,e25,e26f]
     ·rw [if_neg e25]at h;have e25f:((A8 tL tD tN tE).2.2.2.2.2)=false:=Bool.eq_false_iff.mpr e25;by_cases e26:q9_.2.2.2.2.2=true
      ·rw [if_pos e26]at h;cases h;simp (maxDischargeDepth:=9) only [↓AC,A7,AO,BM,AA,AJ,↓reduceIte,Nat.reduceEqDiff,Nat.reduceLT,Nat.reduceAdd,c4,e5,c8,c9,c17,aK,e21,PR,e24,e25f,e26]
      ·rw [if_neg e26]at h;have e26f:q9_.2.2.2.2.2=false:=Bool.eq_false_iff.mpr e26;have c27:=BN tL tD tN tE e6 e7;have dw:=Am tL tD tN tE tL tD tN tE e6 e7;by_cases e29:(EE tL tD tN tE tL tD tN tE)=true
       ·rw [if_pos e29]at h;obtain⟨e30,h⟩:=Av h;have c31:=Bg tL tD tN tE (1:Int) e6 e7 e30;by_cases e32:((1:Int)+Ab tN+Ab tE)<0
        ·rw [if_pos e32]at h;cases h;simp (maxDischargeDepth:=9) only [↓AC,A7,AO,BM,AA,AJ,↓reduceIte,Nat.reduceEqDiff,Nat.reduceLT,Nat.reduceAdd,Nat.reduceBEq,c4,e5,c8,c9,c17,aK,e21,PR,e24,e25f,e26f,dw,e29,c31,e32]
        ·rw [if_neg e32]at h;have jL:=Am ((A8 tL tD tN tE).1) ((A8 tL tD tN tE).2.1) ((A8 tL tD tN tE).2.2.1) ((A8 tL tD tN tE).2.2.2.1) q9_.1 q9_.2.1 q9_.2.2.1 q9_.2.2.2.1 e18 e19;have eH:=CQ ((A8 tL tD tN tE).2.2.2.2.1) q9_.2.2.2.2.1 e22;obtain⟨e35,h⟩:=Av h;have uq:=Bg ((A8 tL tD tN tE).1) ((A8 tL tD tN tE).2.1) ((A8 tL tD tN tE).2.2.1) ((A8 tL tD tN tE).2.2.2.1) (1:Int) e18 e19 e35;obtain⟨e37,h⟩:=Av h;have sU:=FJ ((A8 tL tD tN tE).2.2.2.2.1) ((1:Int)+Ab ((A8 tL tD tN tE).2.2.1)+Ab ((A8 tL tD tN tE).2.2.2.1)) e22 e37;obtain⟨MB,hl39,h⟩:=AU h;try dsimp only at h
         have nG:=DX ((A8 tL tD tN tE).1) ((A8 tL tD tN tE).2.1) (Ca (1:Int) ((A8 tL tD tN tE).2.2.1)) (Ca ((1:Int)+Ab ((A8 tL tD tN tE).2.2.1)) ((A8 tL tD tN tE).2.2.2.1)) (1:Int) hl39;by_cases e40:MB<0
         ·rw [if_pos e40]at h;cases h;simp (maxDischargeDepth:=9) only [↓AC,A7,AO,BM,AA,AJ,↓reduceIte,Nat.reduceEqDiff,Nat.reduceLT,Nat.reduceAdd,Nat.reduceBEq,c4,e5,c8,c9,c17,aK,e21,PR,e24,e25f,e26f,dw,e29,c31,e32,uq,sU,nG,e40]
         ·rw [if_neg e40]at h;obtain⟨e41,h⟩:=Av h;obtain⟨e42,h⟩:=Av h;have ut:=CO (upto ((1:Int)+Ab ((A8 tL tD tN tE).2.2.1)+Ab ((A8 tL tD tN tE).2.2.2.1)) ((A8 tL tD tN tE).2.2.2.2.1).length) MB e41 e42;by_cases e44:(F6 MB (upto ((1:Int)+Ab ((A8 tL tD tN tE).2.2.1)+Ab ((A8 tL tD tN tE).2.2.2.1)) ((A8 tL tD tN tE).2.2.2.2.1).length))<0
          ·rw [if_pos e44]at h;cases h;simp (maxDischargeDepth:=9) only [↓AC,A7,AO,BM,AA,AJ,↓reduceIte,Nat.reduceEqDiff,Nat.reduceLT,Nat.reduceAdd,Nat.reduceBEq,c4,e5,c8,c9,c17,aK,e21,PR,e24,e25f,e26f,dw,e29,c31,e32,uq,sU,nG,e40,ut,e44]
          ·rw [if_neg e44]at h;by_cases e45:(F6 MB (upto ((1:Int)+Ab ((A8 tL tD tN tE).2.2.1)+Ab ((A8 tL tD tN tE).2.2.2.1)) ((A8 tL tD tN tE).2.2.2.2.1).length))=(((1:Int)+Ab ((A8 tL tD tN tE).2.2.1)+Ab ((A8 tL tD tN tE).2.2.2.1))+((A8 tL tD tN tE).2.2.2.2.1).length)
           ·rw [if_pos e45]at h;have c46:=BN tL tD tN tE e6 e7;have c47:=Dh tL tD tN tE e6 e7;have c48:=Am ((A8 tL tD tN tE).1) ((A8 tL tD tN tE).2.1) ((A8 tL tD tN tE).2.2.1) ((A8 tL tD tN tE).2.2.2.1) q9_.1 q9_.2.1 q9_.2.2.1 q9_.2.2.2.1 e18 e19;have c49:=CQ ((A8 tL tD tN tE).2.2.2.2.1) q9_.2.2.2.2.1 e22;have c50:=CO (upto ((1:Int)+Ab ((A8 tL tD tN tE).2.2.1)+Ab ((A8 tL tD tN tE).2.2.2.1)) ((A8 tL tD tN tE).2.2.2.2.1).length) MB e41 e42;cases h;simp (maxDischargeDepth:=9) only [↓AC,A7,AO,BM,AA,AJ,↓reduceIte,Nat.reduceEqDiff,Nat.reduceLT,Nat.reduceAdd,Nat.reduceBEq,c4,e5,c8,c9,c17,aK,e21,PR,e24,e25f,e26f,dw,e29,c31,e32,uq,sU,nG,e40,ut,e44,decide_eq_true e45]
           ·rw [if_neg e45]at h;cases h;simp (maxDischargeDepth:=9) only [↓AC,A7,AO,BM,AA,AJ,↓reduceIte,Nat.reduceEqDiff,Nat.reduceLT,Nat.reduceAdd,Nat.reduceBEq,c4,e5,c8,c9,c17,aK,e21,PR,e24,e25f,e26f,dw,e29,c31,e32,uq,sU,nG,e40,ut,e44,e45]
       ·rw [if_neg e29]at h;have e29f:(EE tL tD tN tE tL tD tN tE)=false:=Bool.eq_false_iff.mpr e29;cases h;simp (maxDischargeDepth:=9) only [↓AC,A7,AO,BM,AA,AJ,↓reduceIte,Nat.reduceEqDiff,Nat.reduceLT,Nat.reduceAdd,Nat.reduceBEq,c4,e5,c8,c9,c17,aK,e21,PR,e24,e25f,e26f,dw,e29f]
    ·rw [if_neg e24]at h;have e24f:(decide (((A8 tL tD tN tE).2.2.2.2.1)=q9_.2.2.2.2.1))=false:=Bool.eq_false_iff.mpr e24;cases h;simp (maxDischargeDepth:=9) only [↓AC,A7,AO,BM,AA,AJ,↓reduceIte,Nat.reduceEqDiff,Nat.reduceLT,Nat.reduceAdd,c4,e5,c8,c9,c17,aK,e21,PR,e24f]
   ·rw [if_neg e21]at h;have e21f:(EE ((A8 tL tD tN tE).1) ((A8 tL tD tN tE).2.1) ((A8 tL tD tN tE).2.2.1) ((A8 tL tD tN tE).2.2.2.1) q9_.1 q9_.2.1 q9_.2.2.1 q9_.2.2.2.1)=false:=Bool.eq_false_iff.mpr e21;cases h;simp (maxDischargeDepth:=9) only [↓AC,A7,AO,BM,AA,AJ,↓reduceIte,Nat.reduceEqDiff,Nat.reduceLT,Nat.reduceAdd,c4,e5,c8,c9,c17,aK,e21f]
  ·dsimp only at h c9;have fH:=BN tL tD tN tE e6 e7;have PR:=Dh tL tD tN tE e6 e7;obtain⟨e24,h⟩:=Av h;obtain⟨e25,h⟩:=Av h;have aJ:=Am ((A8 tL tD tN tE).1) ((A8 tL tD tN tE).2.1) ((A8 tL tD tN tE).2.2.1) ((A8 tL tD tN tE).2.2.2.1) q9_.1 q9_.2.1 q9_.2.2.1 q9_.2.2.2.1 e24 e25;by_cases e27:(EE ((A8 tL tD tN tE).1) ((A8 tL tD tN tE).2.1) ((A8 tL tD tN tE).2.2.1) ((A8 tL tD tN tE).2.2.2.1) q9_.1 q9_.2.1 q9_.2.2.1 q9_.2.2.2.1)=true
   ·rw [if_pos e27]at h;obtain⟨e28,h⟩:=Av h;have c29:=CQ ((A8 tL tD tN tE).2.2.2.2.1) q9_.2.2.2.2.1 e28;by_cases e30:(decide (((A8 tL tD tN tE).2.2.2.2.1)=q9_.2.2.2.2.1))=true
    ·rw [if_pos e30]at h;by_cases e31:((A8 tL tD tN tE).2.2.2.2.2)=true
     ·rw [if_pos e31]at h;by_cases e32:q9_.2.2.2.2.2=true
      ·rw [if_pos e32]at h;have jL:=BN tL tD tN tE e6 e7;have eH:=Am tL tD tN tE tL tD tN tE e6 e7;by_cases e35:(EE tL tD tN tE tL tD tN tE)=true
       ·rw [if_pos e35]at h;obtain⟨e36,h⟩:=Av h;have Wt:=Bg tL tD tN tE (1:Int) e6 e7 e36;by_cases e38:((1:Int)+Ab tN+Ab tE)<0
        ·rw [if_pos e38]at h;cases h;simp (maxDischargeDepth:=9) only [↓AC,A7,AO,BM,AA,AJ,↓reduceIte,Nat.reduceEqDiff,Nat.reduceLT,Nat.reduceAdd,Nat.reduceBEq,c4,e5,c8,c9,PR,aJ,e27,c29,e30,e31,e32,eH,e35,Wt,e38]
        ·rw [if_neg e38]at h;have nG:=Am ((A8 tL tD tN tE).1) ((A8 tL tD tN tE).2.1) ((A8 tL tD tN tE).2.2.1) ((A8 tL tD tN tE).2.2.2.1) q9_.1 q9_.2.1 q9_.2.2.1 q9_.2.2.2.1 e24 e25;have c40:=CQ ((A8 tL tD tN tE).2.2.2.2.1) q9_.2.2.2.2.1 e28;obtain⟨e41,h⟩:=Av h;have nQ:=Bg ((A8 tL tD tN tE).1) ((A8 tL tD tN tE).2.1) ((A8 tL tD tN tE).2.2.1) ((A8 tL tD tN tE).2.2.2.1) (1:Int) e24 e25 e41;obtain⟨e43,h⟩:=Av h;have nS:=FJ ((A8 tL tD tN tE).2.2.2.2.1) ((1:Int)+Ab ((A8 tL tD tN tE).2.2.1)+Ab ((A8 tL tD tN tE).2.2.2.1)) e28 e43;obtain⟨MC,hl45,h⟩:=AU h;try dsimp only at h
         have uT:=DX ((A8 tL tD tN tE).1) ((A8 tL tD tN tE).2.1) (Ca (1:Int) ((A8 tL tD tN tE).2.2.1)) (Ca ((1:Int)+Ab ((A8 tL tD tN tE).2.2.1)) ((A8 tL tD tN tE).2.2.2.1)) (1:Int) hl45;by_cases e46:MC<0
         ·rw [if_pos e46]at h;cases h;simp (maxDischargeDepth:=9) only [↓AC,A7,AO,BM,AA,AJ,↓reduceIte,Nat.reduceEqDiff,Nat.reduceLT,Nat.reduceAdd,Nat.reduceBEq,c4,e5,c8,c9,PR,aJ,e27,c29,e30,e31,e32,eH,e35,Wt,e38,nQ,nS,uT,e46]
         ·rw [if_neg e46]at h;obtain⟨e47,h⟩:=Av h;obtain⟨e48,h⟩:=Av h;have c49:=CO (upto ((1:Int)+Ab ((A8 tL tD tN tE).2.2.1)+Ab ((A8 tL tD tN tE).2.2.2.1)) ((A8 tL tD tN tE).2.2.2.2.1).length) MC e47 e48;by_cases e50:(F6 MC (upto ((1:Int)+Ab ((A8 tL tD tN tE).2.2.1)+Ab ((A8 tL tD tN tE).2.2.2.1)) ((A8 tL tD tN tE).2.2.2.2.1).length))<0
          ·rw [if_pos e50]at h;cases h;simp (maxDischargeDepth:=9) only [↓AC,A7,AO,BM,AA,AJ,↓reduceIte,Nat.reduceEqDiff,Nat.reduceLT,Nat.reduceAdd,Nat.reduceBEq,c4,e5,c8,c9,PR,aJ,e27,c29,e30,e31,e32,eH,e35,Wt,e38,nQ,nS,uT,e46,c49,e50]
          ·rw [if_neg e50]at h;by_cases e51:(F6 MC (upto ((1:Int)+Ab ((A8 tL tD tN tE).2.2.1)+Ab ((A8 tL tD tN tE).2.2.2.1)) ((A8 tL tD tN tE).2.2.2.2.1).length))=(((1:Int)+Ab ((A8 tL tD tN tE).2.2.1)+Ab ((A8 tL tD tN tE).2.2.2.1))+((A8 tL tD tN tE).2.2.2.2.1).length)
           ·rw [if_pos e51]at h;have c52:=BN tL tD tN tE e6 e7;have c53:=Dh tL tD tN tE e6 e7;have c54:=Am ((A8 tL tD tN tE).1) ((A8 tL tD tN tE).2.1) ((A8 tL tD tN tE).2.2.1) ((A8 tL tD tN tE).2.2.2.1) q9_.1 q9_.2.1 q9_.2.2.1 q9_.2.2.2.1 e24 e25;have c55:=CQ ((A8 tL tD tN tE).2.2.2.2.1) q9_.2.2.2.2.1 e28;have c56:=CO (upto ((1:Int)+Ab ((A8 tL tD tN tE).2.2.1)+Ab ((A8 tL tD tN tE).2.2.2.1)) ((A8 tL tD tN tE).2.2.2.2.1).length) MC e47 e48;cases h;simp (maxDischargeDepth:=9) only [↓AC,A7,AO,BM,AA,AJ,↓reduceIte,Nat.reduceEqDiff,Nat.reduceLT,Nat.reduceAdd,Nat.reduceBEq,c4,e5,c8,c9,PR,aJ,e27,c29,e30,e31,e32,eH,e35,Wt,e38,nQ,nS,uT,e46,c49,e50,decide_eq_true e51]
           ·rw [if_neg e51]at h;cases h;simp (maxDischargeDepth:=9) only [↓AC,A7,AO,BM,AA,AJ,↓reduceIte,Nat.reduceEqDiff,Nat.reduceLT,Nat.reduceAdd,Nat.reduceBEq,c4,e5,c8,c9,PR,aJ,e27,c29,e30,e31,e32,eH,e35,Wt,e38,nQ,nS,uT,e46,c49,e50,e51]
       ·rw [if_neg e35]at h;have e35f:(EE tL tD tN tE tL tD tN tE)=false:=Bool.eq_false_iff.mpr e35;cases h;simp (maxDischargeDepth:=9) only [↓AC,A7,AO,BM,AA,AJ,↓reduceIte,Nat.reduceEqDiff,Nat.reduceLT,Nat.reduceAdd,Nat.reduceBEq,c4,e5,c8,c9,PR,aJ,e27,c29,e30,e31,e32,eH,e35f]
      ·rw [if_neg e32]at h;have e32f:q9_.2.2.2.2.2=false:=Bool.eq_false_iff.mpr e32;cases h;simp (maxDischargeDepth:=9) only [↓AC,A7,AO,BM,AA,AJ,↓reduceIte,Nat.reduceEqDiff,Nat.reduceLT,Nat.reduceAdd,c4,e5,c8,c9,PR,aJ,e27,c29,e30,e31,e32f]
     ·rw [if_neg e31]at h;have e31f:((A8 tL tD tN tE).2.2.2.2.2)=false:=Bool.eq_false_iff.mpr e31;by_cases e32:q9_.2.2.2.2.2=true
      ·rw [if_pos e32]at h;cases h;simp (maxDischargeDepth:=9) only [↓AC,A7,AO,BM,AA,AJ,↓reduceIte,Nat.reduceEqDiff,Nat.reduceLT,Nat.reduceAdd,c4,e5,c8,c9,PR,aJ,e27,c29,e30,e31f,e32]
      ·rw [if_neg e32]at h;have e32f:q9_.2.2.2.2.2=false:=Bool.eq_false_iff.mpr e32;have jL:=BN tL tD tN tE e6 e7;have eH:=Am tL tD tN tE tL tD tN tE e6 e7;by_cases e35:(EE tL tD tN tE tL tD tN tE)=true
       ·rw [if_pos e35]at h;obtain⟨e36,h⟩:=Av h;have Wt:=Bg tL tD tN tE (1:Int) e6 e7 e36;by_cases e38:((1:Int)+Ab tN+Ab tE)<0
        ·rw [if_pos e38]at h;cases h;simp (maxDischargeDepth:=9) only [↓AC,A7,AO,BM,AA,AJ,↓reduceIte,Nat.reduceEqDiff,Nat.reduceLT,Nat.reduceAdd,Nat.reduceBEq,c4,e5,c8,c9,PR,aJ,e27,c29,e30,e31f,e32f,eH,e35,Wt,e38]
        ·rw [if_neg e38]at h;have nG:=Am ((A8 tL tD tN tE).1) ((A8 tL tD tN tE).2.1) ((A8 tL tD tN tE).2.2.1) ((A8 tL tD tN tE).2.2.2.1) q9_.1 q9_.2.1 q9_.2.2.1 q9_.2.2.2.1 e24 e25;have c40:=CQ ((A8 tL tD tN tE).2.2.2.2.1) q9_.2.2.2.2.1 e28;obtain⟨e41,h⟩:=Av h;have nQ:=Bg ((A8 tL tD tN tE).1) ((A8 tL tD tN tE).2.1) ((A8 tL tD tN tE).2.2.1) ((A8 tL tD tN tE).2.2.2.1) (1:Int) e24 e25 e41;obtain⟨e43,h⟩:=Av h;have nS:=FJ ((A8 tL tD tN tE).2.2.2.2.1) ((1:Int)+Ab ((A8 tL tD tN tE).2.2.1)+Ab ((A8 tL tD tN tE).2.2.2.1)) e28 e43;obtain⟨MC,hl45,h⟩:=AU h;try dsimp only at h
         have uT:=DX ((A8 tL tD tN tE).1) ((A8 tL tD tN tE).2.1) (Ca (1:Int) ((A8 tL tD tN tE).2.2.1)) (Ca ((1:Int)+Ab ((A8 tL tD tN tE).2.2.1)) ((A8 tL tD tN tE).2.2.2.1)) (1:Int) hl45;by_cases e46:MC<0
         ·rw [if_pos e46]at h;cases h;simp (maxDischargeDepth:=9) only [↓AC,A7,AO,BM,AA,AJ,↓reduceIte,Nat.reduceEqDiff,Nat.reduceLT,Nat.reduceAdd,Nat.reduceBEq,c4,e5,c8,c9,PR,aJ,e27,c29,e30,e31f,e32f,eH,e35,Wt,e38,nQ,nS,uT,e46]
         ·rw [if_neg e46]at h;obtain⟨e47,h⟩:=Av h;obtain⟨e48,h⟩:=Av h;have c49:=CO (upto ((1:Int)+Ab ((A8 tL tD tN tE).2.2.1)+Ab ((A8 tL tD tN tE).2.2.2.1)) ((A8 tL tD tN tE).2.2.2.2.1).length) MC e47 e48;by_cases e50:(F6 MC (upto ((1:Int)+Ab ((A8 tL tD tN tE).2.2.1)+Ab ((A8 tL tD tN tE).2.2.2.1)) ((A8 tL tD tN tE).2.2.2.2.1).length))<0
          ·rw [if_pos e50]at h;cases h;simp (maxDischargeDepth:=9) only [↓AC,A7,AO,BM,AA,AJ,↓reduceIte,Nat.reduceEqDiff,Nat.reduceLT,Nat.reduceAdd,Nat.reduceBEq,c4,e5,c8,c9,PR,aJ,e27,c29,e30,e31f,e32f,eH,e35,Wt,e38,nQ,nS,uT,e46,c49,e50]
          ·rw [if_neg e50]at h;by_cases e51:(F6 MC (upto ((1:Int)+Ab ((A8 tL tD tN tE).2.2.1)+Ab ((A8 tL tD tN tE).2.2.2.1)) ((A8 tL tD tN tE).2.2.2.2.1).length))=(((1:Int)+Ab ((A8 tL tD tN tE).2.2.1)+Ab ((A8 tL tD tN tE).2.2.2.1))+((A8 tL tD tN tE).2.2.2.2.1).length)
           ·rw [if_pos e51]at h;have c52:=BN tL tD tN tE e6 e7;have c53:=Dh tL tD tN tE e6 e7;have c54:=Am ((A8 tL tD tN tE).1) ((A8 tL tD tN tE).2.1) ((A8 tL tD tN tE).2.2.1) ((A8 tL tD tN tE).2.2.2.1) q9_.1 q9_.2.1 q9_.2.2.1 q9_.2.2.2.1 e24 e25;have c55:=CQ ((A8 tL tD tN tE).2.2.2.2.1) q9_.2.2.2.2.1 e28;have c56:=CO (upto ((1:Int)+Ab ((A8 tL tD tN tE).2.2.1)+Ab ((A8 tL tD tN tE).2.2.2.1)) ((A8 tL tD tN tE).2.2.2.2.1).length) MC e47 e48;cases h;simp (maxDischargeDepth:=9) only [↓AC,A7,AO,BM,AA,AJ,↓reduceIte,Nat.reduceEqDiff,Nat.reduceLT,Nat.reduceAdd,Nat.reduceBEq,c4,e5,c8,c9,PR,aJ,e27,c29,e30,e31f,e32f,eH,e35,Wt,e38,nQ,nS,uT,e46,c49,e50,decide_eq_true e51]
           ·rw [if_neg e51]at h;cases h;simp (maxDischargeDepth:=9) only [↓AC,A7,AO,BM,AA,AJ,↓reduceIte,Nat.reduceEqDiff,Nat.reduceLT,Nat.reduceAdd,Nat.reduceBEq,c4,e5,c8,c9,PR,aJ,e27,c29,e30,e31f,e32f,eH,e35,Wt,e38,nQ,nS,uT,e46,c49,e50,e51]
       ·rw [if_neg e35]at h;have e35f:(EE tL tD tN tE tL tD tN tE)=false:=Bool.eq_false_iff.mpr e35;cases h;simp (maxDischargeDepth:=9) only [↓AC,A7,AO,BM,AA,AJ,↓reduceIte,Nat.reduceEqDiff,Nat.reduceLT,Nat.reduceAdd,Nat.reduceBEq,c4,e5,c8,c9,PR,aJ,e27,c29,e30,e31f,e32f,eH,e35f]
    ·rw [if_neg e30]at h;have e30f:(decide (((A8 tL tD tN tE).2.2.2.2.1)=q9_.2.2.2.2.1))=false:=Bool.eq_false_iff.mpr e30;cases h;simp (maxDischargeDepth:=9) only [↓AC,A7,AO,BM,AA,AJ,↓reduceIte,Nat.reduceEqDiff,Nat.reduceLT,Nat.reduceAdd,c4,e5,c8,c9,PR,aJ,e27,c29,e30f]
   ·rw [if_neg e27]at h;have e27f:(EE ((A8 tL tD tN tE).1) ((A8 tL tD tN tE).2.1) ((A8 tL tD tN tE).2.2.1) ((A8 tL tD tN tE).2.2.2.1) q9_.1 q9_.2.1 q9_.2.2.1 q9_.2.2.2.1)=false:=Bool.eq_false_iff.mpr e27;cases h;simp (maxDischargeDepth:=9) only [↓AC,A7,AO,BM,AA,AJ,↓reduceIte,Nat.reduceEqDiff,Nat.reduceLT,Nat.reduceAdd,c4,e5,c8,c9,PR,aJ,e27f]
end Go.Proofs.YtjhjkfoabhplfaaGreat
