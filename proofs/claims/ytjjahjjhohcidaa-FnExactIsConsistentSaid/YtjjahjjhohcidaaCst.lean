/- Whether classes are consistent: program and reference agree. Conditions: the lists are a network. -/
import Derived.Test.YtjjahjjhohcidaaL6
import Derived.Test.YtjjahjjhohcidaaCstA
import Derived.Test.YtjjahjjhohcidaaFst
import Derived.Test.YtjjahjjhohcidaaPrt
import Derived.Test.YtjjahjjhohcidaaMpl
import Derived.Test.YtjjahjjhohcidaaCps
namespace Go.Proofs.Ytjjahjjhohcidaa
open Go Dv
set_option linter.unusedSimpArgs false
set_option linter.unusedVariables false
set_option maxRecDepth 100000
theorem Qz{E:List (List (Int×Int))}{ids ins:List Int}(h:De E ids ins=true):ins.length=E.length:=by
 unfold De at h
 simp only [Bool.and_eq_true,decide_eq_true_eq]at h
 omega
def GB(E:List (List (Int×Int)))(ins cls:List Int)(v:Nat):Int×List (Int×Int):=(ins.getD v default,(E.getD v default).map fun e=>(e.2,cls.getD e.1.toNat default))
def H9(E:List (List (Int×Int)))(cls:List Int)(u v i:Nat):Bool:=decide (Az (E.getD u default) i=Az (E.getD v default) i)&&decide (cls.getD (Ad (E.getD u default) i).toNat default=cls.getD (Ad (E.getD v default) i).toNat default)
theorem FQ(E:List (List (Int×Int)))(ins cls:List Int)(u v:Nat):GB E ins cls u=GB E ins cls v↔(E.getD u default).length=(E.getD v default).length∧ins.getD u default=ins.getD v default∧(List.range (E.getD u default).length).all (H9 E cls u v)=true:=by
 unfold GB
 rw [Prod.mk.injEq]
 constructor
 ·rintro⟨h1,h2⟩
  have hl:=congrArg List.length h2
  rw [List.length_map,List.length_map]at hl
  refine⟨hl,h1,BR.2 fun i hi=> ?_⟩
  have:=congrArg (fun l=>l[i]?) h2
  simp only [List.getElem?_map,List.getElem?_eq_getElem hi,List.getElem?_eq_getElem (hl▸hi),Option.map_some,Option.some.injEq,Prod.mk.injEq]at this
  have hi':i<(E.getD v default).length:=by omega
  have q1:=B0 (E.getD u default) i hi
  have q2:=B0 (E.getD v default) i hi'
  have r1:Az (E.getD u default) i=Az (E.getD v default) i:=by unfold Az;rw [q1,q2];exact this.1
  have r2:cls.getD (Ad (E.getD u default) i).toNat default=cls.getD (Ad (E.getD v default) i).toNat default:=by unfold Ad;rw [q1,q2];exact this.2
  unfold H9
  rw [decide_eq_true r1,decide_eq_true r2];rfl
 ·rintro⟨hl,h1,h2⟩
  refine⟨h1,List.ext_getElem (by rw [List.length_map,List.length_map];exact hl) fun i h3 h4=> ?_⟩
  rw [List.length_map]at h3 h4
  have:=BR.1 h2 i h3
  unfold H9 at this
  rw [Bool.and_eq_true,decide_eq_true_eq,decide_eq_true_eq]at this
  have q1:=B0 (E.getD u default) i h3
  have q2:=B0 (E.getD v default) i h4
  have r1:(E.getD u default)[i].2=(E.getD v default)[i].2:=by have:=this.1;unfold Az at this;rw [q1,q2]at this;exact this
  have r2:cls.getD (E.getD u default)[i].1.toNat default=cls.getD (E.getD v default)[i].1.toNat default:=by have:=this.2;unfold Ad at this;rw [q1,q2]at this;exact this
  rw [List.getElem_map,List.getElem_map,r1,r2]
def Kn(E:List (List (Int×Int)))(ins cls:List Int):Bool:=(List.range cls.length).all fun u=> !decide (cls.getD u default<0)&&(List.range u).all fun v=> !decide (cls.getD u default=cls.getD v default)||decide (GB E ins cls u=GB E ins cls v)
theorem JT{E:List (List (Int×Int))}{ids ins:List Int}(h:De E ids ins=true){v i:Nat}(hv:v<E.length)(hi:i<(E.getD v default).length):0≤Ad (E.getD v default) i∧(Ad (E.getD v default) i).toNat<E.length:=by
 obtain⟨w,p,e1,_,hw,_⟩:=(Gp h).2.2.2 v i hv hi
 rw [e1];omega
theorem Qa{E:List (List (Int×Int))}{ids ins:List Int}(cls:List Int)(h:De E ids ins=true)(hc:cls.length=E.length)(u v:Nat)(hu:u<E.length)(hv:v<E.length):Fm E ids ins cls (u:Int) (v:Int)=some (decide (GB E ins cls u=GB E ins cls v)):=by
 have hi:=Qz h
 obtain⟨hn,_,h6,_⟩:=Gp h
 unfold Fm
 simp only [Int.toNat_natCast]
 rw [C3 (by omega),C3 (by omega)]
 by_cases e1:((E.getD u default).length:Int)=((E.getD v default).length:Int)
 ·rw [if_pos e1,C3 (by omega),C3 (by omega)]
  by_cases e2:ins.getD u default=ins.getD v default
  ·rw [if_pos e2]
   unfold Eg
   have key:=CT (fun x=>Cg E ids ins cls (u:Int) (v:Int) x) (fun i=>(i:Int)) (E.getD u default).length (H9 E cls u v) (.inl ()) (.inr ()) ?_ ?_
   ·rw [Int.natCast_zero]at key
    rw [key,Option.bind_some]
    by_cases e3:(List.range (E.getD u default).length).all (H9 E cls u v)=true
    ·rw [if_pos e3,decide_eq_true ((FQ E ins cls u v).2 ⟨by omega,e2,e3⟩)]
    ·rw [if_neg e3,decide_eq_false (fun c=>e3 ((FQ E ins cls u v).1 c).2.2)]
   ·intro i hi'
    have g1:=JT h hu hi'
    have g2:=JT h (i:=i) hv (by omega)
    have:=h6 u hu
    simp only [Cg,Int.toNat_natCast]
    rw [if_pos (CE hi'),C3 (by omega),C3 (by omega),C3 (by omega)]
    unfold H9
    by_cases e3:Az (E.getD u default) i=Az (E.getD v default) i
    ·rw [if_pos e3,C3 (by omega),C3 (by omega),decide_eq_true e3]
     by_cases e4:cls.getD (Ad (E.getD u default) i).toNat default=cls.getD (Ad (E.getD v default) i).toNat default
     ·rw [if_pos e4,decide_eq_true e4,KQ i (by omega)];rfl
     ·rw [if_neg e4,decide_eq_false e4];rfl
    ·rw [if_neg e3,decide_eq_false e3];rfl
   ·simp only [Cg,Int.toNat_natCast]
    rw [if_neg (Am _)]
  ·rw [if_neg e2,decide_eq_false (fun c=>e2 ((FQ E ins cls u v).1 c).2.1)]
 ·rw [if_neg e1,decide_eq_false (fun c=>e1 (by have:=((FQ E ins cls u v).1 c).1;omega))]
theorem S5{E:List (List (Int×Int))}{ids ins:List Int}(cls:List Int)(h:De E ids ins=true):DS E ids ins cls=some (decide (cls.length=E.length)&&Kn E ins cls):=by
 obtain⟨hn,_,h6,_⟩:=Gp h
 unfold DS
 by_cases hc:cls.length=E.length
 ·rw [if_pos (by omega),decide_eq_true hc,Bool.true_and]
  unfold DE
  have key:=CT (fun x=>BV E ids ins cls x) (fun i=>(i:Int)) cls.length (fun u=> !decide (cls.getD u default<0)&&(List.range u).all fun v=> !decide (cls.getD u default=cls.getD v default)||decide (GB E ins cls u=GB E ins cls v)) (.inl ()) (.inr ()) ?_ ?_
  ·rw [Int.natCast_zero]at key
   rw [key,Option.bind_some]
   unfold Kn
   cases (List.range cls.length).all fun u=> !decide (cls.getD u default<0)&&(List.range u).all fun v=> !decide (cls.getD u default=cls.getD v default)||decide (GB E ins cls u=GB E ins cls v)<;>rfl
  ·intro u hu
   simp only [BV,Int.toNat_natCast]
   rw [if_pos (CE hu),C3 (by omega)]
   by_cases e1:cls.getD u default<0
   ·rw [if_pos e1,decide_eq_true e1];rfl
   ·rw [if_neg e1,decide_eq_false e1,C3 (by omega),C3 (by omega)]
    have inner:=CT (fun x=>BU E ids ins cls (u:Int) x) (fun i=>(i:Int)) u (fun v=> !decide (cls.getD u default=cls.getD v default)||decide (GB E ins cls u=GB E ins cls v)) (.inl ()) (.inr ()) ?_ ?_
    ·rw [Int.natCast_zero]at inner
     have e2:DD E ids ins cls (u:Int) 0=_:=inner
     rw [e2,Option.bind_some,KQ u (by omega)]
     simp only [Bool.not_false,Bool.true_and]
     cases (List.range u).all fun v=> !decide (cls.getD u default=cls.getD v default)||decide (GB E ins cls u=GB E ins cls v)<;>rfl
    ·intro v hv
     simp only [BU,Int.toNat_natCast,List.drop_zero,List.length_take]
     rw [if_pos (by omega),C3 (by omega),C3 (by omega)]
     by_cases e2:cls.getD u default=cls.getD v default
     ·rw [if_pos e2,Qa cls h hc u v (by omega) (by omega),Option.bind_some,decide_eq_true e2,KQ v (by omega)]
      by_cases e3:GB E ins cls u=GB E ins cls v
      ·rw [if_pos (decide_eq_true e3),decide_eq_true e3];rfl
      ·rw [if_neg (by simpa using e3),decide_eq_false e3];rfl
     ·rw [if_neg e2,decide_eq_false e2,KQ v (by omega)];rfl
    ·simp only [BU,Int.toNat_natCast,List.drop_zero,List.length_take]
     rw [if_neg (by omega)]
  ·simp only [BV]
   rw [if_neg (Am _)]
 ·rw [if_neg (by omega),decide_eq_false hc];rfl
def IB(cls:List Int):Nat→List (Int×Int)
 | 0=>[]
 | v+1=>if(Bf (IB cls v) (cls.getD v default)).2=true then IB cls v else KE (IB cls v) (cls.getD v default) (v:Int)
theorem Oy(cls:List Int)(c:Int): ∀v,Bf (IB cls v) c=match Bx v (fun u=>decide (cls.getD u default=c))with | some u=>((u:Int),true) | none=>(0,false)
 | 0=>rfl
 | v+1=>by
  rw [NH]
  have ih:=Oy cls c v
  show Bf (if(Bf (IB cls v) (cls.getD v default)).2=true then IB cls v else KE (IB cls v) (cls.getD v default) (v:Int)) c=_
  by_cases hk:(Bf (IB cls v) (cls.getD v default)).2=true
  ·rw [if_pos hk,ih]
   cases hf:Bx v (fun u=>decide (cls.getD u default=c))with
   | some u=>rfl
   | none=>
    have: ¬cls.getD v default=c:=fun e=>by
     rw [e,ih,hf]at hk;simp at hk
    rw [decide_eq_false this];simp
  ·rw [if_neg hk,S4]
   by_cases e:c=cls.getD v default
   ·rw [if_pos e]
    have hn:Bx v (fun u=>decide (cls.getD u default=c))=none:=by
     cases hf:Bx v (fun u=>decide (cls.getD u default=c))with
     | none=>rfl
     | some u=>rw [←e,ih,hf]at hk;simp at hk
    rw [hn,decide_eq_true e.symm];simp
   ·rw [if_neg e,ih,decide_eq_false (fun x=>e x.symm)]
    cases Bx v (fun u=>decide (cls.getD u default=c))<;>simp
def Ko(E:List (List (Int×Int)))(ins cls:List Int)(v:Nat):Bool:=match Bx v (fun u=>decide (cls.getD u default=cls.getD v default))with | some u=>decide (GB E ins cls v=GB E ins cls u) | none=>true
theorem S6(E:List (List (Int×Int)))(ins cls:List Int)(h0:cls.any (fun c=>decide (c<0))=false):(List.range cls.length).all (Ko E ins cls)=Kn E ins cls:=by
 have hneg: ∀u,u<cls.length→decide (cls.getD u default<0)=false:=fun u hu=>by
  rw [List.any_eq_false]at h0
  have:=h0 _ (List.getElem_mem hu)
  rw [B0 _ _ hu];simpa using this
 rw [Bool.eq_iff_iff]
 unfold Kn
 rw [BR,BR]
 constructor
 ·intro h u hu
  rw [hneg u hu,Bool.not_false,Bool.true_and,BR]
  intro v hv
  by_cases e:cls.getD u default=cls.getD v default
  ·have hu':=h u hu
   have hv':=h v (by omega)
   unfold Ko at hu' hv'
   cases hf:Bx u (fun w=>decide (cls.getD w default=cls.getD u default))with
   | none=>
    unfold Bx at hf
    rw [List.find?_eq_none]at hf
    exact absurd (decide_eq_true e.symm) (hf v (List.mem_range.2 hv))
   | some w=>
    rw [hf]at hu'
    have hu':=of_decide_eq_true hu'
    obtain⟨hw,hwe⟩:=HP hf
    have hwe:=of_decide_eq_true hwe
    have hmin: ∀i,i<w→decide (cls.getD i default=cls.getD u default)=false:=by
     intro i hi
     unfold Bx at hf
     rw [List.find?_range_eq_some]at hf
     have:=hf.2.2 i hi
     simpa using this
    rw [decide_eq_true e,Bool.not_true,Bool.false_or,decide_eq_true_eq,hu']
    by_cases ew:w=v
    ·rw [ew]
    ·have hwv:w<v:=by
      refine Nat.lt_of_le_of_ne (Nat.le_of_not_lt fun c=> ?_) ew
      have:=hmin v c
      rw [e]at this;simp at this
     have:Bx v (fun x=>decide (cls.getD x default=cls.getD v default))=some w:=by
      refine QZ hwv (decide_eq_true (hwe.trans e)) fun i hi=> ?_
      rw [←e];exact hmin i hi
     rw [this]at hv'
     exact(of_decide_eq_true hv').symm
  ·rw [decide_eq_false e];rfl
 ·intro h u hu
  have hu':=h u hu
  rw [hneg u hu,Bool.not_false,Bool.true_and,BR]at hu'
  unfold Ko
  cases hf:Bx u (fun w=>decide (cls.getD w default=cls.getD u default))with
  | none=>rfl
  | some w=>
   obtain⟨hw,hwe⟩:=HP hf
   have hwe:=of_decide_eq_true hwe
   have:=hu' w hw
   rw [decide_eq_true hwe.symm,Bool.not_true,Bool.false_or]at this
   exact this
theorem NI{E:List (List (Int×Int))}{ids ins:List Int}(cls:List Int)(h:De E ids ins=true)(hc:cls.length=E.length)(m:List (Int×Int))(u v:Nat)(b:Bool)(hm:Bf m (cls.getD v default)=((u:Int),b))(hu:u<E.length)(hv:v<E.length)(hl:(E.getD u default).length=(E.getD v default).length):
  CM E ids ins cls m (v:Int) 0=some (if(List.range (E.getD v default).length).all (H9 E cls v u)=true then .inr ()else .inl ()):=by
 obtain⟨hn,_,h6,_⟩:=Gp h
 unfold CM
 refine CT (fun x=>BS E ids ins cls m (v:Int) x) (fun i=>(i:Int)) (E.getD v default).length (H9 E cls v u) (.inl ()) (.inr ()) ?_ ?_
 ·intro i hi'
  have g1:=JT h hv hi'
  have g2:=JT h (i:=i) hu (by omega)
  have:=h6 v hv
  simp only [BS,Int.toNat_natCast,hm]
  rw [if_pos (CE hi'),C3 (by omega),C3 (by omega),C3 (by omega)]
  unfold H9
  by_cases e3:Az (E.getD v default) i=Az (E.getD u default) i
  ·rw [if_pos e3,C3 (by omega),C3 (by omega),decide_eq_true e3]
   by_cases e4:cls.getD (Ad (E.getD v default) i).toNat default=cls.getD (Ad (E.getD u default) i).toNat default
   ·rw [if_pos e4,decide_eq_true e4,KQ i (by omega)];rfl
   ·rw [if_neg e4,decide_eq_false e4];rfl
  ·rw [if_neg e3,decide_eq_false e3];rfl
 ·simp only [BS,Int.toNat_natCast]
  rw [if_neg (Am _)]
theorem S7{E:List (List (Int×Int))}{ids ins:List Int}(cls:List Int)(h:De E ids ins=true)(hl:cls.length<1099511627776):DQ E ids ins cls=some (decide (cls.length=E.length)&&Kn E ins cls):=by
 obtain⟨hn,_,h6,_⟩:=Gp h
 have hins:=Qz h
 unfold DQ
 by_cases hc:cls.length=E.length
 ·rw [if_pos (by omega),decide_eq_true hc,Bool.true_and,GE cls (fun a0=>Cf a0) (fun c=>decide (c<0)) hl (fun x _=>rfl),Option.bind_some]
  cases h0:cls.any (fun c=>decide (c<0))with
  | true=>
   rw [if_pos rfl]
   congr 1
   rw [List.any_eq_true]at h0
   obtain⟨x,hx,hx0⟩:=h0
   obtain⟨u,hu,rfl⟩:=List.getElem_of_mem hx
   symm
   cases hb:Kn E ins cls with
   | false=>rfl
   | true=>
    unfold Kn at hb
    have:=BR.1 hb u hu
    rw [B0 _ _ hu,hx0]at this
    simp at this
  | false=>
   rw [if_neg (by decide),←S6 E ins cls h0]
   unfold Bm
   have key:=CT (fun x=>BT E ids ins cls x.1 x.2) (fun i=>(IB cls i,(i:Int))) cls.length (Ko E ins cls) (.inl ()) (.inr ()) ?_ ?_
   ·have e0:Bm E ids ins cls ([],0)=_:=key
    unfold Bm at e0
    rw [e0,Option.bind_some]
    cases (List.range cls.length).all (Ko E ins cls)<;>rfl
   ·intro v hv
    have hg:=Oy cls (cls.getD v default) v
    simp only [BT,Int.toNat_natCast]
    rw [if_pos (CE hv),C3 (by omega),KQ v (by omega)]
    show _=if Ko E ins cls v=true then(some (Sum.inl (if(Bf (IB cls v) (cls.getD v default)).2=true then IB cls v else KE (IB cls v) (cls.getD v default) (v:Int),((v+1:Nat):Int))):Option ((List (Int×Int)×Int)⊕(Unit⊕Unit)))else _
    unfold Ko
    cases hf:Bx v (fun u=>decide (cls.getD u default=cls.getD v default))with
    | none=>
     rw [hf]at hg
     have hg:Bf (IB cls v) (cls.getD v default)=(0,false):=hg
     rw [hg];rfl
    | some u=>
     rw [hf]at hg
     have hg:Bf (IB cls v) (cls.getD v default)=((u:Int),true):=hg
     have hu:=(HP hf).1
     simp only [hg,if_true,Int.toNat_natCast]
     rw [C3 (by omega),C3 (by omega)]
     by_cases e1:((E.getD u default).length:Int)=((E.getD v default).length:Int)
     ·rw [if_pos e1,C3 (by omega),C3 (by omega)]
      by_cases e2:ins.getD u default=ins.getD v default
      ·rw [if_pos e2,NI cls h hc _ u v true hg (by omega) (by omega) (by omega),Option.bind_some]
       by_cases e3:(List.range (E.getD v default).length).all (H9 E cls v u)=true
       ·rw [if_pos e3,decide_eq_true ((FQ E ins cls v u).2 ⟨by omega,e2.symm,e3⟩)];rfl
       ·rw [if_neg e3,decide_eq_false (fun c=>e3 ((FQ E ins cls v u).1 c).2.2)];rfl
      ·rw [if_neg e2,decide_eq_false (fun c=>e2 ((FQ E ins cls v u).1 c).2.1.symm)];rfl
     ·rw [if_neg e1,decide_eq_false (fun c=>e1 (by have:=((FQ E ins cls v u).1 c).1;omega))];rfl
   ·simp only [BT]
    rw [if_neg (Am _)]
 ·rw [if_neg (by omega),decide_eq_false hc];rfl
theorem S8(E:List (List (Int×Int)))(ids ins cls:List Int)(sE:BP E)(h1:ids.length<1099511627776)(h2:ins.length<1099511627776)(h3:cls.length<1099511627776):
  ∃x y,DT E ids ins cls=some (x,y)∧DR E ids ins cls=some (x,y):=by
 unfold DT DR
 rw [C3 sE,C3 h1,C3 h2,C3 sE,C3 h1,C3 h2]
 by_cases h:De E ids ins=true
 ·rw [if_pos h,if_pos h,S5 cls h,S7 cls h h3]
  exact⟨_,_,rfl,rfl⟩
 ·rw [if_neg h,if_neg h];exact⟨_,_,rfl,rfl⟩
end Go.Proofs.Ytjjahjjhohcidaa
