/- Texts as lists of bytes; numbers and lines. Conditions: those in each lemma. -/
import Derived.Test.YtaogbcdlpgfplaaDoorL6
import Derived.Test.YtaogbcdlpgfplaaDoorTxA
namespace Go.Proofs.YtaogbcdlpgfplaaDoor
open Go Dv
set_option linter.unusedSimpArgs false
set_option linter.unusedVariables false
set_option maxRecDepth 100000
abbrev BL(b:ByteArray):List UInt8:=b.data.toList
def Br(l:List UInt8):ByteArray:=⟨l.toArray⟩
theorem Re(l:List UInt8):BL (Br l)=l:=rfl
theorem Zr(b:ByteArray):Br (BL b)=b:=by cases b;simp [Br]
theorem wo(a b:ByteArray):BL (a++b)=BL a++BL b:=by simp [ByteArray.data_append]
theorem Zt(b:ByteArray):b.size=(BL b).length:=by simp
theorem ZE{a b:ByteArray}(h:BL a=BL b):a=b:=by rw [←Zr a,←Zr b,h]
theorem Ic(a b:List UInt8):Br a++Br b=Br (a++b):=ZE (by rw [wo];rfl)
theorem BN(l:List UInt8):(Br l).size=l.length:=by rw [Zt];rfl
theorem XY(a b:ByteArray):(a.toList==b.toList)=decide (a=b):=by
 rw [ByteArray.toList_eq,ByteArray.toList_eq,Bool.eq_iff_iff,beq_iff_eq,decide_eq_true_eq]
 exact⟨ZE,fun h=>by rw [h]⟩
def Ga(n:Nat):List UInt8:=Lib.decDigits n
theorem JF{n:Nat}(h:n<10):Ga n=[UInt8.ofNat (48+n)]:=by unfold Ga;rw [Lib.decDigits,dif_pos h]
theorem MP{n:Nat}(h: ¬n<10):Ga n=Ga (n / 10)++[UInt8.ofNat (48+n % 10)]:=by unfold Ga;rw [Lib.decDigits,dif_neg h]
theorem OE: ∀(d n:Nat),n<10 ^ (d+1)→(Ga n).length≤d+1
 |0,n,h=>by rw [JF (by simpa using h)];simp
 |d+1,n,h=>by
  by_cases c:n<10
  ·rw [JF c];simp
  ·rw [MP c,List.length_append]
   have:n / 10<10 ^ (d+1):=Nat.div_lt_of_lt_mul (by rw [Nat.pow_succ]at h;omega)
   have:=OE d (n / 10) this
   simp;omega
theorem Rf(n:Int)(h:0≤n):G5 n=Br (Ga n.toNat):=by
 unfold G5 Lib.itoa Ga Br
 rw [if_neg (by omega)]
theorem Rh(k:Nat)(h:k<10):Ve (IntKind.u8.wrap (IntKind.i64.wrap (48+(k:Int))))=Br [UInt8.ofNat (48+k)]:=by
 have e:IntKind.u8.wrap (IntKind.i64.wrap (48+(k:Int)))=((48+k:Nat):Int):=by
  rw [KQ _ (by omega)]
  unfold IntKind.wrap
  simp only [IntKind.signed,IntKind.bits]
  simp
  omega
 rw [e]
 rfl
theorem XZ: ∀(d n fuel:Nat),n<10 ^ (d+1)→d<fuel→d≤16→HV fuel (n:Int)=some (Br (Ga n))
 |d,n,0,_,hf,_=>by omega
 |d,n,fuel+1,h,hf,hd=>by
  show KW (HV fuel) (n:Int)=_
  unfold KW
  by_cases c:n<10
  ·rw [if_pos (by omega),Rh n c,JF c]
  ·rw [if_neg (by omega)]
   match d,h,hf,hd with
   |0,h,_,_=>exact absurd (by simpa using h) c
   |d+1,h,hf,hd=>
    have h1:n / 10<10 ^ (d+1):=Nat.div_lt_of_lt_mul (by rw [Nat.pow_succ]at h;omega)
    have hbig:n<10 ^ 18:=Nat.lt_of_lt_of_le h (Nat.pow_le_pow_right (by decide) (by omega))
    have ed:(n:Int).tdiv 10=((n / 10:Nat):Int):=by rw [Int.tdiv_eq_ediv_of_nonneg (by omega)];omega
    have em:(n:Int).tmod 10=((n % 10:Nat):Int):=by rw [Int.tmod_eq_emod_of_nonneg (by omega)];omega
    have ew:IntKind.i64.wrap ((n / 10:Nat):Int)=((n / 10:Nat):Int):=KQ _ (by omega)
    have hl:=OE d (n / 10) h1
    rw [ed,em,ew,XZ d (n / 10) fuel h1 (by omega) (by omega),Option.bind_some,Rh _ (Nat.mod_lt _ (by decide)),BN,BN,Cn (by simp;omega),Ic,MP c]
theorem wu(n:Int)(h:0≤n∧n<1000000000000):VH n=some (Br (Ga n.toNat)):=by
 have:=XZ 12 n.toNat 1000000 (by have h13:(10:Nat) ^ 13=10000000000000:=(by decide);omega) (by decide) (by decide)
 rwa [show((n.toNat:Nat):Int)=n by omega]at this
theorem NG(n:Int)(h:0≤n∧n<1000000000000):(Ga n.toNat).length≤13:=OE 12 n.toNat (by have h13:(10:Nat) ^ 13=10000000000000:=(by decide);omega)
def IP(k:Int):List UInt8:=32::(if k<0 then [42]else Ga k.toNat)
def Bf(w:List UInt8)(l:List Int):List UInt8:=w++(l.map IP).flatten
def mG(l:List Int):Prop:=l.length≤1000000∧ ∀k∈l,-1≤k∧k<1000000000000
theorem Ri{k:Int}(h: -1≤k∧k<1000000000000):(IP k).length≤14:=by
 unfold IP
 split
 ·simp
 ·have:=NG k (by omega)
  simp;omega
theorem M3{α:Type}(f:α→List UInt8)(n:Nat): ∀l:List α,(∀k∈l,(f k).length≤n)→(l.map f).flatten.length≤n*l.length
 | [],_=>by simp
 |k::l,h=>by
  have h1:=M3 f n l (fun x hx=>h x (List.mem_cons_of_mem _ hx))
  have h2:=h k List.mem_cons_self
  simp only [List.map_cons,List.flatten_cons,List.length_append,List.length_cons,Nat.mul_add]
  omega
theorem M4{α:Type}[Inhabited α](f:α→List UInt8)(l:List α)(i:Nat)(hi:i<l.length):((l.take (i+1)).map f).flatten=((l.take i).map f).flatten++f (l.getD i default):=by
 rw [List.take_succ_eq_append_getElem hi,List.map_append,List.flatten_append,Cm _ _ hi];simp
theorem cz{w:List UInt8}{l:List Int}(h:mG l):(Bf w l).length≤w.length+14*l.length:=by
 unfold Bf
 rw [List.length_append]
 have:=M3 IP 14 l (fun k hk=>Ri (h.2 k hk))
 omega
theorem ZF(w:List UInt8)(l:List Int)(h:mG l)(hw:w.length≤1000):G7 (Br w) l=some (Br (Bf w l)):=by
 unfold G7 I5
 have key:=JC (fun v=>Dp l v.1 v.2) (fun i=>(Br (w++((l.take i).map IP).flatten),(i:Int))) l.length (Br (Bf w l)) ?_ ?_
 ·have e0:w++((l.take 0).map IP).flatten=w:=by simp
  rw [e0,Int.natCast_zero]at key
  rw [key];rfl
 ·intro i hi
  have hk: -1≤l.getD i default∧l.getD i default<1000000000000:=by rw [Cm _ _ hi];exact h.2 _ (List.getElem_mem hi)
  have hl0:=h.1
  have hfl:=M3 IP 14 (l.take i) (fun k hk=>Ri (h.2 k (List.mem_of_mem_take hk)))
  rw [List.length_take,Nat.min_eq_left (by omega)]at hfl
  rw [M4 IP l i hi]
  simp only [Dp,Int.toNat_natCast]
  rw [if_pos (EJ hi),Cn (by omega),PV i (by omega)]
  generalize ((l.take i).map IP).flatten=acc at hfl ⊢
  have xU:({data:= #[32]}:ByteArray)=Br [32]:=rfl
  have ww:({data:= #[32,42]}:ByteArray)=Br [32,42]:=rfl
  rw [xU,ww]
  by_cases c:l.getD i default= -1
  ·rw [if_pos c,BN,BN,Cn (by simp;omega),Ic,c,List.append_assoc]
   rfl
  ·have hd:=NG (l.getD i default) (by omega)
   have hz:(G5 (l.getD i default)).size≤13:=by rw [Rf _ (by omega),BN];exact hd
   rw [if_neg c,Cn (by omega),Cn (by rw [BN];simp only [List.length_append,List.length_cons,List.length_nil];omega),Cn (by rw [ByteArray.size_append,BN,BN];simp only [List.length_append,List.length_cons,List.length_nil];omega),Rf _ (by omega),Ic,Ic,List.append_assoc]
   unfold IP
   rw [if_neg (by omega)]
   rfl
 ·simp only [Dp]
  rw [if_neg (Bq _),List.take_length]
  rfl
theorem ZG(w:List UInt8)(l:List Int)(h:mG l)(hw:w.length≤1000):Jc (Br w) l=some (Br (Bf w l)):=by
 unfold Jc Jt
 have key:=JC (fun v=>FW l v.1 v.2) (fun i=>(Br (w++((l.take i).map IP).flatten),(i:Int))) l.length (Br (Bf w l)) ?_ ?_
 ·have e0:w++((l.take 0).map IP).flatten=w:=by simp
  rw [e0,Int.natCast_zero]at key
  rw [key];rfl
 ·intro i hi
  have hk: -1≤l.getD i default∧l.getD i default<1000000000000:=by rw [Cm _ _ hi];exact h.2 _ (List.getElem_mem hi)
  have hl0:=h.1
  have hfl:=M3 IP 14 (l.take i) (fun k hk=>Ri (h.2 k (List.mem_of_mem_take hk)))
  rw [List.length_take,Nat.min_eq_left (by omega)]at hfl
  rw [M4 IP l i hi]
  simp only [FW,Int.toNat_natCast]
  rw [if_pos (EJ hi),Cn (by omega),PV i (by omega)]
  generalize l.getD i default=x at hk ⊢
  generalize ((l.take i).map IP).flatten=acc at hfl ⊢
  have xU:({data:= #[32]}:ByteArray)=Br [32]:=rfl
  have ww:({data:= #[32,42]}:ByteArray)=Br [32,42]:=rfl
  rw [xU,ww]
  by_cases c:x<0
  ·have e1:x= -1:=by omega
   rw [if_pos c,BN,BN,Cn (by simp;omega),Ic,e1,List.append_assoc]
   rfl
  ·have hd:=NG x (by omega)
   rw [if_neg c,wu _ (by omega),Option.bind_some,BN,BN,Cn (by simp;omega),Ic,BN,BN,Cn (by simp;omega),Ic,List.append_assoc]
   unfold IP
   rw [if_neg c]
   rfl
 ·simp only [FW]
  rw [if_neg (Bq _),List.take_length]
  rfl
def F5:List UInt8:=[112,114,111,98,108,101,109]
def F9:List UInt8:=[110,111,100,101]
def GV:List UInt8:=[101,100,103,101]
def Cg(a d:Int)(ns es:List (List Int)):List (List UInt8):=Bf F5 [a,d]::(ns.map (Bf F9)++es.map (Bf GV))
def M5(a d:Int)(ns es:List (List Int)):List UInt8:=((Cg a d ns es).map (· ++[10])).flatten
theorem Rj(l:List (List UInt8))(h:l≠[]):Lib.join l [10]++[10]=(l.map (· ++[10])).flatten:=by
 cases l with
 |nil=>exact absurd rfl h
 |cons x r=>
  rw [Lib.join_cons]
  unfold Lib.joinTail
  have key: ∀r:List (List UInt8),(r.map ([10]++ ·)).flatten++[10]=[10]++(r.map (· ++[10])).flatten:=fun r=>by
   induction r with
   |nil=>rfl
   |cons y r ih=>rw [List.map_cons,List.flatten_cons,List.append_assoc,ih,List.map_cons,List.flatten_cons];simp
  rw [List.append_assoc,key,List.map_cons,List.flatten_cons,List.append_assoc]
structure CfgOk(l:List (List Int)):Prop where
 len:l.length≤1048576
 row: ∀x∈l,mG x∧x.length≤8
theorem CfgOk.at{l:List (List Int)}(h:CfgOk l){i:Nat}(hi:i<l.length):mG l[i]∧l[i].length≤8:=h.row _ (List.getElem_mem hi)
theorem GA{w:List UInt8}{x:List Int}(hw:w.length≤7)(h:mG x∧x.length≤8):(Bf w x).length≤119:=by
 have:=cz (w:=w) h.1
 omega
end Go.Proofs.YtaogbcdlpgfplaaDoor
