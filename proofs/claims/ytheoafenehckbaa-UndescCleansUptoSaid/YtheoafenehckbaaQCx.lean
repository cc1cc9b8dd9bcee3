/- What cleaning makes: the data. -/
import Derived.Test.YtheoafenehckbaaQRk
import Derived.Test.YtheoafenehckbaaQHw
namespace Go.Proofs.Ytheoafenehckbaa.Ur
open Go.RowKit GUndescBack YtheoafenehckbaaW.PrintWords YtheoafenehckbaaW.PrintLast YtheoafenehckbaaW.PrintMore Rk
set_option linter.unusedVariables false
def clOneof (x:S91):S91:=⟨x.f0,x.f1,[]⟩
def clValue (x:S93):S93:=⟨x.f0,x.f1,x.f2,[]⟩
def clMethod (x:S53):S53:=⟨x.f0,x.f1,x.f2,x.f3,x.f4,x.f5,[]⟩
def clField (x:S88):S88:=⟨x.f0,x.f1,x.f2,x.f3,x.f4,x.f5,x.f6,x.f7,x.f8,x.f9,x.f10,x.f11,[]⟩
def clEnum (x:S82):S82:=⟨x.f0,x.f1.map clValue,x.f2,[]⟩
def clService (x:S51):S51:=⟨x.f0,x.f1.map clMethod,x.f2,[]⟩
def clMs:Nat→List S76→List S76
 | 0,_=>[]
 | n+1,l=>l.map fun x=>⟨x.f0,x.f1.map clField,clMs n x.f2,x.f3.map clEnum,x.f4,x.f5.map clField,x.f6.map clOneof,x.f7,x.f8,x.f9,[]⟩
def clMx (n:Nat) (x:S76):S76:=⟨x.f0,x.f1.map clField,clMs n x.f2,x.f3.map clEnum,x.f4,x.f5.map clField,x.f6.map clOneof,x.f7,x.f8,x.f9,[]⟩
theorem clMs_succ (n:Nat) (l:List S76):clMs (n+1) l=l.map (clMx n):=rfl
def clFile (x:S30):S30:=⟨x.f0,x.f1,x.f2,x.f3,clMs 64 x.f4,x.f5.map clEnum,x.f6.map clService,x.f7.map clField,x.f8,x.f9,[]⟩
theorem C_nil8 (W:World):Kd.C (Kd.int .u8) W none 0 []:=⟨rfl,by decide,fun h=>absurd h (by decide)⟩
theorem F_nil8 (W:World) (ok:Nat→Prop):Kd.F (Kd.int .u8) W ok none 0 []:=fun W' _=>C_nil8 W'
theorem F_map {α β:Type} {d:Kd β} {W:World} {ok:Nat→Prop} {A:Option Addr} {l:List α} {f:α→β} (h:Kd.F d W ok A l.length (l.map f)):Kd.F d W ok A (l.map f).length (l.map f):=by rw [List.length_map];exact h
theorem le_map {α β:Type} {l:List α} {f:α→β} {c:Nat} (h:l.length≤c):(l.map f).length≤c:=by rw [List.length_map];exact h
theorem set_map {α:Type} (cl:α→α) (z:α) (l:List α) (i:Nat) (h:i < l.length):((l.take i).map cl++l.drop i).set i (cl (l.getD i z))=(l.take (i+1)).map cl++l.drop (i+1):=by
 have hlen:((l.take i).map cl).length=i:=by rw [List.length_map,List.length_take];omega
 rw [List.set_append_right _ _ (by omega),hlen,Nat.sub_self,List.drop_eq_getElem_cons h,List.set_cons_zero,List.take_add_one,List.map_append,List.append_assoc]
 congr 1
 simp [h]
theorem get_map {α:Type} (cl:α→α) (z:α) (l:List α) (i:Nat) (h:i < l.length):((l.take i).map cl++l.drop i).getD i z=l.getD i z:=by
 have hlen:((l.take i).map cl).length=i:=by rw [List.length_map,List.length_take];omega
 rw [List.getD_eq_getElem?_getD,List.getElem?_append_right (by omega),hlen,Nat.sub_self,List.getElem?_drop,Nat.add_zero,List.getD_eq_getElem?_getD]
theorem len_map {α:Type} (cl:α→α) (l:List α) (i:Nat):((l.take i).map cl++l.drop i).length=l.length:=by
 rw [List.length_append,List.length_map,List.length_take,List.length_drop]
 omega
theorem end_map {α:Type} (cl:α→α) (l:List α) (i:Nat) (h:¬ i < l.length):(l.take i).map cl++l.drop i=l.map cl:=by rw [List.take_of_length_le (by omega),List.drop_of_length_le (by omega),List.append_nil]
theorem lt_d {i n:Nat} (h:i < n):decide ((i:Int) < (n:Int))=true:=decide_eq_true (by omega)
theorem ge_d {i n:Nat} (h:¬ i < n):decide ((i:Int) < (n:Int))=false:=decide_eq_false (by omega)
theorem le_p (i:Nat):(0≤(i:Int))=True:=eq_true (Int.natCast_nonneg i)
theorem lt_p {i n:Nat} (h:i < n):((i:Int) < (n:Int))=True:=eq_true (Int.ofNat_lt.2 h)
theorem wrap_lt (i n:Nat) (h:i < n) (hn:n≤4294967296):wrap64 ((i:Int)+1)=((i+1:Nat):Int):=by unfold wrap64;omega
theorem sumle {α:Type} (f:α→Nat):∀ (l:List α) (y:α),y∈l→f y≤(l.map f).sum
 | [],_,h=>by cases h
 | a :: l,y,h=>by
  rw [List.map_cons,List.sum_cons]
  rcases List.mem_cons.1 h with rfl|h
  · omega
  · have:=sumle f l y h
    omega
theorem lensum {α:Type} (f:α→Nat) (hf:∀ y,1≤f y):∀ l:List α,l.length≤(l.map f).sum
 | []=>Nat.zero_le _
 | a :: l=>by
  have h1:=hf a
  have h2:=lensum f hf l
  rw [List.length_cons,List.map_cons,List.sum_cons]
  omega
theorem bk88_pos (y:S88):1≤bk88 y:=by unfold bk88;omega
theorem bk93_pos (y:S93):1≤bk93 y:=by unfold bk93;omega
theorem bk82_pos (y:S82):1≤bk82 y:=by unfold bk82;omega
theorem bk91_pos (y:S91):1≤bk91 y:=by unfold bk91;omega
theorem bk53_pos (y:S53):1≤bk53 y:=by unfold bk53;omega
theorem bk51_pos (y:S51):1≤bk51 y:=by unfold bk51;omega
theorem bk76_pos (y:S76):1≤bk76 y:=by rw [bk76_eq];omega
theorem bk82_len {y:S82} {N:Nat} (h:bk82 y≤N):y.f1.length≤N:=by
 have:=lensum bk93 bk93_pos y.f1
 unfold bk82 at h
 omega
theorem bk51_len {y:S51} {N:Nat} (h:bk51 y≤N):y.f1.length≤N:=by
 have:=lensum bk53 bk53_pos y.f1
 unfold bk51 at h
 omega
theorem bk76_len {x:S76} {N:Nat} (h:bk76 x≤N):x.f1.length≤N∧x.f5.length≤N∧x.f3.length≤N∧(∀ y∈x.f3,y.f1.length≤N)∧x.f6.length≤N∧(x.f2.map bk76).sum≤N:=by
 rw [bk76_eq] at h
 have h1:=lensum bk88 bk88_pos x.f1
 have h5:=lensum bk88 bk88_pos x.f5
 have h3:=lensum bk82 bk82_pos x.f3
 have h6:=lensum bk91 bk91_pos x.f6
 exact ⟨by omega,by omega,by omega,fun y hy=>bk82_len (by have:=sumle bk82 x.f3 y hy;omega),by omega,by omega⟩
theorem bk30_len {x:S30} {N:Nat} (h:bk30 x≤N):(x.f4.map bk76).sum≤N∧x.f5.length≤N∧(∀ y∈x.f5,y.f1.length≤N)∧x.f6.length≤N∧(∀ y∈x.f6,y.f1.length≤N)∧x.f7.length≤N:=by
 unfold bk30 at h
 have h5:=lensum bk82 bk82_pos x.f5
 have h6:=lensum bk51 bk51_pos x.f6
 have h7:=lensum bk88 bk88_pos x.f7
 exact ⟨by omega,by omega,fun y hy=>bk82_len (by have:=sumle bk82 x.f5 y hy;omega),by omega,fun y hy=>bk51_len (by have:=sumle bk51 x.f6 y hy;omega),by omega⟩
def okN (okp:Nat→Prop) (n:Nat):Nat→Prop:=fun k=>okp k∨n≤k
end Go.Proofs.Ytheoafenehckbaa.Ur
