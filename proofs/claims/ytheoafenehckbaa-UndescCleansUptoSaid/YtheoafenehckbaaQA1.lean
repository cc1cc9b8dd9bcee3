/- Words: QVb, QFx, QWr, QWt, QWj. -/
import Derived.Laws.BitsAllLaws
import Derived.Laws.Bits128
import Derived.Test.YtheoafenehckbaaQW
namespace Go.Proofs.Ytheoafenehckbaa.Vb
open Go.RowKit YtheoafenehckbaaW.PrintWords YtheoafenehckbaaW.PrintLast YtheoafenehckbaaW.PrintMore
def vb (n:Nat):List Int:=if n < 128 then [(n:Int)] else ((n % 128+128:Nat):Int) :: vb (n / 128)
termination_by n
decreasing_by omega
theorem vb_small {n:Nat} (h:n < 128):vb n=[(n:Int)]:=by rw [vb,if_pos h]
theorem vb_large {n:Nat} (h:¬ n < 128):vb n=((n % 128+128:Nat):Int) :: vb (n / 128):=by rw [vb,if_neg h]
theorem vb_pos (n:Nat):1≤(vb n).length:=by
 by_cases h:n < 128
 · rw [vb_small h];simp
 · rw [vb_large h];simp
theorem vb_le (k:Nat):∀ n:Nat,n < 128 ^ (k+1)→(vb n).length≤k+1:=by
 induction k with
 | zero=>intro n h;rw [vb_small (by simpa using h)];simp
 | succ k ih=>
  intro n h
  by_cases h1:n < 128
  · rw [vb_small h1];simp
  · rw [vb_large h1]
    have:=ih (n / 128) (by rw [Nat.pow_succ] at h;omega)
    simp only [List.length_cons];omega
theorem vb_ten (n:Nat) (h:n < 18446744073709551616):(vb n).length≤10:=vb_le 9 n (by omega)
theorem or128 (x:Int) (h:0≤x):Go.bits .or .u8 (x % 256) 128=((x.toNat % 128+128:Nat):Int):=by
 rw [Go.u8_or (x % 256) 128 (by omega) (by omega) (by omega) (by omega)]
 have key:∀ y:Nat,y < 256→y ||| 128=y % 128+128:=by decide +kernel
 have e:(x % 256).toNat=x.toNat % 256:=by omega
 rw [e]
 show ((x.toNat % 256 ||| 128:Nat):Int)=_
 rw [key _ (by omega)]
 congr 1
 omega
theorem wrap_u64 (x:Int):IntKind.u64.wrap x=x % 18446744073709551616:=by
 simp only [IntKind.wrap,IntKind.bits,IntKind.signed,Bool.false_and,Bool.false_eq_true,if_false]
 rfl
theorem wrap_u64_in (x:Int) (h0:0≤x) (h1:x < 18446744073709551616):IntKind.u64.wrap x=x:=by
 rw [wrap_u64];exact Int.emod_eq_of_lt h0 h1
theorem wf_u8 {a:Int} (h:(Lit.int .u8 a).wf=true):0≤a∧a < 256:=by
 simp [Lit.wf,IntKind.min,IntKind.max,IntKind.signed,IntKind.bits] at h
 omega
def Bytes (l:List Int):Prop:=∀ x∈l,0≤x∧x < 256
theorem bytes_of_wf {l:List Int} (h:∀ x∈l,(Lit.int .u8 x).wf=true):Bytes l:=fun x hx=>wf_u8 (h x hx)
theorem Bytes.rd {l:List Int} (h:Bytes l) (i:Int):0≤rd l i∧rd l i < 256:=by
 unfold YtheoafenehckbaaW.PrintWords.rd
 rw [List.getD_eq_getElem?_getD]
 cases e:l[i.toNat]? with
 | none=>simp
 | some x=>simpa using h x (List.mem_of_getElem? e)
theorem rd_drop {l:List Int} {i:Nat} (h:i < l.length):l.drop i=rd l (i:Int) :: l.drop (i+1):=by
 rw [List.drop_eq_getElem_cons h]
 congr 1
 simp [rd,h]
theorem and127 (c:Int) (h0:0≤c) (h1:c < 256):Go.bits .and .u8 c 127=c % 128:=by
 rw [Go.u8_and c 127 h0 h1 (by omega) (by omega)]
 have key:∀ y:Nat,y < 256→y &&& 127=y % 128:=by decide +kernel
 show ((c.toNat &&& 127:Nat):Int)=_
 rw [key _ (by omega)]
 omega
theorem and128 (c:Int) (h0:0≤c) (h1:c < 256):(Go.bits .and .u8 c 128=0)=(c < 128):=by
 rw [Go.u8_and c 128 h0 h1 (by omega) (by omega)]
 have key:∀ y:Nat,y < 256→(y &&& 128=0↔y < 128):=by decide +kernel
 have:=key c.toNat (by omega)
 show (((c.toNat &&& 128:Nat):Int)=0)=_
 apply propext
 omega
theorem or_add (x c:Int) (i:Nat) (hx0:0≤x) (hx:x < 128 ^ i) (h0:0≤c) (h1:c < 256) (hi:i≤9) (h9:i=9→c≤1) :
 Go.bits .or .u64 x (IntKind.u64.wrap (IntKind.u64.wrap (Go.bits .and .u8 c 127)*2 ^ (7*i)))=x+c % 128*128 ^ i∧x+c % 128*128 ^ i < 128 ^ (i+1)∧x+c % 128*128 ^ i < 18446744073709551616:=by
 rw [and127 c h0 h1,wrap_u64_in (c % 128) (by omega) (by omega)]
 have e7:(2:Int) ^ (7*i)=128 ^ i:=by rw [Int.pow_mul];rfl
 have hm:0≤c % 128∧c % 128≤127:=by omega
 have hp:(0:Int) < 128 ^ i:=Int.pow_pos (by decide)
 have hs:(128:Int) ^ (i+1)=128 ^ i*128:=Int.pow_succ ..
 have hle:c % 128*128 ^ i≤127*128 ^ i:=Int.mul_le_mul_of_nonneg_right hm.2 (by omega)
 have hge:0≤c % 128*128 ^ i:=Int.mul_nonneg hm.1 (by omega)
 have hbig:x+c % 128*128 ^ i < 18446744073709551616:=by
  rcases Nat.lt_or_ge i 9 with h|h
  · have:(128:Int) ^ i≤128 ^ 8:=by
     have:=Nat.pow_le_pow_right (n:=128) (by omega) (show i≤8 by omega)
     exact_mod_cast this
    have e8:(128:Int) ^ 8=72057594037927936:=by decide
    omega
  · obtain rfl:i=9:=by omega
    have:=h9 rfl
    have e9:(128:Int) ^ 9=9223372036854775808:=by decide
    rw [e9] at hx ⊢
    omega
 rw [e7]
 refine ⟨?_,by rw [hs];omega,hbig⟩
 rw [wrap_u64_in _ hge (by omega),Go.u64_or x _ hx0 (by omega) hge (by omega)]
 have k1:x.toNat < 2 ^ (7*i):=by
  have h2:((2 ^ (7*i):Nat):Int)=128 ^ i:=by rw [← e7];exact Int.natCast_pow ..
  omega
 have k2:(c % 128*128 ^ i).toNat=2 ^ (7*i)*(c % 128).toNat:=by
  have h2:((2 ^ (7*i):Nat):Int)=128 ^ i:=by rw [← e7];exact Int.natCast_pow ..
  have h3:((2 ^ (7*i)*(c % 128).toNat:Nat):Int)=c % 128*128 ^ i:=by
   rw [Int.natCast_mul,h2,Int.mul_comm,Int.toNat_of_nonneg hm.1]
  omega
 rw [k2,Nat.or_comm,← Nat.two_pow_add_eq_or_of_lt k1,← k2]
 omega
def tr:List Int→Nat→Option (Int × Nat)
 | [],_=>none
 | c :: r,i=>if 10≤i then none else if i=9∧1 < c then none else if c < 128 then some (c*128 ^ i,i+1) else (tr r (i+1)).map fun v=>(c % 128*128 ^ i+v.1,v.2)
def told (x:Int):Option (Int × Nat)→Int × Int × Int
 | none=>(0,0,10)
 | some v=>(x+v.1,(v.2:Int),0)
theorem tr_le (l:List Int):∀ i v,tr l i=some v→i < v.2∧v.2≤i+l.length∧v.2≤10:=by
 induction l with
 | nil=>intro i v h;simp [tr] at h
 | cons c r ih=>
  intro i v h
  simp only [tr] at h
  split at h
  · cases h
  · split at h
    · cases h
    · split at h
      · cases h;simp only [List.length_cons];omega
      · obtain ⟨u,hu,rfl⟩:=Option.map_eq_some_iff.1 h
        have:=ih _ _ hu
        simp only [List.length_cons];omega
end Go.Proofs.Ytheoafenehckbaa.Vb
namespace Go.Proofs.Ytheoafenehckbaa.Fx
open Go.RowKit YtheoafenehckbaaW.PrintWords YtheoafenehckbaaW.PrintLast YtheoafenehckbaaW.PrintMore Vb
def fxb (n:Int) (i:Nat):Int:=n / 2 ^ (8*i) % 256
def fx (n:Int) (m:Nat):List Int:=(List.range m).map (fxb n)
theorem fx_length (n:Int) (m:Nat):(fx n m).length=m:=by simp [fx]
theorem fx_succ (n:Int) (i:Nat):fx n (i+1)=fx n i++[fxb n i]:=by simp [fx,List.range_succ]
theorem fx_set (n:Int) (m i:Nat) (h:i < m):(fx n i++List.replicate (m - i) 0).set i (fxb n i)=fx n (i+1)++List.replicate (m - (i+1)) 0:=by
 rw [fx_succ,List.set_append_right _ _ (by rw [fx_length];exact Nat.le_refl _),fx_length,Nat.sub_self]
 obtain ⟨q,hq⟩:∃ q,m - i=q+1:=⟨m - i - 1,by omega⟩
 rw [hq,List.replicate_succ,List.set_cons_zero,show m - (i+1)=q from by omega]
 simp
def un:List Int→Nat→Int
 | [],_=>0
 | c :: r,i=>if 8≤i then 0 else c*256 ^ i+un r (i+1)
theorem or_fix (x c:Int) (i:Nat) (hx0:0≤x) (hx:x < 256 ^ i) (h0:0≤c) (h1:c < 256) (hi:i≤7) :
 Go.bits .or .u64 x (IntKind.u64.wrap (IntKind.u64.wrap c*2 ^ (8*i)))=x+c*256 ^ i∧x+c*256 ^ i < 256 ^ (i+1)∧0≤x+c*256 ^ i:=by
 have e7:(2:Int) ^ (8*i)=256 ^ i:=by rw [Int.pow_mul];rfl
 have hp:(0:Int) < 256 ^ i:=Int.pow_pos (by decide)
 have hs:(256:Int) ^ (i+1)=256 ^ i*256:=Int.pow_succ ..
 have hle:c*256 ^ i≤255*256 ^ i:=Int.mul_le_mul_of_nonneg_right (by omega) (by omega)
 have hge:0≤c*256 ^ i:=Int.mul_nonneg h0 (by omega)
 have hpow:(256:Int) ^ i≤256 ^ 7:=by
  have h:=Int.ofNat_le.2 (Nat.pow_le_pow_right (n:=256) (by omega) hi)
  rw [Int.natCast_pow,Int.natCast_pow] at h
  exact h
 have e8:(256:Int) ^ 7=72057594037927936:=by decide
 rw [wrap_u64_in c h0 (by omega),e7]
 refine ⟨?_,by rw [hs];omega,by omega⟩
 rw [wrap_u64_in _ hge (by omega),Go.u64_or x _ hx0 (by omega) hge (by omega)]
 have h2:((2 ^ (8*i):Nat):Int)=256 ^ i:=by rw [← e7];exact Int.natCast_pow ..
 have k1:x.toNat < 2 ^ (8*i):=by omega
 have k2:(c*256 ^ i).toNat=2 ^ (8*i)*c.toNat:=by
  have h3:((2 ^ (8*i)*c.toNat:Nat):Int)=c*256 ^ i:=by
   rw [Int.natCast_mul,h2,Int.mul_comm,Int.toNat_of_nonneg h0]
  omega
 rw [k2,Nat.or_comm,← Nat.two_pow_add_eq_or_of_lt k1,← k2]
 omega
theorem un_nine (l:List Int) (i:Nat) (h:8≤i):un l i=0:=by
 cases l with
 | nil=>rfl
 | cons c r=>simp only [un];rw [if_pos h]
end Go.Proofs.Ytheoafenehckbaa.Fx
namespace Go.Proofs.Ytheoafenehckbaa.Wr
open Go.RowKit YtheoafenehckbaaW.PrintWords YtheoafenehckbaaW.PrintLast YtheoafenehckbaaW.PrintMore Vb Fx
def okKind (kind:Int):Prop:=kind=0∨kind=1∨kind=2∨kind=5
instance (kind:Int):Decidable (okKind kind):=by unfold okKind;infer_instance
def worth (kind n:Int) (b:List Int):List Int:=if kind=0 then vb n.toNat else if kind=1 then fx n 8 else if kind=5 then fx n 4 else vb b.length++b
def field (num kind n:Int) (b:List Int):List Int:=vb (8*num+kind).toNat++worth kind n b
def okField (num kind:Int):Prop:=1≤num∧num≤536870911∧okKind kind
instance (num kind:Int):Decidable (okField num kind):=by unfold okField;infer_instance
def pt (num kind n:Int) (b:List Int):List Int × Int:=if okField num kind then (field num kind n b,0) else ([],20)
theorem or8 (num kind:Int) (h0:0≤num) (h1:num≤536870911) (k0:0≤kind) (k1:kind < 8) :
 Go.bits .or .u64 (IntKind.u64.wrap ((IntKind.u64.wrap num)*8)) (IntKind.u64.wrap kind)=8*num+kind:=by
 rw [wrap_u64_in num h0 (by omega),wrap_u64_in (num*8) (by omega) (by omega),wrap_u64_in kind k0 (by omega),Go.u64_or _ _ (by omega) (by omega) (by omega) (by omega)]
 have h:=Nat.two_pow_add_eq_or_of_lt (i:=3) (b:=kind.toNat) (by omega) num.toNat
 rw [show (num*8).toNat=2 ^ 3*num.toNat from by omega,← h]
 omega
theorem worth_length (kind n:Int) (b:List Int) (n0:0≤n) (n1:n < 18446744073709551616) (hb:b.length < 18446744073709551616):(worth kind n b).length≤10+b.length:=by
 have h1:=vb_ten n.toNat (by omega)
 have h2:=vb_ten b.length hb
 unfold worth
 split
 · omega
 · split
   · rw [fx_length];omega
   · split
     · rw [fx_length];omega
     · rw [List.length_append];omega
theorem field_length (num kind n:Int) (b:List Int) (h:okField num kind) (n0:0≤n) (n1:n < 18446744073709551616) (hb:b.length < 18446744073709551616):(field num kind n b).length≤20+b.length:=by
 have h1:=worth_length kind n b n0 n1 hb
 obtain ⟨a1,a2,a3⟩:=h
 have h2:=vb_ten (8*num+kind).toNat (by unfold okKind at a3;omega)
 unfold field
 rw [List.length_append];omega
end Go.Proofs.Ytheoafenehckbaa.Wr
namespace Go.Proofs.Ytheoafenehckbaa.Wt
open Go.RowKit YtheoafenehckbaaW.PrintWords YtheoafenehckbaaW.PrintLast YtheoafenehckbaaW.PrintMore Vb Fx Wr
theorem wrap64_in (x:Int) (h0 : -9223372036854775808≤x) (h1:x < 9223372036854775808):wrap64 x=x:=by unfold wrap64;omega
theorem tr_bound (l:List Int):∀ i v,Bytes l→i≤9→tr l i=some v→0≤v.1∧v.1+128 ^ i≤18446744073709551616:=by
 induction l with
 | nil=>intro i v _ _ h;simp [tr] at h
 | cons c r ih=>
  intro i v hb hi h
  have hc:=hb c (List.mem_cons_self ..)
  have hr:Bytes r:=fun x hx=>hb x (List.mem_cons_of_mem _ hx)
  have hp:(0:Int) < 128 ^ i:=Int.pow_pos (by decide)
  have hs:(128:Int) ^ (i+1)=128 ^ i*128:=Int.pow_succ ..
  have e8:(128:Int) ^ 8=72057594037927936:=by decide
  have e9:(128:Int) ^ 9=9223372036854775808:=by decide
  simp only [tr] at h
  rw [if_neg (by omega)] at h
  by_cases h9:i=9∧1 < c
  · rw [if_pos h9] at h;cases h
  rw [if_neg h9] at h
  by_cases h1:c < 128
  · rw [if_pos h1] at h
    cases h
    show 0≤c*128 ^ i∧c*128 ^ i+128 ^ i≤_
    have hge:0≤c*128 ^ i:=Int.mul_nonneg hc.1 (by omega)
    refine ⟨hge,?_⟩
    rcases Nat.lt_or_ge i 9 with h|h
    · have:(128:Int) ^ i≤128 ^ 8:=by
       have:=Int.ofNat_le.2 (Nat.pow_le_pow_right (n:=128) (by omega) (show i≤8 by omega))
       rw [Int.natCast_pow,Int.natCast_pow] at this
       exact this
      have hle:c*128 ^ i≤127*128 ^ i:=Int.mul_le_mul_of_nonneg_right (by omega) (by omega)
      omega
    · have h:i=9:=by omega
      subst h
      have:c≤1:=by
       rcases Int.lt_or_le 1 c with h|h
       · exact absurd ⟨rfl,h⟩ h9
       · exact h
      rw [e9]
      omega
  · rw [if_neg h1] at h
    obtain ⟨u,hu,rfl⟩:=Option.map_eq_some_iff.1 h
    have hi8:i≤8:=by
     rcases Nat.lt_or_ge i 9 with h|h
     · omega
     · exact absurd ⟨by omega,by omega⟩ h9
    have ⟨k0,k1⟩:=ih (i+1) u hr (by omega) hu
    have hle:c % 128*128 ^ i≤127*128 ^ i:=Int.mul_le_mul_of_nonneg_right (by omega) (by omega)
    have hge:0≤c % 128*128 ^ i:=Int.mul_nonneg (by omega) (by omega)
    show 0≤c % 128*128 ^ i+u.1∧c % 128*128 ^ i+u.1+128 ^ i≤_
    rw [hs] at k1
    omega
theorem tr_64 {l:List Int} {v:Int × Nat} (hb:Bytes l) (h:tr l 0=some v):0≤v.1∧v.1 < 18446744073709551616∧0 < v.2∧v.2≤l.length∧v.2≤10:=by
 have h1:=tr_bound l 0 v hb (by omega) h
 have h2:=tr_le l 0 v h
 simp only [Int.pow_zero] at h1
 omega
theorem and7 (x:Int) (h0:0≤x) (h1:x < 18446744073709551616):Go.bits .and .u64 x 7=x % 8:=by
 rw [Go.u64_and x 7 h0 (by omega) (by omega) (by omega)]
 have h:=Nat.and_two_pow_sub_one_eq_mod x.toNat 3
 show ((x.toNat &&& (2 ^ 3 - 1):Nat):Int)=_
 rw [h]
 omega
def no (e:Int):Int × Int × Int × List Int × Int × Int:=(0,0,0,[],0,e)
def tkRest (num kind used:Int) (rest:List Int):Int × Int × Int × List Int × Int × Int:=
 if kind=1 then (if (rest.length:Int) < 8 then no 21 else (num,kind,un (rest.take 8) 0,[],used+8,0))
 else if kind=5 then (if (rest.length:Int) < 4 then no 21 else (num,kind,un (rest.take 4) 0,[],used+4,0))
 else match tr rest 0 with
  | none=>no 10
  | some v=>if kind=0 then (num,kind,v.1,[],used+(v.2:Int),0) else if (rest.length:Int) - (v.2:Int) < v.1 then no 21
   else (num,kind,0,(rest.drop v.2).take v.1.toNat,used+(v.2:Int)+v.1,0)
def tk (l:List Int):Int × Int × Int × List Int × Int × Int:=
 match tr l 0 with
 | none=>no 10
 | some v=>if 4294967296≤v.1∨v.1 < 8∨¬ okKind (v.1 % 8) then no 20 else tkRest (v.1 / 8) (v.1 % 8) (v.2:Int) (l.drop v.2)
theorem bytes_drop {l:List Int} (h:Bytes l) (n:Nat):Bytes (l.drop n):=fun x hx=>h x (List.mem_of_mem_drop hx)
theorem bytes_take {l:List Int} (h:Bytes l) (n:Nat):Bytes (l.take n):=fun x hx=>h x (List.mem_of_mem_take hx)
theorem tkRest_ok {num kind:Int} {used:Nat} {rest:List Int} (hb:Bytes rest) (h:(tkRest num kind (used:Int) rest).2.2.2.2.2=0):(used:Int) < (tkRest num kind (used:Int) rest).2.2.2.2.1∧(tkRest num kind (used:Int) rest).2.2.2.2.1≤(used:Int)+(rest.length:Int):=by
 unfold tkRest at h ⊢
 by_cases h1:kind=1
 · rw [if_pos h1] at h ⊢
   by_cases h8:(rest.length:Int) < 8
   · rw [if_pos h8] at h;exact absurd h (by decide)
   · rw [if_neg h8]
     show (used:Int) < used+8∧(used:Int)+8≤_
     omega
 rw [if_neg h1] at h ⊢
 by_cases h5:kind=5
 · rw [if_pos h5] at h ⊢
   by_cases h8:(rest.length:Int) < 4
   · rw [if_pos h8] at h;exact absurd h (by decide)
   · rw [if_neg h8]
     show (used:Int) < used+4∧(used:Int)+4≤_
     omega
 rw [if_neg h5] at h ⊢
 cases e:tr rest 0 with
 | none=>rw [e] at h;exact absurd (show (10:Int)=0 from h) (by decide)
 | some v=>
  obtain ⟨v0,v1,v2,v3,v4⟩:=tr_64 hb e
  rw [e] at h
  dsimp only at h ⊢
  by_cases h0:kind=0
  · rw [if_pos h0]
    show (used:Int) < used+(v.2:Int)∧(used:Int)+(v.2:Int)≤_
    omega
  rw [if_neg h0] at h ⊢
  by_cases h3:(rest.length:Int) - (v.2:Int) < v.1
  · rw [if_pos h3] at h;exact absurd h (by decide)
  · rw [if_neg h3]
    show (used:Int) < used+(v.2:Int)+v.1∧(used:Int)+(v.2:Int)+v.1≤_
    omega
theorem tk_ok {l:List Int} (hb:Bytes l) (h:(tk l).2.2.2.2.2=0):0 < (tk l).2.2.2.2.1∧(tk l).2.2.2.2.1≤(l.length:Int):=by
 unfold tk at h ⊢
 cases e:tr l 0 with
 | none=>rw [e] at h;exact absurd (show (10:Int)=0 from h) (by decide)
 | some v=>
  obtain ⟨v0,v1,v2,v3,v4⟩:=tr_64 hb e
  rw [e] at h
  dsimp only at h ⊢
  by_cases hc:4294967296≤v.1∨v.1 < 8∨¬ okKind (v.1 % 8)
  · rw [if_pos hc] at h;exact absurd h (by decide)
  · rw [if_neg hc] at h ⊢
    have:=tkRest_ok (bytes_drop hb v.2) h
    rw [List.length_drop] at this
    omega
def rr {β:Type} (mk:Int→Int→Int→List Int→β) (l:List Int):Nat→Nat→List β→List β × Int × Int
 | 0,_,acc=>(acc,0,0)
 | d+1,i,acc=>if i < l.length then (if (tk (l.drop i)).2.2.2.2.2=0 then rr mk l d (i+(tk (l.drop i)).2.2.2.2.1.toNat) (acc++[mk (tk (l.drop i)).1 (tk (l.drop i)).2.1 (tk (l.drop i)).2.2.1 (tk (l.drop i)).2.2.2.1]) else ([],(i:Int),(tk (l.drop i)).2.2.2.2.2)) else (acc,0,0)
end Go.Proofs.Ytheoafenehckbaa.Wt
namespace Go.Proofs.Ytheoafenehckbaa.Wj
open Go.RowKit YtheoafenehckbaaW.PrintWords YtheoafenehckbaaW.PrintLast YtheoafenehckbaaW.PrintMore Vb Fx Wr Wt
end Go.Proofs.Ytheoafenehckbaa.Wj
