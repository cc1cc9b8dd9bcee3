/- What wire.Put appends, in plain words. -/
import Derived.Test.YtheoafenehckbaaQGUndescBackx2
import Derived.Test.YtheoafenehckbaaQA2
import Derived.Test.YtheoafenehckbaaQA1
namespace Go.Proofs.Ytheoafenehckbaa.Wp
open Go.RowKit GUndescBack YtheoafenehckbaaW.PrintWords YtheoafenehckbaaW.PrintLast YtheoafenehckbaaW.PrintMore Pt Vb Fx Wr
theorem put_l0 (d:Nat):∀ (k:Nat) (x:Int) (acc:List Int),0≤x→(vb x.toNat).length≤d+1→d < k→acc.length+d < 140737488355328→
 varint_Put.l0 k x acc=some (acc++vb x.toNat):=by
 induction d with
 | zero=>
  intro k x acc h0 hl hk ha
  obtain ⟨k,rfl⟩:∃ m,k=m+1:=⟨k - 1,by omega⟩
  have hx:x < 128:=by
   rcases Int.lt_or_le x 128 with h|h
   · exact h
   · rw [vb_large (by omega)] at hl
     have:=vb_pos (x.toNat / 128)
     simp only [List.length_cons] at hl
     omega
  simp only [varint_Put.l0]
  rw [if_pos (by omega),if_pos hx,vb_small (by omega)]
  congr 3
  omega
 | succ d ih=>
  intro k x acc h0 hl hk ha
  obtain ⟨k,rfl⟩:∃ m,k=m+1:=⟨k - 1,by omega⟩
  simp only [varint_Put.l0]
  rw [if_pos (by omega)]
  rcases Int.lt_or_le x 128 with hx|hx
  · rw [if_pos hx,vb_small (by omega)]
    congr 3
    omega
  · rw [if_neg (by omega)]
    have hv:=vb_large (n:=x.toNat) (by omega)
    have e:(x / 128).toNat=x.toNat / 128:=by omega
    rw [ih k (x / 128) _ (by omega) (by rw [hv] at hl;rw [e];simpa using hl) (by omega) (by simp only [List.length_append,List.length_cons,List.length_nil];omega),e,hv,or128 x h0]
    simp
theorem put_f (k:Nat) (x:Int) (h0:0≤x) (h1:x < 18446744073709551616) (hk:10≤k):varint_Put.f k x=some (vb x.toNat):=by
 have:=vb_ten x.toNat (by omega)
 have h:=put_l0 9 k x [] h0 (by omega) (by omega) (by simp)
 simpa [varint_Put.f] using h
theorem fixed_l0 (n:Int) (m:Nat) (hm:m≤8) (d:Nat):∀ (k i:Nat),i+d=m→d < k→
 varint_Fixed.l0 k n (fx n i++List.replicate (m - i) 0) (m:Int) (i:Int)=some (fx n m):=by
 induction d with
 | zero=>
  intro k i hd hk
  obtain ⟨k,rfl⟩:∃ q,k=q+1:=⟨k - 1,by omega⟩
  obtain rfl:i=m:=by omega
  simp only [varint_Fixed.l0]
  rw [if_neg (by omega),Nat.sub_self]
  simp
 | succ d ih=>
  intro k i hd hk
  obtain ⟨k,rfl⟩:∃ q,k=q+1:=⟨k - 1,by omega⟩
  have hl:(fx n i++List.replicate (m - i) 0).length=m:=by rw [List.length_append,fx_length,List.length_replicate];omega
  have ew:wrap64 (8*(i:Int))=((8*i:Nat):Int):=by unfold wrap64;omega
  have ei:wrap64 ((i:Int)+1)=((i+1:Nat):Int):=by unfold wrap64;omega
  simp only [varint_Fixed.l0]
  rw [if_pos (by omega),ew,ei,if_pos (by omega),if_pos (by omega),if_pos (by omega)]
  have es:shr .u64 n ((8*i:Nat):Int) % 256=fxb n i:=by
   unfold shr fxb
   rw [Int.toNat_natCast,show min (8*i) IntKind.u64.bits=8*i from Nat.min_eq_left (by show 8*i≤64;omega)]
  rw [es,Int.toNat_natCast,fx_set n m i (by omega)]
  exact ih k (i+1) (by omega) (by omega)
theorem fixed_f (k:Nat) (n s:Int) (hk:9≤k):varint_Fixed.f k n s=some (fx n (mn (mx s 0) 8).toNat):=by
 have hb:0≤mn (mx s 0) 8∧mn (mx s 0) 8≤8:=by unfold mn mx;split <;> split <;> omega
 unfold varint_Fixed.f
 rw [if_pos hb.1,if_pos (by omega)]
 simp only [Option.bind_some]
 have h:=fixed_l0 n (mn (mx s 0) 8).toNat (by omega) (mn (mx s 0) 8).toNat k 0 (by omega) (by omega)
 rw [List.length_replicate]
 simpa [fx] using h
theorem put_wire (k:Nat) (num kind n:Int) (b:List Int) (m0 : -9223372036854775808≤num) (m1:num < 9223372036854775808) (n0:0≤n) (n1:n < 18446744073709551616) (hb:b.length≤140737488351232) (hk:11≤k) :
 wire_Put.f k num kind n b=some (pt num kind n b):=by
 obtain ⟨k,rfl⟩:∃ q,k=q+1:=⟨k - 1,by omega⟩
 have hj:∀ x4:Int,wire_Put.j0 (k+1) x4 true num kind n b=some ([],20):=fun x4=>by simp only [wire_Put.j0];rfl
 have hv:=vb_ten n.toNat (by omega)
 have hvb:=vb_ten b.length (by omega)
 unfold wire_Put.f
 by_cases hkd:okKind kind
 · by_cases hn:1≤num∧num≤536870911
   · have hok:okField num kind:=⟨hn.1,hn.2,hkd⟩
     have ht:∀ x4:Int,(kind=1→x4=8)→(kind=5→x4=4)→(kind=0→x4=0)→(kind=2→x4=0)→wire_Put.j0 (k+1) x4 false num kind n b=some (pt num kind n b):=by
      intro x4 h1 h5 h0 h2
      have kb:0≤kind∧kind < 8:=by unfold okKind at hkd;omega
      have hT:=vb_ten (8*num+kind).toNat (by omega)
      simp only [wire_Put.j0]
      rw [if_neg (by decide),or8 num kind (by omega) hn.2 kb.1 kb.2,put_f k _ (by omega) (by omega) (by omega)]
      simp only [Option.bind_some,pt,if_pos hok,field,worth]
      rcases hkd with rfl|rfl|rfl|rfl
      · rw [h0 rfl,if_neg (by omega),if_pos rfl,if_pos rfl,put_f k n n0 n1 (by omega)]
        simp only [Option.bind_some]
        rw [if_pos (by omega)]
      · rw [h1 rfl,if_pos (by omega),if_neg (by omega),if_pos rfl,fixed_f k n 8 (by omega)]
        simp only [Option.bind_some]
        rw [show (mn (mx 8 0) 8).toNat=8 from by decide,if_pos (by rw [fx_length];omega)]
      · rw [h2 rfl,if_neg (by omega),if_neg (by omega),if_neg (by omega),if_neg (by omega),if_neg (by omega),wrap_u64_in _ (by omega) (by omega),put_f k _ (by omega) (by omega) (by omega)]
        simp only [Option.bind_some,Int.toNat_natCast]
        rw [if_pos (by omega)]
        rw [if_pos (by rw [List.length_append];omega),List.append_assoc]
      · rw [h5 rfl,if_pos (by omega),if_neg (by omega),if_neg (by omega),if_pos rfl,fixed_f k n 4 (by omega)]
        simp only [Option.bind_some]
        rw [show (mn (mx 4 0) 8).toNat=4 from by decide,if_pos (by rw [fx_length];omega)]
     unfold wire_kind.f
     rcases hkd with rfl|rfl|rfl|rfl
     all_goals
      simp only [if_true,if_false,Option.bind_some,Int.reduceEq]
      rw [if_neg (show ¬ num < 1 by omega),show decide (num > 536870911)=false from decide_eq_false (by omega)]
      exact ht _ (by simp) (by simp) (by simp) (by simp)
   · have hno:¬ okField num kind:=fun h=>hn ⟨h.1,h.2.1⟩
     have hp:pt num kind n b=([],20):=by unfold pt;rw [if_neg hno]
     rw [hp]
     have hx:∀ x4:Int,(if num < 1 then wire_Put.j0 (k+1) x4 true num kind n b else wire_Put.j0 (k+1) x4 (decide (num > 536870911)) num kind n b)=some ([],20):=by
      intro x4
      by_cases h1:num < 1
      · rw [if_pos h1];exact hj x4
      · rw [if_neg h1,show decide (num > 536870911)=true from decide_eq_true (by omega)];exact hj x4
     unfold wire_kind.f
     rcases hkd with rfl|rfl|rfl|rfl
     all_goals
      simp only [if_true,if_false,Option.bind_some,Int.reduceEq]
      exact hx _
 · have hno:¬ okField num kind:=fun h=>hkd h.2.2
   have hp:pt num kind n b=([],20):=by unfold pt;rw [if_neg hno]
   unfold okKind at hkd
   unfold wire_kind.f
   rw [hp,if_neg (by omega),if_neg (by omega),if_neg (by omega),if_neg (by omega)]
   simp only [Option.bind_some]
   rw [if_neg (by decide)]
   exact hj _
end Go.Proofs.Ytheoafenehckbaa.Wp
