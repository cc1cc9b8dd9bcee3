/- Words: QUq, QUrp, QUwp, QUsp, QAw1. -/
import Derived.Test.YtheoafenehckbaaQWp
import Derived.Test.YtheoafenehckbaaQA1
import Derived.Test.YtheoafenehckbaaQSw
import Derived.LoopN
import Derived.RegionTactic
import Derived.FnLit
import Derived.Test.YtheoafenehckbaaQSh
import Derived.WalkLawsBesides
namespace Go.Proofs.Ytheoafenehckbaa.Uq
open Go.RowKit GUndescBack YtheoafenehckbaaW.PrintWords YtheoafenehckbaaW.PrintLast YtheoafenehckbaaW.PrintMore Tk Cl Fl Vb Fx Wr Wt Wj Wp
set_option linter.unusedVariables false
theorem take_l0 (l:List Int) (hb:Bytes l) (d:Nat):∀ (k i:Nat) (x:Int),i+d=10→i≤l.length→0≤x→x < 128 ^ i→d < k→
 varint_Take.l0 k l x (i:Int)=some (told x (tr (l.drop i) i)):=by
 induction d with
 | zero=>
  intro k i x hd hi h0 h1 hk
  obtain ⟨k,rfl⟩:∃ m,k=m+1:=⟨k - 1,by omega⟩
  simp only [varint_Take.l0]
  rw [if_pos (by omega),if_pos (by omega)]
  rcases Nat.lt_or_ge i l.length with h|h
  · rw [if_neg (by omega),if_pos (by omega),rd_drop h]
    simp only [tr]
    rw [if_pos (by omega)]
    rfl
  · rw [if_pos (by omega),List.drop_of_length_le h]
    rfl
 | succ d ih=>
  intro k i x hd hi h0 h1 hk
  obtain ⟨k,rfl⟩:∃ m,k=m+1:=⟨k - 1,by omega⟩
  simp only [varint_Take.l0]
  rw [if_pos (by omega),if_pos (by omega)]
  rcases Nat.lt_or_ge i l.length with h|h
  · have hc:=hb.rd (i:Int)
    rw [if_neg (by omega),if_neg (by omega),if_pos (by omega),rd_drop h]
    simp only [tr]
    rw [if_neg (show ¬ 10≤i by omega)]
    by_cases h9:i=9∧1 < rd l (i:Int)
    · rw [if_pos (by omega),if_pos h9];rfl
    · rw [if_neg (by omega),if_neg h9]
      obtain ⟨e1,e2,e3⟩:=or_add x (rd l (i:Int)) i h0 h1 hc.1 hc.2 (by omega) (fun h=>by omega)
      have e7:(7*(i:Int)).toNat=7*i:=by omega
      rw [e7,e1]
      have h128:=and128 (rd l (i:Int)) hc.1 hc.2
      by_cases hs:rd l (i:Int) < 128
      · rw [if_pos (by rw [h128];exact hs),if_pos hs]
        simp only [told]
        rw [Int.emod_eq_of_lt hc.1 hs]
        rfl
      · rw [if_neg (by rw [h128];exact hs),if_neg hs]
        have hge:0≤rd l (i:Int) % 128*128 ^ i:=Int.mul_nonneg (by omega) (Int.le_of_lt (Int.pow_pos (by decide)))
        rw [show (i:Int)+1=((i+1:Nat):Int) from rfl,ih k (i+1) _ (by omega) (by omega) (by omega) e2 (by omega)]
        cases tr (l.drop (i+1)) (i+1) with
        | none=>rfl
        | some v=>simp [told,Int.add_assoc]
  · rw [if_pos (by omega),List.drop_of_length_le h]
    rfl
theorem take_f (k:Nat) (l:List Int) (hb:Bytes l) (hk:11≤k):varint_Take.f k l=some (told 0 (tr l 0)):=by
 have h:=take_l0 l hb 10 k 0 0 (by omega) (by omega) (by omega) (by simp) (by omega)
 simpa [varint_Take.f] using h
theorem unfixed_l0 (l:List Int) (hb:Bytes l) (m:Nat) (hm:m≤8) (hl:m≤l.length) (h8:m=8∨m=l.length) (d:Nat):∀ (k i:Nat) (x:Int),i+d=m→0≤x→x < 256 ^ i→d < k→
 varint_Unfixed.l0 k l x (m:Int) (i:Int)=some (x+un (l.drop i) i):=by
 induction d with
 | zero=>
  intro k i x hd h0 h1 hk
  obtain ⟨k,rfl⟩:∃ q,k=q+1:=⟨k - 1,by omega⟩
  obtain rfl:i=m:=by omega
  simp only [varint_Unfixed.l0]
  rw [if_neg (by omega)]
  rcases h8 with h|h
  · rw [un_nine _ _ (by omega),Int.add_zero]
  · rw [List.drop_of_length_le (by omega)]
    simp [un]
 | succ d ih=>
  intro k i x hd h0 h1 hk
  obtain ⟨k,rfl⟩:∃ q,k=q+1:=⟨k - 1,by omega⟩
  have hc:=hb.rd (i:Int)
  have ew:wrap64 (8*(i:Int))=((8*i:Nat):Int):=by unfold wrap64;omega
  have ei:wrap64 ((i:Int)+1)=((i+1:Nat):Int):=by unfold wrap64;omega
  simp only [varint_Unfixed.l0]
  rw [if_pos (by omega),if_pos (by omega),if_pos (by omega),ew,ei,if_pos (by omega)]
  have es:shl .u64 (IntKind.u64.wrap (rd l (i:Int))) ((8*i:Nat):Int)=IntKind.u64.wrap (IntKind.u64.wrap (rd l (i:Int))*2 ^ (8*i)):=by
   unfold shl
   rw [Int.toNat_natCast,show min (8*i) IntKind.u64.bits=8*i from Nat.min_eq_left (by show 8*i≤64;omega)]
  obtain ⟨e1,e2,e3⟩:=or_fix x (rd l (i:Int)) i h0 h1 hc.1 hc.2 (by omega)
  rw [es,e1,ih k (i+1) _ (by omega) e3 e2 (by omega),rd_drop (l:=l) (i:=i) (by omega)]
  simp only [un]
  rw [if_neg (by omega),Int.add_assoc]
theorem unfixed_f (k:Nat) (l:List Int) (hb:Bytes l) (hk:9≤k):varint_Unfixed.f k l=some (un l 0):=by
 obtain ⟨m,e,h1,h2,h3⟩:∃ m:Nat,mn (l.length:Int) 8=(m:Int)∧m≤8∧m≤l.length∧(m=8∨m=l.length):=by
  unfold mn
  split
  · exact ⟨8,rfl,by omega,by omega,.inl rfl⟩
  · exact ⟨l.length,rfl,by omega,by omega,.inr rfl⟩
 have h:=unfixed_l0 l hb m h1 h2 h3 m k 0 0 (by omega) (by omega) (by simp) (by omega)
 unfold varint_Unfixed.f
 rw [e]
 simpa using h
def ks (kind:Int):Int:=if kind=1 then 8 else if kind=5 then 4 else 0
theorem wkind_f (kind:Int):wire_kind.f kind=some (ks kind,decide (okKind kind)):=by
 unfold wire_kind.f ks
 have e:decide (okKind kind)=decide (kind=0∨kind=1∨kind=2∨kind=5):=decide_eq_decide.2 Iff.rfl
 rw [e]
 by_cases h1:kind=1
 · subst h1;rfl
 by_cases h5:kind=5
 · subst h5;rfl
 by_cases h0:kind=0
 · subst h0;rfl
 by_cases h2:kind=2
 · subst h2;rfl
 rw [if_neg h1,if_neg h5,if_neg h0,if_neg h2,if_neg h1,if_neg h5,decide_eq_false (by omega)]
theorem wtake_j0 (k:Nat) (l:List Int) (hb:Bytes l) (hl:l.length < 140737488355328) (m:Nat) (hm:m≤l.length) (num kind:Int) (_hkind:okKind kind) (hk:12≤k) :
 wire_Take.j0 (k+1) l (m:Int) (ks kind) false num kind 0=some (tkRest num kind (m:Int) (l.drop m)):=by
 have hbd:=bytes_drop hb m
 have hld:(l.drop m).length=l.length - m:=List.length_drop
 simp only [wire_Take.j0,Bool.false_eq_true,if_false,Int.toNat_natCast]
 rw [if_pos (by omega),if_pos (by omega)]
 simp only [Option.bind_some]
 unfold tkRest ks
 generalize hrest:l.drop m=rest at hbd hld ⊢
 by_cases h1:kind=1
 · rw [if_pos h1,if_pos h1,if_pos (by omega)]
   by_cases h8:(rest.length:Int) < 8
   · rw [if_pos h8,if_pos h8];rfl
   · rw [if_neg h8,if_neg h8,if_pos (by omega),if_pos (by omega),show (8:Int).toNat=8 from rfl,unfixed_f k _ (bytes_take hbd 8) (by omega),wrap64_in _ (by omega) (by omega)]
     rfl
 rw [if_neg h1,if_neg h1]
 by_cases h5:kind=5
 · rw [if_pos h5,if_pos h5,if_pos (by omega)]
   by_cases h8:(rest.length:Int) < 4
   · rw [if_pos h8,if_pos h8];rfl
   · rw [if_neg h8,if_neg h8,if_pos (by omega),if_pos (by omega),show (4:Int).toNat=4 from rfl,unfixed_f k _ (bytes_take hbd 4) (by omega),wrap64_in _ (by omega) (by omega)]
     rfl
 rw [if_neg h5,if_neg h5,if_neg (by omega),take_f k rest hbd (by omega)]
 cases e:tr rest 0 with
 | none=>rfl
 | some v=>
  obtain ⟨v0,v1,v2,v3,v4⟩:=tr_64 hbd e
  rw [show told 0 (some v)=(v.1,(v.2:Int),0) from by rw [told,Int.zero_add],Option.bind_some]
  dsimp only
  rw [if_pos rfl]
  by_cases h0:kind=0
  · rw [if_pos h0,if_pos h0,wrap64_in _ (by omega) (by omega)]
  rw [if_neg h0,if_neg h0,wrap64_in ((rest.length:Int) - (v.2:Int)) (by omega) (by omega),wrap_u64_in _ (by omega) (by omega)]
  by_cases h3:(rest.length:Int) - (v.2:Int) < v.1
  · rw [if_pos h3,if_pos h3];rfl
  · rw [if_neg h3,if_neg h3,wrap64_in v.1 (by omega) (by omega),wrap64_in ((v.2:Int)+v.1) (by omega) (by omega),if_pos (by omega),if_pos (by omega),if_pos (by omega)]
    unfold bytes_Clone.f
    simp only [Option.bind_some,List.nil_append,Int.toNat_natCast,List.length_nil]
    rw [if_pos (by rw [List.length_drop,List.length_take];omega),wrap64_in ((m:Int)+(v.2:Int)) (by omega) (by omega),wrap64_in ((m:Int)+(v.2:Int)+v.1) (by omega) (by omega),List.drop_take,show ((v.2:Int)+v.1).toNat - v.2=v.1.toNat from by omega]
    simp only [Option.bind_some]
theorem wtake_f (k:Nat) (l:List Int) (hb:Bytes l) (hl:l.length < 140737488355328) (hk:14≤k):wire_Take.f k l=some (tk l):=by
 obtain ⟨k,rfl⟩:∃ q,k=q+1:=⟨k - 1,by omega⟩
 unfold wire_Take.f tk
 rw [take_f (k+1) l hb (by omega)]
 cases e:tr l 0 with
 | none=>
  simp only [Option.bind_some,told]
  rw [if_neg (by decide)]
  rfl
 | some v=>
  obtain ⟨v0,v1,v2,v3,v4⟩:=tr_64 hb e
  rw [show told 0 (some v)=(v.1,(v.2:Int),0) from by rw [told,Int.zero_add],Option.bind_some]
  dsimp only
  rw [if_pos rfl,and7 _ v0 v1,wrap64_in (v.1 % 8) (by omega) (by omega),wkind_f,wrap64_in (v.1 / 8) (by omega) (by omega)]
  simp only [Option.bind_some]
  have bad:∀ a,wire_Take.j0 (k+1) l (v.2:Int) a true (v.1 / 8) (v.1 % 8) 0=some (no 20):=fun a=>by simp only [wire_Take.j0,if_true,no]
  by_cases h1:4294967296≤v.1
  · rw [if_neg (by omega),bad,if_pos (.inl h1)]
  rw [if_pos (by omega)]
  by_cases h2:v.1 < 8
  · rw [if_pos (by omega),bad,if_pos (.inr (.inl h2))]
  rw [if_neg (by omega)]
  by_cases h3:okKind (v.1 % 8)
  · rw [decide_eq_true h3,Bool.not_true,wtake_j0 k l hb hl v.2 v3 _ _ h3 (by omega),if_neg (fun h=>h.elim h1 (fun h=>h.elim h2 (fun h=>h h3)))]
  · rw [decide_eq_false h3,Bool.not_false,bad,if_pos (.inr (.inr h3))]
theorem rdl_rr {β:Type} (mk:Int→Int→Int→List Int→β) (tf:Nat→List Int→Option (Int × Int × Int × List Int × Int × Int)) (ht:∀ k l,Bytes l→l.length < 140737488355328→36≤k→tf k l=some (tk l)) (l:List Int) (hb:Bytes l) (hl:l.length < 4294967296) (d:Nat) :
 ∀ (k i:Nat) (acc:List β),i≤l.length→l.length≤i+d→d+40≤k→acc.length≤i→In.rdl mk tf l k acc (i:Int)=some (rr mk l d i acc):=by
 induction d with
 | zero=>
  intro k i acc h1 h2 h3 h4
  obtain ⟨k,rfl⟩:∃ q,k=q+1:=⟨k - 1,by omega⟩
  simp only [In.rdl,rr]
  rw [if_neg (by omega)]
 | succ d ih=>
  intro k i acc h1 h2 h3 h4
  obtain ⟨k,rfl⟩:∃ q,k=q+1:=⟨k - 1,by omega⟩
  simp only [In.rdl,rr]
  by_cases h:i < l.length
  · rw [if_pos (by omega),if_pos (by omega),if_pos h,Int.toNat_natCast,ht k _ (bytes_drop hb i) (by rw [List.length_drop];omega) (by omega)]
    simp only [Option.bind_some]
    by_cases he:(tk (l.drop i)).2.2.2.2.2=0
    · have hm:=tk_ok (bytes_drop hb i) he
      rw [List.length_drop] at hm
      rw [if_pos he,if_pos he,if_pos (by omega),wrap64_in _ (by omega) (by omega),show (i:Int)+(tk (l.drop i)).2.2.2.2.1=((i+(tk (l.drop i)).2.2.2.2.1.toNat:Nat):Int) from by omega]
      exact ih k _ _ (by omega) (by omega) (by omega) (by rw [List.length_append,List.length_singleton];omega)
    · rw [if_neg he,if_neg he]
  · rw [if_neg (by omega),if_neg h]
def mkRaw (a b c:Int) (d:List Int):S97:=⟨a,b,c,d⟩
theorem wread_f (k:Nat) (l:List Int) (hb:Bytes l) (hl:l.length < 4294967296) (hk:l.length+40≤k):wire_Read.f k l=some (rr mkRaw l l.length 0 []):=
 rdl_rr _ _ (fun k l hb hl hk=>wtake_f k l hb hl (by omega)) l hb hl l.length k 0 [] (by omega) (by omega) (by omega) (by simp)
structure RawOk (r:S97):Prop where
 num:1≤r.f0∧r.f0≤536870911
 kind:okKind r.f1
 n:0≤r.f2∧r.f2 < 18446744073709551616
 b:Bytes r.f3
 pure:r.f1≠2→r.f3=[]
 none:r.f1=2→r.f2=0
 i32:r.f1=5→r.f2 < 4294967296
theorem un_le (l:List Int):∀ i,i≤8→Bytes l→0≤un l i∧un l i+256 ^ i≤256 ^ 8∧(i+l.length≤8→un l i+256 ^ i≤256 ^ (i+l.length)):=by
 induction l with
 | nil=>
  intro i hi _
  refine ⟨by simp [un],?_,fun _=>by simp [un]⟩
  have:=Int.ofNat_le.2 (Nat.pow_le_pow_right (n:=256) (by omega) hi)
  rw [Int.natCast_pow,Int.natCast_pow] at this
  simp only [un,Int.zero_add]
  exact this
 | cons c r ih=>
  intro i hi hb
  have hc:=hb c (List.mem_cons_self ..)
  have hr:Bytes r:=fun x hx=>hb x (List.mem_cons_of_mem _ hx)
  have hp:(0:Int) < 256 ^ i:=Int.pow_pos (by decide)
  by_cases h8:8≤i
  · obtain rfl:i=8:=by omega
    have e:un (c :: r) 8=0:=by rw [un,if_pos (by decide)]
    rw [e]
    refine ⟨by decide,by simp,fun h=>?_⟩
    rw [List.length_cons] at h
    omega
  · have e:un (c :: r) i=c*256 ^ i+un r (i+1):=by rw [un,if_neg h8]
    have hs:(256:Int) ^ (i+1)=256 ^ i*256:=Int.pow_succ ..
    have ⟨k0,k1,k2⟩:=ih (i+1) (by omega) hr
    have hle:c*256 ^ i≤255*256 ^ i:=Int.mul_le_mul_of_nonneg_right (by omega) (by omega)
    have hge:0≤c*256 ^ i:=Int.mul_nonneg hc.1 (by omega)
    rw [e]
    rw [hs] at k1 k2
    refine ⟨by omega,by omega,fun h=>?_⟩
    rw [List.length_cons] at h ⊢
    have k3:=k2 (by omega)
    rw [show i+(r.length+1)=i+1+r.length from by omega]
    omega
theorem un_bound (l:List Int) (hb:Bytes l):0≤un l 0∧un l 0 < 18446744073709551616∧(l.length=4→un l 0 < 4294967296):=by
 have ⟨h0,h1,h2⟩:=un_le l 0 (by decide) hb
 have e8:(256:Int) ^ 8=18446744073709551616:=by decide
 have e0:(256:Int) ^ 0=1:=by decide
 rw [e0] at h1 h2
 rw [e8] at h1
 refine ⟨h0,by omega,fun h4=>?_⟩
 rw [h4] at h2
 have e4:(256:Int) ^ (0+4)=4294967296:=by decide
 rw [e4] at h2
 have:=h2 (by decide)
 omega
theorem tk_raw {l:List Int} (hb:Bytes l) (h:(tk l).2.2.2.2.2=0):RawOk (mkRaw (tk l).1 (tk l).2.1 (tk l).2.2.1 (tk l).2.2.2.1)∧((tk l).2.2.2.1.length:Int)+1≤(tk l).2.2.2.2.1:=by
 unfold tk at h ⊢
 cases e:tr l 0 with
 | none=>rw [e] at h;exact absurd (show (10:Int)=0 from h) (by decide)
 | some v=>
  obtain ⟨v0,v1,v2,v3,v4⟩:=tr_64 hb e
  rw [e] at h
  dsimp only at h ⊢
  by_cases hc:4294967296≤v.1∨v.1 < 8∨¬ okKind (v.1 % 8)
  · rw [if_pos hc] at h;exact absurd h (by decide)
  · rw [if_neg hc] at h ⊢
    have hnum:1≤v.1 / 8∧v.1 / 8≤536870911:=by omega
    have hkd:okKind (v.1 % 8):=Classical.byContradiction fun hn=>hc (.inr (.inr hn))
    have hbd:=bytes_drop hb v.2
    clear hc e
    generalize hk:v.1 % 8=kind at h hkd ⊢
    generalize v.1 / 8=num at h hnum ⊢
    generalize l.drop v.2=rest at h hbd ⊢
    unfold tkRest at h ⊢
    by_cases h1:kind=1
    · rw [if_pos h1] at h ⊢
      by_cases h8:(rest.length:Int) < 8
      · rw [if_pos h8] at h;exact absurd h (by decide)
      · rw [if_neg h8]
        have hu:=un_bound (rest.take 8) (bytes_take hbd 8)
        exact ⟨⟨hnum,hkd,⟨hu.1,hu.2.1⟩,(fun x hx=>by cases hx),fun _=>rfl,(fun h2=>by have:kind=2:=h2;omega),(fun h2=>by have:kind=5:=h2;omega)⟩,by show ((([]:List Int).length:Nat):Int)+1≤(v.2:Int)+8;simp;omega⟩
    rw [if_neg h1] at h ⊢
    by_cases h5:kind=5
    · rw [if_pos h5] at h ⊢
      by_cases h8:(rest.length:Int) < 4
      · rw [if_pos h8] at h;exact absurd h (by decide)
      · rw [if_neg h8]
        have hu:=un_bound (rest.take 4) (bytes_take hbd 4)
        have hl4:(rest.take 4).length=4:=by rw [List.length_take];omega
        exact ⟨⟨hnum,hkd,⟨hu.1,hu.2.1⟩,(fun x hx=>by cases hx),fun _=>rfl,(fun h2=>by have:kind=2:=h2;omega),fun _=>hu.2.2 hl4⟩,by show ((([]:List Int).length:Nat):Int)+1≤(v.2:Int)+4;simp;omega⟩
    rw [if_neg h5] at h ⊢
    cases e:tr rest 0 with
    | none=>rw [e] at h;exact absurd (show (10:Int)=0 from h) (by decide)
    | some u=>
     obtain ⟨u0,u1,u2,u3,u4⟩:=tr_64 hbd e
     rw [e] at h
     dsimp only at h ⊢
     by_cases h0:kind=0
     · rw [if_pos h0]
       exact ⟨⟨hnum,hkd,⟨u0,u1⟩,(fun x hx=>by cases hx),fun _=>rfl,(fun h2=>by have:kind=2:=h2;omega),(fun h2=>by have:kind=5:=h2;omega)⟩,by show ((([]:List Int).length:Nat):Int)+1≤(v.2:Int)+(u.2:Int);simp;omega⟩
     rw [if_neg h0] at h ⊢
     by_cases h3:(rest.length:Int) - (u.2:Int) < u.1
     · rw [if_pos h3] at h;exact absurd h (by decide)
     · rw [if_neg h3]
       refine ⟨⟨hnum,hkd,⟨Int.le_refl 0,show (0:Int) < 18446744073709551616 from by decide⟩,bytes_take (bytes_drop hbd u.2) _,fun h2=>absurd (show kind=2 by unfold okKind at hkd;omega) h2,fun _=>rfl,(fun h2=>by have:kind=5:=h2;omega)⟩,?_⟩
       show ((((rest.drop u.2).take u.1.toNat).length:Nat):Int)+1≤(v.2:Int)+(u.2:Int)+u.1
       rw [List.length_take,List.length_drop]
       omega
def wt (l:List S97):Nat:=(l.map fun r=>r.f3.length+1).sum
theorem wt_cons (r:S97) (l:List S97):wt (r :: l)=r.f3.length+1+wt l:=by unfold wt;rw [List.map_cons,List.sum_cons]
theorem wt_snoc (l:List S97) (r:S97):wt (l++[r])=wt l+(r.f3.length+1):=by unfold wt;rw [List.map_append,List.sum_append];simp
theorem wt_len (l:List S97):l.length≤wt l:=by
 induction l with
 | nil=>exact Nat.zero_le _
 | cons r l ih=>rw [wt_cons,List.length_cons];omega
theorem rr_raws (b:List Int) (hb:Bytes b) (d:Nat):∀ (i:Nat) (acc:List S97),i≤b.length→(∀ r∈acc,RawOk r)→wt acc≤i→(∀ r∈(rr mkRaw b d i acc).1,RawOk r)∧wt (rr mkRaw b d i acc).1≤b.length:=by
 induction d with
 | zero=>intro i acc h1 h2 h3;exact ⟨h2,by simp only [rr];omega⟩
 | succ d ih=>
  intro i acc h1 h2 h3
  simp only [rr]
  by_cases h:i < b.length
  · rw [if_pos h]
    by_cases he:(tk (b.drop i)).2.2.2.2.2=0
    · have hm:=tk_ok (bytes_drop hb i) he
      have ⟨hr,hn⟩:=tk_raw (bytes_drop hb i) he
      rw [List.length_drop] at hm
      rw [if_pos he]
      refine ih _ _ (by omega) (fun r hr'=>?_) ?_
      · rcases List.mem_append.1 hr' with hr'|hr'
        · exact h2 r hr'
        · rw [List.mem_singleton.1 hr'];exact hr
      · rw [wt_snoc]
        show wt acc+((tk (b.drop i)).2.2.2.1.length+1)≤_
        omega
    · rw [if_neg he]
      exact ⟨fun r hr=>(by cases hr),Nat.zero_le _⟩
  · rw [if_neg h]
    exact ⟨h2,by show wt acc≤_;omega⟩
def raws (b:List Int):List S97 × Int × Int:=rr mkRaw b b.length 0 []
theorem raws_ok (b:List Int) (hb:Bytes b):(∀ r∈(raws b).1,RawOk r)∧wt (raws b).1≤b.length:=rr_raws b hb b.length 0 [] (Nat.zero_le _) (fun r h=>by cases h) (Nat.zero_le _)
def foldU {σ:Type} (step:σ→S97→Except Int (σ × Bool)):List S97→σ→List Int→Except Int (σ × List Int)
 | [],s,kept=>.ok (s,kept)
 | r :: l,s,kept=>match step s r with
  | .error n=>.error n
  | .ok p=>foldU step l p.1 (if p.2=true then kept else kept++(pt r.f0 r.f1 r.f2 r.f3).1)
def readU {σ:Type} (step:σ→S97→Except Int (σ × Bool)) (b:List Int) (s:σ):Except Int (σ × List Int):=if (raws b).2.2≠0 then .error (raws b).2.2 else foldU step (raws b).1 s []
theorem put_raw (r:S97) (h:RawOk r) (hl:r.f3.length < 4294967296):wire_Put.f 11 r.f0 r.f1 r.f2 r.f3=some ((pt r.f0 r.f1 r.f2 r.f3).1,(pt r.f0 r.f1 r.f2 r.f3).2):=
 put_wire 11 r.f0 r.f1 r.f2 r.f3 (by have:=h.num;omega) (by have:=h.num;omega) h.n.1 h.n.2 (by omega) (Nat.le_refl _)
theorem pt_len (r:S97) (h:RawOk r) (hl:r.f3.length < 4294967296):(pt r.f0 r.f1 r.f2 r.f3).1.length≤20*(r.f3.length+1):=by
 have hok:okField r.f0 r.f1:=⟨h.num.1,h.num.2,h.kind⟩
 unfold pt
 rw [if_pos hok]
 have:=field_length r.f0 r.f1 r.f2 r.f3 hok h.n.1 h.n.2 (by omega)
 show (field r.f0 r.f1 r.f2 r.f3).length≤_
 omega
end Go.Proofs.Ytheoafenehckbaa.Uq
namespace Go.Proofs.Ytheoafenehckbaa.Ur
open Go.RowKit GUndescBack YtheoafenehckbaaW.PrintWords YtheoafenehckbaaW.PrintLast YtheoafenehckbaaW.PrintMore Vb Fx Wr Wt Wj Wp Uq
set_option linter.unusedVariables false
set_option linter.unusedSimpArgs false
def thrown (n:Int):Ending:=.panicked [{ v:=.iface 103 (.agg #[.int .i64 n]),recovered:=false }]
def own_ (n:Nat):Prop:=(1≤n∧n≤99)∨n=999
theorem not_own_0:¬ own_ 0:=by unfold own_;omega
theorem not_own_1000:¬ own_ 1000:=by unfold own_;omega
def Took {σ:Type} (T:(Nat→Nat)→σ→World→Prop) (W0:World) (f:Nat→Nat) (W:World) (e:Ending) (W':World):Except Int (σ × Bool)→Prop
 | .error n=>e=thrown n∧Below W0.heap.size W0 W'
 | .ok p=>e = .returned (.bool p.2)∧W.heap.size≤W'.heap.size∧Below W0.heap.size W0 W'∧(∀ k,k < W.heap.size→¬ own_ (f k)→W'.heap[k]?=W.heap[k]?)∧∃ f':Nat→Nat,(∀ k,k < W.heap.size→f' k=f k)∧T f' p.1 W'
structure Taker {σ:Type} (step:σ→S97→Except Int (σ × Bool)) (cnt:σ→Nat) (T:(Nat→Nat)→σ→World→Prop) (W0:World) (F:Nat) (first cap:Array Value) (Pr:S97→Prop):Prop where
 enters:∀ args w,Sem.run Try.prog (callFunc F args) w = .ok (.enter F args) w
 move:∀ f f' s W W',T f s W→(∀ k,k < W.heap.size→f' k=f k)→(∀ k,k < W.heap.size→f k < 1000→W'.heap[k]?=W.heap[k]?)→W.heap.size≤W'.heap.size→T f' s W'
 up:∀ s r p,step s r = .ok p→cnt p.1≤cnt s+1
 call:∀ f s W (r:S97) A c,T f s W→Below W0.heap.size W0 W→RawOk r→Pr r→r.f3.length < 4294967296→cnt s < 4294967296→r.f3.length≤c→Kd.F (Kd.int .u8) W (fun k=>f k=0) A r.f3.length r.f3→
  Calls Try.prog F (first.push (.agg #[.int .i64 r.f0,.int .i64 r.f1,.int .u64 r.f2,.slice A r.f3.length c])++cap) W fun e W'=>Took T W0 f W e W' (step s r)
def Reads {σ:Type} (T:(Nat→Nat)→σ→World→Prop) (W0:World) (f:Nat→Nat) (W:World) (e:Ending) (W':World):Except Int (σ × List Int)→Prop
 | .error n=>e=thrown n∧Below W0.heap.size W0 W'
 | .ok p=>W.heap.size≤W'.heap.size∧Below W0.heap.size W0 W'∧(∀ k,k < W.heap.size→¬ own_ (f k)→W'.heap[k]?=W.heap[k]?)∧∃ (f':Nat→Nat) (v:Value),e = .returned v∧(∀ k,k < W.heap.size→f' k=f k)∧T f' p.1 W'∧Kd.R (Kd.int .u8) 5 W' W0.heap.size (fun k=>f' k=1000) v p.2
def mix (f:Nat→Nat) (n:Nat):Nat→Nat:=fun k=>if k < n then f k else 0
theorem mix_lt {f:Nat→Nat} {n k:Nat} (h:k < n):mix f n k=f k:=if_pos h
theorem mix_ge {f:Nat→Nat} {n k:Nat} (h:n≤k):mix f n k=0:=if_neg (by omega)
theorem num_step (i n:Nat) (h:i < n) (hn:n < 9223372036854775807):wrap64 ((i:Int)+1)=((i+1:Nat):Int):=by unfold wrap64;omega
theorem dec_lt {i n:Nat} (h:i < n):decide ((i:Int) < (n:Int))=true:=decide_eq_true (by omega)
theorem dec_ge {i n:Nat} (h:¬ i < n):decide ((i:Int) < (n:Int))=false:=decide_eq_false (by omega)
theorem fold_next {σ:Type} (step:σ→S97→Except Int (σ × Bool)) (l:List S97) (i:Nat) (h:i < l.length) (s:σ) (kept:List Int):foldU step (l.drop i) s kept=match step s l[i] with
 | .error n=>.error n
 | .ok p=>foldU step (l.drop (i+1)) p.1 (if p.2=true then kept else kept++(pt l[i].f0 l[i].f1 l[i].f2 l[i].f3).1):=by
 rw [List.drop_eq_getElem_cons h]
 rfl
structure Rd_ {σ:Type} (step:σ→S97→Except Int (σ × Bool)) (cnt:σ→Nat) (T:(Nat→Nat)→σ→World→Prop) (W0:World) (f0:Nat→Nat) (w:World) (l:List S97) (AL:Option Addr) (res:Except Int (σ × List Int)) (i:Nat) (v:Value) (f:Nat→Nat) (s:σ) (kept x:List Int) (w':World):Prop where
 size:w.heap.size≤w'.heap.size
 below:Below W0.heap.size W0 w'
 same:∀ k,k < w.heap.size→¬ own_ (f0 k)→w'.heap[k]?=w.heap[k]?
 old:∀ k,k < w.heap.size→f k=f0 k
 st:T f s w'
 rows:Kd.F k97 w' (fun k=>f k=0) AL l.length l
 row:Kd.R (Kd.int .u8) 5 w' W0.heap.size (fun k=>f k=1000) v kept
 fold:foldU step (l.drop i) s (kept++x)=res
 len:kept.length+x.length+20*wt (l.drop i)≤1099511627776
 cn:cnt s≤i
section
variable {σ:Type} {step:σ→S97→Except Int (σ × Bool)} {cnt:σ→Nat} {T:(Nat→Nat)→σ→World→Prop} {W0:World} {f0:Nat→Nat} {w:World} {l:List S97} {AL:Option Addr} {res:Except Int (σ × List Int)} {i:Nat} {v:Value} {f:Nat→Nat} {s:σ} {kept x:List Int} {w' w1 w2:World} {F:Nat} {first cap:Array Value}
theorem Rd_.grow {Pr:S97→Prop} (tk:Taker step cnt T W0 F first cap Pr) (h:Rd_ step cnt T W0 f0 w l AL res i v f s kept x w') (hb:Below w'.heap.size w' w1):Rd_ step cnt T W0 f0 w l AL res i v (mix f w'.heap.size) s kept x w1 where
 size:=Nat.le_trans h.size hb.size
 below:=jj1 h.below h.below.size hb
 same:=fun k hk h0=>(hb.block k (Nat.lt_of_lt_of_le hk h.size)).trans (h.same k hk h0)
 old:=fun k hk=>(mix_lt (Nat.lt_of_lt_of_le hk h.size)).trans (h.old k hk)
 st:=tk.move f _ s w' w1 h.st (fun _ hk=>mix_lt hk) (fun k hk _=>hb.block k hk) hb.size
 rows:=Kd.F_mono (Kd.F_below (Kd.F_bound h.rows) hb) (fun k hk=>(mix_lt hk.2).trans hk.1)
 row:=Kd.R_mono (Kd.jk8 (Kd.R_bound h.row) hb) (fun k hk=>(mix_lt hk.2.2.1).trans hk.1)
 fold:=h.fold
 len:=h.len
 cn:=h.cn
theorem Rd_.took {Pr:S97→Prop} (tk:Taker step cnt T W0 F first cap Pr) (h:Rd_ step cnt T W0 f0 w l AL res i v f s kept [] w') (hi:i < l.length) (hr:RawOk l[i]) (hl:l[i].f3.length < 4294967296) {p:σ × Bool} (hp:step s l[i] = .ok p) {e:Ending} (ht:Took T W0 f w' e w1 (.ok p)) :
 ∃ f',Rd_ step cnt T W0 f0 w l AL res (i+1) v f' p.1 kept (if p.2=true then [] else (pt l[i].f0 l[i].f1 l[i].f2 l[i].f3).1) w1:=by
 obtain ⟨-,h1,h2,h3,f',h4,h5⟩:=ht
 refine ⟨f',Nat.le_trans h.size h1,h2,fun k hk h0=>?_,fun k hk=>(h4 k (Nat.lt_of_lt_of_le hk h.size)).trans (h.old k hk),h5,?_,?_,?_,?_,Nat.le_trans (tk.up _ _ _ hp) (Nat.succ_le_succ h.cn)⟩
 · have hk':=Nat.lt_of_lt_of_le hk h.size
   exact (h3 k hk' (by rw [h.old k hk];exact h0)).trans (h.same k hk h0)
 · exact Kd.F_mono (Kd.F_step (Kd.F_bound h.rows) (fun k hk hlt=>h3 k hlt (by rw [hk.1];exact not_own_0))) (fun k hk=>by rw [h4 k hk.2];exact hk.1)
 · exact Kd.R_mono (Kd.R_move (Kd.R_bound h.row) (fun k hk=>h3 k hk.2.2.1 (by rw [hk.1];exact not_own_1000))) (fun k hk=>by rw [h4 k hk.2.2.1];exact hk.1)
 · have hf:=h.fold
   rw [fold_next step l i hi,hp,List.append_nil] at hf
   rw [← hf]
   dsimp only
   split <;> simp
 · have hn:=h.len
   rw [List.drop_eq_getElem_cons hi,wt_cons] at hn
   have:=pt_len l[i] hr hl
   split <;> simp at hn ⊢ <;> omega
theorem Rd_.put {Pr:S97→Prop} (tk:Taker step cnt T W0 F first cap Pr) (hf0:∀ k,f0 k < 1000) (h:Rd_ step cnt T W0 f0 w l AL res i v f s kept x w') {v1:Value} (ho:Kd.R (Kd.int .u8) 5 w1 W0.heap.size (fun _=>True) v1 (kept++x)) (hb:Below W0.heap.size W0 w1) (hg:w'.grownBy w1 v.ownBlock) (hat:v1.ownBlock=v.ownBlock∨∃ b,v1.ownBlock=some b∧w'.heap.size≤b) :
 ∃ f',Rd_ step cnt T W0 f0 w l AL res i v1 f' s (kept++x) [] w1:=by
 have hv:∀ k,v.ownBlock=some k→f k=1000:=h.row.1
 have hlt:=Kd.R_lt h.row
 refine ⟨fun k=>if k < w'.heap.size then f k else 1000,Nat.le_trans h.size hg.size,hb,fun k hk h0=>?_,fun k hk=>?_,?_,?_,?_,?_,?_,h.cn⟩
 · have hk':=Nat.lt_of_lt_of_le hk h.size
   refine (hg.block k hk' (fun e=>?_)).trans (h.same k hk h0)
   have h2:=hv k e.symm
   have h3:=hf0 k
   rw [h.old k hk] at h2
   omega
 · have hk':=Nat.lt_of_lt_of_le hk h.size
   exact (if_pos hk').trans (h.old k hk)
 · refine tk.move f _ s w' w1 h.st (fun k hk=>if_pos hk) (fun k hk h0=>hg.block k hk (fun e=>?_)) hg.size
   have h2:=hv k e.symm
   omega
 · refine Kd.F_mono (Kd.F_step (Kd.F_bound h.rows) (fun k hk hlt=>hg.block k hlt (fun e=>?_))) (fun k hk=>(if_pos hk.2).trans hk.1)
   have h2:=hv k e.symm
   rw [hk.1] at h2
   exact absurd h2 (by decide)
 · refine Kd.R_flat (fun hm=>hm) ho (fun k hk=>?_)
   rcases hat with hat|⟨b,hb1,hb2⟩
   · rw [hat] at hk
     exact fun _=>(if_pos (hlt k hk)).trans (hv k hk)
   · rw [hb1] at hk
     injection hk with hk
     subst hk
     exact fun _=>if_neg (by omega)
 · rw [List.append_nil];exact h.fold
 · have:=h.len
   rw [List.length_append]
   simp only [List.length_nil]
   omega
end
end Go.Proofs.Ytheoafenehckbaa.Ur
namespace Go.Proofs.Ytheoafenehckbaa.Ur
open Go.RowKit GUndescBack YtheoafenehckbaaW.PrintWords YtheoafenehckbaaW.PrintLast YtheoafenehckbaaW.PrintMore Vb Fx Wr Wt Wj Wp Uq
set_option linter.unusedVariables false
set_option linter.unusedSimpArgs false
set_option maxHeartbeats 8000000 in
set_option maxRecDepth 100000 in
theorem read_ok {σ:Type} {step:σ→S97→Except Int (σ × Bool)} {cnt:σ→Nat} {T:(Nat→Nat)→σ→World→Prop} {W0:World} {F:Nat} {first cap:Array Value} {Pr:S97→Prop} (tk:Taker step cnt T W0 F first cap Pr) {f0:Nat→Nat} (hf0:∀ k,f0 k < 1000) (s0:σ) (hz:cnt s0=0) (w:World) (hB:Below W0.heap.size W0 w) (hT:T f0 s0 w) (b:List Int) (A:Option Addr) (c:Nat) (hb:Bytes b) (hl:b.length < 4294967296) (hC:Kd.C (Kd.int .u8) w A b.length b) (hc:b.length≤c)
 (l:List S97) (at_:Int) (hr:raws b=(l,at_,0)) (hPr:∀ r∈l,Pr r) :
 Calls Try.prog 56 #[.slice A b.length c,.func (.func F) first cap] w fun e w'=>Reads T W0 f0 w e w' (readU step b s0):=by
 have HPR:=mk0 hPr
 clear hPr
 have hread:=mk0 ((wread_f (b.length+40) b hb hl (Nat.le_refl _)).trans (congrArg some hr))
 obtain ⟨res,hres0⟩:∃ z,readU step b s0=z:=⟨_,rfl⟩
 have hfold:Aside0 (foldU step (l.drop 0) s0 ([]++[])=res):=⟨by rw [← hres0];unfold readU;rw [hr];rfl⟩
 have ⟨hok0,hwt0⟩:=raws_ok b hb
 rw [hr] at hok0 hwt0
 have hok:=mk0 hok0
 have hlen:Aside0 (∀ r∈l,r.f3.length < 4294967296):=⟨fun r hm=>by
  have h1:r.f3.length+1≤wt l:=by
   unfold wt
   clear hwt0 hok0 hok hfold hread hr HPR
   induction l with
   | nil=>cases hm
   | cons a l ih=>
    rw [List.map_cons,List.sum_cons]
    rcases List.mem_cons.1 hm with rfl|hm
    · omega
    · have:=ih hm;omega
  have h2:wt l≤b.length:=hwt0
  omega⟩
 have hwt:Aside0 (20*wt l≤1099511627776):=⟨by have h2:wt l≤b.length:=hwt0;omega⟩
 have hl32:Aside0 (l.length < 4294967296):=⟨by have h2:wt l≤b.length:=hwt0;have:=wt_len l;omega⟩
 have hll:l.length < 9223372036854775807:=by have h2:wt l≤b.length:=hwt0;have:=wt_len l;omega
 rw [hres0]
 have HB:=mk0 hB
 have HC:=mk0 hC
 have HT:=mk0 hT
 clear hB hC hT hr hb hl hok0 hwt0 hres0
 go_enter Try.func56,Try.ntmps56
 go_wp2_with (first|(go_at_call 77;refine (wire_Read.calls _ A c b l at_ 0 _ HC.out hc hread.out).mono ?_;rintro e w1 ⟨v0,rfl,hS,hb1⟩;obtain ⟨AL,cL,eL⟩:=Kd.S_slice hS;subst eL;have HLc:=mk0 (Kd.S_reads' hS).2.1;have HL1:=mk0 (Kd.F_mono (Kd.F_bound (Kd.S_F (Kd.S_bound hS))) (ok':=fun k=>w.heap.size≤k) (fun k hk=>hk.1.2.1));have HB1:=mk0 hb1;clear hS hb1))
 go_loopg [8,26] l.length (fun kq v8 v26 w'=>∃ i:Nat,v26 = .int .i64 (i:Int)∧Aside0 (i+kq=l.length)∧Aside0 (∃ f s kept,Rd_ step cnt T W0 f0 w l AL res i v8 f s kept [] w'))
 case atStart=>
  refine ⟨0,rfl,⟨by omega⟩,⟨fun k=>if k < w.heap.size then f0 k else 0,s0,[],?_⟩⟩
  have hb1:=HB1.out
  refine ⟨hb1.size,jj1 HB.out HB.out.size hb1,fun k hk _=>hb1.block k hk,fun k hk=>if_pos hk,tk.move f0 _ s0 w _ HT.out (fun k hk=>if_pos hk) (fun k hk _=>hb1.block k hk) hb1.size,Kd.F_mono HL1.out (fun k hk=>if_neg (by omega)),Kd.R_nil _ _ _ _ _,hfold.out,by have:=hwt.out;simp;exact this,Nat.le_of_eq hz⟩
 case round=>
  obtain ⟨i,rfl,HI,HR0⟩:=hrel
  obtain ⟨f,s,kept,HR1⟩:=HR0.out
  have HR:=mk0 HR1
  clear HR0 HR1
  obtain ⟨Av,cv,ev⟩:=Kd.jk4 HR.out.row
  subst ev
  by_cases hlt:i < l.length
  · have hwp:=num_step i l.length hlt hll
    have d0:=dec_lt hlt
    have p0:(0≤(i:Int))=True:=eq_true (Int.natCast_nonneg i)
    have q0:((i:Int) < (l.length:Int))=True:=eq_true (Int.ofNat_lt.2 hlt)
    obtain ⟨ad,cc,ea,hcl,hFK,hcc0,-⟩:=Kd.F_get HR.out.rows z97 (i:Int) (Int.natCast_nonneg _) (Int.ofNat_lt.2 hlt)
    rw [Int.toNat_natCast] at hFK hcc0
    obtain ⟨x,hx⟩:∃ x,l[i]=x:=⟨_,rfl⟩
    have hgx:l.getD i z97=x:=by rw [← hx];simp [hlt]
    rw [hgx] at hFK
    obtain ⟨A3,c3,ec,l3,g3⟩:=k97_openF hFK
    subst ec
    have hcc:∀ j u,_→wr.cell? (ad.add (i*4+j))=some u:=hcc0
    have e0:wr.cell? (ad.add (i*4))=some (.int .i64 x.f0):=hcc 0 _ rfl
    have e1:wr.cell? ⟨(ad.add (i*4)).block,(ad.add (i*4)).off+1,none⟩=some (.int .i64 x.f1):=by rw [← add_field _ _ 1 (by omega)];exact hcc 1 _ rfl
    have e2:wr.cell? ⟨(ad.add (i*4)).block,(ad.add (i*4)).off+2,none⟩=some (.int .u64 x.f2):=by rw [← add_field _ _ 2 (by omega)];exact hcc 2 _ rfl
    have e3:wr.cell? ⟨(ad.add (i*4)).block,(ad.add (i*4)).off+3,none⟩=some (.slice A3 x.f3.length c3):=by rw [← add_field _ _ 3 (by omega)];exact hcc 3 _ rfl
    subst ea
    have HX:=mk0 hx
    have HF3:=mk0 g3
    have HX1:Aside0 (RawOk x):=⟨by rw [← hx];exact hok.out _ (List.getElem_mem hlt)⟩
    have HXP:Aside0 (Pr x):=⟨by rw [← hx];exact HPR.out _ (List.getElem_mem hlt)⟩
    have HX2:Aside0 (x.f3.length < 4294967296):=⟨by rw [← hx];exact hlen.out _ (List.getElem_mem hlt)⟩
    have HX3:Aside0 (kept.length+20*(x.f3.length+1)≤1099511627776):=⟨by have:=HR.out.len;rw [List.drop_eq_getElem_cons hlt,hx,wt_cons] at this;simp only [List.length_nil] at this;omega⟩
    clear hcc hcc0 hcl hFK hgx hx g3
    have hen:=tk.enters
    have hcall:=fun (W:World) (hW:Below wr.heap.size wr W)=>tk.call (mix f wr.heap.size) s W x A3 c3 (HR.out.grow tk hW).st (HR.out.grow tk hW).below HX1.out HXP.out HX2.out (Nat.lt_of_le_of_lt HR.out.cn (Nat.lt_trans hlt hl32.out)) l3 (Kd.F_mono (Kd.F_below (Kd.F_bound HF3.out) hW) (fun k hk=>(mix_lt hk.2).trans hk.1))
    cases gk with
    | zero=>exact absurd HI.out (fun h=>Nat.ne_of_lt hlt h)
    | succ k1=>
     cases hst:step s x with
     | error n=>
      have hres:Aside0 (res = .error n):=⟨by have h0:=HR.out.fold;rw [fold_next step l i hlt,HX.out,hst] at h0;exact h0.symm⟩
      go_wp2_with (first|((with_reducible refine jk0 (N:=10) rfl ?_);(try (refine gate_guard (by rfl) ?_;dsimp only));refine bzX 10 #[.int .i64 0,.int .i64 0,.int .u64 0,.slice none 0 0] 97 ?_;intro gb hg9 w9 hbox hb9;have HB9:=mk0 hb9;have BX9:=mk0 hbox;have HG9:=mk0 hg9;clear hb9 hbox hg9)|((with_reducible refine jjz (t:=97) (p:=10) rfl ?_);refine Sw.store_whole rfl rfl rfl gb 97 _ _ rfl rfl BX9.out (by kernel_rfl) rfl rfl ?_;intro wq hS_ hbS_ hkS_;have HBr:=mk0 (hbS_ wr.heap.size wr (Nat.le_of_eq HG9.out.symm) HB9.out);have BK:=mk0 hS_;have HGB:=mk0 (Nat.le_of_eq HG9.out.symm);clear hS_ hbS_ hkS_ BX9 HB9 HG9;obtain ⟨s0_,s1_,s2_,s3_⟩:=cz4 BK.out)|((with_reducible refine (hcall _ HBr.out).mono ?_);rw [hst];rintro e w1 ⟨rfl,hbz⟩;unfold thrown))
      rw [hres.out]
      exact ⟨rfl,rfl,hbz⟩
     | ok p=>
      obtain ⟨s1,tk1⟩:=p
      have HS:=mk0 hst
      cases tk1 with
      | true=>
       go_wp2_with (first|((with_reducible refine jk0 (N:=10) rfl ?_);(try (refine gate_guard (by rfl) ?_;dsimp only));refine bzX 10 #[.int .i64 0,.int .i64 0,.int .u64 0,.slice none 0 0] 97 ?_;intro gb hg9 w9 hbox hb9;have HB9:=mk0 hb9;have BX9:=mk0 hbox;have HG9:=mk0 hg9;clear hb9 hbox hg9)|((with_reducible refine jjz (t:=97) (p:=10) rfl ?_);refine Sw.store_whole rfl rfl rfl gb 97 _ _ rfl rfl BX9.out (by kernel_rfl) rfl rfl ?_;intro wq hS_ hbS_ hkS_;have HBr:=mk0 (hbS_ wr.heap.size wr (Nat.le_of_eq HG9.out.symm) HB9.out);have BK:=mk0 hS_;have HGB:=mk0 (Nat.le_of_eq HG9.out.symm);clear hS_ hbS_ hkS_ BX9 HB9 HG9;obtain ⟨s0_,s1_,s2_,s3_⟩:=cz4 BK.out)|((with_reducible refine (hcall _ HBr.out).mono ?_);rw [hst];rintro e w1 hbz;obtain ⟨f',HRn⟩:=(HR.out.grow tk HBr.out).took tk hlt (by rw [HX.out];exact HX1.out) (by rw [HX.out];exact HX2.out) (by rw [HX.out];exact HS.out) hbz;rw [if_pos rfl] at HRn;obtain rfl:=hbz.1;clear hbz))
       go_roundg k1
       case measure=>exact Nat.lt_succ_self k1
       case rel=>exact ⟨i+1,(by first|rfl|(rw [hwp])|(simp [hwp];done)),⟨(Nat.add_right_comm i 1 k1).trans HI.out⟩,⟨_,_,_,HRn⟩⟩
      | false=>
       have hput:=put_raw x HX1.out HX2.out
       go_wp2_with (first|((with_reducible refine jk0 (N:=10) rfl ?_);(try (refine gate_guard (by rfl) ?_;dsimp only));refine bzX 10 #[.int .i64 0,.int .i64 0,.int .u64 0,.slice none 0 0] 97 ?_;intro gb hg9 w9 hbox hb9;have HB9:=mk0 hb9;have BX9:=mk0 hbox;have HG9:=mk0 hg9;clear hb9 hbox hg9)|((with_reducible refine jjz (t:=97) (p:=10) rfl ?_);refine Sw.store_whole rfl rfl rfl gb 97 _ _ rfl rfl BX9.out (by kernel_rfl) rfl rfl ?_;intro wq hS_ hbS_ hkS_;have HBr:=mk0 (hbS_ wr.heap.size wr (Nat.le_of_eq HG9.out.symm) HB9.out);have BK:=mk0 hS_;have HGB:=mk0 (Nat.le_of_eq HG9.out.symm);clear hS_ hbS_ hkS_ BX9 HB9 HG9;obtain ⟨s0_,s1_,s2_,s3_⟩:=cz4 BK.out)|((with_reducible refine (hcall _ HBr.out).mono ?_);rw [hst];rintro e w1 hbz;obtain ⟨f',HRt⟩:=(HR.out.grow tk HBr.out).took tk hlt (by rw [HX.out];exact HX1.out) (by rw [HX.out];exact HX2.out) (by rw [HX.out];exact HS.out) hbz;rw [if_neg Bool.false_ne_true,HX.out] at HRt;have hsame:=hbz.2.2.2.1;obtain rfl:=hbz.1;have HF1:=mk0 (Kd.F_step (Kd.F_mono (Kd.F_below (Kd.F_bound HF3.out) HBr.out) (ok':=fun k=>mix f wr.heap.size k=0) (fun k hk=>(mix_lt hk.2).trans hk.1)) (fun k h0 hlt_=>hsame k hlt_ (by rw [h0];exact not_own_0)));have BK1:=mk0 ((hsame gb (blk_lt BK.out) (by rw [mix_ge HGB.out];exact not_own_0)).trans BK.out);obtain ⟨s0_,s1_,s2_,s3_⟩:=cz4 BK1.out;clear hsame hbz)|(go_at_call 78;refine (wire_Put.calls 11 x.f0 x.f1 x.f2 A3 c3 x.f3 _ _ _ (Kd.F_now HF1.out) l3 hput).mono ?_;rintro e w2 ⟨v0,rfl,ho,hb⟩;obtain ⟨Ao,co,eo⟩:=Kd.jk4 ho;subst eo;have HRg:=HRt.grow tk hb;have HXC:=(Kd.jj7 ho).2.2)|((with_reducible refine jk9 (b:=.append) (xs:=#[.tmp 39,.tmp 40]) rfl ?_);(try (refine gate_guard (by rfl) ?_;dsimp only));at_builtin;refine Kd.R_append_rows (Kd.int .u8) (w0:=W0) W0.heap.size (by rfl) (.tmp 39) (.tmp 40) 28 5 (.int .u8 0) 1 rfl Try.underlying28 GUndescBack.info5 rfl (by decide) (by omega) (.slice Av kept.length cv) kept ((pt x.f0 x.f1 x.f2 x.f3).1) _ _ _ (fun _=>True) (fun _=>False) rfl rfl ?aO ?aR (fun _ _ h=>h) (fun _ h=>h.elim) ?aF ?aB ?aS ?aL ?_;(case aR=>exact HXC);(case aB=>exact HRg.below);(case aF=>exact fun _ _=>trivial);(case aO=>exact Kd.R_mono HRg.row (fun _ _=>trivial));(case aS=>exact HRg.below.size);(case aL=>have h1:=HRg.len;omega);intro v1 w3 ho2 hb2 hg2 hat2;obtain ⟨f'',HRn⟩:=HRg.put tk hf0 ho2 hb2 hg2 hat2;clear ho2 hb2 hg2 hat2))
       go_roundg k1
       case measure=>exact Nat.lt_succ_self k1
       case rel=>exact ⟨i+1,(by first|rfl|(rw [hwp])|(simp [hwp];done)),⟨(Nat.add_right_comm i 1 k1).trans HI.out⟩,⟨_,_,_,HRn⟩⟩
  · have d0:=dec_ge hlt
    have hE:=HR.out.fold
    rw [List.drop_eq_nil_of_le (Nat.le_of_not_lt hlt),List.append_nil] at hE
    have HE:=mk0 hE.symm
    clear hE
    go_wp2
    go_ret
    rw [HE.out]
    exact ⟨HR.out.size,HR.out.below,HR.out.same,f,_,rfl,HR.out.old,HR.out.st,HR.out.row⟩
end Go.Proofs.Ytheoafenehckbaa.Ur
set_option maxHeartbeats 4000000
set_option maxRecDepth 100000
namespace Go.Proofs.Ytheoafenehckbaa.Ur
open Go.RowKit GUndescBack YtheoafenehckbaaW.PrintWords YtheoafenehckbaaW.PrintLast YtheoafenehckbaaW.PrintMore Vb Fx Wr Wt Wj Wp Uq
set_option linter.unusedVariables false
set_option linter.unusedSimpArgs false
def Ans {α:Type} (d:Kd α) (w:World) (e:Ending) (w':World):Except Int α→Prop
 | .error n=>e=thrown n∧Below w.heap.size w w'
 | .ok x=>∃ cs:List Value,e = .returned (.agg cs.toArray)∧Kd.FK d w' (fun k=>w.heap.size≤k) x cs∧Below w.heap.size w w'
def V_ (f:Nat→Nat) (W:World) (v:Value) (xs:List Int):Prop:=∃ A c,v = .slice A xs.length c∧xs.length≤c∧Kd.F (Kd.int .u8) W (fun k=>f k=0) A xs.length xs
def L_ {α:Type} (d:Kd α) (e B j:Nat) (f:Nat→Nat) (W:World) (v:Value) (xs:List α):Prop:=Kd.N d e W B (fun k=>f k=0∨f k=j) v xs∧∀ k,v.ownBlock=some k→f k=j
section
variable {α:Type} {d:Kd α} {e B j:Nat} {f f':Nat→Nat} {W W':World} {v:Value} {xs:List Int} {l:List α}
theorem V_nil (f:Nat→Nat) (W:World):V_ f W (.slice none 0 0) []:=⟨none,0,rfl,Nat.le_refl _,Kd.F_nil _ _ _⟩
theorem L_nil (d:Kd α) (e B j:Nat) (f:Nat→Nat) (W:World):L_ d e B j f W (.slice none 0 0) []:=⟨Kd.N_nil _ _ _ _ _,fun k hk=>by simp [Value.ownBlock] at hk⟩
theorem V_move (h:V_ f W v xs) (h1:∀ k,k < W.heap.size→f' k=f k) (h2:∀ k,k < W.heap.size→f k=0→W'.heap[k]?=W.heap[k]?):V_ f' W' v xs:=by
 obtain ⟨A,c,rfl,hl,hf⟩:=h
 exact ⟨A,c,rfl,hl,Kd.F_mono (Kd.F_step (Kd.F_bound hf) (fun k hk hlt=>h2 k hlt hk.1)) (fun k hk=>(h1 k hk.2).trans hk.1)⟩
theorem L_move (h:L_ d e B j f W v l) (h1:∀ k,k < W.heap.size→f' k=f k) (h2:∀ k,k < W.heap.size→(f k=0∨f k=j)→W'.heap[k]?=W.heap[k]?):L_ d e B j f' W' v l:=
 ⟨Kd.N_mono (Kd.N_step (Kd.N_bound h.1) (fun k hk hlt=>h2 k hlt hk.1)) (fun k hk=>by rw [h1 k hk.2];exact hk.1),fun k hk=>(h1 k (Kd.N_lt h.1 k hk)).trans (h.2 k hk)⟩
theorem V_F {A:Option Addr} {c:Nat} {b:List Int} (hc:b.length≤c) (h:Kd.F (Kd.int .u8) W (fun k=>f k=0) A b.length b):V_ f W (.slice A b.length c) b:=⟨A,c,rfl,hc,h⟩
def lab (f:Nat→Nat) (W:World) (j:Nat):Nat→Nat:=fun k=>if k < W.heap.size then f k else j
end
def P_ (pa:Nat) (n:Int) (f:Nat→Nat) (W:World):Prop:=f pa=0∧W.heap[pa]?=some (.cells #[.int .i64 n] 3 (0,0))
def St {σ:Type} (CX:(Nat→Nat)→σ→World→Array Value→Prop) (TX q:Nat) (f:Nat→Nat) (s:σ) (W:World):Prop:=f q=999∧∃ cs,W.heap[q]?=some (.cells cs TX (0,0))∧CX f s W cs
def Slots {σ:Type} (CX:(Nat→Nat)→σ→World→Array Value→Prop):Prop:=∀ f f' s W W' cs,CX f s W cs→(∀ k,k < W.heap.size→f' k=f k)→(∀ k,k < W.heap.size→f k < 999→W'.heap[k]?=W.heap[k]?)→CX f' s W' cs
section
variable {σ:Type} {CX:(Nat→Nat)→σ→World→Array Value→Prop} {TX q:Nat} {f f':Nat→Nat} {s s':σ} {W W' W0 W1:World}
theorem St.move (hS:Slots CX) (h:St CX TX q f s W) (h1:∀ k,k < W.heap.size→f' k=f k) (h2:∀ k,k < W.heap.size→f k < 1000→W'.heap[k]?=W.heap[k]?):St CX TX q f' s W':=by
 obtain ⟨hq,cs,hb,hc⟩:=h
 have hlt:=blk_lt hb
 exact ⟨(h1 q hlt).trans hq,cs,(h2 q hlt (by omega)).trans hb,hS f f' s W W' cs hc h1 (fun k hk h9=>h2 k hk (by omega))⟩
theorem leaf_set (hS:Slots CX) (hq:f q=999) (hlt:q < W.heap.size) (hB:Below W0.heap.size W0 W') (hs:W.heap.size≤W'.heap.size) (f':Nat→Nat) (h1:∀ k,k < W.heap.size→f' k=f k) (h2:∀ k,k < W.heap.size→¬ own_ (f k)→W'.heap[k]?=W.heap[k]?)
 {cs:Array Value} (hb:W'.heap[q]?=some (.cells cs TX (0,0))) (hc:CX f' s' W' cs):Took (St CX TX q) W0 f W (.returned (.bool true)) W' (.ok (s',true)):=
 ⟨rfl,hs,hB,h2,f',h1,(h1 q hlt).trans hq,cs,hb,hc⟩
end
section
variable {P:Program} {ops:Array Oper} {rest:List Oper} {o:Oper} {a:Act} {Q:Exit→Act→World→Prop}
theorem cell_event {W:World} (hgd:o.guard=none) {t:TypeId} {p:Tmp} {v:Operand} (ho:o.op = .store t (.tmp p) v) (hN:o.dst=none) (g j et:Nat) (cs cs':Array Value) (val:Value)
 (hrun:(execOp a.eval o).run P W = .ok .skip (W.setCell ⟨g,j,none⟩ val)) (hb:W.heap[g]?=some (.cells cs et (0,0))) (hcs:cs.setIfInBounds j val=cs')
 (h:∀ w',w'.heap[g]?=some (.cells cs' et (0,0))→(∀ B w0,B≤g→Below B w0 W→Below B w0 w')→(∀ k,k≠g→w'.heap[k]?=W.heap[k]?)→W.heap.size≤w'.heap.size→wpList P ops Q rest a w'):wpList P ops Q (o :: rest) a W:=by
 subst hcs
 exact store_event (w1:=W.setCell ⟨g,j,none⟩ val) hgd ho hN hrun (fun w' e=>e ▸ h _ (blk_put hb j val rfl) (fun B w0 hB hbel=>hbel.setCell (p:=⟨g,j,none⟩) hB val) (fun k hk=>Below.heap_setCell W ⟨g,j,none⟩ val k hk) (Nat.le_of_eq (by simp)))
end
section
variable {P:Program}
theorem results_c1 {fn:Func} {p:Tmp} {ty:TypeId} (h:fn.results=#[.cell p ty]) (tmps:Array Value) (w:World) (g:Nat) (t:TypeId) (cs:Array Value) (fr:Nat × Nat) (d:TypeDesc)
 (hp:tmps.getD p undef = .pointer (some ⟨g,0,none⟩)) (hg:w.heap[g]?=some (.cells cs t fr))
 (hu:P.underlying ty=some d) (hd:(match d with | .struct _ | .array _ _=>true|_=>false)=true) (hi:(P.info? ty).map (·.size)=some cs.size) :
 (results fn tmps).run P w = .ok (.agg cs) w:=by
 have hp':tmps[p]?.getD undef = .pointer (some ⟨g,0,none⟩):=by simpa using hp
 simp [results,h,hp',asAddr,run_loadVar_row w g t ty cs fr d hg hu hd hi]
end
def ofL (r:S97):Int:=if r.f1=2 then r.f0 else 0
def ofV (r:S97):Int:=if r.f1=0 then r.f0 else 0
def rawV (r:S97) (A:Option Addr) (c:Nat):Value:=.agg #[.int .i64 r.f0,.int .i64 r.f1,.int .u64 r.f2,.slice A r.f3.length c]
theorem ofLen_c (x0 x1 x2:Int) (v3:Value) (w:World):Calls Try.prog 58 #[.agg #[.int .i64 x0,.int .i64 x1,.int .u64 x2,v3]] w fun e w'=>e = .returned (.int .i64 (if x1=2 then x0 else 0))∧Below w.heap.size w w':=by
 have HB:=mk0 (Below.refl w.heap.size w)
 by_cases h:x1=2
 · have h2:(x1==2)=true:=beq_iff_eq.2 h
   rw [if_pos h]
   go_enter Try.func58,Try.ntmps58
   go_wp2
   go_ret
   exact ⟨rfl,by repeat (first|(with_reducible first|exact HB.out|apply jj6|apply jj4|apply jj2)|exact HB.out)⟩
 · have h2:(x1==2)=false:=beq_eq_false_iff_ne.2 h
   rw [if_neg h]
   go_enter Try.func58,Try.ntmps58
   go_wp2
   go_ret
   exact ⟨rfl,by repeat (first|(with_reducible first|exact HB.out|apply jj6|apply jj4|apply jj2)|exact HB.out)⟩
theorem ofVarint_c (x0 x1 x2:Int) (v3:Value) (w:World):Calls Try.prog 63 #[.agg #[.int .i64 x0,.int .i64 x1,.int .u64 x2,v3]] w fun e w'=>e = .returned (.int .i64 (if x1=0 then x0 else 0))∧Below w.heap.size w w':=by
 have HB:=mk0 (Below.refl w.heap.size w)
 by_cases h:x1=0
 · have h2:(x1==0)=true:=beq_iff_eq.2 h
   rw [if_pos h]
   go_enter Try.func63,Try.ntmps63
   go_wp2
   go_ret
   exact ⟨rfl,by repeat (first|(with_reducible first|exact HB.out|apply jj6|apply jj4|apply jj2)|exact HB.out)⟩
 · have h2:(x1==0)=false:=beq_eq_false_iff_ne.2 h
   rw [if_neg h]
   go_enter Try.func63,Try.ntmps63
   go_wp2
   go_ret
   exact ⟨rfl,by repeat (first|(with_reducible first|exact HB.out|apply jj6|apply jj4|apply jj2)|exact HB.out)⟩
def placeU (n:Int):Except Int Int:=if 2147483648≤n then .error 120 else .ok n
def ini (n g q:Nat):Nat→Nat:=fun k=>if k=q then 999 else if k=g then 997 else if k < n then 998 else 0
theorem ini_q {n g q:Nat}:ini n g q q=999:=if_pos rfl
theorem ini_lt {n g q k:Nat}:ini n g q k < 1000:=by
 unfold ini
 by_cases h1:k=q
 · rw [if_pos h1];decide
 rw [if_neg h1]
 by_cases h2:k=g
 · rw [if_pos h2];decide
 rw [if_neg h2]
 by_cases h3:k < n
 · rw [if_pos h3];decide
 · rw [if_neg h3];decide
theorem ini_g {n g q:Nat} (h:g≠q):¬ own_ (ini n g q g):=by unfold ini;rw [if_neg h,if_pos rfl];unfold own_;omega
theorem ini_fin {n g q m:Nat} {f':Nat→Nat} (h5:∀ k,k < m→f' k=ini n g q k) (hg:g < m) (hq:q < m) (hng:n≤g) (hnq:n≤q) (hne:g≠q) (k:Nat) (h7:f' k≠997) (h8:f' k≠998) (h9:f' k≠999):n≤k∧k≠q∧k≠g:=by
 have hkq:k≠q:=by
  rintro rfl
  exact h9 ((h5 k hq).trans ini_q)
 have hkg:k≠g:=by
  rintro rfl
  exact h7 ((h5 k hg).trans (by unfold ini;rw [if_neg hne,if_pos rfl]))
 refine ⟨?_,hkq,hkg⟩
 rcases Nat.lt_or_ge k n with h|h
 · exact absurd ((h5 k (by omega)).trans (by unfold ini;rw [if_neg hkq,if_neg hkg,if_pos h])) h8
 · exact h
theorem Took.behind {σ:Type} {T:(Nat→Nat)→σ→World→Prop} {W0 W w2 w':World} {f:Nat→Nat} {e:Ending} {r:Except Int (σ × Bool)} (hb:Below W.heap.size W w2) (h:Took T W0 (mix f W.heap.size) w2 e w' r):Took T W0 f W e w' r:=by
 cases r with
 | error n=>exact h
 | ok p=>
  obtain ⟨h1,h2,h3,h4,f',h5,h6⟩:=h
  refine ⟨h1,Nat.le_trans hb.size h2,h3,fun k hk h0=>(h4 k (Nat.lt_of_lt_of_le hk hb.size) (by rw [mix_lt hk];exact h0)).trans (hb.block k hk),f',fun k hk=>(h5 k (Nat.lt_of_lt_of_le hk hb.size)).trans (mix_lt hk),h6⟩
def Nz {α:Type} (r:Except Int α):Prop:=∀ n,r = .error n→n≠0
theorem ozL {r:S97} {v:Int} (h:Aside0 (ofL r=v)) {v3:Value} {w:World}:Calls Try.prog 58 #[.agg #[.int .i64 r.f0,.int .i64 r.f1,.int .u64 r.f2,v3]] w fun e w'=>e = .returned (.int .i64 v)∧Below w.heap.size w w':=by
 have h2:=ofLen_c r.f0 r.f1 r.f2 v3 w
 rw [show (if r.f1=2 then r.f0 else 0)=v from h.out] at h2
 exact h2
theorem ozV {r:S97} {v:Int} (h:Aside0 (ofV r=v)) {v3:Value} {w:World}:Calls Try.prog 63 #[.agg #[.int .i64 r.f0,.int .i64 r.f1,.int .u64 r.f2,v3]] w fun e w'=>e = .returned (.int .i64 v)∧Below w.heap.size w w':=by
 have h2:=ofVarint_c r.f0 r.f1 r.f2 v3 w
 rw [show (if r.f1=0 then r.f0 else 0)=v from h.out] at h2
 exact h2
section
variable {P:Program} {ops:Array Oper} {rest:List Oper} {o:Oper} {a:Act} {Q:Exit→Act→World→Prop}
theorem czE (g j et:Nat) (val:Value) {cs cs':Array Value} {W:World} (hb:W.heap[g]?=some (.cells cs et (0,0)))
 (h:∀ w',w'.heap[g]?=some (.cells cs' et (0,0))→(∀ B w0,B≤g→Below B w0 W→Below B w0 w')→(∀ k,k≠g→w'.heap[k]?=W.heap[k]?)→W.heap.size≤w'.heap.size→wpList P ops Q rest a w')
 (hgd:o.guard=none:=by rfl) {t:TypeId} {p:Tmp} {v:Operand} (ho:o.op = .store t (.tmp p) v:=by exact rfl) (hN:o.dst=none:=by exact rfl)
 (hrun:(execOp a.eval o).run P W = .ok .skip (W.setCell ⟨g,j,none⟩ val):=by (first|(go_simp;done)|(go_simp;rfl))) (hcs:cs.setIfInBounds j val=cs':=by exact rfl):wpList P ops Q (o :: rest) a W:=cell_event hgd ho hN g j et cs cs' val hrun hb hcs h
end
theorem hszL {f:Nat→Nat} {q:Nat} {W w8 w9:World} (HK9:Aside0 (∀ k,k≠q→w9.heap[k]?=w8.heap[k]?)) (HQ:Aside0 (f q=999)) (HB:Aside0 (Below W.heap.size W w8)):∀ k,k < W.heap.size→f k≠999→w9.heap[k]?=W.heap[k]?:=fun k hk h9=>(HK9.out k (fun e=>h9 (e ▸ HQ.out))).trans (HB.out.block k hk)
section
variable {ops:Array Oper} {rest:List Oper} {o:Oper} {a:Act} {Q:Exit→Act→World→Prop} {W w1:World} {q TX gb:Nat} {csq:Array Value} {A:Option Addr} {c:Nat} {r:S97}
theorem bxR (N:Tmp) (c:Nat) (BQ0:Aside0 (W.heap[q]?=some (.cells csq TX (0,0)))) (HC:Aside0 (Kd.C (Kd.int .u8) W A r.f3.length r.f3))
 (h:∀ gb w1,Aside0 (Below W.heap.size W w1)→Aside0 (w1.heap[gb]?=some (.cells #[.int .i64 r.f0,.int .i64 r.f1,.int .u64 r.f2,.slice A r.f3.length c] 97 (0,0)))→Aside0 (w1.heap[q]?=some (.cells csq TX (0,0)))→(convert 28 9 (.slice A r.f3.length c)).run Try.prog w1 = .ok (.string (strOfNums r.f3)) w1→Aside0 (W.heap.size≤gb)→w1.cell? ⟨gb,0,none⟩=some (.int .i64 r.f0)→w1.cell? ⟨gb,1,none⟩=some (.int .i64 r.f1)→w1.cell? ⟨gb,2,none⟩=some (.int .u64 r.f2)→w1.cell? ⟨gb,3,none⟩=some (.slice A r.f3.length c)→wpList Try.prog ops Q rest (a.put o.dst (.pointer (some ⟨gb,0,none⟩))) w1)
 (hgd:o.guard=none:=by rfl) (hd:o.dst=some N:=by rfl) (hrun:(execOp a.eval o).run Try.prog W = .ok (.value (.pointer (some ⟨W.heap.size,0,none⟩))) (W.alloc (.cells #[.int .i64 r.f0,.int .i64 r.f1,.int .u64 r.f2,.slice A r.f3.length c] 97 (0,0))):=by (first|(go_simp;done)|(go_simp;rfl))):wpList Try.prog ops Q (o :: rest) a W:=
 box_event hgd hd hrun (fun g hg w1 hbox hb=>by
  obtain ⟨s0,s1,s2,s3⟩:=cz4 hbox
  exact h g w1 ⟨hb⟩ ⟨hbox⟩ ⟨jj3 BQ0.out hb⟩ (cvzL c HC ⟨hb⟩) ⟨Nat.le_of_eq hg.symm⟩ s0 s1 s2 s3)
theorem ofR {P:Program} {F:Nat} {args:Array Value} {v:Value} {Qq:Ending→World→Prop} (hc:Calls P F args w1 fun e w'=>e = .returned v∧Below w1.heap.size w1 w') (HC:Aside0 (Kd.C (Kd.int .u8) W A r.f3.length r.f3)) (HB:Aside0 (Below W.heap.size W w1)) (BK:Aside0 (w1.heap[gb]?=some (.cells #[.int .i64 r.f0,.int .i64 r.f1,.int .u64 r.f2,.slice A r.f3.length c] 97 (0,0)))) (BQ:Aside0 (w1.heap[q]?=some (.cells csq TX (0,0))))
 (h:∀ w2,Aside0 (Below W.heap.size W w2)→Aside0 (w2.heap[gb]?=some (.cells #[.int .i64 r.f0,.int .i64 r.f1,.int .u64 r.f2,.slice A r.f3.length c] 97 (0,0)))→Aside0 (w2.heap[q]?=some (.cells csq TX (0,0)))→(convert 28 9 (.slice A r.f3.length c)).run Try.prog w2 = .ok (.string (strOfNums r.f3)) w2→w2.cell? ⟨gb,0,none⟩=some (.int .i64 r.f0)→w2.cell? ⟨gb,1,none⟩=some (.int .i64 r.f1)→w2.cell? ⟨gb,2,none⟩=some (.int .u64 r.f2)→w2.cell? ⟨gb,3,none⟩=some (.slice A r.f3.length c)→Qq (.returned v) w2):Calls P F args w1 Qq:=
 hc.mono fun e w2 he=>by
  obtain ⟨rfl,hb⟩:=he
  have BK2:=jj3 BK.out hb
  have HB2:Aside0 (Below W.heap.size W w2):=⟨jj1 HB.out HB.out.size hb⟩
  obtain ⟨s0,s1,s2,s3⟩:=cz4 BK2
  exact h w2 HB2 ⟨BK2⟩ ⟨jj3 BQ.out hb⟩ (cvzL c HC HB2) s0 s1 s2 s3
end
end Go.Proofs.Ytheoafenehckbaa.Ur
set_option maxHeartbeats 8000000
set_option maxRecDepth 100000
namespace Go.Proofs.Ytheoafenehckbaa.Ur
open Go.RowKit GUndescBack YtheoafenehckbaaW.PrintWords YtheoafenehckbaaW.PrintLast YtheoafenehckbaaW.PrintMore Vb Fx Wr Wt Wj Wp Uq
set_option linter.unusedVariables false
set_option linter.unusedSimpArgs false
def stF1 (s:S30) (r:S97):Except Int (S30 × Bool):=.ok (⟨(strOfNums r.f3),s.f1,s.f2,s.f3,s.f4,s.f5,s.f6,s.f7,s.f8,s.f9,s.f10⟩,true)
def CFile (B:Nat) (f:Nat→Nat) (s:S30) (W:World) (cs:Array Value):Prop:=∃ v2 v3 v4 v5 v6 v7 v9 v10:Value,cs=#[.string s.f0,.string s.f1,v2,v3,v4,v5,v6,v7,.string s.f8,v9,v10]∧L_ Kd.string 9 B 3 f W v2 s.f2∧L_ (Kd.int .i64) 3 B 4 f W v3 s.f3∧L_ k76 76 B 5 f W v4 s.f4∧L_ k82 82 B 6 f W v5 s.f5∧L_ k51 51 B 7 f W v6 s.f6∧L_ k88 88 B 8 f W v7 s.f7∧V_ f W v9 s.f9∧V_ f W v10 s.f10
theorem CFile_slots (B:Nat):Slots (CFile B):=by
 rintro f f' s W W' cs ⟨v2,v3,v4,v5,v6,v7,v9,v10,rfl,g2,g3,g4,g5,g6,g7,g9,g10⟩ h1 h2
 exact ⟨v2,v3,v4,v5,v6,v7,v9,v10,rfl,L_move g2 h1 (fun k hk h0=>h2 k hk (by omega)),L_move g3 h1 (fun k hk h0=>h2 k hk (by omega)),L_move g4 h1 (fun k hk h0=>h2 k hk (by omega)),L_move g5 h1 (fun k hk h0=>h2 k hk (by omega)),L_move g6 h1 (fun k hk h0=>h2 k hk (by omega)),L_move g7 h1 (fun k hk h0=>h2 k hk (by omega)),V_move g9 h1 (fun k hk h0=>h2 k hk (by omega)),V_move g10 h1 (fun k hk h0=>h2 k hk (by omega))⟩
def tFile4.T4:Bool × List (List Nat × List Nat):=(true,[([],[]),([0],[0]),([],[]),([2],[2]),([3],[3]),([4],[4]),([1,5,4],[1,5]),([0,1,2,3,4,5,6],[]),([7,6,6,0,1,2,3,4,5,6],[6,7])])
def tFile4.B4:List Nat:=[0,1,0,4,12,28,63,127,255]
theorem tFile4.tab4:rtab .any (opsOf Try.f57 4)=tFile4.T4:=by kernel_rfl
theorem tFile4.bits4:waitsOk tFile4.T4.2 tFile4.B4=true:=by kernel_rfl
def tFile12.T12:Bool × List (List Nat × List Nat):=(true,[([],[]),([0],[0]),([],[]),([2],[2]),([3],[3]),([1],[1]),([],[]),([1,6,4,0,1,2,3,4,5,6],[1,6]),([7,5,0,1,2,3,4,5,6,7],[5,7]),([8,4,7,0,1,2,3,4,5,6,7],[4,8]),([0,1,2,3,4,5,6,7],[]),([10,7,7,0,1,2,3,4,5,6,7],[7,10])])
def tFile12.B12:List Nat:=[0,1,0,4,12,3,0,127,255,511,255,1279]
theorem tFile12.tab12:rtab .any (opsOf Try.f57 12)=tFile12.T12:=by kernel_rfl
theorem tFile12.bits12:waitsOk tFile12.T12.2 tFile12.B12=true:=by kernel_rfl
def tFile14.T14:Bool × List (List Nat × List Nat):=(true,[([],[]),([0],[0]),([],[]),([2],[2]),([3],[3]),([4],[4]),([1,5,4],[1,5]),([0,1,2,3,4,5,6],[]),([7,6,6,0,1,2,3,4,5,6],[6,7])])
def tFile14.B14:List Nat:=[0,1,0,4,12,28,63,127,255]
def tFile16.T16:Bool × List (List Nat × List Nat):=(true,[([],[]),([0],[0]),([],[]),([2],[2]),([3],[3]),([4],[4]),([1,5,4],[1,5]),([0,1,2,3,4,5,6],[]),([7,6,6,0,1,2,3,4,5,6],[6,7])])
def tFile16.B16:List Nat:=[0,1,0,4,12,28,63,127,255]
def tFile18.T18:Bool × List (List Nat × List Nat):=(true,[([],[]),([0],[0]),([],[]),([2],[2]),([3],[3]),([4],[4]),([1,5,4],[1,5]),([0,1,2,3,4,5,6],[]),([7,6,6,0,1,2,3,4,5,6],[6,7])])
def tFile18.B18:List Nat:=[0,1,0,4,12,28,63,127,255]
theorem cloF1_call (q:Nat) (W0:World) (hq0:W0.heap.size≤q) (f:Nat→Nat) (s:S30) (W:World) (r:S97) (A:Option Addr) (c:Nat) (hT:St (CFile W0.heap.size) 30 q f s W) (hB:Below W0.heap.size W0 W) (hr:RawOk r) (hlen:r.f3.length < 4294967296) (hcnt:(0:Nat) < 4294967296) (hc:r.f3.length≤c) (hr1:ofL r=1) (hF:Kd.F (Kd.int .u8) W (fun k=>f k=0) A r.f3.length r.f3) :
 Calls Try.prog 57 #[.agg #[.int .i64 r.f0,.int .i64 r.f1,.int .u64 r.f2,.slice A r.f3.length c],.pointer (some ⟨q,0,none⟩)] W fun e W'=>Took (St (CFile W0.heap.size) 30 q) W0 f W e W' (stF1 s r):=by
 have HT:=mk0 hT
 obtain ⟨hq,cs,hb,v2,v3,v4,v5,v6,v7,v9,v10,rfl,g2_,g3_,g4_,g5_,g6_,g7_,g9_,g10_⟩:=hT
 have G2:=mk0 g2_
 have G3:=mk0 g3_
 have G4:=mk0 g4_
 have G5:=mk0 g5_
 have G6:=mk0 g6_
 have G7:=mk0 g7_
 have G9:=mk0 g9_
 have G10:=mk0 g10_
 have HF:=mk0 hF
 have HC:=mk0 (Kd.F_now hF)
 have HR:=mk0 hr
 have HB0:=mk0 hB
 have BQ0:=mk0 hb
 have HQ:=mk0 hq
 have HQ0:=mk0 hq0
 have HQL:=mk0 (blk_lt hb)
 clear g2_ g3_ g4_ g5_ g6_ g7_ g9_ g10_ hF hr hB hb hq hq0
 obtain ⟨Ln,hL_⟩:∃ z,ofL r=z:=⟨_,rfl⟩
 obtain ⟨Vn,hV_⟩:∃ z,ofV r=z:=⟨_,rfl⟩
 have hL:=mk0 hL_
 have hV:=mk0 hV_
 clear hL_ hV_
 obtain rfl:Ln=1:=hL.out.symm.trans hr1
 clear hr1
 have hst:Aside0 (stF1 s r = .ok (⟨(strOfNums r.f3),s.f1,s.f2,s.f3,s.f4,s.f5,s.f6,s.f7,s.f8,s.f9,s.f10⟩,true)):=⟨rfl⟩
 go_enter Try.func57,Try.ntmps57
 go_wp2_with (first|((with_reducible refine jk0 (N:=2) rfl ?_);(try (refine gate_guard (by rfl) ?_;dsimp only));refine bxR 2 c BQ0 HC ?_;intro gb w1 HB BK BQ hcv HGB s0_ s1_ s2_ s3_;have x0_:_=some ((.string s.f0):Value):=bzC BQ 0;have y0_:=jj5 BQ.out 0)|(go_at_call 58;(with_reducible refine ofR (ozL hL) HC HB BK BQ ?_);clear HB BK BQ hcv s0_ s1_ s2_ s3_ x0_ y0_;intro w2 HB BK BQ hcv s0_ s1_ s2_ s3_;have x0_:_=some ((.string s.f0):Value):=bzC BQ 0;have y0_:=jj5 BQ.out 0)|(go_at_call 63;(with_reducible refine ofR (ozV hV) HC HB BK BQ ?_);clear HB BK BQ hcv s0_ s1_ s2_ s3_ x0_ y0_;intro w2 HB BK BQ hcv s0_ s1_ s2_ s3_;have x0_:_=some ((.string s.f0):Value):=bzC BQ 0;have y0_:=jj5 BQ.out 0)|((with_reducible refine jjz (t:=9) (p:=22) rfl ?_);refine czE q 0 30 (.string (strOfNums r.f3)) BQ.out ?_;intro w9 h1_ h2_ h3_ h4_;have BQ9:=mk0 h1_;have HB9:=mk0 h2_;have HK9:=mk0 h3_;have HS9:=mk0 h4_;clear h1_ h2_ h3_ h4_))
 go_ret
 rw [hst.out]
 have hs_:=hszL HK9 HQ HB
 exact leaf_set (CFile_slots _) HQ.out HQL.out (HB9.out _ _ HQ0.out (jj1 HB0.out HB0.out.size HB.out)) (Nat.le_trans HB.out.size HS9.out) (mix f W.heap.size) (fun k hk=>mix_lt hk) (fun k hk h0=>hs_ k hk (fun e=>h0 (.inr e))) BQ9.out (⟨_,_,_,_,_,_,_,_,rfl,L_move G2.out (fun k hk=>mix_lt hk) (fun k hk h0=>hs_ k hk (by omega)),L_move G3.out (fun k hk=>mix_lt hk) (fun k hk h0=>hs_ k hk (by omega)),L_move G4.out (fun k hk=>mix_lt hk) (fun k hk h0=>hs_ k hk (by omega)),L_move G5.out (fun k hk=>mix_lt hk) (fun k hk h0=>hs_ k hk (by omega)),L_move G6.out (fun k hk=>mix_lt hk) (fun k hk h0=>hs_ k hk (by omega)),L_move G7.out (fun k hk=>mix_lt hk) (fun k hk h0=>hs_ k hk (by omega)),V_move G9.out (fun k hk=>mix_lt hk) (fun k hk h0=>hs_ k hk (by omega)),V_move G10.out (fun k hk=>mix_lt hk) (fun k hk h0=>hs_ k hk (by omega))⟩)
theorem cloF1 (q:Nat) (W0:World) (hq0:W0.heap.size≤q):Taker stF1 (fun _=>0) (St (CFile W0.heap.size) 30 q) W0 57 #[] #[.pointer (some ⟨q,0,none⟩)] (fun r=>ofL r=1) where
 enters:=fun args w=>enters_ Try.func57 (by kernel_rfl) (by kernel_rfl) args w
 move:=fun f f' s W W' h h1 h2 h3=>St.move (CFile_slots _) h h1 h2
 up:=fun s r p h=>Nat.zero_le _
 call:=fun f s W r A c hT hB hr hr1 hlen hcnt hc hF=>cloF1_call q W0 hq0 f s W r A c hT hB hr hlen hcnt hc hr1 hF
theorem fileB_c (b:List Int) (A:Option Addr) (c:Nat) (w:World) (hb:Bytes b) (hl:b.length < 4294967296) (hC:Kd.C (Kd.int .u8) w A b.length b) (hc:b.length≤c) (l:List S97) (at_:Int) (hrw:raws b=(l,at_,0)) (hPr:∀ r∈l,ofL r=1) (s:S30) (kept:List Int) (hres_:readU stF1 b z30 = .ok (s,kept)) :
 Calls Try.prog 33 #[.slice A b.length c] w fun e w'=>Ans k30 w e w' (.ok ⟨s.f0,s.f1,s.f2,s.f3,s.f4,s.f5,s.f6,s.f7,s.f8,s.f9,kept⟩):=by
 have HC:=mk0 hC
 have HI:=mk0 (Below.refl w.heap.size w)
 have HRW:=mk0 hrw
 have HPR:=mk0 hPr
 clear hC hrw hPr
 have hres:=mk0 hres_
 clear hres_
 go_enter Try.func33,Try.ntmps33
 go_wp2_with (first|((with_reducible refine jk0 (N:=2) rfl ?_);(try (refine gate_guard (by rfl) ?_;dsimp only));refine bzX 2 #[.string (⟨#[]⟩:ByteArray),.string (⟨#[]⟩:ByteArray),.slice none 0 0,.slice none 0 0,.slice none 0 0,.slice none 0 0,.slice none 0 0,.slice none 0 0,.string (⟨#[]⟩:ByteArray),.slice none 0 0,.slice none 0 0] 30 ?_;intro g2 hg2 w1 hbox hb1;have HG2:=mk0 hg2;have BX:=mk0 hbox;have HB:=mk0 hb1;clear hg2 hbox hb1)|((with_reducible refine jk0 (N:=3) rfl ?_);(try (refine gate_guard (by rfl) ?_;dsimp only));refine bzX 3 #[.string (⟨#[]⟩:ByteArray),.string (⟨#[]⟩:ByteArray),.slice none 0 0,.slice none 0 0,.slice none 0 0,.slice none 0 0,.slice none 0 0,.slice none 0 0,.string (⟨#[]⟩:ByteArray),.slice none 0 0,.slice none 0 0] 30 ?_;intro q hgq w2 hbox hb2;have n0_:=mk0 (jj1 HB.out HB.out.size hb2);have n1_:=mk0 (jj3 BX.out hb2);have HNQ:=mk0 (show w.heap.size≤q from hgq ▸ HB.out.size);have HNE:=mk0 (show g2≠q from hgq ▸ Nat.ne_of_lt (blk_lt BX.out));have BQ:=mk0 hbox;clear HB BX;have HB:=n0_;have BX:=n1_;clear n0_ n1_ hgq hbox hb2)|(go_at_call 56;refine (read_ok (cloF1 q w HNQ.out) (f0:=ini w.heap.size g2 q) (fun _=>ini_lt) z30 rfl _ HB.out ⟨ini_q,_,BQ.out,⟨_,_,_,_,_,_,_,_,rfl,L_nil _ _ _ _ _ _,L_nil _ _ _ _ _ _,L_nil _ _ _ _ _ _,L_nil _ _ _ _ _ _,L_nil _ _ _ _ _ _,L_nil _ _ _ _ _ _,V_nil _ _,V_nil _ _⟩⟩ b A c hb hl (Kd.jj0 HC.out HB.out) hc l at_ HRW.out HPR.out).mono ?_;rintro e w4 h4;rw [hres.out] at h4;obtain ⟨h1,h2,h3,f',v,rfl,h5,h6,h7⟩:=h4;obtain ⟨Av,cv,ev⟩:=Kd.jk4 h7;subst ev;obtain ⟨hq',cs,hbq,v2,v3,v4,v5,v6,v7,v9,v10,rfl,g2_,g3_,g4_,g5_,g6_,g7_,g9_,g10_⟩:=h6;obtain ⟨A2,c2,ev2⟩:=Kd.N_slice g2_.1;subst ev2;have l2:=(Kd.N_reads' g2_.1).2.1;have F2:=Kd.N_F g2_.1;obtain ⟨A3,c3,ev3⟩:=Kd.N_slice g3_.1;subst ev3;have l3:=(Kd.N_reads' g3_.1).2.1;have F3:=Kd.N_F g3_.1;obtain ⟨A4,c4,ev4⟩:=Kd.N_slice g4_.1;subst ev4;have l4:=(Kd.N_reads' g4_.1).2.1;have F4:=Kd.N_F g4_.1;obtain ⟨A5,c5,ev5⟩:=Kd.N_slice g5_.1;subst ev5;have l5:=(Kd.N_reads' g5_.1).2.1;have F5:=Kd.N_F g5_.1;obtain ⟨A6,c6,ev6⟩:=Kd.N_slice g6_.1;subst ev6;have l6:=(Kd.N_reads' g6_.1).2.1;have F6:=Kd.N_F g6_.1;obtain ⟨A7,c7,ev7⟩:=Kd.N_slice g7_.1;subst ev7;have l7:=(Kd.N_reads' g7_.1).2.1;have F7:=Kd.N_F g7_.1;obtain ⟨A9,c9,rfl,l9,F9⟩:=g9_;obtain ⟨A10,c10,rfl,l10,F10⟩:=g10_;have HNG:=mk0 (Nat.le_of_eq HG2.out.symm);have HFIN:=mk0 (ini_fin h5 (blk_lt BX.out) (blk_lt BQ.out) (Nat.le_of_eq HG2.out.symm) HNQ.out HNE.out);have BX4:=mk0 ((h3 g2 (blk_lt BX.out) (ini_g HNE.out)).trans BX.out);have BQ4:=mk0 hbq;have HB4:=mk0 h2;have HV:=mk0 (Kd.R_F h7);have HVl:=mk0 (Kd.jj7 h7).2.1;have HVb:=mk0 (Kd.R_bound h7);have E2:=mk0 F2;have M2:=mk0 l2;have E3:=mk0 F3;have M3:=mk0 l3;have E4:=mk0 F4;have M4:=mk0 l4;have E5:=mk0 F5;have M5:=mk0 l5;have E6:=mk0 F6;have M6:=mk0 l6;have E7:=mk0 F7;have M7:=mk0 l7;have E9:=mk0 F9;have M9:=mk0 l9;have E10:=mk0 F10;have M10:=mk0 l10;clear h1 h2 h3 h5 h7 hbq hq' BX BQ HB HG2 F2 l2 g2_ F3 l3 g3_ F4 l4 g4_ F5 l5 g5_ F6 l6 g6_ F7 l7 g7_ F9 l9 F10 l10;have x10_:_=some (.slice A10 s.f10.length c10:Value):=bzC BQ4 10;have y10_:=jj5 BQ4.out 10)|((with_reducible refine jjz (t:=28) (p:=7) rfl ?_);refine czE q 10 30 (.slice Av kept.length cv) BQ4.out ?_;intro w5 h1_ h2_ h3_ h4_;have BQ5:=mk0 h1_;have HK5:=mk0 h3_;have HB5:=mk0 (h2_ _ _ HNQ.out HB4.out);have BX5:=mk0 ((h3_ g2 HNE.out).trans BX4.out);clear h1_ h2_ h3_ h4_ x10_ y10_;obtain ⟨x0_,x1_,x2_,x3_,x4_,x5_,x6_,x7_,x8_,x9_,x10_⟩:=cz11 BQ5.out)|((with_reducible refine jjz (t:=30) (p:=2) rfl ?_);refine Sw.store_whole rfl rfl rfl g2 30 _ _ rfl rfl BX5.out (by kernel_rfl) rfl rfl ?_;intro w6 h1_ h2_ h3_;have BX6:=mk0 h1_;have HB6:=mk0 (h2_ _ _ HNG.out HB5.out);have HK6:=mk0 h3_;clear h1_ h2_ h3_ x0_ x1_ x2_ x3_ x4_ x5_ x6_ x7_ x8_ x9_ x10_))
 refine bodyPost_ret (results_c1 rfl _ _ g2 30 #[.string s.f0,.string s.f1,.slice A2 s.f2.length c2,.slice A3 s.f3.length c3,.slice A4 s.f4.length c4,.slice A5 s.f5.length c5,.slice A6 s.f6.length c6,.slice A7 s.f7.length c7,.string s.f8,.slice A9 s.f9.length c9,.slice Av kept.length cv] (0,0) _ rfl BX6.out Try.underlying30 rfl (by kernel_rfl)) rfl ?_
 have hst_:∀ k,f' k≠997→f' k≠998→f' k≠999→w6.heap[k]?=w4.heap[k]?∧w.heap.size≤k:=fun k a7 a8 a9=>by obtain ⟨h1_,h2_,h3_⟩:=HFIN.out k a7 a8 a9;exact ⟨(HK6.out k h3_).trans (HK5.out k h2_),h1_⟩
 exact ⟨_,rfl,k30_mkF w6 _ (⟨s.f0,s.f1,s.f2,s.f3,s.f4,s.f5,s.f6,s.f7,s.f8,s.f9,kept⟩:S30) M2.out (Kd.F_mono (Kd.F_step (Kd.F_bound E2.out) (fun k hk hlt=>(hst_ k (by omega) (by omega) (by omega)).1)) (fun k hk=>(hst_ k (by omega) (by omega) (by omega)).2)) M3.out (Kd.F_mono (Kd.F_step (Kd.F_bound E3.out) (fun k hk hlt=>(hst_ k (by omega) (by omega) (by omega)).1)) (fun k hk=>(hst_ k (by omega) (by omega) (by omega)).2)) M4.out (Kd.F_mono (Kd.F_step (Kd.F_bound E4.out) (fun k hk hlt=>(hst_ k (by omega) (by omega) (by omega)).1)) (fun k hk=>(hst_ k (by omega) (by omega) (by omega)).2)) M5.out (Kd.F_mono (Kd.F_step (Kd.F_bound E5.out) (fun k hk hlt=>(hst_ k (by omega) (by omega) (by omega)).1)) (fun k hk=>(hst_ k (by omega) (by omega) (by omega)).2)) M6.out (Kd.F_mono (Kd.F_step (Kd.F_bound E6.out) (fun k hk hlt=>(hst_ k (by omega) (by omega) (by omega)).1)) (fun k hk=>(hst_ k (by omega) (by omega) (by omega)).2)) M7.out (Kd.F_mono (Kd.F_step (Kd.F_bound E7.out) (fun k hk hlt=>(hst_ k (by omega) (by omega) (by omega)).1)) (fun k hk=>(hst_ k (by omega) (by omega) (by omega)).2)) M9.out (Kd.F_mono (Kd.F_step (Kd.F_bound E9.out) (fun k hk hlt=>(hst_ k (by omega) (by omega) (by omega)).1)) (fun k hk=>(hst_ k (by omega) (by omega) (by omega)).2)) HVl.out (Kd.F_mono (Kd.F_step (Kd.F_bound HV.out) (fun k hk hlt=>(hst_ k (by omega) (by omega) (by omega)).1)) (fun k hk=>(hst_ k (by omega) (by omega) (by omega)).2)),HB6.out⟩
end Go.Proofs.Ytheoafenehckbaa.Ur
