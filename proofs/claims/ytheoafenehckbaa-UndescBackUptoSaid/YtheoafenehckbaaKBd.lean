/- Whether a file's numbers have their bounds (law12). -/
import Derived.Test.YtheoafenehckbaaKFw
import Derived.Test.YtheoafenehckbaaKSh
import Derived.Test.YtheoafenehckbaaKSp
import Derived.LoopN
import Derived.RegionTactic
set_option maxHeartbeats 8000000
set_option maxRecDepth 100000
namespace Go.Proofs.Ytheoafenehckbaa.Ur
open Go.RowKit GUndescBack YtheoafenehckbaaW.PrintWords YtheoafenehckbaaW.PrintLast YtheoafenehckbaaW.PrintMore Rk Dp Sp
set_option linter.unusedVariables false
set_option linter.unusedSimpArgs false
def fOk (y:S88):Bool:=!(decide (y.f2 < 0) || decide (y.f2 ≥ 2147483648) || decide (y.f3 < 0) || decide (y.f3 ≥ 2147483648) || decide (y.f8 < 0) || decide (y.f8 > 2147483648) || (!y.f7 && (!y.f6.toList.isEmpty)))
theorem all_step {α:Type} (p:α→Bool) (d:α) (l:List α) (i:Nat) (h:i < l.length) (h1:(l.take i).all p=true) (h2:p (l.getD i d)=true):(l.take (i+1)).all p=true:=by
 have e:l.take (i+1)=l.take i++[l.getD i d]:=by
  rw [List.take_add_one]
  congr 1
  simp [h]
 rw [e,List.all_append,h1,List.all_cons,h2]
 rfl
theorem all_no {α:Type} (p:α→Bool) (d:α) (l:List α) (i:Nat) (h:i < l.length) (h2:p (l.getD i d)=false):l.all p=false:=by
 rw [List.all_eq_false]
 refine ⟨l[i],List.getElem_mem h,?_⟩
 have:l.getD i d=l[i]:=by simp [h]
 rw [this] at h2
 simp [h2]
theorem all_end {α:Type} (p:α→Bool) (l:List α) (i:Nat) (h:¬ i < l.length) (h1:(l.take i).all p=true):l.all p=true:=by
 rw [List.take_of_length_le (by omega)] at h1
 exact h1
theorem bdFields_c (a:List S88) (hga:∀ y∈a,good88 y) (hla:a.length≤maxLen) (A0:Option Addr) (ca:Nat) (w:World) (CA:Kd.C k88 w A0 a.length a) :
 Calls Try.prog 17 #[.slice A0 a.length ca] w fun e w'=>e = .returned (.bool (a.all fOk))∧Below w.heap.size w w':=by
 have HC:=mk0 CA
 have HLA:=mk0 hla
 clear CA hla
 go_enter Try.func17,Try.ntmps17
 go_wp2
 go_loopg [7] a.length (fun kq v7 w'=>∃ i:Nat,v7 = .int .i64 (i:Int)∧Aside0 (i+kq=a.length)∧Aside0 (Below w.heap.size w w')∧Aside0 ((a.take i).all fOk=true))
 case atStart=>
  exact ⟨0,rfl,⟨by omega⟩,⟨Below.refl _ _⟩,⟨rfl⟩⟩
 case round=>
  obtain ⟨i,rfl,HI,HB,HT⟩:=hrel
  by_cases hlt:i < a.length
  · have d0:=lt_d hlt
    have p0:=le_p i
    have q0:=lt_p hlt
    obtain ⟨x,hx⟩:∃ x,a.getD i z88=x:=⟨_,rfl⟩
    have gx_:=hga x (by rw [← hx,List.getD_eq_getElem?_getD,List.getElem?_eq_getElem hlt];exact List.getElem_mem hlt)
    have HOK:Aside0 (fOk x=true→Aside0 ((a.take (i+1)).all fOk=true)):=⟨fun h=>⟨all_step fOk z88 a i hlt HT.out (by rw [hx];exact h)⟩⟩
    have HNO:Aside0 (fOk x=false→Aside0 (a.all fOk=false)):=⟨fun h=>⟨all_no fOk z88 a i hlt (by rw [hx];exact h)⟩⟩
    have hwp:=mk0 (i_step i a.length hlt HLA.out)
    obtain ⟨ad,cc,ea,_,hKx,hcc⟩:=Kd.C_get HC.out z88 (i:Int) (Int.natCast_nonneg _) (Int.ofNat_lt.2 hlt)
    rw [Int.toNat_natCast] at hKx hcc
    replace hcc:=fun j u h=>pw_cell_below HB.out (hcc j u h)
    rw [hx] at hKx
    obtain ⟨A11,c11,A12,c12,ecc,lc11,gc11,lc12,gc12⟩:=k88_open hKx
    subst ecc ea
    clear hx hKx
    obtain ⟨b0,h0⟩:∃ b,decide (x.f2 < 0)=b:=⟨_,rfl⟩
    obtain ⟨b1,h1⟩:∃ b,decide (x.f2 ≥ 2147483648)=b:=⟨_,rfl⟩
    obtain ⟨b2,h2⟩:∃ b,decide (x.f3 < 0)=b:=⟨_,rfl⟩
    obtain ⟨b3,h3⟩:∃ b,decide (x.f3 ≥ 2147483648)=b:=⟨_,rfl⟩
    obtain ⟨b4,h4⟩:∃ b,decide (x.f8 < 0)=b:=⟨_,rfl⟩
    obtain ⟨b5,h5⟩:∃ b,decide (x.f8 > 2147483648)=b:=⟨_,rfl⟩
    obtain ⟨b6,h6⟩:∃ b,(!x.f7)=b:=⟨_,rfl⟩
    obtain ⟨b7,h7⟩:∃ b,(!x.f6.toList.isEmpty)=b:=⟨_,rfl⟩
    have hfo:fOk x = !(b0 || b1 || b2 || b3 || b4 || b5 || (b6 && b7)):=by unfold fOk;rw [h0,h1,h2,h3,h4,h5,h6,h7]
    have key:((b0=true∧fOk x=false)∨(b0=false∧b1=true∧fOk x=false)∨(b0=false∧b1=false∧b2=true∧fOk x=false)∨(b0=false∧b1=false∧b2=false∧b3=true∧fOk x=false)∨(b0=false∧b1=false∧b2=false∧b3=false∧b4=true∧fOk x=false)∨(b0=false∧b1=false∧b2=false∧b3=false∧b4=false∧b5=true∧fOk x=false)∨(b0=false∧b1=false∧b2=false∧b3=false∧b4=false∧b5=false∧b6=true∧b7=true∧fOk x=false))∨((b0=false∧b1=false∧b2=false∧b3=false∧b4=false∧b5=false∧b6=true∧b7=false∧fOk x=true)∨(b0=false∧b1=false∧b2=false∧b3=false∧b4=false∧b5=false∧b6=false∧fOk x=true)):=by
     rw [hfo]
     cases b0 <;> cases b1 <;> cases b2 <;> cases b3 <;> cases b4 <;> cases b5 <;> cases b6 <;> cases b7 <;> simp
    clear hfo gx_
    cases gk with
    | zero=>exact absurd HI.out (fun h=>Nat.ne_of_lt hlt h)
    | succ k1=>
     rcases key with key|key
     · rcases key with ⟨rfl,hR_⟩|⟨rfl,rfl,hR_⟩|⟨rfl,rfl,rfl,hR_⟩|⟨rfl,rfl,rfl,rfl,hR_⟩|⟨rfl,rfl,rfl,rfl,rfl,hR_⟩|⟨rfl,rfl,rfl,rfl,rfl,rfl,hR_⟩|⟨rfl,rfl,rfl,rfl,rfl,rfl,rfl,rfl,hR_⟩ <;>
       (as_aux_lemma=>
        have HR_:=mk0 hR_
        clear hR_
        go_wp2_with (first|((with_reducible refine gate_load (ty:=88) (p:=9) rfl ?_);refine load_elem 88 9 ad (i*13) [.string x.f0,.int .i64 x.f1,.int .i64 x.f2,.int .i64 x.f3,.string x.f4,.string x.f5,.string x.f6,.bool x.f7,.int .i64 x.f8,.string x.f9,.bool x.f10,.slice A11 x.f11.length c11,.slice A12 x.f12.length c12] _ hcc Try.underlying88 ?_)|((with_reducible refine jjq (N:=4) rfl ?_);refine bzX 4 #[.string (⟨#[]⟩:ByteArray),.int .i64 0,.int .i64 0,.int .i64 0,.string (⟨#[]⟩:ByteArray),.string (⟨#[]⟩:ByteArray),.string (⟨#[]⟩:ByteArray),.bool false,.int .i64 0,.string (⟨#[]⟩:ByteArray),.bool false,.slice none 0 0,.slice none 0 0] 88 ?_;intro gb hgb w2 hbox hb;have n0_:=mk0 (jj1 HB.out HB.out.size hb);have BK0:=mk0 hbox;have HGB:=mk0 (show w.heap.size≤gb from hgb ▸ HB.out.size);clear HB hgb hbox hb;have HB:=n0_;clear n0_)|((with_reducible refine jjz (t:=88) (p:=4) rfl ?_);refine store_box 88 4 10 gb #[.string x.f0,.int .i64 x.f1,.int .i64 x.f2,.int .i64 x.f3,.string x.f4,.string x.f5,.string x.f6,.bool x.f7,.int .i64 x.f8,.string x.f9,.bool x.f10,.slice A11 x.f11.length c11,.slice A12 x.f12.length c12] BK0.out ?_;intro w3 hS hbS hkS;have n0_:=mk0 (hbS _ _ HGB.out HB.out);have BK:=mk0 hS;clear HB hS hbS hkS;have HB:=n0_;clear n0_ BK0;obtain ⟨s0_,s1_,s2_,s3_,s4_,s5_,s6_,s7_,s8_,s9_,s10_,s11_,s12_⟩:=cz13 BK.out))
        go_ret
        exact ⟨by rw [(HNO.out HR_.out).out];rfl,HB.out⟩)
     · rcases key with ⟨rfl,rfl,rfl,rfl,rfl,rfl,rfl,rfl,hR_⟩|⟨rfl,rfl,rfl,rfl,rfl,rfl,rfl,hR_⟩ <;>
       (have HR_:=mk0 hR_
        clear hR_
        have hwp1:=hwp.out
        go_wp2_with (first|((with_reducible refine gate_load (ty:=88) (p:=9) rfl ?_);refine load_elem 88 9 ad (i*13) [.string x.f0,.int .i64 x.f1,.int .i64 x.f2,.int .i64 x.f3,.string x.f4,.string x.f5,.string x.f6,.bool x.f7,.int .i64 x.f8,.string x.f9,.bool x.f10,.slice A11 x.f11.length c11,.slice A12 x.f12.length c12] _ hcc Try.underlying88 ?_)|((with_reducible refine jjq (N:=4) rfl ?_);refine bzX 4 #[.string (⟨#[]⟩:ByteArray),.int .i64 0,.int .i64 0,.int .i64 0,.string (⟨#[]⟩:ByteArray),.string (⟨#[]⟩:ByteArray),.string (⟨#[]⟩:ByteArray),.bool false,.int .i64 0,.string (⟨#[]⟩:ByteArray),.bool false,.slice none 0 0,.slice none 0 0] 88 ?_;intro gb hgb w2 hbox hb;have n0_:=mk0 (jj1 HB.out HB.out.size hb);have BK0:=mk0 hbox;have HGB:=mk0 (show w.heap.size≤gb from hgb ▸ HB.out.size);clear HB hgb hbox hb;have HB:=n0_;clear n0_)|((with_reducible refine jjz (t:=88) (p:=4) rfl ?_);refine store_box 88 4 10 gb #[.string x.f0,.int .i64 x.f1,.int .i64 x.f2,.int .i64 x.f3,.string x.f4,.string x.f5,.string x.f6,.bool x.f7,.int .i64 x.f8,.string x.f9,.bool x.f10,.slice A11 x.f11.length c11,.slice A12 x.f12.length c12] BK0.out ?_;intro w3 hS hbS hkS;have n0_:=mk0 (hbS _ _ HGB.out HB.out);have BK:=mk0 hS;clear HB hS hbS hkS;have HB:=n0_;clear n0_ BK0;obtain ⟨s0_,s1_,s2_,s3_,s4_,s5_,s6_,s7_,s8_,s9_,s10_,s11_,s12_⟩:=cz13 BK.out))
        go_roundg k1
        case measure=>exact Nat.lt_succ_self k1
        case rel=>exact ⟨i+1,(by first|rfl|(rw [hwp1])|(simp [hwp1];done)),⟨(Nat.add_right_comm i 1 k1).trans HI.out⟩,⟨HB.out⟩,HOK.out HR_.out⟩)
  · have d0:=ge_d hlt
    have HE:=mk0 (all_end fOk a i hlt HT.out)
    go_wp2
    go_ret
    exact ⟨by rw [HE.out];rfl,HB.out⟩
theorem att_all {α:Type} (p:α→Bool) (l:List α):(l.attach.all fun y=>p y.1)=l.all p:=by
 have h1:(l.attach.all fun y=>p y.1)=((l.attach.map fun y=>p y.1).all id):=by rw [List.all_map];rfl
 rw [h1,List.attach_map_val (l:=l) (f:=p),List.all_map]
 rfl
def mOk (x:S76):Bool:=x.f1.all fOk && (x.f5.all fOk && x.f2.attach.all (fun y=>mOk y.1))
termination_by SizeOf.sizeOf x
decreasing_by (have h1:=List.sizeOf_lt_of_mem y.2;have h2:=sz_f2 x;omega)
theorem mOk_eq (x:S76):mOk x=(x.f1.all fOk && (x.f5.all fOk && x.f2.all mOk)):=by
 rw [mOk,att_all mOk]
def MBd (x:S76):Prop:=good76 x→∀ (A0:Option Addr) (ca:Nat) (w:World),Kd.C k76 w A0 x.f2.length x.f2→Calls Try.prog 18 #[.slice A0 x.f2.length ca] w fun e w'=>e = .returned (.bool (x.f2.all mOk))∧Below w.heap.size w w'
theorem bdMessages1_c (a:List S76) (hga:∀ y∈a,good76 y) (ih:∀ y∈a,MBd y) (hla:a.length≤maxLen) (A0:Option Addr) (ca:Nat) (w:World) (CA:Kd.C k76 w A0 a.length a) :
 Calls Try.prog 18 #[.slice A0 a.length ca] w fun e w'=>e = .returned (.bool (a.all mOk))∧Below w.heap.size w w':=by
 have HC:=mk0 CA
 have HLA:=mk0 hla
 clear CA hla
 go_enter Try.func18,Try.ntmps18
 go_wp2
 go_loopg [7] a.length (fun kq v7 w'=>∃ i:Nat,v7 = .int .i64 (i:Int)∧Aside0 (i+kq=a.length)∧Aside0 (Below w.heap.size w w')∧Aside0 ((a.take i).all mOk=true))
 case atStart=>
  exact ⟨0,rfl,⟨by omega⟩,⟨Below.refl _ _⟩,⟨rfl⟩⟩
 case round=>
  obtain ⟨i,rfl,HI,HB,HT⟩:=hrel
  by_cases hlt:i < a.length
  · have d0:=lt_d hlt
    have p0:=le_p i
    have q0:=lt_p hlt
    obtain ⟨x,hx⟩:∃ x,a.getD i z76=x:=⟨_,rfl⟩
    have gx_:=hga x (by rw [← hx,List.getD_eq_getElem?_getD,List.getElem?_eq_getElem hlt];exact List.getElem_mem hlt)
    have HOK:Aside0 (mOk x=true→Aside0 ((a.take (i+1)).all mOk=true)):=⟨fun h=>⟨all_step mOk z76 a i hlt HT.out (by rw [hx];exact h)⟩⟩
    have HNO:Aside0 (mOk x=false→Aside0 (a.all mOk=false)):=⟨fun h=>⟨all_no mOk z76 a i hlt (by rw [hx];exact h)⟩⟩
    have hwp:=mk0 (i_step i a.length hlt HLA.out)
    obtain ⟨ad,cc,ea,_,hKx,hcc⟩:=Kd.C_get HC.out z76 (i:Int) (Int.natCast_nonneg _) (Int.ofNat_lt.2 hlt)
    rw [Int.toNat_natCast] at hKx hcc
    replace hcc:=fun j u h=>pw_cell_below HB.out (hcc j u h)
    rw [hx] at hKx
    obtain ⟨A1,c1,A2,c2,A3,c3,A4,c4,A5,c5,A6,c6,A7,c7,A8,c8,A9,c9,A10,c10,ecc,lc1,gc1,lc2,gc2,lc3,gc3,lc4,gc4,lc5,gc5,lc6,gc6,lc7,gc7,lc8,gc8,lc9,gc9,lc10,gc10⟩:=k76_open hKx
    have hix:=ih x (by rw [← hx,List.getD_eq_getElem?_getD,List.getElem?_eq_getElem hlt];exact List.getElem_mem hlt) gx_
    rw [good76] at gx_
    subst ecc ea
    clear hx hKx
    obtain ⟨b1,h1⟩:∃ b,x.f1.all fOk=b:=⟨_,rfl⟩
    have s1:=fun (W:World) (hW:Below w.heap.size w W)=>bdFields_c x.f1 gx_.2.1.2 gx_.2.1.1 A1 c1 W (Kd.jj0 gc1 hW)
    rw [h1] at s1
    obtain ⟨b5,h5⟩:∃ b,x.f5.all fOk=b:=⟨_,rfl⟩
    have s5:=fun (W:World) (hW:Below w.heap.size w W)=>bdFields_c x.f5 gx_.2.2.2.2.2.1.2 gx_.2.2.2.2.2.1.1 A5 c5 W (Kd.jj0 gc5 hW)
    rw [h5] at s5
    obtain ⟨b2,h2⟩:∃ b,x.f2.all mOk=b:=⟨_,rfl⟩
    have s2:=fun (W:World) (hW:Below w.heap.size w W)=>hix A2 c2 W (Kd.jj0 gc2 hW)
    rw [h2] at s2
    have hfo:mOk x=(b1 && (b5 && b2)):=by rw [mOk_eq,h1,h5,h2]
    clear hix h1 h5 h2
    have key:((b1=false∧mOk x=false)∨(b1=true∧b5=false∧mOk x=false)∨(b1=true∧b5=true∧b2=false∧mOk x=false))∨(b1=true∧b5=true∧b2=true∧mOk x=true):=by
     rw [hfo]
     cases b1 <;> cases b5 <;> cases b2 <;> simp
    clear hfo gx_
    cases gk with
    | zero=>exact absurd HI.out (fun h=>Nat.ne_of_lt hlt h)
    | succ k1=>
     rcases key with key|key
     · rcases key with ⟨rfl,hR_⟩|⟨rfl,rfl,hR_⟩|⟨rfl,rfl,rfl,hR_⟩ <;>
       (as_aux_lemma=>
        have HR_:=mk0 hR_
        clear hR_
        go_wp2_with (first|((with_reducible refine gate_load (ty:=76) (p:=9) rfl ?_);refine load_elem 76 9 ad (i*11) [.string x.f0,.slice A1 x.f1.length c1,.slice A2 x.f2.length c2,.slice A3 x.f3.length c3,.slice A4 x.f4.length c4,.slice A5 x.f5.length c5,.slice A6 x.f6.length c6,.slice A7 x.f7.length c7,.slice A8 x.f8.length c8,.slice A9 x.f9.length c9,.slice A10 x.f10.length c10] _ hcc Try.underlying76 ?_)|((with_reducible refine jjq (N:=4) rfl ?_);refine bzX 4 #[.string (⟨#[]⟩:ByteArray),.slice none 0 0,.slice none 0 0,.slice none 0 0,.slice none 0 0,.slice none 0 0,.slice none 0 0,.slice none 0 0,.slice none 0 0,.slice none 0 0,.slice none 0 0] 76 ?_;intro gb hgb w2 hbox hb;have n0_:=mk0 (jj1 HB.out HB.out.size hb);have BK0:=mk0 hbox;have HGB:=mk0 (show w.heap.size≤gb from hgb ▸ HB.out.size);clear HB hgb hbox hb;have HB:=n0_;clear n0_)|((with_reducible refine jjz (t:=76) (p:=4) rfl ?_);refine store_box 76 4 10 gb #[.string x.f0,.slice A1 x.f1.length c1,.slice A2 x.f2.length c2,.slice A3 x.f3.length c3,.slice A4 x.f4.length c4,.slice A5 x.f5.length c5,.slice A6 x.f6.length c6,.slice A7 x.f7.length c7,.slice A8 x.f8.length c8,.slice A9 x.f9.length c9,.slice A10 x.f10.length c10] BK0.out ?_;intro w3 hS hbS hkS;have n0_:=mk0 (hbS _ _ HGB.out HB.out);have BK:=mk0 hS;clear HB hS hbS hkS;have HB:=n0_;clear n0_ BK0;obtain ⟨s0_,s1_,s2_,s3_,s4_,s5_,s6_,s7_,s8_,s9_,s10_⟩:=cz11 BK.out)|(go_at_call 17;(with_reducible refine (s1 _ HB.out).mono ?_);rintro e wq ⟨rfl,hb⟩;have n0_:=mk0 (jj1 HB.out HB.out.size hb);have n1_:=mk0 (jj3 BK.out hb);clear HB BK hb s0_ s1_ s2_ s3_ s4_ s5_ s6_ s7_ s8_ s9_ s10_;have HB:=n0_;have BK:=n1_;clear n0_ n1_;obtain ⟨s0_,s1_,s2_,s3_,s4_,s5_,s6_,s7_,s8_,s9_,s10_⟩:=cz11 BK.out)|(go_at_call 17;(with_reducible refine (s5 _ HB.out).mono ?_);rintro e wq ⟨rfl,hb⟩;have n0_:=mk0 (jj1 HB.out HB.out.size hb);have n1_:=mk0 (jj3 BK.out hb);clear HB BK hb s0_ s1_ s2_ s3_ s4_ s5_ s6_ s7_ s8_ s9_ s10_;have HB:=n0_;have BK:=n1_;clear n0_ n1_;obtain ⟨s0_,s1_,s2_,s3_,s4_,s5_,s6_,s7_,s8_,s9_,s10_⟩:=cz11 BK.out)|(go_at_call 18;(with_reducible refine (s2 _ HB.out).mono ?_);rintro e wq ⟨rfl,hb⟩;have n0_:=mk0 (jj1 HB.out HB.out.size hb);have n1_:=mk0 (jj3 BK.out hb);clear HB BK hb s0_ s1_ s2_ s3_ s4_ s5_ s6_ s7_ s8_ s9_ s10_;have HB:=n0_;have BK:=n1_;clear n0_ n1_;obtain ⟨s0_,s1_,s2_,s3_,s4_,s5_,s6_,s7_,s8_,s9_,s10_⟩:=cz11 BK.out))
        go_ret
        exact ⟨by rw [(HNO.out HR_.out).out];rfl,HB.out⟩)
     · rcases key with ⟨rfl,rfl,rfl,hR_⟩ <;>
       (have HR_:=mk0 hR_
        clear hR_
        have hwp1:=hwp.out
        go_wp2_with (first|((with_reducible refine gate_load (ty:=76) (p:=9) rfl ?_);refine load_elem 76 9 ad (i*11) [.string x.f0,.slice A1 x.f1.length c1,.slice A2 x.f2.length c2,.slice A3 x.f3.length c3,.slice A4 x.f4.length c4,.slice A5 x.f5.length c5,.slice A6 x.f6.length c6,.slice A7 x.f7.length c7,.slice A8 x.f8.length c8,.slice A9 x.f9.length c9,.slice A10 x.f10.length c10] _ hcc Try.underlying76 ?_)|((with_reducible refine jjq (N:=4) rfl ?_);refine bzX 4 #[.string (⟨#[]⟩:ByteArray),.slice none 0 0,.slice none 0 0,.slice none 0 0,.slice none 0 0,.slice none 0 0,.slice none 0 0,.slice none 0 0,.slice none 0 0,.slice none 0 0,.slice none 0 0] 76 ?_;intro gb hgb w2 hbox hb;have n0_:=mk0 (jj1 HB.out HB.out.size hb);have BK0:=mk0 hbox;have HGB:=mk0 (show w.heap.size≤gb from hgb ▸ HB.out.size);clear HB hgb hbox hb;have HB:=n0_;clear n0_)|((with_reducible refine jjz (t:=76) (p:=4) rfl ?_);refine store_box 76 4 10 gb #[.string x.f0,.slice A1 x.f1.length c1,.slice A2 x.f2.length c2,.slice A3 x.f3.length c3,.slice A4 x.f4.length c4,.slice A5 x.f5.length c5,.slice A6 x.f6.length c6,.slice A7 x.f7.length c7,.slice A8 x.f8.length c8,.slice A9 x.f9.length c9,.slice A10 x.f10.length c10] BK0.out ?_;intro w3 hS hbS hkS;have n0_:=mk0 (hbS _ _ HGB.out HB.out);have BK:=mk0 hS;clear HB hS hbS hkS;have HB:=n0_;clear n0_ BK0;obtain ⟨s0_,s1_,s2_,s3_,s4_,s5_,s6_,s7_,s8_,s9_,s10_⟩:=cz11 BK.out)|(go_at_call 17;(with_reducible refine (s1 _ HB.out).mono ?_);rintro e wq ⟨rfl,hb⟩;have n0_:=mk0 (jj1 HB.out HB.out.size hb);have n1_:=mk0 (jj3 BK.out hb);clear HB BK hb s0_ s1_ s2_ s3_ s4_ s5_ s6_ s7_ s8_ s9_ s10_;have HB:=n0_;have BK:=n1_;clear n0_ n1_;obtain ⟨s0_,s1_,s2_,s3_,s4_,s5_,s6_,s7_,s8_,s9_,s10_⟩:=cz11 BK.out)|(go_at_call 17;(with_reducible refine (s5 _ HB.out).mono ?_);rintro e wq ⟨rfl,hb⟩;have n0_:=mk0 (jj1 HB.out HB.out.size hb);have n1_:=mk0 (jj3 BK.out hb);clear HB BK hb s0_ s1_ s2_ s3_ s4_ s5_ s6_ s7_ s8_ s9_ s10_;have HB:=n0_;have BK:=n1_;clear n0_ n1_;obtain ⟨s0_,s1_,s2_,s3_,s4_,s5_,s6_,s7_,s8_,s9_,s10_⟩:=cz11 BK.out)|(go_at_call 18;(with_reducible refine (s2 _ HB.out).mono ?_);rintro e wq ⟨rfl,hb⟩;have n0_:=mk0 (jj1 HB.out HB.out.size hb);have n1_:=mk0 (jj3 BK.out hb);clear HB BK hb s0_ s1_ s2_ s3_ s4_ s5_ s6_ s7_ s8_ s9_ s10_;have HB:=n0_;have BK:=n1_;clear n0_ n1_;obtain ⟨s0_,s1_,s2_,s3_,s4_,s5_,s6_,s7_,s8_,s9_,s10_⟩:=cz11 BK.out))
        go_roundg k1
        case measure=>exact Nat.lt_succ_self k1
        case rel=>exact ⟨i+1,(by first|rfl|(rw [hwp1])|(simp [hwp1];done)),⟨(Nat.add_right_comm i 1 k1).trans HI.out⟩,⟨HB.out⟩,HOK.out HR_.out⟩)
  · have d0:=ge_d hlt
    have HE:=mk0 (all_end mOk a i hlt HT.out)
    go_wp2
    go_ret
    exact ⟨by rw [HE.out];rfl,HB.out⟩
theorem mbd_all:∀ x:S76,MBd x:=by
 refine S76.ind fun x ih g A0 ca w CA=>?_
 rw [good76] at g
 exact bdMessages1_c x.f2 g.2.2.1.2 ih g.2.2.1.1 A0 ca w CA
theorem bdMessages_c (a:List S76) (hga:∀ y∈a,good76 y) (hla:a.length≤maxLen) (A0:Option Addr) (ca:Nat) (w:World) (CA:Kd.C k76 w A0 a.length a):Calls Try.prog 18 #[.slice A0 a.length ca] w fun e w'=>e = .returned (.bool (a.all mOk))∧Below w.heap.size w w':=bdMessages1_c a hga (fun y _=>mbd_all y) hla A0 ca w CA
def pOk (n:Int):Bool:=!(decide (n < 0) || decide (n ≥ 2147483648))
def bdB (x:S30):Bool:=x.f3.all pOk && (x.f7.all fOk && x.f4.all mOk)
theorem bounded_c (x:S30) (gx:good30 x) (w:World) (cs:List Value) (hx:k30.K w x cs):Calls Try.prog 9 #[.agg cs.toArray] w fun e w'=>e = .returned (.bool (bdB x))∧Below w.heap.size w w':=by
 obtain ⟨A2,c2,A3,c3,A4,c4,A5,c5,A6,c6,A7,c7,A9,c9,A10,c10,rfl,l2,g2,l3,g3,l4,g4,l5,g5,l6,g6,l7,g7,l9,g9,l10,g10⟩:=k30_open hx
 have HB:Aside0 (Below w.heap.size w (w.alloc (.cells #[.string x.f0,.string x.f1,.slice A2 x.f2.length c2,.slice A3 x.f3.length c3,.slice A4 x.f4.length c4,.slice A5 x.f5.length c5,.slice A6 x.f6.length c6,.slice A7 x.f7.length c7,.string x.f8,.slice A9 x.f9.length c9,.slice A10 x.f10.length c10] 30))):=⟨jj7 (Below.refl _ _) _⟩
 have BX:Aside0 ((w.alloc (.cells #[.string x.f0,.string x.f1,.slice A2 x.f2.length c2,.slice A3 x.f3.length c3,.slice A4 x.f4.length c4,.slice A5 x.f5.length c5,.slice A6 x.f6.length c6,.slice A7 x.f7.length c7,.string x.f8,.slice A9 x.f9.length c9,.slice A10 x.f10.length c10] 30)).heap[w.heap.size]?=some (.cells #[.string x.f0,.string x.f1,.slice A2 x.f2.length c2,.slice A3 x.f3.length c3,.slice A4 x.f4.length c4,.slice A5 x.f5.length c5,.slice A6 x.f6.length c6,.slice A7 x.f7.length c7,.string x.f8,.slice A9 x.f9.length c9,.slice A10 x.f10.length c10] 30 (0,0))):=⟨blk_new _ _⟩
 have s7:=fun (W:World) (hW:Below w.heap.size w W)=>bdFields_c x.f7 gx.2.2.2.2.2.2.2.1.2 gx.2.2.2.2.2.2.2.1.1 A7 c7 W (Kd.jj0 g7 hW)
 have s4:=fun (W:World) (hW:Below w.heap.size w W)=>bdMessages_c x.f4 gx.2.2.2.2.1.2 gx.2.2.2.2.1.1 A4 c4 W (Kd.jj0 g4 hW)
 have hla:=gx.2.2.2.1.1
 have HLA:=mk0 hla
 obtain ⟨b7,h7⟩:∃ b,x.f7.all fOk=b:=⟨_,rfl⟩
 rw [h7] at s7
 obtain ⟨b4,h4⟩:∃ b,x.f4.all mOk=b:=⟨_,rfl⟩
 rw [h4] at s4
 have HR:Aside0 (bdB x=(x.f3.all pOk && (b7 && b4))):=⟨by unfold bdB;rw [h7,h4]⟩
 clear hla h7 h4 gx
 have p3_:_=some ((.slice A3 x.f3.length c3):Value):=bzC BX 3;have p4_:_=some ((.slice A4 x.f4.length c4):Value):=bzC BX 4;have p7_:_=some ((.slice A7 x.f7.length c7):Value):=bzC BX 7
 go_enter Try.func9,Try.ntmps9
 go_wp2
 go_loopg [8] x.f3.length (fun kq v8 w'=>∃ i:Nat,v8 = .int .i64 (i:Int)∧Aside0 (i+kq=x.f3.length)∧Aside0 (Below w.heap.size w w')∧Aside0 (w'.heap[w.heap.size]?=some (.cells #[.string x.f0,.string x.f1,.slice A2 x.f2.length c2,.slice A3 x.f3.length c3,.slice A4 x.f4.length c4,.slice A5 x.f5.length c5,.slice A6 x.f6.length c6,.slice A7 x.f7.length c7,.string x.f8,.slice A9 x.f9.length c9,.slice A10 x.f10.length c10] 30 (0,0)))∧Aside0 ((x.f3.take i).all pOk=true))
 case atStart=>
  exact ⟨0,rfl,⟨by omega⟩,⟨HB.out⟩,⟨BX.out⟩,⟨rfl⟩⟩
 case round=>
  clear HB BX p3_ p4_ p7_
  obtain ⟨i,rfl,HI,HB,BX,HT⟩:=hrel
  by_cases hlt:i < x.f3.length
  · have d0:=lt_d hlt
    have p0:(0≤(i:Int))=True:=eq_true (Int.natCast_nonneg i)
    have q0:((i:Int) < (x.f3.length:Int))=True:=eq_true (Int.ofNat_lt.2 hlt)
    obtain ⟨n_,hxe⟩:∃ n_,x.f3.getD i 0=n_:=⟨_,rfl⟩
    have hok:pOk n_=true→Aside0 ((x.f3.take (i+1)).all pOk=true):=fun h=>⟨all_step pOk 0 x.f3 i hlt HT.out (by rw [hxe];exact h)⟩
    have hno:pOk n_=false→Aside0 (bdB x=false):=fun h=>⟨by rw [HR.out,all_no pOk 0 x.f3 i hlt (by rw [hxe];exact h)];rfl⟩
    have hwp:=mk0 (i_step i x.f3.length hlt HLA.out)
    have hCa:=Kd.jj0 g3 HB.out
    obtain ⟨ad,cc,ea,_,hKx,hcc⟩:=Kd.C_get hCa (0:Int) (i:Int) (Int.natCast_nonneg _) (Int.ofNat_lt.2 hlt)
    rw [Int.toNat_natCast] at hKx hcc
    rw [hxe] at hKx
    obtain rfl:cc=[.int .i64 n_]:=hKx
    have hcell:wr.cell? (ad.add i)=some (.int .i64 n_):=by have:=hcc 0 _ rfl;rwa [show i*(Kd.int .i64).sz+0=i from by show i*1+0=i;omega] at this
    subst ea
    clear hcc hxe
    obtain ⟨b0,h0⟩:∃ b,decide (n_ < 0)=b:=⟨_,rfl⟩
    obtain ⟨b1,h1⟩:∃ b,decide (n_ ≥ 2147483648)=b:=⟨_,rfl⟩
    have hfo:pOk n_ = !(b0 || b1):=by unfold pOk;rw [h0,h1]
    have key:(b0=true∧pOk n_=false)∨(b0=false∧b1=true∧pOk n_=false)∨(b0=false∧b1=false∧pOk n_=true):=by
     rw [hfo]
     cases b0 <;> cases b1 <;> simp
    clear hfo
    have HOK:=mk0 hok
    have HNO:=mk0 hno
    clear hok hno
    cases gk with
    | zero=>exact absurd HI.out (fun h=>Nat.ne_of_lt hlt h)
    | succ k1=>
     rcases key with ⟨rfl,hR_⟩|⟨rfl,rfl,hR_⟩|⟨rfl,rfl,hR_⟩
     · have HR_:=mk0 hR_
       clear hR_
       go_wp2
       go_ret
       exact ⟨by rw [(HNO.out HR_.out).out];rfl,HB.out⟩
     · have HR_:=mk0 hR_
       clear hR_
       go_wp2
       go_ret
       exact ⟨by rw [(HNO.out HR_.out).out];rfl,HB.out⟩
     · have HR_:=mk0 hR_
       clear hR_
       have hwp1:=hwp.out
       go_wp2
       go_roundg k1
       case measure=>exact Nat.lt_succ_self k1
       case rel=>exact ⟨i+1,(by first|rfl|(rw [hwp1])|(simp [hwp1];done)),⟨(Nat.add_right_comm i 1 k1).trans HI.out⟩,⟨HB.out⟩,⟨BX.out⟩,HOK.out HR_.out⟩
  · have d0:=ge_d hlt
    have HE:=mk0 (all_end pOk x.f3 i hlt HT.out)
    have p3_:_=some ((.slice A3 x.f3.length c3):Value):=bzC BX 3;have p4_:_=some ((.slice A4 x.f4.length c4):Value):=bzC BX 4;have p7_:_=some ((.slice A7 x.f7.length c7):Value):=bzC BX 7
    cases b7
    · go_wp2_with (first|(go_at_call 17;(with_reducible refine (s7 _ HB.out).mono ?_);rintro e wq ⟨rfl,hb⟩;have n0_:=mk0 (jj1 HB.out HB.out.size hb);have n1_:=mk0 (jj3 BX.out hb);clear HB BX p3_ p4_ p7_;have HB:=n0_;have BX:=n1_;clear n0_ n1_ hb;have p3_:_=some ((.slice A3 x.f3.length c3):Value):=bzC BX 3;have p4_:_=some ((.slice A4 x.f4.length c4):Value):=bzC BX 4;have p7_:_=some ((.slice A7 x.f7.length c7):Value):=bzC BX 7)|(go_at_call 18;(with_reducible refine (s4 _ HB.out).mono ?_);rintro e wq ⟨rfl,hb⟩;have n0_:=mk0 (jj1 HB.out HB.out.size hb);have n1_:=mk0 (jj3 BX.out hb);clear HB BX p3_ p4_ p7_;have HB:=n0_;have BX:=n1_;clear n0_ n1_ hb;have p3_:_=some ((.slice A3 x.f3.length c3):Value):=bzC BX 3;have p4_:_=some ((.slice A4 x.f4.length c4):Value):=bzC BX 4;have p7_:_=some ((.slice A7 x.f7.length c7):Value):=bzC BX 7))
      go_ret
      exact ⟨by rw [HR.out,HE.out];rfl,HB.out⟩
    · go_wp2_with (first|(go_at_call 17;(with_reducible refine (s7 _ HB.out).mono ?_);rintro e wq ⟨rfl,hb⟩;have n0_:=mk0 (jj1 HB.out HB.out.size hb);have n1_:=mk0 (jj3 BX.out hb);clear HB BX p3_ p4_ p7_;have HB:=n0_;have BX:=n1_;clear n0_ n1_ hb;have p3_:_=some ((.slice A3 x.f3.length c3):Value):=bzC BX 3;have p4_:_=some ((.slice A4 x.f4.length c4):Value):=bzC BX 4;have p7_:_=some ((.slice A7 x.f7.length c7):Value):=bzC BX 7)|(go_at_call 18;(with_reducible refine (s4 _ HB.out).mono ?_);rintro e wq ⟨rfl,hb⟩;have n0_:=mk0 (jj1 HB.out HB.out.size hb);have n1_:=mk0 (jj3 BX.out hb);clear HB BX p3_ p4_ p7_;have HB:=n0_;have BX:=n1_;clear n0_ n1_ hb;have p3_:_=some ((.slice A3 x.f3.length c3):Value):=bzC BX 3;have p4_:_=some ((.slice A4 x.f4.length c4):Value):=bzC BX 4;have p7_:_=some ((.slice A7 x.f7.length c7):Value):=bzC BX 7))
      go_ret
      exact ⟨by rw [HR.out,HE.out];rfl,HB.out⟩
end Go.Proofs.Ytheoafenehckbaa.Ur
