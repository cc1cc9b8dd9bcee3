/- How deep messages stand, and whether they are few. -/
import Derived.Test.YtheoafenehckbaaQDp
import Derived.Test.YtheoafenehckbaaQSh
import Derived.Test.YtheoafenehckbaaQHg
import Derived.Test.YtheoafenehckbaaQCx
import Derived.LoopN
import Derived.RegionTactic
set_option maxHeartbeats 8000000
set_option maxRecDepth 100000
namespace Go.Proofs.Ytheoafenehckbaa.Ur
open Go.RowKit GUndescBack YtheoafenehckbaaW.PrintWords YtheoafenehckbaaW.PrintLast YtheoafenehckbaaW.PrintMore Rk Dp
attribute [local go_sem] max2_int min2_int max_two min_two max_three min_three max_four min_four
set_option linter.unusedVariables false
set_option linter.unusedSimpArgs false
theorem i_step (i n:Nat) (h:i < n) (hn:n≤maxLen):wrap64 ((i:Int)+1)=((i+1:Nat):Int):=by unfold maxLen at hn;unfold wrap64;omega
def DeepAns (h:Nat) (w:World) (e:Ending) (w':World):Prop:=(∃ v:Int,e = .returned (.int .i64 v)∧(h≤64→v=(h:Int))∧(64 < h→64 < v))∧Below w.heap.size w w'
theorem hL_le_cons (l:List S76) (h:l≠[]):1≤hL l:=by
 cases l with
 | nil=>exact absurd rfl h
 | cons y r=>rw [hL_cons];omega
theorem rdeep_nil (a:Nat) (ha:a≤64) (A:Option Addr) (c:Nat) (w:World):Calls Try.prog 16 #[.slice A 0 c,.int .i64 (a:Int)] w fun e w'=>DeepAns (a+hL []) w e w':=by
 have d1:decide ((a:Int) > 64)=false:=decide_eq_false (by omega)
 clear ha
 go_enter Try.func16,Try.ntmps16
 go_wp2
 go_loopg [5,19] 0 (fun kq v5 v19 w'=>v5 = .int .i64 (a:Int)∧v19 = .int .i64 0∧Aside0 (Below w.heap.size w w'))
 case atStart=>exact ⟨rfl,rfl,⟨Below.refl _ _⟩⟩
 case round=>
  obtain ⟨rfl,rfl,HB⟩:=hrel
  go_wp2
  go_ret
  exact ⟨⟨_,rfl,fun _=>by rw [hL_nil,Nat.add_zero],fun h=>by rw [hL_nil,Nat.add_zero] at h;have:=of_decide_eq_false d1;omega⟩,HB.out⟩
theorem rdeep_c:∀ (n a:Nat),a+n=64→∀ (l:List S76),LenOk l→∀ (A:Option Addr) (c:Nat) (w:World),Kd.C k76 w A l.length l→Calls Try.prog 16 #[.slice A l.length c,.int .i64 (a:Int)] w fun e w'=>DeepAns (a+hL l) w e w':=by
 intro n
 induction n with
 | zero=>
  intro a ha l ok A c w hC
  by_cases hl:l=[]
  · subst hl
    exact rdeep_nil a (by omega) A c w
  · have HP:=mk0 (hL_le_cons l hl)
    have d0:0 < l.length:=List.length_pos_iff.2 hl
    have hw:wrap64 ((a:Int)+1)=65:=by unfold wrap64;omega
    have HA:=mk0 ha
    clear ok hC ha hl
    go_enter Try.func16,Try.ntmps16
    go_wp2
    go_ret
    exact ⟨⟨_,rfl,fun h=>by have:=HA.out;have:=HP.out;omega,fun _=>by rw [hw];decide⟩,Below.refl _ _⟩
 | succ n ih=>
  intro a ha l ok A c w hC
  by_cases hl:l=[]
  · subst hl
    exact rdeep_nil a (by omega) A c w
  have HIH:=mk0 (ih (a+1) (by omega))
  have HC:=mk0 hC
  have HLN:=mk0 ok.1
  have hg:=ok.2
  have d0:0 < l.length:=List.length_pos_iff.2 hl
  have hw:wrap64 ((a:Int)+1)=((a+1:Nat):Int):=by unfold wrap64;omega
  rw [← hw] at HIH
  have HP:=mk0 (hL_le_cons l hl)
  have HI0:Aside0 (wrap64 ((a:Int)+1)≤64∧max (wrap64 ((a:Int)+1)) (a+hL l)=a+hL l):=⟨by omega,by have:=hL_le_cons l hl;omega⟩
  have HAB:=mk0 ha
  have d1:decide (wrap64 ((a:Int)+1) > 64)=false:=decide_eq_false (by omega)
  clear ok hC ha hl ih hw
  go_enter Try.func16,Try.ntmps16
  go_wp2
  go_loopg [5,19] l.length (fun kq v5 v19 w'=>∃ (i:Nat) (d:Int),v5 = .int .i64 d∧v19 = .int .i64 (i:Int)∧Aside0 (i+kq=l.length)∧Aside0 (Below w.heap.size w w')∧Aside0 (d≤64∧max d (a+hL (l.drop i))=a+hL l))
  case atStart=>exact ⟨0,_,rfl,rfl,⟨by omega⟩,⟨Below.refl _ _⟩,⟨HI0.out⟩⟩
  case round=>
   clear HI0 d1
   obtain ⟨i,d,rfl,rfl,HI,HB,HD⟩:=hrel
   by_cases hlt:i < l.length
   · have dd:=lt_d hlt
     have p0:=le_p i
     have q0:=lt_p hlt
     have hwp:=mk0 (i_step i l.length hlt HLN.out)
     obtain ⟨y,hy⟩:∃ y,l.getD i z76=y:=⟨_,rfl⟩
     have hym:y∈l:=by rw [← hy,List.getD_eq_getElem?_getD,List.getElem?_eq_getElem hlt];exact List.getElem_mem hlt
     have hdr:l.drop i=y :: l.drop (i+1):=by rw [List.drop_eq_getElem_cons hlt,← hy,List.getD_eq_getElem?_getD,List.getElem?_eq_getElem hlt];rfl
     have gy:=hg y hym
     rw [good76] at gy
     obtain ⟨ad,cc,ea,_,hKx,hcc⟩:=Kd.C_get HC.out z76 (i:Int) (Int.natCast_nonneg _) (Int.ofNat_lt.2 hlt)
     rw [Int.toNat_natCast] at hKx hcc
     replace hcc:=fun j u h=>pw_cell_below HB.out (hcc j u h)
     rw [hy] at hKx
     obtain ⟨A1,c1,A2,c2,A3,c3,A4,c4,A5,c5,A6,c6,A7,c7,A8,c8,A9,c9,A10,c10,ecc,l1,g1,l2,g2,l3,g3,l4,g4,l5,g5,l6,g6,l7,g7,l8,g8,l9,g9,l10,g10⟩:=k76_open hKx
     subst ecc ea
     clear hy hKx
     have HD2:=mk0 (show max d (max ((a:Int)+1+hL y.f2) (a+hL (l.drop (i+1))))=a+hL l from by have h_:=HD.out.2;rw [hdr,hL_cons] at h_;omega)
     have HLK:Aside0 (LenOk y.f2):=⟨gy.2.2.1⟩
     clear gy hdr hym hg
     cases gk with
     | zero=>exact absurd HI.out (fun h=>Nat.ne_of_lt hlt h)
     | succ k1=>
      go_wp2_with (first|((with_reducible refine gate_load (ty:=76) (p:=21) rfl ?_);refine load_elem 76 21 ad (i*11) [.string y.f0,.slice A1 y.f1.length c1,.slice A2 y.f2.length c2,.slice A3 y.f3.length c3,.slice A4 y.f4.length c4,.slice A5 y.f5.length c5,.slice A6 y.f6.length c6,.slice A7 y.f7.length c7,.slice A8 y.f8.length c8,.slice A9 y.f9.length c9,.slice A10 y.f10.length c10] _ hcc Try.underlying76 ?_)|((with_reducible refine jk0 (N:=7) rfl ?_);refine bzX 7 #[.string (⟨#[]⟩:ByteArray),.slice none 0 0,.slice none 0 0,.slice none 0 0,.slice none 0 0,.slice none 0 0,.slice none 0 0,.slice none 0 0,.slice none 0 0,.slice none 0 0,.slice none 0 0] 76 ?_;intro gb hgb w2 hbox hb;have n0_:=mk0 (jj1 HB.out HB.out.size hb);have BK0:=mk0 hbox;have HGB:=mk0 (show w.heap.size≤gb from hgb ▸ HB.out.size);clear HB hgb hbox hb;have HB:=n0_;clear n0_)|((with_reducible refine jjz (t:=76) (p:=7) rfl ?_);refine store_box 76 7 22 gb #[.string y.f0,.slice A1 y.f1.length c1,.slice A2 y.f2.length c2,.slice A3 y.f3.length c3,.slice A4 y.f4.length c4,.slice A5 y.f5.length c5,.slice A6 y.f6.length c6,.slice A7 y.f7.length c7,.slice A8 y.f8.length c8,.slice A9 y.f9.length c9,.slice A10 y.f10.length c10] BK0.out ?_;intro w3 hS hbS hkS;have n0_:=mk0 (hbS _ _ HGB.out HB.out);have BK:=mk0 hS;clear HB hS hbS hkS;have HB:=n0_;clear n0_ BK0;obtain ⟨s0_,s1_,s2_,s3_,s4_,s5_,s6_,s7_,s8_,s9_,s10_⟩:=cz11 BK.out))
      refine (HIH.out y.f2 HLK.out A2 c2 w3 (Kd.jj0 g2 HB.out)).mono ?_
      rintro e w4 ⟨⟨v,rfl,h1,h2⟩,hb⟩
      have HB4:=mk0 (jj1 HB.out HB.out.size hb)
      clear hb HB BK HGB s0_ s1_ s2_ s3_ s4_ s5_ s6_ s7_ s8_ s9_ s10_
      have hwp1:=hwp.out
      by_cases hdv:d < v
      · by_cases hv:v > 64
        · have HV:=mk0 (show 64 < a+hL l from by have:=HD2.out;have:=HD.out.1;have:=HAB.out;omega)
          have hmx:decide (v > 64)=true:=decide_eq_true hv
          have HX:=mk0 hv
          clear h1 h2 hv
          go_wp2
          go_ret
          exact ⟨⟨_,rfl,fun h=>absurd HV.out (by omega),fun _=>HX.out⟩,HB4.out⟩
        · have HV:=mk0 (show v≤64∧max v (a+hL (l.drop (i+1)))=a+hL l from by have:=HD2.out;have:=HD.out.1;have:=HAB.out;omega)
          have hmx:decide (v > 64)=false:=decide_eq_false hv
          clear h1 h2 hv HD HD2
          go_wp2
          go_roundg k1
          case measure=>exact Nat.lt_succ_self k1
          case rel=>exact ⟨i+1,v,rfl,(by first|rfl|(rw [hwp1])|(simp [hwp1];done)),⟨(Nat.add_right_comm i 1 k1).trans HI.out⟩,⟨HB4.out⟩,⟨HV.out⟩⟩
      · have HV:=mk0 (show d≤64∧max d (a+hL (l.drop (i+1)))=a+hL l from by have:=HD2.out;have:=HD.out.1;have:=HAB.out;omega)
        have hmx:decide (d > 64)=false:=decide_eq_false (by have:=HV.out.1;omega)
        clear h1 h2 HD HD2
        go_wp2
        go_roundg k1
        case measure=>exact Nat.lt_succ_self k1
        case rel=>exact ⟨i+1,d,rfl,(by first|rfl|(rw [hwp1])|(simp [hwp1];done)),⟨(Nat.add_right_comm i 1 k1).trans HI.out⟩,⟨HB4.out⟩,⟨HV.out⟩⟩
   · have dd:=ge_d hlt
     go_wp2
     go_ret
     have h_:=HD.out
     rw [List.drop_of_length_le (by omega),hL_nil] at h_
     have:=HP.out
     exact ⟨⟨_,rfl,fun _=>by omega,fun _=>by omega⟩,HB.out⟩
theorem refdeep_c (x:S30) (g:good30 x) (w:World) (cs:List Value) (hK:k30.K w x cs):Calls Try.prog 8 #[.agg cs.toArray] w fun e w'=>e = .returned (.int .i64 (dp x.f4))∧Below w.heap.size w w':=by
 obtain ⟨A2,c2,A3,c3,A4,c4,A5,c5,A6,c6,A7,c7,A9,c9,A10,c10,rfl,l2,g2,l3,g3,l4,g4,l5,g5,l6,g6,l7,g7,l9,g9,l10,g10⟩:=k30_open hK
 have ok:LenOk x.f4:=g.2.2.2.2.1
 clear g
 go_enter Try.func8,Try.ntmps8
 go_wp2_with (first|((with_reducible refine jk0 (N:=1) rfl ?_);refine bzX 1 #[.string x.f0,.string x.f1,.slice A2 x.f2.length c2,.slice A3 x.f3.length c3,.slice A4 x.f4.length c4,.slice A5 x.f5.length c5,.slice A6 x.f6.length c6,.slice A7 x.f7.length c7,.string x.f8,.slice A9 x.f9.length c9,.slice A10 x.f10.length c10] 30 ?_;intro gx hgx w1 hbox hb;have HB:=mk0 hb;have s4_:=(blk_cell hbox 4).trans rfl;clear hgx hbox hb))
 refine (rdeep_c 64 0 rfl x.f4 ok A4 c4 w1 (Kd.jj0 g4 HB.out)).mono ?_
 rintro e w2 ⟨⟨v,rfl,h1,h2⟩,hb⟩
 have HB2:=mk0 (jj1 HB.out HB.out.size hb)
 rw [Nat.zero_add] at h1 h2
 clear hb HB s4_ ok
 by_cases h:hL x.f4≤64
 · obtain rfl:=h1 h
   have d0:decide ((hL x.f4:Int)≤64)=true:=decide_eq_true (by omega)
   have HE:Aside0 (dp x.f4=(hL x.f4:Int)):=⟨if_pos h⟩
   clear h1 h2 h
   go_wp2
   go_ret
   exact ⟨by rw [HE.out];rfl,HB2.out⟩
 · have d0:decide (v≤64)=false:=decide_eq_false (by have:=h2 (by omega);omega)
   have HE:Aside0 (dp x.f4=100):=⟨if_neg h⟩
   clear h1 h2 h
   go_wp2
   go_ret
   exact ⟨by rw [HE.out];rfl,HB2.out⟩
def bulkM (y:S76):Int:=wrap64 (wrap64 (wrap64 (wrap64 (wrap64 (wrap64 ((y.f1.length:Int)+y.f5.length)+y.f3.length)+y.f6.length)+y.f4.length)+y.f7.length)+y.f8.length)
def cntL (f:List S76→Int→Int):List S76→Int→Int
 | [],a=>a
 | y :: r,a=>if decide (wrap64 (a+1) > 100)=true then 1000 else if decide (bulkM y > 100)=true then 1000 else cntL f r (f y.f2 (wrap64 (a+1)))
def cntN:Nat→List S76→Int→Int
 | 0,_,_=>1000
 | n+1,l,a=>cntL (cntN n) l a
theorem count_c:∀ (n:Nat) (D:Int),0≤D→D+n=71→∀ (l:List S76),LenOk l→∀ (a:Int) (A:Option Addr) (c:Nat) (w:World),Kd.C k76 w A l.length l→Calls Try.prog 15 #[.slice A l.length c,.int .i64 a,.int .i64 D] w fun e w'=>e = .returned (.int .i64 (cntN n l a))∧Below w.heap.size w w':=by
 intro n
 induction n with
 | zero=>
  intro D _ hD l ok a A c w hC
  have d0:decide (D > 70)=true:=decide_eq_true (by omega)
  clear ok hC hD
  go_enter Try.func15,Try.ntmps15
  go_wp2
  go_ret
  exact ⟨rfl,Below.refl _ _⟩
 | succ n ih=>
  intro D hD0 hD l ok a A c w hC
  have HIH:=mk0 (ih (wrap64 (D+1)) (by unfold wrap64;omega) (by unfold wrap64;omega))
  have d0:decide (D > 70)=false:=decide_eq_false (by omega)
  have HC:=mk0 hC
  have HLN:=mk0 ok.1
  have hg:=ok.2
  show Calls _ _ _ _ fun e w'=>e = .returned (.int .i64 (cntL (cntN n) l a))∧_
  obtain ⟨v0,hv0⟩:∃ v,cntL (cntN n) l a=v:=⟨_,rfl⟩
  have HV0:=mk0 hv0
  rw [hv0]
  clear ok hC ih hD hD0 hv0
  go_enter Try.func15,Try.ntmps15
  go_wp2
  go_loopg [1,13] l.length (fun kq v1 v13 w'=>∃ (i:Nat) (b:Int),v1 = .int .i64 b∧v13 = .int .i64 (i:Int)∧Aside0 (i+kq=l.length)∧Aside0 (Below w.heap.size w w')∧Aside0 (cntL (cntN n) (l.drop i) b=v0))
  case atStart=>exact ⟨0,a,rfl,rfl,⟨by omega⟩,⟨Below.refl _ _⟩,⟨HV0.out⟩⟩
  case round=>
   obtain ⟨i,b,rfl,rfl,HI,HB,HV⟩:=hrel
   by_cases hlt:i < l.length
   · have dd:=lt_d hlt
     have p0:=le_p i
     have q0:=lt_p hlt
     have hwp:=mk0 (i_step i l.length hlt HLN.out)
     obtain ⟨y,hy⟩:∃ y,l.getD i z76=y:=⟨_,rfl⟩
     have hym:y∈l:=by rw [← hy,List.getD_eq_getElem?_getD,List.getElem?_eq_getElem hlt];exact List.getElem_mem hlt
     have hdr:l.drop i=y :: l.drop (i+1):=by rw [List.drop_eq_getElem_cons hlt,← hy,List.getD_eq_getElem?_getD,List.getElem?_eq_getElem hlt];rfl
     have gy:=hg y hym
     rw [good76] at gy
     obtain ⟨ad,cc,ea,_,hKx,hcc⟩:=Kd.C_get HC.out z76 (i:Int) (Int.natCast_nonneg _) (Int.ofNat_lt.2 hlt)
     rw [Int.toNat_natCast] at hKx hcc
     replace hcc:=fun j u h=>pw_cell_below HB.out (hcc j u h)
     rw [hy] at hKx
     obtain ⟨A1,c1,A2,c2,A3,c3,A4,c4,A5,c5,A6,c6,A7,c7,A8,c8,A9,c9,A10,c10,ecc,l1,g1,l2,g2,l3,g3,l4,g4,l5,g5,l6,g6,l7,g7,l8,g8,l9,g9,l10,g10⟩:=k76_open hKx
     subst ecc ea
     clear hy hKx
     rw [hdr] at HV
     have HLK:Aside0 (LenOk y.f2):=⟨gy.2.2.1⟩
     clear gy hdr hym hg
     cases gk with
     | zero=>exact absurd HI.out (fun h=>Nat.ne_of_lt hlt h)
     | succ k1=>
      cases d1:decide (wrap64 (b+1) > 100) with
      | true=>
       have HE:Aside0 ((1000:Int)=v0):=⟨by have h_:=HV.out;unfold cntL at h_;rw [d1,if_pos rfl] at h_;exact h_⟩
       clear HV
       go_wp2_with (first|((with_reducible refine gate_load (ty:=76) (p:=15) rfl ?_);refine load_elem 76 15 ad (i*11) [.string y.f0,.slice A1 y.f1.length c1,.slice A2 y.f2.length c2,.slice A3 y.f3.length c3,.slice A4 y.f4.length c4,.slice A5 y.f5.length c5,.slice A6 y.f6.length c6,.slice A7 y.f7.length c7,.slice A8 y.f8.length c8,.slice A9 y.f9.length c9,.slice A10 y.f10.length c10] _ hcc Try.underlying76 ?_)|((with_reducible refine jk0 (N:=8) rfl ?_);refine bzX 8 #[.string (⟨#[]⟩:ByteArray),.slice none 0 0,.slice none 0 0,.slice none 0 0,.slice none 0 0,.slice none 0 0,.slice none 0 0,.slice none 0 0,.slice none 0 0,.slice none 0 0,.slice none 0 0] 76 ?_;intro gb hgb w2 hbox hb;have n0_:=mk0 (jj1 HB.out HB.out.size hb);have BK0:=mk0 hbox;have HGB:=mk0 (show w.heap.size≤gb from hgb ▸ HB.out.size);clear HB hgb hbox hb;have HB:=n0_;clear n0_)|((with_reducible refine jjz (t:=76) (p:=8) rfl ?_);refine store_box 76 8 16 gb #[.string y.f0,.slice A1 y.f1.length c1,.slice A2 y.f2.length c2,.slice A3 y.f3.length c3,.slice A4 y.f4.length c4,.slice A5 y.f5.length c5,.slice A6 y.f6.length c6,.slice A7 y.f7.length c7,.slice A8 y.f8.length c8,.slice A9 y.f9.length c9,.slice A10 y.f10.length c10] BK0.out ?_;intro w3 hS hbS hkS;have n0_:=mk0 (hbS _ _ HGB.out HB.out);have BK:=mk0 hS;clear HB hS hbS hkS;have HB:=n0_;clear n0_ BK0;obtain ⟨s0_,s1_,s2_,s3_,s4_,s5_,s6_,s7_,s8_,s9_,s10_⟩:=cz11 BK.out))
       go_ret
       exact ⟨by rw [← HE.out];rfl,HB.out⟩
      | false=>
       cases d2:decide (bulkM y > 100) with
       | true=>
        have HE:Aside0 ((1000:Int)=v0):=⟨by have h_:=HV.out;unfold cntL at h_;rw [d1,d2,if_neg (by decide),if_pos rfl] at h_;exact h_⟩
        unfold bulkM at d2
        clear HV
        go_wp2_with (first|((with_reducible refine gate_load (ty:=76) (p:=15) rfl ?_);refine load_elem 76 15 ad (i*11) [.string y.f0,.slice A1 y.f1.length c1,.slice A2 y.f2.length c2,.slice A3 y.f3.length c3,.slice A4 y.f4.length c4,.slice A5 y.f5.length c5,.slice A6 y.f6.length c6,.slice A7 y.f7.length c7,.slice A8 y.f8.length c8,.slice A9 y.f9.length c9,.slice A10 y.f10.length c10] _ hcc Try.underlying76 ?_)|((with_reducible refine jk0 (N:=8) rfl ?_);refine bzX 8 #[.string (⟨#[]⟩:ByteArray),.slice none 0 0,.slice none 0 0,.slice none 0 0,.slice none 0 0,.slice none 0 0,.slice none 0 0,.slice none 0 0,.slice none 0 0,.slice none 0 0,.slice none 0 0] 76 ?_;intro gb hgb w2 hbox hb;have n0_:=mk0 (jj1 HB.out HB.out.size hb);have BK0:=mk0 hbox;have HGB:=mk0 (show w.heap.size≤gb from hgb ▸ HB.out.size);clear HB hgb hbox hb;have HB:=n0_;clear n0_)|((with_reducible refine jjz (t:=76) (p:=8) rfl ?_);refine store_box 76 8 16 gb #[.string y.f0,.slice A1 y.f1.length c1,.slice A2 y.f2.length c2,.slice A3 y.f3.length c3,.slice A4 y.f4.length c4,.slice A5 y.f5.length c5,.slice A6 y.f6.length c6,.slice A7 y.f7.length c7,.slice A8 y.f8.length c8,.slice A9 y.f9.length c9,.slice A10 y.f10.length c10] BK0.out ?_;intro w3 hS hbS hkS;have n0_:=mk0 (hbS _ _ HGB.out HB.out);have BK:=mk0 hS;clear HB hS hbS hkS;have HB:=n0_;clear n0_ BK0;obtain ⟨s0_,s1_,s2_,s3_,s4_,s5_,s6_,s7_,s8_,s9_,s10_⟩:=cz11 BK.out))
        go_ret
        exact ⟨by rw [← HE.out];rfl,HB.out⟩
       | false=>
        have HE:Aside0 (cntL (cntN n) (l.drop (i+1)) (cntN n y.f2 (wrap64 (b+1)))=v0):=⟨by have h_:=HV.out;unfold cntL at h_;rw [d1,d2,if_neg (by decide),if_neg (by decide)] at h_;exact h_⟩
        unfold bulkM at d2
        clear HV
        have hwp1:=hwp.out
        go_wp2_with (first|((with_reducible refine gate_load (ty:=76) (p:=15) rfl ?_);refine load_elem 76 15 ad (i*11) [.string y.f0,.slice A1 y.f1.length c1,.slice A2 y.f2.length c2,.slice A3 y.f3.length c3,.slice A4 y.f4.length c4,.slice A5 y.f5.length c5,.slice A6 y.f6.length c6,.slice A7 y.f7.length c7,.slice A8 y.f8.length c8,.slice A9 y.f9.length c9,.slice A10 y.f10.length c10] _ hcc Try.underlying76 ?_)|((with_reducible refine jk0 (N:=8) rfl ?_);refine bzX 8 #[.string (⟨#[]⟩:ByteArray),.slice none 0 0,.slice none 0 0,.slice none 0 0,.slice none 0 0,.slice none 0 0,.slice none 0 0,.slice none 0 0,.slice none 0 0,.slice none 0 0,.slice none 0 0] 76 ?_;intro gb hgb w2 hbox hb;have n0_:=mk0 (jj1 HB.out HB.out.size hb);have BK0:=mk0 hbox;have HGB:=mk0 (show w.heap.size≤gb from hgb ▸ HB.out.size);clear HB hgb hbox hb;have HB:=n0_;clear n0_)|((with_reducible refine jjz (t:=76) (p:=8) rfl ?_);refine store_box 76 8 16 gb #[.string y.f0,.slice A1 y.f1.length c1,.slice A2 y.f2.length c2,.slice A3 y.f3.length c3,.slice A4 y.f4.length c4,.slice A5 y.f5.length c5,.slice A6 y.f6.length c6,.slice A7 y.f7.length c7,.slice A8 y.f8.length c8,.slice A9 y.f9.length c9,.slice A10 y.f10.length c10] BK0.out ?_;intro w3 hS hbS hkS;have n0_:=mk0 (hbS _ _ HGB.out HB.out);have BK:=mk0 hS;clear HB hS hbS hkS;have HB:=n0_;clear n0_ BK0;obtain ⟨s0_,s1_,s2_,s3_,s4_,s5_,s6_,s7_,s8_,s9_,s10_⟩:=cz11 BK.out)|(go_at_call 15;(with_reducible refine (HIH.out y.f2 HLK.out (wrap64 (b+1)) A2 c2 w3 (Kd.jj0 g2 HB.out)).mono ?_);rintro e w4 ⟨rfl,hb⟩;have HB4:=mk0 (jj1 HB.out HB.out.size hb);clear hb))
        go_roundg k1
        case measure=>exact Nat.lt_succ_self k1
        case rel=>exact ⟨i+1,_,rfl,(by first|rfl|(rw [hwp1])|(simp [hwp1];done)),⟨(Nat.add_right_comm i 1 k1).trans HI.out⟩,⟨HB4.out⟩,⟨HE.out⟩⟩
   · have dd:=ge_d hlt
     go_wp2
     go_ret
     have h_:=HV.out
     rw [List.drop_of_length_le (by omega)] at h_
     exact ⟨by rw [← h_];rfl,HB.out⟩
theorem few_e (x:S30) (gx:good30 x):∃ b,∀ (w:World) (cs:List Value),k30.K w x cs→Calls Try.prog 7 #[.agg cs.toArray] w fun e w'=>e = .returned (.bool b)∧Below w.heap.size w w':=by
 obtain ⟨v,hv⟩:∃ v,cntN 71 x.f4 0=v:=⟨_,rfl⟩
 refine ⟨decide ((x.f2.length:Int)≤20) && decide ((x.f3.length:Int)≤20) && decide ((x.f5.length:Int)≤20) && decide ((x.f6.length:Int)≤20) && decide ((x.f7.length:Int)≤40) && decide (v≤100),fun w cs hK=>?_⟩
 obtain ⟨A2,c2,A3,c3,A4,c4,A5,c5,A6,c6,A7,c7,A9,c9,A10,c10,rfl,l2,g2,l3,g3,l4,g4,l5,g5,l6,g6,l7,g7,l9,g9,l10,g10⟩:=k30_open hK
 have ok:LenOk x.f4:=gx.2.2.2.2.1
 have HCT:=fun (W:World) (hW:Below w.heap.size w W)=>count_c 71 0 (by decide) rfl x.f4 ok 0 A4 c4 W (Kd.jj0 g4 hW)
 rw [hv] at HCT
 clear ok gx hv
 obtain ⟨b2,h2⟩:∃ b,decide ((x.f2.length:Int)≤20)=b:=⟨_,rfl⟩
 obtain ⟨b3,h3⟩:∃ b,decide ((x.f3.length:Int)≤20)=b:=⟨_,rfl⟩
 obtain ⟨b5,h5⟩:∃ b,decide ((x.f5.length:Int)≤20)=b:=⟨_,rfl⟩
 obtain ⟨b6,h6⟩:∃ b,decide ((x.f6.length:Int)≤20)=b:=⟨_,rfl⟩
 obtain ⟨b7,h7⟩:∃ b,decide ((x.f7.length:Int)≤40)=b:=⟨_,rfl⟩
 obtain ⟨b4,h4⟩:∃ b,decide (v≤100)=b:=⟨_,rfl⟩
 rw [h2,h3,h5,h6,h7,h4]
 have key:(b2=false)∨(b2=true∧b3=false)∨(b2=true∧b3=true∧b5=false)∨(b2=true∧b3=true∧b5=true∧b6=false)∨(b2=true∧b3=true∧b5=true∧b6=true∧b7=false)∨(b2=true∧b3=true∧b5=true∧b6=true∧b7=true∧b4=false)∨(b2=true∧b3=true∧b5=true∧b6=true∧b7=true∧b4=true):=by
  cases b2 <;> cases b3 <;> cases b5 <;> cases b6 <;> cases b7 <;> cases b4 <;> simp
 rcases key with rfl|⟨rfl,rfl⟩|⟨rfl,rfl,rfl⟩|⟨rfl,rfl,rfl,rfl⟩|⟨rfl,rfl,rfl,rfl,rfl⟩|⟨rfl,rfl,rfl,rfl,rfl,rfl⟩|⟨rfl,rfl,rfl,rfl,rfl,rfl⟩
 all_goals
  go_enter Try.func7,Try.ntmps7
  go_wp2_with (first|((with_reducible refine jk0 (N:=1) rfl ?_);refine bzX 1 #[.string x.f0,.string x.f1,.slice A2 x.f2.length c2,.slice A3 x.f3.length c3,.slice A4 x.f4.length c4,.slice A5 x.f5.length c5,.slice A6 x.f6.length c6,.slice A7 x.f7.length c7,.string x.f8,.slice A9 x.f9.length c9,.slice A10 x.f10.length c10] 30 ?_;intro gx hgx w1 hbox hb;have HB:=mk0 hb;have BX:=mk0 hbox;clear hgx hbox hb;obtain ⟨s0_,s1_,s2_,s3_,s4_,s5_,s6_,s7_,s8_,s9_,s10_⟩:=cz11 BX.out)|(go_at_call 15;(with_reducible refine (HCT _ HB.out).mono ?_);rintro e w4 ⟨rfl,hb⟩;have n0_:=mk0 (jj1 HB.out HB.out.size hb);clear HB hb;have HB:=n0_;clear n0_))
  go_ret
  exact ⟨rfl,HB.out⟩
end Go.Proofs.Ytheoafenehckbaa.Ur
