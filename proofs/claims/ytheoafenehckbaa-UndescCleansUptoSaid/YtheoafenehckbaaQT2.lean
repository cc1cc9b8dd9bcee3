/- Enums, services that stand alike, by the reference. -/
import Derived.Test.YtheoafenehckbaaQT1
import Derived.Test.YtheoafenehckbaaQSh
import Derived.LoopN
import Derived.RegionTactic
set_option maxHeartbeats 8000000
set_option maxRecDepth 100000
namespace Go.Proofs.Ytheoafenehckbaa.R1
open Go.RowKit GUndescBack YtheoafenehckbaaW.PrintWords YtheoafenehckbaaW.PrintLast YtheoafenehckbaaW.PrintMore Vb Wr Wp Rk Sp
attribute [local go_sem] beq_self_eq_true bne_self_eq_false
set_option linter.unusedVariables false
set_option linter.unusedSimpArgs false
def sameEnums_t.T11:Bool × List (List Nat × List Nat):=(true,[([],[]),([],[]),([0,1],[0,1]),([2],[2]),([3],[3]),([],[]),([4,5],[4,5]),([6],[6]),([],[]),([],[]),([8,9],[8,9]),([10],[10]),([11],[11]),([],[]),([12,13],[12,13]),([14],[14]),([],[]),([],[]),([16,7,0,1,2,3,4,5,6,7,16,17],[7,16]),([17,15,18,0,1,2,3,4,5,6,7,8,9,10,11,12,13,14,15,16,17,18],[15,17])])
def sameEnums_t.B11:List Nat:=[0,0,3,7,15,0,63,127,0,0,768,1792,3840,0,16128,32512,0,0,196863,524287]
theorem sameEnums_t.tab11:rtab .any (opsOf Try.f35 11)=sameEnums_t.T11:=by kernel_rfl
theorem sameEnums_t.bits11:waitsOk sameEnums_t.T11.2 sameEnums_t.B11=true:=by kernel_rfl
theorem sameEnums_t (a:List S82) (hga:∀ y∈a,good82 y) (hla:a.length≤9223372036854775807) (A0 B0:Option Addr) (ca cb:Nat) (w:World) (CA:Kd.C k82 w A0 a.length a) (CB:Kd.C k82 w B0 a.length a) :
 Calls Try.prog 35 #[.slice A0 a.length ca,.slice B0 a.length cb] w fun e w'=>e = .returned (.bool true)∧Below w.heap.size w w':=by
 have HB0:=mk0 (Below.refl w.heap.size w)
 have HA:=mk0 CA
 have HC:=mk0 CB
 have hn:((a.length:Int) != (a.length:Int))=false:=bne_self_eq_false _
 go_enter Try.func35,Try.ntmps35
 go_wp2
 go_loopg [16] a.length (fun kq v16 w'=>∃ i:Nat,v16 = .int .i64 (i:Int)∧Aside0 (i+kq=a.length)∧Aside0 (Below w.heap.size w w'))
 case atStart=>
  exact ⟨0,rfl,⟨by omega⟩,⟨HB0.out⟩⟩
 case round=>
  obtain ⟨i,rfl,HI,HB⟩:=hrel
  by_cases hlt:i < a.length
  · have d0:=dec_lt hlt
    have p0:(0≤(i:Int))=True:=eq_true (Int.natCast_nonneg i)
    have q0:((i:Int) < (a.length:Int))=True:=eq_true (Int.ofNat_lt.2 hlt)
    obtain ⟨x,hx⟩:∃ x,a.getD i z82=x:=⟨_,rfl⟩
    have gx_:=hga x (by rw [← hx];simp [hlt])
    have hwp:=mk0 (wrap_le i a.length hlt hla)
    have HLA:=mk0 hla
    clear hla
    have hCa:=Kd.jj0 HA.out HB.out
    have hCb:=Kd.jj0 HC.out HB.out
    have hxe:=hx
    obtain ⟨ad,cc,ea,_,hKx,hcc⟩:=Kd.C_get hCa z82 (i:Int) (Int.natCast_nonneg _) (Int.ofNat_lt.2 hlt)
    rw [Int.toNat_natCast] at hKx hcc
    rw [hxe] at hKx
    obtain ⟨A1,c1,A2,c2,A3,c3,ecc,lc1,gc1,lc2,gc2,lc3,gc3⟩:=k82_open hKx
    subst ecc
    obtain ⟨ex0,ex1,ex2,ex3⟩:=ez4 (m:=i*4) hcc
    subst ea
    clear hcc hKx hxe
    have hxe:=hx
    obtain ⟨bd,cc,ea,_,hKx,hcc⟩:=Kd.C_get hCb z82 (i:Int) (Int.natCast_nonneg _) (Int.ofNat_lt.2 hlt)
    rw [Int.toNat_natCast] at hKx hcc
    rw [hxe] at hKx
    obtain ⟨B1,d1,B2,d2,B3,d3,ecc,ld1,gd1,ld2,gd2,ld3,gd3⟩:=k82_open hKx
    subst ecc
    obtain ⟨ey0,ey1,ey2,ey3⟩:=ez4 (m:=i*4) hcc
    subst ea
    clear hcc hKx hxe
    clear CA CB
    clear hx
    have HGX2:=mk0 gx_.2.1
    clear gx_
    have cx2:=fun (nd_:Nat)=>Kd.C_string (P:=Try.prog) (c:=c2) Try.underlying28 Try.underlying5 Try.underlying9 (Kd.C_drewN gc2 nd_)
    have cx3:=fun (nd_:Nat)=>Kd.C_string (P:=Try.prog) (c:=c3) Try.underlying28 Try.underlying5 Try.underlying9 (Kd.C_drewN gc3 nd_)
    have cy2:=fun (nd_:Nat)=>Kd.C_string (P:=Try.prog) (c:=d2) Try.underlying28 Try.underlying5 Try.underlying9 (Kd.C_drewN gd2 nd_)
    have cy3:=fun (nd_:Nat)=>Kd.C_string (P:=Try.prog) (c:=d3) Try.underlying28 Try.underlying5 Try.underlying9 (Kd.C_drewN gd3 nd_)
    have hbl:((x.f1.length:Int) != (x.f1.length:Int))=false:=bne_self_eq_false _
    cases gk with
    | zero=>exact absurd HI.out (fun h=>Nat.ne_of_lt hlt h)
    | succ k1=>
     go_wp2
     go_quiet (fail)
     go_wp2
     obtain ⟨wo,hwo_⟩:∃ q:World,q=wr:=⟨_,rfl⟩
     subst hwo_
     have HI1:=HI
     have hwp1:=hwp
     have HB1:=HB
     have HL2:=mk0 (show x.f1.length≤9223372036854775807 from HGX2.out.1)
     clear HI hwp HB
     go_loopg [81] x.f1.length (fun kq v81 w'=>∃ k:Nat,v81 = .int .i64 (k:Int)∧Aside0 (k+kq=x.f1.length)∧Aside0 (Below wo.heap.size wo w'))
     case atStart=>exact ⟨0,rfl,⟨by omega⟩,⟨by apply jj4;exact Below.refl _ _⟩⟩
     case round=>
      obtain ⟨k,rfl,HI2,HBi⟩:=hrel
      by_cases hlt2:k < x.f1.length
      · have hwp:=mk0 (wrap_le k x.f1.length hlt2 HL2.out)
        have dd1_:=dec_lt hlt2
        have p1:(0≤(k:Int))=True:=eq_true (Int.natCast_nonneg k)
        have q2:((k:Int) < (x.f1.length:Int))=True:=eq_true (Int.ofNat_lt.2 hlt2)
        obtain ⟨u,hu⟩:∃ u,x.f1.getD k z93=u:=⟨_,rfl⟩
        have gu_:=HGX2.out.2 u (by rw [← hu];simp [hlt2])
        have hCu:=Kd.jj0 gc1 HBi.out
        have hCv:=Kd.jj0 gd1 HBi.out
        have hxe:=hu
        obtain ⟨ud,cc,ea,_,hKx,hcc⟩:=Kd.C_get hCu z93 (k:Int) (Int.natCast_nonneg _) (Int.ofNat_lt.2 hlt2)
        rw [Int.toNat_natCast] at hKx hcc
        rw [hxe] at hKx
        obtain ⟨E2,m2,E3,m3,ecc,lm2,gm2,lm3,gm3⟩:=k93_open hKx
        subst ecc
        obtain ⟨eu0,eu1,eu2,eu3⟩:=ez4 (m:=k*4) hcc
        subst ea
        clear hcc hKx hxe
        have hxe:=hu
        obtain ⟨vd,cc,ea,_,hKx,hcc⟩:=Kd.C_get hCv z93 (k:Int) (Int.natCast_nonneg _) (Int.ofNat_lt.2 hlt2)
        rw [Int.toNat_natCast] at hKx hcc
        rw [hxe] at hKx
        obtain ⟨G2,o2,G3,o3,ecc,lo2,go2,lo3,go3⟩:=k93_open hKx
        subst ecc
        obtain ⟨ev0,ev1,ev2,ev3⟩:=ez4 (m:=k*4) hcc
        subst ea
        clear hcc hKx hxe
        clear hu gu_
        have ex1_:=pzB HBi ex1
        have ey1_:=pzB HBi ey1
        have HBr:=mk0 (Below.refl wr.heap.size wr)
        cases gk with
        | zero=>exact absurd HI2.out (fun h=>Nat.ne_of_lt hlt2 h)
        | succ k2=>
         go_wp2
         have n_:=mk0 (jj2 HBr.out)
         clear HBr
         have HBr:=n_
         clear n_
         refine start_ (n:=20) (S:=fun w'=>w'.cell? ⟨(ad.add (i*4)).block,(ad.add (i*4)).off+1,none⟩=some (.slice (some ud) x.f1.length c1)∧w'.cell? ⟨(bd.add (i*4)).block,(bd.add (i*4)).off+1,none⟩=some (.slice (some vd) x.f1.length d1)∧w'.cell? (ud.add (k*4))=some (.string u.f0)∧w'.cell? ⟨(ud.add (k*4)).block,(ud.add (k*4)).off+1,none⟩=some (.int .i64 u.f1)∧w'.cell? ⟨(ud.add (k*4)).block,(ud.add (k*4)).off+2,none⟩=some (.slice E2 u.f2.length m2)∧w'.cell? ⟨(ud.add (k*4)).block,(ud.add (k*4)).off+3,none⟩=some (.slice E3 u.f3.length m3)∧w'.cell? (vd.add (k*4))=some (.string u.f0)∧w'.cell? ⟨(vd.add (k*4)).block,(vd.add (k*4)).off+1,none⟩=some (.int .i64 u.f1)∧w'.cell? ⟨(vd.add (k*4)).block,(vd.add (k*4)).off+2,none⟩=some (.slice G2 u.f2.length o2)∧w'.cell? ⟨(vd.add (k*4)).block,(vd.add (k*4)).off+3,none⟩=some (.slice G3 u.f3.length o3)) (ds:=[]) (bzs 20 0) (by kernel_rfl) rfl rfl ⟨pzB HBr ex1_,pzB HBr ey1_,pzB HBr eu0,pzB HBr eu1,pzB HBr eu2,pzB HBr eu3,pzB HBr ev0,pzB HBr ev1,pzB HBr ev2,pzB HBr ev3⟩ (fun hHeld=>?_)
         refine with_tabW sameEnums_t.tab11 sameEnums_t.bits11 (fun HT_ HW_=>?_)
         generalize wr.drew=wq at HBr hHeld ⊢
         refine pzS 0 (some 84) (bzs 20 1) HT_ ?_
         refine pzS 1 (some 85) (bzs 20 3) HT_ ?_
         refine pzS 5 (some 89) (bzs 20 35) HT_ ?_
         refine pzS 8 (some 92) (bzs 20 291) HT_ ?_
         refine pzS 9 (some 93) (bzs 20 803) HT_ ?_
         refine pzS 13 (some 97) (bzs 20 8995) HT_ ?_
         refine tzS 2 (some 86) (bzs 20 8999) HT_ HW_ hHeld ?_
         refine pzS 3 (some 87) (bzs 20 9007) HT_ ?_
         refine tzS 4 (some 88) (bzs 20 9023) HT_ HW_ hHeld ?_
         refine tzS 6 (some 90) (bzs 20 9087) HT_ HW_ hHeld ?_
         refine tzS 7 (some 91) (bzs 20 9215) HT_ HW_ hHeld ?_
         refine tzS 10 (some 94) (bzs 20 10239) HT_ HW_ hHeld ?_
         refine pzS 11 (some 95) (bzs 20 12287) HT_ ?_
         refine tzS 12 (some 96) (bzs 20 16383) HT_ HW_ hHeld ?_
         refine tzS 14 (some 98) (bzs 20 32767) HT_ HW_ hHeld ?_
         refine tzS 15 (some 99) (bzs 20 65535) HT_ HW_ hHeld ?_
         refine join_ (σ:=Nat × Nat) 2 (bzs 20 262143) (fun s_=>[(7,.pointer (some ⟨s_.1,0,none⟩)),(8,.pointer (some ⟨s_.2,0,none⟩))]) (fun s_ w'=>w'.heap[s_.1]?=some (.cells #[.string (⟨#[]⟩:ByteArray),.int .i64 0,.slice none 0 0,.slice none 0 0] 93 (0,0))∧w'.heap[s_.2]?=some (.cells #[.string (⟨#[]⟩:ByteArray),.int .i64 0,.slice none 0 0,.slice none 0 0] 93 (0,0))∧s_.1≠s_.2∧wr.heap.size≤s_.1∧wr.heap.size≤s_.2∧Below wr.heap.size wr w') ?_ ?_
         rotate_left
         · intro hCont
           refine two_ (i:=16) (j:=17) (Ni:=some 7) (Nj:=some 8) (bzs 20 131071) (bzs 20 196607) rfl rfl rfl rfl (two_of HT_.out (by kernel_rfl)) (by decide) (by decide) (fun K hK=>?_) (fun K hK=>?_)
           · skip
             refine box_step ?hg (N:=7) ?hd (cs:=#[.string (⟨#[]⟩:ByteArray),.int .i64 0,.slice none 0 0,.slice none 0 0]) (t:=93) ?hr ?_;(case hd=>rfl);(case hg=>rfl);(case hr=>first|(go_simp;done)|(go_simp;rfl))
             intro gx hg wq hbox hb
             have HG1:=mk0 (show wr.heap.size≤gx from hg ▸ HBr.out.size)
             have n_:=mk0 (jj1 HBr.out HBr.out.size hb)
             clear HBr
             have HBr:=n_
             clear n_
             have B1:=mk0 hbox
             clear hg hbox hb
             refine hK.out _ _ ⟨pzB HBr ex1_,pzB HBr ey1_,pzB HBr eu0,pzB HBr eu1,pzB HBr eu2,pzB HBr eu3,pzB HBr ev0,pzB HBr ev1,pzB HBr ev2,pzB HBr ev3⟩ (fun hHeld=>?_)
             clear hK K
             refine nzS (some 7) ?_
             refine one_ (i:=17) (N:=some 8) (bzs 20 262143) rfl rfl (jk2 HT_.out (by kernel_rfl)) (by decide) (fun K hK=>?_)
             refine box_step ?hg (N:=8) ?hd (cs:=#[.string (⟨#[]⟩:ByteArray),.int .i64 0,.slice none 0 0,.slice none 0 0]) (t:=93) ?hr ?_;(case hd=>rfl);(case hg=>rfl);(case hr=>first|(go_simp;done)|(go_simp;rfl))
             intro gy hg wq hbox hb
             have HG2:=mk0 (show wr.heap.size≤gy from hg ▸ HBr.out.size)
             have HNE:=mk0 (show gx≠gy from hg ▸ Nat.ne_of_lt (blk_lt B1.out))
             have n_:=mk0 (jj1 HBr.out HBr.out.size hb)
             clear HBr
             have HBr:=n_
             clear n_
             have n_:=mk0 (jj3 B1.out hb)
             clear B1
             have B1:=n_
             have B2:=mk0 hbox
             clear hg hbox hb n_
             refine hK.out _ _ ⟨pzB HBr ex1_,pzB HBr ey1_,pzB HBr eu0,pzB HBr eu1,pzB HBr eu2,pzB HBr eu3,pzB HBr ev0,pzB HBr ev1,pzB HBr ev2,pzB HBr ev3⟩ (fun hHeld=>?_)
             clear hK K
             refine nzS (some 8) ?_
             exact norm_ (by simp only [putAll,Act.put,List.setIfInBounds_toArray,List.set_cons_zero,List.set_cons_succ]) (hCont (gx,gy) _ ⟨B1.out,B2.out,HNE.out,HG1.out,HG2.out,HBr.out⟩)
           · skip
             refine box_step ?hg (N:=8) ?hd (cs:=#[.string (⟨#[]⟩:ByteArray),.int .i64 0,.slice none 0 0,.slice none 0 0]) (t:=93) ?hr ?_;(case hd=>rfl);(case hg=>rfl);(case hr=>first|(go_simp;done)|(go_simp;rfl))
             intro gy hg wq hbox hb
             have HG1:=mk0 (show wr.heap.size≤gy from hg ▸ HBr.out.size)
             have n_:=mk0 (jj1 HBr.out HBr.out.size hb)
             clear HBr
             have HBr:=n_
             clear n_
             have B1:=mk0 hbox
             clear hg hbox hb
             refine hK.out _ _ ⟨pzB HBr ex1_,pzB HBr ey1_,pzB HBr eu0,pzB HBr eu1,pzB HBr eu2,pzB HBr eu3,pzB HBr ev0,pzB HBr ev1,pzB HBr ev2,pzB HBr ev3⟩ (fun hHeld=>?_)
             clear hK K
             refine nzS (some 8) ?_
             refine one_ (i:=16) (N:=some 7) (bzs 20 262143) rfl rfl (jk2 HT_.out (by kernel_rfl)) (by decide) (fun K hK=>?_)
             refine box_step ?hg (N:=7) ?hd (cs:=#[.string (⟨#[]⟩:ByteArray),.int .i64 0,.slice none 0 0,.slice none 0 0]) (t:=93) ?hr ?_;(case hd=>rfl);(case hg=>rfl);(case hr=>first|(go_simp;done)|(go_simp;rfl))
             intro gx hg wq hbox hb
             have HG2:=mk0 (show wr.heap.size≤gx from hg ▸ HBr.out.size)
             have HNE:=mk0 (show gy≠gx from hg ▸ Nat.ne_of_lt (blk_lt B1.out))
             have n_:=mk0 (jj1 HBr.out HBr.out.size hb)
             clear HBr
             have HBr:=n_
             clear n_
             have n_:=mk0 (jj3 B1.out hb)
             clear B1
             have B1:=n_
             have B2:=mk0 hbox
             clear hg hbox hb n_
             refine hK.out _ _ ⟨pzB HBr ex1_,pzB HBr ey1_,pzB HBr eu0,pzB HBr eu1,pzB HBr eu2,pzB HBr eu3,pzB HBr ev0,pzB HBr ev1,pzB HBr ev2,pzB HBr ev3⟩ (fun hHeld=>?_)
             clear hK K
             refine nzS (some 7) ?_
             exact norm_ (by simp only [putAll,Act.put,List.setIfInBounds_toArray,List.set_cons_zero,List.set_cons_succ]) (hCont (gx,gy) _ ⟨B2.out,B1.out,(HNE.out).symm,HG2.out,HG1.out,HBr.out⟩)
         clear HBr hHeld
         rintro ⟨gx,gy⟩ wq ⟨hBX_,hBY_,hne_,hGX_,hGY_,hB_⟩
         have BX:=mk0 hBX_
         have BY:=mk0 hBY_
         have HNE:=mk0 hne_
         have HGX:=mk0 hGX_
         have HGY:=mk0 hGY_
         have HBr:=mk0 hB_
         clear hBX_ hBY_ hne_ hGX_ hGY_ hB_
         refine norm_ (a':=?_) ?_ ?_
         rotate_left
         · simp only [putAll,Act.put,List.setIfInBounds_toArray,List.set_cons_zero,List.set_cons_succ]
           rfl
         refine one_ (i:=18) (N:=none) (bzs 20 524287) rfl rfl (jk2 HT_.out (by kernel_rfl)) (by decide) (fun K hK=>?_)
         refine skip_ (w1:=wq.setRow gx #[.string u.f0,.int .i64 u.f1,.slice E2 u.f2.length m2,.slice E3 u.f3.length m3]) (by rfl) rfl (store_skip rfl gx 93 _ _ rfl rfl BX.out (by kernel_rfl) rfl rfl) ?_
         have n0_:=mk0 (setRow_heap wq gx _ #[.string u.f0,.int .i64 u.f1,.slice E2 u.f2.length m2,.slice E3 u.f3.length m3] 93 (0,0) BX.out)
         have n1_:=mk0 ((setRow_other wq gx gy #[.string u.f0,.int .i64 u.f1,.slice E2 u.f2.length m2,.slice E3 u.f3.length m3] HNE.out.symm).trans BY.out)
         have n2_:=mk0 (below_setRow HBr.out HGX.out #[.string u.f0,.int .i64 u.f1,.slice E2 u.f2.length m2,.slice E3 u.f3.length m3])
         clear BX BY HBr
         generalize wq.setRow gx #[.string u.f0,.int .i64 u.f1,.slice E2 u.f2.length m2,.slice E3 u.f3.length m3]=wq at n0_ n1_ n2_ ⊢
         have BX:=n0_
         have BY:=n1_
         have HBr:=n2_
         clear n0_ n1_ n2_
         refine hK.out _ _ ⟨pzB HBr ex1_,pzB HBr ey1_,pzB HBr eu0,pzB HBr eu1,pzB HBr eu2,pzB HBr eu3,pzB HBr ev0,pzB HBr ev1,pzB HBr ev2,pzB HBr ev3⟩ (fun hHeld=>?_)
         clear hK K
         refine one_ (i:=19) (N:=none) (bzs 20 1048575) rfl rfl (jk2 HT_.out (by kernel_rfl)) (by decide) (fun K hK=>?_)
         refine skip_ (w1:=wq.setRow gy #[.string u.f0,.int .i64 u.f1,.slice G2 u.f2.length o2,.slice G3 u.f3.length o3]) (by rfl) rfl (store_skip rfl gy 93 _ _ rfl rfl BY.out (by kernel_rfl) rfl rfl) ?_
         have n0_:=mk0 (setRow_heap wq gy _ #[.string u.f0,.int .i64 u.f1,.slice G2 u.f2.length o2,.slice G3 u.f3.length o3] 93 (0,0) BY.out)
         have n1_:=mk0 ((setRow_other wq gy gx #[.string u.f0,.int .i64 u.f1,.slice G2 u.f2.length o2,.slice G3 u.f3.length o3] HNE.out).trans BX.out)
         have n2_:=mk0 (below_setRow HBr.out HGY.out #[.string u.f0,.int .i64 u.f1,.slice G2 u.f2.length o2,.slice G3 u.f3.length o3])
         clear BY BX HBr
         generalize wq.setRow gy #[.string u.f0,.int .i64 u.f1,.slice G2 u.f2.length o2,.slice G3 u.f3.length o3]=wq at n0_ n1_ n2_ ⊢
         have BY:=n0_
         have BX:=n1_
         have HBr:=n2_
         clear n0_ n1_ n2_
         refine hK.out _ _ ⟨pzB HBr ex1_,pzB HBr ey1_,pzB HBr eu0,pzB HBr eu1,pzB HBr eu2,pzB HBr eu3,pzB HBr ev0,pzB HBr ev1,pzB HBr ev2,pzB HBr ev3⟩ (fun hHeld=>?_)
         clear hK K
         refine done_ (done_of HT_.out (by kernel_rfl)) ?_
         obtain ⟨p0_,p1_,p2_,p3_⟩:=cz4 BX.out
         obtain ⟨q0_,q1_,q2_,q3_⟩:=cz4 BY.out
         have cu2:=Kd.C_string (P:=Try.prog) (c:=m2) Try.underlying28 Try.underlying5 Try.underlying9 (Kd.jj0 gm2 HBr.out)
         have cu3:=Kd.C_string (P:=Try.prog) (c:=m3) Try.underlying28 Try.underlying5 Try.underlying9 (Kd.jj0 gm3 HBr.out)
         have cv2:=Kd.C_string (P:=Try.prog) (c:=o2) Try.underlying28 Try.underlying5 Try.underlying9 (Kd.jj0 go2 HBr.out)
         have cv3:=Kd.C_string (P:=Try.prog) (c:=o3) Try.underlying28 Try.underlying5 Try.underlying9 (Kd.jj0 go3 HBr.out)
         clear eu0 ev0 eu1 ev1 eu2 ev2 eu3 ev3
         have hwp2:=hwp.out
         go_wp2
         go_roundg k2
         case measure=>exact Nat.lt_succ_self k2
         case rel=>exact ⟨k+1,(by first|rfl|(rw [hwp2])|(simp [hwp2];done)),⟨(Nat.add_right_comm k 1 k2).trans HI2.out⟩,⟨jj1 HBi.out HBi.out.size HBr.out⟩⟩
      · have dd1_:=dec_ge hlt2
        have hwp2:=hwp1.out
        go_wp2
        go_roundg k1
        case measure=>exact Nat.lt_succ_self k1
        case rel=>exact ⟨i+1,(by first|rfl|(rw [hwp2])|(simp [hwp2];done)),⟨(Nat.add_right_comm i 1 k1).trans HI1.out⟩,⟨jj1 HB1.out HB1.out.size HBi.out⟩⟩
  · have d0:=dec_ge hlt
    go_wp2
    go_ret
    exact ⟨rfl,HB.out⟩
def sameServices_t.T11:Bool × List (List Nat × List Nat):=(true,[([],[]),([],[]),([0,1],[0,1]),([2],[2]),([3],[3]),([],[]),([4,5],[4,5]),([6],[6]),([],[]),([],[]),([8,9],[8,9]),([10],[10]),([11],[11]),([],[]),([12,13],[12,13]),([14],[14]),([],[]),([],[]),([16,7,0,1,2,3,4,5,6,7,16,17],[7,16]),([17,15,18,0,1,2,3,4,5,6,7,8,9,10,11,12,13,14,15,16,17,18],[15,17])])
def sameServices_t.B11:List Nat:=[0,0,3,7,15,0,63,127,0,0,768,1792,3840,0,16128,32512,0,0,196863,524287]
theorem sameServices_t.tab11:rtab .any (opsOf Try.f37 11)=sameServices_t.T11:=by kernel_rfl
theorem sameServices_t.bits11:waitsOk sameServices_t.T11.2 sameServices_t.B11=true:=by kernel_rfl
theorem sameServices_t (a:List S51) (hga:∀ y∈a,good51 y) (hla:a.length≤9223372036854775807) (A0 B0:Option Addr) (ca cb:Nat) (w:World) (CA:Kd.C k51 w A0 a.length a) (CB:Kd.C k51 w B0 a.length a) :
 Calls Try.prog 37 #[.slice A0 a.length ca,.slice B0 a.length cb] w fun e w'=>e = .returned (.bool true)∧Below w.heap.size w w':=by
 have HB0:=mk0 (Below.refl w.heap.size w)
 have HA:=mk0 CA
 have HC:=mk0 CB
 have hn:((a.length:Int) != (a.length:Int))=false:=bne_self_eq_false _
 go_enter Try.func37,Try.ntmps37
 go_wp2
 go_loopg [16] a.length (fun kq v16 w'=>∃ i:Nat,v16 = .int .i64 (i:Int)∧Aside0 (i+kq=a.length)∧Aside0 (Below w.heap.size w w'))
 case atStart=>
  exact ⟨0,rfl,⟨by omega⟩,⟨HB0.out⟩⟩
 case round=>
  obtain ⟨i,rfl,HI,HB⟩:=hrel
  by_cases hlt:i < a.length
  · have d0:=dec_lt hlt
    have p0:(0≤(i:Int))=True:=eq_true (Int.natCast_nonneg i)
    have q0:((i:Int) < (a.length:Int))=True:=eq_true (Int.ofNat_lt.2 hlt)
    obtain ⟨x,hx⟩:∃ x,a.getD i z51=x:=⟨_,rfl⟩
    have gx_:=hga x (by rw [← hx];simp [hlt])
    have hwp:=mk0 (wrap_le i a.length hlt hla)
    have HLA:=mk0 hla
    clear hla
    have hCa:=Kd.jj0 HA.out HB.out
    have hCb:=Kd.jj0 HC.out HB.out
    have hxe:=hx
    obtain ⟨ad,cc,ea,_,hKx,hcc⟩:=Kd.C_get hCa z51 (i:Int) (Int.natCast_nonneg _) (Int.ofNat_lt.2 hlt)
    rw [Int.toNat_natCast] at hKx hcc
    rw [hxe] at hKx
    obtain ⟨A1,c1,A2,c2,A3,c3,ecc,lc1,gc1,lc2,gc2,lc3,gc3⟩:=k51_open hKx
    subst ecc
    obtain ⟨ex0,ex1,ex2,ex3⟩:=ez4 (m:=i*4) hcc
    subst ea
    clear hcc hKx hxe
    have hxe:=hx
    obtain ⟨bd,cc,ea,_,hKx,hcc⟩:=Kd.C_get hCb z51 (i:Int) (Int.natCast_nonneg _) (Int.ofNat_lt.2 hlt)
    rw [Int.toNat_natCast] at hKx hcc
    rw [hxe] at hKx
    obtain ⟨B1,d1,B2,d2,B3,d3,ecc,ld1,gd1,ld2,gd2,ld3,gd3⟩:=k51_open hKx
    subst ecc
    obtain ⟨ey0,ey1,ey2,ey3⟩:=ez4 (m:=i*4) hcc
    subst ea
    clear hcc hKx hxe
    clear CA CB
    clear hx
    have HGX2:=mk0 gx_.2.1
    clear gx_
    have cx2:=fun (nd_:Nat)=>Kd.C_string (P:=Try.prog) (c:=c2) Try.underlying28 Try.underlying5 Try.underlying9 (Kd.C_drewN gc2 nd_)
    have cx3:=fun (nd_:Nat)=>Kd.C_string (P:=Try.prog) (c:=c3) Try.underlying28 Try.underlying5 Try.underlying9 (Kd.C_drewN gc3 nd_)
    have cy2:=fun (nd_:Nat)=>Kd.C_string (P:=Try.prog) (c:=d2) Try.underlying28 Try.underlying5 Try.underlying9 (Kd.C_drewN gd2 nd_)
    have cy3:=fun (nd_:Nat)=>Kd.C_string (P:=Try.prog) (c:=d3) Try.underlying28 Try.underlying5 Try.underlying9 (Kd.C_drewN gd3 nd_)
    have hbl:((x.f1.length:Int) != (x.f1.length:Int))=false:=bne_self_eq_false _
    cases gk with
    | zero=>exact absurd HI.out (fun h=>Nat.ne_of_lt hlt h)
    | succ k1=>
     go_wp2
     go_quiet (fail)
     go_wp2
     obtain ⟨wo,hwo_⟩:∃ q:World,q=wr:=⟨_,rfl⟩
     subst hwo_
     have HI1:=HI
     have hwp1:=hwp
     have HB1:=HB
     have HL2:=mk0 (show x.f1.length≤9223372036854775807 from HGX2.out.1)
     clear HI hwp HB
     go_loopg [81] x.f1.length (fun kq v81 w'=>∃ k:Nat,v81 = .int .i64 (k:Int)∧Aside0 (k+kq=x.f1.length)∧Aside0 (Below wo.heap.size wo w'))
     case atStart=>exact ⟨0,rfl,⟨by omega⟩,⟨by apply jj4;exact Below.refl _ _⟩⟩
     case round=>
      obtain ⟨k,rfl,HI2,HBi⟩:=hrel
      by_cases hlt2:k < x.f1.length
      · have hwp:=mk0 (wrap_le k x.f1.length hlt2 HL2.out)
        have dd1_:=dec_lt hlt2
        have p1:(0≤(k:Int))=True:=eq_true (Int.natCast_nonneg k)
        have q2:((k:Int) < (x.f1.length:Int))=True:=eq_true (Int.ofNat_lt.2 hlt2)
        obtain ⟨u,hu⟩:∃ u,x.f1.getD k z53=u:=⟨_,rfl⟩
        have gu_:=HGX2.out.2 u (by rw [← hu];simp [hlt2])
        have hCu:=Kd.jj0 gc1 HBi.out
        have hCv:=Kd.jj0 gd1 HBi.out
        have hxe:=hu
        obtain ⟨ud,cc,ea,_,hKx,hcc⟩:=Kd.C_get hCu z53 (k:Int) (Int.natCast_nonneg _) (Int.ofNat_lt.2 hlt2)
        rw [Int.toNat_natCast] at hKx hcc
        rw [hxe] at hKx
        obtain ⟨E5,m5,E6,m6,ecc,lm5,gm5,lm6,gm6⟩:=k53_open hKx
        subst ecc
        obtain ⟨eu0,eu1,eu2,eu3,eu4,eu5,eu6⟩:=ez7 (m:=k*7) hcc
        subst ea
        clear hcc hKx hxe
        have hxe:=hu
        obtain ⟨vd,cc,ea,_,hKx,hcc⟩:=Kd.C_get hCv z53 (k:Int) (Int.natCast_nonneg _) (Int.ofNat_lt.2 hlt2)
        rw [Int.toNat_natCast] at hKx hcc
        rw [hxe] at hKx
        obtain ⟨G5,o5,G6,o6,ecc,lo5,go5,lo6,go6⟩:=k53_open hKx
        subst ecc
        obtain ⟨ev0,ev1,ev2,ev3,ev4,ev5,ev6⟩:=ez7 (m:=k*7) hcc
        subst ea
        clear hcc hKx hxe
        clear hu gu_
        have ex1_:=pzB HBi ex1
        have ey1_:=pzB HBi ey1
        have HBr:=mk0 (Below.refl wr.heap.size wr)
        cases gk with
        | zero=>exact absurd HI2.out (fun h=>Nat.ne_of_lt hlt2 h)
        | succ k2=>
         go_wp2
         have n_:=mk0 (jj2 HBr.out)
         clear HBr
         have HBr:=n_
         clear n_
         refine start_ (n:=20) (S:=fun w'=>w'.cell? ⟨(ad.add (i*4)).block,(ad.add (i*4)).off+1,none⟩=some (.slice (some ud) x.f1.length c1)∧w'.cell? ⟨(bd.add (i*4)).block,(bd.add (i*4)).off+1,none⟩=some (.slice (some vd) x.f1.length d1)∧w'.cell? (ud.add (k*7))=some (.string u.f0)∧w'.cell? ⟨(ud.add (k*7)).block,(ud.add (k*7)).off+1,none⟩=some (.string u.f1)∧w'.cell? ⟨(ud.add (k*7)).block,(ud.add (k*7)).off+2,none⟩=some (.string u.f2)∧w'.cell? ⟨(ud.add (k*7)).block,(ud.add (k*7)).off+3,none⟩=some (.bool u.f3)∧w'.cell? ⟨(ud.add (k*7)).block,(ud.add (k*7)).off+4,none⟩=some (.bool u.f4)∧w'.cell? ⟨(ud.add (k*7)).block,(ud.add (k*7)).off+5,none⟩=some (.slice E5 u.f5.length m5)∧w'.cell? ⟨(ud.add (k*7)).block,(ud.add (k*7)).off+6,none⟩=some (.slice E6 u.f6.length m6)∧w'.cell? (vd.add (k*7))=some (.string u.f0)∧w'.cell? ⟨(vd.add (k*7)).block,(vd.add (k*7)).off+1,none⟩=some (.string u.f1)∧w'.cell? ⟨(vd.add (k*7)).block,(vd.add (k*7)).off+2,none⟩=some (.string u.f2)∧w'.cell? ⟨(vd.add (k*7)).block,(vd.add (k*7)).off+3,none⟩=some (.bool u.f3)∧w'.cell? ⟨(vd.add (k*7)).block,(vd.add (k*7)).off+4,none⟩=some (.bool u.f4)∧w'.cell? ⟨(vd.add (k*7)).block,(vd.add (k*7)).off+5,none⟩=some (.slice G5 u.f5.length o5)∧w'.cell? ⟨(vd.add (k*7)).block,(vd.add (k*7)).off+6,none⟩=some (.slice G6 u.f6.length o6)) (ds:=[]) (bzs 20 0) (by kernel_rfl) rfl rfl ⟨pzB HBr ex1_,pzB HBr ey1_,pzB HBr eu0,pzB HBr eu1,pzB HBr eu2,pzB HBr eu3,pzB HBr eu4,pzB HBr eu5,pzB HBr eu6,pzB HBr ev0,pzB HBr ev1,pzB HBr ev2,pzB HBr ev3,pzB HBr ev4,pzB HBr ev5,pzB HBr ev6⟩ (fun hHeld=>?_)
         refine with_tabW sameServices_t.tab11 sameServices_t.bits11 (fun HT_ HW_=>?_)
         generalize wr.drew=wq at HBr hHeld ⊢
         refine pzS 0 (some 84) (bzs 20 1) HT_ ?_
         refine pzS 1 (some 85) (bzs 20 3) HT_ ?_
         refine pzS 5 (some 89) (bzs 20 35) HT_ ?_
         refine pzS 8 (some 92) (bzs 20 291) HT_ ?_
         refine pzS 9 (some 93) (bzs 20 803) HT_ ?_
         refine pzS 13 (some 97) (bzs 20 8995) HT_ ?_
         refine tzS 2 (some 86) (bzs 20 8999) HT_ HW_ hHeld ?_
         refine pzS 3 (some 87) (bzs 20 9007) HT_ ?_
         refine tzS 4 (some 88) (bzs 20 9023) HT_ HW_ hHeld ?_
         refine tzS 6 (some 90) (bzs 20 9087) HT_ HW_ hHeld ?_
         refine tzS 7 (some 91) (bzs 20 9215) HT_ HW_ hHeld ?_
         refine tzS 10 (some 94) (bzs 20 10239) HT_ HW_ hHeld ?_
         refine pzS 11 (some 95) (bzs 20 12287) HT_ ?_
         refine tzS 12 (some 96) (bzs 20 16383) HT_ HW_ hHeld ?_
         refine tzS 14 (some 98) (bzs 20 32767) HT_ HW_ hHeld ?_
         refine tzS 15 (some 99) (bzs 20 65535) HT_ HW_ hHeld ?_
         refine join_ (σ:=Nat × Nat) 2 (bzs 20 262143) (fun s_=>[(7,.pointer (some ⟨s_.1,0,none⟩)),(8,.pointer (some ⟨s_.2,0,none⟩))]) (fun s_ w'=>w'.heap[s_.1]?=some (.cells #[.string (⟨#[]⟩:ByteArray),.string (⟨#[]⟩:ByteArray),.string (⟨#[]⟩:ByteArray),.bool false,.bool false,.slice none 0 0,.slice none 0 0] 53 (0,0))∧w'.heap[s_.2]?=some (.cells #[.string (⟨#[]⟩:ByteArray),.string (⟨#[]⟩:ByteArray),.string (⟨#[]⟩:ByteArray),.bool false,.bool false,.slice none 0 0,.slice none 0 0] 53 (0,0))∧s_.1≠s_.2∧wr.heap.size≤s_.1∧wr.heap.size≤s_.2∧Below wr.heap.size wr w') ?_ ?_
         rotate_left
         · intro hCont
           refine two_ (i:=16) (j:=17) (Ni:=some 7) (Nj:=some 8) (bzs 20 131071) (bzs 20 196607) rfl rfl rfl rfl (two_of HT_.out (by kernel_rfl)) (by decide) (by decide) (fun K hK=>?_) (fun K hK=>?_)
           · skip
             refine box_step ?hg (N:=7) ?hd (cs:=#[.string (⟨#[]⟩:ByteArray),.string (⟨#[]⟩:ByteArray),.string (⟨#[]⟩:ByteArray),.bool false,.bool false,.slice none 0 0,.slice none 0 0]) (t:=53) ?hr ?_;(case hd=>rfl);(case hg=>rfl);(case hr=>first|(go_simp;done)|(go_simp;rfl))
             intro gx hg wq hbox hb
             have HG1:=mk0 (show wr.heap.size≤gx from hg ▸ HBr.out.size)
             have n_:=mk0 (jj1 HBr.out HBr.out.size hb)
             clear HBr
             have HBr:=n_
             clear n_
             have B1:=mk0 hbox
             clear hg hbox hb
             refine hK.out _ _ ⟨pzB HBr ex1_,pzB HBr ey1_,pzB HBr eu0,pzB HBr eu1,pzB HBr eu2,pzB HBr eu3,pzB HBr eu4,pzB HBr eu5,pzB HBr eu6,pzB HBr ev0,pzB HBr ev1,pzB HBr ev2,pzB HBr ev3,pzB HBr ev4,pzB HBr ev5,pzB HBr ev6⟩ (fun hHeld=>?_)
             clear hK K
             refine nzS (some 7) ?_
             refine one_ (i:=17) (N:=some 8) (bzs 20 262143) rfl rfl (jk2 HT_.out (by kernel_rfl)) (by decide) (fun K hK=>?_)
             refine box_step ?hg (N:=8) ?hd (cs:=#[.string (⟨#[]⟩:ByteArray),.string (⟨#[]⟩:ByteArray),.string (⟨#[]⟩:ByteArray),.bool false,.bool false,.slice none 0 0,.slice none 0 0]) (t:=53) ?hr ?_;(case hd=>rfl);(case hg=>rfl);(case hr=>first|(go_simp;done)|(go_simp;rfl))
             intro gy hg wq hbox hb
             have HG2:=mk0 (show wr.heap.size≤gy from hg ▸ HBr.out.size)
             have HNE:=mk0 (show gx≠gy from hg ▸ Nat.ne_of_lt (blk_lt B1.out))
             have n_:=mk0 (jj1 HBr.out HBr.out.size hb)
             clear HBr
             have HBr:=n_
             clear n_
             have n_:=mk0 (jj3 B1.out hb)
             clear B1
             have B1:=n_
             have B2:=mk0 hbox
             clear hg hbox hb n_
             refine hK.out _ _ ⟨pzB HBr ex1_,pzB HBr ey1_,pzB HBr eu0,pzB HBr eu1,pzB HBr eu2,pzB HBr eu3,pzB HBr eu4,pzB HBr eu5,pzB HBr eu6,pzB HBr ev0,pzB HBr ev1,pzB HBr ev2,pzB HBr ev3,pzB HBr ev4,pzB HBr ev5,pzB HBr ev6⟩ (fun hHeld=>?_)
             clear hK K
             refine nzS (some 8) ?_
             exact norm_ (by simp only [putAll,Act.put,List.setIfInBounds_toArray,List.set_cons_zero,List.set_cons_succ]) (hCont (gx,gy) _ ⟨B1.out,B2.out,HNE.out,HG1.out,HG2.out,HBr.out⟩)
           · skip
             refine box_step ?hg (N:=8) ?hd (cs:=#[.string (⟨#[]⟩:ByteArray),.string (⟨#[]⟩:ByteArray),.string (⟨#[]⟩:ByteArray),.bool false,.bool false,.slice none 0 0,.slice none 0 0]) (t:=53) ?hr ?_;(case hd=>rfl);(case hg=>rfl);(case hr=>first|(go_simp;done)|(go_simp;rfl))
             intro gy hg wq hbox hb
             have HG1:=mk0 (show wr.heap.size≤gy from hg ▸ HBr.out.size)
             have n_:=mk0 (jj1 HBr.out HBr.out.size hb)
             clear HBr
             have HBr:=n_
             clear n_
             have B1:=mk0 hbox
             clear hg hbox hb
             refine hK.out _ _ ⟨pzB HBr ex1_,pzB HBr ey1_,pzB HBr eu0,pzB HBr eu1,pzB HBr eu2,pzB HBr eu3,pzB HBr eu4,pzB HBr eu5,pzB HBr eu6,pzB HBr ev0,pzB HBr ev1,pzB HBr ev2,pzB HBr ev3,pzB HBr ev4,pzB HBr ev5,pzB HBr ev6⟩ (fun hHeld=>?_)
             clear hK K
             refine nzS (some 8) ?_
             refine one_ (i:=16) (N:=some 7) (bzs 20 262143) rfl rfl (jk2 HT_.out (by kernel_rfl)) (by decide) (fun K hK=>?_)
             refine box_step ?hg (N:=7) ?hd (cs:=#[.string (⟨#[]⟩:ByteArray),.string (⟨#[]⟩:ByteArray),.string (⟨#[]⟩:ByteArray),.bool false,.bool false,.slice none 0 0,.slice none 0 0]) (t:=53) ?hr ?_;(case hd=>rfl);(case hg=>rfl);(case hr=>first|(go_simp;done)|(go_simp;rfl))
             intro gx hg wq hbox hb
             have HG2:=mk0 (show wr.heap.size≤gx from hg ▸ HBr.out.size)
             have HNE:=mk0 (show gy≠gx from hg ▸ Nat.ne_of_lt (blk_lt B1.out))
             have n_:=mk0 (jj1 HBr.out HBr.out.size hb)
             clear HBr
             have HBr:=n_
             clear n_
             have n_:=mk0 (jj3 B1.out hb)
             clear B1
             have B1:=n_
             have B2:=mk0 hbox
             clear hg hbox hb n_
             refine hK.out _ _ ⟨pzB HBr ex1_,pzB HBr ey1_,pzB HBr eu0,pzB HBr eu1,pzB HBr eu2,pzB HBr eu3,pzB HBr eu4,pzB HBr eu5,pzB HBr eu6,pzB HBr ev0,pzB HBr ev1,pzB HBr ev2,pzB HBr ev3,pzB HBr ev4,pzB HBr ev5,pzB HBr ev6⟩ (fun hHeld=>?_)
             clear hK K
             refine nzS (some 7) ?_
             exact norm_ (by simp only [putAll,Act.put,List.setIfInBounds_toArray,List.set_cons_zero,List.set_cons_succ]) (hCont (gx,gy) _ ⟨B2.out,B1.out,(HNE.out).symm,HG2.out,HG1.out,HBr.out⟩)
         clear HBr hHeld
         rintro ⟨gx,gy⟩ wq ⟨hBX_,hBY_,hne_,hGX_,hGY_,hB_⟩
         have BX:=mk0 hBX_
         have BY:=mk0 hBY_
         have HNE:=mk0 hne_
         have HGX:=mk0 hGX_
         have HGY:=mk0 hGY_
         have HBr:=mk0 hB_
         clear hBX_ hBY_ hne_ hGX_ hGY_ hB_
         refine norm_ (a':=?_) ?_ ?_
         rotate_left
         · simp only [putAll,Act.put,List.setIfInBounds_toArray,List.set_cons_zero,List.set_cons_succ]
           rfl
         refine one_ (i:=18) (N:=none) (bzs 20 524287) rfl rfl (jk2 HT_.out (by kernel_rfl)) (by decide) (fun K hK=>?_)
         refine skip_ (w1:=wq.setRow gx #[.string u.f0,.string u.f1,.string u.f2,.bool u.f3,.bool u.f4,.slice E5 u.f5.length m5,.slice E6 u.f6.length m6]) (by rfl) rfl (store_skip rfl gx 53 _ _ rfl rfl BX.out (by kernel_rfl) rfl rfl) ?_
         have n0_:=mk0 (setRow_heap wq gx _ #[.string u.f0,.string u.f1,.string u.f2,.bool u.f3,.bool u.f4,.slice E5 u.f5.length m5,.slice E6 u.f6.length m6] 53 (0,0) BX.out)
         have n1_:=mk0 ((setRow_other wq gx gy #[.string u.f0,.string u.f1,.string u.f2,.bool u.f3,.bool u.f4,.slice E5 u.f5.length m5,.slice E6 u.f6.length m6] HNE.out.symm).trans BY.out)
         have n2_:=mk0 (below_setRow HBr.out HGX.out #[.string u.f0,.string u.f1,.string u.f2,.bool u.f3,.bool u.f4,.slice E5 u.f5.length m5,.slice E6 u.f6.length m6])
         clear BX BY HBr
         generalize wq.setRow gx #[.string u.f0,.string u.f1,.string u.f2,.bool u.f3,.bool u.f4,.slice E5 u.f5.length m5,.slice E6 u.f6.length m6]=wq at n0_ n1_ n2_ ⊢
         have BX:=n0_
         have BY:=n1_
         have HBr:=n2_
         clear n0_ n1_ n2_
         refine hK.out _ _ ⟨pzB HBr ex1_,pzB HBr ey1_,pzB HBr eu0,pzB HBr eu1,pzB HBr eu2,pzB HBr eu3,pzB HBr eu4,pzB HBr eu5,pzB HBr eu6,pzB HBr ev0,pzB HBr ev1,pzB HBr ev2,pzB HBr ev3,pzB HBr ev4,pzB HBr ev5,pzB HBr ev6⟩ (fun hHeld=>?_)
         clear hK K
         refine one_ (i:=19) (N:=none) (bzs 20 1048575) rfl rfl (jk2 HT_.out (by kernel_rfl)) (by decide) (fun K hK=>?_)
         refine skip_ (w1:=wq.setRow gy #[.string u.f0,.string u.f1,.string u.f2,.bool u.f3,.bool u.f4,.slice G5 u.f5.length o5,.slice G6 u.f6.length o6]) (by rfl) rfl (store_skip rfl gy 53 _ _ rfl rfl BY.out (by kernel_rfl) rfl rfl) ?_
         have n0_:=mk0 (setRow_heap wq gy _ #[.string u.f0,.string u.f1,.string u.f2,.bool u.f3,.bool u.f4,.slice G5 u.f5.length o5,.slice G6 u.f6.length o6] 53 (0,0) BY.out)
         have n1_:=mk0 ((setRow_other wq gy gx #[.string u.f0,.string u.f1,.string u.f2,.bool u.f3,.bool u.f4,.slice G5 u.f5.length o5,.slice G6 u.f6.length o6] HNE.out).trans BX.out)
         have n2_:=mk0 (below_setRow HBr.out HGY.out #[.string u.f0,.string u.f1,.string u.f2,.bool u.f3,.bool u.f4,.slice G5 u.f5.length o5,.slice G6 u.f6.length o6])
         clear BY BX HBr
         generalize wq.setRow gy #[.string u.f0,.string u.f1,.string u.f2,.bool u.f3,.bool u.f4,.slice G5 u.f5.length o5,.slice G6 u.f6.length o6]=wq at n0_ n1_ n2_ ⊢
         have BY:=n0_
         have BX:=n1_
         have HBr:=n2_
         clear n0_ n1_ n2_
         refine hK.out _ _ ⟨pzB HBr ex1_,pzB HBr ey1_,pzB HBr eu0,pzB HBr eu1,pzB HBr eu2,pzB HBr eu3,pzB HBr eu4,pzB HBr eu5,pzB HBr eu6,pzB HBr ev0,pzB HBr ev1,pzB HBr ev2,pzB HBr ev3,pzB HBr ev4,pzB HBr ev5,pzB HBr ev6⟩ (fun hHeld=>?_)
         clear hK K
         refine done_ (done_of HT_.out (by kernel_rfl)) ?_
         obtain ⟨p0_,p1_,p2_,p3_,p4_,p5_,p6_⟩:=cz7 BX.out
         obtain ⟨q0_,q1_,q2_,q3_,q4_,q5_,q6_⟩:=cz7 BY.out
         have cu5:=Kd.C_string (P:=Try.prog) (c:=m5) Try.underlying28 Try.underlying5 Try.underlying9 (Kd.jj0 gm5 HBr.out)
         have cu6:=Kd.C_string (P:=Try.prog) (c:=m6) Try.underlying28 Try.underlying5 Try.underlying9 (Kd.jj0 gm6 HBr.out)
         have cv5:=Kd.C_string (P:=Try.prog) (c:=o5) Try.underlying28 Try.underlying5 Try.underlying9 (Kd.jj0 go5 HBr.out)
         have cv6:=Kd.C_string (P:=Try.prog) (c:=o6) Try.underlying28 Try.underlying5 Try.underlying9 (Kd.jj0 go6 HBr.out)
         clear eu0 ev0 eu1 ev1 eu2 ev2 eu3 ev3 eu4 ev4 eu5 ev5 eu6 ev6
         have hwp2:=hwp.out
         go_wp2
         go_roundg k2
         case measure=>exact Nat.lt_succ_self k2
         case rel=>exact ⟨k+1,(by first|rfl|(rw [hwp2])|(simp [hwp2];done)),⟨(Nat.add_right_comm k 1 k2).trans HI2.out⟩,⟨jj1 HBi.out HBi.out.size HBr.out⟩⟩
      · have dd1_:=dec_ge hlt2
        have hwp2:=hwp1.out
        go_wp2
        go_roundg k1
        case measure=>exact Nat.lt_succ_self k1
        case rel=>exact ⟨i+1,(by first|rfl|(rw [hwp2])|(simp [hwp2];done)),⟨(Nat.add_right_comm i 1 k1).trans HI1.out⟩,⟨jj1 HB1.out HB1.out.size HBi.out⟩⟩
  · have d0:=dec_ge hlt
    go_wp2
    go_ret
    exact ⟨rfl,HB.out⟩
end Go.Proofs.Ytheoafenehckbaa.R1
