/- How deep a file's messages stand: the reference's answer. -/
import Derived.Test.YtheoafenehckbaaKRdp
import Derived.Test.YtheoafenehckbaaKDp
namespace Go.Proofs.Ytheoafenehckbaa.Dr
open Go.RowKit GUndescBack Rdp YtheoafenehckbaaW.PrintWords YtheoafenehckbaaW.PrintLast YtheoafenehckbaaW.PrintMore Rk Dp
theorem rdeep_tot (N:Nat):∀ (l:List S76),SizeOf.sizeOf l≤N→LenOk l→∀ (a:Nat),a≤64→∃ v:Int,(∃ k0,∀ k,k0≤k→glossaryref11_deep.f k l (a:Int)=some v)∧(a+hL l≤64→v=((a+hL l:Nat):Int))∧(64 < a+hL l→64 < v):=by
 induction N with
 | zero=>intro l h;exfalso;cases l <;> simp at h
 | succ N ih=>
  intro l hl ok a ha
  have loop:∀ (n i:Nat),i+n=l.length→∀ (d:Nat),a+1≤d∨n=0→d≤64→∃ v:Int,(∃ k0,∀ k,k0≤k→glossaryref11_deep.l0 k (a:Int) (d:Int) l (l.length:Int) (i:Int)=some v)∧(max d (a+hL (l.drop i))≤64→a≤d→v=((max d (a+hL (l.drop i)):Nat):Int))∧(64 < max d (a+hL (l.drop i))→64 < v):=by
   intro n
   induction n with
   | zero=>
    intro i hi d _ hd
    rw [List.drop_of_length_le (by omega),hL_nil]
    refine ⟨d,⟨1,fun k hk=>?_⟩,fun _ _=>by omega,fun _=>by omega⟩
    obtain ⟨k,rfl⟩:∃ q,k=q+1:=⟨k - 1,by omega⟩
    simp only [glossaryref11_deep.l0]
    rw [if_neg (by omega)]
   | succ n ihn=>
    intro i hi d had hd
    have had:a+1≤d:=by omega
    have hlt:i < l.length:=by omega
    have hmem:=List.getElem_mem hlt
    have hs:=List.sizeOf_lt_of_mem hmem
    have hs2:=sz_f2 l[i]
    obtain ⟨t,⟨k1,ht⟩,t1,t2⟩:=ih l[i].f2 (by omega) (lenOk_in ok hmem) (a+1) (by omega)
    have hw:wrap64 ((a:Int)+1)=((a+1:Nat):Int):=by unfold wrap64;omega
    have step:∀ k,k1≤k→glossaryref11_deep.l0 (k+1) (a:Int) (d:Int) l (l.length:Int) (i:Int)=if max (d:Int) t > 64 then some (max (d:Int) t) else glossaryref11_deep.l0 k (a:Int) (max (d:Int) t) l (l.length:Int) ((i+1:Nat):Int):=by
     intro k hk
     simp only [glossaryref11_deep.l0]
     rw [if_pos (by omega),if_pos (by omega),if_pos (by omega),lenOk_wrap ok hlt,rd_at hlt,hw,ht k hk,Option.bind_some,mx_int]
    rw [List.drop_eq_getElem_cons hlt,hL_cons]
    by_cases hc:a+1+hL l[i].f2≤64
    · have e:=t1 hc
      obtain ⟨v,⟨k2,hv⟩,v1,v2⟩:=ihn (i+1) (by omega) (max d (a+1+hL l[i].f2)) (by omega) (by omega)
      refine ⟨v,⟨max k1 k2+1,fun k hk=>?_⟩,fun h1 h2=>?_,fun h1=>v2 (by omega)⟩
      · obtain ⟨k,rfl⟩:∃ q,k=q+1:=⟨k - 1,by omega⟩
        rw [step k (by omega),if_neg (by omega),show max (d:Int) t=((max d (a+1+hL l[i].f2):Nat):Int) from by omega]
        exact hv k (by omega)
      · have:=v1 (by omega) (by omega)
        omega
    · have e:=t2 (by omega)
      refine ⟨max (d:Int) t,⟨k1+1,fun k hk=>?_⟩,fun h1 _=>by omega,fun _=>by omega⟩
      obtain ⟨k,rfl⟩:∃ q,k=q+1:=⟨k - 1,by omega⟩
      rw [step k (by omega),if_pos (by omega)]
  cases l with
  | nil=>
   obtain ⟨v,⟨k1,hv⟩,v1,v2⟩:=loop 0 0 rfl a (.inr rfl) ha
   refine ⟨v,⟨k1+2,fun k hk=>?_⟩,fun h=>?_,fun h=>v2 (by simp only [List.drop_nil];omega)⟩
   · obtain ⟨k,rfl⟩:∃ q,k=q+2:=⟨k - 2,by omega⟩
     simp only [glossaryref11_deep.f,glossaryref11_deep.j0]
     rw [if_neg (by simp),if_neg (by omega)]
     exact hv k (by omega)
   · have:=v1 (by rw [List.drop_nil];omega) (Nat.le_refl a)
     rw [List.drop_nil] at this
     rw [this,hL_nil]
     omega
  | cons y r=>
   have hp:1≤hL (y :: r):=by rw [hL_cons];omega
   have hw:wrap64 ((a:Int)+1)=((a+1:Nat):Int):=by unfold wrap64;omega
   by_cases h64:a=64
   · refine ⟨65,⟨2,fun k hk=>?_⟩,fun h=>by omega,fun _=>by omega⟩
     obtain ⟨k,rfl⟩:∃ q,k=q+2:=⟨k - 2,by omega⟩
     simp only [glossaryref11_deep.f,glossaryref11_deep.j0]
     rw [if_pos (by simp only [List.length_cons];omega),hw,if_pos (by omega),h64]
     rfl
   · obtain ⟨v,⟨k1,hv⟩,v1,v2⟩:=loop (y :: r).length 0 (by omega) (a+1) (.inl (Nat.le_refl _)) (by omega)
     rw [List.drop_zero] at v1 v2
     refine ⟨v,⟨k1+2,fun k hk=>?_⟩,fun h=>?_,fun h=>v2 (by omega)⟩
     · obtain ⟨k,rfl⟩:∃ q,k=q+2:=⟨k - 2,by omega⟩
       simp only [glossaryref11_deep.f,glossaryref11_deep.j0]
       rw [if_pos (by simp only [List.length_cons];omega),hw,if_neg (by omega)]
       exact hv k (by omega)
     · have:=v1 (by omega) (by omega)
       omega
theorem refdeep_c (x:S30) (g:good30 x) (w:World) (cs:List Value) (hK:k30.K w x cs):Calls Try.prog 8 #[.agg cs.toArray] w fun e w'=>e = .returned (.int .i64 (dp x.f4))∧Below w.heap.size w w':=by
 obtain ⟨A2,c2,A3,c3,A4,c4,A5,c5,A6,c6,A7,c7,A9,c9,A10,c10,rfl,l2,g2,l3,g3,l4,g4,l5,g5,l6,g6,l7,g7,l9,g9,l10,g10⟩:=k30_open hK
 obtain ⟨v,⟨k,hk⟩,v1,v2⟩:=rdeep_tot _ x.f4 (Nat.le_refl _) g.2.2.2.2.1 0 (by omega)
 have hv:glossaryref11_Deep.f k x.f0 x.f1 x.f2 x.f3 x.f4 x.f5 x.f6 x.f7 x.f8 x.f9 x.f10=some (dp x.f4):=by
  unfold glossaryref11_Deep.f dp
  rw [show (0:Int)=((0:Nat):Int) from rfl,hk k (Nat.le_refl _),Option.bind_some]
  by_cases h:hL x.f4≤64
  · have:=v1 (by omega)
    rw [if_pos h,if_pos (by omega),this,Nat.zero_add]
  · have:=v2 (by omega)
    rw [if_neg h,if_neg (by omega)]
 exact glossaryref11_Deep.calls k x.f0 x.f1 A2 c2 x.f2 A3 c3 x.f3 A4 c4 x.f4 A5 c5 x.f5 A6 c6 x.f6 A7 c7 x.f7 x.f8 A9 c9 x.f9 A10 c10 x.f10 (dp x.f4) w g2 l2 g3 l3 g4 l4 g5 l5 g6 l6 g7 l7 g9 l9 g10 l10 hv
end Go.Proofs.Ytheoafenehckbaa.Dr
