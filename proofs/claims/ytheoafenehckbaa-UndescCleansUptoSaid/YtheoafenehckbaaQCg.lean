/- What cleaning makes: bulk, depth, bounds (plain). -/
import Derived.Test.YtheoafenehckbaaQCx
import Derived.Test.YtheoafenehckbaaQDp
namespace Go.Proofs.Ytheoafenehckbaa.Ur
open Go.RowKit GUndescBack YtheoafenehckbaaW.PrintWords YtheoafenehckbaaW.PrintLast YtheoafenehckbaaW.PrintMore Rk Dp
set_option linter.unusedVariables false
theorem sum_cl {α:Type} (bk:α→Nat) (cl:α→α):∀ (l:List α),(∀ y∈l,bk (cl y)≤bk y)→((l.map cl).map bk).sum≤(l.map bk).sum
 | [],_=>Nat.le_refl _
 | a :: l,h=>by
  have h1:=h a (List.mem_cons_self ..)
  have h2:=sum_cl bk cl l (fun y hy=>h y (List.mem_cons_of_mem _ hy))
  simp only [List.map_cons,List.sum_cons]
  omega
theorem all_cl {α:Type} {good:α→Prop} (cl:α→α) {l:List α} (h:l.length≤maxLen∧∀ y∈l,good y) (hc:∀ y∈l,good y→good (cl y)):(l.map cl).length≤maxLen∧∀ y∈l.map cl,good y:=
 ⟨by rw [List.length_map];exact h.1,fun y hy=>by obtain ⟨z,hz,rfl⟩:=List.mem_map.1 hy;exact hc z hz (h.2 z hz)⟩
theorem nil_ok {p:Int→Prop}:([]:List Int).length≤maxLen∧∀ y∈([]:List Int),p y:=⟨Nat.zero_le _,fun _ h=>by cases h⟩
theorem bk_clOneof (x:S91):bk91 (clOneof x)≤bk91 x:=by
 unfold bk91 clOneof
 dsimp only
 (try rw [show ([].map fun y_:Int=>1).sum=0 from rfl])
 (try simp only [List.map_nil,List.sum_nil])
 omega
theorem good_clOneof {x:S91} (g:good91 x):good91 (clOneof x):=⟨g.1,g.2.1,nil_ok⟩
theorem bk_clValue (x:S93):bk93 (clValue x)≤bk93 x:=by
 unfold bk93 clValue
 dsimp only
 (try rw [show ([].map fun y_:Int=>1).sum=0 from rfl])
 (try simp only [List.map_nil,List.sum_nil])
 omega
theorem good_clValue {x:S93} (g:good93 x):good93 (clValue x):=⟨g.1,g.2.1,g.2.2.1,nil_ok⟩
theorem bk_clMethod (x:S53):bk53 (clMethod x)≤bk53 x:=by
 unfold bk53 clMethod
 dsimp only
 (try rw [show ([].map fun y_:Int=>1).sum=0 from rfl])
 (try simp only [List.map_nil,List.sum_nil])
 omega
theorem good_clMethod {x:S53} (g:good53 x):good53 (clMethod x):=⟨g.1,g.2.1,g.2.2.1,g.2.2.2.1,g.2.2.2.2.1,g.2.2.2.2.2.1,nil_ok⟩
theorem bk_clField (x:S88):bk88 (clField x)≤bk88 x:=by
 unfold bk88 clField
 dsimp only
 (try rw [show ([].map fun y_:Int=>1).sum=0 from rfl])
 (try simp only [List.map_nil,List.sum_nil])
 omega
theorem good_clField {x:S88} (g:good88 x):good88 (clField x):=⟨g.1,g.2.1,g.2.2.1,g.2.2.2.1,g.2.2.2.2.1,g.2.2.2.2.2.1,g.2.2.2.2.2.2.1,g.2.2.2.2.2.2.2.1,g.2.2.2.2.2.2.2.2.1,g.2.2.2.2.2.2.2.2.2.1,g.2.2.2.2.2.2.2.2.2.2.1,g.2.2.2.2.2.2.2.2.2.2.2.1,nil_ok⟩
theorem bk_clEnum (x:S82):bk82 (clEnum x)≤bk82 x:=by
 unfold bk82 clEnum
 have h1:=sum_cl bk93 clValue x.f1 (fun y hy=>bk_clValue y)
 dsimp only
 (try rw [show ([].map fun y_:Int=>1).sum=0 from rfl])
 (try simp only [List.map_nil,List.sum_nil])
 omega
theorem good_clEnum {x:S82} (g:good82 x):good82 (clEnum x):=⟨g.1,all_cl clValue g.2.1 (fun y _ h=>good_clValue h),g.2.2.1,nil_ok⟩
theorem bk_clService (x:S51):bk51 (clService x)≤bk51 x:=by
 unfold bk51 clService
 have h1:=sum_cl bk53 clMethod x.f1 (fun y hy=>bk_clMethod y)
 dsimp only
 (try rw [show ([].map fun y_:Int=>1).sum=0 from rfl])
 (try simp only [List.map_nil,List.sum_nil])
 omega
theorem good_clService {x:S51} (g:good51 x):good51 (clService x):=⟨g.1,all_cl clMethod g.2.1 (fun y _ h=>good_clMethod h),g.2.2.1,nil_ok⟩
theorem bk_clMs (n:Nat):∀ l,((clMs n l).map bk76).sum≤(l.map bk76).sum:=by
 induction n with
 | zero=>intro l;exact Nat.zero_le _
 | succ n ih=>
  intro l
  rw [clMs_succ]
  refine sum_cl bk76 (clMx n) l (fun x _=>?_)
  rw [bk76_eq,bk76_eq x]
  unfold clMx
  have h2:=ih x.f2
  have h1:=sum_cl bk88 clField x.f1 (fun y hy=>bk_clField y)
  have h3:=sum_cl bk82 clEnum x.f3 (fun y hy=>bk_clEnum y)
  have h5:=sum_cl bk88 clField x.f5 (fun y hy=>bk_clField y)
  have h6:=sum_cl bk91 clOneof x.f6 (fun y hy=>bk_clOneof y)
  dsimp only
  (try rw [show ([].map fun y_:Int=>1).sum=0 from rfl])
  (try simp only [List.map_nil,List.sum_nil])
  omega
theorem len_clMs (n:Nat) (l:List S76):(clMs n l).length≤l.length:=by
 cases n with
 | zero=>exact Nat.zero_le _
 | succ n=>rw [clMs_succ,List.length_map];exact Nat.le_refl _
theorem good_clMs (n:Nat):∀ l,(∀ y∈l,good76 y)→∀ y∈clMs n l,good76 y:=by
 induction n with
 | zero=>intro l _ y hy;cases hy
 | succ n ih=>
  intro l hl y hy
  rw [clMs_succ] at hy
  obtain ⟨x,hx,rfl⟩:=List.mem_map.1 hy
  have g:=hl x hx
  rw [good76] at g
  rw [good76]
  exact ⟨g.1,all_cl clField g.2.1 (fun y _ h=>good_clField h),⟨Nat.le_trans (len_clMs n _) g.2.2.1.1,ih x.f2 g.2.2.1.2⟩,all_cl clEnum g.2.2.2.1 (fun y _ h=>good_clEnum h),g.2.2.2.2.1,all_cl clField g.2.2.2.2.2.1 (fun y _ h=>good_clField h),all_cl clOneof g.2.2.2.2.2.2.1 (fun y _ h=>good_clOneof h),g.2.2.2.2.2.2.2.1,g.2.2.2.2.2.2.2.2.1,g.2.2.2.2.2.2.2.2.2.1,nil_ok⟩
theorem bk_clFile (x:S30):bk30 (clFile x)≤bk30 x:=by
 unfold bk30 clFile
 have h4:=bk_clMs 64 x.f4
 have h5:=sum_cl bk82 clEnum x.f5 (fun y hy=>bk_clEnum y)
 have h6:=sum_cl bk51 clService x.f6 (fun y hy=>bk_clService y)
 have h7:=sum_cl bk88 clField x.f7 (fun y hy=>bk_clField y)
 dsimp only
 (try rw [show ([].map fun y_:Int=>1).sum=0 from rfl])
 (try simp only [List.map_nil,List.sum_nil])
 omega
theorem good_clFile {x:S30} (g:good30 x):good30 (clFile x):=⟨g.1,g.2.1,g.2.2.1,g.2.2.2.1,⟨Nat.le_trans (len_clMs 64 _) g.2.2.2.2.1.1,good_clMs 64 x.f4 g.2.2.2.2.1.2⟩,all_cl clEnum g.2.2.2.2.2.1 (fun y _ h=>good_clEnum h),all_cl clService g.2.2.2.2.2.2.1 (fun y _ h=>good_clService h),all_cl clField g.2.2.2.2.2.2.2.1 (fun y _ h=>good_clField h),g.2.2.2.2.2.2.2.2.1,g.2.2.2.2.2.2.2.2.2.1,nil_ok⟩
theorem hL_clMs (n:Nat):∀ l,hL (clMs n l)≤n:=by
 induction n with
 | zero=>intro l;exact Nat.le_of_eq hL_nil
 | succ n ih=>
  intro l
  rw [clMs_succ]
  induction l with
  | nil=>rw [List.map_nil,hL_nil];exact Nat.zero_le _
  | cons x r ihr=>
   rw [List.map_cons,hL_cons]
   have:=ih x.f2
   have h2:hL (clMx n x).f2=hL (clMs n x.f2):=rfl
   omega
theorem hL_clFile (x:S30):hL (clFile x).f4≤64:=hL_clMs 64 x.f4
end Go.Proofs.Ytheoafenehckbaa.Ur
