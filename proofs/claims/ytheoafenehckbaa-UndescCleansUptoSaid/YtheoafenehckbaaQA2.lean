/- Words: QAp, QBase, QCl, QPt, QRf, QFl, QTk. -/
import Derived.OwnWalkIn
import Derived.Maps.AppendAt
import Derived.Test.YtheoafenehckbaaQW
import Derived.ScopeJumps
import Derived.WalkMore
import Derived.Test.YtheoafenehckbaaProg
import Derived.Below
import Derived.Deep.Draws
import Derived.Deep.AppendLies
import Derived.OwnWalk
import Derived.Laws.BytesArg
import Derived.Laws.MakeOwn
import Derived.Laws.OwnMore
import Derived.Deep.OwnRows
import Derived.Tactics
import Derived.Lib.ConvBytes
import Derived.Laws.Slices
import Derived.WalkKit
import Derived.KernelRfl
import Derived.RowKit3
import Derived.Deep.LoopGhost
import Derived.Deep.QuietTactic
import Derived.BigQuiet
import Derived.WideLaws
import Derived.Deep.DeepCutAuto
import Derived.Deep.CutBlock
import Derived.Deep.RegionHeld3
import Derived.Laws.Rows
import Derived.Lib.AppendStr
import Derived.ArgAppend
import Derived.Laws.IdiomCopy
import Derived.OrdersHeld
import Derived.Laws.BitsLemmas
import Derived.RowKit
import Derived.RangeFuncNested
import Derived.RangeFuncBound
import Derived.RangeFuncCalls
import Derived.RangeFuncLeaves
import Derived.RangeFuncFrom
import Derived.Shelf.Abstract
import Derived.Shelf.RegionOpen
import Derived.TacticsInMore
import Derived.LoopNIn
import Derived.LoopIn
namespace Go.Proofs.Ytheoafenehckbaa.Ap
open Go Go.RowKit YtheoafenehckbaaW.PrintWords YtheoafenehckbaaW.PrintLast YtheoafenehckbaaW.PrintMore
theorem run_append_S {P:Program} {α:Type} (d:Kd α) {W:World} (base:Nat) (t ty e:TypeId) (z:Value) (bytes:Nat)
 (ht:P.underlying t=some (.slice e)) (hinfo:(P.info? e).map (fun i=>(i.zero,i.size,i.bytes))=some (some z,d.sz,bytes)) (hz:z.cells.size=d.sz) (hs0:0 < d.sz) (hb0:0 < bytes)
 (v:Value) (xs:List α) (p:α) (cs:List Value) (ok okp:Nat→Prop) (hp:d.M W base okp p cs) (hokp:∀ k,okp k→ok k∧some k≠v.ownBlock) (hfresh:∀ k,W.heap.size≤k→ok k)
 (HO:Kd.S d e W base (fun k=>ok k∧¬ okp k) v xs) (hbase:base≤W.heap.size) (hl:(xs.length+1)*bytes≤140737488355328) :
 ∃ v1 w1,(Builtin.append_ #[t,t] ty #[v,.slice (some ⟨W.heap.size,0,none⟩) 1 1]).run P (W.alloc (.cells cs.toArray e)) = .ok v1 w1∧Kd.S d e w1 base ok v1 (xs++[p])∧W.grownBy w1 v.ownBlock:=by
 obtain ⟨f,hf,hR⟩:=Kd.S_tag HO xs.length okp (fun _ hk h2=>h2.2 hk)
 obtain ⟨h0,inner,hown,hr⟩:=Kd.R_mono hR (ok':=ok) (fun _ hk=>hk.1)
 obtain ⟨i0,hi,hzz⟩:=Option.map_eq_some_iff.1 hinfo
 simp only [Prod.mk.injEq] at hzz
 obtain ⟨hz0,hz1,hz2⟩:=hzz
 have hp':(Kd.tag f d).M W base okp (p,xs.zipIdx.length) cs:=d.M_mono (fun k hk=>⟨hk,by rw [List.length_zipIdx];exact hf k hk⟩) hp
 have hlen:xs.zipIdx.length+1≤140737488355328:=by
  rw [List.length_zipIdx]
  exact Nat.le_trans (Nat.le_mul_of_pos_right _ hb0) hl
 have hys:cs.length=d.sz:=d.K_len (d.K_of_M hp)
 obtain ⟨v1,w1,hrun,hown1,hg,_,hat⟩:=run_append_own_at (P:=P) (w:=W.alloc (.cells cs.toArray e)) base t ty e i0 z d.sz bytes ht hi hz0 hz1 hz2 hz hs0 v xs.zipIdx.length inner (hown.alloc _) ⟨W.heap.size,0,none⟩ 1 1 cs (by rw [hys];simp)
  (by simpa using World.news_of_block (cs:=cs.toArray) (t:=e) (fr:=(0,0)) (heap_alloc_new W (.cells cs.toArray e))) (d.K_one (d.K_of_M hp)) (by simp only [maxLen];omega) (by rw [List.length_zipIdx];exact hl) (by simp;omega)
 have hg':W.grownBy w1 v.ownBlock:=World.grownBy.trans (World.grownBy_alloc W _ _) hg
 have hat':v1.ownBlock=v.ownBlock∨∃ b,v1.ownBlock=some b∧W.heap.size≤b:=by
  rcases hat with hat|hat
  · exact .inl hat
  · exact .inr ⟨_,hat,by simp⟩
 refine ⟨v1,w1,hrun,⟨f,?_⟩,hg'⟩
 rw [Kd.zip_snoc]
 have:=Kd.R_appended (d:=Kd.tag f d) h0 hr hp' hokp hfresh hown1 hg' hat'
 rw [List.length_zipIdx] at this
 exact this
theorem wpListIn_append_S {F:Fence} {n:Nat} {P:Program} {ops:Array Oper} {rest:List Oper} {o:Oper} {a:Act} {Q:Exit→Act→World→Prop} {α:Type} (d:Kd α) {W:World} (base:Nat)
 (hgd:o.guard=none) (s x:Operand) (t e:TypeId) (z:Value) (bytes:Nat) (ho:o.op = .call { callee:=.builtin .append,args:=#[s,x],argTypes:=#[t,t] })
 (ht:P.underlying t=some (.slice e)) (hinfo:(P.info? e).map (fun i=>(i.zero,i.size,i.bytes))=some (some z,d.sz,bytes)) (hz:z.cells.size=d.sz) (hs0:0 < d.sz) (hb0:0 < bytes)
 (v:Value) (xs:List α) (p:α) (cs:List Value) (ok okp:Nat→Prop) (hs:a.eval s=v) (hx:a.eval x = .slice (some ⟨W.heap.size,0,none⟩) 1 1) (hp:d.M W base okp p cs) (hokp:∀ k,okp k→ok k∧some k≠v.ownBlock) (hfresh:∀ k,W.heap.size≤k→ok k)
 (HO:Kd.S d e W base (fun k=>ok k∧¬ okp k) v xs) (hbase:base≤W.heap.size) (hl:(xs.length+1)*bytes≤140737488355328)
 (h:∀ v1 w1,Kd.S d e w1 base ok v1 (xs++[p])→W.grownBy w1 v.ownBlock→wpListIn F n P ops Q rest (a.put o.dst v1) w1) :
 wpListIn F n P ops Q (o :: rest) a (W.alloc (.cells cs.toArray e)):=by
 refine wpListIn_plain hgd fun K hK'=>?_
 obtain ⟨v1,w1,hrun,h1,h2⟩:=run_append_S (P:=P) d base t o.type e z bytes ht hinfo hz hs0 hb0 v xs p cs ok okp hp hokp hfresh HO hbase hl
 unfold Oper.wpIn
 refine ⟨by simp [Oper.about,ho,resolve,Target.leads,Sem.run_pure],?_⟩
 rw [Oper.semAt_plain F _ _ (by rw [ho];intro c hc';cases hc')]
 simp [execOp,ho,resolve,invoke,builtin,hs,hx,hrun,Result.andThen]
 exact hK' _ _ (h v1 w1 h1 h2)
end Go.Proofs.Ytheoafenehckbaa.Ap
namespace Go.Proofs.Ytheoafenehckbaa.Base
section
variable {P:Program} {a:Act} {w:World} {Q:Exit→Act→World→Prop}
theorem jump_mono {l:Nat} {J J':Act→World→Prop} (h:∀ a w,J a w→J' a w):∀ e a w,Exit.jump l J Q e a w→Exit.jump l J' Q e a w:=by
 intro e a w hq
 cases e with
 | goto l'=>exact ⟨hq.1,h _ _ hq.2⟩
 | normal=>exact hq
 | exit id=>exact hq
 | ret=>exact hq
 | panic ch=>exact hq
 | outgrown=>exact hq
theorem wp_scope_loop {c rest:Code} (l:Nat) (J:Nat→Act→World→Prop) (hf:findLabel c l=some (.seq .skip rest))
 (pass:∀ n a w,J n a w→rest.wp P (Exit.jump l (fun a' w'=>∃ m,m < n∧J m a' w') Q) a w)
 (first:(∀ n a w,J n a w→rest.wp P (Exit.jump l (fun a' w'=>∃ m,J m a' w') Q) a w)→c.wp P (Exit.jump l (fun a' w'=>∃ m,J m a' w') Q) a w) :
 (Code.scope c).wp P Q a w:=by
 have hpass:∀ n a w,J n a w→rest.wp P (Exit.jump l (fun a' w'=>∃ m,J m a' w') Q) a w:=fun n a w h=>
  wp_mono (pass n a w h) (jump_mono fun _ _ ⟨m,_,hm⟩=>⟨m,hm⟩)
 intro b k cs
 have hg:gotoIn l (.inScope c :: k)=some (.code (.seq .skip rest) :: .inScope c :: k):=by simp [gotoIn,hf]
 have key:∀ n a w,J n a w→∃ e a' w',Q e a' w'∧Arrives P (lone (b.at a (.code (.seq .skip rest) :: .inScope c :: k)) cs w) b k cs e a' w':=by
  intro n
  induction n using Nat.strongRecOn with
  | _ n ih=>
   intro a w hJ
   obtain ⟨e,a₁,w₁,hq,harr⟩:=wp_seq (wp_skip (pass n a w hJ)) b (.inScope c :: k) cs
   cases e with
   | normal=>exact ⟨.normal,a₁,w₁,hq,Steps.trans harr (.one step_inScope)⟩
   | exit id=>exact ⟨.exit id,a₁,w₁,hq,fun k' hk=>harr k' (by simp [exitTo,hk])⟩
   | goto l'=>
    obtain ⟨rfl,m,hlt,hJ'⟩:=hq
    obtain ⟨e₂,a₂,w₂,hq₂,harr₂⟩:=ih m hlt a₁ w₁ hJ'
    exact ⟨e₂,a₂,w₂,hq₂,.of_steps (harr _ hg) harr₂⟩
   | ret=>exact ⟨_,a₁,w₁,hq,harr⟩
   | panic ch=>exact ⟨_,a₁,w₁,hq,harr⟩
   | outgrown=>exact ⟨_,a₁,w₁,hq,harr⟩
 obtain ⟨e,a₁,w₁,hq,harr⟩:=first hpass b (.inScope c :: k) cs
 cases e with
 | normal=>exact ⟨.normal,a₁,w₁,hq,.head step_scope (Steps.trans harr (.one step_inScope))⟩
 | exit id=>exact ⟨.exit id,a₁,w₁,hq,fun k' hk=>.head step_scope (harr k' (by simp [exitTo,hk]))⟩
 | goto l'=>
  obtain ⟨rfl,m,hJ'⟩:=hq
  obtain ⟨e₂,a₂,w₂,hq₂,harr₂⟩:=key m a₁ w₁ hJ'
  exact ⟨e₂,a₂,w₂,hq₂,.of_steps (.head step_scope (harr _ hg)) harr₂⟩
 | ret=>exact ⟨_,a₁,w₁,hq,.of_steps (.one step_scope) harr⟩
 | panic ch=>exact ⟨_,a₁,w₁,hq,.of_steps (.one step_scope) harr⟩
 | outgrown=>exact ⟨_,a₁,w₁,hq,.of_steps (.one step_scope) harr⟩
end
end Go.Proofs.Ytheoafenehckbaa.Base
namespace Go.Proofs.Ytheoafenehckbaa.Cl
open Go.RowKit YtheoafenehckbaaW.PrintWords YtheoafenehckbaaW.PrintLast YtheoafenehckbaaW.PrintMore
attribute [local go_sem] max2_int min2_int max_two min_two max_three min_three max_four min_four
set_option linter.unusedVariables false
set_option linter.unusedSimpArgs false
theorem info5:(Try.prog.info? 5).map (fun i=>(i.zero,i.size,i.bytes))=some (some (.int .u8 0),1,1):=by kernel_rfl
def bytes_Clone.f (l0:List Int):Option (List Int):=(some (([]:List Int):List Int)).bind fun y139=>(if y139.length+l0.length < 140737488355328 then (some (y139++l0)) else (none))
set_option maxHeartbeats 8000000 in
set_option maxRecDepth 100000 in
theorem bytes_Clone.calls (A0:Option Addr) (c0:Nat) (l0:List Int) (r:List Int) (w:World) (hr0:Kd.C (Kd.int .u8) w A0 l0.length l0) (hc0:l0.length≤c0) (h:bytes_Clone.f l0=some r) :
 Calls Try.prog 100 #[.slice A0 l0.length c0] w fun e w'=>∃ v0_:Value,e = .returned (v0_)∧Kd.R (Kd.int .u8) 5 w' w.heap.size (fun _=>True) v0_ r∧Below w.heap.size w w':=by
 have HR0:=mk0 hr0
 have HC0:=mk0 hc0
 clear hr0 hc0
 have HB:=mk0 (Below.refl w.heap.size w)
 have H:((some (([]:List Int):List Int)).bind fun y139=>(if y139.length+l0.length < 140737488355328 then (some (y139++l0)) else (none)))=some r:=h
 clear h
 obtain ⟨y139,hy139⟩:∃ y_:List Int,y_=(([]:List Int)):=⟨_,rfl⟩
 replace H:(if y139.length+l0.length < 140737488355328 then (some (y139++l0)) else (none))=some r:=by first|(rw [hy139];with_reducible exact H)|(have H2_:=(Option.bind_some _ _).symm.trans H;rw [hy139];with_reducible exact H2_)|(have H2_:=(Option.bind_some _ _).symm.trans H;with_reducible exact H2_)|with_reducible exact H|(rw [hy139];exact H)|exact H
 have Ny139:=mk0 hy139
 clear hy139
 by_cases c2:y139.length+l0.length < 140737488355328
 · rw [if_pos c2] at H
   have LMc2:=mk0 c2
   clear c2
   obtain ⟨y142,hy142⟩:∃ y_:List Int,y_=(y139++l0):=⟨_,rfl⟩
   replace H:(some y142)=some r:=by first|(rw [hy142];with_reducible exact H)|(have H2_:=(Option.bind_some _ _).symm.trans H;rw [hy142];with_reducible exact H2_)|(have H2_:=(Option.bind_some _ _).symm.trans H;with_reducible exact H2_)|with_reducible exact H|(rw [hy142];exact H)|exact H
   have Ny142:=mk0 hy142
   clear hy142
   obtain rfl:=Option.some.inj H
   cases A0 with
   | none=>
    have hz:l0=[]:=by
     rcases Nat.eq_zero_or_pos l0.length with h|h
     · exact List.length_eq_zero_iff.1 h
     · obtain ⟨ad,had,_⟩:=HR0.out.2.2 h
       exact absurd had (by simp)
    have hy:y142=[]:=by rw [Ny142.out,Ny139.out,hz];rfl
    rw [hy]
    go_enter Try.func100,Try.ntmps100
    go_wp2
    rw [show Sem.run Try.prog (binOp BinOp.eql 28 (.slice none 0 c0) (.slice none 0 0)) w = .ok (.bool true) w from rfl]
    go_wp2
    go_ret
    exact ⟨_,rfl,Kd.R_nil _ _ _ _ _,HB.out⟩
   | some ad=>
    go_enter Try.func100,Try.ntmps100
    go_wp2
    rw [show Sem.run Try.prog (binOp BinOp.eql 28 (.slice (some ad) l0.length c0) (.slice none 0 0)) w = .ok (.bool false) w from rfl]
    go_wp2_with (first|((with_reducible refine jk0 (N:=5) rfl ?_);refine Kd.R_lit (Kd.int .u8) _ 5 ?hg (N:=5) ?hd (xs:=([]:List Int)) (inner:=[]) (ok:=fun _=>True) (okp:=fun _=>True) ?hr ?hp (fun _ hk=>hk) trivial (Below.refl _ _) (Nat.le_refl _) (by simp) ?_;(case hd=>rfl);(case hg=>rfl);(case hr=>first|(go_simp;done)|(go_simp;rfl));(case hp=>exact (Reps.none _ _));intro v140 w3 ho4 hb hg_ hnew_;clear hg_ hnew_;(first|rw [← Ny139.out] at ho4|(simp only [Int.reduceToNat] at ho4;rw [← Ny139.out] at ho4));have n0_:=mk0 (Kd.R_lower ho4 (below_size (by repeat (first|(with_reducible first|exact HB.out|apply jj6|apply jj4|apply jj2)|exact HB.out))));have n1_:=mk0 (below_step (by repeat (first|(with_reducible first|exact HB.out|apply jj6|apply jj4|apply jj2)|exact HB.out)) hb);clear HB;have HO141:=n0_;have HB:=n1_;clear n0_ n1_;clear hb ho4)|((with_reducible refine jk9 (b:=.append) (xs:=#[.tmp 5,.tmp 6]) rfl ?_);at_builtin;refine Kd.R_append_rows (Kd.int .u8) (w0:=w) w.heap.size rfl (.tmp 5) (.tmp 6) 28 5 (.int .u8 0) 1 rfl Try.underlying28 info5 rfl (by decide) (by omega) v140 y139 l0 _ _ _ (fun _=>True) (fun _=>False) rfl rfl ?aO ?aR (fun _ _ h=>h) (fun _ h=>h.elim) ?aF ?aB ?aS ?aL ?_;(case aR=>repeat (first|exact (Kd.jj0 HR0.out HB.out)|(with_reducible refine Kd.C_alloc ?_ _)|(with_reducible refine Kd.C_drewN ?_ _)|(with_reducible refine Kd.C_drew ?_)));(case aB=>exact (by repeat (first|(with_reducible first|exact HB.out|apply jj6|apply jj4|apply jj2)|exact HB.out)));(case aF=>exact (fun _ _=>trivial));(case aO=>exact (by (with_reducible repeat (first|apply Kd.R_alloc|apply Kd.R_drewN|apply Kd.R_drew));exact HO141.out));(case aS=>exact (below_size (by repeat (first|(with_reducible first|exact HB.out|apply jj6|apply jj4|apply jj2)|exact HB.out))));(case aL=>have:=LMc2.out;omega);intro v143 w5 ho hb hg hat;rw [← Ny142.out] at ho;have n0_:=mk0 (hb);have n1_:=mk0 (ho);clear HB;clear HO141;have HB:=n0_;have HO144:=n1_;clear n0_ n1_;clear ho hb hg hat))
    go_ret
    exact ⟨_,by first|rfl|(simp [errW_none,errW_some] <;> rfl)|(simp [*,errW_none,errW_some] <;> rfl),by (with_reducible repeat (first|apply Kd.R_alloc|apply Kd.R_drewN|apply Kd.R_drew));exact HO144.out,by repeat (first|(with_reducible first|exact HB.out|apply jj6|apply jj4|apply jj2)|exact HB.out)⟩
 · rw [if_neg c2] at H
   exact absurd H (by simp)
end Go.Proofs.Ytheoafenehckbaa.Cl
namespace Go.Proofs.Ytheoafenehckbaa.Pt
open Go.RowKit YtheoafenehckbaaW.PrintWords YtheoafenehckbaaW.PrintLast YtheoafenehckbaaW.PrintMore
attribute [local go_sem] max2_int min2_int max_two min_two max_three min_three max_four min_four
set_option linter.unusedVariables false
set_option linter.unusedSimpArgs false
theorem info5:(Try.prog.info? 5).map (fun i=>(i.zero,i.size,i.bytes))=some (some (.int .u8 0),1,1):=by kernel_rfl
def varint_Put.l0:Nat→Int→List Int→Option (List Int)
 | 0,_,_=>none
 | k+1,x0,x3=>if x3.length < 140737488355328 then (if x0 < 128 then some (x3++[x0 % 256]) else varint_Put.l0 k (x0 / 128) (x3++[Go.bits .or .u8 (x0 % 256) 128])) else none
def varint_Put.f (k:Nat) (a0:Int):Option (List Int):=varint_Put.l0 k a0 ([]:List Int)
set_option maxHeartbeats 8000000 in
set_option maxRecDepth 100000 in
theorem varint_Put.calls (k:Nat) (a0:Int) (r:List Int) (w:World) (h:varint_Put.f k a0=some r) :
 Calls Try.prog 89 #[.int .u64 a0] w fun e w'=>∃ v0_:Value,e = .returned (v0_)∧Kd.R (Kd.int .u8) 5 w' w.heap.size (fun _=>True) v0_ r∧Below w.heap.size w w':=by
 have H':=mk0 h
 clear h
 go_enter Try.func89,Try.ntmps89
 go_wp2
 refine Base.wp_scope_loop 0 (fun n a' w'=>∃ (x0:Int) (x3:List Int) (v3 u1 u2 u4 u5 u6 u7 u8 u9 u10 u11 u12 u13 u14 u15 u16 u17 u18:Value),a'={ tmps:=#[.int .u64 x0,u1,u2,v3,u4,u5,u6,u7,u8,u9,u10,u11,u12,u13,u14,u15,u16,u17,u18],defers:=[] }∧Aside0 (varint_Put.l0 n x0 x3=some r)∧Aside0 (Kd.R (Kd.int .u8) 5 w' w.heap.size (fun _=>True) v3 x3)∧Aside0 (Below w.heap.size w w')) rfl ?pass ?first
 case first=>
  intro hpass
  go_wp2
  go_step3
  rename_i K hK
  exact hK _ _ (hpass k _ _ ⟨a0,[],.slice none 0 0,_,_,_,_,_,_,_,_,_,_,_,_,_,_,_,_,_,rfl,H',⟨Kd.R_nil _ _ _ _ _⟩,⟨Below.refl _ _⟩⟩)
 case pass=>
  rintro n a' w' ⟨x0,x3,v3,u1,u2,u4,u5,u6,u7,u8,u9,u10,u11,u12,u13,u14,u15,u16,u17,u18,rfl,HA,HO,HB⟩
  cases n with
  | zero=>exact absurd HA.out (by simp [varint_Put.l0])
  | succ k1=>
   have H:=HA.out
   clear HA
   simp only [varint_Put.l0] at H
   by_cases c3:x3.length < 140737488355328
   · rw [if_pos c3] at H
     have LMc3:=mk0 c3
     clear c3
     by_cases c2:x0 < 128
     · rw [if_pos c2] at H
       have c2b0:decide (x0 < 128)=true:=decide_eq_true c2
       clear c2
       obtain ⟨y101,hy101⟩:∃ y_:List Int,y_=(x3++[(x0) % 256]):=⟨_,rfl⟩
       replace H:(some y101)=some r:=by rw [hy101];exact H
       have Ny101:=mk0 hy101
       clear hy101
       obtain rfl:=Option.some.inj H
       clear H
       go_wp2_with (first|((with_reducible refine jk9 (b:=.append) (xs:=#[.tmp 6,.tmp 9]) rfl ?_);at_builtin;refine Kd.R_append (Kd.int .u8) (w0:=w) w.heap.size rfl (.tmp 6) (.tmp 9) 28 5 (.int .u8 0) 1 rfl Try.underlying28 info5 rfl (by decide) (by omega) v3 x3 ((x0) % 256) [.int .u8 ((x0) % 256)] (fun _=>True) (fun _=>False) rfl rfl ?aP (fun _ hk=>hk.elim) ?aF ?aO ?aB ?aS ?aL ?_;(case aP=>exact rfl);(case aB=>exact (by repeat (first|(with_reducible first|exact HB.out|apply jj6|apply jj4|apply jj2)|exact HB.out)));(case aF=>exact (fun _ _=>trivial));(case aO=>exact (by (with_reducible repeat (first|apply Kd.R_alloc|apply Kd.R_drewN|apply Kd.R_drew));exact HO.out));(case aS=>exact (below_size (by repeat (first|(with_reducible first|exact HB.out|apply jj6|apply jj4|apply jj2)|exact HB.out))));(case aL=>have:=LMc3.out;omega);intro v105 w6 ho hb hg hat;rw [← Ny101.out] at ho;have n0_:=mk0 (hb);have n1_:=mk0 (ho);clear HB;clear HO;have HB:=n0_;have HO106:=n1_;clear n0_ n1_;clear ho hb hg hat))
       simp only [Exit.jump]
       go_ret
       exact ⟨_,rfl,HO106.out,HB.out⟩
     · rw [if_neg c2] at H
       have c2b0:decide (x0 < 128)=false:=decide_eq_false c2
       clear c2
       obtain ⟨y101,hy101⟩:∃ y_:List Int,y_=(x3++[Go.bits .or .u8 (x0 % 256) 128]):=⟨_,rfl⟩
       replace H:varint_Put.l0 k1 (x0 / 128) y101=some r:=by rw [hy101];exact H
       have Ny101:=mk0 hy101
       clear hy101
       have H2:=mk0 H
       clear H
       go_wp2_with (first|((with_reducible refine jk9 (b:=.append) (xs:=#[.tmp 11,.tmp 15]) rfl ?_);at_builtin;refine Kd.R_append (Kd.int .u8) (w0:=w) w.heap.size rfl (.tmp 11) (.tmp 15) 28 5 (.int .u8 0) 1 rfl Try.underlying28 info5 rfl (by decide) (by omega) v3 x3 (Go.bits .or .u8 (x0 % 256) 128) [.int .u8 (Go.bits .or .u8 (x0 % 256) 128)] (fun _=>True) (fun _=>False) rfl rfl ?aP (fun _ hk=>hk.elim) ?aF ?aO ?aB ?aS ?aL ?_;(case aP=>exact rfl);(case aB=>exact (by repeat (first|(with_reducible first|exact HB.out|apply jj6|apply jj4|apply jj2)|exact HB.out)));(case aF=>exact (fun _ _=>trivial));(case aO=>exact (by (with_reducible repeat (first|apply Kd.R_alloc|apply Kd.R_drewN|apply Kd.R_drew));exact HO.out));(case aS=>exact (below_size (by repeat (first|(with_reducible first|exact HB.out|apply jj6|apply jj4|apply jj2)|exact HB.out))));(case aL=>have:=LMc3.out;omega);intro v105 w6 ho hb hg hat;rw [← Ny101.out] at ho;have n0_:=mk0 (hb);have n1_:=mk0 (ho);clear HB;clear HO;have HB:=n0_;have HO106:=n1_;clear n0_ n1_;clear ho hb hg hat))
       go_step3
       exact ⟨rfl,k1,Nat.lt_succ_self _,x0 / 128,y101,v105,_,_,_,_,_,_,_,_,_,_,_,_,_,_,_,_,_,rfl,H2,HO106,HB⟩
   · rw [if_neg c3] at H
     exact absurd H (by simp)
end Go.Proofs.Ytheoafenehckbaa.Pt
namespace Go.Proofs.Ytheoafenehckbaa.Rf
open Go Go.RowKit
def rpost {σ:Type} (I Ix:σ→World→Prop) (s:σ) (W:World):Exit→Act→World→Prop
 | .normal,_,W'=>KeepsOthers W W'∧I s W'
 | .ret,_,W'=>KeepsOthers W W'∧Ix s W'
 | .exit _,_,_=>False
 | .goto _,_,_=>False
 | .panic _,_,_=>False
 | .outgrown,_,_=>False
def Rounds {σ α:Type} (F:Fence) (n:Nat) (P:Program) (l:Nat) (encs:α→Array Value) (I Ix:σ→World→Prop) (B:σ→α→World→Prop) (nx:σ→α→σ) (J Jx:σ→World→Prop):Prop:=
 (∀ s W,J s W→I s W)∧(∀ s W W',J s W→KeepsOthers W W'→I s W'→J s W')∧(∀ s W W',Jx s W→KeepsOthers W W'→(Ix s W→Ix s W')→Jx s W')∧
 (∀ s x W W',J s W→KeepsOthers W W'→B s x W'→YieldAt F n P l (encs x) W' fun e W2=>(e = .returned (.bool true)∧J (nx s x) W2)∨(e = .returned (.bool false)∧Jx (nx s x) W2))
variable {F:Fence} {n:Nat} {P:Program}
theorem range_writes {σ α:Type} {g:Operand} {ps:Array Tmp} {assign body:Code} {Q:Exit→Act→World→Prop} {a:Act} {w:World}
 (hro:F.round=none) (h1:1≤n) {gf:Nat} {lb:Array Value} (hg:a.eval g = .func (.func gf) #[] lb) (hFg:F.fn gf) (eg:∀ args w,(callFunc gf args).run P w = .ok (.enter gf args) w)
 (encs:α→Array Value) (hps:∀ x,(encs x).size=ps.size)
 (I Ix:σ→World→Prop) (B:σ→α→World→Prop) (A:σ→α→Act→World→Prop) (S:σ→Prop) (nx:σ→α→σ)
 (hI:OwnFrom w.heap.size I) (hIx:OwnFrom w.heap.size Ix) (hA:∀ x a₁,OwnFrom w.heap.size (fun s W=>A s x a₁ W)) (s0:σ) (h0:I s0 w)
 (hassign:∀ l s x W,B s x W→assign.wpIn (F.inRound l) (n - 1 - 1) P (Exit.then (fun a₁ W1=>KeepsOthers W W1∧A s x a₁ W1) (fun _ _ _=>False))
  { tmps:=(ps.zip (encs x)).foldl (fun t (p,v)=>t.setIfInBounds p v) a.tmps,defers:=[] } W)
 (hbody:∀ l s x a₁ W,A s x a₁ W→body.wpIn (F.inRound l) (n - 1 - 1) P (rpost I Ix (nx s x) W) a₁ W)
 (hiter:∀ (l:Nat) (J Jx:σ→World→Prop) (W1:World),Below w.heap.size w W1→Rounds F (n - 1 - 1) P l encs I Ix B nx J Jx→J s0 W1→
  CallsIn F (n - 1) P gf (#[.func (.yield l) #[] #[]]++lb) W1 fun e W'=>(∃ v,e = .returned v)∧((∃ s,S s∧J s W')∨(∃ s,Jx s W')))
 (hdone:∀ D s W,w.heap.size≤D→S s→I s W→W.heap[D]?=some (.deferred (some []))→Q .normal { a with defers:={ target:=.collected D,args:=#[] } :: a.defers } W)
 (hstop:∀ D s W,w.heap.size≤D→Ix s W→W.heap[D]?=some (.deferred (some []))→Code.ret.wpIn F n P Q { a with defers:={ target:=.collected D,args:=#[] } :: a.defers } W) :
 (Code.rangeFunc g ps assign body).wpIn F n P Q a w:=by
 refine wpIn_rangeFunc fun fn hfn=>?_
 rw [hro]
 let rec0:LoopState→Option Code→Loop:=fun st pe=>{ state:=st,pending:=pe,fn:=fn,tmps:=a.tmps,params:=ps,assign:=assign,body:=body,defers:=w.heap.size }
 have henter:=run_enterLoop_outer (P:=P) (w:=w) fn a.tmps ps assign body
 generalize hW1:(w.alloc (.deferred (some []))).alloc (.loop { state:=.ready,pending:=none,fn,tmps:=a.tmps,params:=ps,assign,body,defers:=w.heap.size })=W1 at henter
 have hD1:W1.heap[w.heap.size]?=some (.deferred (some [])):=by
  rw [← hW1];exact (Below.heap_alloc _ _ _ (by simp)).trans (World.alloc_heap_new w _)
 have hL1:W1.heap[w.heap.size+1]?=some (.loop (rec0 .ready none)):=by
  rw [← hW1]
  have h:=World.alloc_heap_new (w.alloc (.deferred (some []))) (.loop (rec0 .ready none))
  rwa [World.size_alloc] at h
 have hB1:Below w.heap.size w W1:=by
  rw [← hW1];exact ((Below.refl _ w).alloc (Nat.le_refl _) _).alloc (by simp) _
 have hi1:I s0 W1:=by rw [← hW1];exact hI.alloc _ (hI.alloc _ h0)
 have hgr:∀ (W:World) (o':Obj) (s:σ) {T:σ→World→Prop},OwnFrom w.heap.size T→T s W→(∃ o,W.heap[w.heap.size+1]?=some (.loop o))→T s (W.putObj (w.heap.size+1) o'):=by
  rintro W o' s T hT h ⟨o,ho⟩
  exact hT.putObj o' h (by omega) ho rfl
 have hD2:∀ (W:World) (o':Obj),W.heap[w.heap.size]?=some (.deferred (some []))→(W.putObj (w.heap.size+1) o').heap[w.heap.size]?=some (.deferred (some [])):=fun W o' h=>(World.putObj_heap_other (by omega)).trans h
 refine ⟨w.heap.size+1,[{ target:=.collected w.heap.size,args:=#[] }],W1,{ target:=.fn (.func gf) lb,args:=#[.func (.yield (w.heap.size+1)) #[] #[]] },W1,gf,#[.func (.yield (w.heap.size+1)) #[] #[]]++lb,W1,henter,?_,?_,?_,fun _=>h1,?_⟩
 · simp only [resolve,hg]
   simp [go_sem]
 · intro f' hf'
   simp [Target.leads] at hf'
   subst hf'
   exact hFg
 · simp [invoke,go_sem,eg]
 · refine (hiter (w.heap.size+1)
    (fun s W=>I s W∧W.heap[w.heap.size+1]?=some (.loop (rec0 .ready none))∧W.heap[w.heap.size]?=some (.deferred (some [])))
    (fun s W=>Ix s W∧W.heap[w.heap.size+1]?=some (.loop (rec0 .done (some .ret)))∧W.heap[w.heap.size]?=some (.deferred (some [])))
    W1 hB1 ⟨fun s W h=>h.1,fun s W W' h hk hi=>⟨hi,hk.same _ _ h.2.1 rfl,hk.same _ _ h.2.2 rfl⟩,fun s W W' h hk hi=>⟨hi h.1,hk.same _ _ h.2.1 rfl,hk.same _ _ h.2.2 rfl⟩,?_⟩ ⟨hi1,hL1,hD1⟩).mono ?_
   · rintro s x W W' ⟨-,hl0,hd0⟩ hk hb
     have hl:=hk.same _ _ hl0 rfl
     have hd:=hk.same _ _ hd0 rfl
     refine ⟨fn,_,assign,body,run_yield (P:=P) (args:=encs x) hl (hps x),roundIn_of_wpIn hfn (wpIn_mono (hassign _ s x W' hb) ?_)⟩
     intro e a₁ W2 h
     cases e with
     | normal=>
      obtain ⟨hk2,ha2⟩:=h
      have hl2:=hk2.same _ _ hl rfl
      have hd2:=hk2.same _ _ hd rfl
      refine ⟨_,run_beginRound hl2 rfl,wpIn_mono (hbody _ s x a₁ _ (hgr _ _ s (hA x a₁) ha2 ⟨_,hl2⟩)) ?_⟩
      have hl3:(W2.putObj (w.heap.size+1) (.loop { rec0 .ready none with state:=.busy })).heap[w.heap.size+1]?=some (.loop { rec0 .ready none with state:=.busy }):=World.putObj_heap_same (Array.getElem?_eq_some_iff.1 hl2).1
      have hd3:=hD2 W2 (.loop { rec0 .ready none with state:=.busy }) hd2
      intro e a3 W3 h
      cases e with
      | normal=>
       obtain ⟨hk3,hi3⟩:=h
       have hl4:=hk3.same _ _ hl3 rfl
       exact ⟨_,_,run_endRound none hl4,.inl ⟨rfl,hgr _ _ _ hI hi3 ⟨_,hl4⟩,World.putObj_heap_same (Array.getElem?_eq_some_iff.1 hl4).1,hD2 _ _ (hk3.same _ _ hd3 rfl)⟩⟩
      | ret=>
       obtain ⟨hk3,hi3⟩:=h
       have hl4:=hk3.same _ _ hl3 rfl
       exact ⟨_,_,run_endRound (some .ret) hl4,.inr ⟨rfl,hgr _ _ _ hIx hi3 ⟨_,hl4⟩,World.putObj_heap_same (Array.getElem?_eq_some_iff.1 hl4).1,hD2 _ _ (hk3.same _ _ hd3 rfl)⟩⟩
      | exit id=>exact h.elim
      | goto t=>exact h.elim
      | panic ch=>exact h.elim
      | outgrown=>exact h.elim
     | ret=>exact h.elim
     | exit id=>exact h.elim
     | goto t=>exact h.elim
     | panic ch=>exact h.elim
     | outgrown=>exact h.elim
   · rintro e W2 ⟨⟨v,rfl⟩,(⟨s,hS,hi,hl,hd⟩|⟨s,hi,hl,hd⟩)⟩
     · exact ⟨none,_,run_endLoop (P:=P) hl (by simp [rec0]),hdone _ s _ (Nat.le_refl _) hS (hgr _ _ s hI hi ⟨_,hl⟩) (hD2 _ _ hd)⟩
     · exact ⟨some .ret,_,run_endLoop (P:=P) hl (by simp [rec0]),hstop _ s _ (Nat.le_refl _) (hgr _ _ s hIx hi ⟨_,hl⟩) (hD2 _ _ hd)⟩
end Go.Proofs.Ytheoafenehckbaa.Rf
namespace Go.Proofs.Ytheoafenehckbaa.Fl
open Go.RowKit YtheoafenehckbaaW.PrintWords YtheoafenehckbaaW.PrintLast YtheoafenehckbaaW.PrintMore
attribute [local go_sem] max2_int min2_int max_two min_two max_three min_three max_four min_four
set_option linter.unusedVariables false
set_option linter.unusedSimpArgs false
open Rf Ap
attribute [local go_sem] Oper.semAt_some
open Go.Shelf
namespace In
theorem info_byte:(Try.prog.info? 5).map (fun i=>(i.zero,i.size,i.bytes))=some (some (.int .u8 0),1,1):=by kernel_rfl
theorem wpIn_loop_ghost {F:Fence} {n:Nat} {P:Program} {Q:Exit→Act→World→Prop} {a:Act} {w:World} {c:Code} (I:Nat→Act→World→Prop) (m:Nat) (h0:I m a w)
 (zero:∀ a w,¬ I 0 a w) (round:∀ m a w,I (m+1) a w→c.wpIn F n P (Exit.then (I m) Q) a w):(Code.loop c).wpIn F n P Q a w:=by
 have key:∀ m a w,I m a w→Code.roundsIn F n P c Q m a w:=by
  intro m
  induction m with
  | zero=>intro a w h;exact (zero a w h).elim
  | succ m ih=>
   intro a w h
   refine wpIn_mono (round m a w h) ?_
   intro e a' w' hq
   cases e with
   | normal=>exact ih a' w' hq
   | _=>exact hq
 exact wpIn_loop_rounds m (key m a w h0)
structure Y where
 at_:Int
 num:Int
 kind:Int
 n:Int
 v:Value
 b:List Int
 m:Int
 bad:Int
structure St (β:Type) where
 acc:List β
 at_:Int
 bad:Int
def encs (x:Y):Array Value:=#[.int .i64 x.at_,.agg #[.int .i64 x.num,.int .i64 x.kind,.int .u64 x.n,x.v]]
section
variable {β:Type} (mk:Int→Int→Int→List Int→β)
def nx (s:St β) (x:Y):St β:=if x.bad=0 then ⟨s.acc++[mk x.num x.kind x.n x.b],wrap64 (s.at_+x.m),0⟩ else ⟨s.acc,s.at_,x.bad⟩
def rdl (tf:Nat→List Int→Option (Int × Int × Int × List Int × Int × Int)) (l:List Int):Nat→List β→Int→Option (List β × Int × Int)
 | 0,_,_=>none
 | k+1,acc,i=>if i < (l.length:Int) then (if 0≤i then (tf k (l.drop i.toNat)).bind fun r=>if r.2.2.2.2.2=0 then (if acc.length < 2932031007402 then rdl tf l k (acc++[mk r.1 r.2.1 r.2.2.1 r.2.2.2.1]) (wrap64 (i+r.2.2.2.2.1)) else none) else some ([],i,r.2.2.2.2.2) else none) else some (acc,0,0)
end
def box (W:World) (g t:Nat) (v:Value):Prop:=W.heap[g]?=some (.cells #[v] t (0,0))
section
variable {β:Type} (mk:Int→Int→Int→List Int→β) (kd:Kd β) (A0:Option Addr) (c0:Nat) (l0:List Int) (w:World) (r1:List β) (r2 r3:Int)
def Boxes (v:Value) (e:Int) (W:World):Prop:=
 (box W w.heap.size 125 (.slice none 0 0)∧box W (w.heap.size+1) 3 (.int .i64 0)∧box W (w.heap.size+2) 37 (.int .i64 0))∧box W (w.heap.size+3) 125 v∧box W (w.heap.size+4) 37 (.int .i64 e)∧
  box W (w.heap.size+5) 28 (.slice A0 l0.length c0)∧box W (w.heap.size+6) 140 (.pointer (some ⟨w.heap.size+4,0,none⟩))∧Below w.heap.size w W∧w.heap.size+7≤W.heap.size
def I (s:St β) (W:World):Prop:=s.bad=0∧∃ v,Boxes A0 c0 l0 w v 0 W∧Kd.S kd 97 W (w.heap.size+7) (fun _=>True) v s.acc
def B (s:St β) (x:Y) (W:World):Prop:=(x.at_=s.at_∧(x.bad=0→s.acc.length < 2932031007402)∧(x.bad≠0→r1=[]∧r2=s.at_∧r3=x.bad))∧
 ∃ v,Boxes A0 c0 l0 w v x.bad W∧Kd.S kd 97 W (w.heap.size+7) (fun k=>some k≠x.v.ownBlock) v s.acc∧(Kd.int .u8).R 5 W (w.heap.size+7) (fun _=>True) x.v x.b
def Ix (s:St β) (W:World):Prop:=(r1=[]∧r2=s.at_∧r3=s.bad)∧box W w.heap.size 125 (.slice none 0 0)∧box W (w.heap.size+1) 3 (.int .i64 s.at_)∧box W (w.heap.size+2) 37 (.int .i64 s.bad)∧Below w.heap.size w W
theorem box_cell {W:World} {g t:Nat} {v:Value} (h:box W g t v):W.cell? ⟨g,0,none⟩=some v:=(blk_cell h 0).trans rfl
theorem box_frozen {W:World} {g t:Nat} {v:Value} (h:box W g t v):W.frozen? ⟨g,0,none⟩=false:=jj5 h 0
theorem box_below {W W':World} {g t:Nat} {v:Value} {n:Nat} (h:box W g t v) (hb:Below n W W') (hg:g < n):box W' g t v:=(hb.block g hg).trans h
theorem box_alloc {W:World} {g t:Nat} {v:Value} (o:Obj) (h:box W g t v):box (W.alloc o) g t v:=(Below.heap_alloc W o g (Array.getElem?_eq_some_iff.1 h).1).trans h
theorem box_set2 {W:World} {g t:Nat} {v:Value} (h:box W g t v) (p:Addr) (u:Value) (hne:g≠p.block):box (W.setCell p u) g t v:=(Below.heap_setCell W p u g hne).trans h
theorem box_drew {W:World} {g t:Nat} {v:Value} (h:box W g t v):box W.drew g t v:=h
theorem box_put {W:World} {g t:Nat} {u v:Value} (h:box W g t u):box (W.setCell ⟨g,0,none⟩ v) g t v:=blk_put (cs:=#[u]) h 0 _ rfl
def has (W:World) (g t:Nat):Prop:=∃ v,box W g t v
theorem has_box {W:World} {g t:Nat} {v:Value} (h:box W g t v):has W g t:=⟨v,h⟩
theorem box_hit {W:World} {g t:Nat} {v:Value} (h:has W g t):box (W.setCell ⟨g,0,none⟩ v) g t v:=by
 obtain ⟨u,h⟩:=h
 exact box_put h
theorem has_set {W:World} {g t:Nat} (h:has W g t) (p:Addr) (u:Value) (hne:g≠p.block):has (W.setCell p u) g t:=by
 obtain ⟨v,h⟩:=h
 exact ⟨v,box_set2 h p u hne⟩
theorem box_obj {W:World} {g t:Nat} {v:Value} (D:Nat) (o:Obj) (h:box W g t v) (hne:g≠D):box (W.putObj D o) g t v:=(World.putObj_heap_other hne).trans h
theorem results_three {P:Program} {fn:Func} {p p' p2:Tmp} {ty ty' ty2:TypeId} (h:fn.results=#[.cell p ty,.cell p' ty',.cell p2 ty2]) (tmps:Array Value) (w:World) (g g' g2:Nat) (t t' t2:TypeId) (v v' v2:Value)
 (hp:tmps.getD p undef = .pointer (some ⟨g,0,none⟩)) (hg:box w g t v) (hp':tmps.getD p' undef = .pointer (some ⟨g',0,none⟩)) (hg':box w g' t' v') (hp2:tmps.getD p2 undef = .pointer (some ⟨g2,0,none⟩)) (hg2:box w g2 t2 v2)
 (hu:∀ x∈[ty,ty',ty2],∃ d,P.underlying x=some d∧(match d with | .struct _ | .array _ _=>false|_=>true)=true) :
 (results fn tmps).run P w = .ok (.tuple #[v,v',v2]) w:=by
 have h1:tmps[p]?.getD undef = .pointer (some ⟨g,0,none⟩):=by simpa using hp
 have h2:tmps[p']?.getD undef = .pointer (some ⟨g',0,none⟩):=by simpa using hp'
 have h3:tmps[p2]?.getD undef = .pointer (some ⟨g2,0,none⟩):=by simpa using hp2
 have c1:=box_cell hg
 have c2:=box_cell hg'
 have c3:=box_cell hg2
 obtain ⟨d,u1,k1⟩:=hu ty (by simp)
 obtain ⟨d',u2,k2⟩:=hu ty' (by simp)
 obtain ⟨d2,u3,k3⟩:=hu ty2 (by simp)
 have l1:∀ {x:TypeId} {g0:Nat} {d0:TypeDesc} {v0:Value},P.underlying x=some d0→(match d0 with | .struct _ | .array _ _=>false|_=>true)=true→w.cell? ⟨g0,0,none⟩=some v0→(loadVar x ⟨g0,0,none⟩).run P w = .ok v0 w:=by
  intro x g0 d0 v0 hu0 hk0 hc0
  have hagg:(isAgg x).run P w = .ok false w:=by
   unfold isAgg
   rw [Sem.run_bind,run_underlying hu0 w]
   cases d0 <;> simp_all
  simp [loadVar,Sem.run_bind,hagg,go_sem,hc0]
 simp [results,h,h1,h2,h3,asAddr,l1 u1 k1 c1,l1 u2 k2 c2,l1 u3 k3 c3,Result.andThen]
theorem iter_in (n:Nat) (tf:Nat→List Int→Option (Int × Int × Int × List Int × Int × Int))
 (hT:∀ k A c l a1 a2 a3 a4 a5 a6 W,Kd.C (Kd.int .u8) W A l.length l→l.length≤c→tf k l=some (a1,a2,a3,a4,a5,a6)→Calls Try.prog 97 #[.slice A l.length c] W fun e w'=>∃ v3_:Value,e = .returned (.tuple #[.agg #[.int .i64 a1,.int .i64 a2,.int .u64 a3,v3_],.int .i64 a5,.int .i64 a6])∧Kd.R (Kd.int .u8) 5 w' W.heap.size (fun _=>True) v3_ a4∧Below W.heap.size W w')
 (hr0:Kd.C (Kd.int .u8) w A0 l0.length l0) (hc0:l0.length≤c0) (K:Nat) (l:Nat) (J Jx:St β→World→Prop) (W1:World)
 (hR:Rounds Fence.wide n Try.prog l encs (I kd A0 c0 l0 w) (Ix w r1 r2 r3) (B kd A0 c0 l0 w r1 r2 r3) (nx mk) J Jx) (h0:J ⟨[],0,0⟩ W1) (hk:rdl mk tf l0 K [] 0=some (r1,r2,r3)) :
 CallsIn Fence.wide (n+1) Try.prog 96 #[.func (.yield l) #[] #[],.pointer (some ⟨w.heap.size+5,0,none⟩),.pointer (some ⟨w.heap.size+6,0,none⟩)] W1 fun e W'=>
  (∃ v,e = .returned v)∧((∃ s,(r1=s.acc∧r2=0∧r3=0)∧J s W')∨(∃ s,Jx s W')):=by
 obtain ⟨hJI,hJJ,hJxx,hY⟩:=hR
 refine callsIn_of_wp Try.func96 rfl trivial ?_ rfl
 simp only [Try.ntmps96,List.size_toArray,List.length_cons,List.length_nil,Nat.reduceAdd,Nat.reduceSub,Array.replicate_succ,Array.replicate_zero,List.push_toArray,List.append_toArray,List.nil_append,List.cons_append]
 gi_wp2
 refine wpIn_loop_ghost (fun m a' w'=>∃ (s:St β) (u5 u6 u7 u8 u9 u10 u11 u12 u13 u14 u15 u16 u17 u18 u19 u20 u21 u22 u23 u24 u25 u26 u27 u28 u29 u30 u31 u32 u33 u34:Value),a'={ tmps:=#[.func (.yield l) #[] #[],.pointer (some ⟨w.heap.size+5,0,none⟩),.pointer (some ⟨w.heap.size+6,0,none⟩),undef,.int .i64 s.at_,u5,u6,u7,u8,u9,u10,u11,u12,u13,u14,u15,u16,u17,u18,u19,u20,u21,u22,u23,u24,u25,u26,u27,u28,u29,u30,u31,u32,u33,u34],defers:=[] }∧J s w'∧rdl mk tf l0 m s.acc s.at_=some (r1,r2,r3)) K ⟨⟨[],0,0⟩,_,_,_,_,_,_,_,_,_,_,_,_,_,_,_,_,_,_,_,_,_,_,_,_,_,_,_,_,_,_,rfl,h0,hk⟩ ?zero ?round
 case zero=>
  rintro a w' ⟨s,u5,u6,u7,u8,u9,u10,u11,u12,u13,u14,u15,u16,u17,u18,u19,u20,u21,u22,u23,u24,u25,u26,u27,u28,u29,u30,u31,u32,u33,u34,-,-,h⟩
  simp [rdl] at h
 case round=>
  rintro m a w2 ⟨s,u5,u6,u7,u8,u9,u10,u11,u12,u13,u14,u15,u16,u17,u18,u19,u20,u21,u22,u23,u24,u25,u26,u27,u28,u29,u30,u31,u32,u33,u34,rfl,hJ,hk⟩
  obtain ⟨hbad,v,⟨⟨b0,b1,b2⟩,b3,b4,b5,b6,hB,hsz⟩,hS⟩:=hJI _ _ hJ
  have c5:=box_cell b5
  have c6:=box_cell b6
  simp only [rdl] at hk
  by_cases k1:s.at_ < (l0.length:Int)
  · rw [if_pos k1] at hk
    by_cases k2:0≤s.at_
    · rw [if_pos k2] at hk
      obtain ⟨⟨a1,a2,a3,a4,a5,a6⟩,htf,hk⟩:=Option.bind_eq_some_iff.mp hk
      have d1:decide (s.at_ < (l0.length:Int))=true:=decide_eq_true k1
      obtain ⟨i0,hi,_,hsi,_⟩:=info_parts info_byte
      obtain ⟨A8,hcut,hA8,hC8⟩:=print_drop_of (P:=Try.prog) (Value.int .u8) 0 28 5 .i64 Try.underlying28 hi hsi A0 c0 l0 s.at_ k2 (by omega) hc0
      have HR:=Kd.C_of_reads (h1:=fun _=>rfl) (hA8 _ (Kd.reads_of_C (Kd.jj0 hr0 hB)))
      have hcall:=callsIn_wide (n:=n) |>.2 (hT m A8 (c0 - s.at_.toNat) (l0.drop s.at_.toNat) a1 a2 a3 a4 a5 a6 w2 HR hC8 htf)
      rw [List.length_drop] at hcall
      gi_wp2
      refine ⟨trivial,?_⟩
      refine hcall.mono ?_
      rintro e w3 ⟨v3,rfl,hR3,hb3⟩
      obtain ⟨Av,cv,ev⟩:=Kd.jk4 hR3
      subst ev
      have hs3:w2.heap.size≤w3.heap.size:=hb3.size
      have e6:=box_alloc (.cells #[.int .i64 a1,.int .i64 a2,.int .u64 a3,.slice Av a4.length cv] 97) (box_below b6 hb3 (by omega))
      have e4:=box_alloc (.cells #[.int .i64 a1,.int .i64 a2,.int .u64 a3,.slice Av a4.length cv] 97) (box_below b4 hb3 (by omega))
      have q6:=box_cell e6
      have q4:=box_cell e4
      have g4:=box_frozen e4
      have hne:w3.heap.size≠w.heap.size+4:=by omega
      gi_wp2
      have hB3:Below w.heap.size w w3:=hB.trans (hb3.mono hB.size)
      have hk3:KeepsOthers w2 w3:=⟨hb3.size,fun k o hk _=>(hb3.block k (Array.getElem?_eq_some_iff.1 hk).1).trans hk⟩
      have hBx:B kd A0 c0 l0 w r1 r2 r3 s ⟨s.at_,a1,a2,a3,.slice Av a4.length cv,a4,a5,a6⟩ ((w3.alloc (.cells #[.int .i64 a1,.int .i64 a2,.int .u64 a3,.slice Av a4.length cv] 97)).setCell ⟨w.heap.size+4,0,none⟩ (.int .i64 a6)):=by
       have lt3:w.heap.size+7≤w3.heap.size:=by omega
       have up:∀ {g t:Nat} {u:Value},box w2 g t u→g < w.heap.size+7→g≠w.heap.size+4→box ((w3.alloc (.cells #[.int .i64 a1,.int .i64 a2,.int .u64 a3,.slice Av a4.length cv] 97)).setCell ⟨w.heap.size+4,0,none⟩ (.int .i64 a6)) g t u:=
        fun h hg hne=>(Below.heap_setCell _ _ _ _ hne).trans (box_alloc _ (box_below h hb3 (by omega)))
       refine ⟨⟨rfl,fun h=>?_,fun h=>?_⟩,v,⟨⟨up b0 (by omega) (by omega),up b1 (by omega) (by omega),up b2 (by omega) (by omega)⟩,up b3 (by omega) (by omega),blk_put (cs:=#[.int .i64 0]) e4 0 _ rfl,up b5 (by omega) (by omega),up b6 (by omega) (by omega),(hB3.alloc hB3.size _).setCell (p:=⟨w.heap.size+4,0,none⟩) (by simp) _,by rw [World.size_setCell,World.size_alloc];omega⟩,?_,?_⟩
       · have h:a6=0:=h
         rw [if_pos h] at hk
         by_cases h2:s.acc.length < 2932031007402
         · exact h2
         · rw [if_neg h2] at hk;cases hk
       · have h:¬ a6=0:=h
         rw [if_neg h] at hk
         have hr:=Option.some.inj hk
         rw [Prod.mk.injEq,Prod.mk.injEq] at hr
         exact ⟨hr.1.symm,hr.2.1.symm,hr.2.2.symm⟩
       · exact Kd.S_mono (Kd.S_far (p:=⟨w.heap.size+4,0,none⟩) (Kd.S_bound (Kd.S_alloc (Kd.S_elder' hS (Kd.R_base hR3) hb3) _)) (fun k hk e=>by have:=hk.2.1;simp at e;omega) _) (fun k hk=>hk.1.2)
       · exact Kd.R_mono (Kd.R_far (p:=⟨w.heap.size+4,0,none⟩) (Kd.R_bound (Kd.R_alloc (Kd.R_lower hR3 hsz) _)) (fun k hk e=>by have:=hk.2.1;simp at e;omega) _) (fun _ _=>trivial)
      obtain ⟨fn,tmps,assign,body,hy,hRd⟩:=hY s _ w2 _ hJ ((hk3.trans (KeepsOthers.alloc _ _)).trans (KeepsOthers.setCell _ _ _)) hBx
      simp only [encs] at hy
      rw [hy]
      gi_wp2
      refine hRd.mono ?_
      rintro e W6 (⟨rfl,hJ6⟩|⟨rfl,hJx6⟩)
      · have h6:a6=0:=by
         have h:=(hJI _ _ hJ6).1
         unfold nx at h
         by_cases h6:a6=0
         · exact h6
         · rw [if_neg h6] at h;exact h
        subst h6
        rw [if_pos rfl] at hk
        by_cases h2:s.acc.length < 2932031007402
        · rw [if_pos h2] at hk
          gi_wp2
          exact ⟨⟨s.acc++[mk a1 a2 a3 a4],wrap64 (s.at_+a5),0⟩,_,_,_,_,_,_,_,_,_,_,_,_,_,_,_,_,_,_,_,_,_,_,_,_,_,_,_,_,_,_,rfl,hJ6,hk⟩
        · rw [if_neg h2] at hk;cases hk
      · gi_wp2
        refine bodyPost_ret (results_none rfl _ _ _) rfl ?_
        exact ⟨⟨_,rfl⟩,.inr ⟨_,hJx6⟩⟩
    · rw [if_neg k2] at hk
      cases hk
  · rw [if_neg k1] at hk
    have d1:decide (s.at_ < (l0.length:Int))=false:=decide_eq_false k1
    have hr:=Option.some.inj hk
    rw [Prod.mk.injEq,Prod.mk.injEq] at hr
    gi_wp2
    go_end0
    exact ⟨⟨_,rfl⟩,.inl ⟨s,by simp [← hr.1,← hr.2.1,← hr.2.2],hJ⟩⟩
theorem maker_in (n:Nat) (A:Option Addr) (m c:Nat) (pe:Option Addr) (w:World) :
 CallsIn Fence.wide n Try.prog 87 #[.slice A m c,.pointer pe] w fun e w'=>e = .returned (.func (.func 96) #[] #[.pointer (some ⟨w.heap.size,0,none⟩),.pointer (some ⟨w.heap.size+1,0,none⟩)])∧
  w'=(w.alloc (.cells #[.slice A m c] 28)).alloc (.cells #[.pointer pe] 140):=by
 refine callsIn_of_wp Try.func87 rfl trivial ?_ rfl
 simp only [Try.ntmps87,List.size_toArray,List.length_cons,List.length_nil,Nat.reduceAdd,Nat.reduceSub,Array.replicate_succ,Array.replicate_zero,List.push_toArray,List.append_toArray,List.nil_append,List.cons_append]
 gi_wp2
 go_ret
 exact ⟨rfl,rfl⟩
theorem info_raw:(Try.prog.info? 97).map (fun i=>(i.zero,i.size,i.bytes))=some (some (.agg #[(.int .i64 0),(.int .i64 0),(.int .u64 0),(.slice none 0 0)]),4,48):=by kernel_rfl
theorem box_grown {W W':World} {g t:Nat} {v:Value} {row:Option Nat} (h:box W g t v) (hg:W.grownBy W' row) (hne:some g≠row):box W' g t v:=(hg.block g (Array.getElem?_eq_some_iff.1 h).1 hne).trans h
theorem box_set {W:World} {g t:Nat} {v:Value} (h:box W g t v) (p:Addr) (u:Value) (hne:g≠p.block):box (W.setCell p u) g t v:=(Below.heap_setCell W p u g hne).trans h
theorem Boxes_alloc {v:Value} {e:Int} {W:World} (h:Boxes A0 c0 l0 w v e W) (o:Obj):Boxes A0 c0 l0 w v e (W.alloc o):=by
 obtain ⟨⟨b0,b1,b2⟩,b3,b4,b5,b6,hB,hsz⟩:=h
 exact ⟨⟨box_alloc o b0,box_alloc o b1,box_alloc o b2⟩,box_alloc o b3,box_alloc o b4,box_alloc o b5,box_alloc o b6,hB.alloc hB.size _,by rw [World.size_alloc];omega⟩
theorem box_turn {W W':World} {g t:Nat} {v:Value} {row:Option Nat} (h:box W g t v) (hg:W.grownBy W' row) (hr:∀ r,row=some r→∃ o:Obj,W.heap[r]?=some o∧o.isCells=false):box W' g t v:=by
 refine (hg.block g (Array.getElem?_eq_some_iff.1 h).1 ?_).trans h
 intro e
 obtain ⟨o,ho,hc⟩:=hr g e.symm
 rw [h] at ho
 cases ho
 cases hc
theorem S_turn {α:Type} {d:Kd α} {e base:Nat} {ok:Nat→Prop} {W W':World} {v:Value} {xs:List α} {row:Option Nat} (h:Kd.S d e W base ok v xs) (hg:W.grownBy W' row) (hr:∀ r,row=some r→∃ o:Obj,W.heap[r]?=some o∧o.isCells=false):Kd.S d e W' base ok v xs:=by
 refine Kd.S_mono (Kd.S_grown (Kd.S_bound h) hg ?_) (fun _ hk=>hk.1)
 rintro k ⟨_,_,_,q,_,cells,hc⟩ e
 obtain ⟨o,ho,hc2⟩:=hr k e.symm
 rw [hc] at ho
 cases ho
 cases hc2
theorem R_turn {α:Type} {d:Kd α} {e base:Nat} {ok:Nat→Prop} {W W':World} {v:Value} {xs:List α} {row:Option Nat} (h:Kd.R d e W base ok v xs) (hg:W.grownBy W' row) (hr:∀ r,row=some r→∃ o:Obj,W.heap[r]?=some o∧o.isCells=false):Kd.R d e W' base ok v xs:=by
 refine Kd.R_mono (Kd.R_grown (Kd.R_bound h) hg ?_) (fun _ hk=>hk.1)
 rintro k ⟨_,_,_,q,_,cells,hc⟩ e
 obtain ⟨o,ho,hc2⟩:=hr k e.symm
 rw [hc] at ho
 cases ho
 cases hc2
theorem Boxes_turn {v:Value} {e:Int} {W W':World} {row:Option Nat} {b:Nat} (hb:w.heap.size≤b) (h:Boxes A0 c0 l0 w v e W) (hg:W.grownBy W' row) (hr:∀ r,row=some r→b≤r∧∃ o:Obj,W.heap[r]?=some o∧o.isCells=false):Boxes A0 c0 l0 w v e W':=by
 obtain ⟨⟨b0,b1,b2⟩,b3,b4,b5,b6,hB,hsz⟩:=h
 have hr':=fun r e=>(hr r e).2
 exact ⟨⟨box_turn b0 hg hr',box_turn b1 hg hr',box_turn b2 hg hr'⟩,box_turn b3 hg hr',box_turn b4 hg hr',box_turn b5 hg hr',box_turn b6 hg hr',hB.grown hg hB.size (fun k e=>Nat.le_trans hb (hr k e).1),Nat.le_trans hsz hg.size⟩
theorem I_turn {b:Nat} (hb:w.heap.size≤b):OwnFrom b (I kd A0 c0 l0 w):=by
 rintro s W W' row ⟨h0,v,hbx,hS⟩ hg hr
 exact ⟨h0,v,Boxes_turn A0 c0 l0 w hb hbx hg hr,S_turn hS hg (fun r e=>(hr r e).2)⟩
theorem Ix_turn {b:Nat} (hb:w.heap.size≤b):OwnFrom b (Ix w r1 r2 r3):=by
 rintro s W W' row ⟨h0,b0,b1,b2,hB⟩ hg hr
 have hr':=fun r e=>(hr r e).2
 exact ⟨h0,box_turn b0 hg hr',box_turn b1 hg hr',box_turn b2 hg hr',hB.grown hg hB.size (fun k e=>Nat.le_trans hb (hr k e).1)⟩
def A (s:St β) (x:Y) (a:Act) (W:World):Prop:=(x.at_=s.at_∧(x.bad=0→s.acc.length < 2932031007402)∧(x.bad≠0→r1=[]∧r2=s.at_∧r3=x.bad))∧
 ∃ v gb,a={ tmps:=#[.slice A0 l0.length c0,undef,.pointer (some ⟨w.heap.size,0,none⟩),.pointer (some ⟨w.heap.size+1,0,none⟩),.pointer (some ⟨w.heap.size+2,0,none⟩),.pointer (some ⟨w.heap.size+3,0,none⟩),.pointer (some ⟨w.heap.size+4,0,none⟩),.int .i64 x.at_,.pointer (some ⟨gb,0,none⟩),.slice A0 l0.length c0,.func (.func 96) #[] #[.pointer (some ⟨w.heap.size+5,0,none⟩),.pointer (some ⟨w.heap.size+6,0,none⟩)],.int .i64 x.at_,.agg #[.int .i64 x.num,.int .i64 x.kind,.int .u64 x.n,x.v],undef,undef,undef,undef,undef,undef,undef,undef,undef],defers:=[] }∧
  Boxes A0 c0 l0 w v x.bad W∧w.heap.size+7≤gb∧W.heap[gb]?=some (.cells #[.int .i64 x.num,.int .i64 x.kind,.int .u64 x.n,x.v] 97 (0,0))∧
  Kd.S kd 97 W (w.heap.size+7) (fun k=>some k≠x.v.ownBlock∧k≠gb) v s.acc∧(Kd.int .u8).R 5 W (w.heap.size+7) (fun _=>True) x.v x.b
theorem A_turn {b:Nat} (hb:w.heap.size≤b) (x:Y) (a:Act):OwnFrom b (fun s W=>A kd A0 c0 l0 w r1 r2 r3 s x a W):=by
 rintro s W W' row ⟨h0,v,gb,ha,hbx,hgb,hbb,hS,hR⟩ hg hr
 refine ⟨h0,v,gb,ha,Boxes_turn A0 c0 l0 w hb hbx hg hr,hgb,?_,S_turn hS hg (fun r e=>(hr r e).2),R_turn hR hg (fun r e=>(hr r e).2)⟩
 refine (hg.block gb (Array.getElem?_eq_some_iff.1 hbb).1 ?_).trans hbb
 intro e
 obtain ⟨_,o,ho,hc⟩:=hr gb e.symm
 rw [hbb] at ho
 cases ho
 cases hc
theorem three:∀ x∈([125,3,37]:List TypeId),∃ d,Try.prog.underlying x=some d∧(match d with | .struct _ | .array _ _=>false|_=>true)=true:=by
 intro x hx
 simp only [List.mem_cons,List.not_mem_nil,or_false] at hx
 rcases hx with rfl|rfl|rfl
 · exact ⟨_,Try.underlying125,rfl⟩
 · exact ⟨_,Try.underlying3,rfl⟩
 · exact ⟨_,Try.underlying37,rfl⟩
theorem read_calls (tf:Nat→List Int→Option (Int × Int × Int × List Int × Int × Int))
 (hT:∀ k A c l a1 a2 a3 a4 a5 a6 W,Kd.C (Kd.int .u8) W A l.length l→l.length≤c→tf k l=some (a1,a2,a3,a4,a5,a6)→Calls Try.prog 97 #[.slice A l.length c] W fun e w'=>∃ v3_:Value,e = .returned (.tuple #[.agg #[.int .i64 a1,.int .i64 a2,.int .u64 a3,v3_],.int .i64 a5,.int .i64 a6])∧Kd.R (Kd.int .u8) 5 w' W.heap.size (fun _=>True) v3_ a4∧Below W.heap.size W w')
 (hsz:kd.sz=4) (hmk:∀ W base ok a1 a2 a3 a4 v,(Kd.int .u8).R 5 W base ok v a4→kd.M W base ok (mk a1 a2 a3 a4) [.int .i64 a1,.int .i64 a2,.int .u64 a3,v])
 (hr0:Kd.C (Kd.int .u8) w A0 l0.length l0) (hc0:l0.length≤c0) (K:Nat) (hk:rdl mk tf l0 K [] 0=some (r1,r2,r3)) :
 Calls Try.prog 77 #[.slice A0 l0.length c0] w fun e w'=>∃ v0_:Value,e = .returned (.tuple #[v0_,.int .i64 r2,.int .i64 r3])∧Kd.S kd 97 w' w.heap.size (fun _=>True) v0_ r1∧Below w.heap.size w w':=by
 refine (callsIn_wide (n:=3)).1 ?_
 refine callsIn_of_wp_marks Try.func77 rfl trivial ?_ rfl
 simp only [Try.ntmps77,List.size_toArray,List.length_cons,List.length_nil,Nat.reduceAdd,Nat.reduceSub,Array.replicate_succ,Array.replicate_zero,List.push_toArray,List.append_toArray,List.nil_append,List.cons_append]
 gi_wp2_with (refine ⟨trivial,?_⟩;gi_at_call 87;refine (maker_in _ _ _ _ _ _).mono ?_;rintro e w' ⟨rfl,rfl⟩)
 obtain ⟨w1,hw1⟩:∃ w1,(((((((w.alloc (.cells #[.slice none 0 0] 125)).alloc (.cells #[.int .i64 0] 3)).alloc (.cells #[.int .i64 0] 37)).alloc (.cells #[.slice none 0 0] 125)).alloc (.cells #[.int .i64 0] 37)).alloc (.cells #[.slice A0 l0.length c0] 28)).alloc (.cells #[.pointer (some ⟨w.heap.size+1+1+1+1,0,none⟩)] 140))=w1:=⟨_,rfl⟩
 have new:∀ (W:World) (t:Nat) (v:Value) (g:Nat),g=W.heap.size→box (W.alloc (.cells #[v] t)) g t v:=by
  intro W t v g hg
  rw [hg]
  exact World.alloc_heap_new W _
 have hB1:Below w.heap.size w w1:=by
  rw [← hw1]
  exact (((((((Below.refl _ w).alloc (Nat.le_refl _) _).alloc (by simp) _).alloc (by simp;omega) _).alloc (by simp;omega) _).alloc (by simp;omega) _).alloc (by simp;omega) _).alloc (by simp;omega) _
 have hbx:Boxes A0 c0 l0 w (.slice none 0 0) 0 w1:=by
  rw [← hw1] at hB1 ⊢
  refine ⟨⟨?_,?_,?_⟩,?_,?_,?_,?_,hB1,by simp⟩
  · exact box_alloc _ (box_alloc _ (box_alloc _ (box_alloc _ (box_alloc _ (box_alloc _ (new _ _ _ _ rfl))))))
  · exact box_alloc _ (box_alloc _ (box_alloc _ (box_alloc _ (box_alloc _ (new _ _ _ _ (by simp))))))
  · exact box_alloc _ (box_alloc _ (box_alloc _ (box_alloc _ (new _ _ _ _ (by simp)))))
  · exact box_alloc _ (box_alloc _ (box_alloc _ (new _ _ _ _ (by simp))))
  · exact box_alloc _ (box_alloc _ (new _ _ _ _ (by simp)))
  · exact box_alloc _ (new _ _ _ _ (by simp))
  · exact new _ _ _ _ (by simp)
 have hs1:w1.heap.size=w.heap.size+7:=by rw [← hw1];simp
 rw [hw1]
 clear new
 simp only [Nat.add_assoc,Nat.reduceAdd]
 refine range_writes (F:=Fence.wide) (n:=3) rfl (by omega) (gf:=96) (lb:=#[.pointer (some ⟨w.heap.size+5,0,none⟩),.pointer (some ⟨w.heap.size+6,0,none⟩)]) rfl trivial (enters_of Try.func96 (by kernel_rfl) rfl) encs (fun _=>rfl)
  (I kd A0 c0 l0 w) (Ix w r1 r2 r3) (B kd A0 c0 l0 w r1 r2 r3) (A kd A0 c0 l0 w r1 r2 r3) (fun s=>r1=s.acc∧r2=0∧r3=0) (nx mk)
  (I_turn kd A0 c0 l0 w (by omega)) (Ix_turn w r1 r2 r3 (by omega)) (fun x a=>A_turn kd A0 c0 l0 w r1 r2 r3 (by omega) x a) ⟨[],0,0⟩ ⟨rfl,_,hbx,Kd.S_nil _ _ _ _ _⟩ ?assign ?body ?iter ?done ?stop
 case iter=>
  intro l J Jx W1 _ hR h0
  exact iter_in mk kd A0 c0 l0 w r1 r2 r3 1 tf hT hr0 hc0 K l J Jx W1 hR h0 hk
 case assign=>
  rintro l s ⟨xa,xn,xk,xv,v3,xb,xm,xbad⟩ W ⟨hp,v,hb,hS,hR⟩
  obtain ⟨Av,cv,ev⟩:=Kd.jk4 hR
  dsimp only at ev
  subst ev
  simp only [encs]
  obtain ⟨rfl,hp1,hp2⟩:=hp
  have HP1:=mk0 hp1
  have HP2:=mk0 hp2
  clear hp1 hp2
  gi_wp2
  have hsz7:=hb.2.2.2.2.2.2
  exact ⟨KeepsOthers.alloc _ _,⟨rfl,HP1.out,HP2.out⟩,v,W.heap.size,rfl,Boxes_alloc A0 c0 l0 w hb _,hsz7,World.alloc_heap_new W _,Kd.S_alloc (Kd.S_elderB hS _ (Nat.le_refl _)) _,Kd.R_alloc hR _⟩
 case body=>
  rintro l s ⟨xa,xn,xk,xv,v3,xb,xm,xbad⟩ a W ⟨hp,v,gb,rfl,hb,hgb,hbb,hS,hR⟩
  obtain ⟨Av,cv,ev⟩:=Kd.jk4 hR
  obtain ⟨Aw,cw,ev2⟩:=Kd.S_slice hS
  dsimp only at ev hp hb hbb hS hR
  subst ev
  subst ev2
  obtain ⟨⟨b0,b1,b2⟩,b3,b4,b5,b6,hB,hsz7⟩:=hb
  have q4:=box_cell b4
  have q3:=box_cell b3
  have g3:=box_frozen b3
  have q0:=box_cell b0
  have g0:=box_frozen b0
  have q1:=box_cell b1
  have g1:=box_frozen b1
  have q2:=box_cell b2
  have g2:=box_frozen b2
  by_cases hbad:xbad=0
  · subst hbad
    have HL:=hp.2.1 rfl
    have hcz0:W.cell? ⟨gb,0,none⟩=some (.int .i64 xn):=(blk_cell hbb 0).trans rfl
    have hcz1:W.cell? ⟨gb,1,none⟩=some (.int .i64 xk):=(blk_cell hbb 1).trans rfl
    have hcz2:W.cell? ⟨gb,2,none⟩=some (.int .u64 xv):=(blk_cell hbb 2).trans rfl
    have hcz3:W.cell? ⟨gb,3,none⟩=some (.slice Av xb.length cv):=(blk_cell hbb 3).trans rfl
    have hne:∀ g,g < w.heap.size+7→some g≠(Value.slice Aw s.acc.length cw).ownBlock:=fun g hg e=>by
     have:=Kd.S_base hS g e.symm
     omega
    have hko:∀ w1,W.grownBy w1 (Value.slice Aw s.acc.length cw).ownBlock→KeepsOthers W w1:=fun w1 hg=>⟨hg.size,fun k o hk ho=>by
     refine (hg.block k (Array.getElem?_eq_some_iff.1 hk).1 ?_).trans hk
     intro e
     obtain ⟨cells,hc⟩:=Kd.S_typed hS k e.symm
     rw [hk] at hc
     cases hc
     cases ho⟩
    clear hp
    gi_wp2_with (gi_at_builtin;refine wpListIn_append_S kd (W:=W) (w.heap.size+7) rfl (.tmp 17) (.tmp 19) 125 97 (.agg #[(.int .i64 0),(.int .i64 0),(.int .u64 0),(.slice none 0 0)]) 48 rfl Try.underlying125 (by rw [hsz];exact info_raw) (by rw [hsz];rfl) (by omega) (by decide) (.slice Aw s.acc.length cw) s.acc (mk xn xk xv xb) [.int .i64 xn,.int .i64 xk,.int .u64 xv,.slice Av xb.length cv] (fun _=>True) (fun k=>some k=(Value.slice Av xb.length cv).ownBlock) rfl rfl (hmk W _ _ xn xk xv xb _ (Kd.R_tight rfl hR)) (fun k hk=>⟨trivial,fun e=>((Kd.S_R hS).1 k e.symm).1 hk⟩) (fun _ _=>trivial) (Kd.S_mono hS (fun k hk=>⟨trivial,hk.1⟩)) (by omega) (by omega) ?_;intro v1 w1 hS1 hg1;obtain ⟨A1,c1,ev⟩:=Kd.S_slice hS1;rw [List.length_append,List.length_singleton] at ev;subst ev;have e3:=box_grown b3 hg1 (hne _ (by omega));have q3':=box_cell e3;have g3':=box_frozen e3)
    have up:∀ {g t:Nat} {u:Value},box W g t u→g < w.heap.size+7→g≠w.heap.size+3→box (w1.setCell ⟨w.heap.size+3,0,none⟩ (.slice A1 (s.acc.length+1) c1)) g t u:=
     fun h hg hn=>box_set (box_grown h hg1 (hne _ hg)) _ _ hn
    refine ⟨(hko w1 hg1).trans (KeepsOthers.setCell _ _ _),rfl,_,⟨⟨up b0 (by omega) (by omega),up b1 (by omega) (by omega),up b2 (by omega) (by omega)⟩,blk_put (cs:=#[.slice Aw s.acc.length cw]) e3 0 _ rfl,up b4 (by omega) (by omega),up b5 (by omega) (by omega),up b6 (by omega) (by omega),?_,?_⟩,?_⟩
    · exact (hB.grown hg1 hB.size (fun k e=>Nat.le_trans (by omega) (Kd.S_base hS k e))).setCell (p:=⟨w.heap.size+3,0,none⟩) (by simp) _
    · have:=hg1.size
      rw [World.size_setCell];omega
    · exact Kd.S_mono (Kd.S_far (p:=⟨w.heap.size+3,0,none⟩) (Kd.S_bound hS1) (fun k hk e=>by have:=hk.2.1;simp at e;omega) _) (fun _ _=>trivial)
  · have d1:(xbad != 0)=true:=bne_iff_ne.mpr hbad
    have HP:=mk0 (hp.2.2 hbad)
    have HA:=mk0 hp.1
    clear hp
    have hf:Try.prog.follows .mixedOrders=true:=by kernel_rfl
    gi_wp2
    gi_region_with_o (fail)
    all_goals gi_wp2
    all_goals
     rw [show nx mk s ⟨xa,xn,xk,xv,.slice Av xb.length cv,xb,xm,xbad⟩=(⟨s.acc,s.at_,xbad⟩:St β) from if_neg hbad]
     have ea:=HA.out
     subst ea
     refine ⟨?k,HP.out,?b0,?b1,?b2,?B⟩
     case k=>repeat (first|exact KeepsOthers.refl _|refine KeepsOthers.trans ?_ (KeepsOthers.drew _)|refine KeepsOthers.trans ?_ (KeepsOthers.setCell _ _ _))
     case b0=>with_reducible repeat (first|exact b0|exact has_box b0|refine box_drew ?_|refine box_hit ?_|refine box_set ?_ _ _ (by simp)|refine has_set ?_ _ _ (by simp))
     case b1=>
      show box _ (w.heap.size+1) 3 (.int .i64 s.at_)
      with_reducible repeat (first|exact b1|exact has_box b1|refine box_drew ?_|refine box_hit ?_|refine box_set ?_ _ _ (by simp)|refine has_set ?_ _ _ (by simp))
     case b2=>
      show box _ (w.heap.size+2) 37 (.int .i64 xbad)
      with_reducible repeat (first|exact b2|exact has_box b2|refine box_drew ?_|refine box_hit ?_|refine box_set ?_ _ _ (by simp)|refine has_set ?_ _ _ (by simp))
     case B=>repeat (first|exact hB|refine below_drew ?_|refine Below.setCell ?_ (by simp) _)
 case done=>
  rintro D s W hD ⟨rfl,rfl,rfl⟩ ⟨-,v,⟨⟨b0,b1,b2⟩,b3,b4,b5,b6,hB,hsz7⟩,hS⟩ hK
  obtain ⟨Aw,cw,rfl⟩:=Kd.S_slice hS
  have q3:=box_cell b3
  have q0:=box_cell b0
  have g0:=box_frozen b0
  have q1:=box_cell b1
  have g1:=box_frozen b1
  have q2:=box_cell b2
  have g2:=box_frozen b2
  gi_wp2
  have hk3:KeepsOthers W (((W.setCell ⟨w.heap.size,0,none⟩ (.slice Aw s.acc.length cw)).setCell ⟨w.heap.size+1,0,none⟩ (.int .i64 0)).setCell ⟨w.heap.size+2,0,none⟩ (.int .i64 0)):=((KeepsOthers.setCell _ _ _).trans (KeepsOthers.setCell _ _ _)).trans (KeepsOthers.setCell _ _ _)
  have hK3:=hk3.same D _ hK rfl
  have hS3:=Kd.S_far (p:=⟨w.heap.size+2,0,none⟩) (Kd.S_far (p:=⟨w.heap.size+1,0,none⟩) (Kd.S_far (p:=⟨w.heap.size,0,none⟩) (Kd.S_bound hS) (fun k hk e=>by have:=hk.2.1;simp at e;omega) (.slice Aw s.acc.length cw)) (fun k hk e=>by have:=hk.2.1;simp at e;omega) (.int .i64 0)) (fun k hk e=>by have:=hk.2.1;simp at e;omega) (.int .i64 0)
  have hB3:Below w.heap.size w (((W.setCell ⟨w.heap.size,0,none⟩ (.slice Aw s.acc.length cw)).setCell ⟨w.heap.size+1,0,none⟩ (.int .i64 0)).setCell ⟨w.heap.size+2,0,none⟩ (.int .i64 0)):=((hB.setCell (p:=⟨w.heap.size,0,none⟩) (by simp) _).setCell (p:=⟨w.heap.size+1,0,none⟩) (by simp) _).setCell (p:=⟨w.heap.size+2,0,none⟩) (by simp) _
  have r0:box (((W.setCell ⟨w.heap.size,0,none⟩ (.slice Aw s.acc.length cw)).setCell ⟨w.heap.size+1,0,none⟩ (.int .i64 0)).setCell ⟨w.heap.size+2,0,none⟩ (.int .i64 0)) w.heap.size 125 (.slice Aw s.acc.length cw):=box_set (box_set (box_put b0) _ _ (by simp)) _ _ (by simp)
  have r1:box (((W.setCell ⟨w.heap.size,0,none⟩ (.slice Aw s.acc.length cw)).setCell ⟨w.heap.size+1,0,none⟩ (.int .i64 0)).setCell ⟨w.heap.size+2,0,none⟩ (.int .i64 0)) (w.heap.size+1) 3 (.int .i64 0):=box_set (box_put (box_set b1 _ _ (by simp))) _ _ (by simp)
  have r2:box (((W.setCell ⟨w.heap.size,0,none⟩ (.slice Aw s.acc.length cw)).setCell ⟨w.heap.size+1,0,none⟩ (.int .i64 0)).setCell ⟨w.heap.size+2,0,none⟩ (.int .i64 0)) (w.heap.size+2) 37 (.int .i64 0):=box_put (box_set (box_set b2 _ _ (by simp)) _ _ (by simp))
  refine ⟨by simp,.inl ⟨_,_,rfl,run_takeDeferred hK3,?_⟩⟩
  exact ⟨_,results_three rfl _ _ w.heap.size (w.heap.size+1) (w.heap.size+2) 125 3 37 _ _ _ rfl (box_obj D _ r0 (by omega)) rfl (box_obj D _ r1 (by omega)) rfl (box_obj D _ r2 (by omega)) three,_,rfl,
   Kd.S_mono (Kd.S_lower (S_turn hS3 (grownBy_putObj' _ D (.deferred none)) (fun r e=>by cases e;exact ⟨_,hK3,rfl⟩)) (by omega)) (fun _ _=>trivial),hB3.trans (belowK_b (w:=w) (Nat.le_refl _) _ D _ _ (by omega) hK3 rfl rfl)⟩
 case stop=>
  rintro D s W hD ⟨⟨rfl,rfl,rfl⟩,b0,b1,b2,hB⟩ hK
  gi_wp2
  refine ⟨by simp,.inl ⟨_,_,rfl,run_takeDeferred hK,?_⟩⟩
  exact ⟨_,results_three rfl _ _ w.heap.size (w.heap.size+1) (w.heap.size+2) 125 3 37 _ _ _ rfl (box_obj D _ b0 (by omega)) rfl (box_obj D _ b1 (by omega)) rfl (box_obj D _ b2 (by omega)) three,_,rfl,Kd.S_nil _ _ _ _ _,hB.trans (belowK_b (w:=w) (Nat.le_refl _) W D _ _ (by omega) hK rfl rfl)⟩
end
end In
end Go.Proofs.Ytheoafenehckbaa.Fl
namespace Go.Proofs.Ytheoafenehckbaa.Tk
open Go.RowKit YtheoafenehckbaaW.PrintWords YtheoafenehckbaaW.PrintLast YtheoafenehckbaaW.PrintMore
attribute [local go_sem] max2_int min2_int max_two min_two max_three min_three max_four min_four
set_option linter.unusedVariables false
set_option linter.unusedSimpArgs false
def varint_Take.l0:Nat→List Int→Int→Int→Option (Int × Int × Int)
 | 0,_,_,_=>none
 | k+1,l0,x5,x6=>if 0≤x6 then (if x6≤10 then (if x6=(l0.length:Int) then some (0,0,10) else (if x6=10 then some (0,0,10) else (if x6 < (l0.length:Int) then (if (x6=9∧1 < rd l0 x6) then some (0,0,10) else (if Go.bits .and .u8 (rd l0 x6) 128=0 then some (Go.bits .or .u64 x5 (IntKind.u64.wrap (IntKind.u64.wrap (Go.bits .and .u8 (rd l0 x6) 127)*2 ^ (7*x6).toNat)),x6+1,0) else varint_Take.l0 k l0 (Go.bits .or .u64 x5 (IntKind.u64.wrap (IntKind.u64.wrap (Go.bits .and .u8 (rd l0 x6) 127)*2 ^ (7*x6).toNat))) (x6+1))) else none))) else none) else none
def varint_Take.f (k:Nat) (l0:List Int):Option (Int × Int × Int):=varint_Take.l0 k l0 0 0
set_option maxHeartbeats 8000000 in
set_option maxRecDepth 100000 in
theorem varint_Take.calls (k:Nat) (A0:Option Addr) (c0:Nat) (l0:List Int) (r1:Int) (r2:Int) (r3:Int) (w:World) (hr0:Kd.C (Kd.int .u8) w A0 l0.length l0) (hc0:l0.length≤c0) (h:varint_Take.f k l0=some (r1,r2,r3)) :
 Calls Try.prog 98 #[.slice A0 l0.length c0] w fun e w'=>e = .returned (.tuple #[.int .u64 r1,.int .i64 r2,.int .i64 r3])∧Drawn0 w w':=by
 have HR0:=mk0 hr0
 clear hr0 hc0
 have H':=mk0 h
 clear h
 go_enter Try.func98,Try.ntmps98
 go_wp2
 refine Base.wp_scope_loop 0 (fun n a' w'=>∃ (x5 x6:Int) (u1 u2 u3 u4 u7 u8 u9 u10 u11 u12 u13 u14 u15 u16 u17 u18 u19 u20 u21 u22 u23 u24 u25 u26 u27 u28 u29 u30 u31 u32 u33 u34 u35 u36 u37 u38 u39 u40:Value),a'={ tmps:=#[.slice A0 l0.length c0,u1,u2,u3,u4,.int .u64 x5,.int .i64 x6,u7,u8,u9,u10,u11,u12,u13,u14,u15,u16,u17,u18,u19,u20,u21,u22,u23,u24,u25,u26,u27,u28,u29,u30,u31,u32,u33,u34,u35,u36,u37,u38,u39,u40],defers:=[] }∧Aside0 (varint_Take.l0 n l0 x5 x6=some (r1,r2,r3))∧w'=w) rfl ?pass ?first
 case first=>
  intro hpass
  go_wp2
  go_step3
  rename_i K hK
  exact hK _ _ (hpass k _ _ ⟨0,0,_,_,_,_,_,_,_,_,_,_,_,_,_,_,_,_,_,_,_,_,_,_,_,_,_,_,_,_,_,_,_,_,_,_,_,_,_,_,rfl,H',rfl⟩)
 case pass=>
  clear H'
  rintro n a' w' ⟨x5,x6,u1,u2,u3,u4,u7,u8,u9,u10,u11,u12,u13,u14,u15,u16,u17,u18,u19,u20,u21,u22,u23,u24,u25,u26,u27,u28,u29,u30,u31,u32,u33,u34,u35,u36,u37,u38,u39,u40,rfl,HA,rfl⟩
  cases n with
  | zero=>exact absurd HA.out (by simp [varint_Take.l0])
  | succ k1=>
   have H:=HA.out
   clear HA
   simp only [varint_Take.l0] at H
   by_cases c0:0≤x6
   case neg=>rw [if_neg c0] at H;exact absurd H (by simp)
   rw [if_pos c0] at H
   by_cases c1:x6≤10
   case neg=>rw [if_neg c1] at H;exact absurd H (by simp)
   rw [if_pos c1] at H
   by_cases c2:x6=(l0.length:Int)
   · rw [if_pos c2] at H
     have c2b:(x6==(l0.length:Int))=true:=beq_iff_eq.mpr c2
     clear c2
     simp only [Option.some.injEq,Prod.mk.injEq] at H
     obtain ⟨rfl,rfl,rfl⟩:=H
     go_wp2
     simp only [Exit.jump]
     go_ret3
     exact ⟨rfl,Drawn0.refl _⟩
   rw [if_neg c2] at H
   have c2b:(x6==(l0.length:Int))=false:=beq_eq_false_iff_ne.mpr c2
   clear c2
   by_cases c3:x6=10
   · rw [if_pos c3] at H
     have c3b:(x6==10)=true:=beq_iff_eq.mpr c3
     clear c3
     simp only [Option.some.injEq,Prod.mk.injEq] at H
     obtain ⟨rfl,rfl,rfl⟩:=H
     go_wp2
     simp only [Exit.jump]
     go_ret3
     exact ⟨rfl,Drawn0.refl _⟩
   rw [if_neg c3] at H
   have c3b:(x6==10)=false:=beq_eq_false_iff_ne.mpr c3
   have c9:x6≤9:=by omega
   clear c3 c1
   by_cases c4:x6 < (l0.length:Int)
   case neg=>rw [if_neg c4] at H;exact absurd H (by simp)
   rw [if_pos c4] at H
   obtain ⟨ad,e,hx⟩:=Kd.at_int HR0.out x6 c0 c4
   subst e
   by_cases c5:x6=9∧1 < rd l0 x6
   · rw [if_pos c5] at H
     have c5b:(x6==9)=true:=beq_iff_eq.mpr c5.1
     have c6b:decide (1 < rd l0 x6)=true:=decide_eq_true c5.2
     clear c5
     simp only [Option.some.injEq,Prod.mk.injEq] at H
     obtain ⟨rfl,rfl,rfl⟩:=H
     go_wp2
     simp only [Exit.jump]
     go_ret3
     exact ⟨rfl,Drawn0.refl _⟩
   rw [if_neg c5] at H
   have c5c:(x6==9)=false∨((x6==9)=true∧decide (1 < rd l0 x6)=false):=by
    by_cases h9:x6=9
    · exact .inr ⟨beq_iff_eq.mpr h9,decide_eq_false fun h=>c5 ⟨h9,h⟩⟩
    · exact .inl (beq_eq_false_iff_ne.mpr h9)
   clear c5
   by_cases c7:Go.bits .and .u8 (rd l0 x6) 128=0
   · rw [if_pos c7] at H
     have c7b:(Go.bits .and .u8 (rd l0 x6) 128 != 0)=false:=bne_eq_false_iff_eq.mpr c7
     clear c7
     simp only [Option.some.injEq,Prod.mk.injEq] at H
     obtain ⟨rfl,rfl,rfl⟩:=H
     rcases c5c with c5b|⟨c5b,c6b⟩
     all_goals
      go_wp2
      simp only [Exit.jump]
      go_ret3
      exact ⟨rfl,Drawn0.refl _⟩
   · rw [if_neg c7] at H
     have c7b:(Go.bits .and .u8 (rd l0 x6) 128 != 0)=true:=bne_iff_ne.mpr c7
     clear c7
     have H2:=mk0 H
     clear H
     rcases c5c with c5b|⟨c5b,c6b⟩
     all_goals
      go_wp2
      go_step3
      exact ⟨rfl,k1,Nat.lt_succ_self _,_,x6+1,_,_,_,_,_,_,_,_,_,_,_,_,_,_,_,_,_,_,_,_,_,_,_,_,_,_,_,_,_,_,_,_,_,_,_,_,_,_,rfl,H2,rfl⟩
end Go.Proofs.Ytheoafenehckbaa.Tk
