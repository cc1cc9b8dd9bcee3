/- A row of one's own with one element held open: its cells are written one by one, the other elements stay as they were read. -/
import Derived.Test.YtheoafenehckbaaQW
namespace Go.Proofs.Ytheoafenehckbaa.Ur
open Go.RowKit YtheoafenehckbaaW.PrintWords YtheoafenehckbaaW.PrintLast
set_option linter.unusedVariables false
structure Hl {α:Type} (d:Kd α) (e:Nat) (wr:World) (base:Nat) (ok:Nat→Prop) (g n cap:Nat) (xs:List α) (i:Nat) (W:World) (c:List Value):Prop where
 own:ok g
 lt:i < n
 size:wr.heap.size≤W.heap.size
 glt:g < wr.heap.size
 touch:∀ k,k < wr.heap.size→k≠g→W.heap[k]?=wr.heap[k]?
 rows:∃ rows:List (List Value),rows.length=xs.length∧rows[i]?=some c∧(Kd.raw d.sz).R e W base (fun k=>some k=(Value.slice (some ⟨g,0,none⟩) n cap).ownBlock) (.slice (some ⟨g,0,none⟩) n cap) rows∧
  ∀ (j:Nat) (x:α) (c':List Value),j≠i→xs[j]?=some x→rows[j]?=some c'→Kd.FK d wr (fun k=>ok k∧k < wr.heap.size∧k≠g) x c'
section
variable {α β:Type} {d:Kd α} {d':Kd β} {e base g n cap i:Nat} {ok okp:Nat→Prop} {wr w0 W W1:World} {xs:List α} {c:List Value}
theorem own_iff {k:Nat}:some k=(Value.slice (some ⟨g,0,none⟩) n cap).ownBlock↔k=g:=by simp [Value.ownBlock]
theorem Hl.new (h:Kd.N d e W base ok (.slice (some ⟨g,0,none⟩) n cap) xs) (z:α) (hi:i < n):∃ c,c.length=d.sz∧Hl d e W base ok g n cap xs i W c∧Kd.FK d W (fun k=>ok k∧k < W.heap.size∧k≠g) (xs.getD i z) c:=by
 have hlt:=Kd.N_lt h g (own_iff.2 rfl).symm
 obtain ⟨h0,rows,hl,hR,hf⟩:=h
 have hn:=(Kd.jj7 hR).1
 have hir:i < rows.length:=by omega
 have hix:i < xs.length:=by omega
 have mv:∀ {x c'},Kd.FK d W (fun k=>ok k∧some k≠(Value.slice (some ⟨g,0,none⟩) n cap).ownBlock) x c'→Kd.FK d W (fun k=>ok k∧k < W.heap.size∧k≠g) x c':=fun hq=>
  Kd.FK_mono (Kd.FK_bound hq) (fun k hk=>⟨hk.1.1,hk.2,fun he=>hk.1.2 (own_iff.2 he)⟩)
 have hfk:=mv (hf i _ _ (List.getElem?_eq_getElem hix) (List.getElem?_eq_getElem hir))
 refine ⟨rows[i],(Kd.FK_raw hfk).2.1,⟨h0 g (own_iff.2 rfl).symm,hi,Nat.le_refl _,hlt,fun _ _ _=>rfl,rows,hl,List.getElem?_eq_getElem hir,hR,fun j x c' hj hx hc=>mv (hf j x c' hx hc)⟩,?_⟩
 rw [List.getD_eq_getElem?_getD,List.getElem?_eq_getElem hix]
 exact hfk
theorem Hl.len (h:Hl d e wr base ok g n cap xs i W c):c.length=d.sz∧xs.length=n:=by
 obtain ⟨rows,hl,hc,hR,hf⟩:=h.rows
 have hn:=(Kd.jj7 hR).1
 obtain ⟨c2,hcl,hM,hcc,hfr⟩:=Kd.R_elem hR [] (i:Int) (Int.natCast_nonneg _) (Int.ofNat_lt.2 h.lt)
 have hc2:=hM.1
 rw [Int.toNat_natCast,List.getD_eq_getElem?_getD,hc] at hc2
 exact ⟨by rw [← show c2=c from hc2];exact hcl,by omega⟩
theorem Hl.cell (h:Hl d e wr base ok g n cap xs i W c) (j:Nat) {u:Value} (hj:c[j]?=some u):W.cell? ⟨g,i*d.sz+j,none⟩=some u:=by
 obtain ⟨rows,hl,hc,hR,hf⟩:=h.rows
 obtain ⟨c2,hcl,hM,hcc,hfr⟩:=Kd.R_elem hR [] (i:Int) (Int.natCast_nonneg _) (Int.ofNat_lt.2 h.lt)
 have hc2:=hM.1
 rw [Int.toNat_natCast,List.getD_eq_getElem?_getD,hc] at hc2
 rw [show c2=c from hc2,Int.toNat_natCast] at hcc
 exact hcc j u hj
theorem Hl.step (h:Hl d e wr base ok g n cap xs i W c) (hs:W.heap.size≤W1.heap.size) (hm:∀ k,k < wr.heap.size→W1.heap[k]?=W.heap[k]?):Hl d e wr base ok g n cap xs i W1 c:=by
 obtain ⟨rows,hl,hc,hR,hf⟩:=h.rows
 exact ⟨h.own,h.lt,Nat.le_trans h.size hs,h.glt,fun k hk hg=>(hm k hk).trans (h.touch k hk hg),rows,hl,hc,Kd.R_step hR (fun k hk hlt=>hm k (by rw [own_iff.1 hk];exact h.glt)),hf⟩
theorem Hl.below (h:Hl d e wr base ok g n cap xs i W c) (hb:Below W.heap.size W W1):Hl d e wr base ok g n cap xs i W1 c:=h.step hb.size (fun k hk=>hb.block k (Nat.lt_of_lt_of_le hk h.size))
theorem Hl.belowN (h:Hl d e wr base ok g n cap xs i W c) {b:Nat} (hb:Below b W W1) (hle:wr.heap.size≤b):Hl d e wr base ok g n cap xs i W1 c:=h.step hb.size (fun k hk=>hb.block k (Nat.lt_of_lt_of_le hk hle))
theorem Hl.F (h:Hl d e wr base ok g n cap xs i W c) {A:Option Addr} {m:Nat} {ys:List β} (hF:Kd.F d' wr (fun k=>ok k∧k < wr.heap.size∧k≠g) A m ys):Kd.F d' W (fun k=>ok k∧k < wr.heap.size∧k≠g) A m ys:=Kd.F_step hF (fun k hk _=>h.touch k hk.2.1 hk.2.2)
theorem Hl.rebase (h:Hl d e wr base ok g n cap xs i W c):Hl d e W base ok g n cap xs i W c:=by
 obtain ⟨rows,hl,hc,hR,hf⟩:=h.rows
 exact ⟨h.own,h.lt,Nat.le_refl _,Nat.lt_of_lt_of_le h.glt h.size,fun _ _ _=>rfl,rows,hl,hc,hR,fun j x c' hj hx hc'=>
  Kd.FK_mono (Kd.FK_step (hf j x c' hj hx hc') (fun k hk _=>h.touch k hk.2.1 hk.2.2)) (fun k hk=>⟨hk.1,Nat.lt_of_lt_of_le hk.2.1 h.size,hk.2.2⟩)⟩
theorem Hl.F2 (h:Hl d e wr base ok g n cap xs i W c) {A:Option Addr} {m:Nat} {ys:List β} (hF:Kd.F d' wr (fun k=>ok k∧k < wr.heap.size∧k≠g) A m ys):Kd.F d' W (fun k=>ok k∧k < W.heap.size∧k≠g) A m ys:=
 Kd.F_mono (h.F hF) (fun k hk=>⟨hk.1,Nat.lt_of_lt_of_le hk.2.1 h.size,hk.2.2⟩)
theorem Fr_below {A:Option Addr} {m:Nat} {ys:List β} (hF:Kd.F d' W (fun k=>ok k∧k < W.heap.size∧k≠g) A m ys) (hb:Below W.heap.size W W1):Kd.F d' W1 (fun k=>ok k∧k < W1.heap.size∧k≠g) A m ys:=
 Kd.F_mono (Kd.F_below hF hb) (fun k hk=>⟨hk.1,Nat.lt_of_lt_of_le hk.2.1 hb.size,hk.2.2⟩)
theorem Fr_grown {A:Option Addr} {m:Nat} {ys:List β} (hF:Kd.F d' W (fun k=>ok k∧k < W.heap.size∧k≠g) A m ys) (hg:W.grownBy W1 (some g)):Kd.F d' W1 (fun k=>ok k∧k < W1.heap.size∧k≠g) A m ys:=
 Kd.F_mono (Kd.F_grown hF hg (fun k hk he=>hk.2.2 (by injection he))) (fun k hk=>⟨hk.1,Nat.lt_of_lt_of_le hk.2.1 hg.size,hk.2.2⟩)
theorem Hl.Fcall {okp:Nat→Prop} {nb:Nat} (h:Hl d e wr base (fun k=>okp k∨nb≤k) g n cap xs i W c) (hnb:nb≤W.heap.size) {A:Option Addr} {m:Nat} {ys:List β} (hF:Kd.F d' W1 (fun k=>((okp k∨nb≤k)∧k < wr.heap.size∧k≠g)∨W.heap.size≤k) A m ys) (hb:Below W.heap.size W W1):Kd.F d' W1 (fun k=>(okp k∨nb≤k)∧k < W1.heap.size∧k≠g) A m ys:=
 Kd.F_mono (Kd.F_bound hF) (fun k hk=>by
  have h1:=h.glt
  have h2:=h.size
  rcases hk.1 with h3|h3
  · exact ⟨h3.1,hk.2,h3.2.2⟩
  · exact ⟨.inr (Nat.le_trans hnb h3),hk.2,fun e=>by omega⟩)
theorem Hl.fill (h:Hl d e wr base ok g n cap xs i W c) {x':α} (hM:Kd.FK d W okp x' c) (hokp:∀ k,okp k→ok k∧k≠g):Kd.N d e W base ok (.slice (some ⟨g,0,none⟩) n cap) (xs.set i x'):=by
 obtain ⟨rows,hl,hc,hR,hf⟩:=h.rows
 refine ⟨fun k hk=>by rw [own_iff.1 hk.symm];exact h.own,rows,by rw [List.length_set,hl],hR,fun j x c' hx hc'=>?_⟩
 by_cases hji:j=i
 · subst hji
   rw [hc] at hc'
   injection hc' with hc'
   subst hc'
   have hjl:j < xs.length:=by have:=(List.getElem?_eq_some_iff.1 hx).1;rwa [List.length_set] at this
   rw [List.getElem?_set_self hjl] at hx
   injection hx with hx
   subst hx
   exact Kd.FK_mono hM (fun k hk=>⟨(hokp k hk).1,fun he=>(hokp k hk).2 (own_iff.1 he)⟩)
 · rw [List.getElem?_set_ne (Ne.symm hji)] at hx
   exact Kd.FK_mono (Kd.FK_step (hf j x c' hji hx hc') (fun k hk _=>h.touch k hk.2.1 hk.2.2)) (fun k hk=>⟨hk.1,fun he=>hk.2.2 (own_iff.1 he)⟩)
theorem set_seg (c:List Value) (j:Nat) (v:Value) (hj:j < c.length):c.take j++[v]++c.drop (j+1)=c.set j v:=by
 rw [List.set_eq_take_append_cons_drop,if_pos hj,List.append_assoc]
 rfl
theorem Hl.put {P:Program} (h:Hl d e wr base ok g n cap xs i W c) (j:Nat) (hj:j < d.sz) (v:Value) (h1:v.oneCell'=true):∃ W1,(∀ t,v.cells.toList=[v]→(P.info? t).map (·.size)=some 1→(Instr.storeAt t (.pointer (some ⟨g,i*d.sz+j,none⟩)) v).run P W = .ok () W1)∧Hl d e wr base ok g n cap xs i W1 (c.set j v)∧W.grownBy W1 (some g)∧∀ B w0,B≤g→Below B w0 W→Below B w0 W1:=by
 have hlen:=h.len
 obtain ⟨rows,hl,hc,hR,hf⟩:=h.rows
 have hcl:=hlen.1
 have hcell:∀ j u,c[j]?=some u→W.cell? ⟨g,(i:Int).toNat*(Kd.raw d.sz).sz+j,none⟩=some u:=fun j u hj=>h.cell j hj
 have hce:=set_seg c j v (by omega)
 have hil:i < rows.length:=by have:=h.lt;omega
 have hraw:(Kd.raw d.sz).M W base (fun _=>False) (c.set j v) (c.take j++[v]++c.drop (j+[v].length)):=by
  refine ⟨hce,by rw [show j+[v].length=j+1 from rfl,hce,List.length_set,hcl],fun u hu=>?_⟩
  rw [show j+[v].length=j+1 from rfl,hce] at hu
  rcases List.mem_or_eq_of_mem_set hu with hu|hu
  · obtain ⟨c2,_,hM2,_,_⟩:=Kd.R_elem hR [] (i:Int) (Int.natCast_nonneg _) (Int.ofNat_lt.2 h.lt)
    have hc2:=hM2.1
    rw [Int.toNat_natCast,List.getD_eq_getElem?_getD,hc] at hc2
    exact hM2.2.2 u (by rw [show c2=c from hc2];exact hu)
  · rw [hu];exact h1
 obtain ⟨hrow,hg⟩:=Kd.R_seg hR (i:Int) (Int.natCast_nonneg _) (Int.ofNat_lt.2 h.lt) (j:=j) hcl hcell (by show j+1≤d.sz;omega) hraw (fun _ hk=>hk.elim)
 have e0:(i:Int).toNat*(Kd.raw d.sz).sz+j=i*d.sz+j:=by rw [Int.toNat_natCast];rfl
 rw [e0] at hrow hg
 rw [Int.toNat_natCast] at hrow
 have hgl:g < W.heap.size:=Nat.lt_of_lt_of_le h.glt h.size
 refine ⟨W.setCells g (i*d.sz+j) [v],fun t hu ht=>?_,⟨h.own,h.lt,Nat.le_trans h.size hg.size,h.glt,fun k hk hne=>?_,rows.set i (c.set j v),by rw [List.length_set,hl],by rw [List.getElem?_set_self hil],hrow,fun j' x c' hj' hx hc'=>?_⟩,hg,fun B w0 hB hb=>?_⟩
 · obtain ⟨_,inner,hown',hr⟩:=hR
   rcases hown'.2 with ⟨hv,_⟩|⟨g',cap',cur,hv,hb,hh,hnc',hcm,hcs,_⟩
   · cases hv
   injection hv with ha _ hc'
   injection ha with ha
   injection ha with hg'
   subst hg';subst hc'
   refine run_store_run t v [v] hh hu ht ?_ (fun q hq=>by rw [List.mem_singleton.1 hq];exact h1)
   have h2:i*d.sz+d.sz≤n*d.sz:=by rw [← Nat.succ_mul];exact Nat.mul_le_mul_right _ h.lt
   have h4:cur.size=cap*d.sz:=hcs
   have h3:n*d.sz≤cap*d.sz:=Nat.mul_le_mul_right _ (by omega)
   show i*d.sz+j+1≤cur.size
   omega
 · exact (hg.block k (Nat.lt_of_lt_of_le hk h.size) (fun he=>hne (by injection he))).trans (h.touch k hk hne)
 · rw [List.getElem?_set_ne (Ne.symm hj')] at hc'
   exact hf j' x c' hj' hx hc'
 · exact hb.trans ⟨hg.os,hg.tape,hg.output,hg.size,fun k hk=>by
    rcases Nat.lt_or_ge k W.heap.size with hlt|hge
    · exact hg.block k hlt (fun he=>by injection he with he;omega)
    · exact setCells_far [v] _ k (by omega)⟩
end
section
variable {P:Program} {ops:Array Oper} {rest:List Oper} {o:Oper} {a:Act} {Q:Exit→Act→World→Prop} {K:Act→World→Prop} {α:Type} {d:Kd α} {e base g n cap i:Nat} {ok:Nat→Prop} {wr W:World} {xs:List α} {c c':List Value}
theorem Hl.run (h:Hl d e wr base ok g n cap xs i W c) (j:Nat) (v:Value) {t:TypeId} {p x:Operand} {o':Nat} (ho:o.op = .store t p x) (haddr:a.eval p = .pointer (some ⟨g,o',none⟩)) (hoff:o'=i*d.sz+j) (hx:a.eval x=v) (hj:j < d.sz) (h1:v.oneCell'=true) (hu:v.cells.toList=[v]) (ht:(P.info? t).map (·.size)=some 1) (hc:c.set j v=c') :
 ∃ W1,(execOp a.eval o).run P W = .ok .skip W1∧Hl d e wr base ok g n cap xs i W1 c'∧W.grownBy W1 (some g)∧∀ B w0,B≤g→Below B w0 W→Below B w0 W1:=by
 subst hoff
 subst hc
 obtain ⟨W1,hrun,hh,hg,hb⟩:=h.put (P:=P) j hj v h1
 refine ⟨W1,?_,hh,hg,hb⟩
 unfold execOp
 simp only [ho,haddr,hx,Sem.run_bind,Sem.run_pure,Result.andThen_ok,hrun t hu ht]
theorem Hl.event (h:Hl d e wr base ok g n cap xs i W c) (j:Nat) (v:Value) {t:TypeId} {p:Tmp} {x:Operand} {o':Nat}
 (hk:∀ w1,Hl d e wr base ok g n cap xs i w1 c'→W.grownBy w1 (some g)→(∀ B w0,B≤g→Below B w0 W→Below B w0 w1)→wpList P ops Q rest a w1)
 (ho:o.op = .store t (.tmp p) x) (haddr:a.eval (.tmp p) = .pointer (some ⟨g,o',none⟩)) (hoff:o'=i*d.sz+j) (hx:a.eval x=v) (hj:j < d.sz) (h1:v.oneCell'=true) (hu:v.cells.toList=[v]) (ht:(P.info? t).map (·.size)=some 1) (hc:c.set j v=c')
 (hgd:o.guard=none) (hN:o.dst=none):wpList P ops Q (o :: rest) a W:=by
 obtain ⟨W1,hrun,hh,hg,hb⟩:=h.run (P:=P) (o:=o) (a:=a) j v ho haddr hoff hx hj h1 hu ht hc
 exact store_event hgd ho hN hrun (fun w' he=>by subst he;exact hk _ hh hg hb)
theorem Hl.estep (h:Hl d e wr base ok g n cap xs i W c) (j:Nat) (v:Value) {t:TypeId} {p x:Operand} {o':Nat}
 (hk:∀ w1,Hl d e wr base ok g n cap xs i w1 c'→W.grownBy w1 (some g)→(∀ B w0,B≤g→Below B w0 W→Below B w0 w1)→K a w1)
 (hw:Region.wanted o (yielded ops a.tmps)=true) (hN:o.dst=none) (ho:o.op = .store t p x) (haddr:a.eval p = .pointer (some ⟨g,o',none⟩)) (hoff:o'=i*d.sz+j) (hx:a.eval x=v) (hj:j < d.sz) (h1:v.oneCell'=true) (hu:v.cells.toList=[v]) (ht:(P.info? t).map (·.size)=some 1) (hc:c.set j v=c') :
 if Region.wanted o (yielded ops a.tmps)=true then Oper.wp P o a W K Q else K (a.put none undef) W:=by
 obtain ⟨W1,hrun,hh,hg,hb⟩:=h.run (P:=P) (o:=o) (a:=a) j v ho haddr hoff hx hj h1 hu ht hc
 exact skip_ hw hN hrun (hk _ hh hg hb)
end
end Go.Proofs.Ytheoafenehckbaa.Ur
