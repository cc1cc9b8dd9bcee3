/- A struct in a block of one's own whose cells are written one by one. -/
import Derived.Test.YtheoafenehckbaaQHw
namespace Go.Proofs.Ytheoafenehckbaa.Ur
open Go.RowKit YtheoafenehckbaaW.PrintWords YtheoafenehckbaaW.PrintLast
set_option linter.unusedVariables false
structure Bx (t:Nat) (wr:World) (g:Nat) (W:World) (cs:Array Value):Prop where
 glt:g < wr.heap.size
 size:wr.heap.size≤W.heap.size
 blk:W.heap[g]?=some (.cells cs t (0,0))
 touch:∀ k,k < wr.heap.size→k≠g→W.heap[k]?=wr.heap[k]?
section
variable {α:Type} {d:Kd α} {t g:Nat} {wr w0 W W1:World} {cs cs':Array Value} {A:Option Addr} {m:Nat} {ys:List α}
theorem Bx.new (h:W.heap[g]?=some (.cells cs t (0,0))):Bx t W g W cs:=⟨blk_lt h,Nat.le_refl _,h,fun _ _ _=>rfl⟩
theorem Bx.cell (h:Bx t wr g W cs) (j:Nat) {v:Value} (hv:cs[j]?=some v):W.cell? ⟨g,j,none⟩=some v:=(blk_cell h.blk j).trans hv
theorem Bx.step (h:Bx t wr g W cs) (hs:W.heap.size≤W1.heap.size) (hm:∀ k,k < wr.heap.size→W1.heap[k]?=W.heap[k]?):Bx t wr g W1 cs:=
 ⟨h.glt,Nat.le_trans h.size hs,(hm g h.glt).trans h.blk,fun k hk hne=>(hm k hk).trans (h.touch k hk hne)⟩
theorem Bx.below (h:Bx t wr g W cs) (hb:Below W.heap.size W W1):Bx t wr g W1 cs:=h.step hb.size (fun k hk=>hb.block k (Nat.lt_of_lt_of_le hk h.size))
theorem Bx.belowN (h:Bx t wr g W cs) {b:Nat} (hb:Below b W W1) (hle:wr.heap.size≤b):Bx t wr g W1 cs:=h.step hb.size (fun k hk=>hb.block k (Nat.lt_of_lt_of_le hk hle))
theorem Bx.grown (h:Bx t wr g W cs) {k0:Nat} (hg:W.grownBy W1 (some k0)) (hle:wr.heap.size≤k0):Bx t wr g W1 cs:=
 h.step hg.size (fun k hk=>hg.block k (Nat.lt_of_lt_of_le hk h.size) (fun e=>by injection e with e;omega))
theorem Bx.rebase (h:Bx t wr g W cs):Bx t W g W cs:=Bx.new h.blk
def okB (okc:Nat→Prop) (n0 n1:Nat):Nat→Prop:=fun k=>(okc k∧k < n0)∨n1≤k
theorem okB_ne {okc:Nat→Prop} {n0 n1:Nat} (h0:n0≤g) (h1:g < n1) (k:Nat) (h:okB okc n0 n1 k):k≠g:=by unfold okB at h;omega
theorem okB_fr {okc:Nat→Prop} {n0 n1 k:Nat} (h:n1≤k):okB okc n0 n1 k:=.inr h
theorem okB_in {okc:Nat→Prop} {n0 n1 k:Nat} (h:n0≤n1) (hk:okB okc n0 n1 k):okc k∨n0≤k:=by
 rcases hk with hk|hk
 · exact .inl hk.1
 · exact .inr (Nat.le_trans h hk)
theorem okB_of {okc:Nat→Prop} {n0 n1:Nat} (hF:Kd.F d w0 okc A m ys) (hn:w0.heap.size=n0) (hb:Below n0 w0 W):Kd.F d W (fun k=>okB okc n0 n1 k∧k < W.heap.size) A m ys:=by
 subst hn
 exact Kd.F_mono (Kd.F_below (Kd.F_bound hF) hb) (fun k hk=>⟨.inl hk,Nat.lt_of_lt_of_le hk.2 hb.size⟩)
variable {ok:Nat→Prop}
theorem Bx.F (h:Bx t wr g W cs) (hok:∀ k,ok k→k≠g) (hF:Kd.F d wr (fun k=>ok k∧k < wr.heap.size) A m ys):Kd.F d W (fun k=>ok k∧k < wr.heap.size) A m ys:=Kd.F_step hF (fun k hk _=>h.touch k hk.2 (hok k hk.1))
theorem Bx.F2 (h:Bx t wr g W cs) (hok:∀ k,ok k→k≠g) (hF:Kd.F d wr (fun k=>ok k∧k < wr.heap.size) A m ys):Kd.F d W (fun k=>ok k∧k < W.heap.size) A m ys:=Kd.F_mono (h.F hok hF) (fun k hk=>⟨hk.1,Nat.lt_of_lt_of_le hk.2 h.size⟩)
theorem jk3 (hF:Kd.F d W (fun k=>ok k∧k < W.heap.size) A m ys) (hb:Below W.heap.size W W1):Kd.F d W1 (fun k=>ok k∧k < W1.heap.size) A m ys:=Kd.F_mono (Kd.F_below hF hb) (fun k hk=>⟨hk.1,Nat.lt_of_lt_of_le hk.2 hb.size⟩)
theorem jj8 (hok:∀ k,ok k→k≠g) (hF:Kd.F d W (fun k=>ok k∧k < W.heap.size) A m ys) (hg:W.grownBy W1 (some g)):Kd.F d W1 (fun k=>ok k∧k < W1.heap.size) A m ys:=
 Kd.F_mono (Kd.F_grown hF hg (fun k hk he=>hok k hk.1 (by injection he))) (fun k hk=>⟨hk.1,Nat.lt_of_lt_of_le hk.2 hg.size⟩)
theorem Bx.Fcall (h:Bx t wr g W cs) (hfr:∀ k,wr.heap.size≤k→ok k) (hF:Kd.F d W1 (fun k=>(ok k∧k < wr.heap.size)∨W.heap.size≤k) A m ys):Kd.F d W1 (fun k=>ok k∧k < W1.heap.size) A m ys:=
 Kd.F_mono (Kd.F_bound hF) (fun k hk=>by
  rcases hk.1 with h3|h3
  · exact ⟨h3.1,hk.2⟩
  · exact ⟨hfr k (Nat.le_trans h.size h3),hk.2⟩)
end
section
variable {P:Program} {ops:Array Oper} {rest:List Oper} {o:Oper} {a:Act} {Q:Exit→Act→World→Prop} {K:Act→World→Prop} {t g:Nat} {wr W:World} {cs:Array Value}
theorem Bx.run (h:Bx t wr g W cs) (j:Nat) (v:Value) (cs':Array Value) {t':TypeId} {p x:Operand} (ho:o.op = .store t' p x) (haddr:a.eval p = .pointer (some ⟨g,j,none⟩)) (hx:a.eval x=v) (hj:j < cs.size) (h1:v.oneCell'=true) (hu:v.cells.toList=[v]) (ht:(P.info? t').map (·.size)=some 1) (hc:cs.setIfInBounds j v=cs') :
 ∃ W1,(execOp a.eval o).run P W = .ok .skip W1∧Bx t wr g W1 cs'∧W.grownBy W1 (some g)∧∀ B w0,B≤g→Below B w0 W→Below B w0 W1:=by
 subst hc
 have hrun:=run_store_run (P:=P) t' v [v] h.blk hu ht (by show j+1≤cs.size;omega) (fun q hq=>by rw [List.mem_singleton.1 hq];exact h1)
 have hW:W.setCells g j [v]=W.setCell ⟨g,j,none⟩ v:=rfl
 have hsz:(W.setCell ⟨g,j,none⟩ v).heap.size=W.heap.size:=by simp
 have hfar:∀ k,k≠g→(W.setCell ⟨g,j,none⟩ v).heap[k]?=W.heap[k]?:=fun k hk=>Below.heap_setCell W ⟨g,j,none⟩ v k hk
 rw [hW] at hrun
 refine ⟨_,?_,⟨h.glt,Nat.le_trans h.size (Nat.le_of_eq hsz.symm),blk_put h.blk j v rfl,fun k hk hne=>(hfar k hne).trans (h.touch k hk hne)⟩,⟨rfl,rfl,rfl,Nat.le_of_eq hsz.symm,fun k _ hk=>hfar k (fun e=>hk (by rw [e]))⟩,fun B w0 hB hbel=>hbel.setCell (p:=⟨g,j,none⟩) hB v⟩
 unfold execOp
 simp only [ho,haddr,hx,Sem.run_bind,Sem.run_pure,Result.andThen_ok,hrun]
theorem Bx.event (h:Bx t wr g W cs) (j:Nat) (v:Value) (cs':Array Value) {t':TypeId} {p:Tmp} {x:Operand}
 (hk:∀ w1,Bx t wr g w1 cs'→W.grownBy w1 (some g)→(∀ B w0,B≤g→Below B w0 W→Below B w0 w1)→wpList P ops Q rest a w1)
 (ho:o.op = .store t' (.tmp p) x:=by exact rfl) (haddr:a.eval (.tmp p) = .pointer (some ⟨g,j,none⟩):=by exact rfl) (hx:a.eval x=v:=by exact rfl) (hj:j < cs.size:=by exact Nat.le_of_ble_eq_true rfl) (h1:v.oneCell'=true:=by exact rfl) (hu:v.cells.toList=[v]:=by exact rfl) (ht:(P.info? t').map (·.size)=some 1:=by kernel_rfl) (hc:cs.setIfInBounds j v=cs':=by exact rfl)
 (hgd:o.guard=none:=by exact rfl) (hN:o.dst=none:=by exact rfl):wpList P ops Q (o :: rest) a W:=by
 obtain ⟨W1,hrun,hh,hg,hb⟩:=h.run (P:=P) (o:=o) (a:=a) j v cs' ho haddr hx hj h1 hu ht hc
 exact store_event hgd ho hN hrun (fun w' he=>by subst he;exact hk _ hh hg hb)
theorem Bx.estep (h:Bx t wr g W cs) (j:Nat) (v:Value) (cs':Array Value) {t':TypeId} {p x:Operand}
 (hk:∀ w1,Bx t wr g w1 cs'→W.grownBy w1 (some g)→(∀ B w0,B≤g→Below B w0 W→Below B w0 w1)→K a w1)
 (hw:Region.wanted o (yielded ops a.tmps)=true:=by rfl) (hN:o.dst=none:=by exact rfl) (ho:o.op = .store t' p x:=by exact rfl) (haddr:a.eval p = .pointer (some ⟨g,j,none⟩):=by exact rfl) (hx:a.eval x=v:=by exact rfl) (hj:j < cs.size:=by exact Nat.le_of_ble_eq_true rfl) (h1:v.oneCell'=true:=by exact rfl) (hu:v.cells.toList=[v]:=by exact rfl) (ht:(P.info? t').map (·.size)=some 1:=by kernel_rfl) (hc:cs.setIfInBounds j v=cs':=by exact rfl) :
 if Region.wanted o (yielded ops a.tmps)=true then Oper.wp P o a W K Q else K (a.put none undef) W:=by
 obtain ⟨W1,hrun,hh,hg,hb⟩:=h.run (P:=P) (o:=o) (a:=a) j v cs' ho haddr hx hj h1 hu ht hc
 exact skip_ hw hN hrun (hk _ hh hg hb)
end
theorem res_c1 {P:Program} {fn:Func} {p:Tmp} {ty:TypeId} (h:fn.results=#[.cell p ty]) (tmps:Array Value) (w:World) (g:Nat) (t:TypeId) (cs:Array Value) (fr:Nat × Nat) (d:TypeDesc)
 (hp:tmps.getD p undef = .pointer (some ⟨g,0,none⟩)) (hg:w.heap[g]?=some (.cells cs t fr))
 (hu:P.underlying ty=some d) (hd:(match d with | .struct _ | .array _ _=>true|_=>false)=true) (hi:(P.info? ty).map (·.size)=some cs.size) :
 (results fn tmps).run P w = .ok (.agg cs) w:=by
 have hp':tmps[p]?.getD undef = .pointer (some ⟨g,0,none⟩):=by simpa using hp
 simp [results,h,hp',asAddr,run_loadVar_row w g t ty cs fr d hg hu hd hi]
end Go.Proofs.Ytheoafenehckbaa.Ur
