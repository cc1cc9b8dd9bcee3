/- Shorter words for the walks. -/
import Derived.Test.YtheoafenehckbaaQW
import Derived.RegionTactic
import Derived.Test.YtheoafenehckbaaRows
namespace Go.Proofs.YtheoafenehckbaaW.PrintMore
open Go.RowKit YtheoafenehckbaaW.PrintWords YtheoafenehckbaaW.PrintLast
section
variable {P:Program} {ops:Array Oper} {Q:Exit→Act→World→Prop} {md:Region.Mode} {S:World→Prop} {ds:List Nat} {T:Bool × List (List Nat × List Nat)}
theorem pzS (i:Nat) (N:Option Tmp) (l':Array Bool) (HT:Aside0 (rtab md ops=T)) {oi:Oper} {v:Value} {fuel:Nat} {l:Array Bool} {a a':Act} {w:World} (h:jk6 P md ops Q S ds fuel l' a' w)
 (hi:ops[i]?=some oi:=by exact rfl) (hN:oi.dst=N:=by exact rfl) (hc:anyT T l.toList l'.toList i=true:=by kernel_rfl) (hQ:∀ c a w,Q (.panic c) (a.put oi.dst v) w→Q (.panic c) a w:=by exact fun _ _ _ h=>h)
 (hw:Region.wanted oi (yielded ops a.tmps)=true:=by rfl) (hy:∀ w,(execOp a.eval oi).run P w = .ok (.value v) w:=by (intro w';go_simp;with_reducible rfl))
 (ha:a.put N v=a':=by (simp only [Act.put,List.setIfInBounds_toArray,List.set_cons_zero,List.set_cons_succ,i64_w,i32_w];rfl)):jk6 P md ops Q S ds (fuel+1) l a w:=
 pure_ l' hi hN (any_of HT.out hc) hQ (.inl ⟨hw,hy⟩) ha h
theorem tzS {B:List Nat} (i:Nat) (N:Option Tmp) (l':Array Bool) (HT:Aside0 (rtab md ops=T)) (HW:Aside0 (waitsOk T.2 B=true)) {w:World} (hS:S w) {oi:Oper} {v:Value} {fuel:Nat} {l:Array Bool} {a a':Act} (h:jk6 P md ops Q S ds fuel l' a' w)
 (hi:ops[i]?=some oi:=by exact rfl) (hN:oi.dst=N:=by exact rfl) (hc:takeW T B ds l.toList l'.toList i=true:=by kernel_rfl) (hQ:∀ c a w,Q (.panic c) (a.put oi.dst v) w→Q (.panic c) a w:=by exact fun _ _ _ h=>h)
 (hw:Region.wanted oi (yielded ops a.tmps)=true:=by rfl) (hy:∀ w,S w→(execOp a.eval oi).run P w = .ok (.value v) w:=by (intro w' hk_;(repeat (obtain ⟨_,hk_⟩:=hk_));go_simp;with_reducible rfl))
 (ha:a.put N v=a':=by (simp only [Act.put,List.setIfInBounds_toArray,List.set_cons_zero,List.set_cons_succ,i64_w,i32_w];rfl)):jk6 P md ops Q S ds (fuel+1) l a w:=
 take_ l' hi hN (take_ofW HT.out HW.out hc) hQ (.inl ⟨hw,hy⟩) hS ha h
theorem nzS (N:Option Tmp) {fuel:Nat} {l:Array Bool} {a a':Act} {v:Value} {w:World} (h:jk6 P md ops Q S ds fuel l a' w) (ha:Act.put a N v=a':=by (simp only [Act.put,List.setIfInBounds_toArray,List.set_cons_zero,List.set_cons_succ,i64_w,i32_w];rfl)):jk6 P md ops Q S ds fuel l (Act.put a N v) w:=norm_ ha h
end
theorem cz2 {w:World} {g:Nat} {t:TypeId} {v0 v1:Value} (h:w.heap[g]?=some (.cells #[v0,v1] t (0,0))):w.cell? ⟨g,0,none⟩=some v0∧w.cell? ⟨g,1,none⟩=some v1:=by
 have b:=blk_cell h
 exact ⟨(b 0).trans rfl,(b 1).trans rfl⟩
theorem cz4 {w:World} {g:Nat} {t:TypeId} {v0 v1 v2 v3:Value} (h:w.heap[g]?=some (.cells #[v0,v1,v2,v3] t (0,0))):w.cell? ⟨g,0,none⟩=some v0∧w.cell? ⟨g,1,none⟩=some v1∧w.cell? ⟨g,2,none⟩=some v2∧w.cell? ⟨g,3,none⟩=some v3:=by
 have b:=blk_cell h
 exact ⟨(b 0).trans rfl,(b 1).trans rfl,(b 2).trans rfl,(b 3).trans rfl⟩
theorem cz3 {w:World} {g:Nat} {t:TypeId} {v0 v1 v2:Value} (h:w.heap[g]?=some (.cells #[v0,v1,v2] t (0,0))):w.cell? ⟨g,0,none⟩=some v0∧w.cell? ⟨g,1,none⟩=some v1∧w.cell? ⟨g,2,none⟩=some v2:=by
 have b:=blk_cell h
 exact ⟨(b 0).trans rfl,(b 1).trans rfl,(b 2).trans rfl⟩
theorem cz6 {w:World} {g:Nat} {t:TypeId} {v0 v1 v2 v3 v4 v5:Value} (h:w.heap[g]?=some (.cells #[v0,v1,v2,v3,v4,v5] t (0,0))):w.cell? ⟨g,0,none⟩=some v0∧w.cell? ⟨g,1,none⟩=some v1∧w.cell? ⟨g,2,none⟩=some v2∧w.cell? ⟨g,3,none⟩=some v3∧w.cell? ⟨g,4,none⟩=some v4∧w.cell? ⟨g,5,none⟩=some v5:=by
 have b:=blk_cell h
 exact ⟨(b 0).trans rfl,(b 1).trans rfl,(b 2).trans rfl,(b 3).trans rfl,(b 4).trans rfl,(b 5).trans rfl⟩
theorem cz7 {w:World} {g:Nat} {t:TypeId} {v0 v1 v2 v3 v4 v5 v6:Value} (h:w.heap[g]?=some (.cells #[v0,v1,v2,v3,v4,v5,v6] t (0,0))):w.cell? ⟨g,0,none⟩=some v0∧w.cell? ⟨g,1,none⟩=some v1∧w.cell? ⟨g,2,none⟩=some v2∧w.cell? ⟨g,3,none⟩=some v3∧w.cell? ⟨g,4,none⟩=some v4∧w.cell? ⟨g,5,none⟩=some v5∧w.cell? ⟨g,6,none⟩=some v6:=by
 have b:=blk_cell h
 exact ⟨(b 0).trans rfl,(b 1).trans rfl,(b 2).trans rfl,(b 3).trans rfl,(b 4).trans rfl,(b 5).trans rfl,(b 6).trans rfl⟩
theorem cz11 {w:World} {g:Nat} {t:TypeId} {v0 v1 v2 v3 v4 v5 v6 v7 v8 v9 v10:Value} (h:w.heap[g]?=some (.cells #[v0,v1,v2,v3,v4,v5,v6,v7,v8,v9,v10] t (0,0))):w.cell? ⟨g,0,none⟩=some v0∧w.cell? ⟨g,1,none⟩=some v1∧w.cell? ⟨g,2,none⟩=some v2∧w.cell? ⟨g,3,none⟩=some v3∧w.cell? ⟨g,4,none⟩=some v4∧w.cell? ⟨g,5,none⟩=some v5∧w.cell? ⟨g,6,none⟩=some v6∧w.cell? ⟨g,7,none⟩=some v7∧w.cell? ⟨g,8,none⟩=some v8∧w.cell? ⟨g,9,none⟩=some v9∧w.cell? ⟨g,10,none⟩=some v10:=by
 have b:=blk_cell h
 exact ⟨(b 0).trans rfl,(b 1).trans rfl,(b 2).trans rfl,(b 3).trans rfl,(b 4).trans rfl,(b 5).trans rfl,(b 6).trans rfl,(b 7).trans rfl,(b 8).trans rfl,(b 9).trans rfl,(b 10).trans rfl⟩
theorem cz13 {w:World} {g:Nat} {t:TypeId} {v0 v1 v2 v3 v4 v5 v6 v7 v8 v9 v10 v11 v12:Value} (h:w.heap[g]?=some (.cells #[v0,v1,v2,v3,v4,v5,v6,v7,v8,v9,v10,v11,v12] t (0,0))):w.cell? ⟨g,0,none⟩=some v0∧w.cell? ⟨g,1,none⟩=some v1∧w.cell? ⟨g,2,none⟩=some v2∧w.cell? ⟨g,3,none⟩=some v3∧w.cell? ⟨g,4,none⟩=some v4∧w.cell? ⟨g,5,none⟩=some v5∧w.cell? ⟨g,6,none⟩=some v6∧w.cell? ⟨g,7,none⟩=some v7∧w.cell? ⟨g,8,none⟩=some v8∧w.cell? ⟨g,9,none⟩=some v9∧w.cell? ⟨g,10,none⟩=some v10∧w.cell? ⟨g,11,none⟩=some v11∧w.cell? ⟨g,12,none⟩=some v12:=by
 have b:=blk_cell h
 exact ⟨(b 0).trans rfl,(b 1).trans rfl,(b 2).trans rfl,(b 3).trans rfl,(b 4).trans rfl,(b 5).trans rfl,(b 6).trans rfl,(b 7).trans rfl,(b 8).trans rfl,(b 9).trans rfl,(b 10).trans rfl,(b 11).trans rfl,(b 12).trans rfl⟩
theorem ezA {W:World} {ad:Addr} {m:Nat} {c:List Value} (h:∀ j u,c[j]?=some u→W.cell? (ad.add (m+j))=some u) (j:Nat) {v:Value} (hj:c[j]?=some v) (h0:0 < j):W.cell? ⟨(ad.add m).block,(ad.add m).off+j,none⟩=some v:=by
 rw [← add_field _ _ j h0]
 exact h j _ hj
theorem ez2 {W:World} {ad:Addr} {m:Nat} {v0 v1:Value} (h:∀ j u,[v0,v1][j]?=some u→W.cell? (ad.add (m+j))=some u):W.cell? (ad.add m)=some v0∧W.cell? ⟨(ad.add m).block,(ad.add m).off+1,none⟩=some v1:=
 ⟨h 0 _ rfl,ezA h 1 rfl (by decide)⟩
theorem ez3 {W:World} {ad:Addr} {m:Nat} {v0 v1 v2:Value} (h:∀ j u,[v0,v1,v2][j]?=some u→W.cell? (ad.add (m+j))=some u):W.cell? (ad.add m)=some v0∧W.cell? ⟨(ad.add m).block,(ad.add m).off+1,none⟩=some v1∧W.cell? ⟨(ad.add m).block,(ad.add m).off+2,none⟩=some v2:=
 ⟨h 0 _ rfl,ezA h 1 rfl (by decide),ezA h 2 rfl (by decide)⟩
theorem ez4 {W:World} {ad:Addr} {m:Nat} {v0 v1 v2 v3:Value} (h:∀ j u,[v0,v1,v2,v3][j]?=some u→W.cell? (ad.add (m+j))=some u):W.cell? (ad.add m)=some v0∧W.cell? ⟨(ad.add m).block,(ad.add m).off+1,none⟩=some v1∧W.cell? ⟨(ad.add m).block,(ad.add m).off+2,none⟩=some v2∧W.cell? ⟨(ad.add m).block,(ad.add m).off+3,none⟩=some v3:=
 ⟨h 0 _ rfl,ezA h 1 rfl (by decide),ezA h 2 rfl (by decide),ezA h 3 rfl (by decide)⟩
theorem ez7 {W:World} {ad:Addr} {m:Nat} {v0 v1 v2 v3 v4 v5 v6:Value} (h:∀ j u,[v0,v1,v2,v3,v4,v5,v6][j]?=some u→W.cell? (ad.add (m+j))=some u):W.cell? (ad.add m)=some v0∧W.cell? ⟨(ad.add m).block,(ad.add m).off+1,none⟩=some v1∧W.cell? ⟨(ad.add m).block,(ad.add m).off+2,none⟩=some v2∧W.cell? ⟨(ad.add m).block,(ad.add m).off+3,none⟩=some v3∧W.cell? ⟨(ad.add m).block,(ad.add m).off+4,none⟩=some v4∧W.cell? ⟨(ad.add m).block,(ad.add m).off+5,none⟩=some v5∧W.cell? ⟨(ad.add m).block,(ad.add m).off+6,none⟩=some v6:=
 ⟨h 0 _ rfl,ezA h 1 rfl (by decide),ezA h 2 rfl (by decide),ezA h 3 rfl (by decide),ezA h 4 rfl (by decide),ezA h 5 rfl (by decide),ezA h 6 rfl (by decide)⟩
theorem ez11 {W:World} {ad:Addr} {m:Nat} {v0 v1 v2 v3 v4 v5 v6 v7 v8 v9 v10:Value} (h:∀ j u,[v0,v1,v2,v3,v4,v5,v6,v7,v8,v9,v10][j]?=some u→W.cell? (ad.add (m+j))=some u):W.cell? (ad.add m)=some v0∧W.cell? ⟨(ad.add m).block,(ad.add m).off+1,none⟩=some v1∧W.cell? ⟨(ad.add m).block,(ad.add m).off+2,none⟩=some v2∧W.cell? ⟨(ad.add m).block,(ad.add m).off+3,none⟩=some v3∧W.cell? ⟨(ad.add m).block,(ad.add m).off+4,none⟩=some v4∧W.cell? ⟨(ad.add m).block,(ad.add m).off+5,none⟩=some v5∧W.cell? ⟨(ad.add m).block,(ad.add m).off+6,none⟩=some v6∧W.cell? ⟨(ad.add m).block,(ad.add m).off+7,none⟩=some v7∧W.cell? ⟨(ad.add m).block,(ad.add m).off+8,none⟩=some v8∧W.cell? ⟨(ad.add m).block,(ad.add m).off+9,none⟩=some v9∧W.cell? ⟨(ad.add m).block,(ad.add m).off+10,none⟩=some v10:=
 ⟨h 0 _ rfl,ezA h 1 rfl (by decide),ezA h 2 rfl (by decide),ezA h 3 rfl (by decide),ezA h 4 rfl (by decide),ezA h 5 rfl (by decide),ezA h 6 rfl (by decide),ezA h 7 rfl (by decide),ezA h 8 rfl (by decide),ezA h 9 rfl (by decide),ezA h 10 rfl (by decide)⟩
theorem ez13 {W:World} {ad:Addr} {m:Nat} {v0 v1 v2 v3 v4 v5 v6 v7 v8 v9 v10 v11 v12:Value} (h:∀ j u,[v0,v1,v2,v3,v4,v5,v6,v7,v8,v9,v10,v11,v12][j]?=some u→W.cell? (ad.add (m+j))=some u):W.cell? (ad.add m)=some v0∧W.cell? ⟨(ad.add m).block,(ad.add m).off+1,none⟩=some v1∧W.cell? ⟨(ad.add m).block,(ad.add m).off+2,none⟩=some v2∧W.cell? ⟨(ad.add m).block,(ad.add m).off+3,none⟩=some v3∧W.cell? ⟨(ad.add m).block,(ad.add m).off+4,none⟩=some v4∧W.cell? ⟨(ad.add m).block,(ad.add m).off+5,none⟩=some v5∧W.cell? ⟨(ad.add m).block,(ad.add m).off+6,none⟩=some v6∧W.cell? ⟨(ad.add m).block,(ad.add m).off+7,none⟩=some v7∧W.cell? ⟨(ad.add m).block,(ad.add m).off+8,none⟩=some v8∧W.cell? ⟨(ad.add m).block,(ad.add m).off+9,none⟩=some v9∧W.cell? ⟨(ad.add m).block,(ad.add m).off+10,none⟩=some v10∧W.cell? ⟨(ad.add m).block,(ad.add m).off+11,none⟩=some v11∧W.cell? ⟨(ad.add m).block,(ad.add m).off+12,none⟩=some v12:=
 ⟨h 0 _ rfl,ezA h 1 rfl (by decide),ezA h 2 rfl (by decide),ezA h 3 rfl (by decide),ezA h 4 rfl (by decide),ezA h 5 rfl (by decide),ezA h 6 rfl (by decide),ezA h 7 rfl (by decide),ezA h 8 rfl (by decide),ezA h 9 rfl (by decide),ezA h 10 rfl (by decide),ezA h 11 rfl (by decide),ezA h 12 rfl (by decide)⟩
def bzsL:Nat→Nat→List Bool
 | 0,_=>[]
 | n+1,k=>(k % 2==1) :: bzsL n (k / 2)
def bzs (n k:Nat):Array Bool:=(bzsL n k).toArray
theorem bzC {w:World} {g:Nat} {t:TypeId} {cs:Array Value} (h:Aside0 (w.heap[g]?=some (.cells cs t (0,0)))) (i:Nat) {v:Value} (hv:cs[i]?=some v:=by exact rfl):w.cell? ⟨g,i,none⟩=some v:=(blk_cell h.out i).trans hv
theorem pzB {w w1:World} (h:Aside0 (Below w.heap.size w w1)) {a:Addr} {v:Value} (hc:w.cell? a=some v):w1.cell? a=some v:=pw_cell_below h.out hc
section
variable {P:Program} {ops:Array Oper} {rest:List Oper} {o:Oper} {a:Act} {Q:Exit→Act→World→Prop}
theorem bzX (N:Tmp) (cs:Array Value) (t:TypeId) {W:World} (h:∀ g,g=W.heap.size→∀ w1,w1.heap[g]?=some (.cells cs t (0,0))→Below W.heap.size W w1→wpList P ops Q rest (a.put o.dst (.pointer (some ⟨g,0,none⟩))) w1)
 (hgd:o.guard=none:=by rfl) (hd:o.dst=some N:=by rfl) (hrun:(execOp a.eval o).run P W = .ok (.value (.pointer (some ⟨W.heap.size,0,none⟩))) (W.alloc (.cells cs t (0,0))):=by (first|(go_simp;done)|(go_simp;rfl))):wpList P ops Q (o :: rest) a W:=box_event hgd hd hrun h
end
section
variable {P:Program} {ops:Array Oper} {Q:Exit→Act→World→Prop}
theorem gzO {oi:Oper} {N:Option Tmp} {a:Act} {w:World} {K:Act→World→Prop} {f:FuncId} {fn:Func} {xs:Array Operand} {ts:Array TypeId} (hf:P.funcs[f]?=some fn) (args:Array Value)
 (h : Calls P f args w fun e w' => ∃ v, e = .returned v ∧ K (a.put N v) w') (hname : (fn.name == "runtime.NumGoroutine") = false := by kernel_rfl) (hb : fn.body.isSome = true := by exact rfl)
 (hw:Region.wanted oi (yielded ops a.tmps)=true:=by rfl) (hN:oi.dst=N:=by exact rfl) (hop:oi.op = .call { callee:=.value (.func f),args:=xs,argTypes:=ts }:=by exact rfl) (hargs:xs.map a.eval=args:=by ((try simp only [List.map_toArray,List.map_cons,List.map_nil]);first|done|rfl)) :
 if Region.wanted oi (yielded ops a.tmps)=true then Oper.wp P oi a w K Q else K (a.put N undef) w:=goes_ hf hname hb args hw hN hop hargs h
end
theorem cvzL {W w:World} {A:Option Addr} {n:Nat} {xs:List Int} (c:Nat) (h:Aside0 (Kd.C (Kd.int .u8) W A n xs)) (hb:Aside0 (Below W.heap.size W w)):(convert 28 9 (.slice A n c)).run Try.prog w = .ok (.string (strOfNums xs)) w:=
 Kd.C_string (P:=Try.prog) (c:=c) Try.underlying28 Try.underlying5 Try.underlying9 (Kd.jj0 h.out hb.out)
end Go.Proofs.YtheoafenehckbaaW.PrintMore
