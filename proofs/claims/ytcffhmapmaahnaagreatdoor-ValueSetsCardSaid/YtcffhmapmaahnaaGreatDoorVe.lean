/-
  phrasebooklaw13.ValueSets returns true for every two values and every path, and leaves its arguments as they were; no condition is asked but that the tables of the library lie as the program lays them (the card ties them).
-/
import Derived.Test.YtcffhmapmaahnaaGreatDoorVe5
set_option linter.all false
set_option maxHeartbeats 4000000
set_option maxRecDepth 100000
namespace Go.Proofs.YtcffhmapmaahnaaGreatDoor
open Sw
open Go.RowKit (intOf Below)
section
variable {P:Program} {QP:List PanicEntry→World→Prop} {w:World} {k:Value→World→Prop}
theorem op_sliceTail {t e:TypeId} {agg:Bool} {n m:Nat} {z:Value} (hu:P.underlying t=some (.slice e)) (ht:TyInfo P e agg n m z) (b o len cap:Nat) (hl:1≤len) (hc:len≤cap) :
 opV P (Instr.sliceAt t (.slice (some ⟨b,o,none⟩) len cap) (some (.int .i64 1)) none none) QP w k=k (.slice (some ⟨b,if cap=1 then o else o+n,none⟩) (len - 1) (cap - 1)) w:=by
 refine opV_ok ?_
 have h2:(1:Int)≤(len:Int):=by omega
 have h3:(0:Int)≤1:=by omega
 by_cases h:cap=1
 · simp [Instr.sliceAt,run_underlying hu,Instr.slice,Instr.sliceBounds,run_sliceBound,h2,h3,h,Sw.run_sizeOf ht,Addr.add_lit]
 · simp [Instr.sliceAt,run_underlying hu,Instr.slice,Instr.sliceBounds,run_sliceBound,h2,h3,h,Sw.run_sizeOf ht,Addr.add_lit]
end
def mask (w:World) (F:List Nat):World:={ w with heap:=w.heap.mapIdx fun i o=>if i∈F then .deferred none else o }
theorem mask_heap (w:World) (F:List Nat) (k:Nat):(mask w F).heap[k]?=(w.heap[k]?).map fun o=>if k∈F then .deferred none else o:=by
 show (w.heap.mapIdx _)[k]?=_
 rw [Array.getElem?_mapIdx]
theorem mask_out {w:World} {F:List Nat} {k:Nat} (h:k ∉ F):(mask w F).heap[k]?=w.heap[k]?:=by
 rw [mask_heap]
 cases w.heap[k]? with
 | none=>rfl
 | some o=>rw [Option.map_some,if_neg h]
theorem mask_cell {w:World} {F:List Nat} {b o:Nat} {u:Value} (h:(mask w F).cell? ⟨b,o,none⟩=some u):b ∉ F∧w.cell? ⟨b,o,none⟩=some u:=by
 by_cases hb:b∈F
 · exfalso
   unfold World.cell? at h
   simp only at h
   rw [mask_heap] at h
   cases hh:w.heap[b]? with
   | none=>rw [hh] at h;cases h
   | some x =>
    rw [hh,Option.map_some,if_pos hb] at h
    cases h
 · refine ⟨hb,?_⟩
   rw [← h]
   exact (World.cell?_of_block (mask_out hb)).symm
theorem mask_cx {w w':World} {F F':List Nat} (h:∀ k,k < w.heap.size→k ∉ F→k ∉ F'∧w'.heap[k]?=w.heap[k]?):CellX (mask w F) (mask w' F'):=by
 intro b o u hu
 obtain ⟨hb,hc⟩:=mask_cell hu
 have hl:=World.block_lt_of_cell? w _ hc
 obtain ⟨h1,h2⟩:=h b hl hb
 rw [show (mask w' F').cell? ⟨b,o,none⟩=w'.cell? ⟨b,o,none⟩ from World.cell?_of_block (mask_out h1),← hc]
 exact World.cell?_of_block h2
theorem mask_all (w:World) (F:List Nat):CellX (mask w F) w:=fun b o u hu=>(mask_cell hu).2
theorem mask_nil (w:World):CellX w (mask w []):=fun b o u hu=>by
 rw [← hu]
 exact World.cell?_of_block (mask_out (by simp))
theorem TrsOf.cx {w w':World} {v:Value} {l:List Tr} (h:TrsOf w v l) (e:CellX w w'):TrsOf w' v l:=SliceOf.cx (E:=ETr w) (E':=ETr w') e (fun cs x _ h=>ETr.cx e x cs h) h
theorem ValAt.cx {w w':World} {v:Value} {t:Tr} (h:ValAt w v t) (e:CellX w w'):ValAt w' v t:=by
 obtain ⟨a,b,c,h0,h1,h2,h3⟩:=h
 exact ⟨a,b,c,h0,h1.cx e,h2.cx e,h3.cx e⟩
theorem SliceOf.tail {α:Type} {w:World} {n b o cap:Nat} {E:World→List Value→α→Prop} {x:α} {l:List α} (h:SliceOf w n E (.slice (some ⟨b,o,none⟩) (x::l).length cap) (x::l)):SliceOf w n E (.slice (some ⟨b,if cap=1 then o else o+n,none⟩) ((x::l).length - 1) (cap - 1)) l:=by
 obtain ⟨A,c,h1,h2,h3,h4⟩:=h
 injection h1 with e1 _ e2
 subst e1 e2
 rw [List.length_cons] at h2
 refine ⟨_,_,rfl,by omega,by omega,fun hne=>?_⟩
 have hpos:0 < l.length:=List.length_pos_iff.2 hne
 obtain ⟨b',o',h5,h6⟩:=h4 (by simp)
 injection h5 with h5
 injection h5 with e1 e2 _
 subst e1 e2
 refine ⟨b,_,rfl,fun k y hy=>?_⟩
 obtain ⟨cs,g1,g2,g3⟩:=h6 (k+1) y (by simpa using hy)
 refine ⟨cs,g1,?_,g3⟩
 rw [if_neg (by omega)]
 have:o+n+k*n=o+(k+1)*n:=by rw [Nat.add_mul];omega
 rw [this]
 exact g2
def PutK (w0:World) (F:List Nat) (l:List Stp) (t to:Tr) (r:Value) (w':World):Prop:=Ext w0 w'∧∃ v3 t3 b,r = .tuple #[v3,.bool b]∧ValAt (mask w' F) v3 t3∧(match putT to l t with
 | none=>b=false
 | some x=>b=true∧t3=x)
theorem put_fin {w0 w:World} {F:List Nat} {l:List Stp} {t to t3:Tr} {p:Nat} {d0 d1 d2 d3 d4:Value} {b:Bool} (hp:w0.heap.size≤p) (e:Ext w0 w) (hV:∀ w',(∀ k,k≠p→w'.heap[k]?=w.heap[k]?)→Ext w0 w'→w'.heap.size=w.heap.size→ValAt (mask w' F) (.agg #[d0,d1,d2,d3,d4]) t3) (h:match putT to l t with
 | none=>b=false
 | some x=>b=true∧t3=x):PutK w0 F l t to (.tuple #[.agg #[d0,d1,d2,d3,d4],.bool b]) (setCells w p 0 [d0,d1,d2,d3,d4]) :=
 val_fin (A:=w0) (w:=w) (p:=p) (d0:=d0) (d1:=d1) (d2:=d2) (d3:=d3) (d4:=d4) (e := .bool b) (Q:=PutK w0 F l t to) hp e fun w' e' k' z'=>⟨e',_,t3,b,rfl,hV w' k' e' z',h⟩
theorem rput_tail {w0 w:World} {F G:List Nat} {l:List Stp} {t to y3:Tr} {bv hv pv b3 h3 p3:Value} {i p9:Nat} {b:Bool} (hF:∀ k∈F,k < w0.heap.size) (e:Ext w0 w) (hV:ValAt (mask w0 F) (.agg (trCells t.nd bv hv pv).toArray) t) (c1:w.heap[w0.heap.size]?=some (.cells #[.string t.nd.name,.int .i64 t.nd.int,bv,hv,pv] 26 (0,0))) (c3:w.heap[w0.heap.size+2]?=some (.cells #[.string ByteArray.empty,.int .i64 0,.slice none 0 0,.slice none 0 0,.slice none 0 0] 26 (0,0))) (c9:w.heap[p9]?=some (.cells #[.string y3.nd.name,.int .i64 y3.nd.int,b3,h3,p3] 26 (0,0))) (h9:w0.heap.size+3≤p9) (hi:i < t.ps.length) (hn:nodesT t≤65536)
 (hx:ValAt (mask w G) (.agg (trCells y3.nd b3 h3 p3).toArray) y3) (hG:∀ k,k ∉ G→k ∉ F∧k≠w0.heap.size∧k≠w0.heap.size+2) (hm:match putT to l t with
 | none=>b=false
 | some x=>b=true∧Tr.mk t.nd (t.ps.set i y3)=x) :
  n31c1 (.pointer (some ⟨w0.heap.size,0,none⟩)) (.pointer (some ⟨w0.heap.size+2,0,none⟩)) (.pointer (some ⟨p9,0,none⟩)) (.bool b) (.int .i64 (i:Int)) (retR (PutK w0 F l t to)) w:=by
 obtain ⟨q1,q2,q3,hq0,f1,f2,f3⟩:=hV
 injection hq0 with hq0
 have hq0:=congrArg Array.toList hq0
 unfold trCells at hq0
 injection hq0 with _ hq0
 injection hq0 with _ hq0
 injection hq0 with d1 hq0
 injection hq0 with d2 hq0
 injection hq0 with d3 _
 subst d1 d2 d3
 obtain ⟨z1,z2,z3,hz0,g1,g2,g3⟩:=hx
 injection hz0 with hz0
 have hz0:=congrArg Array.toList hz0
 unfold trCells at hz0
 injection hz0 with _ hz0
 injection hz0 with _ hz0
 injection hz0 with d1 hz0
 injection hz0 with d2 hz0
 injection hz0 with d3 _
 subst d1 d2 d3
 have ov:=SliceOf.oneCell f1
 have oh:=SliceOf.oneCell f2
 have yb:=SliceOf.oneCell g1
 have yh:=SliceOf.oneCell g2
 have yp:=SliceOf.oneCell g3
 obtain ⟨A,cap,rfl,hlc,hcm,hlm,hel⟩:=SliceOf.open f3
 have hbs:∃ b0 o0,A=some ⟨b0,o0,none⟩:=by
  obtain ⟨y,hy⟩:=getElem?_lt hi
  obtain ⟨b0,o0,_,h,_⟩:=hel i y hy
  exact ⟨b0,o0,h⟩
 obtain ⟨b0,o0,rfl⟩:=hbs
 obtain ⟨css,hcl,hcs⟩:∃ css:List (Cs 5),css.length=t.ps.length∧∀ k y c,t.ps[k]?=some y→css[k]?=some c→ElemAt (mask w0 F) b0 (o0+k*5) c.1∧ETr (mask w0 F) c.1 y:=by
  have hx:∀ k:Nat,∃ c:Cs 5,∀ y,t.ps[k]?=some y→ElemAt (mask w0 F) b0 (o0+k*5) c.1∧ETr (mask w0 F) c.1 y:=fun k=>by
   cases hy:t.ps[k]? with
   | none=>exact ⟨⟨[.nilIface,.nilIface,.nilIface,.nilIface,.nilIface],rfl⟩,fun y h=>by cases h⟩
   | some y =>
    obtain ⟨b',o',cs,h1,h2,h3,h4⟩:=hel k y hy
    injection h1 with h1
    injection h1 with h1 h1' _
    subst h1 h1'
    exact ⟨⟨cs,h2⟩,fun y' hy'=>by injection hy' with hy';subst hy';exact ⟨h3,h4⟩⟩
  refine ⟨(List.range t.ps.length).map fun k=>Classical.choose (hx k),by simp,fun k y c hy hc=>?_⟩
  have hk:=(List.getElem?_eq_some_iff.1 hy).1
  rw [List.getElem?_map,List.getElem?_range hk] at hc
  injection hc with hc
  rw [← hc]
  exact Classical.choose_spec (hx k) y hy
 have hw0:w0.heap.size+2 < w.heap.size:=(Array.getElem?_eq_some_iff.1 c3).1
 have h9w:p9 < w.heap.size:=(Array.getElem?_eq_some_iff.1 c9).1
 unfold n31c1
 simp (disch:=try exact DI) only [↓PR,QR,simprocAttr,(cells_of_heap c1).1,fun o=>(cells_of_heap (((Ext.refl w).alloc o).obj c1)).1]
 have hO:=OwnE.new w 26 5 (Subtype.val:Cs 5→List Value) [] (fun x=>x.2) (by simp)
 simp only [List.flatMap_nil,List.length_nil] at hO
 have e2:Ext w (w.alloc (.cells #[] 26)):=ee
 have zz:(w.alloc (.cells #[] 26)).heap.size=w.heap.size+1:=by simp
 change OwnE (w.alloc (.cells #[] 26)) w.heap.size 26 5 _ _ [] at hO
 generalize (w.alloc (.cells #[] 26))=w2 at *
 have c1:=e2.obj c1
 have c3:=e2.obj c3
 have c9:=e2.obj c9
 have e:=e.trans e2
 have hpn:=nodesT_ps t
 have hby:=by26
 have hlen:t.ps.length≤65536:=by have:=hpn.1;omega
 rw [← hcl]
 refine op_appendL (l:=[]) (l':=css) Tryz.underlying24 ty26 rfl (by decide) (fun x=>x.2) (fun y hy u hu=>?_) hO (fun j y hy=>?_) (by omega) (by omega) ?_ (by simp;omega) ?_
 · obtain ⟨k,hk,hy⟩:=List.getElem_of_mem hy
   obtain ⟨x,hx⟩:=getElem?_lt (l:=t.ps) (k:=k) (by omega)
   have:=(hcs k x y hx (by rw [List.getElem?_eq_getElem hk,hy])).2
   exact this.cells5 u hu
 · obtain ⟨x,hx⟩:=getElem?_lt (l:=t.ps) (k:=j) (by have:=(List.getElem?_eq_some_iff.1 hy).1;omega)
   exact (ElemAt.cx (hcs j x y hx hy).1 (mask_all w0 F)).ext e
 · simp only [List.length_nil,Nat.zero_add]
   exact Nat.le_trans (Nat.mul_le_mul (show css.length≤200000001 by omega) hby) (by decide)
 · intro g cap2 w4 ho hg hgg hgl
   rw [List.length_nil,Nat.zero_add,List.nil_append] at ho
   rw [List.length_nil,Nat.zero_add]
   have hgw:w.heap.size≤g:=by
    rcases hgg with h | h
    · have h:w.heap.size=g:=by injection h
      omega
    · omega
   have hrow:∀ b,b < w.heap.size→w4.heap[b]?=w2.heap[b]?:=fun b hb=>hg.block b (by omega) (fun h=>by
    have h:w.heap.size=b:=by injection h with h;exact h.symm
    omega)
   have z4:=hg.size
   have c1':=(hrow _ (by omega)).trans c1
   have c3':=(hrow _ (by omega)).trans c3
   have c9':=(hrow _ (by omega)).trans c9
   have k1:=heap_set (o:=4) c1' (.slice (some ⟨g,0,none⟩) css.length cap2)
   change _=some (Obj.cells #[.string t.nd.name,.int .i64 t.nd.int,bv,hv,.slice (some ⟨g,0,none⟩) css.length cap2] 26 (0,0)) at k1
   have k3:(w4.setCell ⟨w0.heap.size,4,none⟩ (.slice (some ⟨g,0,none⟩) css.length cap2)).heap[w0.heap.size+2]?=_:=(heap_setE (by omega)).trans c3'
   have k9:(w4.setCell ⟨w0.heap.size,4,none⟩ (.slice (some ⟨g,0,none⟩) css.length cap2)).heap[p9]?=_:=(heap_setE (by omega)).trans c9'
   have hic:(i:Int) < (css.length:Int):=by omega
   obtain ⟨cur,hcur,hcs5⟩:∃ cur,w4.heap[g]?=some (.cells cur 26 (0,0))∧i*5+5≤cur.size:=by
    rcases ho.2 with ⟨h0,_⟩ | ⟨g2,cap3,cur,hv,_,hg2,hcap,_,hsz,_⟩
    · cases h0
    · injection hv with hv
      injection hv with hv
      injection hv with hv
      subst hv
      exact ⟨cur,hg2,by omega⟩
   have hcur5:(w4.setCell ⟨w0.heap.size,4,none⟩ (.slice (some ⟨g,0,none⟩) css.length cap2)).heap[g]?=_:=(heap_setE (by omega)).trans hcur
   obtain ⟨v0,hv0⟩:∃ v,cur[i*5]?=some v:=⟨_,Array.getElem?_eq_getElem (by omega)⟩
   obtain ⟨v1,hv1⟩:∃ v,cur[i*5+1]?=some v:=⟨_,Array.getElem?_eq_getElem (by omega)⟩
   obtain ⟨v2,hv2⟩:∃ v,cur[i*5+2]?=some v:=⟨_,Array.getElem?_eq_getElem (by omega)⟩
   obtain ⟨v3,hv3⟩:∃ v,cur[i*5+3]?=some v:=⟨_,Array.getElem?_eq_getElem (by omega)⟩
   obtain ⟨v4,hv4⟩:∃ v,cur[i*5+4]?=some v:=⟨_,Array.getElem?_eq_getElem (by omega)⟩
   obtain ⟨d,hd⟩:=getElem?_lt (l:=css) (k:=i) (by omega)
   have o5:OwnE (w4.setCell ⟨w0.heap.size,4,none⟩ (.slice (some ⟨g,0,none⟩) css.length cap2)) w.heap.size 26 5 (Subtype.val:Cs 5→List Value) (.slice (some ⟨g,0,none⟩) css.length cap2) css:=OwnE.same ho fun j hj=>by
    have:g=j:=by cases hj;rfl
    exact heap_setE (by omega)
   have x5:Ext w0 (w4.setCell ⟨w0.heap.size,4,none⟩ (.slice (some ⟨g,0,none⟩) css.length cap2)):=(show Ext w0 w4 from ⟨hg.os.trans e.os,hg.tape.trans e.tape,hg.output.trans e.output,Nat.le_trans e.size hg.size,fun b hb=>(hrow b (by omega)).trans (e.block b hb)⟩).setCell (Nat.le_refl _) _
   have b5:∀ b,b < w.heap.size→b≠w0.heap.size→(w4.setCell ⟨w0.heap.size,4,none⟩ (.slice (some ⟨g,0,none⟩) css.length cap2)).heap[b]?=w.heap[b]?:=fun b h1 h2=>(heap_setE h2).trans ((hrow b h1).trans (e2.block b h1))
   have z5:(w4.setCell ⟨w0.heap.size,4,none⟩ (.slice (some ⟨g,0,none⟩) css.length cap2)).heap.size=w4.heap.size:=by simp
   generalize hw5:w4.setCell ⟨w0.heap.size,4,none⟩ (.slice (some ⟨g,0,none⟩) css.length cap2)=w5 at *
   have u6:Only g w5 (setCells w5 g (i*5) (trCells y3.nd b3 h3 p3)):=scOnly _ _ _
   have z6:=setCells_size (trCells y3.nd b3 h3 p3) (b:=g) w5 (i*5)
   have x6:Ext w0 (setCells w5 g (i*5) (trCells y3.nd b3 h3 p3)):=scExt (by omega) _ _ x5
   have o6:=OwnE.setAll o5 hd (⟨trCells y3.nd b3 h3 p3,rfl⟩:Cs 5)
   change OwnE (setCells w5 g (i*5) (trCells y3.nd b3 h3 p3)) _ _ _ _ _ _ at o6
   suffices hfin:PutK w0 F l t to (.tuple #[.agg #[.string t.nd.name,.int .i64 t.nd.int,bv,hv,.slice (some ⟨g,0,none⟩) css.length cap2],.bool b]) (setCells (setCells w5 g (i*5) (trCells y3.nd b3 h3 p3)) (w0.heap.size+2) 0 [.string t.nd.name,.int .i64 t.nd.int,bv,hv,.slice (some ⟨g,0,none⟩) css.length cap2]) by
    subst hw5
    simp (disch:=try exact DI) only [↓PR,QR,simprocAttr,(cells_of_heap c1').1,(cells_of_heap c1').2,(cells_of_heap k1).1,(cells_of_heap k9).1,hic,(cells_of_heap hcur).1,(cells_of_heap hcur5).1,(cells_of_heap hcur5).2,hv0,hv1,hv2,hv3,hv4,(cells_of_heap c3').1,(cells_of_heap k3).2]
    exact hfin
   generalize setCells w5 g (i*5) (trCells y3.nd b3 h3 p3)=w6 at *
   refine put_fin (w:=w6) (p:=w0.heap.size+2) (t3 := .mk t.nd (t.ps.set i y3)) (by omega) x6 (fun w' kk e' z'=>?_) ?_
   · have hbase:CellX (mask w0 F) (mask w' F):=mask_cx fun k h1 h2=>⟨h2,e'.block k h1⟩
     have hG2:CellX (mask w G) (mask w' F):=mask_cx fun k h1 h2=>by
      obtain ⟨h4,h5,h6⟩:=hG k h2
      exact ⟨h4,(kk k h6).trans ((u6 k (by omega)).trans (b5 k h1 h5))⟩
     have o7:OwnE (mask w' F) w.heap.size 26 5 (Subtype.val:Cs 5→List Value) (.slice (some ⟨g,0,none⟩) css.length cap2) (css.set i ⟨trCells y3.nd b3 h3 p3,rfl⟩):=OwnE.same o6 fun j hj=>by
      have:g=j:=by cases hj;rfl
      subst this
      rw [mask_out (fun h=>by have:=hF g h;omega)]
      exact kk g (by omega)
     refine ⟨bv,hv,_,rfl,f1.cx hbase,f2.cx hbase,o7.reads ⟨by simp [hcl,Tr.ps],fun k y c hy hc=>?_⟩⟩
     change (t.ps.set i y3)[k]?=some y at hy
     rcases set_get hy with ⟨rfl,rfl⟩ | ⟨hk,hy⟩
     · rcases set_get hc with ⟨_,rfl⟩ | ⟨hk,_⟩
       · exact ETr.cx hG2 _ _ (ETr_of.2 ⟨_,_,_,rfl,g1,g2,g3⟩)
       · exact absurd rfl hk
     · rcases set_get hc with ⟨rfl,_⟩ | ⟨_,hc⟩
       · exact absurd rfl hk
       · exact ETr.cx hbase _ _ (hcs k y c hy hc).2
   · revert hm
     cases putT to l t with
     | none=>exact id
     | some x=>exact id
theorem rput_ret (to:Tr):∀ (rows:List Stp) (w0:World) (F:List Nat) (v u lv:Value) (t:Tr),(∀ k∈F,k < w0.heap.size)→ValAt (mask w0 F) v t→ValAt (mask w0 F) u to→SliceOf w0 2 EStp lv rows→(∀ x∈rows,x.2≤9223372036854775807)→nodesT t≤65536→Ret Pg 57 #[v,lv,u] w0 fun r w'=>PutK w0 F (rows.map capS) t to r w':=by
 intro rows
 induction rows with
 | nil =>
  intro w0 F v u lv t hF hv hu hl hb hn
  obtain ⟨bv,hv',pv,rfl,a1,a2,a3,a4,a5,a6⟩:=hv.op
  obtain ⟨bu,hu',pu,rfl,b1,b2,b3,b4,b5,b6⟩:=hu.op
  obtain ⟨A,c,rfl,_⟩:=SliceOf.open hl
  have hU:ValAt (mask w0 F) (.agg #[.string to.nd.name,.int .i64 to.nd.int,bu,hu',pu]) to:=⟨_,_,_,rfl,b1,b2,b3⟩
  refine n31s (R:=retR _) ?_;unfold n31
  have h0:((([]:List Stp).length:Int) == 0)=true:=rfl
  simp (disch:=try exact DI) only [↓PR,QR,simprocAttr,h0]
  have e1:Ext w0 (w0.alloc (.cells (trCells t.nd bv hv' pv).toArray 26)):=(Ext.refl w0).alloc _
  have z1:(w0.alloc (.cells (trCells t.nd bv hv' pv).toArray 26)).heap.size=w0.heap.size+1:=by simp
  generalize (w0.alloc (.cells (trCells t.nd bv hv' pv).toArray 26))=w1 at *
  have c2:=heap_new w1 #[.string to.nd.name,.int .i64 to.nd.int,bu,hu',pu] 26
  change (w1.alloc (.cells (trCells to.nd bu hu' pu).toArray 26)).heap[w1.heap.size]?=_ at c2
  have e2:Ext w1 (w1.alloc (.cells (trCells to.nd bu hu' pu).toArray 26)):=(Ext.refl w1).alloc _
  have z2:(w1.alloc (.cells (trCells to.nd bu hu' pu).toArray 26)).heap.size=w1.heap.size+1:=by simp
  generalize (w1.alloc (.cells (trCells to.nd bu hu' pu).toArray 26))=w2 at *
  have c3:=heap_new w2 #[.string ByteArray.empty,.int .i64 0,.slice none 0 0,.slice none 0 0,.slice none 0 0] 26
  have e3:Ext w2 (w2.alloc (.cells #[.string ByteArray.empty,.int .i64 0,.slice none 0 0,.slice none 0 0,.slice none 0 0] 26)):=ee
  generalize (w2.alloc (.cells #[.string ByteArray.empty,.int .i64 0,.slice none 0 0,.slice none 0 0,.slice none 0 0] 26))=w3 at *
  rw [z2,z1] at c3
  rw [z1] at c2
  have e:=e1.trans (e2.trans e3)
  have c2:=e3.obj c2
  unfold n31c8
  simp (disch:=try exact DI) only [↓PR,QR,simprocAttr,(cells_of_heap c2).1,(cells_of_heap c3).1,(cells_of_heap c3).2]
  exact put_fin (w:=w3) (p:=w0.heap.size+1+1) (by omega) e (fun w' _ e' _=>hU.cx (mask_cx fun k hk hkF=>⟨hkF,e'.block k hk⟩)) ⟨rfl,rfl⟩
 | cons x rows ih =>
  intro w0 F v u lv t hF hv hu hl hb hn
  obtain ⟨bv,hv',pv,rfl,a1,a2,a3,a4,a5,a6⟩:=hv.op
  obtain ⟨bu,hu',pu,rfl,b1,b2,b3,b4,b5,b6⟩:=hu.op
  obtain ⟨A,c,rfl,hlc,hcm,hlm,hel⟩:=SliceOf.open hl
  obtain ⟨bb,oo,cs0,rfl,hl0,hA0,rfl⟩:=hel 0 x rfl
  have hTm:ValAt (mask w0 F) (.agg #[.string t.nd.name,.int .i64 t.nd.int,bv,hv',pv]) t:=⟨_,_,_,rfl,a1,a2,a3⟩
  have hT:=hTm.cx (mask_all w0 F)
  have hU:ValAt (mask w0 F) (.agg #[.string to.nd.name,.int .i64 to.nd.int,bu,hu',pu]) to:=⟨_,_,_,rfl,b1,b2,b3⟩
  refine n31s (R:=retR _) ?_;unfold n31
  have h0:(((x::rows).length:Int) == 0)=false:=by simp<;>omega
  simp (disch:=try exact DI) only [↓PR,QR,simprocAttr,h0]
  rw [show (Value.agg (trCells t.nd bv hv' pv).toArray).cells=(trCells t.nd bv hv' pv).toArray from rfl,show (Value.agg (trCells to.nd bu hu' pu).toArray).cells=(trCells to.nd bu hu' pu).toArray from rfl]
  have c1:=heap_new w0 #[.string t.nd.name,.int .i64 t.nd.int,bv,hv',pv] 26
  change (w0.alloc (.cells (trCells t.nd bv hv' pv).toArray 26)).heap[w0.heap.size]?=_ at c1
  have e1:Ext w0 (w0.alloc (.cells (trCells t.nd bv hv' pv).toArray 26)):=(Ext.refl w0).alloc _
  have z1:(w0.alloc (.cells (trCells t.nd bv hv' pv).toArray 26)).heap.size=w0.heap.size+1:=by simp
  generalize (w0.alloc (.cells (trCells t.nd bv hv' pv).toArray 26))=w1 at *
  have c2:=heap_new w1 #[.string to.nd.name,.int .i64 to.nd.int,bu,hu',pu] 26
  change (w1.alloc (.cells (trCells to.nd bu hu' pu).toArray 26)).heap[w1.heap.size]?=_ at c2
  have e2:Ext w1 (w1.alloc (.cells (trCells to.nd bu hu' pu).toArray 26)):=(Ext.refl w1).alloc _
  have z2:(w1.alloc (.cells (trCells to.nd bu hu' pu).toArray 26)).heap.size=w1.heap.size+1:=by simp
  generalize (w1.alloc (.cells (trCells to.nd bu hu' pu).toArray 26))=w2 at *
  have c3:=heap_new w2 #[.string ByteArray.empty,.int .i64 0,.slice none 0 0,.slice none 0 0,.slice none 0 0] 26
  have e3:Ext w2 (w2.alloc (.cells #[.string ByteArray.empty,.int .i64 0,.slice none 0 0,.slice none 0 0,.slice none 0 0] 26)):=ee
  generalize (w2.alloc (.cells #[.string ByteArray.empty,.int .i64 0,.slice none 0 0,.slice none 0 0,.slice none 0 0] 26))=w3 at *
  rw [z2,z1] at c3
  rw [z1] at c2
  have e:=e1.trans (e2.trans e3)
  have c1:=e3.obj (e2.obj c1)
  have c2:=e3.obj c2
  rw [z2,z1]
  refine drawK_intro ?_
  have eD:Ext w3 (drew w3):=(Ext.refl w3).drew
  have c1:=eD.obj c1
  have c2:=eD.obj c2
  have c3:=eD.obj c3
  have e:=e.trans eD
  generalize drew w3=D at *
  obtain ⟨r1,r2⟩:=ElemAt.c2 (w':=D) hA0 e
  have hlz:(0:Int) < ((x::rows).length:Int):=by simp only [List.length_cons];omega
  have hix:∀ k,qV Pg (EC D) (Instr.indexAt 93 (.slice (some ⟨bb,oo,none⟩) (x::rows).length c) (.int .i64 0)) k=k (.pointer (some ⟨bb,oo,none⟩)):=fun k=>qV_eqC fun w' _=>run_of_op (P:=Pg) (w:=w') (s:=Instr.indexAt 93 (.slice (some ⟨bb,oo,none⟩) (x::rows).length c) (.int .i64 0)) (v := .pointer (some ⟨bb,oo,none⟩)) fun QP k=>(op_indexAt Tryz.underlying93 ty61 bb oo _ c .i64 0 (by decide) hlz).trans (by simp)
  rw [Nat.zero_mul,Nat.add_zero] at r1 r2
  unfold n31c7
  simp (disch:=try exact DI) only [↓PR,QR,simprocAttr,(cells_of_heap c1).1,hix,r1,r2]
  refine zcr (rFind_ret D _ t (mkB x.1) x.2 (hb x (List.mem_cons_self ..)) (hT.ext e)) fun w6 e6=>?_
  refine ⟨e6,?_⟩
  have c1:=e6.obj c1
  have c2:=e6.obj c2
  have c3:=e6.obj c3
  have e:=e.trans e6
  have hput:∀ j y,findT (mkB x.1) x.2 t.ps=some j→t.ps[j]?=some y→putT to ((x::rows).map capS) t=(putT to (rows.map capS) y).map fun q=>Tr.mk t.nd (t.ps.set j q):=fun j y h1 h2=>by
   rw [List.map_cons,putT,← find_cap (by omega) x,h1]
   simp only [h2]
  unfold n31c6
  cases hf:findT (mkB x.1) x.2 t.ps with
  | none =>
   have hn0:putT to ((x::rows).map capS) t=none:=by rw [List.map_cons,putT,← find_cap (by omega) x,hf]
   have hd2:findI none < 0:=by decide
   simp (disch:=try exact DI) only [↓PR,QR,simprocAttr,hd2]
   unfold n31c5
   refine zero_out (A:=w0) (by omega) e c3 fun w' e' _=>⟨e',_,tr0,false,rfl,ValAt.zero _,?_⟩
   rw [hn0]
  | some i =>
   have hil:=findT_lt _ _ _ _ hf
   obtain ⟨y,hy⟩:=getElem?_lt hil
   have hput:=hput i y hf hy
   obtain ⟨A3,c9,rfl,hlc3,hcm3,hlm3,hel3⟩:=SliceOf.open a3
   obtain ⟨b3,o3,cs3,rfl,hl3,hA5,hE5⟩:=hel3 i y hy
   obtain ⟨bv3,hv3,pv3,rfl,x1,x2,x3,f1,f2,f3⟩:=hE5.op
   have hY:ValAt (mask w0 F) (.agg #[.string y.nd.name,.int .i64 y.nd.int,bv3,hv3,pv3]) y:=⟨_,_,_,rfl,x1,x2,x3⟩
   have hd2:¬ ((i:Int) < 0):=by omega
   have hd3:(i:Int) < (t.ps.length:Int):=by omega
   have hyn:=(nodesT_ps t).2 y (List.mem_of_getElem? hy)
   rw [show findI (some i)=(i:Int) from rfl]
   simp (disch:=try exact DI) only [↓PR,QR,simprocAttr,hd2]
   refine drawK_intro ?_
   have eD2:Ext w6 (drew w6):=(Ext.refl w6).drew
   have c1:=eD2.obj c1
   have c2:=eD2.obj c2
   have c3:=eD2.obj c3
   have e:=e.trans eD2
   generalize drew w6=D2 at *
   have hA6:ElemAt w0 b3 (o3+i*5) [.string y.nd.name,.int .i64 y.nd.int,bv3,hv3,pv3]:=ElemAt.cx hA5 (mask_all w0 F)
   obtain ⟨m1,m2,m3,m4,m5⟩:=hA6.c5 e
   unfold n31c4
   have hsl:∀ k,qV Pg (EC D2) (Instr.sliceAt 93 (.slice (some ⟨bb,oo,none⟩) (x::rows).length c) (some (.int .i64 1)) none none) k=k (.slice (some ⟨bb,if c=1 then oo else oo+2,none⟩) ((x::rows).length - 1) (c - 1)):=fun k=>qV_eqC fun w' _=>run_of_op (P:=Pg) (w:=w') (s:=Instr.sliceAt 93 (.slice (some ⟨bb,oo,none⟩) (x::rows).length c) (some (.int .i64 1)) none none) (v := .slice (some ⟨bb,if c=1 then oo else oo+2,none⟩) ((x::rows).length - 1) (c - 1)) fun QP k=>op_sliceTail Tryz.underlying93 ty61 bb oo _ c (by simp) hlc
   have hTail:=SliceOf.ext (fun _ _ _ _ _ h=>h) (SliceOf.tail hl) e
   have hF2:∀ k∈(w0.heap.size::(w0.heap.size+2)::F),k < D2.heap.size:=fun k hk=>by
    have hh:w0.heap.size+1+1 < D2.heap.size:=(Array.getElem?_eq_some_iff.1 c3).1
    rcases List.mem_cons.1 hk with rfl | hk
    · omega
    · rcases List.mem_cons.1 hk with rfl | hk
      · omega
      · have:=hF k hk
        omega
   have hYD:ValAt (mask D2 (w0.heap.size::(w0.heap.size+2)::F)) (.agg #[.string y.nd.name,.int .i64 y.nd.int,bv3,hv3,pv3]) y:=hY.cx (mask_cx fun k h1 h2=>⟨fun h=>by
    rcases List.mem_cons.1 h with rfl | h
    · omega
    · rcases List.mem_cons.1 h with rfl | h
      · omega
      · exact h2 h,e.block k h1⟩)
   have hUD:ValAt (mask D2 (w0.heap.size::(w0.heap.size+2)::F)) (.agg #[.string to.nd.name,.int .i64 to.nd.int,bu,hu',pu]) to:=hU.cx (mask_cx fun k h1 h2=>⟨fun h=>by
    rcases List.mem_cons.1 h with rfl | h
    · omega
    · rcases List.mem_cons.1 h with rfl | h
      · omega
      · exact h2 h,e.block k h1⟩)
   have hlt3:w0.heap.size+1+1 < D2.heap.size:=(Array.getElem?_eq_some_iff.1 c3).1
   simp (disch:=try exact DI) only [↓PR,QR,simprocAttr,(cells_of_heap c1).1,(cells_of_heap c2).1,hd3,m1,m2,m3,m4,m5,hsl]
   have hbr:∀ x∈rows,x.2≤9223372036854775807:=fun z hz=>hb z (List.mem_cons_of_mem _ hz)
   refine ⟨?_,?_⟩
   · refine callK_ret (ih D2 _ _ _ _ y hF2 hYD hUD hTail hbr (by omega)) ?_
     rintro r w8 ⟨e8,v3,t3,b,rfl,hV3,hm⟩
     obtain ⟨q1,q2,q3,rfl,y1,y2,y3,y4,y5,y6⟩:=hV3.op
     refine ⟨e8,?_⟩
     unfold n31c2
     simp (disch:=try exact DI) only [↓PR,QR,simprocAttr]
     have c9:=heap_new w8 #[.string t3.nd.name,.int .i64 t3.nd.int,q1,q2,q3] 26
     have eA:Ext w8 (w8.alloc (.cells #[.string t3.nd.name,.int .i64 t3.nd.int,q1,q2,q3] 26)):=(Ext.refl w8).alloc _
     refine ⟨e8.trans ((Ext.refl w8).alloc _),e8.trans eA,?_⟩
     generalize (w8.alloc (.cells #[.string t3.nd.name,.int .i64 t3.nd.int,q1,q2,q3] 26))=wA at *
     have z8:=e8.size
     refine rput_tail (G:=w0.heap.size::(w0.heap.size+2)::F) (y3:=t3) hF (e.trans (e8.trans eA)) hTm ((e8.trans eA).obj c1) ((e8.trans eA).obj c3) c9 (by omega) hil (by omega) (ValAt.cx ⟨q1,q2,q3,rfl,y1,y2,y3⟩ (mask_cx fun k h1 h2=>⟨h2,eA.block k h1⟩)) (fun k hk=>?_) ?_
     · simp only [List.mem_cons,not_or] at hk
       exact ⟨hk.2.2,hk.1,hk.2.1⟩
     · rw [hput]
       revert hm
       cases putT to (rows.map capS) y with
       | none=>exact id
       | some z =>
        rintro ⟨rfl,rfl⟩
        exact ⟨rfl,rfl⟩
   · have c9:=heap_new D2 #[.string ByteArray.empty,.int .i64 0,.slice none 0 0,.slice none 0 0,.slice none 0 0] 26
     have eA:Ext D2 (D2.alloc (.cells #[.string ByteArray.empty,.int .i64 0,.slice none 0 0,.slice none 0 0,.slice none 0 0] 26)):=(Ext.refl D2).alloc _
     have zA:(D2.alloc (.cells #[.string ByteArray.empty,.int .i64 0,.slice none 0 0,.slice none 0 0,.slice none 0 0] 26)).heap.size=D2.heap.size+1:=by simp
     refine ⟨eA,?_⟩
     generalize (D2.alloc (.cells #[.string ByteArray.empty,.int .i64 0,.slice none 0 0,.slice none 0 0,.slice none 0 0] 26))=wA at *
     have hcxA:CellX (mask D2 (w0.heap.size::(w0.heap.size+2)::F)) (mask wA (D2.heap.size::w0.heap.size::(w0.heap.size+2)::F)):=mask_cx fun k h1 h2=>⟨fun h=>by
      rcases List.mem_cons.1 h with rfl | h
      · omega
      · exact h2 h,eA.block k h1⟩
     refine callK_ret (ih wA (D2.heap.size::w0.heap.size::(w0.heap.size+2)::F) _ _ _ y (fun k hk=>?_) (hYD.cx hcxA) (hUD.cx hcxA) (SliceOf.ext (fun _ _ _ _ _ h=>h) hTail eA) hbr (by omega)) ?_
     · rcases List.mem_cons.1 hk with rfl | hk
       · omega
       · have:=hF2 k hk
         omega
     rintro r w8 ⟨e8,v3,t3,b,rfl,hV3,hm⟩
     obtain ⟨q1,q2,q3,rfl,y1,y2,y3,y4,y5,y6⟩:=hV3.op
     have c9:=e8.obj c9
     unfold n31c3
     simp (disch:=try exact DI) only [↓PR,QR,simprocAttr,(cells_of_heap c9).1,(cells_of_heap c9).2]
     have u8:Only D2.heap.size w8 (setCells w8 D2.heap.size 0 (trCells t3.nd q1 q2 q3)):=scOnly _ _ _
     have xA:Ext D2 (setCells w8 D2.heap.size 0 (trCells t3.nd q1 q2 q3)):=scExt (Nat.le_refl _) _ _ (eA.trans e8)
     have k9:=setCells_heap (trCells t3.nd q1 q2 q3) 0 c9
     change _=some (Obj.cells #[.string t3.nd.name,.int .i64 t3.nd.int,q1,q2,q3] 26 (0,0)) at k9
     refine ⟨eA.trans e8,xA,?_⟩
     change n31c1 _ _ _ _ _ _ (setCells w8 D2.heap.size 0 (trCells t3.nd q1 q2 q3))
     generalize setCells w8 D2.heap.size 0 (trCells t3.nd q1 q2 q3)=wB at *
     refine rput_tail (G:=D2.heap.size::w0.heap.size::(w0.heap.size+2)::F) (y3:=t3) hF (e.trans xA) hTm (xA.obj c1) (xA.obj c3) k9 (by omega) hil (by omega) (ValAt.cx ⟨q1,q2,q3,rfl,y1,y2,y3⟩ (mask_cx fun k h1 h2=>⟨h2,u8 k (fun h=>h2 (by rw [h];exact List.mem_cons_self ..))⟩)) (fun k hk=>?_) ?_
     · simp only [List.mem_cons,not_or] at hk
       exact ⟨hk.2.2.2,hk.2.1,hk.2.2.1⟩
     · rw [hput]
       revert hm
       cases putT to (rows.map capS) y with
       | none=>exact id
       | some z =>
        rintro ⟨rfl,rfl⟩
        exact ⟨rfl,rfl⟩
noncomputable def setE (t to:Tr) (s:List UInt8):Int×Tr:=if validT t=true∧validT to=true then match stepsP s with
 | none=>(6,tr0)
 | some l=>match putT to l t with
  | none=>(9,tr0)
  | some t3=>if validT t3=true then (0,t3) else (3,tr0)
 else (2,tr0)
theorem set_shape {w0 w':World} {B:Nat} {s:List UInt8} {t to:Tr} {r:Value} (h:SetK w0 B s t to r w'):Ext w0 w'∧∃ cs lo hi,r = .tuple #[.agg cs.toArray,.int .i64 (setE t to s).1]∧InT w' lo hi B (setE t to s).2 cs∧w0.heap.size≤lo∧hi≤w'.heap.size:=by
 obtain ⟨e,h⟩:=h
 refine ⟨e,?_⟩
 have hz:=e.size
 unfold setE
 by_cases hv:validT t=true∧validT to=true
 · rw [if_pos hv] at h ⊢
   cases hP:stepsP s with
   | none =>
    rw [hP] at h
    exact ⟨_,w0.heap.size,w0.heap.size,h,InT_zero _ _ _ _,Nat.le_refl _,hz⟩
   | some l =>
    rw [hP] at h
    simp only at h ⊢
    cases ha:putT to l t with
    | none =>
     rw [ha] at h
     exact ⟨_,w0.heap.size,w0.heap.size,h,InT_zero _ _ _ _,Nat.le_refl _,hz⟩
    | some t3 =>
     rw [ha] at h
     simp only at h ⊢
     by_cases hv3:validT t3=true
     · rw [if_pos hv3] at h ⊢
       exact h
     · rw [if_neg hv3] at h ⊢
       exact ⟨_,w0.heap.size,w0.heap.size,h,InT_zero _ _ _ _,Nat.le_refl _,hz⟩
 · rw [if_neg hv] at h ⊢
   exact ⟨_,w0.heap.size,w0.heap.size,h,InT_zero _ _ _ _,Nat.le_refl _,hz⟩
theorem rSet_ret {w0:World} (v u:Value) (t to:Tr) (s:List UInt8) (hs:s.length≤100000000) (hv:ValAt w0 v t) (hu:ValAt w0 u to) (hb:nodesT t≤1000000000) (hb2:nodesT to≤1000000000):Ret Pg 21 #[v,.string (mkB s),u] w0 fun r w'=>Ext w0 w'∧∃ v3,r = .tuple #[v3,.int .i64 (setE t to s).1]∧ValAt w' v3 (setE t to s).2:=by
 obtain ⟨bv,hv',pv,rfl,hbB,hbH,hbT,o1,o2,o3⟩:=hv.op
 obtain ⟨bu,hu',pu,rfl,huB,huH,huT,p1,p2,p3⟩:=hu.op
 have hV:ValAt w0 (.agg (trCells t.nd bv hv' pv).toArray) t:=⟨_,_,_,rfl,hbB,hbH,hbT⟩
 have hU:ValAt w0 (.agg (trCells to.nd bu hu' pu).toArray) to:=⟨_,_,_,rfl,huB,huH,huT⟩
 refine n24s (R:=retR _) ?_;unfold n24
 simp (disch:=try exact DI) only [↓PR,QR,simprocAttr]
 rw [show (Value.agg (trCells t.nd bv hv' pv).toArray).cells=(trCells t.nd bv hv' pv).toArray from rfl,show (Value.agg (trCells to.nd bu hu' pu).toArray).cells=(trCells to.nd bu hu' pu).toArray from rfl]
 have c1:=heap_new w0 #[.string t.nd.name,.int .i64 t.nd.int,bv,hv',pv] 26
 change (w0.alloc (.cells (trCells t.nd bv hv' pv).toArray 26)).heap[w0.heap.size]?=_ at c1
 have e1:Ext w0 (w0.alloc (.cells (trCells t.nd bv hv' pv).toArray 26)):=(Ext.refl w0).alloc _
 have z1:(w0.alloc (.cells (trCells t.nd bv hv' pv).toArray 26)).heap.size=w0.heap.size+1:=by simp
 generalize (w0.alloc (.cells (trCells t.nd bv hv' pv).toArray 26))=w1 at *
 have c2:=heap_new w1 #[.string to.nd.name,.int .i64 to.nd.int,bu,hu',pu] 26
 change (w1.alloc (.cells (trCells to.nd bu hu' pu).toArray 26)).heap[w1.heap.size]?=_ at c2
 have e2:Ext w1 (w1.alloc (.cells (trCells to.nd bu hu' pu).toArray 26)):=(Ext.refl w1).alloc _
 have z2:(w1.alloc (.cells (trCells to.nd bu hu' pu).toArray 26)).heap.size=w1.heap.size+1:=by simp
 generalize (w1.alloc (.cells (trCells to.nd bu hu' pu).toArray 26))=w2 at *
 have c3:=heap_new w2 #[.string ByteArray.empty,.int .i64 0,.slice none 0 0,.slice none 0 0,.slice none 0 0] 26
 have e3:Ext w2 (w2.alloc (.cells #[.string ByteArray.empty,.int .i64 0,.slice none 0 0,.slice none 0 0,.slice none 0 0] 26)):=ee
 generalize (w2.alloc (.cells #[.string ByteArray.empty,.int .i64 0,.slice none 0 0,.slice none 0 0,.slice none 0 0] 26))=w3 at *
 rw [z2] at c3 ⊢
 rw [z1] at c2 c3 ⊢
 have e:=e1.trans (e2.trans e3)
 have c1:=e3.obj (e2.obj c1)
 have c2:=e3.obj c2
 clear e1 e2 e3 z1 z2
 refine zcr (rValid_ret w3 _ t (hV.ext e) hb) fun w4 e4=>?_
 have c1:=e4.obj c1
 have c2:=e4.obj c2
 have c3:=e4.obj c3
 have e:=e.trans e4
 clear e4
 unfold n24c10 joinK
 cases hva:validT t with
 | false =>
  simp (disch:=try exact DI) only [↓PR,QR,simprocAttr]
  unfold n24c9
  refine zero_out (A:=w0) (by omega) e c3 fun w' e' _=>⟨e',zeroV,?_⟩
  unfold setE
  rw [hva]
  simp [ValAt.zero,zeroV]
 | true =>
  simp (disch:=try exact DI) only [↓PR,QR,simprocAttr,(cells_of_heap c2).1]
  refine zcr (rValid_ret w4 _ to (hU.ext e) hb2) fun w5 e5=>?_
  have c1:=e5.obj c1
  have c2:=e5.obj c2
  have c3:=e5.obj c3
  have e:=e.trans e5
  clear e5
  cases hvu:validT to with
  | false =>
   simp (disch:=try exact DI) only [↓PR,QR,simprocAttr]
   unfold n24c9
   refine zero_out (A:=w0) (by omega) e c3 fun w' e' _=>⟨e',zeroV,?_⟩
   unfold setE
   rw [hva,hvu]
   simp [ValAt.zero,zeroV]
  | true =>
   simp (disch:=try exact DI) only [↓PR,QR,simprocAttr]
   refine callK_ret (rSteps_ret w5 s hs) ?_
   rintro r w6 ⟨e6,hr⟩
   have c1:=e6.obj c1
   have c2:=e6.obj c2
   have c3:=e6.obj c3
   have e:=e.trans e6
   unfold n24c8
   cases hP:stepsP s with
   | none =>
    rw [hP] at hr
    obtain ⟨v,rfl⟩:=hr
    simp (disch:=try exact DI) only [↓PR,QR,simprocAttr]
    unfold n24c6
    refine zero_out (A:=w0) (by omega) e c3 fun w' e' _=>⟨e',zeroV,?_⟩
    unfold setE
    rw [hva,hvu,hP]
    simp [ValAt.zero,zeroV]
   | some l =>
    rw [hP] at hr
    obtain ⟨v,rows,rfl,hSl,rfl,hb9,hown⟩:=hr
    simp (disch:=try exact DI) only [↓PR,QR,simprocAttr]
    unfold n24c7
    simp (disch:=try exact DI) only [↓PR,QR,simprocAttr,(cells_of_heap c1).1,(cells_of_heap c2).1]
    have hcx:CellX w0 (mask w6 [w0.heap.size+1+1]):=(mask_nil w0).trans (mask_cx fun k h1 _=>⟨fun h=>by
     have:=List.mem_singleton.1 h
     omega,e.block k h1⟩)
    have lt6:=(Array.getElem?_eq_some_iff.1 (show w6.heap[w0.heap.size+1+1]?=_ by assumption)).1
    refine callK_ret (rput_ret to rows w6 [w0.heap.size+1+1] _ _ _ t (fun k hk=>by rw [List.mem_singleton.1 hk];exact lt6) (hV.cx hcx) (hU.cx hcx) hSl hb9 (by have:=valid_nodes hva;omega)) ?_
    rintro r w7 ⟨e7,v3,t3,b,rfl,hV3,hm⟩
    obtain ⟨q1,q2,q3,rfl,y1,y2,y3,y4,y5,y6⟩:=hV3.op
    have hV7:=hV3.cx (mask_all _ _)
    have c3:=e7.obj c3
    have e:=e.trans e7
    unfold n24c5
    cases hp:putT to (rows.map capS) t with
    | none =>
     rw [hp] at hm
     simp only at hm
     subst hm
     simp (disch:=try exact DI) only [↓PR,QR,simprocAttr]
     have c4:=heap_new w7 #[.string t3.nd.name,.int .i64 t3.nd.int,q1,q2,q3] 26
     have e8:Ext w7 (w7.alloc (.cells #[.string t3.nd.name,.int .i64 t3.nd.int,q1,q2,q3] 26)):=ee
     generalize (w7.alloc (.cells #[.string t3.nd.name,.int .i64 t3.nd.int,q1,q2,q3] 26))=w8 at c4 e8 ⊢
     have c3:=e8.obj c3
     have e:=e.trans e8
     unfold n24c3
     refine zero_out (A:=w0) (by omega) e c3 fun w' e' _=>⟨e',zeroV,?_⟩
     unfold setE
     rw [hva,hvu,hP]
     simp [ValAt.zero,zeroV,hp]
    | some x =>
     rw [hp] at hm
     simp only at hm
     obtain ⟨rfl,rfl⟩:=hm
     have hn3:=put_nodes to _ _ _ hp
     simp (disch:=try exact DI) only [↓PR,QR,simprocAttr]
     have c4:=heap_new w7 #[.string t3.nd.name,.int .i64 t3.nd.int,q1,q2,q3] 26
     have e8:Ext w7 (w7.alloc (.cells #[.string t3.nd.name,.int .i64 t3.nd.int,q1,q2,q3] 26)):=ee
     generalize (w7.alloc (.cells #[.string t3.nd.name,.int .i64 t3.nd.int,q1,q2,q3] 26))=w8 at c4 e8 ⊢
     have c3:=e8.obj c3
     have e:=e.trans e8
     unfold n24c4
     simp (disch:=try exact DI) only [↓PR,QR,simprocAttr,(cells_of_heap c4).1]
     have hV8:ValAt w8 (.agg #[.string t3.nd.name,.int .i64 t3.nd.int,q1,q2,q3]) t3:=hV7.ext e8
     refine zcr (rValid_ret w8 _ t3 hV8 (by have:=valid_nodes hva;have:=valid_nodes hvu;omega)) fun w9 e9=>?_
     have c3:=e9.obj c3
     have c4:=e9.obj c4
     have e:=e.trans e9
     cases hv3:validT t3 with
     | false =>
      simp (disch:=try exact DI) only [↓PR,QR,simprocAttr]
      unfold n24c1
      refine zero_out (A:=w0) (by omega) e c3 fun w' e' _=>⟨e',zeroV,?_⟩
      unfold setE
      rw [hva,hvu,hP]
      simp [ValAt.zero,zeroV,hp,hv3]
     | true =>
      simp (disch:=try exact DI) only [↓PR,QR,simprocAttr]
      unfold n24c2
      simp (disch:=try exact DI) only [↓PR,QR,simprocAttr,(cells_of_heap c4).1,(cells_of_heap c3).1,(cells_of_heap c3).2]
      have e79:=e8.trans e9
      refine val_fin (A:=w0) (Q:=fun r w'=>Ext w0 w'∧∃ v3,r = .tuple #[v3,.int .i64 (setE t to s).1]∧ValAt w' v3 (setE t to s).2) (by omega) e fun w' e' k' z'=>⟨e',.agg #[.string t3.nd.name,.int .i64 t3.nd.int,q1,q2,q3],?_,?_⟩
      · unfold setE
        rw [hva,hvu,hP]
        simp [hp,hv3]
      · unfold setE
        rw [hva,hvu,hP]
        simp only [hp,hv3,and_self,if_true]
        refine hV3.cx ?_
        intro b o u hu
        obtain ⟨h1,h2⟩:=mask_cell hu
        have hlb:=World.block_lt_of_cell? w7 _ h2
        rw [← h2]
        exact World.cell?_of_block ((k' b (fun h=>h1 (by rw [h];exact List.mem_singleton.2 rfl))).trans (e79.block b hlb))
def n7c1 (t58 t62:Value) (R:RT) (w:World):Prop :=
 pickK t58 t62 (.bool false) fun t63 =>
 joinK (fun (t65:Value) (w:World) =>
 pickK t63 t65 (.bool false) fun t66 =>
 R (.returned t66) w) fun K7 =>
 guardP t63 true (
 callK Pg 11 #[] (panK R) w fun t65 w =>
 K7 t65 w) (
 K7 undef w)
def n7c2 (t5 t8 t58:Value) (R:RT) (w:World):Prop :=
 joinK (fun (t62:Value) (w:World) =>
 n7c1 t58 t62 R w) fun K6 =>
 guardP t58 true (
 opV Pg (Instr.loadAt 26 t5) (panK R) w fun t60 w =>
 opV Pg (Instr.loadAt 26 t8) (panK R) w fun t61 w =>
 callK Pg 13 #[t60,t61] (panK R) w fun t62 w =>
 K6 t62 w) (
 K6 undef w)
def n7c3 (t3 t5 t7 t8:Value) (R:RT) (w:World):Prop :=
 opV Pg (Instr.loadAt 26 t3) (panK R) w fun t56 w =>
 opV Pg (Instr.loadAt 26 t7) (panK R) w fun t57 w =>
 callK Pg 13 #[t56,t57] (panK R) w fun t58 w =>
 n7c2 t5 t8 t58 R w
def n7c4 (t3 t5 t7 t8 t9 t47 t52:Value) (R:RT) (w:World):Prop :=
 pickK t47 (.bool true) t52 fun t53 =>
 condP t53 (
 R (.returned (.bool false)) w) (
 opV Pg (Instr.loadAt 26 t9) (panK R) w fun t54 w =>
 callK Pg 17 #[t54] (panK R) w fun t55 w =>
 n7c3 t3 t5 t7 t8 R w)
def n7c5 (t3 t5 t7 t8 t9 t37 t42:Value) (R:RT) (w:World):Prop :=
 opV Pg (Instr.extract t42 0) (panK R) w fun t43 w =>
 opV Pg (Instr.extract t42 1) (panK R) w fun t44 w =>
 opV Pg (Instr.alloc 26 true (.tuple #[])) (panK R) w fun t11 w =>
 opU Pg (Instr.storeAt 26 t11 t43) (panK R) w fun w =>
 opV Pg (binS .neq 3 false t37 t44) (panK R) w fun t47 w =>
 joinK (fun (t52:Value) (w:World) =>
 n7c4 t3 t5 t7 t8 t9 t47 t52 R w) fun K5 =>
 guardP t47 false (
 opV Pg (Instr.loadAt 26 t9) (panK R) w fun t49 w =>
 opV Pg (Instr.loadAt 26 t11) (panK R) w fun t50 w =>
 callK Pg 13 #[t49,t50] (panK R) w fun t51 w =>
 opV Pg (Op.unary .not t51) (panK R) w fun t52 w =>
 K5 t52 w) (
 K5 undef w)
def n7c6 (t1 t3 t5 t7 t8 t35:Value) (R:RT) (w:World):Prop :=
 opV Pg (Instr.extract t35 0) (panK R) w fun t36 w =>
 opV Pg (Instr.extract t35 1) (panK R) w fun t37 w =>
 opV Pg (Instr.alloc 26 true (.tuple #[])) (panK R) w fun t9 w =>
 opU Pg (Instr.storeAt 26 t9 t36) (panK R) w fun w =>
 opV Pg (Instr.loadAt 26 t3) (panK R) w fun t39 w =>
 opV Pg (Instr.loadAt 26 t5) (panK R) w fun t41 w =>
 callK Pg 21 #[t39,t1,t41] (panK R) w fun t42 w =>
 n7c5 t3 t5 t7 t8 t9 t37 t42 R w
def n7c7 (t1 t3 t5 t7 t8:Value) (R:RT) (w:World):Prop :=
 opV Pg (Instr.loadAt 26 t3) (panK R) w fun t32 w =>
 opV Pg (Instr.loadAt 26 t5) (panK R) w fun t34 w =>
 callK Pg 20 #[t32,t1,t34] (panK R) w fun t35 w =>
 n7c6 t1 t3 t5 t7 t8 t35 R w
def n7c8 (t7 t28 t30:Value) (C3:World→Prop) (K4:KW) (R:RT) (w:World):Prop :=
 opV Pg (Instr.alloc 26 true (.tuple #[])) (panK R) w fun t8 w =>
 C3 w∧(
 opU Pg (Instr.storeAt 26 t7 t28) (panK R) w fun w =>
 turnK w fun C8 w =>
 opU Pg (Instr.storeAt 26 t8 t30) (panK R) w fun w =>
 turnK w fun C9 w =>
 K4 t7 t8 w)
def n7c9 (t8 t28 t30:Value) (C3:World→Prop) (K4:KW) (R:RT) (w:World):Prop :=
 opV Pg (Instr.alloc 26 true (.tuple #[])) (panK R) w fun t7 w =>
 C3 w∧(
 opU Pg (Instr.storeAt 26 t7 t28) (panK R) w fun w =>
 turnK w fun C10 w =>
 opU Pg (Instr.storeAt 26 t8 t30) (panK R) w fun w =>
 turnK w fun C11 w =>
 K4 t7 t8 w)
def n7c10 (t28 t30:Value) (C3:World→Prop) (K4:KW) (R:RT) (w:World):Prop :=
 (
 opV Pg (Instr.alloc 26 true (.tuple #[])) (panK R) w fun t7 w =>
 C3 w∧(
 n7c8 t7 t28 t30 C3 K4 R w))∧(
 opV Pg (Instr.alloc 26 true (.tuple #[])) (panK R) w fun t8 w =>
 C3 w∧(
 n7c9 t8 t28 t30 C3 K4 R w))
def n7c11 (t7 t28 t30:Value) (C3:World→Prop) (K4:KW) (R:RT) (w:World):Prop :=
 opV Pg (Instr.alloc 26 true (.tuple #[])) (panK R) w fun t8 w =>
 C3 w∧(
 opU Pg (Instr.storeAt 26 t7 t28) (panK R) w fun w =>
 turnK w fun C12 w =>
 opU Pg (Instr.storeAt 26 t8 t30) (panK R) w fun w =>
 turnK w fun C13 w =>
 K4 t7 t8 w)
def n7c12 (t7 t8 t28 t29:Value) (C3:World→Prop) (K4:KW) (R:RT) (w:World):Prop :=
 callK Pg 16 #[t29] (panK R) w fun t30 w =>
 C3 w∧(
 opU Pg (Instr.storeAt 26 t7 t28) (panK R) w fun w =>
 turnK w fun C14 w =>
 opU Pg (Instr.storeAt 26 t8 t30) (panK R) w fun w =>
 turnK w fun C15 w =>
 K4 t7 t8 w)
def n7c13 (t7 t28 t29:Value) (C3:World→Prop) (K4:KW) (R:RT) (w:World):Prop :=
 (
 callK Pg 16 #[t29] (panK R) w fun t30 w =>
 C3 w∧(
 n7c11 t7 t28 t30 C3 K4 R w))∧(
 opV Pg (Instr.alloc 26 true (.tuple #[])) (panK R) w fun t8 w =>
 C3 w∧(
 n7c12 t7 t8 t28 t29 C3 K4 R w))
def n7c14 (t8 t28 t30:Value) (C3:World→Prop) (K4:KW) (R:RT) (w:World):Prop :=
 opV Pg (Instr.alloc 26 true (.tuple #[])) (panK R) w fun t7 w =>
 C3 w∧(
 opU Pg (Instr.storeAt 26 t7 t28) (panK R) w fun w =>
 turnK w fun C16 w =>
 opU Pg (Instr.storeAt 26 t8 t30) (panK R) w fun w =>
 turnK w fun C17 w =>
 K4 t7 t8 w)
def n7c15 (t7 t8 t28 t29:Value) (C3:World→Prop) (K4:KW) (R:RT) (w:World):Prop :=
 callK Pg 16 #[t29] (panK R) w fun t30 w =>
 C3 w∧(
 opU Pg (Instr.storeAt 26 t7 t28) (panK R) w fun w =>
 turnK w fun C18 w =>
 opU Pg (Instr.storeAt 26 t8 t30) (panK R) w fun w =>
 turnK w fun C19 w =>
 K4 t7 t8 w)
def n7c16 (t8 t28 t29:Value) (C3:World→Prop) (K4:KW) (R:RT) (w:World):Prop :=
 (
 callK Pg 16 #[t29] (panK R) w fun t30 w =>
 C3 w∧(
 n7c14 t8 t28 t30 C3 K4 R w))∧(
 opV Pg (Instr.alloc 26 true (.tuple #[])) (panK R) w fun t7 w =>
 C3 w∧(
 n7c15 t7 t8 t28 t29 C3 K4 R w))
def n7c17 (t28 t29:Value) (C3:World→Prop) (K4:KW) (R:RT) (w:World):Prop :=
 (
 callK Pg 16 #[t29] (panK R) w fun t30 w =>
 C3 w∧(
 n7c10 t28 t30 C3 K4 R w))∧(
 opV Pg (Instr.alloc 26 true (.tuple #[])) (panK R) w fun t7 w =>
 C3 w∧(
 n7c13 t7 t28 t29 C3 K4 R w))∧(
 opV Pg (Instr.alloc 26 true (.tuple #[])) (panK R) w fun t8 w =>
 C3 w∧(
 n7c16 t8 t28 t29 C3 K4 R w))
def n7c18 (t7 t28 t30:Value) (C3:World→Prop) (K4:KW) (R:RT) (w:World):Prop :=
 opV Pg (Instr.alloc 26 true (.tuple #[])) (panK R) w fun t8 w =>
 C3 w∧(
 opU Pg (Instr.storeAt 26 t7 t28) (panK R) w fun w =>
 turnK w fun C20 w =>
 opU Pg (Instr.storeAt 26 t8 t30) (panK R) w fun w =>
 turnK w fun C21 w =>
 K4 t7 t8 w)
def n7c19 (t7 t8 t28 t29:Value) (C3:World→Prop) (K4:KW) (R:RT) (w:World):Prop :=
 callK Pg 16 #[t29] (panK R) w fun t30 w =>
 C3 w∧(
 opU Pg (Instr.storeAt 26 t7 t28) (panK R) w fun w =>
 turnK w fun C22 w =>
 opU Pg (Instr.storeAt 26 t8 t30) (panK R) w fun w =>
 turnK w fun C23 w =>
 K4 t7 t8 w)
def n7c20 (t7 t28 t29:Value) (C3:World→Prop) (K4:KW) (R:RT) (w:World):Prop :=
 (
 callK Pg 16 #[t29] (panK R) w fun t30 w =>
 C3 w∧(
 n7c18 t7 t28 t30 C3 K4 R w))∧(
 opV Pg (Instr.alloc 26 true (.tuple #[])) (panK R) w fun t8 w =>
 C3 w∧(
 n7c19 t7 t8 t28 t29 C3 K4 R w))
def n7c21 (t7 t8 t28 t29:Value) (C3:World→Prop) (K4:KW) (R:RT) (w:World):Prop :=
 callK Pg 16 #[t29] (panK R) w fun t30 w =>
 C3 w∧(
 opU Pg (Instr.storeAt 26 t7 t28) (panK R) w fun w =>
 turnK w fun C24 w =>
 opU Pg (Instr.storeAt 26 t8 t30) (panK R) w fun w =>
 turnK w fun C25 w =>
 K4 t7 t8 w)
def n7c22 (t7 t27 t29:Value) (C3:World→Prop) (K4:KW) (R:RT) (w:World):Prop :=
 (
 callK Pg 16 #[t27] (panK R) w fun t28 w =>
 C3 w∧(
 n7c20 t7 t28 t29 C3 K4 R w))∧(
 opV Pg (Instr.alloc 26 true (.tuple #[])) (panK R) w fun t8 w =>
 C3 w∧(
 callK Pg 16 #[t27] (panK R) w fun t28 w =>
 C3 w∧(
 n7c21 t7 t8 t28 t29 C3 K4 R w)))
def n7c23 (t8 t28 t30:Value) (C3:World→Prop) (K4:KW) (R:RT) (w:World):Prop :=
 opV Pg (Instr.alloc 26 true (.tuple #[])) (panK R) w fun t7 w =>
 C3 w∧(
 opU Pg (Instr.storeAt 26 t7 t28) (panK R) w fun w =>
 turnK w fun C26 w =>
 opU Pg (Instr.storeAt 26 t8 t30) (panK R) w fun w =>
 turnK w fun C27 w =>
 K4 t7 t8 w)
def n7c24 (t7 t8 t28 t29:Value) (C3:World→Prop) (K4:KW) (R:RT) (w:World):Prop :=
 callK Pg 16 #[t29] (panK R) w fun t30 w =>
 C3 w∧(
 opU Pg (Instr.storeAt 26 t7 t28) (panK R) w fun w =>
 turnK w fun C28 w =>
 opU Pg (Instr.storeAt 26 t8 t30) (panK R) w fun w =>
 turnK w fun C29 w =>
 K4 t7 t8 w)
def n7c25 (t8 t28 t29:Value) (C3:World→Prop) (K4:KW) (R:RT) (w:World):Prop :=
 (
 callK Pg 16 #[t29] (panK R) w fun t30 w =>
 C3 w∧(
 n7c23 t8 t28 t30 C3 K4 R w))∧(
 opV Pg (Instr.alloc 26 true (.tuple #[])) (panK R) w fun t7 w =>
 C3 w∧(
 n7c24 t7 t8 t28 t29 C3 K4 R w))
def n7c26 (t7 t8 t28 t29:Value) (C3:World→Prop) (K4:KW) (R:RT) (w:World):Prop :=
 callK Pg 16 #[t29] (panK R) w fun t30 w =>
 C3 w∧(
 opU Pg (Instr.storeAt 26 t7 t28) (panK R) w fun w =>
 turnK w fun C30 w =>
 opU Pg (Instr.storeAt 26 t8 t30) (panK R) w fun w =>
 turnK w fun C31 w =>
 K4 t7 t8 w)
def n7c27 (t8 t27 t29:Value) (C3:World→Prop) (K4:KW) (R:RT) (w:World):Prop :=
 (
 callK Pg 16 #[t27] (panK R) w fun t28 w =>
 C3 w∧(
 n7c25 t8 t28 t29 C3 K4 R w))∧(
 opV Pg (Instr.alloc 26 true (.tuple #[])) (panK R) w fun t7 w =>
 C3 w∧(
 callK Pg 16 #[t27] (panK R) w fun t28 w =>
 C3 w∧(
 n7c26 t7 t8 t28 t29 C3 K4 R w)))
def n7c28 (t1 t3 t5:Value) (C3:World→Prop) (R:RT) (w:World):Prop :=
 qV Pg C3 (Instr.loadAt 26 t3) fun t27 =>
 qV Pg C3 (Instr.loadAt 26 t5) fun t29 =>
 joinK (fun (t7:Value) (t8:Value) (w:World) =>
 n7c7 t1 t3 t5 t7 t8 R w) fun K4 =>
 (
 callK Pg 16 #[t27] (panK R) w fun t28 w =>
 C3 w∧(
 n7c17 t28 t29 C3 K4 R w))∧(
 opV Pg (Instr.alloc 26 true (.tuple #[])) (panK R) w fun t7 w =>
 C3 w∧(
 n7c22 t7 t27 t29 C3 K4 R w))∧(
 opV Pg (Instr.alloc 26 true (.tuple #[])) (panK R) w fun t8 w =>
 C3 w∧(
 n7c27 t8 t27 t29 C3 K4 R w))
def n7c29 (t1 t3 t5 t20 t24:Value) (R:RT) (w:World):Prop :=
 pickK t20 (.bool true) t24 fun t25 =>
 condP t25 (
 callK Pg 11 #[] (panK R) w fun t26 w =>
 R (.returned t26) w) (
 drawK w fun C3 w =>
 n7c28 t1 t3 t5 C3 R w)
def n7c30 (t1 t3 t5 t15 t19:Value) (R:RT) (w:World):Prop :=
 pickK t15 (.bool true) t19 fun t20 =>
 joinK (fun (t24:Value) (w:World) =>
 n7c29 t1 t3 t5 t20 t24 R w) fun K2 =>
 guardP t20 false (
 opV Pg (Builtin.len_ #[9] 3 #[t1]) (panK R) w fun t23 w =>
 opV Pg (binS .gtr 3 true t23 (.int .i64 200)) (panK R) w fun t24 w =>
 K2 t24 w) (
 K2 undef w)
def n7c31 (t1 t3 t5 t14:Value) (R:RT) (w:World):Prop :=
 opV Pg (Op.unary .not t14) (panK R) w fun t15 w =>
 joinK (fun (t19:Value) (w:World) =>
 n7c30 t1 t3 t5 t15 t19 R w) fun K1 =>
 guardP t15 false (
 opV Pg (Instr.loadAt 26 t5) (panK R) w fun t17 w =>
 callK Pg 10 #[t17] (panK R) w fun t18 w =>
 opV Pg (Op.unary .not t18) (panK R) w fun t19 w =>
 K1 t19 w) (
 K1 undef w)
def n7 (t0 t1 t2:Value) (R:RT) (w:World):Prop :=
 opV Pg (Instr.box 26 t0) (panK R) w fun t3 w =>
 opV Pg (Instr.box 26 t2) (panK R) w fun t5 w =>
 opV Pg (Instr.loadAt 26 t3) (panK R) w fun t13 w =>
 callK Pg 10 #[t13] (panK R) w fun t14 w =>
 n7c31 t1 t3 t5 t14 R w
set_option maxHeartbeats 40000000 in
theorem n7s {t0 t1 t2:Value} {R:RT} {w:World} (h:n7 t0 t1 t2 R w):Calls Pg 5 #[t0,t1,t2] w R:=by
 refine yD Tryz.func5 ?_
 refine zs<|zr<|yv h fun _ w h=>yv h fun _ w h=>zm<|zn<|zk<|zs<|zs<|sim_regionG<|yG 4<|yv h fun _ w h=>yc h c10 fun _ w h=>yv h fun _ w h=>zm ?_
 refine zn<|yg1 3 3 false [17,18,19] 19 h (fun _ T hT h=>?_) fun σ w h=>?_
 · refine yv h fun _ w h=>yc h c10 fun _ w h=>yv h fun _ w h=>zn ?_
   exact zt hT h
 refine yG 2<|yp h fun _ h=>zm<|zn<|yg1 3 8 false [22,23,24] 24 h (fun _ T hT h=>?_) fun σ w h=>?_
 · refine zm<|yx h fun _ w h=>yb h fun _ w h=>zn ?_
   exact zt hT h
 refine yG 1<|yp h fun _ h=>zn<|sim_end<|zk<|yC h (fun h=>zs<|zr<|yc h c11 fun _ w h=>zm<|zn<|zk<|sim_ret<|sim_then_ret<|body_ret1 rfl rfl h) fun h=>sim_skip<|zk<|zs<|yh [7,8,27,28,29,30] h fun C hC h=>ye 0 hC h fun _ h=>?_
 refine ye 2 hC h fun _ h=>?_
 refine joinK_elim h (fun K4 hK h=>?_)
 refine sim_dmeet [7,8,28,30] (fun ρ w=>K4 (ρ 7) (ρ 8) w) (fun T hT=>?_) (fun σ w h=>?_)
 · obtain ⟨h0,h1,h2⟩:=h
   refine sim_dloud3 1 4 5 rfl rfl rfl (by kernel_rfl) (fun _ _=>rfl) (fun _ _=>rfl) (fun _ _=>rfl) ?_ ?_ ?_
   · have h:=h0
     refine yc h c16 fun _ w h=>zn ?_
     obtain ⟨hC,h⟩:=h
     refine ⟨_,fun _ h=>h,hC,?_⟩
     obtain ⟨h0,h1,h2⟩:=h
     refine sim_dloud3 3 4 5 rfl rfl rfl (by kernel_rfl) (fun _ _=>rfl) (fun _ _=>rfl) (fun _ _=>rfl) ?_ ?_ ?_
     · have h:=h0
       refine yc h c16 fun _ w h=>zn ?_
       obtain ⟨hC,h⟩:=h
       refine ⟨_,fun _ h=>h,hC,?_⟩
       obtain ⟨h0,h1⟩:=h
       refine sim_dloud2 4 5 rfl rfl (by kernel_rfl) (fun _ _=>rfl) (fun _ _=>rfl) ?_ ?_
       · have h:=h0
         refine yv h fun _ w h=>zn ?_
         obtain ⟨hC,h⟩:=h
         refine ⟨_,fun _ h=>h,hC,?_⟩
         refine yo 5 ?_
         refine yv h fun _ w h=>zn ?_
         obtain ⟨hC,h⟩:=h
         refine ⟨hC,?_⟩
         refine yq 6 2 ?_
         refine yu h fun w h=>zn ?_
         obtain ⟨C8,hC,h⟩:=h
         refine ⟨C8,hC,?_⟩
         refine yq 7 1 ?_
         refine yu h fun w h=>zn ?_
         obtain ⟨C9,hC,h⟩:=h
         refine ⟨C9,hC,?_⟩
         refine yz ?_
         exact zt hT h
       have h:=h1
       refine yv h fun _ w h=>zn ?_
       obtain ⟨hC,h⟩:=h
       refine ⟨_,fun _ h=>h,hC,?_⟩
       refine yo 4 ?_
       refine yv h fun _ w h=>zn ?_
       obtain ⟨hC,h⟩:=h
       refine ⟨hC,?_⟩
       refine yq 6 2 ?_
       refine yu h fun w h=>zn ?_
       obtain ⟨C10,hC,h⟩:=h
       refine ⟨C10,hC,?_⟩
       refine yq 7 1 ?_
       refine yu h fun w h=>zn ?_
       obtain ⟨C11,hC,h⟩:=h
       refine ⟨C11,hC,?_⟩
       refine yz ?_
       exact zt hT h
     · have h:=h1
       refine yv h fun _ w h=>zn ?_
       obtain ⟨hC,h⟩:=h
       refine ⟨_,fun _ h=>h,hC,?_⟩
       obtain ⟨h0,h1⟩:=h
       refine sim_dloud2 3 5 rfl rfl (by kernel_rfl) (fun _ _=>rfl) (fun _ _=>rfl) ?_ ?_
       · have h:=h0
         refine yc h c16 fun _ w h=>zn ?_
         obtain ⟨hC,h⟩:=h
         refine ⟨_,fun _ h=>h,hC,?_⟩
         refine yo 5 ?_
         refine yv h fun _ w h=>zn ?_
         obtain ⟨hC,h⟩:=h
         refine ⟨hC,?_⟩
         refine yq 6 2 ?_
         refine yu h fun w h=>zn ?_
         obtain ⟨C12,hC,h⟩:=h
         refine ⟨C12,hC,?_⟩
         refine yq 7 1 ?_
         refine yu h fun w h=>zn ?_
         obtain ⟨C13,hC,h⟩:=h
         refine ⟨C13,hC,?_⟩
         refine yz ?_
         exact zt hT h
       have h:=h1
       refine yv h fun _ w h=>zn ?_
       obtain ⟨hC,h⟩:=h
       refine ⟨_,fun _ h=>h,hC,?_⟩
       refine yo 3 ?_
       refine yc h c16 fun _ w h=>zn ?_
       obtain ⟨hC,h⟩:=h
       refine ⟨hC,?_⟩
       refine yq 6 2 ?_
       refine yu h fun w h=>zn ?_
       obtain ⟨C14,hC,h⟩:=h
       refine ⟨C14,hC,?_⟩
       refine yq 7 1 ?_
       refine yu h fun w h=>zn ?_
       obtain ⟨C15,hC,h⟩:=h
       refine ⟨C15,hC,?_⟩
       refine yz ?_
       exact zt hT h
     have h:=h2
     refine yv h fun _ w h=>zn ?_
     obtain ⟨hC,h⟩:=h
     refine ⟨_,fun _ h=>h,hC,?_⟩
     obtain ⟨h0,h1⟩:=h
     refine sim_dloud2 3 4 rfl rfl (by kernel_rfl) (fun _ _=>rfl) (fun _ _=>rfl) ?_ ?_
     · have h:=h0
       refine yc h c16 fun _ w h=>zn ?_
       obtain ⟨hC,h⟩:=h
       refine ⟨_,fun _ h=>h,hC,?_⟩
       refine yo 4 ?_
       refine yv h fun _ w h=>zn ?_
       obtain ⟨hC,h⟩:=h
       refine ⟨hC,?_⟩
       refine yq 6 2 ?_
       refine yu h fun w h=>zn ?_
       obtain ⟨C16,hC,h⟩:=h
       refine ⟨C16,hC,?_⟩
       refine yq 7 1 ?_
       refine yu h fun w h=>zn ?_
       obtain ⟨C17,hC,h⟩:=h
       refine ⟨C17,hC,?_⟩
       refine yz ?_
       exact zt hT h
     have h:=h1
     refine yv h fun _ w h=>zn ?_
     obtain ⟨hC,h⟩:=h
     refine ⟨_,fun _ h=>h,hC,?_⟩
     refine yo 3 ?_
     refine yc h c16 fun _ w h=>zn ?_
     obtain ⟨hC,h⟩:=h
     refine ⟨hC,?_⟩
     refine yq 6 2 ?_
     refine yu h fun w h=>zn ?_
     obtain ⟨C18,hC,h⟩:=h
     refine ⟨C18,hC,?_⟩
     refine yq 7 1 ?_
     refine yu h fun w h=>zn ?_
     obtain ⟨C19,hC,h⟩:=h
     refine ⟨C19,hC,?_⟩
     refine yz ?_
     exact zt hT h
   · have h:=h1
     refine yv h fun _ w h=>zn ?_
     obtain ⟨hC,h⟩:=h
     refine ⟨_,fun _ h=>h,hC,?_⟩
     obtain ⟨h0,h1⟩:=h
     refine sim_dloud2 1 5 rfl rfl (by kernel_rfl) (fun _ _=>rfl) (fun _ _=>rfl) ?_ ?_
     · have h:=h0
       refine yc h c16 fun _ w h=>zn ?_
       obtain ⟨hC,h⟩:=h
       refine ⟨_,fun _ h=>h,hC,?_⟩
       obtain ⟨h0,h1⟩:=h
       refine sim_dloud2 3 5 rfl rfl (by kernel_rfl) (fun _ _=>rfl) (fun _ _=>rfl) ?_ ?_
       · have h:=h0
         refine yc h c16 fun _ w h=>zn ?_
         obtain ⟨hC,h⟩:=h
         refine ⟨_,fun _ h=>h,hC,?_⟩
         refine yo 5 ?_
         refine yv h fun _ w h=>zn ?_
         obtain ⟨hC,h⟩:=h
         refine ⟨hC,?_⟩
         refine yq 6 2 ?_
         refine yu h fun w h=>zn ?_
         obtain ⟨C20,hC,h⟩:=h
         refine ⟨C20,hC,?_⟩
         refine yq 7 1 ?_
         refine yu h fun w h=>zn ?_
         obtain ⟨C21,hC,h⟩:=h
         refine ⟨C21,hC,?_⟩
         refine yz ?_
         exact zt hT h
       have h:=h1
       refine yv h fun _ w h=>zn ?_
       obtain ⟨hC,h⟩:=h
       refine ⟨_,fun _ h=>h,hC,?_⟩
       refine yo 3 ?_
       refine yc h c16 fun _ w h=>zn ?_
       obtain ⟨hC,h⟩:=h
       refine ⟨hC,?_⟩
       refine yq 6 2 ?_
       refine yu h fun w h=>zn ?_
       obtain ⟨C22,hC,h⟩:=h
       refine ⟨C22,hC,?_⟩
       refine yq 7 1 ?_
       refine yu h fun w h=>zn ?_
       obtain ⟨C23,hC,h⟩:=h
       refine ⟨C23,hC,?_⟩
       refine yz ?_
       exact zt hT h
     have h:=h1
     refine yv h fun _ w h=>zn ?_
     obtain ⟨hC,h⟩:=h
     refine ⟨_,fun _ h=>h,hC,?_⟩
     refine yo 1 ?_
     refine yc h c16 fun _ w h=>zn ?_
     obtain ⟨hC,h⟩:=h
     refine ⟨hC,?_⟩
     refine yo 3 ?_
     refine yc h c16 fun _ w h=>zn ?_
     obtain ⟨hC,h⟩:=h
     refine ⟨hC,?_⟩
     refine yq 6 2 ?_
     refine yu h fun w h=>zn ?_
     obtain ⟨C24,hC,h⟩:=h
     refine ⟨C24,hC,?_⟩
     refine yq 7 1 ?_
     refine yu h fun w h=>zn ?_
     obtain ⟨C25,hC,h⟩:=h
     refine ⟨C25,hC,?_⟩
     refine yz ?_
     exact zt hT h
   have h:=h2
   refine yv h fun _ w h=>zn ?_
   obtain ⟨hC,h⟩:=h
   refine ⟨_,fun _ h=>h,hC,?_⟩
   obtain ⟨h0,h1⟩:=h
   refine sim_dloud2 1 4 rfl rfl (by kernel_rfl) (fun _ _=>rfl) (fun _ _=>rfl) ?_ ?_
   · have h:=h0
     refine yc h c16 fun _ w h=>zn ?_
     obtain ⟨hC,h⟩:=h
     refine ⟨_,fun _ h=>h,hC,?_⟩
     obtain ⟨h0,h1⟩:=h
     refine sim_dloud2 3 4 rfl rfl (by kernel_rfl) (fun _ _=>rfl) (fun _ _=>rfl) ?_ ?_
     · have h:=h0
       refine yc h c16 fun _ w h=>zn ?_
       obtain ⟨hC,h⟩:=h
       refine ⟨_,fun _ h=>h,hC,?_⟩
       refine yo 4 ?_
       refine yv h fun _ w h=>zn ?_
       obtain ⟨hC,h⟩:=h
       refine ⟨hC,?_⟩
       refine yq 6 2 ?_
       refine yu h fun w h=>zn ?_
       obtain ⟨C26,hC,h⟩:=h
       refine ⟨C26,hC,?_⟩
       refine yq 7 1 ?_
       refine yu h fun w h=>zn ?_
       obtain ⟨C27,hC,h⟩:=h
       refine ⟨C27,hC,?_⟩
       refine yz ?_
       exact zt hT h
     have h:=h1
     refine yv h fun _ w h=>zn ?_
     obtain ⟨hC,h⟩:=h
     refine ⟨_,fun _ h=>h,hC,?_⟩
     refine yo 3 ?_
     refine yc h c16 fun _ w h=>zn ?_
     obtain ⟨hC,h⟩:=h
     refine ⟨hC,?_⟩
     refine yq 6 2 ?_
     refine yu h fun w h=>zn ?_
     obtain ⟨C28,hC,h⟩:=h
     refine ⟨C28,hC,?_⟩
     refine yq 7 1 ?_
     refine yu h fun w h=>zn ?_
     obtain ⟨C29,hC,h⟩:=h
     refine ⟨C29,hC,?_⟩
     refine yz ?_
     exact zt hT h
   have h:=h1
   refine yv h fun _ w h=>zn ?_
   obtain ⟨hC,h⟩:=h
   refine ⟨_,fun _ h=>h,hC,?_⟩
   refine yo 1 ?_
   refine yc h c16 fun _ w h=>zn ?_
   obtain ⟨hC,h⟩:=h
   refine ⟨hC,?_⟩
   refine yo 3 ?_
   refine yc h c16 fun _ w h=>zn ?_
   obtain ⟨hC,h⟩:=h
   refine ⟨hC,?_⟩
   refine yq 6 2 ?_
   refine yu h fun w h=>zn ?_
   obtain ⟨C30,hC,h⟩:=h
   refine ⟨C30,hC,?_⟩
   refine yq 7 1 ?_
   refine yu h fun w h=>zn ?_
   obtain ⟨C31,hC,h⟩:=h
   refine ⟨C31,hC,?_⟩
   refine yz ?_
   exact zt hT h
 subst hK
 refine zk<|zs<|zr<|yv h fun _ w h=>zm<|yv h fun _ w h=>yc h c20 fun _ w h=>zm<|yv h fun _ w h=>yv h fun _ w h=>yv h fun _ w h=>yu h fun w h=>zm<|zn<|zk ?_
 refine zs<|zr<|yv h fun _ w h=>zm<|yv h fun _ w h=>yc h c21 fun _ w h=>zm<|yv h fun _ w h=>yv h fun _ w h=>yv h fun _ w h=>yu h fun w h=>zm<|zn<|zk<|zs ?_
 refine zs<|sim_regionG<|yG 4<|zm<|zm<|yb h fun _ w h=>zm<|zn<|yg1 4 3 false [49,50,51,52] 52 h (fun _ T hT h=>?_) fun σ w h=>?_
 · refine yv h fun _ w h=>yv h fun _ w h=>yc h c13 fun _ w h=>yv h fun _ w h=>zn ?_
   exact zt hT h
 refine yG 1<|yp h fun _ h=>zn<|sim_end<|zk<|yC h (fun h=>zs<|zr<|zm<|zn<|zk<|sim_ret<|sim_then_ret<|body_ret1 rfl rfl h) fun h=>sim_skip<|zk<|zs<|zr<|yv h fun _ w h=>yc h c17 fun _ w h=>zn<|zk ?_
 refine zs<|sim_regionG<|yG 4<|yv h fun _ w h=>yv h fun _ w h=>yc h c13 fun _ w h=>zm<|zn<|yg1 3 3 true [60,61,62] 62 h (fun _ T hT h=>?_) fun σ w h=>?_
 · refine yv h fun _ w h=>yv h fun _ w h=>yc h c13 fun _ w h=>zn ?_
   exact zt hT h
 refine yG 2<|yp h fun _ h=>zm<|zn<|yg1 1 8 true [65] 65 h (fun _ T hT h=>?_) fun σ w h=>?_
 · refine yc h c11 fun _ w h=>zn ?_
   exact zt hT h
 exact yG 2<|yp h fun _ h=>zm<|zn<|sim_end<|zk<|sim_ret<|body_ret1 rfl rfl h
theorem op_allocV {QP:List PanicEntry→World→Prop} {w:World} {k:Value→World→Prop}:opV Pg (Instr.alloc 26 true (.tuple #[])) QP w k=k (.pointer (some ⟨w.heap.size,0,none⟩)) (w.alloc (.cells #[.string ByteArray.empty,.int .i64 0,.slice none 0 0,.slice none 0 0,.slice none 0 0] 26)):=by
 simp (disch:=try exact DI) only [↓PR,QR,simprocAttr]
theorem set_small {t to:Tr} {s:List UInt8} (h:allT smallN t=true) (hn:nodesT t≤200) (g:allT smallN to=true) (gn:nodesT to≤200):allT smallN (setE t to s).2=true∧nodesT (setE t to s).2≤400:=by
 have hz:allT smallN tr0=true∧nodesT tr0≤400:=⟨zero_small.1,by have:=zero_small.2;omega⟩
 have key:∀ (l:List Stp) (t t3:Tr),allT smallN t=true→putT to l t=some t3→allT smallN t3=true:=by
  intro l
  induction l with
  | nil=>intro t t3 _ h;injection h with h;rw [← h];exact g
  | cons x l ih =>
   intro t t3 ht h
   rw [putT] at h
   cases hf:findT (mkB x.1) x.2 t.ps with
   | none=>rw [hf] at h;cases h
   | some i =>
    rw [hf] at h
    simp only at h
    cases hi:t.ps[i]? with
    | none=>rw [hi] at h;cases h
    | some p =>
     rw [hi] at h
     simp only at h
     obtain ⟨q,hq,rfl⟩:=Option.map_eq_some_iff.1 h
     have hq2:=ih p q (part_small ht (List.mem_of_getElem? hi)) hq
     cases t with
     | mk n ps =>
      rw [allT_mk,Bool.and_eq_true,List.all_eq_true] at ht ⊢
      refine ⟨ht.1,fun y hy=>?_⟩
      rcases List.mem_or_eq_of_mem_set hy with hy | rfl
      · exact ht.2 y hy
      · exact hq2
 unfold setE
 split
 · cases stepsP s with
   | none=>exact hz
   | some l =>
    simp only
    cases hp:putT to l t with
    | none=>exact hz
    | some t3 =>
     simp only
     split
     · exact ⟨key l t t3 h hp,by have:=put_nodes to l t t3 hp;show nodesT t3≤400;omega⟩
     · exact hz
 · exact hz
theorem small_of4 {t:Tr} (h2:allT smallN t=true) (h1:nodesT t≤400):shortT t=true∧fitT t=true∧hdrsT t≤44000:=by
 have h3:=hdrs_small t h2
 refine ⟨allT_imp (fun n hn=>?_) t h2,?_,by omega⟩
 · unfold smallN at hn
   unfold shortN
   simp only [Bool.and_eq_true,decide_eq_true_eq,List.all_eq_true] at hn ⊢
   refine ⟨⟨by omega,by omega⟩,fun x hx=>?_⟩
   have:=hn.2.2.2 x hx
   unfold smallH at this
   simp only [Bool.and_eq_true,decide_eq_true_eq] at this
   omega
 · unfold fitT
   rw [Bool.and_eq_true,decide_eq_true_eq]
   refine ⟨allT_imp (fun n hn=>?_) t h2,by omega⟩
   unfold smallN at hn
   unfold fitN
   simp only [Bool.and_eq_true,decide_eq_true_eq] at hn ⊢
   omega
theorem ValueSets_ret (W:World) (u v:Value) (t to:Tr) (path:List UInt8) (hu:ValAt W u t) (hv:ValAt W v to) (hE:EnvOK W):Ret Pg 5 #[u,.string (mkB path),v] W fun r w'=>r = .bool true∧Ext W w':=by
 obtain ⟨ub,uh,up,rfl,a1,a2,a3,a4,a5,a6⟩:=hu.op
 obtain ⟨vb,vh,vp,rfl,b1,b2,b3,b4,b5,b6⟩:=hv.op
 have hU:ValAt W (.agg #[.string t.nd.name,.int .i64 t.nd.int,ub,uh,up]) t:=⟨_,_,_,rfl,a1,a2,a3⟩
 have hT:ValAt W (.agg #[.string to.nd.name,.int .i64 to.nd.int,vb,vh,vp]) to:=⟨_,_,_,rfl,b1,b2,b3⟩
 have hkn:∀ w,Ext W w→callK Pg 11 #[] (panK (retR fun r w'=>r=Value.bool true∧Ext W w')) w fun t w=>retR (fun r w'=>r=Value.bool true∧Ext W w') (.returned t) w:=fun w ew=>callK_ret (known_ret (hE.ext ew)) (by
  rintro _ w' ⟨rfl,e'⟩
  simp (disch:=try exact DI) only [↓PR,QR,simprocAttr]
  exact ⟨trivial,ew.trans e'⟩)
 refine n7s (R:=retR _) ?_;unfold n7
 simp (disch:=try exact DI) only [↓PR,QR,simprocAttr]
 have c1:=heap_new W #[.string t.nd.name,.int .i64 t.nd.int,ub,uh,up] 26
 change (W.alloc (.cells (trCells t.nd ub uh up).toArray 26)).heap[W.heap.size]?=_ at c1
 have e1:Ext W (W.alloc (.cells (trCells t.nd ub uh up).toArray 26)):=(Ext.refl W).alloc _
 have z1:(W.alloc (.cells (trCells t.nd ub uh up).toArray 26)).heap.size=W.heap.size+1:=by simp
 rw [show (Value.agg (trCells t.nd ub uh up).toArray).cells=(trCells t.nd ub uh up).toArray from rfl]
 try rw [show (Value.agg (trCells to.nd vb vh vp).toArray).cells=(trCells to.nd vb vh vp).toArray from rfl]
 generalize (W.alloc (.cells (trCells t.nd ub uh up).toArray 26))=w1 at *
 have c2:=heap_new w1 #[.string to.nd.name,.int .i64 to.nd.int,vb,vh,vp] 26
 change (w1.alloc (.cells (trCells to.nd vb vh vp).toArray 26)).heap[w1.heap.size]?=_ at c2
 have e2:Ext w1 (w1.alloc (.cells (trCells to.nd vb vh vp).toArray 26)):=(Ext.refl w1).alloc _
 generalize (w1.alloc (.cells (trCells to.nd vb vh vp).toArray 26))=w2 at *
 rw [z1] at c2 ⊢
 have e:=e1.trans e2
 have c1:=e2.obj c1
 clear e1 e2 z1
 refine zcr (vsmall_ret w2 _ t (hU.ext e)) fun w3 e3=>?_
 have c1:=e3.obj c1
 have c2:=e3.obj c2
 have e:=e.trans e3
 clear e3
 have hz1:((mkB path).size:Int)=(path.length:Int):=by rw [mkB_size]
 unfold n7c31 joinK
 cases hst:smallT t with
 | false =>
  simp (disch:=try exact DI) only [↓PR,QR,simprocAttr]
  unfold n7c30 joinK
  simp (disch:=try exact DI) only [↓PR,QR,simprocAttr]
  unfold n7c29
  simp (disch:=try exact DI) only [↓PR,QR,simprocAttr]
  exact hkn _ e
 | true =>
  simp (disch:=try exact DI) only [↓PR,QR,simprocAttr,(cells_of_heap c2).1]
  refine zcr (vsmall_ret w3 _ to (hT.ext e)) fun w4 e4=>?_
  have c1:=e4.obj c1
  have c2:=e4.obj c2
  have e:=e.trans e4
  clear e4
  cases hsu:smallT to with
  | false =>
   simp (disch:=try exact DI) only [↓PR,QR,simprocAttr]
   unfold n7c30 joinK
   simp (disch:=try exact DI) only [↓PR,QR,simprocAttr]
   unfold n7c29
   simp (disch:=try exact DI) only [↓PR,QR,simprocAttr]
   exact hkn _ e
  | true =>
   by_cases hp:(200:Int) < (path.length:Int)
   · simp (disch:=try exact DI) only [↓PR,QR,simprocAttr]
     unfold n7c30 joinK
     simp (disch:=try exact DI) only [↓PR,QR,simprocAttr,hz1,hp]
     unfold n7c29
     simp (disch:=try exact DI) only [↓PR,QR,simprocAttr]
     exact hkn _ e
   obtain ⟨hn200,hsm⟩:=small_facts hst
   obtain ⟨t1,t2,t3,t4⟩:=small_of hsm hn200
   obtain ⟨gn200,gsm⟩:=small_facts hsu
   obtain ⟨s1,s2,s3,s4⟩:=small_of gsm gn200
   simp (disch:=try exact DI) only [↓PR,QR,simprocAttr]
   unfold n7c30 joinK
   simp (disch:=try exact DI) only [↓PR,QR,simprocAttr,hz1,hp]
   unfold n7c29
   simp (disch:=try exact DI) only [↓PR,QR,simprocAttr]
   refine drawK_intro ?_
   have eD:Ext w4 (drew w4):=(Ext.refl w4).drew
   have c1:=eD.obj c1
   have c2:=eD.obj c2
   have e:=e.trans eD
   generalize drew w4=D at *
   unfold n7c28 joinK
   simp (disch:=try exact DI) only [↓PR,QR,simprocAttr,(cells_of_heap c1).1,(cells_of_heap c2).1]
   have eD:=Ext.refl D
   have hgo:∀ (w:World) (p7 p8 lo1 hi1 lo2 hi2:Nat) (cs1 cs2:List Value),Ext D w→w.heap[p7]?=some (.cells cs1.toArray 26 (0,0))→w.heap[p8]?=some (.cells cs2.toArray 26 (0,0))→OwnT w t lo1 hi1 cs1→OwnT w to lo2 hi2 cs2→D.heap.size≤lo1→D.heap.size≤lo2→D.heap.size≤p7→D.heap.size≤p8→hi1≤w.heap.size→hi2≤w.heap.size→n7c7 (.string (mkB path)) (.pointer (some ⟨W.heap.size,0,none⟩)) (.pointer (some ⟨W.heap.size+1,0,none⟩)) (.pointer (some ⟨p7,0,none⟩)) (.pointer (some ⟨p8,0,none⟩)) (retR fun r w'=>r=Value.bool true∧Ext W w') w:=by
    intro w p7 p8 lo1 hi1 lo2 hi2 cs1 cs2 eDw k7 k8 hO1 hO2 l1 l2 l3 l4 l5 l6
    have e:=e.trans eDw
    have c1:=eDw.obj c1
    have c2:=eDw.obj c2
    obtain ⟨xb,xh,xp,rfl,_,_,_,x1,x2,x3⟩:=hO1.read.op
    obtain ⟨yb,yh,yp,rfl,_,_,_,y1,y2,y3⟩:=hO2.read.op
    have zD:W.heap.size+1 < D.heap.size:=(Array.getElem?_eq_some_iff.1 (show D.heap[W.heap.size+1]?=_ by assumption)).1
    unfold n7c7
    simp (disch:=try exact DI) only [↓PR,QR,simprocAttr,(cells_of_heap c1).1,(cells_of_heap c2).1]
    refine callK_ret (Set_ret (hE.ext e) 1048576 _ _ t to path (by omega) (hU.ext e) (hT.ext e) (by omega) (by omega) t3 s3) ?_
    intro r5 w5 hG
    obtain ⟨e5,cs5,lo5,hi5,rfl,hI5,hl5,hh5⟩:=set_shape hG
    obtain ⟨q1,q2⟩:=set_small (s:=path) hsm hn200 gsm gn200
    obtain ⟨q3,q4,q5⟩:=small_of4 q1 q2
    obtain ⟨zb,zh,zp,rfl,_,_,_,z1,z2,z3⟩:=hI5.1.all.op
    have c1:=e5.obj c1
    have c2:=e5.obj c2
    have k7:=e5.obj k7
    have k8:=e5.obj k8
    have hO1:=hO1.ext e5
    have hO2:=hO2.ext e5
    have e:=e.trans e5
    unfold n7c6
    simp (disch:=try exact DI) only [↓PR,QR,simprocAttr,fun o=>(cells_of_heap (((Ext.refl w5).alloc o).obj c1)).1,fun o=>(cells_of_heap (((Ext.refl w5).alloc o).obj c2)).1]
    have k9:=heap_new w5 #[.string (setE t to path).2.nd.name,.int .i64 (setE t to path).2.nd.int,zb,zh,zp] 26
    have e6:Ext w5 (w5.alloc (.cells #[.string (setE t to path).2.nd.name,.int .i64 (setE t to path).2.nd.int,zb,zh,zp] 26)):=ee
    generalize (w5.alloc (.cells #[.string (setE t to path).2.nd.name,.int .i64 (setE t to path).2.nd.int,zb,zh,zp] 26))=w6 at *
    have c1:=e6.obj c1
    have c2:=e6.obj c2
    have k7:=e6.obj k7
    have k8:=e6.obj k8
    have hO1:=hO1.ext e6
    have hO2:=hO2.ext e6
    have e:=e.trans e6
    refine callK_ret (rSet_ret _ _ t to path (by omega) (hU.ext e) (hT.ext e) (by omega) (by omega)) ?_
    rintro r7 w7 ⟨e7,v7,rfl,hV7⟩
    obtain ⟨rb,rh,rp,rfl,r1,r2,r3,r4,r5,r6⟩:=hV7.op
    have c1:=e7.obj c1
    have c2:=e7.obj c2
    have k7:=e7.obj k7
    have k8:=e7.obj k8
    have k9:=e7.obj k9
    have hO1:=hO1.ext e7
    have hO2:=hO2.ext e7
    have e:=e.trans e7
    unfold n7c5 joinK
    have hee:((setE t to path).1 != (setE t to path).1)=false:=by simp
    simp (disch:=try exact DI) only [↓PR,QR,simprocAttr,hee,fun o=>(cells_of_heap (((Ext.refl w7).alloc o).obj k9)).1]
    have e8:Ext w7 (w7.alloc (.cells #[.string (setE t to path).2.nd.name,.int .i64 (setE t to path).2.nd.int,rb,rh,rp] 26)):=ee
    generalize (w7.alloc (.cells #[.string (setE t to path).2.nd.name,.int .i64 (setE t to path).2.nd.int,rb,rh,rp] 26))=w8 at *
    have c1:=e8.obj c1
    have c2:=e8.obj c2
    have k7:=e8.obj k7
    have k8:=e8.obj k8
    have k9:=e8.obj k9
    have hO1:=hO1.ext e8
    have hO2:=hO2.ext e8
    have e:=e.trans e8
    have hX:ValAt w8 (.agg #[.string (setE t to path).2.nd.name,.int .i64 (setE t to path).2.nd.int,zb,zh,zp]) (setE t to path).2:=(val_of_cells hI5.1.all).ext (e6.trans (e7.trans e8))
    refine zcr (rEqual_ret w8 _ _ _ _ hX (ValAt.ext ⟨_,_,_,rfl,r1,r2,r3⟩ e8) q3 q3) fun w9 e9=>?_
    rw [cmp_refl]
    have c1:=e9.obj c1
    have c2:=e9.obj c2
    have k7:=e9.obj k7
    have k8:=e9.obj k8
    have k9:=e9.obj k9
    have hO1:=hO1.ext e9
    have hO2:=hO2.ext e9
    have e:=e.trans e9
    have e59:=e6.trans (e7.trans (e8.trans e9))
    have hI9:=hI5.same (w':=w9) fun b _ _ hb=>e59.block b hb
    have z5:=e5.size
    have z59:=e59.size
    have l7:p7 < w.heap.size:=(Array.getElem?_eq_some_iff.1 (show w.heap[p7]?=_ by assumption)).1
    have l8:p8 < w.heap.size:=(Array.getElem?_eq_some_iff.1 (show w.heap[p8]?=_ by assumption)).1
    have zDw:=eDw.size
    simp (disch:=try exact DI) only [↓PR,QR,simprocAttr]
    unfold n7c4
    simp (disch:=try exact DI) only [↓PR,QR,simprocAttr,hee,(cells_of_heap k9).1]
    refine callK_ret (spoil_ret (setE t to path).2 w9 (trCells (setE t to path).2.nd zb zh zp) lo5 hi5 1048576 hI9.2 (by omega) (by omega) q4) ?_
    intro r14 w14 hS1
    have o1:=(hS1.out _ (by omega) (.inl (by omega))).trans c1
    have o2:=(hS1.out _ (by omega) (.inl (by omega))).trans c2
    have o7:=(hS1.out _ (by omega) (.inl (by omega))).trans k7
    have o8:=(hS1.out _ (by omega) (.inl (by omega))).trans k8
    have eZ:Ext W w14:=hS1.ext e (by omega)
    have hB1:ValAt w14 (.agg #[.string t.nd.name,.int .i64 t.nd.int,xb,xh,xp]) t:=val_of_cells ((InT.of _ hO1 t3).1.keep (w':=w14) (Nat.le_refl _) (Nat.le_refl _) fun k g1 g2 g3=>hS1.out k g3 (.inl (by omega))).all
    have hB2:ValAt w14 (.agg #[.string to.nd.name,.int .i64 to.nd.int,yb,yh,yp]) to:=val_of_cells ((InT.of _ hO2 s3).1.keep (w':=w14) (Nat.le_refl _) (Nat.le_refl _) fun k g1 g2 g3=>hS1.out k g3 (.inl (by omega))).all
    unfold n7c3
    simp (disch:=try exact DI) only [↓PR,QR,simprocAttr,(cells_of_heap o1).1,(cells_of_heap o7).1]
    refine zcr (rEqual_ret w14 _ _ t t (hU.ext eZ) hB1 t1 t1) fun w15 e15=>?_
    rw [cmp_refl]
    have o2:=e15.obj o2
    have o8:=e15.obj o8
    have eZ:=eZ.trans e15
    unfold n7c2 joinK
    simp (disch:=try exact DI) only [↓PR,QR,simprocAttr,(cells_of_heap o2).1,(cells_of_heap o8).1]
    refine zcr (rEqual_ret w15 _ _ to to (hT.ext eZ) (hB2.ext e15) s1 s1) fun w16 e16=>?_
    rw [cmp_refl]
    unfold n7c1 joinK
    simp (disch:=try exact DI) only [↓PR,QR,simprocAttr]
    exact hkn _ (eZ.trans e16)
   have hend:∀ (w:World) (p7 p8 lo1 hi1 lo2 hi2:Nat) (cs1 cs2:List Value),Ext D w→w.heap[p7]?=some (.cells #[.string ByteArray.empty,.int .i64 0,.slice none 0 0,.slice none 0 0,.slice none 0 0] 26 (0,0))→w.heap[p8]?=some (.cells #[.string ByteArray.empty,.int .i64 0,.slice none 0 0,.slice none 0 0,.slice none 0 0] 26 (0,0))→OwnT w t lo1 hi1 cs1→OwnT w to lo2 hi2 cs2→D.heap.size≤lo1→D.heap.size≤lo2→D.heap.size≤p7∧p7≠p8→D.heap.size≤p8→hi1≤w.heap.size∧hi2≤w.heap.size→(hi1≤p7∨p7 < lo1)→(hi2≤p7∨p7 < lo2)→(hi1≤p8∨p8 < lo1)→(hi2≤p8∨p8 < lo2) →
    opU Pg (Instr.storeAt 26 (.pointer (some ⟨p7,0,none⟩)) (.agg cs1.toArray)) (panK (retR fun r w'=>r=Value.bool true∧Ext W w')) w fun w=>turnK w fun _ w=>opU Pg (Instr.storeAt 26 (.pointer (some ⟨p8,0,none⟩)) (.agg cs2.toArray)) (panK (retR fun r w'=>r=Value.bool true∧Ext W w')) w fun w=>turnK w fun _ w=>n7c7 (.string (mkB path)) (.pointer (some ⟨W.heap.size,0,none⟩)) (.pointer (some ⟨W.heap.size+1,0,none⟩)) (.pointer (some ⟨p7,0,none⟩)) (.pointer (some ⟨p8,0,none⟩)) (retR fun r w'=>r=Value.bool true∧Ext W w') w:=by
    intro w p7 p8 lo1 hi1 lo2 hi2 cs1 cs2 eDw k7 k8 hO1 hO2 l1 l2 l3 l4 l5 l6 l7 l8 l9
    have m1:cs1.length=5:=by obtain ⟨xb,xh,xp,rfl,_⟩:=hO1.read.op;rfl
    have m2:cs2.length=5:=by obtain ⟨xb,xh,xp,rfl,_⟩:=hO2.read.op;rfl
    rw [scStore ty26 k7 0 cs1 (by decide) m1 hO1.read.cells5]
    refine turnK_intro ?_
    have u1:Only p7 w (setCells w p7 0 cs1):=scOnly _ _ _
    have zz:=setCells_size cs1 (b:=p7) w 0
    have x1:Ext D (setCells w p7 0 cs1):=scExt l3.1 _ _ eDw
    have k7':=setCells_heap cs1 0 k7
    rw [setA_all (by rw [m1];rfl)] at k7'
    have k8':=(u1 p8 (fun h=>l3.2 h.symm)).trans k8
    have hO1':=hO1.only u1 l6
    have hO2':=hO2.only u1 l7
    generalize setCells w p7 0 cs1=w' at *
    rw [scStore ty26 k8' 0 cs2 (by decide) m2 hO2.read.cells5]
    refine turnK_intro ?_
    have u2:Only p8 w' (setCells w' p8 0 cs2):=scOnly _ _ _
    have zz2:=setCells_size cs2 (b:=p8) w' 0
    have x2:Ext D (setCells w' p8 0 cs2):=scExt l4 _ _ x1
    have k8'':=setCells_heap cs2 0 k8'
    rw [setA_all (by rw [m2];rfl)] at k8''
    exact hgo _ p7 p8 lo1 hi1 lo2 hi2 cs1 cs2 x2 ((u2 p7 l3.2).trans k7') k8'' (hO1'.only u2 l8) (hO2'.only u2 l9) l1 l2 l3.1 l4 (by omega) (by omega)
   refine ⟨?_,?_,?_⟩
   · skip
     refine callK_ret (Copy_ret t D _ (hU.ext (e.trans eD)) t2) ?_
     rintro _ x1 ⟨⟨cs1,rfl,hO1⟩,f1⟩
     have z1:=f1.size
     have ex1:=eD.trans f1
     refine ⟨ex1,?_⟩
     unfold n7c17
     refine ⟨?_,?_,?_⟩
     · skip
       refine callK_ret (Copy_ret to x1 _ (hT.ext (e.trans ex1)) s2) ?_
       rintro _ x2 ⟨⟨cs2,rfl,hO2⟩,f2⟩
       have z2:=f2.size
       have hO1:=hO1.ext f2
       have ex2:=ex1.trans f2
       refine ⟨ex2,?_⟩
       unfold n7c10
       refine ⟨?_,?_⟩
       · skip
         try rw [op_allocV]
         have a7:=heap_new x2 #[.string ByteArray.empty,.int .i64 0,.slice none 0 0,.slice none 0 0,.slice none 0 0] 26
         have f3:Ext x2 (x2.alloc (.cells #[.string ByteArray.empty,.int .i64 0,.slice none 0 0,.slice none 0 0,.slice none 0 0] 26)):=ee
         have z3:(x2.alloc (.cells #[.string ByteArray.empty,.int .i64 0,.slice none 0 0,.slice none 0 0,.slice none 0 0] 26)).heap.size=x2.heap.size+1:=by simp
         generalize (x2.alloc (.cells #[.string ByteArray.empty,.int .i64 0,.slice none 0 0,.slice none 0 0,.slice none 0 0] 26))=x3 at *
         generalize hp7:x2.heap.size=p7 at *
         have hO1:=hO1.ext f3
         have hO2:=hO2.ext f3
         have ex3:=ex2.trans f3
         refine ⟨ex3,?_⟩
         unfold n7c8
         try rw [op_allocV]
         have a8:=heap_new x3 #[.string ByteArray.empty,.int .i64 0,.slice none 0 0,.slice none 0 0,.slice none 0 0] 26
         have f4:Ext x3 (x3.alloc (.cells #[.string ByteArray.empty,.int .i64 0,.slice none 0 0,.slice none 0 0,.slice none 0 0] 26)):=ee
         have z4:(x3.alloc (.cells #[.string ByteArray.empty,.int .i64 0,.slice none 0 0,.slice none 0 0,.slice none 0 0] 26)).heap.size=x3.heap.size+1:=by simp
         generalize (x3.alloc (.cells #[.string ByteArray.empty,.int .i64 0,.slice none 0 0,.slice none 0 0,.slice none 0 0] 26))=x4 at *
         generalize hp8:x3.heap.size=p8 at *
         have a7:=f4.obj a7
         have hO1:=hO1.ext f4
         have hO2:=hO2.ext f4
         have ex4:=ex3.trans f4
         refine ⟨ex4,?_⟩
         exact hend _ _ _ _ _ _ _ _ _ ex4 a7 a8 hO1 hO2 (by omega) (by omega) (by omega) (by omega) (by omega) (by omega) (by omega) (by omega) (by omega)
       · skip
         try rw [op_allocV]
         have a8:=heap_new x2 #[.string ByteArray.empty,.int .i64 0,.slice none 0 0,.slice none 0 0,.slice none 0 0] 26
         have f3:Ext x2 (x2.alloc (.cells #[.string ByteArray.empty,.int .i64 0,.slice none 0 0,.slice none 0 0,.slice none 0 0] 26)):=ee
         have z3:(x2.alloc (.cells #[.string ByteArray.empty,.int .i64 0,.slice none 0 0,.slice none 0 0,.slice none 0 0] 26)).heap.size=x2.heap.size+1:=by simp
         generalize (x2.alloc (.cells #[.string ByteArray.empty,.int .i64 0,.slice none 0 0,.slice none 0 0,.slice none 0 0] 26))=x3 at *
         generalize hp8:x2.heap.size=p8 at *
         have hO1:=hO1.ext f3
         have hO2:=hO2.ext f3
         have ex3:=ex2.trans f3
         refine ⟨ex3,?_⟩
         unfold n7c9
         try rw [op_allocV]
         have a7:=heap_new x3 #[.string ByteArray.empty,.int .i64 0,.slice none 0 0,.slice none 0 0,.slice none 0 0] 26
         have f4:Ext x3 (x3.alloc (.cells #[.string ByteArray.empty,.int .i64 0,.slice none 0 0,.slice none 0 0,.slice none 0 0] 26)):=ee
         have z4:(x3.alloc (.cells #[.string ByteArray.empty,.int .i64 0,.slice none 0 0,.slice none 0 0,.slice none 0 0] 26)).heap.size=x3.heap.size+1:=by simp
         generalize (x3.alloc (.cells #[.string ByteArray.empty,.int .i64 0,.slice none 0 0,.slice none 0 0,.slice none 0 0] 26))=x4 at *
         generalize hp7:x3.heap.size=p7 at *
         have a8:=f4.obj a8
         have hO1:=hO1.ext f4
         have hO2:=hO2.ext f4
         have ex4:=ex3.trans f4
         refine ⟨ex4,?_⟩
         exact hend _ _ _ _ _ _ _ _ _ ex4 a7 a8 hO1 hO2 (by omega) (by omega) (by omega) (by omega) (by omega) (by omega) (by omega) (by omega) (by omega)
     · skip
       try rw [op_allocV]
       have a7:=heap_new x1 #[.string ByteArray.empty,.int .i64 0,.slice none 0 0,.slice none 0 0,.slice none 0 0] 26
       have f2:Ext x1 (x1.alloc (.cells #[.string ByteArray.empty,.int .i64 0,.slice none 0 0,.slice none 0 0,.slice none 0 0] 26)):=ee
       have z2:(x1.alloc (.cells #[.string ByteArray.empty,.int .i64 0,.slice none 0 0,.slice none 0 0,.slice none 0 0] 26)).heap.size=x1.heap.size+1:=by simp
       generalize (x1.alloc (.cells #[.string ByteArray.empty,.int .i64 0,.slice none 0 0,.slice none 0 0,.slice none 0 0] 26))=x2 at *
       generalize hp7:x1.heap.size=p7 at *
       have hO1:=hO1.ext f2
       have ex2:=ex1.trans f2
       refine ⟨ex2,?_⟩
       unfold n7c13
       refine ⟨?_,?_⟩
       · skip
         refine callK_ret (Copy_ret to x2 _ (hT.ext (e.trans ex2)) s2) ?_
         rintro _ x3 ⟨⟨cs2,rfl,hO2⟩,f3⟩
         have z3:=f3.size
         have hO1:=hO1.ext f3
         have a7:=f3.obj a7
         have ex3:=ex2.trans f3
         refine ⟨ex3,?_⟩
         unfold n7c11
         try rw [op_allocV]
         have a8:=heap_new x3 #[.string ByteArray.empty,.int .i64 0,.slice none 0 0,.slice none 0 0,.slice none 0 0] 26
         have f4:Ext x3 (x3.alloc (.cells #[.string ByteArray.empty,.int .i64 0,.slice none 0 0,.slice none 0 0,.slice none 0 0] 26)):=ee
         have z4:(x3.alloc (.cells #[.string ByteArray.empty,.int .i64 0,.slice none 0 0,.slice none 0 0,.slice none 0 0] 26)).heap.size=x3.heap.size+1:=by simp
         generalize (x3.alloc (.cells #[.string ByteArray.empty,.int .i64 0,.slice none 0 0,.slice none 0 0,.slice none 0 0] 26))=x4 at *
         generalize hp8:x3.heap.size=p8 at *
         have a7:=f4.obj a7
         have hO1:=hO1.ext f4
         have hO2:=hO2.ext f4
         have ex4:=ex3.trans f4
         refine ⟨ex4,?_⟩
         exact hend _ _ _ _ _ _ _ _ _ ex4 a7 a8 hO1 hO2 (by omega) (by omega) (by omega) (by omega) (by omega) (by omega) (by omega) (by omega) (by omega)
       · skip
         try rw [op_allocV]
         have a8:=heap_new x2 #[.string ByteArray.empty,.int .i64 0,.slice none 0 0,.slice none 0 0,.slice none 0 0] 26
         have f3:Ext x2 (x2.alloc (.cells #[.string ByteArray.empty,.int .i64 0,.slice none 0 0,.slice none 0 0,.slice none 0 0] 26)):=ee
         have z3:(x2.alloc (.cells #[.string ByteArray.empty,.int .i64 0,.slice none 0 0,.slice none 0 0,.slice none 0 0] 26)).heap.size=x2.heap.size+1:=by simp
         generalize (x2.alloc (.cells #[.string ByteArray.empty,.int .i64 0,.slice none 0 0,.slice none 0 0,.slice none 0 0] 26))=x3 at *
         generalize hp8:x2.heap.size=p8 at *
         have a7:=f3.obj a7
         have hO1:=hO1.ext f3
         have ex3:=ex2.trans f3
         refine ⟨ex3,?_⟩
         unfold n7c12
         refine callK_ret (Copy_ret to x3 _ (hT.ext (e.trans ex3)) s2) ?_
         rintro _ x4 ⟨⟨cs2,rfl,hO2⟩,f4⟩
         have z4:=f4.size
         have hO1:=hO1.ext f4
         have a7:=f4.obj a7
         have a8:=f4.obj a8
         have ex4:=ex3.trans f4
         refine ⟨ex4,?_⟩
         exact hend _ _ _ _ _ _ _ _ _ ex4 a7 a8 hO1 hO2 (by omega) (by omega) (by omega) (by omega) (by omega) (by omega) (by omega) (by omega) (by omega)
     · skip
       try rw [op_allocV]
       have a8:=heap_new x1 #[.string ByteArray.empty,.int .i64 0,.slice none 0 0,.slice none 0 0,.slice none 0 0] 26
       have f2:Ext x1 (x1.alloc (.cells #[.string ByteArray.empty,.int .i64 0,.slice none 0 0,.slice none 0 0,.slice none 0 0] 26)):=ee
       have z2:(x1.alloc (.cells #[.string ByteArray.empty,.int .i64 0,.slice none 0 0,.slice none 0 0,.slice none 0 0] 26)).heap.size=x1.heap.size+1:=by simp
       generalize (x1.alloc (.cells #[.string ByteArray.empty,.int .i64 0,.slice none 0 0,.slice none 0 0,.slice none 0 0] 26))=x2 at *
       generalize hp8:x1.heap.size=p8 at *
       have hO1:=hO1.ext f2
       have ex2:=ex1.trans f2
       refine ⟨ex2,?_⟩
       unfold n7c16
       refine ⟨?_,?_⟩
       · skip
         refine callK_ret (Copy_ret to x2 _ (hT.ext (e.trans ex2)) s2) ?_
         rintro _ x3 ⟨⟨cs2,rfl,hO2⟩,f3⟩
         have z3:=f3.size
         have hO1:=hO1.ext f3
         have a8:=f3.obj a8
         have ex3:=ex2.trans f3
         refine ⟨ex3,?_⟩
         unfold n7c14
         try rw [op_allocV]
         have a7:=heap_new x3 #[.string ByteArray.empty,.int .i64 0,.slice none 0 0,.slice none 0 0,.slice none 0 0] 26
         have f4:Ext x3 (x3.alloc (.cells #[.string ByteArray.empty,.int .i64 0,.slice none 0 0,.slice none 0 0,.slice none 0 0] 26)):=ee
         have z4:(x3.alloc (.cells #[.string ByteArray.empty,.int .i64 0,.slice none 0 0,.slice none 0 0,.slice none 0 0] 26)).heap.size=x3.heap.size+1:=by simp
         generalize (x3.alloc (.cells #[.string ByteArray.empty,.int .i64 0,.slice none 0 0,.slice none 0 0,.slice none 0 0] 26))=x4 at *
         generalize hp7:x3.heap.size=p7 at *
         have a8:=f4.obj a8
         have hO1:=hO1.ext f4
         have hO2:=hO2.ext f4
         have ex4:=ex3.trans f4
         refine ⟨ex4,?_⟩
         exact hend _ _ _ _ _ _ _ _ _ ex4 a7 a8 hO1 hO2 (by omega) (by omega) (by omega) (by omega) (by omega) (by omega) (by omega) (by omega) (by omega)
       · skip
         try rw [op_allocV]
         have a7:=heap_new x2 #[.string ByteArray.empty,.int .i64 0,.slice none 0 0,.slice none 0 0,.slice none 0 0] 26
         have f3:Ext x2 (x2.alloc (.cells #[.string ByteArray.empty,.int .i64 0,.slice none 0 0,.slice none 0 0,.slice none 0 0] 26)):=ee
         have z3:(x2.alloc (.cells #[.string ByteArray.empty,.int .i64 0,.slice none 0 0,.slice none 0 0,.slice none 0 0] 26)).heap.size=x2.heap.size+1:=by simp
         generalize (x2.alloc (.cells #[.string ByteArray.empty,.int .i64 0,.slice none 0 0,.slice none 0 0,.slice none 0 0] 26))=x3 at *
         generalize hp7:x2.heap.size=p7 at *
         have a8:=f3.obj a8
         have hO1:=hO1.ext f3
         have ex3:=ex2.trans f3
         refine ⟨ex3,?_⟩
         unfold n7c15
         refine callK_ret (Copy_ret to x3 _ (hT.ext (e.trans ex3)) s2) ?_
         rintro _ x4 ⟨⟨cs2,rfl,hO2⟩,f4⟩
         have z4:=f4.size
         have hO1:=hO1.ext f4
         have a7:=f4.obj a7
         have a8:=f4.obj a8
         have ex4:=ex3.trans f4
         refine ⟨ex4,?_⟩
         exact hend _ _ _ _ _ _ _ _ _ ex4 a7 a8 hO1 hO2 (by omega) (by omega) (by omega) (by omega) (by omega) (by omega) (by omega) (by omega) (by omega)
   · skip
     try rw [op_allocV]
     have a7:=heap_new D #[.string ByteArray.empty,.int .i64 0,.slice none 0 0,.slice none 0 0,.slice none 0 0] 26
     have f1:Ext D (D.alloc (.cells #[.string ByteArray.empty,.int .i64 0,.slice none 0 0,.slice none 0 0,.slice none 0 0] 26)):=ee
     have z1:(D.alloc (.cells #[.string ByteArray.empty,.int .i64 0,.slice none 0 0,.slice none 0 0,.slice none 0 0] 26)).heap.size=D.heap.size+1:=by simp
     generalize (D.alloc (.cells #[.string ByteArray.empty,.int .i64 0,.slice none 0 0,.slice none 0 0,.slice none 0 0] 26))=x1 at *
     generalize hp7:D.heap.size=p7 at *
     have ex1:=eD.trans f1
     refine ⟨ex1,?_⟩
     unfold n7c22
     refine ⟨?_,?_⟩
     · skip
       refine callK_ret (Copy_ret t x1 _ (hU.ext (e.trans ex1)) t2) ?_
       rintro _ x2 ⟨⟨cs1,rfl,hO1⟩,f2⟩
       have z2:=f2.size
       have a7:=f2.obj a7
       have ex2:=ex1.trans f2
       refine ⟨ex2,?_⟩
       unfold n7c20
       refine ⟨?_,?_⟩
       · skip
         refine callK_ret (Copy_ret to x2 _ (hT.ext (e.trans ex2)) s2) ?_
         rintro _ x3 ⟨⟨cs2,rfl,hO2⟩,f3⟩
         have z3:=f3.size
         have hO1:=hO1.ext f3
         have a7:=f3.obj a7
         have ex3:=ex2.trans f3
         refine ⟨ex3,?_⟩
         unfold n7c18
         try rw [op_allocV]
         have a8:=heap_new x3 #[.string ByteArray.empty,.int .i64 0,.slice none 0 0,.slice none 0 0,.slice none 0 0] 26
         have f4:Ext x3 (x3.alloc (.cells #[.string ByteArray.empty,.int .i64 0,.slice none 0 0,.slice none 0 0,.slice none 0 0] 26)):=ee
         have z4:(x3.alloc (.cells #[.string ByteArray.empty,.int .i64 0,.slice none 0 0,.slice none 0 0,.slice none 0 0] 26)).heap.size=x3.heap.size+1:=by simp
         generalize (x3.alloc (.cells #[.string ByteArray.empty,.int .i64 0,.slice none 0 0,.slice none 0 0,.slice none 0 0] 26))=x4 at *
         generalize hp8:x3.heap.size=p8 at *
         have a7:=f4.obj a7
         have hO1:=hO1.ext f4
         have hO2:=hO2.ext f4
         have ex4:=ex3.trans f4
         refine ⟨ex4,?_⟩
         exact hend _ _ _ _ _ _ _ _ _ ex4 a7 a8 hO1 hO2 (by omega) (by omega) (by omega) (by omega) (by omega) (by omega) (by omega) (by omega) (by omega)
       · skip
         try rw [op_allocV]
         have a8:=heap_new x2 #[.string ByteArray.empty,.int .i64 0,.slice none 0 0,.slice none 0 0,.slice none 0 0] 26
         have f3:Ext x2 (x2.alloc (.cells #[.string ByteArray.empty,.int .i64 0,.slice none 0 0,.slice none 0 0,.slice none 0 0] 26)):=ee
         have z3:(x2.alloc (.cells #[.string ByteArray.empty,.int .i64 0,.slice none 0 0,.slice none 0 0,.slice none 0 0] 26)).heap.size=x2.heap.size+1:=by simp
         generalize (x2.alloc (.cells #[.string ByteArray.empty,.int .i64 0,.slice none 0 0,.slice none 0 0,.slice none 0 0] 26))=x3 at *
         generalize hp8:x2.heap.size=p8 at *
         have a7:=f3.obj a7
         have hO1:=hO1.ext f3
         have ex3:=ex2.trans f3
         refine ⟨ex3,?_⟩
         unfold n7c19
         refine callK_ret (Copy_ret to x3 _ (hT.ext (e.trans ex3)) s2) ?_
         rintro _ x4 ⟨⟨cs2,rfl,hO2⟩,f4⟩
         have z4:=f4.size
         have hO1:=hO1.ext f4
         have a7:=f4.obj a7
         have a8:=f4.obj a8
         have ex4:=ex3.trans f4
         refine ⟨ex4,?_⟩
         exact hend _ _ _ _ _ _ _ _ _ ex4 a7 a8 hO1 hO2 (by omega) (by omega) (by omega) (by omega) (by omega) (by omega) (by omega) (by omega) (by omega)
     · skip
       try rw [op_allocV]
       have a8:=heap_new x1 #[.string ByteArray.empty,.int .i64 0,.slice none 0 0,.slice none 0 0,.slice none 0 0] 26
       have f2:Ext x1 (x1.alloc (.cells #[.string ByteArray.empty,.int .i64 0,.slice none 0 0,.slice none 0 0,.slice none 0 0] 26)):=ee
       have z2:(x1.alloc (.cells #[.string ByteArray.empty,.int .i64 0,.slice none 0 0,.slice none 0 0,.slice none 0 0] 26)).heap.size=x1.heap.size+1:=by simp
       generalize (x1.alloc (.cells #[.string ByteArray.empty,.int .i64 0,.slice none 0 0,.slice none 0 0,.slice none 0 0] 26))=x2 at *
       generalize hp8:x1.heap.size=p8 at *
       have a7:=f2.obj a7
       have ex2:=ex1.trans f2
       refine ⟨ex2,?_⟩
       refine callK_ret (Copy_ret t x2 _ (hU.ext (e.trans ex2)) t2) ?_
       rintro _ x3 ⟨⟨cs1,rfl,hO1⟩,f3⟩
       have z3:=f3.size
       have a7:=f3.obj a7
       have a8:=f3.obj a8
       have ex3:=ex2.trans f3
       refine ⟨ex3,?_⟩
       unfold n7c21
       refine callK_ret (Copy_ret to x3 _ (hT.ext (e.trans ex3)) s2) ?_
       rintro _ x4 ⟨⟨cs2,rfl,hO2⟩,f4⟩
       have z4:=f4.size
       have hO1:=hO1.ext f4
       have a7:=f4.obj a7
       have a8:=f4.obj a8
       have ex4:=ex3.trans f4
       refine ⟨ex4,?_⟩
       exact hend _ _ _ _ _ _ _ _ _ ex4 a7 a8 hO1 hO2 (by omega) (by omega) (by omega) (by omega) (by omega) (by omega) (by omega) (by omega) (by omega)
   · skip
     try rw [op_allocV]
     have a8:=heap_new D #[.string ByteArray.empty,.int .i64 0,.slice none 0 0,.slice none 0 0,.slice none 0 0] 26
     have f1:Ext D (D.alloc (.cells #[.string ByteArray.empty,.int .i64 0,.slice none 0 0,.slice none 0 0,.slice none 0 0] 26)):=ee
     have z1:(D.alloc (.cells #[.string ByteArray.empty,.int .i64 0,.slice none 0 0,.slice none 0 0,.slice none 0 0] 26)).heap.size=D.heap.size+1:=by simp
     generalize (D.alloc (.cells #[.string ByteArray.empty,.int .i64 0,.slice none 0 0,.slice none 0 0,.slice none 0 0] 26))=x1 at *
     generalize hp8:D.heap.size=p8 at *
     have ex1:=eD.trans f1
     refine ⟨ex1,?_⟩
     unfold n7c27
     refine ⟨?_,?_⟩
     · skip
       refine callK_ret (Copy_ret t x1 _ (hU.ext (e.trans ex1)) t2) ?_
       rintro _ x2 ⟨⟨cs1,rfl,hO1⟩,f2⟩
       have z2:=f2.size
       have a8:=f2.obj a8
       have ex2:=ex1.trans f2
       refine ⟨ex2,?_⟩
       unfold n7c25
       refine ⟨?_,?_⟩
       · skip
         refine callK_ret (Copy_ret to x2 _ (hT.ext (e.trans ex2)) s2) ?_
         rintro _ x3 ⟨⟨cs2,rfl,hO2⟩,f3⟩
         have z3:=f3.size
         have hO1:=hO1.ext f3
         have a8:=f3.obj a8
         have ex3:=ex2.trans f3
         refine ⟨ex3,?_⟩
         unfold n7c23
         try rw [op_allocV]
         have a7:=heap_new x3 #[.string ByteArray.empty,.int .i64 0,.slice none 0 0,.slice none 0 0,.slice none 0 0] 26
         have f4:Ext x3 (x3.alloc (.cells #[.string ByteArray.empty,.int .i64 0,.slice none 0 0,.slice none 0 0,.slice none 0 0] 26)):=ee
         have z4:(x3.alloc (.cells #[.string ByteArray.empty,.int .i64 0,.slice none 0 0,.slice none 0 0,.slice none 0 0] 26)).heap.size=x3.heap.size+1:=by simp
         generalize (x3.alloc (.cells #[.string ByteArray.empty,.int .i64 0,.slice none 0 0,.slice none 0 0,.slice none 0 0] 26))=x4 at *
         generalize hp7:x3.heap.size=p7 at *
         have a8:=f4.obj a8
         have hO1:=hO1.ext f4
         have hO2:=hO2.ext f4
         have ex4:=ex3.trans f4
         refine ⟨ex4,?_⟩
         exact hend _ _ _ _ _ _ _ _ _ ex4 a7 a8 hO1 hO2 (by omega) (by omega) (by omega) (by omega) (by omega) (by omega) (by omega) (by omega) (by omega)
       · skip
         try rw [op_allocV]
         have a7:=heap_new x2 #[.string ByteArray.empty,.int .i64 0,.slice none 0 0,.slice none 0 0,.slice none 0 0] 26
         have f3:Ext x2 (x2.alloc (.cells #[.string ByteArray.empty,.int .i64 0,.slice none 0 0,.slice none 0 0,.slice none 0 0] 26)):=ee
         have z3:(x2.alloc (.cells #[.string ByteArray.empty,.int .i64 0,.slice none 0 0,.slice none 0 0,.slice none 0 0] 26)).heap.size=x2.heap.size+1:=by simp
         generalize (x2.alloc (.cells #[.string ByteArray.empty,.int .i64 0,.slice none 0 0,.slice none 0 0,.slice none 0 0] 26))=x3 at *
         generalize hp7:x2.heap.size=p7 at *
         have a8:=f3.obj a8
         have hO1:=hO1.ext f3
         have ex3:=ex2.trans f3
         refine ⟨ex3,?_⟩
         unfold n7c24
         refine callK_ret (Copy_ret to x3 _ (hT.ext (e.trans ex3)) s2) ?_
         rintro _ x4 ⟨⟨cs2,rfl,hO2⟩,f4⟩
         have z4:=f4.size
         have hO1:=hO1.ext f4
         have a7:=f4.obj a7
         have a8:=f4.obj a8
         have ex4:=ex3.trans f4
         refine ⟨ex4,?_⟩
         exact hend _ _ _ _ _ _ _ _ _ ex4 a7 a8 hO1 hO2 (by omega) (by omega) (by omega) (by omega) (by omega) (by omega) (by omega) (by omega) (by omega)
     · skip
       try rw [op_allocV]
       have a7:=heap_new x1 #[.string ByteArray.empty,.int .i64 0,.slice none 0 0,.slice none 0 0,.slice none 0 0] 26
       have f2:Ext x1 (x1.alloc (.cells #[.string ByteArray.empty,.int .i64 0,.slice none 0 0,.slice none 0 0,.slice none 0 0] 26)):=ee
       have z2:(x1.alloc (.cells #[.string ByteArray.empty,.int .i64 0,.slice none 0 0,.slice none 0 0,.slice none 0 0] 26)).heap.size=x1.heap.size+1:=by simp
       generalize (x1.alloc (.cells #[.string ByteArray.empty,.int .i64 0,.slice none 0 0,.slice none 0 0,.slice none 0 0] 26))=x2 at *
       generalize hp7:x1.heap.size=p7 at *
       have a8:=f2.obj a8
       have ex2:=ex1.trans f2
       refine ⟨ex2,?_⟩
       refine callK_ret (Copy_ret t x2 _ (hU.ext (e.trans ex2)) t2) ?_
       rintro _ x3 ⟨⟨cs1,rfl,hO1⟩,f3⟩
       have z3:=f3.size
       have a7:=f3.obj a7
       have a8:=f3.obj a8
       have ex3:=ex2.trans f3
       refine ⟨ex3,?_⟩
       unfold n7c26
       refine callK_ret (Copy_ret to x3 _ (hT.ext (e.trans ex3)) s2) ?_
       rintro _ x4 ⟨⟨cs2,rfl,hO2⟩,f4⟩
       have z4:=f4.size
       have hO1:=hO1.ext f4
       have a7:=f4.obj a7
       have a8:=f4.obj a8
       have ex4:=ex3.trans f4
       refine ⟨ex4,?_⟩
       exact hend _ _ _ _ _ _ _ _ _ ex4 a7 a8 hO1 hO2 (by omega) (by omega) (by omega) (by omega) (by omega) (by omega) (by omega) (by omega) (by omega)
theorem ValueSets_at (W:World) (u:Value) (t:Tr) (s0:ByteArray) (v:Value) (to:Tr) (hu:ValAt W u t) (_:True) (hv:ValAt W v to) (_:True) (hE:EnvOK W):Ret Pg 5 #[u,.string s0,v] W fun r w'=>r = .bool true∧Ext W w':=by
 have:=ValueSets_ret W u v t to s0.data.toList hu hv hE
 rwa [mkB_self] at this
end Go.Proofs.YtcffhmapmaahnaaGreatDoor
namespace Go.Proofs.YtcffhmapmaahnaaGreatDoor
open Sw
open Go.ChangeShapes Go.WideShapes Go.RowKit Go.ChangeAt Go.Deep
theorem vsets_lifted (os:Os) (started:os.Started) (H:Type) (enc:TypeId×Value→H) :
 ReturnsInHanded {} Tryz.checked os 5 .any (fun w args=>(Rows.valueSetsSpec.pre enc Pg Tryz.f5 Rows.valueSetsRow.domain false w args∧laidMetH Pg role_laid w)∧sizedMet enc Pg Tryz.f5 (OpenSpec.ofChange Rows.valueSetsSpec) false w args) (Rows.valueSetsSpec.post enc Pg Tryz.f5 false true false false):=by
 refine handed_and (C:=Tryz.checked) (X:=fun w _=>laidMetH Pg role_laid w) (fun _ _ _ hh h=>h.of_heap hh) role_own started (by kernel_rfl) Tryz.func5
  (ChangeSpec.witness_shaped (enc:=enc) (C:=Tryz.checked) (os:=os) (X:=fun w _=>laidMetH Pg role_laid w) false (World.laidAll Pg os role_laid) #[.agg #[.string ByteArray.empty,.int .i64 0,.slice none 0 0,.slice none 0 0,.slice none 0 0],.string ByteArray.empty,.agg #[.string ByteArray.empty,.int .i64 0,.slice none 0 0,.slice none 0 0,.slice none 0 0]] 8 (World.laidAll_os _ _ _) (World.shaped_of_ZipB (by kernel_rfl) (by kernel_rfl)) (by kernel_rfl) (by kernel_rfl) (by kernel_rfl) (role_met os _)) ?_
 intro W base args ds gs before hval hW _ hsz hL hsh _
 have hW':=hW
 obtain ⟨p,q,hA0,hV,rfl,_,_⟩:=hW
 have hA:DataW.TrodAll enc Pg W 0 (fun _=>true) true Tryz.f5.params.toList args.toList ds p:=hA0
 rw [Tryz.params5] at hA hval hsz
 obtain ⟨v0,vs0,d0,ds0,p0,q0,ha0,rfl,rfl,h0,r0⟩:=trodAll_cons hA
 obtain ⟨v1,vs1,d1,ds1,p1,q1,ha1,rfl,rfl,h1,r1⟩:=trodAll_cons r0
 obtain ⟨v2,vs2,d2,ds2,p2,q2,ha2,rfl,rfl,h2,r2⟩:=trodAll_cons r1
 obtain ⟨rfl,rfl,rfl⟩:=trodAll_nil r2
 subst ha2 ha1
 obtain rfl:args = #[v0,v1,v2]:=by cases args;simp_all
 obtain ⟨f0,hf0,hs0⟩:=val_val (hval 0 _ v0 rfl rfl) h0 (reached_of (j:=0) hsz rfl rfl)
 obtain ⟨s1,rfl,_⟩:=open_str Tryz.underlying9 (hval 1 _ v1 rfl rfl) h1
 obtain ⟨f2,hf2,hs2⟩:=val_val (hval 2 _ v2 rfl rfl) h2 (reached_of (j:=2) hsz rfl rfl)
 refine Calls.mono (ValueSets_at W v0 f0 s1 v2 f2 hf0 hs0 hf2 hs2 (role_env hsh hL)) fun e W' ⟨v,he,hv,hx⟩=>?_
 subst he hv
 exact ⟨_,rfl,law_post role_laidOut (by decide +kernel) rfl hW' hx rfl Tryz.underlying4 rfl rfl rfl⟩
theorem vsets_holds:Rows.ValueSetsSaid :=
 OpenClaim.holds_of_wide 5 Tryz.f5 rfl rfl rfl rfl rfl rfl rfl ⟨rfl,rfl,rfl,rfl,rfl⟩ rfl rfl rfl rfl rfl (by kernel_rfl) Tryz.func5 (by kernel_rfl)
  (of_decide_eq_true (by kernel_rfl)) (by unfold Func.isWrapper;first | (rw [if_pos (by decide +kernel)];kernel_rfl) | (rw [if_neg (by decide +kernel)];exact ⟨rfl,rfl⟩))
  (fun os started H enc _=>vsets_lifted os started H enc)
theorem vsets_card:Rows.ValueSetsCardSaid :=
 Claim7.holds_tied_plain_at .later [] [.data,.data,.data,.data,.sentinel,.sentinel,.pinned] true (true, "890728a3a62857bfa7207560ed87612b9253540bda02dd327723c287671f9d21") true
  vsets_holds (fun _ h=>by cases h) (by kernel_rfl) (fun _ h=>by cases h) valueSets_row_tie rfl ⟨rfl,rfl⟩ (by kernel_rfl) rfl
  (fun f fn hf hfn=>by
   obtain rfl:f=5:=Option.some.inj ((show Pg.funcNamed "phrasebook/phrasebooklaw13.ValueSets" = some 5 by kernel_rfl).symm.trans hf) |>.symm
   obtain rfl:fn=Tryz.f5:=(Option.some.inj (Tryz.func5.symm.trans hfn)).symm
   exact ⟨by kernel_rfl,fun j t ht=>by
    rw [Tryz.params5] at ht
    have hm:t∈[26,9,26]:=by simpa using Array.mem_of_getElem? ht
    have hall:([26,9,26].all fun u=>!Pg.wantsStandIn u)=true:=by kernel_rfl
    exact (show Pg.wantsStandIn t=false by simpa using List.all_eq_true.1 hall t hm)⟩)
  (by kernel_rfl)
end Go.Proofs.YtcffhmapmaahnaaGreatDoor
