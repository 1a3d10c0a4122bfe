/-
  phrasebooklaw13.ValueTotal returns true for every three values, and leaves its arguments as they were; no condition is asked but that the tables of the library lie as the program lays them (the card ties them).
-/
import Derived.Test.YtcffhmapmaahnaaGreatDoorVc4
set_option linter.all false
set_option maxHeartbeats 4000000
set_option maxRecDepth 100000
namespace Go.Proofs.YtcffhmapmaahnaaGreatDoor
open Sw
open Go.RowKit (intOf Below)
theorem outs7 {Q:Bks→World→Prop} (hQ:Lasts7 Q) {V:Bks} {L:List (Option TypeId×Value)} {R:RT} {bs:List Nat} (hk:∀ w,Q V w→outX Pg [] L R w):∀ {w:World},bs.Nodup→(∀ b∈bs,MarkAt b w)→(∀ b∈bs,V b)→Q V w→outX Pg (bs.map Sw.mark) L R w:=by
 induction bs with
 | nil=>exact fun _ _ _ h=>hk _ h
 | cons b bs ih =>
  intro w hn hm hB h
  obtain ⟨hb,hn'⟩:=List.nodup_cons.1 hn
  have hmb:=hm b (List.mem_cons_self ..)
  refine outX_mark hmb (ih hn' (fun c hc=>?_) (fun c hc=>hB c (List.mem_cons_of_mem _ hc)) (hQ.put (hB b (List.mem_cons_self ..)) h _))
  exact (World.putObj_heap_other (fun (e:c=b)=>hb (by rw [← e];exact hc))).trans (hm c (List.mem_cons_of_mem _ hc))
theorem outq7 {Q:Bks→World→Prop} (hQ:Lasts7 Q) {V:Bks} {L:List (Option TypeId×Value)} {R:RT} {ch:List PanicEntry} {bs:List Nat} (hk:∀ w,Q V w→R (.panicked ch) w):∀ {w:World},bs.Nodup→(∀ b∈bs,MarkAt b w)→(∀ b∈bs,V b)→Q V w→outQ Pg (bs.map Sw.mark) L R ch w:=by
 induction bs with
 | nil=>intro w _ _ _ h;rw [List.map_nil,outQ_nil];exact hk _ h
 | cons b bs ih =>
  intro w hn hm hB h
  obtain ⟨hb,hn'⟩:=List.nodup_cons.1 hn
  have hmb:=hm b (List.mem_cons_self ..)
  refine outQ_mark hmb (ih hn' (fun c hc=>?_) (fun c hc=>hB c (List.mem_cons_of_mem _ hc)) (hQ.put (hB b (List.mem_cons_self ..)) h _))
  exact (World.putObj_heap_other (fun (e:c=b)=>hb (by rw [← e];exact hc))).trans (hm c (List.mem_cons_of_mem _ hc))
theorem LW7.shrink {V V':Bks} (w:World) (h:∀ b,V' b→V b):LW7 V V' w w:=⟨rfl,rfl,rfl,Nat.le_refl _,fun _ _ _=>rfl,fun b hb => .inl (h b hb)⟩
structure Rg (A:World) (lo hi:Nat) (u:World):Prop where
 env:EnvOK u
 size:hi≤u.heap.size
 same:∀ b,lo≤b→b < hi→u.heap[b]?=A.heap[b]?
theorem Rg.ext {A:World} {lo hi:Nat} {u u':World} (h:Rg A lo hi u) (e:Ext u u'):Rg A lo hi u':=⟨h.env.ext e,Nat.le_trans h.size e.size,fun b h1 h2=>(e.block b (Nat.lt_of_lt_of_le h2 h.size)).trans (h.same b h1 h2)⟩
theorem Rg.eti {A:World} {lo hi:Nat} {u:World} (h:Rg A lo hi u) {cs:List Value} {t:Tr} (hE:ETi A lo hi cs t):ETr u cs t:=(hE.keep (w':=u) (Nat.le_refl _) (Nat.le_refl _) fun k h1 h2 _=>h.same k h1 h2).all
theorem Rg.elem {A:World} {lo hi:Nat} {u:World} (h:Rg A lo hi u) {b o:Nat} {cs:List Value} (hE:ElemAt (restr A lo hi) b o cs):ElemAt u b o cs:=fun j v hv=>by
 obtain ⟨h1,h2⟩:=restr_cell (hE j v hv)
 rw [← h2]
 exact World.cell?_of_block (h.same b h1.1 h1.2)
theorem val_of_eti {w:World} {n:Nd} {ps:List Tr} {bv hv pv:Value} (h:ETr w (trCells n bv hv pv) (.mk n ps)):ValAt w (.agg (trCells n bv hv pv).toArray) (.mk n ps):=by
 obtain ⟨x1,x2,x3,hx,y1,y2,y3⟩:=ETr_of.1 h
 exact ⟨x1,x2,x3,by rw [hx],y1,y2,y3⟩
def WalkY (L:List (List UInt8×Tr)):Nat→Nat→Value→Value→Bks→World→Prop:=fun base k x y V w=>∃ q cs lo hi,L[k]?=some q∧x = .string (mkB q.1)∧y = .agg cs.toArray∧OwnT w q.2 lo hi cs∧base≤lo∧hi≤w.heap.size∧∀ b,lo≤b→b < hi→¬ V b
def WalkP (p1 p2:Nat) (path:List UInt8) (cs:List Value) (w:World):Prop:=w.heap[p1]?=some (.cells #[.string (mkB path)] 9 (0,0))∧w.heap[p2]?=some (.cells cs.toArray 26 (0,0))
def WalkSeq (A:World) (lo hi:Nat) (t:Tr) (path:List UInt8) (cs:List Value):Prop:=∀ p1 p2,hi≤p1→hi≤p2→p1≠p2→SeqIt7 Pg 82 #[.pointer (some ⟨p1,0,none⟩),.pointer (some ⟨p2,0,none⟩)] (walkT t path).length (WalkY (walkT t path)) (fun b=>b=p1∨b=p2) (WalkP p1 p2 path cs) (Rg A lo hi)
theorem walk_ret (w0:World) (path:List UInt8) (t:Tr) (bv hv pv:Value) (o1:bv.oneCell'=true) (o2:hv.oneCell'=true) (o3:pv.oneCell'=true):Ret Pg 59 #[.agg (trCells t.nd bv hv pv).toArray,.string (mkB path)] w0 fun r w'=>r = .func (.func 82) #[] #[.pointer (some ⟨w0.heap.size+1,0,none⟩),.pointer (some ⟨w0.heap.size,0,none⟩)]∧WalkP (w0.heap.size+1) w0.heap.size path (trCells t.nd bv hv pv) w'∧Ext w0 w':=by
 refine n68s (R:=retR _) ?_;unfold n68
 simp (disch:=try exact DI) only [↓PR,QR,simprocAttr]
 have c1:=heap_new w0 #[.string t.nd.name,.int .i64 t.nd.int,bv,hv,pv] 26
 change (w0.alloc (.cells (trCells t.nd bv hv pv).toArray 26)).heap[w0.heap.size]?=_ at c1
 have e1:Ext w0 (w0.alloc (.cells (trCells t.nd bv hv pv).toArray 26)):=(Ext.refl w0).alloc _
 have z1:(w0.alloc (.cells (trCells t.nd bv hv pv).toArray 26)).heap.size=w0.heap.size+1:=by simp
 have c2:=heap_new (w0.alloc (.cells (trCells t.nd bv hv pv).toArray 26)) #[.string (mkB path)] 9
 rw [z1] at c2
 have e2:Ext (w0.alloc (.cells (trCells t.nd bv hv pv).toArray 26)) ((w0.alloc (.cells (trCells t.nd bv hv pv).toArray 26)).alloc (.cells #[.string (mkB path)] 9)):=(Ext.refl _).alloc _
 exact ⟨trivial,⟨c2,e2.obj c1⟩,e1.trans e2⟩
def Vk (p1 p2 p3 m:Nat) (bs:List Nat):Bks:=fun b=>b=p1∨b=p2∨b=p3∨b=m∨b∈bs
structure WkI (J:Nat→Bks→World→Prop) (LL:List (List (List UInt8×Tr))) (ps:List Tr) (path:List UInt8) (cs:List Value) (p1 p2 p3 m:Nat) (yv:Value) (k:Nat) (bs:List Nat) (w:World):Prop where
 j:J (offL LL k+1) (Vk p1 p2 p3 m bs) w
 s1:w.heap[p1]?=some (.cells #[.string (mkB path)] 9 (0,0))
 s2:w.heap[p2]?=some (.cells cs.toArray 26 (0,0))
 s3:w.heap[p3]?=some (.cells #[yv] 97 (0,0))
 mp:∃ L c,MapS w m L c∧∀ nm,(Sw.look L nm).getD (Value.int .i64 0) = .int .i64 (cntB ((ps.take k).map fun x=>x.nd.name) nm:Int)
 nd:bs.Nodup
 mks:∀ b∈bs,MarkAt b w
 bs3:∀ b∈bs,p3≤b
 n1:p1 < p3
 n2:p2 < p3
 n3:p3 < m
 n4:m < w.heap.size
theorem WkI.ext {J:Nat→Bks→World→Prop} (hJl:∀ k,Lasts7 (J k)) {LL:List (List (List UInt8×Tr))} {ps:List Tr} {path:List UInt8} {cs:List Value} {p1 p2 p3 m:Nat} {yv:Value} {k:Nat} {bs:List Nat} {w w':World} (H:WkI J LL ps path cs p1 p2 p3 m yv k bs w) (e:Ext w w'):WkI J LL ps path cs p1 p2 p3 m yv k bs w':=by
 obtain ⟨L,c,h1,h2⟩:=H.mp
 exact ⟨(hJl _).ext H.j e,e.obj H.s1,e.obj H.s2,e.obj H.s3,⟨L,c,h1.ext e,h2⟩,H.nd,fun b hb=>(H.mks b hb).ext e,H.bs3,H.n1,H.n2,H.n3,Nat.lt_of_lt_of_le H.n4 e.size⟩
theorem or_lasts {J:Bks→World→Prop} (h:Lasts7 J) (U:Bks):Lasts7 (fun V w=>J (fun b=>U b∨V b) w):=fun V V' w w' hl hI=>h _ _ _ _ ⟨hl.os,hl.tape,hl.output,hl.size,fun b hb hv=>hl.block b hb fun h=>hv (.inr h),fun b hb=>by
 rcases hb with hb | hb
 · exact .inl (.inl hb)
 · exact (hl.new b hb).imp_left .inr⟩ hI
theorem marks_lasts (bs:List Nat):Lasts7 (fun V w=>∀ b∈bs,¬ V b∧w.heap[b]?=some (.deferred (some []))):=fun V V' w w' hl h b hb=>Lasts7.has _ _ _ _ hl (h b hb)
def WkR (J:Nat→Bks→World→Prop) (Jx:Bks→World→Prop) (Jp:List PanicEntry→Bks→World→Prop) (N:Nat):Ending→World→Prop:=fun e w'=>match e with
 | .returned _=>∃ V,J N V w'∨Jx V w'
 | .panicked ch=>∃ V,Jp ch V w'
 | .outgrown=>False
theorem walk_tail {A:World} {rl rh:Nat} {J:Nat→Bks→World→Prop} {Jx:Bks→World→Prop} {Jp:List PanicEntry→Bks→World→Prop} {n:Nd} {ps:List Tr} {LL:List (List (List UInt8×Tr))} {path:List UInt8} {csv:List Value} {p1 p2 p3 m p6 k:Nat} {yv:Value} {bs:List Nat} {x:Tr} {bx hx' px:Value} {w:World} {next2:List Deferred→Value→World→Prop} (hFP:∀ k V w,J k V w→Rg A rl rh w) (hJl:∀ k,Lasts7 (J k)) (hJx:Lasts7 Jx) (hJp:∀ ch,Lasts7 (Jp ch)) (hA3:rh≤p3) (hy:yv.oneCell'=true)
 (hstep:∀ k,k < ((path,Tr.mk n ps)::LL.flatten).length→∀ x y V w',WalkY ((path,Tr.mk n ps)::LL.flatten) p3 k x y V w'→(∀ b,V b→(b=p1∨b=p2)∨p3≤b)→∀ Rk,Firm7 V Rk→J k V w'→Rk w'→callV Pg yv #[x,y] (fun ch w''=>Rk w''∧Jp ch V w'') w' (fun v w''=>Rk w''∧((v = .bool true∧J (k+1) V w'')∨(v = .bool false∧Jx V w''))))
 (H:WkI J LL ps path csv p1 p2 p3 m yv k bs w) (hx:ps[k]?=some x) (hLk:LL[k]?=some (walkT x (belowB path ps k x))) (hpl:path.length≤900000000) (hnb:nameB x.nd.name=true) (hkl:k≤1000000000) (f1:bx.oneCell'=true) (f2:hx'.oneCell'=true) (f3:px.oneCell'=true) (ih:WalkSeq A rl rh x (belowB path ps k x) (trCells x.nd bx hx' px)) (h6:w.heap[p6]?=some (.cells #[.string x.nd.name,.int .i64 x.nd.int,bx,hx',px] 26 (0,0)))
 (hnext:∀ r w',WkI J LL ps path csv p1 p2 p3 m yv (k+1) (r::bs) w'→next2 ((r::bs).map Sw.mark) (.int .i64 ((k+1:Nat):Int)) w') :
 n69c5 (.pointer (some ⟨p1,0,none⟩)) (.pointer (some ⟨p3,0,none⟩)) (.pointer (some ⟨p6,0,none⟩)) (.string (mkB (stepB x.nd.name (cntB ((ps.take k).map fun x=>x.nd.name) x.nd.name)))) (.map (some m)) (.int .i64 (k:Int)) next2 (bs.map Sw.mark) (WkR J Jx Jp ((path,Tr.mk n ps)::LL.flatten).length) w:=by
 unfold n69c5 joinK
 obtain ⟨L,c,hM,hLc⟩:=H.mp
 simp (disch:=try exact DI) only [↓PR,QR,simprocAttr,(cells_of_heap h6).1]
 rw [op_lookup1S Tryz.underlying123 Tryz.underlying9 ty3 hM,hLc]
 have hcl:cntB ((ps.take k).map fun x=>x.nd.name) x.nd.name≤k:=by
  unfold cntB
  refine Nat.le_trans (List.length_filter_le _ _) ?_
  rw [List.length_map,List.length_take]
  omega
 have hwc:IntKind.i64.wrap ((cntB ((ps.take k).map fun x=>x.nd.name) x.nd.name:Int)+1)=((cntB ((ps.take k).map fun x=>x.nd.name) x.nd.name+1:Nat):Int):=wrap_succ (by omega)
 simp (disch:=try exact DI) only [↓PR,QR,simprocAttr,hwc]
 rw [op_mapUpdateS Tryz.underlying123 Tryz.underlying9 hM]
 have hm6:p6≠m:=fun e=>by
  have:=hM.obj
  rw [← e,h6] at this
  cases this
 have n1:=H.n1
 have n2:=H.n2
 have n3:=H.n3
 have n4:=H.n4
 have hM7:=hM.put x.nd.name (.int .i64 ((cntB ((ps.take k).map fun x=>x.nd.name) x.nd.name+1:Nat):Int))
 have hLc7:∀ nm,(Sw.look (putL L c x.nd.name (.int .i64 ((cntB ((ps.take k).map fun x=>x.nd.name) x.nd.name+1:Nat):Int))) nm).getD (.int .i64 0) = .int .i64 (cntB ((ps.take (k+1)).map fun x=>x.nd.name) nm:Int):=by
  intro nm
  rw [look_put]
  have hc:cntB ((ps.take (k+1)).map fun x=>x.nd.name) nm=cntB ((ps.take k).map fun x=>x.nd.name) nm+if x.nd.name=nm then 1 else 0:=by
   rw [List.take_add_one,hx,Option.toList_some,List.map_append]
   unfold cntB
   rw [List.filter_append,List.length_append]
   by_cases h:x.nd.name=nm<;>simp [h]
  rw [hc]
  by_cases h:nm=x.nd.name
  · rw [if_pos h,if_pos h.symm,h]
    rfl
  · rw [if_neg h,if_neg (fun e=>h e.symm),hLc,Nat.add_zero]
 generalize putL L c x.nd.name (.int .i64 ((cntB ((ps.take k).map fun x=>x.nd.name) x.nd.name+1:Nat):Int))=L7 at *
 generalize putC L c x.nd.name=c7 at *
 have hoth:∀ {p:Nat} {o:Obj},p≠m→w.heap[p]?=some o→(w.putObj m (mapObjS L7 c7)).heap[p]?=some o:=fun hne h=>(World.putObj_heap_other hne).trans h
 have s1:=hoth (by omega) H.s1
 have s2:=hoth (by omega) H.s2
 have s3:=hoth (by omega) H.s3
 have h6:=hoth hm6 h6
 have J7:=(hJl _).put (l:=m) (.inr (.inr (.inr (.inl rfl)))) H.j (mapObjS L7 c7)
 have hmk7:∀ b∈bs,MarkAt b (w.putObj m (mapObjS L7 c7)):=fun b hb=>(World.putObj_heap_other (fun e=>by
  have:=hM.obj
  rw [← e] at this
  have h2:w.heap[b]?=_:=H.mks b hb
  rw [h2] at this
  cases this)).trans (H.mks b hb)
 have z7:(w.putObj m (mapObjS L7 c7)).heap.size=w.heap.size:=by simp
 change MapS (w.putObj m (mapObjS L7 c7)) m L7 c7 at hM7
 generalize w.putObj m (mapObjS L7 c7)=w7 at *
 have hA7:=hFP _ _ _ J7
 have hnl:x.nd.name.data.toList.length≤32:=by
  unfold nameB at hnb
  simp only [Bool.and_eq_true,decide_eq_true_eq] at hnb
  have:=hnb.1.1.2
  have e:=Go.Lib.size_eq x.nd.name
  omega
 have hsl:(stepB x.nd.name (cntB ((ps.take k).map fun x=>x.nd.name) x.nd.name)).length≤100:=by
  unfold stepB
  rw [List.length_append]
  have:=decD_small 11 (cntB ((ps.take k).map fun x=>x.nd.name) x.nd.name) (by omega)
  split
  · rw [List.length_nil];omega
  · rw [List.length_cons];omega
 have hgo:callK Pg 59 #[.agg #[.string x.nd.name,.int .i64 x.nd.int,bx,hx',px],.string (mkB (belowB path ps k x))] (outQ Pg (bs.map Sw.mark) [] (WkR J Jx Jp ((path,Tr.mk n ps)::LL.flatten).length)) w7 fun t51 w=>n69c3 (.pointer (some ⟨p3,0,none⟩)) (.int .i64 (k:Int)) t51 next2 (bs.map Sw.mark) (WkR J Jx Jp ((path,Tr.mk n ps)::LL.flatten).length) w:=by
  refine callK_ret (walk_ret w7 (belowB path ps k x) x bx hx' px f1 f2 f3) ?_
  rintro _ w9 ⟨rfl,hWP,e9⟩
  unfold n69c3
  have J9:=(hJl _).ext J7 e9
  have s1:=e9.obj s1
  have s2:=e9.obj s2
  have s3:=e9.obj s3
  have hM9:=hM7.ext e9
  have hmk9:∀ b∈bs,MarkAt b w9:=fun b hb=>(hmk7 b hb).ext e9
  have z9:=e9.size
  have q1lt:=(Array.getElem?_eq_some_iff.1 hWP.1).1
  have hA7z:=hA7.size
  have hbl:∀ b∈bs,b < w7.heap.size:=fun b hb=>(Array.getElem?_eq_some_iff.1 (hmk7 b hb)).1
  have hoK:=offL_le hLk
  let U:Bks:=Vk p1 p2 p3 m (w9.heap.size::bs)
  have hUR:∀ b,U b→b≤w9.heap.size:=by
   rintro b (h | h | h | h | h)
   · omega
   · omega
   · omega
   · omega
   · rcases List.mem_cons.1 h with h | h
     · omega
     · have:=hbl b h;omega
  let I:Nat→Bks→World→Prop:=fun j V u=>J (offL LL k+1+j) (fun b=>U b∨V b) u∧(¬ V p1∧u.heap[p1]?=some (.cells #[.string (mkB path)] 9 (0,0)))∧(¬ V p2∧u.heap[p2]?=some (.cells csv.toArray 26 (0,0)))∧(¬ V p3∧u.heap[p3]?=some (.cells #[yv] 97 (0,0)))∧(¬ V m∧u.heap[m]?=some (mapObjS L7 c7))∧∀ b∈bs,¬ V b∧u.heap[b]?=some (.deferred (some []))
  let Ix:Nat→Bks→World→Prop:=fun c V u=>c=0∧Jx (fun b=>U b∨V b) u∧∀ b∈bs,¬ V b∧u.heap[b]?=some (.deferred (some []))
  let Ip:List PanicEntry→Bks→World→Prop:=fun ch V u=>Jp ch (fun b=>U b∨V b) u∧∀ b∈bs,¬ V b∧u.heap[b]?=some (.deferred (some []))
  have hI0:I 0 (fun b=>b=w7.heap.size+1∨b=w7.heap.size) w9:=by
   refine ⟨hJl _ _ _ _ _ (LW7.more (e9.trans (Ext.refl _)) fun b hb=>?_) J7,⟨by omega,s1⟩,⟨by omega,s2⟩,⟨by omega,s3⟩,⟨by omega,hM9.obj⟩,fun b hb=>⟨by have:=hbl b hb;omega,hmk9 b hb⟩⟩
   rcases hb with (h | h | h | h | h) | h
   · exact .inl (.inl h)
   · exact .inl (.inr (.inl h))
   · exact .inl (.inr (.inr (.inl h)))
   · exact .inl (.inr (.inr (.inr (.inl h))))
   · rcases List.mem_cons.1 h with h | h
     · exact .inr (by omega)
     · exact .inl (.inr (.inr (.inr (.inr h))))
   · exact .inr (by omega)
  refine ⟨_,_,_,_,_,_,_,I,Ix,Ip,rfl,c82,ih (w7.heap.size+1) w7.heap.size (by omega) (by omega) (by omega),fun w' e'=>⟨e'.obj hWP.1,e'.obj hWP.2⟩,fun b hb=>by omega,hI0,fun j V u h=>hFP _ _ _ h.1,fun j=>(or_lasts (hJl _) U).and (Lasts7.has.and (Lasts7.has.and (Lasts7.has.and (Lasts7.has.and (marks_lasts bs))))),fun c=>(Lasts7.const _).and ((or_lasts hJx U).and (marks_lasts bs)),fun ch=>(or_lasts (hJp ch) U).and (marks_lasts bs),?_,?_,?_,?_⟩
  · intro Rk V hR hV0 j xx yy u hj hY hIu hRu hltu hready
    obtain ⟨q,csq,lo,hi,hq,rfl,rfl,hOq,hlo,hhi,hdis⟩:=hY
    obtain ⟨yb,yh,yp,rfl,_,_,_,g1,g2,g3⟩:=hOq.read.op
    unfold n69c2
    simp (disch:=try exact DI) only [↓PR,QR,simprocAttr]
    change busyK _ (u.alloc (.cells #[.string q.2.nd.name,.int .i64 q.2.nd.int,yb,yh,yp] 26)) _
    have eA:Ext u (u.alloc (.cells #[.string q.2.nd.name,.int .i64 q.2.nd.int,yb,yh,yp] 26)):=ee
    have oA:=heap_new u #[.string q.2.nd.name,.int .i64 q.2.nd.int,yb,yh,yp] 26
    generalize (u.alloc (.cells #[.string q.2.nd.name,.int .i64 q.2.nd.int,yb,yh,yp] 26))=Y at eA oA ⊢
    generalize hpu:u.heap.size=pu at oA ⊢
    refine ⟨by obtain ⟨r,h1,h2⟩:=hready;exact ⟨r,eA.obj h1,h2⟩,fun w5 hbz=>?_⟩
    have hR5:=hR _ _ (KR7.busied hbz) (hR _ _ (KR7.of eA) hRu)
    have hLI:Lasts7 (I j):=(or_lasts (hJl _) U).and (Lasts7.has.and (Lasts7.has.and (Lasts7.has.and (Lasts7.has.and (marks_lasts bs)))))
    obtain ⟨J5,n1',n2',n3',n4',n5'⟩:=hLI.busied hbz (show plusB V w9.heap.size (w9.heap.size+1) from .inr (.inr rfl)) (hLI.ext hIu eA)
    have hbk:∀ b,b≠w9.heap.size+1→w5.heap[b]?=Y.heap[b]?:=by
     obtain ⟨r,_,rfl⟩:=hbz
     exact fun b hb=>World.putObj_heap_other hb
    have hz5:Y.heap.size=w5.heap.size:=by
     obtain ⟨r,_,rfl⟩:=hbz
     simp
    have qA:=(hbk pu (by omega)).trans oA
    have hO5:=OwnT.only (bk:=w9.heap.size+1) hbk (hOq.ext eA) (.inr (by omega))
    have zY:=eA.size
    unfold n69c1
    simp (disch:=try exact DI) only [↓PR,QR,simprocAttr,(cells_of_heap n3'.2).1,(cells_of_heap qA).1]
    have hs:=hstep (offL LL k+1+j) (by rw [List.length_cons];omega) (.string (mkB q.1)) (.agg (trCells q.2.nd yb yh yp).toArray) (fun b=>U b∨plusB V w9.heap.size b) w5 ⟨q,_,lo,hi,by rw [show offL LL k+1+j=(offL LL k+j)+1 by omega,List.getElem?_cons_succ,flat_at hLk hj];exact hq,rfl,rfl,hO5,by omega,by omega,fun b h1 h2 h3=>?_⟩ (fun b hb=>?_) (fun u=>Rk u∧(u.heap[p1]?=some (.cells #[.string (mkB path)] 9 (0,0))∧(u.heap[p2]?=some (.cells csv.toArray 26 (0,0))∧(u.heap[p3]?=some (.cells #[yv] 97 (0,0))∧(u.heap[m]?=some (mapObjS L7 c7)∧∀ b∈bs,u.heap[b]?=some (.deferred (some []))))))) ((hR.sub fun b h => .inr h).and ((Firm7.has (.inl (.inl rfl)) (by simp)).and ((Firm7.has (.inl (.inr (.inl rfl))) (by simp)).and ((Firm7.has (.inl (.inr (.inr (.inl rfl)))) (by simp)).and ((Firm7.has (.inl (.inr (.inr (.inr (.inl rfl))))) (by simp [mapObj])).and fun w w' h hm b hb=>h.defer b (hm b hb)))))) J5 ⟨hR5,n1'.2,n2'.2,n3'.2,n4'.2,fun b hb=>(n5' b hb).2⟩
    · refine callV_mono hs (fun ch w h=>⟨h.1.1,h.2,fun b hb=>⟨(n5' b hb).1,h.1.2.2.2.2.2 b hb⟩⟩) ?_
      rintro v w6 ⟨⟨hR6,k1,k2,k3,k4,k5⟩,⟨rfl,J6⟩ | ⟨rfl,J6⟩⟩
      · simp (disch:=try exact DI) only [↓PR,QR,simprocAttr]
        exact ⟨hR6,by rw [← Nat.add_assoc];exact J6,⟨n1'.1,k1⟩,⟨n2'.1,k2⟩,⟨n3'.1,k3⟩,⟨n4'.1,k4⟩,fun b hb=>⟨(n5' b hb).1,k5 b hb⟩⟩
      · simp (disch:=try exact DI) only [↓PR,QR,simprocAttr]
        exact ⟨hR6,rfl,J6,fun b hb=>⟨(n5' b hb).1,k5 b hb⟩⟩
    · rcases h3 with h3 | h3 | h3
      · have:=hUR b h3;omega
      · exact hdis b h1 h2 h3
      · omega
    · rcases hb with (h | h | h | h | h) | h | h
      · exact .inl (.inl h)
      · exact .inl (.inr h)
      · exact .inr (by omega)
      · exact .inr (by omega)
      · rcases List.mem_cons.1 h with h | h
        · exact .inr (by omega)
        · exact .inr (H.bs3 b h)
      · rcases hV0 b h with h | h
        · exact .inr (by omega)
        · exact .inr (by omega)
      · exact .inr (by omega)
  · rintro V u ⟨K1,K2,K3,K4,K5,K6⟩ hmk
    have hwk:IntKind.i64.wrap ((k:Int)+1)=((k+1:Nat):Int):=by rw [wrap_ok (by omega) (by omega)];omega
    simp (disch:=try exact DI) only [↓PR,QR,simprocAttr,hwk]
    have huz:=(Array.getElem?_eq_some_iff.1 (show u.heap[w9.heap.size]?=_ from hmk)).1
    refine hnext w9.heap.size u ⟨?_,K2.2,K3.2,K4.2,⟨L7,c7,hM9.of_obj (K5.2.trans hM9.obj.symm),hLc7⟩,List.nodup_cons.2 ⟨fun h=>by have:=hbl _ h;omega,H.nd⟩,fun b hb=>?_,fun b hb=>?_,n1,n2,n3,by omega⟩
    · rw [offL_succ hLk,Nat.add_right_comm]
      exact hJl _ _ _ _ _ (LW7.shrink u fun b hb => .inl hb) K1
    · rcases List.mem_cons.1 hb with rfl | hb
      · exact hmk
      · exact (K6 b hb).2
    · rcases List.mem_cons.1 hb with rfl | hb
      · omega
      · exact H.bs3 b hb
  · rintro c V u ⟨rfl,K1,K2⟩ hmk
    refine outs7 (bs:=w9.heap.size::bs) (Q:=Jx) (V:=fun b=>U b∨V b) hJx (fun w h=>?_) (List.nodup_cons.2 ⟨fun h=>by have:=hbl _ h;omega,H.nd⟩) (fun b hb=>?_) (fun b hb => .inl (.inr (.inr (.inr (.inr hb))))) K1
    · simp (disch:=try exact DI) only [↓PR,QR,simprocAttr,outX_nil,retV,resOne]
      exact ⟨_,.inr h⟩
    · rcases List.mem_cons.1 hb with rfl | hb
      · exact hmk
      · exact (K2 b hb).2
  · rintro ch V u ⟨K1,K2⟩ hmk
    refine outq7 (bs:=w9.heap.size::bs) (Q:=Jp ch) (V:=fun b=>U b∨V b) (hJp ch) (fun w h=>⟨_,h⟩) (List.nodup_cons.2 ⟨fun h=>by have:=hbl _ h;omega,H.nd⟩) (fun b hb=>?_) (fun b hb => .inl (.inr (.inr (.inr (.inr hb))))) K1
    rcases List.mem_cons.1 hb with rfl | hb
    · exact hmk
    · exact (K2 b hb).2
 unfold belowB at hgo
 generalize stepB x.nd.name (cntB ((ps.take k).map fun x=>x.nd.name) x.nd.name)=sb at *
 by_cases hp0:path=[]
 · subst hp0
   rw [show dotB [] sb=sb from if_pos rfl] at hgo
   rw [show mkB []=(⟨#[]⟩:ByteArray) from rfl] at s1
   simp (disch:=try exact DI) only [↓PR,QR,simprocAttr,(cells_of_heap s1).1,(cells_of_heap h6).1]
   exact hgo
 · have hpn:¬ mkB path=(⟨#[]⟩:ByteArray):=fun h=>hp0 (by
    have:=congrArg (fun b:ByteArray=>b.data.toList) h
    rwa [mkB_data] at this)
   rw [show dotB path sb=(path++[46])++sb by unfold dotB;rw [if_neg hp0];simp] at hgo
   simp (disch:=try exact DI) only [↓PR,QR,simprocAttr,(cells_of_heap s1).1,hpn]
   unfold n69c4
   simp (disch:=try exact DI) only [↓PR,QR,simprocAttr,(cells_of_heap s1).1]
   rw [show (⟨#[46]⟩:ByteArray)=mkB [46] from rfl,op_saddL _ _ _ _ (by simp;omega)]
   simp (disch:=try exact DI) only [↓PR,QR,simprocAttr]
   rw [op_saddL _ _ _ _ (by simp;omega)]
   simp (disch:=try exact DI) only [↓PR,QR,simprocAttr,(cells_of_heap h6).1]
   exact hgo
theorem walk_parts {A:World} {rl rh:Nat} {n:Nd} {ps:List Tr} {path:List UInt8} {bv hv pv:Value} (hT0:ETi A rl rh (trCells n bv hv pv) (.mk n ps)) (hfit:fitT (.mk n ps)=true) (hnb:∀ p∈ps,nameB p.nd.name=true) (hpl:path.length≤900000000)
 (ih:∀ (k:Nat) (p:Tr) (b1 h1 p1:Value),ps[k]?=some p→ETi A rl rh (trCells p.nd b1 h1 p1) p→WalkSeq A rl rh p (belowB path ps k p) (trCells p.nd b1 h1 p1)):WalkSeq A rl rh (.mk n ps) path (trCells n bv hv pv):=by
 obtain ⟨hB,hH,hT⟩:BytesOf (restr A rl rh) bv n.bytes∧HdrsOf (restr A rl rh) hv n.hdrs∧TrsOf (restr A rl rh) pv ps:=by
  obtain ⟨x1,x2,x3,hx,y1,y2,y3⟩:=ETr_mk.1 hT0
  unfold trCells at hx
  injection hx with _ hx
  injection hx with _ hx
  injection hx with e1 hx
  injection hx with e2 hx
  injection hx with e3 _
  subst e1 e2 e3
  exact ⟨y1,y2,y3⟩
 obtain ⟨LL,hLL⟩:∃ LL:List (List (List UInt8×Tr)),LL=partsW path [] ps (ps.map walkT):=⟨_,rfl⟩
 have hLk:∀ (k:Nat) (p:Tr),ps[k]?=some p→LL[k]?=some (walkT p (belowB path ps k p)):=fun k p hp=>by
  rw [hLL,partsW_get hp]
  rfl
 have hLlen:LL.length=ps.length:=by rw [hLL,partsW_len]
 have hL:walkT (.mk n ps) path=(path,.mk n ps)::LL.flatten:=by rw [walkT_mk,hLL]
 have o1:=SliceOf.oneCell hB
 have o2:=SliceOf.oneCell hH
 have o3:=SliceOf.oneCell hT
 intro p1 p2 hA1 hA2 h12 yv J Jx Jp w hy hPre hFP hJl hJx hJp hstep h0
 obtain ⟨q1,q2⟩:=hPre
 have hA:=hFP _ _ _ h0
 have hz1:=(Array.getElem?_eq_some_iff.1 q1).1
 have hz2:=(Array.getElem?_eq_some_iff.1 q2).1
 rw [hL] at hstep ⊢
 refine n69s (t0:=yv) ?_
 unfold n69
 simp (disch:=try exact DI) only [↓PR,QR,simprocAttr]
 simp only [cells_one hy]
 have eW:Ext w (w.alloc (.cells #[yv] 97)):=ee
 have oW:=heap_new w #[yv] 97
 generalize (w.alloc (.cells #[yv] 97))=Z at eW oW ⊢
 generalize hp3:w.heap.size=p3 at *
 refine drawK_introK p3 p1 p2 ?_
 have eD:Ext Z (drew Z):=(Ext.refl Z).drew
 have eD':=eW.trans eD
 have oD:=eD.obj oW
 generalize drew Z=D at *
 have d1:=eD'.obj q1
 have d2:=eD'.obj q2
 have Q1:=fun {k:Value→Prop}=>qK_one (a:=p3) (b:=p1) (c:=p2) (k:=k) (o:=0) ty97 (.inl rfl) oD rfl
 have Q2:=fun {k:Value→Prop}=>qK_one (a:=p3) (b:=p1) (c:=p2) (k:=k) (o:=0) ty9 (.inr (.inl rfl)) d1 rfl
 have Q3:=fun {k:Value→Prop}=>qK_all (a:=p3) (b:=p1) (c:=p2) (k:=k) (cs:=trCells n bv hv pv) ty26 (.inr (.inr rfl)) d2 rfl
 unfold n69c10
 simp (disch:=try exact DI) only [↓PR,QR,simprocAttr,Q1,Q2,Q3]
 have hVD:ValAt D (.agg (trCells n bv hv pv).toArray) (.mk n ps):=val_of_eti ((hA.ext eD').eti hT0)
 refine callK_ret (Copy_ret (.mk n ps) D _ hVD hfit) ?_
 rintro _ w3 ⟨⟨cs3,rfl,hO3⟩,e3⟩
 have hpD:=(Array.getElem?_eq_some_iff.1 oD).1
 have hk3:∀ p,p < D.heap.size→w3.heap[p]?=D.heap[p]?:=fun p hp=>e3.block p hp
 have zD:=eD'.size
 refine ⟨⟨hk3 _ hpD,hk3 _ (by omega),hk3 _ (by omega)⟩,?_⟩
 unfold n69c9
 have r1:=e3.obj d1
 have r2:=e3.obj d2
 have r3:=e3.obj oD
 have J3:J 0 (fun b=>(b=p1∨b=p2)∨b=p3) w3:=hJl 0 _ _ _ _ (LW7.more (eD'.trans e3) fun b hb=>hb.imp_right fun h=>by omega) h0
 have hs:=hstep 0 (by simp) (.string (mkB path)) (.agg cs3.toArray) (fun b=>(b=p1∨b=p2)∨b=p3) w3 ⟨(path,.mk n ps),cs3,D.heap.size,w3.heap.size,rfl,rfl,rfl,hO3,by omega,Nat.le_refl _,fun b h1 h2 h3=>by omega⟩ (fun b hb=>hb.imp_right fun h=>by omega) (fun u=>u.heap[p1]?=some (.cells #[.string (mkB path)] 9 (0,0))∧(u.heap[p2]?=some (.cells (trCells n bv hv pv).toArray 26 (0,0))∧u.heap[p3]?=some (.cells #[yv] 97 (0,0)))) ((Firm7.has (.inl (.inl rfl)) (by simp)).and ((Firm7.has (.inl (.inr rfl)) (by simp)).and (Firm7.has (.inr rfl) (by simp)))) J3 ⟨r1,r2,r3⟩
 refine callV_mono hs (fun ch w h=>⟨_,h.2⟩) ?_
 rintro v w4 ⟨⟨s1,s2,s3⟩,hv4⟩
 refine ⟨⟨s3.trans oD.symm,s1.trans d1.symm,s2.trans d2.symm⟩,?_⟩
 rcases hv4 with ⟨rfl,J4⟩ | ⟨rfl,J4⟩
 case inr =>
  simp (disch:=try exact DI) only [↓PR,QR,simprocAttr,outX_nil,retV,resOne]
  exact ⟨_,.inr J4⟩
 have hA4:=hFP _ _ _ J4
 simp (disch:=try exact DI) only [↓PR,QR,simprocAttr]
 unfold n69c8
 rw [op_makeMap]
 have e5:Ext w4 (w4.alloc (.map #[] 0)):=(Ext.refl _).alloc _
 have hM:=MapS.new w4
 have z5:(w4.alloc (.map #[] 0)).heap.size=w4.heap.size+1:=by simp
 have hz3:=(Array.getElem?_eq_some_iff.1 s3).1
 have hz4:=(Array.getElem?_eq_some_iff.1 s1).1
 have hz5:=(Array.getElem?_eq_some_iff.1 s2).1
 have J5:J 1 (Vk p1 p2 p3 w4.heap.size []) (w4.alloc (.map #[] 0)):=hJl 1 _ _ _ _ (LW7.more e5 fun b hb=>by
  rcases hb with h | h | h | h | h
  · exact .inl (.inl (.inl h))
  · exact .inl (.inl (.inr h))
  · exact .inl (.inr h)
  · exact .inr (by omega)
  · cases h) J4
 have s1:=e5.obj s1
 have s2:=e5.obj s2
 have s3:=e5.obj s3
 generalize (w4.alloc (.map #[] 0))=w5 at *
 generalize hm:w4.heap.size=m at *
 clear e5 e3 hO3 r1 r2 r3 J3 hVD Q1 Q2 Q3 d1 d2 oD hs hk3 hA4 J4
 obtain ⟨B0,c0,rfl,hlc,hcm,hlm,hel⟩:=SliceOf.open hT
 have s2c:=(cells_of_heap s2).1 4
 change w5.cell? _=some (Value.slice B0 ps.length c0) at s2c
 simp (disch:=try exact DI) only [↓PR,QR,simprocAttr,s2c]
 refine loopM1_intro (fun ds a w'=>∃ (k:Nat) (bs:List Nat),a = .int .i64 k∧ds=bs.map Sw.mark∧k≤ps.length∧WkI J LL ps path (trCells n bv hv (.slice B0 ps.length c0)) p1 p2 p3 m yv k bs w') (fun a _=>ps.length - (intOf a).toNat) ⟨0,[],rfl,rfl,by omega,?_⟩ ?_
 · exact ⟨J5,s1,s2,s3,⟨[],0,hM,fun nm=>rfl⟩,List.nodup_nil,(fun b h=>by cases h),(fun b h=>by cases h),by omega,by omega,by omega,by omega⟩
 rintro ds _ w6 ⟨k,bs,rfl,rfl,hkl,H⟩
 have hA6:=hFP _ _ _ H.j
 by_cases hlt:k < ps.length
 case neg =>
  obtain rfl:k=ps.length:=by omega
  have d:decide ((ps.length:Int) < (ps.length:Int))=false:=decide_eq_false (by omega)
  simp (disch:=try exact DI) only [↓PR,QR,simprocAttr,d]
  refine outs7 (Q:=fun V w=>J (offL LL ps.length+1) V w) (hJl _) (fun w h=>?_) H.nd H.mks (fun b hb => .inr (.inr (.inr (.inr hb)))) H.j
  simp (disch:=try exact DI) only [↓PR,QR,simprocAttr,outX_nil,retV,resOne]
  refine ⟨Vk p1 p2 p3 m bs,.inl ?_⟩
  have:offL LL ps.length=LL.flatten.length:=by rw [← offL_all,hLlen]
  rw [this] at h
  exact h
 have d:decide ((k:Int) < (ps.length:Int))=true:=decide_eq_true (by omega)
 have dk:(k:Int) < (ps.length:Int):=by omega
 obtain ⟨x,hx⟩:=getElem?_lt hlt
 obtain ⟨b,o,cs,rfl,h5,hAx,hEx⟩:=hel k x hx
 obtain ⟨bv',hv',pv',rfl,hB',hH',hT',f1,f2,f3⟩:=hEx.op
 obtain ⟨L,c,hM6,hLc⟩:=H.mp
 simp (disch:=try exact DI) only [↓PR,QR,simprocAttr,d]
 unfold n69c7
 simp (disch:=try exact DI) only [↓PR,QR,simprocAttr,dk,(hA6.elem hAx).c5 (Ext.refl _)]
 have e7:Ext w6 (w6.alloc (.cells #[.string x.nd.name,.int .i64 x.nd.int,bv',hv',pv'] 26)):=ee
 have o7:=heap_new w6 #[.string x.nd.name,.int .i64 x.nd.int,bv',hv',pv'] 26
 have H7:=H.ext hJl e7
 have hM7:=hM6.ext e7
 generalize (w6.alloc (.cells #[.string x.nd.name,.int .i64 x.nd.int,bv',hv',pv'] 26))=w7 at *
 generalize w6.heap.size=p6 at *
 have hA7:=hFP _ _ _ H7.j
 have hkn:ps.length≤1048576:=(fitT_mk hfit).2.2.1
 have hcl:cntB ((ps.take k).map fun x=>x.nd.name) x.nd.name≤k:=by
  unfold cntB
  refine Nat.le_trans (List.length_filter_le _ _) ?_
  rw [List.length_map,List.length_take]
  omega
 have hnl:x.nd.name.data.toList.length≤32:=by
  have hnb:=hnb x (List.mem_of_getElem? hx)
  unfold nameB at hnb
  simp only [Bool.and_eq_true,decide_eq_true_eq] at hnb
  have:=hnb.1.1.2
  have e:=Go.Lib.size_eq x.nd.name
  omega
 have hname:x.nd.name=mkB x.nd.name.data.toList:=bytes_ext (by rw [mkB_data])
 have hgo:∀ w8,Ext w7 w8→n69c5 (.pointer (some ⟨p1,0,none⟩)) (.pointer (some ⟨p3,0,none⟩)) (.pointer (some ⟨p6,0,none⟩)) (.string (mkB (stepB x.nd.name (cntB ((ps.take k).map fun x=>x.nd.name) x.nd.name)))) (.map (some m)) (.int .i64 (k:Int)) (fun ds' a0' w'=>(∃ (k:Nat) (bs:List Nat),a0' = .int .i64 k∧ds'=bs.map Sw.mark∧k≤ps.length∧WkI J LL ps path (trCells n bv hv (.slice (some ⟨b,o,none⟩) ps.length c0)) p1 p2 p3 m yv k bs w')∧ps.length - (intOf a0').toNat < ps.length - (intOf (.int .i64 (k:Int))).toNat) (bs.map Sw.mark) (WkR J Jx Jp ((path,Tr.mk n ps)::LL.flatten).length) w8:=fun w8 e8 =>
  walk_tail hFP hJl hJx hJp (by omega) hy hstep (H7.ext hJl e8) hx (hLk k x hx) hpl (hnb x (List.mem_of_getElem? hx)) (by omega) f1 f2 f3 (ih k x bv' hv' pv' hx hEx) (e8.obj o7) fun r w' h=>⟨⟨k+1,r::bs,rfl,rfl,by omega,h⟩,meas_lt (kd := .i64) hlt⟩
 rw [op_lookup1S Tryz.underlying123 Tryz.underlying9 ty3 hM7,hLc]
 unfold joinK
 generalize hcc:cntB ((ps.take k).map fun x=>x.nd.name) x.nd.name=cc at *
 by_cases hc0:cc=0
 · have hd:¬ (0:Int) < (cc:Int):=by omega
   simp (disch:=try exact DI) only [↓PR,QR,simprocAttr,hd]
   have hst:mkB (stepB x.nd.name cc)=x.nd.name:=by
    unfold stepB
    rw [if_pos hc0,List.append_nil,← hname]
   rw [hst] at hgo
   exact hgo w7 (Ext.refl _)
 · have hd:(0:Int) < (cc:Int):=by omega
   simp (disch:=try exact DI) only [↓PR,QR,simprocAttr,hd]
   refine zcr (Itoa_ret hA7.env.tab (cc:Int) (by omega) (by omega)) fun w8 e8=>?_
   have hdl:=decD_small 11 cc (by omega)
   have hit:decB (cc:Int)=mkB (Go.Lib.decDigits cc):=by
    unfold decB
    rw [itoa_pos (by omega),Int.toNat_natCast]
    rfl
   have hst:mkB (stepB x.nd.name cc)=mkB (x.nd.name.data.toList++([58]++Go.Lib.decDigits cc)):=by
    unfold stepB
    rw [if_neg hc0]
    rfl
   rw [hst] at hgo
   unfold n69c6
   rw [hit,show (⟨#[58]⟩:ByteArray)=mkB [58] from rfl,op_saddL _ _ _ _ (by simp;omega)]
   have hgo8:=hgo w8 e8
   generalize hnl2:x.nd.name.data.toList=nl at *
   rw [hname]
   rw [op_saddL _ _ _ _ (by simp;omega)]
   exact hgo8
theorem name_len {s:ByteArray} (h:nameB s=true):s.data.toList.length≤32:=by
 unfold nameB at h
 simp only [Bool.and_eq_true,decide_eq_true_eq] at h
 have:=h.1.1.2
 have e:=Go.Lib.size_eq s
 omega
theorem step_len {s:ByteArray} (h:nameB s=true) {n:Nat} (hn:n≤1000000000):(stepB s n).length≤100:=by
 have:=name_len h
 have h2:=decD_small 11 n (by omega)
 unfold stepB
 rw [List.length_append]
 split
 · rw [List.length_nil];omega
 · rw [List.length_cons];omega
theorem cnt_le (l:List ByteArray) (s:ByteArray):cntB l s≤l.length:=List.length_filter_le _ _
theorem below_len {path:List UInt8} {ps:List Tr} {k:Nat} {p:Tr} (h:nameB p.nd.name=true) (hp:ps.length≤1048576):(belowB path ps k p).length≤path.length+101:=by
 have h1:=cnt_le ((ps.take k).map fun x=>x.nd.name) p.nd.name
 rw [List.length_map,List.length_take] at h1
 have h2:=step_len h (n:=cntB ((ps.take k).map fun x=>x.nd.name) p.nd.name) (by omega)
 unfold belowB dotB
 split
 · omega
 · rw [List.length_append,List.length_cons];omega
theorem walk_seq {A:World} {rl rh:Nat} (t:Tr):∀ (path:List UInt8) (bv hv pv:Value),ETi A rl rh (trCells t.nd bv hv pv) t→allT nodeB t=true→fitT t=true→path.length+200*heightT t≤900000000→WalkSeq A rl rh t path (trCells t.nd bv hv pv):=by
 refine Tr.ind (p:=fun t=>∀ (path:List UInt8) (bv hv pv:Value),ETi A rl rh (trCells t.nd bv hv pv) t→allT nodeB t=true→fitT t=true→path.length+200*heightT t≤900000000→WalkSeq A rl rh t path (trCells t.nd bv hv pv)) ?_ t
 intro n ps ih path bv hv pv hV hn hf hl
 rw [heightT_mk] at hl
 rw [allT_mk,Bool.and_eq_true,List.all_eq_true] at hn
 obtain ⟨hf1,hf2,hf3,hf4⟩:=fitT_mk hf
 have hnb:∀ p∈ps,nameB p.nd.name=true:=fun p hp=>by
  have:=hn.2 p hp
  cases p with
  | mk n2 ps2 =>
   rw [allT_mk,Bool.and_eq_true] at this
   have h:=this.1
   unfold nodeB at h
   rw [Bool.and_eq_true] at h
   exact h.1
 refine walk_parts hV hf hnb (by omega) fun k p b1 h1 p1 hp hVp=>ih p (List.mem_of_getElem? hp) _ b1 h1 p1 hVp (hn.2 p (List.mem_of_getElem? hp)) (hf4 p (List.mem_of_getElem? hp)) ?_
 have hm:=(foldr_max_le (l:=ps.map heightT) (m:=(ps.map heightT).foldr max 0)).1 (Nat.le_refl _) _ (List.mem_map_of_mem (List.mem_of_getElem? hp))
 have:=below_len (path:=path) (k:=k) (hnb p (List.mem_of_getElem? hp)) hf3
 omega
def WalkK (w0:World) (t:Tr) (r:Value) (w':World):Prop:=Ext w0 w'∧if validT t=true then ∃ bv hv pv lo p2,r = .func (.func 82) #[] #[.pointer (some ⟨p2+1,0,none⟩),.pointer (some ⟨p2,0,none⟩)]∧WalkP (p2+1) p2 [] (trCells t.nd bv hv pv) w'∧OwnT w' t lo p2 (trCells t.nd bv hv pv)∧w0.heap.size≤lo∧p2+1 < w'.heap.size else r = .func (.func 58) #[] #[]
theorem Walk_ret {w0:World} (v:Value) (t:Tr) (hv:ValAt w0 v t) (hb:nodesT t≤1000000000):Ret Pg 22 #[v] w0 fun r w'=>WalkK w0 t r w':=by
 obtain ⟨bv,hv',pv,rfl,hB,hH,hT,o1,o2,o3⟩:=hv.op
 refine n46s (R:=retR _) ?_;unfold n46
 simp (disch:=try exact DI) only [↓PR,QR,simprocAttr]
 have c1:=heap_new w0 #[.string t.nd.name,.int .i64 t.nd.int,bv,hv',pv] 26
 change (w0.alloc (.cells (trCells t.nd bv hv' pv).toArray 26)).heap[w0.heap.size]?=_ at c1
 have e1:Ext w0 (w0.alloc (.cells (trCells t.nd bv hv' pv).toArray 26)):=(Ext.refl w0).alloc _
 generalize (w0.alloc (.cells (trCells t.nd bv hv' pv).toArray 26))=w1 at *
 have hV:ValAt w1 (.agg (trCells t.nd bv hv' pv).toArray) t:=ValAt.ext ⟨_,_,_,rfl,hB,hH,hT⟩ e1
 refine zcr (Valid_ret w1 _ t hV hb) fun w2 e2=>?_
 have e:=e1.trans e2
 cases hva:validT t with
 | false =>
  simp (disch:=try exact DI) only [↓PR,QR,simprocAttr]
  refine ⟨e,?_⟩
  rw [hva]
  rfl
 | true =>
  have c1:=e2.obj c1
  simp (disch:=try exact DI) only [↓PR,QR,simprocAttr]
  unfold n46c1
  simp (disch:=try exact DI) only [↓PR,QR,simprocAttr,(cells_of_heap c1).1]
  refine callK_ret (Copy_ret t w2 _ (hV.ext e2) (valid_fit hva)) ?_
  rintro _ w3 ⟨⟨cs3,rfl,hO3⟩,e3⟩
  obtain ⟨bv3,hv3,pv3,rfl,_,_,_,g1,g2,g3⟩:=hO3.read.op
  refine callK_ret (walk_ret w3 [] t bv3 hv3 pv3 g1 g2 g3) ?_
  rintro _ w4 ⟨rfl,hW,e4⟩
  simp (disch:=try exact DI) only [↓PR,QR,simprocAttr]
  refine ⟨e.trans (e3.trans e4),?_⟩
  rw [hva]
  exact ⟨bv3,hv3,pv3,w2.heap.size,w3.heap.size,rfl,hW,hO3.ext e4,e.size,(Array.getElem?_eq_some_iff.1 hW.1).1⟩
theorem valid_hn {t:Tr} (h:validT t=true):hnT 1048576 t=true:=by
 unfold validT at h
 simp only [Bool.and_eq_true,decide_eq_true_eq] at h
 have key:∀ t:Tr,allT nodeB t=true→hnT 1048576 t=true:=fun t=>by
  refine Tr.ind (p:=fun t=>allT nodeB t=true→hnT 1048576 t=true) ?_ t
  intro n ps ih h
  unfold hnT at ih ⊢
  rw [allT_mk,Bool.and_eq_true,List.all_eq_true] at h ⊢
  refine ⟨?_,List.all_eq_true.2 fun x hx=>ih x hx (h.2 x hx)⟩
  have h1:=h.1
  unfold nodeB at h1
  simp only [Bool.and_eq_true,decide_eq_true_eq] at h1
  intro y hy
  have h2:=List.all_eq_true.1 h1.2.2.2.2.2 y hy
  unfold hdrB at h2
  simp only [Bool.and_eq_true,decide_eq_true_eq] at h2
  exact decide_eq_true h2.1
 exact key t h.2
theorem walk_at {A:World} {t:Tr} {bv hv pv:Value} {lo p2:Nat} (hO:OwnT A t lo p2 (trCells t.nd bv hv pv)) (hval:validT t=true):WalkSeq A lo p2 t [] (trCells t.nd bv hv pv):=by
 have h1:=(InT.of (B:=1048576) _ hO (valid_hn hval)).1
 have hh:heightT t≤40:=by
  unfold validT at hval
  simp only [Bool.and_eq_true,decide_eq_true_eq] at hval
  exact hval.1.2
 have hn:allT nodeB t=true:=by
  unfold validT at hval
  simp only [Bool.and_eq_true,decide_eq_true_eq] at hval
  exact hval.2
 exact walk_seq t [] bv hv pv h1 hn (valid_fit hval) (by rw [List.length_nil];omega)
abbrev lf (s:List UInt8):Tr := .mk ⟨mkB s,0,[],[]⟩ []
abbrev ka:Tr := .mk ⟨mkB [97],5,[],[]⟩ []
abbrev kx:Tr := .mk ⟨mkB [120],0,[10],[]⟩ []
abbrev kl:Tr := .mk ⟨mkB [108],0,[],[]⟩ [kx,lf [120]]
abbrev kh:Tr := .mk ⟨mkB [104],0,[],[(mkB [65],mkB [98,99])]⟩ []
abbrev kT:Tr := .mk ⟨mkB [109],0,[],[]⟩ [ka,kl,kh]
abbrev kl2:Tr := .mk ⟨mkB [108],0,[],[]⟩ [lf [121],lf [120]]
abbrev kT2:Tr := .mk ⟨mkB [109],0,[],[]⟩ [ka,kl2,kh]
abbrev kS:List UInt8:=[109,40,97,61,53,32,108,40,120,35,48,97,32,120,41,32,104,91,52,49,58,54,50,54,51,93,41]
abbrev kS2:List UInt8:=[109,40,97,61,53,32,108,40,121,32,120,41,32,104,91,52,49,58,54,50,54,51,93,41]
theorem itoa1 {n:Nat} (h:n < 10):Go.Lib.itoa (n:Int)=[UInt8.ofNat (48+n)]:=by rw [itoa_pos (by omega),Int.toNat_natCast,Go.Lib.decDigits_one h]
theorem intL5:intL 5=[61,53]:=by
 unfold intL
 rw [if_neg (by decide),show (5:Int)=((5:Nat):Int) from rfl,itoa1 (by decide)]
 rfl
theorem t_ka:textT ka=[97,61,53]:=by
 rw [textT_mk]
 unfold nodeL
 simp only [intL5]
 rfl
theorem t_lf (s:List UInt8):textT (lf s)=s:=by
 rw [textT_mk]
 unfold nodeL
 simp [intL,bytL,joinP,mkB_data]
theorem t_kx:textT kx=[120,35,48,97]:=by rw [textT_mk];rfl
theorem t_kl:textT kl=[108,40,120,35,48,97,32,120,41]:=by
 rw [textT_mk]
 simp only [List.map_cons,List.map_nil,t_kx,t_lf]
 rfl
theorem t_kl2:textT kl2=[108,40,121,32,120,41]:=by
 rw [textT_mk]
 simp only [List.map_cons,List.map_nil,t_lf]
 rfl
theorem t_kh:textT kh=[104,91,52,49,58,54,50,54,51,93]:=by rw [textT_mk];rfl
theorem t_kT:textT kT=kS:=by
 rw [textT_mk]
 simp only [List.map_cons,List.map_nil,t_ka,t_kl,t_kh]
 rfl
theorem t_kT2:textT kT2=kS2:=by
 rw [textT_mk]
 simp only [List.map_cons,List.map_nil,t_ka,t_kl2,t_kh]
 rfl
theorem v_of (t:Tr) (h1:nodesT t≤65536) (h2:heightT t≤40) (h3:allT nodeB t=true):validT t=true:=by
 unfold validT
 rw [h3,decide_eq_true h1,decide_eq_true h2]
 rfl
theorem v_kT:validT kT=true:=by
 refine v_of _ ?_ ?_ ?_
 · simp only [nodesT_mk,List.map_cons,List.map_nil];decide
 · simp only [heightT_mk,List.map_cons,List.map_nil];decide
 · simp only [allT_mk,List.all_cons,List.all_nil];decide
theorem v_kT2:validT kT2=true:=by
 refine v_of _ ?_ ?_ ?_
 · simp only [nodesT_mk,List.map_cons,List.map_nil];decide
 · simp only [heightT_mk,List.map_cons,List.map_nil];decide
 · simp only [allT_mk,List.all_cons,List.all_nil];decide
theorem v_lf {s:List UInt8} (h:nodeB ⟨mkB s,0,[],[]⟩=true):validT (lf s)=true:=by
 refine v_of _ ?_ ?_ ?_
 · simp only [nodesT_mk,List.map_nil];decide
 · simp only [heightT_mk,List.map_nil];decide
 · simp only [allT_mk,List.all_nil,h];rfl
theorem nodes_kT:nodesT kT=6:=by simp only [nodesT_mk,List.map_cons,List.map_nil];rfl
theorem p_kT:parseR RP kS=some kT:=(parseR_iff RP_ok _ _).2 ⟨v_kT,t_kT⟩
theorem p_y:parseR RP [121]=some (lf [121]):=(parseR_iff RP_ok _ _).2 ⟨v_lf (by decide),t_lf _⟩
theorem p_a:parseR RP [97]=some (lf [97]):=(parseR_iff RP_ok _ _).2 ⟨v_lf (by decide),t_lf _⟩
abbrev k1:Tr := .mk ⟨mkB [97],1,[],[]⟩ []
abbrev k00:Tr := .mk ⟨mkB [97],0,[0],[]⟩ []
abbrev kb:Tr := .mk ⟨mkB [97],0,[],[]⟩ [lf [98]]
abbrev kbb:Tr := .mk ⟨mkB [97],0,[],[]⟩ [lf [98],lf [98]]
theorem intL1:intL 1=[61,49]:=by
 unfold intL
 rw [if_neg (by decide),show (1:Int)=((1:Nat):Int) from rfl,itoa1 (by decide)]
 rfl
theorem p_a1:parseR RP [97,61,49]=some k1:=by
 refine (parseR_iff RP_ok _ _).2 ⟨?_,?_⟩
 · refine v_of _ ?_ ?_ ?_
   · simp only [nodesT_mk,List.map_cons,List.map_nil];decide
   · simp only [heightT_mk,List.map_cons,List.map_nil];decide
   · simp only [allT_mk,List.all_cons,List.all_nil];decide
 · rw [textT_mk]
   unfold nodeL
   simp only [intL1]
   rfl
theorem p_a00:parseR RP [97,35,48,48]=some k00:=by
 refine (parseR_iff RP_ok _ _).2 ⟨?_,by rw [textT_mk];rfl⟩
 refine v_of _ ?_ ?_ ?_
 · simp only [nodesT_mk,List.map_cons,List.map_nil];decide
 · simp only [heightT_mk,List.map_cons,List.map_nil];decide
 · simp only [allT_mk,List.all_cons,List.all_nil];decide
theorem p_ab:parseR RP [97,40,98,41]=some kb:=by
 refine (parseR_iff RP_ok _ _).2 ⟨?_,by rw [textT_mk];simp only [List.map_cons,List.map_nil,t_lf];rfl⟩
 refine v_of _ ?_ ?_ ?_
 · simp only [nodesT_mk,List.map_cons,List.map_nil];decide
 · simp only [heightT_mk,List.map_cons,List.map_nil];decide
 · simp only [allT_mk,List.all_cons,List.all_nil];decide
theorem p_abb:parseR RP [97,40,98,32,98,41]=some kbb:=by
 refine (parseR_iff RP_ok _ _).2 ⟨?_,by rw [textT_mk];simp only [List.map_cons,List.map_nil,t_lf];rfl⟩
 refine v_of _ ?_ ?_ ?_
 · simp only [nodesT_mk,List.map_cons,List.map_nil];decide
 · simp only [heightT_mk,List.map_cons,List.map_nil];decide
 · simp only [allT_mk,List.all_cons,List.all_nil];decide
theorem r_a0:parseR RP [97,61,48]=none:=by
 unfold parseR
 rw [show readV RP 40 [97,61,48]=some (lf [97],[]) from by kernel_rfl]
 simp only
 rw [if_neg (fun h=>by have:=h.2;rw [t_lf] at this;cases this)]
theorem r_a0A:parseR RP [97,35,48,65]=none:=by
 unfold parseR
 rw [show readV RP 40 [97,35,48,65]=none from by kernel_rfl]
theorem r_abc:parseR RP [97,40,98,32,32,99,41]=none:=by
 unfold parseR
 rw [show readV RP 40 [97,40,98,32,32,99,41]=some (.mk ⟨mkB [97],0,[],[]⟩ [lf [98],lf [],lf [99]],[]) from by kernel_rfl]
 simp only
 rw [if_neg (fun h=>by
  have:=h.1
  unfold validT at this
  simp only [allT_mk,List.all_cons,List.all_nil] at this
  revert this
  simp only [nodesT_mk,heightT_mk,List.map_cons,List.map_nil]
  decide)]
theorem c_1:cmpT (lf [97]) k1 = -1∧cmpT k1 (lf [97])=1:=by constructor<;>rw [cmpT_mk]<;>decide
theorem c_2:cmpT k00 k1 = -1∧cmpT k1 k00=1:=by constructor<;>rw [cmpT_mk]<;>decide
theorem c_lf (s:List UInt8) (h:cmpN ⟨mkB s,0,[],[]⟩ ⟨mkB s,0,[],[]⟩=0):cmpT (lf s) (lf s)=0:=by
 rw [cmpT_mk]
 exact (if_pos h).trans rfl
theorem c_3:cmpT kb kbb = -1∧cmpT kbb kb=1:=by
 have h0:cmpN ⟨mkB [97],0,[],[]⟩ ⟨mkB [97],0,[],[]⟩=0:=by decide
 have h1:=c_lf [98] (by decide)
 constructor
 · rw [cmpT_mk]
   refine (if_pos h0).trans ?_
   show listsC cmpT [lf [98]] [lf [98],lf [98]] = -1
   simp only [listsC,h1,if_true]
 · rw [cmpT_mk]
   refine (if_pos h0).trans ?_
   show listsC cmpT [lf [98],lf [98]] [lf [98]]=1
   simp only [listsC,h1,if_true]
theorem s_lx1:stepsP [108,46,120,58,49]=some [([108],0),([120],1)]:=by kernel_rfl
theorem s_a:stepsP [97]=some [([97],0)]:=by kernel_rfl
theorem s_lx2:stepsP [108,46,120,58,50]=some [([108],0),([120],2)]:=by kernel_rfl
theorem s_llx:stepsP [108,46,46,120]=none:=by kernel_rfl
theorem s_lx0:stepsP [108,46,120,58,48]=none:=by kernel_rfl
theorem s_lx:stepsP [108,46,120]=some [([108],0),([120],0)]:=by kernel_rfl
theorem a_lx1:atT [([108],0),([120],1)] kT=some (lf [120]):=by kernel_rfl
theorem a_a:atT [([97],0)] kT=some ka:=by kernel_rfl
theorem a_lx2:atT [([108],0),([120],2)] kT=none:=by kernel_rfl
theorem u_lx:putT (lf [121]) [([108],0),([120],0)] kT=some kT2:=by kernel_rfl
theorem w_kT:(walkT kT []).map Prod.fst=[[],[97],[108],[108,46,120],[108,46,120,58,49],[104]]:=by
 have h1:cntB ([]++[kx.nd.name]) (lf [120]).nd.name=1:=by decide
 have h2:stepB (lf [120]).nd.name 1=[120,58,49]:=by
  unfold stepB
  rw [if_neg (by decide),Go.Lib.decDigits_one (by decide)]
  rfl
 simp only [walkT_mk,List.map_cons,List.map_nil,partsW,h1,h2]
 rfl
theorem cmp_zero:cmpT tr0 tr0=0:=by
 unfold tr0
 rw [cmpT_mk]
 exact (if_pos (by decide)).trans rfl
def GetsH (path want:List UInt8) (no:Int) (t:Tr):Prop:=(no=0∧∃ l t',stepsP path=some l∧atT l t=some t'∧textT t'=want∧want.length≤100000000)∨(no=6∧stepsP path=none)∨(no=9∧∃ l,stepsP path=some l∧atT l t=none)
theorem gets_ret {w0:World} (hE:EnvOK w0) (v:Value) (t:Tr) (path want:List UInt8) (no:Int) (hpl:path.length≤100000000) (hv:ValAt w0 v t) (hval:validT t=true) (h:GetsH path want no t):Ret Pg 33 #[v,.string (mkB path),.string (mkB want),.int .i64 no] w0 fun r w'=>r = .bool true∧Ext w0 w':=by
 obtain ⟨bv,hv',pv,rfl,hB,hH,hT,o1,o2,o3⟩:=hv.op
 have hn:=valid_nodes hval
 refine n9s (R:=retR _) ?_;unfold n9
 simp (disch:=try exact DI) only [↓PR,QR,simprocAttr]
 have e1:Ext w0 (w0.alloc (.cells (trCells t.nd bv hv' pv).toArray 26)):=(Ext.refl w0).alloc _
 generalize (w0.alloc (.cells (trCells t.nd bv hv' pv).toArray 26))=w1 at *
 have hV:ValAt w1 (.agg (trCells t.nd bv hv' pv).toArray) t:=ValAt.ext ⟨_,_,_,rfl,hB,hH,hT⟩ e1
 refine callK_ret (Get_ret (hE.ext e1) _ t path hpl hV (by omega)) ?_
 rintro r w2 ⟨e2,hr⟩
 rw [if_pos hval] at hr
 unfold n9c4
 have hzero:∀ e:Int,e≠0→r = .tuple #[zeroV,.int .i64 e]→no=e→n9c4 (.string (mkB want)) (.int .i64 no) r (retR fun r w'=>r = .bool true∧Ext w0 w') w2:=by
  intro e he hre hne
  have hre':r = .tuple #[.agg #[.string ByteArray.empty,.int .i64 0,.slice none 0 0,.slice none 0 0,.slice none 0 0],.int .i64 e]:=hre
  have hd:(no != 0)=true:=by rw [hne];simpa using he
  have hd2:(e == no)=true:=by rw [hne];simp
  rw [hre']
  unfold n9c4
  simp (disch:=try exact DI) only [↓PR,QR,simprocAttr,hd,hd2]
  have o3:=heap_new w2 #[.string ByteArray.empty,.int .i64 0,.slice none 0 0,.slice none 0 0,.slice none 0 0] 26
  have e3:Ext w2 (w2.alloc (.cells #[.string ByteArray.empty,.int .i64 0,.slice none 0 0,.slice none 0 0,.slice none 0 0] 26)):=ee
  generalize (w2.alloc (.cells #[.string ByteArray.empty,.int .i64 0,.slice none 0 0,.slice none 0 0,.slice none 0 0] 26))=w3 at *
  unfold n9c3 joinK
  simp (disch:=try exact DI) only [↓PR,QR,simprocAttr,hd2,(cells_of_heap o3).1]
  refine zcr (Equal_ret w3 _ _ tr0 tr0 (ValAt.zero _) (ValAt.zero _)) fun w4 e4=>?_
  rw [cmp_zero]
  simp (disch:=try exact DI) only [↓PR,QR,simprocAttr,hd2]
  exact ⟨trivial,e1.trans (e2.trans (e3.trans e4))⟩
 rcases h with ⟨rfl,l,t',hs,ha,htx,hwl⟩ | ⟨hno,hs⟩ | ⟨hno,l,hs,ha⟩
 · rw [hs] at hr
   simp only [ha] at hr
   obtain ⟨cs,lo,hi,rfl,hO,h1,h2⟩:=hr
   obtain ⟨b3,h3,q3,rfl,g1,g2,g3,g4,g5,g6⟩:=hO.read.op
   clear hzero
   simp (disch:=try exact DI) only [↓PR,QR,simprocAttr]
   have o3:=heap_new w2 #[.string t'.nd.name,.int .i64 t'.nd.int,b3,h3,q3] 26
   have e3:Ext w2 (w2.alloc (.cells #[.string t'.nd.name,.int .i64 t'.nd.int,b3,h3,q3] 26)):=ee
   have hV3:ValAt w2 (.agg #[.string t'.nd.name,.int .i64 t'.nd.int,b3,h3,q3]) t':=⟨b3,h3,q3,rfl,g1,g2,g3⟩
   have hval':=validT_at l t t' hval ha
   have hn':=valid_nodes hval'
   refine zcr (Text_ret _ _ t' (hV3.ext e3) (hE.ext (e1.trans (e2.trans e3))).tab (by omega) (by rw [htx];omega)) fun w4 e4=>?_
   rw [if_pos hval',htx]
   unfold n9c2 joinK
   simp (disch:=try exact DI) only [↓PR,QR,simprocAttr]
   unfold n9c1 joinK
   simp (disch:=try exact DI) only [↓PR,QR,simprocAttr]
   exact ⟨trivial,e1.trans (e2.trans (e3.trans e4))⟩
 · rw [hs] at hr
   exact hzero 6 (by decide) hr hno
 · rw [hs] at hr
   simp only [ha] at hr
   exact hzero 9 (by decide) hr hno
theorem refused_ret {w0:World} (hE:EnvOK w0) (s:List UInt8) (hs:s.length≤100000000) (h:parseR RP s=none):Ret Pg 36 #[.string (mkB s)] w0 fun r w'=>r = .bool true∧Ext w0 w':=by
 refine n12s (R:=retR _) ?_;unfold n12
 refine callK_ret (Parse_ret w0 (mkB s) hE (by rw [mkB_size];omega)) ?_
 rintro r w1 ⟨e1,v,c,rfl,hr⟩
 rw [mkB_data,h] at hr
 obtain ⟨rfl,hv⟩:=hr
 obtain ⟨bv,hv',pv,rfl,_,_,_,o1,o2,o3⟩:=hv.op
 unfold n12c1
 simp (disch:=try exact DI) only [↓PR,QR,simprocAttr]
 exact ⟨trivial,e1.trans ((Ext.refl _).alloc _)⟩
theorem before_ret {w0:World} (hE:EnvOK w0) (a b:List UInt8) (ha:a.length≤100000000) (hb:b.length≤100000000) (t u:Tr) (h1:parseR RP a=some t) (h2:parseR RP b=some u) (h3:cmpT t u = -1∧cmpT u t=1):Ret Pg 35 #[.string (mkB a),.string (mkB b)] w0 fun r w'=>r = .bool true∧Ext w0 w':=by
 refine n8s (R:=retR _) ?_;unfold n8
 refine callK_ret (Parse_ret w0 (mkB a) hE (by rw [mkB_size];omega)) ?_
 rintro r w1 ⟨e1,v,c,rfl,hr⟩
 rw [mkB_data,h1] at hr
 obtain ⟨rfl,hv⟩:=hr
 obtain ⟨bv,hv',pv,rfl,g1,g2,g3,o1,o2,o3⟩:=hv.op
 have hV1:ValAt w1 (.agg #[.string t.nd.name,.int .i64 t.nd.int,bv,hv',pv]) t:=⟨_,_,_,rfl,g1,g2,g3⟩
 unfold n8c4
 simp (disch:=try exact DI) only [↓PR,QR,simprocAttr]
 have c1:=heap_new w1 #[.string t.nd.name,.int .i64 t.nd.int,bv,hv',pv] 26
 have e2:Ext w1 (w1.alloc (.cells #[.string t.nd.name,.int .i64 t.nd.int,bv,hv',pv] 26)):=ee
 generalize (w1.alloc (.cells #[.string t.nd.name,.int .i64 t.nd.int,bv,hv',pv] 26))=w2 at *
 refine callK_ret (Parse_ret w2 (mkB b) (hE.ext (e1.trans e2)) (by rw [mkB_size];omega)) ?_
 rintro r w3 ⟨e3,v2,c2,rfl,hr2⟩
 rw [mkB_data,h2] at hr2
 obtain ⟨rfl,hv2⟩:=hr2
 obtain ⟨bv2,hv2',pv2,rfl,k1,k2,k3,p1,p2,p3⟩:=hv2.op
 have hV2:ValAt w3 (.agg #[.string u.nd.name,.int .i64 u.nd.int,bv2,hv2',pv2]) u:=⟨_,_,_,rfl,k1,k2,k3⟩
 have c1:=e3.obj c1
 unfold n8c3 joinK
 simp (disch:=try exact DI) only [↓PR,QR,simprocAttr]
 have c2:=heap_new w3 #[.string u.nd.name,.int .i64 u.nd.int,bv2,hv2',pv2] 26
 have e4:Ext w3 (w3.alloc (.cells #[.string u.nd.name,.int .i64 u.nd.int,bv2,hv2',pv2] 26)):=ee
 generalize (w3.alloc (.cells #[.string u.nd.name,.int .i64 u.nd.int,bv2,hv2',pv2] 26))=w4 at *
 have c1:=e4.obj c1
 unfold n8c2 joinK
 simp (disch:=try exact DI) only [↓PR,QR,simprocAttr,(cells_of_heap c1).1,(cells_of_heap c2).1]
 refine zcr (Compare_ret t w4 _ _ u (hV1.ext (e2.trans (e3.trans e4))) (hV2.ext e4)) fun w5 e5=>?_
 have c1:=e5.obj c1
 have c2:=e5.obj c2
 rw [h3.1]
 simp (disch:=try exact DI) only [↓PR,QR,simprocAttr]
 unfold n8c1 joinK
 simp (disch:=try exact DI) only [↓PR,QR,simprocAttr,(cells_of_heap c1).1,(cells_of_heap c2).1]
 refine zcr (Compare_ret u w5 _ _ t (hV2.ext (e4.trans e5)) (hV1.ext (e2.trans (e3.trans (e4.trans e5))))) fun w6 e6=>?_
 rw [h3.2]
 simp (disch:=try exact DI) only [↓PR,QR,simprocAttr]
 exact ⟨trivial,e1.trans (e2.trans (e3.trans (e4.trans (e5.trans e6))))⟩
theorem text_ret {w0:World} (hE:EnvOK w0) (s path to want:List UInt8) (hs:s.length≤100000000) (hp:path.length≤100000000) (ht:to.length≤100000000) (t u t3:Tr) (l:List Stp) (h1:parseR RP s=some t) (h2:parseR RP to=some u) (h3:stepsP path=some l) (h4:putT u l t=some t3) (h5:validT t3=true) (h6:textT t3=want) (hw:want.length≤100000000):Ret Pg 34 #[.string (mkB s),.string (mkB path),.string (mkB to)] w0 fun r w'=>r = .string (mkB want)∧Ext w0 w':=by
 have hv1:=((parseR_iff RP_ok _ _).1 h1).1
 have hv2:=((parseR_iff RP_ok _ _).1 h2).1
 have n1:=valid_nodes hv1
 have n2:=valid_nodes hv2
 have n3:=valid_nodes h5
 refine n14s (R:=retR _) ?_;unfold n14
 refine callK_ret (Parse_ret w0 (mkB s) hE (by rw [mkB_size];omega)) ?_
 rintro r w1 ⟨e1,v,c,rfl,hr⟩
 rw [mkB_data,h1] at hr
 obtain ⟨rfl,hv⟩:=hr
 obtain ⟨bv,hv',pv,rfl,g1,g2,g3,o1,o2,o3⟩:=hv.op
 have hV1:ValAt w1 (.agg #[.string t.nd.name,.int .i64 t.nd.int,bv,hv',pv]) t:=⟨_,_,_,rfl,g1,g2,g3⟩
 unfold n14c6
 simp (disch:=try exact DI) only [↓PR,QR,simprocAttr]
 have c1:=heap_new w1 #[.string t.nd.name,.int .i64 t.nd.int,bv,hv',pv] 26
 have e2:Ext w1 (w1.alloc (.cells #[.string t.nd.name,.int .i64 t.nd.int,bv,hv',pv] 26)):=ee
 generalize (w1.alloc (.cells #[.string t.nd.name,.int .i64 t.nd.int,bv,hv',pv] 26))=w2 at *
 refine callK_ret (Parse_ret w2 (mkB to) (hE.ext (e1.trans e2)) (by rw [mkB_size];omega)) ?_
 rintro r w3 ⟨e3,v2,c2,rfl,hr2⟩
 rw [mkB_data,h2] at hr2
 obtain ⟨rfl,hvv⟩:=hr2
 obtain ⟨bv2,hv2',pv2,rfl,k1,k2,k3,p1,p2,p3⟩:=hvv.op
 have hV2:ValAt w3 (.agg #[.string u.nd.name,.int .i64 u.nd.int,bv2,hv2',pv2]) u:=⟨_,_,_,rfl,k1,k2,k3⟩
 have c1:=e3.obj c1
 unfold n14c5
 simp (disch:=try exact DI) only [↓PR,QR,simprocAttr,fun o=>(cells_of_heap (((Ext.refl w3).alloc o).obj c1)).1]
 have c2:=heap_new w3 #[.string u.nd.name,.int .i64 u.nd.int,bv2,hv2',pv2] 26
 have e4:Ext w3 (w3.alloc (.cells #[.string u.nd.name,.int .i64 u.nd.int,bv2,hv2',pv2] 26)):=ee
 generalize (w3.alloc (.cells #[.string u.nd.name,.int .i64 u.nd.int,bv2,hv2',pv2] 26))=w4 at *
 have e04:=e1.trans (e2.trans (e3.trans e4))
 refine callK_ret (Set_ret (hE.ext e04) 1048576 _ _ t u path hp (hV1.ext (e2.trans (e3.trans e4))) (hV2.ext e4) (by omega) (by omega) (valid_hn hv1) (valid_hn hv2)) ?_
 rintro r w5 ⟨e5,hr⟩
 rw [if_pos ⟨hv1,hv2⟩,h3] at hr
 simp only [h4,h5,if_true] at hr
 obtain ⟨cs,lo,hi,rfl,hI,_,_⟩:=hr
 obtain ⟨b3,h3',q3,rfl,m1,m2,m3,m4,m5,m6⟩:=hI.1.all.op
 unfold n14c4
 simp (disch:=try exact DI) only [↓PR,QR,simprocAttr]
 have e6:Ext w5 (w5.alloc (.cells #[.string t3.nd.name,.int .i64 t3.nd.int,b3,h3',q3] 26)):=ee
 have hV3:ValAt w5 (.agg #[.string t3.nd.name,.int .i64 t3.nd.int,b3,h3',q3]) t3:=⟨_,_,_,rfl,m1,m2,m3⟩
 generalize (w5.alloc (.cells #[.string t3.nd.name,.int .i64 t3.nd.int,b3,h3',q3] 26))=w6 at *
 refine zcr (Text_ret w6 _ t3 (hV3.ext e6) (hE.ext (e04.trans (e5.trans e6))).tab (by omega) (by rw [h6];omega)) fun w7 e7=>?_
 rw [if_pos h5,h6]
 unfold n14c3 joinK
 simp (disch:=try exact DI) only [↓PR,QR,simprocAttr]
 unfold n14c2 joinK
 simp (disch:=try exact DI) only [↓PR,QR,simprocAttr]
 unfold n14c1 joinK
 simp (disch:=try exact DI) only [↓PR,QR,simprocAttr]
 exact ⟨trivial,e04.trans (e5.trans (e6.trans e7))⟩
abbrev wantL:List (List UInt8):=[[],[97],[108],[108,46,120],[108,46,120,58,49],[104]]
theorem Lasts7.reg {A:World} {lo hi:Nat}:Lasts7 (fun V u=>(∀ b,lo≤b→b < hi→¬ V b∧u.heap[b]?=A.heap[b]?)∧hi≤u.heap.size):=fun V V' w w' hl ⟨h,hs⟩=>⟨fun b h1 h2=>by
 obtain ⟨g1,g2⟩:=h b h1 h2
 refine ⟨fun hv=>?_,(hl.block b (by omega) g1).trans g2⟩
 rcases hl.new b hv with hv | hv
 · exact g1 hv
 · omega,Nat.le_trans hs hl.size⟩
abbrev wantW:Array Value := #[.string ⟨#[]⟩,.string ⟨#[97]⟩,.string ⟨#[108]⟩,.string ⟨#[108,46,120]⟩,.string ⟨#[108,46,120,58,49]⟩,.string ⟨#[104]⟩]
theorem want_get:∀ (j:Nat) (wl:List UInt8),wantL[j]?=some wl→wantW[j]?=some (.string (mkB wl))
 | 0,_,h=>by cases h;rfl
 | 1,_,h=>by cases h;rfl
 | 2,_,h=>by cases h;rfl
 | 3,_,h=>by cases h;rfl
 | 4,_,h=>by cases h;rfl
 | 5,_,h=>by cases h;rfl
 | _+6,_,h=>by cases h
theorem walk_len:(walkT kT []).length=6:=by
 have:=congrArg List.length w_kT
 rwa [List.length_map] at this
def KnI (w0 A:World) (b0 q lo p2:Nat) (k:Nat) (V:Bks) (u:World):Prop:=(Ext w0 u∧∀ b,V b→w0.heap.size≤b)∧((∀ b,lo≤b→b < p2→¬ V b∧u.heap[b]?=A.heap[b]?)∧p2≤u.heap.size)∧(¬ V b0∧u.heap[b0]?=some (.cells #[.bool false] 4 (0,0)))∧(¬ V q∧u.heap[q]?=some (.cells wantW 9 (0,0)))∧(¬ V (q+1)∧u.heap[q+1]?=some (.cells #[.slice (some ⟨q,0,none⟩) 6 6] 65 (0,0)))∧(¬ V (q+2)∧u.heap[q+2]?=some (.cells #[.int .i64 (k:Int)] 3 (0,0)))
theorem KnI.lasts (w0 A:World) (b0 q lo p2 k:Nat):Lasts7 (KnI w0 A b0 q lo p2 k):=Lasts7.from.and (Lasts7.reg.and (Lasts7.has.and (Lasts7.has.and (Lasts7.has.and Lasts7.has))))
theorem known_ret {w0:World} (hE:EnvOK w0):Ret Pg 11 #[] w0 fun r w'=>r = .bool true∧Ext w0 w':=by
 refine n10s (R:=retR _) ?_;unfold n10
 simp (disch:=try exact DI) only [↓PR,QR,simprocAttr]
 have c0:=heap_new w0 #[.bool false] 4
 have e0:Ext w0 (w0.alloc (.cells #[.bool false] 4)):=ee
 have z0:(w0.alloc (.cells #[.bool false] 4)).heap.size=w0.heap.size+1:=by simp
 generalize (w0.alloc (.cells #[.bool false] 4))=w1 at *
 generalize hb0:w0.heap.size=b0 at *
 refine callK_ret (Parse_ret w1 (mkB kS) (hE.ext e0) (by rw [mkB_size];decide)) ?_
 rintro r w2 ⟨e1,v,c,rfl,hr⟩
 rw [mkB_data,p_kT] at hr
 obtain ⟨rfl,hv⟩:=hr
 obtain ⟨bv,hv',pv,rfl,g1,g2,g3,o1,o2,o3⟩:=hv.op
 have e:=e0.trans e1
 have c0:=e1.obj c0
 unfold n10c23
 simp (disch:=try exact DI) only [↓PR,QR,simprocAttr]
 have c1:=heap_new w2 #[.string kT.nd.name,.int .i64 kT.nd.int,bv,hv',pv] 26
 have e2:Ext w2 (w2.alloc (.cells #[.string kT.nd.name,.int .i64 kT.nd.int,bv,hv',pv] 26)):=ee
 have hV:ValAt w2 (.agg #[.string kT.nd.name,.int .i64 kT.nd.int,bv,hv',pv]) kT:=⟨_,_,_,rfl,g1,g2,g3⟩
 generalize (w2.alloc (.cells #[.string kT.nd.name,.int .i64 kT.nd.int,bv,hv',pv] 26))=w3 at *
 generalize hb1:w2.heap.size=b1 at *
 have hV:=hV.ext e2
 have e:=e.trans e2
 have c0:=e2.obj c0
 refine zcr (Text_ret w3 _ kT hV (hE.ext e).tab (by rw [nodes_kT];decide) (by rw [t_kT];decide)) fun w4 e3=>?_
 rw [if_pos v_kT,t_kT]
 have hV:=hV.ext e3
 have e:=e.trans e3
 have c0:=e3.obj c0
 have c1:=e3.obj c1
 unfold n10c22 joinK
 simp (disch:=try exact DI) only [↓PR,QR,simprocAttr]
 unfold n10c21 joinK
 have hd:(mkB kS)=(⟨#[109,40,97,61,53,32,108,40,120,35,48,97,32,120,41,32,104,91,52,49,58,54,50,54,51,93,41]⟩:ByteArray):=rfl
 simp (disch:=try exact DI) only [↓PR,QR,simprocAttr,hd]
 unfold n10c20 joinK
 simp (disch:=try exact DI) only [↓PR,QR,simprocAttr,(cells_of_heap c1).1]
 refine zcr (Nodes_ret w4 _ kT hV (by rw [nodes_kT];decide)) fun w5 e4=>?_
 rw [nodes_kT]
 have hV:=hV.ext e4
 have e:=e.trans e4
 have c0:=e4.obj c0
 have c1:=e4.obj c1
 simp (disch:=try exact DI) only [↓PR,QR,simprocAttr]
 unfold n10c19 joinK
 simp (disch:=try exact DI) only [↓PR,QR,simprocAttr,(cells_of_heap c1).1]
 refine zcr (gets_ret (hE.ext e) _ kT [108,46,120,58,49] [120] 0 (by decide) hV v_kT (.inl ⟨rfl,_,_,s_lx1,a_lx1,t_lf _,by decide⟩)) fun w6 e5=>?_
 have hV:=hV.ext e5
 have e:=e.trans e5
 have c0:=e5.obj c0
 have c1:=e5.obj c1
 simp (disch:=try exact DI) only [↓PR,QR,simprocAttr]
 unfold n10c18 joinK
 simp (disch:=try exact DI) only [↓PR,QR,simprocAttr,(cells_of_heap c1).1]
 refine zcr (gets_ret (hE.ext e) _ kT [97] [97,61,53] 0 (by decide) hV v_kT (.inl ⟨rfl,_,_,s_a,a_a,t_ka,by decide⟩)) fun w7 e6=>?_
 have hV:=hV.ext e6
 have e:=e.trans e6
 have c0:=e6.obj c0
 have c1:=e6.obj c1
 simp (disch:=try exact DI) only [↓PR,QR,simprocAttr]
 unfold n10c17 joinK
 simp (disch:=try exact DI) only [↓PR,QR,simprocAttr,(cells_of_heap c1).1]
 refine zcr (gets_ret (hE.ext e) _ kT [108,46,120,58,50] [] 9 (by decide) hV v_kT (.inr (.inr ⟨rfl,_,s_lx2,a_lx2⟩))) fun w8 e7=>?_
 have hV:=hV.ext e7
 have e:=e.trans e7
 have c0:=e7.obj c0
 have c1:=e7.obj c1
 simp (disch:=try exact DI) only [↓PR,QR,simprocAttr]
 unfold n10c16 joinK
 simp (disch:=try exact DI) only [↓PR,QR,simprocAttr,(cells_of_heap c1).1]
 refine zcr (gets_ret (hE.ext e) _ kT [108,46,46,120] [] 6 (by decide) hV v_kT (.inr (.inl ⟨rfl,s_llx⟩))) fun w9 e8=>?_
 have hV:=hV.ext e8
 have e:=e.trans e8
 have c0:=e8.obj c0
 have c1:=e8.obj c1
 simp (disch:=try exact DI) only [↓PR,QR,simprocAttr]
 unfold n10c15 joinK
 simp (disch:=try exact DI) only [↓PR,QR,simprocAttr,(cells_of_heap c1).1]
 refine zcr (gets_ret (hE.ext e) _ kT [108,46,120,58,48] [] 6 (by decide) hV v_kT (.inr (.inl ⟨rfl,s_lx0⟩))) fun w10 e9=>?_
 have hV:=hV.ext e9
 have e:=e.trans e9
 have c0:=e9.obj c0
 have c1:=e9.obj c1
 simp (disch:=try exact DI) only [↓PR,QR,simprocAttr]
 unfold n10c14
 simp (disch:=try exact DI) only [↓PR,QR,simprocAttr]
 unfold n10c13
 simp (disch:=try exact DI) only [↓PR,QR,simprocAttr,fun a b c=>(cells_of_heap (((((Ext.refl w10).alloc a).alloc b).alloc c).obj c1)).1]
 have k1:=heap_new w10 #[.string ⟨#[]⟩,.string ⟨#[97]⟩,.string ⟨#[108]⟩,.string ⟨#[108,46,120]⟩,.string ⟨#[108,46,120,58,49]⟩,.string ⟨#[104]⟩] 9
 have a1:Ext w10 (w10.alloc (.cells #[.string ⟨#[]⟩,.string ⟨#[97]⟩,.string ⟨#[108]⟩,.string ⟨#[108,46,120]⟩,.string ⟨#[108,46,120,58,49]⟩,.string ⟨#[104]⟩] 9)):=ee
 have y1:(w10.alloc (.cells #[.string ⟨#[]⟩,.string ⟨#[97]⟩,.string ⟨#[108]⟩,.string ⟨#[108,46,120]⟩,.string ⟨#[108,46,120,58,49]⟩,.string ⟨#[104]⟩] 9)).heap.size=w10.heap.size+1:=by simp
 generalize (w10.alloc (.cells #[.string ⟨#[]⟩,.string ⟨#[97]⟩,.string ⟨#[108]⟩,.string ⟨#[108,46,120]⟩,.string ⟨#[108,46,120,58,49]⟩,.string ⟨#[104]⟩] 9))=w11 at *
 generalize hq:w10.heap.size=q at *
 have k2:=heap_new w11 #[.slice (some ⟨q,0,none⟩) 6 6] 65
 have a2:Ext w11 (w11.alloc (.cells #[.slice (some ⟨q,0,none⟩) 6 6] 65)):=ee
 have y2:(w11.alloc (.cells #[.slice (some ⟨q,0,none⟩) 6 6] 65)).heap.size=w11.heap.size+1:=by simp
 generalize (w11.alloc (.cells #[.slice (some ⟨q,0,none⟩) 6 6] 65))=w12 at *
 have k3:=heap_new w12 #[.int .i64 0] 3
 have a3:Ext w12 (w12.alloc (.cells #[.int .i64 0] 3)):=ee
 have y3:(w12.alloc (.cells #[.int .i64 0] 3)).heap.size=w12.heap.size+1:=by simp
 generalize (w12.alloc (.cells #[.int .i64 0] 3))=w13 at *
 rw [y1] at k2
 rw [y2,y1] at k3
 simp only [y2,y1]
 have a:=a1.trans (a2.trans a3)
 have e:=e.trans a
 have hV:=hV.ext a
 have c0:=a.obj c0
 have k1:=a3.obj (a2.obj k1)
 have k2:=a3.obj k2
 refine callK_ret (Walk_ret _ kT hV (by rw [nodes_kT];decide)) ?_
 rintro r w14 ⟨e14,hr⟩
 rw [if_pos v_kT] at hr
 obtain ⟨xb,xh,xp,lo,p2,rfl,hWP,hO,hlo,hp2⟩:=hr
 have e:=e.trans e14
 have c0:=e14.obj c0
 have k1:=e14.obj k1
 have k2:=e14.obj k2
 have k3:=e14.obj k3
 unfold n10c12
 rw [op_eqNilF Tryz.underlying43]
 simp (disch:=try exact DI) only [↓PR,QR,simprocAttr]
 unfold n10c11
 rw [y1]
 have zlo:w13.heap.size≤lo:=hlo
 have z13:w13.heap.size=q+3:=by rw [y3,y2,y1]
 have hlp:=hO.le
 have hbq:b0 < q:=by
  have h0:=(Array.getElem?_eq_some_iff.1 (show w10.heap[b0]?=_ from by assumption)).1
  omega
 have H0:KnI w0 w14 b0 q lo p2 0 (fun b=>b=p2+1∨b=p2) w14:=⟨⟨e,fun b hb=>by have h0:=e0.size;omega⟩,⟨fun b h1 h2=>⟨by omega,rfl⟩,by omega⟩,⟨by omega,c0⟩,⟨by omega,k1⟩,⟨by omega,k2⟩,⟨by omega,k3⟩⟩
 refine ⟨_,_,_,_,_,_,_,KnI w0 w14 b0 q lo p2,fun _ _ _=>False,fun _ _ _=>False,rfl,c82,walk_at hO v_kT (p2+1) p2 (by omega) (Nat.le_refl _) (by omega),fun w' e'=>⟨e'.obj hWP.1,e'.obj hWP.2⟩,fun b hb=>by omega,H0,fun k V u h=>⟨hE.ext h.1.1,h.2.1.2,fun b h1 h2=>(h.2.1.1 b h1 h2).2⟩,fun k=>KnI.lasts _ _ _ _ _ _ _,fun c=>Lasts7.const _,fun ch=>Lasts7.const _,?_,?_,?_,?_⟩
 · intro Rk V hR hV0 j xx yy u hj hY hI hRu hltu hready
   obtain ⟨qq,cs,lo',hi',hq',rfl,rfl,_⟩:=hY
   have hw:wantL[j]?=some qq.1:=by
    have:=congrArg (fun l=>l[j]?) w_kT
    simp only [List.getElem?_map,hq',Option.map_some] at this
    exact this.symm
   have hwc:=want_get j qq.1 hw
   rw [walk_len] at hj
   refine ⟨hready,fun w5 hbz=>?_⟩
   have hR5:=hR _ _ (KR7.busied hbz) hRu
   have H5:=(KnI.lasts w0 w14 b0 q lo p2 j).busied hbz (show plusB V w14.heap.size (w14.heap.size+1) from .inr (.inr rfl)) hI
   obtain ⟨i1,i2,i3,i4,i5,i6⟩:=H5
   have hdj:¬ ((6:Int)≤(j:Int)):=by omega
   have hdk:(j:Int) < 6:=by omega
   have hdj2:¬ (((6:Nat):Int)≤(j:Int)):=by omega
   have hdk2:(j:Int) < ((6:Nat):Int):=by omega
   have hwj:IntKind.i64.wrap ((j:Int)+1)=((j+1:Nat):Int):=wrap_succ (by omega)
   have hcell:w5.cell? ⟨q,j,none⟩=some (.string (mkB qq.1)):=by rw [(cells_of_heap i4.2).1];exact hwc
   unfold n10c2 joinK
   simp (disch:=try exact DI) only [↓PR,QR,simprocAttr,(cells_of_heap i6.2).1,(cells_of_heap i5.2).1,hdj,hdk,hdj2,hdk2,Nat.mul_one,hcell]
   unfold n10c1
   simp (disch:=try exact DI) only [↓PR,QR,simprocAttr,(cells_of_heap i6.2).1,(cells_of_heap i6.2).2,hwj]
   refine ⟨hR _ _ ((KR7.refl _ w5).setCell _ _ _ (.inl i6.1)) hR5,⟨⟨i1.1.os,i1.1.tape,i1.1.output,by simpa using i1.1.size,fun b hb=>?_⟩,i1.2⟩,⟨fun b h1 h2=>⟨(i2.1 b h1 h2).1,?_⟩,by simpa using i2.2⟩,⟨i3.1,?_⟩,⟨i4.1,?_⟩,⟨i5.1,?_⟩,i6.1,heap_set (o:=0) i6.2 _⟩
   · rw [heap_setE (by omega)];exact i1.1.block b hb
   · rw [heap_setE (by omega)];exact (i2.1 b h1 h2).2
   · rw [heap_setE (by omega)];exact i3.2
   · rw [heap_setE (by omega)];exact i4.2
   · rw [heap_setE (by omega)];exact i5.2
 · intro V u H hmk
   rw [walk_len] at H
   obtain ⟨i1,i2,i3,i4,i5,i6⟩:=H
   unfold n10c10 joinK
   simp (disch:=try exact DI) only [↓PR,QR,simprocAttr,(cells_of_heap i6.2).1,(cells_of_heap i5.2).1]
   have eu:=i1.1
   have cu:=i3.2
   have mu:=hmk
   have h66:((6:Int) == ((6:Nat):Int))=true:=rfl
   refine zcr (text_ret (hE.ext eu) kS [108,46,120] [121] kS2 (by decide) (by decide) (by decide) kT (lf [121]) kT2 _ p_kT p_y s_lx u_lx v_kT2 t_kT2 (by decide)) fun u20 f20=>?_
   have eu:=eu.trans f20
   have cu:=f20.obj cu
   have mu:=MarkAt.ext mu f20
   have hd2:(mkB kS2)=(⟨#[109,40,97,61,53,32,108,40,121,32,120,41,32,104,91,52,49,58,54,50,54,51,93,41]⟩:ByteArray):=rfl
   unfold n10c9
   simp (disch:=try exact DI) only [↓PR,QR,simprocAttr,hd2,h66]
   unfold n10c8 joinK
   simp (disch:=try exact DI) only [↓PR,QR,simprocAttr,h66]
   refine zcr (before_ret (hE.ext eu) [97] [97,61,49] (by decide) (by decide) _ _ p_a p_a1 c_1) fun u21 f21=>?_
   have eu:=eu.trans f21
   have cu:=f21.obj cu
   have mu:=MarkAt.ext mu f21
   unfold n10c7 joinK
   simp (disch:=try exact DI) only [↓PR,QR,simprocAttr,h66]
   refine zcr (before_ret (hE.ext eu) [97,35,48,48] [97,61,49] (by decide) (by decide) _ _ p_a00 p_a1 c_2) fun u22 f22=>?_
   have eu:=eu.trans f22
   have cu:=f22.obj cu
   have mu:=MarkAt.ext mu f22
   unfold n10c6 joinK
   simp (disch:=try exact DI) only [↓PR,QR,simprocAttr,h66]
   refine zcr (before_ret (hE.ext eu) [97,40,98,41] [97,40,98,32,98,41] (by decide) (by decide) _ _ p_ab p_abb c_3) fun u23 f23=>?_
   have eu:=eu.trans f23
   have cu:=f23.obj cu
   have mu:=MarkAt.ext mu f23
   unfold n10c5 joinK
   simp (disch:=try exact DI) only [↓PR,QR,simprocAttr,h66]
   refine zcr (refused_ret (hE.ext eu) [97,61,48] (by decide) r_a0) fun u24 f24=>?_
   have eu:=eu.trans f24
   have cu:=f24.obj cu
   have mu:=MarkAt.ext mu f24
   unfold n10c4 joinK
   simp (disch:=try exact DI) only [↓PR,QR,simprocAttr,h66]
   refine zcr (refused_ret (hE.ext eu) [97,35,48,65] (by decide) r_a0A) fun u25 f25=>?_
   have eu:=eu.trans f25
   have cu:=f25.obj cu
   have mu:=MarkAt.ext mu f25
   unfold n10c3 joinK
   simp (disch:=try exact DI) only [↓PR,QR,simprocAttr,h66]
   refine zcr (refused_ret (hE.ext eu) [97,40,98,32,32,99,41] (by decide) r_abc) fun u26 f26=>?_
   have eu:=eu.trans f26
   have cu:=f26.obj cu
   have mu:=MarkAt.ext mu f26
   simp (disch:=try exact DI) only [↓PR,QR,simprocAttr,(cells_of_heap cu).1,(cells_of_heap cu).2]
   have cv:=heap_set (o:=0) cu (.bool true)
   change _=some (Obj.cells #[.bool true] 4 (0,0)) at cv
   refine outX_mark (MarkAt.setCell mu _ _) ?_
   simp (disch:=try exact DI) only [↓PR,QR,simprocAttr,outX_nil,retV,resOne,cell_putMark (MarkAt.setCell mu ⟨b0,0,none⟩ (.bool true)),(cells_of_heap cv).1]
   refine ⟨trivial,eu.os,eu.tape,eu.output,by simpa using eu.size,fun b hb=>?_⟩
   rw [World.putObj_heap_other (by have:=e.size;have:=hWP.1;omega),heap_setE (by omega)]
   exact eu.block b hb
 · rintro c V u h
   exact h.elim
 · rintro ch V u h
   exact h.elim
theorem listsC_refl {α:Type} {f:α→α→Int}:∀ {l:List α},(∀ x∈l,f x x=0)→listsC f l l=0
 | [],_=>rfl
 | x::l,h=>by
  rw [listsC,if_pos (h x (List.mem_cons_self ..))]
  exact listsC_refl fun y hy=>h y (List.mem_cons_of_mem _ hy)
theorem cmpB_refl:∀ l:List UInt8,Go.Lib.compareBytes l l=0
 | []=>rfl
 | a::l=>by
  have h:¬ a < a:=UInt8.lt_irrefl a
  unfold Go.Lib.compareBytes
  rw [if_neg h,if_neg h]
  exact cmpB_refl l
theorem cmpH_refl (h:ByteArray×ByteArray):cmpH h h=0:=by
 unfold cmpH cmpS
 rw [cmpB_refl,cmpB_refl]
 rfl
theorem cmpN_refl (n:Nd):cmpN n n=0:=by
 unfold cmpN cmpS
 rw [cmpB_refl,cmpB_refl,listsC_refl fun x _=>cmpH_refl x,show Go.Lib.compareInt n.int n.int=0 by unfold Go.Lib.compareInt;simp]
 rfl
theorem cmp_refl (t:Tr):cmpT t t=0:=by
 refine Tr.ind (p:=fun t=>cmpT t t=0) ?_ t
 intro n ps ih
 rw [cmpT_mk]
 exact (if_pos (cmpN_refl n)).trans (listsC_refl ih)
end Go.Proofs.YtcffhmapmaahnaaGreatDoor
namespace Go.Sw
open Go.ChangeShapes Go.WideShapes Go.RowKit Go.ChangeAt Go.Deep
theorem list_of {α:Type} {p:Nat→α→Prop}:∀ (n:Nat),(∀ i,i < n→∃ x,p i x)→∃ l:List α,l.length=n∧∀ k x,l[k]?=some x→p k x
 | 0,_=>⟨[],rfl,fun k x h=>by simp at h⟩
 | n+1,h=>by
  obtain ⟨l,hl,hp⟩:=list_of n (fun i hi=>h i (by omega))
  obtain ⟨x,hx⟩:=h n (by omega)
  refine ⟨l++[x],by simp [hl],fun k y hy=>?_⟩
  rw [List.getElem?_append] at hy
  split at hy
  · exact hp k y hy
  · have hk:k=n:=by
     have:=(List.getElem?_eq_some_iff.1 hy).1
     simp at this
     omega
    subst hk
    simp [hl] at hy
    subst hy
    exact hx
section
variable {H:Type} {enc:TypeId×Value→H} {P:Program} {w:World} {base:Nat} {spare:Nat→Bool} {held:Bool}
theorem weightsAll_mem {e:TypeId} {m:Nat} {d:DataW H}:∀ {l:List (DataW H)},d∈l→m∈d.weights P e→m∈DataW.weightsAll P e l
 | [],h,_=>by cases h
 | a::l,h,hm=>by
  rw [DataW.weightsAll,List.mem_append]
  rcases List.mem_cons.1 h with rfl | h
  · exact .inl hm
  · exact .inr (weightsAll_mem h hm)
def Reached (P:Program) (t:TypeId) (d:DataW H):Prop:=∀ m∈d.weights P t,m≤reachBytes
theorem reached_of {ts:List TypeId} {ds:List (DataW H)} (h:(DataW.weightsEach P ts ds).all (· ≤ reachBytes)=true) {j:Nat} {t:TypeId} {d:DataW H} (ht:ts[j]?=some t) (hd:ds[j]?=some d):Reached P t d:=fun m hm=>by
 have:=List.all_eq_true.1 h _ (DataW.weights_mem_each ht hd m hm)
 simpa using this
theorem trodAll_stays (hl:laidOutB P=true) {W W':World} (he:Ext W W'):∀ {ts:List TypeId} {vs:List Value} {ds:List (DataW H)} {ps:List MemPlace},(∀ t∈ts,P.readableRec t=true∧t < P.types.size)→(∀ x∈ps,x.block < W.heap.size) →
 DataW.TrodAll enc P W 0 (fun _=>true) true ts vs ds ps→DataW.TrodAll enc P W' 0 (fun b=>decide (b < W.heap.size)) true ts vs ds ps
 | [],_,_,_,_,_,h=>by obtain ⟨rfl,rfl,rfl⟩:=trodAll_nil h;exact trodAll_mk0
 | t::ts,_,_,_,hr,hlt,h=>by
  obtain ⟨v,vs1,d,ds1,a,b,rfl,rfl,rfl,h1,h2⟩:=trodAll_cons h
  refine ⟨a,b,?_,trodAll_stays hl he (fun t ht=>hr t (List.mem_cons_of_mem _ ht)) (fun x hx=>hlt x (List.mem_append_right _ hx)) h2,rfl⟩
  exact Below.trod hl (hr t (List.mem_cons_self ..)).1 (hr t (List.mem_cons_self ..)).2 h1 ⟨he.os,he.tape,he.output,he.size,he.block⟩ (fun x hx=>hlt x (List.mem_append_left _ hx))
theorem law_post {f:Func} {s:ChangeSpec} {W W':World} {args:Array Value} {ds gs:List (DataW H)} {before:List MemPlace} {tb:TypeId} (hl:laidOutB P=true) (hr:∀ t∈f.params.toList,P.readableRec t=true∧t < P.types.size) (hs:s.vars=[])
 (hW:DataW.Whole enc P f.params.toList s.vars false W args.toList ds gs before) (he:Ext W W') (hres:f.resultTypes = #[tb]) (htb:P.underlying tb=some .bool) (hfn:(s.fn H ds).results=[.lit (.bool true)]) (hargs:(s.fn H ds).args=ds) (hvars:(s.fn H ds).vars=[]) :
 s.post enc P f false true false false W args (.bool true) W':=by
 have hW':=hW
 obtain ⟨p,q,hA,hV,rfl,_,_⟩:=hW
 rw [hs] at hV
 obtain ⟨rfl,rfl⟩:=trodVars_none hV
 have hlt:∀ x∈p,x.block < W.heap.size:=fun x hx=>hW'.lt x (by simpa using hx)
 rw [List.append_nil] at hW'
 refine ⟨ds,[],p,[],p,[],hW',?_,?_,?_,Below.frame ⟨he.os,he.tape,he.output,he.size,he.block⟩ _,fun h=>by cases h⟩
 · rw [List.append_nil,hfn,hres]
   exact trodAll_mk1 (shut_bool htb _)
 · rw [List.append_nil,hargs]
   exact trodAll_stays hl he hr hlt hA
 · rw [List.append_nil,hvars,hs]
   exact rfl
end
end Go.Sw
namespace Go.Proofs.YtcffhmapmaahnaaGreatDoor
open Sw
open Go.RowKit Go.Deep
def role_laid:List (String×DataW Unit):=[("math/bits.deBruijn32tab", Rows.laid_math_bits_deBruijn32tab),("math/bits.deBruijn64tab", Rows.laid_math_bits_deBruijn64tab),("internal/strconv.uint64pow10", Rows.laid_internal_strconv_uint64pow10),("unicode/utf8.acceptRanges", Rows.laid_unicode_utf8_acceptRanges),("strconv.ErrRange", Rows.laid_strconv_ErrRange),("strconv.ErrSyntax", Rows.laid_strconv_ErrSyntax),("unicode/utf8.first", Rows.laid_unicode_utf8_first)]
theorem role_own:ownKnob Pg.godebug=none:=by kernel_rfl
theorem role_laidOut:laidOutB Pg=true:=by kernel_rfl
theorem role_met (os:Os) (args:Array Value):laidMetH Pg role_laid ((World.laidAll Pg os role_laid).forCall (fun _ _=>0) ⟨#[],args,[]⟩).memory:=by
 rw [MakeChecks.laidMetH_plain _ _ _ (by kernel_rfl)]
 exact laidMet_laidAll _ (by kernel_rfl) (by kernel_rfl)
theorem role_tab {W:World} (h:laidMetH Pg role_laid W):TabOK W:=by
 rw [MakeChecks.laidMetH_plain _ _ _ (by kernel_rfl)] at h
 have h3:=laidMet.tail (laidMet.tail h)
 have he:(Rows.laid_internal_strconv_uint64pow10:DataW Unit)=Go.Lib.tabData .u64 Go.Lib.pow10Tab:=by kernel_rfl
 rw [he] at h3
 obtain ⟨g,hg⟩:=Option.isSome_iff_exists.1 gPow
 have hty:(Pg.globals[g]?).map (·.type)=some 187:=by
  have h1:(Pg.globalNamed "internal/strconv.uint64pow10").bind (fun g=>(Pg.globals[g]?).map (·.type))=some 187:=by kernel_rfl
  rw [hg] at h1
  exact h1
 exact Go.Lib.tabIs_of_head hg hty Tryz.underlying187 Tryz.underlying163 (by kernel_rfl) (by kernel_rfl) h3
theorem role_star : "*" ++ "errors.errorString" = "*errors.errorString" := by decide
theorem role_rowErr (u:TypeId) (h:Pg.typeName? 3 u=some "*errors.errorString"):u=181 :=
 typeName_ptr_named (nm := "errors.errorString") (by rw [role_star];kernel_rfl) (by kernel_rfl) (by decide) u (by rw [role_star];exact h)
theorem role_env {W:World} (hs:W.ShapedOpen Pg) (h:laidMetH Pg role_laid W):EnvOK W:=by
 refine ⟨role_tab h,Go.Proofs.cell_of_shapedOpen_int (k := .i64) hs (of_decide_eq_true (by kernel_rfl)) (zero := #[.int .i64 0]) (t:=3) (by kernel_rfl) rfl (by kernel_rfl) (by kernel_rfl) Tryz.underlying3,?_,?_⟩
 · rw [MakeChecks.laidMetH_plain _ _ _ (by kernel_rfl)] at h
   have h5:=h.tail.tail.tail.tail.tail
   obtain ⟨a,s,hv,_⟩:=laid_sentinel (g:=1) h5 (by kernel_rfl) (by kernel_rfl) Tryz.underlying113 role_rowErr Tryz.underlying181 Tryz.underlying183 rfl rfl Tryz.underlying9 (by kernel_rfl) (by kernel_rfl)
   refine ⟨_,by rw [World.var?_cell (show Pg.globalNamed "strconv.ErrSyntax" = some 1 by kernel_rfl) hv 0];rfl,.inr ⟨_,_,rfl⟩⟩
 · rw [MakeChecks.laidMetH_plain _ _ _ (by kernel_rfl)] at h
   have h5:=h.tail.tail.tail.tail
   obtain ⟨a,s,hv,_⟩:=laid_sentinel (g:=2) h5 (by kernel_rfl) (by kernel_rfl) Tryz.underlying113 role_rowErr Tryz.underlying181 Tryz.underlying183 rfl rfl Tryz.underlying9 (by kernel_rfl) (by kernel_rfl)
   refine ⟨_,by rw [World.var?_cell (show Pg.globalNamed "strconv.ErrRange" = some 2 by kernel_rfl) hv 0];rfl,.inr ⟨_,_,rfl⟩⟩
theorem handed_and {H:Type} {enc:TypeId×Value→H} {a:Assume} {C:Checked} {os:Os} {f:FuncId} {fn:Func} {s:ChangeSpec} {conds:List PathCond} {apart fresh handsOn again:Bool} {X:World→Array Value→Prop}
 (hX:∀ (w w':World) (args:Array Value),w.heap=w'.heap→X w args→X w' args)
 (own:ownKnob C.prog.godebug=none) (started:os.Started) (noInit:C.prog.inits.idxOf? f=none) (hfn:C.prog.funcs[f]?=some fn)
 (witness:∃ (w:World) (tape:Tape) (i:Input),w.os=os∧(w.forCall tape i).Shaped C.prog∧i.vars=[]∧Input.okWide C.prog (w.forCall tape i) .any w.heap.size f i ∧
  ((s.pre enc C.prog fn conds apart (w.forCall tape i).memory i.args∧X (w.forCall tape i).memory i.args)∧sizedMet enc C.prog fn (OpenSpec.ofChange s) apart (w.forCall tape i).memory i.args)∧a.holds C.prog (lone (Frame.enter C.prog f i.args .normal) [] (w.forCall tape i)))
 (contract:∀ (W:World) (base:Nat) (args:Array Value) (ds gs:List (DataW H)) (before:List MemPlace),
  (∀ (j:Nat) t v,fn.params[j]?=some t→args[j]?=some v→Value.okWide C.prog W .any base t v) →
  DataW.Whole enc C.prog fn.params.toList s.vars apart W args.toList ds gs before →
  conds.all (PathCond.test C.prog ⟨fn.params.toList,ds,s.plain.varTypes C.prog,gs⟩)=true →
  (DataW.weightsEach C.prog (fn.params.toList++s.plain.varTypes C.prog) (ds++gs)).all (· ≤ reachBytes)=true→X W args→W.ShapedOpen C.prog →
  a.holds C.prog (lone (Frame.enter C.prog f args .normal) [] W) →
  Calls C.prog f args W fun e W'=>∃ v,e = .returned v∧s.post enc C.prog fn apart fresh handsOn again W args v W') :
 ReturnsInHanded a C os f .any (fun w args=>(s.pre enc C.prog fn conds apart w args∧X w args)∧sizedMet enc C.prog fn (OpenSpec.ofChange s) apart w args) (s.post enc C.prog fn apart fresh handsOn again):=by
 refine returnsInHanded_of_calls own started noInit witness ?_
 intro w tape i _ hsh _ hok hpre hholds
 obtain ⟨_,_,_,fn',hfn',_,_,_,_,hval⟩:=hok
 have e:fn'=fn:=Option.some.inj (hfn'.symm.trans hfn)
 subst e
 obtain ⟨⟨⟨ds,gs,before,hw,hc⟩,hx⟩,hz⟩:=hpre
 have hw':=DataW.Whole.of_heap (w':=w.forCall tape i) (by rfl) hw
 refine (contract (w.forCall tape i) w.heap.size i.args ds gs before hval hw' hc (hz.weights hw) (hX _ _ _ (by rfl) hx) hsh hholds).mono fun e W' ⟨v,he,hp⟩=>?_
 subst he
 exact ChangeSpec.post_blind hp
end Go.Proofs.YtcffhmapmaahnaaGreatDoor
namespace Go.Proofs.YtcffhmapmaahnaaGreatDoor
open Sw
open Go.ChangeShapes Go.WideShapes Go.RowKit Go.ChangeAt Go.Deep
section
variable {H:Type} {enc:TypeId×Value→H} {w:World} {base:Nat} {spare:Nat→Bool} {held:Bool}
theorem slice_of_trodF {α:Type} {E:World→List Value→α→Prop} {Q:α→Prop} {t e:TypeId} {n fuel:Nat} {cs:List Value} {x:DataW H×List MemPlace} (ht:Pg.underlying t=some (.slice e)) (hn:Pg.cellsOf e=n) (hb1:1≤Pg.bytesOf e) (h0:0 < n)
 (hE:∀ m cs' y,m < fuel→DataW.trod enc Pg w base spare held m e cs'=some y→Reached Pg e y.1→∃ x,E w cs' x∧Q x) (h:DataW.trod enc Pg w base spare held fuel t cs=some x) (hr:Reached Pg t x.1):∃ v l,cs=[v]∧SliceOf w n E v l∧(∀ x∈l,Q x)∧l.length≤140737488355328:=by
 rcases DataW.trod_slice ht h with ⟨rfl,_⟩ | ⟨a,len,cap,elems,rest,k,hk,rfl,hx,hb,hl,hm,hel,hget,hs1,hs2⟩
 · exact ⟨_,[],rfl,SliceOf.nil _ _ _,fun x hx=>by (cases hx),Nat.zero_le _⟩
 · subst hx
   have hw0:=hr ((elems.length+rest.length)*Pg.bytesOf e) (by simp only [DataW.weights,ht];simp)
   have hlen:len≤140737488355328:=by
    have:len*1≤(elems.length+rest.length)*Pg.bytesOf e:=Nat.mul_le_mul (by omega) hb1
    simp only [reachBytes] at hw0
    omega
   obtain ⟨l,hll,hp⟩:=list_of (p:=fun i (x:α)=>∃ cs',w.cells? base (a.add (i*n)) n=some cs'∧E w cs' x∧Q x) len (fun i hi=>by
    have h1:=hget i hi
    obtain ⟨y,hy⟩:=getElem?_lt (l:=elems) (k:=i) (by omega)
    rw [hy,hn] at h1
    obtain ⟨cs',h2,h3⟩:=Option.bind_eq_some_iff.1 h1
    obtain ⟨x,hx⟩:=hE _ _ _ (by omega) h3 (fun q hq=>hr q (by
     simp only [DataW.weights,ht,List.mem_cons,List.mem_append]
     exact .inr (.inl (weightsAll_mem (List.mem_map.2 ⟨y,List.mem_of_getElem? hy,rfl⟩) hq))))
    exact ⟨x,cs',h2,hx⟩)
   refine ⟨_,l,rfl,⟨some a,cap,by rw [hll],by rw [hll];exact hl,by simp only [maxLen] at hm;omega,fun hne=>?_⟩,fun x hx=>?_,by omega⟩
   · obtain ⟨b,o,spot⟩:=a
     have hspot:spot=none:=by
      have:0 < l.length:=List.length_pos_iff.2 hne
      obtain ⟨y,hy⟩:=getElem?_lt this
      obtain ⟨cs',h1,_⟩:=hp 0 y hy
      obtain ⟨_,h2,h3⟩:=World.cells?_some h1
      have h4:=h3 0 h0
      rw [List.getElem?_eq_getElem (by omega)] at h4
      simpa [Addr.add] using World.cell?_spot h4
     subst hspot
     refine ⟨b,o,rfl,fun k x hx=>?_⟩
     obtain ⟨cs',h1,h2,_⟩:=hp k x hx
     obtain ⟨_,h3,h4⟩:=World.cells?_some h1
     refine ⟨cs',h3,fun j v hv=>?_,h2⟩
     have h5:=h4 j (by have:=(List.getElem?_eq_some_iff.1 hv).1;omega)
     rw [hv] at h5
     simpa [Addr.add_lit] using h5
   · obtain ⟨k,hk⟩:=List.getElem?_of_mem hx
     obtain ⟨_,_,_,hq⟩:=hp k x hk
     exact hq
theorem struct_of_trodF {fs:Array Field} {t:TypeId} {n fuel:Nat} {cs:List Value} {x:DataW H×List MemPlace} (ht:Pg.underlying t=some (.struct fs)) (hn:Pg.cellsOf t=n) (h:DataW.trod enc Pg w base spare held fuel t cs=some x) (hr:Reached Pg t x.1) :
 cs.length=n∧∃ m,m < fuel∧∀ (i:Nat) (ty off k:Nat),(fs[i]?).map (fun f=>(f.type,f.offset))=some (ty,off)→Pg.cellsOf ty=k→∃ y,DataW.trod enc Pg w base spare held m ty ((cs.drop off).take k)=some y∧Reached Pg ty y.1:=by
 obtain ⟨xs,m,hm,rfl,hl,hlen,hf⟩:=DataW.trod_struct ht h
 refine ⟨hl.trans hn,m,by omega,fun i ty off k hi hk=>?_⟩
 obtain ⟨f,hfi,he⟩:=Option.map_eq_some_iff.1 hi
 injection he with h1 h2
 subst h1 h2 hk
 have hil:i < xs.length:=by rw [hlen];exact (Array.getElem?_eq_some_iff.1 hfi).1
 refine ⟨xs[i],(hf i f hfi).trans (List.getElem?_eq_getElem hil),fun q hq=>hr q ?_⟩
 simp only [DataW.weights,ht]
 refine DataW.weights_mem_each (j:=i) (t:=f.type) (d:=xs[i].1) ?_ ?_ q hq
 · rw [List.getElem?_map,Array.getElem?_toList,hfi];rfl
 · rw [List.getElem?_map,List.getElem?_eq_getElem hil];rfl
theorem cellsVal:Pg.cellsOf 26=5:=by kernel_rfl
theorem cellsHdr:Pg.cellsOf 74=2:=by kernel_rfl
theorem cellsString:Pg.cellsOf 9=1:=by kernel_rfl
theorem cellsInt:Pg.cellsOf 3=1:=by kernel_rfl
theorem cellsU8:Pg.cellsOf 5=1:=by kernel_rfl
theorem cellsBs:Pg.cellsOf 22=1:=by kernel_rfl
theorem cellsHs:Pg.cellsOf 23=1:=by kernel_rfl
theorem cellsVs:Pg.cellsOf 24=1:=by kernel_rfl
theorem bytesVal:1≤Pg.bytesOf 26:=Nat.le_of_ble_eq_true (by kernel_rfl)
theorem bytesHdr:1≤Pg.bytesOf 74:=Nat.le_of_ble_eq_true (by kernel_rfl)
theorem bytesU8:1≤Pg.bytesOf 5:=Nat.le_of_ble_eq_true (by kernel_rfl)
theorem hdr_of {m:Nat} {cs:List Value} {y:DataW H×List MemPlace} (h:DataW.trod enc Pg w base spare held m 74 cs=some y) (hr:Reached Pg 74 y.1):∃ x,EHdr w cs x:=by
 obtain ⟨hl,n,_,hf⟩:=struct_of_trodF Tryz.underlying74 cellsHdr h hr
 obtain ⟨y0,h0,r0⟩:=hf 0 9 0 1 rfl cellsString
 obtain ⟨y1,h1,r1⟩:=hf 1 9 1 1 rfl cellsString
 match cs,hl with
 | [c0,c1],_ =>
  obtain ⟨s,e0,_⟩:=DataW.trod_string Tryz.underlying9 h0
  obtain ⟨k,e1,_⟩:=DataW.trod_string Tryz.underlying9 h1
  simp at e0 e1
  subst e0 e1
  exact ⟨(s,k),rfl⟩
theorem byte_of {m:Nat} {cs:List Value} {y:DataW H×List MemPlace} (h:DataW.trod enc Pg w base spare held m 5 cs=some y):∃ x:UInt8,EByte w cs x:=by
 obtain ⟨k,rfl,_,hw⟩:=DataW.trod_int Tryz.underlying5 h
 have hk:0≤k∧k≤255:=by
  have h2:(decide (IntKind.u8.min≤k)&&decide (k≤IntKind.u8.max))=true:=hw
  rw [Bool.and_eq_true,decide_eq_true_eq,decide_eq_true_eq,show IntKind.u8.min=0 from rfl,show IntKind.u8.max=255 from rfl] at h2
  exact h2
 refine ⟨UInt8.ofNat k.toNat,?_⟩
 show [Value.int .u8 k]=[Value.int .u8 ((UInt8.ofNat k.toNat).toNat:Int)]
 rw [UInt8.toNat_ofNat',Nat.mod_eq_of_lt (by omega)]
 congr 2
 omega
theorem value_of:∀ (m:Nat) (cs:List Value) (y:DataW H×List MemPlace),DataW.trod enc Pg w base spare held m 26 cs=some y→Reached Pg 26 y.1→∃ t,ETr w cs t:=by
 intro m
 induction m using Nat.strongRecOn with
 | ind m ih =>
  intro cs y h hr
  obtain ⟨hl,n,hn,hf⟩:=struct_of_trodF Tryz.underlying26 cellsVal h hr
  obtain ⟨y0,h0,r0⟩:=hf 0 9 0 1 rfl cellsString
  obtain ⟨y1,h1,r1⟩:=hf 1 3 1 1 rfl cellsInt
  obtain ⟨y2,h2,r2⟩:=hf 2 22 2 1 rfl cellsBs
  obtain ⟨y3,h3,r3⟩:=hf 3 23 3 1 rfl cellsHs
  obtain ⟨y4,h4,r4⟩:=hf 4 24 4 1 rfl cellsVs
  match cs,hl with
  | [c0,c1,c2,c3,c4],_ =>
   obtain ⟨s,e0,_⟩:=DataW.trod_string Tryz.underlying9 h0
   obtain ⟨k,e1,_⟩:=DataW.trod_int Tryz.underlying3 h1
   obtain ⟨v2,l2,e2,hS2,_,_⟩:=slice_of_trodF (E:=EByte) (Q:=fun _=>True) Tryz.underlying22 cellsU8 bytesU8 (by decide) (fun _ _ _ _ h hr=>let ⟨x,hx⟩:=byte_of h; ⟨x,hx,trivial⟩) h2 r2
   obtain ⟨v3,l3,e3,hS3,_,_⟩:=slice_of_trodF (E:=EHdr) (Q:=fun _=>True) Tryz.underlying23 cellsHdr bytesHdr (by decide) (fun _ _ _ _ h hr=>let ⟨x,hx⟩:=hdr_of h hr; ⟨x,hx,trivial⟩) h3 r3
   obtain ⟨v4,l4,e4,hS4,_,_⟩:=slice_of_trodF (E:=ETr) (Q:=fun _=>True) Tryz.underlying24 cellsVal bytesVal (by decide) (fun m' _ _ hm' h hr=>let ⟨x,hx⟩:=ih m' (by omega) _ _ h hr; ⟨x,hx,trivial⟩) h4 r4
   simp at e0 e1 e2 e3 e4
   subst e0 e1 e2 e3 e4
   exact ⟨.mk ⟨s,k,l2,l3⟩ l4,ETr_mk.2 ⟨_,_,_,rfl,hS2,hS3,hS4⟩⟩
theorem val_val {r:Reach} {b0:Nat} {v:Value} {d:DataW H} {ps:List MemPlace} (hval:Value.okWide Pg w r b0 26 v) (h:DataW.Trod enc Pg w base spare held 26 v d ps) (hr:Reached Pg 26 d):∃ t:Tr,ValAt w v t∧True:=by
 obtain ⟨cs,rfl,_⟩:=okWide_struct Tryz.underlying26 hval
 obtain ⟨fuel,hf⟩:=h
 obtain ⟨t,ht⟩:=value_of _ _ _ hf hr
 obtain ⟨bv,hv,pv,hc,g1,g2,g3⟩:=ETr_of.1 ht
 exact ⟨t,⟨bv,hv,pv,congrArg Value.agg (by rw [← hc,cells_agg]),g1,g2,g3⟩,trivial⟩
end
end Go.Proofs.YtcffhmapmaahnaaGreatDoor
namespace Go.Proofs.YtcffhmapmaahnaaGreatDoor
open Sw
open Go.RowKit (intOf Below)
theorem cmpB_anti:∀ a b:List UInt8,Go.Lib.compareBytes b a = - Go.Lib.compareBytes a b
 | [],[]=>rfl
 | [],_::_=>rfl
 | _::_,[]=>rfl
 | x::a,y::b=>by
  unfold Go.Lib.compareBytes
  by_cases h1:x < y
  · have h2:¬ y < x:=fun h=>UInt8.lt_irrefl _ (UInt8.lt_trans h1 h)
    rw [if_neg h2,if_pos h1,if_pos h1]
    rfl
  · by_cases h2:y < x
    · rw [if_pos h2,if_neg h1,if_pos h2]
    · rw [if_neg h2,if_neg h1,if_neg h1,if_neg h2]
      exact cmpB_anti a b
theorem cmpS_anti (a b:ByteArray):cmpS b a = - cmpS a b:=cmpB_anti _ _
theorem cmpI_anti (a b:Int):Go.Lib.compareInt b a = - Go.Lib.compareInt a b:=by
 unfold Go.Lib.compareInt
 repeat' split
 all_goals omega
theorem orI_anti:∀ {l m:List Int},m=l.map (fun x => -x)→orI m = - orI l
 | [],_,h=>by subst h;rfl
 | x::l,_,h=>by
  subst h
  show (if -x=0 then orI (l.map fun x => -x) else -x) = - (if x=0 then orI l else x)
  by_cases h0:x=0
  · rw [if_pos h0,if_pos (by omega)]
    exact orI_anti rfl
  · rw [if_neg h0,if_neg (by omega)]
theorem listsC_anti {α:Type} {f:α→α→Int}:∀ {a b:List α},(∀ x∈a,∀ y,f y x = - f x y)→listsC f b a = - listsC f a b
 | [],[],_=>rfl
 | [],_::_,_=>rfl
 | _::_,[],_=>rfl
 | x::a,y::b,h=>by
  have h1:=h x (List.mem_cons_self ..) y
  rw [listsC,listsC,h1]
  by_cases h0:f x y=0
  · rw [if_pos h0,if_pos (by omega)]
    exact listsC_anti fun z hz=>h z (List.mem_cons_of_mem _ hz)
  · rw [if_neg h0,if_neg (by omega)]
theorem cmpH_anti (a b:ByteArray×ByteArray):cmpH b a = - cmpH a b:=orI_anti (by
 simp only [List.map_cons,List.map_nil]
 rw [cmpS_anti a.1 b.1,cmpS_anti a.2 b.2])
theorem cmpN_anti (a b:Nd):cmpN b a = - cmpN a b:=orI_anti (by
 simp only [List.map_cons,List.map_nil]
 rw [cmpS_anti a.name b.name,cmpI_anti a.int b.int,cmpB_anti a.bytes b.bytes,listsC_anti (a:=a.hdrs) (b:=b.hdrs) fun x _ y=>cmpH_anti x y])
theorem cmp_anti (t:Tr):∀ s,cmpT s t = - cmpT t s:=by
 refine Tr.ind (p:=fun t=>∀ s,cmpT s t = - cmpT t s) ?_ t
 intro n ps ih s
 cases s with
 | mk m qs =>
  rw [cmpT_mk,cmpT_mk]
  show (if cmpN m n=0 then listsC cmpT qs ps else cmpN m n) = -(if cmpN n m=0 then listsC cmpT ps qs else cmpN n m)
  rw [cmpN_anti n m]
  by_cases h0:cmpN n m=0
  · rw [if_pos h0,if_pos (by omega)]
    exact listsC_anti fun x hx y=>ih x hx y
  · rw [if_neg h0,if_neg (by omega)]
def Rng (x:Int):Prop := -1≤x∧x≤1
theorem rng0:Rng 0:=⟨by decide,by decide⟩
theorem rngM:Rng (-1):=⟨by decide,by decide⟩
theorem rng1:Rng 1:=⟨by decide,by decide⟩
theorem cmpB_rng:∀ a b:List UInt8,Rng (Go.Lib.compareBytes a b)
 | [],[]=>rng0
 | [],_::_=>rngM
 | _::_,[]=>rng1
 | x::a,y::b=>by
  unfold Go.Lib.compareBytes
  split
  · exact ⟨by decide,by decide⟩
  · split
    · exact ⟨by decide,by decide⟩
    · exact cmpB_rng a b
theorem cmpI_rng (a b:Int):Rng (Go.Lib.compareInt a b):=by
 unfold Go.Lib.compareInt Rng
 repeat' split
 all_goals omega
theorem orI_rng:∀ {l:List Int},(∀ x∈l,Rng x)→Rng (orI l)
 | [],_=>⟨by decide,by decide⟩
 | x::l,h=>by
  unfold orI
  split
  · exact orI_rng fun y hy=>h y (List.mem_cons_of_mem _ hy)
  · exact h x (List.mem_cons_self ..)
theorem listsC_rng {α:Type} {f:α→α→Int}:∀ {a b:List α},(∀ x∈a,∀ y,Rng (f x y))→Rng (listsC f a b)
 | [],[],_=>rng0
 | [],_::_,_=>rngM
 | _::_,[],_=>rng1
 | x::a,y::b,h=>by
  rw [listsC]
  split
  · exact listsC_rng fun z hz=>h z (List.mem_cons_of_mem _ hz)
  · exact h x (List.mem_cons_self ..) y
theorem cmpH_rng (a b:ByteArray×ByteArray):Rng (cmpH a b):=orI_rng fun x hx=>by
 rcases List.mem_cons.1 hx with rfl | hx
 · exact cmpB_rng _ _
 rcases List.mem_cons.1 hx with rfl | hx
 · exact cmpB_rng _ _
 · cases hx
theorem cmpN_rng (a b:Nd):Rng (cmpN a b):=orI_rng fun x hx=>by
 rcases List.mem_cons.1 hx with rfl | hx
 · exact cmpB_rng _ _
 rcases List.mem_cons.1 hx with rfl | hx
 · exact cmpI_rng _ _
 rcases List.mem_cons.1 hx with rfl | hx
 · exact cmpB_rng _ _
 rcases List.mem_cons.1 hx with rfl | hx
 · exact listsC_rng fun x _ y=>cmpH_rng x y
 · cases hx
theorem cmp_rng (t:Tr):∀ s,Rng (cmpT t s):=by
 refine Tr.ind (p:=fun t=>∀ s,Rng (cmpT t s)) ?_ t
 intro n ps ih s
 rw [cmpT_mk]
 split
 · exact listsC_rng fun x hx y=>ih x hx y
 · exact cmpN_rng _ _
theorem allT_imp {f g:Nd→Bool} (h:∀ n,f n=true→g n=true) (t:Tr):allT f t=true→allT g t=true:=by
 refine Tr.ind (p:=fun t=>allT f t=true→allT g t=true) ?_ t
 intro n ps ih ht
 rw [allT_mk,Bool.and_eq_true,List.all_eq_true] at ht ⊢
 exact ⟨h n ht.1,fun x hx=>ih x hx (ht.2 x hx)⟩
theorem hdrs_small (t:Tr):allT smallN t=true→hdrsT t≤110*nodesT t:=by
 refine Tr.ind (p:=fun t=>allT smallN t=true→hdrsT t≤110*nodesT t) ?_ t
 intro n ps ih ht
 rw [allT_mk,Bool.and_eq_true,List.all_eq_true] at ht
 have h1:n.hdrs.length≤110:=by
  have:=ht.1
  unfold smallN at this
  simp only [Bool.and_eq_true,decide_eq_true_eq] at this
  omega
 have h2:∀ l:List Tr,(∀ x∈l,hdrsT x≤110*nodesT x)→(l.map hdrsT).sum≤110*(l.map nodesT).sum:=by
  intro l
  induction l with
  | nil=>intro _;simp
  | cons a l ihl =>
   intro h
   have ha:=h a (List.mem_cons_self ..)
   have:=ihl fun x hx=>h x (List.mem_cons_of_mem _ hx)
   rw [List.map_cons,List.map_cons,List.sum_cons,List.sum_cons]
   omega
 have h3:=h2 ps fun x hx=>ih x hx (ht.2 x hx)
 rw [hdrsT_mk,nodesT_mk]
 omega
theorem small_all {t:Tr} (h:smallT t=true):shortT t=true∧fitT t=true∧hnT 1048576 t=true∧hdrsT t≤22000∧nodesT t≤200:=by
 obtain ⟨h1,h2⟩:=small_facts h
 have h3:=hdrs_small t h2
 refine ⟨allT_imp (fun n hn=>?_) t h2,?_,allT_imp (fun n hn=>?_) t h2,by omega,h1⟩
 · unfold smallN at hn
   unfold shortN
   simp only [Bool.and_eq_true,decide_eq_true_eq,List.all_eq_true] at hn ⊢
   refine ⟨⟨by omega,by omega⟩,fun x hx=>?_⟩
   have:=hn.2.2.2 x hx
   unfold smallH at this
   simp only [Bool.and_eq_true,decide_eq_true_eq] at this
   omega
 · unfold fitT
   rw [Bool.and_eq_true,decide_eq_true_eq]
   refine ⟨allT_imp (fun n hn=>?_) t h2,by omega⟩
   unfold smallN at hn
   unfold fitN
   simp only [Bool.and_eq_true,decide_eq_true_eq] at hn ⊢
   omega
 · unfold smallN at hn
   simp only [Bool.and_eq_true,decide_eq_true_eq,List.all_eq_true] at hn ⊢
   intro x hx
   have:=hn.2.2.2 x hx
   unfold smallH at this
   simp only [Bool.and_eq_true,decide_eq_true_eq] at this
   omega
theorem cmpB_eq:∀ a b:List UInt8,Go.Lib.compareBytes a b=0→a=b
 | [],[],_=>rfl
 | [],_::_,h=>by cases h
 | _::_,[],h=>by cases h
 | x::a,y::b,h=>by
  unfold Go.Lib.compareBytes at h
  by_cases h1:x < y
  · rw [if_pos h1] at h;cases h
  · rw [if_neg h1] at h
    by_cases h2:y < x
    · rw [if_pos h2] at h;cases h
    · rw [if_neg h2] at h
      have e:x=y:=UInt8.le_antisymm (UInt8.not_lt.1 h2) (UInt8.not_lt.1 h1)
      rw [e,cmpB_eq a b h]
theorem cmpS_eq {a b:ByteArray} (h:cmpS a b=0):a=b:=bytes_ext (cmpB_eq _ _ h)
theorem cmpI_eq {a b:Int} (h:Go.Lib.compareInt a b=0):a=b:=by
 unfold Go.Lib.compareInt at h
 revert h
 repeat' split
 all_goals omega
def lexI (p u:Int):Int:=if p=0 then u else p
theorem lexI_eq {p u:Int} (h:lexI p u=0):p=0∧u=0:=by
 unfold lexI at h
 by_cases h0:p=0
 · rw [if_pos h0] at h;exact ⟨h0,h⟩
 · rw [if_neg h0] at h;exact absurd h h0
theorem listsC_eq {α:Type} {f:α→α→Int}:∀ {a b:List α},(∀ x∈a,∀ y,f x y=0→x=y)→listsC f a b=0→a=b
 | [],[],_,_=>rfl
 | [],_::_,_,h=>by cases h
 | _::_,[],_,h=>by cases h
 | x::a,y::b,hf,h=>by
  obtain ⟨h1,h2⟩:=lexI_eq (p:=f x y) (u:=listsC f a b) h
  rw [hf x (List.mem_cons_self ..) y h1,listsC_eq (fun z hz=>hf z (List.mem_cons_of_mem _ hz)) h2]
theorem cmpH_eq {a b:ByteArray×ByteArray} (h:cmpH a b=0):a=b:=by
 obtain ⟨h1,h2⟩:=lexI_eq (p:=cmpS a.1 b.1) h
 obtain ⟨h3,_⟩:=lexI_eq (p:=cmpS a.2 b.2) h2
 exact Prod.ext (cmpS_eq h1) (cmpS_eq h3)
theorem cmpN_eq {a b:Nd} (h:cmpN a b=0):a=b:=by
 obtain ⟨h1,h⟩:=lexI_eq (p:=cmpS a.name b.name) h
 obtain ⟨h2,h⟩:=lexI_eq (p:=Go.Lib.compareInt a.int b.int) h
 obtain ⟨h3,h⟩:=lexI_eq (p:=Go.Lib.compareBytes a.bytes b.bytes) h
 obtain ⟨h4,_⟩:=lexI_eq (p:=listsC cmpH a.hdrs b.hdrs) h
 cases a
 cases b
 simp only at h1 h2 h3 h4
 rw [cmpS_eq h1,cmpI_eq h2,cmpB_eq _ _ h3,listsC_eq (fun x _ y=>cmpH_eq) h4]
theorem cmp_eq (t:Tr):∀ s,cmpT t s=0→t=s:=by
 refine Tr.ind (p:=fun t=>∀ s,cmpT t s=0→t=s) ?_ t
 intro n ps ih s h
 cases s with
 | mk m qs =>
  rw [cmpT_mk] at h
  obtain ⟨h1,h2⟩:=lexI_eq (p:=cmpN n m) (u:=listsC cmpT ps qs) h
  rw [cmpN_eq h1,listsC_eq ih h2]
theorem lex_trans {p q r u v w:Int} (hp:Rng p) (hq:Rng q) (h1:p=0→r=q) (h2:q=0→r=p) (h3:p = -1→q = -1→r = -1) (h4:p=0→q=0→u = -1→v = -1→w = -1) (a:lexI p u = -1) (b:lexI q v = -1):lexI r w = -1:=by
 unfold lexI at a b ⊢
 by_cases p0:p=0
 · rw [if_pos p0] at a
   by_cases q0:q=0
   · rw [if_pos q0] at b
     rw [if_pos (by rw [h1 p0];exact q0)]
     exact h4 p0 q0 a b
   · rw [if_neg q0] at b
     rw [h1 p0,if_neg q0]
     exact b
 · rw [if_neg p0] at a
   by_cases q0:q=0
   · rw [h2 q0,if_neg p0]
     exact a
   · rw [if_neg q0] at b
     have:=h3 a b
     rw [this]
     rfl
theorem cmpB_trans:∀ a b c:List UInt8,Go.Lib.compareBytes a b = -1→Go.Lib.compareBytes b c = -1→Go.Lib.compareBytes a c = -1
 | [],[],_,h,_=>by cases h
 | _::_,[],_,h,_=>by cases h
 | _,_::_,[],_,h=>by cases h
 | [],_::_,_::_,_,_=>rfl
 | x::a,y::b,z::c,h1,h2=>by
  unfold Go.Lib.compareBytes at h1 h2 ⊢
  by_cases xy:x < y
  · by_cases yz:y < z
    · rw [if_pos (UInt8.lt_trans xy yz)]
    · rw [if_neg yz] at h2
      by_cases zy:z < y
      · rw [if_pos zy] at h2;cases h2
      · have e:y=z:=UInt8.le_antisymm (UInt8.not_lt.1 zy) (UInt8.not_lt.1 yz)
        rw [← e,if_pos xy]
  · rw [if_neg xy] at h1
    by_cases yx:y < x
    · rw [if_pos yx] at h1;cases h1
    · rw [if_neg yx] at h1
      have e:x=y:=UInt8.le_antisymm (UInt8.not_lt.1 yx) (UInt8.not_lt.1 xy)
      subst e
      by_cases yz:x < z
      · rw [if_pos yz]
      · rw [if_neg yz] at h2 ⊢
        by_cases zy:z < x
        · rw [if_pos zy] at h2;cases h2
        · rw [if_neg zy] at h2 ⊢
          exact cmpB_trans a b c h1 h2
theorem cmpS_trans {a b c:ByteArray} (h1:cmpS a b = -1) (h2:cmpS b c = -1):cmpS a c = -1:=cmpB_trans _ _ _ h1 h2
theorem cmpI_trans {a b c:Int} (h1:Go.Lib.compareInt a b = -1) (h2:Go.Lib.compareInt b c = -1):Go.Lib.compareInt a c = -1:=by
 unfold Go.Lib.compareInt at h1 h2 ⊢
 revert h1 h2
 repeat' split
 all_goals omega
theorem listsC_trans {α:Type} {f:α→α→Int} (hr:∀ x y,Rng (f x y)) (he:∀ x y,f x y=0→x=y):∀ {a b c:List α},(∀ x∈a,∀ y z,f x y = -1→f y z = -1→f x z = -1)→listsC f a b = -1→listsC f b c = -1→listsC f a c = -1
 | [],[],_,_,h,_=>by cases h
 | _::_,[],_,_,h,_=>by cases h
 | _,_::_,[],_,_,h=>by cases h
 | [],_::_,_::_,_,_,_=>rfl
 | x::a,y::b,z::c,ht,h1,h2=>lex_trans (p:=f x y) (q:=f y z) (r:=f x z) (hr _ _) (hr _ _) (fun h=>by rw [he _ _ h]) (fun h=>by rw [← he _ _ h]) (ht x (List.mem_cons_self ..) y z) (fun _ _=>listsC_trans hr he fun w hw=>ht w (List.mem_cons_of_mem _ hw)) h1 h2
theorem cmpH_trans {a b c:ByteArray×ByteArray} (h1:cmpH a b = -1) (h2:cmpH b c = -1):cmpH a c = -1 :=
 lex_trans (p:=cmpS a.1 b.1) (q:=cmpS b.1 c.1) (r:=cmpS a.1 c.1) (cmpB_rng _ _) (cmpB_rng _ _) (fun h=>by rw [cmpS_eq h]) (fun h=>by rw [← cmpS_eq h]) cmpS_trans (fun _ _=>lex_trans (p:=cmpS a.2 b.2) (q:=cmpS b.2 c.2) (r:=cmpS a.2 c.2) (u:=orI []) (v:=orI []) (w:=orI []) (cmpB_rng _ _) (cmpB_rng _ _) (fun h=>by rw [cmpS_eq h]) (fun h=>by rw [← cmpS_eq h]) cmpS_trans fun _ _ h=>by cases h) h1 h2
theorem cmpN_trans {a b c:Nd} (h1:cmpN a b = -1) (h2:cmpN b c = -1):cmpN a c = -1 :=
 lex_trans (p:=cmpS a.name b.name) (q:=cmpS b.name c.name) (r:=cmpS a.name c.name) (cmpB_rng _ _) (cmpB_rng _ _) (fun h=>by rw [cmpS_eq h]) (fun h=>by rw [← cmpS_eq h]) cmpS_trans (fun _ _ =>
 lex_trans (p:=Go.Lib.compareInt a.int b.int) (q:=Go.Lib.compareInt b.int c.int) (r:=Go.Lib.compareInt a.int c.int) (cmpI_rng _ _) (cmpI_rng _ _) (fun h=>by rw [cmpI_eq h]) (fun h=>by rw [← cmpI_eq h]) cmpI_trans (fun _ _ =>
 lex_trans (p:=Go.Lib.compareBytes a.bytes b.bytes) (q:=Go.Lib.compareBytes b.bytes c.bytes) (r:=Go.Lib.compareBytes a.bytes c.bytes) (cmpB_rng _ _) (cmpB_rng _ _) (fun h=>by rw [cmpB_eq _ _ h]) (fun h=>by rw [← cmpB_eq _ _ h]) (cmpB_trans _ _ _) (fun _ _ =>
 lex_trans (p:=listsC cmpH a.hdrs b.hdrs) (q:=listsC cmpH b.hdrs c.hdrs) (r:=listsC cmpH a.hdrs c.hdrs) (u:=orI []) (v:=orI []) (w:=orI []) (listsC_rng fun x _ y=>cmpH_rng x y) (listsC_rng fun x _ y=>cmpH_rng x y) (fun h=>by rw [listsC_eq (fun x _ y=>cmpH_eq) h]) (fun h=>by rw [← listsC_eq (fun x _ y=>cmpH_eq) h]) (listsC_trans cmpH_rng (fun x y=>cmpH_eq) fun x _ y z=>cmpH_trans) fun _ _ h=>by cases h))) h1 h2
theorem cmp_trans (t:Tr):∀ s r,cmpT t s = -1→cmpT s r = -1→cmpT t r = -1:=by
 refine Tr.ind (p:=fun t=>∀ s r,cmpT t s = -1→cmpT s r = -1→cmpT t r = -1) ?_ t
 intro n ps ih s r h1 h2
 cases s with
 | mk m qs =>
  cases r with
  | mk k rs =>
   rw [cmpT_mk] at h1 h2 ⊢
   exact lex_trans (p:=cmpN n m) (q:=cmpN m k) (r:=cmpN n k) (u:=listsC cmpT ps qs) (v:=listsC cmpT qs rs) (w:=listsC cmpT ps rs) (cmpN_rng _ _) (cmpN_rng _ _) (fun h=>by rw [cmpN_eq h]) (fun h=>by rw [← cmpN_eq h]) cmpN_trans (fun _ _=>listsC_trans (fun x y=>cmp_rng x y) (fun x y=>cmp_eq x y) ih) h1 h2
theorem cmp_more (n:Nd) (ps:List Tr) (b:Tr):cmpT (.mk n ps) (.mk n (ps++[b])) = -1:=by
 have key:∀ l:List Tr,listsC cmpT l (l++[b]) = -1:=by
  intro l
  induction l with
  | nil=>rfl
  | cons x l ih =>
   rw [List.cons_append,listsC,if_pos (cmp_refl x)]
   exact ih
 rw [cmpT_mk]
 exact (if_pos (cmpN_refl n)).trans (key ps)
def n7c1 (t95:Value) (R:RT) (w:World):Prop :=
 opV Pg (binS .eql 3 true t95 (.int .i64 (-1))) (panK R) w fun t96 w =>
 joinK (fun (t98:Value) (w:World) =>
 pickK t96 t98 (.bool false) fun t99 =>
 R (.returned t99) w) fun K20 =>
 guardP t96 true (
 callK Pg 11 #[] (panK R) w fun t98 w =>
 K20 t98 w) (
 K20 undef w)
def n7c2 (t3 t4 t86:Value) (R:RT) (w:World):Prop :=
 opV Pg (Instr.alloc 26 true (.tuple #[])) (panK R) w fun t10 w =>
 opU Pg (Instr.storeAt 26 t10 t86) (panK R) w fun w =>
 opV Pg (Instr.fieldAt 26 t10 4) (panK R) w fun t87 w =>
 opV Pg (Instr.loadAt 24 t87) (panK R) w fun t88 w =>
 opV Pg (Instr.loadAt 26 t4) (panK R) w fun t89 w =>
 opV Pg (Instr.buildSlice 24 1 #[(0,t89)]) (panK R) w fun t90 w =>
 opV Pg (Builtin.append_ #[24,24] 24 #[t88,t90]) (panK R) w fun t91 w =>
 opV Pg (Instr.fieldAt 26 t10 4) (panK R) w fun t92 w =>
 opU Pg (Instr.storeAt 24 t92 t91) (panK R) w fun w =>
 opV Pg (Instr.loadAt 26 t3) (panK R) w fun t93 w =>
 opV Pg (Instr.loadAt 26 t10) (panK R) w fun t94 w =>
 callK Pg 14 #[t93,t94] (panK R) w fun t95 w =>
 n7c1 t95 R w
def n7c3 (t3 t4 t75 t83:Value) (R:RT) (w:World):Prop :=
 pickK t75 (.bool true) t83 fun t84 =>
 condP t84 (
 R (.returned (.bool false)) w) (
 opV Pg (Instr.loadAt 26 t3) (panK R) w fun t85 w =>
 callK Pg 16 #[t85] (panK R) w fun t86 w =>
 n7c2 t3 t4 t86 R w)
def n7c4 (t3 t4 t30 t33 t75 t79:Value) (R:RT) (w:World):Prop :=
 joinK (fun (t82:Value) (w:World) =>
 joinK (fun (t83:Value) (w:World) =>
 n7c3 t3 t4 t75 t83 R w) fun K19 =>
 guardP t75 false (
 pickK t79 t82 (.bool false) fun t83 =>
 K19 t83 w) (
 K19 undef w)) fun K18 =>
 guardP t79 true (
 opV Pg (binS .neq 3 false t30 t33) (panK R) w fun t82 w =>
 K18 t82 w) (
 K18 undef w)
def n7c5 (t3 t4 t27 t30 t33 t57 t74:Value) (R:RT) (w:World):Prop :=
 pickK t57 (.bool true) t74 fun t75 =>
 joinK (fun (t79:Value) (w:World) =>
 n7c4 t3 t4 t30 t33 t75 t79 R w) fun K17 =>
 guardP t75 false (
 opV Pg (binS .eql 3 true t27 (.int .i64 0)) (panK R) w fun t78 w =>
 K17 t78 w) (
 K17 undef w)
def n7c6 (t3 t4 t27 t30 t33 t57 t71 t73:Value) (R:RT) (w:World):Prop :=
 joinK (fun (t74:Value) (w:World) =>
 n7c5 t3 t4 t27 t30 t33 t57 t74 R w) fun K16 =>
 guardP t57 false (
 pickK t71 t73 (.bool false) fun t74 =>
 K16 t74 w) (
 K16 undef w)
def n7c7 (t3 t4 t27 t30 t33 t57 t71:Value) (R:RT) (w:World):Prop :=
 joinK (fun (t73:Value) (w:World) =>
 n7c6 t3 t4 t27 t30 t33 t57 t71 t73 R w) fun K15 =>
 guardP t71 true (
 opV Pg (binS .neq 3 true t33 (.int .i64 (-1))) (panK R) w fun t73 w =>
 K15 t73 w) (
 K15 undef w)
def n7c8 (t3 t4 t27 t30 t33 t57 t65 t69:Value) (R:RT) (w:World):Prop :=
 joinK (fun (t71:Value) (w:World) =>
 n7c7 t3 t4 t27 t30 t33 t57 t71 R w) fun K14 =>
 guardP t57 false (
 pickK t65 t69 (.bool false) fun t70 =>
 K14 t70 w) (
 K14 undef w)
def n7c9 (t3 t4 t27 t30 t33 t57 t65:Value) (R:RT) (w:World):Prop :=
 joinK (fun (t69:Value) (w:World) =>
 n7c8 t3 t4 t27 t30 t33 t57 t65 t69 R w) fun K13 =>
 guardP t65 true (
 opV Pg (binS .add 3 false t27 t30) (panK R) w fun t68 w =>
 opV Pg (binS .lss 3 true t68 (.int .i64 0)) (panK R) w fun t69 w =>
 K13 t69 w) (
 K13 undef w)
def n7c10 (t3 t4 t27 t30 t33 t57 t61 t63:Value) (R:RT) (w:World):Prop :=
 joinK (fun (t65:Value) (w:World) =>
 n7c9 t3 t4 t27 t30 t33 t57 t65 R w) fun K12 =>
 guardP t57 false (
 pickK t61 t63 (.bool false) fun t64 =>
 K12 t64 w) (
 K12 undef w)
def n7c11 (t3 t4 t27 t30 t33 t57 t61:Value) (R:RT) (w:World):Prop :=
 joinK (fun (t63:Value) (w:World) =>
 n7c10 t3 t4 t27 t30 t33 t57 t61 t63 R w) fun K11 =>
 guardP t61 true (
 opV Pg (binS .leq 3 true t30 (.int .i64 0)) (panK R) w fun t63 w =>
 K11 t63 w) (
 K11 undef w)
def n7c12 (t3 t4 t27 t30 t33 t45 t56:Value) (R:RT) (w:World):Prop :=
 pickK t45 (.bool true) t56 fun t57 =>
 joinK (fun (t61:Value) (w:World) =>
 n7c11 t3 t4 t27 t30 t33 t57 t61 R w) fun K10 =>
 guardP t57 false (
 opV Pg (binS .leq 3 true t27 (.int .i64 0)) (panK R) w fun t60 w =>
 K10 t60 w) (
 K10 undef w)
def n7c13 (t3 t4 t27 t30 t33 t45 t53 t55:Value) (R:RT) (w:World):Prop :=
 joinK (fun (t56:Value) (w:World) =>
 n7c12 t3 t4 t27 t30 t33 t45 t56 R w) fun K9 =>
 guardP t45 false (
 pickK t53 t55 (.bool false) fun t56 =>
 K9 t56 w) (
 K9 undef w)
def n7c14 (t3 t4 t27 t30 t33 t45 t53:Value) (R:RT) (w:World):Prop :=
 joinK (fun (t55:Value) (w:World) =>
 n7c13 t3 t4 t27 t30 t33 t45 t53 t55 R w) fun K8 =>
 guardP t53 true (
 opV Pg (binS .gtr 3 true t33 (.int .i64 0)) (panK R) w fun t55 w =>
 K8 t55 w) (
 K8 undef w)
def n7c15 (t3 t4 t27 t30 t33 t45 t49 t51:Value) (R:RT) (w:World):Prop :=
 joinK (fun (t53:Value) (w:World) =>
 n7c14 t3 t4 t27 t30 t33 t45 t53 R w) fun K7 =>
 guardP t45 false (
 pickK t49 t51 (.bool false) fun t52 =>
 K7 t52 w) (
 K7 undef w)
def n7c16 (t3 t4 t27 t30 t33 t45 t49:Value) (R:RT) (w:World):Prop :=
 joinK (fun (t51:Value) (w:World) =>
 n7c15 t3 t4 t27 t30 t33 t45 t49 t51 R w) fun K6 =>
 guardP t49 true (
 opV Pg (binS .leq 3 true t30 (.int .i64 0)) (panK R) w fun t51 w =>
 K6 t51 w) (
 K6 undef w)
def n7c17 (t3 t4 t27 t30 t33 t39 t44:Value) (R:RT) (w:World):Prop :=
 pickK t39 (.bool true) t44 fun t45 =>
 joinK (fun (t49:Value) (w:World) =>
 n7c16 t3 t4 t27 t30 t33 t45 t49 R w) fun K5 =>
 guardP t45 false (
 opV Pg (binS .leq 3 true t27 (.int .i64 0)) (panK R) w fun t48 w =>
 K5 t48 w) (
 K5 undef w)
def n7c18 (t3 t4 t27 t30 t33 t37:Value) (R:RT) (w:World):Prop :=
 opV Pg (Op.unary .neg t37) (panK R) w fun t38 w =>
 opV Pg (binS .neq 3 false t27 t38) (panK R) w fun t39 w =>
 joinK (fun (t44:Value) (w:World) =>
 n7c17 t3 t4 t27 t30 t33 t39 t44 R w) fun K4 =>
 guardP t39 false (
 opV Pg (Instr.loadAt 26 t3) (panK R) w fun t41 w =>
 opV Pg (Instr.loadAt 26 t3) (panK R) w fun t42 w =>
 callK Pg 14 #[t41,t42] (panK R) w fun t43 w =>
 opV Pg (binS .neq 3 true t43 (.int .i64 0)) (panK R) w fun t44 w =>
 K4 t44 w) (
 K4 undef w)
def n7c19 (t3 t4 t27 t30 t33:Value) (R:RT) (w:World):Prop :=
 opV Pg (Instr.loadAt 26 t4) (panK R) w fun t35 w =>
 opV Pg (Instr.loadAt 26 t3) (panK R) w fun t36 w =>
 callK Pg 14 #[t35,t36] (panK R) w fun t37 w =>
 n7c18 t3 t4 t27 t30 t33 t37 R w
def n7c20 (t3 t4 t27 t28 t29 t31 t32:Value) (C3:World→Prop) (R:RT) (w:World):Prop :=
 C3 w∧(
 callK Pg 14 #[t28,t29] (panK R) w fun t30 w =>
 C3 w∧(
 callK Pg 14 #[t31,t32] (panK R) w fun t33 w =>
 C3 w∧(
 n7c19 t3 t4 t27 t30 t33 R w)))
def n7c21 (t3 t4 t5:Value) (C3:World→Prop) (R:RT) (w:World):Prop :=
 qV Pg C3 (Instr.loadAt 26 t3) fun t25 =>
 qV Pg C3 (Instr.loadAt 26 t4) fun t26 =>
 qV Pg C3 (Instr.loadAt 26 t4) fun t28 =>
 qV Pg C3 (Instr.loadAt 26 t5) fun t29 =>
 qV Pg C3 (Instr.loadAt 26 t3) fun t31 =>
 qV Pg C3 (Instr.loadAt 26 t5) fun t32 =>
 callK Pg 14 #[t25,t26] (panK R) w fun t27 w =>
 n7c20 t3 t4 t27 t28 t29 t31 t32 C3 R w
def n7c22 (t3 t4 t5 t18 t22:Value) (R:RT) (w:World):Prop :=
 pickK t18 (.bool true) t22 fun t23 =>
 condP t23 (
 callK Pg 11 #[] (panK R) w fun t24 w =>
 R (.returned t24) w) (
 drawK w fun C3 w =>
 n7c21 t3 t4 t5 C3 R w)
def n7c23 (t3 t4 t5 t13 t17:Value) (R:RT) (w:World):Prop :=
 pickK t13 (.bool true) t17 fun t18 =>
 joinK (fun (t22:Value) (w:World) =>
 n7c22 t3 t4 t5 t18 t22 R w) fun K2 =>
 guardP t18 false (
 opV Pg (Instr.loadAt 26 t5) (panK R) w fun t20 w =>
 callK Pg 10 #[t20] (panK R) w fun t21 w =>
 opV Pg (Op.unary .not t21) (panK R) w fun t22 w =>
 K2 t22 w) (
 K2 undef w)
def n7c24 (t3 t4 t5 t12:Value) (R:RT) (w:World):Prop :=
 opV Pg (Op.unary .not t12) (panK R) w fun t13 w =>
 joinK (fun (t17:Value) (w:World) =>
 n7c23 t3 t4 t5 t13 t17 R w) fun K1 =>
 guardP t13 false (
 opV Pg (Instr.loadAt 26 t4) (panK R) w fun t15 w =>
 callK Pg 10 #[t15] (panK R) w fun t16 w =>
 opV Pg (Op.unary .not t16) (panK R) w fun t17 w =>
 K1 t17 w) (
 K1 undef w)
def n7 (t0 t1 t2:Value) (R:RT) (w:World):Prop :=
 opV Pg (Instr.box 26 t0) (panK R) w fun t3 w =>
 opV Pg (Instr.box 26 t1) (panK R) w fun t4 w =>
 opV Pg (Instr.box 26 t2) (panK R) w fun t5 w =>
 opV Pg (Instr.loadAt 26 t3) (panK R) w fun t11 w =>
 callK Pg 10 #[t11] (panK R) w fun t12 w =>
 n7c24 t3 t4 t5 t12 R w
set_option maxHeartbeats 40000000 in
theorem n7s {t0 t1 t2:Value} {R:RT} {w:World} (h:n7 t0 t1 t2 R w):Calls Pg 8 #[t0,t1,t2] w R:=by
 refine yD Tryz.func8 ?_
 refine zs<|zr<|yv h fun _ w h=>yv h fun _ w h=>yv h fun _ w h=>zm<|zn<|zk<|zs<|zs<|sim_regionG<|yG 4<|yv h fun _ w h=>yc h c10 fun _ w h=>yv h fun _ w h=>?_
 refine zm<|zn<|yg1 3 3 false [15,16,17] 17 h (fun _ T hT h=>?_) fun σ w h=>?_
 · refine yv h fun _ w h=>yc h c10 fun _ w h=>yv h fun _ w h=>zn ?_
   exact zt hT h
 refine yG 2<|yp h fun _ h=>zm<|zn<|yg1 3 8 false [20,21,22] 22 h (fun _ T hT h=>?_) fun σ w h=>?_
 · refine yv h fun _ w h=>yc h c10 fun _ w h=>yv h fun _ w h=>zn ?_
   exact zt hT h
 refine yG 1<|yp h fun _ h=>zn<|sim_end<|zk<|yC h (fun h=>zs<|zr<|yc h c11 fun _ w h=>zm<|zn<|zk<|sim_ret<|sim_then_ret<|body_ret1 rfl rfl h) fun h=>sim_skip<|zk<|zs<|yh [7,8,9,25,26,27,28,29,30,31,32,33] h fun C hC h=>ye 0 hC h fun _ h=>?_
 refine ye 1 hC h fun _ h=>?_
 refine ye 3 hC h fun _ h=>?_
 refine ye 4 hC h fun _ h=>?_
 refine ye 6 hC h fun _ h=>?_
 refine ye 7 hC h fun _ h=>?_
 refine yo 2 ?_
 refine yc h c14 fun _ w h=>zn ?_
 obtain ⟨hC,h⟩:=h
 refine ⟨hC,?_⟩
 refine yo 5 ?_
 refine yc h c14 fun _ w h=>zn ?_
 obtain ⟨hC,h⟩:=h
 refine ⟨hC,?_⟩
 refine yo 8 ?_
 refine yc h c14 fun _ w h=>zn ?_
 obtain ⟨hC,h⟩:=h
 refine ⟨hC,?_⟩
 refine yw 9 hC ?_
 refine yw 10 hC ?_
 refine yw 11 hC ?_
 refine yz<|zk<|zs<|zs<|sim_regionG<|yG 7<|zm<|yv h fun _ w h=>yv h fun _ w h=>yc h c14 fun _ w h=>yv h fun _ w h=>yb h fun _ w h=>zm<|zn<|yg1 4 6 false [41,42,43,44] 44 h (fun _ T hT h=>?_) fun σ w h=>?_
 · refine yv h fun _ w h=>yv h fun _ w h=>yc h c14 fun _ w h=>yb h fun _ w h=>zn ?_
   exact zt hT h
 refine yG 2<|yp h fun _ h=>zm<|zn<|yg1 3 12 false [47,48,49] 49 h (fun _ T hT h=>?_) fun σ w h=>?_
 · refine zm<|yb h fun _ w h=>zm<|zn ?_
   exact zt hT h
 refine yg1 2 15 true [50,51] 51 h (fun _ T hT h=>?_) fun σ w h=>?_
 · refine zm<|yb h fun _ w h=>zn ?_
   exact zt hT h
 refine yg1 2 12 false [52,53] 53 h (fun _ T hT h=>?_) fun σ w h=>?_
 · refine yp h fun _ h=>zm<|zn ?_
   exact zt hT h
 refine yg1 2 19 true [54,55] 55 h (fun _ T hT h=>?_) fun σ w h=>?_
 · refine zm<|yb h fun _ w h=>zn ?_
   exact zt hT h
 refine yg1 1 12 false [56] 56 h (fun _ T hT h=>?_) fun σ w h=>?_
 · refine yp h fun _ h=>zn ?_
   exact zt hT h
 refine yG 2<|yp h fun _ h=>zm<|zn<|yg1 3 24 false [59,60,61] 61 h (fun _ T hT h=>?_) fun σ w h=>?_
 · refine zm<|yb h fun _ w h=>zm<|zn ?_
   exact zt hT h
 refine yg1 2 27 true [62,63] 63 h (fun _ T hT h=>?_) fun σ w h=>?_
 · refine zm<|yb h fun _ w h=>zn ?_
   exact zt hT h
 refine yg1 2 24 false [64,65] 65 h (fun _ T hT h=>?_) fun σ w h=>?_
 · refine yp h fun _ h=>zm<|zn ?_
   exact zt hT h
 refine yg1 4 31 true [66,67,68,69] 69 h (fun _ T hT h=>?_) fun σ w h=>?_
 · refine zm<|zm<|yb h fun _ w h=>yb h fun _ w h=>zn ?_
   exact zt hT h
 refine yg1 2 24 false [70,71] 71 h (fun _ T hT h=>?_) fun σ w h=>?_
 · refine yp h fun _ h=>zm<|zn ?_
   exact zt hT h
 refine yg1 2 37 true [72,73] 73 h (fun _ T hT h=>?_) fun σ w h=>?_
 · refine zm<|yb h fun _ w h=>zn ?_
   exact zt hT h
 refine yg1 1 24 false [74] 74 h (fun _ T hT h=>?_) fun σ w h=>?_
 · refine yp h fun _ h=>zn ?_
   exact zt hT h
 refine yG 2<|yp h fun _ h=>zm<|zn<|yg1 3 42 false [77,78,79] 79 h (fun _ T hT h=>?_) fun σ w h=>?_
 · refine zm<|yb h fun _ w h=>zm<|zn ?_
   exact zt hT h
 refine yg1 3 45 true [80,81,82] 82 h (fun _ T hT h=>?_) fun σ w h=>?_
 · refine zm<|zm<|yb h fun _ w h=>zn ?_
   exact zt hT h
 refine yg1 1 42 false [83] 83 h (fun _ T hT h=>?_) fun σ w h=>?_
 · refine yp h fun _ h=>zn ?_
   exact zt hT h
 refine yG 1<|yp h fun _ h=>zn<|sim_end<|zk<|yC h (fun h=>zs<|zr<|zm<|zn<|zk<|sim_ret<|sim_then_ret<|body_ret1 rfl rfl h) fun h=>sim_skip<|zk<|zs<|zr<|yv h fun _ w h=>yc h c16 fun _ w h=>yv h fun _ w h=>yu h fun w h=>?_
 refine zn<|zk<|zs<|zr<|yv h fun _ w h=>yv h fun _ w h=>yv h fun _ w h=>yS h fun _ w h=>yx h fun _ w h=>yv h fun _ w h=>yu h fun w h=>zn<|zk<|zs<|sim_regionG ?_
 refine yG 5<|yv h fun _ w h=>yv h fun _ w h=>yc h c14 fun _ w h=>yb h fun _ w h=>zm<|zn<|yg1 1 4 true [98] 98 h (fun _ T hT h=>?_) fun σ w h=>?_
 · refine yc h c11 fun _ w h=>zn ?_
   exact zt hT h
 exact yG 2<|yp h fun _ h=>zm<|zn<|sim_end<|zk<|sim_ret<|body_ret1 rfl rfl h
noncomputable def bigH:Tr→Nat:=Tr.fold fun n _ rs=>(n.hdrs.map fun h=>h.1.size).foldr max 0+rs.foldr max 0
theorem hnT_mono {B B':Nat} (h:B≤B') (t:Tr):hnT B t=true→hnT B' t=true:=allT_imp (fun n hn=>by
 rw [List.all_eq_true] at hn ⊢
 intro x hx
 have:=hn x hx
 simp only [decide_eq_true_eq] at this ⊢
 omega) t
theorem bigH_ok (t:Tr):hnT (bigH t) t=true:=by
 refine Tr.ind (p:=fun t=>hnT (bigH t) t=true) ?_ t
 intro n ps ih
 have e:bigH (.mk n ps)=(n.hdrs.map fun h=>h.1.size).foldr max 0+(ps.map bigH).foldr max 0:=Tr.fold_mk ..
 rw [e]
 unfold hnT
 rw [allT_mk,Bool.and_eq_true,List.all_eq_true,List.all_eq_true]
 refine ⟨fun x hx=>?_,fun x hx=>?_⟩
 · have:=(foldr_max_le (l:=n.hdrs.map fun h=>h.1.size) (m:=(n.hdrs.map fun h=>h.1.size).foldr max 0)).1 (Nat.le_refl _) _ (List.mem_map_of_mem hx)
   exact decide_eq_true (by omega)
 · have:=(foldr_max_le (l:=ps.map bigH) (m:=(ps.map bigH).foldr max 0)).1 (Nat.le_refl _) _ (List.mem_map_of_mem hx)
   exact hnT_mono (by omega) x (ih x hx)
theorem more_ret {W w11 w12:World} {t s:Tr} {cs:List Value} {ub uh up vb vh vp:Value} (hO:OwnT w12 t w11.heap.size w12.heap.size cs) (eA:Ext W w12) (e12:Ext w11 w12) (hU:ValAt W (.agg #[.string t.nd.name,.int .i64 t.nd.int,ub,uh,up]) t) (hV:ValAt W (.agg #[.string s.nd.name,.int .i64 s.nd.int,vb,vh,vp]) s)
 (c1:w12.heap[W.heap.size]?=some (.cells #[.string t.nd.name,.int .i64 t.nd.int,ub,uh,up] 26 (0,0))) (c2:w12.heap[W.heap.size+1]?=some (.cells #[.string s.nd.name,.int .i64 s.nd.int,vb,vh,vp] 26 (0,0))) (hf:fitT t=true) (hc1lt:W.heap.size < w11.heap.size) (hkn:∀ w,Ext W w→callK Pg 11 #[] (panK (retR fun r w'=>r=Value.bool true∧Ext W w')) w fun t w=>retR (fun r w'=>r=Value.bool true∧Ext W w') (.returned t) w) :
 n7c2 (.pointer (some ⟨W.heap.size,0,none⟩)) (.pointer (some ⟨W.heap.size+1,0,none⟩)) (.agg cs.toArray) (retR fun r w'=>r=Value.bool true∧Ext W w') w12:=by
 cases t with
 | mk n ps =>
  obtain ⟨bv,hv,pv,m,css,rfl,h1,h2,h3,h4,h5⟩:=OwnT_mk.1 hO
  have o1:=SliceOf.oneCell (h1.1.slice (E:=EByte) (fun _=>rfl) (fun _ _=>rfl))
  have o2:=SliceOf.oneCell (h2.1.slice (E:=EHdr) (fun _=>rfl) (fun _ _=>rfl))
  have o3:=SliceOf.oneCell (h3.1.slice (E:=fun _ cs (x:Cs 5)=>cs=x.1) (fun x=>x.2) (fun _ _=>rfl))
  obtain ⟨_,_,hfl,_⟩:=fitT_mk hf
  have hcl:=ChainG_len h5
  unfold n7c2
  simp (disch:=try exact DI) only [↓PR,QR,simprocAttr,fun o=>(cells_of_heap (((Ext.refl w12).alloc o).obj c2)).1]
  have k1:=heap_new w12 #[.string n.name,.int .i64 n.int,bv,hv,pv] 26
  have e13:Ext w12 (w12.alloc (.cells #[.string n.name,.int .i64 n.int,bv,hv,pv] 26)):=ee
  have z13:(w12.alloc (.cells #[.string n.name,.int .i64 n.int,bv,hv,pv] 26)).heap.size=w12.heap.size+1:=by simp
  generalize (w12.alloc (.cells #[.string n.name,.int .i64 n.int,bv,hv,pv] 26))=w13 at *
  have k2:=heap_new w13 #[.string s.nd.name,.int .i64 s.nd.int,vb,vh,vp] 26
  have e14:Ext w13 (w13.alloc (.cells #[.string s.nd.name,.int .i64 s.nd.int,vb,vh,vp] 26)):=ee
  have z14:(w13.alloc (.cells #[.string s.nd.name,.int .i64 s.nd.int,vb,vh,vp] 26)).heap.size=w13.heap.size+1:=by simp
  generalize (w13.alloc (.cells #[.string s.nd.name,.int .i64 s.nd.int,vb,vh,vp] 26))=w14 at *
  rw [z13] at k2
  have e:=e13.trans e14
  have k1:=e14.obj k1
  have c1:=e.obj c1
  have hW:=eA.trans e
  have g1:=h1.ext e
  have g2:=h2.ext e
  have g3:=h3.ext e
  have g5:ChainG (OwnT w14) ps m w12.heap.size css:=(ChainG_imp (fun x _ a b cs _ _ h=>OwnT.ext h e) h5).1
  have hV14:=hV.ext hW
  obtain ⟨q1,q2,q3,hq0,r1,r2,r3⟩:=hV14
  have hVe:ETr w14 [.string s.nd.name,.int .i64 s.nd.int,vb,vh,vp] s:=by
   refine ETr_of.2 ⟨q1,q2,q3,?_,r1,r2,r3⟩
   injection hq0 with hq0
   exact congrArg Array.toList hq0
  have hvb:vb.oneCell'=true∧vh.oneCell'=true∧vp.oneCell'=true:=by
   obtain ⟨y1,y2,y3,hy,_,_,_,f1,f2,f3⟩:=hV.op
   injection hy with hy
   have hy:=congrArg Array.toList hy
   unfold trCells at hy
   injection hy with _ hy
   injection hy with _ hy
   injection hy with e1 hy
   injection hy with e2 hy
   injection hy with e3 _
   subst e1 e2 e3
   exact ⟨f1,f2,f3⟩
  have hby:=by26
  have zW:=eA.size
  have z12:=e12.size
  have hmh:=ChainG_le h5
  refine op_appendL (l':=[(⟨[.string s.nd.name,.int .i64 s.nd.int,vb,vh,vp],rfl⟩:Cs 5)]) Tryz.underlying24 ty26 rfl (by decide) (fun x=>x.2) (fun y hy u hu=>?_) g3.1 (fun j y hy=>?_) (by omega) (by simp) ?_ (by simp;omega) ?_
  · rw [List.mem_singleton.1 hy] at hu
    exact trCells_one (n:=s.nd) hvb.1 hvb.2.1 hvb.2.2 u hu
  · cases j with
    | zero =>
     simp only [List.getElem?_cons_zero,Option.some.injEq] at hy
     subst hy
     intro j v hv
     rw [(cells_of_heap k2).1]
     simpa using hv
    | succ j=>simp at hy
  · simp only [List.length_cons,List.length_nil]
    exact Nat.le_trans (Nat.mul_le_mul (show css.length+1≤200000001 by omega) hby) (by decide)
  · intro g cap w15 ho hg hgg hgl
    rw [show css.length+[(⟨[.string s.nd.name,.int .i64 s.nd.int,vb,vh,vp],rfl⟩:Cs 5)].length=css.length+1 from rfl] at ho ⊢
    have hrow:∀ b,b < w14.heap.size→pv.ownBlock≠some b→w15.heap[b]?=w14.heap[b]?:=fun b hb hne=>hg.block b hb (fun e=>hne e.symm)
    have hlo:∀ b,(b < w11.heap.size∨m≤b)→pv.ownBlock≠some b:=fun b hb e=>by
     have h9:=OwnE.lt' h3.1 e
     have h10:=h3.2 b e
     omega
    have c1':=(hrow _ (by omega) (hlo _ (.inl hc1lt))).trans c1
    have k1':=(hrow w12.heap.size (by omega) (hlo _ (.inr (by omega)))).trans k1
    have k3:=heap_set (o:=4) k1' (.slice (some ⟨g,0,none⟩) (css.length+1) cap)
    have c3:(w15.setCell ⟨w12.heap.size,4,none⟩ (.slice (some ⟨g,0,none⟩) (css.length+1) cap)).heap[W.heap.size]?=some (.cells #[.string n.name,.int .i64 n.int,ub,uh,up] 26 (0,0)):=(heap_setE (by omega)).trans c1'
    change _=some (Obj.cells #[.string n.name,.int .i64 n.int,bv,hv,.slice (some ⟨g,0,none⟩) (css.length+1) cap] 26 (0,0)) at k3
    simp (disch:=try exact DI) only [↓PR,QR,simprocAttr,(cells_of_heap k1').1,(cells_of_heap k1').2,(cells_of_heap c1').1,(cells_of_heap k3).1]
    generalize hw16:w15.setCell ⟨w12.heap.size,4,none⟩ (.slice (some ⟨g,0,none⟩) (css.length+1) cap)=w16
    have hs16:w14.heap.size≤w16.heap.size:=by rw [← hw16];simpa using hg.size
    have hk16:∀ b,b < w14.heap.size→b≠w12.heap.size→pv.ownBlock≠some b→w16.heap[b]?=w14.heap[b]?:=fun b hb h1 h2=>by rw [← hw16,heap_setE h1];exact hrow b hb h2
    have eW:Ext W w16:=⟨by rw [← hw16];exact hg.os.trans hW.os,by rw [← hw16];exact hg.tape.trans hW.tape,by rw [← hw16];exact hg.output.trans hW.output,Nat.le_trans hW.size hs16,fun b hb=>(hk16 b (by omega) (by omega) (hlo b (.inl (by omega)))).trans (hW.block b hb)⟩
    have hgw:=OwnE.lt' ho (g:=g) rfl
    have ho16:OwnE w16 w11.heap.size 26 5 (Subtype.val:Cs 5→List Value) (.slice (some ⟨g,0,none⟩) (css.length+1) cap) (css++[⟨[.string s.nd.name,.int .i64 s.nd.int,vb,vh,vp],rfl⟩]):=OwnE.same ho fun j hj=>by
     have:g=j:=by cases hj;rfl
     rw [← hw16,heap_setE]
     rcases hgg with hgg | hgg
     · have:=h3.2 g hgg
       omega
     · omega
    have hkeep:∀ (T:TypeId) {α:Type} {k:Nat} {enc:α→List Value} {v:Value} {L:List α},OwnR w14 w11.heap.size m T k enc v L→T≠26→OwnE w16 w11.heap.size T k enc v L:=fun T α k enc v L hO hT=>OwnE.same hO.1 fun j hj=>hk16 j (OwnE.lt' hO.1 hj).2 (by have:=hO.2 j hj;omega) fun e=>by
     obtain ⟨x1,f1,t1⟩:=OwnE.type hO.1 hj
     obtain ⟨x2,f2,t2⟩:=OwnE.type g3.1 e
     rw [t1] at t2
     injection t2 with t2
     injection t2 with _ t2 _
     exact hT t2
    have hsub:∀ (k:Nat) (y:Tr) (c:Cs 5),ps[k]?=some y→css[k]?=some c→ETr w16 c.1 y:=fun k y c hy hc=>by
     obtain ⟨a,b,m1,m2,m3⟩:=chain_each (fun x a b cs h=>OwnT.le h) g5 k y c hy hc
     have hB:=(InT.of (B:=bigH y) y m3 (bigH_ok y)).1
     exact (hB.keep (w':=w16) (Nat.le_refl _) (Nat.le_refl _) fun j j1 j2 j3=>hk16 j j3 (by omega) (hlo j (.inr (by omega)))).all
    have hVal:ValAt w16 (.agg #[.string n.name,.int .i64 n.int,bv,hv,.slice (some ⟨g,0,none⟩) (css.length+1) cap]) (.mk n (ps++[s])):=by
     refine ⟨bv,hv,_,rfl,(hkeep _ g1 (by decide)).slice (fun _=>rfl) (fun _ _=>rfl),(hkeep _ g2 (by decide)).slice (fun _=>rfl) (fun _ _=>rfl),ho16.reads ⟨by simp [hcl,Tr.ps],fun k y c hy hc=>?_⟩⟩
     change (ps++[s])[k]?=some y at hy
     by_cases hk:k < ps.length
     · rw [List.getElem?_append_left hk] at hy
       rw [List.getElem?_append_left (by omega)] at hc
       exact hsub k y c hy hc
     · rw [List.getElem?_append_right (by omega)] at hy hc
       have hk0:k - ps.length=0:=by
        have:=(List.getElem?_eq_some_iff.1 hy).1
        simp at this
        omega
       rw [hcl,hk0] at hc
       rw [hk0] at hy
       simp only [List.getElem?_cons_zero,Option.some.injEq] at hy hc
       subst hy hc
       obtain ⟨x1,x2,x3,hx0,y1,y2,y3⟩:=hV.ext eW
       refine ETr_of.2 ⟨x1,x2,x3,?_,y1,y2,y3⟩
       injection hx0 with hx0
       exact congrArg Array.toList hx0
    refine callK_ret (Compare_ret _ w16 _ _ _ (hU.ext eW) hVal) ?_
    rintro _ w17' ⟨rfl,e17⟩
    rw [cmp_more]
    unfold n7c1 joinK
    simp (disch:=try exact DI) only [↓PR,QR,simprocAttr]
    exact hkn _ (eW.trans e17)
theorem rng_cases {p:Int} (h:Rng p):p = -1∨p=0∨p=1:=by
 have:=h.1
 have:=h.2
 omega
theorem ValueTotal_ret (W:World) (u v x:Value) (t s r:Tr) (hu:ValAt W u t) (hv:ValAt W v s) (hx:ValAt W x r) (hE:EnvOK W):Ret Pg 8 #[u,v,x] W fun r w'=>r = .bool true∧Ext W w':=by
 obtain ⟨ub,uh,up,rfl,a1,a2,a3,a4,a5,a6⟩:=hu.op
 obtain ⟨vb,vh,vp,rfl,b1,b2,b3,b4,b5,b6⟩:=hv.op
 obtain ⟨xb,xh,xp,rfl,d1,d2,d3,d4,d5,d6⟩:=hx.op
 refine n7s (R:=retR _) ?_;unfold n7
 simp (disch:=try exact DI) only [↓PR,QR,simprocAttr]
 rw [show (Value.agg (trCells t.nd ub uh up).toArray).cells=(trCells t.nd ub uh up).toArray from rfl,show (Value.agg (trCells s.nd vb vh vp).toArray).cells=(trCells s.nd vb vh vp).toArray from rfl]
 have c1:=heap_new W #[.string t.nd.name,.int .i64 t.nd.int,ub,uh,up] 26
 change (W.alloc (.cells (trCells t.nd ub uh up).toArray 26)).heap[W.heap.size]?=_ at c1
 have e1:Ext W (W.alloc (.cells (trCells t.nd ub uh up).toArray 26)):=(Ext.refl W).alloc _
 have z1:(W.alloc (.cells (trCells t.nd ub uh up).toArray 26)).heap.size=W.heap.size+1:=by simp
 generalize (W.alloc (.cells (trCells t.nd ub uh up).toArray 26))=w1 at *
 have c2:=heap_new w1 #[.string s.nd.name,.int .i64 s.nd.int,vb,vh,vp] 26
 change (w1.alloc (.cells (trCells s.nd vb vh vp).toArray 26)).heap[w1.heap.size]?=_ at c2
 have e2:Ext w1 (w1.alloc (.cells (trCells s.nd vb vh vp).toArray 26)):=(Ext.refl w1).alloc _
 have z2:(w1.alloc (.cells (trCells s.nd vb vh vp).toArray 26)).heap.size=w1.heap.size+1:=by simp
 generalize (w1.alloc (.cells (trCells s.nd vb vh vp).toArray 26))=w2 at *
 have c3:=heap_new w2 #[.string r.nd.name,.int .i64 r.nd.int,xb,xh,xp] 26
 change (w2.alloc (.cells (trCells r.nd xb xh xp).toArray 26)).heap[w2.heap.size]?=_ at c3
 have e3:Ext w2 (w2.alloc (.cells (trCells r.nd xb xh xp).toArray 26)):=(Ext.refl w2).alloc _
 generalize (w2.alloc (.cells (trCells r.nd xb xh xp).toArray 26))=w3 at *
 rw [z2,z1] at c3
 rw [z1] at c2
 rw [z2,z1]
 have e:=e1.trans (e2.trans e3)
 have c1:=e3.obj (e2.obj c1)
 have c2:=e3.obj c2
 have hU:ValAt W (.agg #[.string t.nd.name,.int .i64 t.nd.int,ub,uh,up]) t:=⟨_,_,_,rfl,a1,a2,a3⟩
 have hV:ValAt W (.agg #[.string s.nd.name,.int .i64 s.nd.int,vb,vh,vp]) s:=⟨_,_,_,rfl,b1,b2,b3⟩
 have hX:ValAt W (.agg #[.string r.nd.name,.int .i64 r.nd.int,xb,xh,xp]) r:=⟨_,_,_,rfl,d1,d2,d3⟩
 clear e1 e2 e3
 have hkn:∀ w,Ext W w→callK Pg 11 #[] (panK (retR fun r w'=>r=Value.bool true∧Ext W w')) w fun t w=>retR (fun r w'=>r=Value.bool true∧Ext W w') (.returned t) w:=fun w ew=>callK_ret (known_ret (hE.ext ew)) (by
  rintro _ w' ⟨rfl,e'⟩
  simp (disch:=try exact DI) only [↓PR,QR,simprocAttr]
  exact ⟨trivial,ew.trans e'⟩)
 refine zcr (vsmall_ret w3 _ t (hU.ext e)) fun w4 e4=>?_
 have c1:=e4.obj c1
 have c2:=e4.obj c2
 have c3:=e4.obj c3
 have e:=e.trans e4
 unfold n7c24 joinK
 cases hst:smallT t with
 | false =>
  simp (disch:=try exact DI) only [↓PR,QR,simprocAttr]
  unfold n7c23 joinK
  simp (disch:=try exact DI) only [↓PR,QR,simprocAttr]
  unfold n7c22
  simp (disch:=try exact DI) only [↓PR,QR,simprocAttr]
  exact hkn _ e
 | true =>
  simp (disch:=try exact DI) only [↓PR,QR,simprocAttr,(cells_of_heap c2).1]
  refine zcr (vsmall_ret w4 _ s (hV.ext e)) fun w5 e5=>?_
  have c1:=e5.obj c1
  have c2:=e5.obj c2
  have c3:=e5.obj c3
  have e:=e.trans e5
  unfold n7c23 joinK
  cases hss:smallT s with
  | false =>
   simp (disch:=try exact DI) only [↓PR,QR,simprocAttr]
   unfold n7c22
   simp (disch:=try exact DI) only [↓PR,QR,simprocAttr]
   exact hkn _ e
  | true =>
   simp (disch:=try exact DI) only [↓PR,QR,simprocAttr,(cells_of_heap c3).1]
   refine zcr (vsmall_ret w5 _ r (hX.ext e)) fun w6 e6=>?_
   have c1:=e6.obj c1
   have c2:=e6.obj c2
   have c3:=e6.obj c3
   have e:=e.trans e6
   unfold n7c22
   cases hsr:smallT r with
   | false =>
    simp (disch:=try exact DI) only [↓PR,QR,simprocAttr]
    exact hkn _ e
   | true =>
    obtain ⟨t1,t2,t3,t4,t5⟩:=small_all hst
    simp (disch:=try exact DI) only [↓PR,QR,simprocAttr]
    refine drawK_intro ?_
    have eD:Ext w6 (drew w6):=(Ext.refl w6).drew
    have c1:=eD.obj c1
    have c2:=eD.obj c2
    have c3:=eD.obj c3
    have e:=e.trans eD
    generalize drew w6=D at *
    unfold n7c21
    simp (disch:=try exact DI) only [↓PR,QR,simprocAttr,(cells_of_heap c1).1,(cells_of_heap c2).1,(cells_of_heap c3).1]
    refine zcr (Compare_ret t D _ _ s (hU.ext e) (hV.ext e)) fun w7 e7=>?_
    unfold n7c20
    refine ⟨e7,?_⟩
    refine zcr (Compare_ret s w7 _ _ r (hV.ext (e.trans e7)) (hX.ext (e.trans e7))) fun w8 e8=>?_
    have e78:=e7.trans e8
    refine ⟨e78,?_⟩
    refine zcr (Compare_ret t w8 _ _ r (hU.ext (e.trans e78)) (hX.ext (e.trans e78))) fun w9 e9=>?_
    have e79:=e78.trans e9
    refine ⟨e79,?_⟩
    have c1:=e79.obj c1
    have c2:=e79.obj c2
    have eA:=e.trans e79
    unfold n7c19
    simp (disch:=try exact DI) only [↓PR,QR,simprocAttr,(cells_of_heap c1).1,(cells_of_heap c2).1]
    refine zcr (Compare_ret s w9 _ _ t (hV.ext eA) (hU.ext eA)) fun w10 e10=>?_
    have c1:=e10.obj c1
    have c2:=e10.obj c2
    have eA:=eA.trans e10
    have hr1:=cmp_rng t s
    have hr2:=cmp_rng s r
    have hr3:=cmp_rng t r
    have hwn:IntKind.i64.wrap (0 - cmpT s t)=cmpT t s:=by rw [cmp_anti t s,wrap_ok (by have:=hr1.1;have:=hr1.2;omega) (by have:=hr1.1;have:=hr1.2;omega)];omega
    have hnn:(cmpT t s != cmpT t s)=false:=by simp
    unfold n7c18 joinK
    simp (disch:=try exact DI) only [↓PR,QR,simprocAttr,hwn,hnn,(cells_of_heap c1).1]
    refine zcr (Compare_ret t w10 _ _ t (hU.ext eA) (hU.ext eA)) fun w11 e11=>?_
    have c1:=e11.obj c1
    have c2:=e11.obj c2
    have eA:=eA.trans e11
    rw [cmp_refl]
    have hP1:cmpT t s=0→cmpT t r=cmpT s r:=fun h=>by rw [cmp_eq t s h]
    have hP2:cmpT s r=0→cmpT t r=cmpT t s:=fun h=>by rw [← cmp_eq s r h]
    have hP3:cmpT t s = -1→cmpT s r = -1→cmpT t r = -1:=cmp_trans t s r
    have hgo:n7c3 (.pointer (some ⟨W.heap.size,0,none⟩)) (.pointer (some ⟨W.heap.size+1,0,none⟩)) (.bool false) (.bool false) (retR fun r w'=>r=Value.bool true∧Ext W w') w11:=by
     unfold n7c3
     simp (disch:=try exact DI) only [↓PR,QR,simprocAttr,(cells_of_heap c1).1]
     refine callK_ret (Copy_ret t w11 _ (hU.ext eA) t2) ?_
     rintro _ w12 ⟨⟨cs,rfl,hO⟩,e12⟩
     refine more_ret (W:=W) (w11:=w11) hO (eA.trans e12) e12 hU hV (e12.obj c1) (e12.obj c2) t2 (Array.getElem?_eq_some_iff.1 c1).1 fun w' ew'=>?_
     exact hkn _ ew'
    rw [hwn,hnn]
    generalize cmpT t s=p at *
    generalize cmpT s r=q at *
    generalize cmpT t r=o at *
    unfold n7c17 n7c16 n7c15 n7c14 n7c13 n7c12 n7c11 n7c10 n7c9 n7c8 n7c7 n7c6 n7c5 n7c4 joinK
    clear hwn hnn hU hV hX
    rcases rng_cases hr1 with rfl | rfl | rfl<;>rcases rng_cases hr2 with rfl | rfl | rfl
    · obtain rfl:o = -1:=hP3 rfl rfl
      simp (disch:=try exact DI) only [↓PR,QR,simprocAttr]
      exact hgo
    · obtain rfl:o = -1:=hP2 rfl
      simp (disch:=try exact DI) only [↓PR,QR,simprocAttr]
      exact hgo
    · rcases rng_cases hr3 with rfl | rfl | rfl
      · simp (disch:=try exact DI) only [↓PR,QR,simprocAttr]
        exact hgo
      · simp (disch:=try exact DI) only [↓PR,QR,simprocAttr]
        exact hgo
      · simp (disch:=try exact DI) only [↓PR,QR,simprocAttr]
        exact hgo
    · obtain rfl:o = -1:=hP1 rfl
      simp (disch:=try exact DI) only [↓PR,QR,simprocAttr]
      exact hgo
    · obtain rfl:o=0:=hP1 rfl
      simp (disch:=try exact DI) only [↓PR,QR,simprocAttr]
      exact hgo
    · obtain rfl:o=1:=hP1 rfl
      simp (disch:=try exact DI) only [↓PR,QR,simprocAttr]
      exact hgo
    · rcases rng_cases hr3 with rfl | rfl | rfl
      · simp (disch:=try exact DI) only [↓PR,QR,simprocAttr]
        exact hgo
      · simp (disch:=try exact DI) only [↓PR,QR,simprocAttr]
        exact hgo
      · simp (disch:=try exact DI) only [↓PR,QR,simprocAttr]
        exact hgo
    · obtain rfl:o=1:=hP2 rfl
      simp (disch:=try exact DI) only [↓PR,QR,simprocAttr]
      exact hgo
    · rcases rng_cases hr3 with rfl | rfl | rfl
      · simp (disch:=try exact DI) only [↓PR,QR,simprocAttr]
        exact hgo
      · simp (disch:=try exact DI) only [↓PR,QR,simprocAttr]
        exact hgo
      · simp (disch:=try exact DI) only [↓PR,QR,simprocAttr]
        exact hgo
theorem ValueTotal_at (W:World) (u:Value) (t:Tr) (v:Value) (s:Tr) (x:Value) (r:Tr) (hu:ValAt W u t) (_:True) (hv:ValAt W v s) (_:True) (hx:ValAt W x r) (_:True) (hE:EnvOK W):Ret Pg 8 #[u,v,x] W fun r w'=>r = .bool true∧Ext W w':=ValueTotal_ret W u v x t s r hu hv hx hE
end Go.Proofs.YtcffhmapmaahnaaGreatDoor
namespace Go.Proofs.YtcffhmapmaahnaaGreatDoor
open Sw
open Go.ChangeShapes Go.WideShapes Go.RowKit Go.ChangeAt Go.Deep
theorem vtotal_lifted (os:Os) (started:os.Started) (H:Type) (enc:TypeId×Value→H) :
 ReturnsInHanded {} Tryz.checked os 8 .any (fun w args=>(Rows.valueTotalSpec.pre enc Pg Tryz.f8 Rows.valueTotalRow.domain false w args∧laidMetH Pg role_laid w)∧sizedMet enc Pg Tryz.f8 (OpenSpec.ofChange Rows.valueTotalSpec) false w args) (Rows.valueTotalSpec.post enc Pg Tryz.f8 false true false false):=by
 refine handed_and (C:=Tryz.checked) (X:=fun w _=>laidMetH Pg role_laid w) (fun _ _ _ hh h=>h.of_heap hh) role_own started (by kernel_rfl) Tryz.func8
  (ChangeSpec.witness_shaped (enc:=enc) (C:=Tryz.checked) (os:=os) (X:=fun w _=>laidMetH Pg role_laid w) false (World.laidAll Pg os role_laid) #[.agg #[.string ByteArray.empty,.int .i64 0,.slice none 0 0,.slice none 0 0,.slice none 0 0],.agg #[.string ByteArray.empty,.int .i64 0,.slice none 0 0,.slice none 0 0,.slice none 0 0],.agg #[.string ByteArray.empty,.int .i64 0,.slice none 0 0,.slice none 0 0,.slice none 0 0]] 8 (World.laidAll_os _ _ _) (World.shaped_of_ZipB (by kernel_rfl) (by kernel_rfl)) (by kernel_rfl) (by kernel_rfl) (by kernel_rfl) (role_met os _)) ?_
 intro W base args ds gs before hval hW _ hsz hL hsh _
 have hW':=hW
 obtain ⟨p,q,hA0,hV,rfl,_,_⟩:=hW
 have hA:DataW.TrodAll enc Pg W 0 (fun _=>true) true Tryz.f8.params.toList args.toList ds p:=hA0
 rw [Tryz.params8] at hA hval hsz
 obtain ⟨v0,vs0,d0,ds0,p0,q0,ha0,rfl,rfl,h0,r0⟩:=trodAll_cons hA
 obtain ⟨v1,vs1,d1,ds1,p1,q1,ha1,rfl,rfl,h1,r1⟩:=trodAll_cons r0
 obtain ⟨v2,vs2,d2,ds2,p2,q2,ha2,rfl,rfl,h2,r2⟩:=trodAll_cons r1
 obtain ⟨rfl,rfl,rfl⟩:=trodAll_nil r2
 subst ha2 ha1
 obtain rfl:args = #[v0,v1,v2]:=by cases args;simp_all
 obtain ⟨f0,hf0,hs0⟩:=val_val (hval 0 _ v0 rfl rfl) h0 (reached_of (j:=0) hsz rfl rfl)
 obtain ⟨f1,hf1,hs1⟩:=val_val (hval 1 _ v1 rfl rfl) h1 (reached_of (j:=1) hsz rfl rfl)
 obtain ⟨f2,hf2,hs2⟩:=val_val (hval 2 _ v2 rfl rfl) h2 (reached_of (j:=2) hsz rfl rfl)
 refine Calls.mono (ValueTotal_at W v0 f0 v1 f1 v2 f2 hf0 hs0 hf1 hs1 hf2 hs2 (role_env hsh hL)) fun e W' ⟨v,he,hv,hx⟩=>?_
 subst he hv
 exact ⟨_,rfl,law_post role_laidOut (by decide +kernel) rfl hW' hx rfl Tryz.underlying4 rfl rfl rfl⟩
theorem vtotal_holds:Rows.ValueTotalSaid :=
 OpenClaim.holds_of_wide 8 Tryz.f8 rfl rfl rfl rfl rfl rfl rfl ⟨rfl,rfl,rfl,rfl,rfl⟩ rfl rfl rfl rfl rfl (by kernel_rfl) Tryz.func8 (by kernel_rfl)
  (of_decide_eq_true (by kernel_rfl)) (by unfold Func.isWrapper;first | (rw [if_pos (by decide +kernel)];kernel_rfl) | (rw [if_neg (by decide +kernel)];exact ⟨rfl,rfl⟩))
  (fun os started H enc _=>vtotal_lifted os started H enc)
theorem vtotal_card:Rows.ValueTotalCardSaid :=
 Claim7.holds_tied_plain_at .later [] [.data,.data,.data,.data,.sentinel,.sentinel,.pinned] true (true, "890728a3a62857bfa7207560ed87612b9253540bda02dd327723c287671f9d21") true
  vtotal_holds (fun _ h=>by cases h) (by kernel_rfl) (fun _ h=>by cases h) valueTotal_row_tie rfl ⟨rfl,rfl⟩ (by kernel_rfl) rfl
  (fun f fn hf hfn=>by
   obtain rfl:f=8:=Option.some.inj ((show Pg.funcNamed "phrasebook/phrasebooklaw13.ValueTotal" = some 8 by kernel_rfl).symm.trans hf) |>.symm
   obtain rfl:fn=Tryz.f8:=(Option.some.inj (Tryz.func8.symm.trans hfn)).symm
   exact ⟨by kernel_rfl,fun j t ht=>by
    rw [Tryz.params8] at ht
    have hm:t∈[26,26,26]:=by simpa using Array.mem_of_getElem? ht
    have hall:([26,26,26].all fun u=>!Pg.wantsStandIn u)=true:=by kernel_rfl
    exact (show Pg.wantsStandIn t=false by simpa using List.all_eq_true.1 hall t hm)⟩)
  (by kernel_rfl)
end Go.Proofs.YtcffhmapmaahnaaGreatDoor
