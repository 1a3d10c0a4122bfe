/-
  phrasebooklaw07.ScopeFree returns true for every message and every number, and leaves its arguments as they were; no condition is asked.
-/
import Derived.Test.YtfjjgjjlebllmaaGreatQc4
set_option linter.all false
set_option maxHeartbeats 4000000
set_option maxRecDepth 100000
namespace Go.Proofs.YtfjjgjjlebllmaaGreat
open Sw
open Go.RowKit (intOf Below)
abbrev TS:TypeId:=30
def cntF (n:Nat) (f:Nat→Bool):Nat:=((List.range n).filter fun i=>!f i).length
theorem cnt_succ (n:Nat) (f:Nat→Bool):cntF (n+1) f=cntF n f+(if f n then 0 else 1):=by
 unfold cntF
 rw [List.range_succ,List.filter_append,List.length_append]
 cases h:f n<;>simp [h]
theorem cnt_congr {n:Nat} {f g:Nat→Bool} (h:∀ i,i < n→f i=g i):cntF n f=cntF n g:=by
 unfold cntF
 rw [List.filter_congr fun i hi=>by rw [h i (List.mem_range.1 hi)]]
theorem cnt_le (n:Nat) (f:Nat→Bool):cntF n f≤n:=by
 unfold cntF
 exact Nat.le_trans (List.length_filter_le _ _) (by simp)
theorem cnt_set {j:Nat} {f:Nat→Bool} (hf:f j=false):∀ n,j < n→cntF n (fun i=>f i||i == j)+1=cntF n f
 | 0,h=>by omega
 | n+1,h=>by
  rw [cnt_succ,cnt_succ]
  by_cases hj:j=n
  · subst hj
    have:cntF j (fun i=>f i||i == j)=cntF j f:=cnt_congr fun i hi=>by
     have:(i == j)=false:=by simp;omega
     rw [this,Bool.or_false]
    simp [this,hf]
  · have ih:=cnt_set hf n (by omega)
    have:(n == j)=false:=by simp;omega
    simp only [this,Bool.or_false]
    omega
section
variable {w w':World} {base r:Nat} {v a:Value} {l:List Int} {xs:List Value} {L:List Bool} {bp:Nat}
theorem BRow.type (h:BRow w r L):TypeAt w r 4:=⟨_,_,h⟩
theorem RowI.setB (h:RowI w base v l) (hB:BRow w r L) (i:Nat) (u:Value):RowI (w.setCell ⟨r,i,none⟩ u) base v l :=
 (OwnR.only (lo:=base) (hi:=w.heap.size) ⟨h,fun b hb=>(h.lt b hb).2⟩ (Only.setCell w r i u) (.inr (.inr ⟨_,hB.type,by decide⟩))).1
theorem OwnO.type (h:OwnO w bp TS a xs) {g:Nat} (hg:a.ownBlock=some g):∃ cur,w.heap[g]?=some (.cells cur TS (0,0)):=by
 obtain ⟨g',off,cap,cur,rfl,_,h3,_⟩:=h
 injection hg with hg
 subst hg
 exact ⟨cur,h3⟩
theorem RowI.grownO (h:RowI w base v l) (hO:OwnO w bp TS a xs) (hg:w.grownBy w' a.ownBlock):RowI w' base v l:=OwnE.grown h hg fun b hb e=>by
 obtain ⟨c1,h1⟩:=own_type h hb
 obtain ⟨c2,h2⟩:=hO.type e
 rw [h1] at h2
 injection h2 with h2
 injection h2 with _ h2 _
 exact absurd h2 (by decide)
theorem BRow.grownO (h:BRow w r L) (hO:OwnO w bp TS a xs) (hg:w.grownBy w' a.ownBlock):BRow w' r L:=(hg.block r (Array.getElem?_eq_some_iff.1 h).1 fun e=>by
 obtain ⟨c2,h2⟩:=hO.type e.symm
 rw [h] at h2
 injection h2 with h2
 injection h2 with _ h2 _
 exact absurd h2 (by decide)).trans h
theorem rowI_of (h:w.ownsRow base 3 1 v (l.length) (l.map fun n=>Value.int .i64 n)):RowI w base v l:=by
 unfold RowI OwnE
 rw [flat_encI]
 exact h
structure QAt (w:World) (B:Nat) (a:Value) (Q:List (List Int)):Prop where
 row:∃ xs,OwnO w B TS a xs∧xs.length=Q.length∧∀ (k:Nat) (x:Value) (q:List Int),xs[k]?=some x→Q[k]?=some q→RowI w B x q
theorem QAt.ext {B:Nat} {Q:List (List Int)} (h:QAt w B a Q) (e:Ext w w'):QAt w' B a Q:=by
 obtain ⟨xs,h1,h2,h3⟩:=h.row
 exact ⟨xs,h1.ext e,h2,fun k x q a b=>(h3 k x q a b).ext e⟩
theorem QAt.setB {B:Nat} {Q:List (List Int)} (h:QAt w B a Q) (hB:BRow w r L) (i:Nat) (u:Value):QAt (w.setCell ⟨r,i,none⟩ u) B a Q:=by
 obtain ⟨xs,h1,h2,h3⟩:=h.row
 exact ⟨xs,h1.only (Only.setCell w r i u) hB.type (by decide),h2,fun k x q a b=>(h3 k x q a b).setB hB i u⟩
theorem QAt.one {B:Nat} {Q:List (List Int)} (h:QAt w B a Q):a.oneCell'=true:=by
 obtain ⟨xs,⟨g,off,cap,cur,rfl,_⟩,_⟩:=h.row
 rfl
end
section
variable {w0:World} {d:DefD} {mv:Value} {p2 r B x t:Nat} {R:RT}
def seenK (f:Nat→Bool) (ys:List Int) (i:Nat):Bool:=f i||ys.contains (i:Int)
theorem seen_nil (f:Nat→Bool):seenK f []=f:=by funext i;simp [seenK]
theorem seen_snoc (f:Nat→Bool) (ys:List Int) (j:Nat):seenK f (ys++[(j:Int)])=fun i=>seenK f ys i||i == j:=by
 funext i
 unfold seenK
 rw [List.contains_eq_any_beq,List.any_append,List.contains_eq_any_beq,Bool.or_assoc]
 congr 2
 simp only [List.any_cons,List.any_nil,Bool.or_false]
 rw [Bool.eq_iff_iff]
 simp
 omega
theorem path_inner {tz:Value} {w:World} {l:List MsgD} {q:List Int} {Q:List (List Int)} {f:Nat→Bool} {a rv x0:Value} {next3:Value→World→Prop} {bs:Nat} (hf:Fine l) (hx:x < l.length) (hl:l.length≤60) (hq:0 < q.length) (hql:q.length≤1000) (hT:RowI w bs rv (toP l x)) (hQ:QAt w B a Q) (hx0:RowI w B x0 q) (hR:BRow w r (tab l.length f)) (hBr:B≤r) (hB:B≤w.heap.size) (hsum:Q.length+cntF l.length f≤100)
 (hn:∀ a' w',QAt w' B a' (Q++kidsP q (toP l x) f)→BRow w' r (tab l.length (seenK f (toP l x)))→(Q++kidsP q (toP l x) f).length+cntF l.length (seenK f (toP l x))=Q.length+cntF l.length f→(∀ W,Ext W w→W.heap.size≤B→Ext W w')→B≤w'.heap.size→next3 a' w') :
 n74c3 tz (.slice (some ⟨r,0,none⟩) l.length l.length) x0 a rv next3 R w:=by
 have htl:(toP l x).length≤x:=sel_len _ _
 obtain ⟨Ar,cr,rfl,hlr,hcr,hlmr,_⟩:=SliceOf.open hT.ints
 obtain ⟨gq,capq,curq,rfl,_,hgq,hcq,_,_,_⟩:=hx0.2.resolve_left (fun h=>by have h2:q.length=0:=h.2;omega)
 unfold n74c3
 simp (disch:=try exact DI) only [↓PR,QR,simprocAttr]
 refine loop2_intro (fun a1 i w'=>∃ k:Nat,i = .int .i64 k∧k≤(toP l x).length∧QAt w' B a1 (Q++kidsP q ((toP l x).take k) f)∧BRow w' r (tab l.length (seenK f ((toP l x).take k)))∧(Q++kidsP q ((toP l x).take k) f).length+cntF l.length (seenK f ((toP l x).take k))=Q.length+cntF l.length f∧RowI w' bs (.slice Ar (toP l x).length cr) (toP l x)∧RowI w' B (.slice (some ⟨gq,0,none⟩) q.length capq) q∧(∀ W,Ext W w→W.heap.size≤B→Ext W w')∧B≤w'.heap.size) (fun _ i _=>(toP l x).length - (intOf i).toNat) ⟨0,rfl,by omega,by simpa [kidsP] using hQ,by rw [List.take_zero,seen_nil];exact hR,by rw [List.take_zero,seen_nil];simp [kidsP],hT,hx0,fun W e _=>e,hB⟩ ?_
 rintro a1 _ w1 ⟨k,rfl,hk,hQ1,hR1,hs1,hT1,hx1,hE1,hB1⟩
 rcases drop_cases hk with ⟨y,hy,_,hlt,hdec⟩ | ⟨hke,_,hdec⟩
 · obtain ⟨j,rfl,hj⟩:=to_mem (List.mem_of_getElem? hy)
   obtain ⟨_,_,hv,_,_,_,hel⟩:=SliceOf.open hT1.ints
   injection hv with hv _ hv'
   subst hv hv'
   obtain ⟨b6,o6,cs6,rfl,_,hA6,rfl⟩:=hel k _ hy
   have a6:w1.cell? ⟨b6,o6+k,none⟩=some (.int .i64 (j:Int)):=by have:=hA6 0 _ rfl;simpa using this
   have hjn:j < l.length:=by omega
   have c1:w1.cell? ⟨r,j,none⟩=some (.bool (seenK f ((toP l x).take k) j)):=hR1.get (tab_get hjn)
   have hfz:∀ o,w1.frozen? ⟨r,o,none⟩=false:=(cells_of_heap hR1).2
   have hfj:seenK f ((toP l x).take k) j=f j:=by
    unfold seenK
    have:((toP l x).take k).contains (j:Int)=false:=by
     rw [Bool.eq_false_iff]
     intro h
     rw [List.contains_iff_mem] at h
     obtain ⟨i,hi⟩:=List.getElem?_of_mem h
     rw [List.getElem?_take] at hi
     split at hi
     · rename_i hik
       have hr:(toP l x).Pairwise (· < ·):=sel_rise x (toB l x)
       have h1:=(List.getElem?_eq_some_iff.1 hi)
       have h2:=(List.getElem?_eq_some_iff.1 hy)
       have:=List.pairwise_iff_getElem.1 hr i k h1.1 h2.1 hik
       rw [h1.2,h2.2] at this
       exact absurd this (Int.lt_irrefl _)
     · cases hi
    rw [this,Bool.or_false]
   have hkid:=kids_snoc q ((toP l x).take k) f (j:Int)
   rw [Int.toNat_natCast,← take_snoc hy] at hkid
   have hsn:=seen_snoc f ((toP l x).take k) j
   rw [← take_snoc hy] at hsn
   have hwr:IntKind.i64.wrap ((k:Int)+1)=(k:Int)+1:=wrap_ok (by omega) (by omega)
   cases hb:f j with
   | true =>
    rw [hfj,hb] at c1
    rw [hb] at hkid
    simp only [if_true,List.append_nil] at hkid
    have hsn2:seenK f ((toP l x).take (k+1))=seenK f ((toP l x).take k):=by
     rw [hsn]
     funext i
     by_cases hij:i=j
     · subst hij;rw [hfj,hb];rfl
     · have:(i == j)=false:=by simpa using hij
       rw [this,Bool.or_false]
    simp (disch:=try exact DI) only [↓PR,QR,simprocAttr,hdec,↓n74c2,a6,c1,Nat.mul_one,Nat.zero_add]
    exact ⟨⟨k+1,rfl,by omega,by rw [hkid];exact hQ1,by rw [hsn2];exact hR1,by rw [hkid,hsn2];exact hs1,hT1,hx1,hE1,hB1⟩,meas_lt (kd := .i64) hlt⟩
   | false =>
    rw [hfj,hb] at c1
    rw [hb] at hkid
    simp only [Bool.false_eq_true,if_false] at hkid
    simp (disch:=try exact DI) only [↓PR,QR,simprocAttr,hdec,↓n74c2,↓n74c1,a6,c1,hfz,Nat.mul_one,Nat.zero_add]
    have hR2:=hR1.set j true
    rw [tab_set hjn] at hR2
    have hfk:(fun i=>if i=j then true else seenK f ((toP l x).take k) i)=seenK f ((toP l x).take (k+1)):=by
     rw [hsn]
     funext i
     by_cases hij:i=j
     · subst hij;simp
     · have:(i == j)=false:=by simpa using hij
       rw [if_neg hij,this,Bool.or_false]
    rw [hfk] at hR2
    have hcnt:=cnt_set (f:=seenK f ((toP l x).take k)) (hfj.trans hb) l.length hjn
    rw [← hsn] at hcnt
    have hlk:(Q++kidsP q ((toP l x).take (k+1)) f).length=(Q++kidsP q ((toP l x).take k) f).length+1:=by rw [hkid];simp;omega
    have hQ2:=hQ1.setB hR1 j (.bool true)
    have hT2:=hT1.setB hR1 j (.bool true)
    have hx2:=hx1.setB hR1 j (.bool true)
    have hE2:∀ W,Ext W w→W.heap.size≤B→Ext W (w1.setCell ⟨r,j,none⟩ (.bool true)):=fun W e hW=>(hE1 W e hW).setCell (by show W.heap.size≤r;omega) _
    have hB2:B≤(w1.setCell ⟨r,j,none⟩ (.bool true)).heap.size:=by rw [World.size_setCell];exact hB1
    generalize (w1.setCell ⟨r,j,none⟩ (.bool true))=w2 at hR2 hQ2 hT2 hx2 hE2 hB2 ⊢
    rw [op_sliceFull Tryz.underlying30 ty3 gq 0 q.length capq hq hcq]
    simp (disch:=try exact DI) only [↓PR,QR,simprocAttr]
    have eY:Ext w2 (w2.alloc (.cells #[.int .i64 (j:Int)] 3)):=ee
    have oY:=heap_new w2 #[.int .i64 (j:Int)] 3
    have hQ3:=hQ2.ext eY
    have hT3:=hT2.ext eY
    have hx3:=hx2.ext eY
    have hR3:=hR2.ext eY
    have sY:=eY.size
    generalize (w2.alloc (.cells #[.int .i64 (j:Int)] 3))=Y at eY oY hQ3 hT3 hx3 hR3 sY ⊢
    obtain ⟨_,_,_,hh⟩:=own_holds hx3
    refine op_appendF (olds:=q.map fun n=>Value.int .i64 n) Tryz.underlying30 ty3 rfl (by simp) (fun i u hu=>?_) (by rw [(cells_of_heap oY).1];rfl) (by omega) (Nat.le_trans by3 (by decide)) (Nat.le_refl _) ?_
    · rw [List.getElem?_map] at hu
      obtain ⟨n,hn',rfl⟩:=Option.map_eq_some_iff.1 hu
      have hi:=(List.getElem?_eq_some_iff.1 hn')
      have:=(hh i (by simpa using hi.1)).1
      rw [getElem!_pos _ i (by simpa using hi.1)] at this
      simp only [List.getElem_toArray] at this
      rw [this,hi.2]
    · intro nv w4 ho hne e4
      have hN:RowI w4 Y.heap.size nv (q++[(j:Int)]):=rowI_of (by simpa using ho)
      have hN1:=SliceOf.oneCell hN.ints
      have hQ4:=hQ3.ext e4
      have hT4:=hT3.ext e4
      have hx4:=hx3.ext e4
      have hR4:=hR3.ext e4
      have s4:=e4.size
      simp (disch:=try exact DI) only [↓PR,QR,simprocAttr]
      have eZ:Ext w4 (w4.alloc (.cells #[nv] TS)):=ee
      have oZ:(w4.alloc (.cells #[nv] TS)).heap[w4.heap.size]?=some (.cells #[nv] TS (0,0)):=heap_new w4 #[nv] TS
      have hQ5:=hQ4.ext eZ
      have hT5:=hT4.ext eZ
      have hx5:=hx4.ext eZ
      have hR5:=hR4.ext eZ
      have hN5:=hN.ext eZ
      have s5:=eZ.size
      have f5:=eY.trans (e4.trans eZ)
      generalize (w4.alloc (.cells #[nv] TS))=Z at eZ oZ hQ5 hT5 hx5 hR5 hN5 s5 f5 ⊢
      obtain ⟨xs,hO,hxl,hxr⟩:=hQ5.row
      have hkl:(Q++kidsP q ((toP l x).take k) f).length≤100:=by omega
      refine op_appendO Tryz.underlying78 ty30 rfl hO hN1 (by rw [(cells_of_heap oZ).1];rfl) (by omega) (Nat.le_trans by30 (by decide)) (by omega) ?_
      intro v' w6 hO6 hg
      have hge:∀ b,a1.ownBlock=some b→B≤b:=fun b hb=>by
       obtain ⟨g,off,cap,cur,rfl,hgB,_⟩:=hO
       have hb:g=b:=Option.some.inj hb
       omega
      have s6:=hg.size
      simp (disch:=try exact DI) only [↓PR,QR,simprocAttr]
      refine ⟨⟨k+1,rfl,by omega,⟨xs++[nv],hO6,by rw [hlk,List.length_append,hxl];rfl,fun i u q2 hu hq2=>?_⟩,hR5.grownO hO hg,by rw [hlk];omega,RowI.grownO hT5 hO hg,RowI.grownO hx5 hO hg,fun W e hW=>((hE2 W e hW).trans f5).grown hg fun b hb=>by have:=hge b hb;omega,by omega⟩,meas_lt (kd := .i64) hlt⟩
      rw [hkid,← List.append_assoc] at hq2
      by_cases hi:i < xs.length
      · rw [List.getElem?_append_left hi] at hu
        rw [List.getElem?_append_left (by omega)] at hq2
        exact RowI.grownO (hxr i u q2 hu hq2) hO hg
      · have hi2:i=xs.length:=by
         have:=(List.getElem?_eq_some_iff.1 hu).1
         simp at this
         omega
        subst hi2
        rw [List.getElem?_append_right (Nat.le_refl _),Nat.sub_self] at hu
        rw [List.getElem?_append_right (by omega),hxl,Nat.sub_self] at hq2
        injection hu with hu
        injection hq2 with hq2
        subst hu hq2
        exact RowI.grownO (OwnE.base hN5 (by omega)) hO hg
 · subst hke
   rw [List.take_length] at hQ1 hR1 hs1
   simp (disch:=try exact DI) only [↓PR,QR,simprocAttr,hdec]
   exact hn _ _ hQ1 hR1 hs1 hE1 hB1
end
def errP (d:DefD) (i:Int):Int:=if (checkP d).2.2=0 then (if 0≤i∧i < d.msgs.length then (if reachB d.msgs (startI d) i.toNat then 0 else 9) else 3) else 2
def pathE (d:DefD) (i:Int):List Int:=if errP d i=0 then pathP i.toNat d.msgs (startI d) else []
def lenV:Value→Nat
 | .slice _ n _=>n
 | _=>0
def offsO (w:World) (r:Nat):Nat:=match w.heap[r]? with
 | some (.cells cs _ _)=>(cs.toList.filter fun v=>match v with
  | .bool b=>!b
  | _=>false).length
 | _=>0
theorem offs_row {w:World} {r n:Nat} {f:Nat→Bool} (h:BRow w r (tab n f)):offsO w r=cntF n f:=by
 unfold offsO
 rw [h]
 simp only
 unfold tab cntF
 rw [List.filter_map,List.length_map,List.filter_map,List.length_map]
 rfl
theorem to_kids_seen {l:List MsgD} (hf:Fine l) (f:Nat→Bool) (x:Nat):seenK f (toP l x)=fun i=>f i||toB l x i:=by
 funext i
 unfold seenK
 congr 1
 rw [Bool.eq_iff_iff,List.contains_iff_mem,toP,mem_sel]
 constructor
 · rintro ⟨j,_,h2,h3⟩
   rw [show i=j by omega];exact h2
 · exact fun hb=>⟨i,(to_lt hf hb).1,hb,rfl⟩
theorem QAt.head {w:World} {B:Nat} {a:Value} {q:List Int} {Q:List (List Int)} (h:QAt w B a (q::Q)):∃ g off cap x,a = .slice (some ⟨g,off,none⟩) (Q.length+1) cap∧Q.length+1≤cap∧w.cell? ⟨g,off,none⟩=some x∧RowI w B x q∧∀ o',(o'=off+1∨(cap=1∧o'=off))→QAt w B (.slice (some ⟨g,o',none⟩) Q.length (cap - 1)) Q:=by
 obtain ⟨xs,hO,hl,hr⟩:=h.row
 have hO0:=hO
 obtain ⟨g,off,cap,rfl,_,_,_,hc,hcell⟩:=hO.get
 cases xs with
 | nil=>simp at hl
 | cons x xs =>
  simp only [List.length_cons,Nat.add_right_cancel_iff] at hl hc
  refine ⟨g,off,cap,x,by simp [hl],by omega,by simpa using hcell 0 x rfl,hr 0 x q rfl rfl,fun o' ho=>⟨xs,?_,hl,fun k y q2 hy hq2=>hr (k+1) y q2 (by simpa using hy) (by simpa using hq2)⟩⟩
  have:=hO0.tail ho
  rw [hl] at this
  exact this
def ShortQ (s:Nat) (Q:List (List Int)):Prop:=∀ q∈Q,∀ (q':List Int) (x:Nat),q=q'++[(x:Int)]→q.length+x≤s+1
theorem short_step {l:List MsgD} (hf:Fine l) {s x:Nat} {q':List Int} {Q:List (List Int)} (f:Nat→Bool) (h:ShortQ s ((q'++[(x:Int)])::Q)):ShortQ s (Q++kidsP (q'++[(x:Int)]) (toP l x) f):=by
 intro q hq q2 y he
 rcases List.mem_append.1 hq with hq | hq
 · exact h q (List.mem_cons_of_mem _ hq) q2 y he
 · unfold kidsP at hq
   simp only [List.mem_map,List.mem_filter] at hq
   obtain ⟨z,⟨hz,_⟩,rfl⟩:=hq
   obtain ⟨i,rfl,hi⟩:=to_mem hz
   have:=h _ (List.mem_cons_self ..) q' x rfl
   have hy:=(snoc_inj he).2
   simp only [List.length_append,List.length_singleton] at this ⊢
   omega
section
variable {w0 W:World} {d:DefD} {mv:Value} {p2 r B s:Nat}
theorem path_loop {i:Nat} (hM:MsgsOf w0 mv d.msgs) (e0:Ext w0 W) (ht:calm d) (hf:Fine d.msgs) (hl:d.msgs.length≤60) (hs:s < d.msgs.length) (hi:i < d.msgs.length) (hd:dN i d.msgs s < 1000) (o2:W.heap[p2]?=some (.cells (defCells d mv).toArray 28 (0,0))) (hWB:W.heap.size≤B) (hBr:B≤r) {w:World} {a:Value} (hE:∀ X,Ext X W→X.heap.size≤B→Ext X w) (hB:B≤w.heap.size) (hQ:QAt w B a [[(s:Int)]]) (hR:BRow w r (tab d.msgs.length fun _=>false)) {R:RT} {K2:Value→World→Prop}
 (hK:∀ a' w',(∃ g off cap n x,a' = .slice (some ⟨g,off,none⟩) (n+1) cap∧n+1≤cap∧w'.cell? ⟨g,off,none⟩=some x∧RowI w' B x (pathP i d.msgs s))→Ext W w'→K2 a' w') :
 loop1 (fun t10 w next3=>n74c6 (.int .i64 (i:Int)) (.pointer (some ⟨p2,0,none⟩)) t10 (.slice (some ⟨r,0,none⟩) d.msgs.length d.msgs.length) K2 next3 R w) a w:=by
 refine loop1_intro (fun a w'=>∃ (Q:List (List Int)) (f:Nat→Bool),QAt w' B a Q∧BRow w' r (tab d.msgs.length f)∧Bfs d.msgs s i Q f∧ShortQ s Q∧Q.length+cntF d.msgs.length f≤d.msgs.length+1∧(∀ X,Ext X W→X.heap.size≤B→Ext X w')∧B≤w'.heap.size) (fun a w=>offsO w r+lenV a) ⟨[[(s:Int)]],fun _=>false,hQ,hR,bfs_start hf hs,?_,?_,hE,hB⟩ ?_
 · intro q hq q' x he
   simp only [List.mem_singleton] at hq
   subst hq
   have:=(snoc_inj (a:=[]) he).2
   simp
   omega
 · have:=cnt_le d.msgs.length (fun _=>false)
   simp
   omega
 rintro a1 w1 ⟨Q,f,hQ1,hR1,hbf,hsh,hsum,hE1,hB1⟩
 cases Q with
 | nil=>exact absurd rfl (bfs_ne hbf)
 | cons q Q =>
  obtain ⟨q',x,rfl,hx⟩:=bfs_last hbf
  obtain ⟨g,off,cap,x0,rfl,hcap,hc0,hx0,htail⟩:=hQ1.head
  have hlen:=hsh _ (List.mem_cons_self ..) q' x rfl
  have EW:Ext W w1:=hE1 W (Ext.refl _) hWB
  have hge:decide (((Q.length+1:Nat):Int) > 0)=true:=by simp only [decide_eq_true_eq];omega
  obtain ⟨gq,capq,curq,rfl,_,hgq,hcq,_,_,_⟩:=hx0.2.resolve_left (fun h=>by have h2:(q'++[(x:Int)]).length=0:=h.2;simp at h2)
  obtain ⟨_,_,_,hh⟩:=own_holds hx0
  have hlast:w1.cell? ⟨gq,q'.length,none⟩=some (.int .i64 (x:Int)):=by
   have:=(hh q'.length (by simp)).1
   rw [getElem!_pos _ q'.length (by simp)] at this
   simpa using this
  have hql:(q'++[(x:Int)]).length=q'.length+1:=by simp
  have hsub:IntKind.i64.wrap (((q'++[(x:Int)]).length:Int) - 1)=(q'.length:Int):=by rw [wrap_ok (by omega) (by omega)];omega
  have hqn:q'.length < (q'++[(x:Int)]).length:=by omega
  have hidx0:∀ (K:Value→World→Prop),opV Pg (Instr.indexAt 78 (.slice (some ⟨g,off,none⟩) (Q.length+1) cap) (.int .i64 0)) (panK R) w1 K=K (.pointer (some ⟨g,off+0*1,none⟩)) w1:=fun K=>op_indexN Tryz.underlying78 ty30 g off (Q.length+1) cap .i64 0 (by omega)
  unfold n74c6
  simp (disch:=try exact DI) only [↓PR,QR,simprocAttr,hge,↓n74c5]
  rw [hidx0]
  by_cases hxi:x=i
  · subst hxi
    have hxx:((x:Int) == (x:Int))=true:=by simp
    simp (disch:=try exact DI) only [↓PR,QR,simprocAttr,hc0,hsub,hlast,hxx,Nat.mul_one,Nat.zero_add]
    exact hK _ _ ⟨g,off,cap,Q.length,_,rfl,hcap,hc0,bfs_done hf hd hbf ▸ hx0⟩ EW
  have hxd:((x:Int) == (i:Int))=false:=by simp;omega
  obtain ⟨m,hm⟩:=getElem?_lt hx
  obtain ⟨A,c,rfl,hlc,hcm,hlm,hel⟩:=SliceOf.open hM
  simp (disch:=try exact DI) only [↓PR,QR,simprocAttr,hc0,hsub,hlast,hxd,Nat.mul_one,Nat.zero_add]
  unfold n74c4
  refine op_sliceTail Tryz.underlying78 ty30 g off (Q.length+1) cap (by omega) hcap fun o' ho=>?_
  simp (disch:=try exact DI) only [↓PR,QR,simprocAttr,(cells_of_heap (EW.obj o2)).1]
  refine callK_ret (refers_ret _ _ d x m ⟨_,rfl,hM.ext (e0.trans EW)⟩ hm hf (ht m (List.mem_of_getElem? hm)).1) ?_
  rintro rv w2 ⟨hT,e2⟩
  have s2:=e2.size
  simp only [List.length_cons] at hsum
  refine path_inner (q:=q'++[(x:Int)]) (Q:=Q) (f:=f) hf hx hl (by simp) (by omega) hT ((htail o' ho).ext e2) (hx0.ext e2) (hR1.ext e2) hBr (by omega) (by omega) ?_
  intro a3 w3 hQ3 hR3 hs3 hE3 hB3
  have E3:∀ X,Ext X W→X.heap.size≤B→Ext X w3:=fun X h1 h2=>hE3 X ((hE1 X h1 h2).trans e2) h2
  rw [to_kids_seen hf] at hR3 hs3
  refine ⟨⟨Q++kidsP (q'++[(x:Int)]) (toP d.msgs x) f,_,hQ3,hR3,bfs_step hf hd hbf hxi,short_step hf f hsh,by omega,E3,hB3⟩,?_⟩
  rw [offs_row hR3,offs_row hR1]
  obtain ⟨xs,⟨_,_,_,_,rfl,_⟩,hxl,_⟩:=hQ3.row
  simp only [lenV]
  omega
end
theorem Path_ret (w0:World) (v:Value) (d:DefD) (i:Int) (hd:DefVal w0 v d) (ht:calm d):Ret Pg 24 #[v,.int .i64 i] w0 fun r w'=>(∃ u,r = .tuple #[u,.int .i64 (errP d i)]∧RowI w' w0.heap.size u (pathE d i))∧Ext w0 w':=by
 obtain ⟨mv,rfl,hM⟩:=hd
 have hm1:=SliceOf.oneCell hM
 refine n74s (R:=retR _) ?_;unfold n74
 rw [op_boxA]
 have o1:=heap_new w0 (defCells d mv).toArray 28
 have eW:Ext w0 (w0.alloc (.cells (defCells d mv).toArray 28)):=ee
 generalize (w0.alloc (.cells (defCells d mv).toArray 28))=W at o1 eW ⊢
 generalize hp1:w0.heap.size=p1 at o1 ⊢
 simp (disch:=try exact DI) only [↓PR,QR,simprocAttr,(cells_of_heap o1).1]
 refine callK_ret (reached_ret _ _ d ⟨_,rfl,hM.ext eW⟩ ht) ?_
 rintro r w1 ⟨hr,e1⟩
 have E1:=eW.trans e1
 have s1:=E1.size
 by_cases hc:(checkP d).2.2=0
 case neg =>
  simp only [hc,if_false] at hr
  subst hr
  have he:errP d i=2:=if_neg hc
  rw [he,show pathE d i=[] by unfold pathE;rw [he];rfl]
  unfold n74c11
  simp (disch:=try exact DI) only [↓PR,QR,simprocAttr]
  exact ⟨⟨_,rfl,OwnE.nil _ _ _ _ _⟩,E1⟩
 simp only [hc,if_true] at hr
 obtain ⟨b,rfl,hb,hR⟩:=hr
 obtain ⟨hs,hany,hidx⟩:=start_spec hc
 have hf:=(check_fine hc).2.2.1
 have hl60:=(check_fine hc).2.1.2
 have he1:errP d i=(if 0≤i∧i < d.msgs.length then (if reachB d.msgs (startI d) i.toNat then 0 else 9) else 3):=if_pos hc
 unfold n74c11
 by_cases hin:0≤i∧i < d.msgs.length
 case neg =>
  have he:errP d i=3:=by rw [he1,if_neg hin]
  rw [he,show pathE d i=[] by unfold pathE;rw [he];rfl]
  cases h0:decide (i < 0) with
  | true =>
   simp (disch:=try exact DI) only [↓PR,QR,simprocAttr,↓n74c10,h0]
   exact ⟨⟨_,rfl,OwnE.nil _ _ _ _ _⟩,E1⟩
  | false =>
   have h2:decide (i≥(d.msgs.length:Int))=true:=by simp at h0 ⊢;omega
   simp (disch:=try exact DI) only [↓PR,QR,simprocAttr,↓n74c10,h0,h2]
   exact ⟨⟨_,rfl,OwnE.nil _ _ _ _ _⟩,E1⟩
 rw [if_pos hin] at he1
 obtain ⟨n,rfl⟩:∃ n:Nat,i=(n:Int):=⟨i.toNat,by omega⟩
 rw [Int.toNat_natCast] at he1
 have hn:n < d.msgs.length:=by omega
 have h0:decide ((n:Int) < 0)=false:=by simp
 have h2:decide ((n:Int)≥(d.msgs.length:Int))=false:=by simp;omega
 have c1:w1.cell? ⟨b,n,none⟩=some (.bool (reachB d.msgs (startI d) n)):=hR.get (tab_get hn)
 simp (disch:=try exact DI) only [↓PR,QR,simprocAttr,↓n74c10,h0,h2]
 unfold n74c9
 cases hrb:reachB d.msgs (startI d) n with
 | false =>
  rw [hrb] at he1 c1
  have he:errP d n=9:=by rw [he1];rfl
  rw [he,show pathE d n=[] by unfold pathE;rw [he];rfl]
  simp (disch:=try exact DI) only [↓PR,QR,simprocAttr,c1,Nat.mul_one,Nat.zero_add]
  exact ⟨⟨_,rfl,OwnE.nil _ _ _ _ _⟩,E1⟩
 | true =>
  rw [hrb] at he1 c1
  have he:errP d n=0:=by rw [he1];rfl
  rw [he,show pathE d n=pathP n d.msgs (startI d) by unfold pathE;rw [he];rfl]
  have hdn:=(reach_dist hf hs hn (by omega)).1 hrb
  simp (disch:=try exact DI) only [↓PR,QR,simprocAttr,c1,↓n74c8,(cells_of_heap (e1.obj o1)).1,Nat.mul_one,Nat.zero_add]
  refine zcr (Find_ret _ _ d d.start ⟨_,rfl,hM.ext E1⟩) fun w2 e2=>?_
  rw [hidx,hany]
  have E2:=E1.trans e2
  generalize startI d=s at *
  have s2:=E2.size
  have o2:w2.heap[p1]?=some (.cells (defCells d mv).toArray 28 (0,0)):=(e1.trans e2).obj o1
  unfold n74c7
  simp (disch:=try exact DI) only [↓PR,QR,simprocAttr]
  rw [op_makeBools d.msgs.length (by omega)]
  generalize hV:World.alloc (World.alloc w2 _) _=V
  have eV:Ext w2 V:=by rw [← hV];exact ee
  have sV:V.heap.size=w2.heap.size+2:=by rw [← hV];simp only [World.size_alloc]
  have oA:V.heap[w2.heap.size]?=some (.cells #[.int .i64 (s:Int)] 3 (0,0)):=by rw [← hV];exact (Ext.alloc (Ext.refl _) _).obj (heap_new w2 _ _)
  have oB:V.heap[w2.heap.size+1]?=some (.cells #[.slice (some ⟨w2.heap.size,0,none⟩) 1 1] TS (0,0)):=by rw [← hV,show w2.heap.size+1=(w2.alloc (.cells #[.int .i64 (s:Int)] 3)).heap.size by simp only [World.size_alloc]];exact heap_new (w2.alloc _) _ _
  clear hV
  have eY:Ext V (V.alloc (.cells ((List.replicate d.msgs.length false).map fun x=>Value.bool x).toArray 4)):=ee
  have oR:BRow (V.alloc (.cells ((List.replicate d.msgs.length false).map fun x=>Value.bool x).toArray 4)) V.heap.size (tab d.msgs.length fun _=>false):=by
   have:=heap_new V ((List.replicate d.msgs.length false).map fun x=>Value.bool x).toArray 4
   rw [show tab d.msgs.length (fun _=>false)=List.replicate d.msgs.length false by unfold tab;rw [List.map_const'];simp]
   exact this
  generalize (V.alloc (.cells ((List.replicate d.msgs.length false).map fun x=>Value.bool x).toArray 4))=Y at eY oR ⊢
  have oA:=eY.obj oA
  have oB:=eY.obj oB
  have eX:=eV.trans eY
  have hRow:RowI Y w2.heap.size (.slice (some ⟨w2.heap.size,0,none⟩) 1 1) [(s:Int)]:=rowI_of ⟨rfl,.inr ⟨_,1,_,rfl,Nat.le_refl _,oA,Nat.le_refl _,by decide,rfl,rfl⟩⟩
  have hQ:QAt Y w2.heap.size (.slice (some ⟨w2.heap.size+1,0,none⟩) 1 1) [[(s:Int)]]:=⟨[.slice (some ⟨w2.heap.size,0,none⟩) 1 1],⟨_,0,1,_,rfl,by omega,oB,Nat.le_refl _,Nat.le_refl _,by decide,rfl⟩,rfl,fun k x q hx hq=>by
   cases k with
   | zero=>injection hx with hx;injection hq with hq;subst hx hq;exact hRow
   | succ k=>cases hx⟩
  rw [sV] at oR ⊢
  simp only [World.size_alloc]
  rw [joinK_eq]
  refine path_loop (mv:=mv) hM E2 ht hf hl60 hs hn hdn o2 (Nat.le_refl _) (by omega) (fun X e _=>e.trans eX) eX.size hQ oR ?_
  rintro _ w4 ⟨g,off,cap,m,x,rfl,hcap,hx,hXR⟩ e4
  have hidx0:∀ (QP:List PanicEntry→World→Prop) (K:Value→World→Prop),opV Pg (Instr.indexAt 78 (.slice (some ⟨g,off,none⟩) (m+1) cap) (.int .i64 0)) QP w4 K=K (.pointer (some ⟨g,off,none⟩)) w4:=fun QP K=>by simpa using op_indexN (w:=w4) (QP:=QP) (k:=K) Tryz.underlying78 ty30 g off (m+1) cap .i64 0 (by omega)
  rw [hidx0]
  have hx1:=SliceOf.oneCell hXR.ints
  simp (disch:=try exact DI) only [↓PR,QR,simprocAttr,hx]
  exact ⟨⟨_,rfl,OwnE.base hXR (by omega)⟩,E2.trans e4⟩
end Go.Proofs.YtfjjgjjlebllmaaGreat
namespace Go.Sw
open Go.ChangeShapes Go.WideShapes Go.RowKit Go.ChangeAt Go.Deep
theorem list_of {α:Type} {p:Nat→α→Prop}:∀ (n:Nat),(∀ i,i < n→∃ x,p i x)→∃ l:List α,l.length=n∧∀ k x,l[k]?=some x→p k x
 | 0,_=>⟨[],rfl,fun k x h=>by simp at h⟩
 | n+1,h=>by
  obtain ⟨l,hl,hp⟩:=list_of n (fun i hi=>h i (by omega))
  obtain ⟨x,hx⟩:=h n (by omega)
  refine ⟨l++[x],by simp [hl],fun k y hy=>?_⟩
  rw [List.getElem?_append] at hy
  split at hy
  · exact hp k y hy
  · have hk:k=n:=by
     have:=(List.getElem?_eq_some_iff.1 hy).1
     simp at this
     omega
    subst hk
    simp [hl] at hy
    subst hy
    exact hx
section
variable {H:Type} {enc:TypeId×Value→H} {P:Program} {w:World} {base:Nat} {spare:Nat→Bool} {held:Bool}
theorem weightsAll_mem {e:TypeId} {m:Nat} {d:DataW H}:∀ {l:List (DataW H)},d∈l→m∈d.weights P e→m∈DataW.weightsAll P e l
 | [],h,_=>by cases h
 | a::l,h,hm=>by
  rw [DataW.weightsAll,List.mem_append]
  rcases List.mem_cons.1 h with rfl | h
  · exact .inl hm
  · exact .inr (weightsAll_mem h hm)
def Reached (P:Program) (t:TypeId) (d:DataW H):Prop:=∀ m∈d.weights P t,m≤reachBytes
theorem reached_of {ts:List TypeId} {ds:List (DataW H)} (h:(DataW.weightsEach P ts ds).all (· ≤ reachBytes)=true) {j:Nat} {t:TypeId} {d:DataW H} (ht:ts[j]?=some t) (hd:ds[j]?=some d):Reached P t d:=fun m hm=>by
 have:=List.all_eq_true.1 h _ (DataW.weights_mem_each ht hd m hm)
 simpa using this
theorem slice_of_trod {α:Type} {E:World→List Value→α→Prop} {Q:α→Prop} {t e:TypeId} {n fuel:Nat} {cs:List Value} {x:DataW H×List MemPlace} (ht:P.underlying t=some (.slice e)) (hn:P.cellsOf e=n) (hb1:1≤P.bytesOf e) (h0:0 < n)
 (hE:∀ m cs' y,DataW.trod enc P w base spare held m e cs'=some y→Reached P e y.1→∃ x,E w cs' x∧Q x) (h:DataW.trod enc P w base spare held fuel t cs=some x) (hr:Reached P t x.1):∃ v l,cs=[v]∧SliceOf w n E v l∧(∀ x∈l,Q x)∧l.length≤140737488355328:=by
 rcases open_slice ht h with ⟨rfl,_⟩ | ⟨a,len,cap,m,k,D,Pl,rfl,hb,hl,hm,hmm,hx,hel⟩
 · exact ⟨_,[],rfl,SliceOf.nil _ _ _,fun x hx=>by (cases hx),Nat.zero_le _⟩
 · have hlm:len≤m:=by rw [hmm];split<;>omega
   subst hx
   have hw0:=hr ((len+(m - len))*P.bytesOf e) (by simp only [DataW.weights,ht];simp)
   have hlen:len≤140737488355328:=by
    have:len*1≤(len+(m - len))*P.bytesOf e:=Nat.mul_le_mul (by omega) hb1
    simp only [reachBytes] at hw0
    omega
   have hD:∀ i,i < len→Reached P e (D i):=fun i hi q hq=>hr q (by
    simp only [DataW.weights,ht,List.mem_cons,List.mem_append]
    exact .inr (.inl (weightsAll_mem (List.mem_map.2 ⟨i,List.mem_range.2 hi,rfl⟩) hq)))
   obtain ⟨l,hll,hp⟩:=list_of (p:=fun i (x:α)=>∃ cs',w.cells? base (a.add (i*n)) n=some cs'∧E w cs' x∧Q x) len (fun i hi=>by
    obtain ⟨cs',h1,h2⟩:=hel i (by omega)
    rw [hn] at h1
    obtain ⟨x,hx⟩:=hE _ _ _ h2 (hD i hi)
    exact ⟨x,cs',h1,hx⟩)
   refine ⟨_,l,rfl,⟨some a,cap,by rw [hll],by rw [hll];exact hl,by simp only [maxLen] at hm;omega,fun hne=>?_⟩,fun x hx=>?_,by omega⟩
   · obtain ⟨b,o,spot⟩:=a
     have hspot:spot=none:=by
      have:0 < l.length:=List.length_pos_iff.2 hne
      obtain ⟨y,hy⟩:=getElem?_lt this
      obtain ⟨cs',h1,_⟩:=hp 0 y hy
      obtain ⟨_,h2,h3⟩:=World.cells?_some h1
      have h4:=h3 0 h0
      rw [List.getElem?_eq_getElem (by omega)] at h4
      simpa [Addr.add] using World.cell?_spot h4
     subst hspot
     refine ⟨b,o,rfl,fun k x hx=>?_⟩
     obtain ⟨cs',h1,h2,_⟩:=hp k x hx
     obtain ⟨_,h3,h4⟩:=World.cells?_some h1
     refine ⟨cs',h3,fun j v hv=>?_,h2⟩
     have h5:=h4 j (by have:=(List.getElem?_eq_some_iff.1 hv).1;omega)
     rw [hv] at h5
     simpa [Addr.add_lit] using h5
   · obtain ⟨k,hk⟩:=List.getElem?_of_mem hx
     obtain ⟨_,_,_,hq⟩:=hp k x hk
     exact hq
theorem struct_of_trod {fs:Array Field} {t:TypeId} {n fuel:Nat} {cs:List Value} {x:DataW H×List MemPlace} (ht:P.underlying t=some (.struct fs)) (hn:P.cellsOf t=n) (h:DataW.trod enc P w base spare held fuel t cs=some x) (hr:Reached P t x.1) :
 cs.length=n∧∃ m,∀ (i:Nat) (ty off k:Nat),(fs[i]?).map (fun f=>(f.type,f.offset))=some (ty,off)→P.cellsOf ty=k→∃ y,DataW.trod enc P w base spare held m ty ((cs.drop off).take k)=some y∧Reached P ty y.1:=by
 obtain ⟨xs,m,_,rfl,hl,hlen,hf⟩:=DataW.trod_struct ht h
 refine ⟨hl.trans hn,m,fun i ty off k hi hk=>?_⟩
 obtain ⟨f,hfi,he⟩:=Option.map_eq_some_iff.1 hi
 injection he with h1 h2
 subst h1 h2 hk
 have hil:i < xs.length:=by rw [hlen];exact (Array.getElem?_eq_some_iff.1 hfi).1
 refine ⟨xs[i],(hf i f hfi).trans (List.getElem?_eq_getElem hil),fun q hq=>hr q ?_⟩
 simp only [DataW.weights,ht]
 refine DataW.weights_mem_each (j:=i) (t:=f.type) (d:=xs[i].1) ?_ ?_ q hq
 · rw [List.getElem?_map,Array.getElem?_toList,hfi];rfl
 · rw [List.getElem?_map,List.getElem?_eq_getElem hil];rfl
theorem trodAll_stays (hl:laidOutB P=true) {W W':World} (he:Ext W W'):∀ {ts:List TypeId} {vs:List Value} {ds:List (DataW H)} {ps:List MemPlace},(∀ t∈ts,P.readableRec t=true∧t < P.types.size)→(∀ x∈ps,x.block < W.heap.size) →
 DataW.TrodAll enc P W 0 (fun _=>true) true ts vs ds ps→DataW.TrodAll enc P W' 0 (fun b=>decide (b < W.heap.size)) true ts vs ds ps
 | [],_,_,_,_,_,h=>by obtain ⟨rfl,rfl,rfl⟩:=trodAll_nil h;exact trodAll_mk0
 | t::ts,_,_,_,hr,hlt,h=>by
  obtain ⟨v,vs1,d,ds1,a,b,rfl,rfl,rfl,h1,h2⟩:=trodAll_cons h
  refine ⟨a,b,?_,trodAll_stays hl he (fun t ht=>hr t (List.mem_cons_of_mem _ ht)) (fun x hx=>hlt x (List.mem_append_right _ hx)) h2,rfl⟩
  exact Below.trod hl (hr t (List.mem_cons_self ..)).1 (hr t (List.mem_cons_self ..)).2 h1 ⟨he.os,he.tape,he.output,he.size,he.block⟩ (fun x hx=>hlt x (List.mem_append_left _ hx))
theorem law_post {f:Func} {s:ChangeSpec} {W W':World} {args:Array Value} {ds gs:List (DataW H)} {before:List MemPlace} {tb:TypeId} (hl:laidOutB P=true) (hr:∀ t∈f.params.toList,P.readableRec t=true∧t < P.types.size) (hs:s.vars=[])
 (hW:DataW.Whole enc P f.params.toList s.vars false W args.toList ds gs before) (he:Ext W W') (hres:f.resultTypes = #[tb]) (htb:P.underlying tb=some .bool) (hfn:(s.fn H ds).results=[.lit (.bool true)]) (hargs:(s.fn H ds).args=ds) (hvars:(s.fn H ds).vars=[]) :
 s.post enc P f false true false false W args (.bool true) W':=by
 have hW':=hW
 obtain ⟨p,q,hA,hV,rfl,_,_⟩:=hW
 rw [hs] at hV
 obtain ⟨rfl,rfl⟩:=trodVars_none hV
 have hlt:∀ x∈p,x.block < W.heap.size:=fun x hx=>hW'.lt x (by simpa using hx)
 rw [List.append_nil] at hW'
 refine ⟨ds,[],p,[],p,[],hW',?_,?_,?_,Below.frame ⟨he.os,he.tape,he.output,he.size,he.block⟩ _,fun h=>by cases h⟩
 · rw [List.append_nil,hfn,hres]
   exact trodAll_mk1 (shut_bool htb _)
 · rw [List.append_nil,hargs]
   exact trodAll_stays hl he hr hlt hA
 · rw [List.append_nil,hvars,hs]
   exact rfl
end
end Go.Sw
namespace Go.Proofs.YtfjjgjjlebllmaaGreat
open Sw
open Go.ChangeShapes Go.WideShapes Go.RowKit Go.ChangeAt Go.Deep
theorem cellsTerm:Pg.cellsOf 62=2:=by kernel_rfl
theorem cellsCase:Pg.cellsOf 60=3:=by kernel_rfl
theorem cellsSize:Pg.cellsOf 45=2:=by kernel_rfl
theorem cellsField:Pg.cellsOf 48=15:=by kernel_rfl
theorem cellsMessage:Pg.cellsOf 24=2:=by kernel_rfl
theorem cellsString:Pg.cellsOf 9=1:=by kernel_rfl
theorem cellsInt:Pg.cellsOf 3=1:=by kernel_rfl
theorem cellsBool:Pg.cellsOf 4=1:=by kernel_rfl
theorem cellsKind:Pg.cellsOf 42=1:=by kernel_rfl
theorem cellsTerms:Pg.cellsOf 43=1:=by kernel_rfl
theorem cellsCases:Pg.cellsOf 46=1:=by kernel_rfl
theorem cellsFields:Pg.cellsOf 22=1:=by kernel_rfl
theorem bytesTerm:1≤Pg.bytesOf 62:=Nat.le_of_ble_eq_true (by kernel_rfl)
theorem bytesCase:1≤Pg.bytesOf 60:=Nat.le_of_ble_eq_true (by kernel_rfl)
theorem bytesField:1≤Pg.bytesOf 48:=Nat.le_of_ble_eq_true (by kernel_rfl)
def FieldSm (f:FieldD):Prop:=f.terms.length≤140737488355328∧f.cases.length≤140737488355328∧∀ c∈f.cases,c.of.size≤140737488355328
def MsgSm (m:MsgD):Prop:=m.fields.length≤140737488355328∧∀ f∈m.fields,FieldSm f
def DefSm (d:DefD):Prop:=d.msgs.length≤140737488355328∧∀ m∈d.msgs,MsgSm m
section
variable {H:Type} {enc:TypeId×Value→H} {w:World} {base:Nat} {spare:Nat→Bool} {held:Bool}
theorem term_of {m:Nat} {cs:List Value} {y:DataW H×List MemPlace} (h:DataW.trod enc Pg w base spare held m 62 cs=some y) (hr:Reached Pg 62 y.1):∃ x,ETerm w cs x:=by
 obtain ⟨hl,n,hf⟩:=struct_of_trod Tryz.underlying62 cellsTerm h hr
 obtain ⟨y0,h0,r0⟩:=hf 0 9 0 1 rfl cellsString
 obtain ⟨y1,h1,r1⟩:=hf 1 3 1 1 rfl cellsInt
 match cs,hl with
 | [c0,c1],_ =>
  obtain ⟨s,e0,_⟩:=DataW.trod_string Tryz.underlying9 h0
  obtain ⟨k,e1,_⟩:=DataW.trod_int Tryz.underlying3 h1
  simp at e0 e1
  subst e0 e1
  exact ⟨⟨s,k⟩,rfl⟩
theorem case_of {m:Nat} {cs:List Value} {y:DataW H×List MemPlace} (h:DataW.trod enc Pg w base spare held m 60 cs=some y) (hr:Reached Pg 60 y.1):∃ x,ECase w cs x∧x.of.size≤140737488355328:=by
 obtain ⟨hl,n,hf⟩:=struct_of_trod Tryz.underlying60 cellsCase h hr
 obtain ⟨y0,h0,r0⟩:=hf 0 3 0 1 rfl cellsInt
 obtain ⟨y1,h1,r1⟩:=hf 1 3 1 1 rfl cellsInt
 obtain ⟨y2,h2,r2⟩:=hf 2 9 2 1 rfl cellsString
 match cs,hl with
 | [c0,c1,c2],_ =>
  obtain ⟨a,e0,_⟩:=DataW.trod_int Tryz.underlying3 h0
  obtain ⟨b,e1,_⟩:=DataW.trod_int Tryz.underlying3 h1
  obtain ⟨s,e2,e3,_⟩:=DataW.trod_string Tryz.underlying9 h2
  simp at e0 e1 e2
  subst e0 e1 e2
  refine ⟨⟨a,b,s⟩,rfl,?_⟩
  have:=r2 s.data.toList.length (by rw [e3];exact List.mem_singleton.2 rfl)
  simp only [reachBytes] at this
  have h4:s.size=s.data.toList.length:=Array.length_toList.symm
  show s.size≤_
  omega
theorem size_of {m:Nat} {cs:List Value} {y:DataW H×List MemPlace} (h:DataW.trod enc Pg w base spare held m 45 cs=some y) (hr:Reached Pg 45 y.1):∃ b tv ts,cs=[.int .i64 b,tv]∧TermsOf w tv ts∧ts.length≤140737488355328:=by
 obtain ⟨hl,n,hf⟩:=struct_of_trod Tryz.underlying45 cellsSize h hr
 obtain ⟨y0,h0,r0⟩:=hf 0 3 0 1 rfl cellsInt
 obtain ⟨y1,h1,r1⟩:=hf 1 43 1 1 rfl cellsTerms
 match cs,hl with
 | [c0,c1],_ =>
  obtain ⟨a,e0,_⟩:=DataW.trod_int Tryz.underlying3 h0
  obtain ⟨v,l,e1,hS,_,hL⟩:=slice_of_trod (E:=ETerm) (Q:=fun _=>True) Tryz.underlying43 cellsTerm bytesTerm (by decide) (fun _ _ _ h hr=>let ⟨x,hx⟩:=term_of h hr; ⟨x,hx,trivial⟩) h1 r1
  simp at e0 e1
  subst e0 e1
  exact ⟨a,_,l,rfl,hS,hL⟩
theorem field_of {m:Nat} {cs:List Value} {y:DataW H×List MemPlace} (h:DataW.trod enc Pg w base spare held m 48 cs=some y) (hr:Reached Pg 48 y.1):∃ x,EField w cs x∧FieldSm x:=by
 obtain ⟨hl,n,hf⟩:=struct_of_trod Tryz.underlying48 cellsField h hr
 obtain ⟨y0,h0,r0⟩:=hf 0 9 0 1 rfl cellsString
 obtain ⟨y1,h1,r1⟩:=hf 1 42 1 1 rfl cellsKind
 obtain ⟨y2,h2,r2⟩:=hf 2 3 2 1 rfl cellsInt
 obtain ⟨y3,h3,r3⟩:=hf 3 4 3 1 rfl cellsBool
 obtain ⟨y4,h4,r4⟩:=hf 4 4 4 1 rfl cellsBool
 obtain ⟨y5,h5,r5⟩:=hf 5 3 5 1 rfl cellsInt
 obtain ⟨y6,h6,r6⟩:=hf 6 3 6 1 rfl cellsInt
 obtain ⟨y7,h7,r7⟩:=hf 7 45 7 2 rfl cellsSize
 obtain ⟨y8,h8,r8⟩:=hf 8 9 9 1 rfl cellsString
 obtain ⟨y9,h9,r9⟩:=hf 9 9 10 1 rfl cellsString
 obtain ⟨y10,h10,r10⟩:=hf 10 9 11 1 rfl cellsString
 obtain ⟨y11,h11,r11⟩:=hf 11 46 12 1 rfl cellsCases
 obtain ⟨y12,h12,r12⟩:=hf 12 3 13 1 rfl cellsInt
 obtain ⟨y13,h13,r13⟩:=hf 13 3 14 1 rfl cellsInt
 match cs,hl with
 | [c0,c1,c2,c3,c4,c5,c6,c7,c8,c9,c10,c11,c12,c13,c14],_ =>
  obtain ⟨x0,e0,_⟩:=DataW.trod_string Tryz.underlying9 h0
  obtain ⟨x1,e1,_⟩:=DataW.trod_int Tryz.underlying42 h1
  obtain ⟨x2,e2,_⟩:=DataW.trod_int Tryz.underlying3 h2
  obtain ⟨x3,e3,_⟩:=DataW.trod_bool Tryz.underlying4 h3
  obtain ⟨x4,e4,_⟩:=DataW.trod_bool Tryz.underlying4 h4
  obtain ⟨x5,e5,_⟩:=DataW.trod_int Tryz.underlying3 h5
  obtain ⟨x6,e6,_⟩:=DataW.trod_int Tryz.underlying3 h6
  obtain ⟨x7,tv,ts,e7,hT,hTl⟩:=size_of h7 r7
  obtain ⟨x9,e9,_⟩:=DataW.trod_string Tryz.underlying9 h8
  obtain ⟨x10,e10,_⟩:=DataW.trod_string Tryz.underlying9 h9
  obtain ⟨x11,e11,_⟩:=DataW.trod_string Tryz.underlying9 h10
  obtain ⟨cv,l,e12,hC,hCq,hCl⟩:=slice_of_trod (E:=ECase) (Q:=fun c=>c.of.size≤140737488355328) Tryz.underlying46 cellsCase bytesCase (by decide) (fun _ _ _ h hr=>case_of h hr) h11 r11
  obtain ⟨x13,e13,_⟩:=DataW.trod_int Tryz.underlying3 h12
  obtain ⟨x14,e14,_⟩:=DataW.trod_int Tryz.underlying3 h13
  simp at e0 e1 e2 e3 e4 e5 e6 e7 e9 e10 e11 e12 e13 e14
  obtain ⟨e7,e8⟩:=e7
  subst e0 e1 e2 e3 e4 e5 e6 e7 e8 e9 e10 e11 e12 e13 e14
  exact ⟨⟨x0,x1,x2,x3,x4,x5,x6,x7,ts,x9,x10,x11,l,x13,x14⟩,⟨_,_,rfl,hT,hC⟩,hTl,hCl,hCq⟩
theorem msg_of {m:Nat} {cs:List Value} {y:DataW H×List MemPlace} (h:DataW.trod enc Pg w base spare held m 24 cs=some y) (hr:Reached Pg 24 y.1):∃ x,EMsg w cs x∧MsgSm x:=by
 obtain ⟨hl,n,hf⟩:=struct_of_trod Tryz.underlying24 cellsMessage h hr
 obtain ⟨y0,h0,r0⟩:=hf 0 9 0 1 rfl cellsString
 obtain ⟨y1,h1,r1⟩:=hf 1 22 1 1 rfl cellsFields
 match cs,hl with
 | [c0,c1],_ =>
  obtain ⟨a,e0,_⟩:=DataW.trod_string Tryz.underlying9 h0
  obtain ⟨v,l,e1,hS,hQ,hL⟩:=slice_of_trod (E:=EField) (Q:=FieldSm) Tryz.underlying22 cellsField bytesField (by decide) (fun _ _ _ h hr=>field_of h hr) h1 r1
  simp at e0 e1
  subst e0 e1
  exact ⟨⟨a,l⟩,⟨_,rfl,hS⟩,hL,hQ⟩
theorem msg_val {r:Reach} {b0:Nat} {v:Value} {d:DataW H} {ps:List MemPlace} (hval:Value.okWide Pg w r b0 24 v) (h:DataW.Trod enc Pg w base spare held 24 v d ps) (hr:Reached Pg 24 d):∃ f,MsgVal w v f∧MsgSm f:=by
 obtain ⟨cs,rfl,_⟩:=okWide_struct Tryz.underlying24 hval
 obtain ⟨fuel,hf⟩:=h
 obtain ⟨f,⟨tv,h1,h2⟩,hs⟩:=msg_of hf hr
 exact ⟨f,⟨tv,congrArg Value.agg (by rw [← h1,cells_agg]),h2⟩,hs⟩
end
end Go.Proofs.YtfjjgjjlebllmaaGreat
namespace Go.Proofs.YtfjjgjjlebllmaaGreat
open Sw
def n5c1 (t6 t23:Value) (next3:KV) (R:RT) (w:World):Prop :=
 X0q 22 t23 t6 R w fun t38 w =>
 F0 48 t38 11 R w fun t39 w =>
 L0 46 t39 R w fun t40 w =>
 opV Pg (Builtin.len_ #[46] 3 #[t40]) (panK R) w fun t41 w =>
 B0 .gtr 3 true t41 (.int .i64 50) R w fun t42 w =>
 joinK (fun (t51:Value) (w:World) =>
 pickK t42 (.bool true) t51 fun t52 =>
 condP t52 (
 R (.returned (.bool false)) w) (
 B0 .add 3 true t6 (.int .i64 1) R w fun t35 w =>
 next3 t35 w)) fun K4 =>
 guardP t42 false (
 X0q 22 t23 t6 R w fun t46 w =>
 F0 48 t46 7 R w fun t47 w =>
 F0 45 t47 1 R w fun t48 w =>
 L0 43 t48 R w fun t49 w =>
 opV Pg (Builtin.len_ #[43] 3 #[t49]) (panK R) w fun t50 w =>
 B0 .gtr 3 true t50 (.int .i64 10) R w fun t51 w =>
 K4 t51 w) (
 K4 undef w)
def n5c2 (t4 t6 t23 t27:Value) (next1:KW) (next3:KV) (R:RT) (w:World):Prop :=
 opV Pg (Builtin.len_ #[22] 3 #[t23]) (panK R) w fun t32 w =>
 B0 .lss 3 false t6 t32 R w fun t33 w =>
 condP t33 (
 n5c1 t6 t23 next3 R w) (
 B0 .add 3 true t4 (.int .i64 1) R w fun t17 w =>
 next1 t27 t17 w)
def n5c3 (t1:Value) (R:RT) (w:World):Prop :=
 F0 28 t1 1 R w fun t53 w =>
 L0 26 t53 R w fun t54 w =>
 opV Pg (Builtin.len_ #[26] 3 #[t54]) (panK R) w fun t55 w =>
 B0 .leq 3 true t55 (.int .i64 70) R w fun t56 w =>
 R (.returned t56) w
def n5c4 (t1 t3 t4:Value) (next1:KW) (R:RT) (w:World):Prop :=
 F0 28 t1 1 R w fun t18 w =>
 L0 26 t18 R w fun t19 w =>
 X0q 26 t19 t4 R w fun t21 w =>
 F0 24 t21 1 R w fun t22 w =>
 L0 22 t22 R w fun t23 w =>
 opV Pg (Builtin.len_ #[22] 3 #[t23]) (panK R) w fun t26 w =>
 B0 .add 3 false t3 t26 R w fun t27 w =>
 B0 .gtr 3 true t27 (.int .i64 400) R w fun t29 w =>
 condP t29 (
 R (.returned (.bool false)) w) (
 loop1 (fun t6 w next3 =>
 n5c2 t4 t6 t23 t27 next1 next3 R w) (.int .i64 0) w)
def n5c5 (t1 t3 t4:Value) (next1:KW) (R:RT) (w:World):Prop :=
 F0 28 t1 1 R w fun t8 w =>
 L0 26 t8 R w fun t9 w =>
 opV Pg (Builtin.len_ #[26] 3 #[t9]) (panK R) w fun t10 w =>
 B0 .lss 3 false t4 t10 R w fun t11 w =>
 joinK (fun (t14:Value) (w:World) =>
 pickK t11 t14 (.bool false) fun t15 =>
 condP t15 (
 n5c4 t1 t3 t4 next1 R w) (
 n5c3 t1 R w)) fun K2 =>
 guardP t11 true (
 B0 .leq 3 true t4 (.int .i64 70) R w fun t14 w =>
 K2 t14 w) (
 K2 undef w)
def n5 (t0:Value) (R:RT) (w:World):Prop :=
 opV Pg (Instr.box 28 t0) (panK R) w fun t1 w =>
 loop2 (fun t3 t4 w next1 =>
 n5c5 t1 t3 t4 next1 R w) (.int .i64 0) (.int .i64 0) w
set_option maxHeartbeats 40000000 in
theorem n5s {t0:Value} {R:RT} {w:World} (h:n5 t0 R w):Calls Pg 10 #[t0] w R:=by
 refine yD Tryz.func10 ?_
 refine zs<|zr<|yv h fun _ w h=>zm<|zn<|zk<|zs<|zr<|zm<|zn<|zk<|zs<|zs<|zr<|zm ?_
 refine zn<|zk<|sim_block<|yl2 [2,3,4,5,6,7,8,9,10,11,12,13,14,15,16,17,18,19,20,21,22,23,24,25,26,27,28,29,30,31,32,33,34,35,36,37,38,39,40,41,42,43,44,45,46,47,48,49,50,51,52] 3 4 h fun σ w next h=>zs<|zs<|sim_regionG<|yG 6<|zm<|yv h fun _ w h=>yv h fun _ w h=>yx h fun _ w h=>yb h fun _ w h=>zm<|zn ?_
 refine yg1 2 5 true [13,14] 14 h (fun _ T hT h=>?_) fun σ w h=>?_
 · refine zm<|yb h fun _ w h=>zn ?_
   exact zt hT h
 refine yG 1<|yp h fun _ h=>zn<|sim_end<|zk<|yC h (fun h=>?_) fun h=>?_
 · refine sim_skip<|zk<|zs<|sim_block<|zs<|zr<|yv h fun _ w h=>yv h fun _ w h=>zm<|yv h fun _ w h=>yv h fun _ w h=>yv h fun _ w h=>zm<|zn<|zk ?_
   refine zs<|zr<|zm<|zm<|yx h fun _ w h=>yb h fun _ w h=>zm<|zn<|zk<|zs<|zs<|zr<|zm<|yb h fun _ w h=>zn ?_
   refine zk<|yC h (fun h=>zs<|zr<|zm<|zn<|zk<|sim_ret<|sim_then_ret<|sim_block_ret<|sim_then_ret<|sim_then_ret<|sim_block_ret<|sim_then_ret<|body_ret1 rfl rfl h) fun h=>sim_skip<|zk<|zs<|zr<|zm<|zn<|zk<|sim_block<|yl1 [2,6,30,31,32,33,34,35,36,37,38,39,40,41,42,43,44,45,46,47,48,49,50,51,52] 6 h fun σ w next h=>zs<|zs<|zr ?_
   refine zm<|zm<|yx h fun _ w h=>yb h fun _ w h=>zn<|zk<|yC h (fun h=>?_) fun h=>?_
   · refine sim_skip<|zk<|zs<|sim_block<|zs<|sim_regionG<|yG 8<|zm<|zm<|yv h fun _ w h=>yv h fun _ w h=>yv h fun _ w h=>yx h fun _ w h=>yb h fun _ w h=>zm ?_
     refine zn<|yg1 8 7 false [44,45,46,47,48,49,50,51] 51 h (fun _ T hT h=>?_) fun σ w h=>?_
     · refine zm<|zm<|yv h fun _ w h=>yv h fun _ w h=>yv h fun _ w h=>yv h fun _ w h=>yx h fun _ w h=>yb h fun _ w h=>zn ?_
       exact zt hT h
     refine yG 1<|yp h fun _ h=>zn<|sim_end<|zk<|yC h (fun h=>?_) fun h=>?_
     · refine zs<|zr<|zm<|zn<|zk<|sim_ret<|sim_block_ret<|sim_then_ret<|sim_then_ret<|sim_block_ret<|sim_block_ret<|sim_then_ret<|sim_then_ret<|sim_block_ret<|sim_then_ret ?_
       exact body_ret1 rfl rfl h
     exact sim_skip<|sim_block_normal<|zk<|zr<|zm<|yb h fun _ w h=>zm<|zn<|zk<|⟨rfl,h⟩
   exact sim_exit<|sim_then_exit<|sim_then_exit<|sim_block_hit<|sim_block_normal<|zk<|zr<|zm<|yb h fun _ w h=>zm<|zn<|zk<|⟨rfl,h⟩
 refine sim_exit<|sim_then_exit<|sim_then_exit<|sim_block_hit<|zk<|zs<|zr<|yv h fun _ w h=>yv h fun _ w h=>yx h fun _ w h=>yb h fun _ w h=>zm<|zn<|zk<|sim_ret ?_
 exact body_ret1 rfl rfl h
def n10c1 (t35 t45 t48:Value) (next1:KV) (R:RT) (w:World):Prop :=
 opV Pg (Op.unary .not t48) (panK R) w fun t49 w =>
 joinK (fun (t52:Value) (w:World) =>
 pickK t49 (.bool true) t52 fun t53 =>
 condP t53 (
 R (.returned (.bool false)) w) (
 B0 .add 3 true t35 (.int .i64 1) R w fun t54 w =>
 next1 t54 w)) fun K2 =>
 guardP t49 false (
 B0 .neq 31 true t45 (.int .i64 0) R w fun t52 w =>
 K2 t52 w) (
 K2 undef w)
def n10c2 (t35 t39 t43:Value) (next1:KV) (R:RT) (w:World):Prop :=
 opV Pg (Instr.extract t43 0) (panK R) w fun t44 w =>
 opV Pg (Instr.extract t43 1) (panK R) w fun t45 w =>
 C0 14 #[t44,t39] R w fun t48 w =>
 n10c1 t35 t45 t48 next1 R w
def n10c3 (t130 t160 t163:Value) (R:RT) (w:World):Prop :=
 pickK t160 t163 (.bool false) fun t164 =>
 joinK (fun (t167:Value) (w:World) =>
 pickK t164 t167 (.bool false) fun t168 =>
 R (.returned t168) w) fun K16 =>
 guardP t164 true (
 B0 .eql 31 true t130 (.int .i64 9) R w fun t167 w =>
 K16 t167 w) (
 K16 undef w)
def n10c4 (t125 t130 t156 t159:Value) (R:RT) (w:World):Prop :=
 pickK t156 t159 (.bool false) fun t160 =>
 joinK (fun (t163:Value) (w:World) =>
 n10c3 t130 t160 t163 R w) fun K15 =>
 guardP t160 true (
 B0 .eql 31 true t125 (.int .i64 0) R w fun t163 w =>
 K15 t163 w) (
 K15 undef w)
def n10c5 (t120 t125 t130 t152 t155:Value) (R:RT) (w:World):Prop :=
 pickK t152 t155 (.bool false) fun t156 =>
 joinK (fun (t159:Value) (w:World) =>
 n10c4 t125 t130 t156 t159 R w) fun K14 =>
 guardP t156 true (
 B0 .eql 31 true t120 (.int .i64 0) R w fun t159 w =>
 K14 t159 w) (
 K14 undef w)
def n10c6 (t115 t120 t125 t130 t148 t151:Value) (R:RT) (w:World):Prop :=
 pickK t148 t151 (.bool false) fun t152 =>
 joinK (fun (t155:Value) (w:World) =>
 n10c5 t120 t125 t130 t152 t155 R w) fun K13 =>
 guardP t152 true (
 B0 .eql 31 true t115 (.int .i64 0) R w fun t155 w =>
 K13 t155 w) (
 K13 undef w)
def n10c7 (t110 t115 t120 t125 t130 t143 t147:Value) (R:RT) (w:World):Prop :=
 pickK t143 t147 (.bool false) fun t148 =>
 joinK (fun (t151:Value) (w:World) =>
 n10c6 t115 t120 t125 t130 t148 t151 R w) fun K12 =>
 guardP t148 true (
 B0 .eql 31 true t110 (.int .i64 0) R w fun t151 w =>
 K12 t151 w) (
 K12 undef w)
def n10c8 (t110 t115 t120 t124 t125 t130 t138 t142:Value) (R:RT) (w:World):Prop :=
 pickK t138 t142 (.bool false) fun t143 =>
 joinK (fun (t147:Value) (w:World) =>
 n10c7 t110 t115 t120 t125 t130 t143 t147 R w) fun K11 =>
 guardP t143 true (
 opV Pg (Instr.buildSlice 30 2 #[(0,(.int .i64 2)),(1,(.int .i64 1))]) (panK R) w fun t146 w =>
 C0 14 #[t124,t146] R w fun t147 w =>
 K11 t147 w) (
 K11 undef w)
def n10c9 (t110 t115 t119 t120 t124 t125 t130 t133 t137:Value) (R:RT) (w:World):Prop :=
 pickK t133 t137 (.bool false) fun t138 =>
 joinK (fun (t142:Value) (w:World) =>
 n10c8 t110 t115 t120 t124 t125 t130 t138 t142 R w) fun K10 =>
 guardP t138 true (
 opV Pg (Instr.buildSlice 30 2 #[(0,(.int .i64 2)),(1,(.int .i64 0))]) (panK R) w fun t141 w =>
 C0 14 #[t119,t141] R w fun t142 w =>
 K10 t142 w) (
 K10 undef w)
def n10c10 (t110 t114 t115 t119 t120 t124 t125 t130 t133:Value) (R:RT) (w:World):Prop :=
 joinK (fun (t137:Value) (w:World) =>
 n10c9 t110 t115 t119 t120 t124 t125 t130 t133 t137 R w) fun K9 =>
 guardP t133 true (
 opV Pg (Instr.buildSlice 30 1 #[(0,(.int .i64 3))]) (panK R) w fun t136 w =>
 C0 14 #[t114,t136] R w fun t137 w =>
 K9 t137 w) (
 K9 undef w)
def n10c11 (t109 t110 t114 t115 t119 t120 t124 t125 t128:Value) (R:RT) (w:World):Prop :=
 opV Pg (Instr.extract t128 0) (panK R) w fun t129 w =>
 opV Pg (Instr.extract t128 1) (panK R) w fun t130 w =>
 opV Pg (Instr.buildSlice 30 3 #[(0,(.int .i64 0)),(1,(.int .i64 1)),(2,(.int .i64 2))]) (panK R) w fun t132 w =>
 C0 14 #[t109,t132] R w fun t133 w =>
 n10c10 t110 t114 t115 t119 t120 t124 t125 t130 t133 R w
def n10c12 (t1 t109 t110 t114 t115 t119 t120 t123:Value) (R:RT) (w:World):Prop :=
 opV Pg (Instr.extract t123 0) (panK R) w fun t124 w =>
 opV Pg (Instr.extract t123 1) (panK R) w fun t125 w =>
 L0 28 t1 R w fun t127 w =>
 C0 24 #[t127,(.int .i64 3)] R w fun t128 w =>
 n10c11 t109 t110 t114 t115 t119 t120 t124 t125 t128 R w
def n10c13 (t1 t109 t110 t114 t115 t118:Value) (R:RT) (w:World):Prop :=
 opV Pg (Instr.extract t118 0) (panK R) w fun t119 w =>
 opV Pg (Instr.extract t118 1) (panK R) w fun t120 w =>
 L0 28 t1 R w fun t122 w =>
 C0 24 #[t122,(.int .i64 1)] R w fun t123 w =>
 n10c12 t1 t109 t110 t114 t115 t119 t120 t123 R w
def n10c14 (t1 t109 t110 t113:Value) (R:RT) (w:World):Prop :=
 opV Pg (Instr.extract t113 0) (panK R) w fun t114 w =>
 opV Pg (Instr.extract t113 1) (panK R) w fun t115 w =>
 L0 28 t1 R w fun t117 w =>
 C0 24 #[t117,(.int .i64 0)] R w fun t118 w =>
 n10c13 t1 t109 t110 t114 t115 t118 R w
def n10c15 (t1 t108:Value) (R:RT) (w:World):Prop :=
 opV Pg (Instr.extract t108 0) (panK R) w fun t109 w =>
 opV Pg (Instr.extract t108 1) (panK R) w fun t110 w =>
 L0 28 t1 R w fun t112 w =>
 C0 21 #[t112] R w fun t113 w =>
 n10c14 t1 t109 t110 t113 R w
def n10c16 (t1 t96 t104:Value) (R:RT) (w:World):Prop :=
 pickK t96 (.bool true) t104 fun t105 =>
 condP t105 (
 R (.returned (.bool false)) w) (
 L0 28 t1 R w fun t107 w =>
 C0 20 #[t107] R w fun t108 w =>
 n10c15 t1 t108 R w)
def n10c17 (t1:Value) (K8:KV) (R:RT) (w:World):Prop :=
 F0 28 t1 1 R w fun t98 w =>
 L0 26 t98 R w fun t99 w =>
 opV Pg (Instr.indexAt 26 t99 (.int .i64 0)) (panK R) w fun t100 w =>
 L0 24 t100 R w fun t101 w =>
 opV Pg (Instr.buildSlice 30 1 #[(0,(.int .i64 0))]) (panK R) w fun t102 w =>
 C0 18 #[t101,(.int .i64 9),t102] R w fun t103 w =>
 opV Pg (Op.unary .not t103) (panK R) w fun t104 w =>
 K8 t104 w
def n10c18 (t1 t91 t95:Value) (R:RT) (w:World):Prop :=
 pickK t91 (.bool true) t95 fun t96 =>
 joinK (fun (t104:Value) (w:World) =>
 n10c16 t1 t96 t104 R w) fun K8 =>
 guardP t96 false (
 n10c17 t1 K8 R w) (
 K8 undef w)
def n10c19 (t1 t2 t87 t90:Value) (R:RT) (w:World):Prop :=
 pickK t87 (.bool true) t90 fun t91 =>
 joinK (fun (t95:Value) (w:World) =>
 n10c18 t1 t91 t95 R w) fun K7 =>
 guardP t91 false (
 L0 24 t2 R w fun t93 w =>
 C0 18 #[t93,(.int .i64 9),(Value.slice none 0 0)] R w fun t94 w =>
 opV Pg (Op.unary .not t94) (panK R) w fun t95 w =>
 K7 t95 w) (
 K7 undef w)
def n10c20 (t1 t2 t69 t83 t86:Value) (R:RT) (w:World):Prop :=
 pickK t83 (.bool true) t86 fun t87 =>
 joinK (fun (t90:Value) (w:World) =>
 n10c19 t1 t2 t87 t90 R w) fun K6 =>
 guardP t87 false (
 B0 .neq 31 true t69 (.int .i64 0) R w fun t90 w =>
 K6 t90 w) (
 K6 undef w)
def n10c21 (t1 t2 t64 t69 t77 t82:Value) (R:RT) (w:World):Prop :=
 pickK t77 (.bool true) t82 fun t83 =>
 joinK (fun (t86:Value) (w:World) =>
 n10c20 t1 t2 t69 t83 t86 R w) fun K5 =>
 guardP t83 false (
 B0 .neq 31 true t64 (.int .i64 0) R w fun t86 w =>
 K5 t86 w) (
 K5 undef w)
def n10c22 (t1 t2 t64 t68 t69 t71 t76:Value) (R:RT) (w:World):Prop :=
 pickK t71 (.bool true) t76 fun t77 =>
 joinK (fun (t82:Value) (w:World) =>
 n10c21 t1 t2 t64 t69 t77 t82 R w) fun K4 =>
 guardP t77 false (
 opV Pg (Instr.buildSlice 30 1 #[(0,(.int .i64 4))]) (panK R) w fun t80 w =>
 C0 14 #[t68,t80] R w fun t81 w =>
 opV Pg (Op.unary .not t81) (panK R) w fun t82 w =>
 K4 t82 w) (
 K4 undef w)
def n10c23 (t1 t2 t59 t63 t64 t67:Value) (R:RT) (w:World):Prop :=
 opV Pg (Instr.extract t67 0) (panK R) w fun t68 w =>
 opV Pg (Instr.extract t67 1) (panK R) w fun t69 w =>
 B0 .neq 31 true t59 (.int .i64 3) R w fun t71 w =>
 joinK (fun (t76:Value) (w:World) =>
 n10c22 t1 t2 t64 t68 t69 t71 t76 R w) fun K3 =>
 guardP t71 false (
 opV Pg (Instr.buildSlice 30 1 #[(0,(.int .i64 2))]) (panK R) w fun t74 w =>
 C0 14 #[t63,t74] R w fun t75 w =>
 opV Pg (Op.unary .not t75) (panK R) w fun t76 w =>
 K3 t76 w) (
 K3 undef w)
def n10c24 (t1 t2 t59 t62:Value) (R:RT) (w:World):Prop :=
 opV Pg (Instr.extract t62 0) (panK R) w fun t63 w =>
 opV Pg (Instr.extract t62 1) (panK R) w fun t64 w =>
 L0 24 t2 R w fun t66 w =>
 C0 13 #[t66,(.int .i64 2)] R w fun t67 w =>
 n10c23 t1 t2 t59 t63 t64 t67 R w
def n10c25 (t1 t2 t57:Value) (R:RT) (w:World):Prop :=
 opV Pg (Instr.extract t57 0) (panK R) w fun t58 w =>
 opV Pg (Instr.extract t57 1) (panK R) w fun t59 w =>
 L0 24 t2 R w fun t61 w =>
 C0 13 #[t61,(.int .i64 0)] R w fun t62 w =>
 n10c24 t1 t2 t59 t62 R w
def n10c26 (t2 t33 t35:Value) (next1:KV) (R:RT) (w:World):Prop :=
 X0q 78 t33 t35 R w fun t38 w =>
 L0 30 t38 R w fun t39 w =>
 L0 24 t2 R w fun t41 w =>
 C0 12 #[t41,t35] R w fun t43 w =>
 n10c2 t35 t39 t43 next1 R w
def n10c27 (t1 t2 t33 t34 t35:Value) (next1:KV) (R:RT) (w:World):Prop :=
 B0 .lss 3 false t35 t34 R w fun t36 w =>
 condP t36 (
 n10c26 t2 t33 t35 next1 R w) (
 L0 24 t2 R w fun t56 w =>
 C0 12 #[t56,(.int .i64 5)] R w fun t57 w =>
 n10c25 t1 t2 t57 R w)
def n10c28 (t23:Value) (R:RT) (w:World):Prop :=
 opV Pg (Instr.alloc 28 true (.tuple #[])) (panK R) w fun t1 w =>
 opU Pg (Instr.storeAt 28 t1 t23) (panK R) w fun w =>
 F0 28 t1 1 R w fun t24 w =>
 L0 26 t24 R w fun t25 w =>
 opV Pg (Instr.indexAt 26 t25 (.int .i64 2)) (panK R) w fun t26 w =>
 L0 24 t26 R w fun t27 w =>
 opV Pg (Instr.alloc 24 true (.tuple #[])) (panK R) w fun t2 w =>
 opU Pg (Instr.storeAt 24 t2 t27) (panK R) w fun w =>
 opV Pg (Instr.buildSlice 30 0 #[]) (panK R) w fun t28 w =>
 opV Pg (Instr.buildSlice 30 0 #[]) (panK R) w fun t29 w =>
 opV Pg (Instr.buildSlice 30 1 #[(0,(.int .i64 0))]) (panK R) w fun t30 w =>
 opV Pg (Instr.buildSlice 30 1 #[(0,(.int .i64 1))]) (panK R) w fun t31 w =>
 opV Pg (Instr.buildSlice 30 1 #[(0,(.int .i64 2))]) (panK R) w fun t32 w =>
 opV Pg (Instr.buildSlice 78 5 #[(0,t28),(1,t29),(2,t30),(3,t31),(4,t32)]) (panK R) w fun t33 w =>
 opV Pg (Builtin.len_ #[78] 3 #[t33]) (panK R) w fun t34 w =>
 loop1 (fun t35 w next1 =>
 n10c27 t1 t2 t33 t34 t35 next1 R w) (.int .i64 0) w
def n10 (R:RT) (w:World):Prop :=
 C0 38 #[] R w fun t23 w =>
 n10c28 t23 R w
set_option maxHeartbeats 40000000 in
theorem n10s {R:RT} {w:World} (h:n10 R w):Calls Pg 11 #[] w R:=by
 refine yD Tryz.func11 ?_
 refine zs<|zr<|zm<|zn<|zk<|zs<|zr<|yc h c38 fun _ w h=>yv h fun _ w h=>yu h fun w h=>zn<|zk<|zs<|zr<|yv h fun _ w h=>?_
 refine yv h fun _ w h=>yv h fun _ w h=>yv h fun _ w h=>yv h fun _ w h=>yu h fun w h=>zn<|zk<|zs<|zs<|zr<|yS h fun _ w h=>yS h fun _ w h=>yS h fun _ w h=>yS h fun _ w h=>yS h fun _ w h=>?_
 refine yS h fun _ w h=>yx h fun _ w h=>zm<|zn<|zk<|sim_block<|yl1 [0,3,4,5,6,35,36,37,38,39,40,41,42,43,44,45,46,47,48,49,50,51,52,53,54] 35 h fun σ w next h=>zs<|zr<|yb h fun _ w h=>zn<|zk<|zs<|yC h (fun h=>?_) fun h=>?_
 · refine sim_skip<|zk<|zs<|sim_block<|zs<|zr<|zm<|yv h fun _ w h=>yv h fun _ w h=>zm<|zm<|zn<|zk<|zs<|zr ?_
   refine yv h fun _ w h=>zm<|yc h c12 fun _ w h=>zm<|yv h fun _ w h=>yv h fun _ w h=>zm<|zm<|zn<|zk<|zs<|sim_regionG<|yG 5<|zm<|zm ?_
   refine yc h c14 fun _ w h=>yv h fun _ w h=>zm<|zn<|yg1 2 4 false [51,52] 52 h (fun _ T hT h=>?_) fun σ w h=>?_
   · refine zm<|yb h fun _ w h=>zn ?_
     exact zt hT h
   refine yG 1<|yp h fun _ h=>zn<|sim_end<|zk<|yC h (fun h=>zs<|zr<|zm<|zn<|zk<|sim_ret<|sim_block_ret<|sim_then_ret<|sim_then_ret<|sim_block_ret<|sim_then_ret<|body_ret1 rfl rfl h) fun h=>sim_skip<|sim_block_normal<|zk<|zr<|yb h fun _ w h=>zm<|zn<|zk ?_
   exact ⟨rfl,h⟩
 refine sim_exit<|sim_then_exit<|sim_then_exit<|sim_block_hit<|zk<|zs<|zr<|yv h fun _ w h=>yc h c12 fun _ w h=>zm<|yv h fun _ w h=>yv h fun _ w h=>zm<|zm<|zn ?_
 refine zk<|zs<|zr<|yv h fun _ w h=>yc h c13 fun _ w h=>zm<|yv h fun _ w h=>yv h fun _ w h=>zm<|zm<|zn<|zk<|zs<|zr<|yv h fun _ w h=>?_
 refine yc h c13 fun _ w h=>zm<|yv h fun _ w h=>yv h fun _ w h=>zm<|zm<|zn<|zk<|zs<|zs<|sim_regionG<|yG 3<|zm<|yb h fun _ w h=>zm ?_
 refine zn<|yg1 4 2 false [73,74,75,76] 76 h (fun _ T hT h=>?_) fun σ w h=>?_
 · refine zm<|yS h fun _ w h=>yc h c14 fun _ w h=>yv h fun _ w h=>zn ?_
   exact zt hT h
 refine yG 2<|yp h fun _ h=>zm<|zn<|yg1 4 8 false [79,80,81,82] 82 h (fun _ T hT h=>?_) fun σ w h=>?_
 · refine zm<|yS h fun _ w h=>yc h c14 fun _ w h=>yv h fun _ w h=>zn ?_
   exact zt hT h
 refine yG 2<|yp h fun _ h=>zm<|zn<|yg1 2 14 false [85,86] 86 h (fun _ T hT h=>?_) fun σ w h=>?_
 · refine zm<|yb h fun _ w h=>zn ?_
   exact zt hT h
 refine yG 2<|yp h fun _ h=>zm<|zn<|yg1 2 18 false [89,90] 90 h (fun _ T hT h=>?_) fun σ w h=>?_
 · refine zm<|yb h fun _ w h=>zn ?_
   exact zt hT h
 refine yG 2<|yp h fun _ h=>zm<|zn<|yg1 3 22 false [93,94,95] 95 h (fun _ T hT h=>?_) fun σ w h=>?_
 · refine yv h fun _ w h=>yc h c18 fun _ w h=>yv h fun _ w h=>zn ?_
   exact zt hT h
 refine yG 2<|yp h fun _ h=>zm<|zn<|yg1 7 27 false [98,99,100,101,102,103,104] 104 h (fun _ T hT h=>?_) fun σ w h=>?_
 · refine yv h fun _ w h=>yv h fun _ w h=>yv h fun _ w h=>yv h fun _ w h=>yS h fun _ w h=>yc h c18 fun _ w h=>yv h fun _ w h=>zn ?_
   exact zt hT h
 refine yG 1<|yp h fun _ h=>zn<|sim_end<|zk<|yC h (fun h=>zs<|zr<|zm<|zn<|zk<|sim_ret<|sim_then_ret<|body_ret1 rfl rfl h) fun h=>sim_skip<|zk<|zs<|zr<|yv h fun _ w h=>yc h c20 fun _ w h=>zm<|yv h fun _ w h=>?_
 refine yv h fun _ w h=>zm<|zm<|zn<|zk<|zs<|zr<|yv h fun _ w h=>yc h c21 fun _ w h=>zm<|yv h fun _ w h=>yv h fun _ w h=>zm<|zm<|zn ?_
 refine zk<|zs<|zr<|yv h fun _ w h=>yc h c24 fun _ w h=>zm<|yv h fun _ w h=>yv h fun _ w h=>zm<|zm<|zn<|zk<|zs<|zr<|yv h fun _ w h=>?_
 refine yc h c24 fun _ w h=>zm<|yv h fun _ w h=>yv h fun _ w h=>zm<|zm<|zn<|zk<|zs<|zr<|yv h fun _ w h=>yc h c24 fun _ w h=>zm<|yv h fun _ w h=>yv h fun _ w h=>?_
 refine zm<|zm<|zn<|zk<|zs<|sim_regionG<|yG 4<|zm<|yS h fun _ w h=>yc h c14 fun _ w h=>zm<|zn<|yg1 3 3 true [135,136,137] 137 h (fun _ T hT h=>?_) fun σ w h=>?_
 · refine zm<|yS h fun _ w h=>yc h c14 fun _ w h=>zn ?_
   exact zt hT h
 refine yG 2<|yp h fun _ h=>zm<|zn<|yg1 3 8 true [140,141,142] 142 h (fun _ T hT h=>?_) fun σ w h=>?_
 · refine zm<|yS h fun _ w h=>yc h c14 fun _ w h=>zn ?_
   exact zt hT h
 refine yG 2<|yp h fun _ h=>zm<|zn<|yg1 3 13 true [145,146,147] 147 h (fun _ T hT h=>?_) fun σ w h=>?_
 · refine zm<|yS h fun _ w h=>yc h c14 fun _ w h=>zn ?_
   exact zt hT h
 refine yG 2<|yp h fun _ h=>zm<|zn<|yg1 2 18 true [150,151] 151 h (fun _ T hT h=>?_) fun σ w h=>?_
 · refine zm<|yb h fun _ w h=>zn ?_
   exact zt hT h
 refine yG 2<|yp h fun _ h=>zm<|zn<|yg1 2 22 true [154,155] 155 h (fun _ T hT h=>?_) fun σ w h=>?_
 · refine zm<|yb h fun _ w h=>zn ?_
   exact zt hT h
 refine yG 2<|yp h fun _ h=>zm<|zn<|yg1 2 26 true [158,159] 159 h (fun _ T hT h=>?_) fun σ w h=>?_
 · refine zm<|yb h fun _ w h=>zn ?_
   exact zt hT h
 refine yG 2<|yp h fun _ h=>zm<|zn<|yg1 2 30 true [162,163] 163 h (fun _ T hT h=>?_) fun σ w h=>?_
 · refine zm<|yb h fun _ w h=>zn ?_
   exact zt hT h
 refine yG 2<|yp h fun _ h=>zm<|zn<|yg1 2 34 true [166,167] 167 h (fun _ T hT h=>?_) fun σ w h=>?_
 · refine zm<|yb h fun _ w h=>zn ?_
   exact zt hT h
 exact yG 2<|yp h fun _ h=>zm<|zn<|sim_end<|zk<|sim_ret<|body_ret1 rfl rfl h
def n79c1 (t1 t2 t8:Value) (R:RT) (w:World):Prop :=
 opV Pg (Op.unary .not t8) (panK R) w fun t9 w =>
 condP t9 (
 R (.returned (.tuple #[(Value.slice none 0 0),(.int .i64 3)])) w) (
 L0 24 t2 R w fun t10 w =>
 C0 40 #[t10,t1] R w fun t12 w =>
 R (.returned (.tuple #[t12,(.int .i64 0)])) w)
def n79 (t0 t1:Value) (R:RT) (w:World):Prop :=
 opV Pg (Instr.box 24 t0) (panK R) w fun t2 w =>
 L0 24 t2 R w fun t6 w =>
 C0 39 #[t6,t1] R w fun t8 w =>
 n79c1 t1 t2 t8 R w
theorem n79s {t0 t1:Value} {R:RT} {w:World} (h:n79 t0 t1 R w):Calls Pg 12 #[t0,t1] w R:=by
 refine yD Tryz.func12 ?_
 refine zs<|zr<|yv h fun _ w h=>zm<|zm<|zn<|zk<|zs<|zs<|zr<|yv h fun _ w h=>zm<|yc h c39 fun _ w h=>yv h fun _ w h=>zn ?_
 refine zk<|yC h (fun h=>zs<|zr<|zm<|zm<|zn<|zk<|sim_ret<|sim_then_ret<|body_ret2 rfl rfl rfl h) fun h=>sim_skip<|zk<|zs<|zr<|yv h fun _ w h=>zm<|yc h c40 fun _ w h=>zm<|zm<|zn<|zk<|sim_ret ?_
 exact body_ret2 rfl rfl rfl h
def n77c1 (t2 t3:Value) (R:RT) (w:World):Prop :=
 F0 24 t2 1 R w fun t10 w =>
 L0 22 t10 R w fun t11 w =>
 opV Pg (Instr.makeFunc (.func 42) #[] #[t2,t3]) (panK R) w fun t12 w =>
 C0 41 #[t11,t12] R w fun t13 w =>
 R (.returned (.tuple #[t13,(.int .i64 0)])) w
def n77 (t0 t1:Value) (R:RT) (w:World):Prop :=
 opV Pg (Instr.box 24 t0) (panK R) w fun t2 w =>
 opV Pg (Instr.box 3 t1) (panK R) w fun t3 w =>
 L0 24 t2 R w fun t6 w =>
 L0 3 t3 R w fun t7 w =>
 C0 39 #[t6,t7] R w fun t8 w =>
 opV Pg (Op.unary .not t8) (panK R) w fun t9 w =>
 condP t9 (
 R (.returned (.tuple #[(Value.slice none 0 0),(.int .i64 3)])) w) (
 n77c1 t2 t3 R w)
theorem n77s {t0 t1:Value} {R:RT} {w:World} (h:n77 t0 t1 R w):Calls Pg 13 #[t0,t1] w R:=by
 refine yD Tryz.func13 ?_
 refine zs<|zr<|yv h fun _ w h=>yv h fun _ w h=>zm<|zm<|zn<|zk<|zs<|zs<|zr<|yv h fun _ w h=>yv h fun _ w h=>yc h c39 fun _ w h=>yv h fun _ w h=>?_
 refine zn<|zk<|yC h (fun h=>zs<|zr<|zm<|zm<|zn<|zk<|sim_ret<|sim_then_ret<|body_ret2 rfl rfl rfl h) fun h=>sim_skip<|zk<|zs<|zr<|yv h fun _ w h=>yv h fun _ w h=>yF h fun _ w h=>yc h c41 fun _ w h=>zm<|zm<|zn ?_
 exact zk<|sim_ret<|body_ret2 rfl rfl rfl h
open Go.RowKit (intOf Below)
def sumF (l:List MsgD):Nat:=(l.map fun m=>m.fields.length).sum
def okF (f:FieldD):Prop:=f.cases.length≤50∧f.terms.length≤10
def fitsP (d:DefD):Prop:=d.msgs.length≤70∧sumF d.msgs≤400∧∀ m∈d.msgs,∀ f∈m.fields,okF f
theorem sumF_take {l:List MsgD} {k:Nat} {x:MsgD} (hx:l[k]?=some x):sumF (l.take (k+1))=sumF (l.take k)+x.fields.length:=by
 rw [take_snoc hx];simp [sumF]
theorem le_sumF {l:List MsgD} {m:MsgD} (h:m∈l):m.fields.length≤sumF l:=by
 unfold sumF
 induction l with
 | nil=>cases h
 | cons a l ih =>
  rcases List.mem_cons.1 h with rfl | h
  · simp
  · have:=ih h;simp at this ⊢;omega
theorem forall_take {α:Type} {p:α→Prop} {l:List α} {k:Nat} {x:α} (h:∀ y∈l.take k,p y) (hx:l[k]?=some x) (hp:p x):∀ y∈l.take (k+1),p y:=by
 rw [take_snoc hx]
 intro y hy
 rcases List.mem_append.1 hy with hy | hy
 · exact h y hy
 · simp only [List.mem_singleton] at hy;subst hy;exact hp
theorem fits_ret (w0:World) (v:Value) (d:DefD) (hd:DefVal w0 v d) (hs:DefSm d):Ret Pg 10 #[v] w0 fun r w'=>∃ b,r = .bool b∧(b=true→fitsP d)∧Ext w0 w':=by
 obtain ⟨mv,rfl,hM⟩:=hd
 obtain ⟨A,c,rfl,hlc,hcm,hlm,hel⟩:=SliceOf.open hM
 refine n5s (R:=retR _) ?_;unfold n5
 simp (disch:=try exact DI) only [↓PR,QR,simprocAttr]
 have hBW:=ElemAt.new (w:=w0) (defCells d (.slice A d.msgs.length c)) (28)
 have eW:Ext w0 (w0.alloc (Obj.cells (List.toArray (defCells d (.slice A d.msgs.length c))) (28))):=(Ext.refl _).alloc _
 generalize (w0.alloc (Obj.cells (List.toArray (defCells d (.slice A d.msgs.length c))) (28)))=W at hBW eW ⊢
 refine loop2_intro (fun a0 a1 w=>∃ (k:Nat) , a0 = .int .i64 (sumF (d.msgs.take k):Nat)∧a1 = .int .i64 (k:Int)∧k≤d.msgs.length∧Ext W w∧sumF (d.msgs.take k)≤400∧∀ m∈d.msgs.take k,∀ f∈m.fields,okF f) (fun a0 a1 _=>d.msgs.length - (intOf a1).toNat) ⟨0,rfl,rfl,Nat.zero_le _,ee,⟨by simp [sumF],by simp⟩⟩ ?_
 rintro _ _ w ⟨k,rfl,rfl,hk,e,hI⟩
 have se:=e.size
 rcases drop_cases hk with ⟨x,hx,hd,hlt,hdec⟩ | ⟨hk,hd,hdec⟩
 · obtain ⟨h400,hok⟩:=hI
   obtain ⟨b,o,cs,rfl,hl,hA,fv,rfl,hF⟩:=hel k x hx
   obtain ⟨A2,c2,rfl,hlc2,hcm2,hlm2,hel2⟩:=SliceOf.open hF
   have hxm:=List.mem_of_getElem? hx
   have hsx:=hs.2 x hxm
   have hx1:=hsx.1
   have e':=eW.trans e
   unfold n5c5
   by_cases hk70:k≤70
   · have d1:decide ((k:Int)≤70)=true:=by simp;omega
     simp (disch:=try exact DI) only [↓PR,QR,simprocAttr,hBW.c3,hdec,d1]
     unfold n5c4
     have hwr:IntKind.i64.wrap ((sumF (d.msgs.take k):Int)+(x.fields.length:Int))=((sumF (d.msgs.take (k+1)):Nat):Int):=by
      rw [sumF_take hx,wrap_ok (by omega) (by omega)];omega
     by_cases hn:sumF (d.msgs.take (k+1))≤400
     · have d2:decide (((sumF (d.msgs.take (k+1)):Nat):Int) > 400)=false:=by simp;omega
       simp (disch:=try exact DI) only [↓PR,QR,simprocAttr,hBW.c3,(hA.c2 e').1,(hA.c2 e').2,hwr,d2]
       rw [hwr]
       refine loop1_intro (fun a0 wb=>∃ (kb:Nat) , a0 = .int .i64 (kb:Int)∧kb≤x.fields.length∧Ext w wb∧∀ f∈x.fields.take kb,okF f) (fun a0 _=>x.fields.length - (intOf a0).toNat) ⟨0,rfl,Nat.zero_le _,ee,by simp⟩ ?_
       rintro _ wb ⟨kb,rfl,hkb,eb,hIb⟩
       have seb:=eb.size
       rcases drop_cases hkb with ⟨xb,hxb,hdb,hltb,hdecb⟩ | ⟨hkb,hdb,hdecb⟩
       · obtain ⟨b2,o2,cs2,rfl,hl2,hA2,hE2⟩:=hel2 kb xb hxb
         obtain ⟨tv,cv,rfl,hT,hC,ht1,hc1⟩:=hE2.op
         obtain ⟨A3,c3,rfl,hlc3,hcm3,hlm3,hel3⟩:=SliceOf.open hC
         obtain ⟨A4,c4,rfl,hlc4,hcm4,hlm4,hel4⟩:=SliceOf.open hT
         have eb':=e'.trans eb
         unfold n5c2
         simp (disch:=try exact DI) only [↓PR,QR,simprocAttr,hdecb]
         unfold n5c1
         have hcell:=hA2.c15 eb'
         by_cases hc50:xb.cases.length≤50
         · have d3:decide ((xb.cases.length:Int) > 50)=false:=by simp;omega
           by_cases ht10:xb.terms.length≤10
           · have d4:decide ((xb.terms.length:Int) > 10)=false:=by simp;omega
             simp (disch:=try exact DI) only [↓PR,QR,simprocAttr,hcell,d3,d4]
             exact ⟨⟨kb+1,rfl,by omega,ee,forall_take hIb hxb ⟨hc50,ht10⟩⟩,meas_lt (kd := .i64) hltb⟩
           · have d4:decide ((xb.terms.length:Int) > 10)=true:=by simp;omega
             simp (disch:=try exact DI) only [↓PR,QR,simprocAttr,hcell,d3,d4]
             exact ⟨false,rfl,by simp,ee⟩
         · have d3:decide ((xb.cases.length:Int) > 50)=true:=by simp;omega
           simp (disch:=try exact DI) only [↓PR,QR,simprocAttr,hcell,d3]
           exact ⟨false,rfl,by simp,ee⟩
       · subst hkb
         rw [List.take_length] at hIb
         unfold n5c2
         simp (disch:=try exact DI) only [↓PR,QR,simprocAttr,hdecb]
         exact ⟨⟨k+1,rfl,rfl,by omega,ee,⟨hn,forall_take hok hx hIb⟩⟩,meas_lt (kd := .i64) hlt⟩
     · have d2:decide (((sumF (d.msgs.take (k+1)):Nat):Int) > 400)=true:=by simp;omega
       simp (disch:=try exact DI) only [↓PR,QR,simprocAttr,hBW.c3,(hA.c2 e').1,(hA.c2 e').2,hwr,d2]
       exact ⟨false,rfl,by simp,ee⟩
   · have d1:decide ((k:Int)≤70)=false:=by simp;omega
     have d2:decide ((d.msgs.length:Int)≤70)=false:=by simp;omega
     simp (disch:=try exact DI) only [↓PR,QR,simprocAttr,hBW.c3,hdec,d1,n5c3,d2]
     exact ⟨false,rfl,by simp,ee⟩
 · subst hk
   obtain ⟨h400,hok⟩:=hI
   rw [List.take_length] at h400 hok
   unfold n5c5
   simp (disch:=try exact DI) only [↓PR,QR,simprocAttr,hBW.c3,hdec,n5c3]
   exact ⟨_,rfl,fun hb=>⟨by have:=of_decide_eq_true hb;omega,h400,hok⟩,ee⟩
def n13c1 (t0 t1 t5:Value) (C2:World→Prop) (next1:KV) (R:RT) (w:World):Prop :=
 qV Pg C2 (Instr.indexAt 30 t0 t5) fun t19 =>
 qV Pg C2 (Instr.loadAt 3 t19) fun t20 =>
 qV Pg C2 (Instr.indexAt 30 t1 t5) fun t23 =>
 qV Pg C2 (Instr.loadAt 3 t23) fun t24 =>
 qV Pg C2 (binS .neq 3 false t20 t24) fun t25 =>
 condP t25 (
 R (.returned (.bool false)) w) (
 B0 .add 3 true t5 (.int .i64 1) R w fun t16 w =>
 next1 t16 w)
def n13c2 (t0 t1 t5:Value) (next1:KV) (R:RT) (w:World):Prop :=
 opV Pg (Builtin.len_ #[30] 3 #[t0]) (panK R) w fun t13 w =>
 B0 .lss 3 false t5 t13 R w fun t14 w =>
 condP t14 (
 drawK w fun C2 w =>
 n13c1 t0 t1 t5 C2 next1 R w) (
 R (.returned (.bool true)) w)
def n13 (t0 t1:Value) (R:RT) (w:World):Prop :=
 opV Pg (Builtin.len_ #[30] 3 #[t0]) (panK R) w fun t7 w =>
 opV Pg (Builtin.len_ #[30] 3 #[t1]) (panK R) w fun t9 w =>
 B0 .neq 3 false t7 t9 R w fun t10 w =>
 condP t10 (
 R (.returned (.bool false)) w) (
 loop1 (fun t5 w next1 =>
 n13c2 t0 t1 t5 next1 R w) (.int .i64 0) w)
theorem n13s {t0 t1:Value} {R:RT} {w:World} (h:n13 t0 t1 R w):Calls Pg 14 #[t0,t1] w R:=by
 refine yD Tryz.func14 ?_
 refine zs<|zr<|zm<|zn<|zk<|zs<|zs<|zr<|zm<|yx h fun _ w h=>zm<|yx h fun _ w h=>yb h fun _ w h=>zn<|zk ?_
 refine yC h (fun h=>zs<|zr<|zm<|zn<|zk<|sim_ret<|sim_then_ret<|body_ret1 rfl rfl h) fun h=>sim_skip<|zk<|zs<|zs<|zr<|zm<|zn<|zk<|sim_block<|yl1 [4,5,11,12,13,14,15,16,17,18,19,20,21,22,23,24,25] 5 h fun σ w next h=>zs<|zs<|zr ?_
 refine zm<|zm<|yx h fun _ w h=>yb h fun _ w h=>zn<|zk<|yC h (fun h=>?_) fun h=>?_
 · refine sim_skip<|zk<|zs<|sim_block<|zs<|yh [17,18,19,20,21,22,23,24,25] h fun C hC h=>yw 0 hC ?_
   refine yw 1 hC ?_
   refine ye 2 hC h fun _ h=>?_
   refine ye 3 hC h fun _ h=>?_
   refine yw 4 hC ?_
   refine yw 5 hC ?_
   refine ye 6 hC h fun _ h=>?_
   refine ye 7 hC h fun _ h=>?_
   refine ye 8 hC h fun _ h=>?_
   exact yz<|zk<|yC h (fun h=>zs<|zr<|zm<|zn<|zk<|sim_ret<|sim_block_ret<|sim_then_ret<|sim_then_ret<|sim_block_ret<|sim_then_ret<|body_ret1 rfl rfl h) fun h=>sim_skip<|sim_block_normal<|zk<|zr<|zm<|yb h fun _ w h=>zm<|zn<|zk<|⟨rfl,h⟩
 exact sim_exit<|sim_then_exit<|sim_then_exit<|sim_block_hit<|zk<|zs<|zr<|zm<|zn<|zk<|sim_ret<|body_ret1 rfl rfl h
def n18c1 (t1 t2 t7 t8 t9 t15:Value) (C3:World→Prop) (next2:KW) (R:RT) (w:World):Prop :=
 joinK (fun (t37:Value) (w:World) =>
 pickK t8 (.bool true) t37 fun t38 =>
 B0 .add 3 true t9 (.int .i64 1) R w fun t26 w =>
 next2 t38 t26 w) fun K4 =>
 guardP t8 false (
 qV Pg C3 (Instr.loadAt 24 t2) fun t29 =>
 qV Pg C3 (Instr.indexAt 82 t15 t9) fun t32 =>
 qV Pg C3 (Instr.loadAt 9 t32) fun t33 =>
 C0 45 #[t29,t33,t1] R w fun t35 w =>
 C3 w∧(
 qV Pg C3 (binS .eql 3 false t35 t7) fun t37 =>
 K4 t37 w)) (
 K4 undef w)
def n18c2 (t5 t7 t8:Value) (next1:KW) (R:RT) (w:World):Prop :=
 joinK (fun (t5:Value) (w:World) =>
 B0 .add 3 true t7 (.int .i64 1) R w fun t20 w =>
 next1 t5 t20 w) fun K5 =>
 condP t8 (
 opV Pg (Instr.buildSlice 30 1 #[(0,t7)]) (panK R) w fun t42 w =>
 opV Pg (Builtin.append_ #[30,30] 30 #[t5,t42]) (panK R) w fun t43 w =>
 K5 t43 w) (
 K5 t5 w)
def n18c3 (t1 t2 t5 t7 t8 t9 t15:Value) (next1:KW) (next2:KW) (R:RT) (w:World):Prop :=
 opV Pg (Builtin.len_ #[82] 3 #[t15]) (panK R) w fun t23 w =>
 B0 .lss 3 false t9 t23 R w fun t24 w =>
 condP t24 (
 drawK w fun C3 w =>
 n18c1 t1 t2 t7 t8 t9 t15 C3 next2 R w) (
 n18c2 t5 t7 t8 next1 R w)
def n18c4 (t1 t2 t5 t7 t15:Value) (next1:KW) (R:RT) (w:World):Prop :=
 B0 .lss 3 false t7 t1 R w fun t18 w =>
 condP t18 (
 loop2 (fun t8 t9 w next2 =>
 n18c3 t1 t2 t5 t7 t8 t9 t15 next1 next2 R w) (.bool false) (.int .i64 0) w) (
 R (.returned t5) w)
def n18 (t0 t1:Value) (R:RT) (w:World):Prop :=
 opV Pg (Instr.box 24 t0) (panK R) w fun t2 w =>
 F0 24 t2 1 R w fun t10 w =>
 L0 22 t10 R w fun t11 w =>
 X0q 22 t11 t1 R w fun t13 w =>
 L0 48 t13 R w fun t14 w =>
 C0 44 #[t14] R w fun t15 w =>
 loop2 (fun t5 t7 w next1 =>
 n18c4 t1 t2 t5 t7 t15 next1 R w) (Value.slice none 0 0) (.int .i64 0) w
theorem n18s {t0 t1:Value} {R:RT} {w:World} (h:n18 t0 t1 R w):Calls Pg 15 #[t0,t1] w R:=by
 refine yD Tryz.func15 ?_
 refine zs<|zr<|yv h fun _ w h=>zm<|zn<|zk<|zs<|zr<|zm<|zn<|zk<|zs<|zr<|yv h fun _ w h=>yv h fun _ w h=>?_
 refine zm<|yv h fun _ w h=>yv h fun _ w h=>yc h c44 fun _ w h=>zm<|zn<|zk<|zs<|zs<|zr<|zm<|zn<|zk<|sim_block<|yl2 [5,7,8,9,16,17,18,19,20,21,22,23,24,25,26,27,28,29,30,31,32,33,34,35,36,37,38,39,40,41,42,43] 5 7 h fun σ w next h=>?_
 refine zs<|zs<|zr<|zm<|zm<|yb h fun _ w h=>zn<|zk<|yC h (fun h=>?_) fun h=>?_
 · refine sim_skip<|zk<|zs<|sim_block<|zs<|zr<|zm<|zn<|zk<|zs<|zs<|zr<|zm<|zn<|zk ?_
   refine sim_block<|yl2 [8,9,21,22,23,24,25,26,27,28,29,30,31,32,33,34,35,36,37,38] 8 9 h fun σ w next h=>zs<|zs<|zr<|zm<|zm<|yx h fun _ w h=>yb h fun _ w h=>zn<|zk<|yC h (fun h=>?_) fun h=>?_
   · refine sim_skip<|zk<|zs<|sim_block<|yh [8,27,28,29,30,31,32,33,34,35,36,37,38] h fun C hC h=>yw 0 hC ?_
     refine yw 1 hC ?_
     refine yj1 2 [10,8,9,7,6,5,4,3,2,1,0] [29,30,31,32,33,34,35,36,37] 37 h (fun _ hT hb h=>?_) (fun _ hT hb h=>?_) fun σ w hC h=>?_
     · refine ye 2 hC h fun _ h=>?_
       refine yw 3 hC ?_
       refine yw 4 hC ?_
       refine ye 5 hC h fun _ h=>?_
       refine ye 6 hC h fun _ h=>?_
       refine yw 7 hC ?_
       refine yw 9 hC ?_
       refine yo 8 ?_
       refine yc h c45 fun _ w h=>zn ?_
       obtain ⟨hC,h⟩:=h
       refine ⟨hC,?_⟩
       refine ye 10 hC h fun _ h=>?_
       exact yt hT hC h
     · refine yi 2 hC ?_
       refine yi 3 hC ?_
       refine yi 4 hC ?_
       refine yi 5 hC ?_
       refine yi 6 hC ?_
       refine yi 7 hC ?_
       refine yi 9 hC ?_
       refine yi 8 hC ?_
       refine yi 10 hC ?_
       exact yt hT hC h
     refine yP 11 hC h fun _ h=>?_
     refine yw 12 hC ?_
     exact yz<|sim_block_normal<|zk<|zr<|zm<|yb h fun _ w h=>zm<|zn<|zk<|⟨rfl,h⟩
   refine sim_exit<|sim_then_exit<|sim_then_exit<|sim_block_hit<|zk<|zs<|zr<|zm<|zn<|zk<|yJ1 [5,40,41,42,43] 5 h (fun _ _ hkK5 h=>?_) fun σ w h=>?_
   · refine yC h (fun h=>?_) fun h=>?_
     · refine zr<|zm<|zm<|yS h fun _ w h=>yx h fun _ w h=>zm<|zn<|zk ?_
       exact zt hkK5 h
     refine sim_skip<|zk ?_
     exact zt hkK5 h
   exact sim_block_normal<|zk<|zr<|zm<|yb h fun _ w h=>zm<|zn<|zk<|⟨rfl,h⟩
 exact sim_exit<|sim_then_exit<|sim_then_exit<|sim_block_hit<|zk<|zs<|zr<|zm<|zm<|zn<|zk<|sim_ret<|body_ret1 rfl rfl h
def n17c1 (t5 t6 t20:Value) (next1:KW) (R:RT) (w:World):Prop :=
 joinK (fun (t5:Value) (w:World) =>
 B0 .add 3 true t6 (.int .i64 1) R w fun t15 w =>
 next1 t5 t15 w) fun K2 =>
 condP t20 (
 opV Pg (Instr.buildSlice 30 1 #[(0,t6)]) (panK R) w fun t23 w =>
 opV Pg (Builtin.append_ #[30,30] 30 #[t5,t23]) (panK R) w fun t24 w =>
 K2 t24 w) (
 K2 t5 w)
def n17c2 (t1 t2 t5 t6:Value) (next1:KW) (R:RT) (w:World):Prop :=
 L0 24 t2 R w fun t16 w =>
 C0 15 #[t16,t6] R w fun t18 w =>
 C0 46 #[t18,t1] R w fun t20 w =>
 n17c1 t5 t6 t20 next1 R w
def n17c3 (t1 t2 t5 t6:Value) (next1:KW) (R:RT) (w:World):Prop :=
 F0 24 t2 1 R w fun t10 w =>
 L0 22 t10 R w fun t11 w =>
 opV Pg (Builtin.len_ #[22] 3 #[t11]) (panK R) w fun t12 w =>
 B0 .lss 3 false t6 t12 R w fun t13 w =>
 condP t13 (
 n17c2 t1 t2 t5 t6 next1 R w) (
 R (.returned t5) w)
def n17 (t0 t1:Value) (R:RT) (w:World):Prop :=
 opV Pg (Instr.box 24 t0) (panK R) w fun t2 w =>
 B0 .add 3 true t1 (.int .i64 1) R w fun t8 w =>
 loop2 (fun t5 t6 w next1 =>
 n17c3 t1 t2 t5 t6 next1 R w) (Value.slice none 0 0) t8 w
theorem n17s {t0 t1:Value} {R:RT} {w:World} (h:n17 t0 t1 R w):Calls Pg 16 #[t0,t1] w R:=by
 refine yD Tryz.func16 ?_
 refine zs<|zr<|yv h fun _ w h=>zm<|zn<|zk<|zs<|zr<|zm<|zn<|zk<|zs<|zs<|zr<|zm ?_
 refine yb h fun _ w h=>zm<|zn<|zk<|sim_block<|yl2 [5,6,9,10,11,12,13,14,15,16,17,18,19,20,21,22,23,24] 5 6 h fun σ w next h=>zs<|zs<|zr<|zm<|yv h fun _ w h=>yv h fun _ w h=>yx h fun _ w h=>yb h fun _ w h=>zn ?_
 refine zk<|yC h (fun h=>?_) fun h=>?_
 · refine sim_skip<|zk<|zs<|sim_block<|zs<|zr<|yv h fun _ w h=>zm<|yc h c15 fun _ w h=>zm<|yc h c46 fun _ w h=>zn<|zk<|yJ1 [5,21,22,23,24] 5 h (fun _ _ hkK2 h=>?_) fun σ w h=>?_
   · refine yC h (fun h=>?_) fun h=>?_
     · refine zr<|zm<|zm<|yS h fun _ w h=>yx h fun _ w h=>zm<|zn<|zk ?_
       exact zt hkK2 h
     refine sim_skip<|zk ?_
     exact zt hkK2 h
   exact sim_block_normal<|zk<|zr<|zm<|yb h fun _ w h=>zm<|zn<|zk<|⟨rfl,h⟩
 exact sim_exit<|sim_then_exit<|sim_then_exit<|sim_block_hit<|zk<|zs<|zr<|zm<|zm<|zn<|zk<|sim_ret<|body_ret1 rfl rfl h
def n16c1 (t3 t4 t17 t23:Value) (next1:KW) (R:RT) (w:World):Prop :=
 pickK t17 t23 (.bool false) fun t24 =>
 joinK (fun (t3:Value) (w:World) =>
 B0 .add 3 true t4 (.int .i64 1) R w fun t11 w =>
 next1 t3 t11 w) fun K3 =>
 condP t24 (
 opV Pg (Instr.buildSlice 30 1 #[(0,t4)]) (panK R) w fun t27 w =>
 opV Pg (Builtin.append_ #[30,30] 30 #[t3,t27]) (panK R) w fun t28 w =>
 K3 t28 w) (
 K3 t3 w)
def n16c2 (t1 t3 t4 t17:Value) (next1:KW) (R:RT) (w:World):Prop :=
 joinK (fun (t23:Value) (w:World) =>
 n16c1 t3 t4 t17 t23 next1 R w) fun K2 =>
 guardP t17 true (
 L0 24 t1 R w fun t19 w =>
 C0 16 #[t19,t4] R w fun t21 w =>
 opV Pg (Builtin.len_ #[30] 3 #[t21]) (panK R) w fun t22 w =>
 B0 .eql 3 true t22 (.int .i64 0) R w fun t23 w =>
 K2 t23 w) (
 K2 undef w)
def n16c3 (t1 t3 t4:Value) (next1:KW) (R:RT) (w:World):Prop :=
 F0 24 t1 1 R w fun t12 w =>
 L0 22 t12 R w fun t13 w =>
 X0q 22 t13 t4 R w fun t15 w =>
 L0 48 t15 R w fun t16 w =>
 C0 47 #[t16] R w fun t17 w =>
 n16c2 t1 t3 t4 t17 next1 R w
def n16c4 (t1 t3 t4:Value) (next1:KW) (R:RT) (w:World):Prop :=
 F0 24 t1 1 R w fun t6 w =>
 L0 22 t6 R w fun t7 w =>
 opV Pg (Builtin.len_ #[22] 3 #[t7]) (panK R) w fun t8 w =>
 B0 .lss 3 false t4 t8 R w fun t9 w =>
 condP t9 (
 n16c3 t1 t3 t4 next1 R w) (
 R (.returned t3) w)
def n16 (t0:Value) (R:RT) (w:World):Prop :=
 opV Pg (Instr.box 24 t0) (panK R) w fun t1 w =>
 loop2 (fun t3 t4 w next1 =>
 n16c4 t1 t3 t4 next1 R w) (Value.slice none 0 0) (.int .i64 0) w
theorem n16s {t0:Value} {R:RT} {w:World} (h:n16 t0 R w):Calls Pg 17 #[t0] w R:=by
 refine yD Tryz.func17 ?_
 refine zs<|zr<|yv h fun _ w h=>zm<|zn<|zk<|zs<|zr<|zm<|zn<|zk<|zs<|zs<|zr<|zm ?_
 refine zn<|zk<|sim_block<|yl2 [3,4,5,6,7,8,9,10,11,12,13,14,15,16,17,18,19,20,21,22,23,24,25,26,27,28] 3 4 h fun σ w next h=>zs<|zs<|zr<|zm<|yv h fun _ w h=>yv h fun _ w h=>yx h fun _ w h=>yb h fun _ w h=>zn<|zk<|yC h (fun h=>?_) fun h=>?_
 · refine sim_skip<|zk<|zs<|sim_block<|zs<|sim_regionG<|yG 7<|yv h fun _ w h=>yv h fun _ w h=>zm<|yv h fun _ w h=>yv h fun _ w h=>yc h c47 fun _ w h=>zm<|zn ?_
   refine yg1 5 6 true [19,20,21,22,23] 23 h (fun _ T hT h=>?_) fun σ w h=>?_
   · refine yv h fun _ w h=>zm<|yc h c16 fun _ w h=>yx h fun _ w h=>yb h fun _ w h=>zn ?_
     exact zt hT h
   refine yG 1<|yp h fun _ h=>zn<|sim_end<|zk<|yJ1 [3,25,26,27,28] 3 h (fun _ _ hkK3 h=>?_) fun σ w h=>?_
   · refine yC h (fun h=>?_) fun h=>?_
     · refine zr<|zm<|zm<|yS h fun _ w h=>yx h fun _ w h=>zm<|zn<|zk ?_
       exact zt hkK3 h
     refine sim_skip<|zk ?_
     exact zt hkK3 h
   exact sim_block_normal<|zk<|zr<|zm<|yb h fun _ w h=>zm<|zn<|zk<|⟨rfl,h⟩
 exact sim_exit<|sim_then_exit<|sim_then_exit<|sim_block_hit<|zk<|zs<|zr<|zm<|zm<|zn<|zk<|sim_ret<|body_ret1 rfl rfl h
theorem same_ret (w0:World) (v u:Value) (l m:List Int) (hl:SliceOf w0 1 EInt v l) (hm:SliceOf w0 1 EInt u m) :
 Ret Pg 14 #[v,u] w0 fun r w'=>r = .bool (decide (l=m))∧Ext w0 w':=by
 obtain ⟨A,c,rfl,hlc,hcm,hlm,hel⟩:=SliceOf.open hl
 obtain ⟨A',c',rfl,hlc',hcm',hlm',hel'⟩:=SliceOf.open hm
 refine n13s (R:=retR _) ?_;unfold n13
 simp (disch:=try exact DI) only [↓PR,QR,simprocAttr]
 by_cases hlen:l.length=m.length
 · have hne:((l.length:Int) != (m.length:Int))=false:=by simp [hlen]
   simp (disch:=try exact DI) only [↓PR,QR,simprocAttr,hne]
   refine loop1_intro (fun a0 w=>∃ (k:Nat) , a0 = .int .i64 (k:Int)∧k≤l.length∧Ext w0 w∧l.take k=m.take k) (fun a0 _=>l.length - (intOf a0).toNat) ⟨0,rfl,Nat.zero_le _,ee,rfl⟩ ?_
   rintro _ w ⟨k,rfl,hk,e,hI⟩
   have se:=e.size
   rcases drop_cases hk with ⟨x,hx,hd,hlt,hdec⟩ | ⟨hk,hd,hdec⟩
   · obtain ⟨b,o,cs,rfl,_,hA,rfl⟩:=hel k x hx
     obtain ⟨y,hy⟩:=getElem?_lt (l:=m) (k:=k) (by omega)
     obtain ⟨b',o',cs',rfl,_,hA',rfl⟩:=hel' k y hy
     have hlt':k < m.length:=by omega
     have eD:Ext w0 w.drew:=e.wdrew
     simp (disch:=try exact DI) only [↓PR,QR,simprocAttr,↓n13c2,hdec]
     refine drawK_intro ?_
     unfold n13c1
     by_cases hxy:x=y
     · subst hxy
       have hxx:(x != x)=false:=by simp
       simp (disch:=try exact DI) only [↓PR,QR,simprocAttr,hA.c1,hA'.c1,hxx]
       exact ⟨⟨k+1,rfl,by omega,ee,by rw [List.take_add_one,List.take_add_one,hx,hy,hI]⟩,meas_lt (kd := .i64) hlt⟩
     · have hxx:(x != y)=true:=by simpa using hxy
       simp (disch:=try exact DI) only [↓PR,QR,simprocAttr,hA.c1,hA'.c1,hxx]
       have hne':¬ l=m:=by
        rintro rfl
        rw [hx] at hy
        injection hy with hy
        exact hxy hy
       exact ⟨by simp [hne'],eD⟩
   · subst hk
     simp (disch:=try exact DI) only [↓PR,QR,simprocAttr,↓n13c2,hdec]
     rw [List.take_length,hlen,List.take_length] at hI
     exact ⟨by simp [hI],e⟩
 · have hne:((l.length:Int) != (m.length:Int))=true:=by simp;omega
   simp (disch:=try exact DI) only [↓PR,QR,simprocAttr,hne]
   have hne':¬ l=m:=fun h=>hlen (by rw [h])
   exact ⟨by simp [hne'],Ext.refl _⟩
theorem slice_rows {α:Type} {w:World} {b n:Nat} {T:TypeId} {E:World→List Value→α→Prop} (css:List (List Value)) (l:List α) (hn0:0 < n) (h:w.heap[b]?=some (.cells css.flatten.toArray T (0,0))) (hn:∀ cs∈css,cs.length=n) (hl:l.length=css.length) (hb:l.length≤1048576) (hE:∀ (k:Nat) cs x,css[k]?=some cs→l[k]?=some x→E w cs x):SliceOf w n E (.slice (some ⟨b,0,none⟩) l.length l.length) l:=by
 refine ⟨_,_,rfl,Nat.le_refl _,by omega,fun _=>⟨b,0,rfl,fun k x hx=>?_⟩⟩
 obtain ⟨cs,hcs⟩:=getElem?_lt (l:=css) (k:=k) (by have:=(List.getElem?_eq_some_iff.1 hx).1;omega)
 refine ⟨cs,hn cs (List.mem_of_getElem? hcs),fun j u hu=>?_,hE k cs x hcs hx⟩
 rw [(cells_of_heap h).1]
 have hj:j < n:=by have:=(List.getElem?_eq_some_iff.1 hu).1;rw [hn cs (List.mem_of_getElem? hcs)] at this;exact this
 have key:∀ (css:List (List Value)) (k:Nat),(∀ cs∈css,cs.length=n)→css[k]?=some cs→css.flatten[k*n+j]?=some u:=by
  intro css
  induction css with
  | nil=>intro k _ h;cases h
  | cons c css ih =>
   intro k hn h
   have hc:=hn c (List.mem_cons_self ..)
   cases k with
   | zero =>
    injection h with h
    subst h
    rw [List.flatten_cons,Nat.zero_mul,Nat.zero_add,List.getElem?_append_left (by omega)]
    exact hu
   | succ k =>
    rw [List.flatten_cons,List.getElem?_append_right (by rw [hc,Nat.succ_mul];omega),hc,show (k+1)*n+j - n=k*n+j by rw [Nat.succ_mul];omega]
    exact ih k (fun cs hm=>hn cs (List.mem_cons_of_mem _ hm)) h
 have:=key css k hn hcs
 simpa using this
def zF:FieldD:={ name:=ByteArray.empty,kind:=0,bits:=0,little:=false,loose:=false,low:=0,high:=0,base:=0,terms:=[],of:=ByteArray.empty,tag:=ByteArray.empty,fr:=ByteArray.empty,cases:=[],check:=0,key:=0 }
def fN:FieldD:={ zF with name:=⟨#[110]⟩,kind:=1,bits:=8,high:=9 }
def fX:FieldD:={ zF with name:=⟨#[120]⟩,kind:=8,of:=⟨#[97]⟩ }
def fT:FieldD:={ zF with name:=⟨#[116]⟩,kind:=3,high:=9 }
def fL:FieldD:={ zF with name:=⟨#[108]⟩,kind:=7,of:=⟨#[98]⟩,terms:=[⟨⟨#[110]⟩,2⟩] }
def fS:FieldD:={ zF with name:=⟨#[115]⟩,kind:=9,tag:=⟨#[116]⟩,cases:=[⟨0,0,⟨#[97]⟩⟩,⟨1,1,⟨#[98]⟩⟩] }
def fK:FieldD:={ zF with name:=⟨#[107]⟩,kind:=11,check:=1,fr:=⟨#[108]⟩ }
def mA:MsgD:=⟨⟨#[97]⟩,[fN]⟩
def mB:MsgD:=⟨⟨#[98]⟩,[fX]⟩
def mC:MsgD:=⟨⟨#[99]⟩,[fN,fT,fL,fS,fK]⟩
def mZ:MsgD:=⟨⟨#[122]⟩,[fN]⟩
def gvD:DefD:=⟨⟨#[100]⟩,[mA,mB,mC,mZ],⟨#[99]⟩⟩
theorem given_ret (w0:World):Ret Pg 38 #[] w0 fun r w'=>(∃ b fa fb fc fz,r = .agg #[.string ⟨#[100]⟩,.slice (some ⟨b,0,none⟩) 4 4,.string ⟨#[99]⟩]∧w'.heap[b]?=some (.cells #[.string ⟨#[97]⟩,fa,.string ⟨#[98]⟩,fb,.string ⟨#[99]⟩,fc,.string ⟨#[122]⟩,fz] 24 (0,0))∧FieldsOf w' fa [fN]∧FieldsOf w' fb [fX]∧FieldsOf w' fc mC.fields∧FieldsOf w' fz [fN])∧Ext w0 w':=by
 refine n8s (R:=retR _) ?_;unfold n8
 simp (disch:=try exact DI) only [↓PR,QR,simprocAttr]
 generalize hn:w0.heap.size=n
 refine ⟨⟨n+8,.slice (some ⟨n+2,0,none⟩) 1 1,.slice (some ⟨n+3,0,none⟩) 1 1,.slice (some ⟨n+6,0,none⟩) 5 5,.slice (some ⟨n+7,0,none⟩) 1 1,rfl,?_,?_,?_,?_,?_⟩,ee⟩
 · subst hn
   simp (disch:=try exact DI) only [↓PR,QR,simprocAttr]
 · subst hn
   exact slice_rows [fieldCells fN (.slice none 0 0) (.slice none 0 0)] [fN] (by decide) (by simp (disch:=try exact DI) only [↓PR,QR,simprocAttr];rfl) (by simp [fieldCells]) rfl (by decide) fun k cs x h1 h2=>by
    match k with
    | 0=>injection h1 with h1;injection h2 with h2;subst h1 h2;exact ⟨_,_,rfl,SliceOf.nil _ _ _,SliceOf.nil _ _ _⟩
 · subst hn
   exact slice_rows [fieldCells fX (.slice none 0 0) (.slice none 0 0)] [fX] (by decide) (by simp (disch:=try exact DI) only [↓PR,QR,simprocAttr];rfl) (by simp [fieldCells]) rfl (by decide) fun k cs x h1 h2=>by
    match k with
    | 0=>injection h1 with h1;injection h2 with h2;subst h1 h2;exact ⟨_,_,rfl,SliceOf.nil _ _ _,SliceOf.nil _ _ _⟩
 · subst hn
   refine slice_rows [fieldCells fN (.slice none 0 0) (.slice none 0 0),fieldCells fT (.slice none 0 0) (.slice none 0 0),fieldCells fL (.slice (some ⟨w0.heap.size+4,0,none⟩) 1 1) (.slice none 0 0),fieldCells fS (.slice none 0 0) (.slice (some ⟨w0.heap.size+5,0,none⟩) 2 2),fieldCells fK (.slice none 0 0) (.slice none 0 0)] mC.fields (by decide) (by simp (disch:=try exact DI) only [↓PR,QR,simprocAttr];rfl) (by simp [fieldCells]) rfl (by decide) fun k cs x h1 h2=>?_
   match k with
   | 0=>injection h1 with h1;injection h2 with h2;subst h1 h2;exact ⟨_,_,rfl,SliceOf.nil _ _ _,SliceOf.nil _ _ _⟩
   | 1=>injection h1 with h1;injection h2 with h2;subst h1 h2;exact ⟨_,_,rfl,SliceOf.nil _ _ _,SliceOf.nil _ _ _⟩
   | 2 =>
    injection h1 with h1;injection h2 with h2;subst h1 h2
    refine ⟨_,_,rfl,?_,SliceOf.nil _ _ _⟩
    exact slice_rows (T:=62) [termCells ⟨⟨#[110]⟩,2⟩] fL.terms (by decide) (by simp (disch:=try exact DI) only [↓PR,QR,simprocAttr];rfl) (by simp [termCells]) rfl (by decide) fun k cs x h1 h2=>by
     match k with
     | 0=>injection h1 with h1;injection h2 with h2;subst h1 h2;rfl
   | 3 =>
    injection h1 with h1;injection h2 with h2;subst h1 h2
    refine ⟨_,_,rfl,SliceOf.nil _ _ _,?_⟩
    exact slice_rows (T:=60) [caseCells ⟨0,0,⟨#[97]⟩⟩,caseCells ⟨1,1,⟨#[98]⟩⟩] fS.cases (by decide) (by simp (disch:=try exact DI) only [↓PR,QR,simprocAttr];rfl) (by simp [caseCells]) rfl (by decide) fun k cs x h1 h2=>by
     match k with
     | 0=>injection h1 with h1;injection h2 with h2;subst h1 h2;rfl
     | 1=>injection h1 with h1;injection h2 with h2;subst h1 h2;rfl
   | 4=>injection h1 with h1;injection h2 with h2;subst h1 h2;exact ⟨_,_,rfl,SliceOf.nil _ _ _,SliceOf.nil _ _ _⟩
 · subst hn
   exact slice_rows [fieldCells fN (.slice none 0 0) (.slice none 0 0)] [fN] (by decide) (by simp (disch:=try exact DI) only [↓PR,QR,simprocAttr];rfl) (by simp [fieldCells]) rfl (by decide) fun k cs x h1 h2=>by
    match k with
    | 0=>injection h1 with h1;injection h2 with h2;subst h1 h2;exact ⟨_,_,rfl,SliceOf.nil _ _ _,SliceOf.nil _ _ _⟩
def fewM (m:MsgD):Prop:=m.fields.length≤1048576∧∀ f∈m.fields,f.terms.length≤1048576
theorem used_ret (w0:World) (v:Value) (m:MsgD) (k:Nat) (hm:MsgVal w0 v m) (hk:k < m.fields.length) (hb:fewM m):Ret Pg 40 #[v,.int .i64 (k:Int)] w0 fun r w'=>RowI w' w0.heap.size r (usesP m.fields k)∧Ext w0 w':=by
 obtain ⟨fv,rfl,hF⟩:=hm
 obtain ⟨f,hf⟩:=getElem?_lt hk
 have hF0:=hF
 obtain ⟨b,o,c,rfl,_,hcm,_,_,hel⟩:=open1 hF hf
 obtain ⟨cs,_,hA,hE⟩:=hel k f hf
 obtain ⟨tv,cv,rfl,hT,hC,ht1,hc1⟩:=hE.op
 refine n85s (R:=retR _) ?_;unfold n85
 rw [op_boxA]
 have o2:=heap_new w0 (msgCells m (.slice (some ⟨b,o,none⟩) m.fields.length c)).toArray 24
 have eW:Ext w0 (w0.alloc (.cells (msgCells m (.slice (some ⟨b,o,none⟩) m.fields.length c)).toArray 24)):=ee
 generalize (w0.alloc (.cells (msgCells m (.slice (some ⟨b,o,none⟩) m.fields.length c)).toArray 24))=W at o2 eW ⊢
 generalize hp2:w0.heap.size=p2 at o2 ⊢
 simp (disch:=try exact DI) only [↓PR,QR,simprocAttr,(cells_of_heap o2).1,hA.c15 eW]
 have o5:=heap_new W (fieldCells f tv cv).toArray 48
 have e1:Ext W (W.alloc (.cells (fieldCells f tv cv).toArray 48)):=ee
 generalize (W.alloc (.cells (fieldCells f tv cv).toArray 48))=V at o5 e1 ⊢
 generalize W.heap.size=p5 at o5 ⊢
 have x2:=e1.obj o2
 have E1:=eW.trans e1
 refine drawK_intro ?_
 have eD:Ext V V.drew:=(Ext.refl V).wdrew
 have E2:=E1.trans eD
 have y2:=eD.obj x2
 have y5:=eD.obj o5
 unfold n85c6
 simp (disch:=try exact DI) only [↓PR,QR,simprocAttr,(cells_of_heap y5).1]
 refine callK_ret (uses_ret _) ?_
 rintro _ w3 ⟨r,L,cc,rfl,hr,hM,hL,e3⟩
 refine narrowK_KM e3 hM ?_
 haveI:ClassNe (KM V.drew r kindEnc L cc):=⟨⟨w3,e3,hM⟩⟩
 unfold n85c5
 simp only [drew_wdrew]
 rw [qV_lookupKM Tryz.underlying128 (KeyOK.int Tryz.underlying42) ty83 ⟨w3,e3,hM⟩]
 obtain ⟨hn,h4,h9,h11⟩:=hL
 have hb':=hb.2 f (List.mem_of_getElem? hf)
 subst hp2
 by_cases k4:f.kind=4∨f.kind=7∨f.kind=12
 · rw [h4 _ k4]
   simp (disch:=try exact DI) only [↓PR,QR,simprocAttr]
   exact used_tail hf hF0 hb' hT hC (E2.trans e3) c110 _ uses1_names (by unfold namesU;rw [if_pos k4]) (e3.obj y2) (e3.obj y5)
 by_cases k9:f.kind=9
 · rw [k9,h9]
   simp (disch:=try exact DI) only [↓PR,QR,simprocAttr]
   exact used_tail hf hF0 hb' hT hC (E2.trans e3) c111 _ uses2_names (by unfold namesU;rw [if_neg k4,if_pos k9]) (e3.obj y2) (e3.obj y5)
 by_cases k11:f.kind=11
 · rw [k11,h11]
   simp (disch:=try exact DI) only [↓PR,QR,simprocAttr]
   exact used_tail hf hF0 hb' hT hC (E2.trans e3) c112 _ uses3_names (by unfold namesU;rw [if_neg k4,if_neg k9,if_pos k11]) (e3.obj y2) (e3.obj y5)
 rw [hn _ (by omega)]
 simp (disch:=try exact DI) only [↓PR,QR,simprocAttr]
 rw [uses_nil hf (by unfold namesU;rw [if_neg k4,if_neg k9,if_neg k11])]
 exact ⟨OwnE.nil _ _ _ _ _,E2.trans e3⟩
theorem in_ret (w0:World) (v:Value) (m:MsgD) (k:Int) (hm:MsgVal w0 v m):Ret Pg 39 #[v,.int .i64 k] w0 fun r w'=>r = .bool (decide (0≤k∧k < m.fields.length))∧Ext w0 w':=by
 obtain ⟨fv,rfl,hF⟩:=hm
 obtain ⟨A,c,rfl,hlc,hcm,hlm,hel⟩:=SliceOf.open hF
 refine n82s (R:=retR _) ?_;unfold n82
 simp (disch:=try exact DI) only [↓PR,QR,simprocAttr]
 exact ⟨by rw [Bool.decide_and],ee⟩
def errU (m:MsgD) (k:Int):Int:=if 0≤k∧k < m.fields.length then 0 else 3
def usesE (m:MsgD) (k:Int):List Int:=if 0≤k∧k < m.fields.length then usesP m.fields k.toNat else []
def usersE (m:MsgD) (k:Int):List Int:=if 0≤k∧k < m.fields.length then usersP m.fields k.toNat else []
theorem Uses_ret (w0:World) (v:Value) (m:MsgD) (k:Int) (hm:MsgVal w0 v m) (hb:fewM m):Ret Pg 12 #[v,.int .i64 k] w0 fun r w'=>(∃ u,r = .tuple #[u,.int .i64 (errU m k)]∧RowI w' w0.heap.size u (usesE m k))∧Ext w0 w':=by
 obtain ⟨fv,rfl,hF⟩:=hm
 have hf1:=SliceOf.oneCell hF
 refine n79s (R:=retR _) ?_;unfold n79
 rw [op_boxA]
 have hBW:=ElemAt.new (w:=w0) (msgCells m fv) (24)
 have eW:Ext w0 (w0.alloc (Obj.cells (List.toArray (msgCells m fv)) (24))):=(Ext.refl _).alloc _
 generalize (w0.alloc (Obj.cells (List.toArray (msgCells m fv)) (24)))=W at hBW eW ⊢
 simp (disch:=try exact DI) only [↓PR,QR,simprocAttr,hBW.c2 (Ext.refl W)]
 refine zcr (in_ret _ _ m k ⟨_,rfl,FieldsOf.ext hF eW⟩) fun w1 e1=>?_
 unfold n79c1
 by_cases hk:0≤k∧k < m.fields.length
 · obtain ⟨j,rfl⟩:∃ j:Nat,k=j:=⟨k.toNat,by omega⟩
   rw [decide_eq_true hk,show errU m (j:Int)=0 from if_pos hk,show usesE m (j:Int)=usesP m.fields j from if_pos hk]
   simp (disch:=try exact DI) only [↓PR,QR,simprocAttr,hBW.c2 e1]
   refine callK_ret (used_ret _ _ m j ⟨_,rfl,FieldsOf.ext hF (eW.trans e1)⟩ (by omega) hb) ?_
   rintro r w2 ⟨hR,e2⟩
   have s:=(eW.trans e1).size
   exact ⟨_,rfl,⟨r,rfl,hR.base s⟩,eW.trans (e1.trans e2)⟩
 · rw [decide_eq_false hk,show errU m k=3 from if_neg hk,show usesE m k=[] from if_neg hk]
   simp (disch:=try exact DI) only [↓PR,QR,simprocAttr]
   exact ⟨⟨.slice none 0 0,rfl,OwnE.nil _ _ _ _ _⟩,eW.trans e1⟩
theorem Index_int_ret (w0:World) (v:Value) (l:List Int) (n:Int) (hs:SliceOf w0 1 EInt v l):Ret Pg 85 #[v,.int .i64 n] w0 fun r w'=>r = .int .i64 (idx (fun x=>decide (x=n)) l)∧Ext w0 w':=by
 obtain ⟨A,c,rfl,hlc,hcm,hlm,hel⟩:=SliceOf.open hs
 refine n122s (R:=retR _) ?_;unfold n122
 simp (disch:=try exact DI) only [↓PR,QR,simprocAttr]
 refine loop1_intro (fun a0 w=>∃ (k:Nat) , a0 = .int .i64 (k:Int)∧k≤l.length∧Ext w0 w∧∀ (j:Nat) (y:Int),j < k→l[j]?=some y→(fun x=>decide (x=n)) y=false) (fun a0 _=>l.length - (intOf a0).toNat) ⟨0,rfl,Nat.zero_le _,ee,fun j y hj=>absurd hj (Nat.not_lt_zero _)⟩ ?_
 rintro _ w ⟨k,rfl,hk,e,hI⟩
 have se:=e.size
 rcases drop_cases hk with ⟨x,hx,hd,hlt,hdec⟩ | ⟨hk,hd,hdec⟩
 · obtain ⟨b,o,cs,rfl,hl',hA,rfl⟩:=hel k x hx
   have hA':=hA.ext e
   by_cases hxn:n=x
   · have hd:(n == x)=true:=by simpa using hxn
     simp (disch:=try exact DI) only [↓PR,QR,simprocAttr,hdec,↓n122c1,hA'.c1 (Ext.refl _),hd]
     exact ⟨by rw [idx_here hx (by simp [hxn]) hI],e⟩
   · have hd:(n == x)=false:=by simpa using hxn
     simp (disch:=try exact DI) only [↓PR,QR,simprocAttr,hdec,↓n122c1,hA'.c1 (Ext.refl _),hd]
     exact ⟨⟨k+1,rfl,by omega,ee,before_succ hI hx (decide_eq_false (fun h=>hxn h.symm))⟩,meas_lt (kd := .i64) hlt⟩
 · subst hk
   simp (disch:=try exact DI) only [↓PR,QR,simprocAttr,hdec]
   exact ⟨by rw [idx_none fun j y hy=>hI j y (List.getElem?_eq_some_iff.1 hy).1 hy],e⟩
theorem any_contains (l:List Int) (n:Int):l.any (fun x=>decide (x=n))=l.contains n:=by
 rw [Bool.eq_iff_iff,List.any_eq_true,List.contains_iff_mem]
 constructor
 · rintro ⟨x,hx,h⟩
   rw [← of_decide_eq_true h];exact hx
 · exact fun h=>⟨n,h,by simp⟩
theorem Contains_int_ret (w0:World) (v:Value) (l:List Int) (n:Int) (hs:SliceOf w0 1 EInt v l):Ret Pg 43 #[v,.int .i64 n] w0 fun r w'=>r = .bool (l.contains n)∧Ext w0 w':=by
 refine n113s (R:=retR _) ?_;unfold n113
 refine zcr (Index_int_ret _ _ l n hs) fun w1 e1=>?_
 have h:=idx_neg (p:=fun x=>decide (x=n)) (l:=l)
 rw [any_contains] at h
 simp (disch:=try exact DI) only [↓PR,QR,simprocAttr,h]
 exact ⟨trivial,e1⟩
theorem Users1_ret {w:World} {m:MsgD} {fv:Value} {p2 p3:Nat} {k:Int} (i:Nat) (x:FieldD) (u:Value) (hi:m.fields[i]?=some x) (hF:FieldsOf w fv m.fields) (hb:fewM m) (o2:w.heap[p2]?=some (.cells (msgCells m fv).toArray 24 (0,0))) (o3:w.heap[p3]?=some (.cells #[.int .i64 k] 3 (0,0))) (hu:FieldVal w u x) :
 Ret Pg 42 #[.int .i64 (i:Int),u,.pointer (some ⟨p2,0,none⟩),.pointer (some ⟨p3,0,none⟩)] w fun r w'=>r = .bool ((usesP m.fields i).contains k)∧Ext w w':=by
 obtain ⟨tv,cv,rfl,hT,hC⟩:=hu
 have ht1:=SliceOf.oneCell hT
 have hc1:=SliceOf.oneCell hC
 have hf1:=SliceOf.oneCell hF
 refine n78s (R:=retR _) ?_;unfold n78
 rw [op_boxA]
 have hBW:=ElemAt.new (w:=w) (fieldCells x tv cv) (48)
 have eW:Ext w (w.alloc (Obj.cells (List.toArray (fieldCells x tv cv)) (48))):=(Ext.refl _).alloc _
 generalize (w.alloc (Obj.cells (List.toArray (fieldCells x tv cv)) (48)))=W at hBW eW ⊢
 refine drawK_intro ?_
 have eD:Ext W W.drew:=(Ext.refl W).wdrew
 have E:=eW.trans eD
 unfold n78c1
 simp (disch:=try exact DI) only [↓PR,QR,simprocAttr,(cells_of_heap (E.obj o2)).1,(cells_of_heap (E.obj o3)).1]
 refine callK_ret (used_ret _ _ m i ⟨_,rfl,FieldsOf.ext hF E⟩ (List.getElem?_eq_some_iff.1 hi).1 hb) ?_
 rintro r w1 ⟨hR,e1⟩
 refine ⟨e1,?_⟩
 refine zcr (Contains_int_ret _ _ _ _ hR.ints) fun w2 e2=>?_
 exact ⟨e1.trans e2,_,rfl,rfl,E.trans (e1.trans e2)⟩
theorem Users_ret (w0:World) (v:Value) (m:MsgD) (k:Int) (hm:MsgVal w0 v m) (hb:fewM m):Ret Pg 13 #[v,.int .i64 k] w0 fun r w'=>(∃ u,r = .tuple #[u,.int .i64 (errU m k)]∧RowI w' w0.heap.size u (usersE m k))∧Ext w0 w':=by
 obtain ⟨fv,rfl,hF⟩:=hm
 have hf1:=SliceOf.oneCell hF
 refine n77s (R:=retR _) ?_;unfold n77
 simp (disch:=try exact DI) only [↓PR,QR,simprocAttr]
 generalize hV:World.alloc (World.alloc w0 _) _=V
 have eV:Ext w0 V:=by rw [← hV];exact ee
 have o2:V.heap[w0.heap.size]?=some (.cells (msgCells m fv).toArray 24 (0,0)):=by rw [← hV];simp (disch:=try exact DI) only [↓PR,QR,simprocAttr]
 have o3:V.heap[w0.heap.size+1]?=some (.cells #[.int .i64 k] 3 (0,0)):=by rw [← hV];simp (disch:=try exact DI) only [↓PR,QR,simprocAttr]
 clear hV
 refine zcr (in_ret _ _ m k ⟨_,rfl,FieldsOf.ext hF eV⟩) fun w1 e1=>?_
 by_cases hk:0≤k∧k < m.fields.length
 · obtain ⟨j,rfl⟩:∃ j:Nat,k=j:=⟨k.toNat,by omega⟩
   rw [decide_eq_true hk,show errU m (j:Int)=0 from if_pos hk,show usersE m (j:Int)=usersP m.fields j from if_pos hk]
   simp (disch:=try exact DI) only [↓PR,QR,simprocAttr,↓n77c1,(cells_of_heap (e1.obj o2)).1]
   refine callK_ret (where_Field_ret _ _ m.fields _ _ (fun i=>(usesP m.fields i).contains (j:Int)) (FieldsOf.ext hF (eV.trans e1)) hb.1 c42 ?_) ?_
   · intro w i x u hx e hu
     exact Users1_ret i x u hx (FieldsOf.ext hF (eV.trans (e1.trans e))) hb ((e1.trans e).obj o2) ((e1.trans e).obj o3) hu
   rintro r w2 ⟨hR,e2⟩
   have s:=(eV.trans e1).size
   exact ⟨_,rfl,⟨r,rfl,hR.base (by omega)⟩,eV.trans (e1.trans e2)⟩
 · rw [decide_eq_false hk,show errU m k=3 from if_neg hk,show usersE m k=[] from if_neg hk]
   simp (disch:=try exact DI) only [↓PR,QR,simprocAttr]
   exact ⟨⟨.slice none 0 0,rfl,OwnE.nil _ _ _ _ _⟩,eV.trans e1⟩
def EFieldW (_:World) (cs:List Value) (f:FieldD):Prop:=∃ tv cv,cs=fieldCells f tv cv∧tv.oneCell'=true∧cv.oneCell'=true
theorem keptFieldW:Kept EFieldW:=fun _ _ _ _ _ h=>h
def FieldsW (w:World) (v:Value) (l:List FieldD):Prop:=SliceOf w 15 EFieldW v l
theorem FieldsW.ext {w w':World} {v:Value} {l:List FieldD} (h:FieldsW w v l) (e:Ext w w'):FieldsW w' v l:=SliceOf.ext keptFieldW h e
def OffAt (pb:Nat) (v:Value) (l:List FieldD) (w:World):Prop:=w.heap[pb]?=some (.cells #[v] 22 (0,0))∧FieldsW w v l
theorem OffAt.ext {pb:Nat} {v:Value} {l:List FieldD} {w w':World} (h:OffAt pb v l w) (e:Ext w w'):OffAt pb v l w':=⟨e.obj h.1,h.2.ext e⟩
theorem outs_marks {L:List (Option TypeId×Value)} {R:RT} {bs:List Nat}:∀ {w w0:World},bs.Nodup→(∀ b∈bs,MarkAt b w∧w0.heap.size≤b)→Ext w0 w →
 (∀ w',Ext w0 w'→(∀ (b:Nat) (o:Obj),(∀ d,o ≠ .deferred d)→w.heap[b]?=some o→w'.heap[b]?=some o)→outX Pg [] L R w')→outX Pg (bs.map Sw.mark) L R w:=by
 induction bs with
 | nil=>exact fun _ _ e h=>h _ e fun _ _ _ h=>h
 | cons b bs ih =>
  intro w w0 hn hm e h
  obtain ⟨hb,hn'⟩:=List.nodup_cons.1 hn
  have hmb:=hm b (List.mem_cons_self ..)
  refine outX_mark hmb.1 (ih (w0:=w0) hn' (fun c hc=>⟨?_,(hm c (List.mem_cons_of_mem _ hc)).2⟩) (e.putObj hmb.2 _) (fun w' e' h'=>h w' e' (fun c o ho hc=>h' c o ho ((World.putObj_heap_other ?_).trans hc))))
  · exact (World.putObj_heap_other (fun (e:c=b)=>hb (by rw [← e];exact hc))).trans (hm c (List.mem_cons_of_mem _ hc)).1
  · rintro rfl
    have:=hmb.1
    unfold MarkAt at this
    rw [hc] at this
    injection this with this
    exact ho _ this
theorem has_nd {T:TypeId} {cs:Array Value}:∀ d,Obj.cells cs T (0,0) ≠ .deferred d:=fun _ h=>by cases h
def IntsAt (w:World) (pb:Nat) (sv:Value) (l:List Int):Prop:=w.cell? ⟨pb,0,none⟩=some sv∧SliceOf w 1 EInt sv l
theorem IntsAt.ext {w w':World} {pb:Nat} {sv:Value} {l:List Int} (h:IntsAt w pb sv l) (e:Ext w w'):IntsAt w' pb sv l:=⟨e.cell h.1,h.2.ext keptInt e⟩
def intX (l:List Int) (k:Nat):Value:=match l[k]? with
 | some n => .int .i64 n
 | none=>undef
theorem Values_seq (pb:Nat) (sv:Value) (l:List Int):SeqIt Pg 86 #[.pointer (some ⟨pb,0,none⟩)] l.length (intX l) (fun w=>IntsAt w pb sv l):=by
 intro yv J Jx Jp w hFP hJe hJx hstep h0
 obtain ⟨hc,hT⟩:=hFP 0 w h0
 obtain ⟨A,c,rfl,hlc,hcm,hlm,hel⟩:=SliceOf.open hT
 refine n125s (t0:=yv) (t1 := .pointer (some ⟨pb,0,none⟩)) ?_
 unfold n125
 simp (disch:=try exact DI) only [↓PR,QR,simprocAttr,hc]
 refine loop1_intro (fun i w=>∃ k:Nat,i = .int .i64 k∧k≤l.length∧J k w) (fun i _=>l.length - (intOf i).toNat) ⟨0,rfl,by omega,h0⟩ ?_
 rintro _ w' ⟨k,rfl,hk,hJ⟩
 rcases drop_cases hk with ⟨x,hx,hd,hlt,hdec⟩ | ⟨hk,hd,hdec⟩
 · obtain ⟨hc',hT'⟩:=hFP k w' hJ
   obtain ⟨A',c',hv,_,hcm',_,hel'⟩:=SliceOf.open hT'
   injection hv with hv _ hv'
   subst hv hv'
   obtain ⟨b,o,cs,rfl,hl,hA,rfl⟩:=hel' k x hx
   have er:=Ext.refl w'
   have hs:=hstep k hlt w' hJ
   rw [show intX l k = .int .i64 x by unfold intX;rw [hx]] at hs
   simp (disch:=try exact DI) only [↓PR,QR,simprocAttr,↓n125c1,↓n125c2,hdec,hA.c1 er]
   refine callV_mono hs (fun ch w h=>h) ?_
   rintro v w3 (⟨rfl,h2⟩ | ⟨rfl,h2⟩)
   · simp (disch:=try exact DI) only [↓PR,QR,simprocAttr,↓n125c1,↓n125c2]
     exact ⟨⟨k+1,rfl,by omega,h2⟩,meas_lt (kd := .i64) hlt⟩
   · simp (disch:=try exact DI) only [↓PR,QR,simprocAttr,↓n125c1,↓n125c2]
     exact .inr h2
 · subst hk
   simp (disch:=try exact DI) only [↓PR,QR,simprocAttr,↓n125c1,↓n125c2,hdec]
   exact .inl hJ
theorem free_at {l:List FieldD} {i:Nat} {x:FieldD} (h:l[i]?=some x):((match l[i]? with
 | some f=>numberB f
 | none=>false)&&(usersP l i).isEmpty)=(numberB x&&(usersP l i).isEmpty):=by rw [h]
theorem Free1_ret {w:World} {m:MsgD} {fv:Value} {p1:Nat} (i:Nat) (x:FieldD) (u:Value) (hi:m.fields[i]?=some x) (hF:FieldsOf w fv m.fields) (hb:fewM m) (o1:w.heap[p1]?=some (.cells (msgCells m fv).toArray 24 (0,0))) (hu:FieldVal w u x) :
 Ret Pg 48 #[.int .i64 (i:Int),u,.pointer (some ⟨p1,0,none⟩)] w fun r w'=>r = .bool (numberB x&&(usersP m.fields i).isEmpty)∧Ext w w':=by
 obtain ⟨tv,cv,rfl,hT,hC⟩:=hu
 have ht1:=SliceOf.oneCell hT
 have hc1:=SliceOf.oneCell hC
 have hf1:=SliceOf.oneCell hF
 have hil:=(List.getElem?_eq_some_iff.1 hi).1
 refine n73s (R:=retR _) ?_;unfold n73
 rw [op_boxA]
 have o4:=heap_new w (fieldCells x tv cv).toArray 48
 have eW:Ext w (w.alloc (.cells (fieldCells x tv cv).toArray 48)):=ee
 generalize (w.alloc (.cells (fieldCells x tv cv).toArray 48))=W at o4 eW ⊢
 generalize w.heap.size=p4 at o4 ⊢
 simp (disch:=try exact DI) only [↓PR,QR,simprocAttr,(cells_of_heap (eW.obj o1)).1]
 refine callK_ret (Users_ret _ _ m i ⟨_,rfl,FieldsOf.ext hF eW⟩ hb) ?_
 rintro _ w1 ⟨⟨uv,rfl,hR⟩,e1⟩
 have hin:0≤(i:Int)∧(i:Int) < m.fields.length:=by omega
 rw [show usersE m (i:Int)=usersP m.fields i by unfold usersE;rw [if_pos hin,Int.toNat_natCast]] at hR
 unfold n73c2
 simp (disch:=try exact DI) only [↓PR,QR,simprocAttr,(cells_of_heap (e1.obj o4)).1]
 refine zcr (Number_ret _ _ x ⟨_,_,rfl,hT.ext (eW.trans e1),hC.ext (eW.trans e1)⟩) fun w2 e2=>?_
 obtain ⟨A,c,rfl,_⟩:=SliceOf.open hR.ints
 have hz:(((usersP m.fields i).length:Int) == 0)=(usersP m.fields i).isEmpty:=by
  cases usersP m.fields i with
  | nil=>rfl
  | cons a l=>simp;omega
 have E:=eW.trans (e1.trans e2)
 unfold n73c1
 cases hn:numberB x with
 | true=>simp (disch:=try exact DI) only [↓PR,QR,simprocAttr,hz];exact ⟨by trivial,E⟩
 | false=>simp (disch:=try exact DI) only [↓PR,QR,simprocAttr];exact ⟨by trivial,E⟩
theorem Free_ret (w0:World) (v:Value) (m:MsgD) (hm:MsgVal w0 v m) (hb:fewM m):Ret Pg 19 #[v] w0 fun r w'=>∃ pb sv,r = .func (.func 86) #[] #[.pointer (some ⟨pb,0,none⟩)]∧IntsAt w' pb sv (freeP m.fields)∧w0.heap.size≤pb∧(∀ A n c,sv = .slice (some A) n c→w0.heap.size≤A.block)∧Ext w0 w':=by
 obtain ⟨fv,rfl,hF⟩:=hm
 have hf1:=SliceOf.oneCell hF
 refine n72s (R:=retR _) ?_;unfold n72
 rw [op_boxA]
 have o1:=heap_new w0 (msgCells m fv).toArray 24
 have eW:Ext w0 (w0.alloc (.cells (msgCells m fv).toArray 24)):=ee
 generalize (w0.alloc (.cells (msgCells m fv).toArray 24))=W at o1 eW ⊢
 simp (disch:=try exact DI) only [↓PR,QR,simprocAttr,(cells_of_heap o1).1]
 refine callK_ret (where_Field_ret _ _ m.fields _ _ (fun i=>(match m.fields[i]? with
  | some f=>numberB f
  | none=>false)&&(usersP m.fields i).isEmpty) (FieldsOf.ext hF eW) hb.1 c48 ?_) ?_
 · intro w i x u hx e hu
   rw [free_at hx]
   exact Free1_ret i x u hx (FieldsOf.ext hF (eW.trans e)) hb (e.obj o1) hu
 rintro sv w1 ⟨hR,e1⟩
 have s1:=(eW.trans e1).size
 have h1:=SliceOf.oneCell hR.ints
 simp (disch:=try exact DI) only [↓PR,QR,simprocAttr]
 have hV:Ret Pg 50 #[sv] w1 fun r w'=>r = .func (.func 86) #[] #[.pointer (some ⟨w1.heap.size,0,none⟩)]∧w'.cell? ⟨w1.heap.size,0,none⟩=some sv∧Ext w1 w':=by
  refine n124s (R:=retR _) ?_;unfold n124
  simp (disch:=try exact DI) only [↓PR,QR,simprocAttr]
  exact ⟨by trivial,by rw [cells_one h1];rfl,ee⟩
 refine callK_ret hV ?_
 rintro _ w2 ⟨rfl,hc,e2⟩
 refine ⟨_,rfl,_,sv,rfl,⟨hc,hR.ints.ext keptInt e2⟩,s1,fun A n c h=>?_,eW.trans (e1.trans e2)⟩
 subst h
 have:=(hR.lt A.block rfl).1
 have:=eW.size
 omega
section
variable {R:RT}
def turnF (a:Value) (w:World):Nat:=match a with
 | .pointer (some p)=>(match w.cell? p with
  | some (.int _ t)=>(2 - t).toNat
  | _=>0)
 | _=>0
theorem lastsF (B:Nat) (l:List Nat):Lasts B (fun w=>∀ b∈l,MarkAt b w):=⟨fun w w' h e b hb=>(h b hb).ext e,fun w q r r' hl h hr b hb=>by
 have:=h b hb
 exact (World.putObj_heap_other (by rintro rfl;unfold MarkAt at this;rw [this] at hr;cases hr)).trans this⟩
theorem fre_after1 {w2:World} {pA pB pC pD pE:Nat} {many:Int} {t k n:Nat} {A:Option Addr} {cc:Nat} {ds:List Deferred} {next1:List Deferred→Value→World→Prop} (xA:w2.heap[pA]?=some (.cells #[.int .i64 many] 3 (0,0))) (xB:w2.heap[pB]?=some (.cells #[.slice A n cc] 30 (0,0))) (yD:w2.heap[pD]?=some (.cells #[.int .i64 (t:Int)] 3 (0,0))) (yE:w2.heap[pE]?=some (.cells #[.int .i64 (k:Int)] 3 (0,0)))
 (ht:t < 2) (h0:t=0→(k:Int)=min (n:Int) (max 1 many)) (h1:t=1→k=n) (hn:∀ w',w2.heap.size < w'.heap.size→w'.heap[w2.heap.size]?=some (.cells #[.int .i64 ((t+1:Nat):Int)] 3 (0,0))→Ext w2 w'→next1 ds (.pointer (some ⟨w2.heap.size,0,none⟩)) w') :
 n6c8 (.pointer (some ⟨pA,0,none⟩)) (.pointer (some ⟨pB,0,none⟩)) (.pointer (some ⟨pC,0,none⟩)) (.pointer (some ⟨pD,0,none⟩)) (.pointer (some ⟨pE,0,none⟩)) next1 ds R w2:=by
 have fin:n6c3 (.pointer (some ⟨pC,0,none⟩)) (.pointer (some ⟨pD,0,none⟩)) next1 ds R w2:=by
  unfold n6c3
  simp (disch:=try exact DI) only [↓PR,QR,simprocAttr,(cells_of_heap yD).1]
  exact hn _ (by simp only [World.size_alloc];omega) (by simpa using heap_new w2 #[.int .i64 ((t+1:Nat):Int)] 3) ee
 unfold n6c8
 have hcase:t=0∨t=1:=by omega
 rcases hcase with rfl | rfl
 · have hm:(if (if many > 1 then many else 1) < (n:Int) then (if many > 1 then many else 1) else (n:Int))=(k:Int):=by
    rw [h0 rfl]
    split<;>split<;>omega
   have d0:((((0:Nat):Int)) == 0)=true:=rfl
   have d1:((((0:Nat):Int)) == 1)=false:=rfl
   have dk:((k:Int) != (k:Int))=false:=by simp
   simp (disch:=try exact DI) only [↓PR,QR,simprocAttr,(cells_of_heap yD).1,d0,(cells_of_heap yE).1,(cells_of_heap xB).1,(cells_of_heap xA).1,hm,dk,d1,↓n6c7,↓n6c6,↓n6c5,↓n6c4]
   exact fin
 · have d0:((((1:Nat):Int)) == 0)=false:=rfl
   have d1:((((1:Nat):Int)) == 1)=true:=rfl
   have dk:((k:Int) != (n:Int))=false:=by rw [h1 rfl];simp
   simp (disch:=try exact DI) only [↓PR,QR,simprocAttr,(cells_of_heap yD).1,d0,d1,(cells_of_heap yE).1,(cells_of_heap xB).1,dk,↓n6c7,↓n6c6,↓n6c5,↓n6c4]
   exact fin
theorem fre_after2 {w2:World} {pA pB pC pD pE:Nat} {many:Int} {t k n:Nat} {A:Option Addr} {cc:Nat} {ds:List Deferred} {next1:List Deferred→Value→World→Prop} (xA:w2.heap[pA]?=some (.cells #[.int .i64 many] 3 (0,0))) (xB:w2.heap[pB]?=some (.cells #[.slice A n cc] 30 (0,0))) (yD:w2.heap[pD]?=some (.cells #[.int .i64 (t:Int)] 3 (0,0))) (yE:w2.heap[pE]?=some (.cells #[.int .i64 (k:Int)] 3 (0,0)))
 (ht:t < 2) (h0:t=0→(k:Int)=min (n:Int) (max 1 many)) (h1:t=1→k=n) (hn:∀ w',w2.heap.size < w'.heap.size→w'.heap[w2.heap.size]?=some (.cells #[.int .i64 ((t+1:Nat):Int)] 3 (0,0))→Ext w2 w'→next1 ds (.pointer (some ⟨w2.heap.size,0,none⟩)) w') :
 n6c14 (.pointer (some ⟨pA,0,none⟩)) (.pointer (some ⟨pB,0,none⟩)) (.pointer (some ⟨pC,0,none⟩)) (.pointer (some ⟨pD,0,none⟩)) (.pointer (some ⟨pE,0,none⟩)) next1 ds R w2:=by
 have fin:n6c9 (.pointer (some ⟨pC,0,none⟩)) (.pointer (some ⟨pD,0,none⟩)) next1 ds R w2:=by
  unfold n6c9
  simp (disch:=try exact DI) only [↓PR,QR,simprocAttr,(cells_of_heap yD).1]
  exact hn _ (by simp only [World.size_alloc];omega) (by simpa using heap_new w2 #[.int .i64 ((t+1:Nat):Int)] 3) ee
 unfold n6c14
 have hcase:t=0∨t=1:=by omega
 rcases hcase with rfl | rfl
 · have hm:(if (if many > 1 then many else 1) < (n:Int) then (if many > 1 then many else 1) else (n:Int))=(k:Int):=by
    rw [h0 rfl]
    split<;>split<;>omega
   have d0:((((0:Nat):Int)) == 0)=true:=rfl
   have d1:((((0:Nat):Int)) == 1)=false:=rfl
   have dk:((k:Int) != (k:Int))=false:=by simp
   simp (disch:=try exact DI) only [↓PR,QR,simprocAttr,(cells_of_heap yD).1,d0,(cells_of_heap yE).1,(cells_of_heap xB).1,(cells_of_heap xA).1,hm,dk,d1,↓n6c13,↓n6c12,↓n6c11,↓n6c10,↓n6c10]
   exact fin
 · have d0:((((1:Nat):Int)) == 0)=false:=rfl
   have d1:((((1:Nat):Int)) == 1)=true:=rfl
   have dk:((k:Int) != (n:Int))=false:=by rw [h1 rfl];simp
   simp (disch:=try exact DI) only [↓PR,QR,simprocAttr,(cells_of_heap yD).1,d0,d1,(cells_of_heap yE).1,(cells_of_heap xB).1,dk,↓n6c13,↓n6c12,↓n6c11,↓n6c10,↓n6c10]
   exact fin
end
theorem frees_ret (w0:World) (v:Value) (m:MsgD) (many:Int) (wv:Value) (hm:MsgVal w0 v m) (hb:fewM m) (hL:SliceOf w0 1 EInt wv (freeP m.fields)):Ret Pg 18 #[v,.int .i64 many,wv] w0 fun r w'=>r = .bool true∧Ext w0 w':=by
 obtain ⟨fv,rfl,hF⟩:=hm
 have hm1:=SliceOf.oneCell hF
 have hw1:=SliceOf.oneCell hL
 refine n6s (R:=retR _) ?_;unfold n6
 simp (disch:=try exact DI) only [↓PR,QR,simprocAttr]
 simp only [World.size_alloc,cells_one hw1]
 generalize hW:World.alloc (World.alloc (World.alloc (World.alloc w0 _) _) _) _=W
 have e0:Ext w0 W:=by rw [← hW];exact ee
 have oA:W.heap[w0.heap.size+1]?=some (.cells #[.int .i64 many] 3 (0,0)):=by rw [← hW];simp (disch:=try exact DI) only [↓PR,QR,simprocAttr]
 have oB:W.heap[w0.heap.size+1+1]?=some (.cells #[wv] 30 (0,0)):=by rw [← hW];simp (disch:=try exact DI) only [↓PR,QR,simprocAttr]
 have oC:W.heap[w0.heap.size+1+1+1]?=some (.cells #[.bool false] 4 (0,0)):=by rw [← hW];simp (disch:=try exact DI) only [↓PR,QR,simprocAttr]
 clear hW
 generalize hpA:w0.heap.size+1=pA at *
 generalize hpB:pA+1=pB at *
 generalize hpC:pB+1=pC at *
 refine callK_ret (Free_ret _ _ m ⟨_,rfl,FieldsOf.ext hF e0⟩ hb) ?_
 rintro _ w1 ⟨pb,sv,rfl,hIt,_,_,e1⟩
 have E1:=e0.trans e1
 have xA:=e1.obj oA
 have xB:=e1.obj oB
 have xC:=e1.obj oC
 have hL1:=hL.ext keptInt E1
 generalize freeP m.fields=l at hIt hL1
 clear oA oB oC hL
 obtain ⟨A,cc,rfl,hlc,hcm,hlm,hel⟩:=SliceOf.open hL1
 unfold n6c18
 simp (disch:=try exact DI) only [↓PR,QR,simprocAttr]
 unfold n6c17
 simp (disch:=try exact DI) only [↓PR,QR,simprocAttr]
 have lC:=(Array.getElem?_eq_some_iff.1 xC).1
 have oD:=heap_new w1 #[.int .i64 0] 3
 have eX:Ext w1 (w1.alloc (Obj.cells #[.int .i64 0] 3)):=ee
 generalize (w1.alloc (Obj.cells #[.int .i64 0] 3))=X at oD eX ⊢
 refine loopM1_intro (fun ds a w'=>∃ (pD:Nat) (t:Nat),a = .pointer (some ⟨pD,0,none⟩)∧t≤2∧w1.heap.size≤pD∧w'.heap[pD]?=some (.cells #[.int .i64 (t:Int)] 3 (0,0))∧Ext w1 w'∧(∃ bs:List Nat,ds=bs.map Sw.mark∧bs.Nodup∧∀ b∈bs,MarkAt b w'∧w1.heap.size≤b)) turnF ⟨w1.heap.size,0,rfl,by omega,Nat.le_refl _,oD,eX,[],rfl,by simp,by simp⟩ ?_
 rintro ds _ w2 ⟨pD,t,rfl,ht2,hpD,yD,e2,bs,rfl,hnd,hbs⟩
 have hcw:∀ (w':World) (p u:Nat),w'.heap[p]?=some (.cells #[.int .i64 (u:Int)] 3 (0,0))→turnF (.pointer (some ⟨p,0,none⟩)) w'=2 - u:=by
  intro w' p u h
  unfold turnF
  simp only
  rw [(cells_of_heap h).1 0]
  show ((2:Int) - (u:Int)).toNat=2 - u
  omega
 unfold n6c16
 by_cases ht:t < 2
 · have dt:decide ((t:Int) < 2)=true:=by simp;omega
   simp (disch:=try exact DI) only [↓PR,QR,simprocAttr,(cells_of_heap yD).1,dt]
   unfold n6c15
   simp (disch:=try exact DI) only [↓PR,QR,simprocAttr]
   have lD:pD < w2.heap.size:=(Array.getElem?_eq_some_iff.1 yD).1
   have eB:Ext w2 (w2.alloc (Obj.cells #[.int .i64 0] 3)):=ee
   have oE:=heap_new w2 #[.int .i64 0] 3
   have hs3:(w2.alloc (Obj.cells #[.int .i64 0] 3)).heap.size=w2.heap.size+1:=by simp only [World.size_alloc]
   generalize hpE:w2.heap.size=pE at oE hs3 ⊢
   generalize (w2.alloc (Obj.cells #[.int .i64 0] 3))=w3 at eB oE hs3 ⊢
   have s2:=e2.size
   let I:Nat→World→Prop:=fun k w'=>Ext w1 w'∧(∀ b∈bs,MarkAt b w')∧w'.heap[pD]?=some (.cells #[.int .i64 (t:Int)] 3 (0,0))∧w'.heap[pE]?=some (.cells #[.int .i64 (k:Int)] 3 (0,0))∧(t=0→k=0∨(k:Int) < many)
   let Ix:Nat→World→Prop:=fun c w'=>c=1∧Ext w1 w'∧(∀ b∈bs,MarkAt b w')∧w'.heap[pD]?=some (.cells #[.int .i64 (t:Int)] 3 (0,0))∧∃ k:Nat,w'.heap[pE]?=some (.cells #[.int .i64 (k:Int)] 3 (0,0))∧t=0∧(k:Int)=min (l.length:Int) (max 1 many)
   have hLI:∀ k,Lasts w3.heap.size (I k):=fun k=>Lasts.and (Lasts.from (by omega)) (Lasts.and (lastsF _ _) (Lasts.and (Lasts.has _ (by simp)) (Lasts.and (Lasts.has _ (by simp)) (Lasts.const _ _))))
   have hLX:∀ k,Lasts w3.heap.size (Ix k):=fun k=>Lasts.and (Lasts.const _ _) (Lasts.and (Lasts.from (by omega)) (Lasts.and (lastsF _ _) (Lasts.and (Lasts.has _ (by simp)) (Lasts.ex fun k=>Lasts.and (Lasts.has _ (by simp)) (Lasts.const _ _)))))
   have hfin:∀ (w4:World),Ext w1 w4→(∀ b∈bs,MarkAt b w4)→MarkAt w3.heap.size w4→∀ w5,w4.heap.size < w5.heap.size→w5.heap[w4.heap.size]?=some (.cells #[.int .i64 ((t+1:Nat):Int)] 3 (0,0))→Ext w4 w5 →
    (∃ (pD:Nat) (t':Nat),Value.pointer (some ⟨w4.heap.size,0,none⟩) = .pointer (some ⟨pD,0,none⟩)∧t'≤2∧w1.heap.size≤pD∧w5.heap[pD]?=some (.cells #[.int .i64 (t':Int)] 3 (0,0))∧Ext w1 w5∧(∃ bs':List Nat,(Sw.mark w3.heap.size::bs.map Sw.mark)=bs'.map Sw.mark∧bs'.Nodup∧∀ b∈bs',MarkAt b w5∧w1.heap.size≤b)) ∧
    turnF (.pointer (some ⟨w4.heap.size,0,none⟩)) w5 < turnF (.pointer (some ⟨pD,0,none⟩)) w2:=by
    intro w4 e4 hm4 hmk w5 hlt5 h5 e5
    have s4:=e4.size
    refine ⟨⟨w4.heap.size,t+1,rfl,by omega,by omega,h5,e4.trans e5,w3.heap.size::bs,rfl,List.nodup_cons.2 ⟨fun hin=>?_,hnd⟩,fun b hb=>?_⟩,?_⟩
    · have:=(Array.getElem?_eq_some_iff.1 (hbs _ hin).1).1
      omega
    · rcases List.mem_cons.1 hb with rfl | hb
      · exact ⟨hmk.ext e5,by omega⟩
      · exact ⟨(hm4 b hb).ext e5,(hbs b hb).2⟩
    · rw [hcw w5 _ (t+1) h5,hcw w2 pD t yD];omega
   refine ⟨_,_,l.length,intX l,fun w=>IntsAt w pb sv l,I,Ix,fun _ _=>False,rfl,c86,Values_seq pb sv l,⟨e2.trans eB,fun b hb=>(hbs b hb).1.ext eB,eB.obj yD,oE,fun _ => .inl rfl⟩,fun k w' h=>hIt.ext h.1,hLI,hLX,?_,?_,?_,?_⟩
   · intro rec j w4 hj hI4 hrec hready
     refine ⟨hready,fun w5 hbz=>?_⟩
     have hrec5:=hrec.busied hbz
     have hI5:=(hLI j).busied hbz (Nat.le_succ _) hI4
     clear hI4 hrec hready hbz
     obtain ⟨e5,hm5,qD,qE,hjm⟩:=hI5
     obtain ⟨n,hn⟩:=getElem?_lt hj
     obtain ⟨b,o,cs,rfl,_,hE,hcs⟩:=hel j n hn
     subst hcs
     rw [show intX l j = .int .i64 n by unfold intX;rw [hn]]
     have lE:pE < w5.heap.size:=(Array.getElem?_eq_some_iff.1 qE).1
     have hge:decide ((j:Int)≥(l.length:Int))=false:=by simp;omega
     have hss:(n != n)=false:=by simp
     unfold n6c2
     simp (disch:=try exact DI) only [↓PR,QR,simprocAttr,(cells_of_heap qE).1,(cells_of_heap (e5.obj xB)).1,hge,hE.c1 e5,hss]
     unfold n6c1
     have hw:IntKind.i64.wrap ((j:Int)+1)=((j+1:Nat):Int):=by rw [wrap_ok (by omega) (by omega)];omega
     have rE:(w5.setCell ⟨pE,0,none⟩ (.int .i64 ((j+1:Nat):Int))).heap[pE]?=some (.cells #[.int .i64 ((j+1:Nat):Int)] 3 (0,0)):=by simpa using heap_set (o:=0) qE (.int .i64 ((j+1:Nat):Int))
     have rD:=(Only.setCell w5 pE 0 (.int .i64 ((j+1:Nat):Int)) pD (by omega)).trans qD
     have e6:Ext w1 (w5.setCell ⟨pE,0,none⟩ (.int .i64 ((j+1:Nat):Int))):=e5.setCell (by show w1.heap.size≤pE;omega) _
     have hm6:∀ b∈bs,MarkAt b (w5.setCell ⟨pE,0,none⟩ (.int .i64 ((j+1:Nat):Int))):=fun b hb=>(hm5 b hb).setCell _ _
     have hrec6:=hrec5.setCell ⟨pE,0,none⟩ (.int .i64 ((j+1:Nat):Int))
     have xA':=e5.obj xA
     have hcase:t=0∨t=1:=by omega
     rcases hcase with ht0 | ht1
     · have d0:((t:Int) == 0)=true:=by rw [ht0];rfl
       by_cases hmy:((j+1:Nat):Int)≥many
       · have dm:decide (((j+1:Nat):Int)≥many)=true:=by simpa using hmy
         simp (disch:=try exact DI) only [↓PR,QR,simprocAttr,(cells_of_heap qE).1,(cells_of_heap qE).2,(cells_of_heap qD).1,d0,(cells_of_heap rE).1,(cells_of_heap xA').1,dm]
         refine ⟨hrec6,rfl,e6,hm6,rD,j+1,rE,ht0,?_⟩
         have:=hjm ht0
         omega
       · have dm:decide (((j+1:Nat):Int)≥many)=false:=by simpa using hmy
         simp (disch:=try exact DI) only [↓PR,QR,simprocAttr,(cells_of_heap qE).1,(cells_of_heap qE).2,(cells_of_heap qD).1,d0,(cells_of_heap rE).1,(cells_of_heap xA').1,dm]
         exact ⟨hrec6,e6,hm6,rD,rE,fun _ => .inr (by omega)⟩
     · have d0:((t:Int) == 0)=false:=by rw [ht1];rfl
       simp (disch:=try exact DI) only [↓PR,QR,simprocAttr,(cells_of_heap qE).1,(cells_of_heap qE).2,(cells_of_heap qD).1,d0]
       exact ⟨hrec6,e6,hm6,rD,rE,fun h=>by omega⟩
   · rintro w4 ⟨e4,hm4,qD,qE,hjm⟩ hmk
     exact fre_after1 (e4.obj xA) (e4.obj xB) qD qE ht (fun h=>by have:=hjm h;omega) (fun _=>rfl) (hfin w4 e4 hm4 hmk)
   · rintro c w4 ⟨rfl,e4,hm4,qD,k,qE,ht0,hk⟩ hmk
     exact fre_after2 (e4.obj xA) (e4.obj xB) qD qE ht (fun _=>hk) (fun h=>by omega) (hfin w4 e4 hm4 hmk)
   · rintro ch w4 h
     exact h.elim
 · have dt:decide ((t:Int) < 2)=false:=by simp;omega
   have qC:=e2.obj xC
   simp (disch:=try exact DI) only [↓PR,QR,simprocAttr,(cells_of_heap yD).1,dt,(cells_of_heap qC).1,(cells_of_heap qC).2]
   have rC:(w2.setCell ⟨pC,0,none⟩ (.bool true)).heap[pC]?=some (.cells #[.bool true] 4 (0,0)):=by simpa using heap_set (o:=0) qC (.bool true)
   refine outs_marks (w0:=w0) hnd (fun b hb=>⟨(hbs b hb).1.setCell _ _,by have:=(hbs b hb).2;have:=E1.size;omega⟩) ((E1.trans e2).setCell (by show w0.heap.size≤pC;omega) _) (fun w' e' hh=>?_)
   have zC:=hh _ _ has_nd rC
   simp (disch:=try exact DI) only [↓PR,QR,simprocAttr,outX_nil,retV,resOne,(cells_of_heap zC).1]
   exact ⟨by trivial,e'⟩
def wantC:Nat→List Int
 | 2=>[0]
 | 3=>[1]
 | 4=>[2]
 | _=>[]
theorem kn_uses:∀ k:Nat,k < 5→usesE mC k=wantC k∧errU mC k=0:=by decide +kernel
theorem kn_u5:errU mC 5=3:=by decide +kernel
theorem kn_e0:errU mC 0=0:=by decide +kernel
theorem kn_e2:errU mC 2=0:=by decide +kernel
theorem fresh_ints (w:World) (l:List Int) (hl:l.length≤1048576):SliceOf (w.alloc (.cells (l.map fun n=>Value.int .i64 n).toArray 3)) 1 EInt (.slice (some ⟨w.heap.size,0,none⟩) l.length l.length) l :=
 slice_rows (T:=3) (l.map fun n=>[Value.int .i64 n]) l (by decide) (by rw [heap_new];congr 3;clear hl;induction l<;>simp_all) (by simp) (by simp) hl fun k cs x h1 h2=>by
  rw [List.getElem?_map,h2] at h1
  injection h1 with h1
  exact h1.symm
theorem kn_us0:usersE mC 0=[2]:=by decide +kernel
theorem kn_us2:usersE mC 2=[4]:=by decide +kernel
theorem kn_frC:freeP mC.fields=[]:=by decide +kernel
theorem kn_frA:freeP mA.fields=[0]:=by decide +kernel
theorem kn_ed:errD gvD=0:=by decide +kernel
theorem kn_chT:chosenP gvD true=[0,1,2]:=by decide +kernel
theorem kn_chF:chosenP gvD false=[3]:=by decide +kernel
theorem kn_p0:pathE gvD 0=[2,0]∧errP gvD 0=0:=by decide +kernel
theorem kn_p1:pathE gvD 1=[2,1]∧errP gvD 1=0:=by decide +kernel
theorem kn_p3:errP gvD 3=9:=by decide +kernel
theorem kn_calm:calm gvD:=by unfold calm;decide +kernel
theorem kn_few:fewM mC∧fewM mA:=by unfold fewM;decide +kernel
def rowC (n:Nat):Nat→Value
 | 0 => .slice (some ⟨n+2,0,none⟩) 0 0
 | 1 => .slice (some ⟨n+3,0,none⟩) 0 0
 | 2 => .slice (some ⟨n+4,0,none⟩) 1 1
 | 3 => .slice (some ⟨n+5,0,none⟩) 1 1
 | _ => .slice (some ⟨n+6,0,none⟩) 1 1
theorem one_int {w:World} (n:Int):∀ (k:Nat) cs (x:Int),[[Value.int .i64 n]][k]?=some cs→[n][k]?=some x→EInt w cs x:=fun k cs x h1 h2=>by
 match k with
 | 0=>injection h1 with h1;injection h2 with h2;subst h1 h2;rfl
theorem known_ret (w0:World):Ret Pg 11 #[] w0 fun r w'=>r = .bool true∧Ext w0 w':=by
 refine n10s (R:=retR _) ?_;unfold n10
 refine callK_ret (given_ret _) ?_
 rintro _ w1 ⟨⟨b,fa,fb,fc,fz,rfl,hb,hfa,hfb,hfc,hfz⟩,e1⟩
 have ha1:=SliceOf.oneCell hfa
 have hb1:=SliceOf.oneCell hfb
 have hc1:=SliceOf.oneCell hfc
 have hz1:=SliceOf.oneCell hfz
 have hidx2:∀ (w:World) (QP:List PanicEntry→World→Prop) (K:Value→World→Prop),opV Pg (Instr.indexAt 26 (.slice (some ⟨b,0,none⟩) 4 4) (.int .i64 2)) QP w K=K (.pointer (some ⟨b,4,none⟩)) w:=fun w QP K=>op_indexN (w:=w) (QP:=QP) (k:=K) Tryz.underlying26 ty24 b 0 4 4 .i64 2 (by decide)
 have hidx0:∀ (w:World) (QP:List PanicEntry→World→Prop) (K:Value→World→Prop),opV Pg (Instr.indexAt 26 (.slice (some ⟨b,0,none⟩) 4 4) (.int .i64 0)) QP w K=K (.pointer (some ⟨b,0,none⟩)) w:=fun w QP K=>op_indexN (w:=w) (QP:=QP) (k:=K) Tryz.underlying26 ty24 b 0 4 4 .i64 0 (by decide)
 have hc4:∀ O,(w1.alloc O).cell? ⟨b,4,none⟩=some (.string ⟨#[99]⟩):=fun O=>by rw [(cells_of_heap ((Ext.alloc (Ext.refl w1) O).obj hb)).1];rfl
 have hc5:∀ O,(w1.alloc O).cell? ⟨b,5,none⟩=some fc:=fun O=>by rw [(cells_of_heap ((Ext.alloc (Ext.refl w1) O).obj hb)).1];rfl
 unfold n10c28
 simp (disch:=try exact DI) only [↓PR,QR,simprocAttr,↓hidx2,hc4,hc5]
 simp only [World.size_alloc,World.size_setCell]
 generalize hV:World.alloc (World.alloc _ _) _=V
 generalize hn:w1.heap.size=n at hV ⊢
 have eV:Ext w1 V:=by rw [← hV];exact ee
 have oD:V.heap[n]?=some (.cells #[.string ⟨#[100]⟩,.slice (some ⟨b,0,none⟩) 4 4,.string ⟨#[99]⟩] 28 (0,0)):=by rw [← hV,← hn];simp (disch:=try exact DI) only [↓PR,QR,simprocAttr]
 have oM:V.heap[n+1]?=some (.cells #[.string ⟨#[99]⟩,fc] 24 (0,0)):=by rw [← hV,← hn];simp (disch:=try exact DI) only [↓PR,QR,simprocAttr]
 have oR:V.heap[n+7]?=some (.cells #[rowC n 0,rowC n 1,rowC n 2,rowC n 3,rowC n 4] TS (0,0)):=by rw [← hV,← hn];simp (disch:=try exact DI) only [↓PR,QR,simprocAttr];rfl
 have o2:V.heap[n+4]?=some (.cells #[.int .i64 0] 3 (0,0)):=by rw [← hV,← hn];simp (disch:=try exact DI) only [↓PR,QR,simprocAttr]
 have o3:V.heap[n+5]?=some (.cells #[.int .i64 1] 3 (0,0)):=by rw [← hV,← hn];simp (disch:=try exact DI) only [↓PR,QR,simprocAttr]
 have o4:V.heap[n+6]?=some (.cells #[.int .i64 2] 3 (0,0)):=by rw [← hV,← hn];simp (disch:=try exact DI) only [↓PR,QR,simprocAttr]
 clear hV
 have E1:=e1.trans eV
 have hrow:∀ k,k < 5→V.cell? ⟨n+7,k,none⟩=some (rowC n k)∧SliceOf V 1 EInt (rowC n k) (wantC k)∧(rowC n k).oneCell'=true:=by
  intro k hk
  rw [(cells_of_heap oR).1]
  match k,hk with
  | 0,_=>exact ⟨rfl,⟨_,0,rfl,Nat.le_refl _,by decide,fun h=>absurd rfl h⟩,rfl⟩
  | 1,_=>exact ⟨rfl,⟨_,0,rfl,Nat.le_refl _,by decide,fun h=>absurd rfl h⟩,rfl⟩
  | 2,_=>exact ⟨rfl,slice_rows [[.int .i64 0]] [0] (by decide) o2 (by simp) rfl (by decide) (one_int 0),rfl⟩
  | 3,_=>exact ⟨rfl,slice_rows [[.int .i64 1]] [1] (by decide) o3 (by simp) rfl (by decide) (one_int 1),rfl⟩
  | 4,_=>exact ⟨rfl,slice_rows [[.int .i64 2]] [2] (by decide) o4 (by simp) rfl (by decide) (one_int 2),rfl⟩
 have hmsg:∀ w,Ext V w→MsgVal w (.agg #[.string ⟨#[99]⟩,fc]) mC:=fun w e=>⟨fc,rfl,hfc.ext (eV.trans e)⟩
 have hmsA:∀ w,Ext V w→MsgVal w (.agg #[.string ⟨#[97]⟩,fa]) mA:=fun w e=>⟨fa,rfl,hfa.ext (eV.trans e)⟩
 have hdef:∀ w,Ext V w→DefVal w (.agg #[.string ⟨#[100]⟩,.slice (some ⟨b,0,none⟩) 4 4,.string ⟨#[99]⟩]) gvD:=by
  intro w e
  refine ⟨_,rfl,slice_rows (T:=24) [msgCells mA fa,msgCells mB fb,msgCells mC fc,msgCells mZ fz] gvD.msgs (by decide) ((eV.trans e).obj hb) (by simp [msgCells]) rfl (by decide) fun k cs x h1 h2=>?_⟩
  have e':=eV.trans e
  match k with
  | 0=>injection h1 with h1;injection h2 with h2;subst h1 h2;exact ⟨fa,rfl,hfa.ext e'⟩
  | 1=>injection h1 with h1;injection h2 with h2;subst h1 h2;exact ⟨fb,rfl,hfb.ext e'⟩
  | 2=>injection h1 with h1;injection h2 with h2;subst h1 h2;exact ⟨fc,rfl,hfc.ext e'⟩
  | 3=>injection h1 with h1;injection h2 with h2;subst h1 h2;exact ⟨fz,rfl,hfz.ext e'⟩
 rw [show n+1+1+1+1+1+1+1=n+7 by omega]
 refine loop1_intro (fun i w'=>∃ k:Nat,i = .int .i64 k∧k≤5∧Ext V w') (fun i _=>5 - (intOf i).toNat) ⟨0,rfl,by omega,Ext.refl _⟩ ?_
 rintro _ w2 ⟨k,rfl,hk,e2⟩
 have hM2:=(cells_of_heap (e2.obj oM)).1
 rcases Nat.lt_or_ge k 5 with hlt | hge
 · have hdec:decide ((k:Int) < 5)=true:=decide_eq_true (by omega)
   obtain ⟨h1,h2,h3⟩:=hrow k hlt
   have h1':=e2.cell h1
   obtain ⟨hu,he⟩:=kn_uses k hlt
   unfold n10c27
   simp (disch:=try exact DI) only [↓PR,QR,simprocAttr,hdec,↓n10c26,h1',hM2,Nat.mul_one,Nat.zero_add]
   refine callK_ret (Uses_ret _ _ mC k (hmsg _ e2) kn_few.1) ?_
   rintro _ w3 ⟨⟨u,rfl,hU⟩,e3⟩
   rw [he]
   rw [hu] at hU
   have hu1:=SliceOf.oneCell hU.ints
   unfold n10c2
   simp (disch:=try exact DI) only [↓PR,QR,simprocAttr]
   refine zcr (same_ret _ _ _ _ _ hU.ints (SliceOf.ext keptInt h2 (e2.trans e3))) fun w4 e4=>?_
   have hwr:IntKind.i64.wrap ((k:Int)+1)=(k:Int)+1:=wrap_ok (by omega) (by omega)
   simp (disch:=try exact DI) only [↓PR,QR,simprocAttr,↓n10c1,decide_true,hwr]
   exact ⟨⟨k+1,rfl,by omega,e2.trans (e3.trans e4)⟩,meas_lt (kd := .i64) hlt⟩
 · have hdec:decide ((k:Int) < 5)=false:=decide_eq_false (by omega)
   unfold n10c27
   simp (disch:=try exact DI) only [↓PR,QR,simprocAttr,hdec,hM2]
   refine callK_ret (Uses_ret _ _ mC 5 (hmsg _ e2) kn_few.1) ?_
   rintro _ w3 ⟨⟨u3,rfl,hU3⟩,e3⟩
   have f3:=e2.trans e3
   rw [kn_u5]
   simp (disch:=try exact DI) only [↓PR,QR,simprocAttr,↓n10c25,(cells_of_heap (f3.obj oM)).1]
   refine callK_ret (Users_ret _ _ mC 0 (hmsg _ f3) kn_few.1) ?_
   rintro _ w4 ⟨⟨u4,rfl,hU4⟩,e4⟩
   have f4:=f3.trans e4
   rw [kn_e0]
   rw [kn_us0] at hU4
   have hu4:=SliceOf.oneCell hU4.ints
   simp (disch:=try exact DI) only [↓PR,QR,simprocAttr,↓n10c24,(cells_of_heap (f4.obj oM)).1]
   refine callK_ret (Users_ret _ _ mC 2 (hmsg _ f4) kn_few.1) ?_
   rintro _ w5 ⟨⟨u5,rfl,hU5⟩,e5⟩
   have f5:=f4.trans e5
   rw [kn_e2]
   rw [kn_us2] at hU5
   have hu5:=SliceOf.oneCell hU5.ints
   unfold n10c23
   simp (disch:=try exact DI) only [↓PR,QR,simprocAttr]
   have eY5:Ext w5 (w5.alloc (.cells #[.int .i64 2] 3)):=ee
   refine zcr (same_ret _ _ _ _ [2] (RowI.ints (hU4.ext (e5.trans eY5))) (fresh_ints w5 [2] (by decide))) fun w6 e6=>?_
   have f6:=f5.trans (eY5.trans e6)
   simp (disch:=try exact DI) only [↓PR,QR,simprocAttr,↓n10c22,decide_true]
   have eY6:Ext w6 (w6.alloc (.cells #[.int .i64 4] 3)):=ee
   refine zcr (same_ret _ _ _ _ [4] (RowI.ints (hU5.ext (eY5.trans (e6.trans eY6)))) (fresh_ints w6 [4] (by decide))) fun w7 e7=>?_
   have f7:=f6.trans (eY6.trans e7)
   simp (disch:=try exact DI) only [↓PR,QR,simprocAttr,↓n10c21,↓n10c20,↓n10c19,decide_true,(cells_of_heap (f7.obj oM)).1]
   refine zcr (frees_ret _ _ mC 9 _ (hmsg _ f7) kn_few.1 (by rw [kn_frC];exact SliceOf.nil _ _ _)) fun w8 e8=>?_
   have f8:=f7.trans e8
   have hA0:w8.cell? ⟨b,0,none⟩=some (.string ⟨#[97]⟩):=by rw [(cells_of_heap ((eV.trans f8).obj hb)).1];rfl
   have hA1:w8.cell? ⟨b,1,none⟩=some fa:=by rw [(cells_of_heap ((eV.trans f8).obj hb)).1];rfl
   simp (disch:=try exact DI) only [↓PR,QR,simprocAttr,↓n10c18,↓n10c17,↓hidx0,(cells_of_heap (f8.obj oD)).1,hA0,hA1]
   have eY8:Ext w8 (w8.alloc (.cells #[.int .i64 0] 3)):=ee
   refine zcr (frees_ret _ _ mA 9 _ (hmsA _ (f8.trans eY8)) kn_few.2 (by rw [kn_frA];exact fresh_ints w8 [0] (by decide))) fun w9 e9=>?_
   have f9:=f8.trans (eY8.trans e9)
   simp (disch:=try exact DI) only [↓PR,QR,simprocAttr,↓n10c16,(cells_of_heap (f9.obj oD)).1]
   refine callK_ret (Reach_ret _ _ gvD (hdef _ f9) kn_calm) ?_
   rintro _ w10 ⟨⟨u10,rfl,hU10⟩,e10⟩
   have f10:=f9.trans e10
   rw [kn_ed]
   rw [kn_chT] at hU10
   have hu10:=SliceOf.oneCell hU10.ints
   simp (disch:=try exact DI) only [↓PR,QR,simprocAttr,↓n10c15,(cells_of_heap (f10.obj oD)).1]
   refine callK_ret (Unused_ret _ _ gvD (hdef _ f10) kn_calm) ?_
   rintro _ w11 ⟨⟨u11,rfl,hU11⟩,e11⟩
   have f11:=f10.trans e11
   rw [kn_ed]
   rw [kn_chF] at hU11
   have hu11:=SliceOf.oneCell hU11.ints
   simp (disch:=try exact DI) only [↓PR,QR,simprocAttr,↓n10c14,(cells_of_heap (f11.obj oD)).1]
   refine callK_ret (Path_ret _ _ gvD 0 (hdef _ f11) kn_calm) ?_
   rintro _ w12 ⟨⟨u12,rfl,hU12⟩,e12⟩
   have f12:=f11.trans e12
   rw [kn_p0.2]
   rw [kn_p0.1] at hU12
   have hu12:=SliceOf.oneCell hU12.ints
   simp (disch:=try exact DI) only [↓PR,QR,simprocAttr,↓n10c13,(cells_of_heap (f12.obj oD)).1]
   refine callK_ret (Path_ret _ _ gvD 1 (hdef _ f12) kn_calm) ?_
   rintro _ w13 ⟨⟨u13,rfl,hU13⟩,e13⟩
   have f13:=f12.trans e13
   rw [kn_p1.2]
   rw [kn_p1.1] at hU13
   have hu13:=SliceOf.oneCell hU13.ints
   simp (disch:=try exact DI) only [↓PR,QR,simprocAttr,↓n10c12,(cells_of_heap (f13.obj oD)).1]
   refine callK_ret (Path_ret _ _ gvD 3 (hdef _ f13) kn_calm) ?_
   rintro _ w14 ⟨⟨u14,rfl,_⟩,e14⟩
   have f14:=f13.trans e14
   rw [kn_p3]
   simp (disch:=try exact DI) only [↓PR,QR,simprocAttr,↓n10c11]
   have eY14:Ext w14 (w14.alloc (.cells #[.int .i64 0,.int .i64 1,.int .i64 2] 3)):=ee
   refine zcr (same_ret _ _ _ _ [0,1,2] (RowI.ints (hU10.ext (e11.trans (e12.trans (e13.trans (e14.trans eY14)))))) (fresh_ints w14 [0,1,2] (by decide))) fun w15 e15=>?_
   have f15:=f14.trans (eY14.trans e15)
   simp (disch:=try exact DI) only [↓PR,QR,simprocAttr,↓n10c10,decide_true]
   have eY15:Ext w15 (w15.alloc (.cells #[.int .i64 3] 3)):=ee
   have g15:=eY14.trans (e15.trans eY15)
   refine zcr (same_ret _ _ _ _ [3] (RowI.ints (hU11.ext (e12.trans (e13.trans (e14.trans g15))))) (fresh_ints w15 [3] (by decide))) fun w16 e16=>?_
   have f16:=f15.trans (eY15.trans e16)
   simp (disch:=try exact DI) only [↓PR,QR,simprocAttr,↓n10c9,decide_true]
   have eY16:Ext w16 (w16.alloc (.cells #[.int .i64 2,.int .i64 0] 3)):=ee
   have g16:=g15.trans (e16.trans eY16)
   refine zcr (same_ret _ _ _ _ [2,0] (RowI.ints (hU12.ext (e13.trans (e14.trans g16)))) (fresh_ints w16 [2,0] (by decide))) fun w17 e17=>?_
   have f17:=f16.trans (eY16.trans e17)
   simp (disch:=try exact DI) only [↓PR,QR,simprocAttr,↓n10c8,decide_true]
   have eY17:Ext w17 (w17.alloc (.cells #[.int .i64 2,.int .i64 1] 3)):=ee
   have g17:=g16.trans (e17.trans eY17)
   refine zcr (same_ret _ _ _ _ [2,1] (RowI.ints (hU13.ext (e14.trans g17))) (fresh_ints w17 [2,1] (by decide))) fun w18 e18=>?_
   have f18:=f17.trans (eY17.trans e18)
   simp (disch:=try exact DI) only [↓PR,QR,simprocAttr,↓n10c7,↓n10c6,↓n10c5,↓n10c4,↓n10c3,decide_true]
   exact ⟨by trivial,E1.trans f18⟩
theorem rNames_ret (w0:World) (v:Value) (f:FieldD) (hf:FieldVal w0 v f) (hl:f.terms.length≤1048576):Ret Pg 44 #[v] w0 fun r w'=>SliceOf w' 1 EStr r (namesU f)∧Ext w0 w':=by
 obtain ⟨tv,cv,rfl,hT,hC⟩:=hf
 have ht1:=SliceOf.oneCell hT
 have hc1:=SliceOf.oneCell hC
 obtain ⟨A,c,rfl,hlc,hcm,hlm,hel⟩:=SliceOf.open hT
 refine n21s (R:=retR _) ?_;unfold n21
 rw [op_boxA]
 have hBW:=ElemAt.new (w:=w0) (fieldCells f (.slice A f.terms.length c) cv) (48)
 have eW:Ext w0 (w0.alloc (Obj.cells (List.toArray (fieldCells f (.slice A f.terms.length c) cv)) (48))):=(Ext.refl _).alloc _
 generalize (w0.alloc (Obj.cells (List.toArray (fieldCells f (.slice A f.terms.length c) cv)) (48)))=W at hBW eW ⊢
 by_cases k4:f.kind=4∨f.kind=7∨f.kind=12
 · have hnm:namesU f=f.terms.map (·.field):=by unfold namesU;rw [if_pos k4]
   rw [hnm]
   have hs:=eW.size
   suffices hK:n21c6 (.pointer (some ⟨w0.heap.size,0,none⟩)) (.int .i64 f.kind) (.bool true) (retR fun r w'=>SliceOf w' 1 EStr r (f.terms.map (·.field))∧Ext w0 w') W by
    rcases k4 with h | h | h
    · simp (disch:=try exact DI) only [↓PR,QR,simprocAttr,hBW.c15 (Ext.refl W),h]
      rw [h] at hK
      exact hK
    · simp (disch:=try exact DI) only [↓PR,QR,simprocAttr,hBW.c15 (Ext.refl W),h]
      rw [h] at hK
      exact hK
    · simp (disch:=try exact DI) only [↓PR,QR,simprocAttr,hBW.c15 (Ext.refl W),h]
      rw [h] at hK
      exact hK
   unfold n21c6
   rw [joinK_eq]
   simp (disch:=try exact DI) only [↓PR,QR,simprocAttr]
   refine loop2_intro (fun a0 a1 w=>∃ (k:Nat) (sv:Value),a0=sv∧a1 = .int .i64 (k:Int)∧k≤f.terms.length∧Ext w0 w∧OwnE w W.heap.size 9 1 strEnc sv ((f.terms.take k).map (·.field))∧W.heap.size≤w.heap.size∧Ext W w) (fun a0 a1 _=>f.terms.length - (intOf a1).toNat) ⟨0,.slice none 0 0,rfl,rfl,Nat.zero_le _,ee,⟨OwnE.nil _ _ _ _ _,Nat.le_refl _,Ext.refl _⟩⟩ ?_
   rintro _ _ w ⟨k,sv,rfl,rfl,hk,e,hI⟩
   have se:=e.size
   rcases drop_cases hk with ⟨x,hx,hd,hlt,hdec⟩ | ⟨hk,hd,hdec⟩
   · obtain ⟨hO,hs1,e2⟩:=hI
     obtain ⟨b,o,cs,rfl,hl',hA,rfl⟩:=hel k x hx
     simp (disch:=try exact DI) only [↓PR,QR,simprocAttr,hdec,↓n21c2,↓n21c1,hBW.c15 e2,hA.c2 e]
     generalize hV:World.alloc w _=V
     have eV:Ext w V:=by rw [← hV];exact ee
     have oV:V.heap[w.heap.size]?=some (.cells #[.string x.field] 9 (0,0)):=by rw [← hV];simp (disch:=try exact DI) only [↓PR,QR,simprocAttr]
     have sV:=eV.size
     clear hV
     refine append_str' x.field (hO.ext eV) (by rw [(cells_of_heap oV).1];rfl) (by omega) (by simp;omega) ?_
     intro v' w' hO' hg
     have e':=hg.2.1 w0 (e.trans eV) eW.size
     have e2':=hg.2.1 W (e2.trans eV) (Nat.le_refl _)
     have s':=hg.1
     simp (disch:=try exact DI) only [↓PR,QR,simprocAttr]
     exact ⟨⟨k+1,v',rfl,rfl,by omega,ee,⟨by rw [take_snoc hx,List.map_append];exact hO',by omega,e2'⟩⟩,meas_lt (kd := .i64) hlt⟩
   · obtain ⟨hO,hs1,e2⟩:=hI
     subst hk
     simp (disch:=try exact DI) only [↓PR,QR,simprocAttr,hdec,↓n21c2,hBW.c15 e2]
     rw [List.take_length] at hO
     exact ⟨hO.slice (fun _=>rfl) (fun _ _=>rfl),e⟩
 have n4:(f.kind == 4)=false:=by simp;omega
 have n7:(f.kind == 7)=false:=by simp;omega
 have n12:(f.kind == 12)=false:=by simp;omega
 by_cases k9:f.kind=9
 · rw [show namesU f=[f.tag] by unfold namesU;rw [if_neg k4,if_pos k9]]
   simp (disch:=try exact DI) only [↓PR,QR,simprocAttr,hBW.c15 (Ext.refl W),k9,↓n21c6,↓n21c5,↓n21c4]
   have eV:Ext W (W.alloc (.cells #[.string f.tag] 9)):=ee
   refine append_str' (base:=W.heap.size) f.tag (OwnE.nil _ _ _ _ _) (by rw [(cells_of_heap (heap_new W #[.string f.tag] 9)).1];rfl) eV.size (by simp) ?_
   intro v' w' hO' hg
   have e':=hg.2.1 w0 (eW.trans eV) eW.size
   simp (disch:=try exact DI) only [↓PR,QR,simprocAttr]
   exact ⟨hO'.slice (fun _=>rfl) (fun _ _=>rfl),e'⟩
 by_cases k11:f.kind=11
 · rw [show namesU f=[f.fr] by unfold namesU;rw [if_neg k4,if_neg k9,if_pos k11]]
   simp (disch:=try exact DI) only [↓PR,QR,simprocAttr,hBW.c15 (Ext.refl W),k11,↓n21c6,↓n21c5,↓n21c3]
   have eV:Ext W (W.alloc (.cells #[.string f.fr] 9)):=ee
   refine append_str' (base:=W.heap.size) f.fr (OwnE.nil _ _ _ _ _) (by rw [(cells_of_heap (heap_new W #[.string f.fr] 9)).1];rfl) eV.size (by simp) ?_
   intro v' w' hO' hg
   have e':=hg.2.1 w0 (eW.trans eV) eW.size
   simp (disch:=try exact DI) only [↓PR,QR,simprocAttr]
   exact ⟨hO'.slice (fun _=>rfl) (fun _ _=>rfl),e'⟩
 have n9:(f.kind == 9)=false:=by simp;omega
 have n11:(f.kind == 11)=false:=by simp;omega
 rw [show namesU f=[] by unfold namesU;rw [if_neg k4,if_neg k9,if_neg k11]]
 simp (disch:=try exact DI) only [↓PR,QR,simprocAttr,hBW.c15 (Ext.refl W),n4,n7,n12,n9,n11,↓n21c6,↓n21c5]
 exact ⟨SliceOf.nil _ _ _,eW⟩
theorem rHas_ret (w0:World) (v:Value) (l:List Int) (n:Int) (hs:SliceOf w0 1 EInt v l):Ret Pg 46 #[v,.int .i64 n] w0 fun r w'=>r = .bool (l.contains n)∧Ext w0 w':=by
 obtain ⟨A,c,rfl,hlc,hcm,hlm,hel⟩:=SliceOf.open hs
 refine n19s (R:=retR _) ?_;unfold n19
 refine loop1_intro (fun a0 w=>∃ (k:Nat) , a0 = .int .i64 (k:Int)∧k≤l.length∧Ext w0 w∧(l.take k).contains n=false) (fun a0 _=>l.length - (intOf a0).toNat) ⟨0,rfl,Nat.zero_le _,ee,by simp⟩ ?_
 rintro _ w ⟨k,rfl,hk,e,hI⟩
 have se:=e.size
 rcases drop_cases hk with ⟨x,hx,hd,hlt,hdec⟩ | ⟨hk,hd,hdec⟩
 · obtain ⟨b,o,cs,rfl,_,hA,rfl⟩:=hel k x hx
   by_cases hxn:x=n
   · subst hxn
     have hxx:(x == x)=true:=by simp
     simp (disch:=try exact DI) only [↓PR,QR,simprocAttr,hdec,↓n19c2,↓n19c1,hA.c1 e,hxx]
     exact ⟨by rw [List.contains_iff_mem.2 (List.mem_of_getElem? hx)],e⟩
   · have hxx:(x == n)=false:=by simpa using hxn
     simp (disch:=try exact DI) only [↓PR,QR,simprocAttr,hdec,↓n19c2,↓n19c1,hA.c1 e,hxx]
     exact ⟨⟨k+1,rfl,by omega,ee,by rw [take_snoc hx,Bool.eq_false_iff];intro h;rw [List.contains_iff_mem,List.mem_append] at h;rcases h with h | h;exact absurd (List.contains_iff_mem.2 h) (by rw [hI];decide);simp at h;exact hxn h.symm⟩,meas_lt (kd := .i64) hlt⟩
 · subst hk
   simp (disch:=try exact DI) only [↓PR,QR,simprocAttr,hdec,↓n19c2]
   rw [List.take_length] at hI
   exact ⟨by rw [hI],e⟩
theorem rUses_ret (w0:World) (v:Value) (m:MsgD) (k:Nat) (hm:MsgVal w0 v m) (hk:k < m.fields.length) (hb:fewM m):Ret Pg 15 #[v,.int .i64 (k:Int)] w0 fun r w'=>RowI w' w0.heap.size r (usesP m.fields k)∧Ext w0 w':=by
 obtain ⟨fv,rfl,hF⟩:=hm
 obtain ⟨f,hf⟩:=getElem?_lt hk
 have hF0:=hF
 obtain ⟨b,o,c,rfl,_,hcm,_,_,hel⟩:=open1 hF hf
 obtain ⟨cs,_,hA,hE⟩:=hel k f hf
 obtain ⟨tv,cv,rfl,hT,hC,ht1,hc1⟩:=hE.op
 have hkk:=hb.1
 refine n18s (R:=retR _) ?_;unfold n18
 rw [op_boxA]
 have hBW:=ElemAt.new (w:=w0) (msgCells m (.slice (some ⟨b,o,none⟩) m.fields.length c)) (24)
 have eW:Ext w0 (w0.alloc (Obj.cells (List.toArray (msgCells m (.slice (some ⟨b,o,none⟩) m.fields.length c))) (24))):=(Ext.refl _).alloc _
 generalize (w0.alloc (Obj.cells (List.toArray (msgCells m (.slice (some ⟨b,o,none⟩) m.fields.length c))) (24)))=W at hBW eW ⊢
 simp (disch:=try exact DI) only [↓PR,QR,simprocAttr,hBW.c2 (Ext.refl W),hA.c15 eW]
 refine callK_ret (rNames_ret _ _ f ⟨tv,cv,rfl,TermsOf.ext hT eW,CasesOf.ext hC eW⟩ (hb.2 f (List.mem_of_getElem? hf))) ?_
 rintro nv w1 ⟨hN,e1⟩
 have sW:=eW.size
 have s1:=e1.size
 have hn1:=SliceOf.oneCell hN
 have hU:∀ i,usesB m.fields k i=(namesU f).any fun s=>idx (fun g=>decide (g.name=s)) (m.fields.take k) == (i:Int):=fun i=>by unfold usesB;rw [hf]
 obtain ⟨A2,c2,rfl,hlc2,hcm2,hlm2,hel2⟩:=SliceOf.open hN
 generalize namesU f=nl at hN hn1 hU hlc2 hlm2 hel2 ⊢
 refine loop2_intro (fun a i w=>∃ j:Nat,i = .int .i64 j∧j≤k∧Ext w1 w∧RowI w w1.heap.size a (selP j (usesB m.fields k))) (fun _ i _=>k - (intOf i).toNat) ⟨0,rfl,by omega,Ext.refl _,OwnE.nil _ _ _ _ _⟩ ?_
 rintro a _ w2 ⟨j,rfl,hj,e2,hR⟩
 have ha1:=SliceOf.oneCell hR.ints
 rcases Nat.lt_or_ge j k with hlt | hge
 · have hdec:decide ((j:Int) < (k:Int))=true:=decide_eq_true (by omega)
   have hwj:IntKind.i64.wrap ((j:Int)+1)=(j:Int)+1:=wrap_ok (by omega) (by omega)
   unfold n18c4
   simp (disch:=try exact DI) only [↓PR,QR,simprocAttr,hdec]
   refine loop2_intro (fun a0 a1 wx=>∃ (kx:Nat) , a0 = .bool ((nl.take kx).any fun s=>idx (fun g=>decide (g.name=s)) (m.fields.take k) == (j:Int))∧a1 = .int .i64 (kx:Int)∧kx≤nl.length∧Ext w2 wx∧True) (fun a0 a1 _=>nl.length - (intOf a1).toNat) ⟨0,rfl,rfl,Nat.zero_le _,ee,trivial⟩ ?_
   rintro _ _ wx ⟨kx,rfl,rfl,hkx,ex,hIx⟩
   have sex:=ex.size
   rcases drop_cases hkx with ⟨xx,hxx,hdx,hltx,hdecx⟩ | ⟨hkx,hdx,hdecx⟩
   · obtain ⟨b3,o3,cs3,rfl,_,hA3,rfl⟩:=hel2 kx xx hxx
     have hst:((nl.take (kx+1)).any fun s=>idx (fun g=>decide (g.name=s)) (m.fields.take k) == (j:Int))=(((nl.take kx).any fun s=>idx (fun g=>decide (g.name=s)) (m.fields.take k) == (j:Int))||(idx (fun g=>decide (g.name=xx)) (m.fields.take k) == (j:Int))):=by rw [take_snoc hxx,List.any_append];simp
     generalize ((nl.take kx).any fun s=>idx (fun g=>decide (g.name=s)) (m.fields.take k) == (j:Int))=acc at hst ⊢
     have eZ:=e2.trans ex
     simp (disch:=try exact DI) only [↓PR,QR,simprocAttr,↓n18c3,hdecx]
     refine drawK_intro ?_
     cases acc with
     | true =>
      simp (disch:=try exact DI) only [↓PR,QR,simprocAttr,↓n18c1]
      exact ⟨⟨kx+1,by rw [hst];rfl,rfl,by omega,ex.wdrew,trivial⟩,meas_lt (kd := .i64) hltx⟩
     | false =>
      simp (disch:=try exact DI) only [↓PR,QR,simprocAttr,↓n18c1,hBW.c2 (e1.trans eZ),hA3.c1 eZ]
      refine zcr (rField_ret _ _ m xx k ⟨_,rfl,hF0.ext (eW.trans (e1.trans eZ)).drew⟩ (by omega)) fun w4 e4=>?_
      refine ⟨e4,?_⟩
      simp (disch:=try exact DI) only [↓PR,QR,simprocAttr]
      exact ⟨⟨kx+1,by rw [hst];rfl,rfl,by omega,ex.drew.trans e4,trivial⟩,meas_lt (kd := .i64) hltx⟩
   · subst hkx
     rw [List.take_length,← hU j]
     have hss:=sel_succ j (usesB m.fields k)
     have hsl:=sel_len j (usesB m.fields k)
     have e02:=e2.trans ex
     cases hu:usesB m.fields k j with
     | false =>
      rw [hu] at hss
      simp only [Bool.false_eq_true,if_false,List.append_nil] at hss
      simp (disch:=try exact DI) only [↓PR,QR,simprocAttr,↓n18c3,↓n18c2,hdecx]
      exact ⟨⟨j+1,rfl,by omega,e02,by rw [hss];exact hR.ext ex⟩,meas_lt (kd := .i64) hlt⟩
     | true =>
      rw [hu] at hss
      simp only [if_true] at hss
      simp (disch:=try exact DI) only [↓PR,QR,simprocAttr,↓n18c3,↓n18c2,hdecx]
      generalize hY:World.alloc wx _=Y
      have eY:Ext wx Y:=by rw [← hY];exact ee
      have oY:Y.heap[wx.heap.size]?=some (.cells #[.int .i64 (j:Int)] 3 (0,0)):=by rw [← hY];exact heap_new _ _ _
      clear hY
      refine append_int (j:Int) ((hR.ext ex).ext eY) (by rw [(cells_of_heap oY).1];rfl) (e02.trans eY).size (by omega) ?_
      intro v' w' hO' hg'
      have e':=hg'.2.1 w1 (e02.trans eY) (Nat.le_refl _)
      simp (disch:=try exact DI) only [↓PR,QR,simprocAttr]
      exact ⟨⟨j+1,rfl,by omega,e',by rw [hss];exact hO'⟩,meas_lt (kd := .i64) hlt⟩
 · have hjk:j=k:=by omega
   subst hjk
   have hdec:decide ((j:Int) < (j:Int))=false:=decide_eq_false (by omega)
   simp (disch:=try exact DI) only [↓PR,QR,simprocAttr,hdec,↓n18c4]
   exact ⟨OwnE.base hR (by omega),eW.trans (e1.trans e2)⟩
theorem rUsers_ret (w0:World) (v:Value) (m:MsgD) (k:Nat) (hm:MsgVal w0 v m) (hk:k < m.fields.length) (hb:fewM m):Ret Pg 16 #[v,.int .i64 (k:Int)] w0 fun r w'=>RowI w' w0.heap.size r (usersP m.fields k)∧Ext w0 w':=by
 obtain ⟨fv,rfl,hF⟩:=hm
 have hF0:=hF
 have hkk:=hb.1
 obtain ⟨A,c,rfl,hlc,hcm,hlm,hel⟩:=SliceOf.open hF
 refine n17s (R:=retR _) ?_;unfold n17
 rw [op_boxA]
 have hBW:=ElemAt.new (w:=w0) (msgCells m (.slice A m.fields.length c)) (24)
 have eW:Ext w0 (w0.alloc (Obj.cells (List.toArray (msgCells m (.slice A m.fields.length c))) (24))):=(Ext.refl _).alloc _
 generalize (w0.alloc (Obj.cells (List.toArray (msgCells m (.slice A m.fields.length c))) (24)))=W at hBW eW ⊢
 have sW:=eW.size
 have hw1:IntKind.i64.wrap ((k:Int)+1)=(k:Int)+1:=wrap_ok (by omega) (by omega)
 have hlow:∀ i,i < k+1→(usesP m.fields i).contains (k:Int)=false:=by
  intro i hi
  rw [Bool.eq_false_iff]
  intro h
  rw [List.contains_iff_mem,usesP,mem_sel] at h
  obtain ⟨q,h1,_,h3⟩:=h
  omega
 have h0:selP (k+1) (fun i=>(usesP m.fields i).contains (k:Int))=[]:=by
  rw [sel_congr (q:=fun _=>false) hlow]
  simp [selP]
 simp (disch:=try exact DI) only [↓PR,QR,simprocAttr,hw1]
 refine loop2_intro (fun a i w=>∃ j:Nat,i = .int .i64 j∧j≤m.fields.length∧Ext W w∧RowI w W.heap.size a (selP j fun i=>(usesP m.fields i).contains (k:Int))) (fun _ i _=>m.fields.length - (intOf i).toNat) ⟨k+1,rfl,by omega,Ext.refl _,by rw [h0];exact OwnE.nil _ _ _ _ _⟩ ?_
 rintro a _ w2 ⟨j,rfl,hj,e2,hR⟩
 have ha1:=SliceOf.oneCell hR.ints
 have E2:=eW.trans e2
 unfold n17c3
 rcases Nat.lt_or_ge j m.fields.length with hlt | hge
 · have hdec:decide ((j:Int) < (m.fields.length:Int))=true:=decide_eq_true (by omega)
   have hwj:IntKind.i64.wrap ((j:Int)+1)=(j:Int)+1:=wrap_ok (by omega) (by omega)
   simp (disch:=try exact DI) only [↓PR,QR,simprocAttr,hBW.c2 e2,hdec,↓n17c2]
   refine callK_ret (rUses_ret _ _ m j ⟨_,rfl,hF0.ext E2⟩ hlt hb) ?_
   rintro u w3 ⟨hU,e3⟩
   refine zcr (rHas_ret _ _ _ (k:Int) hU.ints) fun w4 e4=>?_
   have e02:=e3.trans e4
   have hss:=sel_succ j fun i=>(usesP m.fields i).contains (k:Int)
   have hsl:=sel_len j fun i=>(usesP m.fields i).contains (k:Int)
   cases hu:(usesP m.fields j).contains (k:Int) with
   | false =>
    simp only [hu,Bool.false_eq_true,if_false,List.append_nil] at hss
    simp (disch:=try exact DI) only [↓PR,QR,simprocAttr,↓n17c1]
    exact ⟨⟨j+1,rfl,by omega,e2.trans e02,by rw [hss];exact hR.ext e02⟩,meas_lt (kd := .i64) hlt⟩
   | true =>
    simp only [hu,if_true] at hss
    simp (disch:=try exact DI) only [↓PR,QR,simprocAttr,↓n17c1]
    generalize hY:World.alloc w4 _=Y
    have eY:Ext w4 Y:=by rw [← hY];exact ee
    have oY:Y.heap[w4.heap.size]?=some (.cells #[.int .i64 (j:Int)] 3 (0,0)):=by rw [← hY];exact heap_new _ _ _
    clear hY
    refine append_int (j:Int) ((hR.ext e02).ext eY) (by rw [(cells_of_heap oY).1];rfl) (e2.trans (e02.trans eY)).size (by omega) ?_
    intro v' w' hO' hg'
    have e':=hg'.2.1 W (e2.trans (e02.trans eY)) (Nat.le_refl _)
    simp (disch:=try exact DI) only [↓PR,QR,simprocAttr]
    exact ⟨⟨j+1,rfl,by omega,e',by rw [hss];exact hO'⟩,meas_lt (kd := .i64) hlt⟩
 · have hjk:j=m.fields.length:=by omega
   subst hjk
   have hdec:decide ((m.fields.length:Int) < (m.fields.length:Int))=false:=decide_eq_false (by omega)
   simp (disch:=try exact DI) only [↓PR,QR,simprocAttr,hBW.c2 e2,hdec]
   exact ⟨OwnE.base hR (by omega),E2⟩
def freeB (l:List FieldD) (i:Nat):Bool:=(match l[i]? with
 | some f=>numberB f
 | none=>false)&&(usersP l i).isEmpty
theorem rFree_ret (w0:World) (v:Value) (m:MsgD) (hm:MsgVal w0 v m) (hb:fewM m):Ret Pg 17 #[v] w0 fun r w'=>RowI w' w0.heap.size r (freeP m.fields)∧Ext w0 w':=by
 obtain ⟨fv,rfl,hF⟩:=hm
 have hF0:=hF
 have hkk:=hb.1
 obtain ⟨A,c,rfl,hlc,hcm,hlm,hel⟩:=SliceOf.open hF
 refine n16s (R:=retR _) ?_;unfold n16
 rw [op_boxA]
 have hBW:=ElemAt.new (w:=w0) (msgCells m (.slice A m.fields.length c)) (24)
 have eW:Ext w0 (w0.alloc (Obj.cells (List.toArray (msgCells m (.slice A m.fields.length c))) (24))):=(Ext.refl _).alloc _
 generalize (w0.alloc (Obj.cells (List.toArray (msgCells m (.slice A m.fields.length c))) (24)))=W at hBW eW ⊢
 have sW:=eW.size
 refine loop2_intro (fun a0 a1 w=>∃ (k:Nat) (sv:Value),a0=sv∧a1 = .int .i64 (k:Int)∧k≤m.fields.length∧Ext W w∧RowI w W.heap.size sv (selP k (freeB m.fields))) (fun a0 a1 _=>m.fields.length - (intOf a1).toNat) ⟨0,.slice none 0 0,rfl,rfl,Nat.zero_le _,ee,OwnE.nil _ _ _ _ _⟩ ?_
 rintro _ _ w ⟨k,sv,rfl,rfl,hk,e,hI⟩
 have se:=e.size
 rcases drop_cases hk with ⟨x,hx,hd,hlt,hdec⟩ | ⟨hk,hd,hdec⟩
 · obtain ⟨b,o,cs,rfl,hlcs,hA,hE⟩:=hel k x hx
   obtain ⟨tv,cv,rfl,hT,hC,ht1,hc1⟩:=hE.op
   rename_i a0'
   have ha1:=SliceOf.oneCell hI.ints
   have E2:=eW.trans e
   have hss:=sel_succ k (freeB m.fields)
   have hsl:=sel_len k (freeB m.fields)
   have hfb:freeB m.fields k=(numberB x&&(usersP m.fields k).isEmpty):=by unfold freeB;rw [hx]
   have hwj:IntKind.i64.wrap ((k:Int)+1)=(k:Int)+1:=wrap_ok (by omega) (by omega)
   simp (disch:=try exact DI) only [↓PR,QR,simprocAttr,hdec,hBW.c2 e,↓n16c4,↓n16c3,hA.c15 E2]
   refine zcr (rNumber_ret _ _ x ⟨tv,cv,rfl,TermsOf.ext hT E2,CasesOf.ext hC E2⟩) fun w3 e3=>?_
   have hkeep:∀ w4,Ext w3 w4→freeB m.fields k=false→((∃ (k':Nat) (sv:Value),a0'=sv∧Value.int .i64 ((k:Int)+1)=Value.int .i64 k'∧k'≤m.fields.length∧Ext W w4∧RowI w4 W.heap.size sv (selP k' (freeB m.fields)))∧m.fields.length - (intOf (Value.int .i64 ((k:Int)+1))).toNat < m.fields.length - (intOf (Value.int .i64 (k:Int))).toNat):=by
    intro w4 e4 h
    rw [h] at hss
    simp only [Bool.false_eq_true,if_false,List.append_nil] at hss
    exact ⟨⟨k+1,_,rfl,rfl,by omega,e.trans (e3.trans e4),by rw [hss];exact hI.ext (e3.trans e4)⟩,meas_lt (kd := .i64) hlt⟩
   cases hnb:numberB x with
   | false =>
    rw [hnb,Bool.false_and] at hfb
    simp (disch:=try exact DI) only [↓PR,QR,simprocAttr,↓n16c2,↓n16c1]
    exact hkeep w3 (Ext.refl _) hfb
   | true =>
    rw [hnb,Bool.true_and] at hfb
    simp (disch:=try exact DI) only [↓PR,QR,simprocAttr,↓n16c2,hBW.c2 (e.trans e3)]
    refine callK_ret (rUsers_ret _ _ m k ⟨_,rfl,hF0.ext (E2.trans e3)⟩ hlt hb) ?_
    rintro u w4 ⟨hU,e4⟩
    obtain ⟨A5,c5,rfl,_,_,_,_⟩:=SliceOf.open hU.ints
    cases hem:(usersP m.fields k).isEmpty with
    | false =>
     rw [hem] at hfb
     have h0:((((usersP m.fields k).length:Nat):Int) == 0)=false:=by
      cases hl:usersP m.fields k with
      | nil=>rw [hl] at hem;cases hem
      | cons a l=>simp;omega
     simp (disch:=try exact DI) only [↓PR,QR,simprocAttr,h0,↓n16c1]
     exact hkeep w4 e4 hfb
    | true =>
     rw [hem] at hfb
     rw [hfb] at hss
     simp only [if_true] at hss
     have h0:((((usersP m.fields k).length:Nat):Int) == 0)=true:=by
      cases hl:usersP m.fields k with
      | nil=>rfl
      | cons a l=>rw [hl] at hem;cases hem
     simp (disch:=try exact DI) only [↓PR,QR,simprocAttr,h0,↓n16c1]
     have e02:=e3.trans e4
     generalize hY:World.alloc w4 _=Y
     have eY:Ext w4 Y:=by rw [← hY];exact ee
     have oY:Y.heap[w4.heap.size]?=some (.cells #[.int .i64 (k:Int)] 3 (0,0)):=by rw [← hY];exact heap_new _ _ _
     clear hY
     refine append_int (k:Int) ((hI.ext e02).ext eY) (by rw [(cells_of_heap oY).1];rfl) (e.trans (e02.trans eY)).size (by omega) ?_
     intro v' w' hO' hg'
     have e':=hg'.2.1 W (e.trans (e02.trans eY)) (Nat.le_refl _)
     simp (disch:=try exact DI) only [↓PR,QR,simprocAttr]
     exact ⟨⟨k+1,_,rfl,rfl,by omega,e',by rw [hss];exact hO'⟩,meas_lt (kd := .i64) hlt⟩
 · subst hk
   simp (disch:=try exact DI) only [↓PR,QR,simprocAttr,hdec,hBW.c2 e,↓n16c4]
   exact ⟨OwnE.base hI (by omega),eW.trans e⟩
def n3c1 (t4 t9 t57 t64:Value) (Kr3:World→Prop) (Qr3:List PanicEntry→World→Prop) (Xr3:Nat→World→Prop) (R:RT) (w:World):Prop :=
 pickK t57 (.bool true) t64 fun t65 =>
 condP t65 (
 opU Pg (Instr.storeAt 4 t4 (.bool false)) Qr3 w fun w =>
 Xr3 0 w) (
 opV Pg (Instr.loadAt 3 t9) Qr3 w fun t66 w =>
 opV Pg (binS .add 3 true t66 (.int .i64 1)) Qr3 w fun t67 w =>
 opU Pg (Instr.storeAt 3 t9 t67) Qr3 w fun w =>
 Kr3 w)
def n3c2 (t4 t5 t9 t53:Value) (Kr3:World→Prop) (Qr3:List PanicEntry→World→Prop) (Xr3:Nat→World→Prop) (R:RT) (w:World):Prop :=
 opV Pg (Instr.loadAt 3 t9) Qr3 w fun t54 w =>
 opV Pg (Instr.loadAt 30 t5) Qr3 w fun t55 w =>
 opV Pg (Builtin.len_ #[30] 3 #[t55]) Qr3 w fun t56 w =>
 opV Pg (binS .geq 3 false t54 t56) Qr3 w fun t57 w =>
 joinK (fun (t64:Value) (w:World) =>
 n3c1 t4 t9 t57 t64 Kr3 Qr3 Xr3 R w) fun K4 =>
 guardP t57 false (
 opV Pg (Instr.loadAt 30 t5) Qr3 w fun t60 w =>
 opV Pg (Instr.loadAt 3 t9) Qr3 w fun t61 w =>
 opV Pg (Instr.indexAt 30 t60 t61) Qr3 w fun t62 w =>
 opV Pg (Instr.loadAt 3 t62) Qr3 w fun t63 w =>
 opV Pg (binS .neq 3 false t53 t63) Qr3 w fun t64 w =>
 K4 t64 w) (
 K4 undef w)
def n3c3 (t4 t5 t9:Value) (ds:List Deferred) (R:RT) (w:World):Prop :=
 opV Pg (Instr.loadAt 3 t9) (outQ Pg ds [(some 4,t4)] R) w fun t68 w =>
 opV Pg (Instr.loadAt 30 t5) (outQ Pg ds [(some 4,t4)] R) w fun t69 w =>
 opV Pg (Builtin.len_ #[30] 3 #[t69]) (outQ Pg ds [(some 4,t4)] R) w fun t70 w =>
 opV Pg (binS .eql 3 false t68 t70) (outQ Pg ds [(some 4,t4)] R) w fun t71 w =>
 joinK (fun (t73:Value) (w:World) =>
 pickK t71 t73 (.bool false) fun t74 =>
 opU Pg (Instr.storeAt 4 t4 t74) (outQ Pg ds [(some 4,t4)] R) w fun w =>
 outX Pg ds [(some 4,t4)] R w) fun K5 =>
 guardP t71 true (
 callK Pg 11 #[] (outQ Pg ds [(some 4,t4)] R) w fun t73 w =>
 K5 t73 w) (
 K5 undef w)
def n3c4 (t4 t5 t37:Value) (ds:List Deferred) (R:RT) (w:World):Prop :=
 opV Pg (Instr.alloc 3 true (.tuple #[])) (outQ Pg ds [(some 4,t4)] R) w fun t9 w =>
 opU Pg (Instr.storeAt 3 t9 (.int .i64 0)) (outQ Pg ds [(some 4,t4)] R) w fun w =>
 rangeN Pg t37 ds (fun l3 t53 w Kr3 Xr3 Qr3 =>
 busyK l3 w fun w =>
 n3c2 t4 t5 t9 t53 Kr3 Qr3 Xr3 R w) (fun ch ds w=>outQ Pg ds [(some 4,t4)] R ch w) w (fun ds w =>
 n3c3 t4 t5 t9 ds R w) [fun ds w =>
 outX Pg ds [(some 4,t4)] R w]
def n3c5 (t4 t6 t8:Value) (next2:KV) (ds:List Deferred) (R:RT) (w:World):Prop :=
 opV Pg (Instr.fieldAt 24 t6 1) (outQ Pg ds [(some 4,t4)] R) w fun t47 w =>
 opV Pg (Instr.loadAt 22 t47) (outQ Pg ds [(some 4,t4)] R) w fun t48 w =>
 opV Pg (Instr.build 48 #[(0,(.string { data := #[120] })),(1,(.int .i64 1))]) (outQ Pg ds [(some 4,t4)] R) w fun t50 w =>
 opV Pg (Instr.indexAt 22 t48 t8) (outQ Pg ds [(some 4,t4)] R) w fun t51 w =>
 opU Pg (Instr.storeAt 48 t51 t50) (outQ Pg ds [(some 4,t4)] R) w fun w =>
 opV Pg (binS .add 3 true t8 (.int .i64 1)) (outQ Pg ds [(some 4,t4)] R) w fun t46 w =>
 next2 t46 w
def n3c6 (t4 t5 t6 t8 t37:Value) (next2:KV) (ds:List Deferred) (R:RT) (w:World):Prop :=
 opV Pg (Instr.fieldAt 24 t6 1) (outQ Pg ds [(some 4,t4)] R) w fun t41 w =>
 opV Pg (Instr.loadAt 22 t41) (outQ Pg ds [(some 4,t4)] R) w fun t42 w =>
 opV Pg (Builtin.len_ #[22] 3 #[t42]) (outQ Pg ds [(some 4,t4)] R) w fun t43 w =>
 opV Pg (binS .lss 3 false t8 t43) (outQ Pg ds [(some 4,t4)] R) w fun t44 w =>
 condP t44 (
 n3c5 t4 t6 t8 next2 ds R w) (
 n3c4 t4 t5 t37 ds R w)
def n3c7 (t4 t5 t6 t37:Value) (ds:List Deferred) (R:RT) (w:World):Prop :=
 opV Pg (binS .eql 40 true t37 .nilFunc) (outQ Pg ds [(some 4,t4)] R) w fun t39 w =>
 condP t39 (
 opU Pg (Instr.storeAt 4 t4 (.bool false)) (outQ Pg ds [(some 4,t4)] R) w fun w =>
 outX Pg ds [(some 4,t4)] R w) (
 loop1 (fun t8 w next2 =>
 n3c6 t4 t5 t6 t8 t37 next2 ds R w) (.int .i64 0) w)
def n3c8 (t2 t4 t5:Value) (ds:List Deferred) (R:RT) (w:World):Prop :=
 opV Pg (Instr.loadAt 24 t2) (outQ Pg ds [(some 4,t4)] R) w fun t30 w =>
 opV Pg (Instr.alloc 24 true (.tuple #[])) (outQ Pg ds [(some 4,t4)] R) w fun t6 w =>
 opU Pg (Instr.storeAt 24 t6 t30) (outQ Pg ds [(some 4,t4)] R) w fun w =>
 opV Pg (Instr.buildSlice 22 0 #[]) (outQ Pg ds [(some 4,t4)] R) w fun t31 w =>
 opV Pg (Instr.fieldAt 24 t2 1) (outQ Pg ds [(some 4,t4)] R) w fun t32 w =>
 opV Pg (Instr.loadAt 22 t32) (outQ Pg ds [(some 4,t4)] R) w fun t33 w =>
 opV Pg (Builtin.append_ #[22,22] 22 #[t31,t33]) (outQ Pg ds [(some 4,t4)] R) w fun t34 w =>
 opV Pg (Instr.fieldAt 24 t6 1) (outQ Pg ds [(some 4,t4)] R) w fun t35 w =>
 opU Pg (Instr.storeAt 22 t35 t34) (outQ Pg ds [(some 4,t4)] R) w fun w =>
 opV Pg (Instr.loadAt 24 t6) (outQ Pg ds [(some 4,t4)] R) w fun t36 w =>
 callK Pg 19 #[t36] (outQ Pg ds [(some 4,t4)] R) w fun t37 w =>
 n3c7 t4 t5 t6 t37 ds R w
def n3c9 (t2 t4 t5 t28:Value) (ds:List Deferred) (R:RT) (w:World):Prop :=
 opV Pg (Op.unary .not t28) (outQ Pg ds [(some 4,t4)] R) w fun t29 w =>
 condP t29 (
 opU Pg (Instr.storeAt 4 t4 (.bool false)) (outQ Pg ds [(some 4,t4)] R) w fun w =>
 outX Pg ds [(some 4,t4)] R w) (
 n3c8 t2 t4 t5 ds R w)
def n3c10 (t1 t2 t4 t24:Value) (ds:List Deferred) (R:RT) (w:World):Prop :=
 opV Pg (Instr.alloc 30 true (.tuple #[])) (outQ Pg ds [(some 4,t4)] R) w fun t5 w =>
 opU Pg (Instr.storeAt 30 t5 t24) (outQ Pg ds [(some 4,t4)] R) w fun w =>
 opV Pg (Instr.loadAt 24 t2) (outQ Pg ds [(some 4,t4)] R) w fun t25 w =>
 opV Pg (Instr.loadAt 30 t5) (outQ Pg ds [(some 4,t4)] R) w fun t27 w =>
 callK Pg 18 #[t25,t1,t27] (outQ Pg ds [(some 4,t4)] R) w fun t28 w =>
 n3c9 t2 t4 t5 t28 ds R w
def n3c11 (t4:Value) (ds:List Deferred) (R:RT) (w:World):Prop :=
 callK Pg 11 #[] (outQ Pg ds [(some 4,t4)] R) w fun t22 w =>
 opU Pg (Instr.storeAt 4 t4 t22) (outQ Pg ds [(some 4,t4)] R) w fun w =>
 outX Pg ds [(some 4,t4)] R w
def n3c12 (t1 t2 t4:Value) (ds:List Deferred) (R:RT) (w:World):Prop :=
 opV Pg (Instr.loadAt 24 t2) (outQ Pg ds [(some 4,t4)] R) w fun t23 w =>
 callK Pg 17 #[t23] (outQ Pg ds [(some 4,t4)] R) w fun t24 w =>
 n3c10 t1 t2 t4 t24 ds R w
def n3 (t0 t1:Value) (R:RT) (w:World):Prop :=
 (fun (ds:List Deferred) =>
 opV Pg (Instr.box 24 t0) (outQ Pg ds [(some 4,undef)] R) w fun t2 w =>
 opV Pg (Instr.alloc 4 true (.tuple #[])) (outQ Pg ds [(some 4,undef)] R) w fun t4 w =>
 opV Pg (Instr.fieldAt 24 t2 1) (outQ Pg ds [(some 4,t4)] R) w fun t11 w =>
 opV Pg (Instr.loadAt 22 t11) (outQ Pg ds [(some 4,t4)] R) w fun t12 w =>
 opV Pg (Builtin.len_ #[22] 3 #[t12]) (outQ Pg ds [(some 4,t4)] R) w fun t13 w =>
 opV Pg (binS .gtr 3 true t13 (.int .i64 20)) (outQ Pg ds [(some 4,t4)] R) w fun t14 w =>
 joinK (fun (t20:Value) (w:World) =>
 pickK t14 (.bool true) t20 fun t21 =>
 condP t21 (
 n3c11 t4 ds R w) (
 n3c12 t1 t2 t4 ds R w)) fun K1 =>
 guardP t14 false (
 opV Pg (Instr.loadAt 24 t2) (outQ Pg ds [(some 4,t4)] R) w fun t16 w =>
 opV Pg (Instr.buildSlice 26 1 #[(0,t16)]) (outQ Pg ds [(some 4,t4)] R) w fun t17 w =>
 opV Pg (Instr.build 28 #[(1,t17)]) (outQ Pg ds [(some 4,t4)] R) w fun t18 w =>
 callK Pg 10 #[t18] (outQ Pg ds [(some 4,t4)] R) w fun t19 w =>
 opV Pg (Op.unary .not t19) (outQ Pg ds [(some 4,t4)] R) w fun t20 w =>
 K1 t20 w) (
 K1 undef w)) []
set_option maxHeartbeats 40000000 in
theorem n3s {t0 t1:Value} {R:RT} {w:World} (h:n3 t0 t1 R w):Calls Pg 4 #[t0,t1] w R:=by
 refine yE Tryz.func4 ?_
 unfold n3 at h
 dsimp only at h
 refine zs<|zr<|yv h fun _ w h=>yv h fun _ w h=>zn<|zk<|zs<|zs<|sim_regionG<|yG 5<|yv h fun _ w h=>yv h fun _ w h=>yx h fun _ w h=>yb h fun _ w h=>zm ?_
 refine zn<|yg1 5 4 false [16,17,18,19,20] 20 h (fun _ T hT h=>?_) fun σ w h=>?_
 · refine yv h fun _ w h=>yS h fun _ w h=>yB h fun _ w h=>yc h c10 fun _ w h=>yv h fun _ w h=>zn ?_
   exact zt hT h
 refine yG 1<|yp h fun _ h=>zn<|sim_end<|zk<|yC h (fun h=>zs<|zr<|yc h c11 fun _ w h=>yu h fun w h=>zn<|zk<|sim_ret<|sim_then_ret<|bodyM_ret rfl h) fun h=>sim_skip<|zk<|zs<|zr<|yv h fun _ w h=>yc h c17 fun _ w h=>yv h fun _ w h=>yu h fun w h=>?_
 refine zn<|zk<|zs<|zs<|zr<|yv h fun _ w h=>zm<|yv h fun _ w h=>yc h c18 fun _ w h=>yv h fun _ w h=>zn<|zk<|yC h (fun h=>zs<|zr<|yu h fun w h=>zn<|zk<|sim_ret<|sim_then_ret<|bodyM_ret rfl h) fun h=>sim_skip ?_
 refine zk<|zs<|zr<|yv h fun _ w h=>yv h fun _ w h=>yu h fun w h=>zn<|zk<|zs<|zr<|yS h fun _ w h=>yv h fun _ w h=>yv h fun _ w h=>yx h fun _ w h=>yv h fun _ w h=>?_
 refine yu h fun w h=>zn<|zk<|zs<|zr<|yv h fun _ w h=>yc h c19 fun _ w h=>zm<|zn<|zk<|zs<|zs<|zr<|zm<|yb h fun _ w h=>?_
 refine zn<|zk<|yC h (fun h=>zs<|zr<|yu h fun w h=>zn<|zk<|sim_ret<|sim_then_ret<|bodyM_ret rfl h) fun h=>sim_skip<|zk<|zs<|zs<|zr<|zm<|zn<|zk<|sim_block<|yl1 [8,40,41,42,43,44,45,46,47,48,49,50,51] 8 h fun σ w next h=>zs ?_
 refine zs<|zr<|zm<|yv h fun _ w h=>yv h fun _ w h=>yx h fun _ w h=>yb h fun _ w h=>zn<|zk<|yC h (fun h=>?_) fun h=>?_
 · refine sim_skip<|zk<|zs<|sim_block<|zr<|yv h fun _ w h=>yv h fun _ w h=>zm<|yB h fun _ w h=>yv h fun _ w h=>yu h fun w h=>zn<|sim_block_normal<|zk<|zr ?_
   exact zm<|yb h fun _ w h=>zm<|zn<|zk<|⟨rfl,h⟩
 refine sim_exit<|sim_then_exit<|sim_then_exit<|sim_block_hit<|zk<|zs<|zr<|yv h fun _ w h=>yu h fun w h=>zn<|zk<|zs<|zs<|zr<|zm ?_
 refine zn<|zk<|sim_block<|sim_range [.ret] h rfl (fun l3 t53 w Kr3 Xr3 Qr3 h=>?_) (fun ds w h=>?_) (fun c ds w h=>?_) (fun ch ds w h=>outQ_of rfl h)
 · refine zr<|zm<|zn<|zk ?_
   obtain ⟨hr,h⟩:=h
   refine ⟨rfl,hr,fun w hb=>?_⟩
   have h:=h w hb
   refine sim_block<|zs<|zs<|sim_regionG<|yG 5<|yv h fun _ w h=>yv h fun _ w h=>yx h fun _ w h=>yb h fun _ w h=>zm<|zn<|yg1 6 4 false [59,60,61,62,63,64] 64 h (fun _ T hT h=>?_) fun σ w h=>?_
   · refine zm<|yv h fun _ w h=>yv h fun _ w h=>yv h fun _ w h=>yv h fun _ w h=>yb h fun _ w h=>zn ?_
     exact zt hT h
   refine yG 1<|yp h fun _ h=>zn<|sim_end<|zk<|yC h (fun h=>zs<|zr<|yu h fun w h=>zn<|zk<|sim_ret<|sim_then_ret<|sim_block_ret<|⟨rfl,0,rfl,h⟩) fun h=>sim_skip<|zk<|zr<|yv h fun _ w h=>yb h fun _ w h=>yu h fun w h=>zn<|sim_block_normal ?_
   exact ⟨rfl,h⟩
 · refine sim_block_normal<|zk<|zs<|sim_regionG<|yG 5<|yv h fun _ w h=>yv h fun _ w h=>yx h fun _ w h=>yb h fun _ w h=>zm<|zn<|yg1 1 4 true [73] 73 h (fun _ T hT h=>?_) fun σ w h=>?_
   · refine yc h c11 fun _ w h=>zn ?_
     exact zt hT h
   exact yG 2<|yp h fun _ h=>yu h fun w h=>zn<|sim_end<|zk<|sim_ret<|bodyM_ret rfl h
 rcases c with _ | c
 · refine ⟨_,rfl,.inl ⟨rfl,?_⟩⟩
   exact sim_block_ret<|sim_then_ret<|bodyM_ret rfl h
 exact h.elim
def soloD (m:MsgD):DefD:=⟨ByteArray.empty,[m],ByteArray.empty⟩
theorem solo_val {w:World} {p:Nat} {m:MsgD} {fv:Value} (hF:FieldsOf w fv m.fields) (o:w.heap[p]?=some (.cells (msgCells m fv).toArray 24 (0,0))):DefVal w (.agg #[.string ByteArray.empty,.slice (some ⟨p,0,none⟩) 1 1,.string ByteArray.empty]) (soloD m):=by
 refine ⟨_,rfl,_,1,rfl,by simp [soloD],by decide,fun _=>⟨p,0,rfl,fun k x hx=>?_⟩⟩
 cases k with
 | succ k=>simp [soloD] at hx
 | zero =>
  simp [soloD] at hx;subst hx
  exact ⟨msgCells m fv,rfl,fun j v hv=>by rw [(cells_of_heap o).1];simpa using hv,_,rfl,hF⟩
theorem solo_sm {m:MsgD} (h:MsgSm m):DefSm (soloD m):=⟨by simp [soloD],fun x hx=>by simp [soloD] at hx;subst hx;exact h⟩
theorem solo_few {m:MsgD} (h:fitsP (soloD m)):fewM m:=by
 have h1:=le_sumF (l:=(soloD m).msgs) (m:=m) (by simp [soloD])
 have h2:=h.2.1
 exact ⟨by omega,fun f hf=>by have:=(h.2.2 m (by simp [soloD]) f hf).2;omega⟩
theorem scRow {b:Nat} {T:TypeId} {fr:Nat×Nat}:∀ (vs:List Value) (o:Nat) {w:World} {cur:Array Value},w.heap[b]?=some (.cells cur T fr)→∃ cur':Array Value,(setCells w b o vs).heap[b]?=some (.cells cur' T fr)∧cur'.size=cur.size
 | [],_,_,_,h=>⟨_,h,rfl⟩
 | v::vs,o,w,cur,h=>by
  obtain ⟨cur',h1,h2⟩:=scRow vs (o+1) (heap_set (o:=o) h v)
  exact ⟨cur',h1,by rw [h2];simp⟩
theorem scOnly {b:Nat}:∀ (vs:List Value) (o:Nat) (w:World),Only b w (setCells w b o vs)
 | [],_,_=>fun _ _=>rfl
 | v::vs,o,w=>fun g hg=>(scOnly vs (o+1) (w.setCell ⟨b,o,none⟩ v) g hg).trans (Only.setCell w b o v g hg)
theorem scExt {W:World} {b:Nat} (hb:W.heap.size≤b):∀ (vs:List Value) (o:Nat) {w:World},Ext W w→Ext W (setCells w b o vs)
 | [],_,_,e=>e
 | v::vs,o,w,e=>scExt hb vs (o+1) (e.setCell (by exact hb) v)
theorem scStore {P:Program} {QP:List PanicEntry→World→Prop} {w:World} {T n m:Nat} {z:Value} {ku:World→Prop} (h:TyInfo P T true n m z) {b:Nat} {cur:Array Value} {T':TypeId} (hc:w.heap[b]?=some (.cells cur T' (0,0))) (o:Nat) (vs:List Value) (ho:o+n≤cur.size) (hn:vs.length=n) (hv:∀ v∈vs,v.oneCell'=true) :
 opU P (Instr.storeAt T (.pointer (some ⟨b,o,none⟩)) (.agg vs.toArray)) QP w ku=ku (setCells w b o vs):=by
 refine opU_ok (u:=()) ?_
 have:=run_storeCellsA (P:=P) b o vs 0 w (fun j hj=>⟨cur[o+(0+j)]'(by omega),by rw [(cells_of_heap hc).1];exact Array.getElem?_eq_getElem (by omega)⟩) (fun j hj=>(cells_of_heap hc).2 _) hv
 simp [Instr.storeAt,Instr.sureAddr,storeVar,Sw.run_sizeOf h,cells_agg,hn,this]
theorem ints_only {w w':World} {g:Nat} {sv:Value} {l:List Int} (h:SliceOf w 1 EInt sv l) (ho:Only g w w') (hne:∀ A n c,sv = .slice (some A) n c→A.block≠g):SliceOf w' 1 EInt sv l:=by
 obtain ⟨A,c,h1,h2,h3,h4⟩:=h
 refine ⟨A,c,h1,h2,h3,fun hl=>?_⟩
 obtain ⟨b,o,rfl,h6⟩:=h4 hl
 have hb:b≠g:=hne _ _ _ h1
 refine ⟨b,o,rfl,fun k x hx=>?_⟩
 obtain ⟨cs,a1,a2,a3⟩:=h6 k x hx
 refine ⟨cs,a1,fun j v hv=>?_,a3⟩
 have:=a2 j v hv
 unfold World.cell? at this ⊢
 rw [show w'.heap[b]?=w.heap[b]? from ho b hb]
 exact this
abbrev fX1:List Value:=[.string ⟨#[120]⟩,.int .i64 1,.int .i64 0,.bool false,.bool false,.int .i64 0,.int .i64 0,.int .i64 0,.slice none 0 0,.string ByteArray.empty,.string ByteArray.empty,.string ByteArray.empty,.slice none 0 0,.int .i64 0,.int .i64 0]
section
variable {R:RT}
theorem sfr_loop {w0 W:World} {n g2 p4 p5 p6 cap:Nat} {fn nm:Value} (hn2:n≤1000) (hb2:w0.heap.size≤g2) (hne:p6≠g2) {cur:Array Value} (hc:W.heap[g2]?=some (.cells cur 48 (0,0))) (hcs:n*15≤cur.size)
 (o6:W.heap[p6]?=some (.cells #[nm,.slice (some ⟨g2,0,none⟩) n cap] 24 (0,0))) (e0:Ext w0 W)
 (hK:∀ w',Ext w0 w'→Only g2 W w'→n3c4 (.pointer (some ⟨p4,0,none⟩)) (.pointer (some ⟨p5,0,none⟩)) fn [] R w') :
 loop1 (fun t8 w next2=>n3c6 (.pointer (some ⟨p4,0,none⟩)) (.pointer (some ⟨p5,0,none⟩)) (.pointer (some ⟨p6,0,none⟩)) t8 fn next2 [] R w) (.int .i64 0) W:=by
 refine loop1_intro (fun i w=>∃ k:Nat,i = .int .i64 k∧k≤n∧Ext w0 w∧Only g2 W w∧∃ cur:Array Value,w.heap[g2]?=some (.cells cur 48 (0,0))∧n*15≤cur.size) (fun i _=>n - (intOf i).toNat) ⟨0,rfl,by omega,e0,fun _ _=>rfl,cur,hc,hcs⟩ ?_
 rintro _ w ⟨k,rfl,hk,e,ho,cu,hcu,hcz⟩
 have x6:=(ho p6 hne).trans o6
 unfold n3c6
 by_cases hlt:k < n
 · have d1:decide ((k:Int) < (n:Int))=true:=decide_eq_true (by omega)
   have hwk:IntKind.i64.wrap ((k:Int)+1)=(k:Int)+1:=wrap_ok (by omega) (by omega)
   simp (disch:=try exact DI) only [↓PR,QR,simprocAttr,(cells_of_heap x6).1,d1,↓n3c5]
   rw [scStore ty48 hcu (k*15) fX1 (by omega) rfl (by simp [Value.oneCell'])]
   obtain ⟨cu2,hc2,hs2⟩:=scRow fX1 (k*15) hcu
   have ho2:=scOnly (b:=g2) fX1 (k*15) w
   have e2:=scExt hb2 fX1 (k*15) e
   generalize setCells w g2 (k*15) fX1=w3 at hc2 ho2 e2 ⊢
   simp (disch:=try exact DI) only [↓PR,QR,simprocAttr,hwk]
   exact ⟨⟨k+1,rfl,by omega,e2,fun g hg=>(ho2 g hg).trans (ho g hg),cu2,hc2,by omega⟩,meas_lt (kd := .i64) hlt⟩
 · have d1:decide ((k:Int) < (n:Int))=false:=decide_eq_false (by omega)
   simp (disch:=try exact DI) only [↓PR,QR,simprocAttr,(cells_of_heap x6).1,d1]
   exact hK w e ho
end
theorem sfr_range {w0 W:World} {p4 p5 pb:Nat} {sv A:Value} {l:List Int} (o4:W.heap[p4]?=some (.cells #[.bool false] 4 (0,0))) (h4:w0.heap.size≤p4) (o5:W.heap[p5]?=some (.cells #[A] 30 (0,0))) (hA:SliceOf W 1 EInt A l) (hI:IntsAt W pb sv l) (e0:Ext w0 W) :
 n3c4 (.pointer (some ⟨p4,0,none⟩)) (.pointer (some ⟨p5,0,none⟩)) (.func (.func 86) #[] #[.pointer (some ⟨pb,0,none⟩)]) [] (retR fun r w'=>r = .bool true∧Ext w0 w') W:=by
 obtain ⟨A,cc,rfl,hlc,hcm,hlm,hel⟩:=SliceOf.open hA
 unfold n3c4
 simp (disch:=try exact DI) only [↓PR,QR,simprocAttr]
 have eX:Ext W (W.alloc (.cells #[.int .i64 0] 3)):=ee
 have oE:=heap_new W #[.int .i64 0] 3
 have s3:(W.alloc (.cells #[.int .i64 0] 3)).heap.size=W.heap.size+1:=by simp only [World.size_alloc]
 generalize hpE:W.heap.size=pE at oE s3 ⊢
 generalize (W.alloc (.cells #[.int .i64 0] 3))=X at eX oE s3 ⊢
 let I:Nat→World→Prop:=fun k w'=>Ext W w'∧w'.heap[pE]?=some (.cells #[.int .i64 (k:Int)] 3 (0,0))
 have hLI:∀ k,Lasts X.heap.size (I k):=fun k=>Lasts.and (Lasts.from (by omega)) (Lasts.has _ (by simp))
 refine ⟨_,_,l.length,intX l,fun w=>IntsAt w pb sv l,I,fun _ _=>False,fun _ _=>False,rfl,c86,Values_seq pb sv l,⟨eX,oE⟩,fun k w' h=>hI.ext h.1,hLI,fun _=>Lasts.const _ _,?_,?_,?_,?_⟩
 · intro rec j w4 hj hI4 hrec hready
   refine ⟨hready,fun w5 hbz=>?_⟩
   have hrec5:=hrec.busied hbz
   have hI5:=(hLI j).busied hbz (Nat.le_succ _) hI4
   clear hI4 hrec hready hbz
   obtain ⟨e5,qE⟩:=hI5
   obtain ⟨n,hn⟩:=getElem?_lt hj
   obtain ⟨b,o,cs,rfl,_,hE,hcs⟩:=hel j n hn
   subst hcs
   rw [show intX l j = .int .i64 n by unfold intX;rw [hn]]
   have hge:decide ((j:Int)≥(l.length:Int))=false:=decide_eq_false (by omega)
   have hss:(n != n)=false:=by simp
   have hw:IntKind.i64.wrap ((j:Int)+1)=((j+1:Nat):Int):=by rw [wrap_ok (by omega) (by omega)];omega
   have rE:(w5.setCell ⟨pE,0,none⟩ (.int .i64 ((j+1:Nat):Int))).heap[pE]?=some (.cells #[.int .i64 ((j+1:Nat):Int)] 3 (0,0)):=by simpa using heap_set (o:=0) qE (.int .i64 ((j+1:Nat):Int))
   have e6:Ext W (w5.setCell ⟨pE,0,none⟩ (.int .i64 ((j+1:Nat):Int))):=e5.setCell (by show W.heap.size≤pE;omega) _
   have hrec6:=hrec5.setCell ⟨pE,0,none⟩ (.int .i64 ((j+1:Nat):Int))
   unfold n3c2
   simp (disch:=try exact DI) only [↓PR,QR,simprocAttr,(cells_of_heap qE).1,(cells_of_heap (e5.obj o5)).1,hge,hE.c1 e5,hss]
   unfold n3c1
   simp (disch:=try exact DI) only [↓PR,QR,simprocAttr,(cells_of_heap qE).1,(cells_of_heap qE).2,hw]
   exact ⟨hrec6,e6,rE⟩
 · rintro w4 ⟨e4,qE⟩ hmk
   have heq:((l.length:Int) == (l.length:Int))=true:=by simp
   unfold n3c3
   simp (disch:=try exact DI) only [↓PR,QR,simprocAttr,(cells_of_heap qE).1,(cells_of_heap (e4.obj o5)).1,heq]
   refine zcr (known_ret _) fun w5 e5=>?_
   have q4:=(e4.trans e5).obj o4
   have r4:(w5.setCell ⟨p4,0,none⟩ (.bool true)).heap[p4]?=some (.cells #[.bool true] 4 (0,0)):=by simpa using heap_set (o:=0) q4 (.bool true)
   simp (disch:=try exact DI) only [↓PR,QR,simprocAttr,(cells_of_heap q4).1,(cells_of_heap q4).2,heq]
   refine outs_marks (w0:=w0) (bs:=[X.heap.size]) (by simp) (fun b hb=>?_) ((e0.trans (e4.trans e5)).setCell (p:=⟨p4,0,none⟩) (by exact h4) _) (fun w' e' hh=>?_)
   · simp only [List.mem_singleton] at hb
     subst hb
     exact ⟨(hmk.ext e5).setCell _ _,by have:=e0.size;omega⟩
   have zC:=hh _ _ has_nd r4
   simp (disch:=try exact DI) only [↓PR,QR,simprocAttr,outX_nil,retV,resOne,(cells_of_heap zC).1]
   exact ⟨by trivial,e'⟩
 · rintro c w4 h
   exact h.elim
 · rintro ch w4 h
   exact h.elim
theorem append_copy {X0 W:World} {QP:List PanicEntry→World→Prop} {k:Value→World→Prop} {g0 c:Nat} {A:Option Addr} {l:List FieldD} (hF:FieldsOf X0 (.slice A l.length c) l) (e0:Ext X0 W) (hx0:X0.heap.size≤g0) (hl:l.length≤1000) (o0:W.heap[g0]?=some (.cells #[] 48 (0,0)))
 (hk:∀ g2 cap (cur:Array Value) w',g0≤g2→w'.heap[g2]?=some (.cells cur 48 (0,0))→l.length*15≤cur.size→(∀ w9,w9.heap[g2]?=w'.heap[g2]?→Ext X0 w9→FieldsOf w9 (.slice (some ⟨g2,0,none⟩) l.length cap) l)→(∀ X,Ext X W→X.heap.size≤g0→Ext X w')→k (.slice (some ⟨g2,0,none⟩) l.length cap) w') :
 opV Pg (Builtin.append_ #[22,22] 22 #[.slice (some ⟨g0,0,none⟩) 0 0,.slice A l.length c]) QP W k:=by
 have l0:=(Array.getElem?_eq_some_iff.1 o0).1
 have hO0:OwnE W g0 48 15 (Subtype.val:Cs 15→List Value) (.slice (some ⟨g0,0,none⟩) 0 0) []:=⟨rfl,.inr ⟨g0,0,_,rfl,Nat.le_refl _,o0,Nat.le_refl _,by decide,rfl,rfl⟩⟩
 cases hl0:l with
 | nil =>
  subst hl0
  simp only [List.length_nil]
  rw [op_append0 Tryz.underlying22 ty48 _ _ _ _ _ (Nat.le_refl 0)]
  exact hk g0 0 _ W (Nat.le_refl _) o0 (by simp) (fun _ _ _=>⟨_,0,rfl,Nat.le_refl _,by decide,fun h=>absurd rfl h⟩) (fun X e _=>e)
 | cons x0 l0' =>
  rw [← hl0]
  obtain ⟨css,hraw,hmates⟩:=SliceOf.raw hF
  have hlc2:css.length=l.length:=hmates.1
  obtain ⟨A',c',hAv,_,_,hne⟩:=hraw
  injection hAv with hAv1 _ hAv2
  subst hAv1 hAv2
  obtain ⟨b,o,rfl,hcs⟩:=hne (by rintro rfl;rw [hl0] at hlc2;simp at hlc2)
  have hpos:0 < css.length:=by rw [hlc2,hl0];simp
  rw [← hlc2] at hk ⊢
  refine op_appendE (l':=css) (b:=b) (o:=o) Tryz.underlying22 ty48 rfl (by decide) (fun x=>x.2) (fun x hx u hu=>?_) hO0 (fun j x hx=>?_) (by omega) (Nat.le_trans (Nat.mul_le_mul (show ([]:List (Cs 15)).length+css.length≤1000 by simp;omega) by48) (by decide)) (by simp;omega) ?_
  · obtain ⟨y,_,hy⟩:=hmates.mem hx
    exact EField.one hy u hu
  · obtain ⟨cs,_,h2,rfl⟩:=hcs j x hx
    exact h2.ext e0
  rintro v1 w3 hO1 hg1
  rw [List.nil_append] at hO1
  have hE:∀ X,Ext X W→X.heap.size≤g0→Ext X w3:=fun X e hX=>e.grown hg1 fun g hg=>by have:=(World.ownsRow.lt hO0 g hg).1;omega
  rcases hO1.2 with ⟨_,h0⟩ | ⟨g,cap,cur,rfl,hb,hg,hc,hm,hs,htk⟩
  · omega
  · refine hk g cap cur w3 hb hg (by rw [hs];exact Nat.mul_le_mul_right _ hc) (fun w9 h9 e9=>?_) hE
    have hO9:OwnE w9 g0 48 15 (Subtype.val:Cs 15→List Value) (.slice (some ⟨g,0,none⟩) css.length cap) css:=⟨hO1.1,.inr ⟨g,cap,cur,rfl,hb,h9.trans hg,hc,hm,hs,htk⟩⟩
    exact hO9.reads (E:=EField) (hmates.imp fun cs x hx=>keptField _ _ _ _ e9 hx)
theorem sfr_known {w0 W:World} {p4:Nat} (o4:W.heap[p4]?=some (.cells #[.bool false] 4 (0,0))) (h4:w0.heap.size≤p4) (e0:Ext w0 W) :
 n3c11 (.pointer (some ⟨p4,0,none⟩)) [] (retR fun r w'=>r = .bool true∧Ext w0 w') W:=by
 unfold n3c11
 refine zcr (known_ret _) fun w5 e5=>?_
 have q4:=e5.obj o4
 have r4:(w5.setCell ⟨p4,0,none⟩ (.bool true)).heap[p4]?=some (.cells #[.bool true] 4 (0,0)):=by simpa using heap_set (o:=0) q4 (.bool true)
 simp (disch:=try exact DI) only [↓PR,QR,simprocAttr,(cells_of_heap q4).1,(cells_of_heap q4).2,outX_nil,retV,resOne,(cells_of_heap r4).1]
 exact ⟨by trivial,(e0.trans e5).setCell (p:=⟨p4,0,none⟩) (by exact h4) _⟩
theorem ScopeFree_ret (w0:World) (v:Value) (m:MsgD) (many:Int) (hm:MsgVal w0 v m) (hs:MsgSm m):Ret Pg 4 #[v,.int .i64 many] w0 fun r w'=>r = .bool true∧Ext w0 w':=by
 obtain ⟨fv,rfl,hF⟩:=hm
 have hF0:=hF
 have hf1:=SliceOf.oneCell hF
 obtain ⟨A,c,rfl,hlc,hcm,hlm,hel⟩:=SliceOf.open hF
 refine n3s (R:=retR _) ?_;unfold n3
 by_cases h20:m.fields.length≤20
 case neg =>
  have hd:decide ((m.fields.length:Int) > 20)=true:=decide_eq_true (by omega)
  simp (disch:=try exact DI) only [↓PR,QR,simprocAttr,hd]
  generalize hV:World.alloc (World.alloc w0 _) _=V
  have eV:Ext w0 V:=by rw [← hV];exact ee
  have oV:V.heap[w0.heap.size+1]?=some (.cells #[.bool false] 4 (0,0)):=by rw [← hV];simp (disch:=try exact DI) only [↓PR,QR,simprocAttr]
  clear hV
  exact sfr_known oV (by omega) eV
 have hd:decide ((m.fields.length:Int) > 20)=false:=decide_eq_false (by omega)
 have hd2:decide (20 < (m.fields.length:Int))=false:=decide_eq_false (by omega)
 simp (disch:=try exact DI) only [↓PR,QR,simprocAttr,hd]
 simp only [World.size_alloc]
 generalize hV:World.alloc (World.alloc (World.alloc w0 _) _) _=V
 have eV:Ext w0 V:=by rw [← hV];exact ee
 have o2:V.heap[w0.heap.size]?=some (.cells (msgCells m (.slice A m.fields.length c)).toArray 24 (0,0)):=by rw [← hV];simp (disch:=try exact DI) only [↓PR,QR,simprocAttr]
 have o4:V.heap[w0.heap.size+1]?=some (.cells #[.bool false] 4 (0,0)):=by rw [← hV];simp (disch:=try exact DI) only [↓PR,QR,simprocAttr]
 have oV:V.heap[w0.heap.size+1+1]?=some (.cells (msgCells m (.slice A m.fields.length c)).toArray 24 (0,0)):=by rw [← hV];simp (disch:=try exact DI) only [↓PR,QR,simprocAttr]
 have sV:V.heap.size=w0.heap.size+1+1+1:=by rw [← hV];simp only [World.size_alloc]
 clear hV
 generalize hp4:w0.heap.size+1=p4 at o4 oV sV ⊢
 refine callK_ret (fits_ret _ _ (soloD m) (solo_val (hF.ext eV) oV) (solo_sm hs)) ?_
 rintro _ w1 ⟨b,rfl,hfit,e1⟩
 have E1:=eV.trans e1
 cases b with
 | false =>
  simp (disch:=try exact DI) only [↓PR,QR,simprocAttr,hd2]
  exact sfr_known (e1.obj o4) (by omega) E1
 | true =>
  have hfew:=solo_few (hfit rfl)
  simp (disch:=try exact DI) only [↓PR,QR,simprocAttr,hd2,↓n3c12,(cells_of_heap (e1.obj o2)).1]
  refine callK_ret (rFree_ret _ _ m ⟨_,rfl,hF0.ext E1⟩ hfew) ?_
  rintro wv w2 ⟨hU2,e2⟩
  have f2:=e1.trans e2
  have E2:=eV.trans f2
  have hw1:=SliceOf.oneCell hU2.ints
  unfold n3c10
  have hc2:∀ O o,(w2.alloc O).cell? ⟨w0.heap.size,o,none⟩=(msgCells m (.slice A m.fields.length c)).toArray[o]?:=fun O o=>(cells_of_heap ((Ext.alloc (Ext.refl w2) O).obj (f2.obj o2))).1 o
  simp (disch:=try exact DI) only [↓PR,QR,simprocAttr,hc2,cells_one hw1]
  have eY:Ext w2 (w2.alloc (.cells #[wv] 30)):=ee
  have oY:=heap_new w2 #[wv] 30
  generalize (w2.alloc (.cells #[wv] 30))=Y at eY oY ⊢
  generalize w2.heap.size=p5 at oY ⊢
  refine zcr (frees_ret _ _ m many wv ⟨_,rfl,hF0.ext (E2.trans eY)⟩ hfew (hU2.ints.ext keptInt eY)) fun w3 e3=>?_
  have f3:=f2.trans (eY.trans e3)
  have E3:=eV.trans f3
  have o5:=e3.obj oY
  unfold n3c9
  simp (disch:=try exact DI) only [↓PR,QR,simprocAttr]
  have hc3:∀ O o,(w3.alloc O).cell? ⟨w0.heap.size,o,none⟩=(msgCells m (.slice A m.fields.length c)).toArray[o]?:=fun O o=>(cells_of_heap ((Ext.alloc (Ext.refl w3) O).obj (f3.obj o2))).1 o
  have hc4:∀ O O' o,((w3.alloc O).alloc O').cell? ⟨w0.heap.size,o,none⟩=(msgCells m (.slice A m.fields.length c)).toArray[o]?:=fun O O' o=>(cells_of_heap ((Ext.alloc (Ext.alloc (Ext.refl w3) O) O').obj (f3.obj o2))).1 o
  unfold n3c8
  simp (disch:=try exact DI) only [↓PR,QR,simprocAttr,(cells_of_heap (f3.obj o2)).1,hc3,hc4]
  have e6:Ext w3 (w3.alloc (.cells #[.string m.name,.slice A m.fields.length c] 24)):=ee
  have o6:=heap_new w3 #[.string m.name,.slice A m.fields.length c] 24
  have s6:(w3.alloc (.cells #[.string m.name,.slice A m.fields.length c] 24)).heap.size=w3.heap.size+1:=by simp only [World.size_alloc]
  generalize (w3.alloc (.cells #[.string m.name,.slice A m.fields.length c] 24))=U at e6 o6 s6 ⊢
  have e7:Ext U (U.alloc (.cells #[] 48)):=ee
  have o7:=heap_new U #[] 48
  rw [s6] at o7
  generalize (U.alloc (.cells #[] 48))=Z at e7 o7 ⊢
  have s3:=E3.size
  have l5:=(Array.getElem?_eq_some_iff.1 o5).1
  have l4:=(Array.getElem?_eq_some_iff.1 (f3.obj o4)).1
  generalize hp6:w3.heap.size=p6 at o6 o7 s6 s3 l5 l4 ⊢
  refine append_copy hF0 (E3.trans (e6.trans e7)) (by omega) (by omega) o7 ?_
  intro g2 cap cur w8 hg2 c8 hcs8 hF8 hE8
  have e68:Ext U w8:=hE8 U e7 (by omega)
  have e38:=e6.trans e68
  have y6:=e68.obj o6
  have z6:(w8.setCell ⟨p6,1,none⟩ (.slice (some ⟨g2,0,none⟩) m.fields.length cap)).heap[p6]?=some (.cells #[.string m.name,.slice (some ⟨g2,0,none⟩) m.fields.length cap] 24 (0,0)):=by simpa using heap_set (o:=1) y6 (.slice (some ⟨g2,0,none⟩) m.fields.length cap)
  have hon:=Only.setCell w8 p6 1 (.slice (some ⟨g2,0,none⟩) m.fields.length cap)
  have e39:Ext w3 (w8.setCell ⟨p6,1,none⟩ (.slice (some ⟨g2,0,none⟩) m.fields.length cap)):=e38.setCell (p:=⟨p6,1,none⟩) (by show w3.heap.size≤p6;omega) _
  have hF9:=hF8 _ (hon g2 (by omega)) (E3.trans e39)
  have s9:(w8.setCell ⟨p6,1,none⟩ (.slice (some ⟨g2,0,none⟩) m.fields.length cap)).heap.size=w8.heap.size:=by simp only [World.size_setCell]
  have c9:=(hon g2 (by omega)).trans c8
  simp (disch:=try exact DI) only [↓PR,QR,simprocAttr,(cells_of_heap y6).1,(cells_of_heap y6).2,(cells_of_heap z6).1]
  generalize (w8.setCell ⟨p6,1,none⟩ (.slice (some ⟨g2,0,none⟩) m.fields.length cap))=w9 at z6 hon e39 hF9 s9 c9 ⊢
  have l2:=(Array.getElem?_eq_some_iff.1 c9).1
  refine callK_ret (Free_ret _ _ m ⟨_,rfl,hF9⟩ hfew) ?_
  rintro _ w10 ⟨pb,sv,rfl,hIt,hpb,hsb,e10⟩
  have e310:=e39.trans e10
  unfold n3c7
  simp (disch:=try exact DI) only [↓PR,QR,simprocAttr]
  refine sfr_loop (w0:=w0) (by omega) (by omega) (by omega) (e10.obj c9) hcs8 (e10.obj z6) (E3.trans e310) ?_
  intro w' e' ho'
  refine sfr_range (A:=wv) (l:=freeP m.fields) ((ho' p4 (by omega)).trans ((f3.trans e310).obj o4)) (by omega) ((ho' p5 (by omega)).trans (e310.obj o5)) (ints_only ((hU2.ints).ext keptInt (eY.trans (e3.trans e310))) ho' fun B n c h=>?_) ⟨?_,ints_only hIt.2 ho' fun B n c h=>?_⟩ e'
  · subst h
    have:=(hU2.lt B.block rfl).2
    have:=eY.size
    have:=e3.size
    omega
  · have:=hIt.1
    unfold World.cell? at this ⊢
    rw [show w'.heap[pb]?=w10.heap[pb]? from ho' pb (by omega)]
    exact this
  · have:=hsb B n c h
    omega
end Go.Proofs.YtfjjgjjlebllmaaGreat
namespace Go.Proofs.YtfjjgjjlebllmaaGreat
open Sw
open Go.ChangeShapes Go.WideShapes Go.RowKit Go.ChangeAt Go.Deep
theorem scfree_own:ownKnob Pg.godebug=none:=by kernel_rfl
theorem scfree_laidOut:laidOutB Pg=true:=by kernel_rfl
theorem scfree_lifted (os:Os) (started:os.Started) (H:Type) (enc:TypeId×Value→H) :
 ReturnsInHanded {} Tryz.checked os 4 .any (Rows.scopeFreeSpec.pre6 enc Pg Tryz.f4 Rows.scopeFreeRow.domain false) (Rows.scopeFreeSpec.post enc Pg Tryz.f4 false true false false):=by
 refine returnsInHanded_of_change_sized (C:=Tryz.checked) scfree_own started (by kernel_rfl) Tryz.func4
  (ChangeSpec.witness6 (enc:=enc) (C:=Tryz.checked) false ⟨#[],#[.agg #[.string ByteArray.empty,.slice none 0 0],.int .i64 0],[]⟩ 8 (by kernel_rfl) (by kernel_rfl) (by kernel_rfl) (by kernel_rfl)) ?_
 intro W base args ds gs before hval hW _ hsz _
 have hW':=hW
 obtain ⟨p,q,hA0,hV,rfl,_,_⟩:=hW
 have hA:DataW.TrodAll enc Pg W 0 (fun _=>true) true Tryz.f4.params.toList args.toList ds p:=hA0
 rw [Tryz.params4] at hA hval hsz
 obtain ⟨v0,vs0,d0,ds0,p0,q0,ha0,rfl,rfl,h0,r0⟩:=trodAll_cons hA
 obtain ⟨v1,vs1,d1,ds1,p1,q1,ha1,rfl,rfl,h1,r1⟩:=trodAll_cons r0
 obtain ⟨rfl,rfl,rfl⟩:=trodAll_nil r1
 subst ha1
 obtain rfl:args = #[v0,v1]:=by cases args;simp_all
 obtain ⟨f0,hf0,hs0⟩:=msg_val (hval 0 _ v0 rfl rfl) h0 (reached_of (j:=0) hsz rfl rfl)
 obtain ⟨n1,rfl,_,_,hw1⟩:=open_int Tryz.underlying3 (hval 1 _ v1 rfl rfl) h1
 refine Calls.mono (ScopeFree_ret W v0 f0 n1 hf0 hs0) fun e W' ⟨v,he,hv,hx⟩=>?_
 subst he hv
 exact ⟨_,rfl,law_post scfree_laidOut (by decide +kernel) rfl hW' hx rfl Tryz.underlying4 rfl rfl rfl⟩
theorem scfree_holds:Rows.ScopeFreeSaid :=
 OpenClaim.holds_of_wide 4 Tryz.f4 rfl rfl rfl rfl rfl rfl rfl ⟨rfl,rfl,rfl,rfl,rfl⟩ rfl rfl rfl rfl rfl (by kernel_rfl) Tryz.func4 (by kernel_rfl)
  (of_decide_eq_true (by kernel_rfl)) (by unfold Func.isWrapper;first | (rw [if_pos (by decide +kernel)];kernel_rfl) | (rw [if_neg (by decide +kernel)];exact ⟨rfl,rfl⟩))
  (fun os started H enc _=>scfree_lifted os started H enc)
end Go.Proofs.YtfjjgjjlebllmaaGreat
