/-
  phrasebooklaw13.ValueWalks returns true for every value and every number, and leaves its arguments as they were; no condition is asked but that the tables of the library lie as the program lays them (the card ties them).
-/
import Derived.Test.YtcffhmapmaahnaaGreatDoorVf5
set_option linter.all false
set_option maxHeartbeats 4000000
set_option maxRecDepth 100000
namespace Go.Proofs.YtcffhmapmaahnaaGreatDoor
open Sw
open Go.RowKit (intOf Below)
section
variable {R:RT}
theorem vw_after1 {w2:World} {p3 p4 p7 p8 p9:Nat} {many:Int} {t k n:Nat} {A:Option Addr} {cc:Nat} {ds:List Deferred} {next1:List Deferred→Value→World→Prop} (x3:w2.heap[p3]?=some (.cells #[.int .i64 many] 3 (0,0))) (x7:w2.heap[p7]?=some (.cells #[.slice A n cc] 45 (0,0))) (y8:w2.heap[p8]?=some (.cells #[.int .i64 (t:Int)] 3 (0,0))) (y9:w2.heap[p9]?=some (.cells #[.int .i64 (k:Int)] 3 (0,0)))
 (ht:t < 2) (h0:t=0→(k:Int)=min (n:Int) (max 1 many)) (h1:t=1→k=n) (hn:∀ w',w2.heap.size < w'.heap.size→w'.heap[w2.heap.size]?=some (.cells #[.int .i64 ((t+1:Nat):Int)] 3 (0,0))→Ext w2 w'→next1 ds (.pointer (some ⟨w2.heap.size,0,none⟩)) w') :
 n7c12 (.pointer (some ⟨p3,0,none⟩)) (.pointer (some ⟨p4,0,none⟩)) (.pointer (some ⟨p7,0,none⟩)) (.pointer (some ⟨p8,0,none⟩)) (.pointer (some ⟨p9,0,none⟩)) next1 ds R w2:=by
 have fin:n7c6 (.pointer (some ⟨p4,0,none⟩)) (.pointer (some ⟨p8,0,none⟩)) next1 ds R w2:=by
  unfold n7c6
  have hw:IntKind.i64.wrap ((t:Int)+1)=((t+1:Nat):Int):=by rw [wrap_ok (by omega) (by omega)];omega
  simp (disch:=try exact DI) only [↓PR,QR,simprocAttr,(cells_of_heap y8).1,hw]
  have eN:Ext w2 (w2.alloc (.cells #[.int .i64 ((t+1:Nat):Int)] 3)):=(Ext.refl _).alloc _
  exact hn _ (by simp only [World.size_alloc];omega) (by simpa using heap_new w2 #[.int .i64 ((t+1:Nat):Int)] 3) eN
 unfold n7c12
 have hcase:t=0∨t=1:=by omega
 rcases hcase with rfl | rfl
 · have hm:(if (if many > 1 then many else 1) < (n:Int) then (if many > 1 then many else 1) else (n:Int))=(k:Int):=by
    rw [h0 rfl]
    split<;>split<;>omega
   have d0:((((0:Nat):Int)) == 0)=true:=rfl
   have d1:((((0:Nat):Int)) == 1)=false:=rfl
   have dk:((k:Int) != (k:Int))=false:=by simp
   simp (disch:=try exact DI) only [↓PR,QR,simprocAttr,(cells_of_heap y8).1,d0,↓n7c11,(cells_of_heap y9).1,(cells_of_heap x7).1,(cells_of_heap x3).1,hm,dk,d1,↓n7c10,↓n7c9,↓n7c8,↓n7c7]
   exact fin
 · have d0:((((1:Nat):Int)) == 0)=false:=rfl
   have d1:((((1:Nat):Int)) == 1)=true:=rfl
   have dk:((k:Int) != (n:Int))=false:=by rw [h1 rfl];simp
   simp (disch:=try exact DI) only [↓PR,QR,simprocAttr,(cells_of_heap y8).1,d0,d1,(cells_of_heap y9).1,(cells_of_heap x7).1,dk,↓n7c10,↓n7c9,↓n7c8,↓n7c7]
   exact fin
theorem vw_after2 {w2:World} {p3 p4 p7 p8 p9:Nat} {many:Int} {t k n:Nat} {A:Option Addr} {cc:Nat} {ds:List Deferred} {next1:List Deferred→Value→World→Prop} (x3:w2.heap[p3]?=some (.cells #[.int .i64 many] 3 (0,0))) (x7:w2.heap[p7]?=some (.cells #[.slice A n cc] 45 (0,0))) (y8:w2.heap[p8]?=some (.cells #[.int .i64 (t:Int)] 3 (0,0))) (y9:w2.heap[p9]?=some (.cells #[.int .i64 (k:Int)] 3 (0,0)))
 (ht:t < 2) (h0:t=0→(k:Int)=min (n:Int) (max 1 many)) (h1:t=1→k=n) (hn:∀ w',w2.heap.size < w'.heap.size→w'.heap[w2.heap.size]?=some (.cells #[.int .i64 ((t+1:Nat):Int)] 3 (0,0))→Ext w2 w'→next1 ds (.pointer (some ⟨w2.heap.size,0,none⟩)) w') :
 n7c19 (.pointer (some ⟨p3,0,none⟩)) (.pointer (some ⟨p4,0,none⟩)) (.pointer (some ⟨p7,0,none⟩)) (.pointer (some ⟨p8,0,none⟩)) (.pointer (some ⟨p9,0,none⟩)) next1 ds R w2:=by
 have fin:n7c13 (.pointer (some ⟨p4,0,none⟩)) (.pointer (some ⟨p8,0,none⟩)) next1 ds R w2:=by
  unfold n7c13
  have hw:IntKind.i64.wrap ((t:Int)+1)=((t+1:Nat):Int):=by rw [wrap_ok (by omega) (by omega)];omega
  simp (disch:=try exact DI) only [↓PR,QR,simprocAttr,(cells_of_heap y8).1,hw]
  have eN:Ext w2 (w2.alloc (.cells #[.int .i64 ((t+1:Nat):Int)] 3)):=(Ext.refl _).alloc _
  exact hn _ (by simp only [World.size_alloc];omega) (by simpa using heap_new w2 #[.int .i64 ((t+1:Nat):Int)] 3) eN
 unfold n7c19
 have hcase:t=0∨t=1:=by omega
 rcases hcase with rfl | rfl
 · have hm:(if (if many > 1 then many else 1) < (n:Int) then (if many > 1 then many else 1) else (n:Int))=(k:Int):=by
    rw [h0 rfl]
    split<;>split<;>omega
   have d0:((((0:Nat):Int)) == 0)=true:=rfl
   have d1:((((0:Nat):Int)) == 1)=false:=rfl
   have dk:((k:Int) != (k:Int))=false:=by simp
   simp (disch:=try exact DI) only [↓PR,QR,simprocAttr,(cells_of_heap y8).1,d0,↓n7c18,(cells_of_heap y9).1,(cells_of_heap x7).1,(cells_of_heap x3).1,hm,dk,d1,↓n7c17,↓n7c16,↓n7c15,↓n7c14]
   exact fin
 · have d0:((((1:Nat):Int)) == 0)=false:=rfl
   have d1:((((1:Nat):Int)) == 1)=true:=rfl
   have dk:((k:Int) != (n:Int))=false:=by rw [h1 rfl];simp
   simp (disch:=try exact DI) only [↓PR,QR,simprocAttr,(cells_of_heap y8).1,d0,d1,(cells_of_heap y9).1,(cells_of_heap x7).1,dk,↓n7c17,↓n7c16,↓n7c15,↓n7c14]
   exact fin
end
def turnV (a:Value) (w:World):Nat:=match a with
 | .pointer (some p)=>(match w.cell? p with
  | some (.int _ t)=>(2 - t).toNat
  | _=>0)
 | _=>0
theorem KR7.soft {V:Bks} {k lo hi:Nat} {w w':World} (h:Soft k lo hi w w') (hV:∀ b,lo≤b→b < hi→¬ V b):KR7 V w w':=⟨h.size,fun b r hb=>⟨r.state,r.pending,h.oth b _ hb (fun _ _ e=>by cases e)⟩,fun b hb=>h.oth b _ hb (fun _ _ e=>by cases e),fun b hv hb _=>by
 by_cases hr:lo≤b∧b < hi
 · exact absurd hv (hV b hr.1 hr.2)
 · exact h.out b hb (by omega)⟩
def VwI (w0 A:World) (lo hi p3 p4 p7 p8 p9 bb:Nat) (many:Int) (r7:Value) (css:List (Cs 6)) (bs:List Nat) (t:Nat) (k:Nat) (V:Bks) (u:World):Prop :=
 (Ext w0 u∧∀ b,V b→w0.heap.size≤b)∧((∀ b,lo≤b→b < hi→¬ V b∧u.heap[b]?=A.heap[b]?)∧hi≤u.heap.size)∧(¬ V p3∧u.heap[p3]?=some (.cells #[.int .i64 many] 3 (0,0)))∧(¬ V p4∧u.heap[p4]?=some (.cells #[.bool false] 4 (0,0)))∧(¬ V p7∧u.heap[p7]?=some (.cells #[r7] 45 (0,0)))∧(OwnE u bb 48 6 (Subtype.val:Cs 6→List Value) r7 css∧∀ g,r7.ownBlock=some g→¬ V g)∧(∀ b∈bs,¬ V b∧u.heap[b]?=some (.deferred (some [])))∧(¬ V p8∧u.heap[p8]?=some (.cells #[.int .i64 (t:Int)] 3 (0,0)))∧(¬ V p9∧u.heap[p9]?=some (.cells #[.int .i64 (k:Int)] 3 (0,0)))
theorem VwI.lasts (w0 A:World) (lo hi p3 p4 p7 p8 p9 bb:Nat) (many:Int) (r7:Value) (css:List (Cs 6)) (bs:List Nat) (t k:Nat):Lasts7 (VwI w0 A lo hi p3 p4 p7 p8 p9 bb many r7 css bs t k):=Lasts7.from.and (Lasts7.reg.and (Lasts7.has.and (Lasts7.has.and (Lasts7.has.and (Lasts7.own.and ((marks_lasts bs).and (Lasts7.has.and Lasts7.has)))))))
theorem VwI.soft {w0 A:World} {lo hi p3 p4 p7 p8 p9 bb:Nat} {many:Int} {r7:Value} {css:List (Cs 6)} {bs:List Nat} {t k j l h:Nat} {V:Bks} {u u':World} (H:VwI w0 A lo hi p3 p4 p7 p8 p9 bb many r7 css bs t k V u) (hS:Soft j l h u u') (h0:w0.heap.size≤l) (h1:hi≤l) (h3:p3 < l) (h4:p4 < l) (h7:p7 < l) (h8:p8 < l) (h9:p9 < l) (hr:∀ g,r7.ownBlock=some g→g < l):VwI w0 A lo hi p3 p4 p7 p8 p9 bb many r7 css bs t k V u':=by
 obtain ⟨⟨a1,a2⟩,⟨b1,b2⟩,⟨c1,c2⟩,⟨d1,d2⟩,⟨e1,e2⟩,⟨f1,f2⟩,g1,⟨i1,i2⟩,⟨j1,j2⟩⟩:=H
 have hz:=hS.size
 have hk:∀ {p:Nat} {o:Obj},p < l→u.heap[p]?=some o→u'.heap[p]?=some o:=fun hp h=>(hS.out _ (Array.getElem?_eq_some_iff.1 h).1 (.inl hp)).trans h
 exact ⟨⟨hS.ext a1 h0,a2⟩,⟨fun b hb1 hb2=>⟨(b1 b hb1 hb2).1,(hS.out b (by omega) (.inl (by omega))).trans (b1 b hb1 hb2).2⟩,by omega⟩,⟨c1,hk h3 c2⟩,⟨d1,hk h4 d2⟩,⟨e1,hk h7 e2⟩,⟨OwnE.same f1 fun g hg=>hS.out g (OwnE.lt' f1 hg).2 (.inl (hr g hg)),f2⟩,fun b hb=>⟨(g1 b hb).1,hS.oth b _ (g1 b hb).2 (fun _ _ e=>by cases e)⟩,⟨i1,hk h8 i2⟩,⟨j1,hk h9 j2⟩⟩
theorem VwI.next {w0 A:World} {lo hi p3 p4 p7 p8 p9 bb:Nat} {many:Int} {r7:Value} {css:List (Cs 6)} {bs:List Nat} {t k:Nat} {V:Bks} {u:World} (H:VwI w0 A lo hi p3 p4 p7 p8 p9 bb many r7 css bs t k V u) (h0:w0.heap.size≤p9) (h1:hi≤p9) (h3:p3≠p9) (h4:p4≠p9) (h7:p7≠p9) (h8:p8≠p9) (hr:∀ g,r7.ownBlock=some g→g≠p9):VwI w0 A lo hi p3 p4 p7 p8 p9 bb many r7 css bs t (k+1) V (u.setCell ⟨p9,0,none⟩ (.int .i64 ((k+1:Nat):Int))):=by
 obtain ⟨⟨a1,a2⟩,⟨b1,b2⟩,⟨c1,c2⟩,⟨d1,d2⟩,⟨e1,e2⟩,⟨f1,f2⟩,g1,⟨i1,i2⟩,⟨j1,j2⟩⟩:=H
 have hk:∀ {p:Nat} {o:Obj},p≠p9→u.heap[p]?=some o→(u.setCell ⟨p9,0,none⟩ (.int .i64 ((k+1:Nat):Int))).heap[p]?=some o:=fun hp h=>(heap_setE hp).trans h
 exact ⟨⟨a1.setCell (p:=⟨p9,0,none⟩) h0 _,a2⟩,⟨fun b hb1 hb2=>⟨(b1 b hb1 hb2).1,(heap_setE (by omega)).trans (b1 b hb1 hb2).2⟩,by simpa using b2⟩,⟨c1,hk h3 c2⟩,⟨d1,hk h4 d2⟩,⟨e1,hk h7 e2⟩,⟨OwnE.same f1 fun g hg=>heap_setE (hr g hg),f2⟩,fun b hb=>⟨(g1 b hb).1,MarkAt.setCell (g1 b hb).2 _ _⟩,⟨i1,hk h8 i2⟩,⟨j1,by simpa using heap_set (o:=0) j2 (.int .i64 ((k+1:Nat):Int))⟩⟩
theorem vw_turns {w0 w1 A:World} {lo hi p3 p4 p7 bb:Nat} {f:FuncId} {caps:Array Value} {L:List (List UInt8×Tr)} {css:List (Cs 6)} {r7:Value} {many:Int} {FP:World→Prop} (hcal:Callable Pg f) (hseq:SeqIt7 Pg f caps L.length (WalkY L) (fun _=>False) (fun _=>True) FP) (hFP:∀ u,Ext w0 u→hi≤u.heap.size→(∀ b,lo≤b→b < hi→u.heap[b]?=A.heap[b]?)→FP u) (hr1:hi≤w1.heap.size) (hr2:∀ b,lo≤b→b < hi→w1.heap[b]?=A.heap[b]?) (E1:Ext w0 w1)
 (x3:w1.heap[p3]?=some (.cells #[.int .i64 many] 3 (0,0))) (x4:w1.heap[p4]?=some (.cells #[.bool false] 4 (0,0))) (l4:w0.heap.size≤p4) (x7:w1.heap[p7]?=some (.cells #[r7] 45 (0,0))) (hO:OwnE w1 bb 48 6 (Subtype.val:Cs 6→List Value) r7 css) (hM:Mates 6 (EWk w0) css L) (hsm:∀ q∈L,allT smallN q.2=true∧nodesT q.2≤200) (hl:L.length≤200) (hE:EnvOK w0) :
 n7c23 (.pointer (some ⟨p3,0,none⟩)) (.pointer (some ⟨p4,0,none⟩)) (.pointer (some ⟨p7,0,none⟩)) (.func (.func f) #[] caps) [] (retR fun r w'=>r=Value.bool true∧Ext w0 w') w1:=by
 have hlen:=hM.1
 have hrow:∃ Ar cc,r7 = .slice Ar L.length cc∧(∀ g,r7.ownBlock=some g→g < w1.heap.size)∧∀ (k:Nat) (c:Cs 6),css[k]?=some c→∃ g,Ar=some ⟨g,0,none⟩∧r7.ownBlock=some g:=by
  rcases hO.2 with ⟨rfl,h0⟩ | ⟨g,cap,cur,rfl,_,hg,_⟩
  · exact ⟨none,0,by rw [← hlen,h0],fun g hg=>(by cases hg),fun k c hc=>by have:=(List.getElem?_eq_some_iff.1 hc).1;omega⟩
  · exact ⟨_,cap,by rw [← hlen],fun g' hg'=>(OwnE.lt' hO hg').2,fun k c hc=>⟨g,rfl,rfl⟩⟩
 obtain ⟨Ar,cc,hr7,hrl,hrg⟩:=hrow
 have l3:p3 < w1.heap.size:=(Array.getElem?_eq_some_iff.1 x3).1
 have l4':p4 < w1.heap.size:=(Array.getElem?_eq_some_iff.1 x4).1
 have l7:p7 < w1.heap.size:=(Array.getElem?_eq_some_iff.1 x7).1
 have hz1:=E1.size
 unfold n7c23
 simp (disch:=try exact DI) only [↓PR,QR,simprocAttr]
 have oT:=heap_new w1 #[.int .i64 0] 3
 have eX:Ext w1 (w1.alloc (Obj.cells #[.int .i64 0] 3)):=ee
 generalize (w1.alloc (Obj.cells #[.int .i64 0] 3))=X at oT eX ⊢
 refine loopM1_intro (fun ds a w'=>∃ (p8:Nat) (t:Nat),a = .pointer (some ⟨p8,0,none⟩)∧t≤2∧w1.heap.size≤p8∧w'.heap[p8]?=some (.cells #[.int .i64 (t:Int)] 3 (0,0))∧Ext w1 w'∧(∃ bs:List Nat,ds=bs.map Sw.mark∧bs.Nodup∧∀ b∈bs,MarkAt b w'∧w1.heap.size≤b)) turnV ⟨w1.heap.size,0,rfl,by omega,Nat.le_refl _,oT,eX,[],rfl,by simp,by simp⟩ ?_
 rintro ds _ w2 ⟨p8,t,rfl,ht2,hp8,y8,e2,bs,rfl,hnd,hbs⟩
 have hcw:∀ (w':World) (p u:Nat),w'.heap[p]?=some (.cells #[.int .i64 (u:Int)] 3 (0,0))→turnV (.pointer (some ⟨p,0,none⟩)) w'=2 - u:=by
  intro w' p u h
  unfold turnV
  simp only
  rw [(cells_of_heap h).1 0]
  show ((2:Int) - (u:Int)).toNat=2 - u
  omega
 unfold n7c22
 by_cases ht:t < 2
 · have dt:(t:Int) < 2:=by omega
   simp (disch:=try exact DI) only [↓PR,QR,simprocAttr,(cells_of_heap y8).1,dt]
   unfold n7c21
   simp (disch:=try exact DI) only [↓PR,QR,simprocAttr]
   have l8:p8 < w2.heap.size:=(Array.getElem?_eq_some_iff.1 y8).1
   have eB:Ext w2 (w2.alloc (Obj.cells #[.int .i64 0] 3)):=ee
   have o9:=heap_new w2 #[.int .i64 0] 3
   have hs3:(w2.alloc (Obj.cells #[.int .i64 0] 3)).heap.size=w2.heap.size+1:=by simp only [World.size_alloc]
   generalize hp9:w2.heap.size=p9 at o9 hs3 ⊢
   generalize (w2.alloc (Obj.cells #[.int .i64 0] 3))=w3 at eB o9 hs3 ⊢
   have s2:=e2.size
   have e13:=e2.trans eB
   let I:Nat→Bks→World→Prop:=fun k V u=>VwI w0 A lo hi p3 p4 p7 p8 p9 bb many r7 css bs t k V u∧(t=0→k=0∨(k:Int) < many)∧(Ext w1 u∧∀ b,V b→w1.heap.size≤b)
   let Ix:Nat→Bks→World→Prop:=fun c V u=>c=1∧∃ k:Nat,VwI w0 A lo hi p3 p4 p7 p8 p9 bb many r7 css bs t k V u∧(t=0∧(k:Int)=min (L.length:Int) (max 1 many))∧(Ext w1 u∧∀ b,V b→w1.heap.size≤b)
   have hLI:∀ k,Lasts7 (I k):=fun k=>(VwI.lasts _ _ _ _ _ _ _ _ _ _ _ _ _ _ _ _).and ((Lasts7.const _).and Lasts7.from)
   have hLX:∀ c,Lasts7 (Ix c):=fun c=>(Lasts7.const _).and (.ex fun k=>(VwI.lasts _ _ _ _ _ _ _ _ _ _ _ _ _ _ _ _).and ((Lasts7.const _).and Lasts7.from))
   have hfin:∀ (w4:World),Ext w1 w4→(∀ b∈bs,MarkAt b w4)→MarkAt w3.heap.size w4→∀ w5,w4.heap.size < w5.heap.size→w5.heap[w4.heap.size]?=some (.cells #[.int .i64 ((t+1:Nat):Int)] 3 (0,0))→Ext w4 w5 →
    (∃ (p8:Nat) (t':Nat),Value.pointer (some ⟨w4.heap.size,0,none⟩) = .pointer (some ⟨p8,0,none⟩)∧t'≤2∧w1.heap.size≤p8∧w5.heap[p8]?=some (.cells #[.int .i64 (t':Int)] 3 (0,0))∧Ext w1 w5∧(∃ bs':List Nat,(Sw.mark w3.heap.size::bs.map Sw.mark)=bs'.map Sw.mark∧bs'.Nodup∧∀ b∈bs',MarkAt b w5∧w1.heap.size≤b)) ∧
    turnV (.pointer (some ⟨w4.heap.size,0,none⟩)) w5 < turnV (.pointer (some ⟨p8,0,none⟩)) w2:=by
    intro w4 e4 hm4 hmk w5 hlt5 h5 e5
    have s4:=e4.size
    refine ⟨⟨w4.heap.size,t+1,rfl,by omega,by omega,h5,e4.trans e5,w3.heap.size::bs,rfl,List.nodup_cons.2 ⟨fun hin=>?_,hnd⟩,fun b hb=>?_⟩,?_⟩
    · have:=(Array.getElem?_eq_some_iff.1 (hbs _ hin).1).1
      omega
    · rcases List.mem_cons.1 hb with rfl | hb
      · exact ⟨hmk.ext e5,by omega⟩
      · exact ⟨(hm4 b hb).ext e5,(hbs b hb).2⟩
    · rw [hcw w5 _ (t+1) h5,hcw w2 p8 t y8];omega
   have H0:I 0 (fun _=>False) w3:=⟨⟨⟨E1.trans e13,fun b hb=>hb.elim⟩,⟨fun b h1 h2=>⟨fun h=>h,(e13.block b (by omega)).trans (hr2 b h1 h2)⟩,by have:=e13.size;omega⟩,⟨fun h=>h,e13.obj x3⟩,⟨fun h=>h,e13.obj x4⟩,⟨fun h=>h,e13.obj x7⟩,⟨hO.ext e13,fun _ _ h=>h⟩,fun b hb=>⟨fun h=>h,(hbs b hb).1.ext eB⟩,⟨fun h=>h,eB.obj y8⟩,⟨fun h=>h,o9⟩⟩,fun _ => .inl rfl,e13,fun b hb=>hb.elim⟩
   refine ⟨_,_,L.length,WalkY L,_,_,FP,I,Ix,fun _ _ _=>False,rfl,hcal,hseq,fun _ _=>trivial,fun b hb=>hb.elim,H0,fun k V u h=>hFP u h.1.1.1 h.1.2.1.2 fun b h1 h2=>(h.1.2.1.1 b h1 h2).2,fun c V u h=>by
    obtain ⟨_,k,h,_⟩:=h
    exact hFP u h.1.1 h.2.1.2 fun b h1 h2=>(h.2.1.1 b h1 h2).2,hLI,hLX,fun _=>Lasts7.const _,?_,?_,?_,?_⟩
   · intro Rk V hRk hV0 j xx yy w4 hj hY hI4 hR4 hlt hready
     obtain ⟨q,cs,lo',hi',hq,rfl,rfl,hOq,hlo',hhi',hdis⟩:=hY
     obtain ⟨yb,yh,yp,rfl,_,_,_,g1,g2,g3⟩:=hOq.read.op
     obtain ⟨qs1,qs2⟩:=hsm q (List.mem_of_getElem? hq)
     obtain ⟨qt1,qt2,qt3,qt4⟩:=small_of qs1 qs2
     unfold n7c5
     simp (disch:=try exact DI) only [↓PR,QR,simprocAttr]
     have eA:Ext w4 (w4.alloc (.cells #[.string q.2.nd.name,.int .i64 q.2.nd.int,yb,yh,yp] 26)):=ee
     have oA:=heap_new w4 #[.string q.2.nd.name,.int .i64 q.2.nd.int,yb,yh,yp] 26
     change busyK _ (w4.alloc (.cells #[.string q.2.nd.name,.int .i64 q.2.nd.int,yb,yh,yp] 26)) _
     generalize (w4.alloc (.cells #[.string q.2.nd.name,.int .i64 q.2.nd.int,yb,yh,yp] 26))=Y at eA oA ⊢
     generalize hpu:w4.heap.size=pu at oA ⊢
     have zY:pu < Y.heap.size:=(Array.getElem?_eq_some_iff.1 oA).1
     refine ⟨by obtain ⟨r,h1,h2⟩:=hready;exact ⟨r,eA.obj h1,h2⟩,fun w5 hbz=>?_⟩
     have hR5:=hRk _ _ (KR7.busied hbz) (hRk _ _ (KR7.of eA) hR4)
     have I5:=(hLI j).busied hbz (show plusB V w3.heap.size (w3.heap.size+1) from .inr (.inr rfl)) ((hLI j).ext hI4 eA)
     have hbk:∀ b,b≠w3.heap.size+1→w5.heap[b]?=Y.heap[b]?:=by
      obtain ⟨r,_,rfl⟩:=hbz
      exact fun b hb=>World.putObj_heap_other hb
     have hz5:Y.heap.size=w5.heap.size:=by
      obtain ⟨r,_,rfl⟩:=hbz
      simp
     have qA:=(hbk pu (by omega)).trans oA
     have hO5:=OwnT.only (bk:=w3.heap.size+1) hbk (hOq.ext eA) (.inr (by omega))
     refine drawK_intro ?_
     have eD:Ext w5 (Sw.drew w5):=(Ext.refl w5).drew
     have hRD:=hRk _ _ (KR7.of eD) hR5
     have gA:=eD.obj qA
     have ID:=(hLI j).ext I5 eD
     have hOD:=hO5.ext eD
     have zD:=eD.size
     generalize Sw.drew w5=D at eD hRD gA ID hOD zD ⊢
     obtain ⟨HD,hjm,E1D,_⟩:=ID
     obtain ⟨⟨a1,a2⟩,b0,⟨c1,c2⟩,⟨d1,d2⟩,⟨f1,f2⟩,⟨i1,i2⟩,m1,⟨k1,k2⟩,⟨n1,n2⟩⟩:=id HD
     obtain ⟨c,hc⟩:=getElem?_lt (l:=css) (k:=j) (by omega)
     obtain ⟨g,rfl,hgo⟩:=hrg j c hc
     obtain ⟨vcs,hcv,hEv⟩:=hM.2 j q c hq hc
     obtain ⟨zb,zh,zp,rfl,v1,v2,v3,v4,v5,v6⟩:=hEv.op
     have hel:ElemAt D g (j*6) (.string (mkB q.1)::[.string q.2.nd.name,.int .i64 q.2.nd.int,zb,zh,zp]):=by
      obtain ⟨g',cap',hv,hb1,hb2,ht',hf',he'⟩:=i1.row (fun x=>x.2) (by omega)
      rw [hr7] at hv
      injection hv with hv _ _
      injection hv with hv
      injection hv with hv _ _
      subst hv
      have:=he' j c hc
      rw [hcv] at this
      exact this
     have dkj:(j:Int) < (L.length:Int):=by omega
     have hge:¬ ((L.length:Int)≤(j:Int)):=by omega
     have e0:D.cell? ⟨g,j*6,none⟩=_:=hel 0 _ rfl
     have e1:D.cell? ⟨g,j*6+1,none⟩=_:=hel 1 _ rfl
     have e2':D.cell? ⟨g,j*6+1+1,none⟩=_:=hel 2 _ rfl
     have e3':D.cell? ⟨g,j*6+1+2,none⟩=_:=hel 3 _ rfl
     have e4':D.cell? ⟨g,j*6+1+3,none⟩=_:=hel 4 _ rfl
     have e5':D.cell? ⟨g,j*6+1+4,none⟩=_:=hel 5 _ rfl
     have hq0:decide (mkB q.1≠mkB q.1)=false:=by simp
     have hwj:IntKind.i64.wrap ((j:Int)+1)=((j+1:Nat):Int):=by rw [wrap_ok (by omega) (by omega)];omega
     subst hr7
     unfold n7c4 joinK
     simp (disch:=try exact DI) only [↓PR,QR,simprocAttr,(cells_of_heap n2).1,(cells_of_heap f2).1,hge,dkj,e0,Nat.zero_add]
     unfold n7c3 joinK
     simp (disch:=try exact DI) only [↓PR,QR,simprocAttr,(cells_of_heap n2).1,(cells_of_heap f2).1,(cells_of_heap gA).1,hge,dkj,e1,e2',e3',e4',e5',Nat.zero_add]
     refine zcr (rEqual_ret D _ _ q.2 q.2 (val_of_cells hOD.read) (ValAt.ext ⟨zb,zh,zp,rfl,v1,v2,v3⟩ a1) qt1 qt1) fun w6 e6=>?_
     refine ⟨e6,?_⟩
     rw [cmp_refl]
     have hR6:=hRk _ _ (KR7.of e6) hRD
     have H6:=(VwI.lasts _ _ _ _ _ _ _ _ _ _ _ _ _ _ _ _).ext HD e6
     have hO6:=hOD.ext e6
     have gA:=e6.obj gA
     have E16:=E1D.trans e6
     have z6:=e6.size
     have s3:=eB.size
     simp (disch:=try exact DI) only [↓PR,QR,simprocAttr]
     unfold n7c2
     simp (disch:=try exact DI) only [↓PR,QR,simprocAttr,(cells_of_heap gA).1]
     refine callK_ret (spoil_ret q.2 w6 (trCells q.2.nd yb yh yp) lo' hi' 1048576 (InT.of _ hO6 qt3).2 (by omega) (by omega) qt2) ?_
     intro r7' w7 hS
     have H7:=H6.soft hS (by omega) (by omega) (by omega) (by omega) (by omega) (by omega) (by omega) (fun g hg=>by have:=hrl g hg;omega)
     have hR7:=hRk _ _ (KR7.soft hS fun b h1 h2 h3=>by
      rcases h3 with h3 | h3
      · exact hdis b h1 h2 h3
      · omega) hR6
     have E17:Ext w1 w7:=hS.ext E16 (by omega)
     have H8:=H7.next (by omega) (by omega) (by omega) (by omega) (by omega) (by omega) (fun g hg=>by have:=hrl g hg;omega)
     have hR8:=hRk _ _ (KR7.setCell (KR7.refl _ w7) p9 0 (.int .i64 ((j+1:Nat):Int)) (.inl n1)) hR7
     have E18:Ext w1 (w7.setCell ⟨p9,0,none⟩ (.int .i64 ((j+1:Nat):Int))):=E17.setCell (p:=⟨p9,0,none⟩) (by show w1.heap.size≤p9;omega) _
     have hVV:∀ b,plusB V w3.heap.size b→w1.heap.size≤b:=fun b hb=>by
      rcases hb with hb | hb | hb
      · rcases hV0 b hb with h | h
        · exact h.elim
        · omega
      · omega
      · omega
     have q9:=H7.2.2.2.2.2.2.2.2.2
     have r8:=H8.2.2.2.2.2.2.2.1.2
     have r9:=H8.2.2.2.2.2.2.2.2.2
     have r3:=H8.2.2.1.2
     unfold n7c1 joinK
     have hcase:t=0∨t=1:=by omega
     rcases hcase with ht0 | ht1
     · have d0:((t:Int) == 0)=true:=by rw [ht0];rfl
       by_cases hmy:many≤((j+1:Nat):Int)
       · have dm:decide (((j+1:Nat):Int)≥many)=true:=by simpa using hmy
         simp (disch:=try exact DI) only [↓PR,QR,simprocAttr,(cells_of_heap q9).1,(cells_of_heap q9).2,hwj,(cells_of_heap r8).1,d0,(cells_of_heap r9).1,(cells_of_heap r3).1,dm]
         refine ⟨hR8,rfl,j+1,H8,⟨ht0,?_⟩,E18,hVV⟩
         have:=hjm ht0
         omega
       · have dm:decide (((j+1:Nat):Int)≥many)=false:=by simpa using hmy
         simp (disch:=try exact DI) only [↓PR,QR,simprocAttr,(cells_of_heap q9).1,(cells_of_heap q9).2,hwj,(cells_of_heap r8).1,d0,(cells_of_heap r9).1,(cells_of_heap r3).1,dm]
         exact ⟨hR8,H8,fun _ => .inr (by omega),E18,hVV⟩
     · have d0:((t:Int) == 0)=false:=by rw [ht1];rfl
       simp (disch:=try exact DI) only [↓PR,QR,simprocAttr,(cells_of_heap q9).1,(cells_of_heap q9).2,hwj,(cells_of_heap r8).1,d0]
       exact ⟨hR8,H8,fun h=>by omega,E18,hVV⟩
   · rintro V w4 ⟨H4,hjm,e4,_⟩ hmk
     obtain ⟨_,_,⟨_,c2⟩,_,⟨_,f2⟩,_,m1,⟨_,k2⟩,⟨_,n2⟩⟩:=H4
     rw [hr7] at f2
     exact vw_after1 c2 f2 k2 n2 ht (fun h=>by have:=hjm h;omega) (fun _=>rfl) (hfin w4 e4 (fun b hb=>(m1 b hb).2) hmk)
   · rintro c V w4 ⟨rfl,k,H4,⟨ht0,hk⟩,e4,_⟩ hmk
     obtain ⟨_,_,⟨_,c2⟩,_,⟨_,f2⟩,_,m1,⟨_,k2⟩,⟨_,n2⟩⟩:=H4
     rw [hr7] at f2
     exact vw_after2 c2 f2 k2 n2 ht (fun _=>hk) (fun h=>by omega) (hfin w4 e4 (fun b hb=>(m1 b hb).2) hmk)
   · rintro ch V w4 h
     exact h.elim
 · have dt:¬ ((t:Int) < 2):=by omega
   have q4:=e2.obj x4
   simp (disch:=try exact DI) only [↓PR,QR,simprocAttr,(cells_of_heap y8).1,dt]
   unfold n7c20
   refine zcr (known_ret (hE.ext (E1.trans e2))) fun w6 e6=>?_
   have q4:=e6.obj q4
   simp (disch:=try exact DI) only [↓PR,QR,simprocAttr,(cells_of_heap q4).1,(cells_of_heap q4).2]
   have r4:(w6.setCell ⟨p4,0,none⟩ (.bool true)).heap[p4]?=some (.cells #[.bool true] 4 (0,0)):=by simpa using heap_set (o:=0) q4 (.bool true)
   have eF:=((E1.trans (e2.trans e6)).setCell (p:=⟨p4,0,none⟩) l4 (.bool true))
   refine outs7 (Q:=fun V u=>(Ext w0 u∧∀ b,V b→w0.heap.size≤b)∧(¬ V p4∧u.heap[p4]?=some (.cells #[.bool true] 4 (0,0)))) (Lasts7.from.and Lasts7.has) (V:=fun b=>b∈bs) (fun w' hq=>?_) hnd (fun b hb=>((hbs b hb).1.ext e6).setCell _ _) (fun b hb=>hb) ⟨⟨eF,fun b hb=>by have:=(hbs b hb).2;omega⟩,fun h=>by have:=(hbs _ h).2;omega,r4⟩
   have z4:=hq.2.2
   simp (disch:=try exact DI) only [↓PR,QR,simprocAttr,outX_nil,retV,resOne,(cells_of_heap z4).1]
   exact ⟨trivial,hq.1.1⟩
theorem walk_mem {p:Nd→Bool} {t:Tr} (h:allT p t=true):∀ path,∀ q∈walkT t path,allT p q.2=true∧nodesT q.2≤nodesT t:=by
 revert h
 refine Tr.ind (p:=fun t=>allT p t=true→∀ path,∀ q∈walkT t path,allT p q.2=true∧nodesT q.2≤nodesT t) ?_ t
 intro n ps ih h path q hq
 rw [walkT_mk] at hq
 have h':=h
 rw [allT_mk,Bool.and_eq_true,List.all_eq_true] at h'
 rcases List.mem_cons.1 hq with rfl | hq
 · exact ⟨h,Nat.le_refl _⟩
 · obtain ⟨l,hl,hq⟩:=List.mem_flatten.1 hq
   obtain ⟨k,hk⟩:=List.getElem?_of_mem hl
   have hlen:k < ps.length:=by
    have:=(List.getElem?_eq_some_iff.1 hk).1
    rwa [partsW_len] at this
   obtain ⟨x,hx⟩:=getElem?_lt hlen
   rw [partsW_get hx] at hk
   injection hk with hk
   rw [← hk] at hq
   obtain ⟨g1,g2⟩:=ih x (List.mem_of_getElem? hx) (h'.2 x (List.mem_of_getElem? hx)) _ q hq
   have:=(nodesT_ps (Tr.mk n ps)).2 x (List.mem_of_getElem? hx)
   exact ⟨g1,by omega⟩
theorem ValueWalks_ret (W:World) (u:Value) (t:Tr) (many:Int) (hu:ValAt W u t) (hE:EnvOK W):Ret Pg 6 #[u,.int .i64 many] W fun r w'=>r = .bool true∧Ext W w':=by
 obtain ⟨ub,uh,up,rfl,a1,a2,a3,a4,a5,a6⟩:=hu.op
 have hU:ValAt W (.agg #[.string t.nd.name,.int .i64 t.nd.int,ub,uh,up]) t:=⟨_,_,_,rfl,a1,a2,a3⟩
 have hUE:ETr W (trCells t.nd ub uh up) t:=ETr_of.2 ⟨_,_,_,rfl,a1,a2,a3⟩
 refine n7s (R:=retR _) ?_;unfold n7
 change opV Pg _ _ _ _
 rw [op_boxA]
 have c2:=heap_new W #[.string t.nd.name,.int .i64 t.nd.int,ub,uh,up] 26
 change (W.alloc (.cells (trCells t.nd ub uh up).toArray 26)).heap[W.heap.size]?=_ at c2
 have e1:Ext W (W.alloc (.cells (trCells t.nd ub uh up).toArray 26)):=(Ext.refl W).alloc _
 have z1:(W.alloc (.cells (trCells t.nd ub uh up).toArray 26)).heap.size=W.heap.size+1:=by simp
 generalize (W.alloc (.cells (trCells t.nd ub uh up).toArray 26))=B at *
 generalize hp2:W.heap.size=p2 at c2 ⊢
 simp (disch:=try exact DI) only [↓PR,QR,simprocAttr,fun o o'=>(cells_of_heap ((((Ext.refl B).alloc o).alloc o').obj c2)).1]
 simp only [World.size_alloc]
 generalize hW1:World.alloc (World.alloc B _) _=W1
 have eB:Ext B W1:=by rw [← hW1];exact ((Ext.refl B).alloc _).alloc _
 have x3:W1.heap[B.heap.size]?=some (.cells #[.int .i64 many] 3 (0,0)):=by rw [← hW1];simp (disch:=try exact DI) only [↓PR,QR,simprocAttr]
 have x4:W1.heap[B.heap.size+1]?=some (.cells #[.bool false] 4 (0,0)):=by rw [← hW1];simp (disch:=try exact DI) only [↓PR,QR,simprocAttr]
 clear hW1
 generalize hp3:B.heap.size=p3 at x3 x4 ⊢
 generalize hp4:p3+1=p4 at x4 ⊢
 have e:=e1.trans eB
 have c2:=eB.obj c2
 have l4:W.heap.size≤p4:=by omega
 refine zcr (vsmall_ret W1 _ t (hU.ext e)) fun w2 e2=>?_
 have c2:=e2.obj c2
 have x3:=e2.obj x3
 have x4:=e2.obj x4
 have e:=e.trans e2
 clear e1 eB e2
 unfold n7c31
 cases hst:smallT t with
 | false =>
  simp (disch:=try exact DI) only [↓PR,QR,simprocAttr]
  unfold n7c29
  refine zcr (known_ret (hE.ext e)) fun w6 e6=>?_
  have q6:=e6.obj x4
  simp (disch:=try exact DI) only [↓PR,QR,simprocAttr,(cells_of_heap q6).1,(cells_of_heap q6).2]
  have r6:(w6.setCell ⟨p4,0,none⟩ (.bool true)).heap[p4]?=some (.cells #[.bool true] 4 (0,0)):=by simpa using heap_set (o:=0) q6 (.bool true)
  simp (disch:=try exact DI) only [↓PR,QR,simprocAttr,outX_nil,retV,resOne,(cells_of_heap r6).1]
  exact ⟨by trivial,(e.trans e6).setCell (p:=⟨p4,0,none⟩) l4 _⟩
 | true =>
  obtain ⟨hn200,hsm⟩:=small_facts hst
  obtain ⟨t1,t2,t3,t4⟩:=small_of hsm hn200
  simp (disch:=try exact DI) only [↓PR,QR,simprocAttr]
  unfold n7c30
  simp (disch:=try exact DI) only [↓PR,QR,simprocAttr,(cells_of_heap c2).1]
  refine callK_ret (Copy_ret t w2 _ (hU.ext e) t2) ?_
  rintro _ w3 ⟨⟨cs3,rfl,hO3⟩,e3⟩
  obtain ⟨xb,xh,xp,rfl,_,_,_,x1,x2,x5⟩:=hO3.read.op
  have c2:=e3.obj c2
  have x3:=e3.obj x3
  have x4:=e3.obj x4
  have e:=e.trans e3
  have l2w:p2 < w2.heap.size∧p3 < w2.heap.size∧p4 < w2.heap.size:=⟨(Array.getElem?_eq_some_iff.1 (show w2.heap[p2]?=_ by assumption)).1,(Array.getElem?_eq_some_iff.1 (show w2.heap[p3]?=_ by assumption)).1,(Array.getElem?_eq_some_iff.1 (show w2.heap[p4]?=_ by assumption)).1⟩
  have z3:=e3.size
  unfold n7c28
  simp (disch:=try exact DI) only [↓PR,QR,simprocAttr]
  have k5:=heap_new w3 #[.string t.nd.name,.int .i64 t.nd.int,xb,xh,xp] 26
  have e4:Ext w3 (w3.alloc (.cells #[.string t.nd.name,.int .i64 t.nd.int,xb,xh,xp] 26)):=ee
  generalize (w3.alloc (.cells #[.string t.nd.name,.int .i64 t.nd.int,xb,xh,xp] 26))=w4 at *
  generalize hp5:w3.heap.size=p5 at *
  have hO4:=hO3.ext e4
  have c2:=e4.obj c2
  have x3:=e4.obj x3
  have x4:=e4.obj x4
  have e:=e.trans e4
  have l5:p5 < w4.heap.size:=(Array.getElem?_eq_some_iff.1 k5).1
  refine callK_ret (Walk_ret _ t (val_of_cells hO4.read) (by omega)) ?_
  rintro r w5 ⟨e5,hr⟩
  have hO5:=hO4.ext e5
  have c2:=e5.obj c2
  have x3:=e5.obj x3
  have x4:=e5.obj x4
  have k5:=e5.obj k5
  have e:=e.trans e5
  have z5:=e5.size
  have hfv:∃ f caps,r = .func (.func f) #[] caps:=by
   by_cases hv:validT t=true
   · rw [if_pos hv] at hr
     obtain ⟨_,_,_,_,_,rfl,_⟩:=hr
     exact ⟨_,_,rfl⟩
   · rw [if_neg hv] at hr
     exact ⟨_,_,hr⟩
  obtain ⟨f,caps,rfl⟩:=hfv
  unfold n7c27
  rw [op_eqNilF Tryz.underlying43]
  simp (disch:=try exact DI) only [↓PR,QR,simprocAttr]
  unfold n7c26
  simp (disch:=try exact DI) only [↓PR,QR,simprocAttr,(cells_of_heap k5).1]
  refine callK_ret (spoil_ret t w5 (trCells t.nd xb xh xp) w2.heap.size p5 1048576 (InT.of _ hO5 t3).2 (by omega) (by omega) t2) ?_
  intro r' w6 hS
  have hk6:∀ {p:Nat} {o:Obj},p < w2.heap.size∨p5≤p→w5.heap[p]?=some o→w6.heap[p]?=some o:=fun hp h=>(hS.out _ (Array.getElem?_eq_some_iff.1 h).1 hp).trans h
  have c2:=hk6 (.inl l2w.1) c2
  have x3:=hk6 (.inl l2w.2.1) x3
  have x4:=hk6 (.inl l2w.2.2) x4
  have e:=hS.ext e (by omega)
  have z6:=hS.size
  unfold n7c25
  simp (disch:=try exact DI) only [↓PR,QR,simprocAttr,fun o=>(cells_of_heap (((Ext.refl w6).alloc o).obj c2)).1]
  have k7:=heap_new w6 #[.slice none 0 0] 45
  have e7:Ext w6 (w6.alloc (.cells #[.slice none 0 0] 45)):=ee
  generalize (w6.alloc (.cells #[.slice none 0 0] 45))=w7 at *
  generalize hp7:w6.heap.size=p7 at *
  have c2:=e7.obj c2
  have x3:=e7.obj x3
  have x4:=e7.obj x4
  have e:=e.trans e7
  refine zcr (rValid_ret w7 _ t (hU.ext e) (by omega)) fun w8 e8=>?_
  have c2:=e8.obj c2
  have x3:=e8.obj x3
  have x4:=e8.obj x4
  have k7:=e8.obj k7
  have e:=e.trans e8
  have e68:=e7.trans e8
  unfold joinK
  cases hva:validT t with
  | false =>
   rw [hva] at hr
   injection hr with hf hc1 hc
   injection hf with hf
   subst hf hc
   simp (disch:=try exact DI) only [↓PR,QR,simprocAttr]
   exact vw_turns (w0:=W) (A:=W) (lo:=0) (hi:=0) (L:=[]) (css:=[]) (bb:=0) (FP:=fun _=>True) c58 (walk_none _ _ _ _) (fun _ _ _ _=>trivial) (Nat.zero_le _) (fun b _ h=>by omega) e x3 x4 l4 k7 (OwnE.nil _ _ _ _ _) ⟨rfl,fun k x c hx _=>by cases hx⟩ (fun q hq=>by cases hq) (by simp) hE
  | true =>
   rw [hva,if_pos rfl] at hr
   obtain ⟨wb,wh,wp,lo,q2,hrr,hWP,hOW,hlo,hq2⟩:=hr
   injection hrr with hf hc1 hc
   injection hf with hf
   subst hf hc
   have hval:=hva
   unfold validT at hval
   simp only [Bool.and_eq_true,decide_eq_true_eq] at hval
   obtain ⟨⟨hv1,hv2⟩,hv3⟩:=hval
   simp (disch:=try exact DI) only [↓PR,QR,simprocAttr]
   unfold n7c24
   simp (disch:=try exact DI) only [↓PR,QR,simprocAttr,(cells_of_heap c2).1]
   refine callK_ret (rWalk_ret (A:=W) t w8 [] ub uh up e hUE hv3 t2 (by rw [List.length_nil];omega)) ?_
   rintro r9 w9 ⟨e9,css,hO9,hM9⟩
   have x3:=e9.obj x3
   have x4:=e9.obj x4
   have k7:=e9.obj k7
   have e:=e.trans e9
   have hr9:=SliceOf.oneCell (hO9.slice (E:=fun _ _ _=>True) (fun x=>x.2) (fun _ _=>trivial))
   simp (disch:=try exact DI) only [↓PR,QR,simprocAttr,(cells_of_heap k7).1,(cells_of_heap k7).2]
   have k7':=heap_set (o:=0) k7 r9
   change _=some (Obj.cells #[r9] 45 (0,0)) at k7'
   have x3':(w9.setCell ⟨p7,0,none⟩ r9).heap[p3]?=_:=(heap_setE (by omega)).trans x3
   have x4':(w9.setCell ⟨p7,0,none⟩ r9).heap[p4]?=_:=(heap_setE (by omega)).trans x4
   have l7:p7 < w7.heap.size:=(Array.getElem?_eq_some_iff.1 (show w7.heap[p7]?=_ by assumption)).1
   have zz8:=e8.size
   have zz9:=e9.size
   have hO10:OwnE (w9.setCell ⟨p7,0,none⟩ r9) w8.heap.size 48 6 (Subtype.val:Cs 6→List Value) r9 css:=OwnE.same hO9 fun g hg=>heap_setE (by have:=(OwnE.lt' hO9 hg).1;omega)
   have hcount:=walk_count t []
   have hreg:∀ b,lo≤b→b < q2+2→(w9.setCell ⟨p7,0,none⟩ r9).heap[b]?=w5.heap[b]?:=fun b h1 h2=>(heap_setE (by omega)).trans ((e9.block b (by omega)).trans ((e68.block b (by omega)).trans (hS.out b (by omega) (.inr (by omega)))))
   refine vw_turns (w0:=W) (A:=w5) (lo:=lo) (hi:=q2+2) (FP:=fun w=>Rg w5 lo q2 w∧WalkP (q2+1) q2 [] (trCells t.nd wb wh wp) w) c82 (walk_at hOW hva (q2+1) q2 (by omega) (Nat.le_refl _) (by omega)) (fun u hu1 hu2 hu3=>⟨⟨hE.ext hu1,by omega,fun b h1 h2=>hu3 b h1 (by omega)⟩,(hu3 _ (by have:=hOW.le;omega) (by omega)).trans hWP.1,(hu3 _ (hOW.le) (by omega)).trans hWP.2⟩) (by simp;omega) hreg (e.setCell (p:=⟨p7,0,none⟩) (by show W.heap.size≤p7;have:=e.size;omega) _) x3' x4' l4 k7' hO10 hM9 (fun q hq=>?_) (by rw [hcount];exact hn200) hE
   obtain ⟨g1,g2⟩:=walk_mem hsm [] q hq
   exact ⟨g1,by omega⟩
theorem ValueWalks_at (W:World) (u:Value) (t:Tr) (n:Int) (hu:ValAt W u t) (_:True) (hE:EnvOK W):Ret Pg 6 #[u,.int .i64 n] W fun r w'=>r = .bool true∧Ext W w':=ValueWalks_ret W u t n hu hE
end Go.Proofs.YtcffhmapmaahnaaGreatDoor
namespace Go.Proofs.YtcffhmapmaahnaaGreatDoor
open Sw
open Go.ChangeShapes Go.WideShapes Go.RowKit Go.ChangeAt Go.Deep
theorem vwalks_lifted (os:Os) (started:os.Started) (H:Type) (enc:TypeId×Value→H) :
 ReturnsInHanded {} Tryz.checked os 6 .any (fun w args=>(Rows.valueWalksSpec.pre enc Pg Tryz.f6 Rows.valueWalksRow.domain false w args∧laidMetH Pg role_laid w)∧sizedMet enc Pg Tryz.f6 (OpenSpec.ofChange Rows.valueWalksSpec) false w args) (Rows.valueWalksSpec.post enc Pg Tryz.f6 false true false false):=by
 refine handed_and (C:=Tryz.checked) (X:=fun w _=>laidMetH Pg role_laid w) (fun _ _ _ hh h=>h.of_heap hh) role_own started (by kernel_rfl) Tryz.func6
  (ChangeSpec.witness_shaped (enc:=enc) (C:=Tryz.checked) (os:=os) (X:=fun w _=>laidMetH Pg role_laid w) false (World.laidAll Pg os role_laid) #[.agg #[.string ByteArray.empty,.int .i64 0,.slice none 0 0,.slice none 0 0,.slice none 0 0],.int .i64 0] 8 (World.laidAll_os _ _ _) (World.shaped_of_ZipB (by kernel_rfl) (by kernel_rfl)) (by kernel_rfl) (by kernel_rfl) (by kernel_rfl) (role_met os _)) ?_
 intro W base args ds gs before hval hW _ hsz hL hsh _
 have hW':=hW
 obtain ⟨p,q,hA0,hV,rfl,_,_⟩:=hW
 have hA:DataW.TrodAll enc Pg W 0 (fun _=>true) true Tryz.f6.params.toList args.toList ds p:=hA0
 rw [Tryz.params6] at hA hval hsz
 obtain ⟨v0,vs0,d0,ds0,p0,q0,ha0,rfl,rfl,h0,r0⟩:=trodAll_cons hA
 obtain ⟨v1,vs1,d1,ds1,p1,q1,ha1,rfl,rfl,h1,r1⟩:=trodAll_cons r0
 obtain ⟨rfl,rfl,rfl⟩:=trodAll_nil r1
 subst ha1
 obtain rfl:args = #[v0,v1]:=by cases args;simp_all
 obtain ⟨f0,hf0,hs0⟩:=val_val (hval 0 _ v0 rfl rfl) h0 (reached_of (j:=0) hsz rfl rfl)
 obtain ⟨n1,rfl,_,_,hw1⟩:=open_int Tryz.underlying3 (hval 1 _ v1 rfl rfl) h1
 refine Calls.mono (ValueWalks_at W v0 f0 n1 hf0 hs0 (role_env hsh hL)) fun e W' ⟨v,he,hv,hx⟩=>?_
 subst he hv
 exact ⟨_,rfl,law_post role_laidOut (by decide +kernel) rfl hW' hx rfl Tryz.underlying4 rfl rfl rfl⟩
theorem vwalks_holds:Rows.ValueWalksSaid :=
 OpenClaim.holds_of_wide 6 Tryz.f6 rfl rfl rfl rfl rfl rfl rfl ⟨rfl,rfl,rfl,rfl,rfl⟩ rfl rfl rfl rfl rfl (by kernel_rfl) Tryz.func6 (by kernel_rfl)
  (of_decide_eq_true (by kernel_rfl)) (by unfold Func.isWrapper;first | (rw [if_pos (by decide +kernel)];kernel_rfl) | (rw [if_neg (by decide +kernel)];exact ⟨rfl,rfl⟩))
  (fun os started H enc _=>vwalks_lifted os started H enc)
theorem vwalks_card:Rows.ValueWalksCardSaid :=
 Claim7.holds_tied_plain_at .later [] [.data,.data,.data,.data,.sentinel,.sentinel,.pinned] true (true, "890728a3a62857bfa7207560ed87612b9253540bda02dd327723c287671f9d21") true
  vwalks_holds (fun _ h=>by cases h) (by kernel_rfl) (fun _ h=>by cases h) valueWalks_row_tie rfl ⟨rfl,rfl⟩ (by kernel_rfl) rfl
  (fun f fn hf hfn=>by
   obtain rfl:f=6:=Option.some.inj ((show Pg.funcNamed "phrasebook/phrasebooklaw13.ValueWalks" = some 6 by kernel_rfl).symm.trans hf) |>.symm
   obtain rfl:fn=Tryz.f6:=(Option.some.inj (Tryz.func6.symm.trans hfn)).symm
   exact ⟨by kernel_rfl,fun j t ht=>by
    rw [Tryz.params6] at ht
    have hm:t∈[26,3]:=by simpa using Array.mem_of_getElem? ht
    have hall:([26,3].all fun u=>!Pg.wantsStandIn u)=true:=by kernel_rfl
    exact (show Pg.wantsStandIn t=false by simpa using List.all_eq_true.1 hall t hm)⟩)
  (by kernel_rfl)
end Go.Proofs.YtcffhmapmaahnaaGreatDoor
