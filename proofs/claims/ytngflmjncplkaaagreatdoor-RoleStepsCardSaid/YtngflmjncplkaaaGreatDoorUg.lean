/-
  phrasebooklaw28.RoleSteps returns true for every role, every state and every number, and leaves its arguments as they were; no condition is asked but that the tables of the library lie as the program lays them (the card ties them).
-/
import Derived.Test.YtngflmjncplkaaaGreatDoorUg4
set_option linter.all false
set_option maxHeartbeats 4000000
set_option maxRecDepth 100000
namespace Go.Proofs.YtngflmjncplkaaaGreatDoor
open Sw
open Go.RowKit (intOf Below)
def turnS (a:Value) (w:World):Nat:=match a with
 | .pointer (some p)=>(match w.cell? p with
  | some (.int _ t)=>(2 - t).toNat
  | _=>0)
 | _=>0
theorem st_turns {w0 w1:World} {p3 p5 p6 p11 q5 q3:Nat} {r:RolD} {s:ByteArray} {sv cv tv lv v:Value} {many:Int} (E1:Ext w0 w1) (h3:w1.heap[p3]?=some (.cells (rolCells r sv cv tv).toArray TRol (0,0))) (hT:StpsOf w1 tv r.steps) (hl:r.steps.length≤100000) (x5:w1.heap[p5]?=some (.cells #[.int .i64 many] 3 (0,0))) (x6:w1.heap[p6]?=some (.cells #[.bool false] 4 (0,0))) (l6:w0.heap.size≤p6) (x11:w1.heap[p11]?=some (.cells #[v] 78 (0,0)))
 (hL:SliceOf w1 1 (fun _ cs (n:Nat)=>cs=encN n) v (wantN s r.steps)) (hFr:FrAt q5 q3 lv r.steps s w1) (hkn:∀ w,Ext w0 w→EnvOK w) :
 n7c37 (.pointer (some ⟨p3,0,none⟩)) (.pointer (some ⟨p5,0,none⟩)) (.pointer (some ⟨p6,0,none⟩)) (.pointer (some ⟨p11,0,none⟩)) (.func (.func 76) #[] #[.pointer (some ⟨q5,0,none⟩),.pointer (some ⟨q3,0,none⟩)]) [] (LawR w0) w1:=by
 have hwl:=wantF_len s r.steps 0
 have hmem:=fun q=>wantF_mem (s:=s) (l:=r.steps) (k:=0) (q:=q)
 have hseq:=From_seq q5 q3 lv r.steps s (by omega)
 unfold wantN at hL
 generalize wantF s 0 r.steps=want at hL hwl hmem hseq
 obtain ⟨A,cc,rfl,hlc,hcm,hlm,hel⟩:=SliceOf.open hL
 rw [List.length_map] at *
 obtain ⟨A3,c3,rfl,_,_,_,hel3⟩:=SliceOf.open hT
 unfold n7c37
 simp (disch:=try exact DI) only [↓PR,QR,simprocAttr]
 have oT:=heap_new w1 #[.int .i64 0] 3
 have eX:Ext w1 (w1.alloc (Obj.cells #[.int .i64 0] 3)):=ee
 generalize (w1.alloc (Obj.cells #[.int .i64 0] 3))=X at oT eX ⊢
 refine loopM1_intro (fun ds a w'=>∃ (p20:Nat) (t:Nat),a = .pointer (some ⟨p20,0,none⟩)∧t≤2∧w1.heap.size≤p20∧w'.heap[p20]?=some (.cells #[.int .i64 (t:Int)] 3 (0,0))∧Ext w1 w'∧(∃ bs:List Nat,ds=bs.map Sw.mark∧bs.Nodup∧∀ b∈bs,MarkAt b w'∧w1.heap.size≤b)) turnS ⟨w1.heap.size,0,rfl,by omega,Nat.le_refl _,oT,eX,[],rfl,by simp,by simp⟩ ?_
 rintro ds _ w2 ⟨p20,t,rfl,ht2,hp20,y20,e2,bs,rfl,hnd,hbs⟩
 have hcw:∀ (w':World) (p u:Nat),w'.heap[p]?=some (.cells #[.int .i64 (u:Int)] 3 (0,0))→turnS (.pointer (some ⟨p,0,none⟩)) w'=2 - u:=by
  intro w' p u h
  unfold turnS
  simp only
  rw [(cells_of_heap h).1 0]
  show ((2:Int) - (u:Int)).toNat=2 - u
  omega
 unfold n7c36
 by_cases ht:t < 2
 · have dt:decide ((t:Int) < 2)=true:=by simp;omega
   simp (disch:=try exact DI) only [↓PR,QR,simprocAttr,(cells_of_heap y20).1,dt]
   unfold n7c35
   simp (disch:=try exact DI) only [↓PR,QR,simprocAttr]
   have l20:p20 < w2.heap.size:=(Array.getElem?_eq_some_iff.1 y20).1
   have eB:Ext w2 (w2.alloc (Obj.cells #[.int .i64 0] 3)):=ee
   have o21:=heap_new w2 #[.int .i64 0] 3
   have hs3:(w2.alloc (Obj.cells #[.int .i64 0] 3)).heap.size=w2.heap.size+1:=by simp only [World.size_alloc]
   generalize hp21:w2.heap.size=p21 at o21 hs3 ⊢
   generalize (w2.alloc (Obj.cells #[.int .i64 0] 3))=w3 at eB o21 hs3 ⊢
   have s2:=e2.size
   let I:Nat→World→Prop:=fun k w'=>Ext w1 w'∧(∀ b∈bs,MarkAt b w')∧w'.heap[p20]?=some (.cells #[.int .i64 (t:Int)] 3 (0,0))∧w'.heap[p21]?=some (.cells #[.int .i64 (k:Int)] 3 (0,0))∧(t=0→k=0∨(k:Int) < many)
   let Ix:Nat→World→Prop:=fun c w'=>c=1∧Ext w1 w'∧(∀ b∈bs,MarkAt b w')∧w'.heap[p20]?=some (.cells #[.int .i64 (t:Int)] 3 (0,0))∧∃ k:Nat,w'.heap[p21]?=some (.cells #[.int .i64 (k:Int)] 3 (0,0))∧t=0∧(k:Int)=min (want.length:Int) (max 1 many)
   have hmk:Lasts2 w3.heap.size (fun w=>∀ b∈bs,MarkAt b w):=lasts2_marks fun b hb=>by have:=(Array.getElem?_eq_some_iff.1 (hbs b hb).1).1;omega
   have hLI:∀ k,Lasts2 w3.heap.size (I k):=fun k=>(Lasts2.from (by omega)).and (hmk.and ((Lasts2.has _ (by simp) (by simp)).and ((Lasts2.has _ (by simp) (by simp)).and (Lasts2.const _ _))))
   have hLX:∀ k,Lasts2 w3.heap.size (Ix k):=fun k=>(Lasts2.const _ _).and ((Lasts2.from (by omega)).and (hmk.and ((Lasts2.has _ (by simp) (by simp)).and (.ex fun k=>(Lasts2.has _ (by simp) (by simp)).and (Lasts2.const _ _)))))
   have hfin:∀ (w4:World),Ext w1 w4→(∀ b∈bs,MarkAt b w4)→MarkAt w3.heap.size w4→∀ w5,w4.heap.size < w5.heap.size→w5.heap[w4.heap.size]?=some (.cells #[.int .i64 ((t+1:Nat):Int)] 3 (0,0))→Ext w4 w5 →
    (∃ (p20:Nat) (t':Nat),Value.pointer (some ⟨w4.heap.size,0,none⟩) = .pointer (some ⟨p20,0,none⟩)∧t'≤2∧w1.heap.size≤p20∧w5.heap[p20]?=some (.cells #[.int .i64 (t':Int)] 3 (0,0))∧Ext w1 w5∧(∃ bs':List Nat,(Sw.mark w3.heap.size::bs.map Sw.mark)=bs'.map Sw.mark∧bs'.Nodup∧∀ b∈bs',MarkAt b w5∧w1.heap.size≤b)) ∧
    turnS (.pointer (some ⟨w4.heap.size,0,none⟩)) w5 < turnS (.pointer (some ⟨p20,0,none⟩)) w2:=by
    intro w4 e4 hm4 hmk w5 hlt5 h5 e5
    have s4:=e4.size
    refine ⟨⟨w4.heap.size,t+1,rfl,by omega,by omega,h5,e4.trans e5,w3.heap.size::bs,rfl,List.nodup_cons.2 ⟨fun hin=>?_,hnd⟩,fun b hb=>?_⟩,?_⟩
    · have:=(Array.getElem?_eq_some_iff.1 (hbs _ hin).1).1
      omega
    · rcases List.mem_cons.1 hb with rfl | hb
      · exact ⟨hmk.ext e5,by omega⟩
      · exact ⟨(hm4 b hb).ext e5,(hbs b hb).2⟩
    · rw [hcw w5 _ (t+1) h5,hcw w2 p20 t y20];omega
   refine ⟨_,_,want.length,wantX want,wantY want,FrAt q5 q3 lv r.steps s,I,Ix,fun _ _=>False,rfl,c76,hseq,⟨e2.trans eB,fun b hb=>(hbs b hb).1.ext eB,eB.obj y20,o21,fun _ => .inl rfl⟩,fun k w' h=>hFr.ext h.1,hLI,hLX,fun _=>Lasts2.const _ _,?_,?_,?_,?_⟩
   · intro Rk hRk j w4 hj hI4 hR4 hlt hready
     obtain ⟨q,hq⟩:=getElem?_lt hj
     obtain ⟨_,hqs,_⟩:=hmem q (List.mem_of_getElem? hq)
     obtain ⟨qi,qx⟩:=q
     simp only [Nat.sub_zero] at hqs
     rw [wantX_at hq,wantY_at hq]
     have hil:=(List.getElem?_eq_some_iff.1 hqs).1
     unfold n7c19 stpVal
     simp (disch:=try exact DI) only [↓PR,QR,simprocAttr]
     have eA:Ext w4 (w4.alloc (.cells (stpCells qx).toArray 71)):=ee
     have oA:=heap_new w4 (stpCells qx).toArray 71
     change busyK _ (w4.alloc (.cells (stpCells qx).toArray 71)) _
     generalize (w4.alloc (.cells (stpCells qx).toArray 71))=Z at eA oA ⊢
     generalize w4.heap.size=p23 at oA ⊢
     refine ⟨by obtain ⟨r,h1,h2⟩:=hready;exact ⟨r,eA.obj h1,h2⟩,fun w5 hbz=>?_⟩
     have hR5:=hRk _ _ (KR.busied hbz) (hRk _ _ (KR.of eA) hR4)
     obtain ⟨e5,hm5,g20,g21,hjm⟩:=(hLI j).busied hbz (Nat.le_succ _) ((hLI j).ext hI4 eA)
     have qA:w5.heap[p23]?=some (.cells (stpCells qx).toArray 71 (0,0)):=(Lasts2.has w3.heap.size (by simp) (by simp)).busied hbz (Nat.le_succ _) oA
     refine drawK_intro ?_
     have eD:Ext w5 (Sw.drew w5):=(Ext.refl w5).drew
     have hRD:=hRk _ _ (KR.of eD) hR5
     have gA:=eD.obj qA
     have g20:=eD.obj g20
     have g21:=eD.obj g21
     have hmD:∀ b∈bs,MarkAt b (Sw.drew w5):=fun b hb=>(hm5 b hb).ext eD
     have eD1:=e5.trans eD
     generalize Sw.drew w5=D at eD hRD gA g20 g21 hmD eD1 ⊢
     obtain ⟨b,o,cs,rfl,_,hE,rfl⟩:=hel j qi (by rw [List.getElem?_map,hq];rfl)
     obtain ⟨b3,o3,cs3,rfl,_,hE3,rfl⟩:=hel3 qi qx hqs
     have hge:decide ((j:Int)≥(want.length:Int))=false:=decide_eq_false (by omega)
     have hjj:((qi:Int) != (qi:Int))=false:=by simp
     have ex:D.cell? ⟨b,o+j,none⟩=some (.int .i64 (qi:Int)):=by have:=hE.c1 eD1;simpa using this
     have dkj:(j:Int) < (want.length:Int):=by omega
     have dki:(qi:Int) < (r.steps.length:Int):=by omega
     have q1:decide (qx=qx)=true:=decide_eq_true rfl
     have hw:IntKind.i64.wrap ((j:Int)+1)=((j+1:Nat):Int):=by rw [wrap_ok (by omega) (by omega)];omega
     have r21:(D.setCell ⟨p21,0,none⟩ (.int .i64 ((j+1:Nat):Int))).heap[p21]?=some (.cells #[.int .i64 ((j+1:Nat):Int)] 3 (0,0)):=by simpa using heap_set (o:=0) g21 (.int .i64 ((j+1:Nat):Int))
     have r20:=(Only.setCell D p21 0 (.int .i64 ((j+1:Nat):Int)) p20 (by omega)).trans g20
     have e7:Ext w1 (D.setCell ⟨p21,0,none⟩ (.int .i64 ((j+1:Nat):Int))):=eD1.setCell (by show w1.heap.size≤p21;omega) _
     have hm7:∀ b∈bs,MarkAt b (D.setCell ⟨p21,0,none⟩ (.int .i64 ((j+1:Nat):Int))):=fun b hb=>(hmD b hb).setCell _ _
     have hR7:=hRk _ _ (KR.setCell (KR.refl _ D) p21 0 (.int .i64 ((j+1:Nat):Int)) (.inl (by omega))) hRD
     have x57:=e7.obj x5
     unfold n7c18
     simp (disch:=try exact DI) only [↓PR,QR,simprocAttr,(cells_of_heap g21).1,(cells_of_heap (eD1.obj x11)).1,hge,dkj,ex,hjj,Nat.mul_one,↓n7c17,(cells_of_heap gA).1,(cells_of_heap (eD1.obj h3)).1,dki,hE3.c9 eD1,stp_eq,q1,Bool.not_true,↓n7c16]
     unfold n7c15
     have hcase:t=0∨t=1:=by omega
     rcases hcase with ht0 | ht1
     · have d0:((t:Int) == 0)=true:=by rw [ht0];rfl
       by_cases hmy:((j+1:Nat):Int)≥many
       · have dm:decide (((j+1:Nat):Int)≥many)=true:=by simpa using hmy
         simp (disch:=try exact DI) only [↓PR,QR,simprocAttr,(cells_of_heap g21).1,(cells_of_heap g21).2,hw,(cells_of_heap r20).1,d0,(cells_of_heap r21).1,(cells_of_heap x57).1,dm]
         refine ⟨hR7,rfl,e7,hm7,r20,j+1,r21,ht0,?_⟩
         have:=hjm ht0
         omega
       · have dm:decide (((j+1:Nat):Int)≥many)=false:=by simpa using hmy
         simp (disch:=try exact DI) only [↓PR,QR,simprocAttr,(cells_of_heap g21).1,(cells_of_heap g21).2,hw,(cells_of_heap r20).1,d0,(cells_of_heap r21).1,(cells_of_heap x57).1,dm]
         exact ⟨hR7,e7,hm7,r20,r21,fun _ => .inr (by omega)⟩
     · have d0:((t:Int) == 0)=false:=by rw [ht1];rfl
       simp (disch:=try exact DI) only [↓PR,QR,simprocAttr,(cells_of_heap g21).1,(cells_of_heap g21).2,hw,(cells_of_heap r20).1,d0]
       exact ⟨hR7,e7,hm7,r20,r21,fun h=>by omega⟩
   · rintro w4 ⟨e4,hm4,q20,q21,hjm⟩ hmk
     exact st_after1 (e4.obj x5) (e4.obj x11) q20 q21 ht (fun h=>by have:=hjm h;omega) (fun _=>rfl) (hfin w4 e4 hm4 hmk)
   · rintro c w4 ⟨rfl,e4,hm4,q20,k,q21,ht0,hk⟩ hmk
     exact st_after2 (e4.obj x5) (e4.obj x11) q20 q21 ht (fun _=>hk) (fun h=>by omega) (hfin w4 e4 hm4 hmk)
   · rintro ch w4 h
     exact h.elim
 · have dt:decide ((t:Int) < 2)=false:=by simp;omega
   have q6:=e2.obj x6
   simp (disch:=try exact DI) only [↓PR,QR,simprocAttr,(cells_of_heap y20).1,dt]
   unfold n7c34
   refine zcr (known_ret w2 (hkn w2 (E1.trans e2))) fun w6 e6=>?_
   have q6:=e6.obj q6
   simp (disch:=try exact DI) only [↓PR,QR,simprocAttr,(cells_of_heap q6).1,(cells_of_heap q6).2]
   have r6:(w6.setCell ⟨p6,0,none⟩ (.bool true)).heap[p6]?=some (.cells #[.bool true] 4 (0,0)):=by simpa using heap_set (o:=0) q6 (.bool true)
   refine outs_marks (w0:=w0) hnd (fun b hb=>⟨((hbs b hb).1.ext e6).setCell _ _,by have:=(hbs b hb).2;have:=E1.size;omega⟩) ((E1.trans (e2.trans e6)).setCell (by show w0.heap.size≤p6;omega) _) (fun w' e' hh=>?_)
   have z6:=hh _ _ has_nd r6
   simp (disch:=try exact DI) only [↓PR,QR,simprocAttr,outX_nil,retV,resOne,(cells_of_heap z6).1]
   exact ⟨by trivial,e'⟩
theorem appendL_cnt {a w:World} {QP:List PanicEntry→World→Prop} {k:Value→World→Prop} {base N:Nat} {v:Value} {l:List CntD} (hO:OwnE w base 52 2 cntCells (.slice (some ⟨N,0,none⟩) 0 0) []) (hs:SliceOf w 2 ECnt v l) (hbase:base≤w.heap.size) (hb:l.length≤1048576) (ea:Ext a w) (hN:a.heap.size≤N) (hNw:N < w.heap.size)
 (hk:∀ g cap w',OwnE w' base 52 2 cntCells (.slice (some ⟨g,0,none⟩) l.length cap) l→(g=N∨g=w.heap.size)→g < w'.heap.size→w.heap.size≤w'.heap.size→Ext a w'→(∀ b,b < w.heap.size→b≠N→w'.heap[b]?=w.heap[b]?)→k (.slice (some ⟨g,0,none⟩) l.length cap) w') :
 opV Pg (Builtin.append_ #[23,23] 23 #[.slice (some ⟨N,0,none⟩) 0 0,v]) QP w k:=by
 obtain ⟨A,c,rfl,hlc,hcm,hlm,hel⟩:=SliceOf.open hs
 cases hl:l with
 | nil =>
  rw [hl] at hk
  rw [List.length_nil,op_append0 Tryz.underlying23 ty52 _ _ _ _ _ (Nat.le_refl 0)]
  exact hk _ _ _ hO (.inl rfl) hNw (Nat.le_refl _) ea fun _ _ _=>rfl
 | cons x0 l0 =>
  obtain ⟨b,o,_,hA,_⟩:=hel 0 x0 (by rw [hl];rfl)
  subst hA
  rw [← hl]
  refine op_appendL (l:=[]) (l':=l) Tryz.underlying23 ty52 rfl (by decide) (fun x=>rfl) (fun x _=>one_Counter x) hO (fun j x hx=>?_) hbase (by rw [hl];simp) ?_ (by simp;omega) ?_
  · obtain ⟨b',o',cs,hA',hl',hE,rfl⟩:=hel j x hx
    injection hA' with hA'
    injection hA' with h3 h4
    subst h3 h4
    exact hE
  · have:=by52
    rw [List.length_nil,Nat.zero_add]
    exact Nat.le_trans (Nat.mul_le_mul hb this) (by decide)
  · intro g cap w' ho hg hgg hlt
    rw [List.length_nil,Nat.zero_add] at ho ⊢
    exact hk g cap w' ho (hgg.elim (fun h => .inl (Option.some.inj h).symm) .inr) hlt hg.size (ea.grown hg fun g hgg=>(Option.some.inj hgg) ▸ hN) fun b h1 h2=>hg.block b h1 fun e=>h2 (Option.some.inj e)
theorem appendL_sta {a w:World} {QP:List PanicEntry→World→Prop} {k:Value→World→Prop} {base N:Nat} {v:Value} {l:List StaD} (hO:OwnE w base 50 3 staCells (.slice (some ⟨N,0,none⟩) 0 0) []) (hs:SliceOf w 3 ESta v l) (hbase:base≤w.heap.size) (hb:l.length≤1048576) (ea:Ext a w) (hN:a.heap.size≤N) (hNw:N < w.heap.size)
 (hk:∀ g cap w',OwnE w' base 50 3 staCells (.slice (some ⟨g,0,none⟩) l.length cap) l→(g=N∨g=w.heap.size)→g < w'.heap.size→w.heap.size≤w'.heap.size→Ext a w'→(∀ b,b < w.heap.size→b≠N→w'.heap[b]?=w.heap[b]?)→k (.slice (some ⟨g,0,none⟩) l.length cap) w') :
 opV Pg (Builtin.append_ #[22,22] 22 #[.slice (some ⟨N,0,none⟩) 0 0,v]) QP w k:=by
 obtain ⟨A,c,rfl,hlc,hcm,hlm,hel⟩:=SliceOf.open hs
 cases hl:l with
 | nil =>
  rw [hl] at hk
  rw [List.length_nil,op_append0 Tryz.underlying22 ty50 _ _ _ _ _ (Nat.le_refl 0)]
  exact hk _ _ _ hO (.inl rfl) hNw (Nat.le_refl _) ea fun _ _ _=>rfl
 | cons x0 l0 =>
  obtain ⟨b,o,_,hA,_⟩:=hel 0 x0 (by rw [hl];rfl)
  subst hA
  rw [← hl]
  refine op_appendL (l:=[]) (l':=l) Tryz.underlying22 ty50 rfl (by decide) (fun x=>rfl) (fun x _=>one_State x) hO (fun j x hx=>?_) hbase (by rw [hl];simp) ?_ (by simp;omega) ?_
  · obtain ⟨b',o',cs,hA',hl',hE,rfl⟩:=hel j x hx
    injection hA' with hA'
    injection hA' with h3 h4
    subst h3 h4
    exact hE
  · have:=by50
    rw [List.length_nil,Nat.zero_add]
    exact Nat.le_trans (Nat.mul_le_mul hb this) (by decide)
  · intro g cap w' ho hg hgg hlt
    rw [List.length_nil,Nat.zero_add] at ho ⊢
    exact hk g cap w' ho (hgg.elim (fun h => .inl (Option.some.inj h).symm) .inr) hlt hg.size (ea.grown hg fun g hgg=>(Option.some.inj hgg) ▸ hN) fun b h1 h2=>hg.block b h1 fun e=>h2 (Option.some.inj e)
theorem appendL_stp {a w:World} {QP:List PanicEntry→World→Prop} {k:Value→World→Prop} {base N:Nat} {v:Value} {l:List StpD} (hO:OwnE w base 71 9 stpCells (.slice (some ⟨N,0,none⟩) 0 0) []) (hs:SliceOf w 9 EStp v l) (hbase:base≤w.heap.size) (hb:l.length≤1048576) (ea:Ext a w) (hN:a.heap.size≤N) (hNw:N < w.heap.size)
 (hk:∀ g cap w',OwnE w' base 71 9 stpCells (.slice (some ⟨g,0,none⟩) l.length cap) l→(g=N∨g=w.heap.size)→g < w'.heap.size→w.heap.size≤w'.heap.size→Ext a w'→(∀ b,b < w.heap.size→b≠N→w'.heap[b]?=w.heap[b]?)→k (.slice (some ⟨g,0,none⟩) l.length cap) w') :
 opV Pg (Builtin.append_ #[24,24] 24 #[.slice (some ⟨N,0,none⟩) 0 0,v]) QP w k:=by
 obtain ⟨A,c,rfl,hlc,hcm,hlm,hel⟩:=SliceOf.open hs
 cases hl:l with
 | nil =>
  rw [hl] at hk
  rw [List.length_nil,op_append0 Tryz.underlying24 ty71 _ _ _ _ _ (Nat.le_refl 0)]
  exact hk _ _ _ hO (.inl rfl) hNw (Nat.le_refl _) ea fun _ _ _=>rfl
 | cons x0 l0 =>
  obtain ⟨b,o,_,hA,_⟩:=hel 0 x0 (by rw [hl];rfl)
  subst hA
  rw [← hl]
  refine op_appendL (l:=[]) (l':=l) Tryz.underlying24 ty71 rfl (by decide) (fun x=>rfl) (fun x _=>one_Step x) hO (fun j x hx=>?_) hbase (by rw [hl];simp) ?_ (by simp;omega) ?_
  · obtain ⟨b',o',cs,hA',hl',hE,rfl⟩:=hel j x hx
    injection hA' with hA'
    injection hA' with h3 h4
    subst h3 h4
    exact hE
  · have:=by71
    rw [List.length_nil,Nat.zero_add]
    exact Nat.le_trans (Nat.mul_le_mul hb this) (by decide)
  · intro g cap w' ho hg hgg hlt
    rw [List.length_nil,Nat.zero_add] at ho ⊢
    exact hk g cap w' ho (hgg.elim (fun h => .inl (Option.some.inj h).symm) .inr) hlt hg.size (ea.grown hg fun g hgg=>(Option.some.inj hgg) ▸ hN) fun b h1 h2=>hg.block b h1 fun e=>h2 (Option.some.inj e)
structure LT (w0 w:World) (base p2 p5 B1 B2:Nat) (r:RolD) (sv cv tv:Value):Prop where
 e:Ext w0 w
 h2:w.heap[p2]?=some (.cells zR TRol (0,0))
 h5:w.heap[p5]?=some (.cells (rolCells r sv cv tv).toArray TRol (0,0))
 oc:OwnE w base 52 2 cntCells cv r.counters
 lc:∀ b,cv.ownBlock=some b→b < B1
 os:OwnE w B1 50 3 staCells sv r.states
 ls:∀ b,sv.ownBlock=some b→b < B2
 ot:OwnE w B2 71 9 stpCells tv r.steps
 bb:base≤B1
 b12:B1≤B2
 b2:B2≤w.heap.size
 p2b:p2 < base
 p5b:p5 < B1
 p5c:∀ b,cv.ownBlock=some b→b≠p5
 ne:p2≠p5
 l2:w0.heap.size≤p2
 l5:w0.heap.size≤p5
def n11c1 (t1 t10 t14:Value) (C3:World→Prop) (K2:World→Prop) (R:RT) (w:World):Prop :=
 qV Pg C3 (Instr.fieldAt 26 t1 1) fun t16 =>
 opU Pg (Instr.storeAt 22 t16 t10) (panK R) w fun w =>
 turnK w fun C4 w =>
 qV Pg C4 (Instr.fieldAt 26 t1 3) fun t17 =>
 opU Pg (Instr.storeAt 24 t17 t14) (panK R) w fun w =>
 turnK w fun C5 w =>
 K2 w
def n11c2 (t1 t6 t10 t11 t13 t15:Value) (C1:World→Prop) (K2:World→Prop) (R:RT) (w:World):Prop :=
 opV Pg (Builtin.append_ #[24,24] 24 #[t11,t13]) (panK R) w fun t14 w =>
 C1 w∧(
 opU Pg (Instr.storeAt 23 t15 t6) (panK R) w fun w =>
 turnK w fun C3 w =>
 n11c1 t1 t10 t14 C3 K2 R w)
def n11c3 (t1 t10 t14:Value) (C6:World→Prop) (K2:World→Prop) (R:RT) (w:World):Prop :=
 qV Pg C6 (Instr.fieldAt 26 t1 1) fun t16 =>
 opU Pg (Instr.storeAt 22 t16 t10) (panK R) w fun w =>
 turnK w fun C7 w =>
 qV Pg C7 (Instr.fieldAt 26 t1 3) fun t17 =>
 opU Pg (Instr.storeAt 24 t17 t14) (panK R) w fun w =>
 turnK w fun C8 w =>
 K2 w
def n11c4 (t1 t6 t10 t11 t13 t15:Value) (C1:World→Prop) (K2:World→Prop) (R:RT) (w:World):Prop :=
 opV Pg (Builtin.append_ #[24,24] 24 #[t11,t13]) (panK R) w fun t14 w =>
 C1 w∧(
 opU Pg (Instr.storeAt 23 t15 t6) (panK R) w fun w =>
 turnK w fun C6 w =>
 n11c3 t1 t10 t14 C6 K2 R w)
def n11c5 (t1 t6 t7 t9 t13 t15:Value) (C1:World→Prop) (K2:World→Prop) (R:RT) (w:World):Prop :=
 (
 opV Pg (Builtin.append_ #[22,22] 22 #[t7,t9]) (panK R) w fun t10 w =>
 C1 w∧(
 opV Pg (Instr.buildSlice 24 0 #[]) (panK R) w fun t11 w =>
 C1 w∧(
 n11c2 t1 t6 t10 t11 t13 t15 C1 K2 R w)))∧(
 opV Pg (Instr.buildSlice 24 0 #[]) (panK R) w fun t11 w =>
 C1 w∧(
 opV Pg (Builtin.append_ #[22,22] 22 #[t7,t9]) (panK R) w fun t10 w =>
 C1 w∧(
 n11c4 t1 t6 t10 t11 t13 t15 C1 K2 R w)))
def n11c6 (t1 t10 t14:Value) (C9:World→Prop) (K2:World→Prop) (R:RT) (w:World):Prop :=
 qV Pg C9 (Instr.fieldAt 26 t1 1) fun t16 =>
 opU Pg (Instr.storeAt 22 t16 t10) (panK R) w fun w =>
 turnK w fun C10 w =>
 qV Pg C10 (Instr.fieldAt 26 t1 3) fun t17 =>
 opU Pg (Instr.storeAt 24 t17 t14) (panK R) w fun w =>
 turnK w fun C11 w =>
 K2 w
def n11c7 (t1 t6 t10 t11 t13 t15:Value) (C1:World→Prop) (K2:World→Prop) (R:RT) (w:World):Prop :=
 opV Pg (Builtin.append_ #[24,24] 24 #[t11,t13]) (panK R) w fun t14 w =>
 C1 w∧(
 opU Pg (Instr.storeAt 23 t15 t6) (panK R) w fun w =>
 turnK w fun C9 w =>
 n11c6 t1 t10 t14 C9 K2 R w)
def n11c8 (t1 t6 t9 t11 t13 t15:Value) (C1:World→Prop) (K2:World→Prop) (R:RT) (w:World):Prop :=
 opV Pg (Instr.buildSlice 22 0 #[]) (panK R) w fun t7 w =>
 C1 w∧(
 opV Pg (Builtin.append_ #[22,22] 22 #[t7,t9]) (panK R) w fun t10 w =>
 C1 w∧(
 n11c7 t1 t6 t10 t11 t13 t15 C1 K2 R w))
def n11c9 (t1 t6 t9 t13:Value) (C1:World→Prop) (K2:World→Prop) (R:RT) (w:World):Prop :=
 qV Pg C1 (Instr.fieldAt 26 t1 2) fun t15 =>
 (
 opV Pg (Instr.buildSlice 22 0 #[]) (panK R) w fun t7 w =>
 C1 w∧(
 n11c5 t1 t6 t7 t9 t13 t15 C1 K2 R w))∧(
 opV Pg (Instr.buildSlice 24 0 #[]) (panK R) w fun t11 w =>
 C1 w∧(
 n11c8 t1 t6 t9 t11 t13 t15 C1 K2 R w))
def n11c10 (t1 t10 t14:Value) (C12:World→Prop) (K2:World→Prop) (R:RT) (w:World):Prop :=
 qV Pg C12 (Instr.fieldAt 26 t1 1) fun t16 =>
 opU Pg (Instr.storeAt 22 t16 t10) (panK R) w fun w =>
 turnK w fun C13 w =>
 qV Pg C13 (Instr.fieldAt 26 t1 3) fun t17 =>
 opU Pg (Instr.storeAt 24 t17 t14) (panK R) w fun w =>
 turnK w fun C14 w =>
 K2 w
def n11c11 (t1 t6 t10 t11 t13 t15:Value) (C1:World→Prop) (K2:World→Prop) (R:RT) (w:World):Prop :=
 opV Pg (Builtin.append_ #[24,24] 24 #[t11,t13]) (panK R) w fun t14 w =>
 C1 w∧(
 opU Pg (Instr.storeAt 23 t15 t6) (panK R) w fun w =>
 turnK w fun C12 w =>
 n11c10 t1 t10 t14 C12 K2 R w)
def n11c12 (t1 t10 t14:Value) (C15:World→Prop) (K2:World→Prop) (R:RT) (w:World):Prop :=
 qV Pg C15 (Instr.fieldAt 26 t1 1) fun t16 =>
 opU Pg (Instr.storeAt 22 t16 t10) (panK R) w fun w =>
 turnK w fun C16 w =>
 qV Pg C16 (Instr.fieldAt 26 t1 3) fun t17 =>
 opU Pg (Instr.storeAt 24 t17 t14) (panK R) w fun w =>
 turnK w fun C17 w =>
 K2 w
def n11c13 (t1 t6 t10 t11 t13 t15:Value) (C1:World→Prop) (K2:World→Prop) (R:RT) (w:World):Prop :=
 opV Pg (Builtin.append_ #[24,24] 24 #[t11,t13]) (panK R) w fun t14 w =>
 C1 w∧(
 opU Pg (Instr.storeAt 23 t15 t6) (panK R) w fun w =>
 turnK w fun C15 w =>
 n11c12 t1 t10 t14 C15 K2 R w)
def n11c14 (t1 t6 t7 t9 t13:Value) (C1:World→Prop) (K2:World→Prop) (R:RT) (w:World):Prop :=
 qV Pg C1 (Instr.fieldAt 26 t1 2) fun t15 =>
 (
 opV Pg (Builtin.append_ #[22,22] 22 #[t7,t9]) (panK R) w fun t10 w =>
 C1 w∧(
 opV Pg (Instr.buildSlice 24 0 #[]) (panK R) w fun t11 w =>
 C1 w∧(
 n11c11 t1 t6 t10 t11 t13 t15 C1 K2 R w)))∧(
 opV Pg (Instr.buildSlice 24 0 #[]) (panK R) w fun t11 w =>
 C1 w∧(
 opV Pg (Builtin.append_ #[22,22] 22 #[t7,t9]) (panK R) w fun t10 w =>
 C1 w∧(
 n11c13 t1 t6 t10 t11 t13 t15 C1 K2 R w)))
def n11c15 (t1 t10 t14:Value) (C18:World→Prop) (K2:World→Prop) (R:RT) (w:World):Prop :=
 qV Pg C18 (Instr.fieldAt 26 t1 1) fun t16 =>
 opU Pg (Instr.storeAt 22 t16 t10) (panK R) w fun w =>
 turnK w fun C19 w =>
 qV Pg C19 (Instr.fieldAt 26 t1 3) fun t17 =>
 opU Pg (Instr.storeAt 24 t17 t14) (panK R) w fun w =>
 turnK w fun C20 w =>
 K2 w
def n11c16 (t1 t6 t10 t11 t13 t15:Value) (C1:World→Prop) (K2:World→Prop) (R:RT) (w:World):Prop :=
 opV Pg (Builtin.append_ #[24,24] 24 #[t11,t13]) (panK R) w fun t14 w =>
 C1 w∧(
 opU Pg (Instr.storeAt 23 t15 t6) (panK R) w fun w =>
 turnK w fun C18 w =>
 n11c15 t1 t10 t14 C18 K2 R w)
def n11c17 (t1 t6 t7 t9 t11 t13:Value) (C1:World→Prop) (K2:World→Prop) (R:RT) (w:World):Prop :=
 qV Pg C1 (Instr.fieldAt 26 t1 2) fun t15 =>
 opV Pg (Builtin.append_ #[22,22] 22 #[t7,t9]) (panK R) w fun t10 w =>
 C1 w∧(
 n11c16 t1 t6 t10 t11 t13 t15 C1 K2 R w)
def n11c18 (t1 t3 t5 t7 t9 t13:Value) (C1:World→Prop) (K2:World→Prop) (R:RT) (w:World):Prop :=
 (
 opV Pg (Builtin.append_ #[23,23] 23 #[t3,t5]) (panK R) w fun t6 w =>
 C1 w∧(
 n11c14 t1 t6 t7 t9 t13 C1 K2 R w))∧(
 opV Pg (Instr.buildSlice 24 0 #[]) (panK R) w fun t11 w =>
 C1 w∧(
 opV Pg (Builtin.append_ #[23,23] 23 #[t3,t5]) (panK R) w fun t6 w =>
 C1 w∧(
 n11c17 t1 t6 t7 t9 t11 t13 C1 K2 R w)))
def n11c19 (t1 t10 t14:Value) (C21:World→Prop) (K2:World→Prop) (R:RT) (w:World):Prop :=
 qV Pg C21 (Instr.fieldAt 26 t1 1) fun t16 =>
 opU Pg (Instr.storeAt 22 t16 t10) (panK R) w fun w =>
 turnK w fun C22 w =>
 qV Pg C22 (Instr.fieldAt 26 t1 3) fun t17 =>
 opU Pg (Instr.storeAt 24 t17 t14) (panK R) w fun w =>
 turnK w fun C23 w =>
 K2 w
def n11c20 (t1 t6 t10 t11 t13 t15:Value) (C1:World→Prop) (K2:World→Prop) (R:RT) (w:World):Prop :=
 opV Pg (Builtin.append_ #[24,24] 24 #[t11,t13]) (panK R) w fun t14 w =>
 C1 w∧(
 opU Pg (Instr.storeAt 23 t15 t6) (panK R) w fun w =>
 turnK w fun C21 w =>
 n11c19 t1 t10 t14 C21 K2 R w)
def n11c21 (t1 t6 t9 t11 t13:Value) (C1:World→Prop) (K2:World→Prop) (R:RT) (w:World):Prop :=
 qV Pg C1 (Instr.fieldAt 26 t1 2) fun t15 =>
 opV Pg (Instr.buildSlice 22 0 #[]) (panK R) w fun t7 w =>
 C1 w∧(
 opV Pg (Builtin.append_ #[22,22] 22 #[t7,t9]) (panK R) w fun t10 w =>
 C1 w∧(
 n11c20 t1 t6 t10 t11 t13 t15 C1 K2 R w))
def n11c22 (t1 t10 t14:Value) (C24:World→Prop) (K2:World→Prop) (R:RT) (w:World):Prop :=
 qV Pg C24 (Instr.fieldAt 26 t1 1) fun t16 =>
 opU Pg (Instr.storeAt 22 t16 t10) (panK R) w fun w =>
 turnK w fun C25 w =>
 qV Pg C25 (Instr.fieldAt 26 t1 3) fun t17 =>
 opU Pg (Instr.storeAt 24 t17 t14) (panK R) w fun w =>
 turnK w fun C26 w =>
 K2 w
def n11c23 (t1 t6 t10 t11 t13 t15:Value) (C1:World→Prop) (K2:World→Prop) (R:RT) (w:World):Prop :=
 opV Pg (Builtin.append_ #[24,24] 24 #[t11,t13]) (panK R) w fun t14 w =>
 C1 w∧(
 opU Pg (Instr.storeAt 23 t15 t6) (panK R) w fun w =>
 turnK w fun C24 w =>
 n11c22 t1 t10 t14 C24 K2 R w)
def n11c24 (t1 t6 t7 t9 t11 t13:Value) (C1:World→Prop) (K2:World→Prop) (R:RT) (w:World):Prop :=
 qV Pg C1 (Instr.fieldAt 26 t1 2) fun t15 =>
 opV Pg (Builtin.append_ #[22,22] 22 #[t7,t9]) (panK R) w fun t10 w =>
 C1 w∧(
 n11c23 t1 t6 t10 t11 t13 t15 C1 K2 R w)
def n11c25 (t1 t3 t5 t9 t11 t13:Value) (C1:World→Prop) (K2:World→Prop) (R:RT) (w:World):Prop :=
 (
 opV Pg (Builtin.append_ #[23,23] 23 #[t3,t5]) (panK R) w fun t6 w =>
 C1 w∧(
 n11c21 t1 t6 t9 t11 t13 C1 K2 R w))∧(
 opV Pg (Instr.buildSlice 22 0 #[]) (panK R) w fun t7 w =>
 C1 w∧(
 opV Pg (Builtin.append_ #[23,23] 23 #[t3,t5]) (panK R) w fun t6 w =>
 C1 w∧(
 n11c24 t1 t6 t7 t9 t11 t13 C1 K2 R w)))
def n11c26 (t1 t3 t5 t9 t13:Value) (C1:World→Prop) (K2:World→Prop) (R:RT) (w:World):Prop :=
 (
 opV Pg (Builtin.append_ #[23,23] 23 #[t3,t5]) (panK R) w fun t6 w =>
 C1 w∧(
 n11c9 t1 t6 t9 t13 C1 K2 R w))∧(
 opV Pg (Instr.buildSlice 22 0 #[]) (panK R) w fun t7 w =>
 C1 w∧(
 n11c18 t1 t3 t5 t7 t9 t13 C1 K2 R w))∧(
 opV Pg (Instr.buildSlice 24 0 #[]) (panK R) w fun t11 w =>
 C1 w∧(
 n11c25 t1 t3 t5 t9 t11 t13 C1 K2 R w))
def n11c27 (t1 t10 t14:Value) (C27:World→Prop) (K2:World→Prop) (R:RT) (w:World):Prop :=
 qV Pg C27 (Instr.fieldAt 26 t1 1) fun t16 =>
 opU Pg (Instr.storeAt 22 t16 t10) (panK R) w fun w =>
 turnK w fun C28 w =>
 qV Pg C28 (Instr.fieldAt 26 t1 3) fun t17 =>
 opU Pg (Instr.storeAt 24 t17 t14) (panK R) w fun w =>
 turnK w fun C29 w =>
 K2 w
def n11c28 (t1 t6 t10 t11 t13 t15:Value) (C1:World→Prop) (K2:World→Prop) (R:RT) (w:World):Prop :=
 opV Pg (Builtin.append_ #[24,24] 24 #[t11,t13]) (panK R) w fun t14 w =>
 C1 w∧(
 opU Pg (Instr.storeAt 23 t15 t6) (panK R) w fun w =>
 turnK w fun C27 w =>
 n11c27 t1 t10 t14 C27 K2 R w)
def n11c29 (t1 t10 t14:Value) (C30:World→Prop) (K2:World→Prop) (R:RT) (w:World):Prop :=
 qV Pg C30 (Instr.fieldAt 26 t1 1) fun t16 =>
 opU Pg (Instr.storeAt 22 t16 t10) (panK R) w fun w =>
 turnK w fun C31 w =>
 qV Pg C31 (Instr.fieldAt 26 t1 3) fun t17 =>
 opU Pg (Instr.storeAt 24 t17 t14) (panK R) w fun w =>
 turnK w fun C32 w =>
 K2 w
def n11c30 (t1 t6 t10 t11 t13 t15:Value) (C1:World→Prop) (K2:World→Prop) (R:RT) (w:World):Prop :=
 opV Pg (Builtin.append_ #[24,24] 24 #[t11,t13]) (panK R) w fun t14 w =>
 C1 w∧(
 opU Pg (Instr.storeAt 23 t15 t6) (panK R) w fun w =>
 turnK w fun C30 w =>
 n11c29 t1 t10 t14 C30 K2 R w)
def n11c31 (t1 t6 t7 t9 t13:Value) (C1:World→Prop) (K2:World→Prop) (R:RT) (w:World):Prop :=
 qV Pg C1 (Instr.fieldAt 26 t1 2) fun t15 =>
 (
 opV Pg (Builtin.append_ #[22,22] 22 #[t7,t9]) (panK R) w fun t10 w =>
 C1 w∧(
 opV Pg (Instr.buildSlice 24 0 #[]) (panK R) w fun t11 w =>
 C1 w∧(
 n11c28 t1 t6 t10 t11 t13 t15 C1 K2 R w)))∧(
 opV Pg (Instr.buildSlice 24 0 #[]) (panK R) w fun t11 w =>
 C1 w∧(
 opV Pg (Builtin.append_ #[22,22] 22 #[t7,t9]) (panK R) w fun t10 w =>
 C1 w∧(
 n11c30 t1 t6 t10 t11 t13 t15 C1 K2 R w)))
def n11c32 (t1 t10 t14:Value) (C33:World→Prop) (K2:World→Prop) (R:RT) (w:World):Prop :=
 qV Pg C33 (Instr.fieldAt 26 t1 1) fun t16 =>
 opU Pg (Instr.storeAt 22 t16 t10) (panK R) w fun w =>
 turnK w fun C34 w =>
 qV Pg C34 (Instr.fieldAt 26 t1 3) fun t17 =>
 opU Pg (Instr.storeAt 24 t17 t14) (panK R) w fun w =>
 turnK w fun C35 w =>
 K2 w
def n11c33 (t1 t6 t10 t11 t13 t15:Value) (C1:World→Prop) (K2:World→Prop) (R:RT) (w:World):Prop :=
 opV Pg (Builtin.append_ #[24,24] 24 #[t11,t13]) (panK R) w fun t14 w =>
 C1 w∧(
 opU Pg (Instr.storeAt 23 t15 t6) (panK R) w fun w =>
 turnK w fun C33 w =>
 n11c32 t1 t10 t14 C33 K2 R w)
def n11c34 (t1 t6 t7 t9 t11 t13:Value) (C1:World→Prop) (K2:World→Prop) (R:RT) (w:World):Prop :=
 qV Pg C1 (Instr.fieldAt 26 t1 2) fun t15 =>
 opV Pg (Builtin.append_ #[22,22] 22 #[t7,t9]) (panK R) w fun t10 w =>
 C1 w∧(
 n11c33 t1 t6 t10 t11 t13 t15 C1 K2 R w)
def n11c35 (t1 t3 t5 t7 t9 t13:Value) (C1:World→Prop) (K2:World→Prop) (R:RT) (w:World):Prop :=
 (
 opV Pg (Builtin.append_ #[23,23] 23 #[t3,t5]) (panK R) w fun t6 w =>
 C1 w∧(
 n11c31 t1 t6 t7 t9 t13 C1 K2 R w))∧(
 opV Pg (Instr.buildSlice 24 0 #[]) (panK R) w fun t11 w =>
 C1 w∧(
 opV Pg (Builtin.append_ #[23,23] 23 #[t3,t5]) (panK R) w fun t6 w =>
 C1 w∧(
 n11c34 t1 t6 t7 t9 t11 t13 C1 K2 R w)))
def n11c36 (t1 t10 t14:Value) (C36:World→Prop) (K2:World→Prop) (R:RT) (w:World):Prop :=
 qV Pg C36 (Instr.fieldAt 26 t1 1) fun t16 =>
 opU Pg (Instr.storeAt 22 t16 t10) (panK R) w fun w =>
 turnK w fun C37 w =>
 qV Pg C37 (Instr.fieldAt 26 t1 3) fun t17 =>
 opU Pg (Instr.storeAt 24 t17 t14) (panK R) w fun w =>
 turnK w fun C38 w =>
 K2 w
def n11c37 (t1 t6 t10 t11 t13 t15:Value) (C1:World→Prop) (K2:World→Prop) (R:RT) (w:World):Prop :=
 opV Pg (Builtin.append_ #[24,24] 24 #[t11,t13]) (panK R) w fun t14 w =>
 C1 w∧(
 opU Pg (Instr.storeAt 23 t15 t6) (panK R) w fun w =>
 turnK w fun C36 w =>
 n11c36 t1 t10 t14 C36 K2 R w)
def n11c38 (t1 t6 t7 t9 t11 t13:Value) (C1:World→Prop) (K2:World→Prop) (R:RT) (w:World):Prop :=
 qV Pg C1 (Instr.fieldAt 26 t1 2) fun t15 =>
 opV Pg (Builtin.append_ #[22,22] 22 #[t7,t9]) (panK R) w fun t10 w =>
 C1 w∧(
 n11c37 t1 t6 t10 t11 t13 t15 C1 K2 R w)
def n11c39 (t1 t5 t7 t9 t11 t13:Value) (C1:World→Prop) (K2:World→Prop) (R:RT) (w:World):Prop :=
 opV Pg (Instr.buildSlice 23 0 #[]) (panK R) w fun t3 w =>
 C1 w∧(
 opV Pg (Builtin.append_ #[23,23] 23 #[t3,t5]) (panK R) w fun t6 w =>
 C1 w∧(
 n11c38 t1 t6 t7 t9 t11 t13 C1 K2 R w))
def n11c40 (t1 t5 t7 t9 t13:Value) (C1:World→Prop) (K2:World→Prop) (R:RT) (w:World):Prop :=
 (
 opV Pg (Instr.buildSlice 23 0 #[]) (panK R) w fun t3 w =>
 C1 w∧(
 n11c35 t1 t3 t5 t7 t9 t13 C1 K2 R w))∧(
 opV Pg (Instr.buildSlice 24 0 #[]) (panK R) w fun t11 w =>
 C1 w∧(
 n11c39 t1 t5 t7 t9 t11 t13 C1 K2 R w))
def n11c41 (t1 t10 t14:Value) (C39:World→Prop) (K2:World→Prop) (R:RT) (w:World):Prop :=
 qV Pg C39 (Instr.fieldAt 26 t1 1) fun t16 =>
 opU Pg (Instr.storeAt 22 t16 t10) (panK R) w fun w =>
 turnK w fun C40 w =>
 qV Pg C40 (Instr.fieldAt 26 t1 3) fun t17 =>
 opU Pg (Instr.storeAt 24 t17 t14) (panK R) w fun w =>
 turnK w fun C41 w =>
 K2 w
def n11c42 (t1 t6 t10 t11 t13 t15:Value) (C1:World→Prop) (K2:World→Prop) (R:RT) (w:World):Prop :=
 opV Pg (Builtin.append_ #[24,24] 24 #[t11,t13]) (panK R) w fun t14 w =>
 C1 w∧(
 opU Pg (Instr.storeAt 23 t15 t6) (panK R) w fun w =>
 turnK w fun C39 w =>
 n11c41 t1 t10 t14 C39 K2 R w)
def n11c43 (t1 t6 t9 t11 t13:Value) (C1:World→Prop) (K2:World→Prop) (R:RT) (w:World):Prop :=
 qV Pg C1 (Instr.fieldAt 26 t1 2) fun t15 =>
 opV Pg (Instr.buildSlice 22 0 #[]) (panK R) w fun t7 w =>
 C1 w∧(
 opV Pg (Builtin.append_ #[22,22] 22 #[t7,t9]) (panK R) w fun t10 w =>
 C1 w∧(
 n11c42 t1 t6 t10 t11 t13 t15 C1 K2 R w))
def n11c44 (t1 t10 t14:Value) (C42:World→Prop) (K2:World→Prop) (R:RT) (w:World):Prop :=
 qV Pg C42 (Instr.fieldAt 26 t1 1) fun t16 =>
 opU Pg (Instr.storeAt 22 t16 t10) (panK R) w fun w =>
 turnK w fun C43 w =>
 qV Pg C43 (Instr.fieldAt 26 t1 3) fun t17 =>
 opU Pg (Instr.storeAt 24 t17 t14) (panK R) w fun w =>
 turnK w fun C44 w =>
 K2 w
def n11c45 (t1 t6 t10 t11 t13 t15:Value) (C1:World→Prop) (K2:World→Prop) (R:RT) (w:World):Prop :=
 opV Pg (Builtin.append_ #[24,24] 24 #[t11,t13]) (panK R) w fun t14 w =>
 C1 w∧(
 opU Pg (Instr.storeAt 23 t15 t6) (panK R) w fun w =>
 turnK w fun C42 w =>
 n11c44 t1 t10 t14 C42 K2 R w)
def n11c46 (t1 t6 t7 t9 t11 t13:Value) (C1:World→Prop) (K2:World→Prop) (R:RT) (w:World):Prop :=
 qV Pg C1 (Instr.fieldAt 26 t1 2) fun t15 =>
 opV Pg (Builtin.append_ #[22,22] 22 #[t7,t9]) (panK R) w fun t10 w =>
 C1 w∧(
 n11c45 t1 t6 t10 t11 t13 t15 C1 K2 R w)
def n11c47 (t1 t3 t5 t9 t11 t13:Value) (C1:World→Prop) (K2:World→Prop) (R:RT) (w:World):Prop :=
 (
 opV Pg (Builtin.append_ #[23,23] 23 #[t3,t5]) (panK R) w fun t6 w =>
 C1 w∧(
 n11c43 t1 t6 t9 t11 t13 C1 K2 R w))∧(
 opV Pg (Instr.buildSlice 22 0 #[]) (panK R) w fun t7 w =>
 C1 w∧(
 opV Pg (Builtin.append_ #[23,23] 23 #[t3,t5]) (panK R) w fun t6 w =>
 C1 w∧(
 n11c46 t1 t6 t7 t9 t11 t13 C1 K2 R w)))
def n11c48 (t1 t10 t14:Value) (C45:World→Prop) (K2:World→Prop) (R:RT) (w:World):Prop :=
 qV Pg C45 (Instr.fieldAt 26 t1 1) fun t16 =>
 opU Pg (Instr.storeAt 22 t16 t10) (panK R) w fun w =>
 turnK w fun C46 w =>
 qV Pg C46 (Instr.fieldAt 26 t1 3) fun t17 =>
 opU Pg (Instr.storeAt 24 t17 t14) (panK R) w fun w =>
 turnK w fun C47 w =>
 K2 w
def n11c49 (t1 t6 t10 t11 t13 t15:Value) (C1:World→Prop) (K2:World→Prop) (R:RT) (w:World):Prop :=
 opV Pg (Builtin.append_ #[24,24] 24 #[t11,t13]) (panK R) w fun t14 w =>
 C1 w∧(
 opU Pg (Instr.storeAt 23 t15 t6) (panK R) w fun w =>
 turnK w fun C45 w =>
 n11c48 t1 t10 t14 C45 K2 R w)
def n11c50 (t1 t6 t7 t9 t11 t13:Value) (C1:World→Prop) (K2:World→Prop) (R:RT) (w:World):Prop :=
 qV Pg C1 (Instr.fieldAt 26 t1 2) fun t15 =>
 opV Pg (Builtin.append_ #[22,22] 22 #[t7,t9]) (panK R) w fun t10 w =>
 C1 w∧(
 n11c49 t1 t6 t10 t11 t13 t15 C1 K2 R w)
def n11c51 (t1 t5 t7 t9 t11 t13:Value) (C1:World→Prop) (K2:World→Prop) (R:RT) (w:World):Prop :=
 opV Pg (Instr.buildSlice 23 0 #[]) (panK R) w fun t3 w =>
 C1 w∧(
 opV Pg (Builtin.append_ #[23,23] 23 #[t3,t5]) (panK R) w fun t6 w =>
 C1 w∧(
 n11c50 t1 t6 t7 t9 t11 t13 C1 K2 R w))
def n11c52 (t1 t5 t9 t11 t13:Value) (C1:World→Prop) (K2:World→Prop) (R:RT) (w:World):Prop :=
 (
 opV Pg (Instr.buildSlice 23 0 #[]) (panK R) w fun t3 w =>
 C1 w∧(
 n11c47 t1 t3 t5 t9 t11 t13 C1 K2 R w))∧(
 opV Pg (Instr.buildSlice 22 0 #[]) (panK R) w fun t7 w =>
 C1 w∧(
 n11c51 t1 t5 t7 t9 t11 t13 C1 K2 R w))
def n11c53 (t1 t2:Value) (C1:World→Prop) (R:RT) (w:World):Prop :=
 qV Pg C1 (Instr.fieldAt 26 t1 2) fun t4 =>
 qV Pg C1 (Instr.loadAt 23 t4) fun t5 =>
 qV Pg C1 (Instr.fieldAt 26 t1 1) fun t8 =>
 qV Pg C1 (Instr.loadAt 22 t8) fun t9 =>
 qV Pg C1 (Instr.fieldAt 26 t1 3) fun t12 =>
 qV Pg C1 (Instr.loadAt 24 t12) fun t13 =>
 joinK (fun (w:World) =>
 opV Pg (Instr.loadAt 26 t1) (panK R) w fun t18 w =>
 opU Pg (Instr.storeAt 26 t2 t18) (panK R) w fun w =>
 qW Pg 26 t2 w fun r0 =>
 R (.returned r0) w) fun K2 =>
 (
 opV Pg (Instr.buildSlice 23 0 #[]) (panK R) w fun t3 w =>
 C1 w∧(
 n11c26 t1 t3 t5 t9 t13 C1 K2 R w))∧(
 opV Pg (Instr.buildSlice 22 0 #[]) (panK R) w fun t7 w =>
 C1 w∧(
 n11c40 t1 t5 t7 t9 t13 C1 K2 R w))∧(
 opV Pg (Instr.buildSlice 24 0 #[]) (panK R) w fun t11 w =>
 C1 w∧(
 n11c52 t1 t5 t9 t11 t13 C1 K2 R w))
def n11 (t0:Value) (R:RT) (w:World):Prop :=
 opV Pg (Instr.box 26 t0) (panK R) w fun t1 w =>
 opV Pg (Instr.alloc 26 true (.tuple #[])) (panK R) w fun t2 w =>
 drawK w fun C1 w =>
 n11c53 t1 t2 C1 R w
set_option maxHeartbeats 40000000 in
theorem n11s {t0:Value} {R:RT} {w:World} (h:n11 t0 R w):Calls Pg 22 #[t0] w R:=by
 refine yD Tryz.func22 ?_
 refine zs<|zr<|yv h fun _ w h=>yv h fun _ w h=>zn<|zk<|zs<|yh [3,4,5,6,7,8,9,10,11,12,13,14,15,16,17] h fun C hC h=>ye 1 hC h fun _ h=>?_
 refine ye 2 hC h fun _ h=>?_
 refine ye 5 hC h fun _ h=>?_
 refine ye 6 hC h fun _ h=>?_
 refine ye 9 hC h fun _ h=>?_
 refine ye 10 hC h fun _ h=>?_
 refine joinK_elim h (fun K2 hK h=>?_)
 refine sim_dmeet [3,6,7,10,11,14,15,16,17] (fun ρ w=>K2 w) (fun T hT=>?_) (fun σ w h=>?_)
 · obtain ⟨h0,h1,h2⟩:=h
   refine sim_dloud3 0 4 8 rfl rfl rfl (by kernel_rfl) (fun _ _=>rfl) (fun _ _=>rfl) (fun _ _=>rfl) ?_ ?_ ?_
   · have h:=h0
     refine yS h fun _ w h=>zn ?_
     obtain ⟨hC,h⟩:=h
     refine ⟨_,fun _ h=>h,hC,?_⟩
     obtain ⟨h0,h1,h2⟩:=h
     refine sim_dloud3 3 4 8 rfl rfl rfl (by kernel_rfl) (fun _ _=>rfl) (fun _ _=>rfl) (fun _ _=>rfl) ?_ ?_ ?_
     · have h:=h0
       refine yx h fun _ w h=>zn ?_
       obtain ⟨hC,h⟩:=h
       refine ⟨_,fun _ h=>h,hC,?_⟩
       refine ye 12 hC h fun _ h=>?_
       obtain ⟨h0,h1⟩:=h
       refine sim_dloud2 4 8 rfl rfl (by kernel_rfl) (fun _ _=>rfl) (fun _ _=>rfl) ?_ ?_
       · have h:=h0
         refine yS h fun _ w h=>zn ?_
         obtain ⟨hC,h⟩:=h
         refine ⟨_,fun _ h=>h,hC,?_⟩
         obtain ⟨h0,h1⟩:=h
         refine sim_dloud2 7 8 rfl rfl (by kernel_rfl) (fun _ _=>rfl) (fun _ _=>rfl) ?_ ?_
         · have h:=h0
           refine yx h fun _ w h=>zn ?_
           obtain ⟨hC,h⟩:=h
           refine ⟨_,fun _ h=>h,hC,?_⟩
           refine yo 8 ?_
           refine yS h fun _ w h=>zn ?_
           obtain ⟨hC,h⟩:=h
           refine ⟨hC,?_⟩
           refine yo 11 ?_
           refine yx h fun _ w h=>zn ?_
           obtain ⟨hC,h⟩:=h
           refine ⟨hC,?_⟩
           refine yq 13 3 ?_
           refine yu h fun w h=>zn ?_
           obtain ⟨C3,hC,h⟩:=h
           refine ⟨C3,hC,?_⟩
           refine ye 14 hC h fun _ h=>?_
           refine yq 15 3 ?_
           refine yu h fun w h=>zn ?_
           obtain ⟨C4,hC,h⟩:=h
           refine ⟨C4,hC,?_⟩
           refine ye 16 hC h fun _ h=>?_
           refine yq 17 1 ?_
           refine yu h fun w h=>zn ?_
           obtain ⟨C5,hC,h⟩:=h
           refine ⟨C5,hC,?_⟩
           refine yz ?_
           exact zt hT h
         have h:=h1
         refine yS h fun _ w h=>zn ?_
         obtain ⟨hC,h⟩:=h
         refine ⟨_,fun _ h=>h,hC,?_⟩
         refine yo 7 ?_
         refine yx h fun _ w h=>zn ?_
         obtain ⟨hC,h⟩:=h
         refine ⟨hC,?_⟩
         refine yo 11 ?_
         refine yx h fun _ w h=>zn ?_
         obtain ⟨hC,h⟩:=h
         refine ⟨hC,?_⟩
         refine yq 13 3 ?_
         refine yu h fun w h=>zn ?_
         obtain ⟨C6,hC,h⟩:=h
         refine ⟨C6,hC,?_⟩
         refine ye 14 hC h fun _ h=>?_
         refine yq 15 3 ?_
         refine yu h fun w h=>zn ?_
         obtain ⟨C7,hC,h⟩:=h
         refine ⟨C7,hC,?_⟩
         refine ye 16 hC h fun _ h=>?_
         refine yq 17 1 ?_
         refine yu h fun w h=>zn ?_
         obtain ⟨C8,hC,h⟩:=h
         refine ⟨C8,hC,?_⟩
         refine yz ?_
         exact zt hT h
       have h:=h1
       refine yS h fun _ w h=>zn ?_
       obtain ⟨hC,h⟩:=h
       refine ⟨_,fun _ h=>h,hC,?_⟩
       refine yo 4 ?_
       refine yS h fun _ w h=>zn ?_
       obtain ⟨hC,h⟩:=h
       refine ⟨hC,?_⟩
       refine yo 7 ?_
       refine yx h fun _ w h=>zn ?_
       obtain ⟨hC,h⟩:=h
       refine ⟨hC,?_⟩
       refine yo 11 ?_
       refine yx h fun _ w h=>zn ?_
       obtain ⟨hC,h⟩:=h
       refine ⟨hC,?_⟩
       refine yq 13 3 ?_
       refine yu h fun w h=>zn ?_
       obtain ⟨C9,hC,h⟩:=h
       refine ⟨C9,hC,?_⟩
       refine ye 14 hC h fun _ h=>?_
       refine yq 15 3 ?_
       refine yu h fun w h=>zn ?_
       obtain ⟨C10,hC,h⟩:=h
       refine ⟨C10,hC,?_⟩
       refine ye 16 hC h fun _ h=>?_
       refine yq 17 1 ?_
       refine yu h fun w h=>zn ?_
       obtain ⟨C11,hC,h⟩:=h
       refine ⟨C11,hC,?_⟩
       refine yz ?_
       exact zt hT h
     · have h:=h1
       refine yS h fun _ w h=>zn ?_
       obtain ⟨hC,h⟩:=h
       refine ⟨_,fun _ h=>h,hC,?_⟩
       obtain ⟨h0,h1⟩:=h
       refine sim_dloud2 3 8 rfl rfl (by kernel_rfl) (fun _ _=>rfl) (fun _ _=>rfl) ?_ ?_
       · have h:=h0
         refine yx h fun _ w h=>zn ?_
         obtain ⟨hC,h⟩:=h
         refine ⟨_,fun _ h=>h,hC,?_⟩
         refine ye 12 hC h fun _ h=>?_
         obtain ⟨h0,h1⟩:=h
         refine sim_dloud2 7 8 rfl rfl (by kernel_rfl) (fun _ _=>rfl) (fun _ _=>rfl) ?_ ?_
         · have h:=h0
           refine yx h fun _ w h=>zn ?_
           obtain ⟨hC,h⟩:=h
           refine ⟨_,fun _ h=>h,hC,?_⟩
           refine yo 8 ?_
           refine yS h fun _ w h=>zn ?_
           obtain ⟨hC,h⟩:=h
           refine ⟨hC,?_⟩
           refine yo 11 ?_
           refine yx h fun _ w h=>zn ?_
           obtain ⟨hC,h⟩:=h
           refine ⟨hC,?_⟩
           refine yq 13 3 ?_
           refine yu h fun w h=>zn ?_
           obtain ⟨C12,hC,h⟩:=h
           refine ⟨C12,hC,?_⟩
           refine ye 14 hC h fun _ h=>?_
           refine yq 15 3 ?_
           refine yu h fun w h=>zn ?_
           obtain ⟨C13,hC,h⟩:=h
           refine ⟨C13,hC,?_⟩
           refine ye 16 hC h fun _ h=>?_
           refine yq 17 1 ?_
           refine yu h fun w h=>zn ?_
           obtain ⟨C14,hC,h⟩:=h
           refine ⟨C14,hC,?_⟩
           refine yz ?_
           exact zt hT h
         have h:=h1
         refine yS h fun _ w h=>zn ?_
         obtain ⟨hC,h⟩:=h
         refine ⟨_,fun _ h=>h,hC,?_⟩
         refine yo 7 ?_
         refine yx h fun _ w h=>zn ?_
         obtain ⟨hC,h⟩:=h
         refine ⟨hC,?_⟩
         refine yo 11 ?_
         refine yx h fun _ w h=>zn ?_
         obtain ⟨hC,h⟩:=h
         refine ⟨hC,?_⟩
         refine yq 13 3 ?_
         refine yu h fun w h=>zn ?_
         obtain ⟨C15,hC,h⟩:=h
         refine ⟨C15,hC,?_⟩
         refine ye 14 hC h fun _ h=>?_
         refine yq 15 3 ?_
         refine yu h fun w h=>zn ?_
         obtain ⟨C16,hC,h⟩:=h
         refine ⟨C16,hC,?_⟩
         refine ye 16 hC h fun _ h=>?_
         refine yq 17 1 ?_
         refine yu h fun w h=>zn ?_
         obtain ⟨C17,hC,h⟩:=h
         refine ⟨C17,hC,?_⟩
         refine yz ?_
         exact zt hT h
       have h:=h1
       refine yS h fun _ w h=>zn ?_
       obtain ⟨hC,h⟩:=h
       refine ⟨_,fun _ h=>h,hC,?_⟩
       refine yo 3 ?_
       refine yx h fun _ w h=>zn ?_
       obtain ⟨hC,h⟩:=h
       refine ⟨hC,?_⟩
       refine ye 12 hC h fun _ h=>?_
       refine yo 7 ?_
       refine yx h fun _ w h=>zn ?_
       obtain ⟨hC,h⟩:=h
       refine ⟨hC,?_⟩
       refine yo 11 ?_
       refine yx h fun _ w h=>zn ?_
       obtain ⟨hC,h⟩:=h
       refine ⟨hC,?_⟩
       refine yq 13 3 ?_
       refine yu h fun w h=>zn ?_
       obtain ⟨C18,hC,h⟩:=h
       refine ⟨C18,hC,?_⟩
       refine ye 14 hC h fun _ h=>?_
       refine yq 15 3 ?_
       refine yu h fun w h=>zn ?_
       obtain ⟨C19,hC,h⟩:=h
       refine ⟨C19,hC,?_⟩
       refine ye 16 hC h fun _ h=>?_
       refine yq 17 1 ?_
       refine yu h fun w h=>zn ?_
       obtain ⟨C20,hC,h⟩:=h
       refine ⟨C20,hC,?_⟩
       refine yz ?_
       exact zt hT h
     have h:=h2
     refine yS h fun _ w h=>zn ?_
     obtain ⟨hC,h⟩:=h
     refine ⟨_,fun _ h=>h,hC,?_⟩
     obtain ⟨h0,h1⟩:=h
     refine sim_dloud2 3 4 rfl rfl (by kernel_rfl) (fun _ _=>rfl) (fun _ _=>rfl) ?_ ?_
     · have h:=h0
       refine yx h fun _ w h=>zn ?_
       obtain ⟨hC,h⟩:=h
       refine ⟨_,fun _ h=>h,hC,?_⟩
       refine ye 12 hC h fun _ h=>?_
       refine yo 4 ?_
       refine yS h fun _ w h=>zn ?_
       obtain ⟨hC,h⟩:=h
       refine ⟨hC,?_⟩
       refine yo 7 ?_
       refine yx h fun _ w h=>zn ?_
       obtain ⟨hC,h⟩:=h
       refine ⟨hC,?_⟩
       refine yo 11 ?_
       refine yx h fun _ w h=>zn ?_
       obtain ⟨hC,h⟩:=h
       refine ⟨hC,?_⟩
       refine yq 13 3 ?_
       refine yu h fun w h=>zn ?_
       obtain ⟨C21,hC,h⟩:=h
       refine ⟨C21,hC,?_⟩
       refine ye 14 hC h fun _ h=>?_
       refine yq 15 3 ?_
       refine yu h fun w h=>zn ?_
       obtain ⟨C22,hC,h⟩:=h
       refine ⟨C22,hC,?_⟩
       refine ye 16 hC h fun _ h=>?_
       refine yq 17 1 ?_
       refine yu h fun w h=>zn ?_
       obtain ⟨C23,hC,h⟩:=h
       refine ⟨C23,hC,?_⟩
       refine yz ?_
       exact zt hT h
     have h:=h1
     refine yS h fun _ w h=>zn ?_
     obtain ⟨hC,h⟩:=h
     refine ⟨_,fun _ h=>h,hC,?_⟩
     refine yo 3 ?_
     refine yx h fun _ w h=>zn ?_
     obtain ⟨hC,h⟩:=h
     refine ⟨hC,?_⟩
     refine ye 12 hC h fun _ h=>?_
     refine yo 7 ?_
     refine yx h fun _ w h=>zn ?_
     obtain ⟨hC,h⟩:=h
     refine ⟨hC,?_⟩
     refine yo 11 ?_
     refine yx h fun _ w h=>zn ?_
     obtain ⟨hC,h⟩:=h
     refine ⟨hC,?_⟩
     refine yq 13 3 ?_
     refine yu h fun w h=>zn ?_
     obtain ⟨C24,hC,h⟩:=h
     refine ⟨C24,hC,?_⟩
     refine ye 14 hC h fun _ h=>?_
     refine yq 15 3 ?_
     refine yu h fun w h=>zn ?_
     obtain ⟨C25,hC,h⟩:=h
     refine ⟨C25,hC,?_⟩
     refine ye 16 hC h fun _ h=>?_
     refine yq 17 1 ?_
     refine yu h fun w h=>zn ?_
     obtain ⟨C26,hC,h⟩:=h
     refine ⟨C26,hC,?_⟩
     refine yz ?_
     exact zt hT h
   · have h:=h1
     refine yS h fun _ w h=>zn ?_
     obtain ⟨hC,h⟩:=h
     refine ⟨_,fun _ h=>h,hC,?_⟩
     obtain ⟨h0,h1⟩:=h
     refine sim_dloud2 0 8 rfl rfl (by kernel_rfl) (fun _ _=>rfl) (fun _ _=>rfl) ?_ ?_
     · have h:=h0
       refine yS h fun _ w h=>zn ?_
       obtain ⟨hC,h⟩:=h
       refine ⟨_,fun _ h=>h,hC,?_⟩
       obtain ⟨h0,h1⟩:=h
       refine sim_dloud2 3 8 rfl rfl (by kernel_rfl) (fun _ _=>rfl) (fun _ _=>rfl) ?_ ?_
       · have h:=h0
         refine yx h fun _ w h=>zn ?_
         obtain ⟨hC,h⟩:=h
         refine ⟨_,fun _ h=>h,hC,?_⟩
         refine ye 12 hC h fun _ h=>?_
         obtain ⟨h0,h1⟩:=h
         refine sim_dloud2 7 8 rfl rfl (by kernel_rfl) (fun _ _=>rfl) (fun _ _=>rfl) ?_ ?_
         · have h:=h0
           refine yx h fun _ w h=>zn ?_
           obtain ⟨hC,h⟩:=h
           refine ⟨_,fun _ h=>h,hC,?_⟩
           refine yo 8 ?_
           refine yS h fun _ w h=>zn ?_
           obtain ⟨hC,h⟩:=h
           refine ⟨hC,?_⟩
           refine yo 11 ?_
           refine yx h fun _ w h=>zn ?_
           obtain ⟨hC,h⟩:=h
           refine ⟨hC,?_⟩
           refine yq 13 3 ?_
           refine yu h fun w h=>zn ?_
           obtain ⟨C27,hC,h⟩:=h
           refine ⟨C27,hC,?_⟩
           refine ye 14 hC h fun _ h=>?_
           refine yq 15 3 ?_
           refine yu h fun w h=>zn ?_
           obtain ⟨C28,hC,h⟩:=h
           refine ⟨C28,hC,?_⟩
           refine ye 16 hC h fun _ h=>?_
           refine yq 17 1 ?_
           refine yu h fun w h=>zn ?_
           obtain ⟨C29,hC,h⟩:=h
           refine ⟨C29,hC,?_⟩
           refine yz ?_
           exact zt hT h
         have h:=h1
         refine yS h fun _ w h=>zn ?_
         obtain ⟨hC,h⟩:=h
         refine ⟨_,fun _ h=>h,hC,?_⟩
         refine yo 7 ?_
         refine yx h fun _ w h=>zn ?_
         obtain ⟨hC,h⟩:=h
         refine ⟨hC,?_⟩
         refine yo 11 ?_
         refine yx h fun _ w h=>zn ?_
         obtain ⟨hC,h⟩:=h
         refine ⟨hC,?_⟩
         refine yq 13 3 ?_
         refine yu h fun w h=>zn ?_
         obtain ⟨C30,hC,h⟩:=h
         refine ⟨C30,hC,?_⟩
         refine ye 14 hC h fun _ h=>?_
         refine yq 15 3 ?_
         refine yu h fun w h=>zn ?_
         obtain ⟨C31,hC,h⟩:=h
         refine ⟨C31,hC,?_⟩
         refine ye 16 hC h fun _ h=>?_
         refine yq 17 1 ?_
         refine yu h fun w h=>zn ?_
         obtain ⟨C32,hC,h⟩:=h
         refine ⟨C32,hC,?_⟩
         refine yz ?_
         exact zt hT h
       have h:=h1
       refine yS h fun _ w h=>zn ?_
       obtain ⟨hC,h⟩:=h
       refine ⟨_,fun _ h=>h,hC,?_⟩
       refine yo 3 ?_
       refine yx h fun _ w h=>zn ?_
       obtain ⟨hC,h⟩:=h
       refine ⟨hC,?_⟩
       refine ye 12 hC h fun _ h=>?_
       refine yo 7 ?_
       refine yx h fun _ w h=>zn ?_
       obtain ⟨hC,h⟩:=h
       refine ⟨hC,?_⟩
       refine yo 11 ?_
       refine yx h fun _ w h=>zn ?_
       obtain ⟨hC,h⟩:=h
       refine ⟨hC,?_⟩
       refine yq 13 3 ?_
       refine yu h fun w h=>zn ?_
       obtain ⟨C33,hC,h⟩:=h
       refine ⟨C33,hC,?_⟩
       refine ye 14 hC h fun _ h=>?_
       refine yq 15 3 ?_
       refine yu h fun w h=>zn ?_
       obtain ⟨C34,hC,h⟩:=h
       refine ⟨C34,hC,?_⟩
       refine ye 16 hC h fun _ h=>?_
       refine yq 17 1 ?_
       refine yu h fun w h=>zn ?_
       obtain ⟨C35,hC,h⟩:=h
       refine ⟨C35,hC,?_⟩
       refine yz ?_
       exact zt hT h
     have h:=h1
     refine yS h fun _ w h=>zn ?_
     obtain ⟨hC,h⟩:=h
     refine ⟨_,fun _ h=>h,hC,?_⟩
     refine yo 0 ?_
     refine yS h fun _ w h=>zn ?_
     obtain ⟨hC,h⟩:=h
     refine ⟨hC,?_⟩
     refine yo 3 ?_
     refine yx h fun _ w h=>zn ?_
     obtain ⟨hC,h⟩:=h
     refine ⟨hC,?_⟩
     refine ye 12 hC h fun _ h=>?_
     refine yo 7 ?_
     refine yx h fun _ w h=>zn ?_
     obtain ⟨hC,h⟩:=h
     refine ⟨hC,?_⟩
     refine yo 11 ?_
     refine yx h fun _ w h=>zn ?_
     obtain ⟨hC,h⟩:=h
     refine ⟨hC,?_⟩
     refine yq 13 3 ?_
     refine yu h fun w h=>zn ?_
     obtain ⟨C36,hC,h⟩:=h
     refine ⟨C36,hC,?_⟩
     refine ye 14 hC h fun _ h=>?_
     refine yq 15 3 ?_
     refine yu h fun w h=>zn ?_
     obtain ⟨C37,hC,h⟩:=h
     refine ⟨C37,hC,?_⟩
     refine ye 16 hC h fun _ h=>?_
     refine yq 17 1 ?_
     refine yu h fun w h=>zn ?_
     obtain ⟨C38,hC,h⟩:=h
     refine ⟨C38,hC,?_⟩
     refine yz ?_
     exact zt hT h
   have h:=h2
   refine yS h fun _ w h=>zn ?_
   obtain ⟨hC,h⟩:=h
   refine ⟨_,fun _ h=>h,hC,?_⟩
   obtain ⟨h0,h1⟩:=h
   refine sim_dloud2 0 4 rfl rfl (by kernel_rfl) (fun _ _=>rfl) (fun _ _=>rfl) ?_ ?_
   · have h:=h0
     refine yS h fun _ w h=>zn ?_
     obtain ⟨hC,h⟩:=h
     refine ⟨_,fun _ h=>h,hC,?_⟩
     obtain ⟨h0,h1⟩:=h
     refine sim_dloud2 3 4 rfl rfl (by kernel_rfl) (fun _ _=>rfl) (fun _ _=>rfl) ?_ ?_
     · have h:=h0
       refine yx h fun _ w h=>zn ?_
       obtain ⟨hC,h⟩:=h
       refine ⟨_,fun _ h=>h,hC,?_⟩
       refine ye 12 hC h fun _ h=>?_
       refine yo 4 ?_
       refine yS h fun _ w h=>zn ?_
       obtain ⟨hC,h⟩:=h
       refine ⟨hC,?_⟩
       refine yo 7 ?_
       refine yx h fun _ w h=>zn ?_
       obtain ⟨hC,h⟩:=h
       refine ⟨hC,?_⟩
       refine yo 11 ?_
       refine yx h fun _ w h=>zn ?_
       obtain ⟨hC,h⟩:=h
       refine ⟨hC,?_⟩
       refine yq 13 3 ?_
       refine yu h fun w h=>zn ?_
       obtain ⟨C39,hC,h⟩:=h
       refine ⟨C39,hC,?_⟩
       refine ye 14 hC h fun _ h=>?_
       refine yq 15 3 ?_
       refine yu h fun w h=>zn ?_
       obtain ⟨C40,hC,h⟩:=h
       refine ⟨C40,hC,?_⟩
       refine ye 16 hC h fun _ h=>?_
       refine yq 17 1 ?_
       refine yu h fun w h=>zn ?_
       obtain ⟨C41,hC,h⟩:=h
       refine ⟨C41,hC,?_⟩
       refine yz ?_
       exact zt hT h
     have h:=h1
     refine yS h fun _ w h=>zn ?_
     obtain ⟨hC,h⟩:=h
     refine ⟨_,fun _ h=>h,hC,?_⟩
     refine yo 3 ?_
     refine yx h fun _ w h=>zn ?_
     obtain ⟨hC,h⟩:=h
     refine ⟨hC,?_⟩
     refine ye 12 hC h fun _ h=>?_
     refine yo 7 ?_
     refine yx h fun _ w h=>zn ?_
     obtain ⟨hC,h⟩:=h
     refine ⟨hC,?_⟩
     refine yo 11 ?_
     refine yx h fun _ w h=>zn ?_
     obtain ⟨hC,h⟩:=h
     refine ⟨hC,?_⟩
     refine yq 13 3 ?_
     refine yu h fun w h=>zn ?_
     obtain ⟨C42,hC,h⟩:=h
     refine ⟨C42,hC,?_⟩
     refine ye 14 hC h fun _ h=>?_
     refine yq 15 3 ?_
     refine yu h fun w h=>zn ?_
     obtain ⟨C43,hC,h⟩:=h
     refine ⟨C43,hC,?_⟩
     refine ye 16 hC h fun _ h=>?_
     refine yq 17 1 ?_
     refine yu h fun w h=>zn ?_
     obtain ⟨C44,hC,h⟩:=h
     refine ⟨C44,hC,?_⟩
     refine yz ?_
     exact zt hT h
   have h:=h1
   refine yS h fun _ w h=>zn ?_
   obtain ⟨hC,h⟩:=h
   refine ⟨_,fun _ h=>h,hC,?_⟩
   refine yo 0 ?_
   refine yS h fun _ w h=>zn ?_
   obtain ⟨hC,h⟩:=h
   refine ⟨hC,?_⟩
   refine yo 3 ?_
   refine yx h fun _ w h=>zn ?_
   obtain ⟨hC,h⟩:=h
   refine ⟨hC,?_⟩
   refine ye 12 hC h fun _ h=>?_
   refine yo 7 ?_
   refine yx h fun _ w h=>zn ?_
   obtain ⟨hC,h⟩:=h
   refine ⟨hC,?_⟩
   refine yo 11 ?_
   refine yx h fun _ w h=>zn ?_
   obtain ⟨hC,h⟩:=h
   refine ⟨hC,?_⟩
   refine yq 13 3 ?_
   refine yu h fun w h=>zn ?_
   obtain ⟨C45,hC,h⟩:=h
   refine ⟨C45,hC,?_⟩
   refine ye 14 hC h fun _ h=>?_
   refine yq 15 3 ?_
   refine yu h fun w h=>zn ?_
   obtain ⟨C46,hC,h⟩:=h
   refine ⟨C46,hC,?_⟩
   refine ye 16 hC h fun _ h=>?_
   refine yq 17 1 ?_
   refine yu h fun w h=>zn ?_
   obtain ⟨C47,hC,h⟩:=h
   refine ⟨C47,hC,?_⟩
   refine yz ?_
   exact zt hT h
 subst hK
 exact zk<|zs<|zr<|yv h fun _ w h=>yu h fun w h=>zn<|zk<|sim_ret<|body_retC rfl rfl h
theorem own_q2 {C:World→Prop} [ClassNe C] {k:Value→Prop} (p:Nat):qV Pg C (Instr.fieldAt 26 (.pointer (some ⟨p,0,none⟩)) 2) k=k (.pointer (some ⟨p,2,none⟩)):=qV_of fun QP w kk=>by simp (disch:=try exact DI) only [↓PR,QR,simprocAttr]
theorem own_q1 {C:World→Prop} [ClassNe C] {k:Value→Prop} (p:Nat):qV Pg C (Instr.fieldAt 26 (.pointer (some ⟨p,0,none⟩)) 1) k=k (.pointer (some ⟨p,1,none⟩)):=qV_of fun QP w kk=>by simp (disch:=try exact DI) only [↓PR,QR,simprocAttr]
theorem own_q3 {C:World→Prop} [ClassNe C] {k:Value→Prop} (p:Nat):qV Pg C (Instr.fieldAt 26 (.pointer (some ⟨p,0,none⟩)) 3) k=k (.pointer (some ⟨p,3,none⟩)):=qV_of fun QP w kk=>by simp (disch:=try exact DI) only [↓PR,QR,simprocAttr]
theorem own_build_c {w:World} {QP:List PanicEntry→World→Prop} {k:Value→World→Prop} {base:Nat} (hb:base≤w.heap.size) (hk:∀ g w',OwnE w' base 52 2 cntCells (.slice (some ⟨g,0,none⟩) 0 0) []→(g=w.heap.size∧w'.heap.size=g+1)→Ext w w'→k (.slice (some ⟨g,0,none⟩) 0 0) w'):opV Pg (Instr.buildSlice 23 0 #[]) QP w k:=by
 have hO:=OwnE.new w 52 2 cntCells [] (fun x=>rfl) (by simp)
 simp only [List.flatMap_nil,List.length_nil] at hO
 have eW:Ext w (w.alloc (.cells #[] 52)):=ee
 simp (disch:=try exact DI) only [↓PR,QR,simprocAttr]
 exact hk _ _ (hO.base hb) ⟨rfl,Array.size_push ..⟩ eW
theorem own_build_s {w:World} {QP:List PanicEntry→World→Prop} {k:Value→World→Prop} {base:Nat} (hb:base≤w.heap.size) (hk:∀ g w',OwnE w' base 50 3 staCells (.slice (some ⟨g,0,none⟩) 0 0) []→(g=w.heap.size∧w'.heap.size=g+1)→Ext w w'→k (.slice (some ⟨g,0,none⟩) 0 0) w'):opV Pg (Instr.buildSlice 22 0 #[]) QP w k:=by
 have hO:=OwnE.new w 50 3 staCells [] (fun x=>rfl) (by simp)
 simp only [List.flatMap_nil,List.length_nil] at hO
 have eW:Ext w (w.alloc (.cells #[] 50)):=ee
 simp (disch:=try exact DI) only [↓PR,QR,simprocAttr]
 exact hk _ _ (hO.base hb) ⟨rfl,Array.size_push ..⟩ eW
theorem own_build_t {w:World} {QP:List PanicEntry→World→Prop} {k:Value→World→Prop} {base:Nat} (hb:base≤w.heap.size) (hk:∀ g w',OwnE w' base 71 9 stpCells (.slice (some ⟨g,0,none⟩) 0 0) []→(g=w.heap.size∧w'.heap.size=g+1)→Ext w w'→k (.slice (some ⟨g,0,none⟩) 0 0) w'):opV Pg (Instr.buildSlice 24 0 #[]) QP w k:=by
 have hO:=OwnE.new w 71 9 stpCells [] (fun x=>rfl) (by simp)
 simp only [List.flatMap_nil,List.length_nil] at hO
 have eW:Ext w (w.alloc (.cells #[] 71)):=ee
 simp (disch:=try exact DI) only [↓PR,QR,simprocAttr]
 exact hk _ _ (hO.base hb) ⟨rfl,Array.size_push ..⟩ eW
section
variable {w0 D W:World} {r:RolD} {p q:Nat} {sv cv tv vs vc vt:Value}
abbrev OwnR' (w0:World) (r:RolD):Ending→World→Prop:=retR fun u w'=>RolOwn w' w0.heap.size u r∧Ext w0 w'
theorem own_leaf {QP Q1 Q2 Q3 Q4:List PanicEntry→World→Prop} (eD:Ext w0 D) (eW:Ext D W) (h1:D.heap[p]?=some (.cells (rolCells r sv cv tv).toArray TRol (0,0))) (h2:D.heap[q]?=some (.cells zR TRol (0,0))) (l2:w0.heap.size≤q) (l1:w0.heap.size≤p) (hpD:p < D.heap.size) (hqD:q < D.heap.size) (hpq:p≠q) {B:Nat} (hB:D.heap.size≤B)
 (oc:OwnE W w0.heap.size 52 2 cntCells vc r.counters) (os:OwnE W w0.heap.size 50 3 staCells vs r.states) (ot:OwnE W w0.heap.size 71 9 stpCells vt r.steps) (bc:∀ b,vc.ownBlock=some b→D.heap.size≤b) (bs:∀ b,vs.ownBlock=some b→D.heap.size≤b) (bt:∀ b,vt.ownBlock=some b→D.heap.size≤b) :
 opU Pg (Instr.storeAt 23 (.pointer (some ⟨p,2,none⟩)) vc) QP W fun w=>turnK w fun C3 w=>qV Pg C3 (Instr.fieldAt 26 (.pointer (some ⟨p,0,none⟩)) 1) fun t16=>opU Pg (Instr.storeAt 22 t16 vs) Q1 w fun w=>turnK w fun C4 w=>qV Pg C4 (Instr.fieldAt 26 (.pointer (some ⟨p,0,none⟩)) 3) fun t17=>opU Pg (Instr.storeAt 24 t17 vt) Q2 w fun w=>turnK w fun C5 w=>opV Pg (Instr.loadAt 26 (.pointer (some ⟨p,0,none⟩))) Q3 w fun t18 w=>opU Pg (Instr.storeAt 26 (.pointer (some ⟨q,0,none⟩)) t18) Q4 w fun w=>qW Pg 26 (.pointer (some ⟨q,0,none⟩)) w fun r0=>OwnR' w0 r (.returned r0) w:=by
 have g1:=eW.obj h1
 have g2:=eW.obj h2
 have v1:=own_one oc fun _=>rfl
 have v2:=own_one os fun _=>rfl
 have v3:=own_one ot fun _=>rfl
 have k1:=heap_set (o:=2) g1 vc
 simp (disch:=try exact DI) only [↓PR,QR,simprocAttr,(cells_of_heap g1).1,(cells_of_heap g1).2]
 refine turnK_intro ?_
 simp (disch:=try exact DI) only [↓PR,QR,simprocAttr,(cells_of_heap k1).1,(cells_of_heap k1).2]
 refine turnK_intro ?_
 have k2:=heap_set (o:=1) k1 vs
 simp (disch:=try exact DI) only [↓PR,QR,simprocAttr,(cells_of_heap k2).1,(cells_of_heap k2).2]
 refine turnK_intro ?_
 have k3:(((W.setCell ⟨p,2,none⟩ vc).setCell ⟨p,1,none⟩ vs).setCell ⟨p,3,none⟩ vt).heap[p]?=some (.cells (rolCells r vs vc vt).toArray TRol (0,0)):=heap_set (o:=3) k2 vt
 have E3:Ext w0 (((W.setCell ⟨p,2,none⟩ vc).setCell ⟨p,1,none⟩ vs).setCell ⟨p,3,none⟩ vt):=(((eD.trans eW).setCell (p:=⟨p,2,none⟩) l1 _).setCell (p:=⟨p,1,none⟩) l1 _).setCell (p:=⟨p,3,none⟩) l1 _
 have k4:(((W.setCell ⟨p,2,none⟩ vc).setCell ⟨p,1,none⟩ vs).setCell ⟨p,3,none⟩ vt).heap[q]?=some (.cells zR TRol (0,0)):=by
  rw [Only.setCell _ p _ _ q (Ne.symm hpq),Only.setCell _ p _ _ q (Ne.symm hpq),Only.setCell _ p _ _ q (Ne.symm hpq)]
  exact g2
 have kk:∀ b,D.heap.size≤b→(((W.setCell ⟨p,2,none⟩ vc).setCell ⟨p,1,none⟩ vs).setCell ⟨p,3,none⟩ vt).heap[b]?=W.heap[b]?:=fun b hb=>by
  rw [Only.setCell _ p _ _ b (by omega),Only.setCell _ p _ _ b (by omega),Only.setCell _ p _ _ b (by omega)]
 generalize (((W.setCell ⟨p,2,none⟩ vc).setCell ⟨p,1,none⟩ vs).setCell ⟨p,3,none⟩ vt)=X at k3 E3 k4 kk ⊢
 simp (disch:=try exact DI) only [↓PR,QR,simprocAttr,(cells_of_heap k3).1,(cells_of_heap k4).1,(cells_of_heap k4).2]
 have eV:Ext w0 (setCells X q 0 (rolCells r vs vc vt)):=setCells_ext _ _ _ _ E3 l2
 have hk:∀ b,D.heap.size≤b→(setCells X q 0 (rolCells r vs vc vt)).heap[b]?=W.heap[b]?:=fun b hb=>(setCells_only _ _ _ b (by omega)).trans (kk b hb)
 exact ⟨⟨vs,vc,vt,rfl,OwnE.keep os fun b hb=>hk b (bs b hb),OwnE.keep oc fun b hb=>hk b (bc b hb),OwnE.keep ot fun b hb=>hk b (bt b hb)⟩,eV⟩
end
theorem own_ret (w0:World) (v:Value) (r:RolD) (hr:RolVal w0 v r) (hl:r.counters.length≤1000000∧r.states.length≤1000000∧r.steps.length≤1000000):Ret Pg 22 #[v] w0 fun u w'=>RolOwn w' w0.heap.size u r∧Ext w0 w':=by
 obtain ⟨sv,cv,tv,rfl,hS,hC,hT,o1,o2,o3⟩:=hr.op
 refine n11s (R:=retR _) ?_;unfold n11
 rw [op_boxA]
 have h1:(w0.alloc (.cells (rolCells r sv cv tv).toArray TRol)).heap[w0.heap.size]?=some (.cells (rolCells r sv cv tv).toArray TRol (0,0)):=heap_new _ _ _
 have e1:Ext w0 (w0.alloc (.cells (rolCells r sv cv tv).toArray TRol)):=ee
 have s1:(w0.alloc (.cells (rolCells r sv cv tv).toArray TRol)).heap.size=w0.heap.size+1:=Array.size_push ..
 generalize (w0.alloc (.cells (rolCells r sv cv tv).toArray TRol))=W at h1 e1 s1 ⊢
 simp (disch:=try exact DI) only [↓PR,QR,simprocAttr]
 have h2:(W.alloc (.cells zR TRol)).heap[W.heap.size]?=some (.cells zR TRol (0,0)):=heap_new _ _ _
 have e2:Ext W (W.alloc (.cells zR TRol)):=ee
 have s2:(W.alloc (.cells zR TRol)).heap.size=W.heap.size+1:=Array.size_push ..
 change drawK (W.alloc (.cells zR TRol)) _
 generalize (W.alloc (.cells zR TRol))=V at h2 e2 s2 ⊢
 replace h1:=e2.obj h1
 have eV:=e1.trans e2
 refine drawK_intro ?_
 have eX:Ext V (Sw.drew V):=(Ext.refl V).drew
 have sX:(Sw.drew V).heap.size=V.heap.size:=rfl
 generalize Sw.drew V=D at eX sX ⊢
 replace h1:=eX.obj h1
 replace h2:=eX.obj h2
 have eD:=eV.trans eX
 have hcc:=(cells_of_heap h1).1
 replace hS:=hS.ext eD
 replace hC:=hC.ext eD
 replace hT:=hT.ext eD
 have a1:∀ K:Value→Prop,qV Pg (EC D) (Instr.loadAt 23 (.pointer (some ⟨w0.heap.size,2,none⟩))) K=K cv:=fun K=>by simp (disch:=try exact DI) only [↓PR,QR,simprocAttr,hcc]
 have a2:∀ K:Value→Prop,qV Pg (EC D) (Instr.loadAt 22 (.pointer (some ⟨w0.heap.size,1,none⟩))) K=K sv:=fun K=>by simp (disch:=try exact DI) only [↓PR,QR,simprocAttr,hcc]
 have a3:∀ K:Value→Prop,qV Pg (EC D) (Instr.loadAt 24 (.pointer (some ⟨w0.heap.size,3,none⟩))) K=K tv:=fun K=>by simp (disch:=try exact DI) only [↓PR,QR,simprocAttr,hcc]
 have sW:D.heap.size≤D.heap.size:=Nat.le_refl _
 have eW:Ext D D:=Ext.refl _
 unfold n11c53
 rw [own_q2,a1,own_q1,a2,own_q3,a3,joinK_eq]
 refine ⟨?_,?_,?_⟩
 · refine own_build_c (base:=w0.heap.size) (by omega) ?_
   intro gc W1 hc zc e1
   have bc:gc < W1.heap.size:=by omega
   have lc:D.heap.size≤gc:=by omega
   replace eW:Ext D W1:=eW.trans e1
   have sW:D.heap.size≤W1.heap.size:=eW.size
   clear e1
   refine ⟨eW,?_⟩
   unfold n11c26
   refine ⟨?_,?_,?_⟩
   · refine appendL_cnt hc (hC.ext eW) (by omega) (by omega) eW lc bc ?_
     intro kc capc W1 oc dc bc' z1 e1 keep
     have lc':D.heap.size≤kc:=by omega
     replace eW:Ext D W1:=e1
     have sW:D.heap.size≤W1.heap.size:=eW.size
     clear e1 keep
     refine ⟨eW,?_⟩
     unfold n11c9
     rw [own_q2]
     refine ⟨?_,?_⟩
     · refine own_build_s (base:=w0.heap.size) (by omega) ?_
       intro gs W1 hs zs e1
       have bs:gs < W1.heap.size:=by omega
       have ls:D.heap.size≤gs:=by omega
       replace oc:=oc.ext e1
       have nsc:gs≠kc:=by omega
       replace bc':kc < W1.heap.size:=by omega
       replace eW:Ext D W1:=eW.trans e1
       have sW:D.heap.size≤W1.heap.size:=eW.size
       clear e1
       refine ⟨eW,?_⟩
       unfold n11c5
       refine ⟨?_,?_⟩
       · refine appendL_sta hs (hS.ext eW) (by omega) (by omega) eW ls bs ?_
         intro ks caps W1 os ds bs' z1 e1 keep
         have ls':D.heap.size≤ks:=by omega
         have msc:ks≠kc:=by omega
         replace oc:=OwnE.keep oc fun b hb=>(keep b (by have h:kc=b:=Option.some.inj hb;omega) (by have h:kc=b:=Option.some.inj hb;omega))
         replace bc':kc < W1.heap.size:=by omega
         replace eW:Ext D W1:=e1
         have sW:D.heap.size≤W1.heap.size:=eW.size
         clear e1 keep
         refine ⟨eW,?_⟩
         refine own_build_t (base:=w0.heap.size) (by omega) ?_
         intro gt W1 ht zt e1
         have bt:gt < W1.heap.size:=by omega
         have lt:D.heap.size≤gt:=by omega
         replace oc:=oc.ext e1
         have ntc:gt≠kc:=by omega
         replace bc':kc < W1.heap.size:=by omega
         replace os:=os.ext e1
         have nts:gt≠ks:=by omega
         replace bs':ks < W1.heap.size:=by omega
         replace eW:Ext D W1:=eW.trans e1
         have sW:D.heap.size≤W1.heap.size:=eW.size
         clear e1
         refine ⟨eW,?_⟩
         unfold n11c2
         refine appendL_stp ht (hT.ext eW) (by omega) (by omega) eW lt bt ?_
         intro kt capt W1 ot dt bt' z1 e1 keep
         have lt':D.heap.size≤kt:=by omega
         have mtc:kt≠kc:=by omega
         replace oc:=OwnE.keep oc fun b hb=>(keep b (by have h:kc=b:=Option.some.inj hb;omega) (by have h:kc=b:=Option.some.inj hb;omega))
         replace bc':kc < W1.heap.size:=by omega
         have mts:kt≠ks:=by omega
         replace os:=OwnE.keep os fun b hb=>(keep b (by have h:ks=b:=Option.some.inj hb;omega) (by have h:ks=b:=Option.some.inj hb;omega))
         replace bs':ks < W1.heap.size:=by omega
         replace eW:Ext D W1:=e1
         have sW:D.heap.size≤W1.heap.size:=eW.size
         clear e1 keep
         refine ⟨eW,?_⟩
         unfold n11c1
         exact own_leaf eD eW h1 h2 (by omega) (by omega) (by omega) (by omega) (by omega) (Nat.le_refl _) oc os ot (fun b hb=>by have h:kc=b:=Option.some.inj hb;omega) (fun b hb=>by have h:ks=b:=Option.some.inj hb;omega) (fun b hb=>by have h:kt=b:=Option.some.inj hb;omega)
       · refine own_build_t (base:=w0.heap.size) (by omega) ?_
         intro gt W1 ht zt e1
         have bt:gt < W1.heap.size:=by omega
         have lt:D.heap.size≤gt:=by omega
         replace oc:=oc.ext e1
         have ntc:gt≠kc:=by omega
         replace bc':kc < W1.heap.size:=by omega
         replace hs:=hs.ext e1
         have nts:gt≠gs:=by omega
         replace bs:gs < W1.heap.size:=by omega
         replace eW:Ext D W1:=eW.trans e1
         have sW:D.heap.size≤W1.heap.size:=eW.size
         clear e1
         refine ⟨eW,?_⟩
         refine appendL_sta hs (hS.ext eW) (by omega) (by omega) eW ls bs ?_
         intro ks caps W1 os ds bs' z1 e1 keep
         have ls':D.heap.size≤ks:=by omega
         have msc:ks≠kc:=by omega
         replace oc:=OwnE.keep oc fun b hb=>(keep b (by have h:kc=b:=Option.some.inj hb;omega) (by have h:kc=b:=Option.some.inj hb;omega))
         replace bc':kc < W1.heap.size:=by omega
         have mst:ks≠gt:=by omega
         replace ht:=OwnE.keep ht fun b hb=>(keep b (by have h:gt=b:=Option.some.inj hb;omega) (by have h:gt=b:=Option.some.inj hb;omega))
         replace bt:gt < W1.heap.size:=by omega
         replace eW:Ext D W1:=e1
         have sW:D.heap.size≤W1.heap.size:=eW.size
         clear e1 keep
         refine ⟨eW,?_⟩
         unfold n11c4
         refine appendL_stp ht (hT.ext eW) (by omega) (by omega) eW lt bt ?_
         intro kt capt W1 ot dt bt' z1 e1 keep
         have lt':D.heap.size≤kt:=by omega
         have mtc:kt≠kc:=by omega
         replace oc:=OwnE.keep oc fun b hb=>(keep b (by have h:kc=b:=Option.some.inj hb;omega) (by have h:kc=b:=Option.some.inj hb;omega))
         replace bc':kc < W1.heap.size:=by omega
         have mts:kt≠ks:=by omega
         replace os:=OwnE.keep os fun b hb=>(keep b (by have h:ks=b:=Option.some.inj hb;omega) (by have h:ks=b:=Option.some.inj hb;omega))
         replace bs':ks < W1.heap.size:=by omega
         replace eW:Ext D W1:=e1
         have sW:D.heap.size≤W1.heap.size:=eW.size
         clear e1 keep
         refine ⟨eW,?_⟩
         unfold n11c3
         exact own_leaf eD eW h1 h2 (by omega) (by omega) (by omega) (by omega) (by omega) (Nat.le_refl _) oc os ot (fun b hb=>by have h:kc=b:=Option.some.inj hb;omega) (fun b hb=>by have h:ks=b:=Option.some.inj hb;omega) (fun b hb=>by have h:kt=b:=Option.some.inj hb;omega)
     · refine own_build_t (base:=w0.heap.size) (by omega) ?_
       intro gt W1 ht zt e1
       have bt:gt < W1.heap.size:=by omega
       have lt:D.heap.size≤gt:=by omega
       replace oc:=oc.ext e1
       have ntc:gt≠kc:=by omega
       replace bc':kc < W1.heap.size:=by omega
       replace eW:Ext D W1:=eW.trans e1
       have sW:D.heap.size≤W1.heap.size:=eW.size
       clear e1
       refine ⟨eW,?_⟩
       unfold n11c8
       refine own_build_s (base:=w0.heap.size) (by omega) ?_
       intro gs W1 hs zs e1
       have bs:gs < W1.heap.size:=by omega
       have ls:D.heap.size≤gs:=by omega
       replace oc:=oc.ext e1
       have nsc:gs≠kc:=by omega
       replace bc':kc < W1.heap.size:=by omega
       replace ht:=ht.ext e1
       have nst:gs≠gt:=by omega
       replace bt:gt < W1.heap.size:=by omega
       replace eW:Ext D W1:=eW.trans e1
       have sW:D.heap.size≤W1.heap.size:=eW.size
       clear e1
       refine ⟨eW,?_⟩
       refine appendL_sta hs (hS.ext eW) (by omega) (by omega) eW ls bs ?_
       intro ks caps W1 os ds bs' z1 e1 keep
       have ls':D.heap.size≤ks:=by omega
       have msc:ks≠kc:=by omega
       replace oc:=OwnE.keep oc fun b hb=>(keep b (by have h:kc=b:=Option.some.inj hb;omega) (by have h:kc=b:=Option.some.inj hb;omega))
       replace bc':kc < W1.heap.size:=by omega
       have mst:ks≠gt:=by omega
       replace ht:=OwnE.keep ht fun b hb=>(keep b (by have h:gt=b:=Option.some.inj hb;omega) (by have h:gt=b:=Option.some.inj hb;omega))
       replace bt:gt < W1.heap.size:=by omega
       replace eW:Ext D W1:=e1
       have sW:D.heap.size≤W1.heap.size:=eW.size
       clear e1 keep
       refine ⟨eW,?_⟩
       unfold n11c7
       refine appendL_stp ht (hT.ext eW) (by omega) (by omega) eW lt bt ?_
       intro kt capt W1 ot dt bt' z1 e1 keep
       have lt':D.heap.size≤kt:=by omega
       have mtc:kt≠kc:=by omega
       replace oc:=OwnE.keep oc fun b hb=>(keep b (by have h:kc=b:=Option.some.inj hb;omega) (by have h:kc=b:=Option.some.inj hb;omega))
       replace bc':kc < W1.heap.size:=by omega
       have mts:kt≠ks:=by omega
       replace os:=OwnE.keep os fun b hb=>(keep b (by have h:ks=b:=Option.some.inj hb;omega) (by have h:ks=b:=Option.some.inj hb;omega))
       replace bs':ks < W1.heap.size:=by omega
       replace eW:Ext D W1:=e1
       have sW:D.heap.size≤W1.heap.size:=eW.size
       clear e1 keep
       refine ⟨eW,?_⟩
       unfold n11c6
       exact own_leaf eD eW h1 h2 (by omega) (by omega) (by omega) (by omega) (by omega) (Nat.le_refl _) oc os ot (fun b hb=>by have h:kc=b:=Option.some.inj hb;omega) (fun b hb=>by have h:ks=b:=Option.some.inj hb;omega) (fun b hb=>by have h:kt=b:=Option.some.inj hb;omega)
   · refine own_build_s (base:=w0.heap.size) (by omega) ?_
     intro gs W1 hs zs e1
     have bs:gs < W1.heap.size:=by omega
     have ls:D.heap.size≤gs:=by omega
     replace hc:=hc.ext e1
     have nsc:gs≠gc:=by omega
     replace bc:gc < W1.heap.size:=by omega
     replace eW:Ext D W1:=eW.trans e1
     have sW:D.heap.size≤W1.heap.size:=eW.size
     clear e1
     refine ⟨eW,?_⟩
     unfold n11c18
     refine ⟨?_,?_⟩
     · refine appendL_cnt hc (hC.ext eW) (by omega) (by omega) eW lc bc ?_
       intro kc capc W1 oc dc bc' z1 e1 keep
       have lc':D.heap.size≤kc:=by omega
       have mcs:kc≠gs:=by omega
       replace hs:=OwnE.keep hs fun b hb=>(keep b (by have h:gs=b:=Option.some.inj hb;omega) (by have h:gs=b:=Option.some.inj hb;omega))
       replace bs:gs < W1.heap.size:=by omega
       replace eW:Ext D W1:=e1
       have sW:D.heap.size≤W1.heap.size:=eW.size
       clear e1 keep
       refine ⟨eW,?_⟩
       unfold n11c14
       rw [own_q2]
       refine ⟨?_,?_⟩
       · refine appendL_sta hs (hS.ext eW) (by omega) (by omega) eW ls bs ?_
         intro ks caps W1 os ds bs' z1 e1 keep
         have ls':D.heap.size≤ks:=by omega
         have msc:ks≠kc:=by omega
         replace oc:=OwnE.keep oc fun b hb=>(keep b (by have h:kc=b:=Option.some.inj hb;omega) (by have h:kc=b:=Option.some.inj hb;omega))
         replace bc':kc < W1.heap.size:=by omega
         replace eW:Ext D W1:=e1
         have sW:D.heap.size≤W1.heap.size:=eW.size
         clear e1 keep
         refine ⟨eW,?_⟩
         refine own_build_t (base:=w0.heap.size) (by omega) ?_
         intro gt W1 ht zt e1
         have bt:gt < W1.heap.size:=by omega
         have lt:D.heap.size≤gt:=by omega
         replace oc:=oc.ext e1
         have ntc:gt≠kc:=by omega
         replace bc':kc < W1.heap.size:=by omega
         replace os:=os.ext e1
         have nts:gt≠ks:=by omega
         replace bs':ks < W1.heap.size:=by omega
         replace eW:Ext D W1:=eW.trans e1
         have sW:D.heap.size≤W1.heap.size:=eW.size
         clear e1
         refine ⟨eW,?_⟩
         unfold n11c11
         refine appendL_stp ht (hT.ext eW) (by omega) (by omega) eW lt bt ?_
         intro kt capt W1 ot dt bt' z1 e1 keep
         have lt':D.heap.size≤kt:=by omega
         have mtc:kt≠kc:=by omega
         replace oc:=OwnE.keep oc fun b hb=>(keep b (by have h:kc=b:=Option.some.inj hb;omega) (by have h:kc=b:=Option.some.inj hb;omega))
         replace bc':kc < W1.heap.size:=by omega
         have mts:kt≠ks:=by omega
         replace os:=OwnE.keep os fun b hb=>(keep b (by have h:ks=b:=Option.some.inj hb;omega) (by have h:ks=b:=Option.some.inj hb;omega))
         replace bs':ks < W1.heap.size:=by omega
         replace eW:Ext D W1:=e1
         have sW:D.heap.size≤W1.heap.size:=eW.size
         clear e1 keep
         refine ⟨eW,?_⟩
         unfold n11c10
         exact own_leaf eD eW h1 h2 (by omega) (by omega) (by omega) (by omega) (by omega) (Nat.le_refl _) oc os ot (fun b hb=>by have h:kc=b:=Option.some.inj hb;omega) (fun b hb=>by have h:ks=b:=Option.some.inj hb;omega) (fun b hb=>by have h:kt=b:=Option.some.inj hb;omega)
       · refine own_build_t (base:=w0.heap.size) (by omega) ?_
         intro gt W1 ht zt e1
         have bt:gt < W1.heap.size:=by omega
         have lt:D.heap.size≤gt:=by omega
         replace oc:=oc.ext e1
         have ntc:gt≠kc:=by omega
         replace bc':kc < W1.heap.size:=by omega
         replace hs:=hs.ext e1
         have nts:gt≠gs:=by omega
         replace bs:gs < W1.heap.size:=by omega
         replace eW:Ext D W1:=eW.trans e1
         have sW:D.heap.size≤W1.heap.size:=eW.size
         clear e1
         refine ⟨eW,?_⟩
         refine appendL_sta hs (hS.ext eW) (by omega) (by omega) eW ls bs ?_
         intro ks caps W1 os ds bs' z1 e1 keep
         have ls':D.heap.size≤ks:=by omega
         have msc:ks≠kc:=by omega
         replace oc:=OwnE.keep oc fun b hb=>(keep b (by have h:kc=b:=Option.some.inj hb;omega) (by have h:kc=b:=Option.some.inj hb;omega))
         replace bc':kc < W1.heap.size:=by omega
         have mst:ks≠gt:=by omega
         replace ht:=OwnE.keep ht fun b hb=>(keep b (by have h:gt=b:=Option.some.inj hb;omega) (by have h:gt=b:=Option.some.inj hb;omega))
         replace bt:gt < W1.heap.size:=by omega
         replace eW:Ext D W1:=e1
         have sW:D.heap.size≤W1.heap.size:=eW.size
         clear e1 keep
         refine ⟨eW,?_⟩
         unfold n11c13
         refine appendL_stp ht (hT.ext eW) (by omega) (by omega) eW lt bt ?_
         intro kt capt W1 ot dt bt' z1 e1 keep
         have lt':D.heap.size≤kt:=by omega
         have mtc:kt≠kc:=by omega
         replace oc:=OwnE.keep oc fun b hb=>(keep b (by have h:kc=b:=Option.some.inj hb;omega) (by have h:kc=b:=Option.some.inj hb;omega))
         replace bc':kc < W1.heap.size:=by omega
         have mts:kt≠ks:=by omega
         replace os:=OwnE.keep os fun b hb=>(keep b (by have h:ks=b:=Option.some.inj hb;omega) (by have h:ks=b:=Option.some.inj hb;omega))
         replace bs':ks < W1.heap.size:=by omega
         replace eW:Ext D W1:=e1
         have sW:D.heap.size≤W1.heap.size:=eW.size
         clear e1 keep
         refine ⟨eW,?_⟩
         unfold n11c12
         exact own_leaf eD eW h1 h2 (by omega) (by omega) (by omega) (by omega) (by omega) (Nat.le_refl _) oc os ot (fun b hb=>by have h:kc=b:=Option.some.inj hb;omega) (fun b hb=>by have h:ks=b:=Option.some.inj hb;omega) (fun b hb=>by have h:kt=b:=Option.some.inj hb;omega)
     · refine own_build_t (base:=w0.heap.size) (by omega) ?_
       intro gt W1 ht zt e1
       have bt:gt < W1.heap.size:=by omega
       have lt:D.heap.size≤gt:=by omega
       replace hc:=hc.ext e1
       have ntc:gt≠gc:=by omega
       replace bc:gc < W1.heap.size:=by omega
       replace hs:=hs.ext e1
       have nts:gt≠gs:=by omega
       replace bs:gs < W1.heap.size:=by omega
       replace eW:Ext D W1:=eW.trans e1
       have sW:D.heap.size≤W1.heap.size:=eW.size
       clear e1
       refine ⟨eW,?_⟩
       refine appendL_cnt hc (hC.ext eW) (by omega) (by omega) eW lc bc ?_
       intro kc capc W1 oc dc bc' z1 e1 keep
       have lc':D.heap.size≤kc:=by omega
       have mcs:kc≠gs:=by omega
       replace hs:=OwnE.keep hs fun b hb=>(keep b (by have h:gs=b:=Option.some.inj hb;omega) (by have h:gs=b:=Option.some.inj hb;omega))
       replace bs:gs < W1.heap.size:=by omega
       have mct:kc≠gt:=by omega
       replace ht:=OwnE.keep ht fun b hb=>(keep b (by have h:gt=b:=Option.some.inj hb;omega) (by have h:gt=b:=Option.some.inj hb;omega))
       replace bt:gt < W1.heap.size:=by omega
       replace eW:Ext D W1:=e1
       have sW:D.heap.size≤W1.heap.size:=eW.size
       clear e1 keep
       refine ⟨eW,?_⟩
       unfold n11c17
       rw [own_q2]
       refine appendL_sta hs (hS.ext eW) (by omega) (by omega) eW ls bs ?_
       intro ks caps W1 os ds bs' z1 e1 keep
       have ls':D.heap.size≤ks:=by omega
       have msc:ks≠kc:=by omega
       replace oc:=OwnE.keep oc fun b hb=>(keep b (by have h:kc=b:=Option.some.inj hb;omega) (by have h:kc=b:=Option.some.inj hb;omega))
       replace bc':kc < W1.heap.size:=by omega
       have mst:ks≠gt:=by omega
       replace ht:=OwnE.keep ht fun b hb=>(keep b (by have h:gt=b:=Option.some.inj hb;omega) (by have h:gt=b:=Option.some.inj hb;omega))
       replace bt:gt < W1.heap.size:=by omega
       replace eW:Ext D W1:=e1
       have sW:D.heap.size≤W1.heap.size:=eW.size
       clear e1 keep
       refine ⟨eW,?_⟩
       unfold n11c16
       refine appendL_stp ht (hT.ext eW) (by omega) (by omega) eW lt bt ?_
       intro kt capt W1 ot dt bt' z1 e1 keep
       have lt':D.heap.size≤kt:=by omega
       have mtc:kt≠kc:=by omega
       replace oc:=OwnE.keep oc fun b hb=>(keep b (by have h:kc=b:=Option.some.inj hb;omega) (by have h:kc=b:=Option.some.inj hb;omega))
       replace bc':kc < W1.heap.size:=by omega
       have mts:kt≠ks:=by omega
       replace os:=OwnE.keep os fun b hb=>(keep b (by have h:ks=b:=Option.some.inj hb;omega) (by have h:ks=b:=Option.some.inj hb;omega))
       replace bs':ks < W1.heap.size:=by omega
       replace eW:Ext D W1:=e1
       have sW:D.heap.size≤W1.heap.size:=eW.size
       clear e1 keep
       refine ⟨eW,?_⟩
       unfold n11c15
       exact own_leaf eD eW h1 h2 (by omega) (by omega) (by omega) (by omega) (by omega) (Nat.le_refl _) oc os ot (fun b hb=>by have h:kc=b:=Option.some.inj hb;omega) (fun b hb=>by have h:ks=b:=Option.some.inj hb;omega) (fun b hb=>by have h:kt=b:=Option.some.inj hb;omega)
   · refine own_build_t (base:=w0.heap.size) (by omega) ?_
     intro gt W1 ht zt e1
     have bt:gt < W1.heap.size:=by omega
     have lt:D.heap.size≤gt:=by omega
     replace hc:=hc.ext e1
     have ntc:gt≠gc:=by omega
     replace bc:gc < W1.heap.size:=by omega
     replace eW:Ext D W1:=eW.trans e1
     have sW:D.heap.size≤W1.heap.size:=eW.size
     clear e1
     refine ⟨eW,?_⟩
     unfold n11c25
     refine ⟨?_,?_⟩
     · refine appendL_cnt hc (hC.ext eW) (by omega) (by omega) eW lc bc ?_
       intro kc capc W1 oc dc bc' z1 e1 keep
       have lc':D.heap.size≤kc:=by omega
       have mct:kc≠gt:=by omega
       replace ht:=OwnE.keep ht fun b hb=>(keep b (by have h:gt=b:=Option.some.inj hb;omega) (by have h:gt=b:=Option.some.inj hb;omega))
       replace bt:gt < W1.heap.size:=by omega
       replace eW:Ext D W1:=e1
       have sW:D.heap.size≤W1.heap.size:=eW.size
       clear e1 keep
       refine ⟨eW,?_⟩
       unfold n11c21
       rw [own_q2]
       refine own_build_s (base:=w0.heap.size) (by omega) ?_
       intro gs W1 hs zs e1
       have bs:gs < W1.heap.size:=by omega
       have ls:D.heap.size≤gs:=by omega
       replace oc:=oc.ext e1
       have nsc:gs≠kc:=by omega
       replace bc':kc < W1.heap.size:=by omega
       replace ht:=ht.ext e1
       have nst:gs≠gt:=by omega
       replace bt:gt < W1.heap.size:=by omega
       replace eW:Ext D W1:=eW.trans e1
       have sW:D.heap.size≤W1.heap.size:=eW.size
       clear e1
       refine ⟨eW,?_⟩
       refine appendL_sta hs (hS.ext eW) (by omega) (by omega) eW ls bs ?_
       intro ks caps W1 os ds bs' z1 e1 keep
       have ls':D.heap.size≤ks:=by omega
       have msc:ks≠kc:=by omega
       replace oc:=OwnE.keep oc fun b hb=>(keep b (by have h:kc=b:=Option.some.inj hb;omega) (by have h:kc=b:=Option.some.inj hb;omega))
       replace bc':kc < W1.heap.size:=by omega
       have mst:ks≠gt:=by omega
       replace ht:=OwnE.keep ht fun b hb=>(keep b (by have h:gt=b:=Option.some.inj hb;omega) (by have h:gt=b:=Option.some.inj hb;omega))
       replace bt:gt < W1.heap.size:=by omega
       replace eW:Ext D W1:=e1
       have sW:D.heap.size≤W1.heap.size:=eW.size
       clear e1 keep
       refine ⟨eW,?_⟩
       unfold n11c20
       refine appendL_stp ht (hT.ext eW) (by omega) (by omega) eW lt bt ?_
       intro kt capt W1 ot dt bt' z1 e1 keep
       have lt':D.heap.size≤kt:=by omega
       have mtc:kt≠kc:=by omega
       replace oc:=OwnE.keep oc fun b hb=>(keep b (by have h:kc=b:=Option.some.inj hb;omega) (by have h:kc=b:=Option.some.inj hb;omega))
       replace bc':kc < W1.heap.size:=by omega
       have mts:kt≠ks:=by omega
       replace os:=OwnE.keep os fun b hb=>(keep b (by have h:ks=b:=Option.some.inj hb;omega) (by have h:ks=b:=Option.some.inj hb;omega))
       replace bs':ks < W1.heap.size:=by omega
       replace eW:Ext D W1:=e1
       have sW:D.heap.size≤W1.heap.size:=eW.size
       clear e1 keep
       refine ⟨eW,?_⟩
       unfold n11c19
       exact own_leaf eD eW h1 h2 (by omega) (by omega) (by omega) (by omega) (by omega) (Nat.le_refl _) oc os ot (fun b hb=>by have h:kc=b:=Option.some.inj hb;omega) (fun b hb=>by have h:ks=b:=Option.some.inj hb;omega) (fun b hb=>by have h:kt=b:=Option.some.inj hb;omega)
     · refine own_build_s (base:=w0.heap.size) (by omega) ?_
       intro gs W1 hs zs e1
       have bs:gs < W1.heap.size:=by omega
       have ls:D.heap.size≤gs:=by omega
       replace hc:=hc.ext e1
       have nsc:gs≠gc:=by omega
       replace bc:gc < W1.heap.size:=by omega
       replace ht:=ht.ext e1
       have nst:gs≠gt:=by omega
       replace bt:gt < W1.heap.size:=by omega
       replace eW:Ext D W1:=eW.trans e1
       have sW:D.heap.size≤W1.heap.size:=eW.size
       clear e1
       refine ⟨eW,?_⟩
       refine appendL_cnt hc (hC.ext eW) (by omega) (by omega) eW lc bc ?_
       intro kc capc W1 oc dc bc' z1 e1 keep
       have lc':D.heap.size≤kc:=by omega
       have mct:kc≠gt:=by omega
       replace ht:=OwnE.keep ht fun b hb=>(keep b (by have h:gt=b:=Option.some.inj hb;omega) (by have h:gt=b:=Option.some.inj hb;omega))
       replace bt:gt < W1.heap.size:=by omega
       have mcs:kc≠gs:=by omega
       replace hs:=OwnE.keep hs fun b hb=>(keep b (by have h:gs=b:=Option.some.inj hb;omega) (by have h:gs=b:=Option.some.inj hb;omega))
       replace bs:gs < W1.heap.size:=by omega
       replace eW:Ext D W1:=e1
       have sW:D.heap.size≤W1.heap.size:=eW.size
       clear e1 keep
       refine ⟨eW,?_⟩
       unfold n11c24
       rw [own_q2]
       refine appendL_sta hs (hS.ext eW) (by omega) (by omega) eW ls bs ?_
       intro ks caps W1 os ds bs' z1 e1 keep
       have ls':D.heap.size≤ks:=by omega
       have msc:ks≠kc:=by omega
       replace oc:=OwnE.keep oc fun b hb=>(keep b (by have h:kc=b:=Option.some.inj hb;omega) (by have h:kc=b:=Option.some.inj hb;omega))
       replace bc':kc < W1.heap.size:=by omega
       have mst:ks≠gt:=by omega
       replace ht:=OwnE.keep ht fun b hb=>(keep b (by have h:gt=b:=Option.some.inj hb;omega) (by have h:gt=b:=Option.some.inj hb;omega))
       replace bt:gt < W1.heap.size:=by omega
       replace eW:Ext D W1:=e1
       have sW:D.heap.size≤W1.heap.size:=eW.size
       clear e1 keep
       refine ⟨eW,?_⟩
       unfold n11c23
       refine appendL_stp ht (hT.ext eW) (by omega) (by omega) eW lt bt ?_
       intro kt capt W1 ot dt bt' z1 e1 keep
       have lt':D.heap.size≤kt:=by omega
       have mtc:kt≠kc:=by omega
       replace oc:=OwnE.keep oc fun b hb=>(keep b (by have h:kc=b:=Option.some.inj hb;omega) (by have h:kc=b:=Option.some.inj hb;omega))
       replace bc':kc < W1.heap.size:=by omega
       have mts:kt≠ks:=by omega
       replace os:=OwnE.keep os fun b hb=>(keep b (by have h:ks=b:=Option.some.inj hb;omega) (by have h:ks=b:=Option.some.inj hb;omega))
       replace bs':ks < W1.heap.size:=by omega
       replace eW:Ext D W1:=e1
       have sW:D.heap.size≤W1.heap.size:=eW.size
       clear e1 keep
       refine ⟨eW,?_⟩
       unfold n11c22
       exact own_leaf eD eW h1 h2 (by omega) (by omega) (by omega) (by omega) (by omega) (Nat.le_refl _) oc os ot (fun b hb=>by have h:kc=b:=Option.some.inj hb;omega) (fun b hb=>by have h:ks=b:=Option.some.inj hb;omega) (fun b hb=>by have h:kt=b:=Option.some.inj hb;omega)
 · refine own_build_s (base:=w0.heap.size) (by omega) ?_
   intro gs W1 hs zs e1
   have bs:gs < W1.heap.size:=by omega
   have ls:D.heap.size≤gs:=by omega
   replace eW:Ext D W1:=eW.trans e1
   have sW:D.heap.size≤W1.heap.size:=eW.size
   clear e1
   refine ⟨eW,?_⟩
   unfold n11c40
   refine ⟨?_,?_⟩
   · refine own_build_c (base:=w0.heap.size) (by omega) ?_
     intro gc W1 hc zc e1
     have bc:gc < W1.heap.size:=by omega
     have lc:D.heap.size≤gc:=by omega
     replace hs:=hs.ext e1
     have ncs:gc≠gs:=by omega
     replace bs:gs < W1.heap.size:=by omega
     replace eW:Ext D W1:=eW.trans e1
     have sW:D.heap.size≤W1.heap.size:=eW.size
     clear e1
     refine ⟨eW,?_⟩
     unfold n11c35
     refine ⟨?_,?_⟩
     · refine appendL_cnt hc (hC.ext eW) (by omega) (by omega) eW lc bc ?_
       intro kc capc W1 oc dc bc' z1 e1 keep
       have lc':D.heap.size≤kc:=by omega
       have mcs:kc≠gs:=by omega
       replace hs:=OwnE.keep hs fun b hb=>(keep b (by have h:gs=b:=Option.some.inj hb;omega) (by have h:gs=b:=Option.some.inj hb;omega))
       replace bs:gs < W1.heap.size:=by omega
       replace eW:Ext D W1:=e1
       have sW:D.heap.size≤W1.heap.size:=eW.size
       clear e1 keep
       refine ⟨eW,?_⟩
       unfold n11c31
       rw [own_q2]
       refine ⟨?_,?_⟩
       · refine appendL_sta hs (hS.ext eW) (by omega) (by omega) eW ls bs ?_
         intro ks caps W1 os ds bs' z1 e1 keep
         have ls':D.heap.size≤ks:=by omega
         have msc:ks≠kc:=by omega
         replace oc:=OwnE.keep oc fun b hb=>(keep b (by have h:kc=b:=Option.some.inj hb;omega) (by have h:kc=b:=Option.some.inj hb;omega))
         replace bc':kc < W1.heap.size:=by omega
         replace eW:Ext D W1:=e1
         have sW:D.heap.size≤W1.heap.size:=eW.size
         clear e1 keep
         refine ⟨eW,?_⟩
         refine own_build_t (base:=w0.heap.size) (by omega) ?_
         intro gt W1 ht zt e1
         have bt:gt < W1.heap.size:=by omega
         have lt:D.heap.size≤gt:=by omega
         replace os:=os.ext e1
         have nts:gt≠ks:=by omega
         replace bs':ks < W1.heap.size:=by omega
         replace oc:=oc.ext e1
         have ntc:gt≠kc:=by omega
         replace bc':kc < W1.heap.size:=by omega
         replace eW:Ext D W1:=eW.trans e1
         have sW:D.heap.size≤W1.heap.size:=eW.size
         clear e1
         refine ⟨eW,?_⟩
         unfold n11c28
         refine appendL_stp ht (hT.ext eW) (by omega) (by omega) eW lt bt ?_
         intro kt capt W1 ot dt bt' z1 e1 keep
         have lt':D.heap.size≤kt:=by omega
         have mts:kt≠ks:=by omega
         replace os:=OwnE.keep os fun b hb=>(keep b (by have h:ks=b:=Option.some.inj hb;omega) (by have h:ks=b:=Option.some.inj hb;omega))
         replace bs':ks < W1.heap.size:=by omega
         have mtc:kt≠kc:=by omega
         replace oc:=OwnE.keep oc fun b hb=>(keep b (by have h:kc=b:=Option.some.inj hb;omega) (by have h:kc=b:=Option.some.inj hb;omega))
         replace bc':kc < W1.heap.size:=by omega
         replace eW:Ext D W1:=e1
         have sW:D.heap.size≤W1.heap.size:=eW.size
         clear e1 keep
         refine ⟨eW,?_⟩
         unfold n11c27
         exact own_leaf eD eW h1 h2 (by omega) (by omega) (by omega) (by omega) (by omega) (Nat.le_refl _) oc os ot (fun b hb=>by have h:kc=b:=Option.some.inj hb;omega) (fun b hb=>by have h:ks=b:=Option.some.inj hb;omega) (fun b hb=>by have h:kt=b:=Option.some.inj hb;omega)
       · refine own_build_t (base:=w0.heap.size) (by omega) ?_
         intro gt W1 ht zt e1
         have bt:gt < W1.heap.size:=by omega
         have lt:D.heap.size≤gt:=by omega
         replace hs:=hs.ext e1
         have nts:gt≠gs:=by omega
         replace bs:gs < W1.heap.size:=by omega
         replace oc:=oc.ext e1
         have ntc:gt≠kc:=by omega
         replace bc':kc < W1.heap.size:=by omega
         replace eW:Ext D W1:=eW.trans e1
         have sW:D.heap.size≤W1.heap.size:=eW.size
         clear e1
         refine ⟨eW,?_⟩
         refine appendL_sta hs (hS.ext eW) (by omega) (by omega) eW ls bs ?_
         intro ks caps W1 os ds bs' z1 e1 keep
         have ls':D.heap.size≤ks:=by omega
         have msc:ks≠kc:=by omega
         replace oc:=OwnE.keep oc fun b hb=>(keep b (by have h:kc=b:=Option.some.inj hb;omega) (by have h:kc=b:=Option.some.inj hb;omega))
         replace bc':kc < W1.heap.size:=by omega
         have mst:ks≠gt:=by omega
         replace ht:=OwnE.keep ht fun b hb=>(keep b (by have h:gt=b:=Option.some.inj hb;omega) (by have h:gt=b:=Option.some.inj hb;omega))
         replace bt:gt < W1.heap.size:=by omega
         replace eW:Ext D W1:=e1
         have sW:D.heap.size≤W1.heap.size:=eW.size
         clear e1 keep
         refine ⟨eW,?_⟩
         unfold n11c30
         refine appendL_stp ht (hT.ext eW) (by omega) (by omega) eW lt bt ?_
         intro kt capt W1 ot dt bt' z1 e1 keep
         have lt':D.heap.size≤kt:=by omega
         have mts:kt≠ks:=by omega
         replace os:=OwnE.keep os fun b hb=>(keep b (by have h:ks=b:=Option.some.inj hb;omega) (by have h:ks=b:=Option.some.inj hb;omega))
         replace bs':ks < W1.heap.size:=by omega
         have mtc:kt≠kc:=by omega
         replace oc:=OwnE.keep oc fun b hb=>(keep b (by have h:kc=b:=Option.some.inj hb;omega) (by have h:kc=b:=Option.some.inj hb;omega))
         replace bc':kc < W1.heap.size:=by omega
         replace eW:Ext D W1:=e1
         have sW:D.heap.size≤W1.heap.size:=eW.size
         clear e1 keep
         refine ⟨eW,?_⟩
         unfold n11c29
         exact own_leaf eD eW h1 h2 (by omega) (by omega) (by omega) (by omega) (by omega) (Nat.le_refl _) oc os ot (fun b hb=>by have h:kc=b:=Option.some.inj hb;omega) (fun b hb=>by have h:ks=b:=Option.some.inj hb;omega) (fun b hb=>by have h:kt=b:=Option.some.inj hb;omega)
     · refine own_build_t (base:=w0.heap.size) (by omega) ?_
       intro gt W1 ht zt e1
       have bt:gt < W1.heap.size:=by omega
       have lt:D.heap.size≤gt:=by omega
       replace hs:=hs.ext e1
       have nts:gt≠gs:=by omega
       replace bs:gs < W1.heap.size:=by omega
       replace hc:=hc.ext e1
       have ntc:gt≠gc:=by omega
       replace bc:gc < W1.heap.size:=by omega
       replace eW:Ext D W1:=eW.trans e1
       have sW:D.heap.size≤W1.heap.size:=eW.size
       clear e1
       refine ⟨eW,?_⟩
       refine appendL_cnt hc (hC.ext eW) (by omega) (by omega) eW lc bc ?_
       intro kc capc W1 oc dc bc' z1 e1 keep
       have lc':D.heap.size≤kc:=by omega
       have mcs:kc≠gs:=by omega
       replace hs:=OwnE.keep hs fun b hb=>(keep b (by have h:gs=b:=Option.some.inj hb;omega) (by have h:gs=b:=Option.some.inj hb;omega))
       replace bs:gs < W1.heap.size:=by omega
       have mct:kc≠gt:=by omega
       replace ht:=OwnE.keep ht fun b hb=>(keep b (by have h:gt=b:=Option.some.inj hb;omega) (by have h:gt=b:=Option.some.inj hb;omega))
       replace bt:gt < W1.heap.size:=by omega
       replace eW:Ext D W1:=e1
       have sW:D.heap.size≤W1.heap.size:=eW.size
       clear e1 keep
       refine ⟨eW,?_⟩
       unfold n11c34
       rw [own_q2]
       refine appendL_sta hs (hS.ext eW) (by omega) (by omega) eW ls bs ?_
       intro ks caps W1 os ds bs' z1 e1 keep
       have ls':D.heap.size≤ks:=by omega
       have msc:ks≠kc:=by omega
       replace oc:=OwnE.keep oc fun b hb=>(keep b (by have h:kc=b:=Option.some.inj hb;omega) (by have h:kc=b:=Option.some.inj hb;omega))
       replace bc':kc < W1.heap.size:=by omega
       have mst:ks≠gt:=by omega
       replace ht:=OwnE.keep ht fun b hb=>(keep b (by have h:gt=b:=Option.some.inj hb;omega) (by have h:gt=b:=Option.some.inj hb;omega))
       replace bt:gt < W1.heap.size:=by omega
       replace eW:Ext D W1:=e1
       have sW:D.heap.size≤W1.heap.size:=eW.size
       clear e1 keep
       refine ⟨eW,?_⟩
       unfold n11c33
       refine appendL_stp ht (hT.ext eW) (by omega) (by omega) eW lt bt ?_
       intro kt capt W1 ot dt bt' z1 e1 keep
       have lt':D.heap.size≤kt:=by omega
       have mts:kt≠ks:=by omega
       replace os:=OwnE.keep os fun b hb=>(keep b (by have h:ks=b:=Option.some.inj hb;omega) (by have h:ks=b:=Option.some.inj hb;omega))
       replace bs':ks < W1.heap.size:=by omega
       have mtc:kt≠kc:=by omega
       replace oc:=OwnE.keep oc fun b hb=>(keep b (by have h:kc=b:=Option.some.inj hb;omega) (by have h:kc=b:=Option.some.inj hb;omega))
       replace bc':kc < W1.heap.size:=by omega
       replace eW:Ext D W1:=e1
       have sW:D.heap.size≤W1.heap.size:=eW.size
       clear e1 keep
       refine ⟨eW,?_⟩
       unfold n11c32
       exact own_leaf eD eW h1 h2 (by omega) (by omega) (by omega) (by omega) (by omega) (Nat.le_refl _) oc os ot (fun b hb=>by have h:kc=b:=Option.some.inj hb;omega) (fun b hb=>by have h:ks=b:=Option.some.inj hb;omega) (fun b hb=>by have h:kt=b:=Option.some.inj hb;omega)
   · refine own_build_t (base:=w0.heap.size) (by omega) ?_
     intro gt W1 ht zt e1
     have bt:gt < W1.heap.size:=by omega
     have lt:D.heap.size≤gt:=by omega
     replace hs:=hs.ext e1
     have nts:gt≠gs:=by omega
     replace bs:gs < W1.heap.size:=by omega
     replace eW:Ext D W1:=eW.trans e1
     have sW:D.heap.size≤W1.heap.size:=eW.size
     clear e1
     refine ⟨eW,?_⟩
     unfold n11c39
     refine own_build_c (base:=w0.heap.size) (by omega) ?_
     intro gc W1 hc zc e1
     have bc:gc < W1.heap.size:=by omega
     have lc:D.heap.size≤gc:=by omega
     replace hs:=hs.ext e1
     have ncs:gc≠gs:=by omega
     replace bs:gs < W1.heap.size:=by omega
     replace ht:=ht.ext e1
     have nct:gc≠gt:=by omega
     replace bt:gt < W1.heap.size:=by omega
     replace eW:Ext D W1:=eW.trans e1
     have sW:D.heap.size≤W1.heap.size:=eW.size
     clear e1
     refine ⟨eW,?_⟩
     refine appendL_cnt hc (hC.ext eW) (by omega) (by omega) eW lc bc ?_
     intro kc capc W1 oc dc bc' z1 e1 keep
     have lc':D.heap.size≤kc:=by omega
     have mcs:kc≠gs:=by omega
     replace hs:=OwnE.keep hs fun b hb=>(keep b (by have h:gs=b:=Option.some.inj hb;omega) (by have h:gs=b:=Option.some.inj hb;omega))
     replace bs:gs < W1.heap.size:=by omega
     have mct:kc≠gt:=by omega
     replace ht:=OwnE.keep ht fun b hb=>(keep b (by have h:gt=b:=Option.some.inj hb;omega) (by have h:gt=b:=Option.some.inj hb;omega))
     replace bt:gt < W1.heap.size:=by omega
     replace eW:Ext D W1:=e1
     have sW:D.heap.size≤W1.heap.size:=eW.size
     clear e1 keep
     refine ⟨eW,?_⟩
     unfold n11c38
     rw [own_q2]
     refine appendL_sta hs (hS.ext eW) (by omega) (by omega) eW ls bs ?_
     intro ks caps W1 os ds bs' z1 e1 keep
     have ls':D.heap.size≤ks:=by omega
     have mst:ks≠gt:=by omega
     replace ht:=OwnE.keep ht fun b hb=>(keep b (by have h:gt=b:=Option.some.inj hb;omega) (by have h:gt=b:=Option.some.inj hb;omega))
     replace bt:gt < W1.heap.size:=by omega
     have msc:ks≠kc:=by omega
     replace oc:=OwnE.keep oc fun b hb=>(keep b (by have h:kc=b:=Option.some.inj hb;omega) (by have h:kc=b:=Option.some.inj hb;omega))
     replace bc':kc < W1.heap.size:=by omega
     replace eW:Ext D W1:=e1
     have sW:D.heap.size≤W1.heap.size:=eW.size
     clear e1 keep
     refine ⟨eW,?_⟩
     unfold n11c37
     refine appendL_stp ht (hT.ext eW) (by omega) (by omega) eW lt bt ?_
     intro kt capt W1 ot dt bt' z1 e1 keep
     have lt':D.heap.size≤kt:=by omega
     have mts:kt≠ks:=by omega
     replace os:=OwnE.keep os fun b hb=>(keep b (by have h:ks=b:=Option.some.inj hb;omega) (by have h:ks=b:=Option.some.inj hb;omega))
     replace bs':ks < W1.heap.size:=by omega
     have mtc:kt≠kc:=by omega
     replace oc:=OwnE.keep oc fun b hb=>(keep b (by have h:kc=b:=Option.some.inj hb;omega) (by have h:kc=b:=Option.some.inj hb;omega))
     replace bc':kc < W1.heap.size:=by omega
     replace eW:Ext D W1:=e1
     have sW:D.heap.size≤W1.heap.size:=eW.size
     clear e1 keep
     refine ⟨eW,?_⟩
     unfold n11c36
     exact own_leaf eD eW h1 h2 (by omega) (by omega) (by omega) (by omega) (by omega) (Nat.le_refl _) oc os ot (fun b hb=>by have h:kc=b:=Option.some.inj hb;omega) (fun b hb=>by have h:ks=b:=Option.some.inj hb;omega) (fun b hb=>by have h:kt=b:=Option.some.inj hb;omega)
 · refine own_build_t (base:=w0.heap.size) (by omega) ?_
   intro gt W1 ht zt e1
   have bt:gt < W1.heap.size:=by omega
   have lt:D.heap.size≤gt:=by omega
   replace eW:Ext D W1:=eW.trans e1
   have sW:D.heap.size≤W1.heap.size:=eW.size
   clear e1
   refine ⟨eW,?_⟩
   unfold n11c52
   refine ⟨?_,?_⟩
   · refine own_build_c (base:=w0.heap.size) (by omega) ?_
     intro gc W1 hc zc e1
     have bc:gc < W1.heap.size:=by omega
     have lc:D.heap.size≤gc:=by omega
     replace ht:=ht.ext e1
     have nct:gc≠gt:=by omega
     replace bt:gt < W1.heap.size:=by omega
     replace eW:Ext D W1:=eW.trans e1
     have sW:D.heap.size≤W1.heap.size:=eW.size
     clear e1
     refine ⟨eW,?_⟩
     unfold n11c47
     refine ⟨?_,?_⟩
     · refine appendL_cnt hc (hC.ext eW) (by omega) (by omega) eW lc bc ?_
       intro kc capc W1 oc dc bc' z1 e1 keep
       have lc':D.heap.size≤kc:=by omega
       have mct:kc≠gt:=by omega
       replace ht:=OwnE.keep ht fun b hb=>(keep b (by have h:gt=b:=Option.some.inj hb;omega) (by have h:gt=b:=Option.some.inj hb;omega))
       replace bt:gt < W1.heap.size:=by omega
       replace eW:Ext D W1:=e1
       have sW:D.heap.size≤W1.heap.size:=eW.size
       clear e1 keep
       refine ⟨eW,?_⟩
       unfold n11c43
       rw [own_q2]
       refine own_build_s (base:=w0.heap.size) (by omega) ?_
       intro gs W1 hs zs e1
       have bs:gs < W1.heap.size:=by omega
       have ls:D.heap.size≤gs:=by omega
       replace ht:=ht.ext e1
       have nst:gs≠gt:=by omega
       replace bt:gt < W1.heap.size:=by omega
       replace oc:=oc.ext e1
       have nsc:gs≠kc:=by omega
       replace bc':kc < W1.heap.size:=by omega
       replace eW:Ext D W1:=eW.trans e1
       have sW:D.heap.size≤W1.heap.size:=eW.size
       clear e1
       refine ⟨eW,?_⟩
       refine appendL_sta hs (hS.ext eW) (by omega) (by omega) eW ls bs ?_
       intro ks caps W1 os ds bs' z1 e1 keep
       have ls':D.heap.size≤ks:=by omega
       have mst:ks≠gt:=by omega
       replace ht:=OwnE.keep ht fun b hb=>(keep b (by have h:gt=b:=Option.some.inj hb;omega) (by have h:gt=b:=Option.some.inj hb;omega))
       replace bt:gt < W1.heap.size:=by omega
       have msc:ks≠kc:=by omega
       replace oc:=OwnE.keep oc fun b hb=>(keep b (by have h:kc=b:=Option.some.inj hb;omega) (by have h:kc=b:=Option.some.inj hb;omega))
       replace bc':kc < W1.heap.size:=by omega
       replace eW:Ext D W1:=e1
       have sW:D.heap.size≤W1.heap.size:=eW.size
       clear e1 keep
       refine ⟨eW,?_⟩
       unfold n11c42
       refine appendL_stp ht (hT.ext eW) (by omega) (by omega) eW lt bt ?_
       intro kt capt W1 ot dt bt' z1 e1 keep
       have lt':D.heap.size≤kt:=by omega
       have mtc:kt≠kc:=by omega
       replace oc:=OwnE.keep oc fun b hb=>(keep b (by have h:kc=b:=Option.some.inj hb;omega) (by have h:kc=b:=Option.some.inj hb;omega))
       replace bc':kc < W1.heap.size:=by omega
       have mts:kt≠ks:=by omega
       replace os:=OwnE.keep os fun b hb=>(keep b (by have h:ks=b:=Option.some.inj hb;omega) (by have h:ks=b:=Option.some.inj hb;omega))
       replace bs':ks < W1.heap.size:=by omega
       replace eW:Ext D W1:=e1
       have sW:D.heap.size≤W1.heap.size:=eW.size
       clear e1 keep
       refine ⟨eW,?_⟩
       unfold n11c41
       exact own_leaf eD eW h1 h2 (by omega) (by omega) (by omega) (by omega) (by omega) (Nat.le_refl _) oc os ot (fun b hb=>by have h:kc=b:=Option.some.inj hb;omega) (fun b hb=>by have h:ks=b:=Option.some.inj hb;omega) (fun b hb=>by have h:kt=b:=Option.some.inj hb;omega)
     · refine own_build_s (base:=w0.heap.size) (by omega) ?_
       intro gs W1 hs zs e1
       have bs:gs < W1.heap.size:=by omega
       have ls:D.heap.size≤gs:=by omega
       replace ht:=ht.ext e1
       have nst:gs≠gt:=by omega
       replace bt:gt < W1.heap.size:=by omega
       replace hc:=hc.ext e1
       have nsc:gs≠gc:=by omega
       replace bc:gc < W1.heap.size:=by omega
       replace eW:Ext D W1:=eW.trans e1
       have sW:D.heap.size≤W1.heap.size:=eW.size
       clear e1
       refine ⟨eW,?_⟩
       refine appendL_cnt hc (hC.ext eW) (by omega) (by omega) eW lc bc ?_
       intro kc capc W1 oc dc bc' z1 e1 keep
       have lc':D.heap.size≤kc:=by omega
       have mct:kc≠gt:=by omega
       replace ht:=OwnE.keep ht fun b hb=>(keep b (by have h:gt=b:=Option.some.inj hb;omega) (by have h:gt=b:=Option.some.inj hb;omega))
       replace bt:gt < W1.heap.size:=by omega
       have mcs:kc≠gs:=by omega
       replace hs:=OwnE.keep hs fun b hb=>(keep b (by have h:gs=b:=Option.some.inj hb;omega) (by have h:gs=b:=Option.some.inj hb;omega))
       replace bs:gs < W1.heap.size:=by omega
       replace eW:Ext D W1:=e1
       have sW:D.heap.size≤W1.heap.size:=eW.size
       clear e1 keep
       refine ⟨eW,?_⟩
       unfold n11c46
       rw [own_q2]
       refine appendL_sta hs (hS.ext eW) (by omega) (by omega) eW ls bs ?_
       intro ks caps W1 os ds bs' z1 e1 keep
       have ls':D.heap.size≤ks:=by omega
       have mst:ks≠gt:=by omega
       replace ht:=OwnE.keep ht fun b hb=>(keep b (by have h:gt=b:=Option.some.inj hb;omega) (by have h:gt=b:=Option.some.inj hb;omega))
       replace bt:gt < W1.heap.size:=by omega
       have msc:ks≠kc:=by omega
       replace oc:=OwnE.keep oc fun b hb=>(keep b (by have h:kc=b:=Option.some.inj hb;omega) (by have h:kc=b:=Option.some.inj hb;omega))
       replace bc':kc < W1.heap.size:=by omega
       replace eW:Ext D W1:=e1
       have sW:D.heap.size≤W1.heap.size:=eW.size
       clear e1 keep
       refine ⟨eW,?_⟩
       unfold n11c45
       refine appendL_stp ht (hT.ext eW) (by omega) (by omega) eW lt bt ?_
       intro kt capt W1 ot dt bt' z1 e1 keep
       have lt':D.heap.size≤kt:=by omega
       have mtc:kt≠kc:=by omega
       replace oc:=OwnE.keep oc fun b hb=>(keep b (by have h:kc=b:=Option.some.inj hb;omega) (by have h:kc=b:=Option.some.inj hb;omega))
       replace bc':kc < W1.heap.size:=by omega
       have mts:kt≠ks:=by omega
       replace os:=OwnE.keep os fun b hb=>(keep b (by have h:ks=b:=Option.some.inj hb;omega) (by have h:ks=b:=Option.some.inj hb;omega))
       replace bs':ks < W1.heap.size:=by omega
       replace eW:Ext D W1:=e1
       have sW:D.heap.size≤W1.heap.size:=eW.size
       clear e1 keep
       refine ⟨eW,?_⟩
       unfold n11c44
       exact own_leaf eD eW h1 h2 (by omega) (by omega) (by omega) (by omega) (by omega) (Nat.le_refl _) oc os ot (fun b hb=>by have h:kc=b:=Option.some.inj hb;omega) (fun b hb=>by have h:ks=b:=Option.some.inj hb;omega) (fun b hb=>by have h:kt=b:=Option.some.inj hb;omega)
   · refine own_build_s (base:=w0.heap.size) (by omega) ?_
     intro gs W1 hs zs e1
     have bs:gs < W1.heap.size:=by omega
     have ls:D.heap.size≤gs:=by omega
     replace ht:=ht.ext e1
     have nst:gs≠gt:=by omega
     replace bt:gt < W1.heap.size:=by omega
     replace eW:Ext D W1:=eW.trans e1
     have sW:D.heap.size≤W1.heap.size:=eW.size
     clear e1
     refine ⟨eW,?_⟩
     unfold n11c51
     refine own_build_c (base:=w0.heap.size) (by omega) ?_
     intro gc W1 hc zc e1
     have bc:gc < W1.heap.size:=by omega
     have lc:D.heap.size≤gc:=by omega
     replace ht:=ht.ext e1
     have nct:gc≠gt:=by omega
     replace bt:gt < W1.heap.size:=by omega
     replace hs:=hs.ext e1
     have ncs:gc≠gs:=by omega
     replace bs:gs < W1.heap.size:=by omega
     replace eW:Ext D W1:=eW.trans e1
     have sW:D.heap.size≤W1.heap.size:=eW.size
     clear e1
     refine ⟨eW,?_⟩
     refine appendL_cnt hc (hC.ext eW) (by omega) (by omega) eW lc bc ?_
     intro kc capc W1 oc dc bc' z1 e1 keep
     have lc':D.heap.size≤kc:=by omega
     have mct:kc≠gt:=by omega
     replace ht:=OwnE.keep ht fun b hb=>(keep b (by have h:gt=b:=Option.some.inj hb;omega) (by have h:gt=b:=Option.some.inj hb;omega))
     replace bt:gt < W1.heap.size:=by omega
     have mcs:kc≠gs:=by omega
     replace hs:=OwnE.keep hs fun b hb=>(keep b (by have h:gs=b:=Option.some.inj hb;omega) (by have h:gs=b:=Option.some.inj hb;omega))
     replace bs:gs < W1.heap.size:=by omega
     replace eW:Ext D W1:=e1
     have sW:D.heap.size≤W1.heap.size:=eW.size
     clear e1 keep
     refine ⟨eW,?_⟩
     unfold n11c50
     rw [own_q2]
     refine appendL_sta hs (hS.ext eW) (by omega) (by omega) eW ls bs ?_
     intro ks caps W1 os ds bs' z1 e1 keep
     have ls':D.heap.size≤ks:=by omega
     have mst:ks≠gt:=by omega
     replace ht:=OwnE.keep ht fun b hb=>(keep b (by have h:gt=b:=Option.some.inj hb;omega) (by have h:gt=b:=Option.some.inj hb;omega))
     replace bt:gt < W1.heap.size:=by omega
     have msc:ks≠kc:=by omega
     replace oc:=OwnE.keep oc fun b hb=>(keep b (by have h:kc=b:=Option.some.inj hb;omega) (by have h:kc=b:=Option.some.inj hb;omega))
     replace bc':kc < W1.heap.size:=by omega
     replace eW:Ext D W1:=e1
     have sW:D.heap.size≤W1.heap.size:=eW.size
     clear e1 keep
     refine ⟨eW,?_⟩
     unfold n11c49
     refine appendL_stp ht (hT.ext eW) (by omega) (by omega) eW lt bt ?_
     intro kt capt W1 ot dt bt' z1 e1 keep
     have lt':D.heap.size≤kt:=by omega
     have mts:kt≠ks:=by omega
     replace os:=OwnE.keep os fun b hb=>(keep b (by have h:ks=b:=Option.some.inj hb;omega) (by have h:ks=b:=Option.some.inj hb;omega))
     replace bs':ks < W1.heap.size:=by omega
     have mtc:kt≠kc:=by omega
     replace oc:=OwnE.keep oc fun b hb=>(keep b (by have h:kc=b:=Option.some.inj hb;omega) (by have h:kc=b:=Option.some.inj hb;omega))
     replace bc':kc < W1.heap.size:=by omega
     replace eW:Ext D W1:=e1
     have sW:D.heap.size≤W1.heap.size:=eW.size
     clear e1 keep
     refine ⟨eW,?_⟩
     unfold n11c48
     exact own_leaf eD eW h1 h2 (by omega) (by omega) (by omega) (by omega) (by omega) (Nat.le_refl _) oc os ot (fun b hb=>by have h:kc=b:=Option.some.inj hb;omega) (fun b hb=>by have h:ks=b:=Option.some.inj hb;omega) (fun b hb=>by have h:kt=b:=Option.some.inj hb;omega)
def RowS (w:World) (lo n:Nat) (T:TypeId) (v:Value) (len:Nat):Prop:=(v = .slice none 0 0∧len=0)∨∃ g cap cur,v = .slice (some ⟨g,0,none⟩) len cap∧lo≤g∧w.heap[g]?=some (.cells cur T (0,0))∧len≤cap∧cur.size=cap*n
theorem RowS.of {α:Type} {w:World} {lo n:Nat} {T:TypeId} {enc:α→List Value} {v:Value} {l:List α} (h:OwnE w lo T n enc v l):RowS w lo n T v l.length:=by
 rcases h.2 with ⟨a,b⟩ | ⟨g,cap,cur,a,b,c,d,_,e,_⟩
 · exact .inl ⟨a,b⟩
 · exact .inr ⟨g,cap,cur,a,b,c,d,e⟩
section
variable {A w5:World} {p7 lo:Nat} {q:RolD} {s:ByteArray} {sv cv tv t3 t5 t6 t35 t38:Value} {R:RT} {ds:List Deferred}
theorem st_writes (eA:Ext A w5) (hlo:A.heap.size≤lo) (h7:w5.heap[p7]?=some (.cells (rolCells q sv cv tv).toArray TRol (0,0))) (hr:RowS w5 lo 9 71 tv q.steps.length) (hl:q.steps.length≤1000000)
 (hk:∀ w',Ext A w'→w'.heap.size=w5.heap.size→(∀ b,tv.ownBlock≠some b→w'.heap[b]?=w5.heap[b]?)→n7c42 (.string s) t3 t5 t6 t35 t38 ds R w') :
 loop1 (fun t10 w next2=>n7c44 (.string s) t3 t5 t6 (.pointer (some ⟨p7,0,none⟩)) t10 t35 t38 next2 ds R w) (.int .i64 0) w5:=by
 refine loop1_intro (fun a w=>∃ k:Nat,a = .int .i64 (k:Int)∧k≤q.steps.length∧Ext A w∧w.heap[p7]?=some (.cells (rolCells q sv cv tv).toArray TRol (0,0))∧RowS w lo 9 71 tv q.steps.length∧w.heap.size=w5.heap.size∧∀ b,tv.ownBlock≠some b→w.heap[b]?=w5.heap[b]?) (fun a _=>q.steps.length - (intOf a).toNat) ⟨0,rfl,by omega,eA,h7,hr,rfl,fun _ _=>rfl⟩ ?_
 clear h7 hr eA
 rintro _ w ⟨k,rfl,hk',eA,h7,hr,hsz,hsm⟩
 unfold n7c44
 rcases hr with ⟨hv,hn⟩ | ⟨g,cap,cur,hv,hg0,hg,hcap,hcs⟩
 · have hk0:k=0:=by omega
   subst hk0 hv
   have d1:decide (((0:Nat):Int) < ((0:Nat):Int))=false:=rfl
   simp (disch:=try exact DI) only [↓PR,QR,simprocAttr,(cells_of_heap h7).1,d1]
   exact hk _ eA hsz hsm
 subst hv
 by_cases hlt:k < q.steps.length
 case neg =>
  obtain rfl:k=q.steps.length:=by omega
  have d1:decide ((q.steps.length:Int) < (q.steps.length:Int))=false:=decide_eq_false (by omega)
  simp (disch:=try exact DI) only [↓PR,QR,simprocAttr,(cells_of_heap h7).1,d1]
  exact hk _ eA hsz hsm
 have dk:(k:Int) < (q.steps.length:Int):=by omega
 have d1:decide ((k:Int) < (q.steps.length:Int))=true:=decide_eq_true dk
 have hw:IntKind.i64.wrap ((k:Int)+1)=((k+1:Nat):Int):=by rw [wrap_ok (by omega) (by omega)];omega
 have hne:g≠p7:=fun e=>by rw [e,h7] at hg;cases hg
 obtain ⟨u,hu⟩:∃ u,cur[k*9]?=some u:=⟨_,Array.getElem?_eq_getElem (by rw [hcs];omega)⟩
 have cu:w.cell? ⟨g,k*9,none⟩=some u:=by rw [(cells_of_heap hg).1];exact hu
 have fu:w.frozen? ⟨g,k*9,none⟩=false:=(cells_of_heap hg).2 _
 have h7':(w.setCell ⟨g,k*9,none⟩ (.string s)).heap[p7]?=some (.cells (rolCells q sv cv (.slice (some ⟨g,0,none⟩) q.steps.length cap)).toArray TRol (0,0)):=(Only.setCell w g _ _ p7 (Ne.symm hne)).trans h7
 simp (disch:=try exact DI) only [↓PR,QR,simprocAttr,(cells_of_heap h7).1,d1,dk,↓n7c43,Nat.zero_add,Nat.add_zero,cu,fu,hw]
 refine ⟨⟨k+1,rfl,by omega,eA.setCell (p:=⟨g,k*9,none⟩) (by show A.heap.size≤g;omega) _,h7,.inr ⟨g,cap,_,rfl,hg0,heap_set hg _,hcap,by simp [hcs]⟩,hsz,fun b hb=>?_⟩,meas_lt (kd := .i64) hlt⟩
 exact (Only.setCell w g _ _ b (fun e=>hb (by rw [e];rfl))).trans (hsm b hb)
end
theorem RoleSteps_ret (w0:World) (v:Value) (r:RolD) (s:ByteArray) (many:Int) (hr:RolVal w0 v r) (hi:RolIn r) (hE:EnvOK w0):Ret Pg 9 #[v,.string s,.int .i64 many] w0 fun u w'=>u = .bool true∧Ext w0 w':=by
 obtain ⟨sv,cv,tv,rfl,hS,hC,hT,o1,o2,o3⟩:=hr.op
 refine n7s (R:=retR _) ?_;unfold n7
 change opV Pg _ _ _ _
 rw [op_boxA]
 have h3a:=heap_new w0 (rolCells r sv cv tv).toArray TRol
 have eA:Ext w0 (w0.alloc (.cells (rolCells r sv cv tv).toArray TRol)):=ee
 generalize (w0.alloc (.cells (rolCells r sv cv tv).toArray TRol))=B at h3a eA ⊢
 have s3:w0.heap.size≤B.heap.size:=eA.size
 generalize hp3:w0.heap.size=p3 at h3a ⊢
 simp (disch:=try exact DI) only [↓PR,QR,simprocAttr,fun o o'=>(cells_of_heap ((((Ext.refl B).alloc o).alloc o').obj h3a)).1]
 simp only [World.size_alloc]
 generalize hW:World.alloc (World.alloc B _) _=W
 have eBW:Ext B W:=by rw [← hW];exact ((Ext.refl B).alloc _).alloc _
 have x5:W.heap[B.heap.size]?=some (.cells #[.int .i64 many] 3 (0,0)):=by rw [← hW];simp (disch:=try exact DI) only [↓PR,QR,simprocAttr]
 have x6:W.heap[B.heap.size+1]?=some (.cells #[.bool false] 4 (0,0)):=by rw [← hW];simp (disch:=try exact DI) only [↓PR,QR,simprocAttr]
 clear hW
 generalize hp5:B.heap.size=p5 at x5 x6 ⊢
 generalize hp6:p5+1=p6 at x6 ⊢
 have eW:=eA.trans eBW
 have h3:=eBW.obj h3a
 have hV:∀ w,Ext W w→RolVal w (.agg (rolCells r sv cv tv).toArray) r:=fun w e=>⟨_,_,_,rfl,hS.ext (eW.trans e),hC.ext (eW.trans e),hT.ext (eW.trans e)⟩
 have l6:w0.heap.size≤p6:=by omega
 refine callK_ret (large_ret W _ r (hV W (Ext.refl W))) ?_
 rintro _ w1 ⟨e1,b,rfl,hb⟩
 have E1:=eW.trans e1
 have known:∀ w,Ext W w→n7c48 (.pointer (some ⟨p6,0,none⟩)) [] (LawR w0) w:=fun w e=>by
  unfold n7c48
  refine zcr (known_ret w (hE.ext (eW.trans e))) fun w6 e6=>?_
  have q6:=(e.trans e6).obj x6
  simp (disch:=try exact DI) only [↓PR,QR,simprocAttr,(cells_of_heap q6).1,(cells_of_heap q6).2]
  have r6:(w6.setCell ⟨p6,0,none⟩ (.bool true)).heap[p6]?=some (.cells #[.bool true] 4 (0,0)):=by simpa using heap_set (o:=0) q6 (.bool true)
  simp (disch:=try exact DI) only [↓PR,QR,simprocAttr,outX_nil,retV,resOne,(cells_of_heap r6).1]
  exact ⟨by trivial,(eW.trans (e.trans e6)).setCell (p:=⟨p6,0,none⟩) l6 _⟩
 unfold n7c50
 cases b with
 | true =>
  simp (disch:=try exact DI) only [↓PR,QR,simprocAttr]
  exact known w1 e1
 | false =>
 have hF:=hb rfl
 have lt:=hF.nt
 by_cases h60:60 < s.size
 · have d1:decide ((s.size:Int) > 60)=true:=decide_eq_true (by omega)
   simp (disch:=try exact DI) only [↓PR,QR,simprocAttr,d1]
   exact known w1 e1
 have d1:decide ((s.size:Int) > 60)=false:=decide_eq_false (by omega)
 simp (disch:=try exact DI) only [↓PR,QR,simprocAttr,d1,↓n7c49,(cells_of_heap (e1.obj h3)).1]
 refine callK_ret (own_ret w1 _ r (hV w1 e1) ⟨by have:=hF.nc;omega,by have:=hF.ns;omega,by omega⟩) ?_
 rintro _ w2 ⟨⟨sv2,cv2,tv2,rfl,g1,g2,g3⟩,e2⟩
 have f1:=own_one g1 fun _=>rfl
 have f2:=own_one g2 fun _=>rfl
 have f3:=own_one g3 fun _=>rfl
 have e02:=e1.trans e2
 have eY:Ext w2 (w2.alloc (.cells (rolCells r sv2 cv2 tv2).toArray TRol)):=ee
 have h7:(w2.alloc (.cells (rolCells r sv2 cv2 tv2).toArray TRol)).heap[w2.heap.size]?=some (.cells (rolCells r sv2 cv2 tv2).toArray TRol (0,0)):=heap_new _ _ _
 have sY:(w2.alloc (.cells (rolCells r sv2 cv2 tv2).toArray TRol)).heap.size=w2.heap.size+1:=World.size_alloc ..
 simp (disch:=try exact DI) only [↓PR,QR,simprocAttr,↓n7c47]
 change callK _ _ _ _ (w2.alloc (.cells (rolCells r sv2 cv2 tv2).toArray TRol)) _
 generalize (w2.alloc (.cells (rolCells r sv2 cv2 tv2).toArray TRol))=Y at eY h7 sY ⊢
 generalize hp7:w2.heap.size=p7 at h7 sY ⊢
 have hvx:∀ w,Ext Y w→RolVal w (.agg (rolCells r sv2 cv2 tv2).toArray) r:=fun w e=>RolOwn.val (base:=0) ⟨sv2,cv2,tv2,rfl,(g1.ext (eY.trans e)).base (Nat.zero_le _),(g2.ext (eY.trans e)).base (Nat.zero_le _),(g3.ext (eY.trans e)).base (Nat.zero_le _)⟩
 refine callK_ret (Messages_ret Y _ r (hvx Y (Ext.refl Y)) (by omega)) ?_
 rintro mv w3 ⟨⟨hM,hMb⟩,e3⟩
 have e23:=eY.trans e3
 simp (disch:=try exact DI) only [↓PR,QR,simprocAttr,↓n7c46,(cells_of_heap (e3.obj h7)).1]
 refine callK_ret (From_ret w3 _ r s (hvx w3 e3) (by omega)) ?_
 rintro _ w4 ⟨⟨q5,q3,lv,rfl,⟨b5,b3,bT⟩,⟨l5,l3⟩,hO⟩,e4⟩
 have e34:=e23.trans e4
 have E4:=e02.trans e34
 have h74:=(e3.trans e4).obj h7
 have hlo:=World.ownsRow.lt g3
 have s1:=e1.size
 have s3':=e3.size
 have s4:=e4.size
 have sW:=eW.size
 have lp6:p6 < W.heap.size:=(Array.getElem?_eq_some_iff.1 x6).1
 unfold n7c45
 simp (disch:=try exact DI) only [↓PR,QR,simprocAttr]
 refine st_writes (A:=w1) (lo:=w1.heap.size) (e2.trans e34) (Nat.le_refl _) h74 (RowS.of (g3.ext e34)) (by omega) fun w5 e5 sz5 sm5=>?_
 have E5:=e1.trans e5
 have hT5:=hT.ext (eW.trans E5)
 have sm:∀ b,w2.heap.size≤b→w5.heap[b]?=w4.heap[b]?:=fun b hb=>sm5 b fun e=>by have:=(hlo b e).2;omega
 have hM5:SliceOf w5 1 EStr mv (sortB (msgsL r.steps)):=SliceOf_same (hM.ext keptStr e4) (fun A n c h=>sm _ (by have:=(hMb A n c h).1;omega)) fun _ _ h=>h
 have hO5:OwnE w5 w3.heap.size 71 9 stpCells lv r.steps:=OwnE.keep hO fun b hb=>sm b (by have:=(World.ownsRow.lt hO b hb).1;omega)
 have hFr5:FrAt q5 q3 lv r.steps s w5:=⟨(sm q5 (by omega)).trans b5,(sm q3 (by omega)).trans b3,hO5.slice (fun _=>rfl) (fun _ _=>rfl)⟩
 have h35:=E5.obj h3
 unfold n7c42
 simp (disch:=try exact DI) only [↓PR,QR,simprocAttr]
 have e6:Ext w5 (w5.alloc (.cells #[.slice none 0 0] 78)):=ee
 have h11:=heap_new w5 #[.slice none 0 0] 78
 generalize (w5.alloc (.cells #[.slice none 0 0] 78))=w6 at e6 h11 ⊢
 refine st_loop h35 hT5 (by omega) hM5 (fun x hx hs=>msgs_speak hx hs) (Nat.le_refl _) e6 h11 fun w7 v7 e7 h117 hL7=>?_
 refine st_sorted (hM5.ext keptStr e7) (by omega) fun w8 e8=>?_
 have e58:=e7.trans e8
 have E8:=E5.trans e58
 exact st_turns (eW.trans E8) (E8.obj h3) (hT5.ext e58) (by omega) (E8.obj x5) (E8.obj x6) l6 (e8.obj h117) (SliceOf.ext (fun _ _ _ _ _ h=>h) hL7 e8) (hFr5.ext e58) fun w e=>hE.ext e
end Go.Proofs.YtngflmjncplkaaaGreatDoor
namespace Go.Proofs.YtngflmjncplkaaaGreatDoor
open Sw
open Go.RowKit Go.Deep
def role_laid:List (String×DataW Unit):=[("math/bits.deBruijn32tab", Rows.laid_math_bits_deBruijn32tab),("math/bits.deBruijn64tab", Rows.laid_math_bits_deBruijn64tab),("internal/strconv.uint64pow10", Rows.laid_internal_strconv_uint64pow10),("unicode/utf8.acceptRanges", Rows.laid_unicode_utf8_acceptRanges),("strconv.ErrRange", Rows.laid_strconv_ErrRange),("strconv.ErrSyntax", Rows.laid_strconv_ErrSyntax),("unicode/utf8.first", Rows.laid_unicode_utf8_first)]
theorem role_own:ownKnob Pg.godebug=none:=by kernel_rfl
theorem role_laidOut:laidOutB Pg=true:=by kernel_rfl
theorem role_met (os:Os) (args:Array Value):laidMetH Pg role_laid ((World.laidAll Pg os role_laid).forCall (fun _ _=>0) ⟨#[],args,[]⟩).memory:=by
 rw [MakeChecks.laidMetH_plain _ _ _ (by kernel_rfl)]
 exact laidMet_laidAll _ (by kernel_rfl) (by kernel_rfl)
theorem role_tab {W:World} (h:laidMetH Pg role_laid W):TabOK W:=by
 rw [MakeChecks.laidMetH_plain _ _ _ (by kernel_rfl)] at h
 have h3:=laidMet.tail (laidMet.tail h)
 have he:(Rows.laid_internal_strconv_uint64pow10:DataW Unit)=Go.Lib.tabData .u64 Go.Lib.pow10Tab:=by kernel_rfl
 rw [he] at h3
 obtain ⟨g,hg⟩:=Option.isSome_iff_exists.1 gPow
 have hty:(Pg.globals[g]?).map (·.type)=some 197:=by
  have h1:(Pg.globalNamed "internal/strconv.uint64pow10").bind (fun g=>(Pg.globals[g]?).map (·.type))=some 197:=by kernel_rfl
  rw [hg] at h1
  exact h1
 exact Go.Lib.tabIs_of_head hg hty Tryz.underlying197 Tryz.underlying161 (by kernel_rfl) (by kernel_rfl) h3
theorem role_star : "*" ++ "errors.errorString" = "*errors.errorString" := by decide
theorem role_rowErr (u:TypeId) (h:Pg.typeName? 3 u=some "*errors.errorString"):u=200 :=
 typeName_ptr_named (nm := "errors.errorString") (by rw [role_star];kernel_rfl) (by kernel_rfl) (by decide) u (by rw [role_star];exact h)
theorem role_env {W:World} (hs:W.ShapedOpen Pg) (h:laidMetH Pg role_laid W):EnvOK W:=by
 refine ⟨role_tab h,Go.Proofs.cell_of_shapedOpen_int (k := .i64) hs (of_decide_eq_true (by kernel_rfl)) (zero := #[.int .i64 0]) (t:=3) (by kernel_rfl) rfl (by kernel_rfl) (by kernel_rfl) Tryz.underlying3,?_,?_⟩
 · rw [MakeChecks.laidMetH_plain _ _ _ (by kernel_rfl)] at h
   have h5:=h.tail.tail.tail.tail.tail
   obtain ⟨a,s,hv,_⟩:=laid_sentinel (g:=1) h5 (by kernel_rfl) (by kernel_rfl) Tryz.underlying130 role_rowErr Tryz.underlying200 Tryz.underlying202 rfl rfl Tryz.underlying9 (by kernel_rfl) (by kernel_rfl)
   refine ⟨_,by rw [World.var?_cell (show Pg.globalNamed "strconv.ErrSyntax" = some 1 by kernel_rfl) hv 0];rfl,.inr ⟨_,_,rfl⟩⟩
 · rw [MakeChecks.laidMetH_plain _ _ _ (by kernel_rfl)] at h
   have h5:=h.tail.tail.tail.tail
   obtain ⟨a,s,hv,_⟩:=laid_sentinel (g:=2) h5 (by kernel_rfl) (by kernel_rfl) Tryz.underlying130 role_rowErr Tryz.underlying200 Tryz.underlying202 rfl rfl Tryz.underlying9 (by kernel_rfl) (by kernel_rfl)
   refine ⟨_,by rw [World.var?_cell (show Pg.globalNamed "strconv.ErrRange" = some 2 by kernel_rfl) hv 0];rfl,.inr ⟨_,_,rfl⟩⟩
theorem handed_and {H:Type} {enc:TypeId×Value→H} {a:Assume} {C:Checked} {os:Os} {f:FuncId} {fn:Func} {s:ChangeSpec} {conds:List PathCond} {apart fresh handsOn again:Bool} {X:World→Array Value→Prop}
 (hX:∀ (w w':World) (args:Array Value),w.heap=w'.heap→X w args→X w' args)
 (own:ownKnob C.prog.godebug=none) (started:os.Started) (noInit:C.prog.inits.idxOf? f=none) (hfn:C.prog.funcs[f]?=some fn)
 (witness:∃ (w:World) (tape:Tape) (i:Input),w.os=os∧(w.forCall tape i).Shaped C.prog∧i.vars=[]∧Input.okWide C.prog (w.forCall tape i) .any w.heap.size f i ∧
  ((s.pre enc C.prog fn conds apart (w.forCall tape i).memory i.args∧X (w.forCall tape i).memory i.args)∧sizedMet enc C.prog fn (OpenSpec.ofChange s) apart (w.forCall tape i).memory i.args)∧a.holds C.prog (lone (Frame.enter C.prog f i.args .normal) [] (w.forCall tape i)))
 (contract:∀ (W:World) (base:Nat) (args:Array Value) (ds gs:List (DataW H)) (before:List MemPlace),
  (∀ (j:Nat) t v,fn.params[j]?=some t→args[j]?=some v→Value.okWide C.prog W .any base t v) →
  DataW.Whole enc C.prog fn.params.toList s.vars apart W args.toList ds gs before →
  conds.all (PathCond.test C.prog ⟨fn.params.toList,ds,s.plain.varTypes C.prog,gs⟩)=true →
  (DataW.weightsEach C.prog (fn.params.toList++s.plain.varTypes C.prog) (ds++gs)).all (· ≤ reachBytes)=true→X W args→W.ShapedOpen C.prog →
  a.holds C.prog (lone (Frame.enter C.prog f args .normal) [] W) →
  Calls C.prog f args W fun e W'=>∃ v,e = .returned v∧s.post enc C.prog fn apart fresh handsOn again W args v W') :
 ReturnsInHanded a C os f .any (fun w args=>(s.pre enc C.prog fn conds apart w args∧X w args)∧sizedMet enc C.prog fn (OpenSpec.ofChange s) apart w args) (s.post enc C.prog fn apart fresh handsOn again):=by
 refine returnsInHanded_of_calls own started noInit witness ?_
 intro w tape i _ hsh _ hok hpre hholds
 obtain ⟨_,_,_,fn',hfn',_,_,_,_,hval⟩:=hok
 have e:fn'=fn:=Option.some.inj (hfn'.symm.trans hfn)
 subst e
 obtain ⟨⟨⟨ds,gs,before,hw,hc⟩,hx⟩,hz⟩:=hpre
 have hw':=DataW.Whole.of_heap (w':=w.forCall tape i) (by rfl) hw
 refine (contract (w.forCall tape i) w.heap.size i.args ds gs before hval hw' hc (hz.weights hw) (hX _ _ _ (by rfl) hx) hsh hholds).mono fun e W' ⟨v,he,hp⟩=>?_
 subst he
 exact ChangeSpec.post_blind hp
end Go.Proofs.YtngflmjncplkaaaGreatDoor
namespace Go.Proofs.YtngflmjncplkaaaGreatDoor
open Sw
open Go.ChangeShapes Go.WideShapes Go.RowKit Go.ChangeAt Go.Deep
theorem rsteps_lifted (os:Os) (started:os.Started) (H:Type) (enc:TypeId×Value→H) :
 ReturnsInHanded {} Tryz.checked os 9 .any (fun w args=>(Rows.roleStepsSpec.pre enc Pg Tryz.f9 Rows.roleStepsRow.domain false w args∧laidMetH Pg role_laid w)∧sizedMet enc Pg Tryz.f9 (OpenSpec.ofChange Rows.roleStepsSpec) false w args) (Rows.roleStepsSpec.post enc Pg Tryz.f9 false true false false):=by
 refine handed_and (C:=Tryz.checked) (X:=fun w _=>laidMetH Pg role_laid w) (fun _ _ _ hh h=>h.of_heap hh) role_own started (by kernel_rfl) Tryz.func9
  (ChangeSpec.witness_shaped (enc:=enc) (C:=Tryz.checked) (os:=os) (X:=fun w _=>laidMetH Pg role_laid w) false (World.laidAll Pg os role_laid) #[.agg #[.string ByteArray.empty,.slice none 0 0,.slice none 0 0,.slice none 0 0],.string ByteArray.empty,.int .i64 0] 8 (World.laidAll_os _ _ _) (World.shaped_of_ZipB (by kernel_rfl) (by kernel_rfl)) (by kernel_rfl) (by kernel_rfl) (by kernel_rfl) (role_met os _)) ?_
 intro W base args ds gs before hval hW _ hsz hL hsh _
 have hW':=hW
 obtain ⟨p,q,hA0,hV,rfl,_,_⟩:=hW
 have hA:DataW.TrodAll enc Pg W 0 (fun _=>true) true Tryz.f9.params.toList args.toList ds p:=hA0
 rw [Tryz.params9] at hA hval hsz
 obtain ⟨v0,vs0,d0,ds0,p0,q0,ha0,rfl,rfl,h0,r0⟩:=trodAll_cons hA
 obtain ⟨v1,vs1,d1,ds1,p1,q1,ha1,rfl,rfl,h1,r1⟩:=trodAll_cons r0
 obtain ⟨v2,vs2,d2,ds2,p2,q2,ha2,rfl,rfl,h2,r2⟩:=trodAll_cons r1
 obtain ⟨rfl,rfl,rfl⟩:=trodAll_nil r2
 subst ha2 ha1
 obtain rfl:args = #[v0,v1,v2]:=by cases args;simp_all
 obtain ⟨f0,hf0,hs0⟩:=rol_val (hval 0 _ v0 rfl rfl) h0 (reached_of (j:=0) hsz rfl rfl)
 obtain ⟨s1,rfl,_⟩:=open_str Tryz.underlying9 (hval 1 _ v1 rfl rfl) h1
 obtain ⟨n2,rfl,_,_,hw2⟩:=open_int Tryz.underlying3 (hval 2 _ v2 rfl rfl) h2
 refine Calls.mono (RoleSteps_ret W v0 f0 s1 n2 hf0 hs0 (role_env hsh hL)) fun e W' ⟨v,he,hv,hx⟩=>?_
 subst he hv
 exact ⟨_,rfl,law_post role_laidOut (by decide +kernel) rfl hW' hx rfl Tryz.underlying4 rfl rfl rfl⟩
theorem rsteps_holds:Rows.RoleStepsSaid :=
 OpenClaim.holds_of_wide 9 Tryz.f9 rfl rfl rfl rfl rfl rfl rfl ⟨rfl,rfl,rfl,rfl,rfl⟩ rfl rfl rfl rfl rfl (by kernel_rfl) Tryz.func9 (by kernel_rfl)
  (of_decide_eq_true (by kernel_rfl)) (by unfold Func.isWrapper;first | (rw [if_pos (by decide +kernel)];kernel_rfl) | (rw [if_neg (by decide +kernel)];exact ⟨rfl,rfl⟩))
  (fun os started H enc _=>rsteps_lifted os started H enc)
theorem rsteps_card:Rows.RoleStepsCardSaid :=
 Claim7.holds_tied_plain_at .later [] [.data,.data,.data,.data,.sentinel,.sentinel,.pinned] true (true, "805d62ceadf1c0eaaccbbc96f2703f3718560c4f9884483faf4dfcc0b7041b30") true
  rsteps_holds (fun _ h=>by cases h) (by kernel_rfl) (fun _ h=>by cases h) roleSteps_row_tie rfl ⟨rfl,rfl⟩ (by kernel_rfl) rfl
  (fun f fn hf hfn=>by
   obtain rfl:f=9:=Option.some.inj ((show Pg.funcNamed "phrasebook/phrasebooklaw28.RoleSteps" = some 9 by kernel_rfl).symm.trans hf) |>.symm
   obtain rfl:fn=Tryz.f9:=(Option.some.inj (Tryz.func9.symm.trans hfn)).symm
   exact ⟨by kernel_rfl,fun j t ht=>by
    rw [Tryz.params9] at ht
    have hm:t∈[26,9,3]:=by simpa using Array.mem_of_getElem? ht
    have hall:([26,9,3].all fun u=>!Pg.wantsStandIn u)=true:=by kernel_rfl
    exact (show Pg.wantsStandIn t=false by simpa using List.all_eq_true.1 hall t hm)⟩)
  (by kernel_rfl)
end Go.Proofs.YtngflmjncplkaaaGreatDoor
