/-
  Lemmas for the claim.
-/
import Derived.Test.YtngflmjncplkaaaGreatDoorUe3
set_option linter.all false
set_option maxHeartbeats 4000000
set_option maxRecDepth 100000
namespace Go.Proofs.YtngflmjncplkaaaGreatDoor
open Sw
open Go.RowKit (intOf Below)
structure EnvOK (w:World):Prop where
 tab:TabOK w
 len:∃ m,w.cell? ⟨0,0,none⟩=some (.int .i64 m)
 syn:∃ ev,w.cell? ⟨1,0,none⟩=some ev∧(ev = .nilIface∨∃ te pe,ev = .iface te pe)
 rng:∃ ev,w.cell? ⟨2,0,none⟩=some ev∧(ev = .nilIface∨∃ te pe,ev = .iface te pe)
theorem EnvOK.ext {w w':World} (h:EnvOK w) (e:Ext w w'):EnvOK w':=⟨h.tab.ext e,h.len.imp fun _ h=>e.cell h,h.syn.imp fun _ h=>⟨e.cell h.1,h.2⟩,h.rng.imp fun _ h=>⟨e.cell h.1,h.2⟩⟩
theorem Save.setNew {lo hi:Nat} {w w1:World} (h:Save lo hi w w1) {b o:Nat} (h1:w.heap.size≤b) (v:Value):Save lo hi w (w1.setCell ⟨b,o,none⟩ v) :=
 ⟨h.os,h.tape,h.output,by rw [World.size_setCell];exact h.size,fun k hk hb=>(Only.setCell w1 b o v k (by omega)).trans (h.block k hk hb)⟩
theorem Atoi_ret {w:World} (hE:EnvOK w) (s:ByteArray) (hs:s.size≤100000):Ret Pg 97 #[.string s] w fun r w'=>Ext w w'∧∃ n e,r = .tuple #[.int .i64 n,e]∧((Go.Lib.atoiAll s.data.toList = .ok n∧e = .nilIface)∨((∀ v,Go.Lib.atoiAll s.data.toList ≠ .ok v)∧∃ t x,e = .iface t x)):=by
 match h:Go.Lib.atoiAll s.data.toList with
 | .ok v =>
  refine Calls.mono (sh_strconv_Atoi_ok s (by omega) v h w) ?_
  rintro e w' ⟨rfl,rfl | ⟨t,rfl⟩⟩
  · exact ⟨_,rfl,Ext.refl _,_,_,rfl,.inl ⟨rfl,rfl⟩⟩
  · exact ⟨_,rfl,Ext.of_below (Go.Lib.bytesWorld_below w 5 t),_,_,rfl,.inl ⟨rfl,rfl⟩⟩
 | Go.Lib.NumEnd.syntax =>
  obtain ⟨ev,h1,h2⟩:=hE.syn
  refine Calls.mono (sh_strconv_Atoi_syntax s (by omega) h ev w h1 h2) ?_
  rintro e w' ⟨N,rfl,_,_,hb⟩
  exact ⟨_,rfl,Ext.of_below hb,_,_,rfl,.inr ⟨fun v hv=>(by cases hv),_,_,rfl⟩⟩
 | Go.Lib.NumEnd.range =>
  obtain ⟨ev,h1,h2⟩:=hE.rng
  refine Calls.mono (sh_strconv_Atoi_range s (by omega) h ev w h1 h2) ?_
  rintro e w' ⟨N,rfl,_,_,hb⟩
  exact ⟨_,rfl,Ext.of_below hb,_,_,rfl,.inr ⟨fun v hv=>(by cases hv),_,_,rfl⟩⟩
def numB (s:ByteArray):Option Int :=
 match Go.Lib.atoiAll s.data.toList with
 | .ok n=>if decB n=s∧(Go.Lib.trimPrefix s.data.toList [45]).length≤10 then some n else none
 | _=>none
theorem numB_ok {s:ByteArray} {n:Int} (h:Go.Lib.atoiAll s.data.toList = .ok n):numB s=if decB n=s∧(Go.Lib.trimPrefix s.data.toList [45]).length≤10 then some n else none:=by
 unfold numB
 rw [h]
theorem numB_no {s:ByteArray} (h:∀ v,Go.Lib.atoiAll s.data.toList ≠ .ok v):numB s=none:=by
 unfold numB
 match hs:Go.Lib.atoiAll s.data.toList with
 | .ok v=>exact absurd hs (h v)
 | Go.Lib.NumEnd.syntax=>rfl
 | Go.Lib.NumEnd.range=>rfl
def numP:List ByteArray→Option (Int×List ByteArray)
 | x::l=>(numB x).map fun n=>(n,l)
 | []=>none
theorem numP_cons (x:ByteArray) (l:List ByteArray):numP (x::l)=(numB x).map fun n=>(n,l):=rfl
abbrev numV (q:Int×List ByteArray):Value×List ByteArray:=(.int .i64 q.1,q.2)
section
variable {WB w w0 w':World} {p at_ B:Nat} {lines ws:List ByteArray} {lv wv:Value}
theorem pop_some {v:Value} {us:List ByteArray} (ho:popW ws=some (v,us)):∃ x,v = .string x∧ws=x::us:=by
 cases ws with
 | nil=>cases ho
 | cons x l =>
  injection ho with ho
  injection ho with h1 h2
  subst h1 h2
  exact ⟨_,rfl,rfl⟩
theorem pop_none (ho:popW ws=none):ws=[]:=by
 cases ws with
 | nil=>rfl
 | cons x l=>cases ho
theorem callK_must {w0:World} {b:Bool} {us:List ByteArray} {o:Option (Value×List ByteArray)} {k:Value→World→Prop} (hr:Rd w p lines at_ us lv B) (hs:Save p (p+1) w0 w) (hn:b=false→o=none)
 (hk:∀ w',b=true→Rd w' p lines at_ us lv B→Save p (p+1) w0 w'→k (.tuple #[]) w'):callK Pg 66 #[.pointer (some ⟨p,0,none⟩),.bool b] (panK (WrR w0 p lines at_ lv B o)) w k:=by
 refine callK_wr (must_wr hr b) (fun v us' w4 ho hr4 hs4=>?_) fun w4 ho hs4=>?_
 · cases b with
   | false=>cases ho
   | true =>
    injection ho with ho
    injection ho with h1 h2
    subst h1 h2
    exact hk w4 rfl hr4 (hs.trans hs4)
 · cases b with
   | true=>cases ho
   | false=>exact wr_pan (hs.trans hs4) (hn rfl)
theorem number_wr (hE:EnvOK WB) (eB:Ext WB w) (hp:WB.heap.size≤p) (hz:∀ x∈ws,x.size≤100000) (h:Rd w p lines at_ ws lv B):Calls Pg 70 #[.pointer (some ⟨p,0,none⟩)] w (WrR w p lines at_ lv B ((numP ws).map numV)):=by
 refine n66s ?_;unfold n66
 refine callK_wr (word_wr h) (fun v us w1 ho hr hs=>?_) fun w1 ho hs=>wr_pan hs (by rw [pop_none ho];rfl)
 obtain ⟨x,rfl,rfl⟩:=pop_some ho
 clear ho
 have e1:Ext WB w1:=hs.to_ext eB hp
 refine callK_ret (Atoi_ret (hE.ext e1) x (hz x (List.mem_cons_self ..))) ?_
 rintro _ w2 ⟨e2,n,e,rfl,hc⟩
 have hs2:=hs.ext e2
 have hr2:=hr.ext e2
 have e12:=e1.trans e2
 have fin:∀ (w3:World) (b:Bool),Rd w3 p lines at_ us lv B→Save p (p+1) w w3→numP (x::us)=(if b then some (n,us) else none)→callK Pg 66 #[.pointer (some ⟨p,0,none⟩),.bool b] (panK (WrR w p lines at_ lv B ((numP (x::us)).map numV))) w3 fun _ w'=>WrR w p lines at_ lv B ((numP (x::us)).map numV) (.returned (.int .i64 n)) w':=by
  intro w3 b hr3 hs3 hn
  refine callK_must hr3 hs3 (fun hb=>by rw [hn,hb];rfl) fun w4 hb hr4 hs4=>?_
  exact wr_ret hs4 (by rw [hn,hb];rfl) hr4
 rcases hc with ⟨ha,rfl⟩ | ⟨ha,t,xv,rfl⟩
 · have hb:=Go.Lib.atoiAll_bounds ha
   simp (disch:=try exact DI) only [↓PR,QR,simprocAttr,↓n66c2]
   refine zcr (Itoa_ret (hE.ext e12).tab n hb.1 hb.2) fun w3 e3=>?_
   have hs3:=hs2.ext e3
   have hr3:=hr2.ext e3
   by_cases hd:decB n=x
   · have d1:decide (decB n=x)=true:=decide_eq_true hd
     simp (disch:=try exact DI) only [↓PR,QR,simprocAttr,d1,↓n66c1]
     refine callK_ret (Φ:=fun r w'=>r = .string ⟨(Go.Lib.trimPrefix x.data.toList [45]).toArray⟩∧w'=w3) (Calls.mono (sh_strings_TrimPrefix x ⟨#[45]⟩ w3) ?_) ?_
     · rintro e w' ⟨rfl,rfl⟩;exact ⟨_,rfl,rfl,rfl⟩
     rintro _ w4 ⟨rfl,rfl⟩
     have hl:(ByteArray.mk (Go.Lib.trimPrefix x.data.toList [45]).toArray).size=(Go.Lib.trimPrefix x.data.toList [45]).length:=by simp [ByteArray.size]
     simp (disch:=try exact DI) only [↓PR,QR,simprocAttr,hl,d1]
     refine fin _ _ hr3 hs3 ?_
     rw [numP_cons,numB_ok ha]
     by_cases h10:(Go.Lib.trimPrefix x.data.toList [45]).length≤10
     · rw [decide_eq_true (by omega)]
       simp [hd,h10]
     · rw [decide_eq_false (by omega)]
       simp [hd,h10]
   · have d1:decide (decB n=x)=false:=decide_eq_false hd
     simp (disch:=try exact DI) only [↓PR,QR,simprocAttr,d1,↓n66c1]
     refine fin _ _ hr3 hs3 ?_
     rw [numP_cons,numB_ok ha]
     simp [hd]
 · simp (disch:=try exact DI) only [↓PR,QR,simprocAttr,↓n66c2,↓n66c1]
   refine fin _ _ hr2 hs2 ?_
   rw [numP_cons,numB_no ha]
   rfl
def spW (s:ByteArray):List ByteArray:=Go.Lib.splitB ⟨#[32]⟩ 0 (Go.Lib.countB s ⟨#[32]⟩) s
theorem split_sub {sep:ByteArray} {sv:Nat}:∀ {k:Nat} {s y:ByteArray},y∈Go.Lib.splitB sep sv k s→y.size≤s.size
 | 0,s,y,h=>by simp [Go.Lib.splitB] at h;subst h;exact Nat.le_refl _
 | k+1,s,y,h=>by
  unfold Go.Lib.splitB at h
  split at h
  · simp at h;subst h;exact Nat.le_refl _
  · rcases List.mem_cons.1 h with h | h
    · subst h;rw [ByteArray.size_extract];omega
    · refine Nat.le_trans (split_sub h) ?_
      rw [ByteArray.size_extract];omega
theorem spW_len (s:ByteArray):(spW s).length=Go.Lib.countB s ⟨#[32]⟩+1:=Go.Lib.splitB_all ⟨#[32]⟩ (by decide) 0 _ s rfl
theorem strs_of {w:World} {b n c:Nat} {l:List ByteArray} (hn:n=l.length) (h1:l.length≤c) (h2:c≤9223372036854775807) (hc:∀ k x,l[k]?=some x→w.cell? ⟨b,k,none⟩=some (.string x)):SliceOf w 1 EStr (.slice (some ⟨b,0,none⟩) n c) l:=by
 subst hn
 refine ⟨_,_,rfl,h1,h2,fun _=>⟨_,_,rfl,fun k x hx=>⟨[.string x],rfl,fun j v hv=>?_,rfl⟩⟩⟩
 cases j with
 | zero=>injection hv with hv;subst hv;simpa using hc k x hx
 | succ j=>cases hv
theorem Split_ret {w:World} (hE:EnvOK w) (s:ByteArray) (c:UInt8) (hs:s.size≤100000):Ret Pg 89 #[.string s,.string ⟨#[c]⟩] w fun r w'=>Ext w w'∧∃ n,r = .slice (some ⟨w.heap.size,0,none⟩) n n∧SliceOf w' 1 EStr r (Go.Lib.splitB ⟨#[c]⟩ 0 (Go.Lib.countB s ⟨#[c]⟩) s):=by
 obtain ⟨m,hm⟩:=hE.len
 have hl:=Go.Lib.splitB_all ⟨#[c]⟩ (Nat.le_refl _) 0 _ s rfl
 have hle:=Go.Lib.countB_le ⟨#[c]⟩ (Nat.le_refl _) s.size s (Nat.le_refl _)
 refine Calls.mono (sh_strings_Split s ⟨#[c]⟩ m w (by omega) hm (Nat.le_refl _)) ?_
 rintro e w' ⟨rfl,rfl⟩
 refine ⟨_,rfl,(Ext.refl w).alloc _,_,rfl,?_⟩
 refine strs_of hl.symm (by omega) (by omega) fun k x hx=>?_
 generalize Go.Lib.splitB ⟨#[c]⟩ 0 (Go.Lib.countB s ⟨#[c]⟩) s=L at hx ⊢
 rw [cell_new,List.getElem?_toArray,List.getElem?_map,hx]
 rfl
theorem next_ret (hE:EnvOK WB) (eB:Ext WB w) (hp:WB.heap.size≤p) (hz:∀ x∈lines,x.size≤100000) (ha:at_≤lines.length) (hn:lines.length≤100000) (h:Rd w p lines at_ ws lv B) (s:ByteArray) :
 Ret Pg 65 #[.pointer (some ⟨p,0,none⟩),.string s] w fun r w'=>Save p (p+1) w w'∧((∃ x l B',lines[at_]?=some x∧spW x=s::l∧r = .bool true∧(w.heap.size≤B'∧B' < w'.heap.size)∧Rd w' p lines (at_+1) l lv B')∨((∀ x l,lines[at_]?=some x→spW x≠s::l)∧r = .bool false∧Rd w' p lines at_ ws lv B)):=by
 obtain ⟨wv,h⟩:=h
 have ho:=SliceOf.oneCell h.wd
 have ho2:=SliceOf.oneCell h.ls
 refine n65s (R:=retR _) ?_;unfold n65
 refine drawK_intro ?_
 have hp1:p < w.heap.size:=(Array.getElem?_eq_some_iff.1 h.obj).1
 have e0:Ext w (Sw.drew w):=(Ext.refl w).drew
 have h:=h.ext e0
 generalize Sw.drew w=w1 at e0 h ⊢
 obtain ⟨A,c,rfl,hlc,hcm,_,hel⟩:=SliceOf.open h.ls
 unfold n65c6
 by_cases hlt:at_ < lines.length
 · have d1:(((at_:Nat):Int) == ((lines.length:Nat):Int))=false:=by simp;omega
   obtain ⟨x,hx⟩:∃ x,lines[at_]?=some x:=⟨_,List.getElem?_eq_getElem hlt⟩
   have hxm:x∈lines:=List.mem_of_getElem? hx
   obtain ⟨b,o,_,rfl,_⟩:=hel at_ x hx
   generalize hlv:Value.slice (some ⟨b,o,none⟩) lines.length c=lv at h ho2
   simp (disch:=try exact DI) only [↓PR,QR,simprocAttr,(cells_of_heap h.obj).1,(cells_of_heap h.obj).2,d1,← hlv]
   try rw [hlv]
   refine drawK_intro ?_
   have e1:Ext w1 (Sw.drew w1):=(Ext.refl w1).drew
   have h:=h.ext e1
   have e01:=e0.trans e1
   generalize Sw.drew w1=w2 at e01 h ⊢
   clear e1
   obtain ⟨A,c',hlv',_,_,_,hel⟩:=SliceOf.open h.ls
   rw [← hlv] at hlv'
   injection hlv' with hlv1 _ hlv2
   subst hlv1 hlv2
   obtain ⟨b',o',cs,hA,hb,hC,rfl⟩:=hel at_ x hx
   injection hA with hA
   injection hA with hA1 hA2
   subst hA1 hA2
   have hxc:w2.cell? ⟨b,o+at_*1,none⟩=some (.string x):=hC 0 _ rfl
   unfold n65c5
   simp (disch:=try exact DI) only [↓PR,QR,simprocAttr,(cells_of_heap h.obj).1,(cells_of_heap h.obj).2,hxc,← hlv]
   refine callK_ret (Split_ret (hE.ext (eB.trans e01)) x 32 (hz x hxm)) ?_
   rintro _ w3 ⟨e3,n,rfl,hsl⟩
   refine ⟨e3,?_⟩
   have h:=h.ext e3
   have e03:=e01.trans e3
   obtain ⟨y,l,hyl⟩:∃ y l,spW x=y::l:=by
    cases hq:spW x with
    | nil=>have:=spW_len x;rw [hq] at this;simp at this
    | cons y l=>exact ⟨_,_,rfl⟩
   have hsl:SliceOf w3 1 EStr (.slice (some ⟨w2.heap.size,0,none⟩) n n) (y::l):=by rw [← hyl];exact hsl
   have hnl:n=l.length+1:=by
    obtain ⟨A,c',hv,_⟩:=SliceOf.open hsl
    injection hv
   obtain ⟨hT,hy⟩:=tail_of hnl hsl
   generalize hN:w2.heap.size=N at hsl hT hy
   have hNp:N≠p:=by have:=e01.size;omega
   have hN3:N < w3.heap.size:=World.block_lt_of_cell? w3 _ hy
   unfold n65c4
   have hx0:∀ (QP:List PanicEntry→World→Prop) (K:Value→World→Prop),opV Pg (Instr.indexAt 73 (.slice (some ⟨N,0,none⟩) n n) (.int .i64 0)) QP w3 K=K (.pointer (some ⟨N,0,none⟩)) w3:=fun QP K=>(op_indexN Tryz.underlying73 ty9 N 0 n n .i64 0 (by omega)).trans (by rw [Nat.zero_mul,Nat.add_zero])
   by_cases hys:y=s
   · have d2:decide (y=s)=true:=decide_eq_true hys
     simp (disch:=try exact DI) only [↓PR,QR,simprocAttr,hx0,hy,d2]
     refine drawK_introB p p (w1:=w3) (fun _ _ _ _=>rfl) ?_
     have e4:Ext w3 (Sw.drew w3):=(Ext.refl w3).drew
     have h:=h.ext e4
     have hT:=SliceOf.ext keptStr hT e4
     have e04:=e03.trans e4
     have hK:KB w3 p p (Sw.drew w3):=fun _ _ _ _=>rfl
     have hN4:=Nat.lt_of_lt_of_le hN3 e4.size
     generalize Sw.drew w3=w4 at e04 h hT hK hN4 ⊢
     clear e4
     unfold n65c3
     have hq:∀ K:Value→Prop,qV Pg (KB w3 p p) (Instr.sliceAt 73 (.slice (some ⟨N,0,none⟩) n n) (some (.int .i64 1)) none none) K=K (tailV N 0 n n):=fun K=>qV_of fun QP w k=>op_tailV N 0 n n (by omega) (Nat.le_refl _)
     have hw:IntKind.i64.wrap ((at_:Int)+1)=((at_+1:Nat):Int):=by rw [wrap_ok (by omega) (by omega)];omega
     have hto:(tailV N 0 n n).oneCell'=true:=rfl
     simp (disch:=try exact DI) only [↓PR,QR,simprocAttr,hq,(cells_of_heap h.obj).1,(cells_of_heap h.obj).2,↓n65c2,hw]
     have h:=h.setAt (at_+1)
     have hK2:KB w3 p p (w4.setCell ⟨p,1,none⟩ (.int .i64 ((at_+1:Nat):Int))):=fun b hb h1 h2=>(Only.setCell w4 p 1 _ b h1).trans (hK b hb h1 h2)
     have hs5:Save p (p+1) w (w4.setCell ⟨p,1,none⟩ (.int .i64 ((at_+1:Nat):Int))):=(Save.of_ext e04).setCell (Nat.le_refl _) (Nat.lt_succ_self _) _
     have hT:SliceOf (w4.setCell ⟨p,1,none⟩ (.int .i64 ((at_+1:Nat):Int))) 1 EStr (tailV N 0 n n) l:=hT.setOther _ (fun A n' c' e=>by
      unfold tailV at e
      injection e with e _ _
      injection e with e
      subst e;exact hNp) (fun _ _ h=>h)
     refine ⟨hK,hK2,?_⟩
     have hN5:N < (w4.setCell ⟨p,1,none⟩ (.int .i64 ((at_+1:Nat):Int))).heap.size:=by rw [World.size_setCell];exact hN4
     generalize w4.setCell ⟨p,1,none⟩ (.int .i64 ((at_+1:Nat):Int))=w5 at h hK2 hs5 hT hN5 ⊢
     have ho:=SliceOf.oneCell h.wd
     unfold n65c1
     simp (disch:=try exact DI) only [↓PR,QR,simprocAttr,(cells_of_heap h.obj).1,(cells_of_heap h.obj).2]
     refine turnK_intro ?_
     refine ⟨_,rfl,hs5.setCell (Nat.le_refl _) (Nat.lt_succ_self _) _,.inl ⟨x,l,N,hx,by rw [hyl,hys],by trivial,⟨?_,by rw [World.size_setCell];exact hN5⟩,_,h.setW hT (fun A n' c' e=>?_) hNp⟩⟩
     · have:=e01.size;omega
     · unfold tailV at e
       injection e with e _ _
       injection e with e
       subst e;rfl
   · have d2:decide (y=s)=false:=decide_eq_false hys
     simp (disch:=try exact DI) only [↓PR,QR,simprocAttr,hx0,hy,d2]
     refine ⟨Save.of_ext e03,.inr ⟨fun x' l' hx' hl'=>?_,by trivial,wv,h⟩⟩
     rw [hx] at hx'
     injection hx' with hx'
     subst hx'
     rw [hyl] at hl'
     injection hl' with h1 _
     exact hys h1
 · have d1:(((at_:Nat):Int) == ((lines.length:Nat):Int))=true:=by simp;omega
   generalize hlv:Value.slice A lines.length c=lv at h ho2
   simp (disch:=try exact DI) only [↓PR,QR,simprocAttr,(cells_of_heap h.obj).1,(cells_of_heap h.obj).2,d1,← hlv]
   try rw [hlv]
   exact ⟨Save.of_ext e0,.inr ⟨fun x l hx=>absurd (List.getElem?_eq_some_iff.1 hx).1 hlt,by trivial,wv,h⟩⟩
end
def digN (c:UInt8):Bool:=decide (48≤c.toNat)&&decide (c.toNat≤57)
def stepN (n:Nat) (c:UInt8):Nat:=n*10+(c.toNat - 48)
def valL (l:List UInt8):Nat:=l.foldl stepN 0
theorem valL_snoc (l:List UInt8) (c:UInt8):valL (l++[c])=valL l*10+(c.toNat - 48):=by simp [valL,stepN]
theorem digN_iff {c:UInt8}:digN c=true↔48≤c.toNat∧c.toNat≤57:=by simp [digN]
theorem all_snoc {l:List UInt8} {c:UInt8}:(l++[c]).all digN=true↔l.all digN=true∧digN c=true:=by simp
theorem valL_lt (l:List UInt8):l.all digN=true→valL l < 10 ^ l.length:=by
 induction l using snoc_induct with
 | h0=>intro _;decide
 | h1 l c ih =>
  intro h
  obtain ⟨h1,h2⟩:=all_snoc.1 h
  have h2:=digN_iff.1 h2
  have:=ih h1
  rw [valL_snoc,List.length_append,List.length_singleton,Nat.pow_succ]
  omega
theorem head_snoc {l:List UInt8} (h:l≠[]) (c:UInt8):(l++[c]).head?=l.head?:=by
 cases l with
 | nil=>exact absurd rfl h
 | cons a l=>rfl
theorem valL_pos (l:List UInt8):l≠[]→l.all digN=true→l.head?≠some 48→0 < valL l:=by
 induction l using snoc_induct with
 | h0=>intro h;exact absurd rfl h
 | h1 l c ih =>
  intro _ h hh
  obtain ⟨h1,h2⟩:=all_snoc.1 h
  have h2:=digN_iff.1 h2
  rw [valL_snoc]
  by_cases hl:l=[]
  · subst hl
    have:c.toNat≠48:=fun e=>hh (by
     have:c=48:=UInt8.toNat_inj.1 e
     rw [this];rfl)
    omega
  · rw [head_snoc hl] at hh
    have:=ih hl h1 hh
    omega
theorem digit_of {c:UInt8} (h:48≤c.toNat∧c.toNat≤57):UInt8.ofNat (48+(c.toNat - 48))=c:=by
 rw [show 48+(c.toNat - 48)=c.toNat by omega]
 exact UInt8.ofNat_toNat
theorem dec_val (l:List UInt8):l≠[]→l.all digN=true→(l.head?=some 48→l.length=1)→Go.Lib.decDigits (valL l)=l:=by
 induction l using snoc_induct with
 | h0=>intro h;exact absurd rfl h
 | h1 l c ih =>
  intro _ h hh
  obtain ⟨h1,h2⟩:=all_snoc.1 h
  have h2:=digN_iff.1 h2
  rw [valL_snoc]
  by_cases hl:l=[]
  · subst hl
    rw [show valL []*10+(c.toNat - 48)=c.toNat - 48 by simp [valL],Go.Lib.decDigits_one (by omega),digit_of h2]
    rfl
  · rw [head_snoc hl] at hh
    have hne:l.head?≠some 48:=fun e=>by
     have:=hh e
     rw [List.length_append,List.length_singleton] at this
     exact hl (List.length_eq_zero_iff.1 (by omega))
    have hp:=valL_pos l hl h1 hne
    rw [Go.Lib.decDigits,dif_neg (by omega),show (valL l*10+(c.toNat - 48)) / 10=valL l by omega,show (valL l*10+(c.toNat - 48)) % 10=c.toNat - 48 by omega,digit_of h2,ih hl h1 fun e=>absurd e hne]
theorem dig_toNat {u:Nat} (h:u < 10):(UInt8.ofNat (48+u)).toNat=48+u:=by
 rw [UInt8.toNat_ofNat']
 exact Nat.mod_eq_of_lt (by omega)
theorem dec_ok (u:Nat):Go.Lib.decDigits u≠[]∧(Go.Lib.decDigits u).all digN=true∧valL (Go.Lib.decDigits u)=u∧((Go.Lib.decDigits u).head?=some 48→u=0):=by
 induction u using Nat.strongRecOn with
 | ind u ih =>
  by_cases h:u < 10
  · rw [Go.Lib.decDigits_one h]
    refine ⟨by simp,?_,?_,fun e=>?_⟩
    · rw [List.all_cons,List.all_nil,Bool.and_true,digN_iff,dig_toNat h];omega
    · show 0*10+((UInt8.ofNat (48+u)).toNat - 48)=u
      rw [dig_toNat h];omega
    · injection e with e
      have:=dig_toNat h
      rw [e] at this
      have h48:(48:UInt8).toNat=48:=rfl
      omega
  · obtain ⟨a1,a2,a3,a4⟩:=ih (u / 10) (by omega)
    rw [Go.Lib.decDigits,dif_neg h]
    have hm:u % 10 < 10:=Nat.mod_lt _ (by omega)
    refine ⟨by simp,all_snoc.2 ⟨a2,?_⟩,?_,fun e=>?_⟩
    · rw [digN_iff,dig_toNat hm];omega
    · rw [valL_snoc,a3,dig_toNat hm];omega
    · rw [head_snoc a1] at e
      have:=a4 e
      omega
theorem parse_val:∀ (l:List UInt8) (acc k:Nat),l.all digN=true→acc < 10 ^ k→k+l.length≤18→Go.Lib.parseUint10 acc l = .ok (l.foldl stepN acc)
 | [],acc,k,_,_,_=>rfl
 | c::r,acc,k,h,ha,hk=>by
  rw [List.all_cons,Bool.and_eq_true] at h
  have h2:=digN_iff.1 h.1
  rw [List.length_cons] at hk
  have h18:10 ^ (k+1)≤10 ^ 18:=Nat.pow_le_pow_right (by omega) (by omega)
  have h18':(10:Nat) ^ 18=1000000000000000000:=by decide
  have hs:10 ^ (k+1)=10 ^ k*10:=Nat.pow_succ ..
  simp only [Go.Lib.parseUint10]
  rw [if_pos h2,if_neg (by omega),if_neg (by omega),parse_val r (acc*10+(c.toNat - 48)) (k+1) h.2 (by omega) (by omega)]
  rfl
theorem mag_val {l:List UInt8} (h:l≠[]) (hd:l.all digN=true) (hl:l.length≤18):Go.Lib.parseMag l = .ok (valL l):=by
 unfold Go.Lib.parseMag
 rw [if_neg h,parse_val l 0 0 hd (by decide) (by omega)]
 rfl
def digsN (neg:Bool) (d:List UInt8):Option Int:=if d.length < 1∨10 < d.length∨(d.head?=some 48∧(1 < d.length∨neg=true)) then none else if d.all digN then some (if neg then -(valL d:Int) else (valL d:Int)) else none
def refN:List UInt8→Option Int
 | 45::d=>digsN true d
 | d=>digsN false d
theorem refN_other {d:List UInt8} (h:d.head?≠some 45):refN d=digsN false d:=by
 unfold refN
 split
 · exact absurd rfl h
 · rfl
theorem digsN_some {neg:Bool} {d:List UInt8} {n:Int} (h:digsN neg d=some n):d≠[]∧d.length≤10∧d.all digN=true∧(d.head?=some 48→d.length=1∧neg=false)∧n=if neg then -(valL d:Int) else (valL d:Int):=by
 unfold digsN at h
 split at h
 · cases h
 · rename_i hc
   split at h
   · rename_i hd
     injection h with h
     refine ⟨fun e=>hc (.inl (by rw [e];decide)),?_,hd,fun e=>?_,h.symm⟩
     · rcases Nat.lt_or_ge 10 d.length with h' | h'
       · exact absurd (.inr (.inl h')) hc
       · exact h'
     · constructor
       · rcases Nat.lt_or_ge 1 d.length with h' | h'
         · exact absurd (.inr (.inr ⟨e,.inl h'⟩)) hc
         · have:d.length≠0:=fun e=>hc (.inl (by omega))
           omega
       · cases neg with
         | false=>rfl
         | true=>exact absurd (.inr (.inr ⟨e,.inr rfl⟩)) hc
   · cases h
theorem digsN_of {neg:Bool} {d:List UInt8} (h1:d≠[]) (h2:d.length≤10) (h3:d.all digN=true) (h4:d.head?=some 48→d.length=1∧neg=false):digsN neg d=some (if neg then -(valL d:Int) else (valL d:Int)):=by
 unfold digsN
 have:d.length≠0:=fun e=>h1 (List.length_eq_zero_iff.1 e)
 rw [if_neg,if_pos h3]
 rintro (h | h | ⟨h,h'⟩)
 · omega
 · omega
 · obtain ⟨a,b⟩:=h4 h
   rcases h' with h' | h'
   · omega
   · rw [b] at h';cases h'
theorem val10 {d:List UInt8} (h2:d.length≤10) (h3:d.all digN=true):valL d < 10000000000:=by
 have h1:=valL_lt d h3
 have:10 ^ d.length≤10 ^ 10:=Nat.pow_le_pow_right (by omega) h2
 have:(10:Nat) ^ 10=10000000000:=by decide
 omega
theorem itoa_neg {n:Int} (h:n < 0):Go.Lib.itoa n=45::Go.Lib.decDigits n.natAbs:=by unfold Go.Lib.itoa;rw [if_pos h]
theorem itoa_pos {n:Int} (h:¬ n < 0):Go.Lib.itoa n=Go.Lib.decDigits n.toNat:=by unfold Go.Lib.itoa;rw [if_neg h]
theorem dig_ne {d:List UInt8} (h3:d.all digN=true) {c:UInt8} (hc:c.toNat < 48):d.head?≠some c:=by
 cases d with
 | nil=>simp
 | cons a l =>
  rw [List.all_cons,Bool.and_eq_true] at h3
  have:=digN_iff.1 h3.1
  intro e
  injection e with e
  subst e
  omega
theorem trim_minus (d:List UInt8):Go.Lib.trimPrefix (45::d) [45]=d:=by
 unfold Go.Lib.trimPrefix Go.Lib.hasPrefix
 simp [List.isPrefixOf]
theorem trim_dig {d:List UInt8} (h:d.head?≠some 45):Go.Lib.trimPrefix d [45]=d:=by
 unfold Go.Lib.trimPrefix Go.Lib.hasPrefix
 cases d with
 | nil=>simp
 | cons a l =>
  have:¬ (45:UInt8)=a:=fun e=>h (by rw [← e];rfl)
  simp [List.isPrefixOf,this]
theorem refN_some {s:List UInt8} {n:Int} (h:refN s=some n):Go.Lib.atoiAll s = .ok n∧Go.Lib.itoa n=s∧(Go.Lib.trimPrefix s [45]).length≤10:=by
 by_cases h45:s.head?=some 45
 · obtain ⟨d,rfl⟩:∃ d,s=45::d:=by
    cases s with
    | nil=>cases h45
    | cons a d=>injection h45 with h45;subst h45;exact ⟨d,rfl⟩
   obtain ⟨h1,h2,h3,h4,rfl⟩:=digsN_some (show digsN true d=some n from h)
   have hv:=val10 h2 h3
   have hz:d.head?≠some 48:=fun e=>by have:=(h4 e).2;cases this
   have hp:=valL_pos d h1 h3 hz
   rw [if_pos rfl]
   refine ⟨?_,?_,by rw [trim_minus];exact h2⟩
   · rw [Go.Lib.atoiAll_minus,mag_val h1 h3 (by omega)]
     unfold Go.Lib.signed
     simp only
     rw [if_neg (by omega)]
   · rw [itoa_neg (by omega),Int.natAbs_neg,Int.natAbs_natCast,dec_val d h1 h3 fun e=>absurd e hz]
 · rw [refN_other h45] at h
   obtain ⟨h1,h2,h3,h4,rfl⟩:=digsN_some h
   have hv:=val10 h2 h3
   refine ⟨?_,?_,by rw [trim_dig h45];exact h2⟩
   · obtain ⟨a,r,rfl⟩:∃ a r,s=a::r:=by
      cases s with
      | nil=>exact absurd rfl h1
      | cons a r=>exact ⟨a,r,rfl⟩
     have ha:48≤a.toNat∧a.toNat≤57:=by
      rw [List.all_cons,Bool.and_eq_true] at h3
      exact digN_iff.1 h3.1
     rw [Go.Lib.atoiAll_plain a r (by omega) (by omega),mag_val h1 h3 (by omega)]
     unfold Go.Lib.signless
     simp only
     rw [if_neg (by omega)]
     rfl
   · rw [show (if false=true then -(valL s:Int) else (valL s:Int))=(valL s:Int) from rfl,itoa_pos (by omega),Int.toNat_natCast,dec_val s h1 h3 fun e=>(h4 e).1]
theorem refN_itoa {n:Int} (h:(Go.Lib.trimPrefix (Go.Lib.itoa n) [45]).length≤10):refN (Go.Lib.itoa n)=some n:=by
 by_cases hn:n < 0
 · rw [itoa_neg hn] at h ⊢
   rw [trim_minus] at h
   obtain ⟨a1,a2,a3,a4⟩:=dec_ok n.natAbs
   show digsN true _=_
   rw [digsN_of a1 h a2 (fun e=>by have:=a4 e;omega),a3,if_pos rfl]
   congr 1
   omega
 · rw [itoa_pos hn] at h ⊢
   obtain ⟨a1,a2,a3,a4⟩:=dec_ok n.toNat
   have h45:=dig_ne a2 (c:=45) (by decide)
   rw [trim_dig h45] at h
   rw [refN_other h45,digsN_of a1 h a2 (fun e=>⟨?_,rfl⟩),a3]
   · show some ((n.toNat:Nat):Int)=some n
     congr 1
     omega
   · rw [a4 e,Go.Lib.decDigits_one (by omega)];rfl
theorem numB_ref (s:ByteArray):numB s=refN s.data.toList:=by
 cases hr:refN s.data.toList with
 | some n =>
  obtain ⟨h1,h2,h3⟩:=refN_some hr
  rw [numB_ok h1,if_pos ⟨by unfold decB;rw [h2],h3⟩]
 | none =>
  cases hn:numB s with
  | none=>rfl
  | some n =>
   exfalso
   unfold numB at hn
   split at hn
   · split at hn
     · rename_i m hm hc
       injection hn with hn
       subst hn
       have hs:s.data.toList=Go.Lib.itoa m:=by rw [← hc.1];rfl
       rw [hs,refN_itoa (by rw [← hs];exact hc.2)] at hr
       cases hr
     · cases hn
   · cases hn
def cutL (c:UInt8):List UInt8→List (List UInt8)
 | []=>[[]]
 | b::l=>if b=c then []::cutL c l else match cutL c l with
  | []=>[[b]]
  | x::r=>(b::x)::r
theorem cutL_ne (c:UInt8):∀ l,cutL c l≠[]
 | []=>by simp [cutL]
 | b::l=>by
  unfold cutL
  split
  · simp
  · cases cutL c l<;>simp
theorem cutL_same (c:UInt8) (l:List UInt8):cutL c (c::l)=[]::cutL c l:=by rw [cutL,if_pos rfl]
theorem cutL_other {c b:UInt8} (h:b≠c) {l x:List UInt8} {r:List (List UInt8)} (hl:cutL c l=x::r):cutL c (b::l)=(b::x)::r:=by rw [cutL,if_neg h,hl]
theorem cutL_free {c:UInt8}:∀ {x:List UInt8},c ∉ x→cutL c x=[x]
 | [],_=>rfl
 | b::l,h=>by
  have h1:b≠c:=fun e=>h (by rw [e];exact List.mem_cons_self ..)
  exact cutL_other h1 (cutL_free fun e=>h (List.mem_cons_of_mem _ e))
theorem cutL_part {c:UInt8}:∀ {x:List UInt8} (l:List UInt8),c ∉ x→cutL c (x++c::l)=x::cutL c l
 | [],l,_=>cutL_same c l
 | b::x,l,h=>by
  have h1:b≠c:=fun e=>h (by rw [e];exact List.mem_cons_self ..)
  exact cutL_other h1 (cutL_part (x:=x) l fun e=>h (List.mem_cons_of_mem _ e))
theorem index_ne {b c:UInt8} (l:List UInt8) (h:b≠c):Go.Lib.index (b::l) [c]=if Go.Lib.index l [c] == -1 then -1 else Go.Lib.index l [c]+1:=by
 have hp:([c]:List UInt8).isPrefixOf (b::l)=false:=by simp [List.isPrefixOf,Ne.symm h]
 rw [Go.Lib.index,hp];simp
theorem index_eq (c:UInt8) (l:List UInt8):Go.Lib.index (c::l) [c]=0:=by
 rw [Go.Lib.index];simp [List.isPrefixOf]
theorem splitK_cut (c:UInt8):∀ s:List UInt8,Go.Lib.splitK [c] 0 (Go.Lib.count s [c]) s=cutL c s
 | []=>by rw [Go.Lib.count_one];rfl
 | b::l=>by
  have ih:=splitK_cut c l
  by_cases h:b=c
  · subst h
    rw [Go.Lib.count_cons_eq,Nat.add_comm,Go.Lib.splitK,index_eq,if_neg (by decide),cutL_same,← ih]
    rfl
  · rw [Go.Lib.count_cons_ne b c l h]
    cases hk:Go.Lib.count l [c] with
    | zero =>
     rw [hk] at ih
     exact (cutL_other h ih.symm).symm
    | succ k =>
     rw [hk] at ih
     have hge:=Go.Lib.index_ge l [c]
     have hm:Go.Lib.index l [c] ≠ -1:=fun e=>by rw [Go.Lib.count_miss e] at hk;cases hk
     obtain ⟨i,hi⟩:∃ i:Nat,Go.Lib.index l [c]=i:=⟨(Go.Lib.index l [c]).toNat,by omega⟩
     have n1:¬ (((i:Int) == -1)=true):=fun e=>by have:=beq_iff_eq.1 e;omega
     have n2:¬ ((((i:Int)+1) == -1)=true):=fun e=>by have:=beq_iff_eq.1 e;omega
     have t2:((i:Int)+1).toNat=i+1:=by omega
     rw [Go.Lib.splitK,hi,if_neg n1] at ih
     rw [Go.Lib.splitK,index_ne l h,hi,if_neg n1,if_neg n2,t2]
     refine Eq.trans ?_ (cutL_other h ih.symm).symm
     simp only [Int.toNat_natCast,List.length_singleton,Nat.add_zero,List.take_succ_cons]
     rfl
def mkB (l:List UInt8):ByteArray:=⟨l.toArray⟩
def cutW (c:UInt8) (s:ByteArray):List ByteArray:=(cutL c s.data.toList).map mkB
theorem split_cut (c:UInt8) (s:ByteArray):Go.Lib.splitB ⟨#[c]⟩ 0 (Go.Lib.countB s ⟨#[c]⟩) s=cutW c s:=by
 have h:=Go.Lib.splitB_data ⟨#[c]⟩ 0 (Go.Lib.countB s ⟨#[c]⟩) s
 have hs:Go.Lib.splitK [c] 0 (Go.Lib.countB s ⟨#[c]⟩) s.data.toList=cutL c s.data.toList:=splitK_cut c s.data.toList
 have h:(Go.Lib.splitB ⟨#[c]⟩ 0 (Go.Lib.countB s ⟨#[c]⟩) s).map (·.data.toList)=cutL c s.data.toList:=h.trans hs
 unfold cutW
 rw [← h,List.map_map]
 have:(mkB ∘ fun x:ByteArray=>x.data.toList)=id:=by funext x;rfl
 rw [this,List.map_id]
theorem spW_cut (s:ByteArray):spW s=cutW 32 s:=split_cut 32 s
theorem cutW_ne (c:UInt8) (s:ByteArray):cutW c s≠[]:=by
 unfold cutW
 intro h
 exact cutL_ne c _ (List.map_eq_nil_iff.1 h)
abbrev kRole:ByteArray:=⟨#[114,111,108,101]⟩
abbrev kCounter:ByteArray:=⟨#[99,111,117,110,116,101,114]⟩
abbrev kState:ByteArray:=⟨#[115,116,97,116,101]⟩
abbrev kStep:ByteArray:=⟨#[115,116,101,112]⟩
abbrev kWait:ByteArray:=⟨#[119,97,105,116]⟩
abbrev kFinal:ByteArray:=⟨#[102,105,110,97,108]⟩
abbrev kWhen:ByteArray:=⟨#[119,104,101,110]⟩
def nameP:List ByteArray→Option (ByteArray×List ByteArray)
 | x::l=>if nameB x then some (x,l) else none
 | []=>none
theorem nameP_eq (x:ByteArray) (l:List ByteArray):nameP (x::l)=if nameB x then some (x,l) else none:=rfl
def endP {α:Type} (a:α) (ws:List ByteArray):Option α:=if ws=[] then some a else none
def waitP (ws:List ByteArray):Option (Int×List ByteArray):=if skipB kWait ws then (numP ws.tail).bind fun q=>if q.1=0 then none else some q else some (0,ws)
def tailIf (b:Bool) (ws:List ByteArray):List ByteArray:=if b then ws.tail else ws
def staP (ws:List ByteArray):Option StaD:=(nameP ws).bind fun a=>(waitP a.2).bind fun b=>endP (⟨a.1,skipB kFinal b.2,b.1⟩:StaD) (tailIf (skipB kFinal b.2) b.2)
def cntP (ws:List ByteArray):Option CntD:=(nameP ws).bind fun a=>(numP a.2).bind fun b=>endP (⟨a.1,b.1⟩:CntD) b.2
def rnameP (ws:List ByteArray):Option ByteArray:=(nameP ws).bind fun a=>endP a.1 a.2
def kindP (s:ByteArray):Int:=if s=kwB 1 then 1 else if s=kwB 2 then 2 else if s=kwB 3 then 3 else if s=kwB 4 then 4 else 0
def wordP:List ByteArray→Option (ByteArray×List ByteArray)
 | x::l=>some (x,l)
 | []=>none
def msgP (k:Int) (ws:List ByteArray):Option ((ByteArray×ByteArray)×List ByteArray):=if speaksB k then (nameP ws).bind fun a=>(nameP a.2).bind fun b=>some ((a.1,b.1),b.2) else some ((ByteArray.empty,ByteArray.empty),ws)
structure WhenD where
 counter:ByteArray
 low:Int
 high:Int
 add:Int
def whenP (ws:List ByteArray):Option (WhenD×List ByteArray):=if skipB kWhen ws then (nameP ws.tail).bind fun a=>(numP a.2).bind fun b=>(numP b.2).bind fun c=>(numP c.2).bind fun d=>some (⟨a.1,b.1,c.1,d.1⟩,d.2) else some (⟨ByteArray.empty,0,0,0⟩,ws)
def stpP (ws:List ByteArray):Option StpD:=(nameP ws).bind fun a=>(nameP a.2).bind fun b=>(wordP b.2).bind fun c=>if kindP c.1=0 then none else (msgP (kindP c.1) c.2).bind fun m=>(whenP m.2).bind fun h=>endP (⟨a.1,b.1,kindP c.1,m.1.1,m.1.2,h.1.counter,h.1.low,h.1.high,h.1.add⟩:StpD) h.2
def manyP {α:Type} (kw:ByteArray) (p:List ByteArray→Option α):List (List ByteArray)→Option (List α)×Nat
 | []=>(some [],0)
 | []::_=>(some [],0)
 | (k::ws)::L=>if k=kw then match p ws with
  | none=>(none,1)
  | some a=>((manyP kw p L).1.map (a::·),(manyP kw p L).2+1) else (some [],0)
def stepsP (nm:ByteArray) (cs:List CntD) (ss:List StaD) (L:List (List ByteArray)) (n:Nat):Option RolD×Nat:=((manyP kStep stpP L).1.map fun l=>⟨nm,ss,cs,l⟩,n+(manyP kStep stpP L).2)
def statesP (nm:ByteArray) (cs:List CntD) (L:List (List ByteArray)) (n:Nat):Option RolD×Nat:=match manyP kState staP L with
 | (none,k)=>(none,n+k)
 | (some l,k)=>stepsP nm cs l (L.drop k) (n+k)
def countersP (nm:ByteArray) (L:List (List ByteArray)) (n:Nat):Option RolD×Nat:=match manyP kCounter cntP L with
 | (none,k)=>(none,n+k)
 | (some l,k)=>statesP nm l (L.drop k) (n+k)
def roleP:List (List ByteArray)→Option RolD×Nat
 | (k::ws)::L=>if k=kRole then match rnameP ws with
  | none=>(none,1)
  | some nm=>countersP nm L 1 else (none,1)
 | _=>(none,1)
theorem many_le {α:Type} {kw:ByteArray} {p:List ByteArray→Option α}:∀ L,(manyP kw p L).2≤L.length
 | []=>Nat.le_refl _
 | []::_=>Nat.zero_le _
 | (k::ws)::L=>by
  unfold manyP
  split
  · split
    · simp
    · have:=many_le (kw:=kw) (p:=p) L
      simp only [List.length_cons];omega
  · exact Nat.zero_le _
theorem nameP_inv {ws l:List ByteArray} {x:ByteArray} (h:nameP ws=some (x,l)):ws=x::l∧nameB x=true:=by
 cases ws with
 | nil=>cases h
 | cons a r =>
  rw [nameP_eq] at h
  split at h
  · rename_i hn
    injection h with h
    injection h with h1 h2
    subst h1 h2
    exact ⟨rfl,hn⟩
  · cases h
theorem endP_inv {α:Type} {a b:α} {ws:List ByteArray} (h:endP a ws=some b):ws=[]∧a=b:=by
 unfold endP at h
 split at h
 · rename_i hw
   injection h with h
   exact ⟨hw,h⟩
 · cases h
theorem bind_inv {α β:Type} {o:Option α} {f:α→Option β} {b:β} (h:o.bind f=some b):∃ a,o=some a∧f a=some b:=by
 cases o with
 | none=>cases h
 | some a=>exact ⟨a,rfl,h⟩
def Num10 (n:Int):Prop := -9999999999≤n∧n≤9999999999
theorem kindP_inv {s:ByteArray} (h:kindP s≠0):s=kwB (kindP s)∧1≤kindP s∧kindP s≤4:=by
 unfold kindP at h ⊢
 by_cases h1:s=kwB 1
 · rw [if_pos h1];exact ⟨h1,by decide,by decide⟩
 rw [if_neg h1] at h ⊢
 by_cases h2:s=kwB 2
 · rw [if_pos h2];exact ⟨h2,by decide,by decide⟩
 rw [if_neg h2] at h ⊢
 by_cases h3:s=kwB 3
 · rw [if_pos h3];exact ⟨h3,by decide,by decide⟩
 rw [if_neg h3] at h ⊢
 by_cases h4:s=kwB 4
 · rw [if_pos h4];exact ⟨h4,by decide,by decide⟩
 rw [if_neg h4] at h
 exact absurd rfl h
theorem kindP_kw {k:Int} (h:1≤k∧k≤4):kindP (kwB k)=k:=by
 have:k=1∨k=2∨k=3∨k=4:=by omega
 rcases this with rfl | rfl | rfl | rfl<;>decide
inductive Pairs {α β:Type} (R:α→β→Prop):List α→List β→Prop
 | nil:Pairs R [] []
 | cons {a:α} {b:β} {l:List α} {m:List β}:R a b→Pairs R l m→Pairs R (a::l) (b::m)
theorem many_inv {α:Type} {kw:ByteArray} {p:List ByteArray→Option α}:∀ {L:List (List ByteArray)} {l:List α} {n:Nat},manyP kw p L=(some l,n)→∃ R,L=R++L.drop n∧n=R.length∧Pairs (fun w a=>∃ ws,w=kw::ws∧p ws=some a) R l
 | [],l,n,h=>by
  injection h with h1 h2
  injection h1 with h1
  subst h1 h2
  exact ⟨[],rfl,rfl,.nil⟩
 | []::L,l,n,h=>by
  injection h with h1 h2
  injection h1 with h1
  subst h1 h2
  exact ⟨[],rfl,rfl,.nil⟩
 | (k::ws)::L,l,n,h=>by
  unfold manyP at h
  split at h
  · rename_i hk
    subst hk
    cases hp:p ws with
    | none=>rw [hp] at h;cases h
    | some a =>
     rw [hp] at h
     simp only at h
     injection h with h1 h2
     cases hm:manyP k p L with
     | mk o m =>
      rw [hm] at h1 h2
      cases o with
      | none=>cases h1
      | some l' =>
       injection h1 with h1
       subst h1
       obtain ⟨R,e1,e2,e3⟩:=many_inv hm
       simp only at h2
       subst h2 e2
       refine ⟨(k::ws)::R,?_,rfl,.cons ⟨ws,rfl,hp⟩ e3⟩
       rw [List.cons_append,List.drop_succ_cons,← e1]
  · injection h with h1 h2
    injection h1 with h1
    subst h1 h2
    exact ⟨[],rfl,rfl,.nil⟩
theorem roleP_eq (k:ByteArray) (ws:List ByteArray) (L:List (List ByteArray)):roleP ((k::ws)::L)=if k=kRole then (match rnameP ws with
 | none=>(none,1)
 | some nm=>countersP nm L 1) else (none,1):=rfl
theorem many_stop {α:Type} {kw:ByteArray} {p:List ByteArray→Option α} {R:List (List ByteArray)} (h:∀ w∈R.head?,∀ k∈w.head?,k≠kw):manyP kw p R=(some [],0):=by
 cases R with
 | nil=>rfl
 | cons w R =>
  cases w with
  | nil=>rfl
  | cons k ws =>
   unfold manyP
   rw [if_neg (h _ rfl k rfl)]
structure RdOk (r:RolD):Prop where
 nm:nameB r.name=true
 cs:∀ c∈r.counters,nameB c.name=true∧Num10 c.limit
 ss:∀ c∈r.states,nameB c.name=true∧0≤c.wait∧c.wait≤9999999999
 ts:∀ s∈r.steps,nameB s.fr=true∧nameB s.to=true∧(1≤s.kind∧s.kind≤4)∧(if speaksB s.kind then nameB s.message=true∧nameB s.peer=true else s.message=ByteArray.empty∧s.peer=ByteArray.empty)∧(if s.counter=ByteArray.empty then s.low=0∧s.high=0∧s.add=0 else nameB s.counter=true∧Num10 s.low∧Num10 s.high∧Num10 s.add)
def linesT (s:ByteArray):List (List ByteArray):=(cutW 10 s).map spW
theorem idx_pos {α:Type} {p:α→Bool} {l:List α} (h:0≤idx p l):∃ x∈l,p x=true:=by
 obtain ⟨n,hn⟩:∃ n:Nat,idx p l=n:=⟨(idx p l).toNat,by omega⟩
 obtain ⟨x,hx,hp⟩:=idx_get hn
 exact ⟨x,List.mem_of_getElem? hx,hp⟩
theorem check_rd {r:RolD} (h:(checkR r).2=0):RdOk r:=by
 obtain ⟨h1,⟨_,h2⟩,⟨_,h3⟩,_,h4⟩:=check_parts h
 have hcs:∀ c∈r.counters,nameB c.name=true∧1≤c.limit∧c.limit≤1000:=by
  intro c hc
  obtain ⟨i,hi⟩:=List.getElem?_of_mem hc
  have:=h2 i (List.getElem?_eq_some_iff.1 hi).1
  unfold cntB at this
  rw [hi] at this
  simp only [Bool.and_eq_true,decide_eq_true_eq] at this
  exact ⟨this.1,this.2.2.1,this.2.2.2⟩
 have hss:∀ c∈r.states,nameB c.name=true∧0≤c.wait∧c.wait≤1048576:=by
  intro c hc
  obtain ⟨i,hi⟩:=List.getElem?_of_mem hc
  have:=h3 i (List.getElem?_eq_some_iff.1 hi).1
  unfold staB at this
  rw [hi] at this
  simp only [Bool.and_eq_true,decide_eq_true_eq] at this
  exact ⟨this.1,this.2.2.1,this.2.2.2⟩
 refine ⟨h1,fun c hc=>⟨(hcs c hc).1,by have:=hcs c hc;unfold Num10;omega⟩,fun c hc=>⟨(hss c hc).1,by have:=hss c hc;omega⟩,fun s hs=>?_⟩
 obtain ⟨i,hi⟩:=List.getElem?_of_mem hs
 have ha:=h4 i (List.getElem?_eq_some_iff.1 hi).1
 unfold stpB at ha
 rw [hi] at ha
 unfold allowB at ha
 simp only [Bool.and_eq_true,decide_eq_true_eq] at ha
 obtain ⟨a1,a2,a3,_,_,a4,a5⟩:=ha
 have st:∀ t,0≤stateI r t→nameB t=true:=fun t ht=>by
  obtain ⟨y,hy,hp⟩:=idx_pos ht
  rw [← of_decide_eq_true hp]
  exact (hss y hy).1
 refine ⟨st _ a2,st _ a3,a1,?_,?_⟩
 · unfold partsB at a4
   split at a4
   · rename_i hsp
     rw [if_pos hsp]
     simp only [Bool.and_eq_true] at a4
     exact ⟨a4.1,a4.2.1⟩
   · rename_i hsp
     rw [if_neg hsp]
     simp only [Bool.and_eq_true,decide_eq_true_eq] at a4
     exact a4
 · unfold guardB at a5
   split at a5
   · rename_i hc
     rw [if_pos hc]
     simp only [Bool.and_eq_true,decide_eq_true_eq] at a5
     exact a5
   · rename_i hc
     rw [if_neg hc]
     split at a5
     · rename_i c hcj
       simp only [Bool.and_eq_true,decide_eq_true_eq] at a5
       obtain ⟨b1,b2,b3,b4,b5,b6,_,_⟩:=a5
       have hc2:=hcs c (List.mem_of_getElem? hcj)
       obtain ⟨y,hy,hp⟩:=idx_pos b1
       refine ⟨by rw [← of_decide_eq_true hp];exact (hcs y hy).1,?_,?_,?_⟩
       · unfold Num10;omega
       · unfold Num10;omega
       · unfold Num10;omega
     · cases a5
theorem small32 {x:ByteArray} (h:nameB x=true):x.size≤32:=by
 unfold nameB at h
 simp only [Bool.and_eq_true,decide_eq_true_eq] at h
 omega
theorem szb_name {x:ByteArray} (h:nameB x=true):Szb x 100:=⟨by have:=small32 h;omega⟩
theorem szb_dec {n:Int} (h:Num10 n):Szb (decB n) 21:=⟨decB_size (by unfold Num10 at h;omega) (by unfold Num10 at h;omega)⟩
section
variable {w0 W:World} {r:RolD} {p:Nat} {sv cv tv:Value}
theorem size_app (a b:ByteArray):(a++b).size=a.size+b.size:=ByteArray.size_append
theorem rtext_step {x:StpD} {s:ByteArray} {k q:Nat} {next6:Value→Value→World→Prop} {R:RT} (hz:s.size≤1000000000) (hk:k≤1000000000) (hq:W.heap[q]?=some (.cells (stpCells x).toArray 71 (0,0)))
 (hx:nameB x.fr=true∧nameB x.to=true∧(1≤x.kind∧x.kind≤4)∧(if speaksB x.kind then nameB x.message=true∧nameB x.peer=true else x.message=ByteArray.empty∧x.peer=ByteArray.empty)∧(if x.counter=ByteArray.empty then x.low=0∧x.high=0∧x.add=0 else nameB x.counter=true∧Num10 x.low∧Num10 x.high∧Num10 x.add))
 (hn:∀ w',Ext W w'→(stpT s x).size≤s.size+1000→next6 (.string (stpT s x)) (.int .i64 ((k+1:Nat):Int)) w') :
 drawK W fun C7 w=>n20c10 (.string s) (.int .i64 (k:Int)) (.pointer (some ⟨q,0,none⟩)) C7 next6 R w:=by
 obtain ⟨h1,h2,h3,h4,h5⟩:=hx
 haveI i0:Szb s 1000000000:=⟨hz⟩
 haveI i1:=szb_name h1
 haveI i2:=szb_name h2
 haveI i3:Szb (kwB x.kind) 100:=⟨kwB_size x.kind⟩
 have s1:=i1.le
 have s2:=i2.le
 have s3:=i3.le
 have hw:IntKind.i64.wrap ((k:Int)+1)=((k+1:Nat):Int):=by rw [wrap_ok (by omega) (by omega)];omega
 refine drawK_intro ?_
 have eD:Ext W (Sw.drew W):=(Ext.refl W).drew
 have hq:=eD.obj hq
 generalize Sw.drew W=D at eD hq ⊢
 have cq:=cells_of_heap hq
 have e32:(⟨#[32]⟩:ByteArray).size=1:=rfl
 have est:(⟨#[10,115,116,101,112,32]⟩:ByteArray).size=6:=rfl
 have ewh:(⟨#[32,119,104,101,110,32]⟩:ByteArray).size=6:=rfl
 have z1:(stpT1 s x).size≤s.size+320:=by unfold stpT1;simp only [size_app,e32,est];omega
 unfold n20c10
 rw [q_saddB _ _ _ _ rfl]
 simp (disch:=try exact DI) only [↓PR,QR,simprocAttr,cq.1]
 rw [q_saddB _ _ _ _ rfl,q_saddB _ _ _ _ rfl]
 simp (disch:=try exact DI) only [↓PR,QR,simprocAttr,cq.1]
 rw [q_saddB _ _ _ _ rfl,q_saddB _ _ _ _ rfl]
 simp (disch:=try exact DI) only [↓PR,QR,simprocAttr,cq.1]
 generalize hY:World.alloc D _=Y
 have eY:Ext D Y:=by rw [← hY];exact (Ext.refl D).alloc _
 have oY:Y.heap[D.heap.size]?=some (.cells #[.string ⟨#[]⟩,.string ⟨#[115,101,110,100]⟩,.string ⟨#[114,101,99,101,105,118,101]⟩,.string ⟨#[116,105,109,101,111,117,116]⟩,.string ⟨#[115,105,108,101,110,116]⟩] 9 (0,0)):=by rw [← hY];exact heap_new _ _ _
 clear hY
 refine narrowK_EC eY ?_
 have eWY:=eD.trans eY
 have cqY:=cells_of_heap (eY.obj hq)
 have tail7:∀ w',Ext W w'→w'.heap[q]?=some (.cells (stpCells x).toArray 71 (0,0))→(stpT2 s x).size≤s.size+600→n20c7 (.string (stpT2 s x)) (.int .i64 (k:Int)) (.pointer (some ⟨q,0,none⟩)) next6 R w':=by
  intro w' e' hq' hz2
  have cq':=cells_of_heap hq'
  haveI j0:Szb (stpT2 s x) 2000000000:=⟨by omega⟩
  unfold n20c7
  by_cases hc:x.counter=⟨#[]⟩
  · have d1:decide (x.counter=⟨#[]⟩)=true:=by simp [hc]
    have hst:stpT s x=stpT2 s x:=by unfold stpT;rw [if_neg (by simp [hc])]
    rw [hst] at hn
    simp (disch:=try exact DI) only [↓PR,QR,simprocAttr,cq'.1,d1,hw]
    exact hn w' e' (by omega)
  · have d1:decide (x.counter=⟨#[]⟩)=false:=by simp [hc]
    have hst:stpT s x=stpT2 s x++⟨#[32,119,104,101,110,32]⟩++x.counter++⟨#[32]⟩++decB x.low++⟨#[32]⟩++decB x.high++⟨#[32]⟩++decB x.add:=by unfold stpT;rw [if_pos hc]
    rw [if_neg (show ¬ x.counter=ByteArray.empty from hc)] at h5
    obtain ⟨g1,g2,g3,g4⟩:=h5
    haveI j1:=szb_name g1
    haveI j2:=szb_dec g2
    haveI j3:=szb_dec g3
    haveI j4:=szb_dec g4
    have t1:=j1.le
    have t2:=j2.le
    have t3:=j3.le
    have t4:=j4.le
    unfold Num10 at g2 g3 g4
    simp (disch:=try exact DI) only [↓PR,QR,simprocAttr,cq'.1,d1]
    refine drawK_intro ?_
    have eF:Ext w' (Sw.drew w'):=(Ext.refl w').drew
    have cqF:=cells_of_heap (eF.obj hq')
    generalize Sw.drew w'=F at eF cqF ⊢
    unfold n20c6
    rw [q_saddB _ _ _ _ rfl]
    simp (disch:=try exact DI) only [↓PR,QR,simprocAttr,cqF.1]
    rw [q_saddB _ _ _ _ rfl,q_saddB _ _ _ _ rfl]
    simp (disch:=try exact DI) only [↓PR,QR,simprocAttr,cqF.1]
    refine zcr (rDigits_ret F x.low (by omega) (by omega)) fun f1 a1=>?_
    refine ⟨a1,?_⟩
    unfold n20c5
    rw [q_saddB _ _ _ _ rfl,q_saddB _ _ _ _ rfl]
    refine zcr (rDigits_ret f1 x.high (by omega) (by omega)) fun f2 a2=>?_
    have a12:=a1.trans a2
    refine ⟨a12,?_⟩
    unfold n20c4
    rw [q_saddB _ _ _ _ rfl,q_saddB _ _ _ _ rfl]
    refine zcr (rDigits_ret f2 x.add (by omega) (by omega)) fun f3 a3=>?_
    refine ⟨a12.trans a3,?_⟩
    rw [q_saddB _ _ _ _ rfl]
    simp (disch:=try exact DI) only [↓PR,QR,simprocAttr,hw]
    rw [hst] at hn
    refine hn f3 (e'.trans (eF.trans (a12.trans a3))) ?_
    simp only [size_app,e32,ewh]
    omega
 obtain ⟨kn,hkn⟩:∃ kn:Nat,x.kind=kn:=⟨x.kind.toNat,by omega⟩
 have hidx:∀ K:Value→Prop,qV Pg (EC Y) (Instr.indexAt 73 (.slice (some ⟨D.heap.size,0,none⟩) 5 5) (.int .i64 (kn:Int))) K=K (.pointer (some ⟨D.heap.size,0+kn*1,none⟩)):=fun K=>qV_of fun QP w k=>op_indexN Tryz.underlying73 ty9 D.heap.size 0 5 5 .i64 kn (by omega)
 have hcl:Y.cell? ⟨D.heap.size,0+kn*1,none⟩=some (.string (kwB x.kind)):=by
  rw [(cells_of_heap oY).1]
  have:kn=1∨kn=2∨kn=3∨kn=4:=by omega
  rcases this with h | h | h | h<;>subst h<;>rw [hkn]<;>rfl
 unfold n20c9
 rw [hkn,hidx]
 generalize 0+kn*1=o at hcl
 simp (disch:=try exact DI) only [↓PR,QR,simprocAttr,hcl]
 haveI i4:Szb (s++⟨#[10,115,116,101,112,32]⟩++x.fr++⟨#[32]⟩++x.to++⟨#[32]⟩) 1100000000:=⟨by simp only [size_app,e32,est];omega⟩
 rw [q_saddB _ _ _ _ rfl]
 have hst1:s++⟨#[10,115,116,101,112,32]⟩++x.fr++⟨#[32]⟩++x.to++⟨#[32]⟩++kwB x.kind=stpT1 s x:=rfl
 rw [hst1]
 haveI i5:Szb (stpT1 s x) 1200000000:=⟨by omega⟩
 have hle:decide ((kn:Int)≤2)=speaksB x.kind:=by
  rw [← hkn,Bool.eq_iff_iff,decide_eq_true_iff]
  unfold speaksB
  simp only [Bool.or_eq_true,decide_eq_true_eq]
  omega
 cases hsp:speaksB x.kind with
 | false =>
  have hsp':speaksB (kn:Int)=false:=by rw [← hkn];exact hsp
  have hst2:stpT2 s x=stpT1 s x:=by unfold stpT2;rw [hsp,if_neg (by simp)]
  rw [hst2] at tail7
  simp (disch:=try exact DI) only [↓PR,QR,simprocAttr,cqY.1,hkn,hle,hsp']
  exact tail7 Y eWY (eY.obj hq) (by omega)
 | true =>
  have hsp':speaksB (kn:Int)=true:=by rw [← hkn];exact hsp
  have hst2:stpT2 s x=stpT1 s x++⟨#[32]⟩++x.message++⟨#[32]⟩++x.peer:=by unfold stpT2;rw [hsp,if_pos rfl]
  rw [hsp,if_pos rfl] at h4
  haveI j1:=szb_name h4.1
  haveI j2:=szb_name h4.2
  have t1:=j1.le
  have t2:=j2.le
  rw [hst2] at tail7
  simp (disch:=try exact DI) only [↓PR,QR,simprocAttr,cqY.1,hkn,hle,hsp',↓n20c8]
  rw [op_saddB _ _ _ _ rfl]
  simp (disch:=try exact DI) only [↓PR,QR,simprocAttr,cqY.1]
  rw [op_saddB _ _ _ _ rfl,op_saddB _ _ _ _ rfl]
  simp (disch:=try exact DI) only [↓PR,QR,simprocAttr,cqY.1]
  rw [op_saddB _ _ _ _ rfl]
  refine tail7 Y eWY (eY.obj hq) ?_
  simp only [size_app,e32]
  omega
theorem rText_ret (w0:World) (v:Value) (r:RolD) (hr:RolVal w0 v r) (hok:RdOk r) (hl:r.counters.length≤1000∧r.states.length≤1000∧r.steps.length≤1000):Ret Pg 16 #[v] w0 fun u w'=>u = .string (textP r)∧Ext w0 w':=by
 obtain ⟨sv,cv,tv,rfl,hS,hC,hT,o1,o2,o3⟩:=hr.op
 obtain ⟨A1,c1,rfl,_,_,_,hel1⟩:=SliceOf.open hS
 obtain ⟨A2,c2,rfl,_,_,_,hel2⟩:=SliceOf.open hC
 obtain ⟨A3,c3,rfl,_,_,_,hel3⟩:=SliceOf.open hT
 have e32:(⟨#[32]⟩:ByteArray).size=1:=rfl
 refine n20s (R:=retR _) ?_;unfold n20
 rw [op_boxA]
 have hp:=heap_new w0 (rolCells r (.slice A1 r.states.length c1) (.slice A2 r.counters.length c2) (.slice A3 r.steps.length c3)).toArray 26
 have eW:Ext w0 (w0.alloc (.cells (rolCells r (.slice A1 r.states.length c1) (.slice A2 r.counters.length c2) (.slice A3 r.steps.length c3)).toArray 26)):=ee
 generalize (w0.alloc (.cells (rolCells r (.slice A1 r.states.length c1) (.slice A2 r.counters.length c2) (.slice A3 r.steps.length c3)).toArray 26))=W at hp eW ⊢
 generalize w0.heap.size=p at hp ⊢
 haveI in0:=szb_name hok.nm
 have tn0:=in0.le
 have e5:(⟨#[114,111,108,101,32]⟩:ByteArray).size=5:=rfl
 simp (disch:=try exact DI) only [↓PR,QR,simprocAttr,(cells_of_heap hp).1]
 rw [op_saddB _ _ _ _ rfl]
 have hz0:(⟨#[114,111,108,101,32]⟩++r.name:ByteArray).size≤200:=by rw [size_app,e5];omega
 have htx:textP r=r.steps.foldl stpT (r.states.foldl staT (r.counters.foldl cntT (⟨#[114,111,108,101,32]⟩++r.name))):=rfl
 generalize (⟨#[114,111,108,101,32]⟩++r.name:ByteArray)=s0 at hz0 htx ⊢
 have steps:∀ (s:ByteArray) (w:World),Ext W w→s.size≤200+1000*2000→textP r=r.steps.foldl stpT s→loop2 (fun t3 t7 w next6=>n20c12 (.pointer (some ⟨p,0,none⟩)) t3 t7 next6 (retR fun u w'=>u = .string (textP r)∧Ext w0 w') w) (.string s) (.int .i64 0) w:=by
  intro s w e hz ht
  refine loop2_intro (fun a b w=>∃ (k:Nat) (s:ByteArray),a = .string s∧b = .int .i64 k∧k≤r.steps.length∧Ext W w∧s.size≤200+1000*2000+1000*k∧textP r=(r.steps.drop k).foldl stpT s) (fun _ b _=>r.steps.length - (intOf b).toNat) ⟨0,s,rfl,rfl,by omega,e,by omega,ht⟩ ?_
  rintro _ _ w ⟨k,s,rfl,rfl,hk,e,hz,ht⟩
  unfold n20c12
  by_cases hlt:k < r.steps.length
  · obtain ⟨x,hx⟩:=getElem?_lt hlt
    obtain ⟨b,o,cs,rfl,_,hA,rfl⟩:=hel3 k x hx
    have dk:(k:Int) < (r.steps.length:Int):=by omega
    have d1:decide ((k:Int) < (r.steps.length:Int))=true:=decide_eq_true dk
    have hd:r.steps.drop k=x::r.steps.drop (k+1):=by
     rw [List.drop_eq_getElem_cons hlt]
     congr 1
     rw [List.getElem?_eq_getElem hlt] at hx
     injection hx
    rw [hd,List.foldl_cons] at ht
    simp (disch:=try exact DI) only [↓PR,QR,simprocAttr,(cells_of_heap (e.obj hp)).1,d1,↓n20c11,hA.c9 (eW.trans e)]
    generalize hV:World.alloc w _=V
    have eV:Ext w V:=by rw [← hV];exact (Ext.refl w).alloc _
    have oV:V.heap[w.heap.size]?=some (.cells (stpCells x).toArray 71 (0,0)):=by rw [← hV];exact heap_new _ _ _
    clear hV
    refine rtext_step (x:=x) (by omega) (by omega) oV (hok.ts x (List.mem_of_getElem? hx)) fun w' e' hz'=>?_
    exact ⟨⟨k+1,_,rfl,rfl,by omega,e.trans (eV.trans e'),by omega,ht⟩,meas_lt (kd := .i64) hlt⟩
  · obtain rfl:k=r.steps.length:=by omega
    have d1:decide ((r.steps.length:Int) < (r.steps.length:Int))=false:=decide_eq_false (by omega)
    rw [List.drop_length,List.foldl_nil] at ht
    simp (disch:=try exact DI) only [↓PR,QR,simprocAttr,(cells_of_heap (e.obj hp)).1,d1,ht]
    exact ⟨by trivial,eW.trans e⟩
 have states:∀ (s:ByteArray) (w:World),Ext W w→s.size≤200+1000*1000→textP r=r.steps.foldl stpT (r.states.foldl staT s)→loop2 (fun t3 t5 w next3=>n20c14 (.pointer (some ⟨p,0,none⟩)) t3 t5 next3 (retR fun u w'=>u = .string (textP r)∧Ext w0 w') w) (.string s) (.int .i64 0) w:=by
  intro s w e hz ht
  refine loop2_intro (fun a b w=>∃ (k:Nat) (s:ByteArray),a = .string s∧b = .int .i64 k∧k≤r.states.length∧Ext W w∧s.size≤200+1000*1000+1000*k∧textP r=r.steps.foldl stpT ((r.states.drop k).foldl staT s)) (fun _ b _=>r.states.length - (intOf b).toNat) ⟨0,s,rfl,rfl,by omega,e,by omega,ht⟩ ?_
  rintro _ _ w ⟨k,s,rfl,rfl,hk,e,hz,ht⟩
  unfold n20c14
  by_cases hlt:k < r.states.length
  · obtain ⟨x,hx⟩:=getElem?_lt hlt
    obtain ⟨b,o,cs,rfl,_,hA,rfl⟩:=hel1 k x hx
    have dk:(k:Int) < (r.states.length:Int):=by omega
    have d1:decide ((k:Int) < (r.states.length:Int))=true:=decide_eq_true dk
    have hw:IntKind.i64.wrap ((k:Int)+1)=((k+1:Nat):Int):=by rw [wrap_ok (by omega) (by omega)];omega
    have hd:r.states.drop k=x::r.states.drop (k+1):=by
     rw [List.drop_eq_getElem_cons hlt]
     congr 1
     rw [List.getElem?_eq_getElem hlt] at hx
     injection hx
    rw [hd,List.foldl_cons] at ht
    obtain ⟨g1,g2,g3⟩:=hok.ss x (List.mem_of_getElem? hx)
    haveI j0:Szb s 1000000000:=⟨by omega⟩
    haveI j1:=szb_name g1
    have g4:Num10 x.wait:=by unfold Num10;omega
    haveI j2:=szb_dec g4
    have t1:=j1.le
    have t2:=j2.le
    have e7:(⟨#[10,115,116,97,116,101,32]⟩:ByteArray).size=7:=rfl
    have ew:(⟨#[32,119,97,105,116,32]⟩:ByteArray).size=6:=rfl
    have ef:(⟨#[32,102,105,110,97,108]⟩:ByteArray).size=6:=rfl
    simp (disch:=try exact DI) only [↓PR,QR,simprocAttr,(cells_of_heap (e.obj hp)).1,d1,↓n20c13,hA.c3 (eW.trans e)]
    generalize hV:World.alloc w _=V
    have eV:Ext w V:=by rw [← hV];exact (Ext.refl w).alloc _
    have oV:V.heap[w.heap.size]?=some (.cells (staCells x).toArray 50 (0,0)):=by rw [← hV];exact heap_new _ _ _
    clear hV
    have z1:(staT1 s x).size≤s.size+200:=by unfold staT1;simp only [size_app,e7];omega
    generalize w.heap.size=q at oV ⊢
    have fin:∀ w',Ext w w'→w'.heap[q]?=some (.cells (staCells x).toArray 50 (0,0))→(staT2 s x).size≤s.size+400→n20c2 (.string (staT2 s x)) (.int .i64 (k:Int)) (.pointer (some ⟨q,0,none⟩)) (fun a b w=>(∃ (k:Nat) (s:ByteArray),a = .string s∧b = .int .i64 k∧k≤r.states.length∧Ext W w∧s.size≤200+1000*1000+1000*k∧textP r=r.steps.foldl stpT ((r.states.drop k).foldl staT s))∧r.states.length - (intOf b).toNat < r.states.length - (intOf (Value.int .i64 (k:Int))).toNat) (retR fun u w'=>u = .string (textP r)∧Ext w0 w') w':=by
     intro w' e' o' hz2
     have c':=cells_of_heap o'
     haveI j3:Szb (staT2 s x) 2000000000:=⟨by omega⟩
     have hms:=meas_lt (kd := .i64) hlt
     unfold n20c2
     cases hf:x.final with
     | false =>
      have hst:staT s x=staT2 s x:=by unfold staT;rw [hf,if_neg (by simp)]
      simp (disch:=try exact DI) only [↓PR,QR,simprocAttr,c'.1,hf,hw]
      exact ⟨⟨k+1,_,rfl,rfl,by omega,e.trans e',by omega,by rw [← hst];exact ht⟩,hms⟩
     | true =>
      have hst:staT s x=staT2 s x++⟨#[32,102,105,110,97,108]⟩:=by unfold staT;rw [hf,if_pos rfl]
      simp (disch:=try exact DI) only [↓PR,QR,simprocAttr,c'.1,hf]
      rw [op_saddB _ _ _ _ rfl]
      simp (disch:=try exact DI) only [↓PR,QR,simprocAttr,hw]
      exact ⟨⟨k+1,_,rfl,rfl,by omega,e.trans e',by simp only [size_app,ef];omega,by rw [← hst];exact ht⟩,hms⟩
    have cV:=cells_of_heap oV
    rw [op_saddB _ _ _ _ rfl]
    simp (disch:=try exact DI) only [↓PR,QR,simprocAttr,cV.1]
    rw [op_saddB _ _ _ _ rfl]
    have h1:s++⟨#[10,115,116,97,116,101,32]⟩++x.name=staT1 s x:=rfl
    rw [h1]
    haveI j5:Szb (staT1 s x) 1100000000:=⟨by omega⟩
    by_cases hwt:0 < x.wait
    · have d2:decide (x.wait > 0)=true:=decide_eq_true hwt
      have hst:staT2 s x=staT1 s x++⟨#[32,119,97,105,116,32]⟩++decB x.wait:=by unfold staT2;rw [if_pos hwt]
      rw [hst] at fin
      simp (disch:=try exact DI) only [↓PR,QR,simprocAttr,cV.1,d2,↓n20c3]
      rw [op_saddB _ _ _ _ rfl]
      simp (disch:=try exact DI) only [↓PR,QR,simprocAttr,cV.1]
      refine zcr (rDigits_ret V x.wait (by omega) (by omega)) fun w2 e2=>?_
      rw [op_saddB _ _ _ _ rfl]
      exact fin w2 (eV.trans e2) (e2.obj oV) (by simp only [size_app,ew];omega)
    · have d2:decide (x.wait > 0)=false:=decide_eq_false hwt
      have hst:staT2 s x=staT1 s x:=by unfold staT2;rw [if_neg hwt]
      rw [hst] at fin
      simp (disch:=try exact DI) only [↓PR,QR,simprocAttr,cV.1,d2]
      exact fin V eV oV (by omega)
  · obtain rfl:k=r.states.length:=by omega
    have d1:decide ((r.states.length:Int) < (r.states.length:Int))=false:=decide_eq_false (by omega)
    rw [List.drop_length,List.foldl_nil] at ht
    simp (disch:=try exact DI) only [↓PR,QR,simprocAttr,(cells_of_heap (e.obj hp)).1,d1]
    exact steps s w e (by omega) ht
 refine loop2_intro (fun a b w=>∃ (k:Nat) (s:ByteArray),a = .string s∧b = .int .i64 k∧k≤r.counters.length∧Ext W w∧s.size≤200+1000*k∧textP r=r.steps.foldl stpT (r.states.foldl staT ((r.counters.drop k).foldl cntT s))) (fun _ b _=>r.counters.length - (intOf b).toNat) ⟨0,s0,rfl,rfl,by omega,Ext.refl _,by omega,htx⟩ ?_
 rintro _ _ w ⟨k,s,rfl,rfl,hk,e,hz,ht⟩
 unfold n20c15
 by_cases hlt:k < r.counters.length
 · obtain ⟨x,hx⟩:=getElem?_lt hlt
   obtain ⟨b,o,cs,rfl,_,hA,rfl⟩:=hel2 k x hx
   have dk:(k:Int) < (r.counters.length:Int):=by omega
   have d1:decide ((k:Int) < (r.counters.length:Int))=true:=decide_eq_true dk
   have hw:IntKind.i64.wrap ((k:Int)+1)=((k+1:Nat):Int):=by rw [wrap_ok (by omega) (by omega)];omega
   have hd:r.counters.drop k=x::r.counters.drop (k+1):=by
    rw [List.drop_eq_getElem_cons hlt]
    congr 1
    rw [List.getElem?_eq_getElem hlt] at hx
    injection hx
   rw [hd,List.foldl_cons] at ht
   obtain ⟨g1,g2⟩:=hok.cs x (List.mem_of_getElem? hx)
   haveI j0:Szb s 1000000000:=⟨by omega⟩
   haveI j1:=szb_name g1
   haveI j2:=szb_dec g2
   have t1:=j1.le
   have t2:=j2.le
   have e9:(⟨#[10,99,111,117,110,116,101,114,32]⟩:ByteArray).size=9:=rfl
   unfold Num10 at g2
   simp (disch:=try exact DI) only [↓PR,QR,simprocAttr,(cells_of_heap (e.obj hp)).1,d1]
   refine drawK_intro ?_
   have eD:Ext w (Sw.drew w):=(Ext.refl w).drew
   have eWD:=e.trans eD
   generalize Sw.drew w=D at eD eWD ⊢
   have cp:=cells_of_heap (eWD.obj hp)
   have hx2:=hA.c2 (eW.trans eWD)
   unfold n20c1
   rw [q_saddB _ _ _ _ rfl]
   simp (disch:=try exact DI) only [↓PR,QR,simprocAttr,cp.1,hx2]
   rw [q_saddB _ _ _ _ rfl,q_saddB _ _ _ _ rfl]
   simp (disch:=try exact DI) only [↓PR,QR,simprocAttr,cp.1,hx2]
   refine zcr (rDigits_ret D x.limit (by omega) (by omega)) fun w2 e2=>?_
   refine ⟨e2,?_⟩
   rw [q_saddB _ _ _ _ rfl]
   simp (disch:=try exact DI) only [↓PR,QR,simprocAttr,hw]
   refine ⟨⟨k+1,_,rfl,rfl,by omega,eWD.trans e2,?_,ht⟩,meas_lt (kd := .i64) hlt⟩
   simp only [size_app,e9,e32]
   omega
 · obtain rfl:k=r.counters.length:=by omega
   have d1:decide ((r.counters.length:Int) < (r.counters.length:Int))=false:=decide_eq_false (by omega)
   rw [List.drop_length,List.foldl_nil] at ht
   simp (disch:=try exact DI) only [↓PR,QR,simprocAttr,(cells_of_heap (e.obj hp)).1,d1]
   exact states s w e (by omega) ht
end
end Go.Proofs.YtngflmjncplkaaaGreatDoor
namespace Go.Sw
variable {α:Type}
def esOf (enc:α→Value) (L:List (α×Value×Nat)):Array MapEntry:=(L.map (mkE enc)).toArray
def IterAt (w:World) (p m c:Nat) (seen:Array Nat):Prop:=w.heap[p]?=some (.mapIter (some m) c seen c)
def iterLeft (enc:α→Value) (L:List (α×Value×Nat)) (p:Nat) (w:World):Nat:=(leftOf (esOf enc L) (w.iterSeen p)).size
section
variable {P:Program} {w w':World} {m c p:Nat} {enc:α→Value} {L:List (α×Value×Nat)} {seen:Array Nat} {QP:List PanicEntry→World→Prop} {k:Value→World→Prop}
theorem IterAt.ext (h:IterAt w p m c seen) (e:Ext w w'):IterAt w' p m c seen:=e.obj h
theorem IterAt.seenEq (h:IterAt w p m c seen):w.iterSeen p=seen:=by
 unfold IterAt at h
 unfold World.iterSeen
 rw [h]
theorem op_rangeMap {t kt et:TypeId} (ht:P.underlying t=some (.map kt et)) (h:MapB w m enc L c):opV P (Instr.range t (.map (some m))) QP w k=k (.pointer (some ⟨w.heap.size,0,none⟩)) (w.alloc (.mapIter (some m) c #[] c)):=opV_ok (run_range_map w t kt et m _ c ht h.obj)
theorem iter_new (w:World) (m c:Nat):IterAt (w.alloc (.mapIter (some m) c #[] c)) w.heap.size m c #[]:=heap_alloc_new w _
theorem mem_leftL (h:MapB w m enc L c) {e:MapEntry} (he:e∈(leftOf (esOf enc L) seen).toList):∃ x∈L,e=mkE enc x∧seen.contains x.2.2=false:=by
 obtain ⟨h1,h2⟩:=mem_left he
 unfold esOf at h1
 simp only [List.mem_map] at h1
 obtain ⟨x,hx,rfl⟩:=h1
 exact ⟨x,hx,rfl,h2⟩
theorem iterLeft_zero (h:MapB w m enc L c) (hi:iterLeft enc L p w=0) {x:α×Value×Nat} (hx:x∈L):(w.iterSeen p).contains x.2.2=true:=by
 cases hc:(w.iterSeen p).contains x.2.2 with
 | true=>rfl
 | false =>
  exfalso
  have hm:mkE enc x∈leftOf (esOf enc L) (w.iterSeen p):=by
   unfold leftOf
   rw [Array.mem_filter]
   refine ⟨?_,?_⟩
   · unfold esOf;simp;exact ⟨x.1,x.2.1,x.2.2,hx,rfl⟩
   · show (!(w.iterSeen p).contains x.2.2)=true
     rw [hc];rfl
  unfold iterLeft at hi
  have:=Array.size_pos_of_mem hm
  omega
theorem op_nextMap {ty:TypeId} (h:MapB w m enc L c) (hi:IterAt w p m c seen)
 (h0:iterLeft enc L p w=0→k (.tuple #[.bool false]) w)
 (h1:∀ x w',x∈L→seen.contains x.2.2=false→(∀ a,Ext a w→a.heap.size≤p→Ext a w')→MapB w' m enc L c→IterAt w' p m c (seen.push x.2.2)→(∀ b,b≠p→w'.heap[b]?=w.heap[b]?)→w'.heap.size=w.heap.size→iterLeft enc L p w' < iterLeft enc L p w→k (.tuple #[.bool true,enc x.1,x.2.1]) w') :
 opV P (Instr.next (.pointer (some ⟨p,0,none⟩)) false ty) QP w k:=by
 have hp:p < w.heap.size:=(Array.getElem?_eq_some_iff.1 hi).1
 have hne:m≠p:=fun e=>by
  have:=h.obj
  rw [e,hi] at this
  cases this
 have hes:∀ x∈(esOf enc L).toList,x.born < c:=fun x hx=>by
  unfold esOf at hx
  simp only [List.mem_map] at hx
  obtain ⟨y,hy,rfl⟩:=hx
  exact h.lt y hy
 have hb:=h.obj
 have hs:=IterAt.seenEq hi
 rw [show (L.map (mkE enc)).toArray=esOf enc L from rfl] at hb
 have hrun:(Instr.next (.pointer (some ⟨p,0,none⟩)) false ty).run P w=(if (leftOf (esOf enc L) seen).size=0 then .ok (.tuple #[.bool false]) w else (Instr.next (.pointer (some ⟨p,0,none⟩)) false ty).run P w):=by
  split
  · rename_i hz
    have hL:(leftOf (esOf enc L) seen) = #[]:=Array.eq_empty_of_size_eq_zero hz
    have hip:w.heap[p]?=some (.mapIter (some m) c seen c):=hi
    simp only [Instr.next,getObj,Sem.run_bind,Sem.run,hip,hb,Result.andThen,next_test_false seen (esOf enc L) c c hes (Nat.le_refl _),Bool.false_eq_true,if_false]
    unfold leftOf at hL
    simp only [hL]
    simp [choose,Sem.run,Question.forced]
  · rfl
 by_cases hz:(leftOf (esOf enc L) seen).size=0
 · rw [if_pos hz] at hrun
   rw [opV_ok hrun]
   exact h0 (by unfold iterLeft;rw [hs];exact hz)
 · clear hrun h0
   have hmem:∀ x∈(leftOf (esOf enc L) seen).toList,x.born < c:=fun x hx=>hes x (mem_left hx).1
   have hml:∀ e∈(leftOf (esOf enc L) seen).toList,∃ x∈L,e=mkE enc x∧seen.contains x.2.2=false:=fun e he=>mem_leftL h he
   have hsh:∀ e∈(leftOf (esOf enc L) seen).toList,(leftOf (esOf enc L) (seen.push e.born)).size < (leftOf (esOf enc L) seen).size:=fun e he=>left_shrinks _ _ _ he
   have hit:iterLeft enc L p w=(leftOf (esOf enc L) seen).size:=by unfold iterLeft;rw [hs]
   generalize hLf:leftOf (esOf enc L) seen=Lf at hmem hml hz hsh hit
   have e1:Lf.filter (fun x=>decide (x.born < c))=Lf:=Array.filter_eq_self.2 (fun x hx=>by simpa using hmem x (by simpa using hx))
   have e2:Lf.filter (fun x=>decide (x.born≥c)) = #[]:=by
    rw [Array.filter_eq_empty_iff]
    intro x hx
    have:=hmem x (by simpa using hx)
    simp
    omega
   have hne0:Lf.isEmpty=false:=by simp [Array.isEmpty,hz]
   have hch:∃ (j:Nat) (w1:World),j < Lf.size∧w1.heap=w.heap∧w1.os=w.os∧w1.tape=w.tape∧w1.output=w.output∧(choose (Question.mapNext Lf.size)).run P w = .ok j w1:=by
    by_cases hf:Lf.size≤1
    · exact ⟨0,w,by omega,rfl,rfl,rfl,rfl,by simp [choose,Sem.run,Question.forced,hf]⟩
    · exact ⟨_,w.drew,Nat.mod_lt _ (by omega),rfl,rfl,rfl,rfl,by
       simp only [choose,Sem.run,Question.forced,decide_eq_true_eq,hf,if_false,Question.cut]
       rfl⟩
   obtain ⟨j,w1,hj,a1,a2,a3,a4,hrun⟩:=hch
   obtain ⟨x,hx,hxe,hxs⟩:=hml Lf[j] (by simp)
   have hset:∀ o',(Go.setObj p o').run P w1 = .ok () (w1.putObj p o'):=fun o'=>by
    have:w1.heap[p]?=some (.mapIter (some m) c seen c):=by rw [a1];exact hi
    simp [Go.setObj,Sem.run,this,World.putObj]
   have hfin:(Instr.next (.pointer (some ⟨p,0,none⟩)) false ty).run P w = .ok (.tuple #[.bool true,enc x.1,x.2.1]) (w1.putObj p (.mapIter (some m) c (seen.push x.2.2) c)):=by
    have hip:w.heap[p]?=some (.mapIter (some m) c seen c):=hi
    simp only [Instr.next,getObj,Sem.run_bind,Sem.run,hip,hb,Result.andThen,next_test_false seen (esOf enc L) c c hes (Nat.le_refl _),Bool.false_eq_true,if_false]
    unfold leftOf at hLf
    simp only [hLf,e1,e2,Array.append_empty,hne0,Bool.false_eq_true,if_false,Array.empty_append,Array.size_map,hrun,Array.getElem?_map,Array.getElem?_eq_getElem hj,Option.map_some,Sem.run_bind,Result.andThen,hset]
    rw [hxe]
    rfl
   rw [opV_ok hfin]
   have hsz:(w1.putObj p (.mapIter (some m) c (seen.push x.2.2) c)).heap.size=w.heap.size:=by rw [World.putObj_size,a1]
   have hoth:∀ b,b≠p→(w1.putObj p (.mapIter (some m) c (seen.push x.2.2) c)).heap[b]?=w.heap[b]?:=fun b hb=>by rw [World.putObj_heap_other hb,a1]
   have hnew:IterAt (w1.putObj p (.mapIter (some m) c (seen.push x.2.2) c)) p m c (seen.push x.2.2):=by
    unfold IterAt
    show (w1.heap.setIfInBounds p _)[p]?=_
    rw [Array.getElem?_setIfInBounds_self_of_lt (by rw [a1];exact hp)]
   refine h1 x _ hx hxs (fun a e hap=>⟨by show w1.os=_;rw [a2];exact e.os,by show w1.tape=_;rw [a3];exact e.tape,by show w1.output=_;rw [a4];exact e.output,by rw [hsz];exact e.size,fun b hb=>by rw [hoth b (by omega)];exact e.block b hb⟩) (h.of_obj (hoth m hne)) hnew hoth hsz ?_
   rw [hit]
   unfold iterLeft
   rw [IterAt.seenEq hnew]
   have:=hsh Lf[j] (by simp)
   rw [hxe] at this
   exact this
theorem op_entryMap (h:MapB w m enc L c) {x:α×Value×Nat} (hx:x∈L) (hi:IterAt w p m c (seen.push x.2.2)):opV P (Instr.entry (.pointer (some ⟨p,0,none⟩))) QP w k=k (.tuple #[enc x.1,x.2.1]) w:=by
 refine opV_ok ?_
 have hn:((esOf enc L).toList.map (·.born)).Nodup:=by
  unfold esOf
  simp only [List.map_map]
  rw [List.nodup_iff_pairwise_ne,List.pairwise_map]
  exact h.births
 have hf:(esOf enc L).find? (·.born == x.2.2)=some (mkE enc x):=by
  rw [← Array.find?_toList]
  exact find_born (mkE enc x) _ hn (by unfold esOf;exact List.mem_map.2 ⟨x,hx,rfl⟩)
 have hip:w.heap[p]?=some (.mapIter (some m) c (seen.push x.2.2) c):=hi
 have hb:w.heap[m]?=some (.map (esOf enc L) c):=h.obj
 simp only [Instr.entry,getObj,Sem.run_bind,Sem.run,hip,hb,Result.andThen,Array.back?_push,bne_self_eq_false,Bool.false_eq_true,if_false,hf]
 rfl
theorem look_mem [DecidableEq α] (h:MapB w m enc L c) {x:α×Value×Nat} (hx:x∈L):look L x.1=some x.2.1:=by
 have hk:=h.keys
 clear h
 induction L with
 | nil=>cases hx
 | cons y l ih =>
  rw [look_cons]
  rw [List.pairwise_cons] at hk
  rcases List.mem_cons.1 hx with rfl | hx
  · rw [if_pos rfl]
  · rw [if_neg (hk.1 x hx),ih hx hk.2]
theorem look_has [DecidableEq α] {k:α} {v:Value} (h:look L k=some v):∃ x∈L,x.1=k∧x.2.1=v:=by
 unfold look at h
 cases hf:L.find? (fun x=>decide (x.1=k)) with
 | none=>rw [hf] at h;cases h
 | some x =>
  rw [hf] at h
  injection h with h
  exact ⟨x,List.mem_of_find?_eq_some hf,by simpa using List.find?_some hf,h⟩
end
def setA (cs:Array Value) (o:Nat):List Value→Array Value
 | []=>cs
 | v::vs=>setA (cs.setIfInBounds o v) (o+1) vs
theorem setA_get:∀ (vs:List Value) (cs:Array Value) (o j:Nat),o+vs.length≤cs.size→(setA cs o vs)[j]?=if o≤j∧j < o+vs.length then vs[j - o]? else cs[j]?
 | [],cs,o,j,_=>by rw [if_neg (by simp only [List.length_nil];omega)];rfl
 | v::vs,cs,o,j,h=>by
  rw [List.length_cons] at h
  rw [setA,setA_get vs _ (o+1) j (by rw [Array.size_setIfInBounds];omega),List.length_cons]
  by_cases h1:j=o
  · subst h1
    rw [if_neg (by omega),if_pos (by omega),Nat.sub_self,Array.getElem?_setIfInBounds_self_of_lt (by omega)]
    rfl
  · by_cases h2:o+1≤j∧j < o+1+vs.length
    · rw [if_pos h2,if_pos (by omega),show j - o=(j - (o+1))+1 by omega,List.getElem?_cons_succ]
    · rw [if_neg h2,if_neg (by omega),Array.getElem?_setIfInBounds_ne (by omega)]
theorem setA_all {vs:List Value} {cs:Array Value} (h:vs.length=cs.size):setA cs 0 vs=vs.toArray:=by
 apply Array.ext_getElem?
 intro j
 rw [setA_get vs cs 0 j (by omega)]
 by_cases hj:j < vs.length
 · rw [if_pos (by omega),Nat.sub_zero,List.getElem?_toArray]
 · have hs:vs.toArray.size=vs.length:=List.size_toArray ..
   rw [if_neg (by omega),Array.getElem?_eq_none (by omega),Array.getElem?_eq_none (by omega)]
theorem setCells_heap {T:TypeId} {b:Nat}:∀ (vs:List Value) {w:World} {cs:Array Value} (o:Nat),w.heap[b]?=some (.cells cs T (0,0))→(setCells w b o vs).heap[b]?=some (.cells (setA cs o vs) T (0,0))
 | [],_,_,_,h=>h
 | v::vs,_,_,o,h=>setCells_heap vs (o+1) (heap_set h v)
theorem setCells_only {b:Nat}:∀ (vs:List Value) (w:World) (o:Nat) (g:Nat),g≠b→(setCells w b o vs).heap[g]?=w.heap[g]?
 | [],_,_,_,_=>rfl
 | v::vs,w,o,g,h=>(setCells_only vs _ (o+1) g h).trans (Only.setCell w b o v g h)
theorem setCells_ext {b:Nat}:∀ (vs:List Value) (w:World) (o:Nat) (a:World),Ext a w→a.heap.size≤b→Ext a (setCells w b o vs)
 | [],_,_,_,e,_=>e
 | v::vs,w,o,a,e,hb=>setCells_ext vs _ (o+1) a (e.setCell (p:=⟨b,o,none⟩) hb v) hb
theorem op_storeO {P:Program} {w:World} {QP:List PanicEntry→World→Prop} {ku:World→Prop} {T T':TypeId} {n m b:Nat} {z:Value} {cs:Array Value} (h:TyInfo P T true n m z) (ho:w.heap[b]?=some (.cells cs T' (0,0))) {vs:List Value} (hn:vs.length=n) (hc:n≤cs.size) (hv:∀ v∈vs,v.oneCell'=true) :
 opU P (Instr.storeAt T (.pointer (some ⟨b,0,none⟩)) (.agg vs.toArray)) QP w ku=ku (setCells w b 0 vs):=by
 refine opU_ok (u:=()) ?_
 have hq:=cells_of_heap ho
 have hcc:∀ j,j < vs.length→∃ u,w.cell? ⟨b,0+(0+j),none⟩=some u:=fun j hj=>by
  rw [hq.1]
  exact ⟨cs[j]'(by omega),by rw [Nat.zero_add,Nat.zero_add];exact Array.getElem?_eq_getElem (by omega)⟩
 have hff:∀ j,j < vs.length→w.frozen? ⟨b,0+(0+j),none⟩=false:=fun j _=>hq.2 _
 have:=run_storeCellsA (P:=P) b 0 vs 0 w hcc hff hv
 simp [Instr.storeAt,Instr.sureAddr,storeVar,run_sizeOf h,cells_agg,hn,this]
end Go.Sw
namespace Go.Proofs.YtngflmjncplkaaaGreatDoor
open Sw
open Go.RowKit (intOf Below)
structure RS (w0:World) (p:Nat) (lines:List ByteArray) (at_:Nat) (lv:Value) (B q:Nat) (T:TypeId) (w:World) (us:List ByteArray) (cs:Array Value):Prop where
 rd:Rd w p lines at_ us lv B
 sv:Save p (p+1) w0 w
 ob:w.heap[q]?=some (.cells cs T (0,0))
 qp:q≠p
 qB:q≠B
 ql:∀ A n c,lv = .slice (some A) n c→A.block≠q
 ge:w0.heap.size≤q
section
variable {w w0 w':World} {p at_ B q:Nat} {lines us us':List ByteArray} {lv:Value} {T:TypeId} {cs:Array Value} {o:Option (Value×List ByteArray)} {k:Value→World→Prop}
theorem RS.next (h:RS w0 p lines at_ lv B q T w us cs) (hs:Save p (p+1) w w') (hr:Rd w' p lines at_ us' lv B):RS w0 p lines at_ lv B q T w' us' cs :=
 ⟨hr,h.sv.trans hs,hs.obj h.ob (by have:=h.qp;omega),h.qp,h.qB,h.ql,h.ge⟩
theorem RS.ext (h:RS w0 p lines at_ lv B q T w us cs) (e:Ext w w'):RS w0 p lines at_ lv B q T w' us cs:=h.next (Save.of_ext e) (h.rd.ext e)
theorem RS.set (h:RS w0 p lines at_ lv B q T w us cs) (i:Nat) (v:Value):RS w0 p lines at_ lv B q T (w.setCell ⟨q,i,none⟩ v) us (cs.setIfInBounds i v) :=
 ⟨h.rd.other v h.qp h.qB h.ql,h.sv.setNew h.ge v,heap_set h.ob v,h.qp,h.qB,h.ql,h.ge⟩
theorem RS.setAll (h:RS w0 p lines at_ lv B q T w us cs) (vs:List Value) (hl:vs.length=cs.size):RS w0 p lines at_ lv B q T (setCells w q 0 vs) us vs.toArray:=by
 have hb:=setCells_only vs w 0 (b:=q)
 have key:∀ (l:List Value) (w:World) (o:Nat) (c:Array Value),RS w0 p lines at_ lv B q T w us c→RS w0 p lines at_ lv B q T (setCells w q o l) us (setA c o l):=by
  intro l
  induction l with
  | nil=>intro w o c h;exact h
  | cons v l ih=>intro w o c h;exact ih _ _ _ (h.set o v)
 have:=key vs w 0 cs h
 rwa [setA_all hl] at this
theorem RS.new (h:Rd w p lines at_ us lv B) (hB:B < w.heap.size) (hl:∀ A n c,lv = .slice (some A) n c→A.block < w.heap.size):RS w p lines at_ lv B w.heap.size T (w.alloc (.cells cs T)) us cs:=by
 have hp:p < w.heap.size:=by
  obtain ⟨wv,h⟩:=h
  exact (Array.getElem?_eq_some_iff.1 h.obj).1
 have e:Ext w (w.alloc (.cells cs T)):=(Ext.refl w).alloc _
 exact ⟨h.ext e,Save.of_ext e,heap_new _ _ _,by omega,by omega,fun A n c hv=>by have:=hl A n c hv;omega,Nat.le_refl _⟩
theorem RS.name (h:RS w0 p lines at_ lv B q T w us cs) (hk:∀ x l w',nameP us=some (x,l)→RS w0 p lines at_ lv B q T w' l cs→k (.string x) w') (hn:nameP us=none→o=none):callK Pg 67 #[.pointer (some ⟨p,0,none⟩)] (panK (WrR w0 p lines at_ lv B o)) w k:=by
 have hp:popN us=(nameP us).map fun z=>(.string z.1,z.2):=by
  cases us with
  | nil=>rfl
  | cons x l =>
   show (if nameB x=true then some (Value.string x,l) else none)=_
   rw [nameP_eq]
   split<;>rfl
 refine callK_wr (name_wr h.rd) (fun v l w1 ho hr hs=>?_) fun w1 ho hs=>?_
 · rw [hp] at ho
   cases hc:nameP us with
   | none=>rw [hc] at ho;cases ho
   | some z =>
    rw [hc] at ho
    injection ho with ho
    injection ho with e1 e2
    subst e1 e2
    exact hk _ _ _ hc (h.next hs hr)
 · rw [hp] at ho
   cases hc:nameP us with
   | none=>exact wr_pan (h.sv.trans hs) (hn hc)
   | some z=>rw [hc] at ho;cases ho
theorem RS.word (h:RS w0 p lines at_ lv B q T w us cs) (hk:∀ x l w',wordP us=some (x,l)→RS w0 p lines at_ lv B q T w' l cs→k (.string x) w') (hn:wordP us=none→o=none):callK Pg 69 #[.pointer (some ⟨p,0,none⟩)] (panK (WrR w0 p lines at_ lv B o)) w k:=by
 have hp:popW us=(wordP us).map fun z=>(.string z.1,z.2):=by
  cases us with
  | nil=>rfl
  | cons x l=>rfl
 refine callK_wr (word_wr h.rd) (fun v l w1 ho hr hs=>?_) fun w1 ho hs=>?_
 · rw [hp] at ho
   cases hc:wordP us with
   | none=>rw [hc] at ho;cases ho
   | some z =>
    rw [hc] at ho
    injection ho with ho
    injection ho with e1 e2
    subst e1 e2
    exact hk _ _ _ hc (h.next hs hr)
 · rw [hp] at ho
   cases hc:wordP us with
   | none=>exact wr_pan (h.sv.trans hs) (hn hc)
   | some z=>rw [hc] at ho;cases ho
theorem RS.num {WB:World} (hE:EnvOK WB) (eB:Ext WB w0) (hb:WB.heap.size≤p) (hz:∀ x∈us,x.size≤100000) (h:RS w0 p lines at_ lv B q T w us cs) (hk:∀ n l w',numP us=some (n,l)→RS w0 p lines at_ lv B q T w' l cs→k (.int .i64 n) w') (hn:numP us=none→o=none):callK Pg 70 #[.pointer (some ⟨p,0,none⟩)] (panK (WrR w0 p lines at_ lv B o)) w k:=by
 refine callK_wr (number_wr hE (h.sv.to_ext eB hb) hb hz h.rd) (fun v l w1 ho hr hs=>?_) fun w1 ho hs=>?_
 · cases hc:numP us with
   | none=>rw [hc] at ho;cases ho
   | some z =>
    rw [hc] at ho
    injection ho with ho
    injection ho with e1 e2
    subst e1 e2
    exact hk _ _ _ hc (h.next hs hr)
 · cases hc:numP us with
   | none=>exact wr_pan (h.sv.trans hs) (hn hc)
   | some z=>rw [hc] at ho;cases ho
theorem RS.skip (h:RS w0 p lines at_ lv B q T w us cs) (s:ByteArray) {QP:List PanicEntry→World→Prop} (hk:∀ w',RS w0 p lines at_ lv B q T w' (tailIf (skipB s us) us) cs→k (.bool (skipB s us)) w'):callK Pg 107 #[.pointer (some ⟨p,0,none⟩),.string s] QP w k:=by
 refine callK_ret (skip_ret h.rd s) ?_
 rintro _ w' ⟨rfl,hr,hs⟩
 exact hk w' (h.next hs hr)
theorem RS.must (h:RS w0 p lines at_ lv B q T w us cs) {b:Bool} (hn:b=false→o=none) (hk:∀ w',b=true→RS w0 p lines at_ lv B q T w' us cs→k (.tuple #[]) w'):callK Pg 66 #[.pointer (some ⟨p,0,none⟩),.bool b] (panK (WrR w0 p lines at_ lv B o)) w k:=by
 refine callK_wr (must_wr h.rd b) (fun v l w1 ho hr hs=>?_) fun w1 ho hs=>?_
 · cases b with
   | false=>cases ho
   | true =>
    injection ho with ho
    injection ho with e1 e2
    subst e1 e2
    exact hk w1 rfl (h.next hs hr)
 · cases b with
   | true=>cases ho
   | false=>exact wr_pan (h.sv.trans hs) (hn rfl)
theorem RS.fin (h:RS w0 p lines at_ lv B q T w us cs) (hn:us≠[]→o=none) (hk:∀ w',us=[]→RS w0 p lines at_ lv B q T w' [] cs→k (.tuple #[]) w'):callK Pg 71 #[.pointer (some ⟨p,0,none⟩)] (panK (WrR w0 p lines at_ lv B o)) w k:=by
 refine callK_wr (end_wr h.rd) (fun v l w1 ho hr hs=>?_) fun w1 ho hs=>?_
 · split at ho
   · rename_i hu
     injection ho with ho
     injection ho with e1 e2
     subst e1 e2
     exact hk w1 hu (h.next hs hr)
   · cases ho
 · split at ho
   · cases ho
   · rename_i hu
     exact wr_pan (h.sv.trans hs) (hn hu)
theorem SliceOf_same {α:Type} {n:Nat} {E:World→List Value→α→Prop} {v:Value} {l:List α} (h:SliceOf w n E v l) (hb:∀ A m c,v = .slice (some A) m c→w'.heap[A.block]?=w.heap[A.block]?) (hE:∀ cs x,E w cs x→E w' cs x):SliceOf w' n E v l:=by
 obtain ⟨A,c,hv,h1,h2,h3⟩:=h
 refine ⟨A,c,hv,h1,h2,fun hne=>?_⟩
 obtain ⟨b,o,hA,hel⟩:=h3 hne
 refine ⟨b,o,hA,fun k x hx=>?_⟩
 obtain ⟨cs,a1,a2,a3⟩:=hel k x hx
 have hsame:=hb ⟨b,o,none⟩ _ _ (by rw [hv,hA])
 exact ⟨cs,a1,fun j u hu=>(World.cell?_of_block (a:=⟨b,o+k*n+j,none⟩) hsame).trans (a2 j u hu),hE _ _ a3⟩
structure Far (w0:World) (p B q:Nat) (lv:Value) (N:Nat):Prop where
 w0:w0.heap.size≤N
 p:p < N
 B:B < N
 q:q < N
 l:∀ A n c,lv = .slice (some A) n c→A.block < N
theorem RS.far {N i:Nat} (h:RS w0 p lines at_ lv B q T w us cs) (hf:Far w0 p B q lv N) (hi:N≤i) (hx:∀ a,Ext a w→a.heap.size≤i→Ext a w') (hs:∀ b,b≠i→w'.heap[b]?=w.heap[b]?) (hz:w.heap.size≤w'.heap.size):RS w0 p lines at_ lv B q T w' us cs:=by
 have e0:Ext { w with heap := #[] } w:=⟨rfl,rfl,rfl,Nat.zero_le _,fun k hk=>absurd hk (Nat.not_lt_zero _)⟩
 have e1:=hx _ e0 (Nat.zero_le _)
 have hS:Save p (p+1) w w'→Save p (p+1) w0 w':=fun h'=>h.sv.trans h'
 obtain ⟨wv,hr⟩:=h.rd
 have:=hf.w0
 have:=hf.p
 have:=hf.B
 have:=hf.q
 refine ⟨⟨wv,?_,SliceOf_same hr.ls (fun A m c e=>hs _ (by have:=hf.l A m c e;omega)) (fun _ _ h=>h),SliceOf_same hr.wd (fun A m c e=>hs _ (by rw [hr.wb A m c e];omega)) (fun _ _ h=>h),hr.lp,hr.wb,hr.bp⟩,?_,?_,h.qp,h.qB,h.ql,h.ge⟩
 · rw [hs _ (by omega)];exact hr.obj
 · exact ⟨e1.os.trans h.sv.os,e1.tape.trans h.sv.tape,e1.output.trans h.sv.output,Nat.le_trans h.sv.size hz,fun k hk hb=>(hs k (by omega)).trans (h.sv.block k hk hb)⟩
 · rw [hs _ (by omega)];exact h.ob
theorem RS.ret {v:Value} (h:RS w0 p lines at_ lv B q T w us cs) (ho:o=some (v,us)):WrR w0 p lines at_ lv B o (.returned v) w:=wr_ret h.sv ho h.rd
end
section
variable {WB w:World} {p at_ B:Nat} {lines ws:List ByteArray} {lv:Value}
theorem tail_sub {x:ByteArray} {ws:List ByteArray} {b:Bool} (h:x∈tailIf b ws):x∈ws:=by
 unfold tailIf at h
 split at h
 · exact List.mem_of_mem_tail h
 · exact h
theorem nameP_sub {ws l:List ByteArray} {x:ByteArray} (h:nameP ws=some (x,l)):∀ y∈l,y∈ws:=by
 cases ws with
 | nil=>cases h
 | cons a r =>
  rw [nameP_eq] at h
  split at h
  · injection h with h
    injection h with h1 h2
    subst h2
    exact fun y hy=>List.mem_cons_of_mem _ hy
  · cases h
theorem numP_sub {ws l:List ByteArray} {n:Int} (h:numP ws=some (n,l)):∀ y∈l,y∈ws:=by
 cases ws with
 | nil=>cases h
 | cons a r =>
  rw [numP_cons] at h
  cases hb:numB a with
  | none=>rw [hb] at h;cases h
  | some m =>
   rw [hb] at h
   injection h with h
   injection h with h1 h2
   subst h2
   exact fun y hy=>List.mem_cons_of_mem _ hy
theorem state_wr (hE:EnvOK WB) (eB:Ext WB w) (hp:WB.heap.size≤p) (hz:∀ x∈ws,x.size≤100000) (h:Rd w p lines at_ ws lv B) (hB:B < w.heap.size) (hl:∀ A n c,lv = .slice (some A) n c→A.block < w.heap.size) :
 Calls Pg 90 #[.pointer (some ⟨p,0,none⟩)] w (WrR w p lines at_ lv B ((staP ws).map fun s=>(staVal s,[]))):=by
 refine n69s ?_;unfold n69
 simp (disch:=try exact DI) only [↓PR,QR,simprocAttr]
 have h:=RS.new (T:=50) (cs := #[.string ByteArray.empty,.bool false,.int .i64 0]) h hB hl
 generalize World.alloc w _=V at h ⊢
 generalize w.heap.size=q at h ⊢
 clear hB hl
 refine h.name (fun x us w1 hx h=>?_) fun hn=>by unfold staP;rw [hn];rfl
 have hsub:=nameP_sub hx
 unfold n69c4
 simp (disch:=try exact DI) only [↓PR,QR,simprocAttr,(cells_of_heap h.ob).1,(cells_of_heap h.ob).2]
 have h:=h.set 0 (.string x)
 generalize World.setCell w1 _ _=w2 at h ⊢
 refine h.skip kWait fun w3 h=>?_
 unfold n69c3
 have fin:∀ (n:Int) (vs:List ByteArray) (w':World),waitP us=some (n,vs)→RS w p lines at_ lv B q 50 w' vs #[.string x,.bool false,.int .i64 n]→callK Pg 107 #[.pointer (some ⟨p,0,none⟩),.string kFinal] (panK (WrR w p lines at_ lv B ((staP ws).map fun s=>(staVal s,[])))) w' fun t17 w'=>n69c1 (.pointer (some ⟨p,0,none⟩)) (.pointer (some ⟨q,0,none⟩)) t17 (WrR w p lines at_ lv B ((staP ws).map fun s=>(staVal s,[]))) w':=by
  intro n vs w' hv h
  have hst:staP ws=endP (⟨x,skipB kFinal vs,n⟩:StaD) (tailIf (skipB kFinal vs) vs):=by
   unfold staP
   rw [hx]
   simp only [Option.bind_some]
   rw [hv]
   rfl
  refine h.skip kFinal fun w4 h=>?_
  unfold n69c1
  simp (disch:=try exact DI) only [↓PR,QR,simprocAttr,(cells_of_heap h.ob).1,(cells_of_heap h.ob).2]
  have h:=h.set 1 (.bool (skipB kFinal vs))
  generalize World.setCell w4 _ _=w5 at h ⊢
  refine h.fin (fun hn=>by rw [hst];unfold endP;rw [if_neg hn];rfl) fun w6 hv6 h=>?_
  have h:RS w p lines at_ lv B q 50 w6 [] #[.string x,.bool (skipB kFinal vs),.int .i64 n]:=h
  simp (disch:=try exact DI) only [↓PR,QR,simprocAttr,(cells_of_heap h.ob).1,(cells_of_heap h.ob).2]
  have h:=((h.set 0 (.string x)).set 1 (.bool (skipB kFinal vs))).set 2 (.int .i64 n)
  exact h.ret (by rw [hst,hv6];rfl)
 cases hs:skipB kWait us with
 | true =>
  rw [hs] at h
  simp (disch:=try exact DI) only [↓PR,QR,simprocAttr]
  refine RS.num hE eB hp (fun y hy=>hz y (hsub y (tail_sub hy))) h (fun n vs w4 hn h=>?_) fun hn=>?_
  · unfold n69c2
    simp (disch:=try exact DI) only [↓PR,QR,simprocAttr,(cells_of_heap h.ob).1,(cells_of_heap h.ob).2]
    have h:=h.set 2 (.int .i64 n)
    generalize World.setCell w4 _ _=w5 at h ⊢
    have hw:waitP us=if n=0 then none else some (n,vs):=by
     unfold waitP
     rw [if_pos hs]
     have hn:numP us.tail=some (n,vs):=hn
     rw [hn]
     rfl
    have d1:(n != 0)=!decide (n=0):=by rw [Bool.eq_iff_iff];simp
    rw [d1]
    refine h.must (fun hb=>?_) fun w6 hb h=>?_
    · have:n=0:=by simpa using hb
      unfold staP
      rw [hx]
      simp only [Option.bind_some]
      rw [hw,if_pos this]
      rfl
    · have:¬ n=0:=by simpa using hb
      exact fin n vs w6 (by rw [hw,if_neg this]) h
  · unfold staP
    rw [hx]
    simp only [Option.bind_some]
    unfold waitP
    rw [if_pos hs]
    have hn:numP us.tail=none:=hn
    rw [hn]
    rfl
 | false =>
  rw [hs] at h
  simp (disch:=try exact DI) only [↓PR,QR,simprocAttr]
  exact fin 0 us w3 (by unfold waitP;rw [if_neg (by rw [hs];simp)]) h
abbrev stpZ (fr to:ByteArray) (kd:Int) (m pr c:ByteArray) (lo hi ad:Int):Array Value := #[.string fr,.string to,.int .i64 kd,.string m,.string pr,.string c,.int .i64 lo,.int .i64 hi,.int .i64 ad]
theorem step_end {O:Option (Value×List ByteArray)} {q:Nat} {us:List ByteArray} {x:StpD} {w0:World} (h:RS w0 p lines at_ lv B q 71 w us (stpCells x).toArray) (hO:O=(endP x us).map fun s=>(stpVal s,[])) :
 n70c1 (.pointer (some ⟨p,0,none⟩)) (.pointer (some ⟨q,0,none⟩)) (WrR w0 p lines at_ lv B O) w:=by
 unfold n70c1
 refine h.fin (fun hn=>by rw [hO];unfold endP;rw [if_neg hn];rfl) fun w6 hv6 h=>?_
 simp (disch:=try exact DI) only [↓PR,QR,simprocAttr,(cells_of_heap h.ob).1]
 rw [op_storeO ty71 h.ob (vs:=stpCells x) rfl (Nat.le_refl _) (by intro v hv;simp only [List.mem_cons,List.not_mem_nil,or_false] at hv;rcases hv with rfl | rfl | rfl | rfl | rfl | rfl | rfl | rfl | rfl<;>rfl)]
 have h:=h.setAll (stpCells x) rfl
 simp (disch:=try exact DI) only [↓PR,QR,simprocAttr,(cells_of_heap h.ob).1]
 refine h.ret ?_
 rw [hO,hv6]
 rfl
theorem step_when (hE:EnvOK WB) {O:Option (Value×List ByteArray)} {q:Nat} {us:List ByteArray} {fr to m pr:ByteArray} {kd:Int} {w0:World} (eB:Ext WB w0) (hp:WB.heap.size≤p) (hz:∀ x∈us,x.size≤100000) (h:RS w0 p lines at_ lv B q 71 w us (stpZ fr to kd m pr ByteArray.empty 0 0 0))
 (hO:O=((whenP us).bind fun h=>endP (⟨fr,to,kd,m,pr,h.1.counter,h.1.low,h.1.high,h.1.add⟩:StpD) h.2).map fun s=>(stpVal s,[])) :
 n70c4 (.pointer (some ⟨p,0,none⟩)) (.pointer (some ⟨q,0,none⟩)) (WrR w0 p lines at_ lv B O) w:=by
 unfold n70c4
 refine h.skip kWhen fun w1 h=>?_
 unfold whenP at hO
 cases hs:skipB kWhen us with
 | false =>
  rw [hs] at h hO
  rw [if_neg (by simp)] at hO
  simp (disch:=try exact DI) only [↓PR,QR,simprocAttr]
  exact step_end (x:=⟨fr,to,kd,m,pr,ByteArray.empty,0,0,0⟩) h hO
 | true =>
  rw [hs] at h hO
  rw [if_pos rfl] at hO
  simp (disch:=try exact DI) only [↓PR,QR,simprocAttr]
  have hz1:∀ x∈us.tail,x.size≤100000:=fun x hx=>hz x (List.mem_of_mem_tail hx)
  refine h.name (fun c l1 w2 h1 h=>?_) fun hn=>by have hn:nameP us.tail=none:=hn;rw [hO,hn];rfl
  have h1:nameP us.tail=some (c,l1):=h1
  rw [h1] at hO
  simp only [Option.bind_some] at hO
  have hz2:∀ x∈l1,x.size≤100000:=fun x hx=>hz1 x (nameP_sub h1 x hx)
  unfold n70c3
  simp (disch:=try exact DI) only [↓PR,QR,simprocAttr,(cells_of_heap h.ob).1,(cells_of_heap h.ob).2]
  have h:=h.set 5 (.string c)
  generalize World.setCell w2 _ _=w3 at h ⊢
  refine RS.num hE eB hp hz2 h (fun lo l2 w4 h2 h=>?_) fun hn=>by rw [hO,hn];rfl
  rw [h2] at hO
  simp only [Option.bind_some] at hO
  have hz3:∀ x∈l2,x.size≤100000:=fun x hx=>hz2 x (numP_sub h2 x hx)
  refine RS.num hE eB hp hz3 h (fun hi l3 w5 h3 h=>?_) fun hn=>by rw [hO,hn];rfl
  rw [h3] at hO
  simp only [Option.bind_some] at hO
  have hz4:∀ x∈l3,x.size≤100000:=fun x hx=>hz3 x (numP_sub h3 x hx)
  refine RS.num hE eB hp hz4 h (fun ad l4 w6 h4 h=>?_) fun hn=>by rw [hO,hn];rfl
  rw [h4] at hO
  simp only [Option.bind_some] at hO
  unfold n70c2
  simp (disch:=try exact DI) only [↓PR,QR,simprocAttr,(cells_of_heap h.ob).1,(cells_of_heap h.ob).2]
  have h:=((h.set 6 (.int .i64 lo)).set 7 (.int .i64 hi)).set 8 (.int .i64 ad)
  exact step_end (x:=⟨fr,to,kd,m,pr,c,lo,hi,ad⟩) h hO
end
section
variable {WB w w0:World} {p at_ B q:Nat} {lines us ws:List ByteArray} {lv:Value}
theorem step_rest (hE:EnvOK WB) {O:Option (Value×List ByteArray)} {fr to:ByteArray} {kd:Int} (eB:Ext WB w0) (hp:WB.heap.size≤p) (hz:∀ x∈us,x.size≤100000) (h:RS w0 p lines at_ lv B q 71 w us (stpZ fr to kd ByteArray.empty ByteArray.empty ByteArray.empty 0 0 0)) (hk:kd=0∨1≤kd∧kd≤4)
 (hO:O=(if kd=0 then none else (msgP kd us).bind fun m=>(whenP m.2).bind fun h=>endP (⟨fr,to,kd,m.1.1,m.1.2,h.1.counter,h.1.low,h.1.high,h.1.add⟩:StpD) h.2).map fun s=>(stpVal s,[])) :
 n70c8 (.pointer (some ⟨p,0,none⟩)) (.pointer (some ⟨q,0,none⟩)) (WrR w0 p lines at_ lv B O) w:=by
 unfold n70c8
 have d0:(kd != 0)=!decide (kd=0):=by rw [Bool.eq_iff_iff];simp
 simp (disch:=try exact DI) only [↓PR,QR,simprocAttr,(cells_of_heap h.ob).1,d0]
 refine h.must (fun hb=>?_) fun w1 hb h=>?_
 · have:kd=0:=by simpa using hb
   rw [hO,if_pos this];rfl
 have hk0:¬ kd=0:=by simpa using hb
 have hki:1≤kd∧kd≤4:=by omega
 rw [if_neg hk0] at hO
 refine drawK_intro ?_
 have eD:Ext w1 (Sw.drew w1):=(Ext.refl w1).drew
 have h:=h.ext eD
 generalize (Sw.drew w1)=D at h ⊢
 clear eD
 unfold n70c7
 simp (disch:=try exact DI) only [↓PR,QR,simprocAttr,(cells_of_heap h.ob).1]
 refine callK_ret (kinds_ret _) ?_
 rintro _ w2 ⟨mm,L,cc,rfl,hm,hM,hL,e2⟩
 refine narrowK_EC e2 ?_
 have h:=h.ext e2
 unfold n70c6
 rw [qV_kind1 hM,hL,if_pos hki,Option.getD_some]
 unfold msgP at hO
 cases hs:speaksB kd with
 | false =>
  rw [hs,if_neg (by simp)] at hO
  simp (disch:=try exact DI) only [↓PR,QR,simprocAttr,hs]
  exact step_when hE eB hp hz h hO
 | true =>
  rw [hs,if_pos rfl] at hO
  simp (disch:=try exact DI) only [↓PR,QR,simprocAttr,hs]
  refine h.name (fun m l1 w3 h1 h=>?_) fun hn=>by rw [hO,hn];rfl
  rw [h1] at hO
  simp only [Option.bind_some] at hO
  have hz1:∀ x∈l1,x.size≤100000:=fun x hx=>hz x (nameP_sub h1 x hx)
  refine h.name (fun pr l2 w4 h2 h=>?_) fun hn=>by rw [hO,hn];rfl
  rw [h2] at hO
  simp only [Option.bind_some] at hO
  have hz2:∀ x∈l2,x.size≤100000:=fun x hx=>hz1 x (nameP_sub h2 x hx)
  unfold n70c5
  simp (disch:=try exact DI) only [↓PR,QR,simprocAttr,(cells_of_heap h.ob).1,(cells_of_heap h.ob).2]
  have h:=(h.set 3 (.string m)).set 4 (.string pr)
  exact step_when hE eB hp hz2 h hO
theorem kindP_range (s:ByteArray):kindP s=0∨1≤kindP s∧kindP s≤4:=by
 by_cases h:kindP s=0
 · exact .inl h
 · exact .inr (kindP_inv h).2
theorem step_wr (hE:EnvOK WB) (eB:Ext WB w) (hp:WB.heap.size≤p) (hz:∀ x∈ws,x.size≤100000) (h:Rd w p lines at_ ws lv B) (hB:B < w.heap.size) (hl:∀ A n c,lv = .slice (some A) n c→A.block < w.heap.size) :
 Calls Pg 91 #[.pointer (some ⟨p,0,none⟩)] w (WrR w p lines at_ lv B ((stpP ws).map fun s=>(stpVal s,[]))):=by
 have hpw:p < w.heap.size:=by
  obtain ⟨wv,h⟩:=h
  exact (Array.getElem?_eq_some_iff.1 h.obj).1
 refine n70s ?_;unfold n70
 simp (disch:=try exact DI) only [↓PR,QR,simprocAttr]
 have h:=RS.new (T:=71) (cs:=stpZ ByteArray.empty ByteArray.empty 0 ByteArray.empty ByteArray.empty ByteArray.empty 0 0 0) h hB hl
 have hqV:w.heap.size < (World.alloc w (.cells (stpZ ByteArray.empty ByteArray.empty 0 ByteArray.empty ByteArray.empty ByteArray.empty 0 0 0) 71)).heap.size:=by rw [World.size_alloc];omega
 generalize hO:(stpP ws).map (fun s=>(stpVal s,([]:List ByteArray)))=O at h ⊢
 have hO:=hO.symm
 unfold stpP at hO
 generalize World.alloc w _=V at h hqV ⊢
 generalize hq:w.heap.size=q at h hqV ⊢
 refine h.name (fun fr us1 w1 h1 h=>?_) fun hn=>by rw [hO,hn];rfl
 rw [h1] at hO
 simp only [Option.bind_some] at hO
 refine h.name (fun to us2 w2 h2 h=>?_) fun hn=>by rw [hO,hn];rfl
 rw [h2] at hO
 simp only [Option.bind_some] at hO
 unfold n70c11
 simp (disch:=try exact DI) only [↓PR,QR,simprocAttr,(cells_of_heap h.ob).1,(cells_of_heap h.ob).2]
 have h:RS w p lines at_ lv B q 71 _ us2 (stpZ fr to 0 ByteArray.empty ByteArray.empty ByteArray.empty 0 0 0):=(h.set 0 (.string fr)).set 1 (.string to)
 generalize World.setCell _ _ _=w3 at h ⊢
 refine h.word (fun wd us3 w4 h3 h=>?_) fun hn=>by rw [hO,hn];rfl
 rw [h3] at hO
 simp only [Option.bind_some] at hO
 have hz3:∀ x∈us3,x.size≤100000:=fun x hx=>hz x (nameP_sub h1 x (nameP_sub h2 x (by
  cases us2 with
  | nil=>cases h3
  | cons a r=>injection h3 with h3;injection h3 with e1 e2;subst e2;exact List.mem_cons_of_mem _ hx)))
 refine callK_ret (kinds_ret _) ?_
 rintro _ w5 ⟨mm,L,cc,rfl,hm,hM,hL,e5⟩
 have h:=h.ext e5
 have hqs:q < w5.heap.size:=(Array.getElem?_eq_some_iff.1 h.ob).1
 have hws:w.heap.size≤w5.heap.size:=h.sv.size
 rw [op_rangeMap (enc:=kEnc) Tryz.underlying90 hM]
 have hI:=iter_new w5 mm cc
 have eI:Ext w5 (w5.alloc (.mapIter (some mm) cc #[] cc)):=(Ext.refl w5).alloc _
 have hfar:Far w p B q lv w5.heap.size:=⟨hws,by omega,by omega,hqs,fun A n c e=>Nat.lt_of_lt_of_le (hl A n c e) hws⟩
 have h:=h.ext eI
 have hM:=hM.ext eI
 have hml:mm < w5.heap.size:=by
  have:=hM.obj
  have h1:=(Array.getElem?_eq_some_iff.1 this).1
  rw [World.size_alloc] at h1
  rcases Nat.lt_or_ge mm w5.heap.size with h' | h'
  · exact h'
  · have:mm=w5.heap.size:=by omega
    subst this
    have:=hM.obj
    rw [hI] at this
    cases this
 generalize hi:w5.heap.size=i at hI eI hfar hml ⊢
 clear hq hqV hqs hws hi e5 hm
 generalize World.alloc w5 _=w6 at h hI hM eI ⊢
 refine loop0_intro (fun w'=>∃ (seen:Array Nat) (kd:Int),RS w p lines at_ lv B q 71 w' us3 (stpZ fr to kd ByteArray.empty ByteArray.empty ByteArray.empty 0 0 0)∧MapB w' mm kEnc L cc∧IterAt w' i mm cc seen∧(kd=0∨kd=kindP wd)∧∀ x∈L,seen.contains x.2.2=true→kwB x.1=wd→kd=kindP wd) (iterLeft kEnc L i) ⟨#[],0,h,hM,hI,.inl rfl,fun x _ hx=>by simp at hx⟩ ?_
 rintro w7 ⟨seen,kd,h,hM,hI,hkd,hsn⟩
 unfold n70c10
 have hiw:i < w7.heap.size:=(Array.getElem?_eq_some_iff.1 hI).1
 have hkk:∀ x∈L,1≤x.1∧x.1≤4∧x.2.1 = .agg (kindCells x.1).toArray:=fun x hx=>by
  have h1:=look_mem hM hx
  rw [hL x.1] at h1
  split at h1
  · rename_i hc
    injection h1 with h1
    exact ⟨hc.1,hc.2,h1.symm⟩
  · cases h1
 refine op_nextMap (enc:=kEnc) hM hI (fun hz0=>?_) (fun x w8 hxL hxs hx8 hM8 hI8 hs8 hz8 hlt8=>?_)
 · simp (disch:=try exact DI) only [↓PR,QR,simprocAttr]
   have hk:kd=kindP wd:=by
    rcases hkd with h0 | h0
    · by_cases hw:kindP wd=0
      · rw [h0,hw]
      · obtain ⟨a,b⟩:=kindP_inv hw
        have hlk:=hL (kindP wd)
        rw [if_pos b] at hlk
        obtain ⟨x,hx,hx1,_⟩:=look_has hlk
        exact hsn x hx (by have:=iterLeft_zero hM hz0 hx;rwa [IterAt.seenEq hI] at this) (by rw [hx1];exact a.symm)
    · exact h0
   subst hk
   exact step_rest hE eB hp hz3 h (kindP_range wd) hO
 · obtain ⟨hx1,hx4,hxv⟩:=hkk x hxL
   have h:=h.far hfar (Nat.le_refl _) hx8 hs8 (by omega)
   simp (disch:=try exact DI) only [↓PR,QR,simprocAttr,↓n70c9]
   rw [op_entryMap (enc:=kEnc) hM8 hxL hI8,hxv]
   simp (disch:=try exact DI) only [↓PR,QR,simprocAttr]
   generalize hV:World.alloc w8 _=V
   have eV:Ext w8 V:=by rw [← hV];exact (Ext.refl w8).alloc _
   have oV:V.heap[w8.heap.size]?=some (.cells zeroK 89 (0,0)):=by rw [← hV];exact heap_new _ _ _
   clear hV
   have h:=h.ext eV
   have hM9:=hM8.ext eV
   have hI9:=hI8.ext eV
   have hlt9:iterLeft kEnc L i V < iterLeft kEnc L i w7:=by
    have:iterLeft kEnc L i V=iterLeft kEnc L i w8:=by unfold iterLeft;rw [IterAt.seenEq hI8,IterAt.seenEq hI9]
    omega
   have hko:=kfV_one x.1
   have hj:i < w8.heap.size:=by omega
   generalize w8.heap.size=j at oV hj ⊢
   simp (disch:=try exact DI) only [↓PR,QR,simprocAttr,(cells_of_heap oV).1,(cells_of_heap oV).2]
   generalize hw9:World.setCell _ _ _=w9
   have hs9:∀ b,b≠j→w9.heap[b]?=V.heap[b]?:=fun b hb=>by
    rw [← hw9]
    simp only [Only.setCell _ j _ _ b hb]
   have hz9:w9.heap.size=V.heap.size:=by rw [← hw9];simp only [World.size_setCell]
   have hx9:∀ a,Ext a V→a.heap.size≤j→Ext a w9:=fun a e hj=>by
    rw [← hw9]
    exact ((e.setCell (p:=⟨j,0,none⟩) hj _).setCell (p:=⟨j,1,none⟩) hj _).setCell (p:=⟨j,2,none⟩) hj _
   clear hw9
   have h:=h.far hfar (Nat.le_of_lt hj) hx9 hs9 (by omega)
   have hM9:=hM9.of_obj (hs9 mm (by omega))
   have hI9:IterAt w9 i mm cc (seen.push x.2.2):=(hs9 i (by omega)).trans hI9
   have hlt9:iterLeft kEnc L i w9 < iterLeft kEnc L i w7:=by
    have:iterLeft kEnc L i w9=iterLeft kEnc L i V:=by unfold iterLeft World.iterSeen;rw [hs9 i (by omega)]
    omega
   have hpush:∀ kd':Int,(kwB x.1=wd→kd'=kindP wd)→(kd=kindP wd→kd'=kindP wd)→∀ y∈L,(seen.push x.2.2).contains y.2.2=true→kwB y.1=wd→kd'=kindP wd:=by
    intro kd' g1 g2 y hy hc hw
    rw [contains_push,Bool.or_eq_true,beq_iff_eq] at hc
    rcases hc with hc | hc
    · exact g2 (hsn y hy hc hw)
    · have:y=x:=by
       by_cases hne:y=x
       · exact hne
       · exfalso
         obtain ⟨a,ha⟩:=List.getElem?_of_mem hy
         obtain ⟨b,hb⟩:=List.getElem?_of_mem hxL
         have hp:=List.pairwise_iff_getElem.1 hM.births
         obtain ⟨a1,a2⟩:=List.getElem?_eq_some_iff.1 ha
         obtain ⟨b1,b2⟩:=List.getElem?_eq_some_iff.1 hb
         rcases Nat.lt_trichotomy a b with hab | hab | hab
         · exact hp a b a1 b1 hab (by rw [a2,b2];exact hc)
         · subst hab;exact hne (a2.symm.trans b2)
         · exact hp b a b1 a1 hab (by rw [a2,b2];exact hc.symm)
      subst this
      exact g1 hw
   by_cases hw:kwB x.1=wd
   · have d1:decide (kwB x.1=wd)=true:=decide_eq_true hw
     simp (disch:=try exact DI) only [↓PR,QR,simprocAttr,d1,(cells_of_heap h.ob).1,(cells_of_heap h.ob).2]
     have hkx:x.1=kindP wd:=by rw [← hw,kindP_kw ⟨hx1,hx4⟩]
     have h:=h.set 2 (.int .i64 x.1)
     refine ⟨⟨_,x.1,h,hM9.setCell _ _,?_,.inr hkx,hpush _ (fun _=>hkx) fun _=>hkx⟩,?_⟩
     · exact (Only.setCell w9 q 2 _ i (by have:=hfar.q;omega)).trans hI9
     · have:iterLeft kEnc L i (w9.setCell ⟨q,2,none⟩ (.int .i64 x.1))=iterLeft kEnc L i w9:=by
        unfold iterLeft World.iterSeen
        rw [Only.setCell w9 q 2 _ i (by have:=hfar.q;omega)]
       show iterLeft kEnc L i (w9.setCell ⟨q,2,none⟩ (.int .i64 x.1)) < _
       omega
   · have d1:decide (kwB x.1=wd)=false:=decide_eq_false hw
     simp (disch:=try exact DI) only [↓PR,QR,simprocAttr,d1]
     exact ⟨⟨_,kd,h,hM9,hI9,hkd,hpush _ (fun e=>absurd e hw) fun e=>e⟩,hlt9⟩
end
abbrev TRol:TypeId:=26
theorem OwnE.keep {α:Type} {w w':World} {base n:Nat} {T:TypeId} {enc:α→List Value} {v:Value} {l:List α} (h:OwnE w base T n enc v l) (hk:∀ b,v.ownBlock=some b→w'.heap[b]?=w.heap[b]?):OwnE w' base T n enc v l:=by
 obtain ⟨h1,h2⟩:=h
 refine ⟨h1,?_⟩
 rcases h2 with h2 | ⟨g,cap,cur,hv,a1,a2,a3⟩
 · exact .inl h2
 · exact .inr ⟨g,cap,cur,hv,a1,by rw [hk g (by rw [hv];rfl)];exact a2,a3⟩
def RolOwn (w:World) (base:Nat) (v:Value) (r:RolD):Prop:=∃ sv cv tv,v = .agg (rolCells r sv cv tv).toArray∧OwnE w base 50 3 staCells sv r.states∧OwnE w base 52 2 cntCells cv r.counters∧OwnE w base 71 9 stpCells tv r.steps
theorem RolOwn.val {w:World} {base:Nat} {v:Value} {r:RolD} (h:RolOwn w base v r):RolVal w v r:=by
 obtain ⟨sv,cv,tv,hv,h1,h2,h3⟩:=h
 exact ⟨sv,cv,tv,hv,h1.slice (fun _=>rfl) (fun _ _=>rfl),h2.slice (fun _=>rfl) (fun _ _=>rfl),h3.slice (fun _=>rfl) (fun _ _=>rfl)⟩
def RoR (w0:World) (p:Nat) (lines:List ByteArray) (lv:Value) (at0:Nat) (res:Option RolD×Nat):Ending→World→Prop:=fun e w'=>Save p (p+1) w0 w'∧match res.1 with
 | some r=>∃ v,e = .returned v∧RolOwn w' w0.heap.size v r∧∃ ws B,Rd w' p lines (at0+res.2) ws lv B∧B < w'.heap.size∧w0.heap.size≤B
 | none=>e = .panicked (wrongE ((at0+res.2:Nat):Int))
def accP {α:Type} (kw:ByteArray) (p:List ByteArray→Option α) (F:List α→List (List ByteArray)→Nat→Option RolD×Nat) (acc:List α) (L:List (List ByteArray)) (n:Nat):Option RolD×Nat:=match manyP kw p L with
 | (none,k)=>(none,n+k)
 | (some l,k)=>F (acc++l) (L.drop k) (n+k)
theorem accP_step {α:Type} {kw:ByteArray} {p:List ByteArray→Option α} {F:List α→List (List ByteArray)→Nat→Option RolD×Nat} {acc:List α} {L:List (List ByteArray)} {n:Nat} {ws:List ByteArray} {a:α} (h:p ws=some a):accP kw p F acc ((kw::ws)::L) n=accP kw p F (acc++[a]) L (n+1):=by
 unfold accP
 rw [manyP,if_pos rfl,h]
 simp only
 cases manyP kw p L with
 | mk o k =>
  cases o with
  | none=>simp only [Option.map_none];congr 1;omega
  | some l =>
   simp only [Option.map_some,List.drop_succ_cons,List.append_assoc,List.cons_append,List.nil_append]
   congr 1;omega
theorem accP_fail {α:Type} {kw:ByteArray} {p:List ByteArray→Option α} {F:List α→List (List ByteArray)→Nat→Option RolD×Nat} {acc:List α} {L:List (List ByteArray)} {n:Nat} {ws:List ByteArray} (h:p ws=none):accP kw p F acc ((kw::ws)::L) n=(none,n+1):=by
 unfold accP
 rw [manyP,if_pos rfl,h]
theorem accP_stop {α:Type} {kw:ByteArray} {p:List ByteArray→Option α} {F:List α→List (List ByteArray)→Nat→Option RolD×Nat} {acc:List α} {L:List (List ByteArray)} {n:Nat} (h:∀ w∈L.head?,∀ k∈w.head?,k≠kw):accP kw p F acc L n=F acc L n:=by
 unfold accP
 rw [many_stop h]
 simp
theorem drop_words {lines:List ByteArray} {n:Nat} {x:ByteArray} {ws:List ByteArray} (h:lines[n]?=some x) (hs:spW x=ws):(lines.map spW).drop n=ws::(lines.map spW).drop (n+1):=by
 obtain ⟨h1,h2⟩:=List.getElem?_eq_some_iff.1 h
 rw [List.drop_eq_getElem_cons (by rw [List.length_map];exact h1),List.getElem_map,h2,hs]
theorem no_words {lines:List ByteArray} {n:Nat} {kw:ByteArray} (h:∀ x l,lines[n]?=some x→spW x≠kw::l):∀ w∈((lines.map spW).drop n).head?,∀ k∈w.head?,k≠kw:=by
 intro w hw k hk e
 subst e
 rw [List.head?_drop,List.getElem?_map] at hw
 cases hx:lines[n]? with
 | none=>rw [hx] at hw;cases hw
 | some x =>
  rw [hx] at hw
  injection hw with hw
  subst hw
  cases hs:spW x with
  | nil=>rw [hs] at hk;cases hk
  | cons a l =>
   rw [hs] at hk
   injection hk with hk
   subst hk
   exact h x l hx hs
theorem spW_sub {x y:ByteArray} (h:y∈spW x):y.size≤x.size:=split_sub h
def atOf (p:Nat) (w:World):Nat:=match w.cell? ⟨p,1,none⟩ with
 | some (.int _ n)=>n.toNat
 | _=>0
theorem Rd.at {w:World} {p at_ B:Nat} {lines ws:List ByteArray} {lv:Value} (h:Rd w p lines at_ ws lv B):atOf p w=at_:=by
 obtain ⟨wv,h⟩:=h
 unfold atOf
 rw [(cells_of_heap h.obj).1]
 rfl
theorem set_same {cs:Array Value} {i:Nat} {v:Value} (h:cs[i]?=some v):cs.setIfInBounds i v=cs:=by
 apply Array.ext_getElem?
 intro j
 rw [Array.getElem?_setIfInBounds]
 by_cases hij:i=j
 · subst hij
   have:=(Array.getElem?_eq_some_iff.1 h).1
   rw [if_pos rfl,if_pos this,h]
 · rw [if_neg hij]
structure RC (w0 W:World) (p q:Nat) (lv:Value):Prop where
 zw:w0.heap.size≤W.heap.size
 zp:p < W.heap.size
 zq:q < W.heap.size
 qp:q≠p
 z0:w0.heap.size≤q
 zl:∀ A n c,lv = .slice (some A) n c→A.block < W.heap.size∧A.block≠q
structure RL {α:Type} (w0 W:World) (p:Nat) (lines:List ByteArray) (lv:Value) (q:Nat) (T:TypeId) (n:Nat) (enc:α→List Value) (w:World) (at_:Nat) (vv:Value) (l:List α) (ws:List ByteArray) (B:Nat):Prop where
 rd:Rd w p lines at_ ws lv B
 Bq:B≠q
 Bw:B < w.heap.size
 Bl:w0.heap.size≤B
 Bv:∀ b,vv.ownBlock=some b→b≠B
 own:OwnE w W.heap.size T n enc vv l
 sv:Save p (p+1) w0 w
 kp:∀ b,b < W.heap.size→b≠p→b≠q→w.heap[b]?=W.heap[b]?
 sz:W.heap.size≤w.heap.size
section
variable {α:Type} {w0 W w w1 w4:World} {p q n at_ at1 B B' i:Nat} {lines ws us:List ByteArray} {lv vv:Value} {T:TypeId} {enc:α→List Value} {l l':List α} {cs:Array Value}
theorem RL.row (h:RL w0 W p lines lv q T n enc w at_ vv l ws B):∀ b,vv.ownBlock=some b→W.heap.size≤b∧b < w.heap.size:=World.ownsRow.lt h.own
theorem RL.obS (h:RL w0 W p lines lv q T n enc w at_ vv l ws B) (hc:RC w0 W p q lv) (ho:w.heap[q]?=some (.cells cs TRol (0,0))) (hs:Save p (p+1) w w1):w1.heap[q]?=some (.cells cs TRol (0,0)):=hs.obj ho (by have:=hc.qp;omega)
theorem RL.move (h:RL w0 W p lines lv q T n enc w at_ vv l ws B) (hc:RC w0 W p q lv) (hs:Save p (p+1) w w1) (hr:Rd w1 p lines at1 us lv B') (h1:B'≠q) (h2:B' < w1.heap.size) (h4:w0.heap.size≤B') (h3:∀ b,vv.ownBlock=some b→b≠B'):RL w0 W p lines lv q T n enc w1 at1 vv l us B':=by
 have:=hc.zp
 refine ⟨hr,h1,h2,h4,h3,OwnE.keep h.own fun b hb=>?_,h.sv.trans hs,fun b hb h1 h2=>?_,Nat.le_trans h.sz hs.size⟩
 · obtain ⟨a1,a2⟩:=h.row b hb
   exact hs.block b a2 (by omega)
 · have:=h.sz
   exact (hs.block b (by omega) (by omega)).trans (h.kp b hb h1 h2)
theorem RL.save (h:RL w0 W p lines lv q T n enc w at_ vv l ws B) (hc:RC w0 W p q lv) (hs:Save p (p+1) w w1) (hr:Rd w1 p lines at_ us lv B):RL w0 W p lines lv q T n enc w1 at_ vv l us B:=h.move hc hs hr h.Bq (Nat.lt_of_lt_of_le h.Bw hs.size) h.Bl h.Bv
theorem RL.next (h:RL w0 W p lines lv q T n enc w at_ vv l ws B) (hc:RC w0 W p q lv) (hs:Save p (p+1) w w1) (hr:Rd w1 p lines at1 us lv B') (h1:w.heap.size≤B') (h2:B' < w1.heap.size):RL w0 W p lines lv q T n enc w1 at1 vv l us B':=by
 have:=hc.zq
 have:=h.sz
 have:=hc.zw
 exact h.move hc hs hr (by omega) h2 (by omega) fun b hb=>by have:=(h.row b hb).2;omega
theorem RL.ext (h:RL w0 W p lines lv q T n enc w at_ vv l ws B) (hc:RC w0 W p q lv) (e:Ext w w1):RL w0 W p lines lv q T n enc w1 at_ vv l ws B:=h.save hc (Save.of_ext e) (h.rd.ext e)
theorem Rd.same (h:Rd w p lines at_ ws lv B) (hp:w1.heap[p]?=w.heap[p]?) (hB:w1.heap[B]?=w.heap[B]?) (hl:∀ A n c,lv = .slice (some A) n c→w1.heap[A.block]?=w.heap[A.block]?):Rd w1 p lines at_ ws lv B:=by
 obtain ⟨wv,h⟩:=h
 exact ⟨wv,by rw [hp];exact h.obj,SliceOf_same h.ls hl (fun _ _ h=>h),SliceOf_same h.wd (fun A m c e=>by rw [h.wb A m c e];exact hB) (fun _ _ h=>h),h.lp,h.wb,h.bp⟩
theorem RL.put (h:RL w0 W p lines lv q T n enc w at_ vv l ws B) (hc:RC w0 W p q lv) (ho:w.heap[q]?=some (.cells cs TRol (0,0))) (hg:w.grownBy w4 vv.ownBlock) {g len cap:Nat} (hO:OwnE w4 W.heap.size T n enc (.slice (some ⟨g,0,none⟩) len cap) l') (hgg:vv.ownBlock=some g∨g=w.heap.size) (i:Nat) :
 RL w0 W p lines lv q T n enc (w4.setCell ⟨q,i,none⟩ (.slice (some ⟨g,0,none⟩) len cap)) at_ (.slice (some ⟨g,0,none⟩) len cap) l' ws B∧(w4.setCell ⟨q,i,none⟩ (.slice (some ⟨g,0,none⟩) len cap)).heap[q]?=some (.cells (cs.setIfInBounds i (.slice (some ⟨g,0,none⟩) len cap)) TRol (0,0)):=by
 have c1:=hc.zp
 have c2:=hc.zq
 have c3:=hc.zw
 have c4:=hc.z0
 have c5:=hc.qp
 have z1:=h.sz
 have z2:=hg.size
 have z3:=h.Bw
 have hrow:∀ b,vv.ownBlock=some b→W.heap.size≤b:=fun b hb=>(h.row b hb).1
 have sm:∀ b,b < W.heap.size→w4.heap[b]?=w.heap[b]?:=fun b hb=>hg.block b (by omega) fun e=>by have:=hrow b e.symm;omega
 have hgW:W.heap.size≤g:=by
  rcases hgg with e | e
  · exact hrow g e
  · omega
 have hgB:g≠B:=by
  rcases hgg with e | e
  · exact h.Bv g e
  · omega
 have hq4:w4.heap[q]?=some (.cells cs TRol (0,0)):=(sm q c2).trans ho
 refine ⟨⟨?_,h.Bq,?_,h.Bl,fun b hb=>?_,OwnE.keep hO fun b hb=>?_,?_,fun b hb h1 h2=>?_,?_⟩,heap_set hq4 _⟩
 · refine (h.rd.same (sm p c1) (hg.block B z3 fun e=>h.Bv B e.symm rfl) fun A m c e=>sm _ (hc.zl A m c e).1).other _ c5 (Ne.symm h.Bq) fun A m c e=>(hc.zl A m c e).2
 · rw [World.size_setCell];omega
 · injection hb with hb
   subst hb
   exact hgB
 · injection hb with hb
   have hb:g=b:=hb
   exact Only.setCell w4 q i _ b (by omega)
 · refine Save.setNew ⟨hg.os.trans h.sv.os,hg.tape.trans h.sv.tape,hg.output.trans h.sv.output,Nat.le_trans h.sv.size z2,fun b hb hr=>(sm b (by omega)).trans (h.sv.block b hb hr)⟩ c4 _
 · exact (Only.setCell w4 q i _ b h2).trans ((sm b hb).trans (h.kp b hb h1 h2))
 · rw [World.size_setCell];omega
theorem RL.start (hc:RC w0 W p q lv) (hr:Rd W p lines at_ ws lv B) (h1:B≠q) (h2:B < W.heap.size) (h4:w0.heap.size≤B) (hs:Save p (p+1) w0 W):RL w0 W p lines lv q T n enc W at_ (.slice none 0 0) [] ws B:=⟨hr,h1,h2,h4,(fun b hb=>by cases hb),OwnE.nil _ _ _ _ _,hs,fun _ _ _ _=>rfl,Nat.le_refl _⟩
end
def rowB (v:Value) (p:Nat):Nat:=v.ownBlock.getD p
theorem roR_ret {w0 w:World} {p at0 at_ B:Nat} {lines ws:List ByteArray} {lv v:Value} {res:Option RolD×Nat} {r:RolD} (hs:Save p (p+1) w0 w) (hres:res=(some r,at_ - at0)) (ha:at0≤at_) (hv:RolOwn w w0.heap.size v r) (hr:Rd w p lines at_ ws lv B) (hB:B < w.heap.size) (hBl:w0.heap.size≤B):RoR w0 p lines lv at0 res (.returned v) w:=by
 subst hres
 refine ⟨hs,v,rfl,hv,ws,B,?_,hB,hBl⟩
 rw [show at0+(at_ - at0)=at_ by omega]
 exact hr
theorem roR_pan {w0 w:World} {p at0 k:Nat} {lines:List ByteArray} {lv:Value} {res:Option RolD×Nat} (hs:Save p (p+1) w0 w) (hres:res=(none,k - at0)) (ha:at0≤k):panK (RoR w0 p lines lv at0 res) (wrongE (k:Int)) w:=by
 subst hres
 refine ⟨hs,?_⟩
 show Ending.panicked _=Ending.panicked _
 rw [show at0+(k - at0)=k by omega]
end Go.Proofs.YtngflmjncplkaaaGreatDoor
namespace Go.Sw
open Go.RowKit (Below)
section
variable {P:Program} {QP:List PanicEntry→World→Prop} {w:World}
theorem op_appendL {α:Type} {t ty T n m:Nat} {z:Value} {agg:Bool} {enc:α→List Value} {v:Value} {l l':List α} {base:Nat} {k:Value→World→Prop}
 (ht:P.underlying t=some (.slice T)) (hT:TyInfo P T agg n m z) (hz:z.cells.size=n) (h0:0 < n) (hn:∀ x,(enc x).length=n) (h1:∀ x,x∈l'→∀ u∈enc x,u.oneCell'=true)
 (hown:OwnE w base T n enc v l) {b o c:Nat} (hc:∀ j x,l'[j]?=some x→ElemAt w b (o+j*n) (enc x)) (hbase:base≤w.heap.size) (hl':0 < l'.length) (hm:(l.length+l'.length)*m≤140737488355328) (hb:l.length+l'.length≤140737488355328)
 (hk:∀ g cap w',OwnE w' base T n enc (.slice (some ⟨g,0,none⟩) (l.length+l'.length) cap) (l++l')→w.grownBy w' v.ownBlock→(v.ownBlock=some g∨g=w.heap.size)→g < w'.heap.size→k (.slice (some ⟨g,0,none⟩) (l.length+l'.length) cap) w') :
 opV P (Builtin.append_ #[t,t] ty #[v,.slice (some ⟨b,o,none⟩) l'.length c]) QP w k:=by
 obtain ⟨⟨i,hi,hs,hby,hzz⟩,_⟩:=hT
 have hfl:(l'.flatMap enc).length=l'.length*n:=by
  clear hm hb hc h1 hk hl'
  induction l' with
  | nil=>simp
  | cons a l ih=>rw [List.flatMap_cons,List.length_append,hn,ih,List.length_cons,Nat.add_mul];omega
 have hcells:∀ j u,(l'.flatMap enc)[j]?=some u→w.cell? ((⟨b,o,none⟩:Addr).add j)=some u:=by
  intro j u hu
  have hj:j < l'.length*n:=by have:=(List.getElem?_eq_some_iff.1 hu).1;rwa [hfl] at this
  have hq:j / n < l'.length:=Nat.div_lt_of_lt_mul (by rw [Nat.mul_comm];exact hj)
  obtain ⟨x,hx⟩:=getElem?_lt hq
  have hjn:j % n < (enc x).length:=by rw [hn];exact Nat.mod_lt _ h0
  have hdm:j / n*n+j % n=j:=by rw [Nat.mul_comm];exact Nat.div_add_mod j n
  have hg:=flatMap_get hn l' (j / n) x (j % n) _ hx (List.getElem?_eq_getElem hjn)
  rw [hdm,hu] at hg
  injection hg with hg
  rw [Addr.add_lit]
  have:=hc _ _ hx (j % n) _ (List.getElem?_eq_getElem hjn)
  rw [hg,← this]
  congr 2;omega
 obtain ⟨g,cap,w',hr,ho,hg,hgl,hlt⟩:=run_append_lies (P:=P) (w:=w) t ty base T i z n m ht hi hzz hs hby hz h0 v l.length (l.flatMap enc) hown ⟨b,o,none⟩ l'.length c (l'.flatMap enc) hfl hcells
  (by intro u hu;obtain ⟨x,hx,hux⟩:=List.mem_flatMap.1 hu;exact h1 x hx u hux) hl' (by simp only [maxLen];omega) hm hbase _ rfl
 rw [opV_ok hr]
 refine hk g cap w' ?_ hg hgl hlt
 unfold OwnE
 rw [List.flatMap_append,List.length_append];exact ho
end
end Go.Sw
namespace Go.Proofs.YtngflmjncplkaaaGreatDoor
open Sw
def n67c1 (t0 t2 t30:Value) (C3:World→Prop) (next2:World→Prop) (R:RT) (w:World):Prop :=
 qV Pg C3 (Instr.fieldAt 26 t2 2) fun t31 =>
 opU Pg (Instr.storeAt 23 t31 t30) (panK R) w fun w =>
 turnK w fun C4 w =>
 callK Pg 71 #[t0] (panK R) w fun t33 w =>
 next2 w
def n67c2 (t0 t2 t23 t25 t27:Value) (C3:World→Prop) (next2:World→Prop) (R:RT) (w:World):Prop :=
 qV Pg C3 (Instr.build 52 #[(0,t25),(1,t27)]) fun t28 =>
 opV Pg (Instr.buildSlice 23 1 #[(0,t28)]) (panK R) w fun t29 w =>
 C3 w∧(
 opV Pg (Builtin.append_ #[23,23] 23 #[t23,t29]) (panK R) w fun t30 w =>
 C3 w∧(
 n67c1 t0 t2 t30 C3 next2 R w))
def n67c3 (t0 t2:Value) (C3:World→Prop) (next2:World→Prop) (R:RT) (w:World):Prop :=
 qV Pg C3 (Instr.fieldAt 26 t2 2) fun t22 =>
 qV Pg C3 (Instr.loadAt 23 t22) fun t23 =>
 callK Pg 67 #[t0] (panK R) w fun t25 w =>
 C3 w∧(
 callK Pg 70 #[t0] (panK R) w fun t27 w =>
 C3 w∧(
 n67c2 t0 t2 t23 t25 t27 C3 next2 R w))
def n67c4 (t2 t37 t40:Value) (C6:World→Prop) (next5:World→Prop) (R:RT) (w:World):Prop :=
 opV Pg (Builtin.append_ #[22,22] 22 #[t37,t40]) (panK R) w fun t41 w =>
 C6 w∧(
 qV Pg C6 (Instr.fieldAt 26 t2 1) fun t42 =>
 opU Pg (Instr.storeAt 22 t42 t41) (panK R) w fun w =>
 turnK w fun C7 w =>
 next5 w)
def n67c5 (t0 t2:Value) (C6:World→Prop) (next5:World→Prop) (R:RT) (w:World):Prop :=
 qV Pg C6 (Instr.fieldAt 26 t2 1) fun t36 =>
 qV Pg C6 (Instr.loadAt 22 t36) fun t37 =>
 callK Pg 90 #[t0] (panK R) w fun t39 w =>
 C6 w∧(
 opV Pg (Instr.buildSlice 22 1 #[(0,t39)]) (panK R) w fun t40 w =>
 C6 w∧(
 n67c4 t2 t37 t40 C6 next5 R w))
def n67c6 (t2 t46 t49:Value) (C9:World→Prop) (next8:World→Prop) (R:RT) (w:World):Prop :=
 opV Pg (Builtin.append_ #[24,24] 24 #[t46,t49]) (panK R) w fun t50 w =>
 C9 w∧(
 qV Pg C9 (Instr.fieldAt 26 t2 3) fun t51 =>
 opU Pg (Instr.storeAt 24 t51 t50) (panK R) w fun w =>
 turnK w fun C10 w =>
 next8 w)
def n67c7 (t0 t2:Value) (C9:World→Prop) (next8:World→Prop) (R:RT) (w:World):Prop :=
 qV Pg C9 (Instr.fieldAt 26 t2 3) fun t45 =>
 qV Pg C9 (Instr.loadAt 24 t45) fun t46 =>
 callK Pg 91 #[t0] (panK R) w fun t48 w =>
 C9 w∧(
 opV Pg (Instr.buildSlice 24 1 #[(0,t48)]) (panK R) w fun t49 w =>
 C9 w∧(
 n67c6 t2 t46 t49 C9 next8 R w))
def n67c8 (t0 t2 t44:Value) (next8:World→Prop) (R:RT) (w:World):Prop :=
 condP t44 (
 drawK w fun C9 w =>
 n67c7 t0 t2 C9 next8 R w) (
 opV Pg (Instr.loadAt 26 t2) (panK R) w fun t52 w =>
 opU Pg (Instr.storeAt 26 t2 t52) (panK R) w fun w =>
 qW Pg 26 t2 w fun r0 =>
 R (.returned r0) w)
def n67c9 (t0 t2 t35:Value) (next5:World→Prop) (R:RT) (w:World):Prop :=
 condP t35 (
 drawK w fun C6 w =>
 n67c5 t0 t2 C6 next5 R w) (
 loop0 (fun w next8 =>
 callK Pg 65 #[t0,(.string { data := #[115,116,101,112] })] (panK R) w fun t44 w =>
 n67c8 t0 t2 t44 next8 R w) w)
def n67c10 (t0 t2 t21:Value) (next2:World→Prop) (R:RT) (w:World):Prop :=
 condP t21 (
 drawK w fun C3 w =>
 n67c3 t0 t2 C3 next2 R w) (
 loop0 (fun w next5 =>
 callK Pg 65 #[t0,(.string { data := #[115,116,97,116,101] })] (panK R) w fun t35 w =>
 n67c9 t0 t2 t35 next5 R w) w)
def n67c11 (t0 t2 t16:Value) (R:RT) (w:World):Prop :=
 opV Pg (Instr.fieldAt 26 t2 0) (panK R) w fun t17 w =>
 opU Pg (Instr.storeAt 9 t17 t16) (panK R) w fun w =>
 callK Pg 71 #[t0] (panK R) w fun t19 w =>
 loop0 (fun w next2 =>
 callK Pg 65 #[t0,(.string { data := #[99,111,117,110,116,101,114] })] (panK R) w fun t21 w =>
 n67c10 t0 t2 t21 next2 R w) w
def n67c12 (t0:Value) (K1:World→Prop) (R:RT) (w:World):Prop :=
 opN Pg (nilN t0) (panK R) w fun t7 w =>
 opV Pg (Instr.fieldAt 109 t7 1) (panK R) w fun t8 w =>
 opV Pg (Instr.loadAt 3 t8) (panK R) w fun t9 w =>
 opV Pg (binS .add 3 true t9 (.int .i64 1)) (panK R) w fun t10 w =>
 opN Pg (nilN t0) (panK R) w fun t11 w =>
 opV Pg (Instr.fieldAt 109 t11 1) (panK R) w fun t12 w =>
 opU Pg (Instr.storeAt 3 t12 t10) (panK R) w fun w =>
 callK Pg 66 #[t0,(.bool false)] (panK R) w fun t14 w =>
 K1 w
def n67c13 (t0 t2 t4:Value) (R:RT) (w:World):Prop :=
 opV Pg (Op.unary .not t4) (panK R) w fun t5 w =>
 joinK (fun (w:World) =>
 callK Pg 67 #[t0] (panK R) w fun t16 w =>
 n67c11 t0 t2 t16 R w) fun K1 =>
 condP t5 (
 n67c12 t0 K1 R w) (
 K1 w)
def n67 (t0:Value) (R:RT) (w:World):Prop :=
 opV Pg (Instr.alloc 26 true (.tuple #[])) (panK R) w fun t2 w =>
 callK Pg 65 #[t0,(.string { data := #[114,111,108,101] })] (panK R) w fun t4 w =>
 n67c13 t0 t2 t4 R w
set_option maxHeartbeats 40000000 in
theorem n67s {t0:Value} {R:RT} {w:World} (h:n67 t0 R w):Calls Pg 52 #[t0] w R:=by
 refine yD Tryz.func52 ?_
 refine zs<|zr<|yv h fun _ w h=>zn<|zk<|zs<|zs<|zr<|zm<|yc h c65 fun _ w h=>yv h fun _ w h=>zn<|zk<|yJ0 [6,7,8,9,10,11,12,13,14] h (fun _ _ hkK1 h=>?_) fun σ w h=>?_
 · refine yC h (fun h=>?_) fun h=>?_
   · refine zs<|zr<|zm<|yN h fun _ w h=>yv h fun _ w h=>yv h fun _ w h=>yb h fun _ w h=>yN h fun _ w h=>yv h fun _ w h=>yu h fun w h=>zn<|zk<|zr<|zm<|yc h c66 fun _ w h=>?_
     refine zn<|zk ?_
     exact zt hkK1 h
   refine sim_skip<|zk ?_
   exact zt hkK1 h
 refine zk<|zs<|zr<|zm<|yc h c67 fun _ w h=>yv h fun _ w h=>yu h fun w h=>zn<|zk<|zs<|zr<|zm<|yc h c71 fun _ w h=>zn<|zk ?_
 refine zs<|sim_block<|yl0 [20,21,22,23,24,25,26,27,28,29,30,31,32,33] h fun σ w next h=>zs<|zs<|zr<|zm<|yc h c65 fun _ w h=>zn<|zk<|yC h (fun h=>?_) fun h=>?_
 · refine sim_skip<|zk<|sim_block<|zs<|yh [22,23,24,25,26,27,28,29,30,31] h fun C hC h=>ye 0 hC h fun _ h=>?_
   refine ye 1 hC h fun _ h=>?_
   refine yw 2 hC ?_
   refine yw 4 hC ?_
   refine yo 3 ?_
   refine yc h c67 fun _ w h=>zn ?_
   obtain ⟨hC,h⟩:=h
   refine ⟨hC,?_⟩
   refine yo 5 ?_
   refine yc h c70 fun _ w h=>zn ?_
   obtain ⟨hC,h⟩:=h
   refine ⟨hC,?_⟩
   refine ye 6 hC h fun _ h=>?_
   refine yo 7 ?_
   refine yS h fun _ w h=>zn ?_
   obtain ⟨hC,h⟩:=h
   refine ⟨hC,?_⟩
   refine yo 8 ?_
   refine yx h fun _ w h=>zn ?_
   obtain ⟨hC,h⟩:=h
   refine ⟨hC,?_⟩
   refine ye 9 hC h fun _ h=>?_
   refine yq 10 1 ?_
   refine yu h fun w h=>zn ?_
   obtain ⟨C4,hC,h⟩:=h
   refine ⟨C4,hC,?_⟩
   exact yz<|zk<|zr<|zm<|yc h c71 fun _ w h=>zn<|sim_block_normal<|zk<|⟨rfl,h⟩
 refine sim_exit<|sim_then_exit<|sim_then_exit<|sim_block_hit<|zk<|zs<|sim_block<|yl0 [34,35,36,37,38,39,40,41,42] h fun σ w next h=>zs<|zs<|zr<|zm<|yc h c65 fun _ w h=>zn<|zk ?_
 refine yC h (fun h=>?_) fun h=>?_
 · refine sim_skip<|zk<|sim_block<|yh [36,37,38,39,40,41,42] h fun C hC h=>ye 0 hC h fun _ h=>?_
   refine ye 1 hC h fun _ h=>?_
   refine yw 2 hC ?_
   refine yo 3 ?_
   refine yc h c90 fun _ w h=>zn ?_
   obtain ⟨hC,h⟩:=h
   refine ⟨hC,?_⟩
   refine yo 4 ?_
   refine yS h fun _ w h=>zn ?_
   obtain ⟨hC,h⟩:=h
   refine ⟨hC,?_⟩
   refine yo 5 ?_
   refine yx h fun _ w h=>zn ?_
   obtain ⟨hC,h⟩:=h
   refine ⟨hC,?_⟩
   refine ye 6 hC h fun _ h=>?_
   refine yq 7 1 ?_
   refine yu h fun w h=>zn ?_
   obtain ⟨C7,hC,h⟩:=h
   refine ⟨C7,hC,?_⟩
   exact yz<|sim_block_normal<|zk<|⟨rfl,h⟩
 refine sim_exit<|sim_then_exit<|sim_then_exit<|sim_block_hit<|zk<|zs<|sim_block<|yl0 [43,44,45,46,47,48,49,50,51] h fun σ w next h=>zs<|zs<|zr<|zm<|yc h c65 fun _ w h=>zn<|zk ?_
 refine yC h (fun h=>?_) fun h=>?_
 · refine sim_skip<|zk<|sim_block<|yh [45,46,47,48,49,50,51] h fun C hC h=>ye 0 hC h fun _ h=>?_
   refine ye 1 hC h fun _ h=>?_
   refine yw 2 hC ?_
   refine yo 3 ?_
   refine yc h c91 fun _ w h=>zn ?_
   obtain ⟨hC,h⟩:=h
   refine ⟨hC,?_⟩
   refine yo 4 ?_
   refine yS h fun _ w h=>zn ?_
   obtain ⟨hC,h⟩:=h
   refine ⟨hC,?_⟩
   refine yo 5 ?_
   refine yx h fun _ w h=>zn ?_
   obtain ⟨hC,h⟩:=h
   refine ⟨hC,?_⟩
   refine ye 6 hC h fun _ h=>?_
   refine yq 7 1 ?_
   refine yu h fun w h=>zn ?_
   obtain ⟨C10,hC,h⟩:=h
   refine ⟨C10,hC,?_⟩
   exact yz<|sim_block_normal<|zk<|⟨rfl,h⟩
 exact sim_exit<|sim_then_exit<|sim_then_exit<|sim_block_hit<|zk<|zs<|zr<|yv h fun _ w h=>yu h fun w h=>zn<|zk<|sim_ret<|body_retC rfl rfl h
def n24c1 (t0 t5 t6 t7:Value) (K2:KW) (R:RT) (w:World):Prop :=
 opV Pg (Instr.sliceAt 9 t0 (some t6) (some t7) none) (panK R) w fun t23 w =>
 opV Pg (Instr.buildSlice 73 1 #[(0,t23)]) (panK R) w fun t24 w =>
 opV Pg (Builtin.append_ #[73,73] 73 #[t5,t24]) (panK R) w fun t25 w =>
 opV Pg (binS .add 3 true t7 (.int .i64 1)) (panK R) w fun t27 w =>
 K2 t25 t27 w
def n24c2 (t0 t5 t6:Value) (R:RT) (w:World):Prop :=
 opV Pg (Instr.sliceAt 9 t0 (some t6) none none) (panK R) w fun t31 w =>
 opV Pg (Instr.buildSlice 73 1 #[(0,t31)]) (panK R) w fun t32 w =>
 opV Pg (Builtin.append_ #[73,73] 73 #[t5,t32]) (panK R) w fun t33 w =>
 R (.returned t33) w
def n24c3 (t0 t1 t5 t6 t7:Value) (next1:Value→Value→Value→World→Prop) (R:RT) (w:World):Prop :=
 opV Pg (Instr.index 9 t0 t7) (panK R) w fun t16 w =>
 opV Pg (binS .eql 5 false t16 t1) (panK R) w fun t18 w =>
 joinK (fun (t5:Value) (t6:Value) (w:World) =>
 opV Pg (binS .add 3 true t7 (.int .i64 1)) (panK R) w fun t13 w =>
 next1 t5 t6 t13 w) fun K2 =>
 condP t18 (
 n24c1 t0 t5 t6 t7 K2 R w) (
 K2 t5 t6 w)
def n24c4 (t0 t1 t5 t6 t7:Value) (next1:Value→Value→Value→World→Prop) (R:RT) (w:World):Prop :=
 opV Pg (Builtin.len_ #[9] 3 #[t0]) (panK R) w fun t10 w =>
 opV Pg (binS .lss 3 false t7 t10) (panK R) w fun t11 w =>
 condP t11 (
 n24c3 t0 t1 t5 t6 t7 next1 R w) (
 n24c2 t0 t5 t6 R w)
def n24 (t0 t1:Value) (R:RT) (w:World):Prop :=
 loop3 (fun t5 t6 t7 w next1 =>
 n24c4 t0 t1 t5 t6 t7 next1 R w) (Value.slice none 0 0) (.int .i64 0) (.int .i64 0) w
theorem n24s {t0 t1:Value} {R:RT} {w:World} (h:n24 t0 t1 R w):Calls Pg 53 #[t0,t1] w R:=by
 refine yD Tryz.func53 ?_
 refine zs<|zr<|zm<|zn<|zk<|zs<|zr<|zm<|zn<|zk<|zs<|zr<|zm<|zn<|zk ?_
 refine zs<|zs<|zr<|zm<|zn<|zk<|sim_block<|yl3 [5,6,7,8,9,10,11,12,13,14,15,16,17,18,19,20,21,22,23,24,25,26,27] 5 6 7 h fun σ w next h=>zs<|zs<|zr<|zm<|zm<|yx h fun _ w h=>yb h fun _ w h=>?_
 refine zn<|zk<|yC h (fun h=>?_) fun h=>?_
 · refine sim_skip<|zk<|zs<|sim_block<|zs<|zr<|zm<|zm<|yv h fun _ w h=>zm<|yb h fun _ w h=>zn<|zk<|yJ2 [5,6,19,20,21,22,23,24,25,26,27] 5 6 h (fun _ _ hkK2 h=>?_) fun σ w h=>?_
   · refine yC h (fun h=>?_) fun h=>?_
     · refine zs<|zr<|zm<|zm<|zm<|zm<|yv h fun _ w h=>yS h fun _ w h=>yx h fun _ w h=>zm<|zn<|zk<|zr<|zm<|yb h fun _ w h=>?_
       refine zm<|zn<|zk ?_
       exact zt hkK2 h
     refine sim_skip<|zk ?_
     exact zt hkK2 h
   exact sim_block_normal<|zk<|zr<|zm<|yb h fun _ w h=>zm<|zn<|zk<|⟨rfl,h⟩
 refine sim_exit<|sim_then_exit<|sim_then_exit<|sim_block_hit<|zk<|zs<|zr<|zm<|zm<|zm<|yv h fun _ w h=>yS h fun _ w h=>yx h fun _ w h=>zm<|zn ?_
 exact zk<|sim_ret<|body_ret1 rfl rfl h
def n27c1 (t2 t7:Value) (R:RT) (w:World):Prop :=
 opV Pg (Instr.build 26 #[]) (panK R) w fun t126 w =>
 opV Pg (binS .sub 3 true (.int .i64 (-1)) t7) (panK R) w fun t128 w =>
 opU Pg (Instr.storeAt 26 t2 t126) (panK R) w fun w =>
 qW Pg 26 t2 w fun r0 =>
 R (.returned (.tuple #[r0,t128])) w
def n27c2 (t2 t6 t7 t9:Value) (next3:KW) (R:RT) (w:World):Prop :=
 opV Pg (Op.unary .not t9) (panK R) w fun t125 w =>
 condP t125 (
 n27c1 t2 t7 R w) (
 opV Pg (binS .add 3 true t7 (.int .i64 1)) (panK R) w fun t46 w =>
 next3 t6 t46 w)
def n27c3 (t5 t6 t80 t83 t89:Value) (C7:World→Prop) (K4:KW) (R:RT) (w:World):Prop :=
 opV Pg (Builtin.append_ #[23,23] 23 #[t83,t89]) (panK R) w fun t90 w =>
 C7 w∧(
 qV Pg C7 (Instr.fieldAt 26 t5 2) fun t91 =>
 opU Pg (Instr.storeAt 23 t91 t90) (panK R) w fun w =>
 turnK w fun C8 w =>
 K4 t6 t80 w)
def n27c4 (t5 t6 t51 t79 t80:Value) (C7:World→Prop) (K4:KW) (R:RT) (w:World):Prop :=
 qV Pg C7 (Instr.fieldAt 26 t5 2) fun t82 =>
 qV Pg C7 (Instr.loadAt 23 t82) fun t83 =>
 qV Pg C7 (Instr.indexAt 73 t51 (.int .i64 1)) fun t85 =>
 qV Pg C7 (Instr.loadAt 9 t85) fun t86 =>
 qV Pg C7 (Instr.build 52 #[(0,t86),(1,t79)]) fun t88 =>
 opV Pg (Instr.buildSlice 23 1 #[(0,t88)]) (panK R) w fun t89 w =>
 C7 w∧(
 n27c3 t5 t6 t80 t83 t89 C7 K4 R w)
def n27c5 (t5 t6 t51 t78:Value) (K4:KW) (R:RT) (w:World):Prop :=
 opV Pg (Instr.extract t78 0) (panK R) w fun t79 w =>
 opV Pg (Instr.extract t78 1) (panK R) w fun t80 w =>
 drawK w fun C7 w =>
 n27c4 t5 t6 t51 t79 t80 C7 K4 R w
def n27c6 (t5 t6 t51:Value) (K4:KW) (R:RT) (w:World):Prop :=
 opV Pg (Instr.indexAt 73 t51 (.int .i64 2)) (panK R) w fun t76 w =>
 opV Pg (Instr.loadAt 9 t76) (panK R) w fun t77 w =>
 callK Pg 72 #[t77] (panK R) w fun t78 w =>
 n27c5 t5 t6 t51 t78 K4 R w
def n27c7 (t5 t6 t51 t63 t68:Value) (K4:KW) (R:RT) (w:World):Prop :=
 pickK t63 t68 (.bool false) fun t69 =>
 joinK (fun (t72:Value) (w:World) =>
 pickK t69 t72 (.bool false) fun t73 =>
 condP t73 (
 n27c6 t5 t6 t51 K4 R w) (
 K4 t6 (.bool false) w)) fun K6 =>
 guardP t69 true (
 opV Pg (binS .eql 3 true t6 (.int .i64 0)) (panK R) w fun t72 w =>
 K6 t72 w) (
 K6 undef w)
def n27c8 (t5 t12 t98 t102:Value) (K4:KW) (R:RT) (w:World):Prop :=
 pickK t98 t102 (.bool false) fun t103 =>
 opV Pg (Instr.fieldAt 26 t5 1) (panK R) w fun t104 w =>
 opV Pg (Instr.loadAt 22 t104) (panK R) w fun t105 w =>
 opV Pg (Instr.loadAt 50 t12) (panK R) w fun t106 w =>
 opV Pg (Instr.buildSlice 22 1 #[(0,t106)]) (panK R) w fun t107 w =>
 opV Pg (Builtin.append_ #[22,22] 22 #[t105,t107]) (panK R) w fun t108 w =>
 opV Pg (Instr.fieldAt 26 t5 1) (panK R) w fun t109 w =>
 opU Pg (Instr.storeAt 22 t109 t108) (panK R) w fun w =>
 K4 (.int .i64 1) t103 w
def n27c9 (t5 t6 t96:Value) (K4:KW) (R:RT) (w:World):Prop :=
 opV Pg (Instr.extract t96 0) (panK R) w fun t97 w =>
 opV Pg (Instr.extract t96 1) (panK R) w fun t98 w =>
 opV Pg (Instr.alloc 50 true (.tuple #[])) (panK R) w fun t12 w =>
 opU Pg (Instr.storeAt 50 t12 t97) (panK R) w fun w =>
 joinK (fun (t102:Value) (w:World) =>
 n27c8 t5 t12 t98 t102 K4 R w) fun K9 =>
 guardP t98 true (
 opV Pg (binS .leq 3 true t6 (.int .i64 1)) (panK R) w fun t102 w =>
 K9 t102 w) (
 K9 undef w)
def n27c10 (t5 t114:Value) (K4:KW) (R:RT) (w:World):Prop :=
 opV Pg (Instr.extract t114 0) (panK R) w fun t115 w =>
 opV Pg (Instr.extract t114 1) (panK R) w fun t116 w =>
 opV Pg (Instr.alloc 71 true (.tuple #[])) (panK R) w fun t14 w =>
 opU Pg (Instr.storeAt 71 t14 t115) (panK R) w fun w =>
 opV Pg (Instr.fieldAt 26 t5 3) (panK R) w fun t118 w =>
 opV Pg (Instr.loadAt 24 t118) (panK R) w fun t119 w =>
 opV Pg (Instr.loadAt 71 t14) (panK R) w fun t120 w =>
 opV Pg (Instr.buildSlice 24 1 #[(0,t120)]) (panK R) w fun t121 w =>
 opV Pg (Builtin.append_ #[24,24] 24 #[t119,t121]) (panK R) w fun t122 w =>
 opV Pg (Instr.fieldAt 26 t5 3) (panK R) w fun t123 w =>
 opU Pg (Instr.storeAt 24 t123 t122) (panK R) w fun w =>
 K4 (.int .i64 2) t116 w
def n27c11 (t5 t6 t51 t54:Value) (K4:KW) (R:RT) (w:World):Prop :=
 opV Pg (binS .eql 9 true t54 (.string { data := #[115,116,101,112] })) (panK R) w fun t111 w =>
 condP t111 (
 callK Pg 93 #[t51] (panK R) w fun t114 w =>
 n27c10 t5 t114 K4 R w) (
 K4 t6 (.bool false) w)
def n27c12 (t5 t6 t51:Value) (K4:KW) (R:RT) (w:World):Prop :=
 opV Pg (Builtin.len_ #[73] 3 #[t51]) (panK R) w fun t62 w =>
 opV Pg (binS .eql 3 true t62 (.int .i64 3)) (panK R) w fun t63 w =>
 joinK (fun (t68:Value) (w:World) =>
 n27c7 t5 t6 t51 t63 t68 K4 R w) fun K5 =>
 guardP t63 true (
 opV Pg (Instr.indexAt 73 t51 (.int .i64 1)) (panK R) w fun t66 w =>
 opV Pg (Instr.loadAt 9 t66) (panK R) w fun t67 w =>
 callK Pg 18 #[t67] (panK R) w fun t68 w =>
 K5 t68 w) (
 K5 undef w)
def n27c13 (t5 t6 t51 t54:Value) (K4:KW) (R:RT) (w:World):Prop :=
 opV Pg (binS .eql 9 true t54 (.string { data := #[115,116,97,116,101] })) (panK R) w fun t93 w =>
 condP t93 (
 callK Pg 92 #[t51] (panK R) w fun t96 w =>
 n27c9 t5 t6 t96 K4 R w) (
 n27c11 t5 t6 t51 t54 K4 R w)
def n27c14 (t2 t5 t6 t7 t51 t54:Value) (next3:KW) (R:RT) (w:World):Prop :=
 opV Pg (binS .eql 9 true t54 (.string { data := #[99,111,117,110,116,101,114] })) (panK R) w fun t60 w =>
 joinK (fun (t6:Value) (t9:Value) (w:World) =>
 n27c2 t2 t6 t7 t9 next3 R w) fun K4 =>
 condP t60 (
 n27c12 t5 t6 t51 K4 R w) (
 n27c13 t5 t6 t51 t54 K4 R w)
def n27c15 (t2 t5 t6 t7 t51:Value) (next3:KW) (R:RT) (w:World):Prop :=
 opV Pg (Instr.indexAt 73 t51 (.int .i64 0)) (panK R) w fun t53 w =>
 opV Pg (Instr.loadAt 9 t53) (panK R) w fun t54 w =>
 opV Pg (binS .eql 9 true t54 (.string { data := #[114,111,108,101] })) (panK R) w fun t56 w =>
 condP t56 (
 opV Pg (Instr.loadAt 26 t5) (panK R) w fun t57 w =>
 opU Pg (Instr.storeAt 26 t2 t57) (panK R) w fun w =>
 qW Pg 26 t2 w fun r0 =>
 R (.returned (.tuple #[r0,t7])) w) (
 n27c14 t2 t5 t6 t7 t51 t54 next3 R w)
def n27c16 (t0 t2 t5:Value) (R:RT) (w:World):Prop :=
 opV Pg (Instr.loadAt 26 t5) (panK R) w fun t129 w =>
 opV Pg (Builtin.len_ #[73] 3 #[t0]) (panK R) w fun t131 w =>
 opU Pg (Instr.storeAt 26 t2 t129) (panK R) w fun w =>
 qW Pg 26 t2 w fun r0 =>
 R (.returned (.tuple #[r0,t131])) w
def n27c17 (t0 t2 t5 t6 t7:Value) (next3:KW) (R:RT) (w:World):Prop :=
 opV Pg (Instr.indexAt 73 t0 t7) (panK R) w fun t49 w =>
 opV Pg (Instr.loadAt 9 t49) (panK R) w fun t50 w =>
 callK Pg 53 #[t50,(.int .u8 32)] (panK R) w fun t51 w =>
 n27c15 t2 t5 t6 t7 t51 next3 R w
def n27c18 (t0 t2 t5 t6 t7:Value) (next3:KW) (R:RT) (w:World):Prop :=
 opV Pg (Builtin.len_ #[73] 3 #[t0]) (panK R) w fun t43 w =>
 opV Pg (binS .lss 3 false t7 t43) (panK R) w fun t44 w =>
 condP t44 (
 n27c17 t0 t2 t5 t6 t7 next3 R w) (
 n27c16 t0 t2 t5 R w)
def n27c19 (t2:Value) (R:RT) (w:World):Prop :=
 opV Pg (Instr.build 26 #[]) (panK R) w fun t36 w =>
 opU Pg (Instr.storeAt 26 t2 t36) (panK R) w fun w =>
 qW Pg 26 t2 w fun r0 =>
 R (.returned (.tuple #[r0,(.int .i64 (-1))])) w
def n27c20 (t0 t2 t19:Value) (R:RT) (w:World):Prop :=
 opV Pg (Instr.indexAt 73 t19 (.int .i64 1)) (panK R) w fun t38 w =>
 opV Pg (Instr.loadAt 9 t38) (panK R) w fun t39 w =>
 opV Pg (Instr.build 26 #[(0,t39)]) (panK R) w fun t40 w =>
 opV Pg (Instr.alloc 26 true (.tuple #[])) (panK R) w fun t5 w =>
 opU Pg (Instr.storeAt 26 t5 t40) (panK R) w fun w =>
 loop2 (fun t6 t7 w next3 =>
 n27c18 t0 t2 t5 t6 t7 next3 R w) (.int .i64 0) (.int .i64 1) w
def n27c21 (t0 t2 t19 t22 t27:Value) (R:RT) (w:World):Prop :=
 pickK t22 (.bool true) t27 fun t28 =>
 joinK (fun (t34:Value) (w:World) =>
 pickK t28 (.bool true) t34 fun t35 =>
 condP t35 (
 n27c19 t2 R w) (
 n27c20 t0 t2 t19 R w)) fun K2 =>
 guardP t28 false (
 opV Pg (Instr.indexAt 73 t19 (.int .i64 1)) (panK R) w fun t31 w =>
 opV Pg (Instr.loadAt 9 t31) (panK R) w fun t32 w =>
 callK Pg 18 #[t32] (panK R) w fun t33 w =>
 opV Pg (Op.unary .not t33) (panK R) w fun t34 w =>
 K2 t34 w) (
 K2 undef w)
def n27c22 (t0 t2 t19:Value) (R:RT) (w:World):Prop :=
 opV Pg (Builtin.len_ #[73] 3 #[t19]) (panK R) w fun t21 w =>
 opV Pg (binS .neq 3 true t21 (.int .i64 2)) (panK R) w fun t22 w =>
 joinK (fun (t27:Value) (w:World) =>
 n27c21 t0 t2 t19 t22 t27 R w) fun K1 =>
 guardP t22 false (
 opV Pg (Instr.indexAt 73 t19 (.int .i64 0)) (panK R) w fun t25 w =>
 opV Pg (Instr.loadAt 9 t25) (panK R) w fun t26 w =>
 opV Pg (binS .neq 9 true t26 (.string { data := #[114,111,108,101] })) (panK R) w fun t27 w =>
 K1 t27 w) (
 K1 undef w)
def n27 (t0:Value) (R:RT) (w:World):Prop :=
 opV Pg (Instr.alloc 26 true (.tuple #[])) (panK R) w fun t2 w =>
 opV Pg (Instr.indexAt 73 t0 (.int .i64 0)) (panK R) w fun t17 w =>
 opV Pg (Instr.loadAt 9 t17) (panK R) w fun t18 w =>
 callK Pg 53 #[t18,(.int .u8 32)] (panK R) w fun t19 w =>
 n27c22 t0 t2 t19 R w
set_option maxHeartbeats 40000000 in
theorem n27s {t0:Value} {R:RT} {w:World} (h:n27 t0 R w):Calls Pg 54 #[t0] w R:=by
 refine yD Tryz.func54 ?_
 refine zs<|zr<|yv h fun _ w h=>zm<|zn<|zk<|zs<|zr<|zm<|yv h fun _ w h=>yv h fun _ w h=>yc h c53 fun _ w h=>zm<|zn<|zk ?_
 refine zs<|zs<|sim_regionG<|yG 4<|zm<|yx h fun _ w h=>yb h fun _ w h=>zm<|zn<|yg1 4 3 false [24,25,26,27] 27 h (fun _ T hT h=>?_) fun σ w h=>?_
 · refine zm<|yv h fun _ w h=>yv h fun _ w h=>yb h fun _ w h=>zn ?_
   exact zt hT h
 refine yG 2<|yp h fun _ h=>zm<|zn<|yg1 5 9 false [30,31,32,33,34] 34 h (fun _ T hT h=>?_) fun σ w h=>?_
 · refine zm<|yv h fun _ w h=>yv h fun _ w h=>yc h c18 fun _ w h=>yv h fun _ w h=>zn ?_
   exact zt hT h
 refine yG 1<|yp h fun _ h=>zn<|sim_end<|zk<|yC h (fun h=>zs<|zr<|yB h fun _ w h=>yu h fun w h=>zm<|zn<|zk<|sim_ret<|sim_then_ret<|body_retCT rfl rfl rfl h) fun h=>sim_skip<|zk<|zs<|zr<|zm<|yv h fun _ w h=>yv h fun _ w h=>yB h fun _ w h=>?_
 refine yv h fun _ w h=>yu h fun w h=>zn<|zk<|zs<|zr<|zm<|zn<|zk<|zs<|zs<|zr<|zm<|zn<|zk ?_
 refine sim_block<|yl2 [3,6,7,8,9,10,11,12,13,14,15,41,42,43,44,45,46,47,48,49,50,51,52,53,54,55,56,57,58,59,60,61,62,63,64,65,66,67,68,69,70,71,72,73,74,75,76,77,78,79,80,81,82,83,84,85,86,87,88,89,90,91,92,93,94,95,96,97,98,99,100,101,102,103,104,105,106,107,108,109,110,111,112,113,114,115,116,117,118,119,120,121,122,123,124,125,126,127,128] 6 7 h fun σ w next h=>zs<|zs<|zr<|zm<|zm<|yx h fun _ w h=>yb h fun _ w h=>zn<|zk<|yC h (fun h=>?_) fun h=>?_
 · refine sim_skip<|zk<|zs<|sim_block<|zs<|zr<|zm<|zm<|yv h fun _ w h=>yv h fun _ w h=>yc h c53 fun _ w h=>zm<|zn<|zk<|zs ?_
   refine zr<|zm<|zn<|zk<|zs<|zs<|zr<|zm<|yv h fun _ w h=>yv h fun _ w h=>zn<|zk<|sim_block<|zs<|zr ?_
   refine yb h fun _ w h=>zm<|zn<|zk<|yC h (fun h=>?_) fun h=>?_
   · refine zs<|zr<|yv h fun _ w h=>zm<|yu h fun w h=>zm<|zn<|zk<|sim_ret<|sim_block_ret<|sim_then_ret<|sim_block_ret<|sim_then_ret<|sim_then_ret<|sim_block_ret ?_
     exact sim_then_ret<|body_retCT rfl rfl rfl h
   refine zs<|zr<|yb h fun _ w h=>zm<|zn<|zk<|yJ2 [6,9,10,11,12,13,14,15,61,62,63,64,65,66,67,68,69,70,71,72,73,74,75,76,77,78,79,80,81,82,83,84,85,86,87,88,89,90,91,92,93,94,95,96,97,98,99,100,101,102,103,104,105,106,107,108,109,110,111,112,113,114,115,116,117,118,119,120,121,122,123] 6 9 h (fun _ _ hkK4 h=>?_) fun σ w h=>?_
   · refine yC h (fun h=>?_) fun h=>?_
     · refine zs<|sim_regionG<|yG 4<|zm<|yx h fun _ w h=>yb h fun _ w h=>zm<|zn<|yg1 4 3 true [65,66,67,68] 68 h (fun _ T hT h=>?_) fun σ w h=>?_
       · refine zm<|yv h fun _ w h=>yv h fun _ w h=>yc h c18 fun _ w h=>zn ?_
         exact zt hT h
       refine yG 2<|yp h fun _ h=>zm<|zn<|yg1 2 9 true [71,72] 72 h (fun _ T hT h=>?_) fun σ w h=>?_
       · refine zm<|yb h fun _ w h=>zn ?_
         exact zt hT h
       refine yG 1<|yp h fun _ h=>zn<|sim_end<|zk<|yC h (fun h=>?_) fun h=>?_
       · refine zs<|zr<|zm<|yv h fun _ w h=>yv h fun _ w h=>yc h c72 fun _ w h=>zm<|yv h fun _ w h=>yv h fun _ w h=>zm<|zm<|zn<|zk<|zs<|zr ?_
         refine zm<|zm<|zn<|zk<|yh [82,83,84,85,86,87,88,89,90,91] h fun C hC h=>ye 0 hC h fun _ h=>?_
         refine ye 1 hC h fun _ h=>?_
         refine yw 2 hC ?_
         refine ye 3 hC h fun _ h=>?_
         refine ye 4 hC h fun _ h=>?_
         refine yw 5 hC ?_
         refine ye 6 hC h fun _ h=>?_
         refine yo 7 ?_
         refine yS h fun _ w h=>zn ?_
         obtain ⟨hC,h⟩:=h
         refine ⟨hC,?_⟩
         refine yo 8 ?_
         refine yx h fun _ w h=>zn ?_
         obtain ⟨hC,h⟩:=h
         refine ⟨hC,?_⟩
         refine ye 9 hC h fun _ h=>?_
         refine yq 10 1 ?_
         refine yu h fun w h=>zn ?_
         obtain ⟨C8,hC,h⟩:=h
         refine ⟨C8,hC,?_⟩
         refine yz<|zk ?_
         exact zt hkK4 h
       refine sim_skip<|zk ?_
       exact zt hkK4 h
     refine zs<|zr<|yb h fun _ w h=>zm<|zn<|zk<|yC h (fun h=>?_) fun h=>?_
     · refine zs<|zr<|zm<|yc h c92 fun _ w h=>zm<|yv h fun _ w h=>yv h fun _ w h=>yv h fun _ w h=>yu h fun w h=>zm<|zn<|zk<|zs<|sim_regionG<|yG 2 ?_
       refine zm<|zm<|zn<|yg1 2 1 true [101,102] 102 h (fun _ T hT h=>?_) fun σ w h=>?_
       · refine zm<|yb h fun _ w h=>zn ?_
         exact zt hT h
       refine yG 2<|yp h fun _ h=>zm<|zn<|sim_end<|zk<|zs<|zr<|zm<|zn<|zk<|zr<|yv h fun _ w h=>yv h fun _ w h=>yv h fun _ w h=>?_
       refine yS h fun _ w h=>yx h fun _ w h=>yv h fun _ w h=>yu h fun w h=>zn<|zk ?_
       exact zt hkK4 h
     refine zs<|zr<|yb h fun _ w h=>zm<|zn<|zk<|yC h (fun h=>?_) fun h=>?_
     · refine zs<|zr<|zm<|yc h c93 fun _ w h=>zm<|yv h fun _ w h=>yv h fun _ w h=>yv h fun _ w h=>yu h fun w h=>zm<|zn<|zk<|zs<|zr<|zm ?_
       refine zm<|zn<|zk<|zs<|zr<|zm<|zn<|zk<|zr<|yv h fun _ w h=>yv h fun _ w h=>yv h fun _ w h=>yS h fun _ w h=>yx h fun _ w h=>yv h fun _ w h=>?_
       refine yu h fun w h=>zn<|zk ?_
       exact zt hkK4 h
     refine sim_skip<|zk ?_
     exact zt hkK4 h
   refine sim_block_normal<|zk<|zs<|zr<|zm<|yv h fun _ w h=>zn<|zk<|yC h (fun h=>?_) fun h=>?_
   · refine zs<|zr<|yB h fun _ w h=>zm<|yb h fun _ w h=>yu h fun w h=>zm<|zn<|zk<|sim_ret<|sim_block_ret<|sim_then_ret<|sim_then_ret<|sim_block_ret<|sim_then_ret ?_
     exact body_retCT rfl rfl rfl h
   exact sim_skip<|sim_block_normal<|zk<|zr<|zm<|yb h fun _ w h=>zm<|zn<|zk<|⟨rfl,h⟩
 refine sim_exit<|sim_then_exit<|sim_then_exit<|sim_block_hit<|zk<|zs<|zr<|yv h fun _ w h=>zm<|yx h fun _ w h=>yu h fun w h=>zm<|zn<|zk<|sim_ret ?_
 exact body_retCT rfl rfl rfl h
open Go.RowKit (intOf Below)
section
variable {WB w0 W:World} {p q at0 at1:Nat} {lines:List ByteArray} {lv:Value} {F:List StaD→List (List ByteArray)→Nat→Option RolD×Nat} {res:Option RolD×Nat} {cs:Array Value} {ws1:List ByteArray} {B1:Nat}
theorem role_states (hE:EnvOK WB) (eB:Ext WB w0) (hb:WB.heap.size≤p) (hlz:∀ x∈lines,x.size≤100000) (hn:lines.length≤100000) (hc:RC w0 W p q lv)
 (hW:RL w0 W p lines lv q 50 3 staCells W at1 (.slice none 0 0) [] ws1 B1) (hob:W.heap[q]?=some (.cells cs TRol (0,0))) (hcs:cs[1]?=some (.slice none 0 0)) (hat:at0≤at1) (hal:at1≤lines.length)
 (hres:res=accP kState staP F [] ((lines.map spW).drop at1) (at1 - at0))
 (hex:∀ w at_ vv l ws B,RL w0 W p lines lv q 50 3 staCells w at_ vv l ws B→w.heap[q]?=some (.cells (cs.setIfInBounds 1 vv) TRol (0,0))→at0≤at_→at_≤lines.length→res=F l ((lines.map spW).drop at_) (at_ - at0)→loop0 (fun w next=>callK Pg 65 #[.pointer (some ⟨p,0,none⟩),.string kStep] (panK (RoR w0 p lines lv at0 res)) w fun t w=>n67c8 (.pointer (some ⟨p,0,none⟩)) (.pointer (some ⟨q,0,none⟩)) t next (RoR w0 p lines lv at0 res) w) w) :
 loop0 (fun w next=>callK Pg 65 #[.pointer (some ⟨p,0,none⟩),.string kState] (panK (RoR w0 p lines lv at0 res)) w fun t w=>n67c9 (.pointer (some ⟨p,0,none⟩)) (.pointer (some ⟨q,0,none⟩)) t next (RoR w0 p lines lv at0 res) w) W:=by
 have hset0:cs.setIfInBounds 1 (.slice none 0 0)=cs:=set_same hcs
 have hi:1 < cs.size:=(Array.getElem?_eq_some_iff.1 hcs).1
 have c1:=hc.zp
 have c2:=hc.zq
 have c5:=hc.qp
 refine loop0_intro (fun w=>∃ at_ vv l ws B,RL w0 W p lines lv q 50 3 staCells w at_ vv l ws B∧w.heap[q]?=some (.cells (cs.setIfInBounds 1 vv) TRol (0,0))∧l.length+at1≤at_∧at_≤lines.length∧res=accP kState staP F l ((lines.map spW).drop at_) (at_ - at0)) (fun w=>lines.length - atOf p w) ⟨at1,_,[],ws1,B1,hW,by rw [hset0];exact hob,by simp,hal,hres⟩ ?_
 rintro w ⟨at_,vv,l,ws,B,h,ho,ha0,hal,hres⟩
 have hm:=h.rd.at
 refine callK_ret (next_ret hE (h.sv.to_ext eB hb) hb hlz hal hn h.rd kState) ?_
 rintro _ w1 ⟨hs1,⟨x,us,B',hx,hsp,rfl,⟨hB1,hB2⟩,hr1⟩ | ⟨hno,rfl,hr1⟩⟩
 · have ho:=h.obS hc ho hs1
   have h:=h.next hc hs1 hr1 hB1 hB2
   have hlt:=(List.getElem?_eq_some_iff.1 hx).1
   have hus:∀ y∈us,y.size≤100000:=fun y hy=>Nat.le_trans (spW_sub (x:=x) (by rw [hsp];exact List.mem_cons_of_mem _ hy)) (hlz x (List.mem_of_getElem? hx))
   have hdr:(lines.map spW).drop at_=(kState::us)::(lines.map spW).drop (at_+1):=drop_words hx hsp
   rw [hdr] at hres
   simp (disch:=try exact DI) only [↓PR,QR,simprocAttr,↓n67c9]
   have hq1:=h.row
   refine drawK_introB p (rowB vv p) (w1:=w1) (fun _ _ _ _=>rfl) ?_
   have eD:Ext w1 (Sw.drew w1):=(Ext.refl w1).drew
   have hKD:KB w1 p (rowB vv p) (Sw.drew w1):=fun _ _ _ _=>rfl
   have h:=h.ext hc eD
   have ho1:=ho
   have ho:=eD.obj ho
   have szD:=eD.size
   generalize Sw.drew w1=D at hKD h ho szD ⊢
   clear eD
   have hqb:q≠rowB vv p:=by
    unfold rowB
    cases hv:vv.ownBlock with
    | none=>exact c5
    | some b=>have:=(h.row b hv).1;show q≠b;omega
   have hqc:w1.cell? ⟨q,1,none⟩=some vv:=by rw [(cells_of_heap ho1).1,Array.getElem?_setIfInBounds_self_of_lt hi]
   have hov:vv.oneCell'=true:=SliceOf.oneCell (h.own.slice (E:=fun _ _ _=>True) (fun _=>rfl) (fun _ _=>trivial))
   unfold n67c5
   simp (disch:=try exact DI) only [↓PR,QR,simprocAttr,hqc]
   have hBD:=h.Bw
   refine callK_wr (state_wr hE (h.sv.to_ext eB hb) hb hus h.rd h.Bw fun A m c e=>by have:=(hc.zl A m c e).1;have:=h.sz;omega) (fun v us' w2 hov2 hr2 hs2=>?_) fun w2 hov2 hs2=>?_
   · cases hst:staP us with
     | none=>rw [hst] at hov2;cases hov2
     | some s =>
     rw [hst] at hov2
     injection hov2 with hov2
     injection hov2 with e1 e2
     subst e1 e2
     rw [accP_step hst] at hres
     have ho:=h.obS hc ho hs2
     have h:=h.save hc hs2 hr2
     have hK2:KB w1 p (rowB vv p) w2:=fun b hb h1 h2=>(hs2.block b (by omega) (by omega)).trans (hKD b hb h1 h2)
     refine ⟨hK2,?_⟩
     unfold staVal
     simp (disch:=try exact DI) only [↓PR,QR,simprocAttr]
     generalize hY:World.alloc w2 _=Y
     have eY:Ext w2 Y:=by rw [← hY];exact (Ext.refl w2).alloc _
     have oY:ElemAt Y w2.heap.size 0 (staCells s):=by rw [← hY];exact ElemAt.new _ _
     clear hY
     have hKY:KB w1 p (rowB vv p) Y:=fun b hb h1 h2=>(eY.block b (by have:=hs2.size;omega)).trans (hK2 b hb h1 h2)
     have ho:=eY.obj ho
     have h:=h.ext hc eY
     refine ⟨hKY,?_⟩
     unfold n67c4
     have hby:=by50
     refine op_appendL (enc:=staCells) (l':=[s]) Tryz.underlying22 ty50 rfl (by decide) (fun _=>rfl) (fun x hx u hu=>?_) h.own (o:=0) (fun j x hx=>?_) h.sz (by simp) ?_ (by simp;omega) ?_
     · simp only [List.mem_singleton] at hx
       subst hx
       simp only [List.mem_cons,List.not_mem_nil,or_false] at hu
       rcases hu with rfl | rfl | rfl<;>rfl
     · cases j with
       | zero =>
        simp only [List.getElem?_cons_zero,Option.some.injEq] at hx
        subst hx
        simpa using oY
       | succ j=>simp at hx
     · simp only [List.length_cons,List.length_nil]
       have:l.length+1≤200000:=by omega
       exact Nat.le_trans (Nat.mul_le_mul this hby) (by decide)
     · intro g cap w4 hO hg hgg hgl
       have hK4:KB w1 p (rowB vv p) w4:=fun b hb h1 h2=>(hg.block b (by have:=eY.size;have:=hs2.size;omega) (fun e=>by unfold rowB at h2;rw [← e] at h2;exact h2 rfl)).trans (hKY b hb h1 h2)
       refine ⟨hK4,?_⟩
       have hq4:w4.heap[q]?=some (.cells (cs.setIfInBounds 1 vv) TRol (0,0)):=(hg.block q (by have:=h.sz;omega) fun e=>by have:=(h.row q e.symm).1;omega).trans ho
       obtain ⟨h5,ho5⟩:=h.put hc ho hg hO hgg 1
       have hc4:w4.cell? ⟨q,1,none⟩=some vv:=by rw [(cells_of_heap hq4).1,Array.getElem?_setIfInBounds_self_of_lt hi]
       have hf4:w4.frozen? ⟨q,1,none⟩=false:=(cells_of_heap hq4).2 _
       simp (disch:=try exact DI) only [↓PR,QR,simprocAttr,hc4,hf4]
       refine turnK_intro ?_
       refine ⟨⟨at_+1,_,l++[s],[],B',h5,?_,by simp;omega,by omega,?_⟩,?_⟩
       · rw [ho5];simp
       · rw [hres];congr 1;omega
       · rw [h5.rd.at,hm];omega
   · cases hst:staP us with
     | some s=>rw [hst] at hov2;cases hov2
     | none =>
      rw [accP_fail hst] at hres
      exact roR_pan (h.sv.trans hs2) (by rw [hres];congr 1;omega) (by omega)
 · unfold n67c9
   exact hex w1 at_ vv l ws B (h.save hc hs1 hr1) (h.obS hc ho hs1) (by omega) hal (by rw [hres];exact accP_stop (no_words hno))
end
section
variable {WB w0 W:World} {p q at0 at1:Nat} {lines:List ByteArray} {lv:Value} {F:List StpD→List (List ByteArray)→Nat→Option RolD×Nat} {res:Option RolD×Nat} {cs:Array Value} {ws1:List ByteArray} {B1:Nat}
theorem role_steps (hE:EnvOK WB) (eB:Ext WB w0) (hb:WB.heap.size≤p) (hlz:∀ x∈lines,x.size≤100000) (hn:lines.length≤100000) (hc:RC w0 W p q lv)
 (hW:RL w0 W p lines lv q 71 9 stpCells W at1 (.slice none 0 0) [] ws1 B1) (hob:W.heap[q]?=some (.cells cs TRol (0,0))) (hcs:cs[3]?=some (.slice none 0 0)) (hat:at0≤at1) (hal:at1≤lines.length)
 (hres:res=accP kStep stpP F [] ((lines.map spW).drop at1) (at1 - at0))
 (hex:∀ w at_ vv l ws B,RL w0 W p lines lv q 71 9 stpCells w at_ vv l ws B→w.heap[q]?=some (.cells (cs.setIfInBounds 3 vv) TRol (0,0))→at0≤at_→at_≤lines.length→res=F l ((lines.map spW).drop at_) (at_ - at0)→opV Pg (Instr.loadAt 26 (.pointer (some ⟨q,0,none⟩))) (panK (RoR w0 p lines lv at0 res)) w fun t52 w=>opU Pg (Instr.storeAt 26 (.pointer (some ⟨q,0,none⟩)) t52) (panK (RoR w0 p lines lv at0 res)) w fun w=>qW Pg 26 (.pointer (some ⟨q,0,none⟩)) w fun r0=>RoR w0 p lines lv at0 res (.returned r0) w) :
 loop0 (fun w next=>callK Pg 65 #[.pointer (some ⟨p,0,none⟩),.string kStep] (panK (RoR w0 p lines lv at0 res)) w fun t w=>n67c8 (.pointer (some ⟨p,0,none⟩)) (.pointer (some ⟨q,0,none⟩)) t next (RoR w0 p lines lv at0 res) w) W:=by
 have hset0:cs.setIfInBounds 3 (.slice none 0 0)=cs:=set_same hcs
 have hi:3 < cs.size:=(Array.getElem?_eq_some_iff.1 hcs).1
 have c1:=hc.zp
 have c2:=hc.zq
 have c5:=hc.qp
 refine loop0_intro (fun w=>∃ at_ vv l ws B,RL w0 W p lines lv q 71 9 stpCells w at_ vv l ws B∧w.heap[q]?=some (.cells (cs.setIfInBounds 3 vv) TRol (0,0))∧l.length+at1≤at_∧at_≤lines.length∧res=accP kStep stpP F l ((lines.map spW).drop at_) (at_ - at0)) (fun w=>lines.length - atOf p w) ⟨at1,_,[],ws1,B1,hW,by rw [hset0];exact hob,by simp,hal,hres⟩ ?_
 rintro w ⟨at_,vv,l,ws,B,h,ho,ha0,hal,hres⟩
 have hm:=h.rd.at
 refine callK_ret (next_ret hE (h.sv.to_ext eB hb) hb hlz hal hn h.rd kStep) ?_
 rintro _ w1 ⟨hs1,⟨x,us,B',hx,hsp,rfl,⟨hB1,hB2⟩,hr1⟩ | ⟨hno,rfl,hr1⟩⟩
 · have ho:=h.obS hc ho hs1
   have h:=h.next hc hs1 hr1 hB1 hB2
   have hlt:=(List.getElem?_eq_some_iff.1 hx).1
   have hus:∀ y∈us,y.size≤100000:=fun y hy=>Nat.le_trans (spW_sub (x:=x) (by rw [hsp];exact List.mem_cons_of_mem _ hy)) (hlz x (List.mem_of_getElem? hx))
   have hdr:(lines.map spW).drop at_=(kStep::us)::(lines.map spW).drop (at_+1):=drop_words hx hsp
   rw [hdr] at hres
   simp (disch:=try exact DI) only [↓PR,QR,simprocAttr,↓n67c8]
   have hq1:=h.row
   refine drawK_introB p (rowB vv p) (w1:=w1) (fun _ _ _ _=>rfl) ?_
   have eD:Ext w1 (Sw.drew w1):=(Ext.refl w1).drew
   have hKD:KB w1 p (rowB vv p) (Sw.drew w1):=fun _ _ _ _=>rfl
   have h:=h.ext hc eD
   have ho1:=ho
   have ho:=eD.obj ho
   have szD:=eD.size
   generalize Sw.drew w1=D at hKD h ho szD ⊢
   clear eD
   have hqb:q≠rowB vv p:=by
    unfold rowB
    cases hv:vv.ownBlock with
    | none=>exact c5
    | some b=>have:=(h.row b hv).1;show q≠b;omega
   have hqc:w1.cell? ⟨q,3,none⟩=some vv:=by rw [(cells_of_heap ho1).1,Array.getElem?_setIfInBounds_self_of_lt hi]
   have hov:vv.oneCell'=true:=SliceOf.oneCell (h.own.slice (E:=fun _ _ _=>True) (fun _=>rfl) (fun _ _=>trivial))
   unfold n67c7
   simp (disch:=try exact DI) only [↓PR,QR,simprocAttr,hqc]
   have hBD:=h.Bw
   refine callK_wr (step_wr hE (h.sv.to_ext eB hb) hb hus h.rd h.Bw fun A m c e=>by have:=(hc.zl A m c e).1;have:=h.sz;omega) (fun v us' w2 hov2 hr2 hs2=>?_) fun w2 hov2 hs2=>?_
   · cases hst:stpP us with
     | none=>rw [hst] at hov2;cases hov2
     | some s =>
     rw [hst] at hov2
     injection hov2 with hov2
     injection hov2 with e1 e2
     subst e1 e2
     rw [accP_step hst] at hres
     have ho:=h.obS hc ho hs2
     have h:=h.save hc hs2 hr2
     have hK2:KB w1 p (rowB vv p) w2:=fun b hb h1 h2=>(hs2.block b (by omega) (by omega)).trans (hKD b hb h1 h2)
     refine ⟨hK2,?_⟩
     unfold stpVal
     simp (disch:=try exact DI) only [↓PR,QR,simprocAttr]
     generalize hY:World.alloc w2 _=Y
     have eY:Ext w2 Y:=by rw [← hY];exact (Ext.refl w2).alloc _
     have oY:ElemAt Y w2.heap.size 0 (stpCells s):=by rw [← hY];exact ElemAt.new _ _
     clear hY
     have hKY:KB w1 p (rowB vv p) Y:=fun b hb h1 h2=>(eY.block b (by have:=hs2.size;omega)).trans (hK2 b hb h1 h2)
     have ho:=eY.obj ho
     have h:=h.ext hc eY
     refine ⟨hKY,?_⟩
     unfold n67c6
     have hby:=by71
     refine op_appendL (enc:=stpCells) (l':=[s]) Tryz.underlying24 ty71 rfl (by decide) (fun _=>rfl) (fun x hx u hu=>?_) h.own (o:=0) (fun j x hx=>?_) h.sz (by simp) ?_ (by simp;omega) ?_
     · simp only [List.mem_singleton] at hx
       subst hx
       simp only [List.mem_cons,List.not_mem_nil,or_false] at hu
       rcases hu with rfl | rfl | rfl | rfl | rfl | rfl | rfl | rfl | rfl<;>rfl
     · cases j with
       | zero =>
        simp only [List.getElem?_cons_zero,Option.some.injEq] at hx
        subst hx
        simpa using oY
       | succ j=>simp at hx
     · simp only [List.length_cons,List.length_nil]
       have:l.length+1≤200000:=by omega
       exact Nat.le_trans (Nat.mul_le_mul this hby) (by decide)
     · intro g cap w4 hO hg hgg hgl
       have hK4:KB w1 p (rowB vv p) w4:=fun b hb h1 h2=>(hg.block b (by have:=eY.size;have:=hs2.size;omega) (fun e=>by unfold rowB at h2;rw [← e] at h2;exact h2 rfl)).trans (hKY b hb h1 h2)
       refine ⟨hK4,?_⟩
       have hq4:w4.heap[q]?=some (.cells (cs.setIfInBounds 3 vv) TRol (0,0)):=(hg.block q (by have:=h.sz;omega) fun e=>by have:=(h.row q e.symm).1;omega).trans ho
       obtain ⟨h5,ho5⟩:=h.put hc ho hg hO hgg 3
       have hc4:w4.cell? ⟨q,3,none⟩=some vv:=by rw [(cells_of_heap hq4).1,Array.getElem?_setIfInBounds_self_of_lt hi]
       have hf4:w4.frozen? ⟨q,3,none⟩=false:=(cells_of_heap hq4).2 _
       simp (disch:=try exact DI) only [↓PR,QR,simprocAttr,hc4,hf4]
       refine turnK_intro ?_
       refine ⟨⟨at_+1,_,l++[s],[],B',h5,?_,by simp;omega,by omega,?_⟩,?_⟩
       · rw [ho5];simp
       · rw [hres];congr 1;omega
       · rw [h5.rd.at,hm];omega
   · cases hst:stpP us with
     | some s=>rw [hst] at hov2;cases hov2
     | none =>
      rw [accP_fail hst] at hres
      exact roR_pan (h.sv.trans hs2) (by rw [hres];congr 1;omega) (by omega)
 · unfold n67c8
   exact hex w1 at_ vv l ws B (h.save hc hs1 hr1) (h.obS hc ho hs1) (by omega) hal (by rw [hres];exact accP_stop (no_words hno))
end
section
variable {w w0:World} {p at_ B:Nat} {lines us:List ByteArray} {lv:Value} {k:Value→World→Prop} {QP:List PanicEntry→World→Prop}
theorem name_call (h:Rd w p lines at_ us lv B) (hk:∀ x l w',nameP us=some (x,l)→Rd w' p lines at_ l lv B→Save p (p+1) w w'→k (.string x) w') (hn:∀ w',nameP us=none→Save p (p+1) w w'→QP (wrongE at_) w'):callK Pg 67 #[.pointer (some ⟨p,0,none⟩)] QP w k:=by
 have hp:popN us=(nameP us).map fun z=>(.string z.1,z.2):=by
  cases us with
  | nil=>rfl
  | cons x l =>
   show (if nameB x=true then some (Value.string x,l) else none)=_
   rw [nameP_eq]
   split<;>rfl
 refine callK_wr (name_wr h) (fun v l w1 ho hr hs=>?_) fun w1 ho hs=>?_
 · rw [hp] at ho
   cases hc:nameP us with
   | none=>rw [hc] at ho;cases ho
   | some z =>
    rw [hc] at ho
    injection ho with ho
    injection ho with e1 e2
    subst e1 e2
    exact hk _ _ _ hc hr hs
 · rw [hp] at ho
   cases hc:nameP us with
   | none=>exact hn _ hc hs
   | some z=>rw [hc] at ho;cases ho
theorem num_call {WB:World} (hE:EnvOK WB) (eB:Ext WB w) (hb:WB.heap.size≤p) (hz:∀ x∈us,x.size≤100000) (h:Rd w p lines at_ us lv B) (hk:∀ n l w',numP us=some (n,l)→Rd w' p lines at_ l lv B→Save p (p+1) w w'→k (.int .i64 n) w') (hn:∀ w',numP us=none→Save p (p+1) w w'→QP (wrongE at_) w'):callK Pg 70 #[.pointer (some ⟨p,0,none⟩)] QP w k:=by
 refine callK_wr (number_wr hE eB hb hz h) (fun v l w1 ho hr hs=>?_) fun w1 ho hs=>?_
 · cases hc:numP us with
   | none=>rw [hc] at ho;cases ho
   | some z =>
    rw [hc] at ho
    injection ho with ho
    injection ho with e1 e2
    subst e1 e2
    exact hk _ _ _ hc hr hs
 · cases hc:numP us with
   | none=>exact hn _ hc hs
   | some z=>rw [hc] at ho;cases ho
theorem end_call (h:Rd w p lines at_ us lv B) (hk:∀ w',us=[]→Rd w' p lines at_ [] lv B→Save p (p+1) w w'→k (.tuple #[]) w') (hn:∀ w',us≠[]→Save p (p+1) w w'→QP (wrongE at_) w'):callK Pg 71 #[.pointer (some ⟨p,0,none⟩)] QP w k:=by
 refine callK_wr (end_wr h) (fun v l w1 ho hr hs=>?_) fun w1 ho hs=>?_
 · split at ho
   · rename_i hu
     injection ho with ho
     injection ho with e1 e2
     subst e1 e2
     exact hk w1 hu hr hs
   · cases ho
 · split at ho
   · cases ho
   · rename_i hu
     exact hn _ hu hs
end
section
variable {WB w0 W:World} {p q at0 at1:Nat} {lines:List ByteArray} {lv:Value} {F:List CntD→List (List ByteArray)→Nat→Option RolD×Nat} {res:Option RolD×Nat} {cs:Array Value} {ws1:List ByteArray} {B1:Nat}
theorem role_counters (hE:EnvOK WB) (eB:Ext WB w0) (hb:WB.heap.size≤p) (hlz:∀ x∈lines,x.size≤100000) (hn:lines.length≤100000) (hc:RC w0 W p q lv)
 (hW:RL w0 W p lines lv q 52 2 cntCells W at1 (.slice none 0 0) [] ws1 B1) (hob:W.heap[q]?=some (.cells cs TRol (0,0))) (hcs:cs[2]?=some (.slice none 0 0)) (hat:at0≤at1) (hal:at1≤lines.length)
 (hres:res=accP kCounter cntP F [] ((lines.map spW).drop at1) (at1 - at0))
 (hex:∀ w at_ vv l ws B,RL w0 W p lines lv q 52 2 cntCells w at_ vv l ws B→w.heap[q]?=some (.cells (cs.setIfInBounds 2 vv) TRol (0,0))→at0≤at_→at_≤lines.length→res=F l ((lines.map spW).drop at_) (at_ - at0)→loop0 (fun w next=>callK Pg 65 #[.pointer (some ⟨p,0,none⟩),.string kState] (panK (RoR w0 p lines lv at0 res)) w fun t w=>n67c9 (.pointer (some ⟨p,0,none⟩)) (.pointer (some ⟨q,0,none⟩)) t next (RoR w0 p lines lv at0 res) w) w) :
 loop0 (fun w next=>callK Pg 65 #[.pointer (some ⟨p,0,none⟩),.string kCounter] (panK (RoR w0 p lines lv at0 res)) w fun t w=>n67c10 (.pointer (some ⟨p,0,none⟩)) (.pointer (some ⟨q,0,none⟩)) t next (RoR w0 p lines lv at0 res) w) W:=by
 have hset0:cs.setIfInBounds 2 (.slice none 0 0)=cs:=set_same hcs
 have hi:2 < cs.size:=(Array.getElem?_eq_some_iff.1 hcs).1
 have c1:=hc.zp
 have c2:=hc.zq
 have c5:=hc.qp
 refine loop0_intro (fun w=>∃ at_ vv l ws B,RL w0 W p lines lv q 52 2 cntCells w at_ vv l ws B∧w.heap[q]?=some (.cells (cs.setIfInBounds 2 vv) TRol (0,0))∧l.length+at1≤at_∧at_≤lines.length∧res=accP kCounter cntP F l ((lines.map spW).drop at_) (at_ - at0)) (fun w=>lines.length - atOf p w) ⟨at1,_,[],ws1,B1,hW,by rw [hset0];exact hob,by simp,hal,hres⟩ ?_
 rintro w ⟨at_,vv,l,ws,B,h,ho,ha0,hal,hres⟩
 have hm:=h.rd.at
 refine callK_ret (next_ret hE (h.sv.to_ext eB hb) hb hlz hal hn h.rd kCounter) ?_
 rintro _ w1 ⟨hs1,⟨x,us,B',hx,hsp,rfl,⟨hB1,hB2⟩,hr1⟩ | ⟨hno,rfl,hr1⟩⟩
 · have ho:=h.obS hc ho hs1
   have h:=h.next hc hs1 hr1 hB1 hB2
   have hlt:=(List.getElem?_eq_some_iff.1 hx).1
   have hus:∀ y∈us,y.size≤100000:=fun y hy=>Nat.le_trans (spW_sub (x:=x) (by rw [hsp];exact List.mem_cons_of_mem _ hy)) (hlz x (List.mem_of_getElem? hx))
   have hdr:(lines.map spW).drop at_=(kCounter::us)::(lines.map spW).drop (at_+1):=drop_words hx hsp
   rw [hdr] at hres
   have pan:∀ w',Save p (p+1) w0 w'→cntP us=none→panK (RoR w0 p lines lv at0 res) (wrongE ((at_+1:Nat):Int)) w':=fun w' hs hst=>by
    rw [accP_fail hst] at hres
    exact roR_pan hs (by rw [hres];congr 1;omega) (by omega)
   simp (disch:=try exact DI) only [↓PR,QR,simprocAttr,↓n67c10]
   have hq1:=h.row
   refine drawK_introB p (rowB vv p) (w1:=w1) (fun _ _ _ _=>rfl) ?_
   have eD:Ext w1 (Sw.drew w1):=(Ext.refl w1).drew
   have hKD:KB w1 p (rowB vv p) (Sw.drew w1):=fun _ _ _ _=>rfl
   have h:=h.ext hc eD
   have ho1:=ho
   have ho:=eD.obj ho
   have szD:=eD.size
   generalize Sw.drew w1=D at hKD h ho szD ⊢
   clear eD
   have hqb:q≠rowB vv p:=by
    unfold rowB
    cases hv:vv.ownBlock with
    | none=>exact c5
    | some b=>have:=(h.row b hv).1;show q≠b;omega
   have hqc:w1.cell? ⟨q,2,none⟩=some vv:=by rw [(cells_of_heap ho1).1,Array.getElem?_setIfInBounds_self_of_lt hi]
   have hov:vv.oneCell'=true:=SliceOf.oneCell (h.own.slice (E:=fun _ _ _=>True) (fun _=>rfl) (fun _ _=>trivial))
   unfold n67c3
   simp (disch:=try exact DI) only [↓PR,QR,simprocAttr,hqc]
   refine name_call h.rd (fun nm l1 w2 hnm hr2 hs2=>?_) fun w2 hnm hs2=>pan w2 (h.sv.trans hs2) (by unfold cntP;rw [hnm];rfl)
   have ho:=h.obS hc ho hs2
   have h:=h.save hc hs2 hr2
   have hK2:KB w1 p (rowB vv p) w2:=fun b hb h1 h2=>(hs2.block b (by omega) (by omega)).trans (hKD b hb h1 h2)
   have sz2:=hs2.size
   refine ⟨hK2,?_⟩
   refine num_call hE (h.sv.to_ext eB hb) hb (fun y hy=>hus y (nameP_sub hnm y hy)) h.rd (fun n l2 w3 hnn hr3 hs3=>?_) fun w3 hnn hs3=>pan w3 (h.sv.trans hs3) (by unfold cntP;rw [hnm];simp only [Option.bind_some];rw [hnn];rfl)
   have ho:=h.obS hc ho hs3
   have h:=h.save hc hs3 hr3
   have hK3:KB w1 p (rowB vv p) w3:=fun b hb h1 h2=>(hs3.block b (by omega) (by omega)).trans (hK2 b hb h1 h2)
   have sz3:=hs3.size
   refine ⟨hK3,?_⟩
   have hcp:cntP us=endP (⟨nm,n⟩:CntD) l2:=by
    unfold cntP
    rw [hnm]
    simp only [Option.bind_some]
    rw [hnn]
    rfl
   unfold n67c2
   simp (disch:=try exact DI) only [↓PR,QR,simprocAttr]
   generalize hY:World.alloc w3 _=Y
   have eY:Ext w3 Y:=by rw [← hY];exact (Ext.refl w3).alloc _
   have oY:ElemAt Y w3.heap.size 0 (cntCells ⟨nm,n⟩):=by rw [← hY];exact ElemAt.new _ _
   clear hY
   have hKY:KB w1 p (rowB vv p) Y:=fun b hb h1 h2=>(eY.block b (by omega)).trans (hK3 b hb h1 h2)
   have ho:=eY.obj ho
   have h:=h.ext hc eY
   refine ⟨hKY,?_⟩
   have hby:=by52
   refine op_appendL (enc:=cntCells) (l':=[(⟨nm,n⟩:CntD)]) Tryz.underlying23 ty52 rfl (by decide) (fun _=>rfl) (fun x hx u hu=>?_) h.own (o:=0) (fun j x hx=>?_) h.sz (by simp) ?_ (by simp;omega) ?_
   · simp only [List.mem_singleton] at hx
     subst hx
     simp only [List.mem_cons,List.not_mem_nil,or_false] at hu
     rcases hu with rfl | rfl<;>rfl
   · cases j with
     | zero =>
      simp only [List.getElem?_cons_zero,Option.some.injEq] at hx
      subst hx
      simpa using oY
     | succ j=>simp at hx
   · simp only [List.length_cons,List.length_nil]
     have:l.length+1≤200000:=by omega
     exact Nat.le_trans (Nat.mul_le_mul this hby) (by decide)
   · intro g cap w4 hO hg hgg hgl
     have hK4:KB w1 p (rowB vv p) w4:=fun b hb h1 h2=>(hg.block b (by have:=eY.size;omega) (fun e=>by unfold rowB at h2;rw [← e] at h2;exact h2 rfl)).trans (hKY b hb h1 h2)
     refine ⟨hK4,?_⟩
     have hq4:w4.heap[q]?=some (.cells (cs.setIfInBounds 2 vv) TRol (0,0)):=(hg.block q (by have:=h.sz;omega) fun e=>by have:=(h.row q e.symm).1;omega).trans ho
     obtain ⟨h5,ho5⟩:=h.put hc ho hg hO hgg 2
     have hc4:w4.cell? ⟨q,2,none⟩=some vv:=by rw [(cells_of_heap hq4).1,Array.getElem?_setIfInBounds_self_of_lt hi]
     have hf4:w4.frozen? ⟨q,2,none⟩=false:=(cells_of_heap hq4).2 _
     unfold n67c1
     simp (disch:=try exact DI) only [↓PR,QR,simprocAttr,hc4,hf4]
     refine turnK_intro ?_
     refine end_call h5.rd (fun w6 hl2 hr6 hs6=>?_) fun w6 hl2 hs6=>pan w6 (h5.sv.trans hs6) (by rw [hcp];unfold endP;rw [if_neg hl2])
     have ho6:=h5.obS hc ho5 hs6
     have h6:=h5.save hc hs6 hr6
     have hst:cntP us=some ⟨nm,n⟩:=by rw [hcp,hl2];rfl
     rw [accP_step hst] at hres
     refine ⟨⟨at_+1,_,l++[⟨nm,n⟩],[],B',h6,?_,by simp;omega,by omega,?_⟩,?_⟩
     · rw [ho6];simp
     · rw [hres];congr 1;omega
     · rw [h6.rd.at,hm];omega
 · unfold n67c10
   exact hex w1 at_ vv l ws B (h.save hc hs1 hr1) (h.obS hc ho hs1) (by omega) hal (by rw [hres];exact accP_stop (no_words hno))
end
theorem roleP_stop {L:List (List ByteArray)} (h:∀ w∈L.head?,∀ k∈w.head?,k≠kRole):roleP L=(none,1):=by
 cases L with
 | nil=>rfl
 | cons w L =>
  cases w with
  | nil=>rfl
  | cons k ws=>rw [roleP_eq,if_neg (h _ rfl k rfl)]
theorem countersP_acc (nm:ByteArray) (L:List (List ByteArray)) (n:Nat):countersP nm L n=accP kCounter cntP (fun cs L n=>accP kState staP (fun ss L n=>accP kStep stpP (fun ts _ n=>(some ⟨nm,ss,cs,ts⟩,n)) [] L n) [] L n) [] L n:=by
 unfold countersP
 show _=accP kCounter cntP _ [] L n
 conv=>rhs;unfold accP
 cases manyP kCounter cntP L with
 | mk o k =>
  cases o with
  | none=>rfl
  | some cs =>
   simp only [List.nil_append]
   unfold statesP
   conv=>rhs;unfold accP
   cases manyP kState staP (L.drop k) with
   | mk o k2 =>
    cases o with
    | none=>rfl
    | some ss =>
     simp only [List.nil_append]
     unfold stepsP
     conv=>rhs;unfold accP
     cases manyP kStep stpP ((L.drop k).drop k2) with
     | mk o k3=>cases o<;>rfl
section
variable {WB w:World} {p at0 B:Nat} {lines ws:List ByteArray} {lv:Value}
theorem role_ror (hE:EnvOK WB) (eB:Ext WB w) (hb:WB.heap.size≤p) (hlz:∀ x∈lines,x.size≤100000) (hn:lines.length≤100000) (hal:at0≤lines.length) (h:Rd w p lines at0 ws lv B) (hB:B < w.heap.size) (hl:∀ A n c,lv = .slice (some A) n c→A.block < w.heap.size) :
 Calls Pg 52 #[.pointer (some ⟨p,0,none⟩)] w (RoR w p lines lv at0 (roleP ((lines.map spW).drop at0))):=by
 have hpw:p < w.heap.size:=by
  obtain ⟨wv,h⟩:=h
  exact (Array.getElem?_eq_some_iff.1 h.obj).1
 generalize hres:roleP ((lines.map spW).drop at0)=res
 have hres:=hres.symm
 refine n67s ?_;unfold n67
 simp (disch:=try exact DI) only [↓PR,QR,simprocAttr]
 have eV:Ext w (World.alloc w (.cells #[.string ByteArray.empty,.slice none 0 0,.slice none 0 0,.slice none 0 0] 26)):=(Ext.refl w).alloc _
 have hob:=heap_new w #[.string ByteArray.empty,.slice none 0 0,.slice none 0 0,.slice none 0 0] 26
 have szV:(World.alloc w (.cells #[.string ByteArray.empty,.slice none 0 0,.slice none 0 0,.slice none 0 0] 26)).heap.size=w.heap.size+1:=World.size_alloc ..
 generalize World.alloc w _=V at eV hob szV ⊢
 have h:=h.ext eV
 generalize hq:w.heap.size=q at hob szV hpw hB hl ⊢
 refine callK_ret (next_ret hE (eB.trans eV) hb hlz hal hn h kRole) ?_
 rintro _ w1 ⟨hs1,⟨x,us,B',hx,hsp,rfl,⟨hB1,hB2⟩,hr1⟩ | ⟨hno,rfl,hr1⟩⟩
 · have hlt:=(List.getElem?_eq_some_iff.1 hx).1
   have hdr:(lines.map spW).drop at0=(kRole::us)::(lines.map spW).drop (at0+1):=drop_words hx hsp
   rw [hdr,roleP_eq,if_pos rfl] at hres
   unfold n67c13
   simp (disch:=try exact DI) only [↓PR,QR,simprocAttr]
   have hob1:=hs1.obj hob (by omega)
   have hS1:Save p (p+1) w w1:=(Save.of_ext eV).trans hs1
   have sz1:=hs1.size
   refine name_call hr1 (fun nm l1 w2 hnm hr2 hs2=>?_) fun w2 hnm hs2=>?_
   · have hob2:=hs2.obj hob1 (by omega)
     have hS2:=hS1.trans hs2
     have sz2:=hs2.size
     unfold n67c11
     simp (disch:=try exact DI) only [↓PR,QR,simprocAttr,(cells_of_heap hob2).1,(cells_of_heap hob2).2]
     have hob3:(w2.setCell ⟨q,0,none⟩ (.string nm)).heap[q]?=some (.cells #[.string nm,.slice none 0 0,.slice none 0 0,.slice none 0 0] 26 (0,0)):=heap_set hob2 (.string nm)
     have hS3:Save p (p+1) w (w2.setCell ⟨q,0,none⟩ (.string nm)):=hS2.setNew (by omega) _
     have hr3:Rd (w2.setCell ⟨q,0,none⟩ (.string nm)) p lines (at0+1) l1 lv B':=hr2.other _ (by omega) (by omega) fun A n c e=>by have:=hl A n c e;omega
     have sz3:(w2.setCell ⟨q,0,none⟩ (.string nm)).heap.size=w2.heap.size:=World.size_setCell ..
     generalize w2.setCell ⟨q,0,none⟩ (.string nm)=w3 at hob3 hS3 hr3 sz3 ⊢
     refine end_call hr3 (fun w4 hl1 hr4 hs4=>?_) fun w4 hl1 hs4=>?_
     · have hob4:=hs4.obj hob3 (by omega)
       have hS4:=hS3.trans hs4
       have sz4:=hs4.size
       have hrn:rnameP us=some nm:=by unfold rnameP;rw [hnm,hl1];rfl
       rw [hrn] at hres
       simp only at hres
       rw [countersP_acc] at hres
       have hc4:RC w w4 p q lv:=⟨by omega,by omega,by omega,by omega,by omega,fun A n c e=>by have:=hl A n c e;omega⟩
       refine role_counters hE eB hb hlz hn hc4 (RL.start hc4 hr4 (by omega) (by omega) (by omega) hS4) hob4 rfl (by omega) (by omega) (by rw [hres];congr 1;omega) ?_
       intro w5 at5 cv cl ws5 B5 h5 ho5 ha5 hl5 hres5
       have hc5:RC w w5 p q lv:=⟨h5.sv.size,by have:=h5.sz;omega,by have:=h5.sz;omega,by omega,by omega,fun A n c e=>by have:=hl A n c e;have:=h5.sz;omega⟩
       refine role_states hE eB hb hlz hn hc5 (RL.start hc5 h5.rd h5.Bq h5.Bw h5.Bl h5.sv) ho5 rfl ha5 hl5 hres5 ?_
       intro w6 at6 sv sl ws6 B6 h6 ho6 ha6 hl6 hres6
       have hc6:RC w w6 p q lv:=⟨h6.sv.size,by have:=h6.sz;have:=h5.sz;omega,by have:=h6.sz;have:=h5.sz;omega,by omega,by omega,fun A n c e=>by have:=hl A n c e;have:=h6.sz;have:=h5.sz;omega⟩
       refine role_steps hE eB hb hlz hn hc6 (RL.start hc6 h6.rd h6.Bq h6.Bw h6.Bl h6.sv) ho6 rfl ha6 hl6 hres6 ?_
       intro w7 at7 tv tl ws7 B7 h7 ho7 ha7 hl7 hres7
       have ho7:w7.heap[q]?=some (.cells (rolCells ⟨nm,sl,cl,tl⟩ sv cv tv).toArray TRol (0,0)):=ho7
       have own1:OwnE w7 w.heap.size 71 9 stpCells tv tl:=h7.own.base hc6.zw
       have own2:OwnE w7 w.heap.size 50 3 staCells sv sl:=(OwnE.keep h6.own fun b hb=>by
        have:=h6.row b hb
        exact h7.kp b this.2 (by have:=hc5.zp;omega) (by have:=hc5.zq;omega)).base hc5.zw
       have own3:OwnE w7 w.heap.size 52 2 cntCells cv cl:=(OwnE.keep h5.own fun b hb=>by
        have:=h5.row b hb
        exact (h7.kp b (by have:=h6.sz;omega) (by have:=hc4.zp;omega) (by have:=hc4.zq;omega)).trans (h6.kp b this.2 (by have:=hc4.zp;omega) (by have:=hc4.zq;omega))).base hc4.zw
       have f1:sv.oneCell'=true:=SliceOf.oneCell (own2.slice (E:=fun _ _ _=>True) (fun _=>rfl) (fun _ _=>trivial))
       have f2:cv.oneCell'=true:=SliceOf.oneCell (own3.slice (E:=fun _ _ _=>True) (fun _=>rfl) (fun _ _=>trivial))
       have f3:tv.oneCell'=true:=SliceOf.oneCell (own1.slice (E:=fun _ _ _=>True) (fun _=>rfl) (fun _ _=>trivial))
       simp (disch:=try exact DI) only [↓PR,QR,simprocAttr,(cells_of_heap ho7).1,(cells_of_heap ho7).2]
       have hs8:∀ b,b≠q→((((w7.setCell ⟨q,0,none⟩ (.string nm)).setCell ⟨q,1,none⟩ sv).setCell ⟨q,2,none⟩ cv).setCell ⟨q,3,none⟩ tv).heap[b]?=w7.heap[b]?:=fun b hb=>by simp only [Only.setCell _ q _ _ b hb]
       have hr8:Rd ((((w7.setCell ⟨q,0,none⟩ (.string nm)).setCell ⟨q,1,none⟩ sv).setCell ⟨q,2,none⟩ cv).setCell ⟨q,3,none⟩ tv) p lines at7 ws7 lv B7:=h7.rd.same (hs8 p (by omega)) (hs8 B7 h7.Bq) fun A n c e=>hs8 _ (by have:=hl A n c e;omega)
       have hS8:Save p (p+1) w ((((w7.setCell ⟨q,0,none⟩ (.string nm)).setCell ⟨q,1,none⟩ sv).setCell ⟨q,2,none⟩ cv).setCell ⟨q,3,none⟩ tv):=(((h7.sv.setNew (by omega) _).setNew (by omega) _).setNew (by omega) _).setNew (by omega) _
       have z4:=hc4.zq
       have z5:=hc5.zq
       have z6:=hc6.zq
       refine roR_ret (at_:=at7) (r:=⟨nm,sl,cl,tl⟩) hS8 hres7 ha7 ⟨sv,cv,tv,rfl,OwnE.keep own2 fun b hb=>hs8 b ?_,OwnE.keep own3 fun b hb=>hs8 b ?_,OwnE.keep own1 fun b hb=>hs8 b ?_⟩ hr8 (by simp only [World.size_setCell];exact h7.Bw) h7.Bl
       · have:=(h6.row b hb).1;omega
       · have:=(h5.row b hb).1;omega
       · have:=(h7.row b hb).1;omega
     · exact roR_pan (k:=at0+1) (hS3.trans hs4) (by rw [hres,show rnameP us=none by unfold rnameP;rw [hnm];simp only [Option.bind_some];unfold endP;rw [if_neg hl1]];show (none,1)=_;congr 1;omega) (by omega)
   · exact roR_pan (k:=at0+1) (hS1.trans hs2) (by rw [hres,show rnameP us=none by unfold rnameP;rw [hnm];rfl];show (none,1)=_;congr 1;omega) (by omega)
 · unfold n67c13
   obtain ⟨wv,hr1⟩:=hr1
   have hw:IntKind.i64.wrap ((at0:Int)+1)=((at0+1:Nat):Int):=by rw [wrap_ok (by omega) (by omega)];omega
   simp (disch:=try exact DI) only [↓PR,QR,simprocAttr,↓n67c12,(cells_of_heap hr1.obj).1,(cells_of_heap hr1.obj).2,hw]
   have hr2:Rd (w1.setCell ⟨p,1,none⟩ (.int .i64 ((at0+1:Nat):Int))) p lines (at0+1) ws lv B:=⟨wv,hr1.setAt (at0+1)⟩
   have hS2:Save p (p+1) w (w1.setCell ⟨p,1,none⟩ (.int .i64 ((at0+1:Nat):Int))):=((Save.of_ext eV).trans hs1).setCell (Nat.le_refl _) (Nat.lt_succ_self _) _
   refine callK_wr (must_wr hr2 false) (fun v us w3 ho _ _=>by cases ho) fun w3 _ hs3=>?_
   exact roR_pan (k:=at0+1) (hS2.trans hs3) (by rw [hres,roleP_stop (no_words hno)];congr 1;omega) (by omega)
end
theorem name_small {x:ByteArray} (h:nameB x=true):x.size≤32:=by
 unfold nameB at h
 simp only [Bool.and_eq_true,decide_eq_true_eq] at h
 omega
theorem numB_small {x:ByteArray} {n:Int} (h:numB x=some n):Num10 n:=by
 rw [numB_ref] at h
 have key:∀ neg d,digsN neg d=some n→Num10 n:=fun neg d hd=>by
  obtain ⟨_,h2,h3,_,rfl⟩:=digsN_some hd
  have:=val10 h2 h3
  unfold Num10
  split<;>omega
 unfold refN at h
 split at h
 · exact key _ _ h
 · exact key _ _ h
theorem numP_small {ws l:List ByteArray} {n:Int} (h:numP ws=some (n,l)):Num10 n:=by
 cases ws with
 | nil=>cases h
 | cons a r =>
  rw [numP_cons] at h
  cases hb:numB a with
  | none=>rw [hb] at h;cases h
  | some m =>
   rw [hb] at h
   injection h with h
   injection h with h1 h2
   subst h1
   exact numB_small hb
theorem cntP_small {ws:List ByteArray} {x:CntD} (h:cntP ws=some x):nameB x.name=true∧Num10 x.limit:=by
 unfold cntP at h
 obtain ⟨⟨a,l⟩,h1,h⟩:=bind_inv h
 obtain ⟨⟨n,l2⟩,h2,h⟩:=bind_inv h
 obtain ⟨h3,rfl⟩:=endP_inv h
 exact ⟨(nameP_inv h1).2,numP_small h2⟩
theorem staP_small {ws:List ByteArray} {x:StaD} (h:staP ws=some x):nameB x.name=true∧Num10 x.wait:=by
 unfold staP at h
 obtain ⟨⟨a,l⟩,h1,h⟩:=bind_inv h
 obtain ⟨⟨n,l2⟩,h2,h⟩:=bind_inv h
 obtain ⟨h3,rfl⟩:=endP_inv h
 refine ⟨(nameP_inv h1).2,?_⟩
 unfold waitP at h2
 split at h2
 · obtain ⟨⟨m,l3⟩,h4,h2⟩:=bind_inv h2
   split at h2
   · cases h2
   · injection h2 with h2
     injection h2 with e1 e2
     subst e1
     exact numP_small h4
 · injection h2 with h2
   injection h2 with e1 e2
   subst e1
   exact ⟨by show -9999999999≤(0:Int);omega,by show (0:Int)≤9999999999;omega⟩
theorem stpP_small {ws:List ByteArray} {x:StpD} (h:stpP ws=some x):nameB x.fr=true∧nameB x.to=true∧(1≤x.kind∧x.kind≤4)∧(if speaksB x.kind then nameB x.message=true∧nameB x.peer=true else x.message=ByteArray.empty∧x.peer=ByteArray.empty)∧(if x.counter=ByteArray.empty then x.low=0∧x.high=0∧x.add=0 else nameB x.counter=true∧Num10 x.low∧Num10 x.high∧Num10 x.add):=by
 unfold stpP at h
 obtain ⟨⟨a,l⟩,h1,h⟩:=bind_inv h
 obtain ⟨⟨b,l2⟩,h2,h⟩:=bind_inv h
 obtain ⟨⟨c,l3⟩,h3,h⟩:=bind_inv h
 split at h
 · cases h
 · rename_i hk
   obtain ⟨⟨m,l4⟩,h4,h⟩:=bind_inv h
   obtain ⟨⟨q,l5⟩,h5,h⟩:=bind_inv h
   obtain ⟨h6,rfl⟩:=endP_inv h
   simp only at h2 h3 h4 h5 h6 hk ⊢
   refine ⟨(nameP_inv h1).2,(nameP_inv h2).2,(kindP_inv hk).2,?_,?_⟩
   · unfold msgP at h4
     split at h4
     · rename_i hs
       obtain ⟨⟨y,r1⟩,g1,h4⟩:=bind_inv h4
       obtain ⟨⟨z,r2⟩,g2,h4⟩:=bind_inv h4
       injection h4 with h4
       injection h4 with e1 e2
       subst e1
       rw [if_pos hs]
       exact ⟨(nameP_inv g1).2,(nameP_inv g2).2⟩
     · rename_i hs
       injection h4 with h4
       injection h4 with e1 e2
       subst e1
       rw [if_neg hs]
       exact ⟨rfl,rfl⟩
   · unfold whenP at h5
     split at h5
     · obtain ⟨⟨y,r1⟩,g1,h5⟩:=bind_inv h5
       obtain ⟨⟨z,r2⟩,g2,h5⟩:=bind_inv h5
       obtain ⟨⟨u,r3⟩,g3,h5⟩:=bind_inv h5
       obtain ⟨⟨v,r4⟩,g4,h5⟩:=bind_inv h5
       injection h5 with h5
       injection h5 with e1 e2
       subst e1
       have hn:=(nameP_inv g1).2
       rw [if_neg (fun e:y=ByteArray.empty=>by rw [e] at hn;revert hn;decide)]
       exact ⟨hn,numP_small g2,numP_small g3,numP_small g4⟩
     · injection h5 with h5
       injection h5 with e1 e2
       subst e1
       rw [if_pos rfl]
       exact ⟨rfl,rfl,rfl⟩
theorem pairs_all {α β:Type} {R:α→β→Prop} {q:β→Prop} (hq:∀ a b,R a b→q b):∀ {l:List α} {m:List β},Pairs R l m→(∀ b∈m,q b)∧m.length=l.length
 | _,_,.nil=>⟨fun _ h=>(by cases h),rfl⟩
 | _,_,.cons h1 h=>by
  obtain ⟨a1,a2⟩:=pairs_all hq h
  refine ⟨fun b hb=>?_,by rw [List.length_cons,List.length_cons,a2]⟩
  rcases List.mem_cons.1 hb with rfl | hb
  · exact hq _ _ h1
  · exact a1 b hb
structure Read (r:RolD):Prop where
 nm:nameB r.name=true
 cs:∀ c∈r.counters,nameB c.name=true∧Num10 c.limit
 ss:∀ c∈r.states,nameB c.name=true∧Num10 c.wait
 ts:∀ s∈r.steps,nameB s.fr=true∧nameB s.to=true∧(1≤s.kind∧s.kind≤4)∧(if speaksB s.kind then nameB s.message=true∧nameB s.peer=true else s.message=ByteArray.empty∧s.peer=ByteArray.empty)∧(if s.counter=ByteArray.empty then s.low=0∧s.high=0∧s.add=0 else nameB s.counter=true∧Num10 s.low∧Num10 s.high∧Num10 s.add)
theorem roleP_read {L:List (List ByteArray)} {r:RolD} {n:Nat} (h:roleP L=(some r,n)):Read r∧r.counters.length≤L.length∧r.states.length≤L.length∧r.steps.length≤L.length∧1≤n∧n≤L.length:=by
 match L,h with
 | [],h=>cases h
 | []::L,h=>cases h
 | (k::ws)::L,h =>
  by_cases hk:k=kRole
  case neg=>rw [roleP_eq,if_neg hk] at h;cases h
  subst hk
  rw [roleP_eq,if_pos rfl] at h
  cases hn:rnameP ws with
  | none=>rw [hn] at h;cases h
  | some nm =>
  rw [hn] at h
  simp only at h
  unfold rnameP at hn
  obtain ⟨⟨a,l⟩,h1,h2⟩:=bind_inv hn
  obtain ⟨h3,rfl⟩:=endP_inv h2
  unfold countersP at h
  cases hc:manyP kCounter cntP L with
  | mk o k1 =>
  rw [hc] at h
  cases o with
  | none=>cases h
  | some cs =>
  simp only at h
  unfold statesP at h
  cases hs:manyP kState staP (L.drop k1) with
  | mk o k2 =>
  rw [hs] at h
  cases o with
  | none=>cases h
  | some ss =>
  simp only at h
  unfold stepsP at h
  cases ht:manyP kStep stpP ((L.drop k1).drop k2) with
  | mk o k3 =>
  rw [ht] at h
  injection h with h1' h2'
  cases o with
  | none=>cases h1'
  | some ts =>
  injection h1' with h1'
  subst h1'
  obtain ⟨R1,a1,a2,a3⟩:=many_inv hc
  obtain ⟨R2,b1,b2,b3⟩:=many_inv hs
  obtain ⟨R3,c1,c2,c3⟩:=many_inv ht
  obtain ⟨d1,d2⟩:=pairs_all (q:=fun x:CntD=>nameB x.name=true∧Num10 x.limit) (fun w x ⟨ws,_,h⟩=>cntP_small h) a3
  obtain ⟨e1,e2⟩:=pairs_all (q:=fun x:StaD=>nameB x.name=true∧Num10 x.wait) (fun w x ⟨ws,_,h⟩=>staP_small h) b3
  obtain ⟨f1,f2⟩:=pairs_all (fun w x ⟨ws,_,h⟩=>stpP_small h) c3
  have l1:=many_le (kw:=kCounter) (p:=cntP) L
  have l2:=many_le (kw:=kState) (p:=staP) (L.drop k1)
  have l3:=many_le (kw:=kStep) (p:=stpP) ((L.drop k1).drop k2)
  rw [hc] at l1
  rw [hs,List.length_drop] at l2
  rw [ht,List.length_drop,List.length_drop] at l3
  simp only at l1 l2 l3 h2'
  rw [List.length_cons]
  refine ⟨⟨(nameP_inv h1).2,d1,e1,f1⟩,?_,?_,?_,by omega,by omega⟩
  · show cs.length≤_;omega
  · show ss.length≤_;omega
  · show ts.length≤_;omega
theorem Read.sm {r:RolD} (h:Read r):∀ x∈r.steps,StpSm x:=by
 intro x hx
 obtain ⟨s1,s2,_,s4,s5⟩:=h.ts x hx
 have he:(ByteArray.empty).size=0:=rfl
 have n1:=name_small s1
 have n2:=name_small s2
 have n3:x.message.size≤32∧x.peer.size≤32:=by
  split at s4
  · exact ⟨name_small s4.1,name_small s4.2⟩
  · rw [s4.1,s4.2,he];omega
 have n5:x.counter.size≤32:=by
  split at s5
  · rename_i hc;rw [hc,he];omega
  · exact name_small s5.1
 unfold StpSm
 omega
theorem Read.ok {r:RolD} (h:Read r) (hl:r.counters.length≤1000000000∧r.states.length≤1000000000∧r.steps.length≤1000000000):RolOk r:=by
 refine ⟨by have:=name_small h.nm;omega,fun c hc=>?_,fun c hc=>?_,fun x hx=>⟨h.sm x hx,?_⟩,hl⟩
 · obtain ⟨a,b⟩:=h.cs c hc
   have:=name_small a
   unfold Num10 at b
   omega
 · obtain ⟨a,b⟩:=h.ss c hc
   have:=name_small a
   unfold Num10 at b
   omega
 · obtain ⟨_,_,_,_,s5⟩:=h.ts x hx
   split at s5
   · obtain ⟨e1,e2,e3⟩:=s5
     rw [e1,e2,e3]
     omega
   · obtain ⟨_,e1,e2,e3⟩:=s5
     unfold Num10 at e1 e2 e3
     omega
abbrev catchN (p4:Nat):Deferred:={ target := .fn (.func 88) #[.pointer (some ⟨p4,0,none⟩)],args := #[] }
theorem catchN_ret {p4:Nat} {w:World} {k:FrameMode→World→Prop} (h:k .returning w):outM Pg [catchN p4] .returning w k:=by
 refine ⟨by simp,.inr ⟨.func 88,_,88,#[.pointer (some ⟨p4,0,none⟩)],rfl,?_,?_⟩⟩
 · exact callFunc_run c88 _ w
 · refine n61s ?_
   unfold n61
   show opV _ (binS .neq _ true .nilIface .nilIface) _ _ _
   rw [op_neqNil_none Tryz.underlying20]
   simp (disch:=try exact DI) only [↓PR,QR,simprocAttr]
   exact h
theorem catchN_pan {p4:Nat} {w:World} {k:FrameMode→World→Prop} {n:Int} {y:Value} (o4:w.heap[p4]?=some (.cells #[y] 3 (0,0))) (h:k .returning (w.setCell ⟨p4,0,none⟩ (.int .i64 n))):outM Pg [catchN p4] (.panicking (wrongE n)) w k:=by
 refine ⟨by simp,.inr ⟨.func 88,_,88,#[.pointer (some ⟨p4,0,none⟩)],rfl,?_,?_⟩⟩
 · exact callFunc_run c88 _ w
 · refine n61s ?_
   rw [show recM (.panicking (wrongE n))=(.iface 133 (.int .i64 n),.panicking [{ v := .iface 133 (.int .i64 n),recovered:=true }]) from rfl]
   unfold n61
   rw [op_neqNil_some Tryz.underlying20]
   simp (disch:=try exact DI) only [↓PR,QR,simprocAttr]
   unfold n61c1
   rw [op_assert_ok Tryz.underlying133 rfl]
   simp (disch:=try exact DI) only [↓PR,QR,simprocAttr,(cells_of_heap o4).1,(cells_of_heap o4).2]
   exact h
theorem read_fine {w:World} {p4:Nat} {n:Int} {R:RT} (o4:w.heap[p4]?=some (.cells #[.int .i64 n] 3 (0,0))) (h:R (.returned (.int .i64 n)) w):outX Pg [catchN p4] [(some 3,.pointer (some ⟨p4,0,none⟩))] R w:=by
 unfold outX
 refine catchN_ret ?_
 unfold endM retV resOne
 simp only
 simp (disch:=try exact DI) only [↓PR,QR,simprocAttr,(cells_of_heap o4).1]
 exact h
theorem read_pan {w:World} {p4:Nat} {n:Int} {y:Value} {R:RT} (o4:w.heap[p4]?=some (.cells #[y] 3 (0,0))) (h:R (.returned (.int .i64 n)) (w.setCell ⟨p4,0,none⟩ (.int .i64 n))):outQ Pg [catchN p4] [(some 3,.pointer (some ⟨p4,0,none⟩))] R (wrongE n) w:=by
 unfold outQ
 refine catchN_pan o4 ?_
 have o5:=heap_set (o:=0) o4 (.int .i64 n)
 unfold endM retV resOne
 simp only
 simp (disch:=try exact DI) only [↓PR,QR,simprocAttr,(cells_of_heap o5).1]
 exact h
structure Save2 (p c:Nat) (w w':World):Prop where
 os:w'.os=w.os
 tape:w'.tape=w.tape
 output:w'.output=w.output
 size:w.heap.size≤w'.heap.size
 block:∀ k,k < w.heap.size→k≠p→k≠c→w'.heap[k]?=w.heap[k]?
theorem Save2.of {p c:Nat} {w w':World} (h:Save p (p+1) w w'):Save2 p c w w':=⟨h.os,h.tape,h.output,h.size,fun k hk h1 h2=>h.block k hk (by omega)⟩
theorem Save2.trans {p c:Nat} {w w' w'':World} (h:Save2 p c w w') (k:Save2 p c w' w''):Save2 p c w w'':=⟨k.os.trans h.os,k.tape.trans h.tape,k.output.trans h.output,Nat.le_trans h.size k.size,fun b hb h1 h2=>(k.block b (Nat.lt_of_lt_of_le hb h.size) h1 h2).trans (h.block b hb h1 h2)⟩
theorem Save2.setCell {p c:Nat} {w w':World} (h:Save2 p c w w') (o:Nat) (v:Value):Save2 p c w (w'.setCell ⟨c,o,none⟩ v):=⟨h.os,h.tape,h.output,by rw [World.size_setCell];exact h.size,fun k hk h1 h2=>(Only.setCell w' c o v k h2).trans (h.block k hk h1 h2)⟩
def AllR (w1:World) (p c:Nat) (lines:List ByteArray) (lv:Value) (Φ:World→Nat→Prop) (Ψ:World→Nat→Prop):Ending→World→Prop:=fun e w2=>Save2 p c w1 w2∧((∃ at_ ws B,e = .returned (.tuple #[])∧Rd w2 p lines at_ ws lv B∧at_≤lines.length∧Φ w2 at_)∨∃ n:Nat,e = .panicked (wrongE (n:Int))∧Ψ w2 n)
theorem mem_cutL {c:UInt8}:∀ {l:List UInt8} {x:List UInt8},x∈cutL c l→x.length≤l.length
 | [],x,h=>by
  have:x=[]:=by simpa [cutL] using h
  subst this
  exact Nat.le_refl _
 | b::l,x,h=>by
  unfold cutL at h
  split at h
  · rcases List.mem_cons.1 h with rfl | h
    · exact Nat.zero_le _
    · exact Nat.le_succ_of_le (mem_cutL h)
  · split at h
    · have:x=[b]:=by simpa using h
      subst this
      simp
    · rename_i y r hy
      rcases List.mem_cons.1 h with rfl | h
      · have:=mem_cutL (l:=l) (x:=y) (by rw [hy];exact List.mem_cons_self ..)
        simp only [List.length_cons];omega
      · have:=mem_cutL (l:=l) (x:=x) (by rw [hy];exact List.mem_cons_of_mem _ h)
        simp only [List.length_cons];omega
theorem len_cutL {c:UInt8}:∀ (l:List UInt8),(cutL c l).length≤l.length+1
 | []=>by simp [cutL]
 | b::l=>by
  have ih:=len_cutL (c:=c) l
  unfold cutL
  split
  · simp only [List.length_cons];omega
  · split
    · simp
    · rename_i y r hy
      rw [hy] at ih
      simp only [List.length_cons] at ih ⊢
      omega
theorem lines_small (s:ByteArray):(cutW 10 s).length≤s.size+1∧∀ x∈cutW 10 s,x.size≤s.size:=by
 have hs:s.data.toList.length=s.size:=by rw [Array.length_toList];rfl
 unfold cutW
 refine ⟨by rw [List.length_map,← hs];exact len_cutL _,fun x hx=>?_⟩
 obtain ⟨y,hy,rfl⟩:=List.mem_map.1 hx
 have:=mem_cutL hy
 rw [hs] at this
 exact this
theorem read_ret {w0:World} {text:ByteArray} {g:FuncId} {caps:Array Value} {c:Nat} {Φ Ψ:World→Nat→Prop} (hE:EnvOK w0) (hz:text.size≤90000) (hg:Callable Pg g) (hc:c < w0.heap.size)
 (h:∀ w1 p lv B,Ext w0 w1→w0.heap.size < p→p < w1.heap.size→Rd w1 p (cutW 10 text) 0 [] lv B→B < w1.heap.size→c≠B→(∀ A n c',lv = .slice (some A) n c'→A.block < w1.heap.size∧A.block≠c)→Calls Pg g (#[.pointer (some ⟨p,0,none⟩)]++caps) w1 (AllR w1 p c (cutW 10 text) lv Φ Ψ)) :
 Ret Pg 50 #[.string text,.func (.func g) #[] caps] w0 fun r w'=>∃ w2,Save w0.heap.size (w0.heap.size+1) w2 w'∧(∀ b,b < w0.heap.size→b≠c→w'.heap[b]?=w0.heap[b]?)∧w0.heap.size < w2.heap.size∧(w'.os=w0.os∧w'.tape=w0.tape∧w'.output=w0.output)∧((∃ at_,Φ w2 at_∧at_≤(cutW 10 text).length∧r = .int .i64 (if at_ < (cutW 10 text).length then ((at_+1:Nat):Int) else 0))∨∃ n:Nat,Ψ w2 n∧r = .int .i64 (n:Int)):=by
 obtain ⟨hln,hlz⟩:=lines_small text
 generalize hL:cutW 10 text=lines at h hln hlz ⊢
 refine n60s (R:=retR _) ?_;unfold n60
 simp (disch:=try exact DI) only [↓PR,QR,simprocAttr]
 have e0:Ext w0 (World.alloc w0 (.cells #[.int .i64 0] 3)):=(Ext.refl w0).alloc _
 have o4:=heap_new w0 #[.int .i64 0] 3
 have s4:(World.alloc w0 (.cells #[.int .i64 0] 3)).heap.size=w0.heap.size+1:=World.size_alloc ..
 generalize World.alloc w0 _=V at e0 o4 s4 ⊢
 generalize hp4:w0.heap.size=p4 at o4 s4 h hc ⊢
 refine ⟨catchN p4,V,rfl,?_⟩
 show callK _ _ _ _ _ _
 refine callK_ret (Split_ret (hE.ext e0) text 10 (by omega)) ?_
 rintro _ w1 ⟨e1,n,rfl,hsl⟩
 rw [split_cut,hL] at hsl
 unfold n60c3
 simp (disch:=try exact DI) only [↓PR,QR,simprocAttr]
 have op:=heap_new w1 (rdCells (.slice (some ⟨V.heap.size,0,none⟩) n n) (.slice none 0 0) 0).toArray TR
 have e2:Ext w1 (w1.alloc (.cells (rdCells (.slice (some ⟨V.heap.size,0,none⟩) n n) (.slice none 0 0) 0).toArray TR)):=(Ext.refl w1).alloc _
 have s2:(w1.alloc (.cells (rdCells (.slice (some ⟨V.heap.size,0,none⟩) n n) (.slice none 0 0) 0).toArray TR)).heap.size=w1.heap.size+1:=World.size_alloc ..
 have s1:=e1.size
 have hv1:V.heap.size < w1.heap.size:=by
  obtain ⟨x,r,hx⟩:∃ x r,lines=x::r:=by
   cases lines with
   | nil=>exact absurd hL (cutW_ne 10 text)
   | cons x r=>exact ⟨x,r,rfl⟩
  rw [hx] at hsl
  have hnl:n=r.length+1:=by
   obtain ⟨A,c',hv,_⟩:=SliceOf.open hsl
   injection hv
  exact World.block_lt_of_cell? w1 _ (tail_of hnl hsl).2
 generalize w1.alloc _=w3 at op e2 s2 ⊢
 generalize hp:w1.heap.size=p at op s2 ⊢
 have e3:=e1.trans e2
 have hrd:Rd w3 p lines 0 [] (.slice (some ⟨V.heap.size,0,none⟩) n n) p4:=⟨_,op,SliceOf.ext keptStr hsl e2,SliceOf.nil _ _ _,(fun A n c e=>by injection e with e;injection e with e;subst e;show V.heap.size≠p;omega),(fun A n c e=>by cases e),by omega⟩
 rw [callV_func hg]
 simp only [Array.empty_append]
 have E3:=e0.trans e3
 have hk4:∀ {w4:World},Save2 p c w3 w4→w4.heap[p4]?=some (.cells #[.int .i64 0] 3 (0,0)):=fun hs=>(hs.block p4 (by omega) (by omega) (by omega)).trans (e3.obj o4)
 have hbl:∀ {w4 w5:World},Save2 p c w3 w4→(∀ b,b < p4→w5.heap[b]?=w4.heap[b]?)→∀ b,b < p4→b≠c→w5.heap[b]?=w0.heap[b]?:=fun hs h5 b hb hc'=>(h5 b hb).trans ((hs.block b (by omega) (by omega) hc').trans (E3.block b (by omega)))
 refine callK_calls (h w3 p _ p4 E3 (by omega) (by omega) hrd (by omega) (by omega) fun A n c' e=>by injection e with e;injection e with e;subst e;exact ⟨by show V.heap.size < _;omega,by show V.heap.size≠c;omega⟩) (fun v w4 hA=>?_) (fun ch w4 hA=>?_) (fun w4 hA=>?_)
 · obtain ⟨hs,hA⟩:=hA
   rcases hA with ⟨at_,ws,B,he,hr,hat,hΦ⟩ | ⟨n,he,_⟩
   rotate_left
   · cases he
   injection he with he
   subst he
   refine drawK_intro ?_
   have eD:Ext w4 (Sw.drew w4):=(Ext.refl w4).drew
   have hr:=hr.ext eD
   have h4:=eD.obj (hk4 hs)
   have hsz:=hs.size
   generalize Sw.drew w4=D at eD hr h4 ⊢
   obtain ⟨wv,hr⟩:=hr
   have olv:=SliceOf.oneCell hr.ls
   obtain ⟨A,c',hlv,_⟩:=SliceOf.open hr.ls
   injection hlv with hv1' hv2' hv3'
   subst hv2'
   have fin:∀ n:Int,n=(if at_ < lines.length then ((at_+1:Nat):Int) else 0)→outX Pg [catchN p4] [(some 3,.pointer (some ⟨p4,0,none⟩))] (retR fun r w'=>∃ w2,Save p4 (p4+1) w2 w'∧(∀ b,b < p4→b≠c→w'.heap[b]?=w0.heap[b]?)∧p4 < w2.heap.size∧(w'.os=w0.os∧w'.tape=w0.tape∧w'.output=w0.output)∧((∃ at_,Φ w2 at_∧at_≤lines.length∧r = .int .i64 (if at_ < lines.length then ((at_+1:Nat):Int) else 0))∨∃ n:Nat,Ψ w2 n∧r = .int .i64 (n:Int))) (D.setCell ⟨p4,0,none⟩ (.int .i64 n)):=by
    intro n hn
    refine read_fine (heap_set (o:=0) h4 (.int .i64 n)) ⟨_,rfl,w4,?_,?_,by omega,?_,.inl ⟨at_,hΦ,hat,by rw [hn]⟩⟩
    · exact (Save.of_ext eD).setCell (Nat.le_refl _) (Nat.lt_succ_self _) _
    · exact hbl hs fun b hb=>(Only.setCell D p4 0 _ b (by omega)).trans (eD.block b (by omega))
    · exact ⟨eD.os.trans (hs.os.trans E3.os),eD.tape.trans (hs.tape.trans E3.tape),eD.output.trans (hs.output.trans E3.output)⟩
   unfold n60c2
   by_cases hlt:at_ < lines.length
   · have d1:decide ((at_:Int) < (lines.length:Int))=true:=decide_eq_true (by omega)
     have hw:IntKind.i64.wrap ((at_:Int)+1)=((at_+1:Nat):Int):=by rw [wrap_ok (by omega) (by omega)];omega
     simp (disch:=try exact DI) only [↓PR,QR,simprocAttr,(cells_of_heap hr.obj).1,d1,↓n60c1,hw,(cells_of_heap h4).1,(cells_of_heap h4).2]
     exact fin _ (by rw [if_pos hlt])
   · have d1:decide ((at_:Int) < (lines.length:Int))=false:=decide_eq_false (by omega)
     simp (disch:=try exact DI) only [↓PR,QR,simprocAttr,(cells_of_heap hr.obj).1,d1,(cells_of_heap h4).1,(cells_of_heap h4).2]
     exact fin _ (by rw [if_neg hlt])
 · obtain ⟨hs,hA⟩:=hA
   rcases hA with ⟨at_,ws,B,he,hr,hat,hΦ⟩ | ⟨n,he,hΨ⟩
   · cases he
   injection he with he
   subst he
   have h4:=hk4 hs
   have hsz:=hs.size
   refine read_pan h4 ⟨_,rfl,w4,?_,?_,by omega,?_,.inr ⟨n,hΨ,rfl⟩⟩
   · exact (Save.refl _ _ _).setCell (Nat.le_refl _) (Nat.lt_succ_self _) _
   · exact hbl hs fun b hb=>Only.setCell w4 p4 0 _ b (by omega)
   · exact ⟨hs.os.trans E3.os,hs.tape.trans E3.tape,hs.output.trans E3.output⟩
 · obtain ⟨hs,hA⟩:=hA
   rcases hA with ⟨at_,ws,B,he,_⟩ | ⟨n,he,_⟩<;>cases he
def zeroR:RolD:=⟨ByteArray.empty,[],[],[]⟩
def parseP (text:ByteArray):RolD×Int×Int:=match roleP (linesT text) with
 | (none,n)=>(zeroR,(n:Int),6)
 | (some r,n)=>if n < (linesT text).length then (zeroR,((n+1:Nat):Int),6) else if (checkR r).2=0 then (r,0,0) else (zeroR,0,(checkR r).2)
def RolObj (w:World) (c base:Nat) (r:RolD):Prop:=∃ sv cv tv,w.heap[c]?=some (.cells (rolCells r sv cv tv).toArray TRol (0,0))∧OwnE w base 50 3 staCells sv r.states∧OwnE w base 52 2 cntCells cv r.counters∧OwnE w base 71 9 stpCells tv r.steps
theorem RolObj.keep {w w':World} {c base:Nat} {r:RolD} (h:RolObj w c base r) (hc:w'.heap[c]?=w.heap[c]?) (hk:∀ b,base≤b→b < w.heap.size→w'.heap[b]?=w.heap[b]?):RolObj w' c base r:=by
 obtain ⟨sv,cv,tv,ho,h1,h2,h3⟩:=h
 exact ⟨sv,cv,tv,hc.trans ho,OwnE.keep h1 fun b hb=>hk b (World.ownsRow.lt h1 b hb).1 (World.ownsRow.lt h1 b hb).2,OwnE.keep h2 fun b hb=>hk b (World.ownsRow.lt h2 b hb).1 (World.ownsRow.lt h2 b hb).2,OwnE.keep h3 fun b hb=>hk b (World.ownsRow.lt h3 b hb).1 (World.ownsRow.lt h3 b hb).2⟩
theorem own_one {α:Type} {w:World} {base n:Nat} {T:TypeId} {enc:α→List Value} {v:Value} {l:List α} (h:OwnE w base T n enc v l) (hn:∀ x,(enc x).length=n):v.oneCell'=true:=SliceOf.oneCell (h.slice (E:=fun _ _ _=>True) hn (fun _ _=>trivial))
theorem linesT_len (s:ByteArray):(linesT s).length=(cutW 10 s).length:=by unfold linesT;rw [List.length_map]
theorem ParseS1_all {WB w1:World} {p c B:Nat} {text:ByteArray} {lv:Value} {x0 x1 x2 x3:Value} (hE:EnvOK WB) (eB:Ext WB w1) (hb:WB.heap.size≤p) (hz:text.size≤90000) (hp:p < w1.heap.size) (hr:Rd w1 p (cutW 10 text) 0 [] lv B) (hB:B < w1.heap.size) (hl:∀ A n c',lv = .slice (some A) n c'→A.block < w1.heap.size∧A.block≠c) (hcp:c≠p) {base:Nat} (hbs:base≤w1.heap.size) (ho:w1.heap[c]?=some (.cells #[x0,x1,x2,x3] TRol (0,0))) :
 Calls Pg 51 #[.pointer (some ⟨p,0,none⟩),.pointer (some ⟨c,0,none⟩)] w1 (AllR w1 p c (cutW 10 text) lv (fun w2 at_=>∃ r,roleP (linesT text)=(some r,at_)∧RolObj w2 c base r) (fun w2 n=>roleP (linesT text)=(none,n)∧∃ x0 x1 x2 x3,w2.heap[c]?=some (.cells #[x0,x1,x2,x3] TRol (0,0)))):=by
 obtain ⟨hln,hlz⟩:=lines_small text
 refine n43s ?_
 unfold n43
 have hror:=role_ror hE eB hb (fun x hx=>Nat.le_trans (hlz x hx) (by omega)) (by omega) (Nat.zero_le _) hr hB fun A n c' e=>(hl A n c' e).1
 rw [List.drop_zero] at hror
 refine callK_calls hror (fun v w2 hA=>?_) (fun ch w2 hA=>?_) (fun w2 hA=>?_)
 · obtain ⟨hs,hA⟩:=hA
   have hol:=hs.obj ho (by omega)
   cases hrp:roleP ((cutW 10 text).map spW) with
   | mk o n =>
   rw [hrp] at hA
   cases o with
   | none=>cases hA
   | some r =>
   obtain ⟨v',he,⟨sv,cv,tv,hv,h1,h2,h3⟩,ws,B',hr2,hB2,hB3⟩:=hA
   injection he with he
   subst he hv
   have f1:=own_one h1 (fun _=>rfl)
   have f2:=own_one h2 (fun _=>rfl)
   have f3:=own_one h3 (fun _=>rfl)
   simp (disch:=try exact DI) only [↓PR,QR,simprocAttr,(cells_of_heap hol).1,(cells_of_heap hol).2]
   have o5:((((w2.setCell ⟨c,0,none⟩ (.string r.name)).setCell ⟨c,1,none⟩ sv).setCell ⟨c,2,none⟩ cv).setCell ⟨c,3,none⟩ tv).heap[c]?=some (.cells (rolCells r sv cv tv).toArray TRol (0,0)):=by simpa using heap_set (o:=3) (heap_set (o:=2) (heap_set (o:=1) (heap_set (o:=0) hol (.string r.name)) sv) cv) tv
   have hs5:Save2 p c w1 ((((w2.setCell ⟨c,0,none⟩ (.string r.name)).setCell ⟨c,1,none⟩ sv).setCell ⟨c,2,none⟩ cv).setCell ⟨c,3,none⟩ tv):=((((Save2.of hs).setCell _ _).setCell _ _).setCell _ _).setCell _ _
   have hb5:∀ b,b≠c→((((w2.setCell ⟨c,0,none⟩ (.string r.name)).setCell ⟨c,1,none⟩ sv).setCell ⟨c,2,none⟩ cv).setCell ⟨c,3,none⟩ tv).heap[b]?=w2.heap[b]?:=fun b hb=>by simp only [Only.setCell _ c _ _ b hb]
   have hcl:c < w1.heap.size:=(Array.getElem?_eq_some_iff.1 ho).1
   refine ⟨hs5,.inl ⟨n,ws,B',rfl,?_,?_,r,hrp,sv,cv,tv,o5,(OwnE.keep h1 fun b hb=>hb5 b ?_).base hbs,(OwnE.keep h2 fun b hb=>hb5 b ?_).base hbs,(OwnE.keep h3 fun b hb=>hb5 b ?_).base hbs⟩⟩
   · rw [Nat.zero_add] at hr2
     exact hr2.same (hb5 p (by omega)) (hb5 B' (by omega)) fun A n c' e=>hb5 _ (hl A n c' e).2
   · have:=(roleP_read hrp).2.2.2.2.2;rw [List.length_map] at this;exact this
   · have:=(World.ownsRow.lt h1 b hb).1;omega
   · have:=(World.ownsRow.lt h2 b hb).1;omega
   · have:=(World.ownsRow.lt h3 b hb).1;omega
 · obtain ⟨hs,hA⟩:=hA
   cases hrp:roleP ((cutW 10 text).map spW) with
   | mk o n =>
   rw [hrp] at hA
   cases o with
   | some r=>obtain ⟨v',he,_⟩:=hA;cases he
   | none =>
   injection hA with hA
   subst hA
   refine ⟨Save2.of hs,.inr ⟨n,by simp,hrp,x0,x1,x2,x3,hs.obj ho (by omega)⟩⟩
 · obtain ⟨hs,hA⟩:=hA
   cases hrp:roleP ((cutW 10 text).map spW) with
   | mk o n =>
   rw [hrp] at hA
   cases o with
   | some r=>obtain ⟨v',he,_⟩:=hA;cases he
   | none=>cases hA
theorem roleP_pos {L:List (List ByteArray)} {n:Nat} (h:roleP L=(none,n)):0 < n:=by
 match L,h with
 | [],h=>injection h with _ h;omega
 | []::L,h=>injection h with _ h;omega
 | (k::ws)::L,h =>
  by_cases hk:k=kRole
  case neg=>rw [roleP_eq,if_neg hk] at h;injection h with _ h;omega
  subst hk
  rw [roleP_eq,if_pos rfl] at h
  cases hn:rnameP ws with
  | none=>rw [hn] at h;injection h with _ h;omega
  | some nm =>
  rw [hn] at h
  simp only at h
  unfold countersP at h
  cases hc:manyP kCounter cntP L with
  | mk o k1 =>
  rw [hc] at h
  cases o with
  | none=>injection h with _ h;omega
  | some cs =>
  simp only at h
  unfold statesP at h
  cases hs:manyP kState staP (L.drop k1) with
  | mk o k2 =>
  rw [hs] at h
  cases o with
  | none=>injection h with _ h;omega
  | some ss =>
  unfold stepsP at h
  injection h with _ h
  omega
theorem RolOwn.zero (w:World) (base:Nat):RolOwn w base (.agg #[.string ByteArray.empty,.slice none 0 0,.slice none 0 0,.slice none 0 0]) zeroR:=⟨_,_,_,rfl,OwnE.nil _ _ _ _ _,OwnE.nil _ _ _ _ _,OwnE.nil _ _ _ _ _⟩
theorem Parse_ret {w0:World} {text:ByteArray} (hE:EnvOK w0) (hz:text.size≤90000):Ret Pg 19 #[.string text] w0 fun u w'=>(∃ v,u = .tuple #[v,.int .i64 (parseP text).2.1,.int .i64 (parseP text).2.2]∧RolOwn w' w0.heap.size v (parseP text).1)∧Ext w0 w':=by
 obtain ⟨hln,hlz⟩:=lines_small text
 refine n40s (R:=retR _) ?_;unfold n40
 simp (disch:=try exact DI) only [↓PR,QR,simprocAttr]
 have e0:Ext w0 (World.alloc w0 (.cells #[.string ByteArray.empty,.slice none 0 0,.slice none 0 0,.slice none 0 0] TRol)):=(Ext.refl w0).alloc _
 have ho:=heap_new w0 #[.string ByteArray.empty,.slice none 0 0,.slice none 0 0,.slice none 0 0] TRol
 have s0:(World.alloc w0 (.cells #[.string ByteArray.empty,.slice none 0 0,.slice none 0 0,.slice none 0 0] TRol)).heap.size=w0.heap.size+1:=World.size_alloc ..
 generalize World.alloc w0 _=V at e0 ho s0 ⊢
 generalize hc:w0.heap.size=c at ho s0 ⊢
 refine callK_ret (read_ret (c:=c) (caps := #[.pointer (some ⟨c,0,none⟩)]) (Φ:=fun w2 at_=>∃ r,roleP (linesT text)=(some r,at_)∧RolObj w2 c (V.heap.size+1) r) (Ψ:=fun w2 n=>roleP (linesT text)=(none,n)∧∃ x0 x1 x2 x3,w2.heap[c]?=some (.cells #[x0,x1,x2,x3] TRol (0,0))) (hE.ext e0) hz c51 (by omega) fun w1 p lv B eV h1 h2 hr hB hcB hl=>ParseS1_all (hE.ext e0) eV (by omega) hz h2 hr hB hl (by omega) (by omega) (eV.obj ho)) ?_
 rintro t10 w' ⟨w2,hs,hbl,hsz,⟨ho1,ho2,ho3⟩,hcase⟩
 have hcw:w0.heap.size≤c:=Nat.le_of_eq hc
 have e':Ext w0 w':=⟨ho1.trans e0.os,ho2.trans e0.tape,ho3.trans e0.output,by have:=hs.size;omega,fun b hb=>(hbl b (by omega) (by omega)).trans (e0.block b hb)⟩
 have hcs:w'.heap[c]?=w2.heap[c]?:=hs.block c (by omega) (by omega)
 have bad:∀ (n:Nat) (x0 x1 x2 x3:Value),0 < n→parseP text=(zeroR,(n:Int),6)→w'.heap[c]?=some (.cells #[x0,x1,x2,x3] TRol (0,0))→n40c5 (.pointer (some ⟨c,0,none⟩)) (.int .i64 (n:Int)) (retR fun u w'=>(∃ v,u = .tuple #[v,.int .i64 (parseP text).2.1,.int .i64 (parseP text).2.2]∧RolOwn w' c v (parseP text).1)∧Ext w0 w') w':=by
  intro n x0 x1 x2 x3 hn hpp hob
  have d1:decide ((n:Int) > 0)=true:=decide_eq_true (by omega)
  unfold n40c5
  simp (disch:=try exact DI) only [↓PR,QR,simprocAttr,d1,↓n40c4,(cells_of_heap hob).1,(cells_of_heap hob).2]
  refine ⟨⟨_,by rw [hpp],by rw [hpp];exact RolOwn.zero _ _⟩,?_⟩
  exact (((e'.setCell (p:=⟨c,0,none⟩) hcw _).setCell (p:=⟨c,1,none⟩) hcw _).setCell (p:=⟨c,2,none⟩) hcw _).setCell (p:=⟨c,3,none⟩) hcw _
 rcases hcase with ⟨at_,⟨r,hrp,hob⟩,hat,rfl⟩ | ⟨n,⟨hrp,x0,x1,x2,x3,hob⟩,rfl⟩
 · rw [← linesT_len] at hat ⊢
   obtain ⟨hread,lc,ls,lt,hn1,_⟩:=roleP_read hrp
   by_cases hlt:at_ < (linesT text).length
   · rw [if_pos hlt]
     obtain ⟨sv,cv,tv,hob,_⟩:=hob
     exact bad (at_+1) _ _ _ _ (by omega) (by unfold parseP;rw [hrp];simp only;rw [if_pos hlt]) (hcs.trans hob)
   · rw [if_neg hlt]
     have hpp:parseP text=if (checkR r).2=0 then (r,0,0) else (zeroR,0,(checkR r).2):=by unfold parseP;rw [hrp];simp only;rw [if_neg hlt]
     have hob:=(hob.keep hcs fun b hb hb2=>hs.block b hb2 (by omega))
     obtain ⟨sv,cv,tv,hob,h1,h2,h3⟩:=hob
     have f1:=own_one h1 (fun _=>rfl)
     have f2:=own_one h2 (fun _=>rfl)
     have f3:=own_one h3 (fun _=>rfl)
     have hll:=linesT_len text
     unfold n40c5
     simp (disch:=try exact DI) only [↓PR,QR,simprocAttr,(cells_of_heap hob).1]
     refine zcr (Check_ret w' _ r (RolOwn.val ⟨sv,cv,tv,rfl,h1,h2,h3⟩) hread.sm ⟨by omega,by omega,by omega⟩) fun w3 e3=>?_
     have hob3:=e3.obj hob
     have E3:=e'.trans e3
     by_cases hc0:(checkR r).2=0
     · have d1:((checkR r).2 != 0)=false:=by simp [hc0]
       rw [if_pos hc0] at hpp
       simp (disch:=try exact DI) only [↓PR,QR,simprocAttr,↓n40c3,d1,↓n40c2,(cells_of_heap hob3).1,(cells_of_heap hob3).2]
       have hb5:∀ b,b≠c→((((w3.setCell ⟨c,0,none⟩ (.string r.name)).setCell ⟨c,1,none⟩ sv).setCell ⟨c,2,none⟩ cv).setCell ⟨c,3,none⟩ tv).heap[b]?=w3.heap[b]?:=fun b hb=>by simp only [Only.setCell _ c _ _ b hb]
       refine ⟨⟨_,by rw [hpp],?_⟩,?_⟩
       · rw [hpp]
         refine ⟨sv,cv,tv,rfl,(OwnE.keep (h1.ext e3) fun b hb=>hb5 b ?_).base (by omega),(OwnE.keep (h2.ext e3) fun b hb=>hb5 b ?_).base (by omega),(OwnE.keep (h3.ext e3) fun b hb=>hb5 b ?_).base (by omega)⟩
         · have:=(World.ownsRow.lt h1 b hb).1;omega
         · have:=(World.ownsRow.lt h2 b hb).1;omega
         · have:=(World.ownsRow.lt h3 b hb).1;omega
       · exact (((E3.setCell (p:=⟨c,0,none⟩) hcw _).setCell (p:=⟨c,1,none⟩) hcw _).setCell (p:=⟨c,2,none⟩) hcw _).setCell (p:=⟨c,3,none⟩) hcw _
     · have d1:((checkR r).2 != 0)=true:=by simp [hc0]
       rw [if_neg hc0] at hpp
       simp (disch:=try exact DI) only [↓PR,QR,simprocAttr,↓n40c3,d1,↓n40c1,(cells_of_heap hob3).1,(cells_of_heap hob3).2]
       refine ⟨⟨_,by rw [hpp],by rw [hpp];exact RolOwn.zero _ _⟩,?_⟩
       exact (((E3.setCell (p:=⟨c,0,none⟩) hcw _).setCell (p:=⟨c,1,none⟩) hcw _).setCell (p:=⟨c,2,none⟩) hcw _).setCell (p:=⟨c,3,none⟩) hcw _
 · have hn:0 < n:=roleP_pos hrp
   exact bad n _ _ _ _ hn (by unfold parseP;rw [hrp]) (hcs.trans hob)
theorem one_Counter (x:CntD):∀ u∈cntCells x,u.oneCell'=true:=by
 intro u hu
 simp only [List.mem_cons,List.not_mem_nil,or_false] at hu
 rcases hu with rfl | rfl<;>rfl
theorem Clone_Counter_ret (w0:World) (v:Value) (l:List CntD) (hs:SliceOf w0 2 ECnt v l) (hb:l.length≤1048576) :
 Ret Pg 55 #[v] w0 fun r w'=>OwnE w' w0.heap.size 52 2 cntCells r l∧Ext w0 w':=by
 obtain ⟨A,c,rfl,hlc,hcm,hlm,hel⟩:=SliceOf.open hs
 refine n74s (R:=retR _) ?_;unfold n74
 simp (disch:=try exact DI) only [↓PR,QR,simprocAttr]
 cases A with
 | none =>
  have:l=[]:=by
   cases l with
   | nil=>rfl
   | cons x l=>obtain ⟨_,_,_,h,_⟩:=hel 0 x rfl;cases h
  subst this
  simp only [Option.isNone_none]
  simp (disch:=try exact DI) only [↓PR,QR,simprocAttr]
  exact ⟨OwnE.nil _ _ _ _ _,ee⟩
 | some a =>
  simp only [Option.isNone_some]
  simp (disch:=try exact DI) only [↓PR,QR,simprocAttr]
  have hO:=OwnE.new w0 52 2 cntCells [] (fun x=>rfl) (by simp)
  simp only [List.flatMap_nil,List.length_nil] at hO
  have eW:Ext w0 (w0.alloc (.cells #[] 52)):=ee
  have hsz:w0.heap.size≤(w0.alloc (.cells #[] 52)).heap.size:=eW.size
  generalize w0.alloc (.cells #[] 52)=W at hO eW hsz ⊢
  cases hcs:l with
  | nil =>
   subst hcs
   simp only [List.length_nil]
   rw [op_append0 Tryz.underlying23 ty52 _ _ _ _ _ (Nat.le_refl 0)]
   simp (disch:=try exact DI) only [↓PR,QR,simprocAttr]
   exact ⟨hO,eW⟩
  | cons x0 l0 =>
   obtain ⟨b,o,_,hA,_⟩:=hel 0 x0 (by rw [hcs];rfl)
   injection hA with hA
   subst hA
   rw [← hcs]
   refine op_appendE Tryz.underlying23 ty52 rfl (by decide) (fun x=>rfl) (fun x _=>one_Counter x) hO (fun j x hx=>?_) hsz ?_ (by simp;omega) ?_
   · obtain ⟨b',o',cs,hA',hl',hE,rfl⟩:=hel j x hx
     injection hA' with hA'
     injection hA' with h3 h4
     subst h3 h4
     exact hE.ext eW
   · have:=by52
     rw [List.length_nil,Nat.zero_add]
     exact Nat.le_trans (Nat.mul_le_mul hb this) (by decide)
   · intro v' w' ho hg
     simp (disch:=try exact DI) only [↓PR,QR,simprocAttr]
     refine ⟨ho,eW.grown hg ?_⟩
     intro k hk
     have h:=hO.lt k hk
     exact h.1
theorem one_State (x:StaD):∀ u∈staCells x,u.oneCell'=true:=by
 intro u hu
 simp only [List.mem_cons,List.not_mem_nil,or_false] at hu
 rcases hu with rfl | rfl | rfl<;>rfl
theorem Clone_State_ret (w0:World) (v:Value) (l:List StaD) (hs:SliceOf w0 3 ESta v l) (hb:l.length≤1048576) :
 Ret Pg 56 #[v] w0 fun r w'=>OwnE w' w0.heap.size 50 3 staCells r l∧Ext w0 w':=by
 obtain ⟨A,c,rfl,hlc,hcm,hlm,hel⟩:=SliceOf.open hs
 refine n75s (R:=retR _) ?_;unfold n75
 simp (disch:=try exact DI) only [↓PR,QR,simprocAttr]
 cases A with
 | none =>
  have:l=[]:=by
   cases l with
   | nil=>rfl
   | cons x l=>obtain ⟨_,_,_,h,_⟩:=hel 0 x rfl;cases h
  subst this
  simp only [Option.isNone_none]
  simp (disch:=try exact DI) only [↓PR,QR,simprocAttr]
  exact ⟨OwnE.nil _ _ _ _ _,ee⟩
 | some a =>
  simp only [Option.isNone_some]
  simp (disch:=try exact DI) only [↓PR,QR,simprocAttr]
  have hO:=OwnE.new w0 50 3 staCells [] (fun x=>rfl) (by simp)
  simp only [List.flatMap_nil,List.length_nil] at hO
  have eW:Ext w0 (w0.alloc (.cells #[] 50)):=ee
  have hsz:w0.heap.size≤(w0.alloc (.cells #[] 50)).heap.size:=eW.size
  generalize w0.alloc (.cells #[] 50)=W at hO eW hsz ⊢
  cases hcs:l with
  | nil =>
   subst hcs
   simp only [List.length_nil]
   rw [op_append0 Tryz.underlying22 ty50 _ _ _ _ _ (Nat.le_refl 0)]
   simp (disch:=try exact DI) only [↓PR,QR,simprocAttr]
   exact ⟨hO,eW⟩
  | cons x0 l0 =>
   obtain ⟨b,o,_,hA,_⟩:=hel 0 x0 (by rw [hcs];rfl)
   injection hA with hA
   subst hA
   rw [← hcs]
   refine op_appendE Tryz.underlying22 ty50 rfl (by decide) (fun x=>rfl) (fun x _=>one_State x) hO (fun j x hx=>?_) hsz ?_ (by simp;omega) ?_
   · obtain ⟨b',o',cs,hA',hl',hE,rfl⟩:=hel j x hx
     injection hA' with hA'
     injection hA' with h3 h4
     subst h3 h4
     exact hE.ext eW
   · have:=by50
     rw [List.length_nil,Nat.zero_add]
     exact Nat.le_trans (Nat.mul_le_mul hb this) (by decide)
   · intro v' w' ho hg
     simp (disch:=try exact DI) only [↓PR,QR,simprocAttr]
     refine ⟨ho,eW.grown hg ?_⟩
     intro k hk
     have h:=hO.lt k hk
     exact h.1
theorem one_Step (x:StpD):∀ u∈stpCells x,u.oneCell'=true:=by
 intro u hu
 simp only [List.mem_cons,List.not_mem_nil,or_false] at hu
 rcases hu with rfl | rfl | rfl | rfl | rfl | rfl | rfl | rfl | rfl<;>rfl
theorem OwnE.setE {α:Type} {w:World} {lo n g cap len:Nat} {T:TypeId} {enc:α→List Value} {l:List α} (hn:∀ x,(enc x).length=n) (h:OwnE w lo T n enc (.slice (some ⟨g,0,none⟩) len cap) l) {k:Nat} {x y:α} (hk:l[k]?=some x) {j:Nat} (hj:j < n) (u:Value) (hy:enc y=(enc x).set j u) :
 OwnE (w.setCell ⟨g,k*n+j,none⟩ u) lo T n enc (.slice (some ⟨g,0,none⟩) len cap) (l.set k y):=by
 have key:∀ m:List α,OwnE w lo T n (Subtype.val:Cs n→List Value) (.slice (some ⟨g,0,none⟩) len cap) (m.map fun x=>⟨enc x,hn x⟩)↔OwnE w lo T n enc (.slice (some ⟨g,0,none⟩) len cap) m:=fun m=>by
  unfold OwnE
  rw [List.length_map,List.flatMap_map]
 have h1:=OwnE.set ((key l).2 h) (k:=k) (cs:=⟨enc x,hn x⟩) (by rw [List.getElem?_map,hk];rfl) hj u
 have h2:((l.map fun x=>(⟨enc x,hn x⟩:Cs n)).set k ⟨(enc x).set j u,by simp [hn x]⟩)=(l.set k y).map fun x=>⟨enc x,hn x⟩:=by
  rw [List.map_set]
  congr 1
  exact Subtype.ext hy.symm
 rw [h2] at h1
 have key':∀ (w:World) (m:List α),OwnE w lo T n (Subtype.val:Cs n→List Value) (.slice (some ⟨g,0,none⟩) len cap) (m.map fun x=>⟨enc x,hn x⟩)↔OwnE w lo T n enc (.slice (some ⟨g,0,none⟩) len cap) m:=fun w m=>by
  unfold OwnE
  rw [List.length_map,List.flatMap_map]
 exact (key' _ _).1 h1
def n46c1 (t8 t11:Value) (K8:World→Prop) (R:RT) (w:World):Prop :=
 opV Pg (Instr.fieldAt 26 t8 3) (panK R) w fun t83 w =>
 opV Pg (Instr.loadAt 24 t83) (panK R) w fun t84 w =>
 opV Pg (Instr.loadAt 71 t11) (panK R) w fun t85 w =>
 opV Pg (Instr.buildSlice 24 1 #[(0,t85)]) (panK R) w fun t86 w =>
 opV Pg (Builtin.append_ #[24,24] 24 #[t84,t86]) (panK R) w fun t87 w =>
 opV Pg (Instr.fieldAt 26 t8 3) (panK R) w fun t88 w =>
 opU Pg (Instr.storeAt 24 t88 t87) (panK R) w fun w =>
 K8 w
def n46c2 (t8 t11 t54 t81:Value) (next5:KV) (R:RT) (w:World):Prop :=
 opV Pg (Op.unary .not t81) (panK R) w fun t82 w =>
 joinK (fun (w:World) =>
 opV Pg (binS .add 3 true t54 (.int .i64 1)) (panK R) w fun t89 w =>
 next5 t89 w) fun K8 =>
 condP t82 (
 n46c1 t8 t11 K8 R w) (
 K8 w)
def n46c3 (t8 t11 t54:Value) (next5:KV) (R:RT) (w:World):Prop :=
 opV Pg (Instr.fieldAt 26 t8 3) (panK R) w fun t78 w =>
 opV Pg (Instr.loadAt 24 t78) (panK R) w fun t79 w =>
 opV Pg (Instr.loadAt 71 t11) (panK R) w fun t80 w =>
 callK Pg 57 #[t79,t80] (panK R) w fun t81 w =>
 n46c2 t8 t11 t54 t81 next5 R w
def n46c4 (t11 t70 t72 t73:Value) (C9:World→Prop) (K10:World→Prop) (R:RT) (w:World):Prop :=
 opU Pg (Instr.storeAt 69 t73 t70) (panK R) w fun w =>
 C9 w∧(
 qV Pg C9 (Instr.fieldAt 71 t11 4) fun t74 =>
 opU Pg (Instr.storeAt 9 t74 t72) (panK R) w fun w =>
 turnK w fun C11 w =>
 K10 w)
def n46c5 (t11 t71:Value) (C9:World→Prop) (K10:World→Prop) (R:RT) (w:World):Prop :=
 opV Pg (Instr.loadAt 9 t71) (panK R) w fun t72 w =>
 C9 w∧(
 qV Pg C9 (Instr.fieldAt 71 t11 4) fun t74 =>
 opU Pg (Instr.storeAt 9 t74 t72) (panK R) w fun w =>
 turnK w fun C12 w =>
 K10 w)
def n46c6 (t11 t69 t71:Value) (C9:World→Prop) (K10:World→Prop) (R:RT) (w:World):Prop :=
 qV Pg C9 (binS .sub 69 true (.int .i64 3) t69) fun t70 =>
 qV Pg C9 (Instr.fieldAt 71 t11 2) fun t73 =>
 (
 opV Pg (Instr.loadAt 9 t71) (panK R) w fun t72 w =>
 C9 w∧(
 n46c4 t11 t70 t72 t73 C9 K10 R w))∧(
 opU Pg (Instr.storeAt 69 t73 t70) (panK R) w fun w =>
 C9 w∧(
 n46c5 t11 t71 C9 K10 R w))
def n46c7 (t11 t69 t72:Value) (C9:World→Prop) (K10:World→Prop) (R:RT) (w:World):Prop :=
 qV Pg C9 (binS .sub 69 true (.int .i64 3) t69) fun t70 =>
 qV Pg C9 (Instr.fieldAt 71 t11 2) fun t73 =>
 opU Pg (Instr.storeAt 69 t73 t70) (panK R) w fun w =>
 C9 w∧(
 qV Pg C9 (Instr.fieldAt 71 t11 4) fun t74 =>
 opU Pg (Instr.storeAt 9 t74 t72) (panK R) w fun w =>
 turnK w fun C13 w =>
 K10 w)
def n46c8 (t2 t11:Value) (C9:World→Prop) (K7:World→Prop) (R:RT) (w:World):Prop :=
 qV Pg C9 (Instr.fieldAt 71 t11 2) fun t68 =>
 qV Pg C9 (Instr.fieldAt 26 t2 0) fun t71 =>
 joinK (fun (w:World) =>
 K7 w) fun K10 =>
 (
 opV Pg (Instr.loadAt 69 t68) (panK R) w fun t69 w =>
 C9 w∧(
 n46c6 t11 t69 t71 C9 K10 R w))∧(
 opV Pg (Instr.loadAt 9 t71) (panK R) w fun t72 w =>
 C9 w∧(
 opV Pg (Instr.loadAt 69 t68) (panK R) w fun t69 w =>
 C9 w∧(
 n46c7 t11 t69 t72 C9 K10 R w)))
def n46c9 (t4:Value) (R:RT) (w:World):Prop :=
 opV Pg (Instr.build 26 #[]) (panK R) w fun t67 w =>
 opU Pg (Instr.storeAt 26 t4 t67) (panK R) w fun w =>
 qW Pg 26 t4 w fun r0 =>
 R (.returned (.tuple #[r0,(.int .i64 2)])) w
def n46c10 (t1 t2 t4 t11:Value) (K7:World→Prop) (R:RT) (w:World):Prop :=
 opV Pg (Instr.fieldAt 71 t11 4) (panK R) w fun t63 w =>
 opV Pg (Instr.loadAt 9 t63) (panK R) w fun t64 w =>
 opV Pg (binS .neq 9 false t64 t1) (panK R) w fun t66 w =>
 condP t66 (
 n46c9 t4 R w) (
 drawK w fun C9 w =>
 n46c8 t2 t11 C9 K7 R w)
def n46c11 (t11 t59:Value) (K7:World→Prop) (R:RT) (w:World):Prop :=
 opV Pg (binS .eql 69 true t59 (.int .i64 3)) (panK R) w fun t76 w =>
 condP t76 (
 opV Pg (Instr.fieldAt 71 t11 2) (panK R) w fun t77 w =>
 opU Pg (Instr.storeAt 69 t77 (.int .i64 4)) (panK R) w fun w =>
 K7 w) (
 K7 w)
def n46c12 (t4 t8:Value) (R:RT) (w:World):Prop :=
 opV Pg (Instr.loadAt 26 t8) (panK R) w fun t90 w =>
 opU Pg (Instr.storeAt 26 t4 t90) (panK R) w fun w =>
 qW Pg 26 t4 w fun r0 =>
 R (.returned (.tuple #[r0,(.int .i64 0)])) w
def n46c13 (t1 t2 t4 t8 t52 t54:Value) (next5:KV) (R:RT) (w:World):Prop :=
 opV Pg (Instr.indexAt 24 t52 t54) (panK R) w fun t56 w =>
 opV Pg (Instr.loadAt 71 t56) (panK R) w fun t57 w =>
 opV Pg (Instr.alloc 71 true (.tuple #[])) (panK R) w fun t11 w =>
 opU Pg (Instr.storeAt 71 t11 t57) (panK R) w fun w =>
 opV Pg (Instr.fieldAt 71 t11 2) (panK R) w fun t58 w =>
 opV Pg (Instr.loadAt 69 t58) (panK R) w fun t59 w =>
 opV Pg (binS .eql 69 true t59 (.int .i64 1)) (panK R) w fun t61 w =>
 joinK (fun (t60:Value) (w:World) =>
 joinK (fun (w:World) =>
 n46c3 t8 t11 t54 next5 R w) fun K7 =>
 condP t60 (
 n46c10 t1 t2 t4 t11 K7 R w) (
 n46c11 t11 t59 K7 R w)) fun K6 =>
 condP t61 (
 K6 t61 w) (
 opV Pg (binS .eql 69 true t59 (.int .i64 2)) (panK R) w fun t62 w =>
 K6 t62 w)
def n46c14 (t1 t2 t4 t8:Value) (R:RT) (w:World):Prop :=
 opV Pg (Instr.fieldAt 26 t2 3) (panK R) w fun t51 w =>
 opV Pg (Instr.loadAt 24 t51) (panK R) w fun t52 w =>
 opV Pg (Builtin.len_ #[24] 3 #[t52]) (panK R) w fun t53 w =>
 loop1 (fun t54 w next5 =>
 opV Pg (binS .lss 3 false t54 t53) (panK R) w fun t55 w =>
 condP t55 (
 n46c13 t1 t2 t4 t8 t52 t54 next5 R w) (
 n46c12 t4 t8 R w)) (.int .i64 0) w
def n46c15 (t8 t42:Value) (next4:KV) (R:RT) (w:World):Prop :=
 opV Pg (Instr.fieldAt 26 t8 1) (panK R) w fun t45 w =>
 opV Pg (Instr.loadAt 22 t45) (panK R) w fun t46 w =>
 opV Pg (Instr.indexAt 22 t46 t42) (panK R) w fun t48 w =>
 opV Pg (Instr.fieldAt 50 t48 2) (panK R) w fun t49 w =>
 opU Pg (Instr.storeAt 3 t49 (.int .i64 0)) (panK R) w fun w =>
 opV Pg (binS .add 3 true t42 (.int .i64 1)) (panK R) w fun t50 w =>
 next4 t50 w
def n46c16 (t1 t2 t4 t8:Value) (R:RT) (w:World):Prop :=
 opV Pg (Instr.fieldAt 26 t8 1) (panK R) w fun t39 w =>
 opV Pg (Instr.loadAt 22 t39) (panK R) w fun t40 w =>
 opV Pg (Builtin.len_ #[22] 3 #[t40]) (panK R) w fun t41 w =>
 loop1 (fun t42 w next4 =>
 opV Pg (binS .lss 3 false t42 t41) (panK R) w fun t43 w =>
 condP t43 (
 n46c15 t8 t42 next4 R w) (
 n46c14 t1 t2 t4 t8 R w)) (.int .i64 0) w
def n46c17 (t1 t34 t37:Value) (C2:World→Prop) (K3:KV) (R:RT) (w:World):Prop :=
 qV Pg C2 (Instr.build 26 #[(0,t1),(2,t34),(1,t37)]) fun t38 =>
 opV Pg (Instr.alloc 26 true (.tuple #[])) (panK R) w fun t8 w =>
 C2 w∧(
 opU Pg (Instr.storeAt 26 t8 t38) (panK R) w fun w =>
 turnK w fun C14 w =>
 K3 t8 w)
def n46c18 (t1 t8 t34 t36:Value) (C2:World→Prop) (K3:KV) (R:RT) (w:World):Prop :=
 callK Pg 56 #[t36] (panK R) w fun t37 w =>
 C2 w∧(
 qV Pg C2 (Instr.build 26 #[(0,t1),(2,t34),(1,t37)]) fun t38 =>
 opU Pg (Instr.storeAt 26 t8 t38) (panK R) w fun w =>
 turnK w fun C15 w =>
 K3 t8 w)
def n46c19 (t1 t34 t36:Value) (C2:World→Prop) (K3:KV) (R:RT) (w:World):Prop :=
 (
 callK Pg 56 #[t36] (panK R) w fun t37 w =>
 C2 w∧(
 n46c17 t1 t34 t37 C2 K3 R w))∧(
 opV Pg (Instr.alloc 26 true (.tuple #[])) (panK R) w fun t8 w =>
 C2 w∧(
 n46c18 t1 t8 t34 t36 C2 K3 R w))
def n46c20 (t1 t8 t34 t36:Value) (C2:World→Prop) (K3:KV) (R:RT) (w:World):Prop :=
 callK Pg 56 #[t36] (panK R) w fun t37 w =>
 C2 w∧(
 qV Pg C2 (Instr.build 26 #[(0,t1),(2,t34),(1,t37)]) fun t38 =>
 opU Pg (Instr.storeAt 26 t8 t38) (panK R) w fun w =>
 turnK w fun C16 w =>
 K3 t8 w)
def n46c21 (t1 t2 t4:Value) (C2:World→Prop) (R:RT) (w:World):Prop :=
 qV Pg C2 (Instr.fieldAt 26 t2 2) fun t32 =>
 qV Pg C2 (Instr.loadAt 23 t32) fun t33 =>
 qV Pg C2 (Instr.fieldAt 26 t2 1) fun t35 =>
 qV Pg C2 (Instr.loadAt 22 t35) fun t36 =>
 joinK (fun (t8:Value) (w:World) =>
 n46c16 t1 t2 t4 t8 R w) fun K3 =>
 (
 callK Pg 55 #[t33] (panK R) w fun t34 w =>
 C2 w∧(
 n46c19 t1 t34 t36 C2 K3 R w))∧(
 opV Pg (Instr.alloc 26 true (.tuple #[])) (panK R) w fun t8 w =>
 C2 w∧(
 callK Pg 55 #[t33] (panK R) w fun t34 w =>
 C2 w∧(
 n46c20 t1 t8 t34 t36 C2 K3 R w)))
def n46c22 (t4:Value) (R:RT) (w:World):Prop :=
 opV Pg (Instr.build 26 #[]) (panK R) w fun t30 w =>
 opU Pg (Instr.storeAt 26 t4 t30) (panK R) w fun w =>
 qW Pg 26 t4 w fun r0 =>
 R (.returned (.tuple #[r0,(.int .i64 2)])) w
def n46c23 (t1 t2 t4 t22:Value) (R:RT) (w:World):Prop :=
 opV Pg (Op.unary .not t22) (panK R) w fun t23 w =>
 joinK (fun (t28:Value) (w:World) =>
 pickK t23 (.bool true) t28 fun t29 =>
 condP t29 (
 n46c22 t4 R w) (
 drawK w fun C2 w =>
 n46c21 t1 t2 t4 C2 R w)) fun K1 =>
 guardP t23 false (
 opV Pg (Instr.fieldAt 26 t2 0) (panK R) w fun t26 w =>
 opV Pg (Instr.loadAt 9 t26) (panK R) w fun t27 w =>
 opV Pg (binS .eql 9 false t1 t27) (panK R) w fun t28 w =>
 K1 t28 w) (
 K1 undef w)
def n46c24 (t1 t2 t4 t14:Value) (R:RT) (w:World):Prop :=
 opV Pg (Instr.extract t14 0) (panK R) w fun t15 w =>
 opV Pg (Instr.extract t14 1) (panK R) w fun t16 w =>
 opV Pg (binS .neq 29 true t16 (.int .i64 0)) (panK R) w fun t18 w =>
 condP t18 (
 opV Pg (Instr.build 26 #[]) (panK R) w fun t19 w =>
 opU Pg (Instr.storeAt 26 t4 t19) (panK R) w fun w =>
 qW Pg 26 t4 w fun r0 =>
 R (.returned (.tuple #[r0,t16])) w) (
 callK Pg 17 #[t1] (panK R) w fun t22 w =>
 n46c23 t1 t2 t4 t22 R w)
def n46 (t0 t1:Value) (R:RT) (w:World):Prop :=
 opV Pg (Instr.box 26 t0) (panK R) w fun t2 w =>
 opV Pg (Instr.alloc 26 true (.tuple #[])) (panK R) w fun t4 w =>
 opV Pg (Instr.loadAt 26 t2) (panK R) w fun t13 w =>
 callK Pg 12 #[t13] (panK R) w fun t14 w =>
 n46c24 t1 t2 t4 t14 R w
set_option maxHeartbeats 40000000 in
theorem n46s {t0 t1:Value} {R:RT} {w:World} (h:n46 t0 t1 R w):Calls Pg 23 #[t0,t1] w R:=by
 refine yD Tryz.func23 ?_
 refine zs<|zr<|yv h fun _ w h=>yv h fun _ w h=>zm<|zn<|zk<|zs<|zs<|zr<|yv h fun _ w h=>yc h c12 fun _ w h=>zm<|yv h fun _ w h=>yv h fun _ w h=>?_
 refine zm<|zm<|zn<|zk<|zs<|zr<|zm<|yb h fun _ w h=>zn<|zk<|yC h (fun h=>zs<|zr<|yB h fun _ w h=>zm<|yu h fun w h=>zm<|zn<|zk<|sim_ret<|sim_then_ret<|body_retCT rfl rfl rfl h) fun h=>sim_skip<|zk<|zs ?_
 refine zs<|sim_regionG<|yG 4<|zm<|yc h c17 fun _ w h=>yv h fun _ w h=>zm<|zn<|yg1 4 3 false [25,26,27,28] 28 h (fun _ T hT h=>?_) fun σ w h=>?_
 · refine zm<|yv h fun _ w h=>yv h fun _ w h=>yb h fun _ w h=>zn ?_
   exact zt hT h
 refine yG 1<|yp h fun _ h=>zn<|sim_end<|zk<|yC h (fun h=>zs<|zr<|yB h fun _ w h=>yu h fun w h=>zm<|zn<|zk<|sim_ret<|sim_then_ret<|body_retCT rfl rfl rfl h) fun h=>sim_skip<|zk<|zs<|yh [8,31,32,33,34,35,36,37,38] h fun C hC h=>yw 0 hC ?_
 refine ye 1 hC h fun _ h=>?_
 refine ye 2 hC h fun _ h=>?_
 refine ye 4 hC h fun _ h=>?_
 refine ye 5 hC h fun _ h=>?_
 refine joinK_elim h (fun K3 hK h=>?_)
 refine sim_dmeet [8,34,37,38] (fun ρ w=>K3 (ρ 8) w) (fun T hT=>?_) (fun σ w h=>?_)
 · obtain ⟨h0,h1⟩:=h
   refine sim_dloud2 3 8 rfl rfl (by kernel_rfl) (fun _ _=>rfl) (fun _ _=>rfl) ?_ ?_
   · have h:=h0
     refine yc h c55 fun _ w h=>zn ?_
     obtain ⟨hC,h⟩:=h
     refine ⟨_,fun _ h=>h,hC,?_⟩
     obtain ⟨h0,h1⟩:=h
     refine sim_dloud2 6 8 rfl rfl (by kernel_rfl) (fun _ _=>rfl) (fun _ _=>rfl) ?_ ?_
     · have h:=h0
       refine yc h c56 fun _ w h=>zn ?_
       obtain ⟨hC,h⟩:=h
       refine ⟨_,fun _ h=>h,hC,?_⟩
       refine ye 7 hC h fun _ h=>?_
       refine yo 8 ?_
       refine yv h fun _ w h=>zn ?_
       obtain ⟨hC,h⟩:=h
       refine ⟨hC,?_⟩
       refine yq 9 1 ?_
       refine yu h fun w h=>zn ?_
       obtain ⟨C14,hC,h⟩:=h
       refine ⟨C14,hC,?_⟩
       refine yz ?_
       exact zt hT h
     have h:=h1
     refine yv h fun _ w h=>zn ?_
     obtain ⟨hC,h⟩:=h
     refine ⟨_,fun _ h=>h,hC,?_⟩
     refine yo 6 ?_
     refine yc h c56 fun _ w h=>zn ?_
     obtain ⟨hC,h⟩:=h
     refine ⟨hC,?_⟩
     refine ye 7 hC h fun _ h=>?_
     refine yq 9 1 ?_
     refine yu h fun w h=>zn ?_
     obtain ⟨C15,hC,h⟩:=h
     refine ⟨C15,hC,?_⟩
     refine yz ?_
     exact zt hT h
   have h:=h1
   refine yv h fun _ w h=>zn ?_
   obtain ⟨hC,h⟩:=h
   refine ⟨_,fun _ h=>h,hC,?_⟩
   refine yo 3 ?_
   refine yc h c55 fun _ w h=>zn ?_
   obtain ⟨hC,h⟩:=h
   refine ⟨hC,?_⟩
   refine yo 6 ?_
   refine yc h c56 fun _ w h=>zn ?_
   obtain ⟨hC,h⟩:=h
   refine ⟨hC,?_⟩
   refine ye 7 hC h fun _ h=>?_
   refine yq 9 1 ?_
   refine yu h fun w h=>zn ?_
   obtain ⟨C16,hC,h⟩:=h
   refine ⟨C16,hC,?_⟩
   refine yz ?_
   exact zt hT h
 subst hK
 refine zk<|zs<|zs<|zr<|yv h fun _ w h=>yv h fun _ w h=>yx h fun _ w h=>zm<|zn<|zk<|sim_block<|yl1 [9,42,43,44,45,46,47,48,49,50] 42 h fun σ w next h=>zs<|zr<|yb h fun _ w h=>?_
 refine zn<|zk<|zs<|yC h (fun h=>?_) fun h=>?_
 · refine sim_skip<|zk<|zs<|sim_block<|zs<|zr<|zm<|zm<|zn<|zk<|zr<|yv h fun _ w h=>yv h fun _ w h=>zm<|yv h fun _ w h=>?_
   exact yv h fun _ w h=>yu h fun w h=>zn<|sim_block_normal<|zk<|zr<|yb h fun _ w h=>zm<|zn<|zk<|⟨rfl,h⟩
 refine sim_exit<|sim_then_exit<|sim_then_exit<|sim_block_hit<|zk<|zs<|zs<|zr<|yv h fun _ w h=>yv h fun _ w h=>yx h fun _ w h=>zm<|zn<|zk<|sim_block ?_
 refine yl1 [5,11,54,55,56,57,58,59,60,61,62,63,64,65,66,67,68,69,70,71,72,73,74,75,76,77,78,79,80,81,82,83,84,85,86,87,88,89] 54 h fun σ w next h=>zs<|zr<|yb h fun _ w h=>zn<|zk<|zs<|yC h (fun h=>?_) fun h=>?_
 · refine sim_skip<|zk<|zs<|sim_block<|zs<|zr<|yv h fun _ w h=>yv h fun _ w h=>yv h fun _ w h=>yu h fun w h=>zn<|zk<|zs<|zs<|zr ?_
   refine yv h fun _ w h=>yv h fun _ w h=>zn<|zk<|sim_block<|zs<|zs<|zr<|yb h fun _ w h=>zm<|zn<|zk<|yJ1 [60,62] 60 h (fun _ _ hkK6 h=>?_) fun σ w h=>?_
   · refine yC h (fun h=>?_) fun h=>?_
     · refine sim_skip<|zk ?_
       exact zt hkK6 h
     refine zr<|yb h fun _ w h=>zm<|zn<|zk ?_
     exact zt hkK6 h
   refine zk<|yJ0 [5,63,64,65,66,67,68,69,70,71,72,73,74,75,76,77] h (fun _ _ hkK7 h=>?_) fun σ w h=>?_
   · refine yC h (fun h=>?_) fun h=>?_
     · refine zs<|zs<|zr<|yv h fun _ w h=>yv h fun _ w h=>zm<|yb h fun _ w h=>zn<|zk<|yC h (fun h=>?_) fun h=>?_
       · refine zs<|zr<|yB h fun _ w h=>yu h fun w h=>zm<|zn<|zk<|sim_ret<|sim_then_ret<|sim_then_ret<|sim_block_ret<|sim_then_ret<|sim_block_ret<|sim_then_ret<|sim_then_ret ?_
         exact sim_block_ret<|sim_then_ret<|body_retCT rfl rfl rfl h
       refine sim_skip<|zk<|yh [68,69,70,71,72,73,74] h fun C hC h=>ye 0 hC h fun _ h=>?_
       refine ye 3 hC h fun _ h=>?_
       refine joinK_elim h (fun K10 hK h=>?_)
       refine sim_dmeet [69,70,72,73,74] (fun ρ w=>K10 w) (fun T hT=>?_) (fun σ w h=>?_)
       · obtain ⟨h0,h1⟩:=h
         refine sim_dloud2 1 4 rfl rfl (by kernel_rfl) (fun _ _=>rfl) (fun _ _=>rfl) ?_ ?_
         · have h:=h0
           refine yv h fun _ w h=>zn ?_
           obtain ⟨hC,h⟩:=h
           refine ⟨_,fun _ h=>h,hC,?_⟩
           refine ye 2 hC h fun _ h=>?_
           refine ye 5 hC h fun _ h=>?_
           obtain ⟨h0,h1⟩:=h
           refine sim_dloud2 4 6 rfl rfl (by kernel_rfl) (fun _ _=>rfl) (fun _ _=>rfl) ?_ ?_
           · have h:=h0
             refine yv h fun _ w h=>zn ?_
             obtain ⟨hC,h⟩:=h
             refine ⟨_,fun _ h=>h,hC,?_⟩
             refine yo 6 ?_
             refine yu h fun w h=>zn ?_
             obtain ⟨hC,h⟩:=h
             refine ⟨hC,?_⟩
             refine ye 7 hC h fun _ h=>?_
             refine yq 8 1 ?_
             refine yu h fun w h=>zn ?_
             obtain ⟨C11,hC,h⟩:=h
             refine ⟨C11,hC,?_⟩
             refine yz ?_
             exact zt hT h
           have h:=h1
           refine yu h fun w h=>zn ?_
           obtain ⟨hC,h⟩:=h
           refine ⟨_,fun _ h=>h,hC,?_⟩
           refine yo 4 ?_
           refine yv h fun _ w h=>zn ?_
           obtain ⟨hC,h⟩:=h
           refine ⟨hC,?_⟩
           refine ye 7 hC h fun _ h=>?_
           refine yq 8 1 ?_
           refine yu h fun w h=>zn ?_
           obtain ⟨C12,hC,h⟩:=h
           refine ⟨C12,hC,?_⟩
           refine yz ?_
           exact zt hT h
         have h:=h1
         refine yv h fun _ w h=>zn ?_
         obtain ⟨hC,h⟩:=h
         refine ⟨_,fun _ h=>h,hC,?_⟩
         refine yo 1 ?_
         refine yv h fun _ w h=>zn ?_
         obtain ⟨hC,h⟩:=h
         refine ⟨hC,?_⟩
         refine ye 2 hC h fun _ h=>?_
         refine ye 5 hC h fun _ h=>?_
         refine yo 6 ?_
         refine yu h fun w h=>zn ?_
         obtain ⟨hC,h⟩:=h
         refine ⟨hC,?_⟩
         refine ye 7 hC h fun _ h=>?_
         refine yq 8 1 ?_
         refine yu h fun w h=>zn ?_
         obtain ⟨C13,hC,h⟩:=h
         refine ⟨C13,hC,?_⟩
         refine yz ?_
         exact zt hT h
       subst hK
       refine zk ?_
       exact zt hkK7 h
     refine zs<|zr<|yb h fun _ w h=>zm<|zn<|zk<|yC h (fun h=>?_) fun h=>?_
     · refine zr<|yv h fun _ w h=>yu h fun w h=>zn<|zk ?_
       exact zt hkK7 h
     refine sim_skip<|zk ?_
     exact zt hkK7 h
   refine sim_block_normal<|zk<|zs<|zr<|yv h fun _ w h=>yv h fun _ w h=>yv h fun _ w h=>yc h c57 fun _ w h=>yv h fun _ w h=>zn<|zk<|yJ0 [83,84,85,86,87,88] h (fun _ _ hkK8 h=>?_) fun σ w h=>?_
   · refine yC h (fun h=>?_) fun h=>?_
     · refine zr<|yv h fun _ w h=>yv h fun _ w h=>yv h fun _ w h=>yS h fun _ w h=>yx h fun _ w h=>yv h fun _ w h=>yu h fun w h=>zn<|zk ?_
       exact zt hkK8 h
     refine sim_skip<|zk ?_
     exact zt hkK8 h
   exact sim_block_normal<|zk<|zr<|yb h fun _ w h=>zm<|zn<|zk<|⟨rfl,h⟩
 exact sim_exit<|sim_then_exit<|sim_then_exit<|sim_block_hit<|zk<|zs<|zr<|yv h fun _ w h=>yu h fun w h=>zm<|zn<|zk<|sim_ret<|body_retCT rfl rfl rfl h
def flipS (nm:ByteArray) (s:StpD):StpD:=if speaksB s.kind then { s with kind:=3 - s.kind,peer:=nm } else if s.kind=3 then { s with kind:=4 } else s
def addS (l:List StpD) (x:StpD):List StpD:=if l.any (fun y=>decide (x=y)) then l else l++[x]
def turnL (nm peer:ByteArray):List StpD→List StpD→Option (List StpD)
 | acc,[]=>some acc
 | acc,s::l=>if speaksB s.kind&&decide (s.peer≠peer) then none else turnL nm peer (addS acc (flipS nm s)) l
def still (x:StaD):StaD:={ x with wait:=0 }
def turnP (r:RolD) (peer:ByteArray):RolD×Int:=if (checkR r).2=0 then (if nameB peer&&decide (peer≠r.name) then (match turnL r.name peer [] r.steps with
 | none=>(zeroR,2)
 | some l=>(⟨peer,r.states.map still,r.counters,l⟩,0)) else (zeroR,2)) else (zeroR,(checkR r).2)
section
variable {w0 A W:World} {p2 p4 q:Nat} {r:RolD} {sv cv tv sv' cv':Value} {peer:ByteArray} {v:Value}
abbrev TurR (w0:World) (r:RolD) (peer:ByteArray):Ending→World→Prop:=retR fun u w'=>(∃ x,u = .tuple #[x,.int .i64 (turnP r peer).2]∧RolOwn w' w0.heap.size x (turnP r peer).1)∧Ext w0 w'
theorem four_ext {a w:World} {p:Nat} (e:Ext a w) (hp:a.heap.size≤p) (v0 v1 v2 v3:Value):Ext a ((((w.setCell ⟨p,0,none⟩ v0).setCell ⟨p,1,none⟩ v1).setCell ⟨p,2,none⟩ v2).setCell ⟨p,3,none⟩ v3):=(((e.setCell (p:=⟨p,0,none⟩) hp _).setCell (p:=⟨p,1,none⟩) hp _).setCell (p:=⟨p,2,none⟩) hp _).setCell (p:=⟨p,3,none⟩) hp _
theorem four_only (w:World) (p:Nat) (v0 v1 v2 v3:Value) {b:Nat} (hb:b≠p):((((w.setCell ⟨p,0,none⟩ v0).setCell ⟨p,1,none⟩ v1).setCell ⟨p,2,none⟩ v2).setCell ⟨p,3,none⟩ v3).heap[b]?=w.heap[b]?:=by simp only [Only.setCell _ p _ _ b hb]
theorem four_obj {w:World} {p:Nat} {T:TypeId} {u0 u1 u2 u3:Value} (h:w.heap[p]?=some (.cells #[u0,u1,u2,u3] T (0,0))) (v0 v1 v2 v3:Value):((((w.setCell ⟨p,0,none⟩ v0).setCell ⟨p,1,none⟩ v1).setCell ⟨p,2,none⟩ v2).setCell ⟨p,3,none⟩ v3).heap[p]?=some (.cells #[v0,v1,v2,v3] T (0,0)):=by simpa using heap_set (o:=3) (heap_set (o:=2) (heap_set (o:=1) (heap_set (o:=0) h v0) v1) v2) v3
theorem turn_steps (hA:Ext w0 A) (hp2:A.heap[p2]?=some (.cells (rolCells r sv cv tv).toArray TRol (0,0))) (hp4:A.heap[p4]?=some (.cells #[.string ByteArray.empty,.slice none 0 0,.slice none 0 0,.slice none 0 0] TRol (0,0))) (h4:w0.heap.size≤p4) (hT:StpsOf A tv r.steps) (hl:r.steps.length≤100000)
 (hc0:(checkR r).2=0) (hpe:(nameB peer&&decide (peer≠r.name))=true) (eW:Ext A W) (hq:W.heap[q]?=some (.cells #[.string peer,sv',cv',.slice none 0 0] TRol (0,0))) (hqA:A.heap.size≤q) (hS:OwnE W A.heap.size 50 3 staCells sv' (r.states.map still)) (hC:OwnE W A.heap.size 52 2 cntCells cv' r.counters)
 (hSq:∀ b,sv'.ownBlock=some b→b≠q) (hCq:∀ b,cv'.ownBlock=some b→b≠q) :
 n46c14 (.string peer) (.pointer (some ⟨p2,0,none⟩)) (.pointer (some ⟨p4,0,none⟩)) (.pointer (some ⟨q,0,none⟩)) (TurR w0 r peer) W:=by
 have hp4A:p4 < A.heap.size:=(Array.getElem?_eq_some_iff.1 hp4).1
 have hqW:q < W.heap.size:=(Array.getElem?_eq_some_iff.1 hq).1
 have zA:=hA.size
 have zW:=eW.size
 have hT0:=hT
 obtain ⟨TA,tc,rfl,_,_,_,hel⟩:=SliceOf.open hT
 have ocs:=own_one hS (fun _=>rfl)
 have occ:=own_one hC (fun _=>rfl)
 unfold n46c14
 simp (disch:=try exact DI) only [↓PR,QR,simprocAttr,(cells_of_heap (eW.obj hp2)).1]
 refine loop1_intro (fun a w=>∃ (k:Nat) (acc:List StpD) (vv:Value),a = .int .i64 k∧k≤r.steps.length∧Ext A w∧W.heap.size≤w.heap.size∧(∀ b,b < W.heap.size→b≠q→w.heap[b]?=W.heap[b]?)∧w.heap[q]?=some (.cells #[.string peer,sv',cv',vv] TRol (0,0))∧OwnE w W.heap.size 71 9 stpCells vv acc∧acc.length≤k∧turnL r.name peer [] r.steps=turnL r.name peer acc (r.steps.drop k)) (fun a _=>r.steps.length - (intOf a).toNat) ⟨0,[],_,rfl,by omega,eW,Nat.le_refl _,fun _ _ _=>rfl,hq,OwnE.nil _ _ _ _ _,by simp,rfl⟩ ?_
 rintro _ w ⟨k,acc,vv,rfl,hk,e,hz,hkp,hqw,hO,hal,htl⟩
 have ocv:=own_one hO (fun _=>rfl)
 by_cases hlt:k < r.steps.length
 · obtain ⟨x,hx⟩:=getElem?_lt hlt
   obtain ⟨b,o,cs,rfl,_,hE,rfl⟩:=hel k x hx
   have dk:(k:Int) < (r.steps.length:Int):=by omega
   have d1:decide ((k:Int) < (r.steps.length:Int))=true:=decide_eq_true dk
   have hw:IntKind.i64.wrap ((k:Int)+1)=((k+1:Nat):Int):=by rw [wrap_ok (by omega) (by omega)];omega
   rw [List.drop_eq_getElem_cons hlt] at htl
   have hxg:r.steps[k]=x:=by rw [List.getElem?_eq_getElem hlt] at hx;injection hx
   rw [hxg,turnL] at htl
   simp (disch:=try exact DI) only [↓PR,QR,simprocAttr,d1,↓n46c13,hE.c9 e]
   generalize hV:World.alloc w _=V
   have eV:Ext w V:=by rw [← hV];exact (Ext.refl w).alloc _
   have oV:V.heap[w.heap.size]?=some (.cells (stpCells x).toArray 71 (0,0)):=by rw [← hV];exact heap_new _ _ _
   have sV:V.heap.size=w.heap.size+1:=by rw [← hV];exact World.size_alloc ..
   clear hV
   generalize hps:w.heap.size=ps at oV sV hz ⊢
   have k1:(x.kind == 1)=decide (x.kind=1):=by rw [Bool.eq_iff_iff];simp
   have k2:(x.kind == 2)=decide (x.kind=2):=by rw [Bool.eq_iff_iff];simp
   have k3:(x.kind == 3)=decide (x.kind=3):=by rw [Bool.eq_iff_iff];simp
   have fin:∀ (y:StpD) (u:World),y=flipS r.name x→turnL r.name peer [] r.steps=turnL r.name peer (addS acc y) (r.steps.drop (k+1))→Ext w u→u.heap[ps]?=some (.cells (stpCells y).toArray 71 (0,0))→n46c3 (.pointer (some ⟨q,0,none⟩)) (.pointer (some ⟨ps,0,none⟩)) (.int .i64 (k:Int)) (fun a w'=>(∃ (k:Nat) (acc:List StpD) (vv:Value),a = .int .i64 k∧k≤r.steps.length∧Ext A w'∧W.heap.size≤w'.heap.size∧(∀ b,b < W.heap.size→b≠q→w'.heap[b]?=W.heap[b]?)∧w'.heap[q]?=some (.cells #[.string peer,sv',cv',vv] TRol (0,0))∧OwnE w' W.heap.size 71 9 stpCells vv acc∧acc.length≤k∧turnL r.name peer [] r.steps=turnL r.name peer acc (r.steps.drop k))∧r.steps.length - (intOf a).toNat < r.steps.length - (intOf (Value.int .i64 (k:Int))).toNat) (TurR w0 r peer) u:=by
    intro y u hy htl eu ou
    have hms:=meas_lt (kd := .i64) hlt
    have hqu:=eu.obj hqw
    unfold n46c3
    simp (disch:=try exact DI) only [↓PR,QR,simprocAttr,(cells_of_heap hqu).1,(cells_of_heap ou).1]
    refine zcr (Contains_Step_ret u vv acc y ((hO.ext eu).slice (fun _=>rfl) (fun _ _=>rfl))) fun w1 e1=>?_
    have e01:=eu.trans e1
    have hq1:=e1.obj hqu
    have z1:=e01.size
    have keep1:∀ b,b < W.heap.size→b≠q→w1.heap[b]?=W.heap[b]?:=fun b hb hbq=>(e01.block b (by omega)).trans (hkp b hb hbq)
    unfold n46c2
    cases hany:acc.any (fun z=>decide (y=z)) with
    | true =>
     have hadd:addS acc y=acc:=by unfold addS;rw [hany,if_pos rfl]
     rw [hadd] at htl
     simp (disch:=try exact DI) only [↓PR,QR,simprocAttr,hw]
     exact ⟨⟨k+1,acc,vv,rfl,by omega,e.trans e01,by omega,keep1,hq1,hO.ext e01,by omega,htl⟩,hms⟩
    | false =>
     have hadd:addS acc y=acc++[y]:=by unfold addS;rw [hany,if_neg (by simp)]
     rw [hadd] at htl
     simp (disch:=try exact DI) only [↓PR,QR,simprocAttr,↓n46c1,(cells_of_heap hq1).1,(cells_of_heap (e1.obj ou)).1]
     generalize hY:World.alloc w1 _=Y
     have eY:Ext w1 Y:=by rw [← hY];exact (Ext.refl w1).alloc _
     have oY:ElemAt Y w1.heap.size 0 (stpCells y):=by rw [← hY];exact ElemAt.new _ _
     clear hY
     have e0Y:=e01.trans eY
     have zY:=e0Y.size
     have hby:=by71
     refine op_appendL (enc:=stpCells) (l':=[y]) Tryz.underlying24 ty71 rfl (by decide) (fun _=>rfl) (fun x _ u hu=>one_Step x u hu) (hO.ext e0Y) (o:=0) (fun j x hx=>?_) (by omega) (by simp) ?_ (by simp;omega) ?_
     · cases j with
       | zero =>
        simp only [List.getElem?_cons_zero,Option.some.injEq] at hx
        subst hx
        simpa using oY
       | succ j=>simp at hx
     · simp only [List.length_cons,List.length_nil]
       have:acc.length+1≤200000:=by omega
       exact Nat.le_trans (Nat.mul_le_mul this hby) (by decide)
     · intro g cap w4 hO4 hg hgg hgl
       have hrow:∀ b,vv.ownBlock=some b→W.heap.size≤b:=fun b hb=>(World.ownsRow.lt hO b hb).1
       have z4:=hg.size
       have sm:∀ b,b < W.heap.size→w4.heap[b]?=Y.heap[b]?:=fun b hb=>hg.block b (by omega) fun e=>by have:=hrow b e.symm;omega
       have hgW:W.heap.size≤g:=by
        rcases hgg with e | e
        · exact hrow g e
        · omega
       have hq4:w4.heap[q]?=some (.cells #[.string peer,sv',cv',vv] TRol (0,0)):=(sm q hqW).trans (eY.obj hq1)
       simp (disch:=try exact DI) only [↓PR,QR,simprocAttr,(cells_of_heap hq4).1,(cells_of_heap hq4).2,hw]
       have hq5:(w4.setCell ⟨q,3,none⟩ (.slice (some ⟨g,0,none⟩) (acc.length+[y].length) cap)).heap[q]?=some (.cells #[.string peer,sv',cv',.slice (some ⟨g,0,none⟩) (acc.length+[y].length) cap] TRol (0,0)):=by simpa using heap_set (o:=3) hq4 (.slice (some ⟨g,0,none⟩) (acc.length+[y].length) cap)
       refine ⟨⟨k+1,acc++[y],_,rfl,by omega,?_,by first | omega | (simp only [World.size_setCell];omega),fun b hb hbq=>?_,hq5,OwnE.keep hO4 fun b hb=>?_,by simp;omega,htl⟩,hms⟩
       · exact (((e.trans e0Y).grown hg fun b hb=>by have:=hrow b hb;omega)).setCell (p:=⟨q,3,none⟩) hqA _
       · exact (Only.setCell w4 q 3 _ b hbq).trans ((sm b hb).trans ((eY.block b (by omega)).trans (keep1 b hb hbq)))
       · injection hb with hb
         have hb:g=b:=hb
         exact Only.setCell w4 q 3 _ b (by omega)
   have fl1:∀ kd:Int,speaksB kd=true→kd=1∨kd=2:=fun kd h=>by unfold speaksB at h;simpa using h
   cases hsp:speaksB x.kind with
   | true =>
    rw [hsp,Bool.true_and] at htl
    have hkk:=fl1 _ hsp
    have cond:(decide (x.kind=1)||decide (x.kind=2))=true:=hsp
    have c6:n46c10 (.string peer) (.pointer (some ⟨p2,0,none⟩)) (.pointer (some ⟨p4,0,none⟩)) (.pointer (some ⟨ps,0,none⟩)) (fun w=>n46c3 (.pointer (some ⟨q,0,none⟩)) (.pointer (some ⟨ps,0,none⟩)) (.int .i64 (k:Int)) (fun a w'=>(∃ (k:Nat) (acc:List StpD) (vv:Value),a = .int .i64 k∧k≤r.steps.length∧Ext A w'∧W.heap.size≤w'.heap.size∧(∀ b,b < W.heap.size→b≠q→w'.heap[b]?=W.heap[b]?)∧w'.heap[q]?=some (.cells #[.string peer,sv',cv',vv] TRol (0,0))∧OwnE w' W.heap.size 71 9 stpCells vv acc∧acc.length≤k∧turnL r.name peer [] r.steps=turnL r.name peer acc (r.steps.drop k))∧r.steps.length - (intOf a).toNat < r.steps.length - (intOf (Value.int .i64 (k:Int))).toNat) (TurR w0 r peer) w) (TurR w0 r peer) V:=by
     unfold n46c10
     by_cases hpp:x.peer=peer
     · have d2:decide (x.peer=peer)=true:=decide_eq_true hpp
       rw [show decide (x.peer≠peer)=false by simp [hpp],if_neg (by simp)] at htl
       simp (disch:=try exact DI) only [↓PR,QR,simprocAttr,(cells_of_heap oV).1,d2]
       refine drawK_introB ps ps (w1:=V) (fun _ _ _ _=>rfl) ?_
       have eD:Ext V (Sw.drew V):=(Ext.refl V).drew
       have hKD:KB V ps ps (Sw.drew V):=fun _ _ _ _=>rfl
       have oD:=eD.obj oV
       have sD:=eD.size
       generalize Sw.drew V=D at eD hKD oD sD ⊢
       have ewV:=e.trans eV
       have hp2V:=ewV.obj hp2
       have hp2n:p2≠ps:=by
        have:=(Array.getElem?_eq_some_iff.1 hp2).1
        omega
       have hws:IntKind.i64.wrap (3 - x.kind)=3 - x.kind:=wrap_ok (by omega) (by omega)
       have hK2:∀ v,KB V ps ps (D.setCell ⟨ps,2,none⟩ v):=fun v b hb h1 h2=>(Only.setCell D ps 2 v b h1).trans (hKD b hb h1 h2)
       have cD:=cells_of_heap oD
       have cp:=cells_of_heap (eD.obj hp2V)
       have fin2:=fin { x with kind:=3 - x.kind,peer:=r.name } ((D.setCell ⟨ps,2,none⟩ (.int .i64 (3 - x.kind))).setCell ⟨ps,4,none⟩ (.string r.name)) (by unfold flipS;rw [hsp,if_pos rfl]) (by rw [htl];unfold flipS;rw [hsp,if_pos rfl]) (((eV.trans eD).setCell (p:=⟨ps,2,none⟩) (by show w.heap.size≤ps;omega) _).setCell (p:=⟨ps,4,none⟩) (by show w.heap.size≤ps;omega) _) (by simpa using heap_set (o:=4) (heap_set (o:=2) oD (.int .i64 (3 - x.kind))) (.string r.name))
       unfold n46c8
       simp (disch:=try exact DI) only [↓PR,QR,simprocAttr,hKD,cD.1,cD.2,cp.1,true_and]
       refine ⟨?_,?_⟩
       · unfold n46c6
         simp (disch:=try exact DI) only [↓PR,QR,simprocAttr,hKD,hK2,cD.1,cD.2,cp.1,hws,true_and]
         refine ⟨?_,?_⟩
         · unfold n46c4
           simp (disch:=try exact DI) only [↓PR,QR,simprocAttr,hKD,hK2,cD.1,cD.2,true_and]
           refine turnK_intro ?_
           exact fin2
         · unfold n46c5
           simp (disch:=try exact DI) only [↓PR,QR,simprocAttr,hKD,hK2,cD.1,cD.2,cp.1,true_and]
           refine turnK_intro ?_
           exact fin2
       · unfold n46c7
         simp (disch:=try exact DI) only [↓PR,QR,simprocAttr,hKD,hK2,cD.1,cD.2,hws,true_and]
         refine turnK_intro ?_
         exact fin2
     · have d2:decide (x.peer=peer)=false:=decide_eq_false hpp
       rw [show decide (x.peer≠peer)=true by simp [hpp],if_pos rfl] at htl
       have htp:turnP r peer=(zeroR,2):=by unfold turnP;rw [if_pos hc0,if_pos hpe,htl]
       have o4:=(e.trans eV).obj hp4
       simp (disch:=try exact DI) only [↓PR,QR,simprocAttr,(cells_of_heap oV).1,d2,↓n46c9,(cells_of_heap o4).1,(cells_of_heap o4).2]
       exact ⟨⟨_,by rw [htp],by rw [htp];exact RolOwn.zero _ _⟩,four_ext (hA.trans (e.trans eV)) h4 _ _ _ _⟩
    rcases hkk with h1 | h2
    · have d1:decide (x.kind=1)=true:=decide_eq_true h1
      simp (disch:=try exact DI) only [↓PR,QR,simprocAttr,(cells_of_heap oV).1,k1,d1]
      exact c6
    · have d1:decide (x.kind=1)=false:=decide_eq_false (by omega)
      have d2:decide (x.kind=2)=true:=decide_eq_true h2
      simp (disch:=try exact DI) only [↓PR,QR,simprocAttr,(cells_of_heap oV).1,k1,d1,k2,d2]
      exact c6
   | false =>
    rw [hsp,Bool.false_and,if_neg (by simp)] at htl
    have hnk:¬ x.kind=1∧¬ x.kind=2:=by unfold speaksB at hsp;simpa using hsp
    have d1:decide (x.kind=1)=false:=decide_eq_false hnk.1
    have d2:decide (x.kind=2)=false:=decide_eq_false hnk.2
    simp (disch:=try exact DI) only [↓PR,QR,simprocAttr,(cells_of_heap oV).1,k1,d1,k2,d2,↓n46c11,k3]
    by_cases h3:x.kind=3
    · have d3:decide (x.kind=3)=true:=decide_eq_true h3
      simp (disch:=try exact DI) only [↓PR,QR,simprocAttr,d3,(cells_of_heap oV).1,(cells_of_heap oV).2]
      refine fin { x with kind:=4 } _ (by unfold flipS;rw [hsp,if_neg (by simp),if_pos h3]) ?_ ?_ ?_
      · rw [htl];unfold flipS;rw [hsp,if_neg (by simp),if_pos h3]
      · exact eV.setCell (p:=⟨ps,2,none⟩) (by show w.heap.size≤ps;omega) _
      · exact heap_set (o:=2) oV _
    · have d3:decide (x.kind=3)=false:=decide_eq_false h3
      simp (disch:=try exact DI) only [↓PR,QR,simprocAttr,d3]
      refine fin x _ (by unfold flipS;rw [hsp,if_neg (by simp),if_neg h3]) ?_ eV oV
      rw [htl];unfold flipS;rw [hsp,if_neg (by simp),if_neg h3]
 · obtain rfl:k=r.steps.length:=by omega
   have d1:decide ((r.steps.length:Int) < (r.steps.length:Int))=false:=decide_eq_false (by omega)
   rw [List.drop_length,turnL] at htl
   have htp:turnP r peer=(⟨peer,r.states.map still,r.counters,acc⟩,0):=by unfold turnP;rw [if_pos hc0,if_pos hpe,htl]
   have o4:=e.obj hp4
   have hqp:q≠p4:=by omega
   simp (disch:=try exact DI) only [↓PR,QR,simprocAttr,d1,↓n46c12,(cells_of_heap hqw).1,(cells_of_heap o4).1,(cells_of_heap o4).2]
   refine ⟨⟨_,by rw [htp],?_⟩,four_ext (hA.trans e) h4 _ _ _ _⟩
   rw [htp]
   refine ⟨sv',cv',vv,rfl,(OwnE.keep hS fun b hb=>?_).base zA,(OwnE.keep hC fun b hb=>?_).base zA,(OwnE.keep hO fun b hb=>?_).base (by omega)⟩
   · obtain ⟨a1,a2⟩:=World.ownsRow.lt hS b hb
     exact (four_only w p4 _ _ _ _ (by omega)).trans (hkp b a2 (hSq b hb))
   · obtain ⟨a1,a2⟩:=World.ownsRow.lt hC b hb
     exact (four_only w p4 _ _ _ _ (by omega)).trans (hkp b a2 (hCq b hb))
   · obtain ⟨a1,a2⟩:=World.ownsRow.lt hO b hb
     exact four_only w p4 _ _ _ _ (by omega)
end
section
variable {w0 A W:World} {p2 p4 q:Nat} {r:RolD} {sv cv tv sv' cv':Value} {peer:ByteArray} {v:Value}
theorem turn_states (hA:Ext w0 A) (hp2:A.heap[p2]?=some (.cells (rolCells r sv cv tv).toArray TRol (0,0))) (hp4:A.heap[p4]?=some (.cells #[.string ByteArray.empty,.slice none 0 0,.slice none 0 0,.slice none 0 0] TRol (0,0))) (h4:w0.heap.size≤p4) (hT:StpsOf A tv r.steps) (hl:r.steps.length≤100000) (hls:r.states.length≤100000)
 (hc0:(checkR r).2=0) (hpe:(nameB peer&&decide (peer≠r.name))=true) (eW:Ext A W) (hq:W.heap[q]?=some (.cells #[.string peer,sv',cv',.slice none 0 0] TRol (0,0))) (hqA:A.heap.size≤q) (hS:OwnE W A.heap.size 50 3 staCells sv' r.states) (hC:OwnE W A.heap.size 52 2 cntCells cv' r.counters)
 (hSq:∀ b,sv'.ownBlock=some b→b≠q) (hCq:∀ b,cv'.ownBlock=some b→b≠q) (hSC:∀ b,sv'.ownBlock=some b→cv'.ownBlock≠some b) :
 n46c16 (.string peer) (.pointer (some ⟨p2,0,none⟩)) (.pointer (some ⟨p4,0,none⟩)) (.pointer (some ⟨q,0,none⟩)) (TurR w0 r peer) W:=by
 have ocs:=own_one hS (fun _=>rfl)
 have occ:=own_one hC (fun _=>rfl)
 obtain ⟨SA,sc,hsv,_⟩:=SliceOf.open (hS.slice (E:=fun _ _ _=>True) (fun _=>rfl) (fun _ _=>trivial))
 unfold n46c16
 simp (disch:=try exact DI) only [↓PR,QR,simprocAttr,(cells_of_heap hq).1,hsv]
 refine loop1_intro (fun a w=>∃ (k:Nat),a = .int .i64 k∧k≤r.states.length∧Ext A w∧w.heap[q]?=some (.cells #[.string peer,sv',cv',.slice none 0 0] TRol (0,0))∧OwnE w A.heap.size 50 3 staCells sv' ((r.states.take k).map still++r.states.drop k)∧OwnE w A.heap.size 52 2 cntCells cv' r.counters) (fun a _=>r.states.length - (intOf a).toNat) ⟨0,rfl,by omega,eW,hq,by simpa using hS,hC⟩ ?_
 rintro _ w ⟨k,rfl,hk,e,hqw,hSw,hCw⟩
 by_cases hlt:k < r.states.length
 · obtain ⟨x,hx⟩:=getElem?_lt hlt
   have dk:(k:Int) < (r.states.length:Int):=by omega
   have d1:decide ((k:Int) < (r.states.length:Int))=true:=decide_eq_true dk
   have hw:IntKind.i64.wrap ((k:Int)+1)=((k+1:Nat):Int):=by rw [wrap_ok (by omega) (by omega)];omega
   have hlen:((r.states.take k).map still++r.states.drop k).length=r.states.length:=by simp;omega
   have hxk:((r.states.take k).map still++r.states.drop k)[k]?=some x:=by
    rw [List.getElem?_append_right (by simp;omega)]
    simp only [List.length_map,List.length_take]
    rw [show k - min k r.states.length=0 by omega,List.getElem?_drop,Nat.add_zero]
    exact hx
   obtain ⟨g,cap,hgv,hg1,hg2,_,hfr0,hE⟩:=hSw.row (fun _=>rfl) (by omega)
   rw [hlen] at hgv
   have hg':sv'.ownBlock=some g:=by rw [hgv];rfl
   obtain ⟨b1,b2⟩:=World.ownsRow.lt hSw g hg'
   have hc2:w.cell? ⟨g,k*3+2,none⟩=some (.int .i64 x.wait):=hE k x hxk 2 _ rfl
   have hfr:w.frozen? ⟨g,k*3+2,none⟩=false:=hfr0 _
   have hset:OwnE (w.setCell ⟨g,k*3+2,none⟩ (.int .i64 0)) A.heap.size 50 3 staCells sv' (((r.states.take k).map still++r.states.drop k).set k (still x)):=by
    rw [hgv] at hSw ⊢
    exact OwnE.setE (enc:=staCells) (n:=3) (fun _=>rfl) hSw hxk (y:=still x) (j:=2) (by decide) (.int .i64 0) rfl
   have hnext:((r.states.take k).map still++r.states.drop k).set k (still x)=(r.states.take (k+1)).map still++r.states.drop (k+1):=by
    rw [take_snoc hx,List.map_append,List.set_append_right _ _ (by simp;omega)]
    simp only [List.length_map,List.length_take,List.map_cons,List.map_nil]
    rw [show k - min k r.states.length=0 by omega,List.drop_eq_getElem_cons hlt,List.set_cons_zero,List.append_assoc]
    rfl
   rw [hnext] at hset
   have hgq:g≠q:=hSq g hg'
   have hqs:=(Only.setCell w g (k*3+2) (.int .i64 0) q (Ne.symm hgq)).trans hqw
   have hcs:OwnE (w.setCell ⟨g,k*3+2,none⟩ (.int .i64 0)) A.heap.size 52 2 cntCells cv' r.counters:=OwnE.keep hCw fun b hb=>Only.setCell w g _ _ b fun e=>by subst e;exact hSC b hg' hb
   have hes:Ext A (w.setCell ⟨g,k*3+2,none⟩ (.int .i64 0)):=e.setCell (p:=⟨g,k*3+2,none⟩) b1 _
   simp (disch:=try exact DI) only [↓PR,QR,simprocAttr,d1,↓n46c15,(cells_of_heap hqw).1,hgv,hc2,hfr,hw]
   exact ⟨⟨k+1,rfl,by omega,hes,by rw [← hgv];first | exact hqw | exact hqs,by rw [← hgv];exact hset,hcs⟩,meas_lt (kd := .i64) hlt⟩
 · obtain rfl:k=r.states.length:=by omega
   have d1:decide ((r.states.length:Int) < (r.states.length:Int))=false:=decide_eq_false (by omega)
   rw [List.take_length,List.drop_length,List.append_nil] at hSw
   simp (disch:=try exact DI) only [↓PR,QR,simprocAttr,d1]
   exact turn_steps hA hp2 hp4 h4 hT hl hc0 hpe e hqw hqA hSw hCw hSq hCq
theorem Turn_ret (w0:World) (v:Value) (r:RolD) (peer:ByteArray) (hr:RolVal w0 v r) (hsm:∀ x∈r.steps,StpSm x) (hl:r.counters.length≤100000∧r.states.length≤100000∧r.steps.length≤100000):Ret Pg 23 #[v,.string peer] w0 fun u w'=>(∃ x,u = .tuple #[x,.int .i64 (turnP r peer).2]∧RolOwn w' w0.heap.size x (turnP r peer).1)∧Ext w0 w':=by
 obtain ⟨sv,cv,tv,rfl,hS,hC,hT,o1,o2,o3⟩:=hr.op
 obtain ⟨A1,c1,rfl,_⟩:=SliceOf.open hS
 obtain ⟨A2,c2,rfl,_⟩:=SliceOf.open hC
 obtain ⟨A3,c3,rfl,_⟩:=SliceOf.open hT
 refine n46s (R:=retR _) ?_;unfold n46
 rw [op_boxA]
 have hp2:=heap_new w0 (rolCells r (.slice A1 r.states.length c1) (.slice A2 r.counters.length c2) (.slice A3 r.steps.length c3)).toArray TRol
 have eW:Ext w0 (w0.alloc (.cells (rolCells r (.slice A1 r.states.length c1) (.slice A2 r.counters.length c2) (.slice A3 r.steps.length c3)).toArray TRol)):=ee
 have sW:(w0.alloc (.cells (rolCells r (.slice A1 r.states.length c1) (.slice A2 r.counters.length c2) (.slice A3 r.steps.length c3)).toArray TRol)).heap.size=w0.heap.size+1:=World.size_alloc ..
 generalize (w0.alloc (.cells (rolCells r (.slice A1 r.states.length c1) (.slice A2 r.counters.length c2) (.slice A3 r.steps.length c3)).toArray TRol))=W0 at hp2 eW sW ⊢
 simp (disch:=try exact DI) only [↓PR,QR,simprocAttr,fun o=>(cells_of_heap (((Ext.refl W0).alloc o).obj hp2)).1]
 have eV:Ext W0 (World.alloc W0 (.cells #[.string ByteArray.empty,.slice none 0 0,.slice none 0 0,.slice none 0 0] TRol)):=(Ext.refl W0).alloc _
 have hp4:=heap_new W0 #[.string ByteArray.empty,.slice none 0 0,.slice none 0 0,.slice none 0 0] TRol
 generalize World.alloc W0 _=V at eV hp4 ⊢
 generalize hp4e:W0.heap.size=p4 at hp4 ⊢
 have h4:w0.heap.size≤p4:=by omega
 have e0V:=eW.trans eV
 refine zcr (Check_ret V _ r ⟨_,_,_,rfl,hS.ext e0V,hC.ext e0V,hT.ext e0V⟩ hsm ⟨by omega,by omega,by omega⟩) fun w1 e1=>?_
 have E1:=e0V.trans e1
 have q4:=e1.obj hp4
 have q2:=(eV.trans e1).obj hp2
 by_cases hc0:(checkR r).2=0
 case neg =>
  have d1:((checkR r).2 != 0)=true:=by simp [hc0]
  have htp:turnP r peer=(zeroR,(checkR r).2):=by unfold turnP;rw [if_neg hc0]
  simp (disch:=try exact DI) only [↓PR,QR,simprocAttr,↓n46c24,d1,(cells_of_heap q4).1,(cells_of_heap q4).2]
  exact ⟨⟨_,by rw [htp],by rw [htp];exact RolOwn.zero _ _⟩,four_ext E1 h4 _ _ _ _⟩
 have d1:((checkR r).2 != 0)=false:=by simp [hc0]
 simp (disch:=try exact DI) only [↓PR,QR,simprocAttr,↓n46c24,d1]
 refine zcr (Name_ret w1 peer) fun w2 e2=>?_
 have E2:=E1.trans e2
 have q4:=e2.obj q4
 have q2:=e2.obj q2
 have bad:(nameB peer&&decide (peer≠r.name))=false→n46c22 (.pointer (some ⟨p4,0,none⟩)) (TurR w0 r peer) w2:=fun hb=>by
  have htp:turnP r peer=(zeroR,2):=by unfold turnP;rw [if_pos hc0,hb,if_neg (by simp)]
  unfold n46c22
  simp (disch:=try exact DI) only [↓PR,QR,simprocAttr,(cells_of_heap q4).1,(cells_of_heap q4).2]
  exact ⟨⟨_,by rw [htp],by rw [htp];exact RolOwn.zero _ _⟩,four_ext E2 h4 _ _ _ _⟩
 unfold n46c23
 cases hnm:nameB peer with
 | false =>
  simp (disch:=try exact DI) only [↓PR,QR,simprocAttr]
  exact bad (by rw [hnm];rfl)
 | true =>
 by_cases hpn:peer=r.name
 · have d2:decide (peer=r.name)=true:=decide_eq_true hpn
   simp (disch:=try exact DI) only [↓PR,QR,simprocAttr,(cells_of_heap q2).1,d2]
   exact bad (by simp [hpn])
 have d2:decide (peer=r.name)=false:=decide_eq_false hpn
 have hpe:(nameB peer&&decide (peer≠r.name))=true:=by rw [hnm];simp [hpn]
 clear bad
 simp (disch:=try exact DI) only [↓PR,QR,simprocAttr,(cells_of_heap q2).1,d2]
 refine drawK_intro ?_
 have eD:Ext w2 (Sw.drew w2):=(Ext.refl w2).drew
 have ED:=E2.trans eD
 have q4:=eD.obj q4
 have q2:=eD.obj q2
 generalize Sw.drew w2=D at eD ED q4 q2 ⊢
 have fin:∀ (w:World) (q:Nat) (sv' cv':Value) (x0 x1 x2 x3:Value),Ext D w→D.heap.size≤q→w.heap[q]?=some (.cells #[x0,x1,x2,x3] TRol (0,0))→OwnE w D.heap.size 50 3 staCells sv' r.states→OwnE w D.heap.size 52 2 cntCells cv' r.counters→(∀ b,sv'.ownBlock=some b→b≠q)→(∀ b,cv'.ownBlock=some b→b≠q)→(∀ b,sv'.ownBlock=some b→cv'.ownBlock≠some b) →
  opU Pg (Instr.storeAt 26 (.pointer (some ⟨q,0,none⟩)) (.agg #[.string peer,sv',cv',.slice none 0 0])) (panK (TurR w0 r peer)) w fun w=>turnK w fun C11 w=>n46c16 (.string peer) (.pointer (some ⟨w0.heap.size,0,none⟩)) (.pointer (some ⟨p4,0,none⟩)) (.pointer (some ⟨q,0,none⟩)) (TurR w0 r peer) w:=by
  intro w q sv' cv' x0 x1 x2 x3 e hq ho h1 h2 n1 n2 n3
  have f1:=own_one h1 (fun _=>rfl)
  have f2:=own_one h2 (fun _=>rfl)
  simp (disch:=try exact DI) only [↓PR,QR,simprocAttr,(cells_of_heap ho).1,(cells_of_heap ho).2]
  refine turnK_intro ?_
  refine turn_states ED q2 q4 h4 (hT.ext ED) hl.2.2 hl.2.1 hc0 hpe (four_ext e hq _ _ _ _) (four_obj ho _ _ _ _) hq (OwnE.keep h1 fun b hb=>four_only w q _ _ _ _ (n1 b hb)) (OwnE.keep h2 fun b hb=>four_only w q _ _ _ _ (n2 b hb)) n1 n2 n3
 unfold n46c21
 simp (disch:=try exact DI) only [↓PR,QR,simprocAttr,(cells_of_heap q2).1]
 refine ⟨?_,?_⟩
 · refine callK_ret (Clone_Counter_ret D _ _ (hC.ext ED) (by omega)) ?_
   rintro cv' w3 ⟨hO3,e3⟩
   refine ⟨e3,?_⟩
   unfold n46c19
   refine ⟨?_,?_⟩
   · refine callK_ret (Clone_State_ret w3 _ _ ((hS.ext ED).ext e3) (by omega)) ?_
     rintro sv' w4 ⟨hO4,e4⟩
     have e34:=e3.trans e4
     refine ⟨e34,?_⟩
     unfold n46c17
     have f1:=own_one hO4 (fun _=>rfl)
     have f2:=own_one hO3 (fun _=>rfl)
     have s3:=e3.size
     have s4:=e4.size
     have ha:Ext D (w4.alloc (.cells #[.string ByteArray.empty,.slice none 0 0,.slice none 0 0,.slice none 0 0] TRol)):=e34.alloc _
     have h:=fin _ w4.heap.size sv' cv' _ _ _ _ ha (by omega) (heap_new w4 _ _) ((hO4.base s3).ext ((Ext.refl w4).alloc _)) ((hO3.ext e4).ext ((Ext.refl w4).alloc _)) (fun b hb=>by have:=(World.ownsRow.lt hO4 b hb).2;omega) (fun b hb=>by have:=(World.ownsRow.lt hO3 b hb).2;omega) (fun b hb hb2=>by have:=(World.ownsRow.lt hO4 b hb).1;have:=(World.ownsRow.lt hO3 b hb2).2;omega)
     simp (disch:=try exact DI) only [↓PR,QR,simprocAttr]
     refine ⟨ha,?_⟩
     first | exact h | (simp (disch:=try exact DI) only [↓PR,QR,simprocAttr] at h;exact h)
   · simp (disch:=try exact DI) only [↓PR,QR,simprocAttr]
     refine ⟨e3.alloc _,?_⟩
     have e4:Ext w3 (w3.alloc (.cells #[.string ByteArray.empty,.slice none 0 0,.slice none 0 0,.slice none 0 0] TRol)):=(Ext.refl w3).alloc _
     have o4:=heap_new w3 #[.string ByteArray.empty,.slice none 0 0,.slice none 0 0,.slice none 0 0] TRol
     have s4:(w3.alloc (.cells #[.string ByteArray.empty,.slice none 0 0,.slice none 0 0,.slice none 0 0] TRol)).heap.size=w3.heap.size+1:=World.size_alloc ..
     generalize World.alloc w3 _=w4 at e4 o4 s4 ⊢
     have e34:=e3.trans e4
     unfold n46c18
     refine callK_ret (Clone_State_ret w4 _ _ ((hS.ext ED).ext e34) (by omega)) ?_
     rintro sv' w5 ⟨hO5,e5⟩
     have e35:=e34.trans e5
     refine ⟨e35,?_⟩
     have f1:=own_one hO5 (fun _=>rfl)
     have f2:=own_one hO3 (fun _=>rfl)
     have s3:=e3.size
     have h:=fin w5 w3.heap.size sv' cv' _ _ _ _ e35 (by omega) (e5.obj o4) (hO5.base (by omega)) (hO3.ext (e4.trans e5)) (fun b hb=>by have:=(World.ownsRow.lt hO5 b hb).1;omega) (fun b hb=>by have:=(World.ownsRow.lt hO3 b hb).2;omega) (fun b hb hb2=>by have:=(World.ownsRow.lt hO5 b hb).1;have:=(World.ownsRow.lt hO3 b hb2).2;omega)
     have o5:=cells_of_heap (e5.obj o4)
     simp (disch:=try exact DI) only [↓PR,QR,simprocAttr,o5.1,o5.2]
     simp (disch:=try exact DI) only [↓PR,QR,simprocAttr,o5.1,o5.2] at h
     exact h
 · simp (disch:=try exact DI) only [↓PR,QR,simprocAttr]
   refine ⟨(Ext.refl D).alloc _,?_⟩
   have e3:Ext D (D.alloc (.cells #[.string ByteArray.empty,.slice none 0 0,.slice none 0 0,.slice none 0 0] TRol)):=(Ext.refl D).alloc _
   have o3:=heap_new D #[.string ByteArray.empty,.slice none 0 0,.slice none 0 0,.slice none 0 0] TRol
   have s3:(D.alloc (.cells #[.string ByteArray.empty,.slice none 0 0,.slice none 0 0,.slice none 0 0] TRol)).heap.size=D.heap.size+1:=World.size_alloc ..
   generalize World.alloc D _=w3 at e3 o3 s3 ⊢
   refine callK_ret (Clone_Counter_ret w3 _ _ ((hC.ext ED).ext e3) (by omega)) ?_
   rintro cv' w4 ⟨hO4,e4⟩
   have e34:=e3.trans e4
   refine ⟨e34,?_⟩
   unfold n46c20
   refine callK_ret (Clone_State_ret w4 _ _ ((hS.ext ED).ext e34) (by omega)) ?_
   rintro sv' w5 ⟨hO5,e5⟩
   have e35:=e34.trans e5
   refine ⟨e35,?_⟩
   have f1:=own_one hO5 (fun _=>rfl)
   have f2:=own_one hO4 (fun _=>rfl)
   have s4:=e4.size
   have h:=fin w5 D.heap.size sv' cv' _ _ _ _ e35 (Nat.le_refl _) ((e4.trans e5).obj o3) (hO5.base (by omega)) ((hO4.ext e5).base (by omega)) (fun b hb=>by have:=(World.ownsRow.lt hO5 b hb).1;omega) (fun b hb=>by have:=(World.ownsRow.lt hO4 b hb).1;omega) (fun b hb hb2=>by have:=(World.ownsRow.lt hO5 b hb).1;have:=(World.ownsRow.lt hO4 b hb2).2;omega)
   have o5:=cells_of_heap ((e4.trans e5).obj o3)
   simp (disch:=try exact DI) only [↓PR,QR,simprocAttr,o5.1,o5.2]
   simp (disch:=try exact DI) only [↓PR,QR,simprocAttr,o5.1,o5.2] at h
   exact h
end
end Go.Proofs.YtngflmjncplkaaaGreatDoor
