/-
  Lemmas for the claim.
-/
import Derived.Test.YtfdecdnmooaegaaGreatDoorRc3
set_option linter.all false
set_option maxHeartbeats 4000000
set_option maxRecDepth 100000
namespace Go.Proofs.YtfdecdnmooaegaaGreatDoor
open Sw
open Go.RowKit (intOf Below)
abbrev flawVal (a f c:Int):Value := .agg #[.int .i64 a,.int .i64 f,.int .i64 c]
def flawEntry (a f c:Int):PanicEntry:={ v := .iface 92 (flawVal a f c),recovered:=false }
def flwR (w:World) (a f c:Int):Ending→World→Prop:=fun e w'=>Ext w w'∧(c=0∧e = .returned (.tuple #[])∨c≠0∧e = .panicked [flawEntry a f c])
theorem callK_flw {f:FuncId} {args:Array Value} {QP:List PanicEntry→World→Prop} {w:World} {k:Value→World→Prop} {a fl c:Int} (h:Calls Pg f args w (flwR w a fl c)) (hk:∀ w',Ext w w'→c=0→k (.tuple #[]) w') (hp:∀ w',Ext w w'→c≠0→QP [flawEntry a fl c] w'):callK Pg f args QP w k :=
 callK_calls h (fun v w' h=>by rcases h with ⟨e,⟨h1,h2⟩ | ⟨_,h2⟩⟩<;>cases h2;exact hk w' e h1) (fun ch w' h=>by rcases h with ⟨e,⟨_,h2⟩ | ⟨h1,h2⟩⟩<;>cases h2;exact hp w' e h1) (fun w' h=>by rcases h with ⟨_,⟨_,h2⟩ | ⟨_,h2⟩⟩<;>cases h2)
theorem flwR_ret {w w':World} {a f c:Int} (e:Ext w w') (h:c=0):flwR w a f c (.returned (.tuple #[])) w':=⟨e,.inl ⟨h,rfl⟩⟩
theorem flwR_pan {w w':World} {a f c c':Int} (e:Ext w w') (h:c=c') (h0:c'≠0):panK (flwR w a f c) [flawEntry a f c'] w':=⟨e,.inr ⟨by rw [h];exact h0,by rw [h]⟩⟩
def orC (a b:Int):Int:=if a=0 then b else a
theorem orC_zero (b:Int):orC 0 b=b:=rfl
theorem orC_ne {a b:Int} (h:a≠0):orC a b=a:=by unfold orC;rw [if_neg h]
def needC (b:Bool) (c:Int):Int:=if b then 0 else c
structure Chk (w:World) (cb md ms:Nat) (deps:List (ByteArray×Value)) (strs:List (ByteArray×Value)) (at_ fld:Int) (fs:List FieldD):Prop where
 obj:∃ dn mv ds mn fv,w.heap[cb]?=some (.cells #[.string dn,mv,.string ds,.map (some md),.map (some ms),.int .i64 at_,.int .i64 fld,.string mn,fv] 175 (0,0))∧FieldsOf w fv fs
 mdeps:MapOf w md deps
 mstrs:MapOf w ms strs
 dint:∀ k v,lastOf deps k=some v→∃ n,v = .int .i64 n
 sbool:∀ k v,lastOf strs k=some v→∃ b,v = .bool b
def strB (strs:List (ByteArray×Value)) (s:ByteArray):Bool:=match lastOf strs s with
 | some (.bool b)=>b
 | _=>false
theorem Chk.strV {w:World} {cb md ms:Nat} {deps strs:List (ByteArray×Value)} {at_ fld:Int} {fs:List FieldD} (h:Chk w cb md ms deps strs at_ fld fs) (s:ByteArray):(lastOf strs s).getD (.bool false) = .bool (strB strs s):=by
 unfold strB
 cases hl:lastOf strs s with
 | none=>rfl
 | some v=>obtain ⟨b,rfl⟩:=h.sbool s v hl;rfl
theorem Chk.ext {w w':World} {cb md ms:Nat} {deps strs:List (ByteArray×Value)} {at_ fld:Int} {fs:List FieldD} (h:Chk w cb md ms deps strs at_ fld fs) (e:Ext w w'):Chk w' cb md ms deps strs at_ fld fs:=by
 obtain ⟨⟨dn,mv,ds,mn,fv,h1,h2⟩,h3,h4,h5,h6⟩:=h
 exact ⟨⟨dn,mv,ds,mn,fv,e.obj h1,h2.ext e⟩,h3.ext e,h4.ext e,h5,h6⟩
section
variable {w0:World} {cb md ms:Nat} {deps strs:List (ByteArray×Value)} {at_ fld:Int} {fs:List FieldD}
theorem need_flw (h:Chk w0 cb md ms deps strs at_ fld fs) (b:Bool) (c:Int) (hc:c≠0):Calls Pg 105 #[.pointer (some ⟨cb,0,none⟩),.bool b,.int .i64 c] w0 (flwR w0 at_ fld (needC b c)):=by
 obtain ⟨⟨dn,mv,ds,mn,fv,h1,h2⟩,h3,h4,h5,h6⟩:=h
 refine n68s ?_;unfold n68
 cases b with
 | true =>
  simp (disch:=try exact DI) only [↓PR,QR,simprocAttr,↓n68c1]
  exact flwR_ret (Ext.refl _) rfl
 | false =>
  simp (disch:=try exact DI) only [↓PR,QR,simprocAttr,↓n68c1]
  refine drawK_intro ?_
  simp (disch:=try exact DI) only [↓PR,QR,simprocAttr,↓n68c1,(cells_of_heap h1).1]
  rw [op_panic]
  exact flwR_pan (Ext.refl _).drew rfl hc
theorem before_ret (h:Chk w0 cb md ms deps strs at_ fld fs) (i:Nat) (hi:fld=i) (hlt:i < fs.length):Ret Pg 134 #[.pointer (some ⟨cb,0,none⟩)] w0 fun r w'=>FieldsOf w' r (fs.take i)∧Ext w0 w':=by
 obtain ⟨⟨dn,mv,ds,mn,fv,h1,h2⟩,h3,h4,h5,h6⟩:=h
 obtain ⟨A,c,rfl,hlc,hcm,hlm,hel⟩:=SliceOf.open h2
 obtain ⟨x,hx⟩:=getElem?_lt hlt
 obtain ⟨b,o,_,rfl,_⟩:=hel i x hx
 subst hi
 refine n63s (R:=retR _) ?_;unfold n63
 refine drawK_intro ?_
 simp (disch:=try exact DI) only [↓PR,QR,simprocAttr,↓n63c1,(cells_of_heap h1).1]
 rw [qV_of fun QP w' k=>op_sliceTo Tryz.underlying51 ty71 b o fs.length c .i64 i (by omega)]
 simp (disch:=try exact DI) only [↓PR,QR,simprocAttr]
 refine ⟨?_,ee⟩
 have hlen:(fs.take i).length=i:=by rw [List.length_take];omega
 refine ⟨_,c,by rw [hlen],by rw [hlen];omega,hcm,fun _=>⟨b,o,rfl,fun k y hy=>?_⟩⟩
 rw [List.getElem?_take] at hy
 split at hy
 · obtain ⟨b',o',cs,hA,hl,hA2,hE⟩:=hel k y hy
   injection hA with hA
   injection hA with h5 h6
   subst h5 h6
   have e:Ext w0 (drew w0):=(Ext.refl w0).drew
   exact ⟨cs,hl,hA2.ext e,keptField _ _ _ _ e hE⟩
 · cases hy
theorem refer_flw (h:Chk w0 cb md ms deps strs at_ fld fs) (s:ByteArray):Calls Pg 155 #[.pointer (some ⟨cb,0,none⟩),.string s] w0 (flwR w0 at_ fld (needC (lastOf deps s).isSome 8)):=by
 have h':=h
 obtain ⟨⟨dn,mv,ds,mn,fv,h1,h2⟩,h3,h4,h5,h6⟩:=h
 refine n70s ?_;unfold n70
 simp (disch:=try exact DI) only [↓PR,QR,simprocAttr,Sw.joinK_eq,(cells_of_heap h1).1]
 rw [op_lookupO Tryz.underlying59 Tryz.underlying9 ty3 h3]
 simp (disch:=try exact DI) only [↓PR,QR,simprocAttr]
 refine callK_flw (need_flw h' _ 8 (by decide)) (fun w' e h0=>?_) (fun w' e h0=>?_)
 · exact flwR_ret e h0
 · exact flwR_pan e rfl h0
def withinC (high:Int):Int→List Int→Int
 | _,[]=>0
 | low,n::l=>orC (needC (decide (low≤n)&&decide (n≤high)) 7) (withinC high n l)
def IntsOf (w:World) (v:Value) (l:List Int):Prop:=SliceOf w 1 EInt v l
theorem ints1 {w:World} {p:Nat} (hp:p=w.heap.size) (a:Int) (T:TypeId):IntsOf (w.alloc (.cells #[.int .i64 a] T)) (.slice (some ⟨p,0,none⟩) 1 1) [a]:=by
 subst hp;exact SliceOf.new1 (E:=EInt) (fun n:Int => .int .i64 n) (fun _ _=>rfl) w [a] T (by simp)
theorem ints2 {w:World} {p:Nat} (hp:p=w.heap.size) (a b:Int) (T:TypeId):IntsOf (w.alloc (.cells #[.int .i64 a,.int .i64 b] T)) (.slice (some ⟨p,0,none⟩) 2 2) [a,b]:=by
 subst hp;exact SliceOf.new1 (E:=EInt) (fun n:Int => .int .i64 n) (fun _ _=>rfl) w [a,b] T (by simp)
theorem within_flw (h:Chk w0 cb md ms deps strs at_ fld fs) (low high:Int) (v:Value) (l:List Int) (hs:IntsOf w0 v l):Calls Pg 142 #[.pointer (some ⟨cb,0,none⟩),.int .i64 low,.int .i64 high,v] w0 (flwR w0 at_ fld (withinC high low l)):=by
 obtain ⟨A,c,rfl,hlc,hcm,hlm,hel⟩:=SliceOf.open hs
 refine n72s ?_;unfold n72
 simp (disch:=try exact DI) only [↓PR,QR,simprocAttr]
 refine loop2_intro (fun a0 a1 w=>∃ (k:Nat) (n:Int),a0 = .int .i64 n∧a1 = .int .i64 (k:Int)∧k≤l.length∧Ext w0 w∧withinC high n (l.drop k)=withinC high low l) (fun a0 a1 _=>l.length - (intOf a1).toNat) ⟨0,low,rfl,rfl,Nat.zero_le _,ee,rfl⟩ ?_
 rintro _ _ w ⟨k,n,rfl,rfl,hk,e,hI⟩
 have se:=e.size
 rcases drop_cases hk with ⟨x,hx,hd,hlt,hdec⟩ | ⟨hk,hd,hdec⟩
 · obtain ⟨b,o,cs,rfl,hl,hA,rfl⟩:=hel k x hx
   rw [hd] at hI
   simp only [withinC] at hI
   simp (disch:=try exact DI) only [↓PR,QR,simprocAttr,↓n72c1,↓n72c2,hdec,hA.c1]
   refine callK_flw (need_flw (h.ext e) _ 7 (by decide)) (fun w' e1 h0=>?_) (fun w' e1 h0=>?_)
   · rw [h0,orC_zero] at hI
     simp (disch:=try exact DI) only [↓PR,QR,simprocAttr,↓n72c1,↓n72c2]
     exact ⟨⟨k+1,_,rfl,rfl,by omega,ee,hI⟩,meas_lt (kd := .i64) hlt⟩
   · rw [orC_ne h0] at hI
     exact flwR_pan (e.trans e1) hI.symm h0
 · subst hk
   simp (disch:=try exact DI) only [↓PR,QR,simprocAttr,↓n72c1,↓n72c2,hdec]
   rw [hd] at hI
   exact flwR_ret e hI.symm
def bitsB (f:FieldD):Bool:=decide (1≤f.bits)&&decide (f.bits≤32)&&(!f.little||(decide (8 < f.bits)&&(f.bits.tmod 8 == 0)))
theorem bits_flw (h:Chk w0 cb md ms deps strs at_ fld fs) (v:Value) (f:FieldD) (hf:FieldVal w0 v f):Calls Pg 141 #[.pointer (some ⟨cb,0,none⟩),v] w0 (flwR w0 at_ fld (needC (bitsB f) 6)):=by
 obtain ⟨tv,cv,rfl,hT,hC,ht1,hc1⟩:=hf.op
 refine n64s ?_;unfold n64
 simp (disch:=try exact DI) only [↓PR,QR,simprocAttr,↓n64c1,↓n64c2,↓n64c3,↓n64c4]
 have e0:Ext w0 (w0.alloc (Obj.cells (fieldCells f tv cv).toArray 71)):=ee
 have fin:∀ b,b=bitsB f→callK Pg 105 #[.pointer (some ⟨cb,0,none⟩),.bool b,.int .i64 6] (panK (flwR w0 at_ fld (needC (bitsB f) 6))) (w0.alloc (Obj.cells (fieldCells f tv cv).toArray 71)) (fun _ w=>flwR w0 at_ fld (needC (bitsB f) 6) (.returned (.tuple #[])) w):=by
  rintro b rfl
  exact callK_flw (need_flw (h.ext e0) _ 6 (by decide)) (fun w' e1 h0=>flwR_ret (e0.trans e1) h0) (fun w' e1 h0=>flwR_pan (e0.trans e1) rfl h0)
 unfold bitsB at fin ⊢
 generalize decide (1≤f.bits)=b1 at fin ⊢
 generalize decide (f.bits≤32)=b2 at fin ⊢
 generalize f.little=b3 at fin ⊢
 generalize decide (8 < f.bits)=b4 at fin ⊢
 generalize (f.bits.tmod 8 == 0)=b5 at fin ⊢
 cases b1<;>cases b2<;>cases b3<;>cases b4<;>cases b5<;>simp (disch:=try exact DI) only [↓PR,QR,simprocAttr,↓n64c1,↓n64c2,↓n64c3,↓n64c4]<;>exact fin _ rfl
def namesC (rp:List (ByteArray×Int×Int)):List TermD→Int
 | []=>0
 | t::ts=>orC (needC (lastR rp t.field).isSome 8) (namesC rp ts)
def lenB (base:Int) (ts:List TermD) (rp:List (ByteArray×Int×Int)):Bool:=(intervalE base ts rp == 0)&&decide (0≤intervalL base ts rp)&&decide (intervalH base ts rp≤1048576)
def sizedC (rp:List (ByteArray×Int×Int)) (f:FieldD):Int:=orC (needC (sizeB f.base f.terms) 9) (orC (namesC rp f.terms) (needC (lenB f.base f.terms rp) 9))
theorem sized_flw (h:Chk w0 cb md ms deps strs at_ fld fs) (i:Nat) (hi:fld=i) (hlt:i < fs.length) (v:Value) (f:FieldD) (hf:FieldVal w0 v f) (ht:f.terms.length≤1048576) :
 Calls Pg 148 #[.pointer (some ⟨cb,0,none⟩),v] w0 (flwR w0 at_ fld (sizedC (numR (fs.take i)) f)):=by
 obtain ⟨tv,cv,rfl,hT,hC,ht1,hc1⟩:=hf.op
 refine n71s ?_;unfold n71
 simp (disch:=try exact DI) only [↓PR,QR,simprocAttr,↓n71c1,↓n71c2,↓n71c3,↓n71c4,↓n71c5,↓n71c6,↓n71c7,↓n71c8]
 generalize hW:World.alloc (World.alloc w0 _) _=W
 have e0:Ext w0 W:=by rw [← hW];exact ee
 have o2:W.heap[w0.heap.size]?=some (.cells #[.pointer (some ⟨cb,0,none⟩)] 151 (0,0)):=by rw [← hW];simp (disch:=try exact DI) only [↓PR,QR,simprocAttr]
 have o3:W.heap[w0.heap.size+1]?=some (.cells (fieldCells f tv cv).toArray 71 (0,0)):=by rw [← hW];simp (disch:=try exact DI) only [↓PR,QR,simprocAttr]
 clear hW
 simp only [World.size_alloc]
 refine drawK_intro ?_
 simp (disch:=try exact DI) only [↓PR,QR,simprocAttr,↓n71c1,↓n71c2,↓n71c3,↓n71c4,↓n71c5,↓n71c6,↓n71c7,↓n71c8,(cells_of_heap o2).1,(cells_of_heap o3).1]
 refine zcr (Valid_ret _ _ f.base f.terms ⟨tv,rfl,TermsOf.ext hT ee⟩) fun w1 e1=>?_
 refine ⟨e1,?_⟩
 unfold sizedC
 refine callK_flw (need_flw (h.ext (e0.wdrew.trans e1)) _ 9 (by decide)) (fun w2 e2 h0=>?_) (fun w2 e2 h0=>?_)
 · rw [h0,orC_zero]
   refine ⟨e1.trans e2,?_⟩
   have e3:Ext W w2:=(Ext.refl W).wdrew.trans (e1.trans e2)
   have hv:sizeB f.base f.terms=true:=by
    cases hb:sizeB f.base f.terms with
    | true=>rfl
    | false=>rw [hb] at h0;exact absurd h0 (by decide)
   simp (disch:=try exact DI) only [↓PR,QR,simprocAttr,↓n71c1,↓n71c2,↓n71c3,↓n71c4,↓n71c5,↓n71c6,↓n71c7,↓n71c8,(cells_of_heap (e3.obj o2)).1]
   refine callK_ret (before_ret (h.ext (e0.trans e3)) i hi hlt) ?_
   rintro bv w4 ⟨hB,e4⟩
   simp (disch:=try exact DI) only [↓PR,QR,simprocAttr,↓n71c1,↓n71c2,↓n71c3,↓n71c4,↓n71c5,↓n71c6,↓n71c7,↓n71c8]
   refine callK_ret (ranges_ret _ _ _ hB) ?_
   rintro _ w5 ⟨m,rfl,hmlo,hM,e5⟩
   rw [numPairs_RP] at hM
   have e6:Ext W w5:=e3.trans (e4.trans e5)
   have l3:w0.heap.size+1 < w5.heap.size:=(Array.getElem?_eq_some_iff.1 (e6.obj o3)).1
   simp (disch:=try exact DI) only [↓PR,QR,simprocAttr,↓n71c1,↓n71c2,↓n71c3,↓n71c4,↓n71c5,↓n71c6,↓n71c7,↓n71c8,(cells_of_heap (e6.obj o3)).1]
   have e6':Ext w0 w5:=e0.trans e6
   refine callK_ret (Names_ret _ _ f.base f.terms ⟨tv,rfl,TermsOf.ext hT ee⟩ ht) ?_
   rintro _ w7 ⟨pb,tv2,rfl,hTA,_,e7⟩
   rw [hv,if_pos rfl] at hTA
   have s7:=e7.size
   simp only [World.size_alloc] at s7
   have e8:Ext W w7:=ee
   have p4:w7.heap[w5.heap.size]?=some (.cells #[.map (some m)] 219 (0,0)):=by simp (disch:=try exact DI) only [↓PR,QR,simprocAttr,e7.heapQ]
   have hM7:MapOf w7 m (RP (numR (fs.take i))):=hM.ext (((Ext.refl _).alloc _).trans e7)
   have h7:Chk w7 cb md ms deps strs at_ fld fs:=h.ext (e0.trans e8)
   have o2':=e8.obj o2
   have o3':=e8.obj o3
   have e07:Ext w0 w7:=e0.trans e8
   clear e7 e6 e5 e4 e3 e2 e1 hM hB hmlo s7 l3 o2 o3 e8 e6'
   unfold n71c5
   have hLI:∀ k,Lasts w7.heap.size (fun w=>Ext w7 w∧namesC (numR (fs.take i)) (f.terms.drop k)=namesC (numR (fs.take i)) f.terms):=fun k=>Lasts.and (Lasts.from (Nat.le_refl _)) (Lasts.const _ _)
   refine ⟨_,_,f.terms.length,namesX f.terms,fun w=>TermsAt w pb tv2 f.terms,fun k w=>Ext w7 w∧namesC (numR (fs.take i)) (f.terms.drop k)=namesC (numR (fs.take i)) f.terms,fun _ _=>False,
    fun ch w=>Ext w7 w∧∃ c,c≠0∧ch=[flawEntry at_ fld c]∧namesC (numR (fs.take i)) f.terms=c,rfl,c174,Names_seq pb tv2 f.terms,⟨Ext.refl _,rfl⟩,fun k w h=>hTA.ext h.1,hLI,fun _=>Lasts.const _ _,?_,?_,?_,?_⟩
   · intro rec j w3 hj hI3 hrec hready
     refine ⟨hready,fun w4 hbz=>?_⟩
     have hrec4:=hrec.busied hbz
     obtain ⟨e4,hF⟩:=(hLI j).busied hbz (Nat.le_succ _) hI3
     clear hI3 hrec hready hbz
     obtain ⟨t,hx⟩:=getElem?_lt hj
     rw [show namesX f.terms j = .string t.field by unfold namesX;rw [hx]]
     have hd:f.terms.drop j=t::f.terms.drop (j+1):=by
      rw [List.drop_eq_getElem_cons hj]
      congr 1
      exact (List.getElem?_eq_some_iff.1 hx).2
     rw [hd] at hF
     simp only [namesC] at hF
     have o2:=e4.obj o2'
     have l2:w0.heap.size < w4.heap.size:=(Array.getElem?_eq_some_iff.1 o2).1
     simp (disch:=try exact DI) only [↓PR,QR,simprocAttr,↓n71c1,↓n71c2,↓n71c3,↓n71c4,↓n71c5,↓n71c6,↓n71c7,↓n71c8,(cells_of_heap (e4.obj p4)).1]
     rw [op_lookupO Tryz.underlying219 Tryz.underlying9 ty223 (hM7.ext e4),lastOf_RP]
     have fin:∀ w5 b,Ext w4 w5→b=(lastR (numR (fs.take i)) t.field).isSome→callK Pg 105 #[.pointer (some ⟨cb,0,none⟩),.bool b,.int .i64 8] (fun ch w''=>RecAt rec w7.heap.size w''∧Ext w7 w''∧∃ c,c≠0∧ch=[flawEntry at_ fld c]∧namesC (numR (fs.take i)) f.terms=c) w5 (fun _ w''=>RecAt rec w7.heap.size w''∧Ext w7 w''∧namesC (numR (fs.take i)) (f.terms.drop (j+1))=namesC (numR (fs.take i)) f.terms):=by
      rintro w5 b e5 rfl
      refine callK_flw (need_flw (h7.ext (e4.trans e5)) _ 8 (by decide)) (fun w6 e6 h0=>?_) (fun w6 e6 h0=>?_)
      · rw [h0,orC_zero] at hF
        exact ⟨hrec4.ext (e5.trans e6),e4.trans (e5.trans e6),hF⟩
      · rw [orC_ne h0] at hF
        exact ⟨hrec4.ext (e5.trans e6),e4.trans (e5.trans e6),_,h0,rfl,hF.symm⟩
     cases hl:lastR (numR (fs.take i)) t.field with
     | none =>
      rw [hl] at fin
      simp (disch:=try exact DI) only [↓PR,QR,simprocAttr,↓n71c1,↓n71c2,↓n71c3,↓n71c4,↓n71c5,↓n71c6,↓n71c7,↓n71c8,(cells_of_heap o2).1,Option.map_none]
      exact fin _ _ ee rfl
     | some q =>
      obtain ⟨lo,hi⟩:=q
      rw [hl] at fin
      simp (disch:=try exact DI) only [↓PR,QR,simprocAttr,↓n71c1,↓n71c2,↓n71c3,↓n71c4,↓n71c5,↓n71c6,↓n71c7,↓n71c8,(cells_of_heap o2).1,rangeVal]
      exact fin _ _ ee rfl
   · rintro w3 ⟨e3,hF⟩ hmk
     rw [List.drop_length] at hF
     have l7:w7.heap.size < w3.heap.size:=(Array.getElem?_eq_some_iff.1 hmk).1
     rw [← hF]
     show n71c4 _ _ _ _ (flwR w0 at_ fld (orC 0 _)) w3
     rw [orC_zero]
     simp (disch:=try exact DI) only [↓PR,QR,simprocAttr,↓n71c1,↓n71c2,↓n71c3,↓n71c4,↓n71c5,↓n71c6,↓n71c7,↓n71c8,(cells_of_heap (e3.obj o3')).1,(cells_of_heap (e3.obj p4)).1]
     refine zcr (Interval_ret _ _ f.base f.terms m _ ⟨tv,rfl,TermsOf.ext hT (e07.trans e3)⟩ ht (hM7.ext e3)) fun w4 e4=>?_
     have s4:=e4.size
     have o2:=(e3.trans e4).obj o2'
     have l2:w0.heap.size < w4.heap.size:=(Array.getElem?_eq_some_iff.1 o2).1
     simp (disch:=try exact DI) only [↓PR,QR,simprocAttr,↓n71c1,↓n71c2,↓n71c3,↓n71c4,↓n71c5,↓n71c6,↓n71c7,↓n71c8,(cells_of_heap o2).1,rangeVal]
     have e5:Ext w3 (w4.alloc (Obj.cells #[.int .i64 (intervalL f.base f.terms (numR (fs.take i))),.int .i64 (intervalH f.base f.terms (numR (fs.take i)))] 223)):=e4.alloc _
     have s07:=e07.size
     refine callK_flw (need_flw (h7.ext (e3.trans e5)) (lenB f.base f.terms (numR (fs.take i))) 9 (by decide)) (fun w6 e6 h0=>?_) (fun w6 e6 h0=>?_)
     · refine outX_mark (hmk.ext (e5.trans e6)) ?_
       rw [outX_nil]
       exact flwR_ret (((e07.trans e3).trans (e5.trans e6)).putObj (by omega) _) h0
     · refine outQ_mark (hmk.ext (e5.trans e6)) ?_
       rw [outQ_nil]
       exact flwR_pan (((e07.trans e3).trans (e5.trans e6)).putObj (by omega) _) rfl h0
   · rintro c w3 h
     exact h.elim
   · rintro ch w3 ⟨e3,c,hc,rfl,hF⟩ hmk
     have l7:w7.heap.size < w3.heap.size:=(Array.getElem?_eq_some_iff.1 hmk).1
     rw [hF,orC_ne hc]
     refine outQ_mark hmk ?_
     rw [outQ_nil]
     exact flwR_pan (by have:=e07.size;exact ee) rfl hc
 · rw [orC_ne h0]
   exact flwR_pan (e0.wdrew.trans (e1.trans e2)) rfl h0
end
theorem ContainsFunc_Field_ret (w0:World) (v:Value) (l:List FieldD) (g:FuncId) (caps:Array Value) (p:FieldD→Bool) (hs:FieldsOf w0 v l) (hg:Callable Pg g) (hc:Tests w0 FieldVal g caps p l) :
 Ret Pg 97 #[v,.func (.func g) #[] caps] w0 fun r w'=>r = .bool (l.any p)∧Ext w0 w':=by
 refine n123s (R:=retR _) ?_;unfold n123
 refine callK_ret (IndexFunc_Field_ret _ _ l g caps p hs hg hc) ?_
 rintro r w' ⟨rfl,e⟩
 simp (disch:=try exact DI) only [↓PR,QR,simprocAttr,Sw.joinK_eq]
 exact ⟨by rw [idx_neg],e⟩
def taggedP (tag:ByteArray) (o:FieldD):Bool:=o.kind == 9&&decide (o.tag=tag)
theorem casesS1_ret (w0:World) (v:Value) (o f:FieldD) (pb:Nat) (tv cv:Value) (hv:FieldVal w0 v o) (hp:w0.heap[pb]?=some (.cells (fieldCells f tv cv).toArray 71 (0,0))) :
 Ret Pg 170 #[v,.pointer (some ⟨pb,0,none⟩)] w0 fun r w'=>r = .bool (taggedP f.tag o)∧Ext w0 w':=by
 obtain ⟨tv',cv',rfl,hT,hC,ht1,hc1⟩:=hv.op
 have hlt:=(Array.getElem?_eq_some_iff.1 hp).1
 refine n66s (R:=retR _) ?_;unfold n66
 simp (disch:=try exact DI) only [↓PR,QR,simprocAttr,Sw.joinK_eq,(cells_of_heap hp).1]
 exact ⟨by first | trivial | rfl,ee⟩
def casesL (hi:Int) (deps:List (ByteArray×Value)):Int→List CaseD→Int
 | _,[]=>0
 | low,x::xs=>orC (withinC hi low [x.low,x.high]) (orC (needC (lastOf deps x.of).isSome 8) (casesL hi deps (IntKind.i64.wrap (x.high+1)) xs))
def casesC (bef:List FieldD) (deps:List (ByteArray×Value)) (f:FieldD):Int :=
 orC (needC ((lastR (numR bef) f.tag).isSome&&!bef.any (taggedP f.tag)) 8) (orC (needC (decide (1≤(f.cases.length:Int))&&decide ((f.cases.length:Int)≤40)) 3) (casesL (((lastR (numR bef) f.tag).getD (0,0)).2) deps (((lastR (numR bef) f.tag).getD (0,0)).1) f.cases))
section
variable {w0:World} {cb md ms:Nat} {deps strs:List (ByteArray×Value)} {at_ fld:Int} {fs:List FieldD}
theorem cases_tail {a0:World} (e00:Ext a0 w0) (h:Chk w0 cb md ms deps strs at_ fld fs) (pf p4:Nat) (f:FieldD) (tv cv:Value) (lo hi:Int) (hC:CasesOf w0 cv f.cases) (o3:w0.heap[pf]?=some (.cells (fieldCells f tv cv).toArray 71 (0,0))) (o4:w0.heap[p4]?=some (.cells #[.int .i64 lo,.int .i64 hi] 223 (0,0))) :
 n65c4 (.pointer (some ⟨cb,0,none⟩)) (.pointer (some ⟨pf,0,none⟩)) (.pointer (some ⟨p4,0,none⟩)) (flwR a0 at_ fld (casesL hi deps lo f.cases)) w0:=by
 obtain ⟨A,c,rfl,hlc,hcm,hlm,hel⟩:=SliceOf.open hC
 simp (disch:=try exact DI) only [↓PR,QR,simprocAttr,↓n65c1,↓n65c2,↓n65c3,↓n65c4,↓n65c5,↓n65c6,↓n65c7,↓n65c8,↓n65c9,↓n65c10,↓n65c11,↓n65c12,↓n65c13,(cells_of_heap o3).1,(cells_of_heap o4).1]
 refine loop2_intro (fun a0 a1 w=>∃ (k:Nat) (n:Int),a0 = .int .i64 n∧a1 = .int .i64 (k:Int)∧k≤f.cases.length∧Ext w0 w∧casesL hi deps n (f.cases.drop k)=casesL hi deps lo f.cases) (fun a0 a1 _=>f.cases.length - (intOf a1).toNat) ⟨0,lo,rfl,rfl,Nat.zero_le _,ee,rfl⟩ ?_
 rintro _ _ w ⟨k,n,rfl,rfl,hk,e,hI⟩
 have se:=e.size
 rcases drop_cases hk with ⟨x,hx,hd,hlt,hdec⟩ | ⟨hk,hd,hdec⟩
 · obtain ⟨b,o,cs,rfl,hl,hA,rfl⟩:=hel k x hx
   have l4:p4 < w.heap.size:=(Array.getElem?_eq_some_iff.1 (e.obj o4)).1
   rw [hd] at hI
   simp only [casesL] at hI
   simp (disch:=try exact DI) only [↓PR,QR,simprocAttr,↓n65c1,↓n65c2,↓n65c3,↓n65c4,↓n65c5,↓n65c6,↓n65c7,↓n65c8,↓n65c9,↓n65c10,↓n65c11,↓n65c12,↓n65c13,hdec,hA.c3,(cells_of_heap (e.obj o4)).1]
   generalize hW:World.alloc (World.alloc w _) _=W
   have eW:Ext w W:=by rw [← hW];exact ee
   have o9:W.heap[w.heap.size]?=some (.cells #[.int .i64 x.low,.int .i64 x.high,.string x.of] 85 (0,0)):=by rw [← hW];simp (disch:=try exact DI) only [↓PR,QR,simprocAttr]
   have hIn:IntsOf W (.slice (some ⟨w.heap.size+1,0,none⟩) 2 2) [x.low,x.high]:=by rw [← hW];exact ints2 (by simp only [World.size_alloc]) _ _ _
   clear hW
   refine callK_flw (within_flw (h.ext (e.trans eW)) n hi _ _ hIn) (fun w1 e1 h0=>?_) (fun w1 e1 h0=>?_)
   · rw [h0,orC_zero] at hI
     have er1:=eW.trans e1
     simp (disch:=try exact DI) only [↓PR,QR,simprocAttr,↓n65c1,↓n65c2,↓n65c3,↓n65c4,↓n65c5,↓n65c6,↓n65c7,↓n65c8,↓n65c9,↓n65c10,↓n65c11,↓n65c12,↓n65c13,(cells_of_heap (e1.obj o9)).1]
     refine callK_flw (refer_flw (h.ext (e.trans er1)) x.of) (fun w2 e2 h0=>?_) (fun w2 e2 h0=>?_)
     · rw [h0,orC_zero] at hI
       simp (disch:=try exact DI) only [↓PR,QR,simprocAttr,↓n65c1,↓n65c2,↓n65c3,↓n65c4,↓n65c5,↓n65c6,↓n65c7,↓n65c8,↓n65c9,↓n65c10,↓n65c11,↓n65c12,↓n65c13,(cells_of_heap ((e1.trans e2).obj o9)).1]
       exact ⟨⟨k+1,_,rfl,rfl,by omega,ee,hI⟩,meas_lt (kd := .i64) hlt⟩
     · rw [orC_ne h0] at hI
       exact flwR_pan (e00.trans (e.trans (er1.trans e2))) hI.symm h0
   · rw [orC_ne h0] at hI
     exact flwR_pan (e00.trans (e.trans (eW.trans e1))) hI.symm h0
 · subst hk
   simp (disch:=try exact DI) only [↓PR,QR,simprocAttr,↓n65c1,↓n65c2,↓n65c3,↓n65c4,↓n65c5,↓n65c6,↓n65c7,↓n65c8,↓n65c9,↓n65c10,↓n65c11,↓n65c12,↓n65c13,hdec]
   rw [hd] at hI
   exact flwR_ret (e00.trans e) hI.symm
theorem cases_mid {a0:World} (e00:Ext a0 w0) (h:Chk w0 cb md ms deps strs at_ fld fs) (i:Nat) (hi:fld=i) (hlt:i < fs.length) (pf p4:Nat) (f:FieldD) (tv cv:Value) (lo hi':Int) (b:Bool) (hC:CasesOf w0 cv f.cases) (o3:w0.heap[pf]?=some (.cells (fieldCells f tv cv).toArray 71 (0,0))) (o4:w0.heap[p4]?=some (.cells #[.int .i64 lo,.int .i64 hi'] 223 (0,0)))
 (hb:b=(lastR (numR (fs.take i)) f.tag).isSome) (hlo:b=true→lo=((lastR (numR (fs.take i)) f.tag).getD (0,0)).1∧hi'=((lastR (numR (fs.take i)) f.tag).getD (0,0)).2) :
 n65c7 (.pointer (some ⟨cb,0,none⟩)) (.pointer (some ⟨pf,0,none⟩)) (.pointer (some ⟨p4,0,none⟩)) (.bool b) (flwR a0 at_ fld (casesC (fs.take i) deps f)) w0:=by
 unfold n65c7
 refine callK_ret (before_ret h i hi hlt) ?_
 rintro bv w1 ⟨hB,e1⟩
 simp (disch:=try exact DI) only [↓PR,QR,simprocAttr]
 refine callK_ret (ContainsFunc_Field_ret _ _ _ _ _ (taggedP f.tag) hB c170 ?_) ?_
 · intro w v o _ e hv
   exact casesS1_ret w v o f pf tv cv hv ((e1.trans e).obj o3)
 rintro _ w2 ⟨rfl,e2⟩
 have e12:=e1.trans e2
 simp (disch:=try exact DI) only [↓PR,QR,simprocAttr,↓n65c6]
 unfold casesC
 refine callK_flw (need_flw (h.ext e12) _ 8 (by decide)) (fun w3 e3 h0=>?_) (fun w3 e3 h0=>?_)
 · rw [← hb,h0,orC_zero]
   have hbt:b=true:=by
    cases b with
    | true=>rfl
    | false=>exact absurd h0 (by simp [needC])
   obtain ⟨h1,h2⟩:=hlo hbt
   rw [← h1,← h2]
   have e13:=e12.trans e3
   obtain ⟨A,c,rfl,_⟩:=SliceOf.open hC
   simp (disch:=try exact DI) only [↓PR,QR,simprocAttr,↓n65c5,(cells_of_heap (e13.obj o3)).1]
   refine callK_flw (need_flw (h.ext e13) _ 3 (by decide)) (fun w4 e4 h0=>?_) (fun w4 e4 h0=>?_)
   · rw [h0,orC_zero]
     have e14:=e13.trans e4
     exact cases_tail (e00.trans e14) (h.ext e14) pf p4 f tv _ lo hi' (CasesOf.ext hC e14) (e14.obj o3) (e14.obj o4)
   · rw [orC_ne h0]
     exact flwR_pan (e00.trans (e13.trans e4)) rfl h0
 · rw [← hb,orC_ne h0]
   exact flwR_pan (e00.trans (e12.trans e3)) rfl h0
theorem cases_flw (h:Chk w0 cb md ms deps strs at_ fld fs) (i:Nat) (hi:fld=i) (hlt:i < fs.length) (v:Value) (f:FieldD) (hf:FieldVal w0 v f):Calls Pg 159 #[.pointer (some ⟨cb,0,none⟩),v] w0 (flwR w0 at_ fld (casesC (fs.take i) deps f)):=by
 obtain ⟨tv,cv,rfl,hT,hC,ht1,hc1⟩:=hf.op
 refine n65s ?_;unfold n65
 simp (disch:=try exact DI) only [↓PR,QR,simprocAttr]
 generalize hW:World.alloc w0 _=W
 have e0:Ext w0 W:=by rw [← hW];exact ee
 have o3:W.heap[w0.heap.size]?=some (.cells (fieldCells f tv cv).toArray 71 (0,0)):=by rw [← hW];simp (disch:=try exact DI) only [↓PR,QR,simprocAttr]
 clear hW
 refine drawK_intro ?_
 simp (disch:=try exact DI) only [↓PR,QR,simprocAttr,↓n65c13,(cells_of_heap o3).1]
 have key:∀ w' p4 b lo hi',Ext W w'→w'.heap[p4]?=some (.cells #[.int .i64 lo,.int .i64 hi'] 223 (0,0))→b=(lastR (numR (fs.take i)) f.tag).isSome→(b=true→lo=((lastR (numR (fs.take i)) f.tag).getD (0,0)).1∧hi'=((lastR (numR (fs.take i)) f.tag).getD (0,0)).2) →
  n65c7 (.pointer (some ⟨cb,0,none⟩)) (.pointer (some ⟨w0.heap.size,0,none⟩)) (.pointer (some ⟨p4,0,none⟩)) (.bool b) (flwR w0 at_ fld (casesC (fs.take i) deps f)) w':=by
  intro w' p4 b lo hi' e o4 hb hlo
  exact cases_mid (e0.trans e) (h.ext (e0.trans e)) i hi hlt _ p4 f tv cv lo hi' b (CasesOf.ext hC (e0.trans e)) (e.obj o3) o4 hb hlo
 have eD:Ext W W.drew:=(Ext.refl W).wdrew
 have fin9:∀ (w2:World) (m p4:Nat) (u0 u1:Value),Ext W.drew w2→MapOf w2 m (RP (numR (fs.take i)))→w2.heap[p4]?=some (.cells #[u0,u1] 223 (0,0))→W.heap.size≤p4 →
  n65c9 (.pointer (some ⟨p4,0,none⟩)) (.map (some m)) (.string f.tag) (KL W.drew m (RP (numR (fs.take i)))) (fun t4 t5 w=>n65c7 (.pointer (some ⟨cb,0,none⟩)) (.pointer (some ⟨w0.heap.size,0,none⟩)) t4 t5 (flwR w0 at_ fld (casesC (fs.take i) deps f)) w) (flwR w0 at_ fld (casesC (fs.take i) deps f)) w2:=by
  intro w2 m p4 u0 u1 e2 hM o4 hp4
  haveI:ClassNe (KL W.drew m (RP (numR (fs.take i)))):=⟨⟨w2,e2,hM⟩⟩
  unfold n65c9
  rw [qV_lookupKL Tryz.underlying219 Tryz.underlying9 ty223 ⟨w2,e2,hM⟩,lastOf_RP]
  have hfin:∀ lo hi' b,b=(lastR (numR (fs.take i)) f.tag).isSome→(b=true→lo=((lastR (numR (fs.take i)) f.tag).getD (0,0)).1∧hi'=((lastR (numR (fs.take i)) f.tag).getD (0,0)).2) →
   KL W.drew m (RP (numR (fs.take i))) ((w2.setCell ⟨p4,0,none⟩ (.int .i64 lo)).setCell ⟨p4,1,none⟩ (.int .i64 hi'))∧n65c7 (.pointer (some ⟨cb,0,none⟩)) (.pointer (some ⟨w0.heap.size,0,none⟩)) (.pointer (some ⟨p4,0,none⟩)) (.bool b) (flwR w0 at_ fld (casesC (fs.take i) deps f)) ((w2.setCell ⟨p4,0,none⟩ (.int .i64 lo)).setCell ⟨p4,1,none⟩ (.int .i64 hi')):=by
   intro lo hi' b hb hlo
   have e3:Ext W.drew ((w2.setCell ⟨p4,0,none⟩ (.int .i64 lo)).setCell ⟨p4,1,none⟩ (.int .i64 hi')):=(e2.setCell (show W.drew.heap.size≤(⟨p4,0,none⟩:Addr).block from hp4) _).setCell (show W.drew.heap.size≤(⟨p4,1,none⟩:Addr).block from hp4) _
   refine ⟨⟨e3,(hM.setCell _ _).setCell _ _⟩,key _ p4 b lo hi' (eD.trans e3) ?_ hb hlo⟩
   have:=heap_set (o:=1) (heap_set (o:=0) o4 (.int .i64 lo)) (.int .i64 hi')
   simpa using this
  cases hl:lastR (numR (fs.take i)) f.tag with
  | none =>
   rw [hl] at hfin
   simp (disch:=try exact DI) only [↓PR,QR,simprocAttr,Option.map_none,(cells_of_heap o4).1,(cells_of_heap o4).2]
   exact hfin 0 0 false rfl (by simp)
  | some q =>
   obtain ⟨lo,hi'⟩:=q
   rw [hl] at hfin
   simp (disch:=try exact DI) only [↓PR,QR,simprocAttr,(cells_of_heap o4).1,(cells_of_heap o4).2,rangeVal]
   exact hfin lo hi' true rfl (fun _=>⟨rfl,rfl⟩)
 refine ⟨?_,?_⟩
 · refine callK_ret (before_ret (h.ext (e0.trans eD)) i hi hlt) ?_
   rintro bv w1 ⟨hB,e1⟩
   refine narrowK_same e1 ?_
   unfold n65c10
   refine ⟨?_,?_⟩
   · refine callK_ret (ranges_ret _ _ _ hB) ?_
     rintro _ w2 ⟨m,rfl,_,hM,e2⟩
     rw [numPairs_RP] at hM
     refine narrowK_KL (e1.trans e2) hM ?_
     unfold n65c8
     simp only [drew_wdrew]
     haveI:ClassNe (KL W.drew m (RP (numR (fs.take i)))):=⟨⟨w2,e1.trans e2,hM⟩⟩
     rw [qV_lookupKL Tryz.underlying219 Tryz.underlying9 ty223 ⟨w2,e1.trans e2,hM⟩]
     have h9:=fin9 (w2.alloc (.cells #[.int .i64 0,.int .i64 0] 223)) m w2.heap.size _ _ ((e1.trans e2).alloc _) (hM.ext ((Ext.refl _).alloc _)) (heap_new _ _ _) (by have:=(e1.trans e2).size;simpa using this)
     unfold n65c9 at h9
     rw [qV_lookupKL Tryz.underlying219 Tryz.underlying9 ty223 ⟨w2,e1.trans e2,hM⟩] at h9
     simp (disch:=try exact DI) only [↓PR,QR,simprocAttr]
     refine ⟨⟨(e1.trans e2).alloc _,hM.ext ((Ext.refl _).alloc _)⟩,?_⟩
     simp only [↓Sw.GENQ] at h9
     exact h9
   · simp (disch:=try exact DI) only [↓PR,QR,simprocAttr]
     refine ⟨e1.alloc _,?_⟩
     refine callK_ret (ranges_ret _ _ _ (FieldsOf.ext hB ((Ext.refl _).alloc _))) ?_
     rintro _ w2 ⟨m,rfl,_,hM,e2⟩
     rw [numPairs_RP] at hM
     have s1:=e1.size
     simp only [World.size_drew] at s1
     refine narrowK_KL ((e1.alloc _).trans e2) hM ?_
     exact fin9 w2 m w1.heap.size _ _ ((e1.alloc _).trans e2) hM (e2.obj (heap_new _ _ _)) s1
 · refine ⟨(Ext.refl _).alloc _,?_⟩
   unfold n65c12
   refine callK_ret (before_ret (h.ext ((e0.trans eD).alloc _)) i hi hlt) ?_
   rintro bv w1 ⟨hB,e1⟩
   refine narrowK_same (((Ext.refl _).alloc _).trans e1) ?_
   refine callK_ret (ranges_ret _ _ _ hB) ?_
   rintro _ w2 ⟨m,rfl,_,hM,e2⟩
   rw [numPairs_RP] at hM
   refine narrowK_KL (((Ext.refl _).alloc _).trans (e1.trans e2)) hM ?_
   exact fin9 w2 m W.heap.size _ _ (((Ext.refl _).alloc _).trans (e1.trans e2)) hM ((e1.trans e2).obj (heap_new W.drew _ _)) (Nat.le_refl _)
end
section
variable {w0:World} {cb md ms:Nat} {deps strs:List (ByteArray×Value)} {at_ fld:Int} {fs:List FieldD}
def topF (f:FieldD):Int:=2 ^ f.bits.toNat - 1
theorem top_wrap {f:FieldD} (h:bitsB f=true):0≤f.bits∧f.bits≤64∧IntKind.i64.wrap (IntKind.i64.wrap (1*2 ^ f.bits.toNat) - 1)=topF f:=by
 unfold bitsB at h
 simp only [Bool.and_eq_true,decide_eq_true_eq] at h
 obtain ⟨⟨h1,h2⟩,_⟩:=h
 have hc:(2:Int) ^ f.bits.toNat=((2 ^ f.bits.toNat:Nat):Int):=by simp
 have hp1:2 ^ f.bits.toNat≤2 ^ 32:=Nat.pow_le_pow_right (by decide) (by omega)
 have hp:(2:Int) ^ f.bits.toNat≤4294967296:=by rw [hc];omega
 have hp0:(0:Int) < 2 ^ f.bits.toNat:=Int.pow_pos (by decide)
 refine ⟨by omega,by omega,?_⟩
 unfold topF
 rw [Int.one_mul,show IntKind.i64.wrap (2 ^ f.bits.toNat)=2 ^ f.bits.toNat from wrap_ok (by omega) (by omega),wrap_ok (by omega) (by omega)]
theorem needC_zero {b:Bool} {c:Int} (hc:c≠0) (h:needC b c=0):b=true:=by
 cases b with
 | true=>rfl
 | false=>exact absurd h hc
theorem uint_flw (h:Chk w0 cb md ms deps strs at_ fld fs) (v:Value) (f:FieldD) (hf:FieldVal w0 v f):Calls Pg 140 #[.pointer (some ⟨cb,0,none⟩),v] w0 (flwR w0 at_ fld (orC (needC (bitsB f) 6) (withinC (topF f) 0 [f.low,f.high]))):=by
 obtain ⟨tv,cv,rfl,hT,hC,ht1,hc1⟩:=hf.op
 refine n89s ?_;unfold n89
 simp (disch:=try exact DI) only [↓PR,QR,simprocAttr]
 generalize hW:World.alloc w0 _=W
 have e0:Ext w0 W:=by rw [← hW];exact ee
 have o3:W.heap[w0.heap.size]?=some (.cells (fieldCells f tv cv).toArray 71 (0,0)):=by rw [← hW];simp (disch:=try exact DI) only [↓PR,QR,simprocAttr]
 clear hW
 simp (disch:=try exact DI) only [↓PR,QR,simprocAttr,(cells_of_heap o3).1]
 refine callK_flw (bits_flw (h.ext e0) _ f ⟨tv,cv,rfl,TermsOf.ext hT e0,CasesOf.ext hC e0⟩) (fun w1 e1 h0=>?_) (fun w1 e1 h0=>?_)
 · rw [h0,orC_zero]
   obtain ⟨ha,hb,hw⟩:=top_wrap (needC_zero (by decide) h0)
   have e01:=e0.trans e1
   have l1:w0.heap.size < w1.heap.size:=(Array.getElem?_eq_some_iff.1 (e1.obj o3)).1
   refine drawK_intro ?_
   simp (disch:=try exact DI) only [↓PR,QR,simprocAttr,↓n89c1,(cells_of_heap (e1.obj o3)).1,hw]
   generalize hW:World.alloc (World.drew w1) _=W2
   have eD:Ext w1.drew W2:=by rw [← hW];exact ee
   have hIn:IntsOf W2 (.slice (some ⟨w1.heap.size,0,none⟩) 2 2) [f.low,f.high]:=by rw [← hW];exact ints2 rfl _ _ _
   clear hW
   have eE:Ext w0 W2:=(e01.wdrew).trans eD
   refine ⟨eD,?_⟩
   refine callK_flw (within_flw (h.ext eE) 0 (topF f) _ _ hIn) (fun w2 e2 h0=>?_) (fun w2 e2 h0=>?_)
   · exact ⟨eD.trans e2,flwR_ret (eE.trans e2) h0⟩
   · exact flwR_pan (eE.trans e2) rfl h0
 · rw [orC_ne h0]
   exact flwR_pan (e0.trans e1) rfl h0
theorem const_flw (h:Chk w0 cb md ms deps strs at_ fld fs) (v:Value) (f:FieldD) (hf:FieldVal w0 v f):Calls Pg 144 #[.pointer (some ⟨cb,0,none⟩),v] w0 (flwR w0 at_ fld (orC (needC (bitsB f) 6) (withinC (topF f) 0 [f.low]))):=by
 obtain ⟨tv,cv,rfl,hT,hC,ht1,hc1⟩:=hf.op
 refine n94s ?_;unfold n94
 simp (disch:=try exact DI) only [↓PR,QR,simprocAttr]
 generalize hW:World.alloc w0 _=W
 have e0:Ext w0 W:=by rw [← hW];exact ee
 have o3:W.heap[w0.heap.size]?=some (.cells (fieldCells f tv cv).toArray 71 (0,0)):=by rw [← hW];simp (disch:=try exact DI) only [↓PR,QR,simprocAttr]
 clear hW
 simp (disch:=try exact DI) only [↓PR,QR,simprocAttr,(cells_of_heap o3).1]
 refine callK_flw (bits_flw (h.ext e0) _ f ⟨tv,cv,rfl,TermsOf.ext hT e0,CasesOf.ext hC e0⟩) (fun w1 e1 h0=>?_) (fun w1 e1 h0=>?_)
 · rw [h0,orC_zero]
   obtain ⟨ha,hb,hw⟩:=top_wrap (needC_zero (by decide) h0)
   have e01:=e0.trans e1
   have l1:w0.heap.size < w1.heap.size:=(Array.getElem?_eq_some_iff.1 (e1.obj o3)).1
   refine drawK_intro ?_
   simp (disch:=try exact DI) only [↓PR,QR,simprocAttr,↓n94c1,(cells_of_heap (e1.obj o3)).1,hw]
   generalize hW:World.alloc (World.drew w1) _=W2
   have eD:Ext w1.drew W2:=by rw [← hW];exact ee
   have hIn:IntsOf W2 (.slice (some ⟨w1.heap.size,0,none⟩) 1 1) [f.low]:=by rw [← hW];exact ints1 rfl _ _
   clear hW
   have eE:Ext w0 W2:=(e01.wdrew).trans eD
   refine ⟨eD,?_⟩
   refine callK_flw (within_flw (h.ext eE) 0 (topF f) _ _ hIn) (fun w2 e2 h0=>?_) (fun w2 e2 h0=>?_)
   · exact ⟨eD.trans e2,flwR_ret (eE.trans e2) h0⟩
   · exact flwR_pan (eE.trans e2) rfl h0
 · rw [orC_ne h0]
   exact flwR_pan (e0.trans e1) rfl h0
theorem varint_flw (h:Chk w0 cb md ms deps strs at_ fld fs) (v:Value) (f:FieldD) (hf:FieldVal w0 v f):Calls Pg 146 #[.pointer (some ⟨cb,0,none⟩),v] w0 (flwR w0 at_ fld (withinC 34359738367 0 [f.low,f.high])):=by
 obtain ⟨tv,cv,rfl,hT,hC,ht1,hc1⟩:=hf.op
 refine n96s ?_;unfold n96
 simp (disch:=try exact DI) only [↓PR,QR,simprocAttr]
 generalize hW:World.alloc (World.alloc w0 _) _=W
 have e0:Ext w0 W:=by rw [← hW];exact ee
 have o3:W.heap[w0.heap.size]?=some (.cells (fieldCells f tv cv).toArray 71 (0,0)):=by rw [← hW];simp (disch:=try exact DI) only [↓PR,QR,simprocAttr]
 have hIn:IntsOf W (.slice (some ⟨w0.heap.size+1,0,none⟩) 2 2) [f.low,f.high]:=by rw [← hW];exact ints2 (by simp only [World.size_alloc]) _ _ _
 clear hW
 refine callK_flw (within_flw (h.ext e0) 0 34359738367 _ _ hIn) (fun w1 e1 h0=>?_) (fun w1 e1 h0=>?_)
 · exact flwR_ret (e0.trans e1) h0
 · exact flwR_pan (e0.trans e1) rfl h0
theorem headers_flw (h:Chk w0 cb md ms deps strs at_ fld fs) (v:Value) (f:FieldD) (hf:FieldVal w0 v f):Calls Pg 152 #[.pointer (some ⟨cb,0,none⟩),v] w0 (flwR w0 at_ fld (withinC 1048576 2 [f.high])):=by
 obtain ⟨tv,cv,rfl,hT,hC,ht1,hc1⟩:=hf.op
 refine n80s ?_;unfold n80
 simp (disch:=try exact DI) only [↓PR,QR,simprocAttr]
 generalize hW:World.alloc (World.alloc w0 _) _=W
 have e0:Ext w0 W:=by rw [← hW];exact ee
 have o3:W.heap[w0.heap.size]?=some (.cells (fieldCells f tv cv).toArray 71 (0,0)):=by rw [← hW];simp (disch:=try exact DI) only [↓PR,QR,simprocAttr]
 have hIn:IntsOf W (.slice (some ⟨w0.heap.size+1,0,none⟩) 1 1) [f.high]:=by rw [← hW];exact ints1 (by simp only [World.size_alloc]) _ _
 clear hW
 refine callK_flw (within_flw (h.ext e0) 2 1048576 _ _ hIn) (fun w1 e1 h0=>?_) (fun w1 e1 h0=>?_)
 · exact flwR_ret (e0.trans e1) h0
 · exact flwR_pan (e0.trans e1) rfl h0
theorem until_flw (h:Chk w0 cb md ms deps strs at_ fld fs) (v:Value) (f:FieldD) (hf:FieldVal w0 v f):Calls Pg 150 #[.pointer (some ⟨cb,0,none⟩),v] w0 (flwR w0 at_ fld (orC (withinC 255 0 [f.low]) (withinC 1048576 0 [f.high]))):=by
 obtain ⟨tv,cv,rfl,hT,hC,ht1,hc1⟩:=hf.op
 refine n99s ?_;unfold n99
 simp (disch:=try exact DI) only [↓PR,QR,simprocAttr]
 generalize hW:World.alloc (World.alloc w0 _) _=W
 have e0:Ext w0 W:=by rw [← hW];exact ee
 have o3:W.heap[w0.heap.size]?=some (.cells (fieldCells f tv cv).toArray 71 (0,0)):=by rw [← hW];simp (disch:=try exact DI) only [↓PR,QR,simprocAttr]
 have hIn:IntsOf W (.slice (some ⟨w0.heap.size+1,0,none⟩) 1 1) [f.low]:=by rw [← hW];exact ints1 (by simp only [World.size_alloc]) _ _
 clear hW
 refine callK_flw (within_flw (h.ext e0) 0 255 _ _ hIn) (fun w1 e1 h0=>?_) (fun w1 e1 h0=>?_)
 · rw [h0,orC_zero]
   have e01:=e0.trans e1
   simp (disch:=try exact DI) only [↓PR,QR,simprocAttr,↓n99c1,(cells_of_heap (e1.obj o3)).1]
   refine callK_flw (within_flw ((h.ext e01).ext ((Ext.refl _).alloc _)) 0 1048576 _ _ (ints1 rfl _ _)) (fun w2 e2 h0=>?_) (fun w2 e2 h0=>?_)
   · exact flwR_ret ((e01.alloc _).trans e2) h0
   · exact flwR_pan ((e01.alloc _).trans e2) rfl h0
 · rw [orC_ne h0]
   exact flwR_pan (e0.trans e1) rfl h0
theorem message_flw (h:Chk w0 cb md ms deps strs at_ fld fs) (v:Value) (f:FieldD) (hf:FieldVal w0 v f):Calls Pg 157 #[.pointer (some ⟨cb,0,none⟩),v] w0 (flwR w0 at_ fld (needC (lastOf deps f.of).isSome 8)):=by
 obtain ⟨tv,cv,rfl,hT,hC,ht1,hc1⟩:=hf.op
 refine n84s ?_;unfold n84
 simp (disch:=try exact DI) only [↓PR,QR,simprocAttr]
 generalize hW:World.alloc w0 _=W
 have e0:Ext w0 W:=by rw [← hW];exact ee
 have o3:W.heap[w0.heap.size]?=some (.cells (fieldCells f tv cv).toArray 71 (0,0)):=by rw [← hW];simp (disch:=try exact DI) only [↓PR,QR,simprocAttr]
 clear hW
 simp (disch:=try exact DI) only [↓PR,QR,simprocAttr,(cells_of_heap o3).1]
 refine callK_flw (refer_flw (h.ext e0) f.of) (fun w1 e1 h0=>?_) (fun w1 e1 h0=>?_)
 · exact flwR_ret (e0.trans e1) h0
 · exact flwR_pan (e0.trans e1) rfl h0
theorem list_flw (h:Chk w0 cb md ms deps strs at_ fld fs) (i:Nat) (hi:fld=i) (hlt:i < fs.length) (v:Value) (f:FieldD) (hf:FieldVal w0 v f) (ht:f.terms.length≤1048576):Calls Pg 154 #[.pointer (some ⟨cb,0,none⟩),v] w0 (flwR w0 at_ fld (orC (needC (lastOf deps f.of).isSome 8) (sizedC (numR (fs.take i)) f))):=by
 obtain ⟨tv,cv,rfl,hT,hC,ht1,hc1⟩:=hf.op
 refine n82s ?_;unfold n82
 simp (disch:=try exact DI) only [↓PR,QR,simprocAttr]
 generalize hW:World.alloc w0 _=W
 have e0:Ext w0 W:=by rw [← hW];exact ee
 have o3:W.heap[w0.heap.size]?=some (.cells (fieldCells f tv cv).toArray 71 (0,0)):=by rw [← hW];simp (disch:=try exact DI) only [↓PR,QR,simprocAttr]
 clear hW
 simp (disch:=try exact DI) only [↓PR,QR,simprocAttr,(cells_of_heap o3).1]
 refine callK_flw (refer_flw (h.ext e0) f.of) (fun w1 e1 h0=>?_) (fun w1 e1 h0=>?_)
 · rw [h0,orC_zero]
   have e01:=e0.trans e1
   simp (disch:=try exact DI) only [↓PR,QR,simprocAttr,(cells_of_heap (e1.obj o3)).1]
   refine callK_flw (sized_flw (h.ext e01) i hi hlt _ f ⟨tv,cv,rfl,TermsOf.ext hT e01,CasesOf.ext hC e01⟩ ht) (fun w2 e2 h0=>?_) (fun w2 e2 h0=>?_)
   · exact flwR_ret (e01.trans e2) h0
   · exact flwR_pan (e01.trans e2) rfl h0
 · rw [orC_ne h0]
   exact flwR_pan (e0.trans e1) rfl h0
theorem view_flw (h:Chk w0 cb md ms deps strs at_ fld fs) (i:Nat) (hi:fld=i) (hlt:i < fs.length) (v:Value) (f:FieldD) (hf:FieldVal w0 v f) (ht:f.terms.length≤1048576):Calls Pg 165 #[.pointer (some ⟨cb,0,none⟩),v] w0 (flwR w0 at_ fld (orC (withinC 4294967295 0 [f.key]) (orC (needC (strB strs f.of) 8) (sizedC (numR (fs.take i)) f)))):=by
 obtain ⟨tv,cv,rfl,hT,hC,ht1,hc1⟩:=hf.op
 refine n92s ?_;unfold n92
 simp (disch:=try exact DI) only [↓PR,QR,simprocAttr]
 generalize hW:World.alloc (World.alloc w0 _) _=W
 have e0:Ext w0 W:=by rw [← hW];exact ee
 have o3:W.heap[w0.heap.size]?=some (.cells (fieldCells f tv cv).toArray 71 (0,0)):=by rw [← hW];simp (disch:=try exact DI) only [↓PR,QR,simprocAttr]
 have hIn:IntsOf W (.slice (some ⟨w0.heap.size+1,0,none⟩) 1 1) [f.key]:=by rw [← hW];exact ints1 (by simp only [World.size_alloc]) _ _
 clear hW
 refine callK_flw (within_flw (h.ext e0) 0 4294967295 _ _ hIn) (fun w1 e1 h0=>?_) (fun w1 e1 h0=>?_)
 · rw [h0,orC_zero]
   have e01:=e0.trans e1
   have h1:=h.ext e01.wdrew
   obtain ⟨⟨dn,mv,ds,mn,fv,k1,k2⟩,k3,k4,k5,k6⟩:=id h1
   refine drawK_intro ?_
   simp (disch:=try exact DI) only [↓PR,QR,simprocAttr,↓n92c1,(cells_of_heap (e1.obj o3)).1,(cells_of_heap k1).1]
   have k1':=(cells_of_heap k1).1
   simp only [World.cell?] at k1'
   rw [qV_lookup1E Tryz.underlying99 Tryz.underlying9 ty4 k4]
   rw [h1.strV f.of]
   refine callK_flw (need_flw h1 _ 8 (by decide)) (fun w2 e2 h0=>?_) (fun w2 e2 h0=>?_)
   · rw [h0,orC_zero]
     refine ⟨e2,?_⟩
     have e02:=(e01.wdrew).trans e2
     have e12:Ext W w2:=(e1.wdrew).trans e2
     simp (disch:=try exact DI) only [↓PR,QR,simprocAttr,(cells_of_heap (e12.obj o3)).1]
     refine callK_flw (sized_flw (h.ext e02) i hi hlt _ f ⟨tv,cv,rfl,TermsOf.ext hT e02,CasesOf.ext hC e02⟩ ht) (fun w3 e3 h0=>?_) (fun w3 e3 h0=>?_)
     · exact flwR_ret (e02.trans e3) h0
     · exact flwR_pan (e02.trans e3) rfl h0
   · rw [orC_ne h0]
     exact flwR_pan (e01.wdrew.trans e2) rfl h0
 · rw [orC_ne h0]
   exact flwR_pan (e0.trans e1) rfl h0
theorem check_flw (h:Chk w0 cb md ms deps strs at_ fld fs) (i:Nat) (hi:fld=i) (hlt:i < fs.length) (v:Value) (f:FieldD) (hf:FieldVal w0 v f):Calls Pg 163 #[.pointer (some ⟨cb,0,none⟩),v] w0 (flwR w0 at_ fld (orC (withinC 3 1 [f.check]) (needC ((fs.take i).any fun o=>decide (o.name=f.fr)) 8))):=by
 obtain ⟨tv,cv,rfl,hT,hC,ht1,hc1⟩:=hf.op
 refine n90s ?_;unfold n90
 simp (disch:=try exact DI) only [↓PR,QR,simprocAttr]
 generalize hW:World.alloc (World.alloc w0 _) _=W
 have e0:Ext w0 W:=by rw [← hW];exact ee
 have o3:W.heap[w0.heap.size]?=some (.cells (fieldCells f tv cv).toArray 71 (0,0)):=by rw [← hW];simp (disch:=try exact DI) only [↓PR,QR,simprocAttr]
 have hIn:IntsOf W (.slice (some ⟨w0.heap.size+1,0,none⟩) 1 1) [f.check]:=by rw [← hW];exact ints1 (by simp only [World.size_alloc]) _ _
 clear hW
 refine callK_flw (within_flw (h.ext e0) 1 3 _ _ hIn) (fun w1 e1 h0=>?_) (fun w1 e1 h0=>?_)
 · rw [h0,orC_zero]
   have e01:=e0.trans e1
   refine drawK_intro ?_
   simp (disch:=try exact DI) only [↓PR,QR,simprocAttr,↓n90c1,↓n90c2,(cells_of_heap (e1.obj o3)).1]
   refine callK_ret (before_ret (h.ext e01.wdrew) i hi hlt) ?_
   rintro bv w2 ⟨hB,e2⟩
   refine ⟨e2,?_⟩
   have hb1:=SliceOf.oneCell hB
   simp (disch:=try exact DI) only [↓PR,QR,simprocAttr,↓n90c1,↓n90c2]
   refine zcr (Field_ret w2 _ ⟨ByteArray.empty,fs.take i⟩ f.fr ⟨bv,rfl,hB⟩) fun w3 e3=>?_
   refine ⟨e2.trans e3,?_⟩
   simp (disch:=try exact DI) only [↓PR,QR,simprocAttr,↓n90c1,↓n90c2]
   have e03:=(e01.wdrew).trans (e2.trans e3)
   refine callK_flw (need_flw (h.ext e03) _ 8 (by decide)) (fun w4 e4 h0=>?_) (fun w4 e4 h0=>?_)
   · exact flwR_ret (e03.trans e4) h0
   · exact flwR_pan (e03.trans e4) rfl h0
 · rw [orC_ne h0]
   exact flwR_pan (e0.trans e1) rfl h0
def padB (f:FieldD):Bool:=(f.bits == 2)||(f.bits == 4)||(decide (8≤f.bits)&&decide (f.bits≤512)&&(f.bits.tmod 8 == 0))
theorem pad_flw (h:Chk w0 cb md ms deps strs at_ fld fs) (v:Value) (f:FieldD) (hf:FieldVal w0 v f):Calls Pg 161 #[.pointer (some ⟨cb,0,none⟩),v] w0 (flwR w0 at_ fld (needC (padB f) 6)):=by
 obtain ⟨tv,cv,rfl,hT,hC,ht1,hc1⟩:=hf.op
 refine n87s ?_;unfold n87
 simp (disch:=try exact DI) only [↓PR,QR,simprocAttr,↓n87c1,↓n87c2,↓n87c3,↓n87c4]
 have e0:Ext w0 (w0.alloc (Obj.cells (fieldCells f tv cv).toArray 71)):=ee
 have fin:∀ b,b=padB f→callK Pg 105 #[.pointer (some ⟨cb,0,none⟩),.bool b,.int .i64 6] (panK (flwR w0 at_ fld (needC (padB f) 6))) (w0.alloc (Obj.cells (fieldCells f tv cv).toArray 71)) (fun _ w=>flwR w0 at_ fld (needC (padB f) 6) (.returned (.tuple #[])) w):=by
  rintro b rfl
  exact callK_flw (need_flw (h.ext e0) _ 6 (by decide)) (fun w' e1 h0=>flwR_ret (e0.trans e1) h0) (fun w' e1 h0=>flwR_pan (e0.trans e1) rfl h0)
 unfold padB at fin ⊢
 generalize (f.bits == 2)=b1 at fin ⊢
 generalize (f.bits == 4)=b2 at fin ⊢
 generalize decide (8≤f.bits)=b3 at fin ⊢
 generalize decide (f.bits≤512)=b4 at fin ⊢
 cases b1<;>cases b2<;>cases b3<;>cases b4<;>simp (disch:=try exact DI) only [↓PR,QR,simprocAttr,↓n87c1,↓n87c2,↓n87c3,↓n87c4]<;>first | exact fin _ rfl | exact fin _ (by simp)
end
theorem eq_Term (x y:TermD):(decide (x.field=y.field)&&decide (x.factor=y.factor))=decide (x=y):=by
 cases x;cases y
 rw [Bool.eq_iff_iff]
 simp
theorem Equal_Term_ret (w0:World) (v u:Value) (l m:List TermD) (hl:TermsOf w0 v l) (hm:TermsOf w0 u m) :
 Ret Pg 79 #[v,u] w0 fun r w'=>r = .bool (decide (l=m))∧Ext w0 w':=by
 obtain ⟨A,c,rfl,hlc,hcm,hlm,hel⟩:=SliceOf.open hl
 obtain ⟨A',c',rfl,hlc',hcm',hlm',hel'⟩:=SliceOf.open hm
 refine n130s (R:=retR _) ?_;unfold n130
 simp (disch:=try exact DI) only [↓PR,QR,simprocAttr]
 by_cases hlen:l.length=m.length
 · have hne:((l.length:Int) != (m.length:Int))=false:=by simp [hlen]
   simp (disch:=try exact DI) only [↓PR,QR,simprocAttr,↓n130c1,↓n130c2,hne]
   refine loop1_intro (fun a0 w=>∃ (k:Nat) , a0 = .int .i64 (k:Int)∧k≤l.length∧Ext w0 w∧l.take k=m.take k) (fun a0 _=>l.length - (intOf a0).toNat) ⟨0,rfl,Nat.zero_le _,ee,rfl⟩ ?_
   rintro _ w ⟨k,rfl,hk,e,hI⟩
   have se:=e.size
   rcases drop_cases hk with ⟨x,hx,hd,hlt,hdec⟩ | ⟨hk,hd,hdec⟩
   · obtain ⟨b,o,cs,rfl,_,hA,rfl⟩:=hel k x hx
     obtain ⟨y,hy⟩:=getElem?_lt (l:=m) (k:=k) (by omega)
     obtain ⟨b',o',cs',rfl,_,hA',rfl⟩:=hel' k y hy
     have hlt':k < m.length:=by omega
     have eD:Ext w0 w.drew:=e.wdrew
     simp (disch:=try exact DI) only [↓PR,QR,simprocAttr,↓n130c1,↓n130c2,hdec]
     refine drawK_intro ?_
     simp (disch:=try exact DI) only [↓PR,QR,simprocAttr,↓n130c1,↓n130c2,hA.c2,hA'.c2]
     rw [eq_Term]
     by_cases hxy:x=y
     · subst hxy
       simp only [decide_true,Bool.not_true]
       simp (disch:=try exact DI) only [↓PR,QR,simprocAttr,↓n130c1,↓n130c2]
       exact ⟨⟨k+1,rfl,by omega,ee,by rw [List.take_add_one,List.take_add_one,hx,hy,hI]⟩,meas_lt (kd := .i64) hlt⟩
     · simp only [hxy,decide_false,Bool.not_false]
       simp (disch:=try exact DI) only [↓PR,QR,simprocAttr,↓n130c1,↓n130c2]
       refine ⟨?_,eD⟩
       have hne':¬ l=m:=by
        rintro rfl
        rw [hx] at hy
        injection hy with hy
        exact hxy hy
       simp [hne']
   · subst hk
     simp (disch:=try exact DI) only [↓PR,QR,simprocAttr,↓n130c1,↓n130c2,hdec]
     rw [List.take_length,hlen,List.take_length] at hI
     exact ⟨by simp [hI],e⟩
 · have hne:((l.length:Int) != (m.length:Int))=true:=by simp;omega
   simp (disch:=try exact DI) only [↓PR,QR,simprocAttr,↓n130c1,↓n130c2,hne]
   have hne':¬ l=m:=fun h=>hlen (by rw [h])
   exact ⟨by simp [hne'],Ext.refl _⟩
theorem eq_Case (x y:CaseD):(decide (x.low=y.low)&&(decide (x.high=y.high)&&decide (x.of=y.of)))=decide (x=y):=by
 cases x;cases y
 rw [Bool.eq_iff_iff]
 simp
theorem Equal_Case_ret (w0:World) (v u:Value) (l m:List CaseD) (hl:CasesOf w0 v l) (hm:CasesOf w0 u m) :
 Ret Pg 80 #[v,u] w0 fun r w'=>r = .bool (decide (l=m))∧Ext w0 w':=by
 obtain ⟨A,c,rfl,hlc,hcm,hlm,hel⟩:=SliceOf.open hl
 obtain ⟨A',c',rfl,hlc',hcm',hlm',hel'⟩:=SliceOf.open hm
 refine n129s (R:=retR _) ?_;unfold n129
 simp (disch:=try exact DI) only [↓PR,QR,simprocAttr]
 by_cases hlen:l.length=m.length
 · have hne:((l.length:Int) != (m.length:Int))=false:=by simp [hlen]
   simp (disch:=try exact DI) only [↓PR,QR,simprocAttr,↓n129c1,↓n129c2,hne]
   refine loop1_intro (fun a0 w=>∃ (k:Nat) , a0 = .int .i64 (k:Int)∧k≤l.length∧Ext w0 w∧l.take k=m.take k) (fun a0 _=>l.length - (intOf a0).toNat) ⟨0,rfl,Nat.zero_le _,ee,rfl⟩ ?_
   rintro _ w ⟨k,rfl,hk,e,hI⟩
   have se:=e.size
   rcases drop_cases hk with ⟨x,hx,hd,hlt,hdec⟩ | ⟨hk,hd,hdec⟩
   · obtain ⟨b,o,cs,rfl,_,hA,rfl⟩:=hel k x hx
     obtain ⟨y,hy⟩:=getElem?_lt (l:=m) (k:=k) (by omega)
     obtain ⟨b',o',cs',rfl,_,hA',rfl⟩:=hel' k y hy
     have hlt':k < m.length:=by omega
     have eD:Ext w0 w.drew:=e.wdrew
     simp (disch:=try exact DI) only [↓PR,QR,simprocAttr,↓n129c1,↓n129c2,hdec]
     refine drawK_intro ?_
     simp (disch:=try exact DI) only [↓PR,QR,simprocAttr,↓n129c1,↓n129c2,hA.c3,hA'.c3]
     rw [eq_Case]
     by_cases hxy:x=y
     · subst hxy
       simp only [decide_true,Bool.not_true]
       simp (disch:=try exact DI) only [↓PR,QR,simprocAttr,↓n129c1,↓n129c2]
       exact ⟨⟨k+1,rfl,by omega,ee,by rw [List.take_add_one,List.take_add_one,hx,hy,hI]⟩,meas_lt (kd := .i64) hlt⟩
     · simp only [hxy,decide_false,Bool.not_false]
       simp (disch:=try exact DI) only [↓PR,QR,simprocAttr,↓n129c1,↓n129c2]
       refine ⟨?_,eD⟩
       have hne':¬ l=m:=by
        rintro rfl
        rw [hx] at hy
        injection hy with hy
        exact hxy hy
       simp [hne']
   · subst hk
     simp (disch:=try exact DI) only [↓PR,QR,simprocAttr,↓n129c1,↓n129c2,hdec]
     rw [List.take_length,hlen,List.take_length] at hI
     exact ⟨by simp [hI],e⟩
 · have hne:((l.length:Int) != (m.length:Int))=true:=by simp;omega
   simp (disch:=try exact DI) only [↓PR,QR,simprocAttr,↓n129c1,↓n129c2,hne]
   have hne':¬ l=m:=fun h=>hlen (by rw [h])
   exact ⟨by simp [hne'],Ext.refl _⟩
abbrev partsVal (f:FieldD):Value := .agg #[.string f.name,.string f.of,.string f.tag,.string f.fr,.int .i64 f.kind,.int .i64 f.bits,.int .i64 f.low,.int .i64 f.high,.int .i64 f.base,.int .i64 f.check,.int .i64 f.key,.bool f.little,.bool f.loose]
theorem parts_ret (w0:World) (v:Value) (f:FieldD) (hf:FieldVal w0 v f):Ret Pg 78 #[v] w0 fun r w'=>r=partsVal f∧Ext w0 w':=by
 obtain ⟨tv,cv,rfl,hT,hC,ht1,hc1⟩:=hf.op
 refine n100s (R:=retR _) ?_;unfold n100
 simp (disch:=try exact DI) only [↓PR,QR,simprocAttr,Sw.joinK_eq]
 exact ⟨by first | trivial | rfl,ee⟩
theorem sameField_ret (w0:World) (v u:Value) (f g:FieldD) (hf:FieldVal w0 v f) (hg:FieldVal w0 u g):Ret Pg 59 #[v,u] w0 fun r w'=>r = .bool (decide (f=g))∧Ext w0 w':=by
 obtain ⟨tv,cv,rfl,hT,hC,ht1,hc1⟩:=hf.op
 obtain ⟨tv',cv',rfl,hT',hC',ht1',hc1'⟩:=hg.op
 refine n102s (R:=retR _) ?_;unfold n102
 simp (disch:=try exact DI) only [↓PR,QR,simprocAttr]
 generalize hW:World.alloc (World.alloc w0 _) _=W
 have e0:Ext w0 W:=by rw [← hW];exact ee
 have o3:W.heap[w0.heap.size]?=some (.cells (fieldCells f tv cv).toArray 71 (0,0)):=by rw [← hW];simp (disch:=try exact DI) only [↓PR,QR,simprocAttr]
 have o4:W.heap[w0.heap.size+1]?=some (.cells (fieldCells g tv' cv').toArray 71 (0,0)):=by rw [← hW];simp (disch:=try exact DI) only [↓PR,QR,simprocAttr]
 clear hW
 simp only [World.size_alloc]
 refine drawK_intro ?_
 have eD:Ext w0 W.drew:=e0.wdrew
 simp (disch:=try exact DI) only [↓PR,QR,simprocAttr,↓n102c1,↓n102c2,↓n102c3,(cells_of_heap o3).1,(cells_of_heap o4).1]
 refine zcr (parts_ret _ _ f ⟨tv,cv,rfl,TermsOf.ext hT eD,CasesOf.ext hC eD⟩) fun w1 e1=>?_
 refine ⟨e1,?_⟩
 have eD1:=eD.trans e1
 refine zcr (parts_ret _ _ g ⟨tv',cv',rfl,TermsOf.ext hT' eD1,CasesOf.ext hC' eD1⟩) fun w2 e2=>?_
 refine ⟨e1.trans e2,?_⟩
 simp (disch:=try exact DI) only [↓PR,QR,simprocAttr,↓n102c1,↓n102c2,↓n102c3,(cells_of_heap o3).1,(cells_of_heap o4).1]
 have eW2:Ext W w2:=(Ext.refl W).wdrew.trans (e1.trans e2)
 generalize hb:(_&&_:Bool)=b1
 cases b1 with
 | false =>
  simp (disch:=try exact DI) only [↓PR,QR,simprocAttr,↓n102c1,↓n102c2,↓n102c3]
  refine ⟨?_,e0.trans eW2⟩
  have hne:¬ f=g:=by
   rintro rfl
   simp at hb
  simp [hne]
 | true =>
  have hbt:=hb
  simp only [Bool.and_eq_true,decide_eq_true_eq] at hb
  obtain ⟨h1,h2,h3,h4,h5,h6,h7,h8,h9,h10,h11,h12,h13⟩:=hb
  simp (disch:=try exact DI) only [↓PR,QR,simprocAttr,↓n102c1,↓n102c2,↓n102c3,(cells_of_heap o3).1,(cells_of_heap o4).1]
  refine zcr (Equal_Term_ret _ _ _ _ _ (TermsOf.ext hT (e0.trans eW2)) (TermsOf.ext hT' (e0.trans eW2))) fun w3 e3=>?_
  refine ⟨(e1.trans e2).trans e3,?_⟩
  have eW3:=eW2.trans e3
  by_cases ht:f.terms=g.terms
  · simp only [ht,decide_true]
    simp (disch:=try exact DI) only [↓PR,QR,simprocAttr,↓n102c1,↓n102c2,↓n102c3,hbt,(cells_of_heap o3).1,(cells_of_heap o4).1]
    refine zcr (Equal_Case_ret _ _ _ _ _ (CasesOf.ext hC (e0.trans eW3)) (CasesOf.ext hC' (e0.trans eW3))) fun w4 e4=>?_
    refine ⟨((e1.trans e2).trans e3).trans e4,?_⟩
    simp (disch:=try exact DI) only [↓PR,QR,simprocAttr,↓n102c1,↓n102c2,↓n102c3]
    refine ⟨?_,e0.trans (eW3.trans e4)⟩
    congr 1
    rw [Bool.eq_iff_iff]
    simp only [decide_eq_true_eq]
    constructor
    · intro hc;cases f;cases g;simp_all
    · rintro rfl;rfl
  · simp only [ht,decide_false]
    simp (disch:=try exact DI) only [↓PR,QR,simprocAttr,↓n102c1,↓n102c2,↓n102c3,hbt]
    refine ⟨?_,e0.trans eW3⟩
    have hne:¬ f=g:=by rintro rfl;exact ht rfl
    simp [hne]
def Clears (g:FuncId) (cl:FieldD→FieldD) (ct cc:Bool):Prop:=∀ (w:World) (p:Nat) (f:FieldD) (tv cv:Value),tv.oneCell'=true→cv.oneCell'=true→w.heap[p]?=some (.cells (fieldCells f tv cv).toArray 71 (0,0)) →
 Ret Pg g #[.pointer (some ⟨p,0,none⟩)] w fun _ w'=>w'.heap[p]?=some (.cells (fieldCells (cl f) (if ct then .slice none 0 0 else tv) (if cc then .slice none 0 0 else cv)).toArray 71 (0,0))∧∀ a,Ext a w→a.heap.size≤p→Ext a w'
def clear1 (f:FieldD):FieldD:={ f with bits:=0,little:=false,low:=0,high:=0 }
theorem clears1:Clears 139 clear1 false false:=by
 intro w p f tv cv ht1 hc1 hp
 have hlt:=(Array.getElem?_eq_some_iff.1 hp).1
 refine n78s (R:=retR _) ?_;unfold n78
 simp (disch:=try exact DI) only [↓PR,QR,simprocAttr,Sw.joinK_eq,(cells_of_heap hp).1,(cells_of_heap hp).2]
 refine ⟨?_,fun a e hp'=>?_⟩
 · simp only [heap_set_map,hp,Option.map_some,setObj_cells,List.setIfInBounds_toArray,List.set_cons_zero,List.set_cons_succ,Bool.false_eq_true,if_false,if_true]
   try rfl
 · exact ee
def clear2 (f:FieldD):FieldD:={ f with bits:=0,little:=false,low:=0 }
theorem clears2:Clears 143 clear2 false false:=by
 intro w p f tv cv ht1 hc1 hp
 have hlt:=(Array.getElem?_eq_some_iff.1 hp).1
 refine n93s (R:=retR _) ?_;unfold n93
 simp (disch:=try exact DI) only [↓PR,QR,simprocAttr,Sw.joinK_eq,(cells_of_heap hp).1,(cells_of_heap hp).2]
 refine ⟨?_,fun a e hp'=>?_⟩
 · simp only [heap_set_map,hp,Option.map_some,setObj_cells,List.setIfInBounds_toArray,List.set_cons_zero,List.set_cons_succ,Bool.false_eq_true,if_false,if_true]
   try rfl
 · exact ee
def clear3 (f:FieldD):FieldD:={ f with loose:=false,low:=0,high:=0 }
theorem clears3:Clears 145 clear3 false false:=by
 intro w p f tv cv ht1 hc1 hp
 have hlt:=(Array.getElem?_eq_some_iff.1 hp).1
 refine n95s (R:=retR _) ?_;unfold n95
 simp (disch:=try exact DI) only [↓PR,QR,simprocAttr,Sw.joinK_eq,(cells_of_heap hp).1,(cells_of_heap hp).2]
 refine ⟨?_,fun a e hp'=>?_⟩
 · simp only [heap_set_map,hp,Option.map_some,setObj_cells,List.setIfInBounds_toArray,List.set_cons_zero,List.set_cons_succ,Bool.false_eq_true,if_false,if_true]
   try rfl
 · exact ee
def clear4 (f:FieldD):FieldD:={ f with base:=0,terms:=[] }
theorem clears4:Clears 147 clear4 true false:=by
 intro w p f tv cv ht1 hc1 hp
 have hlt:=(Array.getElem?_eq_some_iff.1 hp).1
 refine n97s (R:=retR _) ?_;unfold n97
 simp (disch:=try exact DI) only [↓PR,QR,simprocAttr,Sw.joinK_eq,(cells_of_heap hp).1,(cells_of_heap hp).2]
 refine ⟨?_,fun a e hp'=>?_⟩
 · simp only [heap_set_map,hp,Option.map_some,setObj_cells,List.setIfInBounds_toArray,List.set_cons_zero,List.set_cons_succ,Bool.false_eq_true,if_false,if_true]
   try rfl
 · exact ee
def clear5 (f:FieldD):FieldD:={ f with low:=0,high:=0 }
theorem clears5:Clears 149 clear5 false false:=by
 intro w p f tv cv ht1 hc1 hp
 have hlt:=(Array.getElem?_eq_some_iff.1 hp).1
 refine n98s (R:=retR _) ?_;unfold n98
 simp (disch:=try exact DI) only [↓PR,QR,simprocAttr,Sw.joinK_eq,(cells_of_heap hp).1,(cells_of_heap hp).2]
 refine ⟨?_,fun a e hp'=>?_⟩
 · simp only [heap_set_map,hp,Option.map_some,setObj_cells,List.setIfInBounds_toArray,List.set_cons_zero,List.set_cons_succ,Bool.false_eq_true,if_false,if_true]
   try rfl
 · exact ee
def clear6 (f:FieldD):FieldD:={ f with loose:=false,high:=0 }
theorem clears6:Clears 151 clear6 false false:=by
 intro w p f tv cv ht1 hc1 hp
 have hlt:=(Array.getElem?_eq_some_iff.1 hp).1
 refine n79s (R:=retR _) ?_;unfold n79
 simp (disch:=try exact DI) only [↓PR,QR,simprocAttr,Sw.joinK_eq,(cells_of_heap hp).1,(cells_of_heap hp).2]
 refine ⟨?_,fun a e hp'=>?_⟩
 · simp only [heap_set_map,hp,Option.map_some,setObj_cells,List.setIfInBounds_toArray,List.set_cons_zero,List.set_cons_succ,Bool.false_eq_true,if_false,if_true]
   try rfl
 · exact ee
def clear7 (f:FieldD):FieldD:={ f with of:=ByteArray.empty,base:=0,terms:=[] }
theorem clears7:Clears 153 clear7 true false:=by
 intro w p f tv cv ht1 hc1 hp
 have hlt:=(Array.getElem?_eq_some_iff.1 hp).1
 refine n81s (R:=retR _) ?_;unfold n81
 simp (disch:=try exact DI) only [↓PR,QR,simprocAttr,Sw.joinK_eq,(cells_of_heap hp).1,(cells_of_heap hp).2]
 refine ⟨?_,fun a e hp'=>?_⟩
 · simp only [heap_set_map,hp,Option.map_some,setObj_cells,List.setIfInBounds_toArray,List.set_cons_zero,List.set_cons_succ,Bool.false_eq_true,if_false,if_true]
   try rfl
 · exact ee
def clear8 (f:FieldD):FieldD:={ f with of:=ByteArray.empty }
theorem clears8:Clears 156 clear8 false false:=by
 intro w p f tv cv ht1 hc1 hp
 have hlt:=(Array.getElem?_eq_some_iff.1 hp).1
 refine n83s (R:=retR _) ?_;unfold n83
 simp (disch:=try exact DI) only [↓PR,QR,simprocAttr,Sw.joinK_eq,(cells_of_heap hp).1,(cells_of_heap hp).2]
 refine ⟨?_,fun a e hp'=>?_⟩
 · simp only [heap_set_map,hp,Option.map_some,setObj_cells,List.setIfInBounds_toArray,List.set_cons_zero,List.set_cons_succ,Bool.false_eq_true,if_false,if_true]
   try rfl
 · exact ee
def clear9 (f:FieldD):FieldD:={ f with tag:=ByteArray.empty,cases:=[] }
theorem clears9:Clears 158 clear9 false true:=by
 intro w p f tv cv ht1 hc1 hp
 have hlt:=(Array.getElem?_eq_some_iff.1 hp).1
 refine n85s (R:=retR _) ?_;unfold n85
 simp (disch:=try exact DI) only [↓PR,QR,simprocAttr,Sw.joinK_eq,(cells_of_heap hp).1,(cells_of_heap hp).2]
 refine ⟨?_,fun a e hp'=>?_⟩
 · simp only [heap_set_map,hp,Option.map_some,setObj_cells,List.setIfInBounds_toArray,List.set_cons_zero,List.set_cons_succ,Bool.false_eq_true,if_false,if_true]
   try rfl
 · exact ee
def clear10 (f:FieldD):FieldD:={ f with bits:=0 }
theorem clears10:Clears 160 clear10 false false:=by
 intro w p f tv cv ht1 hc1 hp
 have hlt:=(Array.getElem?_eq_some_iff.1 hp).1
 refine n86s (R:=retR _) ?_;unfold n86
 simp (disch:=try exact DI) only [↓PR,QR,simprocAttr,Sw.joinK_eq,(cells_of_heap hp).1,(cells_of_heap hp).2]
 refine ⟨?_,fun a e hp'=>?_⟩
 · simp only [heap_set_map,hp,Option.map_some,setObj_cells,List.setIfInBounds_toArray,List.set_cons_zero,List.set_cons_succ,Bool.false_eq_true,if_false,if_true]
   try rfl
 · exact ee
def clear11 (f:FieldD):FieldD:={ f with fr:=ByteArray.empty,check:=0 }
theorem clears11:Clears 162 clear11 false false:=by
 intro w p f tv cv ht1 hc1 hp
 have hlt:=(Array.getElem?_eq_some_iff.1 hp).1
 refine n88s (R:=retR _) ?_;unfold n88
 simp (disch:=try exact DI) only [↓PR,QR,simprocAttr,Sw.joinK_eq,(cells_of_heap hp).1,(cells_of_heap hp).2]
 refine ⟨?_,fun a e hp'=>?_⟩
 · simp only [heap_set_map,hp,Option.map_some,setObj_cells,List.setIfInBounds_toArray,List.set_cons_zero,List.set_cons_succ,Bool.false_eq_true,if_false,if_true]
   try rfl
 · exact ee
def clear12 (f:FieldD):FieldD:={ f with of:=ByteArray.empty,base:=0,terms:=[],key:=0 }
theorem clears12:Clears 164 clear12 true false:=by
 intro w p f tv cv ht1 hc1 hp
 have hlt:=(Array.getElem?_eq_some_iff.1 hp).1
 refine n91s (R:=retR _) ?_;unfold n91
 simp (disch:=try exact DI) only [↓PR,QR,simprocAttr,Sw.joinK_eq,(cells_of_heap hp).1,(cells_of_heap hp).2]
 refine ⟨?_,fun a e hp'=>?_⟩
 · simp only [heap_set_map,hp,Option.map_some,setObj_cells,List.setIfInBounds_toArray,List.set_cons_zero,List.set_cons_succ,Bool.false_eq_true,if_false,if_true]
   try rfl
 · exact ee
abbrev kindEnc:Int→Value:=fun n => .int .i64 n
def KindsIn (L:List (Int×Value×Nat)):Prop:=(∀ k,¬ (1≤k∧k≤12)→Sw.look L k=none)∧Sw.look L 1=some (.agg #[.func (.func 139) #[] #[],.func (.func 140) #[] #[]])∧Sw.look L 2=some (.agg #[.func (.func 143) #[] #[],.func (.func 144) #[] #[]])∧Sw.look L 3=some (.agg #[.func (.func 145) #[] #[],.func (.func 146) #[] #[]])∧Sw.look L 4=some (.agg #[.func (.func 147) #[] #[],.func (.func 148) #[] #[]])∧Sw.look L 5=some (.agg #[.func (.func 149) #[] #[],.func (.func 150) #[] #[]])∧Sw.look L 6=some (.agg #[.func (.func 151) #[] #[],.func (.func 152) #[] #[]])∧Sw.look L 7=some (.agg #[.func (.func 153) #[] #[],.func (.func 154) #[] #[]])∧Sw.look L 8=some (.agg #[.func (.func 156) #[] #[],.func (.func 157) #[] #[]])∧Sw.look L 9=some (.agg #[.func (.func 158) #[] #[],.func (.func 159) #[] #[]])∧Sw.look L 10=some (.agg #[.func (.func 160) #[] #[],.func (.func 161) #[] #[]])∧Sw.look L 11=some (.agg #[.func (.func 162) #[] #[],.func (.func 163) #[] #[]])∧Sw.look L 12=some (.agg #[.func (.func 164) #[] #[],.func (.func 165) #[] #[]])
theorem kind_step {w0 w:World} {m c:Nat} {L:List (Int×Value×Nat)} {QP:List PanicEntry→World→Prop} {ku:World→Prop} (hM:MapB w m kindEnc L c) (e:Ext w0 w) (hm:w0.heap.size≤m) (k:Int) (v:Value)
 (h:∀ w' L' c',MapB w' m kindEnc L' c'→(∀ k',Sw.look L' k'=if k'=k then some v else Sw.look L k')→Ext w0 w'→ku w'):opU Pg (Instr.mapUpdate 210 (.map (some m)) (.int .i64 k) v) QP w ku:=by
 rw [op_mapUpdate Tryz.underlying210 (KeyOK.int Tryz.underlying65) hM k v]
 exact h _ _ _ (hM.put k v) (fun k'=>look_put _ _ _ _ _) (e.putObj hm _)
theorem kinds_ret (w0:World):Ret Pg 135 #[] w0 fun r w'=>∃ m L c,r = .map (some m)∧w0.heap.size≤m∧MapB w' m kindEnc L c∧KindsIn L∧Ext w0 w':=by
 refine n77s (R:=retR _) ?_;unfold n77
 simp (disch:=try exact DI) only [↓PR,QR,simprocAttr]
 have hM0:MapB (w0.alloc (.map #[] 0)) w0.heap.size kindEnc [] 0:=MapB.new w0 _
 have e0:Ext w0 (w0.alloc (.map #[] 0)):=ee
 refine kind_step hM0 e0 (Nat.le_refl _) 1 _ (fun w1 L1 c1 hM1 hl1 e1=>?_)
 simp (disch:=try exact DI) only [↓PR,QR,simprocAttr]
 refine kind_step hM1 e1 (Nat.le_refl _) 2 _ (fun w2 L2 c2 hM2 hl2 e2=>?_)
 simp (disch:=try exact DI) only [↓PR,QR,simprocAttr]
 refine kind_step hM2 e2 (Nat.le_refl _) 3 _ (fun w3 L3 c3 hM3 hl3 e3=>?_)
 simp (disch:=try exact DI) only [↓PR,QR,simprocAttr]
 refine kind_step hM3 e3 (Nat.le_refl _) 4 _ (fun w4 L4 c4 hM4 hl4 e4=>?_)
 simp (disch:=try exact DI) only [↓PR,QR,simprocAttr]
 refine kind_step hM4 e4 (Nat.le_refl _) 5 _ (fun w5 L5 c5 hM5 hl5 e5=>?_)
 simp (disch:=try exact DI) only [↓PR,QR,simprocAttr]
 refine kind_step hM5 e5 (Nat.le_refl _) 6 _ (fun w6 L6 c6 hM6 hl6 e6=>?_)
 simp (disch:=try exact DI) only [↓PR,QR,simprocAttr]
 refine kind_step hM6 e6 (Nat.le_refl _) 7 _ (fun w7 L7 c7 hM7 hl7 e7=>?_)
 simp (disch:=try exact DI) only [↓PR,QR,simprocAttr]
 refine kind_step hM7 e7 (Nat.le_refl _) 8 _ (fun w8 L8 c8 hM8 hl8 e8=>?_)
 simp (disch:=try exact DI) only [↓PR,QR,simprocAttr]
 refine kind_step hM8 e8 (Nat.le_refl _) 9 _ (fun w9 L9 c9 hM9 hl9 e9=>?_)
 simp (disch:=try exact DI) only [↓PR,QR,simprocAttr]
 refine kind_step hM9 e9 (Nat.le_refl _) 10 _ (fun w10 L10 c10 hM10 hl10 e10=>?_)
 simp (disch:=try exact DI) only [↓PR,QR,simprocAttr]
 refine kind_step hM10 e10 (Nat.le_refl _) 11 _ (fun w11 L11 c11 hM11 hl11 e11=>?_)
 simp (disch:=try exact DI) only [↓PR,QR,simprocAttr]
 refine kind_step hM11 e11 (Nat.le_refl _) 12 _ (fun w12 L12 c12 hM12 hl12 e12=>?_)
 simp (disch:=try exact DI) only [↓PR,QR,simprocAttr]
 have hn:∀ k,Sw.look ([]:List (Int×Value×Nat)) k=none:=fun _=>rfl
 refine ⟨_,_,_,rfl,Nat.le_refl _,hM12,⟨fun k hk=>?_,?_,?_,?_,?_,?_,?_,?_,?_,?_,?_,?_,?_⟩,e12⟩
 · rw [hl12,if_neg (by omega),hl11,if_neg (by omega),hl10,if_neg (by omega),hl9,if_neg (by omega),hl8,if_neg (by omega),hl7,if_neg (by omega),hl6,if_neg (by omega),hl5,if_neg (by omega),hl4,if_neg (by omega),hl3,if_neg (by omega),hl2,if_neg (by omega),hl1,if_neg (by omega),hn]
 · rw [hl12,if_neg (by decide),hl11,if_neg (by decide),hl10,if_neg (by decide),hl9,if_neg (by decide),hl8,if_neg (by decide),hl7,if_neg (by decide),hl6,if_neg (by decide),hl5,if_neg (by decide),hl4,if_neg (by decide),hl3,if_neg (by decide),hl2,if_neg (by decide),hl1,if_pos rfl]
 · rw [hl12,if_neg (by decide),hl11,if_neg (by decide),hl10,if_neg (by decide),hl9,if_neg (by decide),hl8,if_neg (by decide),hl7,if_neg (by decide),hl6,if_neg (by decide),hl5,if_neg (by decide),hl4,if_neg (by decide),hl3,if_neg (by decide),hl2,if_pos rfl]
 · rw [hl12,if_neg (by decide),hl11,if_neg (by decide),hl10,if_neg (by decide),hl9,if_neg (by decide),hl8,if_neg (by decide),hl7,if_neg (by decide),hl6,if_neg (by decide),hl5,if_neg (by decide),hl4,if_neg (by decide),hl3,if_pos rfl]
 · rw [hl12,if_neg (by decide),hl11,if_neg (by decide),hl10,if_neg (by decide),hl9,if_neg (by decide),hl8,if_neg (by decide),hl7,if_neg (by decide),hl6,if_neg (by decide),hl5,if_neg (by decide),hl4,if_pos rfl]
 · rw [hl12,if_neg (by decide),hl11,if_neg (by decide),hl10,if_neg (by decide),hl9,if_neg (by decide),hl8,if_neg (by decide),hl7,if_neg (by decide),hl6,if_neg (by decide),hl5,if_pos rfl]
 · rw [hl12,if_neg (by decide),hl11,if_neg (by decide),hl10,if_neg (by decide),hl9,if_neg (by decide),hl8,if_neg (by decide),hl7,if_neg (by decide),hl6,if_pos rfl]
 · rw [hl12,if_neg (by decide),hl11,if_neg (by decide),hl10,if_neg (by decide),hl9,if_neg (by decide),hl8,if_neg (by decide),hl7,if_pos rfl]
 · rw [hl12,if_neg (by decide),hl11,if_neg (by decide),hl10,if_neg (by decide),hl9,if_neg (by decide),hl8,if_pos rfl]
 · rw [hl12,if_neg (by decide),hl11,if_neg (by decide),hl10,if_neg (by decide),hl9,if_pos rfl]
 · rw [hl12,if_neg (by decide),hl11,if_neg (by decide),hl10,if_pos rfl]
 · rw [hl12,if_neg (by decide),hl11,if_pos rfl]
 · rw [hl12,if_pos rfl]
def bareF (f:FieldD):FieldD:={ name:=f.name,kind:=f.kind,bits:=0,little:=false,loose:=false,low:=0,high:=0,base:=0,terms:=[],of:=ByteArray.empty,tag:=ByteArray.empty,fr:=ByteArray.empty,cases:=[],check:=0,key:=0 }
section
variable {w0:World} {cb md ms:Nat} {deps strs:List (ByteArray×Value)} {at_ fld:Int} {fs:List FieldD}
theorem exa_tail {a0:World} (e00:Ext a0 w0) (h:Chk w0 cb md ms deps strs at_ fld fs) (p3 p6:Nat) (f:FieldD) (tv cv:Value) (hT:TermsOf w0 tv f.terms) (hC:CasesOf w0 cv f.cases) (o3:w0.heap[p3]?=some (.cells (fieldCells f tv cv).toArray 71 (0,0)))
 (g1 g2:FuncId) (o6:w0.heap[p6]?=some (.cells #[.func (.func g1) #[] #[],.func (.func g2) #[] #[]] 208 (0,0))) (hc1:Callable Pg g1) (hc2:Callable Pg g2) (cl:FieldD→FieldD) (ct cc:Bool) (hcl:Clears g1 cl ct cc)
 (hterms:(cl f).terms=if ct then [] else f.terms) (hcases:(cl f).cases=if cc then [] else f.cases) (code:Int)
 (hchk:∀ w v,Chk w cb md ms deps strs at_ fld fs→FieldVal w v f→Calls Pg g2 #[.pointer (some ⟨cb,0,none⟩),v] w (flwR w at_ fld code)) :
 n67c3 (.pointer (some ⟨cb,0,none⟩)) (.pointer (some ⟨p3,0,none⟩)) (.pointer (some ⟨p6,0,none⟩)) (flwR a0 at_ fld (orC (needC (decide (cl f=bareF f)) 5) code)) w0:=by
 have ht1:=SliceOf.oneCell hT
 have hv1:=SliceOf.oneCell hC
 have l6:p6 < w0.heap.size:=(Array.getElem?_eq_some_iff.1 o6).1
 unfold n67c3
 simp (disch:=try exact DI) only [↓PR,QR,simprocAttr,(cells_of_heap o3).1,(cells_of_heap o6).1]
 have e1:Ext w0 (w0.alloc (Obj.cells (fieldCells f tv cv).toArray 71)):=ee
 have o7:=heap_new w0 (fieldCells f tv cv).toArray 71
 rw [callV_func hc1]
 simp only [Array.empty_append,Array.append_empty]
 refine callK_ret (hcl _ w0.heap.size f tv cv ht1 hv1 o7) ?_
 rintro r w2 ⟨o7',hE⟩
 have e2:=hE w0 e1 (Nat.le_refl _)
 clear hE o7 e1
 have hT2:TermsOf w2 (if ct then .slice none 0 0 else tv) (cl f).terms:=by
  rw [hterms]
  cases ct
  · exact TermsOf.ext hT e2
  · exact SliceOf.nil _ _ _
 have hC2:CasesOf w2 (if cc then .slice none 0 0 else cv) (cl f).cases:=by
  rw [hcases]
  cases cc
  · exact CasesOf.ext hC e2
  · exact SliceOf.nil _ _ _
 generalize (if ct=true then Value.slice none 0 0 else tv)=tv2 at o7' hT2
 generalize (if cc=true then Value.slice none 0 0 else cv)=cv2 at o7' hC2
 generalize cl f=g at o7' hT2 hC2 ⊢
 have o3':=e2.obj o3
 clear hterms hcases hcl
 unfold n67c2
 have hL:Loads Pg w2 71 ⟨w0.heap.size,0,none⟩ (.agg (fieldCells g tv2 cv2).toArray):=Loads.many ty71 rfl (fun j v hv=>by rw [Addr.add_lit,(cells_of_heap o7').1];simpa using hv)
 refine (op_load hL).mpr ?_
 simp (disch:=try exact DI) only [↓PR,QR,simprocAttr,(cells_of_heap o3').1]
 refine zcr (sameField_ret w2 _ _ g (bareF f) ⟨_,_,rfl,hT2,hC2⟩ ⟨.slice none 0 0,.slice none 0 0,rfl,SliceOf.nil _ _ _,SliceOf.nil _ _ _⟩) fun w3 e3=>?_
 have e23:=e2.trans e3
 refine callK_flw (need_flw (h.ext e23) _ 5 (by decide)) (fun w4 e4 h0=>?_) (fun w4 e4 h0=>?_)
 · rw [h0,orC_zero]
   have e24:=e23.trans e4
   simp (disch:=try exact DI) only [↓PR,QR,simprocAttr,↓n67c1,(cells_of_heap (e24.obj o6)).1,(cells_of_heap (e24.obj o3)).1]
   rw [callV_func hc2]
   simp only [Array.empty_append,Array.append_empty]
   refine callK_flw (hchk w4 _ (h.ext e24) ⟨tv,cv,rfl,TermsOf.ext hT e24,CasesOf.ext hC e24⟩) (fun w5 e5 h0=>?_) (fun w5 e5 h0=>?_)
   · exact flwR_ret (e00.trans (e24.trans e5)) h0
   · exact flwR_pan (e00.trans (e24.trans e5)) rfl h0
 · rw [orC_ne h0]
   exact flwR_pan (e00.trans (e23.trans e4)) rfl h0
end
def checkC (bef:List FieldD) (deps strs:List (ByteArray×Value)) (f:FieldD):Int :=
 if f.kind=1 then orC (needC (bitsB f) 6) (withinC (topF f) 0 [f.low,f.high]) else
 if f.kind=2 then orC (needC (bitsB f) 6) (withinC (topF f) 0 [f.low]) else
 if f.kind=3 then withinC 34359738367 0 [f.low,f.high] else
 if f.kind=4 then sizedC (numR bef) f else
 if f.kind=5 then orC (withinC 255 0 [f.low]) (withinC 1048576 0 [f.high]) else
 if f.kind=6 then withinC 1048576 2 [f.high] else
 if f.kind=7 then orC (needC (lastOf deps f.of).isSome 8) (sizedC (numR bef) f) else
 if f.kind=8 then needC (lastOf deps f.of).isSome 8 else
 if f.kind=9 then casesC bef deps f else
 if f.kind=10 then needC (padB f) 6 else
 if f.kind=11 then orC (withinC 3 1 [f.check]) (needC (bef.any fun o=>decide (o.name=f.fr)) 8) else
 if f.kind=12 then orC (withinC 4294967295 0 [f.key]) (orC (needC (strB strs f.of) 8) (sizedC (numR bef) f)) else 0
def clearK (f:FieldD):FieldD :=
 if f.kind=1 then clear1 f else
 if f.kind=2 then clear2 f else
 if f.kind=3 then clear3 f else
 if f.kind=4 then clear4 f else
 if f.kind=5 then clear5 f else
 if f.kind=6 then clear6 f else
 if f.kind=7 then clear7 f else
 if f.kind=8 then clear8 f else
 if f.kind=9 then clear9 f else
 if f.kind=10 then clear10 f else
 if f.kind=11 then clear11 f else
 if f.kind=12 then clear12 f else f
def examineC (bef:List FieldD) (deps strs:List (ByteArray×Value)) (f:FieldD):Int :=
 orC (needC (nameB f.name) 1) (orC (needC (!bef.any fun o=>decide (o.name=f.name)) 2) (orC (needC (decide (1≤f.kind∧f.kind≤12)) 4) (orC (needC (decide (clearK f=bareF f)) 5) (checkC bef deps strs f))))
section
variable {w0:World} {cb md ms:Nat} {deps strs:List (ByteArray×Value)} {at_ fld:Int} {fs:List FieldD}
theorem exa_mid {a0:World} (e00:Ext a0 w0) (h:Chk w0 cb md ms deps strs at_ fld fs) (i:Nat) (hi:fld=i) (hlt:i < fs.length) (p3 p6:Nat) (f:FieldD) (tv cv:Value) (ht:f.terms.length≤1048576) (hT:TermsOf w0 tv f.terms) (hC:CasesOf w0 cv f.cases) (o3:w0.heap[p3]?=some (.cells (fieldCells f tv cv).toArray 71 (0,0)))
 (L:List (Int×Value×Nat)) (hL:KindsIn L) (a b:Value) (ok:Bool) (hab:(Sw.look L f.kind).getD (.agg #[.nilFunc,.nilFunc]) = .agg #[a,b]) (hok:ok=(Sw.look L f.kind).isSome) (o6:w0.heap[p6]?=some (.cells #[a,b] 208 (0,0))) :
 callK Pg 105 #[.pointer (some ⟨cb,0,none⟩),.bool ok,.int .i64 4] (panK (flwR a0 at_ fld (orC (needC (decide (1≤f.kind∧f.kind≤12)) 4) (orC (needC (decide (clearK f=bareF f)) 5) (checkC (fs.take i) deps strs f))))) w0
  (fun _ w=>n67c3 (.pointer (some ⟨cb,0,none⟩)) (.pointer (some ⟨p3,0,none⟩)) (.pointer (some ⟨p6,0,none⟩)) (flwR a0 at_ fld (orC (needC (decide (1≤f.kind∧f.kind≤12)) 4) (orC (needC (decide (clearK f=bareF f)) 5) (checkC (fs.take i) deps strs f)))) w):=by
 obtain ⟨hn,k1,k2,k3,k4,k5,k6,k7,k8,k9,k10,k11,k12⟩:=hL
 by_cases hk:1≤f.kind∧f.kind≤12
 · have hd:decide (1≤f.kind∧f.kind≤12)=true:=by simpa using hk
   rw [hd]
   show callK _ _ _ (panK (flwR a0 at_ fld (orC 0 _))) _ _
   simp only [show needC true 4=0 from rfl,orC_zero]
   have hs:ok=true:=by
    rw [hok]
    have:f.kind=1∨f.kind=2∨f.kind=3∨f.kind=4∨f.kind=5∨f.kind=6∨f.kind=7∨f.kind=8∨f.kind=9∨f.kind=10∨f.kind=11∨f.kind=12:=by omega
    rcases this with h | h | h | h | h | h | h | h | h | h | h | h<;>simp only [h,k1,k2,k3,k4,k5,k6,k7,k8,k9,k10,k11,k12,Option.isSome_some]
   subst hs
   refine callK_flw (need_flw h true 4 (by decide)) (fun w1 e1 _=>?_) (fun w1 e1 h0=>absurd rfl h0)
   have hw:=h.ext e1
   have hT1:=TermsOf.ext hT e1
   have hC1:=CasesOf.ext hC e1
   have o31:=e1.obj o3
   have this:f.kind=1∨f.kind=2∨f.kind=3∨f.kind=4∨f.kind=5∨f.kind=6∨f.kind=7∨f.kind=8∨f.kind=9∨f.kind=10∨f.kind=11∨f.kind=12:=by omega
   rcases this with hkk | hkk | hkk | hkk | hkk | hkk | hkk | hkk | hkk | hkk | hkk | hkk
   · rw [hkk,k1,Option.getD_some] at hab
     injection hab with hab
     have hab:=congrArg Array.toList hab
     simp only [List.cons.injEq,and_true] at hab
     obtain ⟨rfl,rfl⟩:=hab
     have hcl:clearK f=clear1 f:=by unfold clearK;simp [hkk]
     have hcc:checkC (fs.take i) deps strs f=orC (needC (bitsB f) 6) (withinC (topF f) 0 [f.low,f.high]):=by unfold checkC;simp [hkk]
     rw [hcl,hcc]
     exact exa_tail (e00.trans e1) hw p3 p6 f tv cv hT1 hC1 o31 _ _ (e1.obj o6) c139 c140 clear1 false false clears1 rfl rfl _ (fun w v hw hf=>uint_flw hw v f hf)
   · rw [hkk,k2,Option.getD_some] at hab
     injection hab with hab
     have hab:=congrArg Array.toList hab
     simp only [List.cons.injEq,and_true] at hab
     obtain ⟨rfl,rfl⟩:=hab
     have hcl:clearK f=clear2 f:=by unfold clearK;simp [hkk]
     have hcc:checkC (fs.take i) deps strs f=orC (needC (bitsB f) 6) (withinC (topF f) 0 [f.low]):=by unfold checkC;simp [hkk]
     rw [hcl,hcc]
     exact exa_tail (e00.trans e1) hw p3 p6 f tv cv hT1 hC1 o31 _ _ (e1.obj o6) c143 c144 clear2 false false clears2 rfl rfl _ (fun w v hw hf=>const_flw hw v f hf)
   · rw [hkk,k3,Option.getD_some] at hab
     injection hab with hab
     have hab:=congrArg Array.toList hab
     simp only [List.cons.injEq,and_true] at hab
     obtain ⟨rfl,rfl⟩:=hab
     have hcl:clearK f=clear3 f:=by unfold clearK;simp [hkk]
     have hcc:checkC (fs.take i) deps strs f=withinC 34359738367 0 [f.low,f.high]:=by unfold checkC;simp [hkk]
     rw [hcl,hcc]
     exact exa_tail (e00.trans e1) hw p3 p6 f tv cv hT1 hC1 o31 _ _ (e1.obj o6) c145 c146 clear3 false false clears3 rfl rfl _ (fun w v hw hf=>varint_flw hw v f hf)
   · rw [hkk,k4,Option.getD_some] at hab
     injection hab with hab
     have hab:=congrArg Array.toList hab
     simp only [List.cons.injEq,and_true] at hab
     obtain ⟨rfl,rfl⟩:=hab
     have hcl:clearK f=clear4 f:=by unfold clearK;simp [hkk]
     have hcc:checkC (fs.take i) deps strs f=sizedC (numR (fs.take i)) f:=by unfold checkC;simp [hkk]
     rw [hcl,hcc]
     exact exa_tail (e00.trans e1) hw p3 p6 f tv cv hT1 hC1 o31 _ _ (e1.obj o6) c147 c148 clear4 true false clears4 rfl rfl _ (fun w v hw hf=>sized_flw hw i hi hlt v f hf ht)
   · rw [hkk,k5,Option.getD_some] at hab
     injection hab with hab
     have hab:=congrArg Array.toList hab
     simp only [List.cons.injEq,and_true] at hab
     obtain ⟨rfl,rfl⟩:=hab
     have hcl:clearK f=clear5 f:=by unfold clearK;simp [hkk]
     have hcc:checkC (fs.take i) deps strs f=orC (withinC 255 0 [f.low]) (withinC 1048576 0 [f.high]):=by unfold checkC;simp [hkk]
     rw [hcl,hcc]
     exact exa_tail (e00.trans e1) hw p3 p6 f tv cv hT1 hC1 o31 _ _ (e1.obj o6) c149 c150 clear5 false false clears5 rfl rfl _ (fun w v hw hf=>until_flw hw v f hf)
   · rw [hkk,k6,Option.getD_some] at hab
     injection hab with hab
     have hab:=congrArg Array.toList hab
     simp only [List.cons.injEq,and_true] at hab
     obtain ⟨rfl,rfl⟩:=hab
     have hcl:clearK f=clear6 f:=by unfold clearK;simp [hkk]
     have hcc:checkC (fs.take i) deps strs f=withinC 1048576 2 [f.high]:=by unfold checkC;simp [hkk]
     rw [hcl,hcc]
     exact exa_tail (e00.trans e1) hw p3 p6 f tv cv hT1 hC1 o31 _ _ (e1.obj o6) c151 c152 clear6 false false clears6 rfl rfl _ (fun w v hw hf=>headers_flw hw v f hf)
   · rw [hkk,k7,Option.getD_some] at hab
     injection hab with hab
     have hab:=congrArg Array.toList hab
     simp only [List.cons.injEq,and_true] at hab
     obtain ⟨rfl,rfl⟩:=hab
     have hcl:clearK f=clear7 f:=by unfold clearK;simp [hkk]
     have hcc:checkC (fs.take i) deps strs f=orC (needC (lastOf deps f.of).isSome 8) (sizedC (numR (fs.take i)) f):=by unfold checkC;simp [hkk]
     rw [hcl,hcc]
     exact exa_tail (e00.trans e1) hw p3 p6 f tv cv hT1 hC1 o31 _ _ (e1.obj o6) c153 c154 clear7 true false clears7 rfl rfl _ (fun w v hw hf=>list_flw hw i hi hlt v f hf ht)
   · rw [hkk,k8,Option.getD_some] at hab
     injection hab with hab
     have hab:=congrArg Array.toList hab
     simp only [List.cons.injEq,and_true] at hab
     obtain ⟨rfl,rfl⟩:=hab
     have hcl:clearK f=clear8 f:=by unfold clearK;simp [hkk]
     have hcc:checkC (fs.take i) deps strs f=needC (lastOf deps f.of).isSome 8:=by unfold checkC;simp [hkk]
     rw [hcl,hcc]
     exact exa_tail (e00.trans e1) hw p3 p6 f tv cv hT1 hC1 o31 _ _ (e1.obj o6) c156 c157 clear8 false false clears8 rfl rfl _ (fun w v hw hf=>message_flw hw v f hf)
   · rw [hkk,k9,Option.getD_some] at hab
     injection hab with hab
     have hab:=congrArg Array.toList hab
     simp only [List.cons.injEq,and_true] at hab
     obtain ⟨rfl,rfl⟩:=hab
     have hcl:clearK f=clear9 f:=by unfold clearK;simp [hkk]
     have hcc:checkC (fs.take i) deps strs f=casesC (fs.take i) deps f:=by unfold checkC;simp [hkk]
     rw [hcl,hcc]
     exact exa_tail (e00.trans e1) hw p3 p6 f tv cv hT1 hC1 o31 _ _ (e1.obj o6) c158 c159 clear9 false true clears9 rfl rfl _ (fun w v hw hf=>cases_flw hw i hi hlt v f hf)
   · rw [hkk,k10,Option.getD_some] at hab
     injection hab with hab
     have hab:=congrArg Array.toList hab
     simp only [List.cons.injEq,and_true] at hab
     obtain ⟨rfl,rfl⟩:=hab
     have hcl:clearK f=clear10 f:=by unfold clearK;simp [hkk]
     have hcc:checkC (fs.take i) deps strs f=needC (padB f) 6:=by unfold checkC;simp [hkk]
     rw [hcl,hcc]
     exact exa_tail (e00.trans e1) hw p3 p6 f tv cv hT1 hC1 o31 _ _ (e1.obj o6) c160 c161 clear10 false false clears10 rfl rfl _ (fun w v hw hf=>pad_flw hw v f hf)
   · rw [hkk,k11,Option.getD_some] at hab
     injection hab with hab
     have hab:=congrArg Array.toList hab
     simp only [List.cons.injEq,and_true] at hab
     obtain ⟨rfl,rfl⟩:=hab
     have hcl:clearK f=clear11 f:=by unfold clearK;simp [hkk]
     have hcc:checkC (fs.take i) deps strs f=orC (withinC 3 1 [f.check]) (needC ((fs.take i).any fun o=>decide (o.name=f.fr)) 8):=by unfold checkC;simp [hkk]
     rw [hcl,hcc]
     exact exa_tail (e00.trans e1) hw p3 p6 f tv cv hT1 hC1 o31 _ _ (e1.obj o6) c162 c163 clear11 false false clears11 rfl rfl _ (fun w v hw hf=>check_flw hw i hi hlt v f hf)
   · rw [hkk,k12,Option.getD_some] at hab
     injection hab with hab
     have hab:=congrArg Array.toList hab
     simp only [List.cons.injEq,and_true] at hab
     obtain ⟨rfl,rfl⟩:=hab
     have hcl:clearK f=clear12 f:=by unfold clearK;simp [hkk]
     have hcc:checkC (fs.take i) deps strs f=orC (withinC 4294967295 0 [f.key]) (orC (needC (strB strs f.of) 8) (sizedC (numR (fs.take i)) f)):=by unfold checkC;simp [hkk]
     rw [hcl,hcc]
     exact exa_tail (e00.trans e1) hw p3 p6 f tv cv hT1 hC1 o31 _ _ (e1.obj o6) c164 c165 clear12 true false clears12 rfl rfl _ (fun w v hw hf=>view_flw hw i hi hlt v f hf ht)
 · have hd:decide (1≤f.kind∧f.kind≤12)=false:=by simpa using hk
   rw [hd]
   have hs:ok=false:=by rw [hok,hn _ hk];rfl
   subst hs
   refine callK_flw (need_flw h false 4 (by decide)) (fun w1 e1 h0=>absurd h0 (by decide)) (fun w1 e1 h0=>?_)
   exact flwR_pan (e00.trans e1) rfl h0
end
section
variable {w0:World} {cb md ms:Nat} {deps strs:List (ByteArray×Value)} {at_ fld:Int} {fs:List FieldD}
theorem examine_flw (h:Chk w0 cb md ms deps strs at_ fld fs) (i:Nat) (hi:fld=i) (hlt:i < fs.length) (v:Value) (f:FieldD) (hf:FieldVal w0 v f) (ht:f.terms.length≤1048576) :
 Calls Pg 126 #[.pointer (some ⟨cb,0,none⟩),v] w0 (flwR w0 at_ fld (examineC (fs.take i) deps strs f)):=by
 obtain ⟨tv,cv,rfl,hT,hC,ht1,hc1⟩:=hf.op
 refine n67s ?_;unfold n67
 simp (disch:=try exact DI) only [↓PR,QR,simprocAttr]
 generalize hW:World.alloc w0 _=W
 have e0:Ext w0 W:=by rw [← hW];exact ee
 have o3:W.heap[w0.heap.size]?=some (.cells (fieldCells f tv cv).toArray 71 (0,0)):=by rw [← hW];simp (disch:=try exact DI) only [↓PR,QR,simprocAttr]
 clear hW
 refine zcr (Name_ret _ f.name) fun w1 e1=>?_
 have e01:=e0.trans e1
 unfold examineC
 refine callK_flw (need_flw (h.ext e01) _ 1 (by decide)) (fun w2 e2 h0=>?_) (fun w2 e2 h0=>?_)
 · rw [h0,orC_zero]
   have e02:=e01.trans e2
   have o32:=(e1.trans e2).obj o3
   refine drawK_intro ?_
   simp (disch:=try exact DI) only [↓PR,QR,simprocAttr,↓n67c8,(cells_of_heap o32).1]
   have eD:Ext w0 w2.drew:=e02.wdrew
   refine callK_ret (before_ret (h.ext eD) i hi hlt) ?_
   rintro bv w3 ⟨hB,e3⟩
   refine ⟨e3,?_⟩
   have hb1:=SliceOf.oneCell hB
   simp (disch:=try exact DI) only [↓PR,QR,simprocAttr]
   refine zcr (Field_ret w3 _ ⟨ByteArray.empty,fs.take i⟩ f.name ⟨bv,rfl,hB⟩) fun w4 e4=>?_
   refine ⟨e3.trans e4,?_⟩
   simp (disch:=try exact DI) only [↓PR,QR,simprocAttr,↓n67c7]
   have e04:=eD.trans (e3.trans e4)
   have e24:Ext w2 w4:=(Ext.refl w2).wdrew.trans (e3.trans e4)
   refine callK_flw (need_flw (h.ext e04) _ 2 (by decide)) (fun w5 e5 h0=>?_) (fun w5 e5 h0=>?_)
   · rw [h0,orC_zero]
     have e05:=e04.trans e5
     have o35:=(e24.trans e5).obj o32
     clear e24 e04 e3 e4 hB eD e02 e01 e1 e2 o32
     refine drawK_intro ?_
     simp (disch:=try exact DI) only [↓PR,QR,simprocAttr,↓n67c6,(cells_of_heap o35).1]
     have eD:Ext w5 w5.drew:=(Ext.refl _).wdrew
     have fin5:∀ (w':World) (m p6 c:Nat) (L:List (Int×Value×Nat)) (u0 u1:Value),Ext w5.drew w'→MapB w' m kindEnc L c→KindsIn L→w'.heap[p6]?=some (.cells #[u0,u1] 208 (0,0))→w5.heap.size≤p6 →
      n67c5 (.pointer (some ⟨p6,0,none⟩)) (.map (some m)) (.int .i64 f.kind) (KM w5.drew m kindEnc L c) (fun t5 t6 w=>callK Pg 105 #[.pointer (some ⟨cb,0,none⟩),t5,.int .i64 4] (panK (flwR w0 at_ fld (orC (needC (decide (1≤f.kind∧f.kind≤12)) 4) (orC (needC (decide (clearK f=bareF f)) 5) (checkC (fs.take i) deps strs f))))) w fun _ w=>n67c3 (.pointer (some ⟨cb,0,none⟩)) (.pointer (some ⟨w0.heap.size,0,none⟩)) t6 (flwR w0 at_ fld (orC (needC (decide (1≤f.kind∧f.kind≤12)) 4) (orC (needC (decide (clearK f=bareF f)) 5) (checkC (fs.take i) deps strs f)))) w)
       (flwR w0 at_ fld (orC (needC (decide (1≤f.kind∧f.kind≤12)) 4) (orC (needC (decide (clearK f=bareF f)) 5) (checkC (fs.take i) deps strs f)))) w':=by
      intro w' m p6 c L u0 u1 e' hM hL o6 hp6
      haveI:ClassNe (KM w5.drew m kindEnc L c):=⟨⟨w',e',hM⟩⟩
      unfold n67c5
      rw [qV_lookupKM Tryz.underlying210 (KeyOK.int Tryz.underlying65) ty208 ⟨w',e',hM⟩]
      obtain ⟨a,b,hab,ha,hb⟩:∃ a b,(Sw.look L f.kind).getD (.agg #[.nilFunc,.nilFunc]) = .agg #[a,b]∧a.oneCell'=true∧b.oneCell'=true:=by
       obtain ⟨hn,k1,k2,k3,k4,k5,k6,k7,k8,k9,k10,k11,k12⟩:=hL
       by_cases hk:1≤f.kind∧f.kind≤12
       · have this:f.kind=1∨f.kind=2∨f.kind=3∨f.kind=4∨f.kind=5∨f.kind=6∨f.kind=7∨f.kind=8∨f.kind=9∨f.kind=10∨f.kind=11∨f.kind=12:=by omega
         rcases this with h | h | h | h | h | h | h | h | h | h | h | h<;>simp only [h,k1,k2,k3,k4,k5,k6,k7,k8,k9,k10,k11,k12,Option.getD_some]<;>exact ⟨_,_,rfl,rfl,rfl⟩
       · rw [hn _ hk];exact ⟨_,_,rfl,rfl,rfl⟩
      rw [hab]
      simp (disch:=try exact DI) only [↓PR,QR,simprocAttr,(cells_of_heap o6).1,(cells_of_heap o6).2]
      have e6:Ext w5.drew ((w'.setCell ⟨p6,0,none⟩ a).setCell ⟨p6,1,none⟩ b):=(e'.setCell (show w5.drew.heap.size≤(⟨p6,0,none⟩:Addr).block from hp6) _).setCell (show w5.drew.heap.size≤(⟨p6,1,none⟩:Addr).block from hp6) _
      refine ⟨⟨e6,(hM.setCell _ _).setCell _ _⟩,?_⟩
      have e06:=(e05.trans eD).trans e6
      have o6':=heap_set (o:=1) (heap_set (o:=0) o6 a) b
      exact exa_mid e06 (h.ext e06) i hi hlt _ p6 f tv cv ht (TermsOf.ext hT e06) (CasesOf.ext hC e06) ((eD.trans e6).obj o35) L hL a b _ hab rfl (by simpa using o6')
     refine ⟨?_,?_⟩
     · refine callK_ret (kinds_ret _) ?_
       rintro _ w6 ⟨m,L,c,rfl,hm,hM,hL,e6⟩
       refine narrowK_KM e6 hM ?_
       have h9:=fin5 (w6.alloc (.cells #[.nilFunc,.nilFunc] 208)) m w6.heap.size c L _ _ (e6.alloc _) (hM.ext ((Ext.refl _).alloc _)) hL (heap_new _ _ _) (by have:=e6.size;simpa using this)
       unfold n67c5 at h9
       unfold n67c4
       simp only [drew_wdrew]
       haveI:ClassNe (KM w5.drew m kindEnc L c):=⟨⟨w6,e6,hM⟩⟩
       rw [qV_lookupKM Tryz.underlying210 (KeyOK.int Tryz.underlying65) ty208 ⟨w6,e6,hM⟩] at h9 ⊢
       simp (disch:=try exact DI) only [↓PR,QR,simprocAttr]
       simp only [↓Sw.GENQ] at h9
       exact ⟨⟨e6.alloc _,hM.ext ((Ext.refl _).alloc _)⟩,h9⟩
     · refine ⟨(Ext.refl _).alloc _,?_⟩
       refine callK_ret (kinds_ret _) ?_
       rintro _ w6 ⟨m,L,c,rfl,hm,hM,hL,e6⟩
       refine narrowK_KM (((Ext.refl _).alloc _).trans e6) hM ?_
       exact fin5 w6 m w5.heap.size c L _ _ (((Ext.refl _).alloc _).trans e6) hM hL (e6.obj (heap_new w5.drew _ _)) (Nat.le_refl _)
   · rw [orC_ne h0]
     exact flwR_pan (e04.trans e5) rfl h0
 · rw [orC_ne h0]
   exact flwR_pan (e01.trans e2) rfl h0
end
def refsF (f:FieldD):List ByteArray:=if f.kind=7∨f.kind=8∨f.kind=12 then [f.of] else if f.kind=9 then f.cases.map (·.of) else []
def allRefs (l:List FieldD):List ByteArray:=l.flatMap refsF
abbrev strEnc (s:ByteArray):List Value:=[.string s]
theorem append_str {w:World} {QP:List PanicEntry→World→Prop} {k:Value→World→Prop} {base:Nat} {v:Value} {l:List ByteArray} (s:ByteArray) {b:Nat} (hown:OwnE w base 9 1 strEnc v l) (hc:w.cell? ⟨b,0,none⟩=some (.string s)) (hbase:base≤w.heap.size) (hl:l.length≤1048576)
 (hk:∀ v' w',OwnE w' base 9 1 strEnc v' (l++[s])→w.grownBy w' v.ownBlock→k v' w') :
 opV Pg (Builtin.append_ #[80,80] 80 #[v,.slice (some ⟨b,0,none⟩) 1 1]) QP w k:=by
 have hby:=by9
 refine op_appendE (l':=[s]) Tryz.underlying80 ty9 rfl (by decide) (fun _=>rfl) (fun x _ u hu=>by simp at hu;subst hu;rfl) hown (fun j x hx=>?_) hbase ?_ (by simp;omega) hk
 · cases j with
   | zero =>
    simp at hx;subst hx
    intro j v hv
    cases j with
    | zero=>simp at hv;subst hv;simpa using hc
    | succ j=>simp at hv
   | succ j=>simp at hx
 · simp only [List.length_cons,List.length_nil]
   exact Nat.le_trans (Nat.mul_le_mul (Nat.add_le_add_right hl 1) hby) (by decide)
def StrsAt (w:World) (pb:Nat) (sv:Value) (l:List ByteArray):Prop:=w.cell? ⟨pb,0,none⟩=some sv∧SliceOf w 1 EStr sv l∧∀ A m c,sv = .slice (some A) m c→pb < A.block
theorem StrsAt.ext {w w':World} {pb:Nat} {sv:Value} {l:List ByteArray} (h:StrsAt w pb sv l) (e:Ext w w'):StrsAt w' pb sv l:=⟨e.cell h.1,h.2.1.ext keptStr e,h.2.2⟩
theorem append_cell {w0 w:World} {QP:List PanicEntry→World→Prop} {ku:World→Prop} {pb lo p:Nat} {sv:Value} {l:List ByteArray} (s:ByteArray) {T T':TypeId} (hp:p=w.heap.size) (e:Ext w0 w) (h0:w0.heap.size≤pb) (hlo:pb < lo) (o3:w.heap[pb]?=some (.cells #[sv] T (0,0))) (hO:OwnE w lo 9 1 strEnc sv l) (hs:lo≤w.heap.size) (hl:l.length≤1048576)
 (hk:∀ w' sv',Ext w0 w'→w'.heap[pb]?=some (.cells #[sv'] T (0,0))→OwnE w' lo 9 1 strEnc sv' (l++[s])→lo≤w'.heap.size→ku w') :
 opV Pg (Builtin.append_ #[80,80] 80 #[sv,.slice (some ⟨p,0,none⟩) 1 1]) QP (w.alloc (.cells #[.string s] T')) (fun t w=>opU Pg (Instr.storeAt 80 (.pointer (some ⟨pb,0,none⟩)) t) QP w ku):=by
 subst hp
 have l3:pb < w.heap.size:=(Array.getElem?_eq_some_iff.1 o3).1
 have o3':=((Ext.refl w).alloc (.cells #[.string s] T')).obj o3
 refine append_str s (hO.ext ((Ext.refl w).alloc _)) (by rw [cell_new];rfl) (Nat.le_trans hs (by simp)) hl ?_
 intro v' w' hO' hg
 have hne:some pb≠sv.ownBlock:=by
  intro h
  have:=hO.lt pb h.symm
  omega
 have o3w:w'.heap[pb]?=some (.cells #[sv] T (0,0)):=by rw [hg.block pb (by simp;omega) hne];exact o3'
 have eg:Ext w0 w':=(e.alloc _).grown hg (fun k hk=>by have:=hO.lt k hk;omega)
 have hv:=(hO'.slice (E:=EStr) (fun _=>rfl) (fun _ _=>rfl)).oneCell
 rw [op_store1 ty80 hv ((cells_of_heap o3w).1 0) ((cells_of_heap o3w).2 0)]
 refine hk _ v' (eg.setCell h0 _) ?_ ((hO'.range.only (Only.setCell w' pb 0 v') (.inr (.inl hlo))).1) ?_
 · have:=heap_set (o:=0) o3w v'
   simpa using this
 · have:=hg.size
   simp at this ⊢
   omega
theorem Refers_ret (w0:World) (v:Value) (m:MsgD) (hm:MsgVal w0 v m) (hb:(allRefs m.fields).length≤1048576) :
 Ret Pg 75 #[v] w0 fun r w'=>∃ pb sv,r = .func (.func 95) #[] #[.pointer (some ⟨pb,0,none⟩)]∧StrsAt w' pb sv (allRefs m.fields)∧w0.heap.size≤pb∧Ext w0 w':=by
 obtain ⟨fv,rfl,hF⟩:=hm
 obtain ⟨A,c,rfl,hlc,hcm,hlm,hel⟩:=SliceOf.open hF
 refine n61s (R:=retR _) ?_;unfold n61
 simp (disch:=try exact DI) only [↓PR,QR,simprocAttr]
 generalize hW:World.alloc (World.alloc w0 _) _=W
 have e0:Ext w0 W:=by rw [← hW];exact ee
 have hsz:W.heap.size=w0.heap.size+1+1:=by rw [← hW];simp only [World.size_alloc]
 have o3:W.heap[w0.heap.size+1]?=some (.cells #[.slice none 0 0] 80 (0,0)):=by rw [← hW];simp (disch:=try exact DI) only [↓PR,QR,simprocAttr]
 clear hW
 refine loop1_intro (fun a0 w=>∃ (k:Nat) , a0 = .int .i64 (k:Int)∧k≤m.fields.length∧Ext w0 w∧(∃ sv,w.heap[w0.heap.size+1]?=some (.cells #[sv] 80 (0,0))∧OwnE w W.heap.size 9 1 strEnc sv (allRefs (m.fields.take k))∧W.heap.size≤w.heap.size)) (fun a0 _=>m.fields.length - (intOf a0).toNat) ⟨0,rfl,Nat.zero_le _,ee,⟨_,o3,OwnE.nil _ _ _ _ _,Nat.le_refl _⟩⟩ ?_
 rintro _ w ⟨k,rfl,hk,e,hI⟩
 have se:=e.size
 rcases drop_cases hk with ⟨x,hx,hd,hlt,hdec⟩ | ⟨hk,hd,hdec⟩
 · obtain ⟨sv,o3,hO,hsW⟩:=hI
   obtain ⟨b,o,cs,rfl,hl,hA,hE⟩:=hel k x hx
   obtain ⟨tv,cv,rfl,hT,hC,ht1,hc1⟩:=hE.op
   have hpre:(allRefs (m.fields.take (k+1)))=allRefs (m.fields.take k)++refsF x:=by unfold allRefs;rw [take_snoc hx,List.flatMap_append];simp
   have hle:(allRefs (m.fields.take (k+1))).length≤1048576:=by
    refine Nat.le_trans ?_ hb
    have:m.fields=m.fields.take (k+1)++m.fields.drop (k+1):=(List.take_append_drop _ _).symm
    conv=>rhs;rw [this]
    unfold allRefs
    rw [List.flatMap_append,List.length_append]
    omega
   rw [hpre,List.length_append] at hle
   have hsv:=(hO.slice (E:=EStr) (fun _=>rfl) (fun _ _=>rfl)).oneCell
   simp (disch:=try exact DI) only [↓PR,QR,simprocAttr,↓n61c1,↓n61c2,↓n61c3,↓n61c4,↓n61c5,↓n61c6,↓n61c7,hdec,hA.c15]
   generalize hW1:World.alloc w _=w1
   have e1:Ext w w1:=by rw [← hW1];exact ee
   have o5:w1.heap[w.heap.size]?=some (.cells (fieldCells x tv cv).toArray 71 (0,0)):=by rw [← hW1];simp (disch:=try exact DI) only [↓PR,QR,simprocAttr]
   clear hW1
   have s1:=e1.size
   have e01:=e.trans e1
   have o31:=e1.obj o3
   have hO1:=hO.ext e1
   have l5:w.heap.size < w1.heap.size:=(Array.getElem?_eq_some_iff.1 o5).1
   have l3:w0.heap.size+1 < w1.heap.size:=(Array.getElem?_eq_some_iff.1 o31).1
   by_cases hr:x.kind=7∨x.kind=8∨x.kind=12
   · have hrf:refsF x=[x.of]:=by unfold refsF;rw [if_pos hr]
     rw [hrf] at hpre hle
     have key:∀ b,b=true→n61c4 (.pointer (some ⟨w0.heap.size+1,0,none⟩)) (.pointer (some ⟨w.heap.size,0,none⟩)) (.int .i64 (k:Int)) (.int .i64 x.kind) (.bool b) (fun a0' w'=>(∃ k:Nat,a0'=Value.int IntKind.i64 (k:Int)∧k≤m.fields.length∧Ext w0 w'∧∃ sv,w'.heap[w0.heap.size+1]?=some (.cells #[sv] 80 (0,0))∧OwnE w' W.heap.size 9 1 strEnc sv (allRefs (m.fields.take k))∧W.heap.size≤w'.heap.size)∧m.fields.length - (intOf a0').toNat < m.fields.length - (intOf (Value.int IntKind.i64 (k:Int))).toNat)
      (retR fun r w'=>∃ pb sv,r = .func (.func 95) #[] #[.pointer (some ⟨pb,0,none⟩)]∧StrsAt w' pb sv (allRefs m.fields)∧w0.heap.size≤pb∧Ext w0 w') w1:=by
      rintro b rfl
      simp (disch:=try exact DI) only [↓PR,QR,simprocAttr,↓n61c1,↓n61c2,↓n61c3,↓n61c4,↓n61c5,↓n61c6,↓n61c7,(cells_of_heap o31).1,(cells_of_heap o5).1]
      refine append_cell x.of rfl e01 (by omega) (by omega) o31 hO1 (by omega) (by simp at hle;omega) ?_
      intro w2 sv2 e2 o32 hO2 hs2
      rw [← hpre] at hO2
      simp (disch:=try exact DI) only [↓PR,QR,simprocAttr]
      exact ⟨⟨k+1,rfl,by omega,ee,⟨sv2,o32,hO2,hs2⟩⟩,meas_lt (kd := .i64) hlt⟩
     simp only [World.size_alloc]
     rcases hr with h | h | h
     · rw [h] at key ⊢
       simp (disch:=try exact DI) only [↓PR,QR,simprocAttr]
       exact key true rfl
     · rw [h] at key ⊢
       simp (disch:=try exact DI) only [↓PR,QR,simprocAttr,↓n61c5]
       exact key true rfl
     · rw [h] at key ⊢
       simp (disch:=try exact DI) only [↓PR,QR,simprocAttr,↓n61c5]
       exact key true rfl
   · have h7:(x.kind == 7)=false:=by simp;omega
     have h8:(x.kind == 8)=false:=by simp;omega
     have h12:(x.kind == 12)=false:=by simp;omega
     simp only [World.size_alloc]
     by_cases h9:x.kind=9
     · have h9':(x.kind == 9)=true:=by simp [h9]
       have hrf:refsF x=x.cases.map (·.of):=by unfold refsF;rw [if_neg hr,if_pos h9]
       rw [hrf] at hpre hle
       obtain ⟨A',c',rfl,hlc',hcm',hlm',hel'⟩:=SliceOf.open hC
       simp (disch:=try exact DI) only [↓PR,QR,simprocAttr,↓n61c1,↓n61c2,↓n61c3,↓n61c4,↓n61c5,↓n61c6,↓n61c7,h7,h8,h12,h9',(cells_of_heap o5).1]
       refine loop1_intro (fun a0 wa=>∃ (ka:Nat) , a0 = .int .i64 (ka:Int)∧ka≤x.cases.length∧Ext w0 wa∧(∃ sv,wa.heap[w0.heap.size+1]?=some (.cells #[sv] 80 (0,0))∧OwnE wa W.heap.size 9 1 strEnc sv (allRefs (m.fields.take k)++(x.cases.take ka).map (·.of))∧W.heap.size≤wa.heap.size)) (fun a0 _=>x.cases.length - (intOf a0).toNat) ⟨0,rfl,Nat.zero_le _,ee,⟨sv,o31,by simpa using hO1,by omega⟩⟩ ?_
       rintro _ wa ⟨ka,rfl,hka,ea,hIa⟩
       have sea:=ea.size
       rcases drop_cases hka with ⟨xa,hxa,hda,hlta,hdeca⟩ | ⟨hka,hda,hdeca⟩
       · obtain ⟨sva,oa,hOa,hsa⟩:=hIa
         obtain ⟨b',o',cs',rfl,_,hA',rfl⟩:=hel' ka xa hxa
         have la:w0.heap.size+1 < wa.heap.size:=(Array.getElem?_eq_some_iff.1 oa).1
         have oa':=((Ext.refl wa).alloc (.cells #[.int .i64 xa.low,.int .i64 xa.high,.string xa.of] 85)).obj oa
         have hla:(x.cases.take ka).length≤x.cases.length:=by rw [List.length_take];omega
         simp (disch:=try exact DI) only [↓PR,QR,simprocAttr,↓n61c1,↓n61c2,↓n61c3,↓n61c4,↓n61c5,↓n61c6,↓n61c7,hdeca,hA'.c3,(cells_of_heap oa').1,(cells_of_heap oa).1]
         refine append_cell xa.of (by simp only [World.size_alloc]) (ea.alloc _) (by omega) (by omega) oa' (hOa.ext ((Ext.refl wa).alloc _)) (by simp;omega) (by simp at hle hla ⊢;omega) ?_
         intro w2 sv2 e2 o32 hO2 hs2
         simp (disch:=try exact DI) only [↓PR,QR,simprocAttr]
         have hO3:OwnE w2 W.heap.size 9 1 strEnc sv2 (allRefs (m.fields.take k)++(x.cases.take (ka+1)).map (·.of)):=by
          rw [take_snoc hxa,List.map_append,← List.append_assoc];exact hO2
         exact ⟨⟨ka+1,rfl,by omega,ee,⟨sv2,o32,hO3,hs2⟩⟩,meas_lt (kd := .i64) hlta⟩
       · subst hka
         obtain ⟨sva,oa,hOa,hsa⟩:=hIa
         rw [List.take_length,← hpre] at hOa
         simp (disch:=try exact DI) only [↓PR,QR,simprocAttr,↓n61c1,↓n61c2,↓n61c3,↓n61c4,↓n61c5,↓n61c6,↓n61c7,hdeca]
         exact ⟨⟨k+1,rfl,by omega,ee,⟨sva,oa,hOa,hsa⟩⟩,meas_lt (kd := .i64) hlt⟩
     · have h9':(x.kind == 9)=false:=by simp;omega
       have hrf:refsF x=[]:=by unfold refsF;rw [if_neg hr,if_neg h9]
       rw [hrf,List.append_nil] at hpre
       rw [← hpre] at hO1
       simp (disch:=try exact DI) only [↓PR,QR,simprocAttr,↓n61c1,↓n61c2,↓n61c3,↓n61c4,↓n61c5,↓n61c6,↓n61c7,h7,h8,h12,h9',(cells_of_heap o5).1]
       exact ⟨⟨k+1,rfl,by omega,ee,⟨sv,o31,hO1,by omega⟩⟩,meas_lt (kd := .i64) hlt⟩
 · subst hk
   obtain ⟨sv,o3,hO,hsW⟩:=hI
   rw [List.take_length] at hO
   simp (disch:=try exact DI) only [↓PR,QR,simprocAttr,↓n61c1,↓n61c2,↓n61c3,↓n61c4,↓n61c5,↓n61c6,↓n61c7,hdec]
   have hS:=hO.slice (E:=EStr) (fun _=>rfl) (fun _ _=>rfl)
   exact ⟨_,sv,rfl,⟨(cells_of_heap o3).1 0,hS,fun A m c e=>by subst e;have:=hO.lt A.block rfl;omega⟩,by omega,e⟩
theorem Index_string_ret (w0:World) (v:Value) (l:List ByteArray) (s:ByteArray) (hs:SliceOf w0 1 EStr v l) :
 Ret Pg 114 #[v,.string s] w0 fun r w'=>r = .int .i64 (idx (fun y=>decide (s=y)) l)∧Ext w0 w':=by
 obtain ⟨A,c,rfl,hlc,hcm,hlm,hel⟩:=SliceOf.open hs
 refine n137s (R:=retR _) ?_;unfold n137
 simp (disch:=try exact DI) only [↓PR,QR,simprocAttr]
 refine loop1_intro (fun a0 w=>∃ (k:Nat) , a0 = .int .i64 (k:Int)∧k≤l.length∧Ext w0 w∧∀ (j:Nat) y,j < k→l[j]?=some y→decide (s=y)=false) (fun a0 _=>l.length - (intOf a0).toNat) ⟨0,rfl,Nat.zero_le _,ee,fun j y h=>by omega⟩ ?_
 rintro _ w ⟨k,rfl,hk,e,hI⟩
 have se:=e.size
 rcases drop_cases hk with ⟨x,hx,hd,hlt,hdec⟩ | ⟨hk,hd,hdec⟩
 · obtain ⟨b,o,cs,rfl,hl,hA,rfl⟩:=hel k x hx
   simp (disch:=try exact DI) only [↓PR,QR,simprocAttr,hdec,hA.c1,↓n137c1]
   cases hp:decide (s=x) with
   | true =>
    simp (disch:=try exact DI) only [↓PR,QR,simprocAttr]
    exact ⟨by rw [idx_here hx hp hI],e⟩
   | false =>
    simp (disch:=try exact DI) only [↓PR,QR,simprocAttr]
    exact ⟨⟨k+1,rfl,by omega,ee,before_succ hI hx hp⟩,meas_lt (kd := .i64) hlt⟩
 · subst hk
   simp (disch:=try exact DI) only [↓PR,QR,simprocAttr,hdec,↓n137c1]
   exact ⟨by rw [idx_none fun j y hy=>hI j y (List.getElem?_eq_some_iff.1 hy).1 hy],e⟩
theorem Contains_string_ret (w0:World) (v:Value) (l:List ByteArray) (s:ByteArray) (hs:SliceOf w0 1 EStr v l) :
 Ret Pg 96 #[v,.string s] w0 fun r w'=>r = .bool (l.any fun y=>decide (s=y))∧Ext w0 w':=by
 refine n128s (R:=retR _) ?_;unfold n128
 refine callK_ret (Index_string_ret _ _ l s hs) ?_
 rintro r w' ⟨rfl,e⟩
 simp (disch:=try exact DI) only [↓PR,QR,simprocAttr,Sw.joinK_eq]
 exact ⟨by rw [idx_neg],e⟩
def dedupA:List ByteArray→List ByteArray→List ByteArray
 | _,[]=>[]
 | seen,s::l=>if seen.any (fun y=>decide (s=y)) then dedupA (seen++[s]) l else s::dedupA (seen++[s]) l
def strX (l:List ByteArray) (k:Nat):Value:=match l[k]? with
 | some s => .string s
 | none=>undef
theorem Refers_seq (pb:Nat) (sv:Value) (l:List ByteArray):SeqIt Pg 95 #[.pointer (some ⟨pb,0,none⟩)] (dedupA [] l).length (strX (dedupA [] l)) (fun w=>StrsAt w pb sv l):=by
 intro yv J Jx Jp w hFP hJe hJx hstep h0
 obtain ⟨hc,hT,_⟩:=hFP 0 w h0
 obtain ⟨A,c,rfl,hlc,hcm,hlm,hel⟩:=SliceOf.open hT
 refine n62s (t0:=yv) (t1 := .pointer (some ⟨pb,0,none⟩)) ?_
 unfold n62
 simp (disch:=try exact DI) only [↓PR,QR,simprocAttr,hc]
 refine loop1_intro (fun i w=>∃ k j:Nat,i = .int .i64 k∧k≤l.length∧J j w∧j≤(dedupA [] l).length∧(dedupA [] l).drop j=dedupA (l.take k) (l.drop k)) (fun i _=>l.length - (intOf i).toNat) ⟨0,0,rfl,by omega,h0,by omega,rfl⟩ ?_
 rintro i w' ⟨k,j,rfl,hk,hJ,hj,hD⟩
 rcases drop_cases hk with ⟨x,hx,hd,hlt,hdec⟩ | ⟨hk,hd,hdec⟩
 · obtain ⟨hc',hT',_⟩:=hFP j w' hJ
   obtain ⟨A',c',hv,_,hcm',_,hel'⟩:=SliceOf.open hT'
   injection hv with hv _ hv'
   subst hv hv'
   obtain ⟨b,o,cs,rfl,hl,hA,rfl⟩:=hel' k x hx
   have er:=Ext.refl w'
   rw [hd] at hD
   simp only [dedupA] at hD
   simp (disch:=try exact DI) only [↓PR,QR,simprocAttr,↓n62c1,↓n62c2,hdec,hA.c1,hc']
   rw [op_sliceTo Tryz.underlying80 ty9 b o l.length c .i64 k (by omega)]
   have hlen:(l.take k).length=k:=by rw [List.length_take];omega
   have hpre:SliceOf w' 1 EStr (.slice (some ⟨b,o,none⟩) k c) (l.take k):=by
    refine ⟨_,c,by rw [hlen],by rw [hlen];omega,hcm,fun _=>⟨b,o,rfl,fun i y hy=>?_⟩⟩
    rw [List.getElem?_take] at hy
    split at hy
    · obtain ⟨b',o',cs,hA',h1,h2,h3⟩:=hel' i y hy
      injection hA' with hA'
      injection hA' with h5 h6
      subst h5 h6
      exact ⟨cs,h1,h2,h3⟩
    · cases hy
   refine zcr (Contains_string_ret w' _ _ x hpre) fun w2 e2=>?_
   have hJ2:=hJe j w' w2 hJ e2
   have htk:l.take (k+1)=l.take k++[x]:=take_snoc hx
   cases hany:(l.take k).any (fun y=>decide (x=y)) with
   | true =>
    rw [hany,if_pos rfl,← htk] at hD
    simp (disch:=try exact DI) only [↓PR,QR,simprocAttr,↓n62c1,↓n62c2]
    exact ⟨⟨k+1,j,rfl,by omega,hJ2,hj,hD⟩,meas_lt (kd := .i64) hlt⟩
   | false =>
    rw [hany,if_neg (by simp),← htk] at hD
    have hjl:j < (dedupA [] l).length:=by
     have:=congrArg List.length hD
     simp at this
     omega
    have hxj:(dedupA [] l)[j]?=some x:=by
     have:=congrArg (fun l=>l[0]?) hD
     simpa using this
    have hD2:(dedupA [] l).drop (j+1)=dedupA (l.take (k+1)) (l.drop (k+1)):=by
     rw [← List.tail_drop,hD];rfl
    have hs:=hstep j hjl w2 hJ2
    rw [show strX (dedupA [] l) j = .string x by unfold strX;rw [hxj]] at hs
    simp (disch:=try exact DI) only [↓PR,QR,simprocAttr,↓n62c1,↓n62c2]
    refine callV_mono hs (fun ch w h=>h) ?_
    rintro v w3 (⟨rfl,h2⟩ | ⟨rfl,h2⟩)
    · simp (disch:=try exact DI) only [↓PR,QR,simprocAttr,↓n62c1,↓n62c2]
      exact ⟨⟨k+1,j+1,rfl,by omega,h2,hjl,hD2⟩,meas_lt (kd := .i64) hlt⟩
    · simp (disch:=try exact DI) only [↓PR,QR,simprocAttr,↓n62c1,↓n62c2]
      exact .inr h2
 · subst hk
   simp (disch:=try exact DI) only [↓PR,QR,simprocAttr,↓n62c1,↓n62c2,hdec]
   rw [hd] at hD
   have hjl:j=(dedupA [] l).length:=by
    have:=congrArg List.length hD
    simp [dedupA] at this
    omega
   rw [← hjl]
   exact .inl hJ
def lastP {β:Type} (l:List (ByteArray×β)) (s:ByteArray):Option β:=(l.reverse.find? (fun p=>decide (p.1=s))).map (·.2)
theorem lastP_snoc {β:Type} (ps:List (ByteArray×β)) (p:ByteArray×β) (s:ByteArray):lastP (ps++[p]) s=if p.1=s then some p.2 else lastP ps s:=by
 unfold lastP
 rw [List.reverse_append,List.reverse_singleton,List.singleton_append,List.find?_cons]
 by_cases h:p.1=s<;>simp [h]
theorem lastP_mem {β:Type} {ps:List (ByteArray×β)} {s:ByteArray} {v:β} (h:lastP ps s=some v):(s,v)∈ps:=by
 unfold lastP at h
 obtain ⟨q,hq,rfl⟩:=Option.map_eq_some_iff.1 h
 have h1:=List.find?_some hq
 have h2:=List.mem_of_find?_eq_some hq
 simp only [decide_eq_true_eq] at h1
 subst h1
 exact List.mem_reverse.1 h2
def vI (l:List (ByteArray×Int)):List (ByteArray×Value):=l.map fun p=>(p.1,.int .i64 p.2)
def vB (l:List (ByteArray×Bool)):List (ByteArray×Value):=l.map fun p=>(p.1,.bool p.2)
theorem lastOf_map {β:Type} (g:β→Value) (l:List (ByteArray×β)) (s:ByteArray):lastOf (l.map fun p=>(p.1,g p.2)) s=(lastP l s).map g:=by
 unfold lastOf lastP
 rw [← List.map_reverse,List.find?_map]
 simp only [Option.map_map]
 rfl
theorem lastOf_vI (l:List (ByteArray×Int)) (s:ByteArray):lastOf (vI l) s=(lastP l s).map fun n => .int .i64 n:=lastOf_map _ l s
theorem lastOf_vB (l:List (ByteArray×Bool)) (s:ByteArray):lastOf (vB l) s=(lastP l s).map Value.bool:=lastOf_map _ l s
theorem strB_vB (l:List (ByteArray×Bool)) (s:ByteArray):strB (vB l) s=(lastP l s).getD false:=by
 unfold strB;rw [lastOf_vB];cases lastP l s<;>rfl
structure CkO (a0 w:World) (cb md ms:Nat) (deps:List (ByteArray×Int)) (strs:List (ByteArray×Bool)) (at_ fld:Int) (fs:List FieldD):Prop where
 ext:Ext a0 w
 obj:∃ dn mv ds mn fv,w.heap[cb]?=some (.cells #[.string dn,mv,.string ds,.map (some md),.map (some ms),.int .i64 at_,.int .i64 fld,.string mn,fv] 175 (0,0))∧FieldsOf a0 fv fs
 mdeps:MapOf w md (vI deps)
 mstrs:MapOf w ms (vB strs)
 lcb:a0.heap.size≤cb
 lmd:a0.heap.size≤md
 lms:a0.heap.size≤ms
 ne:md≠ms
section
variable {a0 w w':World} {cb md ms:Nat} {deps:List (ByteArray×Int)} {strs:List (ByteArray×Bool)} {at_ fld:Int} {fs:List FieldD}
theorem CkO.chk (h:CkO a0 w cb md ms deps strs at_ fld fs):Chk w cb md ms (vI deps) (vB strs) at_ fld fs:=by
 obtain ⟨dn,mv,ds,mn,fv,h1,h2⟩:=h.obj
 refine ⟨⟨dn,mv,ds,mn,fv,h1,h2.ext h.ext⟩,h.mdeps,h.mstrs,fun k v hv=>?_,fun k v hv=>?_⟩
 · rw [lastOf_vI] at hv;obtain ⟨n,_,rfl⟩:=Option.map_eq_some_iff.1 hv;exact ⟨n,rfl⟩
 · rw [lastOf_vB] at hv;obtain ⟨n,_,rfl⟩:=Option.map_eq_some_iff.1 hv;exact ⟨n,rfl⟩
theorem CkO.nd (h:CkO a0 w cb md ms deps strs at_ fld fs):cb≠md∧cb≠ms∧cb < w.heap.size∧md < w.heap.size∧ms < w.heap.size:=by
 obtain ⟨dn,mv,ds,mn,fv,h1,h2⟩:=h.obj
 refine ⟨?_,?_,(Array.getElem?_eq_some_iff.1 h1).1,h.mdeps.lt,h.mstrs.lt⟩
 · rintro rfl;have:=h.mdeps.obj;rw [h1] at this;cases this
 · rintro rfl;have:=h.mstrs.obj;rw [h1] at this;cases this
theorem CkO.go (h:CkO a0 w cb md ms deps strs at_ fld fs) (e:Ext w w'):CkO a0 w' cb md ms deps strs at_ fld fs:=by
 obtain ⟨dn,mv,ds,mn,fv,h1,h2⟩:=h.obj
 exact ⟨h.ext.trans e,⟨dn,mv,ds,mn,fv,e.obj h1,h2⟩,h.mdeps.ext e,h.mstrs.ext e,h.lcb,h.lmd,h.lms,h.ne⟩
theorem CkO.other (h:CkO a0 w cb md ms deps strs at_ fld fs) {b o:Nat} (hb:a0.heap.size≤b) (hn:b≠cb) (v:Value):CkO a0 (w.setCell ⟨b,o,none⟩ v) cb md ms deps strs at_ fld fs:=by
 obtain ⟨dn,mv,ds,mn,fv,h1,h2⟩:=h.obj
 refine ⟨h.ext.setCell hb v,⟨dn,mv,ds,mn,fv,?_,h2⟩,h.mdeps.setCell _ _,h.mstrs.setCell _ _,h.lcb,h.lmd,h.lms,h.ne⟩
 rw [Only.setCell w b o v cb (fun e=>hn e.symm)];exact h1
theorem CkO.setFld (h:CkO a0 w cb md ms deps strs at_ fld fs) (n:Int):CkO a0 (w.setCell ⟨cb,6,none⟩ (.int .i64 n)) cb md ms deps strs at_ n fs:=by
 obtain ⟨dn,mv,ds,mn,fv,h1,h2⟩:=h.obj
 exact ⟨h.ext.setCell h.lcb _,⟨dn,mv,ds,mn,fv,heap_set h1 _,h2⟩,h.mdeps.setCell _ _,h.mstrs.setCell _ _,h.lcb,h.lmd,h.lms,h.ne⟩
theorem CkO.setAt (h:CkO a0 w cb md ms deps strs at_ fld fs) (n:Int):CkO a0 (w.setCell ⟨cb,5,none⟩ (.int .i64 n)) cb md ms deps strs n fld fs:=by
 obtain ⟨dn,mv,ds,mn,fv,h1,h2⟩:=h.obj
 exact ⟨h.ext.setCell h.lcb _,⟨dn,mv,ds,mn,fv,heap_set h1 _,h2⟩,h.mdeps.setCell _ _,h.mstrs.setCell _ _,h.lcb,h.lmd,h.lms,h.ne⟩
theorem CkO.setMsg (h:CkO a0 w cb md ms deps strs at_ fld fs) (s:ByteArray) (fv':Value) (fs':List FieldD) (hf:FieldsOf a0 fv' fs'):CkO a0 ((w.setCell ⟨cb,7,none⟩ (.string s)).setCell ⟨cb,8,none⟩ fv') cb md ms deps strs at_ fld fs':=by
 obtain ⟨dn,mv,ds,mn,fv,h1,h2⟩:=h.obj
 exact ⟨(h.ext.setCell h.lcb _).setCell h.lcb _,⟨dn,mv,ds,s,fv',heap_set (heap_set h1 _) _,hf⟩,(h.mdeps.setCell _ _).setCell _ _,(h.mstrs.setCell _ _).setCell _ _,h.lcb,h.lmd,h.lms,h.ne⟩
theorem CkO.putOther (h:CkO a0 w cb md ms deps strs at_ fld fs) {B:Nat} (o:Obj) (hB:a0.heap.size≤B) (h1:B≠cb) (h2:B≠md) (h3:B≠ms):CkO a0 (w.putObj B o) cb md ms deps strs at_ fld fs:=by
 obtain ⟨dn,mv,ds,mn,fv,h4,h5⟩:=h.obj
 exact ⟨h.ext.putObj hB o,⟨dn,mv,ds,mn,fv,(World.putObj_heap_other (fun e=>h1 e.symm)).trans h4,h5⟩,MapB.putOther h.mdeps (fun e=>h2 e.symm) o,MapB.putOther h.mstrs (fun e=>h3 e.symm) o,h.lcb,h.lmd,h.lms,h.ne⟩
theorem CkO.unmark (h:CkO a0 w cb md ms deps strs at_ fld fs) {B:Nat} (hm:MarkAt B w) (hB:a0.heap.size≤B):CkO a0 (w.putObj B (.deferred none)) cb md ms deps strs at_ fld fs:=by
 obtain ⟨dn,mv,ds,mn,fv,h4,h5⟩:=h.obj
 refine h.putOther _ hB ?_ ?_ ?_
 · rintro rfl;unfold MarkAt at hm;rw [h4] at hm;cases hm
 · rintro rfl;unfold MarkAt at hm;have:=h.mdeps.obj;rw [hm] at this;cases this
 · rintro rfl;unfold MarkAt at hm;have:=h.mstrs.obj;rw [hm] at this;cases this
theorem CkO.lasts {B:Nat} (hB:a0.heap.size≤B):Lasts B (fun w=>CkO a0 w cb md ms deps strs at_ fld fs):=by
 refine ⟨fun w w' h e=>h.go e,fun w l r r' hl h hr=>?_⟩
 obtain ⟨dn,mv,ds,mn,fv,h4,h5⟩:=h.obj
 refine h.putOther _ (by omega) ?_ ?_ ?_
 · rintro rfl;rw [h4] at hr;cases hr
 · rintro rfl;have:=h.mdeps.obj;rw [hr] at this;cases this
 · rintro rfl;have:=h.mstrs.obj;rw [hr] at this;cases this
theorem StrsAt.lasts (B pb:Nat) (sv:Value) (l:List ByteArray):Lasts B (fun w=>StrsAt w pb sv l) :=
 Lasts.and (Lasts.cell B) (Lasts.and ⟨fun _ _ h e=>h.ext keptStr e,fun _ _ _ _ _ h hl=>SliceOf.putLoop (fun _ _ h=>h) hl h⟩ (Lasts.const _ _))
theorem StrsAt.set {w:World} {pb:Nat} {sv:Value} {l:List ByteArray} (h:StrsAt w pb sv l) {b o:Nat} (hb:b < pb) (u:Value):StrsAt (w.setCell ⟨b,o,none⟩ u) pb sv l :=
 ⟨by rw [cell_set_other (by omega)];exact h.1,SliceOf.setOther h.2.1 u (fun A m c e=>by have:=h.2.2 A m c e;omega) (fun _ _ h=>h),h.2.2⟩
end
def refsM (m:MsgD):List ByteArray:=dedupA [] (allRefs m.fields)
def fieldsP (deps:List (ByteArray×Int)) (strs:List (ByteArray×Bool)) (bef:List FieldD):List FieldD→Int×Int
 | []=>(-1,0)
 | f::l=>if examineC bef (vI deps) (vB strs) f=0 then fieldsP deps strs (bef++[f]) l else (bef.length,examineC bef (vI deps) (vB strs) f)
def maxI (a b:Int):Int:=if b > a then b else a
def depthM (deps:List (ByteArray×Int)) (m:MsgD):Int:=(refsM m).foldl (fun d s=>maxI d ((lastP deps s).getD 0)) 0
def strictM (strs:List (ByteArray×Bool)) (m:MsgD):Bool:=(m.fields.all fun f=>!f.loose)&&(refsM m).all fun s=>(lastP strs s).getD false
def tailP (deps:List (ByteArray×Int)) (m:MsgD) (r:Int×Int):Int×Int:=if r.2=0 then (if depthM deps m < 16 then (-1,0) else (-1,10)) else r
def nextP (deps:List (ByteArray×Int)) (strs:List (ByteArray×Bool)) (m:MsgD):Int×Int :=
 if nameB m.name then (if (lastP deps m.name).isSome then (-1,2) else (if 1≤m.fields.length∧m.fields.length≤40 then tailP deps m (fieldsP deps strs [] m.fields) else (-1,3))) else (-1,1)
def nxtR (a0:World) (at_:Int) (r:Int×Int) (K:World→Prop):Ending→World→Prop:=fun e w'=>Ext a0 w'∧(r.2=0∧e = .returned (.tuple #[])∧K w'∨r.2≠0∧e = .panicked [flawEntry at_ r.1 r.2])
theorem nxtR_ret {a0 w':World} {at_:Int} {r:Int×Int} {K:World→Prop} (e:Ext a0 w') (h:r.2=0) (hK:K w'):nxtR a0 at_ r K (.returned (.tuple #[])) w':=⟨e,.inl ⟨h,rfl,hK⟩⟩
theorem nxtR_pan {a0 w':World} {at_ a b:Int} {r:Int×Int} {K:World→Prop} (e:Ext a0 w') (h:r=(a,b)) (h0:b≠0):nxtR a0 at_ r K (.panicked [flawEntry at_ a b]) w':=by subst h;exact ⟨e,.inr ⟨h0,rfl⟩⟩
theorem qV_loadG {P:Program} {C:World→Prop} [ClassNe C] {T:TypeId} {a:Addr} {v:Value} {k:Value→Prop} (h:∀ w',C w'→Loads P w' T a v):qV P C (Instr.loadAt T (.pointer (some a))) k=k v :=
 qV_eqC fun w' e=>run_of_op fun QP k=>op_load (h w' e)
section
variable {a0 w:World} {cb md ms:Nat} {deps:List (ByteArray×Int)} {strs:List (ByteArray×Bool)} {at_ fld:Int} {fs:List FieldD}
theorem nxt_end (h:CkO a0 w cb md ms deps strs at_ (-1) fs) (p2 p3 p6 p9 B:Nat) (m:MsgD) (fv:Value) (st:Bool) (dp:Int) (hd0:0≤dp) (hd1:dp≤1000)
 (o2:w.heap[p2]?=some (.cells #[.pointer (some ⟨cb,0,none⟩)] 151 (0,0))) (o3:w.heap[p3]?=some (.cells (msgCells m fv).toArray 53 (0,0))) (o6:w.heap[p6]?=some (.cells #[.bool st] 4 (0,0))) (o9:w.heap[p9]?=some (.cells #[.int .i64 dp] 3 (0,0)))
 (hmk:MarkAt B w) (hB:a0.heap.size≤B) (r:Int×Int) (hr:r=if dp < 16 then (-1,0) else (-1,10)) (K:World→Prop)
 (hK:∀ w',CkO a0 w' cb md ms (deps++[(m.name,dp+1)]) (strs++[(m.name,st)]) at_ (-1) fs→K w') :
 drawK w fun C12 w=>n69c8 (.pointer (some ⟨p2,0,none⟩)) (.pointer (some ⟨p3,0,none⟩)) (.pointer (some ⟨p6,0,none⟩)) (.pointer (some ⟨p9,0,none⟩)) C12 [Sw.mark B] (nxtR a0 at_ r K) w:=by
 obtain ⟨n1,n2,l1,l2,l3⟩:=h.nd
 have hne:=h.ne
 obtain ⟨dn,mv,ds,mn,fv',h1,h2⟩:=h.obj
 have m2:p2≠md:=by rintro rfl;have:=h.mdeps.obj;rw [o2] at this;cases this
 have m3:p3≠md:=by rintro rfl;have:=h.mdeps.obj;rw [o3] at this;cases this
 have m6:p6≠md:=by rintro rfl;have:=h.mdeps.obj;rw [o6] at this;cases this
 have m9:p9≠md:=by rintro rfl;have:=h.mdeps.obj;rw [o9] at this;cases this
 have q2:p2≠ms:=by rintro rfl;have:=h.mstrs.obj;rw [o2] at this;cases this
 have q3:p3≠ms:=by rintro rfl;have:=h.mstrs.obj;rw [o3] at this;cases this
 have q6:p6≠ms:=by rintro rfl;have:=h.mstrs.obj;rw [o6] at this;cases this
 have q9:p9≠ms:=by rintro rfl;have:=h.mstrs.obj;rw [o9] at this;cases this
 refine drawK_introB (w1:=w) md ms (fun _ _ _ _=>rfl) ?_
 unfold n69c8
 simp (disch:=try exact DI) only [↓PR,QR,simprocAttr,(cells_of_heap h1).1,(cells_of_heap o2).1,(cells_of_heap o3).1,(cells_of_heap o6).1,(cells_of_heap o9).1]
 have eD:Ext w w.drew:=(Ext.refl w).drew
 have hmd:MapOf w.drew md (vI deps):=h.mdeps.ext eD
 rw [op_mapEntryS Tryz.underlying59 Tryz.underlying9 ty3 hmd m.name]
 refine ⟨fun b hb b1 b2=>(World.putObj_heap_other b1),?_⟩
 unfold n69c7
 simp (disch:=try exact DI) only [↓PR,QR,simprocAttr]
 rw [op_entryStore (MapB.ent hmd m.name _) (hasK_ent _ _),ent_put,putObj_putObj]
 have hw1:w.drew.putObj md (mapObj (fun s:ByteArray=>Value.string s) (putL (bld (vI deps)).1 (bld (vI deps)).2 m.name (.int .i64 (IntKind.i64.wrap (dp+1)))) (putC (bld (vI deps)).1 (bld (vI deps)).2 m.name))=putW w.drew md (vI deps) m.name (.int .i64 (IntKind.i64.wrap (dp+1))):=by
  unfold putW;rw [bld_snoc]
 rw [hw1]
 have hms:MapOf (putW w.drew md (vI deps) m.name (.int .i64 (IntKind.i64.wrap (dp+1)))) ms (vB strs):=MapB.putOther (h.mstrs.ext eD) (fun e=>hne e.symm) _
 refine ⟨fun b hb b1 b2=>(World.putObj_heap_other b1),?_⟩
 rw [op_mapEntryS Tryz.underlying99 Tryz.underlying9 ty4 hms m.name]
 refine ⟨fun b hb b1 b2=>(World.putObj_heap_other b2).trans (World.putObj_heap_other b1),?_⟩
 unfold n69c6
 simp (disch:=try exact DI) only [↓PR,QR,simprocAttr]
 rw [op_entryStore (MapB.ent hms m.name _) (hasK_ent _ _),ent_put,putObj_putObj]
 have hw2:(putW w.drew md (vI deps) m.name (.int .i64 (IntKind.i64.wrap (dp+1)))).putObj ms (mapObj (fun s:ByteArray=>Value.string s) (putL (bld (vB strs)).1 (bld (vB strs)).2 m.name (.bool st)) (putC (bld (vB strs)).1 (bld (vB strs)).2 m.name))=putW (putW w.drew md (vI deps) m.name (.int .i64 (IntKind.i64.wrap (dp+1)))) ms (vB strs) m.name (.bool st):=by
  unfold putW;rw [bld_snoc,bld_snoc]
 rw [hw2]
 have hwr:IntKind.i64.wrap (dp+1)=dp+1:=wrap_ok (by omega) (by omega)
 rw [hwr]
 have hC2:CkO a0 (putW (putW w.drew md (vI deps) m.name (.int .i64 (dp+1))) ms (vB strs) m.name (.bool st)) cb md ms (deps++[(m.name,dp+1)]) (strs++[(m.name,st)]) at_ (-1) fs:=by
  refine ⟨(h.ext.drew.putObj h.lmd _).putObj h.lms _,⟨dn,mv,ds,mn,fv',((World.putObj_heap_other n2).trans (World.putObj_heap_other n1)).trans h1,h2⟩,?_,?_,h.lcb,h.lmd,h.lms,hne⟩
  · have:=MapB.putOther (hmd.put m.name (.int .i64 (dp+1))) hne (mapObjS (bld (vB strs++[(m.name,.bool st)])).1 (bld (vB strs++[(m.name,.bool st)])).2)
    unfold vI at this ⊢
    rw [List.map_append]
    exact this
  · rw [hwr] at hms
    have:=hms.put m.name (.bool st)
    unfold vB at this ⊢
    rw [List.map_append]
    exact this
 have hk2:MarkAt B (putW (putW w.drew md (vI deps) m.name (.int .i64 (dp+1))) ms (vB strs) m.name (.bool st)):=by
  have b1:B≠md:=by rintro rfl;have:=h.mdeps.obj;unfold MarkAt at hmk;rw [hmk] at this;cases this
  have b2:B≠ms:=by rintro rfl;have:=h.mstrs.obj;unfold MarkAt at hmk;rw [hmk] at this;cases this
  exact ((World.putObj_heap_other b2).trans (World.putObj_heap_other b1)).trans hmk
 have o2':(putW (putW w.drew md (vI deps) m.name (.int .i64 (dp+1))) ms (vB strs) m.name (.bool st)).heap[p2]?=some (.cells #[.pointer (some ⟨cb,0,none⟩)] 151 (0,0)):=((World.putObj_heap_other q2).trans (World.putObj_heap_other m2)).trans o2
 have o9':(putW (putW w.drew md (vI deps) m.name (.int .i64 (dp+1))) ms (vB strs) m.name (.bool st)).heap[p9]?=some (.cells #[.int .i64 dp] 3 (0,0)):=((World.putObj_heap_other q9).trans (World.putObj_heap_other m9)).trans o9
 generalize putW (putW w.drew md (vI deps) m.name (.int .i64 (dp+1))) ms (vB strs) m.name (.bool st)=W at hC2 hk2 o2' o9' ⊢
 refine turnK_intro ?_
 unfold n69c5
 simp (disch:=try exact DI) only [↓PR,QR,simprocAttr,(cells_of_heap o2').1,(cells_of_heap o9').1]
 refine callK_flw (need_flw hC2.chk _ 10 (by decide)) (fun w' e h0=>?_) (fun w' e h0=>?_)
 · refine outX_mark (hk2.ext e) ?_
   rw [outX_nil]
   have hC3:=(hC2.go e).unmark (hk2.ext e) hB
   refine nxtR_ret hC3.ext ?_ (hK _ hC3)
   rw [hr]
   by_cases hdp:dp < 16
   · rw [if_pos hdp]
   · rw [decide_eq_false hdp] at h0;exact absurd h0 (by decide)
 · refine outQ_mark (hk2.ext e) ?_
   rw [outQ_nil]
   have hC3:=(hC2.go e).unmark (hk2.ext e) hB
   by_cases hdp:dp < 16
   · rw [decide_eq_true hdp] at h0;exact absurd rfl h0
   · rw [decide_eq_false hdp]
     rw [if_neg hdp] at hr
     exact nxtR_pan hC3.ext hr (by decide)
theorem maxI_le {a b c:Int} (h1:a≤c) (h2:b≤c):maxI a b≤c:=by unfold maxI;split<;>assumption
theorem le_maxI (a b:Int):a≤maxI a b:=by unfold maxI;split<;>omega
theorem foldl_maxI (g:ByteArray→Int):∀ (l:List ByteArray) (d:Int),0≤d→(∀ s∈l,0≤g s∧g s≤16)→d≤16→0≤l.foldl (fun d s=>maxI d (g s)) d∧l.foldl (fun d s=>maxI d (g s)) d≤16
 | [],d,h0,_,h1=>⟨h0,h1⟩
 | s::l,d,h0,h,h1=>foldl_maxI g l _ (Int.le_trans h0 (le_maxI _ _)) (fun u hu=>h u (List.mem_cons_of_mem _ hu)) (maxI_le h1 (h s (List.mem_cons_self ..)).2)
def Low (deps:List (ByteArray×Int)):Prop:=∀ p∈deps,0≤p.2∧p.2≤16
theorem Low.get {deps:List (ByteArray×Int)} (h:Low deps) (s:ByteArray):0≤(lastP deps s).getD 0∧(lastP deps s).getD 0≤16:=by
 cases hl:lastP deps s with
 | none=>exact ⟨by decide,by decide⟩
 | some n=>exact h _ (lastP_mem hl)
theorem nxt_range (hlow:Low deps) (h:CkO a0 w cb md ms deps strs at_ fld fs) (p2 p3 p6:Nat) (m:MsgD) (fv:Value) (st:Bool) (hst:st=m.fields.all fun f=>!f.loose) (hF:FieldsOf a0 fv m.fields) (hb:(allRefs m.fields).length≤1048576) (hp2:a0.heap.size≤p2) (hp3:a0.heap.size≤p3) (hp6:a0.heap.size≤p6) (h26:p2 < p6) (h36:p3 < p6)
 (o2:w.heap[p2]?=some (.cells #[.pointer (some ⟨cb,0,none⟩)] 151 (0,0))) (o3:w.heap[p3]?=some (.cells (msgCells m fv).toArray 53 (0,0))) (o6:w.heap[p6]?=some (.cells #[.bool st] 4 (0,0)))
 (r:Int×Int) (hr:r=if depthM deps m < 16 then (-1,0) else (-1,10)) (K:World→Prop)
 (hK:∀ w',CkO a0 w' cb md ms (deps++[(m.name,depthM deps m+1)]) (strs++[(m.name,strictM strs m)]) at_ (-1) fs→K w') :
 n69c10 (.pointer (some ⟨p2,0,none⟩)) (.pointer (some ⟨p3,0,none⟩)) (.pointer (some ⟨p6,0,none⟩)) [] (nxtR a0 at_ r K) w:=by
 obtain ⟨n1,n2,l1,l2,l3⟩:=h.nd
 obtain ⟨dn,mv,ds,mn,fv',h1,h2⟩:=h.obj
 have c2:p2≠cb:=by rintro rfl;rw [o2] at h1;cases h1
 have c3:p3≠cb:=by rintro rfl;rw [o3] at h1;cases h1
 have c6:p6≠cb:=by rintro rfl;rw [o6] at h1;cases h1
 have lp6:p6 < w.heap.size:=(Array.getElem?_eq_some_iff.1 o6).1
 have lp3:p3 < w.heap.size:=(Array.getElem?_eq_some_iff.1 o3).1
 unfold n69c10
 simp (disch:=try exact DI) only [↓PR,QR,simprocAttr,(cells_of_heap h1).1,(cells_of_heap h1).2,(cells_of_heap o2).1,(cells_of_heap o3).1]
 have hC1:=h.setFld (-1)
 have o2':(w.setCell ⟨cb,6,none⟩ (.int .i64 (-1))).heap[p2]?=some (.cells #[.pointer (some ⟨cb,0,none⟩)] 151 (0,0)):=by rw [Only.setCell w cb 6 _ p2 c2];exact o2
 have o3':(w.setCell ⟨cb,6,none⟩ (.int .i64 (-1))).heap[p3]?=some (.cells (msgCells m fv).toArray 53 (0,0)):=by rw [Only.setCell w cb 6 _ p3 c3];exact o3
 have o6':(w.setCell ⟨cb,6,none⟩ (.int .i64 (-1))).heap[p6]?=some (.cells #[.bool st] 4 (0,0)):=by rw [Only.setCell w cb 6 _ p6 c6];exact o6
 simp only [World.size_setCell]
 have eW:=hC1.go ((Ext.refl (w.setCell ⟨cb,6,none⟩ (.int .i64 (-1)))).alloc (Obj.cells #[.int .i64 0] 3))
 have x2:=((Ext.refl (w.setCell ⟨cb,6,none⟩ (.int .i64 (-1)))).alloc (Obj.cells #[.int .i64 0] 3)).obj o2'
 have x3:=((Ext.refl (w.setCell ⟨cb,6,none⟩ (.int .i64 (-1)))).alloc (Obj.cells #[.int .i64 0] 3)).obj o3'
 have x6:=((Ext.refl (w.setCell ⟨cb,6,none⟩ (.int .i64 (-1)))).alloc (Obj.cells #[.int .i64 0] 3)).obj o6'
 have x9:=heap_new (w.setCell ⟨cb,6,none⟩ (.int .i64 (-1))) #[.int .i64 0] 3
 rw [World.size_setCell] at x9
 generalize hW:World.alloc (w.setCell ⟨cb,6,none⟩ (.int .i64 (-1))) _=W at eW x2 x3 x6 x9
 have hsz:W.heap.size=w.heap.size+1:=by rw [← hW];simp only [World.size_alloc,World.size_setCell]
 clear hW hC1 o2 o3 o6 o2' o3' o6' h
 have lW:a0.heap.size≤W.heap.size:=eW.ext.size
 refine callK_ret (Refers_ret W _ m ⟨fv,rfl,hF.ext eW.ext⟩ hb) ?_
 rintro _ w7 ⟨pb,sv,rfl,hS,hpb,e7⟩
 have s7:=e7.size
 unfold n69c9
 let rs:=refsM m
 let I:Nat→World→Prop:=fun k w'=>CkO a0 w' cb md ms deps strs at_ (-1) fs∧StrsAt w' pb sv (allRefs m.fields)∧w'.heap[p2]?=some (.cells #[.pointer (some ⟨cb,0,none⟩)] 151 (0,0))∧w'.heap[p3]?=some (.cells (msgCells m fv).toArray 53 (0,0)) ∧
  w'.heap[p6]?=some (.cells #[.bool (st&&(rs.take k).all fun s=>(lastP strs s).getD false)] 4 (0,0))∧w'.heap[w.heap.size]?=some (.cells #[.int .i64 ((rs.take k).foldl (fun d s=>maxI d ((lastP deps s).getD 0)) 0)] 3 (0,0))
 have hLI:∀ k,Lasts w7.heap.size (I k):=fun k=>Lasts.and (CkO.lasts (by omega)) (Lasts.and (StrsAt.lasts _ _ _ _) (Lasts.and (Lasts.has _ (by simp)) (Lasts.and (Lasts.has _ (by simp)) (Lasts.and (Lasts.has _ (by simp)) (Lasts.has _ (by simp))))))
 refine ⟨_,_,rs.length,strX rs,fun w=>StrsAt w pb sv (allRefs m.fields),I,fun _ _=>False,fun _ _=>False,rfl,c95,Refers_seq pb sv _,⟨eW.go e7,hS,e7.obj x2,e7.obj x3,?_,e7.obj x9⟩,fun k w h=>h.2.1,hLI,fun _=>Lasts.const _ _,?_,?_,?_,?_⟩
 · have:=e7.obj x6
   rw [this];simp
 · intro rec j w3 hj hI3 hrec hready
   refine ⟨hready,fun w4 hbz=>?_⟩
   have hrec4:=hrec.busied hbz
   have hI4:=(hLI j).busied hbz (Nat.le_succ _) hI3
   clear hI3 hrec hready hbz
   obtain ⟨hC4,hS4,y2,y3,y6,y9⟩:=hI4
   obtain ⟨s,hx⟩:=getElem?_lt hj
   have hrs:rs[j]?=some s:=hx
   rw [show strX rs j = .string s by unfold strX;rw [hrs]]
   obtain ⟨dn,mv,ds,mn,fv',h1,h2⟩:=hC4.obj
   have l9:w.heap.size < w4.heap.size:=(Array.getElem?_eq_some_iff.1 y9).1
   have hstep:rs.take (j+1)=rs.take j++[s]:=take_snoc hrs
   refine drawK_intro ?_
   unfold n69c4
   simp (disch:=try exact DI) only [↓PR,QR,simprocAttr,(cells_of_heap y9).1,(cells_of_heap y2).1,(cells_of_heap h1).1]
   rw [qV_lookup1E Tryz.underlying59 Tryz.underlying9 ty3 (hC4.mdeps.ext ((Ext.refl w4).wdrew)) s]
   have hg:(lastOf (vI deps) s).getD (.int .i64 0) = .int .i64 ((lastP deps s).getD 0):=by rw [lastOf_vI];cases lastP deps s<;>rfl
   rw [hg]
   simp (disch:=try exact DI) only [↓PR,QR,simprocAttr,(cells_of_heap y9).1,(cells_of_heap y9).2]
   refine turnK_intro ?_
   have e4:Ext w4 w4.drew:=(Ext.refl w4).wdrew
   have hC5:=(hC4.go e4).other (b:=w.heap.size) (o:=0) (by omega) (by omega) (.int .i64 (if (lastP deps s).getD 0 > (rs.take j).foldl (fun d s=>maxI d ((lastP deps s).getD 0)) 0 then (lastP deps s).getD 0 else (rs.take j).foldl (fun d s=>maxI d ((lastP deps s).getD 0)) 0))
   have hS5:StrsAt (w4.drew.setCell ⟨w.heap.size,0,none⟩ (.int .i64 (if (lastP deps s).getD 0 > (rs.take j).foldl (fun d s=>maxI d ((lastP deps s).getD 0)) 0 then (lastP deps s).getD 0 else (rs.take j).foldl (fun d s=>maxI d ((lastP deps s).getD 0)) 0))) pb sv (allRefs m.fields):=(hS4.ext e4).set (by omega) _
   have hrec5:RecAt rec w7.heap.size (w4.drew.setCell ⟨w.heap.size,0,none⟩ (.int .i64 (if (lastP deps s).getD 0 > (rs.take j).foldl (fun d s=>maxI d ((lastP deps s).getD 0)) 0 then (lastP deps s).getD 0 else (rs.take j).foldl (fun d s=>maxI d ((lastP deps s).getD 0)) 0))):=hrec4.drew.setCell _ _
   have z2:=(Only.setCell w4.drew w.heap.size 0 (.int .i64 (if (lastP deps s).getD 0 > (rs.take j).foldl (fun d s=>maxI d ((lastP deps s).getD 0)) 0 then (lastP deps s).getD 0 else (rs.take j).foldl (fun d s=>maxI d ((lastP deps s).getD 0)) 0)) p2 (by omega)).trans y2
   have z3:=(Only.setCell w4.drew w.heap.size 0 (.int .i64 (if (lastP deps s).getD 0 > (rs.take j).foldl (fun d s=>maxI d ((lastP deps s).getD 0)) 0 then (lastP deps s).getD 0 else (rs.take j).foldl (fun d s=>maxI d ((lastP deps s).getD 0)) 0)) p3 (by omega)).trans y3
   have z6:=(Only.setCell w4.drew w.heap.size 0 (.int .i64 (if (lastP deps s).getD 0 > (rs.take j).foldl (fun d s=>maxI d ((lastP deps s).getD 0)) 0 then (lastP deps s).getD 0 else (rs.take j).foldl (fun d s=>maxI d ((lastP deps s).getD 0)) 0)) p6 (by omega)).trans y6
   have z9:=heap_set (w:=w4.drew) (o:=0) y9 (.int .i64 (if (lastP deps s).getD 0 > (rs.take j).foldl (fun d s=>maxI d ((lastP deps s).getD 0)) 0 then (lastP deps s).getD 0 else (rs.take j).foldl (fun d s=>maxI d ((lastP deps s).getD 0)) 0))
   rw [show (#[Value.int .i64 ((rs.take j).foldl (fun d s=>maxI d ((lastP deps s).getD 0)) 0)]:Array Value).setIfInBounds 0 (.int .i64 (if (lastP deps s).getD 0 > (rs.take j).foldl (fun d s=>maxI d ((lastP deps s).getD 0)) 0 then (lastP deps s).getD 0 else (rs.take j).foldl (fun d s=>maxI d ((lastP deps s).getD 0)) 0)) = #[.int .i64 ((rs.take (j+1)).foldl (fun d s=>maxI d ((lastP deps s).getD 0)) 0)] from by rw [hstep,List.foldl_append];rfl] at z9
   generalize w4.drew.setCell ⟨w.heap.size,0,none⟩ _=w5 at hC5 hS5 hrec5 z2 z3 z6 z9 ⊢
   clear hC4 hS4 hrec4 y2 y3 y6 y9 h1 hg
   obtain ⟨dn,mv,ds,mn,fv',h1,h2⟩:=hC5.obj
   have hall:(st&&(rs.take (j+1)).all fun s=>(lastP strs s).getD false)=((st&&(rs.take j).all fun s=>(lastP strs s).getD false)&&(lastP strs s).getD false):=by
    rw [hstep,List.all_append,Bool.and_assoc];simp
   have fin:∀ b,b=(st&&(rs.take (j+1)).all fun s=>(lastP strs s).getD false)→RecAt rec w7.heap.size (w5.setCell ⟨p6,0,none⟩ (.bool b))∧I (j+1) (w5.setCell ⟨p6,0,none⟩ (.bool b)):=by
    rintro b rfl
    refine ⟨hrec5.setCell _ _,hC5.other hp6 c6 _,hS5.set (by omega) _,(Only.setCell w5 p6 0 _ p2 (by omega)).trans z2,(Only.setCell w5 p6 0 _ p3 (by omega)).trans z3,?_,(Only.setCell w5 p6 0 _ w.heap.size (by omega)).trans z9⟩
    have:=heap_set (o:=0) z6 (.bool (st&&(rs.take (j+1)).all fun s=>(lastP strs s).getD false))
    simpa using this
   rw [hall] at fin
   generalize (st&&(rs.take j).all fun s=>(lastP strs s).getD false)=sj at z6 fin
   unfold n69c3
   have hg:(lastOf (vB strs) s).getD (.bool false) = .bool ((lastP strs s).getD false):=by rw [lastOf_vB];cases lastP strs s<;>rfl
   cases sj with
   | false =>
    simp (disch:=try exact DI) only [↓PR,QR,simprocAttr,(cells_of_heap z6).1,(cells_of_heap z6).2,↓n69c1,↓n69c2,↓n69c3,↓n69c4,↓n69c5,↓n69c6,↓n69c7,↓n69c8,↓n69c9,↓n69c10,↓n69c11,↓n69c12,↓n69c13,↓n69c14,↓n69c15,↓n69c16,↓n69c17,↓n69c18]
    exact fin false rfl
   | true =>
    simp (disch:=try exact DI) only [↓PR,QR,simprocAttr,(cells_of_heap z6).1,(cells_of_heap z6).2,(cells_of_heap z2).1,(cells_of_heap h1).1]
    rw [op_lookup1O Tryz.underlying99 Tryz.underlying9 ty4 hC5.mstrs s,hg]
    generalize (lastP strs s).getD false=b at fin
    simp (disch:=try exact DI) only [↓PR,QR,simprocAttr,(cells_of_heap z6).1,(cells_of_heap z6).2,n69c1]
    exact fin b (by cases b<;>rfl)
 · rintro w3 hI3 hmk
   obtain ⟨hC3,hS3,y2,y3,y6,y9⟩:=hI3
   rw [List.take_length] at y6 y9
   have hfold:=foldl_maxI (fun s=>(lastP deps s).getD 0) rs 0 (by decide) (fun s _=>hlow.get s) (by decide)
   refine nxt_end hC3 p2 p3 p6 w.heap.size w7.heap.size m fv _ _ hfold.1 (by have:=hfold.2;omega) y2 y3 y6 y9 hmk (by omega) r hr K ?_
   rw [hst]
   exact hK
 · rintro c w3 h
   exact h.elim
 · rintro ch w3 h
   exact h.elim
end
section
variable {a0 w:World} {cb md ms:Nat} {deps:List (ByteArray×Int)} {strs:List (ByteArray×Bool)} {at_ fld:Int} {m:MsgD}
theorem nxt_loop (hlow:Low deps) (h:CkO a0 w cb md ms deps strs at_ fld m.fields) (p2 p3:Nat) (fv:Value) (hF:FieldsOf a0 fv m.fields) (hb:(allRefs m.fields).length≤1048576) (ht:∀ f∈m.fields,f.terms.length≤1048576) (hp2:a0.heap.size≤p2) (hp3:a0.heap.size≤p3)
 (o2:w.heap[p2]?=some (.cells #[.pointer (some ⟨cb,0,none⟩)] 151 (0,0))) (o3:w.heap[p3]?=some (.cells (msgCells m fv).toArray 53 (0,0)))
 (r:Int×Int) (hr:r=tailP deps m (fieldsP deps strs [] m.fields)) (K:World→Prop)
 (hK:∀ w',CkO a0 w' cb md ms (deps++[(m.name,depthM deps m+1)]) (strs++[(m.name,strictM strs m)]) at_ (-1) m.fields→K w') :
 n69c13 (.pointer (some ⟨p2,0,none⟩)) (.pointer (some ⟨p3,0,none⟩)) [] (nxtR a0 at_ r K) w:=by
 obtain ⟨n1,n2,l1,l2,l3⟩:=h.nd
 have lp2:p2 < w.heap.size:=(Array.getElem?_eq_some_iff.1 o2).1
 have lp3:p3 < w.heap.size:=(Array.getElem?_eq_some_iff.1 o3).1
 have lw:=h.ext.size
 obtain ⟨A,c,rfl,hlc,hcm,hlm,hel⟩:=SliceOf.open hF
 unfold n69c13
 simp (disch:=try exact DI) only [↓PR,QR,simprocAttr,(cells_of_heap o3).1]
 refine loop1_intro (fun i w'=>∃ (k:Nat) (fld':Int),i = .int .i64 k∧k≤m.fields.length∧CkO a0 w' cb md ms deps strs at_ fld' m.fields∧w'.heap[p2]?=some (.cells #[.pointer (some ⟨cb,0,none⟩)] 151 (0,0))∧w'.heap[p3]?=some (.cells (msgCells m (.slice A m.fields.length c)).toArray 53 (0,0)) ∧
  w'.heap[w.heap.size]?=some (.cells #[.bool ((m.fields.take k).all fun f=>!f.loose)] 4 (0,0))∧r=tailP deps m (fieldsP deps strs (m.fields.take k) (m.fields.drop k))) (fun i _=>m.fields.length - (intOf i).toNat) ⟨0,fld,rfl,by omega,h.go ((Ext.refl _).alloc _),((Ext.refl _).alloc _).obj o2,((Ext.refl _).alloc _).obj o3,heap_new w #[.bool true] 4,hr⟩ ?_
 rintro i w' ⟨k,fld',rfl,hk,hC,y2,y3,y6,hrk⟩
 have l6:w.heap.size < w'.heap.size:=(Array.getElem?_eq_some_iff.1 y6).1
 have lw':=hC.ext.size
 obtain ⟨dn,mv,ds,mn,fv',h1,h2⟩:=hC.obj
 have c2:p2≠cb:=by rintro rfl;rw [y2] at h1;cases h1
 have c3:p3≠cb:=by rintro rfl;rw [y3] at h1;cases h1
 rcases drop_cases hk with ⟨x,hx,hd,hlt,hdec⟩ | ⟨hk,hd,hdec⟩
 · obtain ⟨b,o,cs,rfl,hl,hA,hE⟩:=hel k x hx
   obtain ⟨tv,cv,rfl,hT,hCa,ht1,hc1⟩:=hE.op
   have hA':=hA.ext hC.ext
   rw [hd] at hrk
   simp only [fieldsP] at hrk
   unfold n69c12
   simp (disch:=try exact DI) only [↓PR,QR,simprocAttr,hdec]
   unfold n69c11
   try unfold X0
   try unfold L0
   rw [op_indexN Tryz.underlying51 ty71 _ _ _ _ _ k hlt,op_load (hA'.loads ty71 rfl)]
   simp (disch:=try exact DI) only [↓PR,QR,simprocAttr,(cells_of_heap y2).1,(cells_of_heap h1).1,(cells_of_heap h1).2]
   have hCw:=(hC.setFld (k:Int)).go ((Ext.refl _).alloc (Obj.cells (fieldCells x tv cv).toArray 71))
   have z2:=((Ext.refl _).alloc (Obj.cells (fieldCells x tv cv).toArray 71)).obj ((Only.setCell w' cb 6 (.int .i64 (k:Int)) p2 c2).trans y2)
   have z3:=((Ext.refl _).alloc (Obj.cells (fieldCells x tv cv).toArray 71)).obj ((Only.setCell w' cb 6 (.int .i64 (k:Int)) p3 c3).trans y3)
   have z6:=((Ext.refl _).alloc (Obj.cells (fieldCells x tv cv).toArray 71)).obj ((Only.setCell w' cb 6 (.int .i64 (k:Int)) w.heap.size (by omega)).trans y6)
   have z8:=heap_new (w'.setCell ⟨cb,6,none⟩ (.int .i64 (k:Int))) (fieldCells x tv cv).toArray 71
   rw [World.size_setCell] at z8
   generalize (World.alloc (w'.setCell ⟨cb,6,none⟩ (.int .i64 (k:Int))) (Obj.cells (fieldCells x tv cv).toArray 71))=W at hCw z2 z3 z6 z8 ⊢
   have hkt:(m.fields.take k).length=k:=by rw [List.length_take];omega
   refine callK_flw (examine_flw hCw.chk k rfl hlt _ x ⟨tv,cv,rfl,TermsOf.ext hT hCw.ext,CasesOf.ext hCa hCw.ext⟩ (ht x (List.mem_of_getElem? hx))) (fun w5 e5 h0=>?_) (fun w5 e5 h0=>?_)
   · rw [if_pos h0] at hrk
     have q6:=e5.obj z6
     have q8:=e5.obj z8
     have hC5:=hCw.go e5
     have l5:w'.heap.size < w5.heap.size:=(Array.getElem?_eq_some_iff.1 q8).1
     have htk:=take_snoc hx
     rw [← htk] at hrk
     have hall:((m.fields.take (k+1)).all fun f=>!f.loose)=(((m.fields.take k).all fun f=>!f.loose)&&!x.loose):=by rw [htk,List.all_append];simp
     have fin:∀ b' w6,Ext w5 w6→b'=((m.fields.take (k+1)).all fun f=>!f.loose)→(∃ (k':Nat) (fld':Int),Value.int .i64 ((k+1:Nat):Int) = .int .i64 k'∧k'≤m.fields.length∧CkO a0 (w6.setCell ⟨w.heap.size,0,none⟩ (.bool b')) cb md ms deps strs at_ fld' m.fields∧w6.heap[p2]?=some (.cells #[.pointer (some ⟨cb,0,none⟩)] 151 (0,0))∧w6.heap[p3]?=some (.cells (msgCells m (.slice (some ⟨b,o,none⟩) m.fields.length c)).toArray 53 (0,0)) ∧
      (w6.setCell ⟨w.heap.size,0,none⟩ (.bool b')).heap[w.heap.size]?=some (.cells #[.bool ((m.fields.take k').all fun f=>!f.loose)] 4 (0,0))∧r=tailP deps m (fieldsP deps strs (m.fields.take k') (m.fields.drop k')))∧m.fields.length - (intOf (Value.int .i64 ((k+1:Nat):Int))).toNat < m.fields.length - (intOf (Value.int IntKind.i64 k)).toNat:=by
      rintro b' w6 e6 rfl
      refine ⟨⟨k+1,k,rfl,by omega,(hC5.go e6).other (by omega) (by omega) _,e6.obj (e5.obj z2),e6.obj (e5.obj z3),?_,hrk⟩,meas_lt (kd := .i64) hlt⟩
      have:=heap_set (o:=0) (e6.obj q6) (.bool ((m.fields.take (k+1)).all fun f=>!f.loose))
      simpa using this
     unfold n69c2
     rw [hall] at fin
     generalize ((m.fields.take k).all fun f=>!f.loose)=sj at q6 fin
     cases sj with
     | true =>
      generalize hxl:x.loose=xl at fin
      simp (disch:=try exact DI) only [↓PR,QR,simprocAttr,(cells_of_heap q6).1,(cells_of_heap q6).2,(cells_of_heap q8).1,n69c1,hxl]
      simp only [Bool.true_and] at fin
      exact fin _ w5 (Ext.refl _) rfl
     | false =>
      simp (disch:=try exact DI) only [↓PR,QR,simprocAttr,(cells_of_heap q6).1,(cells_of_heap q6).2,(cells_of_heap q8).1,n69c1]
      simp only [Bool.false_and] at fin
      exact fin _ w5 (Ext.refl _) rfl
   · rw [if_neg h0] at hrk
     have hr2:r=((k:Int),examineC (m.fields.take k) (vI deps) (vB strs) x):=by
      rw [hrk,hkt];unfold tailP;rw [if_neg h0]
     show outQ _ _ _ _ _ _
     rw [outQ_nil]
     exact nxtR_pan (hCw.ext.trans e5) hr2 h0
 · subst hk
   rw [hd] at hrk
   rw [List.take_length] at y6
   unfold n69c12
   simp (disch:=try exact DI) only [↓PR,QR,simprocAttr,hdec]
   refine nxt_range hlow hC p2 p3 w.heap.size m _ _ rfl hF hb hp2 hp3 lw lp2 lp3 y2 y3 y6 r ?_ K hK
   rw [hrk]
   rfl
theorem next_flw {w0:World} {fs0:List FieldD} (hlow:Low deps) (h:CkO a0 w0 cb md ms deps strs at_ fld fs0) (v:Value) (hm:MsgVal a0 v m) (hb:(allRefs m.fields).length≤1048576) (ht:∀ f∈m.fields,f.terms.length≤1048576) (K:World→Prop)
 (hK:∀ w',CkO a0 w' cb md ms (deps++[(m.name,depthM deps m+1)]) (strs++[(m.name,strictM strs m)]) at_ (-1) m.fields→K w') :
 Calls Pg 107 #[.pointer (some ⟨cb,0,none⟩),v] w0 (nxtR a0 at_ (nextP deps strs m) K):=by
 obtain ⟨fv,rfl,hF⟩:=hm
 obtain ⟨n1,n2,l1,l2,l3⟩:=h.nd
 have lw:=h.ext.size
 have hf1:=SliceOf.oneCell hF
 refine n69s ?_;unfold n69
 simp (disch:=try exact DI) only [↓PR,QR,simprocAttr]
 have hC:=h.go (((Ext.refl w0).alloc (Obj.cells #[.pointer (some ⟨cb,0,none⟩)] 151)).alloc (Obj.cells (msgCells m fv).toArray 53))
 have z3:=heap_new (w0.alloc (Obj.cells #[.pointer (some ⟨cb,0,none⟩)] 151)) (msgCells m fv).toArray 53
 have z2:=((Ext.refl (w0.alloc (Obj.cells #[.pointer (some ⟨cb,0,none⟩)] 151))).alloc (Obj.cells (msgCells m fv).toArray 53)).obj (heap_new w0 _ _)
 simp only [World.size_alloc] at z3 ⊢
 generalize (World.alloc (World.alloc w0 _) _)=W at hC z2 z3 ⊢
 clear h
 obtain ⟨dn,mv,ds,mn,fv',h1,h2⟩:=hC.obj
 refine drawK_introB (w1:=W) cb cb (fun _ _ _ _=>rfl) ?_
 unfold n69c18
 simp (disch:=try exact DI) only [↓PR,QR,simprocAttr,(cells_of_heap z2).1]
 have L3:∀ w',KB W cb cb w'→Loads Pg w' 53 ⟨w0.heap.size+1,0,none⟩ (.agg (msgCells m fv).toArray):=fun w' hw'=>Loads.many ty53 rfl (fun j u hu=>by
  rw [Addr.add_lit]
  exact KB.cell (b:=w0.heap.size+1) hw' (by omega) (by omega) (by rw [(cells_of_heap z3).1];simpa using hu))
 rw [qV_loadG L3]
 simp (disch:=try exact DI) only [↓PR,QR,simprocAttr,(cells_of_heap h1).1,(cells_of_heap h1).2]
 have eD:Ext W W.drew:=(Ext.refl W).wdrew
 have hC1:=(hC.go eD).setMsg m.name fv m.fields hF
 have y2:=(Only.setCell (W.drew.setCell ⟨cb,7,none⟩ (.string m.name)) cb 8 fv w0.heap.size (by omega)).trans ((Only.setCell W.drew cb 7 (.string m.name) w0.heap.size (by omega)).trans (eD.obj z2))
 have y3:=(Only.setCell (W.drew.setCell ⟨cb,7,none⟩ (.string m.name)) cb 8 fv (w0.heap.size+1) (by omega)).trans ((Only.setCell W.drew cb 7 (.string m.name) (w0.heap.size+1) (by omega)).trans (eD.obj z3))
 refine ⟨fun b hb b1 _=>(Only.setCell _ cb 8 fv b b1).trans (Only.setCell W.drew cb 7 (.string m.name) b b1),?_⟩
 show n69c17 _ _ _ _ _ _ ((W.drew.setCell ⟨cb,7,none⟩ (.string m.name)).setCell ⟨cb,8,none⟩ fv)
 generalize ((W.drew.setCell ⟨cb,7,none⟩ (.string m.name)).setCell ⟨cb,8,none⟩ fv)=W1 at hC1 y2 y3 ⊢
 clear hC z2 z3 h1
 obtain ⟨dn,mv,ds,mn,fv',h1,h2'⟩:=hC1.obj
 unfold n69c17
 simp (disch:=try exact DI) only [↓PR,QR,simprocAttr,(cells_of_heap h1).1,(cells_of_heap h1).2]
 have hC2:=hC1.setFld (-1)
 have x2:=(Only.setCell W1 cb 6 (.int .i64 (-1)) w0.heap.size (by omega)).trans y2
 have x3:=(Only.setCell W1 cb 6 (.int .i64 (-1)) (w0.heap.size+1) (by omega)).trans y3
 generalize (W1.setCell ⟨cb,6,none⟩ (.int .i64 (-1)))=W2 at hC2 x2 x3 ⊢
 clear hC1 y2 y3 h1
 refine turnK_intro ?_
 refine drawK_intro ?_
 unfold n69c16
 simp (disch:=try exact DI) only [↓PR,QR,simprocAttr,(cells_of_heap x2).1,(cells_of_heap x3).1]
 refine zcr (Name_ret _ m.name) fun w3 e3=>?_
 have e3':Ext W2 w3:=(Ext.refl W2).wdrew.trans e3
 refine ⟨e3,?_⟩
 generalize hr:nextP deps strs m=r
 unfold nextP at hr
 refine callK_flw (need_flw (hC2.go e3').chk _ 1 (by decide)) (fun w4 e4 h0=>?_) (fun w4 e4 h0=>?_)
 · have e4':=e3'.trans e4
   have hn:nameB m.name=true:=needC_zero (by decide) h0
   rw [if_pos hn] at hr
   refine ⟨e3.trans e4,?_⟩
   have hC4:=hC2.go e4'
   have x2':=e4'.obj x2
   have x3':=e4'.obj x3
   obtain ⟨dn,mv,ds,mn,fv',h1,h2'⟩:=hC4.obj
   refine drawK_intro ?_
   unfold n69c15
   simp (disch:=try exact DI) only [↓PR,QR,simprocAttr,(cells_of_heap x2').1,(cells_of_heap x3').1,(cells_of_heap h1).1]
   have eD4:Ext w4 w4.drew:=(Ext.refl w4).wdrew
   rw [qV_lookupE Tryz.underlying59 Tryz.underlying9 ty3 (hC4.mdeps.ext eD4) m.name]
   have hsome:(lastOf (vI deps) m.name).isSome=(lastP deps m.name).isSome:=by rw [lastOf_vI,Option.isSome_map]
   rw [hsome]
   simp (disch:=try exact DI) only [↓PR,QR,simprocAttr,(cells_of_heap x2').1]
   refine callK_flw (need_flw (hC4.go eD4).chk _ 2 (by decide)) (fun w5 e5 h0=>?_) (fun w5 e5 h0=>?_)
   · have hs:(lastP deps m.name).isSome=false:=by have:=needC_zero (by decide) h0;simpa using this
     rw [hs,if_neg (by simp)] at hr
     have hC5:=hC4.go (eD4.trans e5)
     have x2'':=(eD4.trans e5).obj x2'
     have x3'':=(eD4.trans e5).obj x3'
     have fin:∀ b,b=decide (1≤m.fields.length∧m.fields.length≤40)→callK Pg 105 #[.pointer (some ⟨cb,0,none⟩),.bool b,.int .i64 3] (outQ Pg [] [] (nxtR a0 at_ r K)) w5 (fun _ w=>n69c13 (.pointer (some ⟨w0.heap.size,0,none⟩)) (.pointer (some ⟨w0.heap.size+1,0,none⟩)) [] (nxtR a0 at_ r K) w):=by
      rintro b rfl
      refine callK_flw (need_flw hC5.chk _ 3 (by decide)) (fun w6 e6 h0=>?_) (fun w6 e6 h0=>?_)
      · have hl:=needC_zero (by decide) h0
        simp only [decide_eq_true_eq] at hl
        rw [if_pos hl] at hr
        exact nxt_loop hlow (hC5.go e6) w0.heap.size (w0.heap.size+1) fv hF hb ht (by omega) (by omega) (e6.obj x2'') (e6.obj x3'') r hr.symm K hK
      · by_cases hl:1≤m.fields.length∧m.fields.length≤40
        · rw [decide_eq_true hl] at h0;exact absurd rfl h0
        · rw [if_neg hl] at hr
          rw [decide_eq_false hl]
          show outQ _ _ _ _ _ _
          rw [outQ_nil]
          exact nxtR_pan (hC5.ext.trans e6) hr.symm (by decide)
     obtain ⟨A,c,rfl,hlc,hcm,hlm,hel⟩:=SliceOf.open hF
     unfold n69c14
     by_cases h1l:1≤m.fields.length
     · have d1:decide ((m.fields.length:Int)≥1)=true:=by simp;omega
       by_cases h2l:m.fields.length≤40
       · have d2:decide ((m.fields.length:Int)≤40)=true:=by simp;omega
         simp (disch:=try exact DI) only [↓PR,QR,simprocAttr,(cells_of_heap x2'').1,(cells_of_heap x3'').1,d1,d2]
         exact fin _ (by simp [h1l,h2l])
       · have d2:decide ((m.fields.length:Int)≤40)=false:=by simp;omega
         simp (disch:=try exact DI) only [↓PR,QR,simprocAttr,(cells_of_heap x2'').1,(cells_of_heap x3'').1,d1,d2]
         exact fin _ (by simp [h2l])
     · have d1:decide ((m.fields.length:Int)≥1)=false:=by simp;omega
       simp (disch:=try exact DI) only [↓PR,QR,simprocAttr,(cells_of_heap x2'').1,(cells_of_heap x3'').1,d1]
       exact fin _ (by simp [h1l])
   · have hs:(lastP deps m.name).isSome=true:=by
      cases hq:(lastP deps m.name).isSome with
      | true=>rfl
      | false=>rw [hq] at h0;exact absurd rfl h0
     rw [hs,if_pos rfl] at hr
     rw [hs]
     show outQ _ _ _ _ _ _
     rw [outQ_nil]
     exact nxtR_pan (hC4.ext.trans (eD4.trans e5)) hr.symm (by decide)
 · have hn:nameB m.name=false:=by
    cases hq:nameB m.name with
    | false=>rfl
    | true=>rw [hq] at h0;exact absurd rfl h0
   rw [hn,if_neg (by simp)] at hr
   rw [hn]
   show outQ _ _ _ _ _ _
   rw [outQ_nil]
   exact nxtR_pan (hC2.ext.trans (e3'.trans e4)) hr.symm (by decide)
end
structure Save (lo hi:Nat) (w w':World):Prop where
 os:w'.os=w.os
 tape:w'.tape=w.tape
 output:w'.output=w.output
 size:w.heap.size≤w'.heap.size
 block:∀ k,k < w.heap.size→(k < lo∨hi≤k)→w'.heap[k]?=w.heap[k]?
section
variable {lo hi:Nat} {w w' w1 w2:World}
theorem Save.refl (lo hi:Nat) (w:World):Save lo hi w w:=⟨rfl,rfl,rfl,Nat.le_refl _,fun _ _ _=>rfl⟩
theorem Save.ext (h:Save lo hi w w1) (e:Ext w1 w2):Save lo hi w w2:=⟨e.os.trans h.os,e.tape.trans h.tape,e.output.trans h.output,Nat.le_trans h.size e.size,fun k hk hb=>(e.block k (Nat.lt_of_lt_of_le hk h.size)).trans (h.block k hk hb)⟩
theorem Save.trans (h:Save lo hi w w1) (k:Save lo hi w1 w2):Save lo hi w w2:=⟨k.os.trans h.os,k.tape.trans h.tape,k.output.trans h.output,Nat.le_trans h.size k.size,fun i hi' hb=>(k.block i (Nat.lt_of_lt_of_le hi' h.size) hb).trans (h.block i hi' hb)⟩
theorem Save.setCell (h:Save lo hi w w1) {b o:Nat} (h1:lo≤b) (h2:b < hi) (v:Value):Save lo hi w (w1.setCell ⟨b,o,none⟩ v) :=
 ⟨h.os,h.tape,h.output,by rw [World.size_setCell];exact h.size,fun k hk hb=>(Only.setCell w1 b o v k (by omega)).trans (h.block k hk hb)⟩
theorem Save.to_ext {a:World} (h:Save lo hi w w') (e:Ext a w) (hl:a.heap.size≤lo):Ext a w':=⟨h.os.trans e.os,h.tape.trans e.tape,h.output.trans e.output,Nat.le_trans e.size h.size,fun k hk=>(h.block k (Nat.lt_of_lt_of_le hk e.size) (.inl (by omega))).trans (e.block k hk)⟩
theorem Save.obj (h:Save lo hi w w') {b:Nat} {o:Obj} (hb:w.heap[b]?=some o) (hr:b < lo∨hi≤b):w'.heap[b]?=some o:=(h.block b (Array.getElem?_eq_some_iff.1 hb).1 hr).trans hb
theorem Save.cell (h:Save lo hi w w') {b o:Nat} {v:Value} (hb:w.cell? ⟨b,o,none⟩=some v) (hr:b < lo∨hi≤b):w'.cell? ⟨b,o,none⟩=some v:=(World.cell?_of_block (h.block b (World.block_lt_of_cell? w _ hb) hr)).trans hb
theorem Save.strs (h:Save lo hi w w') {pb:Nat} {sv:Value} {l:List ByteArray} (hs:StrsAt w pb sv l) (hp:hi≤pb):StrsAt w' pb sv l:=by
 obtain ⟨h1,⟨A,c,hv,h2,h3,h4⟩,h5⟩:=hs
 refine ⟨h.cell h1 (.inr hp),⟨A,c,hv,h2,h3,fun hne=>?_⟩,h5⟩
 obtain ⟨b,o,hA,hel⟩:=h4 hne
 refine ⟨b,o,hA,fun k x hx=>?_⟩
 obtain ⟨cs,a1,a2,a3⟩:=hel k x hx
 have hb:pb < b:=h5 ⟨b,o,none⟩ _ _ (by rw [hv,hA])
 exact ⟨cs,a1,fun j v hv=>h.cell (a2 j v hv) (.inr (by omega)),a3⟩
end
def MapI (w:World) (r:Nat) (φ:ByteArray→Option Int):Prop:=∃ ps,MapOf w r (vI ps)∧∀ s,lastP ps s=φ s
theorem MapI.ext {w w':World} {r:Nat} {φ:ByteArray→Option Int} (h:MapI w r φ) (e:Ext w w'):MapI w' r φ:=let ⟨ps,h1,h2⟩:=h; ⟨ps,h1.ext e,h2⟩
theorem MapI.lt {w:World} {r:Nat} {φ:ByteArray→Option Int} (h:MapI w r φ):r < w.heap.size:=let ⟨_,h1,_⟩:=h;h1.lt
theorem MapI.new (w:World):MapI (w.alloc (.map #[] 0)) w.heap.size fun _=>none:=⟨[],MapOf.new w,fun _=>rfl⟩
theorem MapI.same {w w':World} {r:Nat} {φ:ByteArray→Option Int} (h:MapI w r φ) (e:w'.heap[r]?=w.heap[r]?):MapI w' r φ:=let ⟨ps,h1,h2⟩:=h; ⟨ps,MapB.of_obj h1 e,h2⟩
theorem MapI.congr {w:World} {r:Nat} {φ ψ:ByteArray→Option Int} (h:MapI w r φ) (e:∀ s,φ s=ψ s):MapI w r ψ:=let ⟨ps,h1,h2⟩:=h; ⟨ps,h1,fun s=>(h2 s).trans (e s)⟩
theorem MapI.is {w:World} {r:Nat} {φ:ByteArray→Option Int} (h:MapI w r φ):∃ es c,w.heap[r]?=some (.map es c):=let ⟨_,h1,_⟩:=h; ⟨_,_,h1.obj⟩
def SetI (w:World) (r:Nat) (φ:ByteArray→Bool):Prop:=∃ ps,MapOf w r (vB ps)∧∀ s,(lastP ps s).getD false=φ s
theorem SetI.ext {w w':World} {r:Nat} {φ:ByteArray→Bool} (h:SetI w r φ) (e:Ext w w'):SetI w' r φ:=let ⟨ps,h1,h2⟩:=h; ⟨ps,h1.ext e,h2⟩
theorem SetI.lt {w:World} {r:Nat} {φ:ByteArray→Bool} (h:SetI w r φ):r < w.heap.size:=let ⟨_,h1,_⟩:=h;h1.lt
theorem SetI.new (w:World):SetI (w.alloc (.map #[] 0)) w.heap.size fun _=>false:=⟨[],MapOf.new w,fun _=>rfl⟩
theorem SetI.same {w w':World} {r:Nat} {φ:ByteArray→Bool} (h:SetI w r φ) (e:w'.heap[r]?=w.heap[r]?):SetI w' r φ:=let ⟨ps,h1,h2⟩:=h; ⟨ps,MapB.of_obj h1 e,h2⟩
theorem SetI.is {w:World} {r:Nat} {φ:ByteArray→Bool} (h:SetI w r φ):∃ es c,w.heap[r]?=some (.map es c):=let ⟨_,h1,_⟩:=h; ⟨_,_,h1.obj⟩
theorem put_other {w:World} {r l:Nat} {rec:Loop} (hl:w.heap[l]?=some (.loop rec)) {es:Array MapEntry} {c:Nat} (hr:w.heap[r]?=some (.map es c)) (o:Obj):(w.putObj l o).heap[r]?=w.heap[r]?:=World.putObj_heap_other (by rintro rfl;rw [hl] at hr;cases hr)
theorem lasts_set {B r:Nat} {φ:ByteArray→Bool}:Lasts B (fun w=>SetI w r φ):=⟨fun _ _ h e=>h.ext e,fun w l _ _ _ h hl=>by
 obtain ⟨es,c,hr⟩:=h.is
 exact h.same (put_other hl hr _)⟩
theorem lasts_sv {B lo hi:Nat} {W:World} (hB:W.heap.size≤B):Lasts B (Save lo hi W):=⟨fun _ _ h e=>h.ext e,fun w q r r' hq h hr=>⟨h.os,h.tape,h.output,by rw [World.putObj_size];exact h.size,fun k hk hb=>(World.putObj_heap_other (by omega)).trans (h.block k hk hb)⟩⟩
theorem Save.putObj {lo hi:Nat} {W w:World} (h:Save lo hi W w) {B:Nat} (hB:W.heap.size≤B) (o:Obj):Save lo hi W (w.putObj B o):=⟨h.os,h.tape,h.output,by rw [World.putObj_size];exact h.size,fun k hk hb=>(World.putObj_heap_other (by omega)).trans (h.block k hk hb)⟩
section
variable {w:World} {QP:List PanicEntry→World→Prop} {r:Nat}
def PutAt (r:Nat) (w w':World):Prop:=w'.heap.size=w.heap.size∧(∀ b,b≠r→w'.heap[b]?=w.heap[b]?)∧(∀ a,Ext a w→a.heap.size≤r→Ext a w')∧Save r (r+1) w w'
theorem putAt {ps:List (ByteArray×Value)} (k:ByteArray) (v:Value):PutAt r w (putW w r ps k v):=⟨putW_size,fun _ hb=>putW_heap hb,fun _ e h=>e.putW h k v,⟨rfl,rfl,rfl,by rw [putW_size];exact Nat.le_refl _,fun _ _ hb=>putW_heap (by omega)⟩⟩
theorem MapI.update {φ:ByteArray→Option Int} {ku:World→Prop} (h:MapI w r φ) (k:ByteArray) (v:Int) (hk:∀ w',MapI w' r (fun s=>if k=s then some v else φ s)→PutAt r w w'→ku w'):opU Pg (Instr.mapUpdate 59 (.map (some r)) (.string k) (.int .i64 v)) QP w ku:=by
 obtain ⟨ps,h1,h2⟩:=h
 rw [op_updateO Tryz.underlying59 Tryz.underlying9 h1 k (.int .i64 v)]
 refine hk _ ⟨ps++[(k,v)],?_,fun s=>?_⟩ (putAt k _)
 · have:=h1.put k (.int .i64 v)
   unfold vI at this ⊢
   rw [List.map_append]
   exact this
 · rw [lastP_snoc,h2]
theorem MapI.look {φ:ByteArray→Option Int} {kk:Value→World→Prop} (h:MapI w r φ) (k:ByteArray):opV Pg (Instr.lookup 59 (.map (some r)) (.string k) false) QP w kk=kk (.int .i64 ((φ k).getD 0)) w:=by
 obtain ⟨ps,h1,h2⟩:=h
 rw [op_lookup1O Tryz.underlying59 Tryz.underlying9 ty3 h1 k,lastOf_vI,h2]
 cases φ k<;>rfl
theorem MapI.look2 {φ:ByteArray→Option Int} {kk:Value→World→Prop} (h:MapI w r φ) (k:ByteArray):opV Pg (Instr.lookup 59 (.map (some r)) (.string k) true) QP w kk=kk (.tuple #[.int .i64 ((φ k).getD 0),.bool (φ k).isSome]) w:=by
 obtain ⟨ps,h1,h2⟩:=h
 rw [op_lookupO Tryz.underlying59 Tryz.underlying9 ty3 h1 k,lastOf_vI,h2]
 cases φ k<;>rfl
theorem SetI.update {φ:ByteArray→Bool} {ku:World→Prop} (h:SetI w r φ) (k:ByteArray) (hk:∀ w',SetI w' r (fun s=>if k=s then true else φ s)→PutAt r w w'→ku w'):opU Pg (Instr.mapUpdate 99 (.map (some r)) (.string k) (.bool true)) QP w ku:=by
 obtain ⟨ps,h1,h2⟩:=h
 rw [op_updateO Tryz.underlying99 Tryz.underlying9 h1 k (.bool true)]
 refine hk _ ⟨ps++[(k,true)],?_,fun s=>?_⟩ (putAt k _)
 · have:=h1.put k (.bool true)
   unfold vB at this ⊢
   rw [List.map_append]
   exact this
 · rw [lastP_snoc]
   show _=if k=s then true else φ s
   by_cases e:k=s
   · rw [if_pos e,if_pos e];rfl
   · rw [if_neg e,if_neg e,h2]
theorem SetI.look {φ:ByteArray→Bool} {kk:Value→World→Prop} (h:SetI w r φ) (k:ByteArray):opV Pg (Instr.lookup 99 (.map (some r)) (.string k) false) QP w kk=kk (.bool (φ k)) w:=by
 obtain ⟨ps,h1,h2⟩:=h
 rw [op_lookup1O Tryz.underlying99 Tryz.underlying9 ty4 h1 k,lastOf_vB,← h2]
 cases lastP ps k<;>rfl
end
def stepD (deps:List (ByteArray×Int)) (m:MsgD):List (ByteArray×Int):=deps++[(m.name,depthM deps m+1)]
def stepS (strs:List (ByteArray×Bool)) (m:MsgD):List (ByteArray×Bool):=strs++[(m.name,strictM strs m)]
def depsOf (l:List MsgD):List (ByteArray×Int):=l.foldl stepD []
def strsOf (l:List MsgD):List (ByteArray×Bool):=l.foldl stepS []
def msgsP (deps:List (ByteArray×Int)) (strs:List (ByteArray×Bool)) (at_:Nat):List MsgD→Int×Int×Int
 | []=>(0,0,0)
 | m::l=>if (nextP deps strs m).2=0 then msgsP (stepD deps m) (stepS strs m) (at_+1) l else (at_,nextP deps strs m)
def endP (d:DefD) (r:Int×Int×Int):Int×Int×Int:=if r.2.2=0 then (if (lastP (depsOf d.msgs) d.start).isSome then (0,0,0) else (-1,-1,11)) else r
def checkP (d:DefD):Int×Int×Int :=
 if nameB d.name then (if 1≤d.msgs.length∧d.msgs.length≤60 then endP d (msgsP [] [] 0 d.msgs) else (-1,-1,3)) else (-1,-1,1)
theorem tailP_low {deps:List (ByteArray×Int)} {m:MsgD} {r:Int×Int} (h:(tailP deps m r).2=0):depthM deps m < 16:=by
 unfold tailP at h
 split at h
 · split at h
   · assumption
   · exact absurd h (by decide)
 · contradiction
theorem nextP_low {deps:List (ByteArray×Int)} {strs:List (ByteArray×Bool)} {m:MsgD} (h:(nextP deps strs m).2=0):depthM deps m < 16:=by
 unfold nextP at h
 split at h
 · split at h
   · exact absurd h (by decide)
   · split at h
     · exact tailP_low h
     · exact absurd h (by decide)
 · exact absurd h (by decide)
theorem Low.step {deps:List (ByteArray×Int)} {strs:List (ByteArray×Bool)} {m:MsgD} (hl:Low deps) (h:(nextP deps strs m).2=0):Low (stepD deps m):=by
 intro p hp
 rcases List.mem_append.1 hp with hp | hp
 · exact hl p hp
 · simp only [List.mem_singleton] at hp
   subst hp
   have h1:=nextP_low h
   have h2:=(foldl_maxI (fun s=>(lastP deps s).getD 0) (refsM m) 0 (by decide) (fun s _=>hl.get s) (by decide)).1
   exact ⟨by show 0≤depthM deps m+1;unfold depthM;omega,by show depthM deps m+1≤16;omega⟩
def calm (d:DefD):Prop:=∀ m∈d.msgs,(allRefs m.fields).length≤1048576∧∀ f∈m.fields,f.terms.length≤1048576
abbrev catchD (p3 p4:Nat):Deferred:={ target := .fn (.func 104) #[.pointer (some ⟨p3,0,none⟩),.pointer (some ⟨p4,0,none⟩)],args := #[] }
theorem catch_ret {p3 p4:Nat} {w:World} {k:FrameMode→World→Prop} (h:k .returning w):outM Pg [catchD p3 p4] .returning w k:=by
 refine ⟨by simp,.inr ⟨.func 104,_,104,#[.pointer (some ⟨p3,0,none⟩),.pointer (some ⟨p4,0,none⟩)],rfl,?_,?_⟩⟩
 · exact callFunc_run c104 _ w
 · refine n74s ?_
   unfold n74
   show opV _ (binS .neq _ true .nilIface .nilIface) _ _ _
   rw [op_neqNil_none Tryz.underlying20]
   simp (disch:=try exact DI) only [↓PR,QR,simprocAttr]
   exact h
theorem catch_pan {p3 p4:Nat} {w:World} {k:FrameMode→World→Prop} {a f c:Int} {x0 x1 x2 y:Value} (o3:w.heap[p3]?=some (.cells #[x0,x1,x2] 92 (0,0))) (o4:w.heap[p4]?=some (.cells #[y] 4 (0,0)))
 (h:k .returning ((((w.setCell ⟨p3,0,none⟩ (.int .i64 a)).setCell ⟨p3,1,none⟩ (.int .i64 f)).setCell ⟨p3,2,none⟩ (.int .i64 c)).setCell ⟨p4,0,none⟩ (.bool true))):outM Pg [catchD p3 p4] (.panicking [flawEntry a f c]) w k:=by
 have hne:p3≠p4:=by rintro rfl;rw [o3] at o4;cases o4
 refine ⟨by simp,.inr ⟨.func 104,_,104,#[.pointer (some ⟨p3,0,none⟩),.pointer (some ⟨p4,0,none⟩)],rfl,?_,?_⟩⟩
 · exact callFunc_run c104 _ w
 · refine n74s ?_
   rw [show recM (.panicking [flawEntry a f c])=(.iface 92 (flawVal a f c),.panicking [{ v := .iface 92 (flawVal a f c),recovered:=true }]) from rfl]
   unfold n74
   rw [op_neqNil_some Tryz.underlying20]
   simp (disch:=try exact DI) only [↓PR,QR,simprocAttr]
   unfold n74c1
   rw [op_assert_ok Tryz.underlying92 rfl]
   simp (disch:=try exact DI) only [↓PR,QR,simprocAttr,(cells_of_heap o3).1,(cells_of_heap o3).2,(cells_of_heap o4).1,(cells_of_heap o4).2]
   exact h
section
variable {w0:World}
def CkE (w:World) (cb:Nat) (deps:List (ByteArray×Int)) (strs:List (ByteArray×Bool)):Prop:=∃ md ms dn mv ds at_ fld mn fv,w.heap[cb]?=some (.cells #[.string dn,mv,.string ds,.map (some md),.map (some ms),.int .i64 at_,.int .i64 fld,.string mn,fv] 175 (0,0))∧MapOf w md (vI deps)∧MapOf w ms (vB strs)
theorem CkE.other {w:World} {cb b o:Nat} {deps:List (ByteArray×Int)} {strs:List (ByteArray×Bool)} (h:CkE w cb deps strs) (hn:b≠cb) (v:Value):CkE (w.setCell ⟨b,o,none⟩ v) cb deps strs:=by
 obtain ⟨md,ms,dn,mv,ds,at_,fld,mn,fv,h1,h2,h3⟩:=h
 exact ⟨md,ms,dn,mv,ds,at_,fld,mn,fv,(Only.setCell w b o v cb (fun e=>hn e.symm)).trans h1,h2.setCell _ _,h3.setCell _ _⟩
theorem CkO.left {a0 w:World} {cb md ms:Nat} {deps:List (ByteArray×Int)} {strs:List (ByteArray×Bool)} {at_ fld:Int} {fs:List FieldD} (h:CkO a0 w cb md ms deps strs at_ fld fs):CkE w cb deps strs:=by
 obtain ⟨dn,mv,ds,mn,fv,h1,_⟩:=h.obj
 exact ⟨md,ms,dn,mv,ds,at_,fld,mn,fv,h1,h.mdeps,h.mstrs⟩
def examK (w0:World) (d:DefD) (r:Value) (w':World):Prop:=Ext w0 w'∧∃ cb,r = .tuple #[.pointer (some ⟨cb,0,none⟩),flawVal (checkP d).1 (checkP d).2.1 (checkP d).2.2,.bool (decide ((checkP d).2.2≠0))] ∧
 ((checkP d).2.2=0→CkE w' cb (depsOf d.msgs) (strsOf d.msgs))
abbrev resL (cb p3 p4:Nat):List (Option TypeId×Value):=[(none,.pointer (some ⟨cb,0,none⟩)),(some 92,.pointer (some ⟨p3,0,none⟩)),(some 4,.pointer (some ⟨p4,0,none⟩))]
theorem exm_pan {w:World} {d:DefD} {cb p3 p4:Nat} {a f c:Int} {x0 x1 x2 y:Value} (e:Ext w0 w) (h3:w0.heap.size≤p3) (h4:w0.heap.size≤p4) (o3:w.heap[p3]?=some (.cells #[x0,x1,x2] 92 (0,0))) (o4:w.heap[p4]?=some (.cells #[y] 4 (0,0)))
 (h:checkP d=(a,f,c)) (hc:c≠0):outQ Pg [catchD p3 p4] (resL cb p3 p4) (retR (examK w0 d)) [flawEntry a f c] w:=by
 have hne:p3≠p4:=by rintro rfl;rw [o3] at o4;cases o4
 unfold outQ
 refine catch_pan o3 o4 ?_
 have q3:=heap_set (o:=2) (heap_set (o:=1) (heap_set (o:=0) o3 (.int .i64 a)) (.int .i64 f)) (.int .i64 c)
 have e1:Ext w0 ((((w.setCell ⟨p3,0,none⟩ (.int .i64 a)).setCell ⟨p3,1,none⟩ (.int .i64 f)).setCell ⟨p3,2,none⟩ (.int .i64 c)).setCell ⟨p4,0,none⟩ (.bool true)):=(((e.setCell h3 _).setCell h3 _).setCell h3 _).setCell h4 _
 have q4:=heap_set (o:=0) ((Only.setCell ((w.setCell ⟨p3,0,none⟩ (.int .i64 a)).setCell ⟨p3,1,none⟩ (.int .i64 f)) p3 2 (.int .i64 c) p4 (by omega)).trans ((Only.setCell (w.setCell ⟨p3,0,none⟩ (.int .i64 a)) p3 1 (.int .i64 f) p4 (by omega)).trans ((Only.setCell w p3 0 (.int .i64 a) p4 (by omega)).trans o4))) (.bool true)
 have q3':=(Only.setCell _ p4 0 (.bool true) p3 hne).trans q3
 simp only [List.setIfInBounds_toArray,List.set_cons_zero,List.set_cons_succ] at q3' q4
 generalize ((((w.setCell ⟨p3,0,none⟩ (.int .i64 a)).setCell ⟨p3,1,none⟩ (.int .i64 f)).setCell ⟨p3,2,none⟩ (.int .i64 c)).setCell ⟨p4,0,none⟩ (.bool true))=W at e1 q3' q4 ⊢
 unfold endM retV resOne resL
 simp only
 simp (disch:=try exact DI) only [↓PR,QR,simprocAttr,(cells_of_heap q3').1,(cells_of_heap q4).1]
 refine ⟨e1,cb,?_,fun h0=>?_⟩
 · rw [h];simp [hc]
 · rw [h] at h0;exact absurd h0 hc
theorem exm_fine {w:World} {d:DefD} {cb p3 p4:Nat} (e:Ext w0 w) (hC:CkE w cb (depsOf d.msgs) (strsOf d.msgs)) (o3:w.heap[p3]?=some (.cells #[.int .i64 0,.int .i64 0,.int .i64 0] 92 (0,0))) (o4:w.heap[p4]?=some (.cells #[.bool false] 4 (0,0)))
 (h:checkP d=(0,0,0)):outX Pg [catchD p3 p4] (resL cb p3 p4) (retR (examK w0 d)) w:=by
 unfold outX
 refine catch_ret ?_
 unfold endM retV resOne resL
 simp only
 simp (disch:=try exact DI) only [↓PR,QR,simprocAttr,(cells_of_heap o3).1,(cells_of_heap o4).1]
 refine ⟨e,cb,?_,fun h0=>hC⟩
 rw [h];simp
theorem callK_nxt {f:FuncId} {args:Array Value} {QP:List PanicEntry→World→Prop} {a0 w:World} {k:Value→World→Prop} {at_:Int} {r:Int×Int} {K:World→Prop} (h:Calls Pg f args w (nxtR a0 at_ r K)) (hk:∀ w',r.2=0→K w'→k (.tuple #[]) w') (hp:∀ w',Ext a0 w'→r.2≠0→QP [flawEntry at_ r.1 r.2] w'):callK Pg f args QP w k :=
 callK_calls h (fun v w' h=>by rcases h with ⟨e,⟨h1,h2,h3⟩ | ⟨_,h2⟩⟩<;>cases h2;exact hk w' h1 h3) (fun ch w' h=>by rcases h with ⟨e,⟨_,h2,_⟩ | ⟨h1,h2⟩⟩<;>cases h2;exact hp w' e h1) (fun w' h=>by rcases h with ⟨_,⟨_,h2,_⟩ | ⟨_,h2⟩⟩<;>cases h2)
theorem foldl_take {α β:Type} (g:β→α→β) {l:List α} {k:Nat} {x:α} (b:β) (hx:l[k]?=some x):(l.take (k+1)).foldl g b=g ((l.take k).foldl g b) x:=by rw [take_snoc hx,List.foldl_append];rfl
theorem exm_loop {A0 w:World} {d:DefD} {cb p1 p3 p4 md ms:Nat} {fs:List FieldD} {mv:Value} (ea:Ext w0 A0) (hM:MsgsOf A0 mv d.msgs) (ht:calm d) (hC:CkO A0 w cb md ms [] [] (-1) (-1) fs) (o1:A0.heap[p1]?=some (.cells (defCells d mv).toArray 24 (0,0)))
 (o3:A0.heap[p3]?=some (.cells #[.int .i64 0,.int .i64 0,.int .i64 0] 92 (0,0))) (o4:A0.heap[p4]?=some (.cells #[.bool false] 4 (0,0))) (h3:w0.heap.size≤p3) (h4:w0.heap.size≤p4) (hr:checkP d=endP d (msgsP [] [] 0 d.msgs)) :
 n73c6 (.pointer (some ⟨p1,0,none⟩)) (.pointer (some ⟨p3,0,none⟩)) (.pointer (some ⟨p4,0,none⟩)) (.pointer (some ⟨cb,0,none⟩)) [catchD p3 p4] (retR (examK w0 d)) w:=by
 have pan:∀ w' a f c,Ext A0 w'→checkP d=(a,f,c)→c≠0→outQ Pg [catchD p3 p4] (resL cb p3 p4) (retR (examK w0 d)) [flawEntry a f c] w':=fun w' a f c e h h0=>exm_pan (ea.trans e) h3 h4 (e.obj o3) (e.obj o4) h h0
 obtain ⟨A,c,rfl,hlc,hcm,hlm,hel⟩:=SliceOf.open hM
 unfold n73c6
 simp (disch:=try exact DI) only [↓PR,QR,simprocAttr,(cells_of_heap (hC.ext.obj o1)).1]
 refine loop1_intro (fun i w'=>∃ (k:Nat) (at':Int) (fs':List FieldD),i = .int .i64 k∧k≤d.msgs.length∧CkO A0 w' cb md ms (depsOf (d.msgs.take k)) (strsOf (d.msgs.take k)) at' (-1) fs'∧Low (depsOf (d.msgs.take k))∧checkP d=endP d (msgsP (depsOf (d.msgs.take k)) (strsOf (d.msgs.take k)) k (d.msgs.drop k))) (fun i _=>d.msgs.length - (intOf i).toNat) ⟨0,-1,fs,rfl,by omega,hC,(fun _ h=>by cases h),hr⟩ ?_
 rintro i w' ⟨k,at',fs',rfl,hk,hC',hlow,hrk⟩
 have lw':=hC'.ext.size
 obtain ⟨dn,mv,ds,mn,fv',x1,x2⟩:=hC'.obj
 obtain ⟨n1,n2,l1,l2,l3⟩:=hC'.nd
 rcases drop_cases hk with ⟨x,hx,hd,hlt,hdec⟩ | ⟨hk,hd,hdec⟩
 · obtain ⟨b,o,cs,rfl,hl,hA,fv,rfl,hF⟩:=hel k x hx
   have hf1:=SliceOf.oneCell hF
   rw [hd] at hrk
   simp only [msgsP] at hrk
   unfold n73c5
   simp (disch:=try exact DI) only [↓PR,QR,simprocAttr,hdec]
   unfold n73c4
   simp (disch:=try exact DI) only [↓PR,QR,simprocAttr,(hA.c2 hC'.ext).1,(hA.c2 hC'.ext).2,(cells_of_heap x1).1,(cells_of_heap x1).2]
   have hCw:=(hC'.setAt (k:Int)).go ((Ext.refl _).alloc (Obj.cells (msgCells x fv).toArray 53))
   refine callK_nxt (next_flw (m:=x) hlow hCw _ ⟨fv,rfl,hF⟩ (ht x (List.mem_of_getElem? hx)).1 (ht x (List.mem_of_getElem? hx)).2 (fun w'=>CkO A0 w' cb md ms (stepD (depsOf (d.msgs.take k)) x) (stepS (strsOf (d.msgs.take k)) x) k (-1) x.fields) (fun w' h=>h)) (fun w5 h0 hC5=>?_) (fun w5 e5 h0=>?_)
   · rw [if_pos h0] at hrk
     have hd1:depsOf (d.msgs.take (k+1))=stepD (depsOf (d.msgs.take k)) x:=foldl_take stepD [] hx
     have hs1:strsOf (d.msgs.take (k+1))=stepS (strsOf (d.msgs.take k)) x:=foldl_take stepS [] hx
     rw [← hd1,← hs1] at hrk hC5
     have hlow':Low (depsOf (d.msgs.take (k+1))):=by rw [hd1];exact hlow.step h0
     simp (disch:=try exact DI) only [↓PR,QR,simprocAttr]
     exact ⟨⟨k+1,k,x.fields,rfl,by omega,hC5,hlow',hrk⟩,meas_lt (kd := .i64) hlt⟩
   · rw [if_neg h0] at hrk
     refine pan _ _ _ _ e5 ?_ h0
     rw [hrk]
     unfold endP
     rw [if_neg h0]
 · subst hk
   rw [hd] at hrk
   rw [List.take_length] at hC' hrk
   unfold n73c5
   simp (disch:=try exact DI) only [↓PR,QR,simprocAttr,hdec]
   unfold n73c3
   simp (disch:=try exact DI) only [↓PR,QR,simprocAttr,(cells_of_heap x1).1,(cells_of_heap x1).2]
   have hC2:=hC'.setAt (-1)
   generalize (w'.setCell ⟨cb,5,none⟩ (.int .i64 (-1)))=W at hC2 ⊢
   clear x1 x2 hC'
   obtain ⟨dn,mv,ds,mn,fv',x1,x2⟩:=hC2.obj
   refine drawK_intro ?_
   have eD:Ext W W.drew:=(Ext.refl W).wdrew
   unfold n73c2
   simp (disch:=try exact DI) only [↓PR,QR,simprocAttr,(cells_of_heap x1).1,(cells_of_heap (hC2.ext.obj o1)).1]
   rw [qV_lookupE Tryz.underlying59 Tryz.underlying9 ty3 (hC2.mdeps.ext eD) d.start]
   have hsome:(lastOf (vI (depsOf d.msgs)) d.start).isSome=(lastP (depsOf d.msgs) d.start).isSome:=by rw [lastOf_vI,Option.isSome_map]
   rw [hsome]
   simp only [msgsP,endP,if_true] at hrk
   simp (disch:=try exact DI) only [↓PR,QR,simprocAttr]
   refine callK_flw (need_flw (hC2.go eD).chk _ 11 (by decide)) (fun w5 e5 h0=>?_) (fun w5 e5 h0=>?_)
   · have hs:=needC_zero (by decide) h0
     rw [hs,if_pos rfl] at hrk
     have hC5:=hC2.go (eD.trans e5)
     have y3:=hC5.ext.obj o3
     have y4:=hC5.ext.obj o4
     have ne34:p3≠p4:=by rintro rfl;rw [o3] at o4;cases o4
     unfold n73c1
     simp (disch:=try exact DI) only [↓PR,QR,simprocAttr,(cells_of_heap y3).1,(cells_of_heap y3).2,(cells_of_heap y4).1,(cells_of_heap y4).2]
     have c3:p3≠cb:=by have:=hC5.lcb;have:=(Array.getElem?_eq_some_iff.1 o3).1;omega
     have c4:p4≠cb:=by have:=hC5.lcb;have:=(Array.getElem?_eq_some_iff.1 o4).1;omega
     have q3:=heap_set (o:=2) (heap_set (o:=1) (heap_set (o:=0) y3 (.int .i64 0)) (.int .i64 0)) (.int .i64 0)
     have q4:=heap_set (o:=0) ((Only.setCell ((w5.setCell ⟨p3,0,none⟩ (.int .i64 0)).setCell ⟨p3,1,none⟩ (.int .i64 0)) p3 2 (.int .i64 0) p4 (by omega)).trans ((Only.setCell (w5.setCell ⟨p3,0,none⟩ (.int .i64 0)) p3 1 (.int .i64 0) p4 (by omega)).trans ((Only.setCell w5 p3 0 (.int .i64 0) p4 (by omega)).trans y4))) (.bool false)
     have q3':=(Only.setCell _ p4 0 (.bool false) p3 ne34).trans q3
     exact exm_fine (((((ea.trans hC5.ext).setCell h3 _).setCell h3 _).setCell h3 _).setCell h4 _) ((((hC5.left.other c3 _).other c3 _).other c3 _).other c4 _) (by simpa using q3') (by simpa using q4) hrk
   · have hs:(lastP (depsOf d.msgs) d.start).isSome=false:=by
      cases hq:(lastP (depsOf d.msgs) d.start).isSome with
      | false=>rfl
      | true=>rw [hq] at h0;exact absurd rfl h0
     rw [hs,if_neg (by simp)] at hrk
     rw [hs]
     exact pan _ _ _ _ (hC2.ext.trans (eD.trans e5)) hrk (by decide)
theorem examined_ret (v:Value) (d:DefD) (hd:DefVal w0 v d) (ht:calm d):Ret Pg 85 #[v] w0 (examK w0 d):=by
 obtain ⟨mv,rfl,hM⟩:=hd
 have hm1:=SliceOf.oneCell hM
 refine n73s (R:=retR _) ?_;unfold n73
 simp (disch:=try exact DI) only [↓PR,QR,simprocAttr]
 refine ⟨catchD (w0.heap.size+1) (w0.heap.size+1+1),_,rfl,?_⟩
 simp only [World.size_alloc]
 generalize hA0:((w0.alloc (Obj.cells (defCells d mv).toArray 24)).alloc (Obj.cells #[.int .i64 0,.int .i64 0,.int .i64 0] 92)).alloc (Obj.cells #[.bool false] 4)=A0
 have ea:Ext w0 A0:=by rw [← hA0];exact ee
 have o1:A0.heap[w0.heap.size]?=some (.cells (defCells d mv).toArray 24 (0,0)):=by rw [← hA0];simp (disch:=try exact DI) only [↓PR,QR,simprocAttr]
 have o3:A0.heap[w0.heap.size+1]?=some (.cells #[.int .i64 0,.int .i64 0,.int .i64 0] 92 (0,0)):=by rw [← hA0];simp (disch:=try exact DI) only [↓PR,QR,simprocAttr]
 have o4:A0.heap[w0.heap.size+1+1]?=some (.cells #[.bool false] 4 (0,0)):=by rw [← hA0];simp (disch:=try exact DI) only [↓PR,QR,simprocAttr]
 have hsz:A0.heap.size=w0.heap.size+1+1+1:=by rw [← hA0];simp only [World.size_alloc]
 clear hA0
 have hC:CkO A0 (((A0.alloc (Obj.map #[] 0)).alloc (Obj.map #[] 0)).alloc (Obj.cells #[.string d.name,mv,.string d.start,.map (some (w0.heap.size+1+1+1)),.map (some (w0.heap.size+1+1+1+1)),.int .i64 (-1),.int .i64 (-1),.string ByteArray.empty,.slice none 0 0] 175)) (w0.heap.size+1+1+1+1+1) (w0.heap.size+1+1+1) (w0.heap.size+1+1+1+1) [] [] (-1) (-1) []:=by
  refine ⟨ee,⟨d.name,mv,d.start,ByteArray.empty,.slice none 0 0,?_,SliceOf.nil _ _ _⟩,?_,?_,by omega,by omega,by omega,by omega⟩
  · have:=heap_new ((A0.alloc (Obj.map #[] 0)).alloc (Obj.map #[] 0)) #[.string d.name,mv,.string d.start,.map (some (w0.heap.size+1+1+1)),.map (some (w0.heap.size+1+1+1+1)),.int .i64 (-1),.int .i64 (-1),.string ByteArray.empty,.slice none 0 0] 175
    simp only [World.size_alloc,hsz] at this
    exact this
  · have:=(MapOf.new A0).ext (((Ext.refl _).alloc (Obj.map #[] 0)).alloc (Obj.cells #[.string d.name,mv,.string d.start,.map (some (w0.heap.size+1+1+1)),.map (some (w0.heap.size+1+1+1+1)),.int .i64 (-1),.int .i64 (-1),.string ByteArray.empty,.slice none 0 0] 175))
    simp only [World.size_alloc,hsz] at this
    exact this
  · have:=(MapOf.new (A0.alloc (Obj.map #[] 0))).ext ((Ext.refl _).alloc (Obj.cells #[.string d.name,mv,.string d.start,.map (some (w0.heap.size+1+1+1)),.map (some (w0.heap.size+1+1+1+1)),.int .i64 (-1),.int .i64 (-1),.string ByteArray.empty,.slice none 0 0] 175))
    simp only [World.size_alloc,hsz] at this
    exact this
 generalize (((A0.alloc (Obj.map #[] 0)).alloc (Obj.map #[] 0)).alloc (Obj.cells #[.string d.name,mv,.string d.start,.map (some (w0.heap.size+1+1+1)),.map (some (w0.heap.size+1+1+1+1)),.int .i64 (-1),.int .i64 (-1),.string ByteArray.empty,.slice none 0 0] 175))=W at hC ⊢
 generalize hcb:w0.heap.size+1+1+1+1+1=cb at hC ⊢
 generalize hmd:w0.heap.size+1+1+1=md at hC hsz
 generalize hms:w0.heap.size+1+1+1+1=ms at hC
 generalize hp3:w0.heap.size+1+1=p4 at o4 ⊢
 generalize hp4:w0.heap.size+1=p3 at o3 ⊢
 have l3:w0.heap.size≤p3:=by omega
 have l4:w0.heap.size≤p4:=by omega
 simp (disch:=try exact DI) only [↓PR,QR,simprocAttr,(cells_of_heap (hC.ext.obj o1)).1]
 refine zcr (Name_ret _ d.name) fun w1 e1=>?_
 have hC1:=hC.go e1
 have pan:∀ w' a f c,Ext A0 w'→checkP d=(a,f,c)→c≠0→outQ Pg [catchD p3 p4] (resL cb p3 p4) (retR (examK w0 d)) [flawEntry a f c] w':=fun w' a f c e h h0=>exm_pan (ea.trans e) l3 l4 (e.obj o3) (e.obj o4) h h0
 generalize hr:checkP d=r
 have hr':=hr
 unfold checkP at hr
 refine callK_flw (need_flw hC1.chk _ 1 (by decide)) (fun w2 e2 h0=>?_) (fun w2 e2 h0=>?_)
 · have hn:nameB d.name=true:=needC_zero (by decide) h0
   rw [if_pos hn] at hr
   have hC2:=hC1.go e2
   have fin:∀ b,b=decide (1≤d.msgs.length∧d.msgs.length≤60)→callK Pg 105 #[.pointer (some ⟨cb,0,none⟩),.bool b,.int .i64 3] (outQ Pg [catchD p3 p4] (resL cb p3 p4) (retR (examK w0 d))) w2 (fun _ w=>n73c6 (.pointer (some ⟨w0.heap.size,0,none⟩)) (.pointer (some ⟨p3,0,none⟩)) (.pointer (some ⟨p4,0,none⟩)) (.pointer (some ⟨cb,0,none⟩)) [catchD p3 p4] (retR (examK w0 d)) w):=by
    rintro b rfl
    refine callK_flw (need_flw hC2.chk _ 3 (by decide)) (fun w3 e3 h0=>?_) (fun w3 e3 h0=>?_)
    · have hl:=needC_zero (by decide) h0
      simp only [decide_eq_true_eq] at hl
      rw [if_pos hl] at hr
      exact exm_loop ea (hM.ext ea) ht (hC2.go e3) o1 o3 o4 l3 l4 (hr'.trans hr.symm)
    · by_cases hl:1≤d.msgs.length∧d.msgs.length≤60
      · rw [decide_eq_true hl] at h0;exact absurd rfl h0
      · rw [if_neg hl] at hr
        rw [decide_eq_false hl]
        exact pan _ _ _ _ (hC2.ext.trans e3) (hr'.trans hr.symm) (by decide)
   obtain ⟨A,c,rfl,hlc,hcm,hlm,hel⟩:=SliceOf.open hM
   have x1:=hC2.ext.obj o1
   unfold n73c9
   by_cases h1l:1≤d.msgs.length
   · have d1:decide ((d.msgs.length:Int)≥1)=true:=by simp;omega
     by_cases h2l:d.msgs.length≤60
     · have d2:decide ((d.msgs.length:Int)≤60)=true:=by simp;omega
       simp (disch:=try exact DI) only [↓PR,QR,simprocAttr,(cells_of_heap x1).1,d1,d2,↓n73c1,↓n73c2,↓n73c3,↓n73c4,↓n73c5,↓n73c6,↓n73c7,↓n73c8,↓n73c9]
       exact fin _ (by simp [h1l,h2l])
     · have d2:decide ((d.msgs.length:Int)≤60)=false:=by simp;omega
       simp (disch:=try exact DI) only [↓PR,QR,simprocAttr,(cells_of_heap x1).1,d1,d2,↓n73c1,↓n73c2,↓n73c3,↓n73c4,↓n73c5,↓n73c6,↓n73c7,↓n73c8,↓n73c9]
       exact fin _ (by simp [h2l])
   · have d1:decide ((d.msgs.length:Int)≥1)=false:=by simp;omega
     simp (disch:=try exact DI) only [↓PR,QR,simprocAttr,(cells_of_heap x1).1,d1,↓n73c1,↓n73c2,↓n73c3,↓n73c4,↓n73c5,↓n73c6,↓n73c7,↓n73c8,↓n73c9]
     exact fin _ (by simp [h1l])
 · have hn:nameB d.name=false:=by
    cases hq:nameB d.name with
    | false=>rfl
    | true=>rw [hq] at h0;exact absurd rfl h0
   rw [hn,if_neg (by simp)] at hr
   rw [hn]
   exact pan _ _ _ _ (hC1.ext.trans e2) (hr'.trans hr.symm) (by decide)
end
section
variable {w0:World}
abbrev flawOf (r:Int×Int×Int):Value:=flawVal r.1 r.2.1 r.2.2
abbrev flawedB (d:DefD):Bool:=decide ((checkP d).2.2≠0)
theorem Check_ret (v:Value) (d:DefD) (hd:DefVal w0 v d) (ht:calm d):Ret Pg 71 #[v] w0 fun r w'=>r = .tuple #[flawOf (checkP d),.bool (flawedB d)]∧Ext w0 w':=by
 obtain ⟨mv,rfl,hM⟩:=hd
 have hm1:=SliceOf.oneCell hM
 refine n52s (R:=retR _) ?_;unfold n52
 simp (disch:=try exact DI) only [↓PR,QR,simprocAttr]
 refine callK_ret (examined_ret _ d ⟨mv,rfl,MsgsOf.ext hM ee⟩ ht) ?_
 rintro _ w1 ⟨e1,cb,rfl,_⟩
 have s1:=e1.size
 simp only [World.size_alloc] at s1
 have o2:=e1.obj (heap_new (w0.alloc (Obj.cells (defCells d mv).toArray 24)) #[.int .i64 0,.int .i64 0,.int .i64 0] 92)
 rw [World.size_alloc] at o2
 simp (disch:=try exact DI) only [↓PR,QR,simprocAttr,↓n52c1,(cells_of_heap o2).1,(cells_of_heap o2).2]
 exact ⟨by first | trivial | rfl,ee⟩
end
def Sub {β:Type} (a b:List (ByteArray×β)):Prop:=∀ s v,lastP a s=some v→lastP b s=some v
section
variable {β:Type}
theorem Sub.refl (a:List (ByteArray×β)):Sub a a:=fun _ _ h=>h
theorem Sub.trans {a b c:List (ByteArray×β)} (h:Sub a b) (k:Sub b c):Sub a c:=fun s v x=>k s v (h s v x)
theorem Sub.snoc {a:List (ByteArray×β)} {p:ByteArray×β} (h:lastP a p.1=none):Sub a (a++[p]):=fun s v x=>by
 rw [lastP_snoc]
 by_cases e:p.1=s
 · subst e;rw [h] at x;cases x
 · rw [if_neg e];exact x
theorem Sub.is {a b:List (ByteArray×β)} (h:Sub a b) {s:ByteArray} (k:(lastP a s).isSome=true):(lastP b s).isSome=true:=by
 obtain ⟨v,hv⟩:=Option.isSome_iff_exists.1 k
 rw [h s v hv];rfl
theorem lastP_none {l:List (ByteArray×β)} {s:ByteArray}:lastP l s=none↔∀ p∈l,p.1≠s:=by
 unfold lastP
 rw [Option.map_eq_none_iff,List.find?_eq_none]
 simp
end
theorem isI (deps:List (ByteArray×Int)) (s:ByteArray):(lastOf (vI deps) s).isSome=(lastP deps s).isSome:=by rw [lastOf_vI];simp
theorem orC_iff {a b:Int}:orC a b=0↔a=0∧b=0:=by
 unfold orC
 split
 · rename_i h;simp [h]
 · rename_i h;simp [h]
theorem needC_iff {b:Bool} {c:Int} (hc:c≠0):needC b c=0↔b=true:=by
 unfold needC
 cases b<;>simp [hc]
theorem mem_dedupA {s:ByteArray}:∀ {l seen:List ByteArray},s∈dedupA seen l→s∈l
 | [],_,h=>by cases h
 | x::l,seen,h=>by
  unfold dedupA at h
  split at h
  · exact List.mem_cons_of_mem _ (mem_dedupA h)
  · rcases List.mem_cons.1 h with rfl | h
    · exact List.mem_cons_self
    · exact List.mem_cons_of_mem _ (mem_dedupA h)
section
variable {deps deps':List (ByteArray×Int)} {strs strs':List (ByteArray×Bool)}
theorem casesL_mono (hd:Sub deps deps') (hi:Int):∀ (l:List CaseD) (lo:Int),casesL hi (vI deps) lo l=0→casesL hi (vI deps') lo l=0∧∀ c∈l,(lastP deps c.of).isSome=true
 | [],_,_=>⟨rfl,fun _ h=>by cases h⟩
 | x::l,lo,h=>by
  simp only [casesL,orC_iff,needC_iff (show (8:Int)≠0 by decide),isI] at h ⊢
  obtain ⟨h1,h2,h3⟩:=h
  obtain ⟨i1,i2⟩:=casesL_mono hd hi l _ h3
  refine ⟨⟨h1,hd.is h2,i1⟩,fun c hc=>?_⟩
  rcases List.mem_cons.1 hc with rfl | hc
  · exact h2
  · exact i2 c hc
theorem strB_some {s:ByteArray} (h:strB (vB strs) s=true):lastP strs s=some true:=by
 rw [strB_vB] at h
 cases hl:lastP strs s with
 | none=>rw [hl] at h;cases h
 | some b=>rw [hl] at h;simp at h;rw [h]
theorem examine_mono (hd:Sub deps deps') (hs:Sub strs strs') {bef:List FieldD} {f:FieldD} (h:examineC bef (vI deps) (vB strs) f=0):examineC bef (vI deps') (vB strs') f=0:=by
 unfold examineC at h ⊢
 simp only [orC_iff] at h ⊢
 refine ⟨h.1,h.2.1,h.2.2.1,h.2.2.2.1,?_⟩
 obtain ⟨_,_,_,_,h⟩:=h
 unfold checkC at h ⊢
 by_cases k1:f.kind=1
 · rw [if_pos k1] at h ⊢;exact h
 rw [if_neg k1] at h ⊢
 by_cases k2:f.kind=2
 · rw [if_pos k2] at h ⊢;exact h
 rw [if_neg k2] at h ⊢
 by_cases k3:f.kind=3
 · rw [if_pos k3] at h ⊢;exact h
 rw [if_neg k3] at h ⊢
 by_cases k4:f.kind=4
 · rw [if_pos k4] at h ⊢;exact h
 rw [if_neg k4] at h ⊢
 by_cases k5:f.kind=5
 · rw [if_pos k5] at h ⊢;exact h
 rw [if_neg k5] at h ⊢
 by_cases k6:f.kind=6
 · rw [if_pos k6] at h ⊢;exact h
 rw [if_neg k6] at h ⊢
 by_cases k7:f.kind=7
 · rw [if_pos k7] at h ⊢
   simp only [orC_iff,needC_iff (show (8:Int)≠0 by decide),isI] at h ⊢
   exact ⟨hd.is h.1,h.2⟩
 rw [if_neg k7] at h ⊢
 by_cases k8:f.kind=8
 · rw [if_pos k8] at h ⊢
   simp only [needC_iff (show (8:Int)≠0 by decide),isI] at h ⊢
   exact hd.is h
 rw [if_neg k8] at h ⊢
 by_cases k9:f.kind=9
 · rw [if_pos k9] at h ⊢
   unfold casesC at h ⊢
   simp only [orC_iff] at h ⊢
   exact ⟨h.1,h.2.1,(casesL_mono hd _ _ _ h.2.2).1⟩
 rw [if_neg k9] at h ⊢
 by_cases k10:f.kind=10
 · rw [if_pos k10] at h ⊢;exact h
 rw [if_neg k10] at h ⊢
 by_cases k11:f.kind=11
 · rw [if_pos k11] at h ⊢;exact h
 rw [if_neg k11] at h ⊢
 by_cases k12:f.kind=12
 · rw [if_pos k12] at h ⊢
   simp only [orC_iff,needC_iff (show (8:Int)≠0 by decide)] at h ⊢
   refine ⟨h.1,?_,h.2.2⟩
   rw [strB_vB,hs _ _ (strB_some h.2.1)];rfl
 rw [if_neg k12]
theorem examine_refs (hds:∀ s,(lastP strs s).isSome=true→(lastP deps s).isSome=true) {bef:List FieldD} {f:FieldD} (h:examineC bef (vI deps) (vB strs) f=0):∀ s∈refsF f,(lastP deps s).isSome=true:=by
 intro s hs
 unfold examineC at h
 simp only [orC_iff] at h
 obtain ⟨_,_,_,_,h⟩:=h
 unfold checkC at h
 unfold refsF at hs
 split at hs
 · rename_i hk
   simp only [List.mem_singleton] at hs
   subst hs
   rcases hk with hk | hk | hk
   · rw [if_neg (by omega),if_neg (by omega),if_neg (by omega),if_neg (by omega),if_neg (by omega),if_neg (by omega),if_pos hk] at h
     simp only [orC_iff,needC_iff (show (8:Int)≠0 by decide),isI] at h
     exact h.1
   · rw [if_neg (by omega),if_neg (by omega),if_neg (by omega),if_neg (by omega),if_neg (by omega),if_neg (by omega),if_neg (by omega),if_pos hk] at h
     simp only [needC_iff (show (8:Int)≠0 by decide),isI] at h
     exact h
   · rw [if_neg (by omega),if_neg (by omega),if_neg (by omega),if_neg (by omega),if_neg (by omega),if_neg (by omega),if_neg (by omega),if_neg (by omega),if_neg (by omega),if_neg (by omega),if_neg (by omega),if_pos hk] at h
     simp only [orC_iff,needC_iff (show (8:Int)≠0 by decide)] at h
     exact hds _ (by rw [strB_some h.2.1];rfl)
 · split at hs
   · rename_i hk
     obtain ⟨c,hc,rfl⟩:=List.mem_map.1 hs
     rw [if_neg (by omega),if_neg (by omega),if_neg (by omega),if_neg (by omega),if_neg (by omega),if_neg (by omega),if_neg (by omega),if_neg (by omega),if_pos hk] at h
     unfold casesC at h
     simp only [orC_iff] at h
     exact (casesL_mono (Sub.refl deps) _ _ _ h.2.2).2 c hc
   · cases hs
theorem fields_mono (hd:Sub deps deps') (hs:Sub strs strs') (hds:∀ s,(lastP strs s).isSome=true→(lastP deps s).isSome=true):∀ (l bef:List FieldD),(fieldsP deps strs bef l).2=0→fieldsP deps' strs' bef l=(-1,0)∧∀ s∈allRefs l,(lastP deps s).isSome=true
 | [],bef,h=>⟨rfl,fun s hs=>by cases hs⟩
 | f::l,bef,h=>by
  unfold fieldsP at h ⊢
  by_cases h0:examineC bef (vI deps) (vB strs) f=0
  · rw [if_pos h0] at h
    rw [if_pos (examine_mono hd hs h0)]
    obtain ⟨i1,i2⟩:=fields_mono hd hs hds l _ h
    refine ⟨i1,fun s hs=>?_⟩
    rcases List.mem_append.1 (show s∈refsF f++allRefs l from hs) with hs | hs
    · exact examine_refs hds h0 s hs
    · exact i2 s hs
  · rw [if_neg h0] at h;exact absurd h h0
theorem next_parts {m:MsgD} (h:(nextP deps strs m).2=0):nameB m.name=true∧lastP deps m.name=none∧(1≤m.fields.length∧m.fields.length≤40)∧(fieldsP deps strs [] m.fields).2=0∧depthM deps m < 16:=by
 have hl:=nextP_low h
 unfold nextP at h
 by_cases h1:nameB m.name=true
 · rw [if_pos h1] at h
   by_cases h2:(lastP deps m.name).isSome=true
   · rw [if_pos h2] at h;exact absurd h (by decide)
   · rw [if_neg h2] at h
     by_cases h3:1≤m.fields.length∧m.fields.length≤40
     · rw [if_pos h3] at h
       refine ⟨h1,by simpa using h2,h3,?_,hl⟩
       unfold tailP at h
       split at h
       · assumption
       · contradiction
     · rw [if_neg h3] at h;exact absurd h (by decide)
 · rw [if_neg h1] at h;exact absurd h (by decide)
end
section
variable {deps:List (ByteArray×Int)} {strs:List (ByteArray×Bool)}
theorem msgs_cons0 {m:MsgD} {l:List MsgD} {i:Nat} (h:(nextP deps strs m).2=0):msgsP deps strs i (m::l)=msgsP (stepD deps m) (stepS strs m) (i+1) l:=if_pos h
theorem msgs_cons1 {m:MsgD} {l:List MsgD} {i:Nat} (h:¬ (nextP deps strs m).2=0):msgsP deps strs i (m::l)=((i:Int),nextP deps strs m):=if_neg h
theorem msgs_append (r:List MsgD):∀ (l:List MsgD) (deps:List (ByteArray×Int)) (strs:List (ByteArray×Bool)) (i:Nat),((msgsP deps strs i l).2.2=0→msgsP deps strs i (l++r)=msgsP (l.foldl stepD deps) (l.foldl stepS strs) (i+l.length) r)∧((msgsP deps strs i l).2.2≠0→msgsP deps strs i (l++r)=msgsP deps strs i l)
 | [],deps,strs,i=>⟨fun _=>rfl,fun h=>absurd rfl h⟩
 | m::l,deps,strs,i=>by
  have ih:=msgs_append r l (stepD deps m) (stepS strs m) (i+1)
  by_cases h:(nextP deps strs m).2=0
  · rw [msgs_cons0 h,List.cons_append,msgs_cons0 h]
    simp only [List.foldl_cons,List.length_cons]
    rw [show i+(l.length+1)=i+1+l.length by omega]
    exact ih
  · rw [msgs_cons1 h,List.cons_append,msgs_cons1 h]
    exact ⟨fun k=>absurd k h,fun _=>rfl⟩
theorem msgs_at {l:List MsgD} {deps:List (ByteArray×Int)} {strs:List (ByteArray×Bool)} {i:Nat} (h:(msgsP deps strs i l).2.2=0) {k:Nat} {m:MsgD} (hk:l[k]?=some m):(nextP ((l.take k).foldl stepD deps) ((l.take k).foldl stepS strs) m).2=0∧(msgsP deps strs i (l.take k)).2.2=0:=by
 have hl:l=l.take k++m::l.drop (k+1):=by
  have:=(List.take_append_drop k l).symm
  rw [List.drop_eq_getElem_cons (List.getElem?_eq_some_iff.1 hk).1] at this
  rw [(List.getElem?_eq_some_iff.1 hk).2] at this
  exact this
 rw [hl] at h
 by_cases h0:(msgsP deps strs i (l.take k)).2.2=0
 · rw [(msgs_append _ _ _ _ _).1 h0] at h
   refine ⟨?_,h0⟩
   by_cases h1:(nextP ((l.take k).foldl stepD deps) ((l.take k).foldl stepS strs) m).2=0
   · exact h1
   · rw [msgs_cons1 h1] at h;exact absurd h h1
 · rw [(msgs_append _ _ _ _ _).2 h0] at h;exact absurd h h0
theorem deps_snoc (l:List MsgD) (m:MsgD):depsOf (l++[m])=depsOf l++[(m.name,depthM (depsOf l) m+1)]:=by unfold depsOf;rw [List.foldl_append];rfl
theorem strs_snoc (l:List MsgD) (m:MsgD):strsOf (l++[m])=strsOf l++[(m.name,strictM (strsOf l) m)]:=by unfold strsOf;rw [List.foldl_append];rfl
theorem fold_names:∀ (l:List MsgD) (a:List (ByteArray×Int)) (b:List (ByteArray×Bool)),(l.foldl stepD a).map (·.1)=a.map (·.1)++l.map (·.name)∧(l.foldl stepS b).map (·.1)=b.map (·.1)++l.map (·.name)
 | [],a,b=>by simp
 | m::l,a,b=>by
  have ih:=fold_names l (stepD a m) (stepS b m)
  simp only [List.foldl_cons,List.map_cons]
  rw [ih.1,ih.2]
  simp [stepD,stepS]
theorem isD {l:List MsgD} {s:ByteArray}:(lastP (depsOf l) s).isSome=true↔∃ m∈l,m.name=s:=by
 have h1:=(fold_names l [] []).1
 rw [← Option.ne_none_iff_isSome,ne_eq,lastP_none]
 constructor
 · intro h
   apply Classical.byContradiction
   intro hn
   apply h
   intro p hp he
   have:p.1∈(depsOf l).map (·.1):=List.mem_map.2 ⟨p,hp,rfl⟩
   rw [show depsOf l=l.foldl stepD [] from rfl,h1] at this
   obtain ⟨m,hm,hme⟩:=List.mem_map.1 (show p.1∈l.map (·.name) by simpa using this)
   exact hn ⟨m,hm,hme.trans he⟩
 · rintro ⟨m,hm,rfl⟩ h
   have:m.name∈(depsOf l).map (·.1):=by rw [show depsOf l=l.foldl stepD [] from rfl,h1];simpa using ⟨m,hm,rfl⟩
   obtain ⟨p,hp,hpe⟩:=List.mem_map.1 this
   exact h p hp hpe
theorem isS {l:List MsgD} {s:ByteArray}:(lastP (strsOf l) s).isSome=true↔∃ m∈l,m.name=s:=by
 have h1:=(fold_names l [] []).2
 rw [← Option.ne_none_iff_isSome,ne_eq,lastP_none]
 constructor
 · intro h
   apply Classical.byContradiction
   intro hn
   apply h
   intro p hp he
   have:p.1∈(strsOf l).map (·.1):=List.mem_map.2 ⟨p,hp,rfl⟩
   rw [show strsOf l=l.foldl stepS [] from rfl,h1] at this
   obtain ⟨m,hm,hme⟩:=List.mem_map.1 (show p.1∈l.map (·.name) by simpa using this)
   exact hn ⟨m,hm,hme.trans he⟩
 · rintro ⟨m,hm,rfl⟩ h
   have:m.name∈(strsOf l).map (·.1):=by rw [show strsOf l=l.foldl stepS [] from rfl,h1];simpa using ⟨m,hm,rfl⟩
   obtain ⟨p,hp,hpe⟩:=List.mem_map.1 this
   exact h p hp hpe
def Fine (l:List MsgD):Prop:=(msgsP [] [] 0 l).2.2=0
theorem Fine.next {l:List MsgD} (h:Fine l) {k:Nat} {m:MsgD} (hk:l[k]?=some m):(nextP (depsOf (l.take k)) (strsOf (l.take k)) m).2=0:=(msgs_at h hk).1
theorem Fine.sub {l:List MsgD} (h:Fine l):∀ (n k:Nat),Sub (depsOf (l.take k)) (depsOf (l.take (k+n)))∧Sub (strsOf (l.take k)) (strsOf (l.take (k+n)))
 | 0,k=>⟨Sub.refl _,Sub.refl _⟩
 | n+1,k=>by
  have ih:=h.sub n k
  rw [← Nat.add_assoc]
  by_cases hk:k+n < l.length
  · obtain ⟨m,hm⟩:=getElem?_lt hk
    have h2:=(next_parts (h.next hm)).2.1
    rw [take_snoc hm,deps_snoc,strs_snoc]
    refine ⟨ih.1.trans (Sub.snoc h2),ih.2.trans (Sub.snoc ?_)⟩
    show lastP (strsOf (l.take (k+n))) m.name=none
    rw [← Option.not_isSome_iff_eq_none,isS,← isD,Option.not_isSome_iff_eq_none]
    exact h2
  · rw [List.take_of_length_le (show l.length≤k+n+1 by omega)]
    rw [List.take_of_length_le (show l.length≤k+n by omega)] at ih
    exact ih
theorem Fine.suball {l:List MsgD} (h:Fine l) (k:Nat):Sub (depsOf (l.take k)) (depsOf l)∧Sub (strsOf (l.take k)) (strsOf l):=by
 have:=h.sub l.length k
 rw [List.take_of_length_le (show l.length≤k+l.length by omega)] at this
 exact this
theorem le_foldl (g:ByteArray→Int):∀ (l:List ByteArray) (d:Int),d≤l.foldl (fun d s=>maxI d (g s)) d∧∀ s∈l,g s≤l.foldl (fun d s=>maxI d (g s)) d
 | [],d=>⟨by simp,fun _ h=>by cases h⟩
 | x::l,d=>by
  have ih:=le_foldl g l (maxI d (g x))
  simp only [List.foldl_cons]
  have h1:d≤maxI d (g x):=le_maxI _ _
  have h2:g x≤maxI d (g x):=by unfold maxI;split<;>omega
  refine ⟨by omega,fun s hs=>?_⟩
  rcases List.mem_cons.1 hs with rfl | hs
  · omega
  · exact ih.2 s hs
theorem mem_refsM {m:MsgD} {s:ByteArray} (h:s∈refsM m):s∈allRefs m.fields:=mem_dedupA h
theorem ds_of (l:List MsgD) (s:ByteArray) (h:(lastP (strsOf l) s).isSome=true):(lastP (depsOf l) s).isSome=true:=isD.2 (isS.1 h)
theorem Fine.refs {l:List MsgD} (h:Fine l) {k:Nat} {m:MsgD} (hk:l[k]?=some m) {s:ByteArray} (hs:s∈refsM m) :
 ∃ i m',i < k∧l[i]?=some m'∧m'.name=s∧(∀ j m'',j < i→l[j]?=some m''→m''.name≠s)∧∃ v,lastP (depsOf l) s=some v∧v≤depthM (depsOf (l.take k)) m:=by
 obtain ⟨_,_,_,h4,_⟩:=next_parts (h.next hk)
 have h5:=(fields_mono (Sub.refl _) (Sub.refl _) (ds_of _) _ _ h4).2 s (mem_refsM hs)
 obtain ⟨m',hm',hn⟩:=isD.1 h5
 obtain ⟨i,hi⟩:=List.getElem?_of_mem hm'
 have hik:i < k∧l[i]?=some m':=by
  rw [List.getElem?_take] at hi
  split at hi
  · exact ⟨by assumption,hi⟩
  · cases hi
 obtain ⟨v,hv⟩:=Option.isSome_iff_exists.1 h5
 refine ⟨i,m',hik.1,hik.2,hn,fun j m'' hj hj2 hne=>?_,v,(h.suball k).1 _ _ hv,?_⟩
 · have h6:=(next_parts (h.next hik.2)).2.1
   rw [← Option.not_isSome_iff_eq_none,isD] at h6
   exact h6 ⟨m'',List.mem_of_getElem? (i:=j) (by rw [List.getElem?_take,if_pos hj];exact hj2),hne.trans hn.symm⟩
 · have:=(le_foldl (fun s=>(lastP (depsOf (l.take k)) s).getD 0) (refsM m) 0).2 s hs
   rw [hv] at this
   exact this
end
section
variable {d:DefD}
theorem check_fine (h:(checkP d).2.2=0):nameB d.name=true∧(1≤d.msgs.length∧d.msgs.length≤60)∧Fine d.msgs∧(lastP (depsOf d.msgs) d.start).isSome=true:=by
 unfold checkP at h
 by_cases h1:nameB d.name=true
 · rw [if_pos h1] at h
   by_cases h2:1≤d.msgs.length∧d.msgs.length≤60
   · rw [if_pos h2] at h
     unfold endP at h
     by_cases h3:(msgsP [] [] 0 d.msgs).2.2=0
     · rw [if_pos h3] at h
       by_cases h4:(lastP (depsOf d.msgs) d.start).isSome=true
       · exact ⟨h1,h2,h3,h4⟩
       · rw [if_neg h4] at h;exact absurd h (by decide)
     · rw [if_neg h3] at h;exact absurd h h3
   · rw [if_neg h2] at h;exact absurd h (by decide)
 · rw [if_neg h1] at h;exact absurd h (by decide)
end
theorem idx0_any {α:Type} {p:α→Bool} {l:List α} (h:l.any p=true):idx0 p l=idx p l:=by
 rw [← idx_neg] at h
 unfold idx0
 rw [if_neg (by simpa using h)]
def toB (l:List MsgD) (k i:Nat):Bool:=match l[k]? with
 | some m=>(refsM m).any fun s=>idx (fun x=>decide (x.name=s)) l == (i:Int)
 | none=>false
theorem fine_idx {l:List MsgD} (h:Fine l) {k:Nat} {m:MsgD} (hk:l[k]?=some m) {s:ByteArray} (hs:s∈refsM m):∃ (i:Nat) (m':MsgD),i < k∧l[i]?=some m'∧m'.name=s∧idx (fun x=>decide (x.name=s)) l=i∧idx (fun x=>decide (x.name=s)) (l.take k)=i:=by
 obtain ⟨i,m',h1,h2,h3,h4,_⟩:=h.refs hk hs
 refine ⟨i,m',h1,h2,h3,idx_here h2 (by simpa using h3) fun j y hj hy=>by simpa using h4 j y hj hy,idx_here (x:=m') (by rw [List.getElem?_take,if_pos h1];exact h2) (by simpa using h3) fun j y hj hy=>?_⟩
 rw [List.getElem?_take,if_pos (by omega)] at hy
 simpa using h4 j y hj hy
theorem to_lt {l:List MsgD} (h:Fine l) {k i:Nat} (ht:toB l k i=true):i < k∧k < l.length:=by
 unfold toB at ht
 cases hk:l[k]? with
 | none=>rw [hk] at ht;cases ht
 | some m =>
  rw [hk] at ht
  simp only [List.any_eq_true,beq_iff_eq] at ht
  obtain ⟨s,hs,he⟩:=ht
  obtain ⟨j,_,hj,_,_,hi,_⟩:=fine_idx h hk hs
  exact ⟨by omega,(List.getElem?_eq_some_iff.1 hk).1⟩
section
variable {l:List MsgD} {s:Nat}
def reachN (l:List MsgD) (s:Nat):Nat→Nat→Bool
 | 0,i=>i == s
 | t+1,i=>reachN l s t i||(reachN l s t (l.length - 1 - t)&&toB l (l.length - 1 - t) i)
def reachB (l:List MsgD) (s i:Nat):Bool:=reachN l s l.length i
theorem reachN_stay (h:Fine l) {i:Nat}:∀ u t,l.length - 1 - t≤i→reachN l s (t+u) i=reachN l s t i
 | 0,t,_=>rfl
 | u+1,t,ht=>by
  rw [← Nat.add_assoc,reachN,reachN_stay h u t ht]
  cases hb:toB l (l.length - 1 - (t+u)) i with
  | false=>rw [Bool.and_false,Bool.or_false]
  | true=>have:=to_lt h hb;omega
theorem reach_stay (h:Fine l) {i t:Nat} (ht:l.length - 1 - t≤i) (htl:t≤l.length):reachB l s i=reachN l s t i:=by
 unfold reachB
 have:=reachN_stay (s:=s) h (i:=i) (l.length - t) t ht
 rw [show t+(l.length - t)=l.length by omega] at this
 exact this
theorem reachN_mono:∀ (u t i:Nat),reachN l s t i=true→reachN l s (t+u) i=true
 | 0,_,_,h=>h
 | u+1,t,i,h=>by rw [← Nat.add_assoc,reachN,reachN_mono u t i h,Bool.true_or]
theorem reach_start (hs:s < l.length):reachB l s s=true:=by
 have:=reachN_mono (l:=l) (s:=s) l.length 0 s (by unfold reachN;simp)
 rwa [Nat.zero_add] at this
theorem reach_more (h:Fine l) {k i:Nat} (hr:reachB l s k=true) (ht:toB l k i=true):reachB l s i=true:=by
 obtain ⟨h1,h2⟩:=to_lt h ht
 rw [reach_stay h (t:=l.length - 1 - k) (by omega) (by omega)] at hr
 have h3:reachN l s (l.length - 1 - k+1) i=true:=by
  rw [reachN,show l.length - 1 - (l.length - 1 - k)=k by omega,hr,ht];simp
 have:=reachN_mono (l:=l) (s:=s) k _ i h3
 rw [show l.length - 1 - k+1+k=l.length by omega] at this
 exact this
theorem reach_from (h:Fine l):∀ (t i:Nat),t≤l.length→reachN l s t i=true→i=s∨∃ k,reachB l s k=true∧toB l k i=true
 | 0,i,_,hr=>by unfold reachN at hr;simp only [beq_iff_eq] at hr;exact .inl hr
 | t+1,i,ht,hr=>by
  unfold reachN at hr
  simp only [Bool.or_eq_true,Bool.and_eq_true] at hr
  rcases hr with hr | ⟨h1,h2⟩
  · exact reach_from h t i (by omega) hr
  · exact .inr ⟨_,by rw [reach_stay h (Nat.le_refl _) (by omega)];exact h1,h2⟩
variable {to:Nat}
end
def startI (d:DefD):Nat:=(idx (fun m=>decide (m.name=d.start)) d.msgs).toNat
theorem start_spec {d:DefD} (hc:(checkP d).2.2=0):startI d < d.msgs.length∧(d.msgs.any fun m=>decide (m.name=d.start))=true∧idx0 (fun m=>decide (m.name=d.start)) d.msgs=startI d:=by
 have h:=(check_fine hc).2.2.2
 obtain ⟨m,hm,hn⟩:=isD.1 h
 have ha:(d.msgs.any fun m=>decide (m.name=d.start))=true:=List.any_eq_true.2 ⟨m,hm,by simpa using hn⟩
 have hb:=idx_bounds (fun m:MsgD=>decide (m.name=d.start)) d.msgs
 have h0:=ha
 rw [← idx_neg] at h0
 have h0:0≤idx (fun m:MsgD=>decide (m.name=d.start)) d.msgs:=by simpa using h0
 unfold startI
 exact ⟨by omega,ha,by rw [idx0_any ha];omega⟩
def pick {α:Type} (l:List α) (L:List Int):List α:=L.filterMap fun i=>l[i.toNat]?
def nilDef:DefD:=⟨ByteArray.empty,[],ByteArray.empty⟩
theorem dedup_mem {s:ByteArray}:∀ {l seen:List ByteArray},s∈l→(seen.any fun y=>decide (s=y))=false→s∈dedupA seen l
 | x::l,seen,h,hs=>by
  unfold dedupA
  by_cases hx:s=x
  · subst hx
    rw [if_neg (by rw [hs];simp)]
    exact List.mem_cons_self
  · have:=dedup_mem (seen:=seen++[x]) ((List.mem_cons.1 h).resolve_left hx) (by rw [List.any_append,hs];simp [hx])
    split
    · exact this
    · exact List.mem_cons_of_mem _ this
section
variable {l:List MsgD} {r:Nat→Bool}
theorem names_apart (h:Fine l) {i j:Nat} {m m':MsgD} (hi:l[i]?=some m) (hj:l[j]?=some m') (hn:m.name=m'.name):i=j:=by
 have main:∀ (i j:Nat) (m m':MsgD),i < j→l[i]?=some m→l[j]?=some m'→m.name≠m'.name:=by
  intro i j m m' hij hi hj hn
  have h2:=(next_parts (h.next hj)).2.1
  rw [← Option.not_isSome_iff_eq_none,isD] at h2
  exact h2 ⟨m,List.mem_of_getElem? (i:=i) (by rw [List.getElem?_take,if_pos hij];exact hi),hn⟩
 rcases Nat.lt_trichotomy i j with h1 | h1 | h1
 · exact absurd hn (main _ _ _ _ h1 hi hj)
 · exact h1
 · exact absurd hn.symm (main _ _ _ _ h1 hj hi)
theorem refs_to (h:Fine l) {k:Nat} {m:MsgD} (hk:l[k]?=some m) {s:ByteArray} (hs:s∈allRefs m.fields):∃ (i:Nat) (m':MsgD),i < k∧l[i]?=some m'∧m'.name=s∧toB l k i=true:=by
 obtain ⟨i,m',h1,h2,h3,h4,_⟩:=fine_idx h hk (s:=s) (dedup_mem hs rfl)
 refine ⟨i,m',h1,h2,h3,?_⟩
 unfold toB
 rw [hk]
 exact List.any_eq_true.2 ⟨s,dedup_mem hs rfl,by rw [h4];simp⟩
end
section
variable {d:DefD}
theorem reach_closed (hf:Fine d.msgs):∀ k i,reachB d.msgs (startI d) k=true→toB d.msgs k i=true→reachB d.msgs (startI d) i=true:=fun _ _ h1 h2=>reach_more hf h1 h2
theorem start_at (hc:(checkP d).2.2=0):∃ m,d.msgs[startI d]?=some m∧m.name=d.start:=by
 obtain ⟨h1,h2,_⟩:=start_spec hc
 obtain ⟨m,hm⟩:=getElem?_lt h1
 refine ⟨m,hm,?_⟩
 have hi:0≤idx (fun m:MsgD=>decide (m.name=d.start)) d.msgs:=by
  rw [← idx_neg] at h2
  simpa using h2
 obtain ⟨x,hx,hn⟩:=isD.1 (check_fine hc).2.2.2
 obtain ⟨j,hj⟩:=List.getElem?_of_mem hx
 have:idx (fun m:MsgD=>decide (m.name=d.start)) d.msgs=j:=idx_here hj (by simpa using hn) fun q y hq hy=>by
  by_cases he:y.name=d.start
  · have:=names_apart (check_fine hc).2.2.1 hy hj (he.trans hn.symm);omega
  · simpa using he
 have hs:startI d=j:=by unfold startI;rw [this];rfl
 rw [hs,hj] at hm
 injection hm with hm
 exact hm ▸ hn
end
section
variable {l:List MsgD}
theorem to_names (h:Fine l) {k i:Nat} (ht:toB l k i=true):∃ m m',l[k]?=some m∧l[i]?=some m'∧m'.name∈refsM m:=by
 obtain ⟨h1,h2⟩:=to_lt h ht
 obtain ⟨m,hm⟩:=getElem?_lt h2
 unfold toB at ht
 rw [hm] at ht
 obtain ⟨s,hs,he⟩:=List.any_eq_true.1 ht
 obtain ⟨j,m',_,h4,h5,h6,_⟩:=fine_idx h hm hs
 rw [h6] at he
 have:j=i:=by simp at he;omega
 subst this
 exact ⟨m,m',hm,h4,by rw [h5];exact hs⟩
end
structure InsD where
 code:Int
 msg:Int
 field:Int
 reg:Int
 cas:Int
 to:Int
 deriving DecidableEq
abbrev insCells (x:InsD):List Value:=[.int .i64 x.code,.int .i64 x.msg,.int .i64 x.field,.int .i64 x.reg,.int .i64 x.cas,.int .i64 x.to]
abbrev insVal (x:InsD):Value := .agg (insCells x).toArray
def usesB1 (s:ByteArray) (f:FieldD):Bool:=(decide (f.kind=9)&&decide (f.tag=s))||f.terms.any fun t=>decide (t.field=s)
def usedN (l:List FieldD) (s:ByteArray):Bool:=l.any (usesB1 s)
def regB (l:List FieldD) (f:FieldD):Bool:=numberB f&&usedN l f.name
def cntR (l:List FieldD):Nat→Nat
 | 0=>0
 | k+1=>cntR l k+(match l[k]? with
  | some f=>if regB l f then 1 else 0
  | none=>0)
def lenF (f:FieldD):Nat:=if f.kind=9 then 1+f.cases.length else 1
def lenK (l:List FieldD):Nat→Nat
 | 0=>0
 | k+1=>lenK l k+(match l[k]? with
  | some f=>lenF f
  | none=>0)
def lenM (m:MsgD):Nat:=2+lenK m.fields m.fields.length
def routN (l:List MsgD) (r:Nat→Bool):Nat→Nat
 | 0=>2
 | i+1=>routN l r i+(match l[i]? with
  | some m=>if r i then lenM m else 0
  | none=>0)
def toR (l:List MsgD) (r:Nat→Bool) (s:ByteArray):Int:=routN l r (idx (fun m=>decide (m.name=s)) l).toNat
def casI (rt:ByteArray→Int) (i k:Int) (l:List CaseD):Nat→List InsD
 | 0=>[]
 | j+1=>casI rt i k l j++(match l[j]? with
  | some c=>[⟨8,i,k,-1,j,rt c.of⟩]
  | none=>[])
def fieldC (rt:ByteArray→Int) (i k g:Int) (f:FieldD):List InsD :=
 if f.kind=9 then ⟨7,i,k,-1,-1,-1⟩::casI rt i k f.cases f.cases.length else
 if f.kind=8 then [⟨5,i,k,-1,-1,rt f.of⟩] else
 if f.kind=7 then [⟨6,i,k,-1,-1,rt f.of⟩] else
 if f.kind=12 then [⟨9,i,k,-1,-1,rt f.of⟩] else [⟨4,i,k,g,-1,-1⟩]
def gR (l:List FieldD) (k:Nat) (f:FieldD):Int:=if regB l f then (cntR l k:Int) else -1
def fieldsC (rt:ByteArray→Int) (i:Int) (l:List FieldD):Nat→List InsD
 | 0=>[]
 | k+1=>fieldsC rt i l k++(match l[k]? with
  | some f=>fieldC rt i k (gR l k f) f
  | none=>[])
def msgC (rt:ByteArray→Int) (i:Int) (m:MsgD):List InsD:=⟨3,i,-1,-1,-1,-1⟩::fieldsC rt i m.fields m.fields.length++[⟨10,i,-1,-1,-1,-1⟩]
def codeN (rt:ByteArray→Int) (l:List MsgD) (r:Nat→Bool):Nat→List InsD
 | 0=>[]
 | i+1=>codeN rt l r i++(match l[i]? with
  | some m=>if r i then msgC rt i m else []
  | none=>[])
def headC (t:Int):List InsD:=[⟨1,-1,-1,-1,-1,t⟩,⟨2,-1,-1,-1,-1,-1⟩]
def reachD (d:DefD) (i:Nat):Bool:=reachB d.msgs (startI d) i
def codeP (d:DefD):List InsD:=headC (toR d.msgs (reachD d) d.start)++codeN (toR d.msgs (reachD d)) d.msgs (reachD d) d.msgs.length
theorem casI_len {rt:ByteArray→Int} {i k:Int} {l:List CaseD}:∀ {j:Nat},j≤l.length→(casI rt i k l j).length=j
 | 0,_=>rfl
 | j+1,h=>by
  obtain ⟨c,hc⟩:=getElem?_lt (show j < l.length by omega)
  unfold casI
  rw [hc,List.length_append,casI_len (by omega)]
  rfl
theorem fieldC_len {rt:ByteArray→Int} {i k g:Int} {f:FieldD}:(fieldC rt i k g f).length=lenF f:=by
 unfold fieldC lenF
 by_cases h9:f.kind=9
 · rw [if_pos h9,if_pos h9,List.length_cons,casI_len (Nat.le_refl _)];omega
 · rw [if_neg h9,if_neg h9]
   repeat' split
   all_goals rfl
theorem fieldsC_len {rt:ByteArray→Int} {i:Int} {l:List FieldD}:∀ k,(fieldsC rt i l k).length=lenK l k
 | 0=>rfl
 | k+1=>by
  unfold fieldsC lenK
  rw [List.length_append,fieldsC_len k]
  cases l[k]? with
  | none=>rfl
  | some f=>simp only [fieldC_len]
theorem msgC_len {rt:ByteArray→Int} {i:Int} {m:MsgD}:(msgC rt i m).length=lenM m:=by
 unfold msgC lenM
 rw [List.length_append,List.length_cons,fieldsC_len]
 simp only [List.length_cons,List.length_nil]
 omega
theorem codeN_len {rt:ByteArray→Int} {l:List MsgD} {r:Nat→Bool}:∀ i,(codeN rt l r i).length+2=routN l r i
 | 0=>rfl
 | i+1=>by
  unfold codeN routN
  rw [List.length_append,← codeN_len (rt:=rt) i]
  cases l[i]? with
  | none=>simp
  | some m=>cases r i<;>simp [msgC_len] ;omega
theorem idx_get {α:Type} {p:α→Bool} {l:List α} {n:Nat} (h:idx p l=(n:Int)):∃ x,l[n]?=some x∧p x=true:=by
 unfold idx at h
 cases hf:l.findIdx? p with
 | none=>rw [hf] at h;simp at h
 | some i =>
  rw [hf] at h
  have h:i=n:=by simp at h;omega
  subst h
  obtain ⟨h1,h2,_⟩:=List.findIdx?_eq_some_iff_getElem.1 hf
  exact ⟨_,List.getElem?_eq_getElem h1,h2⟩
def idN (l:List MsgD) (s:ByteArray):Int:=idx (fun m=>decide (m.name=s)) l
theorem idN_at {l:List MsgD} (h:Fine l) {n:Nat} {m:MsgD} (hn:l[n]?=some m):idN l m.name=n:=idx_here hn (by simp) fun j y hj hy=>by
 by_cases he:y.name=m.name
 · have:=names_apart h hy hn he;omega
 · simpa using he
theorem idN_get {l:List MsgD} {n:Nat} {s:ByteArray} (h:idN l s=(n:Int)):∃ m,l[n]?=some m∧m.name=s:=by
 obtain ⟨m,h1,h2⟩:=idx_get h
 exact ⟨m,h1,by simpa using h2⟩
def mapF (l:List MsgD) (r:Nat→Bool) (g:Nat→Int) (n:Nat) (s:ByteArray):Option Int:=if 0≤idN l s∧idN l s < n∧r (idN l s).toNat=true then some (g (idN l s).toNat) else none
theorem mapF_zero (l:List MsgD) (r:Nat→Bool) (g:Nat→Int) (s:ByteArray):mapF l r g 0 s=none:=if_neg (by omega)
theorem mapF_skip {l:List MsgD} {r:Nat→Bool} {g:Nat→Int} {n:Nat} (hr:r n=false) (s:ByteArray):mapF l r g (n+1) s=mapF l r g n s:=by
 unfold mapF
 by_cases h:0≤idN l s∧idN l s < n∧r (idN l s).toNat=true
 · rw [if_pos h,if_pos ⟨h.1,by omega,h.2.2⟩]
 · rw [if_neg h,if_neg]
   rintro ⟨h1,h2,h3⟩
   by_cases hn:idN l s=n
   · rw [hn,Int.toNat_natCast,hr] at h3;cases h3
   · exact h ⟨h1,by omega,h3⟩
theorem mapF_step {l:List MsgD} (hf:Fine l) {r:Nat→Bool} {g:Nat→Int} {n:Nat} {m:MsgD} (hm:l[n]?=some m) (hr:r n=true) (s:ByteArray):mapF l r g (n+1) s=if m.name=s then some (g n) else mapF l r g n s:=by
 unfold mapF
 by_cases hs:m.name=s
 · subst hs
   rw [idN_at hf hm,if_pos rfl,if_pos ⟨by omega,by omega,by rw [Int.toNat_natCast];exact hr⟩,Int.toNat_natCast]
 · rw [if_neg hs]
   have hn:idN l s≠n:=by
    intro he
    obtain ⟨x,h1,h2⟩:=idN_get he
    rw [hm] at h1
    injection h1 with h1
    exact hs (h1 ▸ h2)
   by_cases h:0≤idN l s∧idN l s < n∧r (idN l s).toNat=true
   · rw [if_pos h,if_pos ⟨h.1,by omega,h.2.2⟩]
   · rw [if_neg h,if_neg]
     rintro ⟨h1,h2,h3⟩
     exact h ⟨h1,by omega,h3⟩
theorem mapF_at {l:List MsgD} (hf:Fine l) {r:Nat→Bool} {g:Nat→Int} {n i:Nat} {m:MsgD} (hm:l[i]?=some m) (hi:i < n) (hr:r i=true):mapF l r g n m.name=some (g i):=by
 unfold mapF
 rw [idN_at hf hm,if_pos ⟨by omega,by omega,by rw [Int.toNat_natCast];exact hr⟩,Int.toNat_natCast]
theorem ref_to {l:List MsgD} (hf:Fine l) {r:Nat→Bool} (hr:∀ k i,r k=true→toB l k i=true→r i=true) {n:Nat} {m:MsgD} (hm:l[n]?=some m) (hrn:r n=true) {s:ByteArray} (hs:s∈allRefs m.fields):mapF l r (fun i=>(routN l r i:Int)) n s=some (toR l r s):=by
 obtain ⟨i,m',h1,h2,h3,h4⟩:=refs_to hf hm hs
 subst h3
 rw [mapF_at hf h2 h1 (hr _ _ hrn h4)]
 have:=idN_at hf h2
 unfold idN at this
 unfold toR
 rw [this]
 rfl
theorem op_boxA {P:Program} {QP:List PanicEntry→World→Prop} {w:World} {k:Value→World→Prop} (T:TypeId) (cs:Array Value):opV P (Instr.box T (.agg cs)) QP w k=k (.pointer (some ⟨w.heap.size,0,none⟩)) (w.alloc (.cells cs T)):=op_box T (.agg cs)
theorem open1 {α:Type} {w:World} {n:Nat} {E:World→List Value→α→Prop} {v:Value} {l:List α} (h:SliceOf w n E v l) {i:Nat} {x:α} (hi:l[i]?=some x) :
 ∃ b o c,v = .slice (some ⟨b,o,none⟩) l.length c∧l.length≤c∧c≤9223372036854775807∧l.length≤9223372036854775807∧i < l.length∧∀ k x,l[k]?=some x→∃ cs,cs.length=n∧ElemAt w b (o+k*n) cs∧E w cs x:=by
 obtain ⟨A,c,h1,h2,h3,h4⟩:=h
 obtain ⟨b,o,rfl,h5⟩:=h4 (by rintro rfl;cases hi)
 exact ⟨b,o,c,h1,h2,h3,by omega,(List.getElem?_eq_some_iff.1 hi).1,h5⟩
theorem mem_numR {l:List FieldD} {s:ByteArray} {q:Int×Int}:(s,q)∈numR l↔∃ f∈l,numberB f=true∧f.name=s∧q=(f.low,highOf f):=by
 unfold numR
 simp only [List.mem_map,List.mem_filter,Prod.mk.injEq]
 constructor
 · rintro ⟨f,⟨h1,h2⟩,h3,h4⟩;exact ⟨f,h1,h2,h3,by rw [← h4]⟩
 · rintro ⟨f,h1,h2,h3,h4⟩;exact ⟨f,⟨h1,h2⟩,h3,by rw [h4]⟩
def n5c1 (t2 t3:Value) (C1:World→Prop) (ds:List Deferred) (R:RT) (w:World):Prop :=
 qV Pg C1 (Instr.loadAt 92 t2) fun t14 =>
 qV Pg C1 (Instr.loadAt 4 t3) fun t15 =>
 opU Pg (Instr.storeAt 92 t2 t14) (outQ Pg ds [(some 92,t2),(some 4,t3)] R) w fun w =>
 C1 w∧(
 opU Pg (Instr.storeAt 4 t3 t15) (outQ Pg ds [(some 92,t2),(some 4,t3)] R) w fun w =>
 turnK w fun C2 w =>
 outX Pg ds [(some 92,t2),(some 4,t3)] R w)
def n5c2 (t2 t4 t5 t27:Value) (Qr4:List PanicEntry→World→Prop) (Xr4:Nat→World→Prop) (R:RT) (w:World):Prop :=
 opV Pg (Instr.loadAt 3 t4) Qr4 w fun t35 w =>
 opV Pg (Instr.build 92 #[(0,t35),(1,t27),(2,(.int .i64 12))]) Qr4 w fun t37 w =>
 opU Pg (Instr.storeAt 92 t2 t37) Qr4 w fun w =>
 opV Pg (Instr.fieldAt 53 t5 1) Qr4 w fun t39 w =>
 opV Pg (Instr.loadAt 51 t39) Qr4 w fun t40 w =>
 opV Pg (Builtin.len_ #[51] 3 #[t40]) Qr4 w fun t41 w =>
 opV Pg (binS .eql 3 false t27 t41) Qr4 w fun t42 w =>
 joinK (fun (w:World) =>
 Xr4 0 w) fun K5 =>
 condP t42 (
 opV Pg (Instr.fieldAt 92 t2 1) Qr4 w fun t43 w =>
 opU Pg (Instr.storeAt 3 t43 (.int .i64 (-1))) Qr4 w fun w =>
 K5 w) (
 K5 w)
def n5c3 (t2 t3 t4 t5 t27 t28:Value) (Kr4:World→Prop) (Qr4:List PanicEntry→World→Prop) (Xr4:Nat→World→Prop) (R:RT) (w:World):Prop :=
 opV Pg (Instr.fieldAt 53 t5 1) Qr4 w fun t29 w =>
 opV Pg (Instr.loadAt 51 t29) Qr4 w fun t30 w =>
 callK Pg 73 #[t30,t27,t28] Qr4 w fun t33 w =>
 opU Pg (Instr.storeAt 4 t3 t33) Qr4 w fun w =>
 opV Pg (Instr.loadAt 4 t3) Qr4 w fun t34 w =>
 condP t34 (
 n5c2 t2 t4 t5 t27 Qr4 Xr4 R w) (
 Kr4 w)
def n5c4 (t2 t3:Value) (C6:World→Prop) (ds:List Deferred) (R:RT) (w:World):Prop :=
 qV Pg C6 (Instr.loadAt 92 t2) fun t45 =>
 qV Pg C6 (Instr.loadAt 4 t3) fun t46 =>
 opU Pg (Instr.storeAt 92 t2 t45) (outQ Pg ds [(some 92,t2),(some 4,t3)] R) w fun w =>
 C6 w∧(
 opU Pg (Instr.storeAt 4 t3 t46) (outQ Pg ds [(some 92,t2),(some 4,t3)] R) w fun w =>
 turnK w fun C7 w =>
 outX Pg ds [(some 92,t2),(some 4,t3)] R w)
def n5c5 (t2 t3 t4 t5 t19 t26:Value) (next3:List Deferred→Value→World→Prop) (ds:List Deferred) (R:RT) (w:World):Prop :=
 rangeN2 Pg t26 ds (fun l4 t27 t28 w Kr4 Xr4 Qr4 =>
 busyK l4 w fun w =>
 n5c3 t2 t3 t4 t5 t27 t28 Kr4 Qr4 Xr4 R w) (fun ch ds w=>outQ Pg ds [(some 92,t2),(some 4,t3)] R ch w) w (fun ds w =>
 opV Pg (binS .add 3 true t19 (.int .i64 1)) (outQ Pg ds [(some 92,t2),(some 4,t3)] R) w fun t44 w =>
 next3 ds t44 w) [fun ds w =>
 drawK w fun C6 w =>
 n5c4 t2 t3 C6 ds R w]
def n5c6 (t2 t3:Value) (C8:World→Prop) (ds:List Deferred) (R:RT) (w:World):Prop :=
 qV Pg C8 (Instr.loadAt 92 t2) fun t45 =>
 qV Pg C8 (Instr.loadAt 4 t3) fun t46 =>
 opU Pg (Instr.storeAt 92 t2 t45) (outQ Pg ds [(some 92,t2),(some 4,t3)] R) w fun w =>
 C8 w∧(
 opU Pg (Instr.storeAt 4 t3 t46) (outQ Pg ds [(some 92,t2),(some 4,t3)] R) w fun w =>
 turnK w fun C9 w =>
 outX Pg ds [(some 92,t2),(some 4,t3)] R w)
def n5c7 (t2 t3 t17 t19:Value) (next3:List Deferred→Value→World→Prop) (ds:List Deferred) (R:RT) (w:World):Prop :=
 opV Pg (Instr.indexAt 22 t17 t19) (outQ Pg ds [(some 92,t2),(some 4,t3)] R) w fun t22 w =>
 opV Pg (Instr.loadAt 53 t22) (outQ Pg ds [(some 92,t2),(some 4,t3)] R) w fun t23 w =>
 opV Pg (Instr.alloc 3 true (.tuple #[])) (outQ Pg ds [(some 92,t2),(some 4,t3)] R) w fun t4 w =>
 opV Pg (Instr.alloc 53 true (.tuple #[])) (outQ Pg ds [(some 92,t2),(some 4,t3)] R) w fun t5 w =>
 opU Pg (Instr.storeAt 3 t4 t19) (outQ Pg ds [(some 92,t2),(some 4,t3)] R) w fun w =>
 opU Pg (Instr.storeAt 53 t5 t23) (outQ Pg ds [(some 92,t2),(some 4,t3)] R) w fun w =>
 opV Pg (Instr.fieldAt 53 t5 1) (outQ Pg ds [(some 92,t2),(some 4,t3)] R) w fun t24 w =>
 opV Pg (Instr.loadAt 51 t24) (outQ Pg ds [(some 92,t2),(some 4,t3)] R) w fun t25 w =>
 callK Pg 72 #[t25] (outQ Pg ds [(some 92,t2),(some 4,t3)] R) w fun t26 w =>
 n5c5 t2 t3 t4 t5 t19 t26 next3 ds R w
def n5c8 (t2 t3 t17 t18 t19:Value) (next3:List Deferred→Value→World→Prop) (ds:List Deferred) (R:RT) (w:World):Prop :=
 opV Pg (binS .lss 3 false t19 t18) (outQ Pg ds [(some 92,t2),(some 4,t3)] R) w fun t20 w =>
 condP t20 (
 n5c7 t2 t3 t17 t19 next3 ds R w) (
 drawK w fun C8 w =>
 n5c6 t2 t3 C8 ds R w)
def n5c9 (t1 t2 t3:Value) (ds:List Deferred) (R:RT) (w:World):Prop :=
 opV Pg (Instr.fieldAt 24 t1 1) (outQ Pg ds [(some 92,t2),(some 4,t3)] R) w fun t16 w =>
 opV Pg (Instr.loadAt 22 t16) (outQ Pg ds [(some 92,t2),(some 4,t3)] R) w fun t17 w =>
 opV Pg (Builtin.len_ #[22] 3 #[t17]) (outQ Pg ds [(some 92,t2),(some 4,t3)] R) w fun t18 w =>
 loopM1 (fun ds t19 w next3 =>
 n5c8 t2 t3 t17 t18 t19 next3 ds R w) ds (.int .i64 0) w
def n5c10 (t1 t2 t3 t10:Value) (ds:List Deferred) (R:RT) (w:World):Prop :=
 opV Pg (Instr.extract t10 0) (outQ Pg ds [(some 92,t2),(some 4,t3)] R) w fun t11 w =>
 opV Pg (Instr.extract t10 1) (outQ Pg ds [(some 92,t2),(some 4,t3)] R) w fun t12 w =>
 opU Pg (Instr.storeAt 92 t2 t11) (outQ Pg ds [(some 92,t2),(some 4,t3)] R) w fun w =>
 opU Pg (Instr.storeAt 4 t3 t12) (outQ Pg ds [(some 92,t2),(some 4,t3)] R) w fun w =>
 opV Pg (Instr.loadAt 4 t3) (outQ Pg ds [(some 92,t2),(some 4,t3)] R) w fun t13 w =>
 condP t13 (
 drawK w fun C1 w =>
 n5c1 t2 t3 C1 ds R w) (
 n5c9 t1 t2 t3 ds R w)
def n5 (t0:Value) (R:RT) (w:World):Prop :=
 (fun (ds:List Deferred) =>
 opV Pg (Instr.box 24 t0) (outQ Pg ds [(some 92,undef),(some 4,undef)] R) w fun t1 w =>
 opV Pg (Instr.alloc 92 true (.tuple #[])) (outQ Pg ds [(some 92,undef),(some 4,undef)] R) w fun t2 w =>
 opV Pg (Instr.alloc 4 true (.tuple #[])) (outQ Pg ds [(some 92,t2),(some 4,undef)] R) w fun t3 w =>
 opV Pg (Instr.loadAt 24 t1) (outQ Pg ds [(some 92,t2),(some 4,t3)] R) w fun t9 w =>
 callK Pg 71 #[t9] (outQ Pg ds [(some 92,t2),(some 4,t3)] R) w fun t10 w =>
 n5c10 t1 t2 t3 t10 ds R w) []
set_option maxHeartbeats 40000000 in
theorem n5s {t0:Value} {R:RT} {w:World} (h:n5 t0 R w):Calls Pg 39 #[t0] w R:=by
 refine yE Tryz.func39 ?_
 unfold n5 at h
 dsimp only at h
 refine zs<|zr<|yv h fun _ w h=>yv h fun _ w h=>yv h fun _ w h=>zn<|zk<|sim_scope<|zs<|zs<|zr<|yv h fun _ w h=>yc h c71 fun _ w h=>zm<|yv h fun _ w h=>?_
 refine yv h fun _ w h=>yu h fun w h=>yu h fun w h=>zn<|zk<|zs<|zr<|yv h fun _ w h=>zn<|zk<|yC h (fun h=>?_) fun h=>?_
 · refine zs<|yh [14,15] h fun C hC h=>ye 0 hC h fun _ h=>?_
   refine ye 1 hC h fun _ h=>?_
   refine yo 2 ?_
   refine yu h fun w h=>zn ?_
   obtain ⟨hC,h⟩:=h
   refine ⟨hC,?_⟩
   refine yq 3 1 ?_
   refine yu h fun w h=>zn ?_
   obtain ⟨C2,hC,h⟩:=h
   refine ⟨C2,hC,?_⟩
   exact yz<|zk<|sim_ret<|sim_then_ret<|bodyM_ret rfl h
 refine sim_skip<|zk<|zs<|sim_label<|zk<|zs<|zs<|zr<|yv h fun _ w h=>yv h fun _ w h=>yx h fun _ w h=>zm<|zn<|zk<|sim_block ?_
 refine yL1 [4,5,19,20,21,22,23,24,25,26,44] 19 h fun σ ds w next h=>zs<|zr<|yb h fun _ w h=>zn<|zk<|zs<|yC h (fun h=>?_) fun h=>?_
 · refine sim_skip<|zk<|zs<|sim_block<|zs<|zr<|zm<|yv h fun _ w h=>yv h fun _ w h=>yv h fun _ w h=>yv h fun _ w h=>yu h fun w h=>yu h fun w h=>zn<|zk ?_
   refine zs<|zr<|yv h fun _ w h=>yv h fun _ w h=>yc h c72 fun _ w h=>zn<|zk<|sim_block<|sim_range2 [.exit 0] h rfl (fun l4 t27 t28 w Kr4 Xr4 Qr4 h=>?_) (fun ds w h=>?_) (fun c ds w h=>?_) (fun ch ds w h=>outQ_of rfl h)
   · refine zs<|zr<|zm<|zn<|zk<|zr<|zm<|zn<|zk ?_
     obtain ⟨hr,h⟩:=h
     refine ⟨rfl,hr,fun w hb=>?_⟩
     have h:=h w hb
     refine sim_block<|zs<|zr<|yv h fun _ w h=>yv h fun _ w h=>zm<|zm<|yc h c73 fun _ w h=>yu h fun w h=>zn<|zk<|zs<|zr<|yv h fun _ w h=>zn ?_
     refine zk<|yC h (fun h=>?_) fun h=>?_
     · refine zs<|zr<|yv h fun _ w h=>zm<|yB h fun _ w h=>yu h fun w h=>zn<|zk<|zs<|zs<|zr<|zm<|yv h fun _ w h=>yv h fun _ w h=>yx h fun _ w h=>?_
       refine yb h fun _ w h=>zn<|zk<|yJ0 [43] h (fun _ _ hkK5 h=>?_) fun σ w h=>?_
       · refine yC h (fun h=>?_) fun h=>?_
         · refine zr<|yv h fun _ w h=>yu h fun w h=>zn<|zk ?_
           exact zt hkK5 h
         refine sim_skip<|zk ?_
         exact zt hkK5 h
       exact zk<|sim_exit<|sim_block_miss rfl<|⟨rfl,0,rfl,h⟩
     exact sim_skip<|sim_block_normal<|⟨rfl,h⟩
   · exact sim_block_normal<|sim_block_normal<|zk<|zr<|yb h fun _ w h=>zm<|zn<|zk<|h
   rcases c with _ | c
   · refine ⟨_,rfl,.inr ⟨_,rfl,?_⟩⟩
     refine sim_block_miss rfl<|sim_block_miss rfl<|sim_then_exit<|sim_then_exit<|sim_block_hit<|zk<|zs<|yh [45,46] h fun C hC h=>ye 0 hC h fun _ h=>?_
     refine ye 1 hC h fun _ h=>?_
     refine yo 2 ?_
     refine yu h fun w h=>zn ?_
     obtain ⟨hC,h⟩:=h
     refine ⟨hC,?_⟩
     refine yq 3 1 ?_
     refine yu h fun w h=>zn ?_
     obtain ⟨C7,hC,h⟩:=h
     refine ⟨C7,hC,?_⟩
     exact yz<|zk<|sim_ret<|bodyM_ret rfl h
   exact h.elim
 refine sim_exit<|sim_then_exit<|sim_then_exit<|sim_block_hit<|zk<|zs<|yh [45,46] h fun C hC h=>ye 0 hC h fun _ h=>?_
 refine ye 1 hC h fun _ h=>?_
 refine yo 2 ?_
 refine yu h fun w h=>zn ?_
 obtain ⟨hC,h⟩:=h
 refine ⟨hC,?_⟩
 refine yq 3 1 ?_
 refine yu h fun w h=>zn ?_
 obtain ⟨C9,hC,h⟩:=h
 refine ⟨C9,hC,?_⟩
 exact yz<|zk<|sim_ret<|bodyM_ret rfl h
def n40c1 (t5 t13:Value) (C1:World→Prop) (R:RT) (w:World):Prop :=
 qN Pg C1 (nilN t5) fun t14 =>
 qV Pg C1 (Instr.fieldAt 61 t14 1) fun t15 =>
 opU Pg (Instr.storeAt 32 t15 t13) (panK R) w fun w =>
 turnK w fun C2 w =>
 R (.returned (.tuple #[])) w
def n40c2 (t2 t3:Value) (C1:World→Prop) (R:RT) (w:World):Prop :=
 qV Pg C1 (Instr.fieldAt 96 t2 0) fun t4 =>
 qV Pg C1 (Instr.loadAt 27 t4) fun t5 =>
 qV Pg C1 (Instr.fieldAt 96 t2 0) fun t6 =>
 qV Pg C1 (Instr.loadAt 27 t6) fun t7 =>
 qN Pg C1 (nilN t7) fun t8 =>
 qV Pg C1 (Instr.fieldAt 61 t8 1) fun t9 =>
 qV Pg C1 (Instr.loadAt 32 t9) fun t10 =>
 qV Pg C1 (Instr.loadAt 36 t3) fun t11 =>
 opV Pg (Instr.buildSlice 32 1 #[(0,t11)]) (panK R) w fun t12 w =>
 C1 w∧(
 opV Pg (Builtin.append_ #[32,32] 32 #[t10,t12]) (panK R) w fun t13 w =>
 C1 w∧(
 n40c1 t5 t13 C1 R w))
def n40 (t0 t1:Value) (R:RT) (w:World):Prop :=
 opV Pg (Instr.box 96 t0) (panK R) w fun t2 w =>
 opV Pg (Instr.box 36 t1) (panK R) w fun t3 w =>
 drawK w fun C1 w =>
 n40c2 t2 t3 C1 R w
theorem n40s {t0 t1:Value} {R:RT} {w:World} (h:n40 t0 t1 R w):Calls Pg 40 #[t0,t1] w R:=by
 refine yD Tryz.func40 ?_
 refine zs<|zr<|yv h fun _ w h=>yv h fun _ w h=>zn<|zk<|yh [4,5,6,7,8,9,10,11,12,13,14,15] h fun C hC h=>ye 0 hC h fun _ h=>?_
 refine ye 1 hC h fun _ h=>?_
 refine ye 2 hC h fun _ h=>?_
 refine ye 3 hC h fun _ h=>?_
 refine yn 4 hC h fun _ h=>?_
 refine ye 5 hC h fun _ h=>?_
 refine ye 6 hC h fun _ h=>?_
 refine ye 7 hC h fun _ h=>?_
 refine yo 8 ?_
 refine yS h fun _ w h=>zn ?_
 obtain ⟨hC,h⟩:=h
 refine ⟨hC,?_⟩
 refine yo 9 ?_
 refine yx h fun _ w h=>zn ?_
 obtain ⟨hC,h⟩:=h
 refine ⟨hC,?_⟩
 refine yn 10 hC h fun _ h=>?_
 refine ye 11 hC h fun _ h=>?_
 refine yq 12 2 ?_
 refine yu h fun w h=>zn ?_
 obtain ⟨C2,hC,h⟩:=h
 refine ⟨C2,hC,?_⟩
 exact yz<|body_normal<|body_ret0 rfl h
def n39 (t0:Value) (R:RT) (w:World):Prop :=
 opV Pg (Instr.alloc 36 true (.tuple #[])) (panK R) w fun t2 w =>
 opV Pg (Instr.build 36 #[(0,t0),(1,(.int .i64 (-1))),(2,(.int .i64 (-1))),(3,(.int .i64 (-1))),(4,(.int .i64 (-1))),(5,(.int .i64 (-1)))]) (panK R) w fun t4 w =>
 opU Pg (Instr.storeAt 36 t2 t4) (panK R) w fun w =>
 qW Pg 36 t2 w fun r0 =>
 R (.returned r0) w
theorem n39s {t0:Value} {R:RT} {w:World} (h:n39 t0 R w):Calls Pg 41 #[t0] w R:=by
 refine yD Tryz.func41 ?_
 exact zs<|zr<|yv h fun _ w h=>zn<|zk<|zs<|zr<|zm<|yB h fun _ w h=>yu h fun w h=>zn<|zk<|sim_ret<|body_retC rfl rfl h
def n47c1 (t1 t6 t13:Value) (next1:KV) (R:RT) (w:World):Prop :=
 opV Pg (Instr.indexAt 80 t1 t13) (panK R) w fun t15 w =>
 opV Pg (Instr.loadAt 9 t15) (panK R) w fun t16 w =>
 opV Pg (Instr.loadAt 140 t6) (panK R) w fun t17 w =>
 callV Pg t17 #[t16] (panK R) w fun t19 w =>
 opV Pg (binS .add 3 true t13 (.int .i64 1)) (panK R) w fun t20 w =>
 next1 t20 w
def n47c2 (t1 t5 t6 t12 t13:Value) (next1:KV) (R:RT) (w:World):Prop :=
 opV Pg (binS .lss 3 false t13 t12) (panK R) w fun t14 w =>
 condP t14 (
 n47c1 t1 t6 t13 next1 R w) (
 opV Pg (Instr.loadAt 99 t5) (panK R) w fun t21 w =>
 R (.returned t21) w)
def n47 (t0 t1:Value) (R:RT) (w:World):Prop :=
 opV Pg (Instr.box 24 t0) (panK R) w fun t2 w =>
 opV Pg (Instr.makeMap 99 none) (panK R) w fun t9 w =>
 opV Pg (Instr.alloc 99 true (.tuple #[])) (panK R) w fun t5 w =>
 opU Pg (Instr.storeAt 99 t5 t9) (panK R) w fun w =>
 opV Pg (Instr.alloc 140 true (.tuple #[])) (panK R) w fun t6 w =>
 opV Pg (Instr.makeFunc (.func 74) #[] #[t5,t2,t6]) (panK R) w fun t10 w =>
 opU Pg (Instr.storeAt 140 t6 t10) (panK R) w fun w =>
 opV Pg (Builtin.len_ #[80] 3 #[t1]) (panK R) w fun t12 w =>
 loop1 (fun t13 w next1 =>
 n47c2 t1 t5 t6 t12 t13 next1 R w) (.int .i64 0) w
theorem n47s {t0 t1:Value} {R:RT} {w:World} (h:n47 t0 t1 R w):Calls Pg 42 #[t0,t1] w R:=by
 refine yD Tryz.func42 ?_
 refine zs<|zr<|yv h fun _ w h=>zm<|zn<|zk<|zs<|zr<|yv h fun _ w h=>yv h fun _ w h=>yu h fun w h=>zn<|zk<|zs<|zr ?_
 refine yv h fun _ w h=>zn<|zk<|zs<|zr<|yF h fun _ w h=>yu h fun w h=>zn<|zk<|zs<|zs<|zr<|zm<|yx h fun _ w h=>zm ?_
 refine zn<|zk<|sim_block<|yl1 [8,13,14,15,16,17,18,19,20] 13 h fun σ w next h=>zs<|zr<|yb h fun _ w h=>zn<|zk<|zs<|yC h (fun h=>?_) fun h=>?_
 · refine sim_skip<|zk<|zs<|sim_block<|zs<|zr<|yv h fun _ w h=>yv h fun _ w h=>zm<|zn<|zk<|zr<|yv h fun _ w h=>zm<|yV h fun _ w h=>?_
   exact zn<|sim_block_normal<|zk<|zr<|yb h fun _ w h=>zm<|zn<|zk<|⟨rfl,h⟩
 exact sim_exit<|sim_then_exit<|sim_then_exit<|sim_block_hit<|zk<|zs<|zr<|yv h fun _ w h=>zm<|zn<|zk<|sim_ret<|body_ret1 rfl rfl h
def n45c1 (t2 t3 t4 t10:Value) (R:RT) (w:World):Prop :=
 opV Pg (Instr.alloc 36 true (.tuple #[])) (panK R) w fun t8 w =>
 opU Pg (Instr.storeAt 36 t8 t10) (panK R) w fun w =>
 opV Pg (Instr.fieldAt 96 t4 1) (panK R) w fun t11 w =>
 opV Pg (Instr.loadAt 3 t11) (panK R) w fun t12 w =>
 opV Pg (Instr.fieldAt 36 t8 1) (panK R) w fun t15 w =>
 opU Pg (Instr.storeAt 3 t15 t12) (panK R) w fun w =>
 opV Pg (Instr.fieldAt 36 t8 2) (panK R) w fun t16 w =>
 opU Pg (Instr.storeAt 3 t16 t2) (panK R) w fun w =>
 opV Pg (Instr.fieldAt 36 t8 5) (panK R) w fun t17 w =>
 opU Pg (Instr.storeAt 3 t17 t3) (panK R) w fun w =>
 opV Pg (Instr.loadAt 96 t4) (panK R) w fun t18 w =>
 opV Pg (Instr.loadAt 36 t8) (panK R) w fun t19 w =>
 callK Pg 40 #[t18,t19] (panK R) w fun t20 w =>
 R (.returned (.tuple #[])) w
def n45 (t0 t1 t2 t3:Value) (R:RT) (w:World):Prop :=
 opV Pg (Instr.box 96 t0) (panK R) w fun t4 w =>
 callK Pg 41 #[t1] (panK R) w fun t10 w =>
 n45c1 t2 t3 t4 t10 R w
theorem n45s {t0 t1 t2 t3:Value} {R:RT} {w:World} (h:n45 t0 t1 t2 t3 R w):Calls Pg 43 #[t0,t1,t2,t3] w R:=by
 refine yD Tryz.func43 ?_
 refine zs<|zr<|yv h fun _ w h=>zn<|zk<|zs<|zr<|zm<|yc h c41 fun _ w h=>yv h fun _ w h=>yu h fun w h=>zn<|zk<|zs<|zr ?_
 refine yv h fun _ w h=>yv h fun _ w h=>zm<|zm<|yv h fun _ w h=>yu h fun w h=>yv h fun _ w h=>yu h fun w h=>yv h fun _ w h=>yu h fun w h=>zn<|zk<|zr<|yv h fun _ w h=>yv h fun _ w h=>?_
 exact yc h c40 fun _ w h=>zn<|body_normal<|body_ret0 rfl h
def n43c1 (t1 t3 t5:Value) (C1:World→Prop) (R:RT) (w:World):Prop :=
 qV Pg C1 (Instr.loadAt 96 t3) fun t6 =>
 qV Pg C1 (Instr.fieldAt 96 t3 0) fun t8 =>
 qV Pg C1 (Instr.loadAt 27 t8) fun t9 =>
 qN Pg C1 (nilN t9) fun t10 =>
 qV Pg C1 (Instr.fieldAt 61 t10 2) fun t11 =>
 qV Pg C1 (Instr.loadAt 59 t11) fun t12 =>
 qV Pg C1 (Instr.fieldAt 71 t5 8) fun t13 =>
 qV Pg C1 (Instr.loadAt 9 t13) fun t14 =>
 qV Pg C1 (Instr.lookup 59 t12 t14 false) fun t15 =>
 callK Pg 43 #[t6,(.int .i64 5),t1,t15] (panK R) w fun t16 w =>
 C1 w∧(
 R (.returned (.tuple #[])) w)
def n43 (t0 t1 t2:Value) (R:RT) (w:World):Prop :=
 opV Pg (Instr.box 96 t0) (panK R) w fun t3 w =>
 opV Pg (Instr.box 71 t2) (panK R) w fun t5 w =>
 drawK w fun C1 w =>
 n43c1 t1 t3 t5 C1 R w
theorem n43s {t0 t1 t2:Value} {R:RT} {w:World} (h:n43 t0 t1 t2 R w):Calls Pg 44 #[t0,t1,t2] w R:=by
 refine yD Tryz.func44 ?_
 refine zs<|zr<|yv h fun _ w h=>yv h fun _ w h=>zn<|zk<|yh [6,7,8,9,10,11,12,13,14,15,16] h fun C hC h=>ye 0 hC h fun _ h=>?_
 refine yw 1 hC ?_
 refine ye 2 hC h fun _ h=>?_
 refine ye 3 hC h fun _ h=>?_
 refine yn 4 hC h fun _ h=>?_
 refine ye 5 hC h fun _ h=>?_
 refine ye 6 hC h fun _ h=>?_
 refine ye 7 hC h fun _ h=>?_
 refine ye 8 hC h fun _ h=>?_
 refine ye 9 hC h fun _ h=>?_
 refine yo 10 ?_
 refine yc h c43 fun _ w h=>zn ?_
 obtain ⟨hC,h⟩:=h
 refine ⟨hC,?_⟩
 exact yz<|body_normal<|body_ret0 rfl h
def n42c1 (t1 t3 t5:Value) (C1:World→Prop) (R:RT) (w:World):Prop :=
 qV Pg C1 (Instr.loadAt 96 t3) fun t6 =>
 qV Pg C1 (Instr.fieldAt 96 t3 0) fun t8 =>
 qV Pg C1 (Instr.loadAt 27 t8) fun t9 =>
 qN Pg C1 (nilN t9) fun t10 =>
 qV Pg C1 (Instr.fieldAt 61 t10 2) fun t11 =>
 qV Pg C1 (Instr.loadAt 59 t11) fun t12 =>
 qV Pg C1 (Instr.fieldAt 71 t5 8) fun t13 =>
 qV Pg C1 (Instr.loadAt 9 t13) fun t14 =>
 qV Pg C1 (Instr.lookup 59 t12 t14 false) fun t15 =>
 callK Pg 43 #[t6,(.int .i64 6),t1,t15] (panK R) w fun t16 w =>
 C1 w∧(
 R (.returned (.tuple #[])) w)
def n42 (t0 t1 t2:Value) (R:RT) (w:World):Prop :=
 opV Pg (Instr.box 96 t0) (panK R) w fun t3 w =>
 opV Pg (Instr.box 71 t2) (panK R) w fun t5 w =>
 drawK w fun C1 w =>
 n42c1 t1 t3 t5 C1 R w
theorem n42s {t0 t1 t2:Value} {R:RT} {w:World} (h:n42 t0 t1 t2 R w):Calls Pg 45 #[t0,t1,t2] w R:=by
 refine yD Tryz.func45 ?_
 refine zs<|zr<|yv h fun _ w h=>yv h fun _ w h=>zn<|zk<|yh [6,7,8,9,10,11,12,13,14,15,16] h fun C hC h=>ye 0 hC h fun _ h=>?_
 refine yw 1 hC ?_
 refine ye 2 hC h fun _ h=>?_
 refine ye 3 hC h fun _ h=>?_
 refine yn 4 hC h fun _ h=>?_
 refine ye 5 hC h fun _ h=>?_
 refine ye 6 hC h fun _ h=>?_
 refine ye 7 hC h fun _ h=>?_
 refine ye 8 hC h fun _ h=>?_
 refine ye 9 hC h fun _ h=>?_
 refine yo 10 ?_
 refine yc h c43 fun _ w h=>zn ?_
 obtain ⟨hC,h⟩:=h
 refine ⟨hC,?_⟩
 exact yz<|body_normal<|body_ret0 rfl h
def n46c1 (t1 t3 t5:Value) (C1:World→Prop) (R:RT) (w:World):Prop :=
 qV Pg C1 (Instr.loadAt 96 t3) fun t6 =>
 qV Pg C1 (Instr.fieldAt 96 t3 0) fun t8 =>
 qV Pg C1 (Instr.loadAt 27 t8) fun t9 =>
 qN Pg C1 (nilN t9) fun t10 =>
 qV Pg C1 (Instr.fieldAt 61 t10 2) fun t11 =>
 qV Pg C1 (Instr.loadAt 59 t11) fun t12 =>
 qV Pg C1 (Instr.fieldAt 71 t5 8) fun t13 =>
 qV Pg C1 (Instr.loadAt 9 t13) fun t14 =>
 qV Pg C1 (Instr.lookup 59 t12 t14 false) fun t15 =>
 callK Pg 43 #[t6,(.int .i64 9),t1,t15] (panK R) w fun t16 w =>
 C1 w∧(
 R (.returned (.tuple #[])) w)
def n46 (t0 t1 t2:Value) (R:RT) (w:World):Prop :=
 opV Pg (Instr.box 96 t0) (panK R) w fun t3 w =>
 opV Pg (Instr.box 71 t2) (panK R) w fun t5 w =>
 drawK w fun C1 w =>
 n46c1 t1 t3 t5 C1 R w
theorem n46s {t0 t1 t2:Value} {R:RT} {w:World} (h:n46 t0 t1 t2 R w):Calls Pg 46 #[t0,t1,t2] w R:=by
 refine yD Tryz.func46 ?_
 refine zs<|zr<|yv h fun _ w h=>yv h fun _ w h=>zn<|zk<|yh [6,7,8,9,10,11,12,13,14,15,16] h fun C hC h=>ye 0 hC h fun _ h=>?_
 refine yw 1 hC ?_
 refine ye 2 hC h fun _ h=>?_
 refine ye 3 hC h fun _ h=>?_
 refine yn 4 hC h fun _ h=>?_
 refine ye 5 hC h fun _ h=>?_
 refine ye 6 hC h fun _ h=>?_
 refine ye 7 hC h fun _ h=>?_
 refine ye 8 hC h fun _ h=>?_
 refine ye 9 hC h fun _ h=>?_
 refine yo 10 ?_
 refine yc h c43 fun _ w h=>zn ?_
 obtain ⟨hC,h⟩:=h
 refine ⟨hC,?_⟩
 exact yz<|body_normal<|body_ret0 rfl h
def n41c1 (t3 t14:Value) (C3:World→Prop) (next1:KV) (R:RT) (w:World):Prop :=
 qV Pg C3 (Instr.fieldAt 96 t3 0) fun t30 =>
 qV Pg C3 (Instr.loadAt 27 t30) fun t31 =>
 qN Pg C3 (nilN t31) fun t32 =>
 qV Pg C3 (Instr.fieldAt 61 t32 1) fun t33 =>
 qV Pg C3 (Instr.loadAt 32 t33) fun t34 =>
 qV Pg C3 (Instr.fieldAt 96 t3 0) fun t35 =>
 qV Pg C3 (Instr.loadAt 27 t35) fun t36 =>
 qN Pg C3 (nilN t36) fun t37 =>
 qV Pg C3 (Instr.fieldAt 61 t37 1) fun t38 =>
 qV Pg C3 (Instr.loadAt 32 t38) fun t39 =>
 qV Pg C3 (Builtin.len_ #[32] 3 #[t39]) fun t40 =>
 qV Pg C3 (binS .sub 3 true t40 (.int .i64 1)) fun t41 =>
 qV Pg C3 (Instr.indexAt 32 t34 t41) fun t43 =>
 qV Pg C3 (Instr.fieldAt 36 t43 4) fun t44 =>
 opU Pg (Instr.storeAt 3 t44 t14) (panK R) w fun w =>
 turnK w fun C4 w =>
 opV Pg (binS .add 3 true t14 (.int .i64 1)) (panK R) w fun t45 w =>
 next1 t45 w
def n41c2 (t1 t3 t7 t14:Value) (C2:World→Prop) (next1:KV) (R:RT) (w:World):Prop :=
 qV Pg C2 (Instr.loadAt 96 t3) fun t19 =>
 qV Pg C2 (Instr.fieldAt 96 t3 0) fun t21 =>
 qV Pg C2 (Instr.loadAt 27 t21) fun t22 =>
 qN Pg C2 (nilN t22) fun t23 =>
 qV Pg C2 (Instr.fieldAt 61 t23 2) fun t24 =>
 qV Pg C2 (Instr.loadAt 59 t24) fun t25 =>
 qV Pg C2 (Instr.fieldAt 85 t7 2) fun t26 =>
 qV Pg C2 (Instr.loadAt 9 t26) fun t27 =>
 qV Pg C2 (Instr.lookup 59 t25 t27 false) fun t28 =>
 callK Pg 43 #[t19,(.int .i64 8),t1,t28] (panK R) w fun t29 w =>
 C2 w∧(
 drawK w fun C3 w =>
 n41c1 t3 t14 C3 next1 R w)
def n41c3 (t1 t3 t12 t14:Value) (next1:KV) (R:RT) (w:World):Prop :=
 opV Pg (Instr.indexAt 69 t12 t14) (panK R) w fun t17 w =>
 opV Pg (Instr.loadAt 85 t17) (panK R) w fun t18 w =>
 opV Pg (Instr.alloc 85 true (.tuple #[])) (panK R) w fun t7 w =>
 opU Pg (Instr.storeAt 85 t7 t18) (panK R) w fun w =>
 drawK w fun C2 w =>
 n41c2 t1 t3 t7 t14 C2 next1 R w
def n41c4 (t1 t3 t5:Value) (R:RT) (w:World):Prop :=
 opV Pg (Instr.fieldAt 71 t5 11) (panK R) w fun t11 w =>
 opV Pg (Instr.loadAt 69 t11) (panK R) w fun t12 w =>
 opV Pg (Builtin.len_ #[69] 3 #[t12]) (panK R) w fun t13 w =>
 loop1 (fun t14 w next1 =>
 opV Pg (binS .lss 3 false t14 t13) (panK R) w fun t15 w =>
 condP t15 (
 n41c3 t1 t3 t12 t14 next1 R w) (
 R (.returned (.tuple #[])) w)) (.int .i64 0) w
def n41 (t0 t1 t2:Value) (R:RT) (w:World):Prop :=
 opV Pg (Instr.box 96 t0) (panK R) w fun t3 w =>
 opV Pg (Instr.box 71 t2) (panK R) w fun t5 w =>
 opV Pg (Instr.loadAt 96 t3) (panK R) w fun t8 w =>
 callK Pg 43 #[t8,(.int .i64 7),t1,(.int .i64 (-1))] (panK R) w fun t10 w =>
 n41c4 t1 t3 t5 R w
theorem n41s {t0 t1 t2:Value} {R:RT} {w:World} (h:n41 t0 t1 t2 R w):Calls Pg 47 #[t0,t1,t2] w R:=by
 refine yD Tryz.func47 ?_
 refine zs<|zr<|yv h fun _ w h=>yv h fun _ w h=>zn<|zk<|zs<|zr<|yv h fun _ w h=>zm<|yc h c43 fun _ w h=>zn<|zk<|zs<|zr ?_
 refine yv h fun _ w h=>yv h fun _ w h=>yx h fun _ w h=>zm<|zn<|zk<|sim_block<|yl1 [6,7,14,15,16,17,18,19,20,21,22,23,24,25,26,27,28,29,30,31,32,33,34,35,36,37,38,39,40,41,42,43,44,45] 14 h fun σ w next h=>zs<|zr<|yb h fun _ w h=>zn<|zk<|zs<|yC h (fun h=>?_) fun h=>?_
 · refine sim_skip<|zk<|zs<|sim_block<|zs<|zr<|zm<|yv h fun _ w h=>yv h fun _ w h=>yv h fun _ w h=>zm<|yu h fun w h=>zn<|zk<|zs ?_
   refine yh [19,20,21,22,23,24,25,26,27,28,29] h fun C hC h=>ye 0 hC h fun _ h=>?_
   refine yw 1 hC ?_
   refine ye 2 hC h fun _ h=>?_
   refine ye 3 hC h fun _ h=>?_
   refine yn 4 hC h fun _ h=>?_
   refine ye 5 hC h fun _ h=>?_
   refine ye 6 hC h fun _ h=>?_
   refine ye 7 hC h fun _ h=>?_
   refine ye 8 hC h fun _ h=>?_
   refine ye 9 hC h fun _ h=>?_
   refine yo 10 ?_
   refine yc h c43 fun _ w h=>zn ?_
   obtain ⟨hC,h⟩:=h
   refine ⟨hC,?_⟩
   refine yz<|zk<|yh [30,31,32,33,34,35,36,37,38,39,40,41,42,43,44] h fun C hC h=>ye 0 hC h fun _ h=>?_
   refine ye 1 hC h fun _ h=>?_
   refine yn 2 hC h fun _ h=>?_
   refine ye 3 hC h fun _ h=>?_
   refine ye 4 hC h fun _ h=>?_
   refine ye 5 hC h fun _ h=>?_
   refine ye 6 hC h fun _ h=>?_
   refine yn 7 hC h fun _ h=>?_
   refine ye 8 hC h fun _ h=>?_
   refine ye 9 hC h fun _ h=>?_
   refine ye 10 hC h fun _ h=>?_
   refine ye 11 hC h fun _ h=>?_
   refine yw 12 hC ?_
   refine ye 13 hC h fun _ h=>?_
   refine ye 14 hC h fun _ h=>?_
   refine yq 15 2 ?_
   refine yu h fun w h=>zn ?_
   obtain ⟨C4,hC,h⟩:=h
   refine ⟨C4,hC,?_⟩
   exact yz<|sim_block_normal<|zk<|zr<|yb h fun _ w h=>zm<|zn<|zk<|⟨rfl,h⟩
 exact sim_exit<|sim_then_exit<|sim_then_exit<|sim_block_hit<|body_normal<|body_ret0 rfl h
theorem ContainsFunc_Term_ret (w0:World) (v:Value) (l:List TermD) (g:FuncId) (caps:Array Value) (p:TermD→Bool) (hs:TermsOf w0 v l) (hg:Callable Pg g) (hc:Tests w0 (fun _ v x=>v=termVal x) g caps p l) :
 Ret Pg 99 #[v,.func (.func g) #[] caps] w0 fun r w'=>r = .bool (l.any p)∧Ext w0 w':=by
 refine n124s (R:=retR _) ?_;unfold n124
 refine zcr (IndexFunc_Term_ret _ _ l g caps p hs hg hc) fun w1 e1=>?_
 simp (disch:=try exact DI) only [↓PR,QR,simprocAttr,Sw.joinK_eq]
 exact ⟨by rw [idx_neg],e1⟩
theorem uses1_ret (w0:World) (t:TermD) (pb:Nat) (s:ByteArray) (hp:w0.cell? ⟨pb,0,none⟩=some (.string s)):Ret Pg 100 #[termVal t,.pointer (some ⟨pb,0,none⟩)] w0 fun r w'=>r = .bool (decide (t.field=s))∧Ext w0 w':=by
 have hb:=World.block_lt_of_cell? w0 _ hp
 simp only at hb
 unfold termVal
 refine n51s (R:=retR _) ?_;unfold n51
 simp (disch:=try exact DI) only [↓PR,QR,simprocAttr,hp]
 exact ⟨by first | trivial | rfl,ee⟩
theorem usesS_ret (w0:World) (v:Value) (f:FieldD) (pb:Nat) (s:ByteArray) (hf:FieldVal w0 v f) (hp:w0.cell? ⟨pb,0,none⟩=some (.string s)):Ret Pg 98 #[v,.pointer (some ⟨pb,0,none⟩)] w0 fun r w'=>r = .bool (usesB1 s f)∧Ext w0 w':=by
 obtain ⟨tv,cv,rfl,hT,hC,ht,hc⟩:=hf.op
 have hb:=World.block_lt_of_cell? w0 _ hp
 simp only at hb
 refine n50s (R:=retR _) ?_;unfold n50
 rw [op_boxA]
 have o1:=heap_new w0 (fieldCells f tv cv).toArray 71
 have eW:Ext w0 (w0.alloc (.cells (fieldCells f tv cv).toArray 71)):=ee
 generalize (w0.alloc (.cells (fieldCells f tv cv).toArray 71))=W at o1 eW ⊢
 have hp1:=eW.cell hp
 have rest:∀ w,Ext W w→Ret Pg 99 #[tv,.func (.func 100) #[] #[.pointer (some ⟨pb,0,none⟩)]] w fun r w'=>r = .bool (f.terms.any fun t=>decide (t.field=s))∧Ext w w':=by
  intro w e
  refine ContainsFunc_Term_ret _ _ f.terms _ _ (fun t=>decide (t.field=s)) (hT.ext (eW.trans e)) c100 ?_
  rintro w' _ t ht e' rfl
  exact uses1_ret w' t pb s ((e.trans e').cell hp1)
 unfold usesB1
 cases h9:decide (f.kind=9) with
 | true =>
  have hk:(f.kind == 9)=true:=by simpa using h9
  cases hs:decide (f.tag=s) with
  | true =>
   simp (disch:=try exact DI) only [↓PR,QR,simprocAttr,(cells_of_heap o1).1,hk,hp1,hs,↓n50c1]
   exact ⟨trivial,eW⟩
  | false =>
   simp (disch:=try exact DI) only [↓PR,QR,simprocAttr,(cells_of_heap o1).1,hk,hp1,hs,↓n50c1]
   refine zcr (rest W (Ext.refl _)) fun w1 e1=>?_
   simp (disch:=try exact DI) only [↓PR,QR,simprocAttr]
   exact ⟨by simp,eW.trans e1⟩
 | false =>
  have hk:(f.kind == 9)=false:=by simpa using h9
  simp (disch:=try exact DI) only [↓PR,QR,simprocAttr,(cells_of_heap o1).1,hk,↓n50c1]
  refine zcr (rest W (Ext.refl _)) fun w1 e1=>?_
  simp (disch:=try exact DI) only [↓PR,QR,simprocAttr]
  exact ⟨by simp,eW.trans e1⟩
theorem uses_ret (w0:World) (v:Value) (m:MsgD) (s:ByteArray) (hm:MsgVal w0 v m):Ret Pg 77 #[v,.string s] w0 fun r w'=>r = .bool (usedN m.fields s)∧Ext w0 w':=by
 obtain ⟨fv,rfl,hF⟩:=hm
 have hf1:=SliceOf.oneCell hF
 refine n49s (R:=retR _) ?_;unfold n49
 simp (disch:=try exact DI) only [↓PR,QR,simprocAttr]
 refine callK_ret (ContainsFunc_Field_ret _ _ m.fields _ _ (usesB1 s) (hF.ext ee) c98 ?_) ?_
 · intro w v f hf e hv
   exact usesS_ret w v f _ s hv (e.cell (by simp (disch:=try exact DI) only [↓PR,QR,simprocAttr]))
 rintro _ w1 ⟨rfl,e1⟩
 simp (disch:=try exact DI) only [↓PR,QR,simprocAttr]
 exact ⟨by first | trivial | rfl,ee⟩
theorem instruction_ret (w0:World) (c:Int):Ret Pg 41 #[.int .i64 c] w0 fun r w'=>r = .agg #[.int .i64 c,.int .i64 (-1),.int .i64 (-1),.int .i64 (-1),.int .i64 (-1),.int .i64 (-1)]∧Ext w0 w':=by
 refine n39s (R:=retR _) ?_;unfold n39
 simp (disch:=try exact DI) only [↓PR,QR,simprocAttr]
 exact ⟨by first | trivial | rfl,ee⟩
abbrev TI:TypeId:=36
abbrev progCells (d:DefD) (mc cv:Value) (rm gm:Nat):List Value:=[.string d.name,mc,.string d.start,cv,.map (some rm),.map (some gm)]
structure Cmp (X:World) (pb rm gm base:Nat) (d:DefD) (mc:Value) (w:World) (code:List InsD) (φ ψ:ByteArray→Option Int):Prop where
 ext:Ext X w
 lp:X.heap.size≤pb
 lr:X.heap.size≤rm
 lg:X.heap.size≤gm
 bp:pb < base
 br:rm < base
 bg:gm < base
 bw:base≤w.heap.size
 ne:pb≠rm∧pb≠gm∧rm≠gm
 obj:∃ cv,w.heap[pb]?=some (.cells (progCells d mc cv rm gm).toArray 61 (0,0))∧OwnE w base TI 6 insCells cv code
 routs:MapI w rm φ
 regs:MapI w gm ψ
def FrC (pb rm gm:Nat) (w w':World):Prop:=w.heap.size≤w'.heap.size∧∀ b o,w.heap[b]?=some o→b≠pb→b≠rm→b≠gm→(∀ cs,o ≠ .cells cs TI (0,0))→w'.heap[b]?=some o
section
variable {X w w' w'':World} {pb rm gm base:Nat} {d:DefD} {mc:Value} {code:List InsD} {φ ψ:ByteArray→Option Int}
theorem FrC.refl (pb rm gm:Nat) (w:World):FrC pb rm gm w w:=⟨Nat.le_refl _,fun _ _ h _ _ _ _=>h⟩
theorem FrC.of (e:Ext w w'):FrC pb rm gm w w':=⟨e.size,fun _ _ h _ _ _ _=>e.obj h⟩
theorem FrC.trans (h:FrC pb rm gm w w') (k:FrC pb rm gm w' w''):FrC pb rm gm w w'':=⟨Nat.le_trans h.1 k.1,fun b o hb h1 h2 h3 h4=>k.2 b o (h.2 b o hb h1 h2 h3 h4) h1 h2 h3 h4⟩
theorem FrC.ext (h:FrC pb rm gm w w') (e:Ext w' w''):FrC pb rm gm w w'':=h.trans (.of e)
theorem Cmp.go (h:Cmp X pb rm gm base d mc w code φ ψ) (e:Ext w w'):Cmp X pb rm gm base d mc w' code φ ψ:=by
 obtain ⟨cv,h1,h2⟩:=h.obj
 exact ⟨h.ext.trans e,h.lp,h.lr,h.lg,h.bp,h.br,h.bg,Nat.le_trans h.bw e.size,h.ne,⟨cv,e.obj h1,h2.ext e⟩,h.routs.ext e,h.regs.ext e⟩
theorem Cmp.other (h:Cmp X pb rm gm base d mc w code φ ψ) {b o:Nat} (hb:X.heap.size≤b) (hn:b≠pb) {cs:Array Value} {T:TypeId} (hc:w.heap[b]?=some (.cells cs T (0,0))) (hT:T≠TI) (v:Value):Cmp X pb rm gm base d mc (w.setCell ⟨b,o,none⟩ v) code φ ψ:=by
 obtain ⟨cv,h1,h2⟩:=h.obj
 refine ⟨h.ext.setCell (p:=⟨b,o,none⟩) hb v,h.lp,h.lr,h.lg,h.bp,h.br,h.bg,by rw [World.size_setCell];exact h.bw,h.ne,⟨cv,(Only.setCell w b o v pb (Ne.symm hn)).trans h1,?_⟩,h.routs.same (Only.setCell w b o v rm ?_),h.regs.same (Only.setCell w b o v gm ?_)⟩
 · refine ⟨h2.1,?_⟩
   rcases h2.2 with h3 | ⟨g,cap,cur,h3,h4,h5,h6⟩
   · exact .inl h3
   · refine .inr ⟨g,cap,cur,h3,h4,(Only.setCell w b o v g ?_).trans h5,h6⟩
     rintro rfl
     rw [hc] at h5
     injection h5 with h5
     injection h5 with _ h5
     exact hT h5
 · rintro rfl;obtain ⟨es,c,hr⟩:=h.routs.is;rw [hc] at hr;cases hr
 · rintro rfl;obtain ⟨es,c,hr⟩:=h.regs.is;rw [hc] at hr;cases hr
theorem append_ins {QP:List PanicEntry→World→Prop} {k:Value→World→Prop} {b:Nat} {v:Value} {l:List InsD} {x:InsD} (hown:OwnE w base TI 6 insCells v l) (hc:ElemAt w b 0 (insCells x)) (hb:base≤w.heap.size) (hl:l.length≤100000)
 (hk:∀ v' w',OwnE w' base TI 6 insCells v' (l++[x])→w.grownBy w' v.ownBlock→k v' w') :
 opV Pg (Builtin.append_ #[32,32] 32 #[v,.slice (some ⟨b,0,none⟩) 1 1]) QP w k:=by
 refine op_appendE (l':=[x]) Tryz.underlying32 ty36 rfl (by decide) (fun x=>rfl) (fun x hx u hu=>?_) hown (fun j x hx=>?_) hb (Nat.le_trans (Nat.mul_le_mul (show l.length+[x].length≤100001 by simp;omega) by36) (by decide)) (by simp;omega) hk
 · simp only [insCells,List.mem_cons,List.not_mem_nil,or_false] at hu
   rcases hu with rfl | rfl | rfl | rfl | rfl | rfl<;>rfl
 · cases j with
   | zero=>injection hx with hx;subst hx;rw [Nat.zero_mul,Nat.zero_add];exact hc
   | succ j=>cases hx
theorem add_ret (h:Cmp X pb rm gm base d mc w code φ ψ) (i:Int) (x:InsD) (hl:code.length≤100000):Ret Pg 40 #[.agg #[.pointer (some ⟨pb,0,none⟩),.int .i64 i],insVal x] w fun r w'=>r = .tuple #[]∧Cmp X pb rm gm base d mc w' (code++[x]) φ ψ∧FrC pb rm gm w w':=by
 refine n40s (R:=retR _) ?_;unfold n40
 rw [op_boxA,op_boxA]
 have o2:=heap_new w #[.pointer (some ⟨pb,0,none⟩),.int .i64 i] 96
 have e1:Ext w (w.alloc (.cells #[.pointer (some ⟨pb,0,none⟩),.int .i64 i] 96)):=ee
 generalize (w.alloc (.cells #[.pointer (some ⟨pb,0,none⟩),.int .i64 i] 96))=w1 at o2 e1 ⊢
 generalize hp2:w.heap.size=p2 at o2 ⊢
 have o3:=heap_new w1 (insCells x).toArray TI
 have e2:Ext w1 (w1.alloc (.cells (insCells x).toArray TI)):=ee
 have s1:=e1.size
 have l2:=(Array.getElem?_eq_some_iff.1 o2).1
 generalize hw2:(w1.alloc (.cells (insCells x).toArray TI))=w2 at o3 e2 ⊢
 have sw2:w2.heap.size=w1.heap.size+1:=by rw [← hw2,World.size_alloc]
 clear hw2
 generalize hp3:w1.heap.size=p3 at *
 obtain ⟨cv,hc0,hO0⟩:=h.obj
 have e12:=e1.trans e2
 have h2:=h.go e12
 have hc:=e12.obj hc0
 have hO:=hO0.ext e12
 have q2:=e2.obj o2
 have hcv:cv.oneCell'=true:=SliceOf.oneCell (hO.slice (E:=fun _ cs x=>cs=insCells x) (fun _=>rfl) (fun _ _=>rfl))
 obtain ⟨g,hgd⟩:∃ g,g=cv.ownBlock.getD w2.heap.size:=⟨_,rfl⟩
 have hown:∀ b,cv.ownBlock=some b→base≤b∧b < w.heap.size:=fun b hb=>hO0.lt b hb
 have hbw:=h2.bw
 have hbp:=h.bp
 have hg:base≤g∧(g < p2∨g=w2.heap.size):=by
  rw [hgd]
  cases hv:cv.ownBlock with
  | none=>exact ⟨hbw,.inr rfl⟩
  | some b=>have:=hown b hv;exact ⟨this.1,.inl (by show b < p2;omega)⟩
 have n2:p2≠g:=by omega
 have n3:p3≠g:=by omega
 have nb:pb≠g:=by omega
 have hq:∀ K:Value→Prop,qV Pg (KB w2 g g) (Instr.loadAt TI (.pointer (some ⟨p3,0,none⟩))) K=K (insVal x):=fun K=>qV_eqC fun w' hw=>run_of_op fun QP k=>op_load (ElemAt.loads (w:=w') (b:=p3) (o:=0) (cs:=insCells x) (fun j u hu=>KB.cell hw n3 n3 (by rw [Nat.zero_add,(cells_of_heap o3).1];simpa using hu)) ty36 rfl)
 refine drawK_introB (w1:=w2) g g (fun _ _ _ _=>rfl) ?_
 unfold n40c2
 simp (disch:=try exact DI) only [↓PR,QR,simprocAttr,(cells_of_heap q2).1,(cells_of_heap hc).1,↓hq]
 generalize hA':World.alloc (World.drew w2) _=Z
 have eZ:Ext w2 Z:=by rw [← hA'];exact ee
 have oZ:Z.heap[w2.heap.size]?=some (.cells (insCells x).toArray TI (0,0)):=by
  rw [← hA']
  have:=heap_new w2.drew (insCells x).toArray TI
  rw [World.size_drew] at this
  exact this
 clear hA'
 refine ⟨fun b hb _ _=>eZ.block b hb,?_⟩
 have s0:=eZ.size
 refine append_ins (hO.ext eZ) (fun j u hu=>by rw [Nat.zero_add,(cells_of_heap oZ).1];simpa using hu) (by omega) hl ?_
 intro v' w' hO' hg'
 refine ⟨fun b hb hbg _=>(hg'.block b (by omega) fun h=>hbg (by rw [hgd,← h];rfl)).trans (eZ.block b hb),?_⟩
 have far:∀ b,b < base→w'.heap[b]?=w2.heap[b]?:=fun b hb=>(hg'.block b (by omega) fun h=>by have:=hown _ h.symm;omega).trans (eZ.block b (by omega))
 have zb:=(far pb hbp).trans hc
 have e':Ext X w':=((h2.ext.trans eZ).grown hg' fun b hb=>by have:=hown b hb;have:=h.lp;omega)
 have s':=hg'.size
 have hv'1:v'.oneCell'=true:=SliceOf.oneCell (hO'.slice (E:=fun _ cs x=>cs=insCells x) (fun _=>rfl) (fun _ _=>rfl))
 unfold n40c1
 simp (disch:=try exact DI) only [↓PR,QR,simprocAttr,(cells_of_heap zb).1,(cells_of_heap zb).2]
 refine turnK_intro ?_
 have ho:=Only.setCell w' pb 3 v'
 have ub:(w'.setCell ⟨pb,3,none⟩ v').heap[pb]?=some (.cells (progCells d mc v' rm gm).toArray 61 (0,0)):=by simpa using heap_set (o:=3) zb v'
 refine ⟨_,rfl,rfl,⟨e'.setCell (p:=⟨pb,3,none⟩) h.lp _,h.lp,h.lr,h.lg,hbp,h.br,h.bg,by rw [World.size_setCell];omega,h.ne,⟨v',ub,(OwnR.only (OwnE.range hO') ho (.inr (.inl hbp))).1⟩,h2.routs.same ((ho rm (Ne.symm h.ne.1)).trans (far rm h.br)),h2.regs.same ((ho gm (Ne.symm h.ne.2.1)).trans (far gm h.bg))⟩,by rw [World.size_setCell];have:=e12.size;omega,fun b o hb h1 h3 h4 h5=>?_⟩
 refine (ho b h1).trans ((hg'.block b ?_ ?_).trans (eZ.obj (e12.obj hb)))
 · have:=(Array.getElem?_eq_some_iff.1 hb).1
   have:=e12.size
   omega
 · intro hbo
   rcases hO0.2 with ⟨h6,_⟩ | ⟨g',cap,cur,h6,_,h7,_⟩
   · rw [h6] at hbo;cases hbo
   · rw [h6] at hbo
     have:g'=b:=by injection hbo with hbo;exact hbo.symm
     subst this
     rw [hb] at h7
     injection h7 with h7
     exact h5 _ h7
end
end Go.Proofs.YtfdecdnmooaegaaGreatDoor
