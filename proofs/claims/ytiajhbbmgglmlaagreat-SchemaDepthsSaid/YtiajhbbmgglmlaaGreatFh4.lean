/-
  Lemmas for the claim.
-/
import Derived.Test.YtiajhbbmgglmlaaGreatFh3
set_option linter.all false
set_option maxHeartbeats 4000000
set_option maxRecDepth 100000
namespace Go.Proofs.YtiajhbbmgglmlaaGreat
open Sw
open Go.RowKit (intOf Below)
abbrev flawVal (a f c:Int):Value := .agg #[.int .i64 a,.int .i64 f,.int .i64 c]
def flawEntry (a f c:Int):PanicEntry:={ v := .iface 39 (flawVal a f c),recovered:=false }
def flwR (w:World) (a f c:Int):Ending→World→Prop:=fun e w'=>Ext w w'∧(c=0∧e = .returned (.tuple #[])∨c≠0∧e = .panicked [flawEntry a f c])
theorem callK_flw {f:FuncId} {args:Array Value} {QP:List PanicEntry→World→Prop} {w:World} {k:Value→World→Prop} {a fl c:Int} (h:Calls Pg f args w (flwR w a fl c)) (hk:∀ w',Ext w w'→c=0→k (.tuple #[]) w') (hp:∀ w',Ext w w'→c≠0→QP [flawEntry a fl c] w'):callK Pg f args QP w k :=
 callK_calls h (fun v w' h=>by rcases h with ⟨e,⟨h1,h2⟩ | ⟨_,h2⟩⟩<;>cases h2;exact hk w' e h1) (fun ch w' h=>by rcases h with ⟨e,⟨_,h2⟩ | ⟨h1,h2⟩⟩<;>cases h2;exact hp w' e h1) (fun w' h=>by rcases h with ⟨_,⟨_,h2⟩ | ⟨_,h2⟩⟩<;>cases h2)
theorem flwR_ret {w w':World} {a f c:Int} (e:Ext w w') (h:c=0):flwR w a f c (.returned (.tuple #[])) w':=⟨e,.inl ⟨h,rfl⟩⟩
theorem flwR_pan {w w':World} {a f c c':Int} (e:Ext w w') (h:c=c') (h0:c'≠0):panK (flwR w a f c) [flawEntry a f c'] w':=⟨e,.inr ⟨by rw [h];exact h0,by rw [h]⟩⟩
def orC (a b:Int):Int:=if a=0 then b else a
theorem orC_zero (b:Int):orC 0 b=b:=rfl
theorem orC_ne {a b:Int} (h:a≠0):orC a b=a:=by unfold orC;rw [if_neg h]
def needC (b:Bool) (c:Int):Int:=if b then 0 else c
structure Chk (w:World) (cb md ms:Nat) (deps:List (ByteArray×Value)) (strs:List (ByteArray×Value)) (at_ fld:Int) (fs:List FieldD):Prop where
 obj:∃ dn mv ds mn fv,w.heap[cb]?=some (.cells #[.string dn,mv,.string ds,.map (some md),.map (some ms),.int .i64 at_,.int .i64 fld,.string mn,fv] 65 (0,0))∧FieldsOf w fv fs
 mdeps:MapOf w md deps
 mstrs:MapOf w ms strs
 dint:∀ k v,lastOf deps k=some v→∃ n,v = .int .i64 n
 sbool:∀ k v,lastOf strs k=some v→∃ b,v = .bool b
def strB (strs:List (ByteArray×Value)) (s:ByteArray):Bool:=match lastOf strs s with
 | some (.bool b)=>b
 | _=>false
theorem Chk.strV {w:World} {cb md ms:Nat} {deps strs:List (ByteArray×Value)} {at_ fld:Int} {fs:List FieldD} (h:Chk w cb md ms deps strs at_ fld fs) (s:ByteArray):(lastOf strs s).getD (.bool false) = .bool (strB strs s):=by
 unfold strB
 cases hl:lastOf strs s with
 | none=>rfl
 | some v=>obtain ⟨b,rfl⟩:=h.sbool s v hl;rfl
theorem Chk.ext {w w':World} {cb md ms:Nat} {deps strs:List (ByteArray×Value)} {at_ fld:Int} {fs:List FieldD} (h:Chk w cb md ms deps strs at_ fld fs) (e:Ext w w'):Chk w' cb md ms deps strs at_ fld fs:=by
 obtain ⟨⟨dn,mv,ds,mn,fv,h1,h2⟩,h3,h4,h5,h6⟩:=h
 exact ⟨⟨dn,mv,ds,mn,fv,e.obj h1,h2.ext e⟩,h3.ext e,h4.ext e,h5,h6⟩
section
variable {w0:World} {cb md ms:Nat} {deps strs:List (ByteArray×Value)} {at_ fld:Int} {fs:List FieldD}
theorem need_flw (h:Chk w0 cb md ms deps strs at_ fld fs) (b:Bool) (c:Int) (hc:c≠0):Calls Pg 37 #[.pointer (some ⟨cb,0,none⟩),.bool b,.int .i64 c] w0 (flwR w0 at_ fld (needC b c)):=by
 obtain ⟨⟨dn,mv,ds,mn,fv,h1,h2⟩,h3,h4,h5,h6⟩:=h
 refine n54s ?_;unfold n54
 cases b with
 | true =>
  simp (disch:=try exact DI) only [↓PR,QR,Int.reduceBEq,Int.reduceBNe,Int.reduceLT,Int.reduceLE,Int.reduceGT,Int.reduceGE,Int.reduceNeg,↓n54c1]
  exact flwR_ret (Ext.refl _) rfl
 | false =>
  simp (disch:=try exact DI) only [↓PR,QR,Int.reduceBEq,Int.reduceBNe,Int.reduceLT,Int.reduceLE,Int.reduceGT,Int.reduceGE,Int.reduceNeg,↓n54c1]
  refine drawK_intro ?_
  simp (disch:=try exact DI) only [↓PR,QR,Int.reduceBEq,Int.reduceBNe,Int.reduceLT,Int.reduceLE,Int.reduceGT,Int.reduceGE,Int.reduceNeg,↓n54c1,(cells_of_heap h1).1]
  rw [op_panic]
  exact flwR_pan (Ext.refl _).drew rfl hc
theorem before_ret (h:Chk w0 cb md ms deps strs at_ fld fs) (i:Nat) (hi:fld=i) (hlt:i < fs.length):Ret Pg 68 #[.pointer (some ⟨cb,0,none⟩)] w0 fun r w'=>FieldsOf w' r (fs.take i)∧Ext w0 w':=by
 obtain ⟨⟨dn,mv,ds,mn,fv,h1,h2⟩,h3,h4,h5,h6⟩:=h
 obtain ⟨A,c,rfl,hlc,hcm,hlm,hel⟩:=SliceOf.open h2
 obtain ⟨x,hx⟩:=getElem?_lt hlt
 obtain ⟨b,o,_,rfl,_⟩:=hel i x hx
 subst hi
 refine n49s (R:=retR _) ?_;unfold n49
 refine drawK_intro ?_
 simp (disch:=try exact DI) only [↓PR,QR,Int.reduceBEq,Int.reduceBNe,Int.reduceLT,Int.reduceLE,Int.reduceGT,Int.reduceGE,Int.reduceNeg,↓n49c1,(cells_of_heap h1).1]
 rw [qV_of fun QP w' k=>op_sliceTo Tryz.underlying43 ty52 b o fs.length c .i64 i (by omega)]
 simp (disch:=try exact DI) only [↓PR,QR,Int.reduceBEq,Int.reduceBNe,Int.reduceLT,Int.reduceLE,Int.reduceGT,Int.reduceGE,Int.reduceNeg]
 refine ⟨?_,ee⟩
 have hlen:(fs.take i).length=i:=by rw [List.length_take];omega
 refine ⟨_,c,by rw [hlen],by rw [hlen];omega,hcm,fun _=>⟨b,o,rfl,fun k y hy=>?_⟩⟩
 rw [List.getElem?_take] at hy
 split at hy
 · obtain ⟨b',o',cs,hA,hl,hA2,hE⟩:=hel k y hy
   injection hA with hA
   injection hA with h5 h6
   subst h5 h6
   have e:Ext w0 (drew w0):=(Ext.refl w0).drew
   exact ⟨cs,hl,hA2.ext e,keptField _ _ _ _ e hE⟩
 · cases hy
theorem refer_flw (h:Chk w0 cb md ms deps strs at_ fld fs) (s:ByteArray):Calls Pg 94 #[.pointer (some ⟨cb,0,none⟩),.string s] w0 (flwR w0 at_ fld (needC (lastOf deps s).isSome 8)):=by
 have h':=h
 obtain ⟨⟨dn,mv,ds,mn,fv,h1,h2⟩,h3,h4,h5,h6⟩:=h
 refine n56s ?_;unfold n56
 simp (disch:=try exact DI) only [↓PR,QR,Int.reduceBEq,Int.reduceBNe,Int.reduceLT,Int.reduceLE,Int.reduceGT,Int.reduceGE,Int.reduceNeg,Sw.joinK_eq,(cells_of_heap h1).1]
 rw [op_lookupO Tryz.underlying62 Tryz.underlying9 ty3 h3]
 simp (disch:=try exact DI) only [↓PR,QR,Int.reduceBEq,Int.reduceBNe,Int.reduceLT,Int.reduceLE,Int.reduceGT,Int.reduceGE,Int.reduceNeg]
 refine callK_flw (need_flw h' _ 8 (by decide)) (fun w' e h0=>?_) (fun w' e h0=>?_)
 · exact flwR_ret e h0
 · exact flwR_pan e rfl h0
def withinC (high:Int):Int→List Int→Int
 | _,[]=>0
 | low,n::l=>orC (needC (decide (low≤n)&&decide (n≤high)) 7) (withinC high n l)
def IntsOf (w:World) (v:Value) (l:List Int):Prop:=SliceOf w 1 EInt v l
theorem ints1 {w:World} {p:Nat} (hp:p=w.heap.size) (a:Int) (T:TypeId):IntsOf (w.alloc (.cells #[.int .i64 a] T)) (.slice (some ⟨p,0,none⟩) 1 1) [a]:=by
 subst hp;exact SliceOf.new1 (E:=EInt) (fun n:Int => .int .i64 n) (fun _ _=>rfl) w [a] T (by simp)
theorem ints2 {w:World} {p:Nat} (hp:p=w.heap.size) (a b:Int) (T:TypeId):IntsOf (w.alloc (.cells #[.int .i64 a,.int .i64 b] T)) (.slice (some ⟨p,0,none⟩) 2 2) [a,b]:=by
 subst hp;exact SliceOf.new1 (E:=EInt) (fun n:Int => .int .i64 n) (fun _ _=>rfl) w [a,b] T (by simp)
theorem within_flw (h:Chk w0 cb md ms deps strs at_ fld fs) (low high:Int) (v:Value) (l:List Int) (hs:IntsOf w0 v l):Calls Pg 81 #[.pointer (some ⟨cb,0,none⟩),.int .i64 low,.int .i64 high,v] w0 (flwR w0 at_ fld (withinC high low l)):=by
 obtain ⟨A,c,rfl,hlc,hcm,hlm,hel⟩:=SliceOf.open hs
 refine n58s ?_;unfold n58
 simp (disch:=try exact DI) only [↓PR,QR,Int.reduceBEq,Int.reduceBNe,Int.reduceLT,Int.reduceLE,Int.reduceGT,Int.reduceGE,Int.reduceNeg]
 refine loop2_intro (fun a0 a1 w=>∃ (k:Nat) (n:Int),a0 = .int .i64 n∧a1 = .int .i64 (k:Int)∧k≤l.length∧Ext w0 w∧withinC high n (l.drop k)=withinC high low l) (fun a0 a1 _=>l.length - (intOf a1).toNat) ⟨0,low,rfl,rfl,Nat.zero_le _,ee,rfl⟩ ?_
 rintro _ _ w ⟨k,n,rfl,rfl,hk,e,hI⟩
 have se:=e.size
 rcases drop_cases hk with ⟨x,hx,hd,hlt,hdec⟩ | ⟨hk,hd,hdec⟩
 · obtain ⟨b,o,cs,rfl,hl,hA,rfl⟩:=hel k x hx
   rw [hd] at hI
   simp only [withinC] at hI
   simp (disch:=try exact DI) only [↓PR,QR,Int.reduceBEq,Int.reduceBNe,Int.reduceLT,Int.reduceLE,Int.reduceGT,Int.reduceGE,Int.reduceNeg,↓n58c1,↓n58c2,hdec,hA.c1]
   refine callK_flw (need_flw (h.ext e) _ 7 (by decide)) (fun w' e1 h0=>?_) (fun w' e1 h0=>?_)
   · rw [h0,orC_zero] at hI
     simp (disch:=try exact DI) only [↓PR,QR,Int.reduceBEq,Int.reduceBNe,Int.reduceLT,Int.reduceLE,Int.reduceGT,Int.reduceGE,Int.reduceNeg,↓n58c1,↓n58c2]
     exact ⟨⟨k+1,_,rfl,rfl,by omega,ee,hI⟩,meas_lt hlt⟩
   · rw [orC_ne h0] at hI
     exact flwR_pan (e.trans e1) hI.symm h0
 · subst hk
   simp (disch:=try exact DI) only [↓PR,QR,Int.reduceBEq,Int.reduceBNe,Int.reduceLT,Int.reduceLE,Int.reduceGT,Int.reduceGE,Int.reduceNeg,↓n58c1,↓n58c2,hdec]
   rw [hd] at hI
   exact flwR_ret e hI.symm
def bitsB (f:FieldD):Bool:=decide (1≤f.bits)&&decide (f.bits≤32)&&(!f.little||(decide (8 < f.bits)&&(f.bits.tmod 8 == 0)))
theorem bits_flw (h:Chk w0 cb md ms deps strs at_ fld fs) (v:Value) (f:FieldD) (hf:FieldVal w0 v f):Calls Pg 80 #[.pointer (some ⟨cb,0,none⟩),v] w0 (flwR w0 at_ fld (needC (bitsB f) 6)):=by
 obtain ⟨tv,cv,rfl,hT,hC,ht1,hc1⟩:=hf.op
 refine n50s ?_;unfold n50
 simp (disch:=try exact DI) only [↓PR,QR,Int.reduceBEq,Int.reduceBNe,Int.reduceLT,Int.reduceLE,Int.reduceGT,Int.reduceGE,Int.reduceNeg,↓n50c1,↓n50c2,↓n50c3,↓n50c4]
 have e0:Ext w0 (w0.alloc (Obj.cells (fieldCells f tv cv).toArray 52)):=ee
 have fin:∀ b,b=bitsB f→callK Pg 37 #[.pointer (some ⟨cb,0,none⟩),.bool b,.int .i64 6] (panK (flwR w0 at_ fld (needC (bitsB f) 6))) (w0.alloc (Obj.cells (fieldCells f tv cv).toArray 52)) (fun _ w=>flwR w0 at_ fld (needC (bitsB f) 6) (.returned (.tuple #[])) w):=by
  rintro b rfl
  exact callK_flw (need_flw (h.ext e0) _ 6 (by decide)) (fun w' e1 h0=>flwR_ret (e0.trans e1) h0) (fun w' e1 h0=>flwR_pan (e0.trans e1) rfl h0)
 unfold bitsB at fin ⊢
 generalize decide (1≤f.bits)=b1 at fin ⊢
 generalize decide (f.bits≤32)=b2 at fin ⊢
 generalize f.little=b3 at fin ⊢
 generalize decide (8 < f.bits)=b4 at fin ⊢
 generalize (f.bits.tmod 8 == 0)=b5 at fin ⊢
 cases b1<;>cases b2<;>cases b3<;>cases b4<;>cases b5<;>simp (disch:=try exact DI) only [↓PR,QR,Int.reduceBEq,Int.reduceBNe,Int.reduceLT,Int.reduceLE,Int.reduceGT,Int.reduceGE,Int.reduceNeg,↓n50c1,↓n50c2,↓n50c3,↓n50c4]<;>exact fin _ rfl
def namesC (rp:List (ByteArray×Int×Int)):List TermD→Int
 | []=>0
 | t::ts=>orC (needC (lastR rp t.field).isSome 8) (namesC rp ts)
def lenB (base:Int) (ts:List TermD) (rp:List (ByteArray×Int×Int)):Bool:=(intervalE base ts rp == 0)&&decide (0≤intervalL base ts rp)&&decide (intervalH base ts rp≤1048576)
def sizedC (rp:List (ByteArray×Int×Int)) (f:FieldD):Int:=orC (needC (sizeB f.base f.terms) 9) (orC (namesC rp f.terms) (needC (lenB f.base f.terms rp) 9))
theorem sized_flw (h:Chk w0 cb md ms deps strs at_ fld fs) (i:Nat) (hi:fld=i) (hlt:i < fs.length) (v:Value) (f:FieldD) (hf:FieldVal w0 v f) (ht:f.terms.length≤1048576) :
 Calls Pg 87 #[.pointer (some ⟨cb,0,none⟩),v] w0 (flwR w0 at_ fld (sizedC (numR (fs.take i)) f)):=by
 obtain ⟨tv,cv,rfl,hT,hC,ht1,hc1⟩:=hf.op
 refine n57s ?_;unfold n57
 simp (disch:=try exact DI) only [↓PR,QR,Int.reduceBEq,Int.reduceBNe,Int.reduceLT,Int.reduceLE,Int.reduceGT,Int.reduceGE,Int.reduceNeg,↓n57c1,↓n57c2,↓n57c3,↓n57c4,↓n57c5,↓n57c6,↓n57c7,↓n57c8]
 generalize hW:World.alloc (World.alloc w0 _) _=W
 have e0:Ext w0 W:=by rw [← hW];exact ee
 have o2:W.heap[w0.heap.size]?=some (.cells #[.pointer (some ⟨cb,0,none⟩)] 61 (0,0)):=by rw [← hW];simp (disch:=try exact DI) only [↓PR,QR,Int.reduceBEq,Int.reduceBNe,Int.reduceLT,Int.reduceLE,Int.reduceGT,Int.reduceGE,Int.reduceNeg]
 have o3:W.heap[w0.heap.size+1]?=some (.cells (fieldCells f tv cv).toArray 52 (0,0)):=by rw [← hW];simp (disch:=try exact DI) only [↓PR,QR,Int.reduceBEq,Int.reduceBNe,Int.reduceLT,Int.reduceLE,Int.reduceGT,Int.reduceGE,Int.reduceNeg]
 clear hW
 simp only [World.size_alloc]
 refine drawK_intro ?_
 simp (disch:=try exact DI) only [↓PR,QR,Int.reduceBEq,Int.reduceBNe,Int.reduceLT,Int.reduceLE,Int.reduceGT,Int.reduceGE,Int.reduceNeg,↓n57c1,↓n57c2,↓n57c3,↓n57c4,↓n57c5,↓n57c6,↓n57c7,↓n57c8,(cells_of_heap o2).1,(cells_of_heap o3).1]
 refine zcr (Valid_ret _ _ f.base f.terms ⟨tv,rfl,TermsOf.ext hT ee⟩) fun w1 e1=>?_
 refine ⟨e1,?_⟩
 unfold sizedC
 refine callK_flw (need_flw (h.ext (e0.wdrew.trans e1)) _ 9 (by decide)) (fun w2 e2 h0=>?_) (fun w2 e2 h0=>?_)
 · rw [h0,orC_zero]
   refine ⟨e1.trans e2,?_⟩
   have e3:Ext W w2:=(Ext.refl W).wdrew.trans (e1.trans e2)
   have hv:sizeB f.base f.terms=true:=by
    cases hb:sizeB f.base f.terms with
    | true=>rfl
    | false=>rw [hb] at h0;exact absurd h0 (by decide)
   simp (disch:=try exact DI) only [↓PR,QR,Int.reduceBEq,Int.reduceBNe,Int.reduceLT,Int.reduceLE,Int.reduceGT,Int.reduceGE,Int.reduceNeg,↓n57c1,↓n57c2,↓n57c3,↓n57c4,↓n57c5,↓n57c6,↓n57c7,↓n57c8,(cells_of_heap (e3.obj o2)).1]
   refine callK_ret (before_ret (h.ext (e0.trans e3)) i hi hlt) ?_
   rintro bv w4 ⟨hB,e4⟩
   simp (disch:=try exact DI) only [↓PR,QR,Int.reduceBEq,Int.reduceBNe,Int.reduceLT,Int.reduceLE,Int.reduceGT,Int.reduceGE,Int.reduceNeg,↓n57c1,↓n57c2,↓n57c3,↓n57c4,↓n57c5,↓n57c6,↓n57c7,↓n57c8]
   refine callK_ret (ranges_ret _ _ _ hB) ?_
   rintro _ w5 ⟨m,rfl,hmlo,hM,e5⟩
   rw [numPairs_RP] at hM
   have e6:Ext W w5:=e3.trans (e4.trans e5)
   have l3:w0.heap.size+1 < w5.heap.size:=(Array.getElem?_eq_some_iff.1 (e6.obj o3)).1
   simp (disch:=try exact DI) only [↓PR,QR,Int.reduceBEq,Int.reduceBNe,Int.reduceLT,Int.reduceLE,Int.reduceGT,Int.reduceGE,Int.reduceNeg,↓n57c1,↓n57c2,↓n57c3,↓n57c4,↓n57c5,↓n57c6,↓n57c7,↓n57c8,(cells_of_heap (e6.obj o3)).1]
   have e6':Ext w0 w5:=e0.trans e6
   refine callK_ret (Names_ret _ _ f.base f.terms ⟨tv,rfl,TermsOf.ext hT ee⟩ ht) ?_
   rintro _ w7 ⟨pb,tv2,rfl,hTA,_,e7⟩
   rw [hv,if_pos rfl] at hTA
   have s7:=e7.size
   simp only [World.size_alloc] at s7
   have e8:Ext W w7:=ee
   have p4:w7.heap[w5.heap.size]?=some (.cells #[.map (some m)] 55 (0,0)):=by simp (disch:=try exact DI) only [↓PR,QR,Int.reduceBEq,Int.reduceBNe,Int.reduceLT,Int.reduceLE,Int.reduceGT,Int.reduceGE,Int.reduceNeg,e7.heapQ]
   have hM7:MapOf w7 m (RP (numR (fs.take i))):=hM.ext (((Ext.refl _).alloc _).trans e7)
   have h7:Chk w7 cb md ms deps strs at_ fld fs:=h.ext (e0.trans e8)
   have o2':=e8.obj o2
   have o3':=e8.obj o3
   have e07:Ext w0 w7:=e0.trans e8
   clear e7 e6 e5 e4 e3 e2 e1 hM hB hmlo s7 l3 o2 o3 e8 e6'
   unfold n57c5
   have hLI:∀ k,Lasts w7.heap.size (fun w=>Ext w7 w∧namesC (numR (fs.take i)) (f.terms.drop k)=namesC (numR (fs.take i)) f.terms):=fun k=>Lasts.and (Lasts.from (Nat.le_refl _)) (Lasts.const _ _)
   refine ⟨_,_,f.terms.length,namesX f.terms,fun w=>TermsAt w pb tv2 f.terms,fun k w=>Ext w7 w∧namesC (numR (fs.take i)) (f.terms.drop k)=namesC (numR (fs.take i)) f.terms,fun _ _=>False,
    fun ch w=>Ext w7 w∧∃ c,c≠0∧ch=[flawEntry at_ fld c]∧namesC (numR (fs.take i)) f.terms=c,rfl,c120,Names_seq pb tv2 f.terms,⟨Ext.refl _,rfl⟩,fun k w h=>hTA.ext h.1,hLI,fun _=>Lasts.const _ _,?_,?_,?_,?_⟩
   · intro rec j w3 hj hI3 hrec hready
     refine ⟨hready,fun w4 hbz=>?_⟩
     have hrec4:=hrec.busied hbz
     obtain ⟨e4,hF⟩:=(hLI j).busied hbz (Nat.le_succ _) hI3
     clear hI3 hrec hready hbz
     obtain ⟨t,hx⟩:=getElem?_lt hj
     rw [show namesX f.terms j = .string t.field by unfold namesX;rw [hx]]
     have hd:f.terms.drop j=t::f.terms.drop (j+1):=by
      rw [List.drop_eq_getElem_cons hj]
      congr 1
      exact (List.getElem?_eq_some_iff.1 hx).2
     rw [hd] at hF
     simp only [namesC] at hF
     have o2:=e4.obj o2'
     have l2:w0.heap.size < w4.heap.size:=(Array.getElem?_eq_some_iff.1 o2).1
     simp (disch:=try exact DI) only [↓PR,QR,Int.reduceBEq,Int.reduceBNe,Int.reduceLT,Int.reduceLE,Int.reduceGT,Int.reduceGE,Int.reduceNeg,↓n57c1,↓n57c2,↓n57c3,↓n57c4,↓n57c5,↓n57c6,↓n57c7,↓n57c8,(cells_of_heap (e4.obj p4)).1]
     rw [op_lookupO Tryz.underlying55 Tryz.underlying9 ty58 (hM7.ext e4),lastOf_RP]
     have fin:∀ w5 b,Ext w4 w5→b=(lastR (numR (fs.take i)) t.field).isSome→callK Pg 37 #[.pointer (some ⟨cb,0,none⟩),.bool b,.int .i64 8] (fun ch w''=>RecAt rec w7.heap.size w''∧Ext w7 w''∧∃ c,c≠0∧ch=[flawEntry at_ fld c]∧namesC (numR (fs.take i)) f.terms=c) w5 (fun _ w''=>RecAt rec w7.heap.size w''∧Ext w7 w''∧namesC (numR (fs.take i)) (f.terms.drop (j+1))=namesC (numR (fs.take i)) f.terms):=by
      rintro w5 b e5 rfl
      refine callK_flw (need_flw (h7.ext (e4.trans e5)) _ 8 (by decide)) (fun w6 e6 h0=>?_) (fun w6 e6 h0=>?_)
      · rw [h0,orC_zero] at hF
        exact ⟨hrec4.ext (e5.trans e6),e4.trans (e5.trans e6),hF⟩
      · rw [orC_ne h0] at hF
        exact ⟨hrec4.ext (e5.trans e6),e4.trans (e5.trans e6),_,h0,rfl,hF.symm⟩
     cases hl:lastR (numR (fs.take i)) t.field with
     | none =>
      rw [hl] at fin
      simp (disch:=try exact DI) only [↓PR,QR,Int.reduceBEq,Int.reduceBNe,Int.reduceLT,Int.reduceLE,Int.reduceGT,Int.reduceGE,Int.reduceNeg,↓n57c1,↓n57c2,↓n57c3,↓n57c4,↓n57c5,↓n57c6,↓n57c7,↓n57c8,(cells_of_heap o2).1,Option.map_none]
      exact fin _ _ ee rfl
     | some q =>
      obtain ⟨lo,hi⟩:=q
      rw [hl] at fin
      simp (disch:=try exact DI) only [↓PR,QR,Int.reduceBEq,Int.reduceBNe,Int.reduceLT,Int.reduceLE,Int.reduceGT,Int.reduceGE,Int.reduceNeg,↓n57c1,↓n57c2,↓n57c3,↓n57c4,↓n57c5,↓n57c6,↓n57c7,↓n57c8,(cells_of_heap o2).1,rangeVal]
      exact fin _ _ ee rfl
   · rintro w3 ⟨e3,hF⟩ hmk
     rw [List.drop_length] at hF
     have l7:w7.heap.size < w3.heap.size:=(Array.getElem?_eq_some_iff.1 hmk).1
     rw [← hF]
     show n57c4 _ _ _ _ (flwR w0 at_ fld (orC 0 _)) w3
     rw [orC_zero]
     simp (disch:=try exact DI) only [↓PR,QR,Int.reduceBEq,Int.reduceBNe,Int.reduceLT,Int.reduceLE,Int.reduceGT,Int.reduceGE,Int.reduceNeg,↓n57c1,↓n57c2,↓n57c3,↓n57c4,↓n57c5,↓n57c6,↓n57c7,↓n57c8,(cells_of_heap (e3.obj o3')).1,(cells_of_heap (e3.obj p4)).1]
     refine zcr (Interval_ret _ _ f.base f.terms m _ ⟨tv,rfl,TermsOf.ext hT (e07.trans e3)⟩ ht (hM7.ext e3)) fun w4 e4=>?_
     have s4:=e4.size
     have o2:=(e3.trans e4).obj o2'
     have l2:w0.heap.size < w4.heap.size:=(Array.getElem?_eq_some_iff.1 o2).1
     simp (disch:=try exact DI) only [↓PR,QR,Int.reduceBEq,Int.reduceBNe,Int.reduceLT,Int.reduceLE,Int.reduceGT,Int.reduceGE,Int.reduceNeg,↓n57c1,↓n57c2,↓n57c3,↓n57c4,↓n57c5,↓n57c6,↓n57c7,↓n57c8,(cells_of_heap o2).1,rangeVal]
     have e5:Ext w3 (w4.alloc (Obj.cells #[.int .i64 (intervalL f.base f.terms (numR (fs.take i))),.int .i64 (intervalH f.base f.terms (numR (fs.take i)))] 58)):=e4.alloc _
     have s07:=e07.size
     refine callK_flw (need_flw (h7.ext (e3.trans e5)) (lenB f.base f.terms (numR (fs.take i))) 9 (by decide)) (fun w6 e6 h0=>?_) (fun w6 e6 h0=>?_)
     · refine outX_mark (hmk.ext (e5.trans e6)) ?_
       rw [outX_nil]
       exact flwR_ret (((e07.trans e3).trans (e5.trans e6)).putObj (by omega) _) h0
     · refine outQ_mark (hmk.ext (e5.trans e6)) ?_
       rw [outQ_nil]
       exact flwR_pan (((e07.trans e3).trans (e5.trans e6)).putObj (by omega) _) rfl h0
   · rintro c w3 h
     exact h.elim
   · rintro ch w3 ⟨e3,c,hc,rfl,hF⟩ hmk
     have l7:w7.heap.size < w3.heap.size:=(Array.getElem?_eq_some_iff.1 hmk).1
     rw [hF,orC_ne hc]
     refine outQ_mark hmk ?_
     rw [outQ_nil]
     exact flwR_pan (by have:=e07.size;exact ee) rfl hc
 · rw [orC_ne h0]
   exact flwR_pan (e0.wdrew.trans (e1.trans e2)) rfl h0
end
end Go.Proofs.YtiajhbbmgglmlaaGreat
namespace Go.Proofs.YtiajhbbmgglmlaaGreat
open Sw
def n51c1 (t9 t47:Value) (next5:KW) (R:RT) (w:World):Prop :=
 F0 81 t9 1 R w fun t65 w =>
 L0 3 t65 R w fun t66 w =>
 B0 .add 3 true t66 (.int .i64 1) R w fun t67 w =>
 B0 .add 3 true t47 (.int .i64 1) R w fun t68 w =>
 next5 t67 t68 w
def n51c2 (t0 t9 t47:Value) (next5:KW) (R:RT) (w:World):Prop :=
 F0 81 t9 2 R w fun t62 w =>
 L0 9 t62 R w fun t63 w =>
 C0 94 #[t0,t63] R w fun t64 w =>
 n51c1 t9 t47 next5 R w
def n51c3 (t0 t4 t7 t45 t47:Value) (next5:KW) (R:RT) (w:World):Prop :=
 X0 50 t45 t47 R w fun t49 w =>
 L0 81 t49 R w fun t50 w =>
 opV Pg (Instr.alloc 81 true (.tuple #[])) (panK R) w fun t9 w =>
 opU Pg (Instr.storeAt 81 t9 t50) (panK R) w fun w =>
 F0 58 t4 1 R w fun t53 w =>
 L0 3 t53 R w fun t54 w =>
 F0 81 t9 0 R w fun t55 w =>
 L0 3 t55 R w fun t56 w =>
 F0 81 t9 1 R w fun t57 w =>
 L0 3 t57 R w fun t58 w =>
 opV Pg (Instr.buildSlice 85 2 #[(0,t56),(1,t58)]) (panK R) w fun t59 w =>
 C0 81 #[t0,t7,t54,t59] R w fun t60 w =>
 n51c2 t0 t9 t47 next5 R w
def n51c4 (t0 t3 t4:Value) (R:RT) (w:World):Prop :=
 F0 58 t4 0 R w fun t42 w =>
 L0 3 t42 R w fun t43 w =>
 F0 52 t3 11 R w fun t44 w =>
 L0 50 t44 R w fun t45 w =>
 opV Pg (Builtin.len_ #[50] 3 #[t45]) (panK R) w fun t46 w =>
 loop2 (fun t7 t47 w next5 =>
 B0 .lss 3 false t47 t46 R w fun t48 w =>
 condP t48 (
 n51c3 t0 t4 t7 t45 t47 next5 R w) (
 R (.returned (.tuple #[])) w)) t43 (.int .i64 0) w
def n51c5 (t0 t3 t4:Value) (R:RT) (w:World):Prop :=
 F0 52 t3 11 R w fun t31 w =>
 L0 50 t31 R w fun t32 w =>
 opV Pg (Builtin.len_ #[50] 3 #[t32]) (panK R) w fun t33 w =>
 B0 .geq 3 true t33 (.int .i64 1) R w fun t34 w =>
 joinK (fun (t39:Value) (w:World) =>
 pickK t34 t39 (.bool false) fun t40 =>
 C0 37 #[t0,t40,(.int .i64 3)] R w fun t41 w =>
 n51c4 t0 t3 t4 R w) fun K4 =>
 guardP t34 true (
 F0 52 t3 11 R w fun t36 w =>
 L0 50 t36 R w fun t37 w =>
 opV Pg (Builtin.len_ #[50] 3 #[t37]) (panK R) w fun t38 w =>
 B0 .leq 3 true t38 (.int .i64 40) R w fun t39 w =>
 K4 t39 w) (
 K4 undef w)
def n51c6 (t0 t3 t4 t5 t22:Value) (R:RT) (w:World):Prop :=
 joinK (fun (t27:Value) (w:World) =>
 pickK t5 t27 (.bool false) fun t28 =>
 C0 37 #[t0,t28,(.int .i64 8)] R w fun t29 w =>
 n51c5 t0 t3 t4 R w) fun K3 =>
 guardP t5 true (
 opV Pg (Op.unary .not t22) (panK R) w fun t27 w =>
 K3 t27 w) (
 K3 undef w)
def n51c7 (t0 t3 t4 t5:Value) (R:RT) (w:World):Prop :=
 C0 68 #[t0] R w fun t20 w =>
 opV Pg (Instr.makeFunc (.func 116) #[] #[t3]) (panK R) w fun t21 w =>
 C0 115 #[t20,t21] R w fun t22 w =>
 n51c6 t0 t3 t4 t5 t22 R w
def n51c8 (t13 t15:Value) (C7:World→Prop) (K2:KW) (R:RT) (w:World):Prop :=
 qV Pg C7 (Instr.lookup 55 t13 t15 true) fun t16 =>
 qV Pg C7 (Instr.extract t16 0) fun t17 =>
 qV Pg C7 (Instr.extract t16 1) fun t18 =>
 opV Pg (Instr.alloc 58 true (.tuple #[])) (panK R) w fun t4 w =>
 C7 w∧(
 opU Pg (Instr.storeAt 58 t4 t17) (panK R) w fun w =>
 C7 w∧(
 K2 t4 t18 w))
def n51c9 (t4 t13 t15:Value) (C8:World→Prop) (K2:KW) (R:RT) (w:World):Prop :=
 qV Pg C8 (Instr.lookup 55 t13 t15 true) fun t16 =>
 qV Pg C8 (Instr.extract t16 0) fun t17 =>
 qV Pg C8 (Instr.extract t16 1) fun t18 =>
 opU Pg (Instr.storeAt 58 t4 t17) (panK R) w fun w =>
 C8 w∧(
 K2 t4 t18 w)
def n51c10 (t12 t15:Value) (C6:World→Prop) (K2:KW) (R:RT) (w:World):Prop :=
 (
 C0 35 #[t12] R w fun t13 w =>
 narrowK C6 w fun C7 w =>
 n51c8 t13 t15 C7 K2 R w)∧(
 opV Pg (Instr.alloc 58 true (.tuple #[])) (panK R) w fun t4 w =>
 C6 w∧(
 C0 35 #[t12] R w fun t13 w =>
 narrowK C6 w fun C8 w =>
 n51c9 t4 t13 t15 C8 K2 R w))
def n51c11 (t4 t13 t15:Value) (C10:World→Prop) (K2:KW) (R:RT) (w:World):Prop :=
 qV Pg C10 (Instr.lookup 55 t13 t15 true) fun t16 =>
 qV Pg C10 (Instr.extract t16 0) fun t17 =>
 qV Pg C10 (Instr.extract t16 1) fun t18 =>
 opU Pg (Instr.storeAt 58 t4 t17) (panK R) w fun w =>
 C10 w∧(
 K2 t4 t18 w)
def n51c12 (t0 t4 t15:Value) (C1:World→Prop) (K2:KW) (R:RT) (w:World):Prop :=
 C0 68 #[t0] R w fun t12 w =>
 narrowK C1 w fun C9 w =>
 C0 35 #[t12] R w fun t13 w =>
 narrowK C9 w fun C10 w =>
 n51c11 t4 t13 t15 C10 K2 R w
def n51c13 (t0 t3:Value) (C1:World→Prop) (R:RT) (w:World):Prop :=
 qV Pg C1 (Instr.fieldAt 52 t3 9) fun t14 =>
 qV Pg C1 (Instr.loadAt 9 t14) fun t15 =>
 joinK (fun (t4:Value) (t5:Value) (w:World) =>
 n51c7 t0 t3 t4 t5 R w) fun K2 =>
 (
 C0 68 #[t0] R w fun t12 w =>
 narrowK C1 w fun C6 w =>
 n51c10 t12 t15 C6 K2 R w)∧(
 opV Pg (Instr.alloc 58 true (.tuple #[])) (panK R) w fun t4 w =>
 C1 w∧(
 n51c12 t0 t4 t15 C1 K2 R w))
def n51 (t0 t1:Value) (R:RT) (w:World):Prop :=
 opV Pg (Instr.box 52 t1) (panK R) w fun t3 w =>
 drawK w fun C1 w =>
 n51c13 t0 t3 C1 R w
theorem n51s {t0 t1:Value} {R:RT} {w:World} (h:n51 t0 t1 R w):Calls Pg 98 #[t0,t1] w R:=by
 refine calls_of_den (args:=[t0,t1]) Tryz.func98 rfl (Nat.le_of_ble_eq_true rfl) ?_
 unfold n51 at h
 refine zs<|zr ?_
 refine zv h fun t3 w h=>?_
 refine zn<|zk<|zs ?_
 obtain ⟨C1,hC,h⟩:=h
 refine sim_draw [4,5,10,11,12,13,14,15,16,17,18] (by kernel_rfl) (by kernel_rfl) C1 ?_
 refine zw 0 hC ?_
 refine ze 3 hC h fun t14 h=>?_
 refine ze 4 hC h fun t15 h=>?_
 refine joinK_elim h (fun K2 hK h=>?_)
 refine sim_dmeet [4,5,10,12,13,16,17,18] (fun ρ w=>K2 (ρ 4) (ρ 5) w) (fun T hT=>?_) (fun σ w h=>?_)
 · obtain ⟨h0,h1⟩:=h
   refine sim_dloud2 1 9 rfl rfl (by kernel_rfl) (fun _ _=>rfl) (fun _ _=>rfl) ?_ ?_
   · have h:=h0
     refine sim_call h c68 rfl (fun _ _ h _ _=>⟨rfl,h⟩) ?_;intro t12 w h
     refine zn ?_
     obtain ⟨C6,hs,hC,h⟩:=h
     refine ⟨C6,hs,hC,?_⟩
     obtain ⟨h0,h1⟩:=h
     refine sim_dloud2 2 9 rfl rfl (by kernel_rfl) (fun _ _=>rfl) (fun _ _=>rfl) ?_ ?_
     · have h:=h0
       refine sim_call h c35 rfl (fun _ _ h _ _=>⟨rfl,h⟩) ?_;intro t13 w h
       refine zn ?_
       obtain ⟨C7,hs,hC,h⟩:=h
       refine ⟨C7,hs,hC,?_⟩
       refine ze 5 hC h fun t16 h=>?_
       refine zw 6 hC ?_
       refine ze 7 hC h fun t17 h=>?_
       refine ze 8 hC h fun t18 h=>?_
       refine sim_dloud 9 rfl (by kernel_rfl) (fun _ _=>rfl) ?_
       refine sim_val h rfl rfl (fun _ _ h _ _=>⟨rfl,h⟩) ?_;intro t4 w h
       refine zn ?_
       obtain ⟨hC,h⟩:=h
       refine ⟨hC,?_⟩
       refine sim_dloud 10 rfl (by kernel_rfl) (fun _ _=>rfl) ?_
       refine sim_unit h rfl rfl (fun _ _ h _ _=>⟨rfl,h⟩) ?_;intro w h
       refine zn ?_
       obtain ⟨hC,h⟩:=h
       refine ⟨hC,?_⟩
       refine zw 11 hC ?_
       refine sim_dend (by kernel_rfl) ?_
       exact zt hT h
     · have h:=h1
       refine sim_val h rfl rfl (fun _ _ h _ _=>⟨rfl,h⟩) ?_;intro t4 w h
       refine zn ?_
       obtain ⟨hC,h⟩:=h
       refine ⟨_,fun _ h=>h,hC,?_⟩
       refine sim_dnarrow 2 rfl (by kernel_rfl) (fun _ _=>rfl) ?_
       refine sim_call h c35 rfl (fun _ _ h _ _=>⟨rfl,h⟩) ?_;intro t13 w h
       refine zn ?_
       obtain ⟨C8,hs,hC,h⟩:=h
       refine ⟨C8,hs,hC,?_⟩
       refine ze 5 hC h fun t16 h=>?_
       refine zw 6 hC ?_
       refine ze 7 hC h fun t17 h=>?_
       refine ze 8 hC h fun t18 h=>?_
       refine sim_dloud 10 rfl (by kernel_rfl) (fun _ _=>rfl) ?_
       refine sim_unit h rfl rfl (fun _ _ h _ _=>⟨rfl,h⟩) ?_;intro w h
       refine zn ?_
       obtain ⟨hC,h⟩:=h
       refine ⟨hC,?_⟩
       refine zw 11 hC ?_
       refine sim_dend (by kernel_rfl) ?_
       exact zt hT h
   · have h:=h1
     refine sim_val h rfl rfl (fun _ _ h _ _=>⟨rfl,h⟩) ?_;intro t4 w h
     refine zn ?_
     obtain ⟨hC,h⟩:=h
     refine ⟨_,fun _ h=>h,hC,?_⟩
     refine sim_dnarrow 1 rfl (by kernel_rfl) (fun _ _=>rfl) ?_
     refine sim_call h c68 rfl (fun _ _ h _ _=>⟨rfl,h⟩) ?_;intro t12 w h
     refine zn ?_
     obtain ⟨C9,hs,hC,h⟩:=h
     refine ⟨C9,hs,hC,?_⟩
     refine sim_dnarrow 2 rfl (by kernel_rfl) (fun _ _=>rfl) ?_
     refine sim_call h c35 rfl (fun _ _ h _ _=>⟨rfl,h⟩) ?_;intro t13 w h
     refine zn ?_
     obtain ⟨C10,hs,hC,h⟩:=h
     refine ⟨C10,hs,hC,?_⟩
     refine ze 5 hC h fun t16 h=>?_
     refine zw 6 hC ?_
     refine ze 7 hC h fun t17 h=>?_
     refine ze 8 hC h fun t18 h=>?_
     refine sim_dloud 10 rfl (by kernel_rfl) (fun _ _=>rfl) ?_
     refine sim_unit h rfl rfl (fun _ _ h _ _=>⟨rfl,h⟩) ?_;intro w h
     refine zn ?_
     obtain ⟨hC,h⟩:=h
     refine ⟨hC,?_⟩
     refine zw 11 hC ?_
     refine sim_dend (by kernel_rfl) ?_
     exact zt hT h
 subst hK
 refine zk<|zs<|zr<|zm ?_
 refine zc h c68 fun t20 w h=>?_
 refine sim_makeFunc h rfl rfl (fun _ _ h=>⟨rfl,h⟩) ?_;intro t21 w h
 refine zc h c115 fun t22 w h=>?_
 refine zm<|zn<|zk<|zs<|sim_regionG ?_
 refine sim_seg 3 rfl ?_
 refine zm<|zm<|zm<|zn ?_
 refine joinK_elim h (fun K3 hK h=>?_)
 refine sim_groupJ 2 2 true [26,27] (fun ρ w=>K3 (ρ 27) w) rfl rfl (fun T hT=>guardP_mono h (fun h=>?_) (fun h=>?_)) (fun σ w h=>?_)
 · refine zm ?_
   refine zv h fun t27 w h=>?_
   refine zn ?_
   exact zt hT h
 · exact zt hT h
 subst hK
 refine sim_seg 2 rfl ?_
 refine sim_pick h rfl rfl rfl ?_;intro t28 h
 refine zc h c37 fun t29 w h=>?_
 refine zn<|sim_end<|zk<|zs<|sim_regionG ?_
 refine sim_seg 6 rfl ?_
 refine zm ?_
 refine zv h fun t31 w h=>?_
 refine zv h fun t32 w h=>?_
 refine zx h fun t33 w h=>?_
 refine zb h fun t34 w h=>?_
 refine zm<|zn ?_
 refine joinK_elim h (fun K4 hK h=>?_)
 refine sim_groupJ 4 5 true [36,37,38,39] (fun ρ w=>K4 (ρ 39) w) rfl rfl (fun T hT=>guardP_mono h (fun h=>?_) (fun h=>?_)) (fun σ w h=>?_)
 · refine zv h fun t36 w h=>?_
   refine zv h fun t37 w h=>?_
   refine zx h fun t38 w h=>?_
   refine zb h fun t39 w h=>?_
   refine zn ?_
   exact zt hT h
 · exact zt hT h
 subst hK
 refine sim_seg 2 rfl ?_
 refine sim_pick h rfl rfl rfl ?_;intro t40 h
 refine zc h c37 fun t41 w h=>?_
 refine zn<|sim_end<|zk<|zs<|zr ?_
 refine zv h fun t42 w h=>?_
 refine zv h fun t43 w h=>?_
 refine zm<|zn<|zk<|zs<|zr ?_
 refine zv h fun t44 w h=>?_
 refine zv h fun t45 w h=>?_
 refine zx h fun t46 w h=>?_
 refine zm<|zn<|zk<|sim_block ?_
 obtain ⟨I,μ,h0,hr⟩:=h
 refine sim_loop [7,9,47,48,49,50,51,52,53,54,55,56,57,58,59,60,61,62,63,64,65,66,67,68] (by kernel_rfl) (fun ρ w=>I (ρ 7) (ρ 47) w) (fun ρ w=>μ (ρ 7) (ρ 47) w) h0 (fun σ w hI=>?_)
 have h:=hr _ _ _ hI
 clear hr h0 hI
 refine zs<|zr ?_
 refine zb h fun t48 w h=>?_
 refine zn<|zk<|zs ?_
 refine sim_cond h rfl (fun h=>?_) (fun h=>?_)
 · refine sim_skip<|zk<|zs<|sim_block<|zs<|zr ?_
   refine zv h fun t49 w h=>?_
   refine zv h fun t50 w h=>?_
   refine zv h fun t9 w h=>?_
   refine zu h fun w h=>?_
   refine zn<|zk<|zs<|zr<|zm<|zm ?_
   refine zv h fun t53 w h=>?_
   refine zv h fun t54 w h=>?_
   refine zv h fun t55 w h=>?_
   refine zv h fun t56 w h=>?_
   refine zv h fun t57 w h=>?_
   refine zv h fun t58 w h=>?_
   refine sim_buildSlice h rfl (fun _ _ h=>⟨rfl,h⟩) ?_;intro t59 w h
   refine zc h c81 fun t60 w h=>?_
   refine zn<|zk<|zs<|zr<|zm ?_
   refine zv h fun t62 w h=>?_
   refine zv h fun t63 w h=>?_
   refine zc h c94 fun t64 w h=>?_
   refine zn<|zk<|zr ?_
   refine zv h fun t65 w h=>?_
   refine zv h fun t66 w h=>?_
   refine zb h fun t67 w h=>?_
   refine zm<|zn<|sim_block_normal<|zk<|zr ?_
   refine zb h fun t68 w h=>?_
   refine zm<|zn<|zk ?_
   exact ⟨rfl,h⟩
 · refine sim_exit<|sim_then_exit<|sim_then_exit<|sim_block_hit ?_
   refine body_normal ?_
   exact body_ret0 rfl h
def n71 (t0:Value) (R:RT) (w:World):Prop :=
 opN Pg (nilN t0) (panK R) w fun t3 w =>
 F0 52 t3 2 R w fun t4 w =>
 opU Pg (Instr.storeAt 3 t4 (.int .i64 0)) (panK R) w fun w =>
 R (.returned (.tuple #[])) w
theorem n71s {t0:Value} {R:RT} {w:World} (h:n71 t0 R w):Calls Pg 99 #[t0] w R:=by
 refine calls_of_den (args:=[t0]) Tryz.func99 rfl (Nat.le_of_ble_eq_true rfl) ?_
 unfold n71 at h
 refine zr<|zm ?_
 refine sim_next h rfl rfl (fun _ _ h=>⟨rfl,h⟩) ?_;intro t3 w h
 refine zv h fun t4 w h=>?_
 refine zu h fun w h=>?_
 refine zn ?_
 refine body_normal ?_
 exact body_ret0 rfl h
def n72c1 (t0 t12 t22 t26:Value) (R:RT) (w:World):Prop :=
 joinK (fun (t27:Value) (w:World) =>
 pickK t12 (.bool true) t27 fun t28 =>
 C0 37 #[t0,t28,(.int .i64 6)] R w fun t29 w =>
 R (.returned (.tuple #[])) w) fun K6 =>
 guardP t12 false (
 pickK t22 t26 (.bool false) fun t27 =>
 K6 t27 w) (
 K6 undef w)
def n72c2 (t0 t3 t12 t22:Value) (R:RT) (w:World):Prop :=
 joinK (fun (t26:Value) (w:World) =>
 n72c1 t0 t12 t22 t26 R w) fun K5 =>
 guardP t22 true (
 F0 52 t3 2 R w fun t23 w =>
 L0 3 t23 R w fun t24 w =>
 B0 .rem 3 true t24 (.int .i64 8) R w fun t25 w =>
 B0 .eql 3 true t25 (.int .i64 0) R w fun t26 w =>
 K5 t26 w) (
 K5 undef w)
def n72c3 (t0 t3 t12 t17:Value) (R:RT) (w:World):Prop :=
 joinK (fun (t20:Value) (w:World) =>
 joinK (fun (t22:Value) (w:World) =>
 n72c2 t0 t3 t12 t22 R w) fun K4 =>
 guardP t12 false (
 pickK t17 t20 (.bool false) fun t21 =>
 K4 t21 w) (
 K4 undef w)) fun K3 =>
 guardP t17 true (
 F0 52 t3 2 R w fun t18 w =>
 L0 3 t18 R w fun t19 w =>
 B0 .leq 3 true t19 (.int .i64 512) R w fun t20 w =>
 K3 t20 w) (
 K3 undef w)
def n72c4 (t0 t3 t7 t11:Value) (R:RT) (w:World):Prop :=
 pickK t7 (.bool true) t11 fun t12 =>
 joinK (fun (t17:Value) (w:World) =>
 n72c3 t0 t3 t12 t17 R w) fun K2 =>
 guardP t12 false (
 F0 52 t3 2 R w fun t14 w =>
 L0 3 t14 R w fun t15 w =>
 B0 .geq 3 true t15 (.int .i64 8) R w fun t16 w =>
 K2 t16 w) (
 K2 undef w)
def n72 (t0 t1:Value) (R:RT) (w:World):Prop :=
 opV Pg (Instr.box 52 t1) (panK R) w fun t3 w =>
 F0 52 t3 2 R w fun t5 w =>
 L0 3 t5 R w fun t6 w =>
 B0 .eql 3 true t6 (.int .i64 2) R w fun t7 w =>
 joinK (fun (t11:Value) (w:World) =>
 n72c4 t0 t3 t7 t11 R w) fun K1 =>
 guardP t7 false (
 F0 52 t3 2 R w fun t9 w =>
 L0 3 t9 R w fun t10 w =>
 B0 .eql 3 true t10 (.int .i64 4) R w fun t11 w =>
 K1 t11 w) (
 K1 undef w)
theorem n72s {t0 t1:Value} {R:RT} {w:World} (h:n72 t0 t1 R w):Calls Pg 100 #[t0,t1] w R:=by
 refine calls_of_den (args:=[t0,t1]) Tryz.func100 rfl (Nat.le_of_ble_eq_true rfl) ?_
 unfold n72 at h
 refine zs<|zr ?_
 refine zv h fun t3 w h=>?_
 refine zn<|zk<|sim_regionG ?_
 refine sim_seg 5 rfl ?_
 refine zm ?_
 refine zv h fun t5 w h=>?_
 refine zv h fun t6 w h=>?_
 refine zb h fun t7 w h=>?_
 refine zm<|zn ?_
 refine joinK_elim h (fun K1 hK h=>?_)
 refine sim_groupJ 3 4 false [9,10,11] (fun ρ w=>K1 (ρ 11) w) rfl rfl (fun T hT=>guardP_mono h (fun h=>?_) (fun h=>?_)) (fun σ w h=>?_)
 · refine zv h fun t9 w h=>?_
   refine zv h fun t10 w h=>?_
   refine zb h fun t11 w h=>?_
   refine zn ?_
   exact zt hT h
 · exact zt hT h
 subst hK
 refine sim_seg 2 rfl ?_
 refine sim_pick h rfl rfl rfl ?_;intro t12 h
 refine zm<|zn ?_
 refine joinK_elim h (fun K2 hK h=>?_)
 refine sim_groupJ 4 9 false [14,15,16,17] (fun ρ w=>K2 (ρ 17) w) rfl rfl (fun T hT=>guardP_mono h (fun h=>?_) (fun h=>?_)) (fun σ w h=>?_)
 · refine zv h fun t14 w h=>?_
   refine zv h fun t15 w h=>?_
   refine zb h fun t16 w h=>?_
   refine zm<|zn ?_
   exact zt hT h
 · exact zt hT h
 subst hK
 refine joinK_elim h (fun K3 hK h=>?_)
 refine sim_groupJ 3 13 true [18,19,20] (fun ρ w=>K3 (ρ 20) w) rfl rfl (fun T hT=>guardP_mono h (fun h=>?_) (fun h=>?_)) (fun σ w h=>?_)
 · refine zv h fun t18 w h=>?_
   refine zv h fun t19 w h=>?_
   refine zb h fun t20 w h=>?_
   refine zn ?_
   exact zt hT h
 · exact zt hT h
 subst hK
 refine joinK_elim h (fun K4 hK h=>?_)
 refine sim_groupJ 2 9 false [21,22] (fun ρ w=>K4 (ρ 22) w) rfl rfl (fun T hT=>guardP_mono h (fun h=>?_) (fun h=>?_)) (fun σ w h=>?_)
 · refine sim_pick h rfl rfl rfl ?_;intro t21 h
   refine zm<|zn ?_
   exact zt hT h
 · exact zt hT h
 subst hK
 refine joinK_elim h (fun K5 hK h=>?_)
 refine sim_groupJ 4 18 true [23,24,25,26] (fun ρ w=>K5 (ρ 26) w) rfl rfl (fun T hT=>guardP_mono h (fun h=>?_) (fun h=>?_)) (fun σ w h=>?_)
 · refine zv h fun t23 w h=>?_
   refine zv h fun t24 w h=>?_
   refine zb h fun t25 w h=>?_
   refine zb h fun t26 w h=>?_
   refine zn ?_
   exact zt hT h
 · exact zt hT h
 subst hK
 refine joinK_elim h (fun K6 hK h=>?_)
 refine sim_groupJ 1 9 false [27] (fun ρ w=>K6 (ρ 27) w) rfl rfl (fun T hT=>guardP_mono h (fun h=>?_) (fun h=>?_)) (fun σ w h=>?_)
 · refine sim_pick h rfl rfl rfl ?_;intro t27 h
   refine zn ?_
   exact zt hT h
 · exact zt hT h
 subst hK
 refine sim_seg 2 rfl ?_
 refine sim_pick h rfl rfl rfl ?_;intro t28 h
 refine zc h c37 fun t29 w h=>?_
 refine zn<|sim_end ?_
 refine body_normal ?_
 exact body_ret0 rfl h
def n73 (t0:Value) (R:RT) (w:World):Prop :=
 opN Pg (nilN t0) (panK R) w fun t4 w =>
 F0 52 t4 10 R w fun t5 w =>
 opU Pg (Instr.storeAt 9 t5 (.string { data := #[] })) (panK R) w fun w =>
 opN Pg (nilN t0) (panK R) w fun t6 w =>
 F0 52 t6 12 R w fun t7 w =>
 opU Pg (Instr.storeAt 3 t7 (.int .i64 0)) (panK R) w fun w =>
 R (.returned (.tuple #[])) w
theorem n73s {t0:Value} {R:RT} {w:World} (h:n73 t0 R w):Calls Pg 101 #[t0] w R:=by
 refine calls_of_den (args:=[t0]) Tryz.func101 rfl (Nat.le_of_ble_eq_true rfl) ?_
 unfold n73 at h
 refine zr<|zm<|zm ?_
 refine sim_next h rfl rfl (fun _ _ h=>⟨rfl,h⟩) ?_;intro t4 w h
 refine zv h fun t5 w h=>?_
 refine zu h fun w h=>?_
 refine sim_next h rfl rfl (fun _ _ h=>⟨rfl,h⟩) ?_;intro t6 w h
 refine zv h fun t7 w h=>?_
 refine zu h fun w h=>?_
 refine zn ?_
 refine body_normal ?_
 exact body_ret0 rfl h
def n75c1 (t0 t17:Value) (C1:World→Prop) (R:RT) (w:World):Prop :=
 qV Pg C1 (Instr.extract t17 0) fun t18 =>
 qV Pg C1 (Instr.extract t17 1) fun t19 =>
 C0 37 #[t0,t19,(.int .i64 8)] R w fun t22 w =>
 R (.returned (.tuple #[])) w
def n75c2 (t0 t3:Value) (C1:World→Prop) (R:RT) (w:World):Prop :=
 qV Pg C1 (Instr.fieldAt 52 t3 10) fun t15 =>
 qV Pg C1 (Instr.loadAt 9 t15) fun t16 =>
 C0 68 #[t0] R w fun t13 w =>
 C1 w∧(
 qV Pg C1 (Instr.build 45 #[(1,t13)]) fun t14 =>
 C0 67 #[t14,t16] R w fun t17 w =>
 C1 w∧(
 n75c1 t0 t17 C1 R w))
def n75 (t0 t1:Value) (R:RT) (w:World):Prop :=
 opV Pg (Instr.box 52 t1) (panK R) w fun t3 w =>
 F0 52 t3 12 R w fun t7 w =>
 L0 3 t7 R w fun t8 w =>
 opV Pg (Instr.buildSlice 85 1 #[(0,t8)]) (panK R) w fun t9 w =>
 C0 81 #[t0,(.int .i64 1),(.int .i64 3),t9] R w fun t10 w =>
 drawK w fun C1 w =>
 n75c2 t0 t3 C1 R w
theorem n75s {t0 t1:Value} {R:RT} {w:World} (h:n75 t0 t1 R w):Calls Pg 102 #[t0,t1] w R:=by
 refine calls_of_den (args:=[t0,t1]) Tryz.func102 rfl (Nat.le_of_ble_eq_true rfl) ?_
 unfold n75 at h
 refine zs<|zr ?_
 refine zv h fun t3 w h=>?_
 refine zn<|zk<|zs<|zr<|zm ?_
 refine zv h fun t7 w h=>?_
 refine zv h fun t8 w h=>?_
 refine sim_buildSlice h rfl (fun _ _ h=>⟨rfl,h⟩) ?_;intro t9 w h
 refine zc h c81 fun t10 w h=>?_
 refine zn<|zk<|zs ?_
 obtain ⟨C1,hC,h⟩:=h
 refine sim_draw [4,5,11,12,13,14,15,16,17,18,19] (by kernel_rfl) (by kernel_rfl) C1 ?_
 refine zw 0 hC ?_
 refine ze 3 hC h fun t15 h=>?_
 refine ze 4 hC h fun t16 h=>?_
 refine sim_dloud 1 rfl (by kernel_rfl) (fun _ _=>rfl) ?_
 refine sim_call h c68 rfl (fun _ _ h _ _=>⟨rfl,h⟩) ?_;intro t13 w h
 refine zn ?_
 obtain ⟨hC,h⟩:=h
 refine ⟨hC,?_⟩
 obtain ⟨t14,hv,h⟩:=h
 refine sim_dsilent 2 hC rfl (by kernel_rfl) (by kernel_rfl) (fun _ _=>rfl) rfl (Sw.qV_build rfl hv) ?_
 refine sim_dloud 5 rfl (by kernel_rfl) (fun _ _=>rfl) ?_
 refine sim_call h c67 rfl (fun _ _ h _ _=>⟨rfl,h⟩) ?_;intro t17 w h
 refine zn ?_
 obtain ⟨hC,h⟩:=h
 refine ⟨hC,?_⟩
 refine zw 6 hC ?_
 refine ze 7 hC h fun t18 h=>?_
 refine ze 8 hC h fun t19 h=>?_
 refine zw 9 hC ?_
 refine zw 10 hC ?_
 refine sim_dend (by kernel_rfl) ?_
 refine zk<|zr<|zm<|zm ?_
 refine zc h c37 fun t22 w h=>?_
 refine zn ?_
 refine body_normal ?_
 exact body_ret0 rfl h
def n76 (t0:Value) (R:RT) (w:World):Prop :=
 opV Pg (Instr.build 49 #[]) (panK R) w fun t5 w =>
 opN Pg (nilN t0) (panK R) w fun t6 w =>
 F0 52 t6 8 R w fun t7 w =>
 opU Pg (Instr.storeAt 9 t7 (.string { data := #[] })) (panK R) w fun w =>
 opN Pg (nilN t0) (panK R) w fun t8 w =>
 F0 52 t8 7 R w fun t9 w =>
 opU Pg (Instr.storeAt 49 t9 t5) (panK R) w fun w =>
 opN Pg (nilN t0) (panK R) w fun t10 w =>
 F0 52 t10 13 R w fun t11 w =>
 opU Pg (Instr.storeAt 3 t11 (.int .i64 0)) (panK R) w fun w =>
 R (.returned (.tuple #[])) w
theorem n76s {t0:Value} {R:RT} {w:World} (h:n76 t0 R w):Calls Pg 103 #[t0] w R:=by
 refine calls_of_den (args:=[t0]) Tryz.func103 rfl (Nat.le_of_ble_eq_true rfl) ?_
 unfold n76 at h
 refine zr<|zm<|zm<|zm ?_
 refine sim_build h rfl (fun _ _ h=>⟨rfl,h⟩) ?_;intro t5 w h
 refine sim_next h rfl rfl (fun _ _ h=>⟨rfl,h⟩) ?_;intro t6 w h
 refine zv h fun t7 w h=>?_
 refine zu h fun w h=>?_
 refine sim_next h rfl rfl (fun _ _ h=>⟨rfl,h⟩) ?_;intro t8 w h
 refine zv h fun t9 w h=>?_
 refine zu h fun w h=>?_
 refine sim_next h rfl rfl (fun _ _ h=>⟨rfl,h⟩) ?_;intro t10 w h
 refine zv h fun t11 w h=>?_
 refine zu h fun w h=>?_
 refine zn ?_
 refine body_normal ?_
 exact body_ret0 rfl h
def n77c1 (t0 t3:Value) (C1:World→Prop) (R:RT) (w:World):Prop :=
 qN Pg C1 (nilN t0) fun t11 =>
 qV Pg C1 (Instr.fieldAt 65 t11 2) fun t12 =>
 qV Pg C1 (Instr.loadAt 63 t12) fun t13 =>
 qV Pg C1 (Instr.fieldAt 52 t3 8) fun t14 =>
 qV Pg C1 (Instr.loadAt 9 t14) fun t15 =>
 qV Pg C1 (Instr.lookup 63 t13 t15 false) fun t16 =>
 C0 37 #[t0,t16,(.int .i64 8)] R w fun t17 w =>
 C1 w∧(
 L0 52 t3 R w fun t19 w =>
 C0 87 #[t0,t19] R w fun t20 w =>
 R (.returned (.tuple #[])) w)
def n77 (t0 t1:Value) (R:RT) (w:World):Prop :=
 opV Pg (Instr.box 52 t1) (panK R) w fun t3 w =>
 F0 52 t3 13 R w fun t5 w =>
 L0 3 t5 R w fun t6 w =>
 opV Pg (Instr.buildSlice 85 1 #[(0,t6)]) (panK R) w fun t7 w =>
 C0 81 #[t0,(.int .i64 0),(.int .i64 4294967295),t7] R w fun t8 w =>
 drawK w fun C1 w =>
 n77c1 t0 t3 C1 R w
theorem n77s {t0 t1:Value} {R:RT} {w:World} (h:n77 t0 t1 R w):Calls Pg 104 #[t0,t1] w R:=by
 refine calls_of_den (args:=[t0,t1]) Tryz.func104 rfl (Nat.le_of_ble_eq_true rfl) ?_
 unfold n77 at h
 refine zs<|zr ?_
 refine zv h fun t3 w h=>?_
 refine zn<|zk<|zs<|zr<|zm ?_
 refine zv h fun t5 w h=>?_
 refine zv h fun t6 w h=>?_
 refine sim_buildSlice h rfl (fun _ _ h=>⟨rfl,h⟩) ?_;intro t7 w h
 refine zc h c81 fun t8 w h=>?_
 refine zn<|zk<|zs ?_
 obtain ⟨C1,hC,h⟩:=h
 refine sim_draw [9,10,11,12,13,14,15,16,17] (by kernel_rfl) (by kernel_rfl) C1 ?_
 refine zw 0 hC ?_
 refine zw 1 hC ?_
 obtain ⟨t11,hv,h⟩:=h
 refine sim_dsilent 2 hC rfl (by kernel_rfl) (by kernel_rfl) (fun _ _=>rfl) rfl (Sw.qN_run rfl hv) ?_
 refine ze 3 hC h fun t12 h=>?_
 refine ze 4 hC h fun t13 h=>?_
 refine ze 5 hC h fun t14 h=>?_
 refine ze 6 hC h fun t15 h=>?_
 refine ze 7 hC h fun t16 h=>?_
 refine sim_dloud 8 rfl (by kernel_rfl) (fun _ _=>rfl) ?_
 refine sim_call h c37 rfl (fun _ _ h _ _=>⟨rfl,h⟩) ?_;intro t17 w h
 refine zn ?_
 obtain ⟨hC,h⟩:=h
 refine ⟨hC,?_⟩
 refine sim_dend (by kernel_rfl) ?_
 refine zk<|zr<|zm ?_
 refine zv h fun t19 w h=>?_
 refine zc h c87 fun t20 w h=>?_
 refine zn ?_
 refine body_normal ?_
 exact body_ret0 rfl h
def n87 (t0:Value) (R:RT) (w:World):Prop :=
 opV Pg (Instr.box 52 t0) (panK R) w fun t1 w =>
 opV Pg (Instr.alloc 137 true (.tuple #[])) (panK R) w fun t2 w =>
 F0 52 t1 0 R w fun t3 w =>
 L0 9 t3 R w fun t4 w =>
 F0 52 t1 8 R w fun t5 w =>
 L0 9 t5 R w fun t6 w =>
 F0 52 t1 9 R w fun t7 w =>
 L0 9 t7 R w fun t8 w =>
 F0 52 t1 10 R w fun t9 w =>
 L0 9 t9 R w fun t10 w =>
 F0 52 t1 1 R w fun t11 w =>
 L0 46 t11 R w fun t12 w =>
 F0 52 t1 2 R w fun t13 w =>
 L0 3 t13 R w fun t14 w =>
 F0 52 t1 5 R w fun t15 w =>
 L0 3 t15 R w fun t16 w =>
 F0 52 t1 6 R w fun t17 w =>
 L0 3 t17 R w fun t18 w =>
 F0 52 t1 7 R w fun t19 w =>
 F0 49 t19 0 R w fun t20 w =>
 L0 3 t20 R w fun t21 w =>
 F0 52 t1 12 R w fun t22 w =>
 L0 3 t22 R w fun t23 w =>
 F0 52 t1 13 R w fun t24 w =>
 L0 3 t24 R w fun t25 w =>
 F0 52 t1 3 R w fun t26 w =>
 L0 4 t26 R w fun t27 w =>
 F0 52 t1 4 R w fun t28 w =>
 L0 4 t28 R w fun t29 w =>
 opV Pg (Instr.build 137 #[(0,t4),(1,t6),(2,t8),(3,t10),(4,t12),(5,t14),(6,t16),(7,t18),(8,t21),(9,t23),(10,t25),(11,t27),(12,t29)]) (panK R) w fun t30 w =>
 opU Pg (Instr.storeAt 137 t2 t30) (panK R) w fun w =>
 qW Pg 137 t2 w fun r0 =>
 R (.returned r0) w
theorem n87s {t0:Value} {R:RT} {w:World} (h:n87 t0 R w):Calls Pg 105 #[t0] w R:=by
 refine calls_of_den (args:=[t0]) Tryz.func105 rfl (Nat.le_of_ble_eq_true rfl) ?_
 unfold n87 at h
 refine zs<|zr ?_
 refine zv h fun t1 w h=>?_
 refine zv h fun t2 w h=>?_
 refine zn<|zk<|zs<|zr ?_
 refine zv h fun t3 w h=>?_
 refine zv h fun t4 w h=>?_
 refine zv h fun t5 w h=>?_
 refine zv h fun t6 w h=>?_
 refine zv h fun t7 w h=>?_
 refine zv h fun t8 w h=>?_
 refine zv h fun t9 w h=>?_
 refine zv h fun t10 w h=>?_
 refine zv h fun t11 w h=>?_
 refine zv h fun t12 w h=>?_
 refine zv h fun t13 w h=>?_
 refine zv h fun t14 w h=>?_
 refine zv h fun t15 w h=>?_
 refine zv h fun t16 w h=>?_
 refine zv h fun t17 w h=>?_
 refine zv h fun t18 w h=>?_
 refine zv h fun t19 w h=>?_
 refine zv h fun t20 w h=>?_
 refine zv h fun t21 w h=>?_
 refine zv h fun t22 w h=>?_
 refine zv h fun t23 w h=>?_
 refine zv h fun t24 w h=>?_
 refine zv h fun t25 w h=>?_
 refine zv h fun t26 w h=>?_
 refine zv h fun t27 w h=>?_
 refine zv h fun t28 w h=>?_
 refine zv h fun t29 w h=>?_
 refine sim_build h rfl (fun _ _ h=>⟨rfl,h⟩) ?_;intro t30 w h
 refine zu h fun w h=>?_
 refine zn<|zk<|sim_ret ?_
 exact body_retC rfl rfl h
def n113c1 (t0 t1 t13:Value) (C2:World→Prop) (next1:KV) (R:RT) (w:World):Prop :=
 qV Pg C2 (Instr.indexAt 47 t0 t13) fun t18 =>
 qV Pg C2 (Instr.loadAt 78 t18) fun t19 =>
 qV Pg C2 (Instr.indexAt 47 t1 t13) fun t22 =>
 qV Pg C2 (Instr.loadAt 78 t22) fun t23 =>
 qV Pg C2 (binS .neq 78 false t19 t23) fun t24 =>
 condP t24 (
 R (.returned (.bool false)) w) (
 B0 .add 3 true t13 (.int .i64 1) R w fun t25 w =>
 next1 t25 w)
def n113c2 (t0 t1:Value) (R:RT) (w:World):Prop :=
 opV Pg (Builtin.len_ #[47] 3 #[t0]) (panK R) w fun t12 w =>
 loop1 (fun t13 w next1 =>
 B0 .lss 3 false t13 t12 R w fun t14 w =>
 condP t14 (
 drawK w fun C2 w =>
 n113c1 t0 t1 t13 C2 next1 R w) (
 R (.returned (.bool true)) w)) (.int .i64 0) w
def n113 (t0 t1:Value) (R:RT) (w:World):Prop :=
 opV Pg (Builtin.len_ #[47] 3 #[t0]) (panK R) w fun t7 w =>
 opV Pg (Builtin.len_ #[47] 3 #[t1]) (panK R) w fun t9 w =>
 B0 .neq 3 false t7 t9 R w fun t10 w =>
 condP t10 (
 R (.returned (.bool false)) w) (
 n113c2 t0 t1 R w)
theorem n113s {t0 t1:Value} {R:RT} {w:World} (h:n113 t0 t1 R w):Calls Pg 106 #[t0,t1] w R:=by
 refine calls_of_den (args:=[t0,t1]) Tryz.func106 rfl (Nat.le_of_ble_eq_true rfl) ?_
 unfold n113 at h
 refine zs<|zr<|zm<|zn<|zk<|zs<|zs<|zr<|zm ?_
 refine zx h fun t7 w h=>?_
 refine zm ?_
 refine zx h fun t9 w h=>?_
 refine zb h fun t10 w h=>?_
 refine zn<|zk ?_
 refine sim_cond h rfl (fun h=>?_) (fun h=>?_)
 · refine zs<|zr<|zm<|zn<|zk<|sim_ret<|sim_then_ret ?_
   exact body_ret1 rfl rfl h
 · refine sim_skip<|zk<|zs<|zs<|zr<|zm ?_
   refine zx h fun t12 w h=>?_
   refine zm<|zn<|zk<|sim_block ?_
   obtain ⟨I,μ,h0,hr⟩:=h
   refine sim_loop [4,5,13,14,15,16,17,18,19,20,21,22,23,24,25] (by kernel_rfl) (fun ρ w=>I (ρ 13) w) (fun ρ w=>μ (ρ 13) w) h0 (fun σ w hI=>?_)
   have h:=hr _ _ hI
   clear hr h0 hI
   refine zs<|zr ?_
   refine zb h fun t14 w h=>?_
   refine zn<|zk<|zs ?_
   refine sim_cond h rfl (fun h=>?_) (fun h=>?_)
   · refine sim_skip<|zk<|zs<|sim_block<|zs<|zr<|zm<|zm<|zn<|zk<|zs ?_
     obtain ⟨C2,hC,h⟩:=h
     refine sim_draw [16,17,18,19,20,21,22,23,24] (by kernel_rfl) (by kernel_rfl) C2 ?_
     refine zw 0 hC ?_
     refine zw 1 hC ?_
     refine ze 2 hC h fun t18 h=>?_
     refine ze 3 hC h fun t19 h=>?_
     refine zw 4 hC ?_
     refine zw 5 hC ?_
     refine ze 6 hC h fun t22 h=>?_
     refine ze 7 hC h fun t23 h=>?_
     obtain ⟨t24,hv,h⟩:=h
     refine sim_dsilent 8 hC rfl (by kernel_rfl) (by kernel_rfl) (fun _ _=>rfl) rfl (Sw.qV_bin rfl rfl rfl hv) ?_
     refine sim_dend (by kernel_rfl) ?_
     refine zk ?_
     refine sim_cond h rfl (fun h=>?_) (fun h=>?_)
     · refine zs<|zr<|zm<|zn<|zk<|sim_ret<|sim_block_ret<|sim_then_ret<|sim_then_ret<|sim_block_ret<|sim_then_ret ?_
       exact body_ret1 rfl rfl h
     · refine sim_skip<|sim_block_normal<|zk<|zr ?_
       refine zb h fun t25 w h=>?_
       refine zm<|zn<|zk ?_
       exact ⟨rfl,h⟩
   · refine sim_exit<|sim_then_exit<|sim_then_exit<|sim_block_hit<|zk<|zs<|zr<|zm<|zn<|zk<|sim_ret ?_
     exact body_ret1 rfl rfl h
def n112c1 (t0 t1 t13:Value) (C2:World→Prop) (next1:KV) (R:RT) (w:World):Prop :=
 qV Pg C2 (Instr.indexAt 50 t0 t13) fun t18 =>
 qV Pg C2 (Instr.loadAt 81 t18) fun t19 =>
 qV Pg C2 (Instr.indexAt 50 t1 t13) fun t22 =>
 qV Pg C2 (Instr.loadAt 81 t22) fun t23 =>
 qV Pg C2 (binS .neq 81 false t19 t23) fun t24 =>
 condP t24 (
 R (.returned (.bool false)) w) (
 B0 .add 3 true t13 (.int .i64 1) R w fun t25 w =>
 next1 t25 w)
def n112c2 (t0 t1:Value) (R:RT) (w:World):Prop :=
 opV Pg (Builtin.len_ #[50] 3 #[t0]) (panK R) w fun t12 w =>
 loop1 (fun t13 w next1 =>
 B0 .lss 3 false t13 t12 R w fun t14 w =>
 condP t14 (
 drawK w fun C2 w =>
 n112c1 t0 t1 t13 C2 next1 R w) (
 R (.returned (.bool true)) w)) (.int .i64 0) w
def n112 (t0 t1:Value) (R:RT) (w:World):Prop :=
 opV Pg (Builtin.len_ #[50] 3 #[t0]) (panK R) w fun t7 w =>
 opV Pg (Builtin.len_ #[50] 3 #[t1]) (panK R) w fun t9 w =>
 B0 .neq 3 false t7 t9 R w fun t10 w =>
 condP t10 (
 R (.returned (.bool false)) w) (
 n112c2 t0 t1 R w)
theorem n112s {t0 t1:Value} {R:RT} {w:World} (h:n112 t0 t1 R w):Calls Pg 107 #[t0,t1] w R:=by
 refine calls_of_den (args:=[t0,t1]) Tryz.func107 rfl (Nat.le_of_ble_eq_true rfl) ?_
 unfold n112 at h
 refine zs<|zr<|zm<|zn<|zk<|zs<|zs<|zr<|zm ?_
 refine zx h fun t7 w h=>?_
 refine zm ?_
 refine zx h fun t9 w h=>?_
 refine zb h fun t10 w h=>?_
 refine zn<|zk ?_
 refine sim_cond h rfl (fun h=>?_) (fun h=>?_)
 · refine zs<|zr<|zm<|zn<|zk<|sim_ret<|sim_then_ret ?_
   exact body_ret1 rfl rfl h
 · refine sim_skip<|zk<|zs<|zs<|zr<|zm ?_
   refine zx h fun t12 w h=>?_
   refine zm<|zn<|zk<|sim_block ?_
   obtain ⟨I,μ,h0,hr⟩:=h
   refine sim_loop [4,5,13,14,15,16,17,18,19,20,21,22,23,24,25] (by kernel_rfl) (fun ρ w=>I (ρ 13) w) (fun ρ w=>μ (ρ 13) w) h0 (fun σ w hI=>?_)
   have h:=hr _ _ hI
   clear hr h0 hI
   refine zs<|zr ?_
   refine zb h fun t14 w h=>?_
   refine zn<|zk<|zs ?_
   refine sim_cond h rfl (fun h=>?_) (fun h=>?_)
   · refine sim_skip<|zk<|zs<|sim_block<|zs<|zr<|zm<|zm<|zn<|zk<|zs ?_
     obtain ⟨C2,hC,h⟩:=h
     refine sim_draw [16,17,18,19,20,21,22,23,24] (by kernel_rfl) (by kernel_rfl) C2 ?_
     refine zw 0 hC ?_
     refine zw 1 hC ?_
     refine ze 2 hC h fun t18 h=>?_
     refine ze 3 hC h fun t19 h=>?_
     refine zw 4 hC ?_
     refine zw 5 hC ?_
     refine ze 6 hC h fun t22 h=>?_
     refine ze 7 hC h fun t23 h=>?_
     obtain ⟨t24,hv,h⟩:=h
     refine sim_dsilent 8 hC rfl (by kernel_rfl) (by kernel_rfl) (fun _ _=>rfl) rfl (Sw.qV_bin rfl rfl rfl hv) ?_
     refine sim_dend (by kernel_rfl) ?_
     refine zk ?_
     refine sim_cond h rfl (fun h=>?_) (fun h=>?_)
     · refine zs<|zr<|zm<|zn<|zk<|sim_ret<|sim_block_ret<|sim_then_ret<|sim_then_ret<|sim_block_ret<|sim_then_ret ?_
       exact body_ret1 rfl rfl h
     · refine sim_skip<|sim_block_normal<|zk<|zr ?_
       refine zb h fun t25 w h=>?_
       refine zm<|zn<|zk ?_
       exact ⟨rfl,h⟩
   · refine sim_exit<|sim_then_exit<|sim_then_exit<|sim_block_hit<|zk<|zs<|zr<|zm<|zn<|zk<|sim_ret ?_
     exact body_ret1 rfl rfl h
end Go.Proofs.YtiajhbbmgglmlaaGreat
namespace Go.Proofs.YtiajhbbmgglmlaaGreat
open Sw
open Go.RowKit (intOf Below)
theorem ContainsFunc_Field_ret (w0:World) (v:Value) (l:List FieldD) (g:FuncId) (caps:Array Value) (p:FieldD→Bool) (hs:FieldsOf w0 v l) (hg:Callable Pg g) (hc:Tests w0 FieldVal g caps p l) :
 Ret Pg 115 #[v,.func (.func g) #[] caps] w0 fun r w'=>r = .bool (l.any p)∧Ext w0 w':=by
 refine n107s (R:=retR _) ?_;unfold n107
 refine callK_ret (IndexFunc_Field_ret _ _ l g caps p hs hg hc) ?_
 rintro r w' ⟨rfl,e⟩
 simp (disch:=try exact DI) only [↓PR,QR,Int.reduceBEq,Int.reduceBNe,Int.reduceLT,Int.reduceLE,Int.reduceGT,Int.reduceGE,Int.reduceNeg,Sw.joinK_eq]
 exact ⟨by rw [idx_neg],e⟩
def taggedP (tag:ByteArray) (o:FieldD):Bool:=o.kind == 9&&decide (o.tag=tag)
theorem casesS1_ret (w0:World) (v:Value) (o f:FieldD) (pb:Nat) (tv cv:Value) (hv:FieldVal w0 v o) (hp:w0.heap[pb]?=some (.cells (fieldCells f tv cv).toArray 52 (0,0))) :
 Ret Pg 116 #[v,.pointer (some ⟨pb,0,none⟩)] w0 fun r w'=>r = .bool (taggedP f.tag o)∧Ext w0 w':=by
 obtain ⟨tv',cv',rfl,hT,hC,ht1,hc1⟩:=hv.op
 have hlt:=(Array.getElem?_eq_some_iff.1 hp).1
 refine n52s (R:=retR _) ?_;unfold n52
 simp (disch:=try exact DI) only [↓PR,QR,Int.reduceBEq,Int.reduceBNe,Int.reduceLT,Int.reduceLE,Int.reduceGT,Int.reduceGE,Int.reduceNeg,Sw.joinK_eq,(cells_of_heap hp).1]
 exact ⟨by first | trivial | rfl,ee⟩
def casesL (hi:Int) (deps:List (ByteArray×Value)):Int→List CaseD→Int
 | _,[]=>0
 | low,x::xs=>orC (withinC hi low [x.low,x.high]) (orC (needC (lastOf deps x.of).isSome 8) (casesL hi deps (IntKind.i64.wrap (x.high+1)) xs))
def casesC (bef:List FieldD) (deps:List (ByteArray×Value)) (f:FieldD):Int :=
 orC (needC ((lastR (numR bef) f.tag).isSome&&!bef.any (taggedP f.tag)) 8) (orC (needC (decide (1≤(f.cases.length:Int))&&decide ((f.cases.length:Int)≤40)) 3) (casesL (((lastR (numR bef) f.tag).getD (0,0)).2) deps (((lastR (numR bef) f.tag).getD (0,0)).1) f.cases))
section
variable {w0:World} {cb md ms:Nat} {deps strs:List (ByteArray×Value)} {at_ fld:Int} {fs:List FieldD}
theorem cases_tail {a0:World} (e00:Ext a0 w0) (h:Chk w0 cb md ms deps strs at_ fld fs) (pf p4:Nat) (f:FieldD) (tv cv:Value) (lo hi:Int) (hC:CasesOf w0 cv f.cases) (o3:w0.heap[pf]?=some (.cells (fieldCells f tv cv).toArray 52 (0,0))) (o4:w0.heap[p4]?=some (.cells #[.int .i64 lo,.int .i64 hi] 58 (0,0))) :
 n51c4 (.pointer (some ⟨cb,0,none⟩)) (.pointer (some ⟨pf,0,none⟩)) (.pointer (some ⟨p4,0,none⟩)) (flwR a0 at_ fld (casesL hi deps lo f.cases)) w0:=by
 obtain ⟨A,c,rfl,hlc,hcm,hlm,hel⟩:=SliceOf.open hC
 simp (disch:=try exact DI) only [↓PR,QR,Int.reduceBEq,Int.reduceBNe,Int.reduceLT,Int.reduceLE,Int.reduceGT,Int.reduceGE,Int.reduceNeg,↓n51c1,↓n51c2,↓n51c3,↓n51c4,↓n51c5,↓n51c6,↓n51c7,↓n51c8,↓n51c9,↓n51c10,↓n51c11,↓n51c12,↓n51c13,(cells_of_heap o3).1,(cells_of_heap o4).1]
 refine loop2_intro (fun a0 a1 w=>∃ (k:Nat) (n:Int),a0 = .int .i64 n∧a1 = .int .i64 (k:Int)∧k≤f.cases.length∧Ext w0 w∧casesL hi deps n (f.cases.drop k)=casesL hi deps lo f.cases) (fun a0 a1 _=>f.cases.length - (intOf a1).toNat) ⟨0,lo,rfl,rfl,Nat.zero_le _,ee,rfl⟩ ?_
 rintro _ _ w ⟨k,n,rfl,rfl,hk,e,hI⟩
 have se:=e.size
 rcases drop_cases hk with ⟨x,hx,hd,hlt,hdec⟩ | ⟨hk,hd,hdec⟩
 · obtain ⟨b,o,cs,rfl,hl,hA,rfl⟩:=hel k x hx
   have l4:p4 < w.heap.size:=(Array.getElem?_eq_some_iff.1 (e.obj o4)).1
   rw [hd] at hI
   simp only [casesL] at hI
   simp (disch:=try exact DI) only [↓PR,QR,Int.reduceBEq,Int.reduceBNe,Int.reduceLT,Int.reduceLE,Int.reduceGT,Int.reduceGE,Int.reduceNeg,↓n51c1,↓n51c2,↓n51c3,↓n51c4,↓n51c5,↓n51c6,↓n51c7,↓n51c8,↓n51c9,↓n51c10,↓n51c11,↓n51c12,↓n51c13,hdec,hA.c3,(cells_of_heap (e.obj o4)).1]
   generalize hW:World.alloc (World.alloc w _) _=W
   have eW:Ext w W:=by rw [← hW];exact ee
   have o9:W.heap[w.heap.size]?=some (.cells #[.int .i64 x.low,.int .i64 x.high,.string x.of] 81 (0,0)):=by rw [← hW];simp (disch:=try exact DI) only [↓PR,QR,Int.reduceBEq,Int.reduceBNe,Int.reduceLT,Int.reduceLE,Int.reduceGT,Int.reduceGE,Int.reduceNeg]
   have hIn:IntsOf W (.slice (some ⟨w.heap.size+1,0,none⟩) 2 2) [x.low,x.high]:=by rw [← hW];exact ints2 (by simp only [World.size_alloc]) _ _ _
   clear hW
   refine callK_flw (within_flw (h.ext (e.trans eW)) n hi _ _ hIn) (fun w1 e1 h0=>?_) (fun w1 e1 h0=>?_)
   · rw [h0,orC_zero] at hI
     have er1:=eW.trans e1
     simp (disch:=try exact DI) only [↓PR,QR,Int.reduceBEq,Int.reduceBNe,Int.reduceLT,Int.reduceLE,Int.reduceGT,Int.reduceGE,Int.reduceNeg,↓n51c1,↓n51c2,↓n51c3,↓n51c4,↓n51c5,↓n51c6,↓n51c7,↓n51c8,↓n51c9,↓n51c10,↓n51c11,↓n51c12,↓n51c13,(cells_of_heap (e1.obj o9)).1]
     refine callK_flw (refer_flw (h.ext (e.trans er1)) x.of) (fun w2 e2 h0=>?_) (fun w2 e2 h0=>?_)
     · rw [h0,orC_zero] at hI
       simp (disch:=try exact DI) only [↓PR,QR,Int.reduceBEq,Int.reduceBNe,Int.reduceLT,Int.reduceLE,Int.reduceGT,Int.reduceGE,Int.reduceNeg,↓n51c1,↓n51c2,↓n51c3,↓n51c4,↓n51c5,↓n51c6,↓n51c7,↓n51c8,↓n51c9,↓n51c10,↓n51c11,↓n51c12,↓n51c13,(cells_of_heap ((e1.trans e2).obj o9)).1]
       exact ⟨⟨k+1,_,rfl,rfl,by omega,ee,hI⟩,meas_lt hlt⟩
     · rw [orC_ne h0] at hI
       exact flwR_pan (e00.trans (e.trans (er1.trans e2))) hI.symm h0
   · rw [orC_ne h0] at hI
     exact flwR_pan (e00.trans (e.trans (eW.trans e1))) hI.symm h0
 · subst hk
   simp (disch:=try exact DI) only [↓PR,QR,Int.reduceBEq,Int.reduceBNe,Int.reduceLT,Int.reduceLE,Int.reduceGT,Int.reduceGE,Int.reduceNeg,↓n51c1,↓n51c2,↓n51c3,↓n51c4,↓n51c5,↓n51c6,↓n51c7,↓n51c8,↓n51c9,↓n51c10,↓n51c11,↓n51c12,↓n51c13,hdec]
   rw [hd] at hI
   exact flwR_ret (e00.trans e) hI.symm
theorem cases_mid {a0:World} (e00:Ext a0 w0) (h:Chk w0 cb md ms deps strs at_ fld fs) (i:Nat) (hi:fld=i) (hlt:i < fs.length) (pf p4:Nat) (f:FieldD) (tv cv:Value) (lo hi':Int) (b:Bool) (hC:CasesOf w0 cv f.cases) (o3:w0.heap[pf]?=some (.cells (fieldCells f tv cv).toArray 52 (0,0))) (o4:w0.heap[p4]?=some (.cells #[.int .i64 lo,.int .i64 hi'] 58 (0,0)))
 (hb:b=(lastR (numR (fs.take i)) f.tag).isSome) (hlo:b=true→lo=((lastR (numR (fs.take i)) f.tag).getD (0,0)).1∧hi'=((lastR (numR (fs.take i)) f.tag).getD (0,0)).2) :
 n51c7 (.pointer (some ⟨cb,0,none⟩)) (.pointer (some ⟨pf,0,none⟩)) (.pointer (some ⟨p4,0,none⟩)) (.bool b) (flwR a0 at_ fld (casesC (fs.take i) deps f)) w0:=by
 unfold n51c7
 refine callK_ret (before_ret h i hi hlt) ?_
 rintro bv w1 ⟨hB,e1⟩
 simp (disch:=try exact DI) only [↓PR,QR,Int.reduceBEq,Int.reduceBNe,Int.reduceLT,Int.reduceLE,Int.reduceGT,Int.reduceGE,Int.reduceNeg]
 refine callK_ret (ContainsFunc_Field_ret _ _ _ _ _ (taggedP f.tag) hB c116 ?_) ?_
 · intro w v o _ e hv
   exact casesS1_ret w v o f pf tv cv hv ((e1.trans e).obj o3)
 rintro _ w2 ⟨rfl,e2⟩
 have e12:=e1.trans e2
 simp (disch:=try exact DI) only [↓PR,QR,Int.reduceBEq,Int.reduceBNe,Int.reduceLT,Int.reduceLE,Int.reduceGT,Int.reduceGE,Int.reduceNeg,↓n51c6]
 unfold casesC
 refine callK_flw (need_flw (h.ext e12) _ 8 (by decide)) (fun w3 e3 h0=>?_) (fun w3 e3 h0=>?_)
 · rw [← hb,h0,orC_zero]
   have hbt:b=true:=by
    cases b with
    | true=>rfl
    | false=>exact absurd h0 (by simp [needC])
   obtain ⟨h1,h2⟩:=hlo hbt
   rw [← h1,← h2]
   have e13:=e12.trans e3
   obtain ⟨A,c,rfl,_⟩:=SliceOf.open hC
   simp (disch:=try exact DI) only [↓PR,QR,Int.reduceBEq,Int.reduceBNe,Int.reduceLT,Int.reduceLE,Int.reduceGT,Int.reduceGE,Int.reduceNeg,↓n51c5,(cells_of_heap (e13.obj o3)).1]
   refine callK_flw (need_flw (h.ext e13) _ 3 (by decide)) (fun w4 e4 h0=>?_) (fun w4 e4 h0=>?_)
   · rw [h0,orC_zero]
     have e14:=e13.trans e4
     exact cases_tail (e00.trans e14) (h.ext e14) pf p4 f tv _ lo hi' (CasesOf.ext hC e14) (e14.obj o3) (e14.obj o4)
   · rw [orC_ne h0]
     exact flwR_pan (e00.trans (e13.trans e4)) rfl h0
 · rw [← hb,orC_ne h0]
   exact flwR_pan (e00.trans (e12.trans e3)) rfl h0
theorem cases_flw (h:Chk w0 cb md ms deps strs at_ fld fs) (i:Nat) (hi:fld=i) (hlt:i < fs.length) (v:Value) (f:FieldD) (hf:FieldVal w0 v f):Calls Pg 98 #[.pointer (some ⟨cb,0,none⟩),v] w0 (flwR w0 at_ fld (casesC (fs.take i) deps f)):=by
 obtain ⟨tv,cv,rfl,hT,hC,ht1,hc1⟩:=hf.op
 refine n51s ?_;unfold n51
 simp (disch:=try exact DI) only [↓PR,QR,Int.reduceBEq,Int.reduceBNe,Int.reduceLT,Int.reduceLE,Int.reduceGT,Int.reduceGE,Int.reduceNeg]
 generalize hW:World.alloc w0 _=W
 have e0:Ext w0 W:=by rw [← hW];exact ee
 have o3:W.heap[w0.heap.size]?=some (.cells (fieldCells f tv cv).toArray 52 (0,0)):=by rw [← hW];simp (disch:=try exact DI) only [↓PR,QR,Int.reduceBEq,Int.reduceBNe,Int.reduceLT,Int.reduceLE,Int.reduceGT,Int.reduceGE,Int.reduceNeg]
 clear hW
 refine drawK_intro ?_
 simp (disch:=try exact DI) only [↓PR,QR,Int.reduceBEq,Int.reduceBNe,Int.reduceLT,Int.reduceLE,Int.reduceGT,Int.reduceGE,Int.reduceNeg,↓n51c13,(cells_of_heap o3).1]
 have key:∀ w' p4 b lo hi',Ext W w'→w'.heap[p4]?=some (.cells #[.int .i64 lo,.int .i64 hi'] 58 (0,0))→b=(lastR (numR (fs.take i)) f.tag).isSome→(b=true→lo=((lastR (numR (fs.take i)) f.tag).getD (0,0)).1∧hi'=((lastR (numR (fs.take i)) f.tag).getD (0,0)).2) →
  n51c7 (.pointer (some ⟨cb,0,none⟩)) (.pointer (some ⟨w0.heap.size,0,none⟩)) (.pointer (some ⟨p4,0,none⟩)) (.bool b) (flwR w0 at_ fld (casesC (fs.take i) deps f)) w':=by
  intro w' p4 b lo hi' e o4 hb hlo
  exact cases_mid (e0.trans e) (h.ext (e0.trans e)) i hi hlt _ p4 f tv cv lo hi' b (CasesOf.ext hC (e0.trans e)) (e.obj o3) o4 hb hlo
 have eD:Ext W W.drew:=(Ext.refl W).wdrew
 have fin9:∀ (w2:World) (m p4:Nat) (u0 u1:Value),Ext W.drew w2→MapOf w2 m (RP (numR (fs.take i)))→w2.heap[p4]?=some (.cells #[u0,u1] 58 (0,0))→W.heap.size≤p4 →
  n51c9 (.pointer (some ⟨p4,0,none⟩)) (.map (some m)) (.string f.tag) (KL W.drew m (RP (numR (fs.take i)))) (fun t4 t5 w=>n51c7 (.pointer (some ⟨cb,0,none⟩)) (.pointer (some ⟨w0.heap.size,0,none⟩)) t4 t5 (flwR w0 at_ fld (casesC (fs.take i) deps f)) w) (flwR w0 at_ fld (casesC (fs.take i) deps f)) w2:=by
  intro w2 m p4 u0 u1 e2 hM o4 hp4
  haveI:ClassNe (KL W.drew m (RP (numR (fs.take i)))):=⟨⟨w2,e2,hM⟩⟩
  unfold n51c9
  rw [qV_lookupKL Tryz.underlying55 Tryz.underlying9 ty58 ⟨w2,e2,hM⟩,lastOf_RP]
  have hfin:∀ lo hi' b,b=(lastR (numR (fs.take i)) f.tag).isSome→(b=true→lo=((lastR (numR (fs.take i)) f.tag).getD (0,0)).1∧hi'=((lastR (numR (fs.take i)) f.tag).getD (0,0)).2) →
   KL W.drew m (RP (numR (fs.take i))) ((w2.setCell ⟨p4,0,none⟩ (.int .i64 lo)).setCell ⟨p4,1,none⟩ (.int .i64 hi'))∧n51c7 (.pointer (some ⟨cb,0,none⟩)) (.pointer (some ⟨w0.heap.size,0,none⟩)) (.pointer (some ⟨p4,0,none⟩)) (.bool b) (flwR w0 at_ fld (casesC (fs.take i) deps f)) ((w2.setCell ⟨p4,0,none⟩ (.int .i64 lo)).setCell ⟨p4,1,none⟩ (.int .i64 hi')):=by
   intro lo hi' b hb hlo
   have e3:Ext W.drew ((w2.setCell ⟨p4,0,none⟩ (.int .i64 lo)).setCell ⟨p4,1,none⟩ (.int .i64 hi')):=(e2.setCell (show W.drew.heap.size≤(⟨p4,0,none⟩:Addr).block from hp4) _).setCell (show W.drew.heap.size≤(⟨p4,1,none⟩:Addr).block from hp4) _
   refine ⟨⟨e3,(hM.setCell _ _).setCell _ _⟩,key _ p4 b lo hi' (eD.trans e3) ?_ hb hlo⟩
   have:=heap_set (o:=1) (heap_set (o:=0) o4 (.int .i64 lo)) (.int .i64 hi')
   simpa using this
  cases hl:lastR (numR (fs.take i)) f.tag with
  | none =>
   rw [hl] at hfin
   simp (disch:=try exact DI) only [↓PR,QR,Int.reduceBEq,Int.reduceBNe,Int.reduceLT,Int.reduceLE,Int.reduceGT,Int.reduceGE,Int.reduceNeg,Option.map_none,(cells_of_heap o4).1,(cells_of_heap o4).2]
   exact hfin 0 0 false rfl (by simp)
  | some q =>
   obtain ⟨lo,hi'⟩:=q
   rw [hl] at hfin
   simp (disch:=try exact DI) only [↓PR,QR,Int.reduceBEq,Int.reduceBNe,Int.reduceLT,Int.reduceLE,Int.reduceGT,Int.reduceGE,Int.reduceNeg,(cells_of_heap o4).1,(cells_of_heap o4).2,rangeVal]
   exact hfin lo hi' true rfl (fun _=>⟨rfl,rfl⟩)
 refine ⟨?_,?_⟩
 · refine callK_ret (before_ret (h.ext (e0.trans eD)) i hi hlt) ?_
   rintro bv w1 ⟨hB,e1⟩
   refine narrowK_same e1 ?_
   unfold n51c10
   refine ⟨?_,?_⟩
   · refine callK_ret (ranges_ret _ _ _ hB) ?_
     rintro _ w2 ⟨m,rfl,_,hM,e2⟩
     rw [numPairs_RP] at hM
     refine narrowK_KL (e1.trans e2) hM ?_
     unfold n51c8
     simp only [drew_wdrew]
     haveI:ClassNe (KL W.drew m (RP (numR (fs.take i)))):=⟨⟨w2,e1.trans e2,hM⟩⟩
     rw [qV_lookupKL Tryz.underlying55 Tryz.underlying9 ty58 ⟨w2,e1.trans e2,hM⟩]
     have h9:=fin9 (w2.alloc (.cells #[.int .i64 0,.int .i64 0] 58)) m w2.heap.size _ _ ((e1.trans e2).alloc _) (hM.ext ((Ext.refl _).alloc _)) (heap_new _ _ _) (by have:=(e1.trans e2).size;simpa using this)
     unfold n51c9 at h9
     rw [qV_lookupKL Tryz.underlying55 Tryz.underlying9 ty58 ⟨w2,e1.trans e2,hM⟩] at h9
     simp (disch:=try exact DI) only [↓PR,QR,Int.reduceBEq,Int.reduceBNe,Int.reduceLT,Int.reduceLE,Int.reduceGT,Int.reduceGE,Int.reduceNeg]
     refine ⟨⟨(e1.trans e2).alloc _,hM.ext ((Ext.refl _).alloc _)⟩,?_⟩
     simp only [↓Sw.GENQ] at h9
     exact h9
   · simp (disch:=try exact DI) only [↓PR,QR,Int.reduceBEq,Int.reduceBNe,Int.reduceLT,Int.reduceLE,Int.reduceGT,Int.reduceGE,Int.reduceNeg]
     refine ⟨e1.alloc _,?_⟩
     refine callK_ret (ranges_ret _ _ _ (FieldsOf.ext hB ((Ext.refl _).alloc _))) ?_
     rintro _ w2 ⟨m,rfl,_,hM,e2⟩
     rw [numPairs_RP] at hM
     have s1:=e1.size
     simp only [World.size_drew] at s1
     refine narrowK_KL ((e1.alloc _).trans e2) hM ?_
     exact fin9 w2 m w1.heap.size _ _ ((e1.alloc _).trans e2) hM (e2.obj (heap_new _ _ _)) s1
 · refine ⟨(Ext.refl _).alloc _,?_⟩
   unfold n51c12
   refine callK_ret (before_ret (h.ext ((e0.trans eD).alloc _)) i hi hlt) ?_
   rintro bv w1 ⟨hB,e1⟩
   refine narrowK_same (((Ext.refl _).alloc _).trans e1) ?_
   refine callK_ret (ranges_ret _ _ _ hB) ?_
   rintro _ w2 ⟨m,rfl,_,hM,e2⟩
   rw [numPairs_RP] at hM
   refine narrowK_KL (((Ext.refl _).alloc _).trans (e1.trans e2)) hM ?_
   exact fin9 w2 m W.heap.size _ _ (((Ext.refl _).alloc _).trans (e1.trans e2)) hM ((e1.trans e2).obj (heap_new W.drew _ _)) (Nat.le_refl _)
end
end Go.Proofs.YtiajhbbmgglmlaaGreat
namespace Go.Proofs.YtiajhbbmgglmlaaGreat
open Sw
open Go.RowKit (intOf Below)
section
variable {w0:World} {cb md ms:Nat} {deps strs:List (ByteArray×Value)} {at_ fld:Int} {fs:List FieldD}
def topF (f:FieldD):Int:=2 ^ f.bits.toNat - 1
theorem top_wrap {f:FieldD} (h:bitsB f=true):0≤f.bits∧f.bits≤64∧IntKind.i64.wrap (IntKind.i64.wrap (1*2 ^ f.bits.toNat) - 1)=topF f:=by
 unfold bitsB at h
 simp only [Bool.and_eq_true,decide_eq_true_eq] at h
 obtain ⟨⟨h1,h2⟩,_⟩:=h
 have hc:(2:Int) ^ f.bits.toNat=((2 ^ f.bits.toNat:Nat):Int):=by simp
 have hp1:2 ^ f.bits.toNat≤2 ^ 32:=Nat.pow_le_pow_right (by decide) (by omega)
 have hp:(2:Int) ^ f.bits.toNat≤4294967296:=by rw [hc];omega
 have hp0:(0:Int) < 2 ^ f.bits.toNat:=Int.pow_pos (by decide)
 refine ⟨by omega,by omega,?_⟩
 unfold topF
 rw [Int.one_mul,show IntKind.i64.wrap (2 ^ f.bits.toNat)=2 ^ f.bits.toNat from wrap_ok (by omega) (by omega),wrap_ok (by omega) (by omega)]
theorem needC_zero {b:Bool} {c:Int} (hc:c≠0) (h:needC b c=0):b=true:=by
 cases b with
 | true=>rfl
 | false=>exact absurd h hc
theorem uint_flw (h:Chk w0 cb md ms deps strs at_ fld fs) (v:Value) (f:FieldD) (hf:FieldVal w0 v f):Calls Pg 79 #[.pointer (some ⟨cb,0,none⟩),v] w0 (flwR w0 at_ fld (orC (needC (bitsB f) 6) (withinC (topF f) 0 [f.low,f.high]))):=by
 obtain ⟨tv,cv,rfl,hT,hC,ht1,hc1⟩:=hf.op
 refine n74s ?_;unfold n74
 simp (disch:=try exact DI) only [↓PR,QR,Int.reduceBEq,Int.reduceBNe,Int.reduceLT,Int.reduceLE,Int.reduceGT,Int.reduceGE,Int.reduceNeg]
 generalize hW:World.alloc w0 _=W
 have e0:Ext w0 W:=by rw [← hW];exact ee
 have o3:W.heap[w0.heap.size]?=some (.cells (fieldCells f tv cv).toArray 52 (0,0)):=by rw [← hW];simp (disch:=try exact DI) only [↓PR,QR,Int.reduceBEq,Int.reduceBNe,Int.reduceLT,Int.reduceLE,Int.reduceGT,Int.reduceGE,Int.reduceNeg]
 clear hW
 simp (disch:=try exact DI) only [↓PR,QR,Int.reduceBEq,Int.reduceBNe,Int.reduceLT,Int.reduceLE,Int.reduceGT,Int.reduceGE,Int.reduceNeg,(cells_of_heap o3).1]
 refine callK_flw (bits_flw (h.ext e0) _ f ⟨tv,cv,rfl,TermsOf.ext hT e0,CasesOf.ext hC e0⟩) (fun w1 e1 h0=>?_) (fun w1 e1 h0=>?_)
 · rw [h0,orC_zero]
   obtain ⟨ha,hb,hw⟩:=top_wrap (needC_zero (by decide) h0)
   have e01:=e0.trans e1
   have l1:w0.heap.size < w1.heap.size:=(Array.getElem?_eq_some_iff.1 (e1.obj o3)).1
   refine drawK_intro ?_
   simp (disch:=try exact DI) only [↓PR,QR,Int.reduceBEq,Int.reduceBNe,Int.reduceLT,Int.reduceLE,Int.reduceGT,Int.reduceGE,Int.reduceNeg,↓n74c1,(cells_of_heap (e1.obj o3)).1,hw]
   generalize hW:World.alloc (World.drew w1) _=W2
   have eD:Ext w1.drew W2:=by rw [← hW];exact ee
   have hIn:IntsOf W2 (.slice (some ⟨w1.heap.size,0,none⟩) 2 2) [f.low,f.high]:=by rw [← hW];exact ints2 rfl _ _ _
   clear hW
   have eE:Ext w0 W2:=(e01.wdrew).trans eD
   refine ⟨eD,?_⟩
   refine callK_flw (within_flw (h.ext eE) 0 (topF f) _ _ hIn) (fun w2 e2 h0=>?_) (fun w2 e2 h0=>?_)
   · exact ⟨eD.trans e2,flwR_ret (eE.trans e2) h0⟩
   · exact flwR_pan (eE.trans e2) rfl h0
 · rw [orC_ne h0]
   exact flwR_pan (e0.trans e1) rfl h0
theorem const_flw (h:Chk w0 cb md ms deps strs at_ fld fs) (v:Value) (f:FieldD) (hf:FieldVal w0 v f):Calls Pg 83 #[.pointer (some ⟨cb,0,none⟩),v] w0 (flwR w0 at_ fld (orC (needC (bitsB f) 6) (withinC (topF f) 0 [f.low]))):=by
 obtain ⟨tv,cv,rfl,hT,hC,ht1,hc1⟩:=hf.op
 refine n79s ?_;unfold n79
 simp (disch:=try exact DI) only [↓PR,QR,Int.reduceBEq,Int.reduceBNe,Int.reduceLT,Int.reduceLE,Int.reduceGT,Int.reduceGE,Int.reduceNeg]
 generalize hW:World.alloc w0 _=W
 have e0:Ext w0 W:=by rw [← hW];exact ee
 have o3:W.heap[w0.heap.size]?=some (.cells (fieldCells f tv cv).toArray 52 (0,0)):=by rw [← hW];simp (disch:=try exact DI) only [↓PR,QR,Int.reduceBEq,Int.reduceBNe,Int.reduceLT,Int.reduceLE,Int.reduceGT,Int.reduceGE,Int.reduceNeg]
 clear hW
 simp (disch:=try exact DI) only [↓PR,QR,Int.reduceBEq,Int.reduceBNe,Int.reduceLT,Int.reduceLE,Int.reduceGT,Int.reduceGE,Int.reduceNeg,(cells_of_heap o3).1]
 refine callK_flw (bits_flw (h.ext e0) _ f ⟨tv,cv,rfl,TermsOf.ext hT e0,CasesOf.ext hC e0⟩) (fun w1 e1 h0=>?_) (fun w1 e1 h0=>?_)
 · rw [h0,orC_zero]
   obtain ⟨ha,hb,hw⟩:=top_wrap (needC_zero (by decide) h0)
   have e01:=e0.trans e1
   have l1:w0.heap.size < w1.heap.size:=(Array.getElem?_eq_some_iff.1 (e1.obj o3)).1
   refine drawK_intro ?_
   simp (disch:=try exact DI) only [↓PR,QR,Int.reduceBEq,Int.reduceBNe,Int.reduceLT,Int.reduceLE,Int.reduceGT,Int.reduceGE,Int.reduceNeg,↓n79c1,(cells_of_heap (e1.obj o3)).1,hw]
   generalize hW:World.alloc (World.drew w1) _=W2
   have eD:Ext w1.drew W2:=by rw [← hW];exact ee
   have hIn:IntsOf W2 (.slice (some ⟨w1.heap.size,0,none⟩) 1 1) [f.low]:=by rw [← hW];exact ints1 rfl _ _
   clear hW
   have eE:Ext w0 W2:=(e01.wdrew).trans eD
   refine ⟨eD,?_⟩
   refine callK_flw (within_flw (h.ext eE) 0 (topF f) _ _ hIn) (fun w2 e2 h0=>?_) (fun w2 e2 h0=>?_)
   · exact ⟨eD.trans e2,flwR_ret (eE.trans e2) h0⟩
   · exact flwR_pan (eE.trans e2) rfl h0
 · rw [orC_ne h0]
   exact flwR_pan (e0.trans e1) rfl h0
theorem varint_flw (h:Chk w0 cb md ms deps strs at_ fld fs) (v:Value) (f:FieldD) (hf:FieldVal w0 v f):Calls Pg 85 #[.pointer (some ⟨cb,0,none⟩),v] w0 (flwR w0 at_ fld (withinC 34359738367 0 [f.low,f.high])):=by
 obtain ⟨tv,cv,rfl,hT,hC,ht1,hc1⟩:=hf.op
 refine n81s ?_;unfold n81
 simp (disch:=try exact DI) only [↓PR,QR,Int.reduceBEq,Int.reduceBNe,Int.reduceLT,Int.reduceLE,Int.reduceGT,Int.reduceGE,Int.reduceNeg]
 generalize hW:World.alloc (World.alloc w0 _) _=W
 have e0:Ext w0 W:=by rw [← hW];exact ee
 have o3:W.heap[w0.heap.size]?=some (.cells (fieldCells f tv cv).toArray 52 (0,0)):=by rw [← hW];simp (disch:=try exact DI) only [↓PR,QR,Int.reduceBEq,Int.reduceBNe,Int.reduceLT,Int.reduceLE,Int.reduceGT,Int.reduceGE,Int.reduceNeg]
 have hIn:IntsOf W (.slice (some ⟨w0.heap.size+1,0,none⟩) 2 2) [f.low,f.high]:=by rw [← hW];exact ints2 (by simp only [World.size_alloc]) _ _ _
 clear hW
 refine callK_flw (within_flw (h.ext e0) 0 34359738367 _ _ hIn) (fun w1 e1 h0=>?_) (fun w1 e1 h0=>?_)
 · exact flwR_ret (e0.trans e1) h0
 · exact flwR_pan (e0.trans e1) rfl h0
theorem headers_flw (h:Chk w0 cb md ms deps strs at_ fld fs) (v:Value) (f:FieldD) (hf:FieldVal w0 v f):Calls Pg 91 #[.pointer (some ⟨cb,0,none⟩),v] w0 (flwR w0 at_ fld (withinC 1048576 2 [f.high])):=by
 obtain ⟨tv,cv,rfl,hT,hC,ht1,hc1⟩:=hf.op
 refine n65s ?_;unfold n65
 simp (disch:=try exact DI) only [↓PR,QR,Int.reduceBEq,Int.reduceBNe,Int.reduceLT,Int.reduceLE,Int.reduceGT,Int.reduceGE,Int.reduceNeg]
 generalize hW:World.alloc (World.alloc w0 _) _=W
 have e0:Ext w0 W:=by rw [← hW];exact ee
 have o3:W.heap[w0.heap.size]?=some (.cells (fieldCells f tv cv).toArray 52 (0,0)):=by rw [← hW];simp (disch:=try exact DI) only [↓PR,QR,Int.reduceBEq,Int.reduceBNe,Int.reduceLT,Int.reduceLE,Int.reduceGT,Int.reduceGE,Int.reduceNeg]
 have hIn:IntsOf W (.slice (some ⟨w0.heap.size+1,0,none⟩) 1 1) [f.high]:=by rw [← hW];exact ints1 (by simp only [World.size_alloc]) _ _
 clear hW
 refine callK_flw (within_flw (h.ext e0) 2 1048576 _ _ hIn) (fun w1 e1 h0=>?_) (fun w1 e1 h0=>?_)
 · exact flwR_ret (e0.trans e1) h0
 · exact flwR_pan (e0.trans e1) rfl h0
theorem until_flw (h:Chk w0 cb md ms deps strs at_ fld fs) (v:Value) (f:FieldD) (hf:FieldVal w0 v f):Calls Pg 89 #[.pointer (some ⟨cb,0,none⟩),v] w0 (flwR w0 at_ fld (orC (withinC 255 0 [f.low]) (withinC 1048576 0 [f.high]))):=by
 obtain ⟨tv,cv,rfl,hT,hC,ht1,hc1⟩:=hf.op
 refine n84s ?_;unfold n84
 simp (disch:=try exact DI) only [↓PR,QR,Int.reduceBEq,Int.reduceBNe,Int.reduceLT,Int.reduceLE,Int.reduceGT,Int.reduceGE,Int.reduceNeg]
 generalize hW:World.alloc (World.alloc w0 _) _=W
 have e0:Ext w0 W:=by rw [← hW];exact ee
 have o3:W.heap[w0.heap.size]?=some (.cells (fieldCells f tv cv).toArray 52 (0,0)):=by rw [← hW];simp (disch:=try exact DI) only [↓PR,QR,Int.reduceBEq,Int.reduceBNe,Int.reduceLT,Int.reduceLE,Int.reduceGT,Int.reduceGE,Int.reduceNeg]
 have hIn:IntsOf W (.slice (some ⟨w0.heap.size+1,0,none⟩) 1 1) [f.low]:=by rw [← hW];exact ints1 (by simp only [World.size_alloc]) _ _
 clear hW
 refine callK_flw (within_flw (h.ext e0) 0 255 _ _ hIn) (fun w1 e1 h0=>?_) (fun w1 e1 h0=>?_)
 · rw [h0,orC_zero]
   have e01:=e0.trans e1
   simp (disch:=try exact DI) only [↓PR,QR,Int.reduceBEq,Int.reduceBNe,Int.reduceLT,Int.reduceLE,Int.reduceGT,Int.reduceGE,Int.reduceNeg,↓n84c1,(cells_of_heap (e1.obj o3)).1]
   refine callK_flw (within_flw ((h.ext e01).ext ((Ext.refl _).alloc _)) 0 1048576 _ _ (ints1 rfl _ _)) (fun w2 e2 h0=>?_) (fun w2 e2 h0=>?_)
   · exact flwR_ret ((e01.alloc _).trans e2) h0
   · exact flwR_pan ((e01.alloc _).trans e2) rfl h0
 · rw [orC_ne h0]
   exact flwR_pan (e0.trans e1) rfl h0
theorem message_flw (h:Chk w0 cb md ms deps strs at_ fld fs) (v:Value) (f:FieldD) (hf:FieldVal w0 v f):Calls Pg 96 #[.pointer (some ⟨cb,0,none⟩),v] w0 (flwR w0 at_ fld (needC (lastOf deps f.of).isSome 8)):=by
 obtain ⟨tv,cv,rfl,hT,hC,ht1,hc1⟩:=hf.op
 refine n69s ?_;unfold n69
 simp (disch:=try exact DI) only [↓PR,QR,Int.reduceBEq,Int.reduceBNe,Int.reduceLT,Int.reduceLE,Int.reduceGT,Int.reduceGE,Int.reduceNeg]
 generalize hW:World.alloc w0 _=W
 have e0:Ext w0 W:=by rw [← hW];exact ee
 have o3:W.heap[w0.heap.size]?=some (.cells (fieldCells f tv cv).toArray 52 (0,0)):=by rw [← hW];simp (disch:=try exact DI) only [↓PR,QR,Int.reduceBEq,Int.reduceBNe,Int.reduceLT,Int.reduceLE,Int.reduceGT,Int.reduceGE,Int.reduceNeg]
 clear hW
 simp (disch:=try exact DI) only [↓PR,QR,Int.reduceBEq,Int.reduceBNe,Int.reduceLT,Int.reduceLE,Int.reduceGT,Int.reduceGE,Int.reduceNeg,(cells_of_heap o3).1]
 refine callK_flw (refer_flw (h.ext e0) f.of) (fun w1 e1 h0=>?_) (fun w1 e1 h0=>?_)
 · exact flwR_ret (e0.trans e1) h0
 · exact flwR_pan (e0.trans e1) rfl h0
theorem list_flw (h:Chk w0 cb md ms deps strs at_ fld fs) (i:Nat) (hi:fld=i) (hlt:i < fs.length) (v:Value) (f:FieldD) (hf:FieldVal w0 v f) (ht:f.terms.length≤1048576):Calls Pg 93 #[.pointer (some ⟨cb,0,none⟩),v] w0 (flwR w0 at_ fld (orC (needC (lastOf deps f.of).isSome 8) (sizedC (numR (fs.take i)) f))):=by
 obtain ⟨tv,cv,rfl,hT,hC,ht1,hc1⟩:=hf.op
 refine n67s ?_;unfold n67
 simp (disch:=try exact DI) only [↓PR,QR,Int.reduceBEq,Int.reduceBNe,Int.reduceLT,Int.reduceLE,Int.reduceGT,Int.reduceGE,Int.reduceNeg]
 generalize hW:World.alloc w0 _=W
 have e0:Ext w0 W:=by rw [← hW];exact ee
 have o3:W.heap[w0.heap.size]?=some (.cells (fieldCells f tv cv).toArray 52 (0,0)):=by rw [← hW];simp (disch:=try exact DI) only [↓PR,QR,Int.reduceBEq,Int.reduceBNe,Int.reduceLT,Int.reduceLE,Int.reduceGT,Int.reduceGE,Int.reduceNeg]
 clear hW
 simp (disch:=try exact DI) only [↓PR,QR,Int.reduceBEq,Int.reduceBNe,Int.reduceLT,Int.reduceLE,Int.reduceGT,Int.reduceGE,Int.reduceNeg,(cells_of_heap o3).1]
 refine callK_flw (refer_flw (h.ext e0) f.of) (fun w1 e1 h0=>?_) (fun w1 e1 h0=>?_)
 · rw [h0,orC_zero]
   have e01:=e0.trans e1
   simp (disch:=try exact DI) only [↓PR,QR,Int.reduceBEq,Int.reduceBNe,Int.reduceLT,Int.reduceLE,Int.reduceGT,Int.reduceGE,Int.reduceNeg,(cells_of_heap (e1.obj o3)).1]
   refine callK_flw (sized_flw (h.ext e01) i hi hlt _ f ⟨tv,cv,rfl,TermsOf.ext hT e01,CasesOf.ext hC e01⟩ ht) (fun w2 e2 h0=>?_) (fun w2 e2 h0=>?_)
   · exact flwR_ret (e01.trans e2) h0
   · exact flwR_pan (e01.trans e2) rfl h0
 · rw [orC_ne h0]
   exact flwR_pan (e0.trans e1) rfl h0
theorem view_flw (h:Chk w0 cb md ms deps strs at_ fld fs) (i:Nat) (hi:fld=i) (hlt:i < fs.length) (v:Value) (f:FieldD) (hf:FieldVal w0 v f) (ht:f.terms.length≤1048576):Calls Pg 104 #[.pointer (some ⟨cb,0,none⟩),v] w0 (flwR w0 at_ fld (orC (withinC 4294967295 0 [f.key]) (orC (needC (strB strs f.of) 8) (sizedC (numR (fs.take i)) f)))):=by
 obtain ⟨tv,cv,rfl,hT,hC,ht1,hc1⟩:=hf.op
 refine n77s ?_;unfold n77
 simp (disch:=try exact DI) only [↓PR,QR,Int.reduceBEq,Int.reduceBNe,Int.reduceLT,Int.reduceLE,Int.reduceGT,Int.reduceGE,Int.reduceNeg]
 generalize hW:World.alloc (World.alloc w0 _) _=W
 have e0:Ext w0 W:=by rw [← hW];exact ee
 have o3:W.heap[w0.heap.size]?=some (.cells (fieldCells f tv cv).toArray 52 (0,0)):=by rw [← hW];simp (disch:=try exact DI) only [↓PR,QR,Int.reduceBEq,Int.reduceBNe,Int.reduceLT,Int.reduceLE,Int.reduceGT,Int.reduceGE,Int.reduceNeg]
 have hIn:IntsOf W (.slice (some ⟨w0.heap.size+1,0,none⟩) 1 1) [f.key]:=by rw [← hW];exact ints1 (by simp only [World.size_alloc]) _ _
 clear hW
 refine callK_flw (within_flw (h.ext e0) 0 4294967295 _ _ hIn) (fun w1 e1 h0=>?_) (fun w1 e1 h0=>?_)
 · rw [h0,orC_zero]
   have e01:=e0.trans e1
   have h1:=h.ext e01.wdrew
   obtain ⟨⟨dn,mv,ds,mn,fv,k1,k2⟩,k3,k4,k5,k6⟩:=id h1
   refine drawK_intro ?_
   simp (disch:=try exact DI) only [↓PR,QR,Int.reduceBEq,Int.reduceBNe,Int.reduceLT,Int.reduceLE,Int.reduceGT,Int.reduceGE,Int.reduceNeg,↓n77c1,(cells_of_heap (e1.obj o3)).1,(cells_of_heap k1).1]
   have k1':=(cells_of_heap k1).1
   simp only [World.cell?] at k1'
   rw [qV_lookup1E Tryz.underlying63 Tryz.underlying9 ty4 k4]
   rw [h1.strV f.of]
   refine callK_flw (need_flw h1 _ 8 (by decide)) (fun w2 e2 h0=>?_) (fun w2 e2 h0=>?_)
   · rw [h0,orC_zero]
     refine ⟨e2,?_⟩
     have e02:=(e01.wdrew).trans e2
     have e12:Ext W w2:=(e1.wdrew).trans e2
     simp (disch:=try exact DI) only [↓PR,QR,Int.reduceBEq,Int.reduceBNe,Int.reduceLT,Int.reduceLE,Int.reduceGT,Int.reduceGE,Int.reduceNeg,(cells_of_heap (e12.obj o3)).1]
     refine callK_flw (sized_flw (h.ext e02) i hi hlt _ f ⟨tv,cv,rfl,TermsOf.ext hT e02,CasesOf.ext hC e02⟩ ht) (fun w3 e3 h0=>?_) (fun w3 e3 h0=>?_)
     · exact flwR_ret (e02.trans e3) h0
     · exact flwR_pan (e02.trans e3) rfl h0
   · rw [orC_ne h0]
     exact flwR_pan (e01.wdrew.trans e2) rfl h0
 · rw [orC_ne h0]
   exact flwR_pan (e0.trans e1) rfl h0
theorem check_flw (h:Chk w0 cb md ms deps strs at_ fld fs) (i:Nat) (hi:fld=i) (hlt:i < fs.length) (v:Value) (f:FieldD) (hf:FieldVal w0 v f):Calls Pg 102 #[.pointer (some ⟨cb,0,none⟩),v] w0 (flwR w0 at_ fld (orC (withinC 3 1 [f.check]) (needC ((fs.take i).any fun o=>decide (o.name=f.fr)) 8))):=by
 obtain ⟨tv,cv,rfl,hT,hC,ht1,hc1⟩:=hf.op
 refine n75s ?_;unfold n75
 simp (disch:=try exact DI) only [↓PR,QR,Int.reduceBEq,Int.reduceBNe,Int.reduceLT,Int.reduceLE,Int.reduceGT,Int.reduceGE,Int.reduceNeg]
 generalize hW:World.alloc (World.alloc w0 _) _=W
 have e0:Ext w0 W:=by rw [← hW];exact ee
 have o3:W.heap[w0.heap.size]?=some (.cells (fieldCells f tv cv).toArray 52 (0,0)):=by rw [← hW];simp (disch:=try exact DI) only [↓PR,QR,Int.reduceBEq,Int.reduceBNe,Int.reduceLT,Int.reduceLE,Int.reduceGT,Int.reduceGE,Int.reduceNeg]
 have hIn:IntsOf W (.slice (some ⟨w0.heap.size+1,0,none⟩) 1 1) [f.check]:=by rw [← hW];exact ints1 (by simp only [World.size_alloc]) _ _
 clear hW
 refine callK_flw (within_flw (h.ext e0) 1 3 _ _ hIn) (fun w1 e1 h0=>?_) (fun w1 e1 h0=>?_)
 · rw [h0,orC_zero]
   have e01:=e0.trans e1
   refine drawK_intro ?_
   simp (disch:=try exact DI) only [↓PR,QR,Int.reduceBEq,Int.reduceBNe,Int.reduceLT,Int.reduceLE,Int.reduceGT,Int.reduceGE,Int.reduceNeg,↓n75c1,↓n75c2,(cells_of_heap (e1.obj o3)).1]
   refine callK_ret (before_ret (h.ext e01.wdrew) i hi hlt) ?_
   rintro bv w2 ⟨hB,e2⟩
   refine ⟨e2,?_⟩
   have hb1:=SliceOf.oneCell hB
   simp (disch:=try exact DI) only [↓PR,QR,Int.reduceBEq,Int.reduceBNe,Int.reduceLT,Int.reduceLE,Int.reduceGT,Int.reduceGE,Int.reduceNeg,↓n75c1,↓n75c2]
   refine zcr (Field_ret w2 _ ⟨ByteArray.empty,fs.take i⟩ f.fr ⟨bv,rfl,hB⟩) fun w3 e3=>?_
   refine ⟨e2.trans e3,?_⟩
   simp (disch:=try exact DI) only [↓PR,QR,Int.reduceBEq,Int.reduceBNe,Int.reduceLT,Int.reduceLE,Int.reduceGT,Int.reduceGE,Int.reduceNeg,↓n75c1,↓n75c2]
   have e03:=(e01.wdrew).trans (e2.trans e3)
   refine callK_flw (need_flw (h.ext e03) _ 8 (by decide)) (fun w4 e4 h0=>?_) (fun w4 e4 h0=>?_)
   · exact flwR_ret (e03.trans e4) h0
   · exact flwR_pan (e03.trans e4) rfl h0
 · rw [orC_ne h0]
   exact flwR_pan (e0.trans e1) rfl h0
def padB (f:FieldD):Bool:=(f.bits == 2)||(f.bits == 4)||(decide (8≤f.bits)&&decide (f.bits≤512)&&(f.bits.tmod 8 == 0))
theorem pad_flw (h:Chk w0 cb md ms deps strs at_ fld fs) (v:Value) (f:FieldD) (hf:FieldVal w0 v f):Calls Pg 100 #[.pointer (some ⟨cb,0,none⟩),v] w0 (flwR w0 at_ fld (needC (padB f) 6)):=by
 obtain ⟨tv,cv,rfl,hT,hC,ht1,hc1⟩:=hf.op
 refine n72s ?_;unfold n72
 simp (disch:=try exact DI) only [↓PR,QR,Int.reduceBEq,Int.reduceBNe,Int.reduceLT,Int.reduceLE,Int.reduceGT,Int.reduceGE,Int.reduceNeg,↓n72c1,↓n72c2,↓n72c3,↓n72c4]
 have e0:Ext w0 (w0.alloc (Obj.cells (fieldCells f tv cv).toArray 52)):=ee
 have fin:∀ b,b=padB f→callK Pg 37 #[.pointer (some ⟨cb,0,none⟩),.bool b,.int .i64 6] (panK (flwR w0 at_ fld (needC (padB f) 6))) (w0.alloc (Obj.cells (fieldCells f tv cv).toArray 52)) (fun _ w=>flwR w0 at_ fld (needC (padB f) 6) (.returned (.tuple #[])) w):=by
  rintro b rfl
  exact callK_flw (need_flw (h.ext e0) _ 6 (by decide)) (fun w' e1 h0=>flwR_ret (e0.trans e1) h0) (fun w' e1 h0=>flwR_pan (e0.trans e1) rfl h0)
 unfold padB at fin ⊢
 generalize (f.bits == 2)=b1 at fin ⊢
 generalize (f.bits == 4)=b2 at fin ⊢
 generalize decide (8≤f.bits)=b3 at fin ⊢
 generalize decide (f.bits≤512)=b4 at fin ⊢
 cases b1<;>cases b2<;>cases b3<;>cases b4<;>simp (disch:=try exact DI) only [↓PR,QR,Int.reduceBEq,Int.reduceBNe,Int.reduceLT,Int.reduceLE,Int.reduceGT,Int.reduceGE,Int.reduceNeg,↓n72c1,↓n72c2,↓n72c3,↓n72c4]<;>first | exact fin _ rfl | exact fin _ (by simp)
end
end Go.Proofs.YtiajhbbmgglmlaaGreat
namespace Go.Proofs.YtiajhbbmgglmlaaGreat
open Sw
def n89c1 (t2 t3 t9 t17:Value) (C1:World→Prop) (R:RT) (w:World):Prop :=
 pickK t9 t17 (.bool false) fun t18 =>
 joinK (fun (t24:Value) (w:World) =>
 pickK t18 t24 (.bool false) fun t25 =>
 R (.returned t25) w) fun K3 =>
 guardP t18 true (
 qV Pg C1 (Instr.fieldAt 52 t2 11) fun t20 =>
 qV Pg C1 (Instr.loadAt 50 t20) fun t21 =>
 qV Pg C1 (Instr.fieldAt 52 t3 11) fun t22 =>
 qV Pg C1 (Instr.loadAt 50 t22) fun t23 =>
 C0 107 #[t21,t23] R w fun t24 w =>
 C1 w∧(
 K3 t24 w)) (
 K3 undef w)
def n89c2 (t2 t3 t6 t8:Value) (C1:World→Prop) (R:RT) (w:World):Prop :=
 qV Pg C1 (binS .eql 137 false t6 t8) fun t9 =>
 joinK (fun (t17:Value) (w:World) =>
 n89c1 t2 t3 t9 t17 C1 R w) fun K2 =>
 guardP t9 true (
 qV Pg C1 (Instr.fieldAt 52 t2 7) fun t11 =>
 qV Pg C1 (Instr.fieldAt 49 t11 1) fun t12 =>
 qV Pg C1 (Instr.loadAt 47 t12) fun t13 =>
 qV Pg C1 (Instr.fieldAt 52 t3 7) fun t14 =>
 qV Pg C1 (Instr.fieldAt 49 t14 1) fun t15 =>
 qV Pg C1 (Instr.loadAt 47 t15) fun t16 =>
 C0 106 #[t13,t16] R w fun t17 w =>
 C1 w∧(
 K2 t17 w)) (
 K2 undef w)
def n89c3 (t2 t3:Value) (C1:World→Prop) (R:RT) (w:World):Prop :=
 qV Pg C1 (Instr.loadAt 52 t2) fun t5 =>
 qV Pg C1 (Instr.loadAt 52 t3) fun t7 =>
 C0 105 #[t5] R w fun t6 w =>
 C1 w∧(
 C0 105 #[t7] R w fun t8 w =>
 C1 w∧(
 n89c2 t2 t3 t6 t8 C1 R w))
def n89 (t0 t1:Value) (R:RT) (w:World):Prop :=
 opV Pg (Instr.box 52 t0) (panK R) w fun t2 w =>
 opV Pg (Instr.box 52 t1) (panK R) w fun t3 w =>
 drawK w fun C1 w =>
 n89c3 t2 t3 C1 R w
theorem n89s {t0 t1:Value} {R:RT} {w:World} (h:n89 t0 t1 R w):Calls Pg 70 #[t0,t1] w R:=by
 refine calls_of_den (args:=[t0,t1]) Tryz.func70 rfl (Nat.le_of_ble_eq_true rfl) ?_
 unfold n89 at h
 refine zs<|zr ?_
 refine zv h fun t2 w h=>?_
 refine zv h fun t3 w h=>?_
 refine zm<|zn<|zk<|zs ?_
 obtain ⟨C1,hC,h⟩:=h
 refine sim_draw [4,5,6,7,8,9,10,11,12,13,14,15,16,17,18,19,20,21,22,23,24,25] (by kernel_rfl) (by kernel_rfl) C1 ?_
 refine ze 0 hC h fun t5 h=>?_
 refine ze 2 hC h fun t7 h=>?_
 refine sim_dloud 1 rfl (by kernel_rfl) (fun _ _=>rfl) ?_
 refine sim_call h c105 rfl (fun _ _ h _ _=>⟨rfl,h⟩) ?_;intro t6 w h
 refine zn ?_
 obtain ⟨hC,h⟩:=h
 refine ⟨hC,?_⟩
 refine sim_dloud 3 rfl (by kernel_rfl) (fun _ _=>rfl) ?_
 refine sim_call h c105 rfl (fun _ _ h _ _=>⟨rfl,h⟩) ?_;intro t8 w h
 refine zn ?_
 obtain ⟨hC,h⟩:=h
 refine ⟨hC,?_⟩
 obtain ⟨t9,hv,h⟩:=h
 refine sim_dsilent 4 hC rfl (by kernel_rfl) (by kernel_rfl) (fun _ _=>rfl) rfl (Sw.qV_bin rfl rfl rfl hv) ?_
 refine zw 5 hC ?_
 refine joinK_elim h (fun K2 hK h=>?_)
 refine sim_djoin 9 [12,11,10,9,8,7,6,5,4,3,1,2,0] [11,12,13,14,15,16,17] (fun ρ w=>K2 (ρ 17) w) (fun _ hT=>?_) (fun σ w hC h=>?_)
 · rcases Sw.guardP_cases h with ⟨hb,h⟩ | ⟨hb,h⟩
   · obtain ⟨t11,hv,h⟩:=h
     refine sim_dsilent 6 hC rfl (by kernel_rfl) (by kernel_rfl) (fun _ _=>Sw.guardP_true hb) rfl (Sw.qV_run rfl hv) ?_
     obtain ⟨t12,hv,h⟩:=h
     refine sim_dsilent 7 hC rfl (by kernel_rfl) (by kernel_rfl) (fun _ _=>Sw.guardP_true hb) rfl (Sw.qV_run rfl hv) ?_
     obtain ⟨t13,hv,h⟩:=h
     refine sim_dsilent 8 hC rfl (by kernel_rfl) (by kernel_rfl) (fun _ _=>Sw.guardP_true hb) rfl (Sw.qV_run rfl hv) ?_
     obtain ⟨t14,hv,h⟩:=h
     refine sim_dsilent 9 hC rfl (by kernel_rfl) (by kernel_rfl) (fun _ _=>Sw.guardP_true hb) rfl (Sw.qV_run rfl hv) ?_
     obtain ⟨t15,hv,h⟩:=h
     refine sim_dsilent 10 hC rfl (by kernel_rfl) (by kernel_rfl) (fun _ _=>Sw.guardP_true hb) rfl (Sw.qV_run rfl hv) ?_
     obtain ⟨t16,hv,h⟩:=h
     refine sim_dsilent 11 hC rfl (by kernel_rfl) (by kernel_rfl) (fun _ _=>Sw.guardP_true hb) rfl (Sw.qV_run rfl hv) ?_
     refine sim_dloud 12 rfl (by kernel_rfl) (fun _ _=>Sw.guardP_true hb) ?_
     refine sim_call h c106 rfl (fun _ _ h _ _=>⟨rfl,h⟩) ?_;intro t17 w h
     refine zn ?_
     obtain ⟨hC,h⟩:=h
     refine ⟨hC,?_⟩
     exact hT _ _ (by repeat (first | exact Sw.Fr.refl _ _ | refine Sw.Fr.put rfl ?_ | refine Sw.Fr.put_none ?_ | refine Sw.Fr.mix rfl ?_ | refine Sw.Fr.skipAll rfl ?_)) hC h
   · refine sim_dskip 6 hC rfl (by kernel_rfl) (by kernel_rfl) (fun _ _=>Sw.guardP_false hb) ?_
     refine sim_dskip 7 hC rfl (by kernel_rfl) (by kernel_rfl) (fun _ _=>Sw.guardP_false hb) ?_
     refine sim_dskip 8 hC rfl (by kernel_rfl) (by kernel_rfl) (fun _ _=>Sw.guardP_false hb) ?_
     refine sim_dskip 9 hC rfl (by kernel_rfl) (by kernel_rfl) (fun _ _=>Sw.guardP_false hb) ?_
     refine sim_dskip 10 hC rfl (by kernel_rfl) (by kernel_rfl) (fun _ _=>Sw.guardP_false hb) ?_
     refine sim_dskip 11 hC rfl (by kernel_rfl) (by kernel_rfl) (fun _ _=>Sw.guardP_false hb) ?_
     refine sim_dskip 12 hC rfl (by kernel_rfl) (by kernel_rfl) (fun _ _=>Sw.guardP_false hb) ?_
     exact hT _ _ (by repeat (first | exact Sw.Fr.refl _ _ | refine Sw.Fr.put rfl ?_ | refine Sw.Fr.put_none ?_ | refine Sw.Fr.mix rfl ?_ | refine Sw.Fr.skipAll rfl ?_)) hC h
 subst hK
 obtain ⟨b18,hb18,h⟩:=Sw.pickK_elim h
 refine sim_dsilent 13 hC rfl (by kernel_rfl) (by kernel_rfl) (fun _ _=>rfl) rfl (Sw.pick_run hb18 rfl rfl) ?_
 refine zw 14 hC ?_
 refine joinK_elim h (fun K3 hK h=>?_)
 refine sim_djoin 2 [19,18,17,16,15,14,13,12,11,10,9,8,7,6,5,4,3,1,2,0] [20,21,22,23,24] (fun ρ w=>K3 (ρ 24) w) (fun _ hT=>?_) (fun σ w hC h=>?_)
 · rcases Sw.guardP_cases h with ⟨hb,h⟩ | ⟨hb,h⟩
   · obtain ⟨t20,hv,h⟩:=h
     refine sim_dsilent 15 hC rfl (by kernel_rfl) (by kernel_rfl) (fun _ _=>Sw.guardP_true hb) rfl (Sw.qV_run rfl hv) ?_
     obtain ⟨t21,hv,h⟩:=h
     refine sim_dsilent 16 hC rfl (by kernel_rfl) (by kernel_rfl) (fun _ _=>Sw.guardP_true hb) rfl (Sw.qV_run rfl hv) ?_
     obtain ⟨t22,hv,h⟩:=h
     refine sim_dsilent 17 hC rfl (by kernel_rfl) (by kernel_rfl) (fun _ _=>Sw.guardP_true hb) rfl (Sw.qV_run rfl hv) ?_
     obtain ⟨t23,hv,h⟩:=h
     refine sim_dsilent 18 hC rfl (by kernel_rfl) (by kernel_rfl) (fun _ _=>Sw.guardP_true hb) rfl (Sw.qV_run rfl hv) ?_
     refine sim_dloud 19 rfl (by kernel_rfl) (fun _ _=>Sw.guardP_true hb) ?_
     refine sim_call h c107 rfl (fun _ _ h _ _=>⟨rfl,h⟩) ?_;intro t24 w h
     refine zn ?_
     obtain ⟨hC,h⟩:=h
     refine ⟨hC,?_⟩
     exact hT _ _ (by repeat (first | exact Sw.Fr.refl _ _ | refine Sw.Fr.put rfl ?_ | refine Sw.Fr.put_none ?_ | refine Sw.Fr.mix rfl ?_ | refine Sw.Fr.skipAll rfl ?_)) hC h
   · refine sim_dskip 15 hC rfl (by kernel_rfl) (by kernel_rfl) (fun _ _=>Sw.guardP_false hb) ?_
     refine sim_dskip 16 hC rfl (by kernel_rfl) (by kernel_rfl) (fun _ _=>Sw.guardP_false hb) ?_
     refine sim_dskip 17 hC rfl (by kernel_rfl) (by kernel_rfl) (fun _ _=>Sw.guardP_false hb) ?_
     refine sim_dskip 18 hC rfl (by kernel_rfl) (by kernel_rfl) (fun _ _=>Sw.guardP_false hb) ?_
     refine sim_dskip 19 hC rfl (by kernel_rfl) (by kernel_rfl) (fun _ _=>Sw.guardP_false hb) ?_
     exact hT _ _ (by repeat (first | exact Sw.Fr.refl _ _ | refine Sw.Fr.put rfl ?_ | refine Sw.Fr.put_none ?_ | refine Sw.Fr.mix rfl ?_ | refine Sw.Fr.skipAll rfl ?_)) hC h
 subst hK
 obtain ⟨b25,hb25,h⟩:=Sw.pickK_elim h
 refine sim_dsilent 20 hC rfl (by kernel_rfl) (by kernel_rfl) (fun _ _=>rfl) rfl (Sw.pick_run hb25 rfl rfl) ?_
 refine zw 21 hC ?_
 refine sim_dend (by kernel_rfl) ?_
 refine zk<|sim_ret ?_
 exact body_ret1 rfl rfl h
def n45c1 (t0 t7 t11 t16:Value) (next1:KV) (R:RT) (w:World):Prop :=
 opV Pg (Op.unary .not t16) (panK R) w fun t17 w =>
 joinK (fun (t22:Value) (w:World) =>
 pickK t17 t22 (.bool false) fun t23 =>
 condP t23 (
 R (.returned (.tuple #[])) w) (
 B0 .add 3 true t7 (.int .i64 1) R w fun t24 w =>
 next1 t24 w)) fun K2 =>
 guardP t17 true (
 callV Pg t0 #[t11] (panK R) w fun t21 w =>
 opV Pg (Op.unary .not t21) (panK R) w fun t22 w =>
 K2 t22 w) (
 K2 undef w)
def n45c2 (t0 t1 t5 t7:Value) (next1:KV) (R:RT) (w:World):Prop :=
 X0 69 t5 t7 R w fun t10 w =>
 L0 9 t10 R w fun t11 w =>
 L0 69 t1 R w fun t12 w =>
 opV Pg (Instr.sliceAt 69 t12 none (some t7) none) (panK R) w fun t14 w =>
 C0 72 #[t14,t11] R w fun t16 w =>
 n45c1 t0 t7 t11 t16 next1 R w
def n45 (t0 t1:Value) (R:RT) (w:World):Prop :=
 L0 69 t1 R w fun t5 w =>
 opV Pg (Builtin.len_ #[69] 3 #[t5]) (panK R) w fun t6 w =>
 loop1 (fun t7 w next1 =>
 B0 .lss 3 false t7 t6 R w fun t8 w =>
 condP t8 (
 n45c2 t0 t1 t5 t7 next1 R w) (
 R (.returned (.tuple #[])) w)) (.int .i64 0) w
theorem n45s {t0 t1:Value} {R:RT} {w:World} (h:n45 t0 t1 R w):Calls Pg 71 #[t0,t1] w R:=by
 refine calls_of_den (args:=[t0,t1]) Tryz.func71 rfl (Nat.le_of_ble_eq_true rfl) ?_
 unfold n45 at h
 refine zs<|zr ?_
 refine zv h fun t5 w h=>?_
 refine zx h fun t6 w h=>?_
 refine zm<|zn<|zk<|sim_block ?_
 obtain ⟨I,μ,h0,hr⟩:=h
 refine sim_loop [3,4,7,8,9,10,11,12,13,14,15,16,17,18,19,20,21,22,23,24] (by kernel_rfl) (fun ρ w=>I (ρ 7) w) (fun ρ w=>μ (ρ 7) w) h0 (fun σ w hI=>?_)
 have h:=hr _ _ hI
 clear hr h0 hI
 refine zs<|zr ?_
 refine zb h fun t8 w h=>?_
 refine zn<|zk<|zs ?_
 refine sim_cond h rfl (fun h=>?_) (fun h=>?_)
 · refine sim_skip<|zk<|zs<|sim_block<|zs<|zr<|zm ?_
   refine zv h fun t10 w h=>?_
   refine zv h fun t11 w h=>?_
   refine zm<|zm<|zn<|zk<|zs<|sim_regionG ?_
   refine sim_seg 7 rfl ?_
   refine zv h fun t12 w h=>?_
   refine zm ?_
   refine zv h fun t14 w h=>?_
   refine zm ?_
   refine zc h c72 fun t16 w h=>?_
   refine zv h fun t17 w h=>?_
   refine zm<|zn ?_
   refine joinK_elim h (fun K2 hK h=>?_)
   refine sim_groupJ 4 6 true [19,20,21,22] (fun ρ w=>K2 (ρ 22) w) rfl rfl (fun T hT=>guardP_mono h (fun h=>?_) (fun h=>?_)) (fun σ w h=>?_)
   · refine zm<|zm ?_
     refine sim_callV h rfl rfl (fun _ _ h=>⟨rfl,h⟩) ?_;intro t21 w h
     refine zv h fun t22 w h=>?_
     refine zn ?_
     exact zt hT h
   · exact zt hT h
   subst hK
   refine sim_seg 1 rfl ?_
   refine sim_pick h rfl rfl rfl ?_;intro t23 h
   refine zn<|sim_end<|zk ?_
   refine sim_cond h rfl (fun h=>?_) (fun h=>?_)
   · refine sim_ret<|sim_block_ret<|sim_then_ret<|sim_then_ret<|sim_block_ret ?_
     exact body_ret0 rfl h
   · refine sim_skip<|sim_block_normal<|zk<|zr ?_
     refine zb h fun t24 w h=>?_
     refine zm<|zn<|zk ?_
     exact ⟨rfl,h⟩
 · refine sim_exit<|sim_then_exit<|sim_then_exit<|sim_block_hit ?_
   refine body_normal ?_
   exact body_ret0 rfl h
def n111 (t0 t1:Value) (R:RT) (w:World):Prop :=
 C0 108 #[t0,t1] R w fun t7 w =>
 B0 .geq 3 true t7 (.int .i64 0) R w fun t8 w =>
 R (.returned t8) w
theorem n111s {t0 t1:Value} {R:RT} {w:World} (h:n111 t0 t1 R w):Calls Pg 72 #[t0,t1] w R:=by
 refine calls_of_den (args:=[t0,t1]) Tryz.func72 rfl (Nat.le_of_ble_eq_true rfl) ?_
 unfold n111 at h
 refine zs<|zr<|zm<|zn<|zk<|zs<|zr<|zm<|zm ?_
 refine zc h c108 fun t7 w h=>?_
 refine zb h fun t8 w h=>?_
 refine zm<|zn<|zk<|sim_ret ?_
 exact body_ret1 rfl rfl h
def n12c1 (t1 t3 t4:Value) (C6:World→Prop) (next5:KV) (R:RT) (w:World):Prop :=
 qV Pg C6 (Instr.fieldAt 49 t1 1) fun t54 =>
 qV Pg C6 (Instr.loadAt 47 t54) fun t55 =>
 qV Pg C6 (Instr.indexAt 47 t55 t4) fun t57 =>
 qV Pg C6 (Instr.fieldAt 78 t57 0) fun t58 =>
 qV Pg C6 (Instr.loadAt 9 t58) fun t59 =>
 qV Pg C6 (Instr.fieldAt 49 t1 1) fun t60 =>
 qV Pg C6 (Instr.loadAt 47 t60) fun t61 =>
 qV Pg C6 (Instr.indexAt 47 t61 t3) fun t63 =>
 qV Pg C6 (Instr.fieldAt 78 t63 0) fun t64 =>
 qV Pg C6 (Instr.loadAt 9 t64) fun t65 =>
 qV Pg C6 (binS .eql 9 false t59 t65) fun t66 =>
 condP t66 (
 R (.returned (.bool false)) w) (
 B0 .add 3 true t4 (.int .i64 1) R w fun t53 w =>
 next5 t53 w)
def n12c2 (t1 t3 t4:Value) (next2:KV) (next5:KV) (R:RT) (w:World):Prop :=
 B0 .lss 3 false t4 t3 R w fun t51 w =>
 condP t51 (
 drawK w fun C6 w =>
 n12c1 t1 t3 t4 C6 next5 R w) (
 B0 .add 3 true t3 (.int .i64 1) R w fun t21 w =>
 next2 t21 w)
def n12c3 (t1 t3 t29 t37:Value) (next2:KV) (R:RT) (w:World):Prop :=
 pickK t29 (.bool true) t37 fun t38 =>
 joinK (fun (t47:Value) (w:World) =>
 pickK t38 (.bool true) t47 fun t48 =>
 condP t48 (
 R (.returned (.bool false)) w) (
 loop1 (fun t4 w next5 =>
 n12c2 t1 t3 t4 next2 next5 R w) (.int .i64 0) w)) fun K4 =>
 guardP t38 false (
 F0 49 t1 1 R w fun t40 w =>
 L0 47 t40 R w fun t41 w =>
 X0 47 t41 t3 R w fun t43 w =>
 F0 78 t43 1 R w fun t44 w =>
 L0 3 t44 R w fun t45 w =>
 C0 109 #[t45] R w fun t46 w =>
 opV Pg (Op.unary .not t46) (panK R) w fun t47 w =>
 K4 t47 w) (
 K4 undef w)
def n12c4 (t1 t3 t28:Value) (next2:KV) (R:RT) (w:World):Prop :=
 opV Pg (Op.unary .not t28) (panK R) w fun t29 w =>
 joinK (fun (t37:Value) (w:World) =>
 n12c3 t1 t3 t29 t37 next2 R w) fun K3 =>
 guardP t29 false (
 F0 49 t1 1 R w fun t31 w =>
 L0 47 t31 R w fun t32 w =>
 X0 47 t32 t3 R w fun t34 w =>
 F0 78 t34 1 R w fun t35 w =>
 L0 3 t35 R w fun t36 w =>
 B0 .eql 3 true t36 (.int .i64 0) R w fun t37 w =>
 K3 t37 w) (
 K3 undef w)
def n12c5 (t1 t3:Value) (next2:KV) (R:RT) (w:World):Prop :=
 F0 49 t1 1 R w fun t22 w =>
 L0 47 t22 R w fun t23 w =>
 X0 47 t23 t3 R w fun t25 w =>
 F0 78 t25 0 R w fun t26 w =>
 L0 9 t26 R w fun t27 w =>
 C0 32 #[t27] R w fun t28 w =>
 n12c4 t1 t3 t28 next2 R w
def n12c6 (t1 t3:Value) (next2:KV) (R:RT) (w:World):Prop :=
 F0 49 t1 1 R w fun t16 w =>
 L0 47 t16 R w fun t17 w =>
 opV Pg (Builtin.len_ #[47] 3 #[t17]) (panK R) w fun t18 w =>
 B0 .lss 3 false t3 t18 R w fun t19 w =>
 condP t19 (
 n12c5 t1 t3 next2 R w) (
 R (.returned (.bool true)) w)
def n12c7 (t1 t7:Value) (R:RT) (w:World):Prop :=
 opV Pg (Op.unary .not t7) (panK R) w fun t8 w =>
 joinK (fun (t13:Value) (w:World) =>
 pickK t8 (.bool true) t13 fun t14 =>
 condP t14 (
 R (.returned (.bool false)) w) (
 loop1 (fun t3 w next2 =>
 n12c6 t1 t3 next2 R w) (.int .i64 0) w)) fun K1 =>
 guardP t8 false (
 F0 49 t1 1 R w fun t10 w =>
 L0 47 t10 R w fun t11 w =>
 opV Pg (Builtin.len_ #[47] 3 #[t11]) (panK R) w fun t12 w =>
 B0 .gtr 3 true t12 (.int .i64 4) R w fun t13 w =>
 K1 t13 w) (
 K1 undef w)
def n12 (t0:Value) (R:RT) (w:World):Prop :=
 opV Pg (Instr.box 49 t0) (panK R) w fun t1 w =>
 F0 49 t1 0 R w fun t5 w =>
 L0 3 t5 R w fun t6 w =>
 C0 109 #[t6] R w fun t7 w =>
 n12c7 t1 t7 R w
theorem n12s {t0:Value} {R:RT} {w:World} (h:n12 t0 R w):Calls Pg 73 #[t0] w R:=by
 refine calls_of_den (args:=[t0]) Tryz.func73 rfl (Nat.le_of_ble_eq_true rfl) ?_
 unfold n12 at h
 refine zs<|zr ?_
 refine zv h fun t1 w h=>?_
 refine zm<|zn<|zk<|zs<|zs<|sim_regionG ?_
 refine sim_seg 5 rfl ?_
 refine zv h fun t5 w h=>?_
 refine zv h fun t6 w h=>?_
 refine zc h c109 fun t7 w h=>?_
 refine zv h fun t8 w h=>?_
 refine zm<|zn ?_
 refine joinK_elim h (fun K1 hK h=>?_)
 refine sim_groupJ 4 4 false [10,11,12,13] (fun ρ w=>K1 (ρ 13) w) rfl rfl (fun T hT=>guardP_mono h (fun h=>?_) (fun h=>?_)) (fun σ w h=>?_)
 · refine zv h fun t10 w h=>?_
   refine zv h fun t11 w h=>?_
   refine zx h fun t12 w h=>?_
   refine zb h fun t13 w h=>?_
   refine zn ?_
   exact zt hT h
 · exact zt hT h
 subst hK
 refine sim_seg 1 rfl ?_
 refine sim_pick h rfl rfl rfl ?_;intro t14 h
 refine zn<|sim_end<|zk ?_
 refine sim_cond h rfl (fun h=>?_) (fun h=>?_)
 · refine zs<|zr<|zm<|zn<|zk<|sim_ret<|sim_then_ret ?_
   exact body_ret1 rfl rfl h
 · refine sim_skip<|zk<|zs<|zs<|zr<|zm<|zn<|zk<|sim_block ?_
   obtain ⟨I,μ,h0,hr⟩:=h
   refine sim_loop [2,3,4,15,16,17,18,19,20,21,22,23,24,25,26,27,28,29,30,31,32,33,34,35,36,37,38,39,40,41,42,43,44,45,46,47,48,49,50,51,52,53,54,55,56,57,58,59,60,61,62,63,64,65,66] (by kernel_rfl) (fun ρ w=>I (ρ 3) w) (fun ρ w=>μ (ρ 3) w) h0 (fun σ w hI=>?_)
   have h:=hr _ _ hI
   clear hr h0 hI
   refine zs<|zs<|zr<|zm ?_
   refine zv h fun t16 w h=>?_
   refine zv h fun t17 w h=>?_
   refine zx h fun t18 w h=>?_
   refine zb h fun t19 w h=>?_
   refine zn<|zk ?_
   refine sim_cond h rfl (fun h=>?_) (fun h=>?_)
   · refine sim_skip<|zk<|zs<|sim_block<|zs<|zs<|sim_regionG ?_
     refine sim_seg 9 rfl ?_
     refine zv h fun t22 w h=>?_
     refine zv h fun t23 w h=>?_
     refine zm ?_
     refine zv h fun t25 w h=>?_
     refine zv h fun t26 w h=>?_
     refine zv h fun t27 w h=>?_
     refine zc h c32 fun t28 w h=>?_
     refine zv h fun t29 w h=>?_
     refine zm<|zn ?_
     refine joinK_elim h (fun K3 hK h=>?_)
     refine sim_groupJ 7 8 false [31,32,33,34,35,36,37] (fun ρ w=>K3 (ρ 37) w) rfl rfl (fun T hT=>guardP_mono h (fun h=>?_) (fun h=>?_)) (fun σ w h=>?_)
     · refine zv h fun t31 w h=>?_
       refine zv h fun t32 w h=>?_
       refine zm ?_
       refine zv h fun t34 w h=>?_
       refine zv h fun t35 w h=>?_
       refine zv h fun t36 w h=>?_
       refine zb h fun t37 w h=>?_
       refine zn ?_
       exact zt hT h
     · exact zt hT h
     subst hK
     refine sim_seg 2 rfl ?_
     refine sim_pick h rfl rfl rfl ?_;intro t38 h
     refine zm<|zn ?_
     refine joinK_elim h (fun K4 hK h=>?_)
     refine sim_groupJ 8 17 false [40,41,42,43,44,45,46,47] (fun ρ w=>K4 (ρ 47) w) rfl rfl (fun T hT=>guardP_mono h (fun h=>?_) (fun h=>?_)) (fun σ w h=>?_)
     · refine zv h fun t40 w h=>?_
       refine zv h fun t41 w h=>?_
       refine zm ?_
       refine zv h fun t43 w h=>?_
       refine zv h fun t44 w h=>?_
       refine zv h fun t45 w h=>?_
       refine zc h c109 fun t46 w h=>?_
       refine zv h fun t47 w h=>?_
       refine zn ?_
       exact zt hT h
     · exact zt hT h
     subst hK
     refine sim_seg 1 rfl ?_
     refine sim_pick h rfl rfl rfl ?_;intro t48 h
     refine zn<|sim_end<|zk ?_
     refine sim_cond h rfl (fun h=>?_) (fun h=>?_)
     · refine zs<|zr<|zm<|zn<|zk<|sim_ret<|sim_then_ret<|sim_block_ret<|sim_then_ret<|sim_then_ret<|sim_block_ret<|sim_then_ret ?_
       exact body_ret1 rfl rfl h
     · refine sim_skip<|zk<|zs<|zr<|zm<|zn<|zk<|sim_block ?_
       obtain ⟨I,μ,h0,hr⟩:=h
       refine sim_loop [2,4,49,50,51,52,53,54,55,56,57,58,59,60,61,62,63,64,65,66] (by kernel_rfl) (fun ρ w=>I (ρ 4) w) (fun ρ w=>μ (ρ 4) w) h0 (fun σ w hI=>?_)
       have h:=hr _ _ hI
       clear hr h0 hI
       refine zs<|zs<|zr<|zm<|zm ?_
       refine zb h fun t51 w h=>?_
       refine zn<|zk ?_
       refine sim_cond h rfl (fun h=>?_) (fun h=>?_)
       · refine sim_skip<|zk<|zs<|sim_block<|zs ?_
         obtain ⟨C6,hC,h⟩:=h
         refine sim_draw [54,55,56,57,58,59,60,61,62,63,64,65,66] (by kernel_rfl) (by kernel_rfl) C6 ?_
         refine ze 0 hC h fun t54 h=>?_
         refine ze 1 hC h fun t55 h=>?_
         refine zw 2 hC ?_
         refine ze 3 hC h fun t57 h=>?_
         refine ze 4 hC h fun t58 h=>?_
         refine ze 5 hC h fun t59 h=>?_
         refine ze 6 hC h fun t60 h=>?_
         refine ze 7 hC h fun t61 h=>?_
         refine zw 8 hC ?_
         refine ze 9 hC h fun t63 h=>?_
         refine ze 10 hC h fun t64 h=>?_
         refine ze 11 hC h fun t65 h=>?_
         obtain ⟨t66,hv,h⟩:=h
         refine sim_dsilent 12 hC rfl (by kernel_rfl) (by kernel_rfl) (fun _ _=>rfl) rfl (Sw.qV_bin rfl rfl rfl hv) ?_
         refine sim_dend (by kernel_rfl) ?_
         refine zk ?_
         refine sim_cond h rfl (fun h=>?_) (fun h=>?_)
         · refine zs<|zr<|zm<|zn<|zk<|sim_ret<|sim_block_ret<|sim_then_ret<|sim_then_ret<|sim_block_ret<|sim_block_ret<|sim_then_ret<|sim_then_ret<|sim_block_ret<|sim_then_ret ?_
           exact body_ret1 rfl rfl h
         · refine sim_skip<|sim_block_normal<|zk<|zr<|zm ?_
           refine zb h fun t53 w h=>?_
           refine zm<|zn<|zk ?_
           exact ⟨rfl,h⟩
       · refine sim_exit<|sim_then_exit<|sim_then_exit<|sim_block_hit<|sim_block_normal<|zk<|zr<|zm ?_
         refine zb h fun t21 w h=>?_
         refine zm<|zn<|zk ?_
         exact ⟨rfl,h⟩
   · refine sim_exit<|sim_then_exit<|sim_then_exit<|sim_block_hit<|zk<|zs<|zr<|zm<|zn<|zk<|sim_ret ?_
     exact body_ret1 rfl rfl h
end Go.Proofs.YtiajhbbmgglmlaaGreat
namespace Go.Proofs.YtiajhbbmgglmlaaGreat
open Sw
open Go.RowKit (intOf Below)
theorem eq_Term (x y:TermD):(decide (x.field=y.field)&&decide (x.factor=y.factor))=decide (x=y):=by
 cases x;cases y
 rw [Bool.eq_iff_iff]
 simp
theorem Equal_Term_ret (w0:World) (v u:Value) (l m:List TermD) (hl:TermsOf w0 v l) (hm:TermsOf w0 u m) :
 Ret Pg 106 #[v,u] w0 fun r w'=>r = .bool (decide (l=m))∧Ext w0 w':=by
 obtain ⟨A,c,rfl,hlc,hcm,hlm,hel⟩:=SliceOf.open hl
 obtain ⟨A',c',rfl,hlc',hcm',hlm',hel'⟩:=SliceOf.open hm
 refine n113s (R:=retR _) ?_;unfold n113
 simp (disch:=try exact DI) only [↓PR,QR,Int.reduceBEq,Int.reduceBNe,Int.reduceLT,Int.reduceLE,Int.reduceGT,Int.reduceGE,Int.reduceNeg]
 by_cases hlen:l.length=m.length
 · have hne:((l.length:Int) != (m.length:Int))=false:=by simp [hlen]
   simp (disch:=try exact DI) only [↓PR,QR,Int.reduceBEq,Int.reduceBNe,Int.reduceLT,Int.reduceLE,Int.reduceGT,Int.reduceGE,Int.reduceNeg,↓n113c1,↓n113c2,hne]
   refine loop1_intro (fun a0 w=>∃ (k:Nat) , a0 = .int .i64 (k:Int)∧k≤l.length∧Ext w0 w∧l.take k=m.take k) (fun a0 _=>l.length - (intOf a0).toNat) ⟨0,rfl,Nat.zero_le _,ee,rfl⟩ ?_
   rintro _ w ⟨k,rfl,hk,e,hI⟩
   have se:=e.size
   rcases drop_cases hk with ⟨x,hx,hd,hlt,hdec⟩ | ⟨hk,hd,hdec⟩
   · obtain ⟨b,o,cs,rfl,_,hA,rfl⟩:=hel k x hx
     obtain ⟨y,hy⟩:=getElem?_lt (l:=m) (k:=k) (by omega)
     obtain ⟨b',o',cs',rfl,_,hA',rfl⟩:=hel' k y hy
     have hlt':k < m.length:=by omega
     have eD:Ext w0 w.drew:=e.wdrew
     simp (disch:=try exact DI) only [↓PR,QR,Int.reduceBEq,Int.reduceBNe,Int.reduceLT,Int.reduceLE,Int.reduceGT,Int.reduceGE,Int.reduceNeg,↓n113c1,↓n113c2,hdec]
     refine drawK_intro ?_
     simp (disch:=try exact DI) only [↓PR,QR,Int.reduceBEq,Int.reduceBNe,Int.reduceLT,Int.reduceLE,Int.reduceGT,Int.reduceGE,Int.reduceNeg,↓n113c1,↓n113c2,hA.c2,hA'.c2]
     rw [eq_Term]
     by_cases hxy:x=y
     · subst hxy
       simp only [decide_true,Bool.not_true]
       simp (disch:=try exact DI) only [↓PR,QR,Int.reduceBEq,Int.reduceBNe,Int.reduceLT,Int.reduceLE,Int.reduceGT,Int.reduceGE,Int.reduceNeg,↓n113c1,↓n113c2]
       exact ⟨⟨k+1,rfl,by omega,ee,by rw [List.take_add_one,List.take_add_one,hx,hy,hI]⟩,meas_lt hlt⟩
     · simp only [hxy,decide_false,Bool.not_false]
       simp (disch:=try exact DI) only [↓PR,QR,Int.reduceBEq,Int.reduceBNe,Int.reduceLT,Int.reduceLE,Int.reduceGT,Int.reduceGE,Int.reduceNeg,↓n113c1,↓n113c2]
       refine ⟨?_,eD⟩
       have hne':¬ l=m:=by
        rintro rfl
        rw [hx] at hy
        injection hy with hy
        exact hxy hy
       simp [hne']
   · subst hk
     simp (disch:=try exact DI) only [↓PR,QR,Int.reduceBEq,Int.reduceBNe,Int.reduceLT,Int.reduceLE,Int.reduceGT,Int.reduceGE,Int.reduceNeg,↓n113c1,↓n113c2,hdec]
     rw [List.take_length,hlen,List.take_length] at hI
     exact ⟨by simp [hI],e⟩
 · have hne:((l.length:Int) != (m.length:Int))=true:=by simp;omega
   simp (disch:=try exact DI) only [↓PR,QR,Int.reduceBEq,Int.reduceBNe,Int.reduceLT,Int.reduceLE,Int.reduceGT,Int.reduceGE,Int.reduceNeg,↓n113c1,↓n113c2,hne]
   have hne':¬ l=m:=fun h=>hlen (by rw [h])
   exact ⟨by simp [hne'],Ext.refl _⟩
theorem eq_Case (x y:CaseD):(decide (x.low=y.low)&&(decide (x.high=y.high)&&decide (x.of=y.of)))=decide (x=y):=by
 cases x;cases y
 rw [Bool.eq_iff_iff]
 simp
theorem Equal_Case_ret (w0:World) (v u:Value) (l m:List CaseD) (hl:CasesOf w0 v l) (hm:CasesOf w0 u m) :
 Ret Pg 107 #[v,u] w0 fun r w'=>r = .bool (decide (l=m))∧Ext w0 w':=by
 obtain ⟨A,c,rfl,hlc,hcm,hlm,hel⟩:=SliceOf.open hl
 obtain ⟨A',c',rfl,hlc',hcm',hlm',hel'⟩:=SliceOf.open hm
 refine n112s (R:=retR _) ?_;unfold n112
 simp (disch:=try exact DI) only [↓PR,QR,Int.reduceBEq,Int.reduceBNe,Int.reduceLT,Int.reduceLE,Int.reduceGT,Int.reduceGE,Int.reduceNeg]
 by_cases hlen:l.length=m.length
 · have hne:((l.length:Int) != (m.length:Int))=false:=by simp [hlen]
   simp (disch:=try exact DI) only [↓PR,QR,Int.reduceBEq,Int.reduceBNe,Int.reduceLT,Int.reduceLE,Int.reduceGT,Int.reduceGE,Int.reduceNeg,↓n112c1,↓n112c2,hne]
   refine loop1_intro (fun a0 w=>∃ (k:Nat) , a0 = .int .i64 (k:Int)∧k≤l.length∧Ext w0 w∧l.take k=m.take k) (fun a0 _=>l.length - (intOf a0).toNat) ⟨0,rfl,Nat.zero_le _,ee,rfl⟩ ?_
   rintro _ w ⟨k,rfl,hk,e,hI⟩
   have se:=e.size
   rcases drop_cases hk with ⟨x,hx,hd,hlt,hdec⟩ | ⟨hk,hd,hdec⟩
   · obtain ⟨b,o,cs,rfl,_,hA,rfl⟩:=hel k x hx
     obtain ⟨y,hy⟩:=getElem?_lt (l:=m) (k:=k) (by omega)
     obtain ⟨b',o',cs',rfl,_,hA',rfl⟩:=hel' k y hy
     have hlt':k < m.length:=by omega
     have eD:Ext w0 w.drew:=e.wdrew
     simp (disch:=try exact DI) only [↓PR,QR,Int.reduceBEq,Int.reduceBNe,Int.reduceLT,Int.reduceLE,Int.reduceGT,Int.reduceGE,Int.reduceNeg,↓n112c1,↓n112c2,hdec]
     refine drawK_intro ?_
     simp (disch:=try exact DI) only [↓PR,QR,Int.reduceBEq,Int.reduceBNe,Int.reduceLT,Int.reduceLE,Int.reduceGT,Int.reduceGE,Int.reduceNeg,↓n112c1,↓n112c2,hA.c3,hA'.c3]
     rw [eq_Case]
     by_cases hxy:x=y
     · subst hxy
       simp only [decide_true,Bool.not_true]
       simp (disch:=try exact DI) only [↓PR,QR,Int.reduceBEq,Int.reduceBNe,Int.reduceLT,Int.reduceLE,Int.reduceGT,Int.reduceGE,Int.reduceNeg,↓n112c1,↓n112c2]
       exact ⟨⟨k+1,rfl,by omega,ee,by rw [List.take_add_one,List.take_add_one,hx,hy,hI]⟩,meas_lt hlt⟩
     · simp only [hxy,decide_false,Bool.not_false]
       simp (disch:=try exact DI) only [↓PR,QR,Int.reduceBEq,Int.reduceBNe,Int.reduceLT,Int.reduceLE,Int.reduceGT,Int.reduceGE,Int.reduceNeg,↓n112c1,↓n112c2]
       refine ⟨?_,eD⟩
       have hne':¬ l=m:=by
        rintro rfl
        rw [hx] at hy
        injection hy with hy
        exact hxy hy
       simp [hne']
   · subst hk
     simp (disch:=try exact DI) only [↓PR,QR,Int.reduceBEq,Int.reduceBNe,Int.reduceLT,Int.reduceLE,Int.reduceGT,Int.reduceGE,Int.reduceNeg,↓n112c1,↓n112c2,hdec]
     rw [List.take_length,hlen,List.take_length] at hI
     exact ⟨by simp [hI],e⟩
 · have hne:((l.length:Int) != (m.length:Int))=true:=by simp;omega
   simp (disch:=try exact DI) only [↓PR,QR,Int.reduceBEq,Int.reduceBNe,Int.reduceLT,Int.reduceLE,Int.reduceGT,Int.reduceGE,Int.reduceNeg,↓n112c1,↓n112c2,hne]
   have hne':¬ l=m:=fun h=>hlen (by rw [h])
   exact ⟨by simp [hne'],Ext.refl _⟩
abbrev partsVal (f:FieldD):Value := .agg #[.string f.name,.string f.of,.string f.tag,.string f.fr,.int .i64 f.kind,.int .i64 f.bits,.int .i64 f.low,.int .i64 f.high,.int .i64 f.base,.int .i64 f.check,.int .i64 f.key,.bool f.little,.bool f.loose]
theorem parts_ret (w0:World) (v:Value) (f:FieldD) (hf:FieldVal w0 v f):Ret Pg 105 #[v] w0 fun r w'=>r=partsVal f∧Ext w0 w':=by
 obtain ⟨tv,cv,rfl,hT,hC,ht1,hc1⟩:=hf.op
 refine n87s (R:=retR _) ?_;unfold n87
 simp (disch:=try exact DI) only [↓PR,QR,Int.reduceBEq,Int.reduceBNe,Int.reduceLT,Int.reduceLE,Int.reduceGT,Int.reduceGE,Int.reduceNeg,Sw.joinK_eq]
 exact ⟨by first | trivial | rfl,ee⟩
theorem sameField_ret (w0:World) (v u:Value) (f g:FieldD) (hf:FieldVal w0 v f) (hg:FieldVal w0 u g):Ret Pg 70 #[v,u] w0 fun r w'=>r = .bool (decide (f=g))∧Ext w0 w':=by
 obtain ⟨tv,cv,rfl,hT,hC,ht1,hc1⟩:=hf.op
 obtain ⟨tv',cv',rfl,hT',hC',ht1',hc1'⟩:=hg.op
 refine n89s (R:=retR _) ?_;unfold n89
 simp (disch:=try exact DI) only [↓PR,QR,Int.reduceBEq,Int.reduceBNe,Int.reduceLT,Int.reduceLE,Int.reduceGT,Int.reduceGE,Int.reduceNeg]
 generalize hW:World.alloc (World.alloc w0 _) _=W
 have e0:Ext w0 W:=by rw [← hW];exact ee
 have o3:W.heap[w0.heap.size]?=some (.cells (fieldCells f tv cv).toArray 52 (0,0)):=by rw [← hW];simp (disch:=try exact DI) only [↓PR,QR,Int.reduceBEq,Int.reduceBNe,Int.reduceLT,Int.reduceLE,Int.reduceGT,Int.reduceGE,Int.reduceNeg]
 have o4:W.heap[w0.heap.size+1]?=some (.cells (fieldCells g tv' cv').toArray 52 (0,0)):=by rw [← hW];simp (disch:=try exact DI) only [↓PR,QR,Int.reduceBEq,Int.reduceBNe,Int.reduceLT,Int.reduceLE,Int.reduceGT,Int.reduceGE,Int.reduceNeg]
 clear hW
 simp only [World.size_alloc]
 refine drawK_intro ?_
 have eD:Ext w0 W.drew:=e0.wdrew
 simp (disch:=try exact DI) only [↓PR,QR,Int.reduceBEq,Int.reduceBNe,Int.reduceLT,Int.reduceLE,Int.reduceGT,Int.reduceGE,Int.reduceNeg,↓n89c1,↓n89c2,↓n89c3,(cells_of_heap o3).1,(cells_of_heap o4).1]
 refine zcr (parts_ret _ _ f ⟨tv,cv,rfl,TermsOf.ext hT eD,CasesOf.ext hC eD⟩) fun w1 e1=>?_
 refine ⟨e1,?_⟩
 have eD1:=eD.trans e1
 refine zcr (parts_ret _ _ g ⟨tv',cv',rfl,TermsOf.ext hT' eD1,CasesOf.ext hC' eD1⟩) fun w2 e2=>?_
 refine ⟨e1.trans e2,?_⟩
 simp (disch:=try exact DI) only [↓PR,QR,Int.reduceBEq,Int.reduceBNe,Int.reduceLT,Int.reduceLE,Int.reduceGT,Int.reduceGE,Int.reduceNeg,↓n89c1,↓n89c2,↓n89c3,(cells_of_heap o3).1,(cells_of_heap o4).1]
 have eW2:Ext W w2:=(Ext.refl W).wdrew.trans (e1.trans e2)
 generalize hb:(_&&_:Bool)=b1
 cases b1 with
 | false =>
  simp (disch:=try exact DI) only [↓PR,QR,Int.reduceBEq,Int.reduceBNe,Int.reduceLT,Int.reduceLE,Int.reduceGT,Int.reduceGE,Int.reduceNeg,↓n89c1,↓n89c2,↓n89c3]
  refine ⟨?_,e0.trans eW2⟩
  have hne:¬ f=g:=by
   rintro rfl
   simp at hb
  simp [hne]
 | true =>
  have hbt:=hb
  simp only [Bool.and_eq_true,decide_eq_true_eq] at hb
  obtain ⟨h1,h2,h3,h4,h5,h6,h7,h8,h9,h10,h11,h12,h13⟩:=hb
  simp (disch:=try exact DI) only [↓PR,QR,Int.reduceBEq,Int.reduceBNe,Int.reduceLT,Int.reduceLE,Int.reduceGT,Int.reduceGE,Int.reduceNeg,↓n89c1,↓n89c2,↓n89c3,(cells_of_heap o3).1,(cells_of_heap o4).1]
  refine zcr (Equal_Term_ret _ _ _ _ _ (TermsOf.ext hT (e0.trans eW2)) (TermsOf.ext hT' (e0.trans eW2))) fun w3 e3=>?_
  refine ⟨(e1.trans e2).trans e3,?_⟩
  have eW3:=eW2.trans e3
  by_cases ht:f.terms=g.terms
  · simp only [ht,decide_true]
    simp (disch:=try exact DI) only [↓PR,QR,Int.reduceBEq,Int.reduceBNe,Int.reduceLT,Int.reduceLE,Int.reduceGT,Int.reduceGE,Int.reduceNeg,↓n89c1,↓n89c2,↓n89c3,hbt,(cells_of_heap o3).1,(cells_of_heap o4).1]
    refine zcr (Equal_Case_ret _ _ _ _ _ (CasesOf.ext hC (e0.trans eW3)) (CasesOf.ext hC' (e0.trans eW3))) fun w4 e4=>?_
    refine ⟨((e1.trans e2).trans e3).trans e4,?_⟩
    simp (disch:=try exact DI) only [↓PR,QR,Int.reduceBEq,Int.reduceBNe,Int.reduceLT,Int.reduceLE,Int.reduceGT,Int.reduceGE,Int.reduceNeg,↓n89c1,↓n89c2,↓n89c3]
    refine ⟨?_,e0.trans (eW3.trans e4)⟩
    congr 1
    rw [Bool.eq_iff_iff]
    simp only [decide_eq_true_eq]
    constructor
    · intro hc;cases f;cases g;simp_all
    · rintro rfl;rfl
  · simp only [ht,decide_false]
    simp (disch:=try exact DI) only [↓PR,QR,Int.reduceBEq,Int.reduceBNe,Int.reduceLT,Int.reduceLE,Int.reduceGT,Int.reduceGE,Int.reduceNeg,↓n89c1,↓n89c2,↓n89c3,hbt]
    refine ⟨?_,e0.trans eW3⟩
    have hne:¬ f=g:=by rintro rfl;exact ht rfl
    simp [hne]
end Go.Proofs.YtiajhbbmgglmlaaGreat
namespace Go.Proofs.YtiajhbbmgglmlaaGreat
open Sw
open Go.RowKit (intOf Below)
def Clears (g:FuncId) (cl:FieldD→FieldD) (ct cc:Bool):Prop:=∀ (w:World) (p:Nat) (f:FieldD) (tv cv:Value),tv.oneCell'=true→cv.oneCell'=true→w.heap[p]?=some (.cells (fieldCells f tv cv).toArray 52 (0,0)) →
 Ret Pg g #[.pointer (some ⟨p,0,none⟩)] w fun _ w'=>w'.heap[p]?=some (.cells (fieldCells (cl f) (if ct then .slice none 0 0 else tv) (if cc then .slice none 0 0 else cv)).toArray 52 (0,0))∧∀ a,Ext a w→a.heap.size≤p→Ext a w'
def clear1 (f:FieldD):FieldD:={ f with bits:=0,little:=false,low:=0,high:=0 }
theorem clears1:Clears 78 clear1 false false:=by
 intro w p f tv cv ht1 hc1 hp
 have hlt:=(Array.getElem?_eq_some_iff.1 hp).1
 refine n63s (R:=retR _) ?_;unfold n63
 simp (disch:=try exact DI) only [↓PR,QR,Int.reduceBEq,Int.reduceBNe,Int.reduceLT,Int.reduceLE,Int.reduceGT,Int.reduceGE,Int.reduceNeg,Sw.joinK_eq,(cells_of_heap hp).1,(cells_of_heap hp).2]
 refine ⟨?_,fun a e hp'=>?_⟩
 · simp only [heap_set_map,hp,Option.map_some,setObj_cells,List.setIfInBounds_toArray,List.set_cons_zero,List.set_cons_succ,Bool.false_eq_true,if_false,if_true]
   try rfl
 · exact ee
def clear2 (f:FieldD):FieldD:={ f with bits:=0,little:=false,low:=0 }
theorem clears2:Clears 82 clear2 false false:=by
 intro w p f tv cv ht1 hc1 hp
 have hlt:=(Array.getElem?_eq_some_iff.1 hp).1
 refine n78s (R:=retR _) ?_;unfold n78
 simp (disch:=try exact DI) only [↓PR,QR,Int.reduceBEq,Int.reduceBNe,Int.reduceLT,Int.reduceLE,Int.reduceGT,Int.reduceGE,Int.reduceNeg,Sw.joinK_eq,(cells_of_heap hp).1,(cells_of_heap hp).2]
 refine ⟨?_,fun a e hp'=>?_⟩
 · simp only [heap_set_map,hp,Option.map_some,setObj_cells,List.setIfInBounds_toArray,List.set_cons_zero,List.set_cons_succ,Bool.false_eq_true,if_false,if_true]
   try rfl
 · exact ee
def clear3 (f:FieldD):FieldD:={ f with loose:=false,low:=0,high:=0 }
theorem clears3:Clears 84 clear3 false false:=by
 intro w p f tv cv ht1 hc1 hp
 have hlt:=(Array.getElem?_eq_some_iff.1 hp).1
 refine n80s (R:=retR _) ?_;unfold n80
 simp (disch:=try exact DI) only [↓PR,QR,Int.reduceBEq,Int.reduceBNe,Int.reduceLT,Int.reduceLE,Int.reduceGT,Int.reduceGE,Int.reduceNeg,Sw.joinK_eq,(cells_of_heap hp).1,(cells_of_heap hp).2]
 refine ⟨?_,fun a e hp'=>?_⟩
 · simp only [heap_set_map,hp,Option.map_some,setObj_cells,List.setIfInBounds_toArray,List.set_cons_zero,List.set_cons_succ,Bool.false_eq_true,if_false,if_true]
   try rfl
 · exact ee
def clear4 (f:FieldD):FieldD:={ f with base:=0,terms:=[] }
theorem clears4:Clears 86 clear4 true false:=by
 intro w p f tv cv ht1 hc1 hp
 have hlt:=(Array.getElem?_eq_some_iff.1 hp).1
 refine n82s (R:=retR _) ?_;unfold n82
 simp (disch:=try exact DI) only [↓PR,QR,Int.reduceBEq,Int.reduceBNe,Int.reduceLT,Int.reduceLE,Int.reduceGT,Int.reduceGE,Int.reduceNeg,Sw.joinK_eq,(cells_of_heap hp).1,(cells_of_heap hp).2]
 refine ⟨?_,fun a e hp'=>?_⟩
 · simp only [heap_set_map,hp,Option.map_some,setObj_cells,List.setIfInBounds_toArray,List.set_cons_zero,List.set_cons_succ,Bool.false_eq_true,if_false,if_true]
   try rfl
 · exact ee
def clear5 (f:FieldD):FieldD:={ f with low:=0,high:=0 }
theorem clears5:Clears 88 clear5 false false:=by
 intro w p f tv cv ht1 hc1 hp
 have hlt:=(Array.getElem?_eq_some_iff.1 hp).1
 refine n83s (R:=retR _) ?_;unfold n83
 simp (disch:=try exact DI) only [↓PR,QR,Int.reduceBEq,Int.reduceBNe,Int.reduceLT,Int.reduceLE,Int.reduceGT,Int.reduceGE,Int.reduceNeg,Sw.joinK_eq,(cells_of_heap hp).1,(cells_of_heap hp).2]
 refine ⟨?_,fun a e hp'=>?_⟩
 · simp only [heap_set_map,hp,Option.map_some,setObj_cells,List.setIfInBounds_toArray,List.set_cons_zero,List.set_cons_succ,Bool.false_eq_true,if_false,if_true]
   try rfl
 · exact ee
def clear6 (f:FieldD):FieldD:={ f with loose:=false,high:=0 }
theorem clears6:Clears 90 clear6 false false:=by
 intro w p f tv cv ht1 hc1 hp
 have hlt:=(Array.getElem?_eq_some_iff.1 hp).1
 refine n64s (R:=retR _) ?_;unfold n64
 simp (disch:=try exact DI) only [↓PR,QR,Int.reduceBEq,Int.reduceBNe,Int.reduceLT,Int.reduceLE,Int.reduceGT,Int.reduceGE,Int.reduceNeg,Sw.joinK_eq,(cells_of_heap hp).1,(cells_of_heap hp).2]
 refine ⟨?_,fun a e hp'=>?_⟩
 · simp only [heap_set_map,hp,Option.map_some,setObj_cells,List.setIfInBounds_toArray,List.set_cons_zero,List.set_cons_succ,Bool.false_eq_true,if_false,if_true]
   try rfl
 · exact ee
def clear7 (f:FieldD):FieldD:={ f with of:=ByteArray.empty,base:=0,terms:=[] }
theorem clears7:Clears 92 clear7 true false:=by
 intro w p f tv cv ht1 hc1 hp
 have hlt:=(Array.getElem?_eq_some_iff.1 hp).1
 refine n66s (R:=retR _) ?_;unfold n66
 simp (disch:=try exact DI) only [↓PR,QR,Int.reduceBEq,Int.reduceBNe,Int.reduceLT,Int.reduceLE,Int.reduceGT,Int.reduceGE,Int.reduceNeg,Sw.joinK_eq,(cells_of_heap hp).1,(cells_of_heap hp).2]
 refine ⟨?_,fun a e hp'=>?_⟩
 · simp only [heap_set_map,hp,Option.map_some,setObj_cells,List.setIfInBounds_toArray,List.set_cons_zero,List.set_cons_succ,Bool.false_eq_true,if_false,if_true]
   try rfl
 · exact ee
def clear8 (f:FieldD):FieldD:={ f with of:=ByteArray.empty }
theorem clears8:Clears 95 clear8 false false:=by
 intro w p f tv cv ht1 hc1 hp
 have hlt:=(Array.getElem?_eq_some_iff.1 hp).1
 refine n68s (R:=retR _) ?_;unfold n68
 simp (disch:=try exact DI) only [↓PR,QR,Int.reduceBEq,Int.reduceBNe,Int.reduceLT,Int.reduceLE,Int.reduceGT,Int.reduceGE,Int.reduceNeg,Sw.joinK_eq,(cells_of_heap hp).1,(cells_of_heap hp).2]
 refine ⟨?_,fun a e hp'=>?_⟩
 · simp only [heap_set_map,hp,Option.map_some,setObj_cells,List.setIfInBounds_toArray,List.set_cons_zero,List.set_cons_succ,Bool.false_eq_true,if_false,if_true]
   try rfl
 · exact ee
def clear9 (f:FieldD):FieldD:={ f with tag:=ByteArray.empty,cases:=[] }
theorem clears9:Clears 97 clear9 false true:=by
 intro w p f tv cv ht1 hc1 hp
 have hlt:=(Array.getElem?_eq_some_iff.1 hp).1
 refine n70s (R:=retR _) ?_;unfold n70
 simp (disch:=try exact DI) only [↓PR,QR,Int.reduceBEq,Int.reduceBNe,Int.reduceLT,Int.reduceLE,Int.reduceGT,Int.reduceGE,Int.reduceNeg,Sw.joinK_eq,(cells_of_heap hp).1,(cells_of_heap hp).2]
 refine ⟨?_,fun a e hp'=>?_⟩
 · simp only [heap_set_map,hp,Option.map_some,setObj_cells,List.setIfInBounds_toArray,List.set_cons_zero,List.set_cons_succ,Bool.false_eq_true,if_false,if_true]
   try rfl
 · exact ee
def clear10 (f:FieldD):FieldD:={ f with bits:=0 }
theorem clears10:Clears 99 clear10 false false:=by
 intro w p f tv cv ht1 hc1 hp
 have hlt:=(Array.getElem?_eq_some_iff.1 hp).1
 refine n71s (R:=retR _) ?_;unfold n71
 simp (disch:=try exact DI) only [↓PR,QR,Int.reduceBEq,Int.reduceBNe,Int.reduceLT,Int.reduceLE,Int.reduceGT,Int.reduceGE,Int.reduceNeg,Sw.joinK_eq,(cells_of_heap hp).1,(cells_of_heap hp).2]
 refine ⟨?_,fun a e hp'=>?_⟩
 · simp only [heap_set_map,hp,Option.map_some,setObj_cells,List.setIfInBounds_toArray,List.set_cons_zero,List.set_cons_succ,Bool.false_eq_true,if_false,if_true]
   try rfl
 · exact ee
def clear11 (f:FieldD):FieldD:={ f with fr:=ByteArray.empty,check:=0 }
theorem clears11:Clears 101 clear11 false false:=by
 intro w p f tv cv ht1 hc1 hp
 have hlt:=(Array.getElem?_eq_some_iff.1 hp).1
 refine n73s (R:=retR _) ?_;unfold n73
 simp (disch:=try exact DI) only [↓PR,QR,Int.reduceBEq,Int.reduceBNe,Int.reduceLT,Int.reduceLE,Int.reduceGT,Int.reduceGE,Int.reduceNeg,Sw.joinK_eq,(cells_of_heap hp).1,(cells_of_heap hp).2]
 refine ⟨?_,fun a e hp'=>?_⟩
 · simp only [heap_set_map,hp,Option.map_some,setObj_cells,List.setIfInBounds_toArray,List.set_cons_zero,List.set_cons_succ,Bool.false_eq_true,if_false,if_true]
   try rfl
 · exact ee
def clear12 (f:FieldD):FieldD:={ f with of:=ByteArray.empty,base:=0,terms:=[],key:=0 }
theorem clears12:Clears 103 clear12 true false:=by
 intro w p f tv cv ht1 hc1 hp
 have hlt:=(Array.getElem?_eq_some_iff.1 hp).1
 refine n76s (R:=retR _) ?_;unfold n76
 simp (disch:=try exact DI) only [↓PR,QR,Int.reduceBEq,Int.reduceBNe,Int.reduceLT,Int.reduceLE,Int.reduceGT,Int.reduceGE,Int.reduceNeg,Sw.joinK_eq,(cells_of_heap hp).1,(cells_of_heap hp).2]
 refine ⟨?_,fun a e hp'=>?_⟩
 · simp only [heap_set_map,hp,Option.map_some,setObj_cells,List.setIfInBounds_toArray,List.set_cons_zero,List.set_cons_succ,Bool.false_eq_true,if_false,if_true]
   try rfl
 · exact ee
abbrev kindEnc:Int→Value:=fun n => .int .i64 n
def KindsIn (L:List (Int×Value×Nat)):Prop:=(∀ k,¬ (1≤k∧k≤12)→Sw.look L k=none)∧Sw.look L 1=some (.agg #[.func (.func 78) #[] #[],.func (.func 79) #[] #[]])∧Sw.look L 2=some (.agg #[.func (.func 82) #[] #[],.func (.func 83) #[] #[]])∧Sw.look L 3=some (.agg #[.func (.func 84) #[] #[],.func (.func 85) #[] #[]])∧Sw.look L 4=some (.agg #[.func (.func 86) #[] #[],.func (.func 87) #[] #[]])∧Sw.look L 5=some (.agg #[.func (.func 88) #[] #[],.func (.func 89) #[] #[]])∧Sw.look L 6=some (.agg #[.func (.func 90) #[] #[],.func (.func 91) #[] #[]])∧Sw.look L 7=some (.agg #[.func (.func 92) #[] #[],.func (.func 93) #[] #[]])∧Sw.look L 8=some (.agg #[.func (.func 95) #[] #[],.func (.func 96) #[] #[]])∧Sw.look L 9=some (.agg #[.func (.func 97) #[] #[],.func (.func 98) #[] #[]])∧Sw.look L 10=some (.agg #[.func (.func 99) #[] #[],.func (.func 100) #[] #[]])∧Sw.look L 11=some (.agg #[.func (.func 101) #[] #[],.func (.func 102) #[] #[]])∧Sw.look L 12=some (.agg #[.func (.func 103) #[] #[],.func (.func 104) #[] #[]])
theorem kind_step {w0 w:World} {m c:Nat} {L:List (Int×Value×Nat)} {QP:List PanicEntry→World→Prop} {ku:World→Prop} (hM:MapB w m kindEnc L c) (e:Ext w0 w) (hm:w0.heap.size≤m) (k:Int) (v:Value)
 (h:∀ w' L' c',MapB w' m kindEnc L' c'→(∀ k',Sw.look L' k'=if k'=k then some v else Sw.look L k')→Ext w0 w'→ku w'):opU Pg (Instr.mapUpdate 123 (.map (some m)) (.int .i64 k) v) QP w ku:=by
 rw [op_mapUpdate Tryz.underlying123 (KeyOK.int Tryz.underlying46) hM k v]
 exact h _ _ _ (hM.put k v) (fun k'=>look_put _ _ _ _ _) (e.putObj hm _)
theorem kinds_ret (w0:World):Ret Pg 69 #[] w0 fun r w'=>∃ m L c,r = .map (some m)∧w0.heap.size≤m∧MapB w' m kindEnc L c∧KindsIn L∧Ext w0 w':=by
 refine n62s (R:=retR _) ?_;unfold n62
 simp (disch:=try exact DI) only [↓PR,QR,Int.reduceBEq,Int.reduceBNe,Int.reduceLT,Int.reduceLE,Int.reduceGT,Int.reduceGE,Int.reduceNeg]
 have hM0:MapB (w0.alloc (.map #[] 0)) w0.heap.size kindEnc [] 0:=MapB.new w0 _
 have e0:Ext w0 (w0.alloc (.map #[] 0)):=ee
 refine kind_step hM0 e0 (Nat.le_refl _) 1 _ (fun w1 L1 c1 hM1 hl1 e1=>?_)
 simp (disch:=try exact DI) only [↓PR,QR,Int.reduceBEq,Int.reduceBNe,Int.reduceLT,Int.reduceLE,Int.reduceGT,Int.reduceGE,Int.reduceNeg]
 refine kind_step hM1 e1 (Nat.le_refl _) 2 _ (fun w2 L2 c2 hM2 hl2 e2=>?_)
 simp (disch:=try exact DI) only [↓PR,QR,Int.reduceBEq,Int.reduceBNe,Int.reduceLT,Int.reduceLE,Int.reduceGT,Int.reduceGE,Int.reduceNeg]
 refine kind_step hM2 e2 (Nat.le_refl _) 3 _ (fun w3 L3 c3 hM3 hl3 e3=>?_)
 simp (disch:=try exact DI) only [↓PR,QR,Int.reduceBEq,Int.reduceBNe,Int.reduceLT,Int.reduceLE,Int.reduceGT,Int.reduceGE,Int.reduceNeg]
 refine kind_step hM3 e3 (Nat.le_refl _) 4 _ (fun w4 L4 c4 hM4 hl4 e4=>?_)
 simp (disch:=try exact DI) only [↓PR,QR,Int.reduceBEq,Int.reduceBNe,Int.reduceLT,Int.reduceLE,Int.reduceGT,Int.reduceGE,Int.reduceNeg]
 refine kind_step hM4 e4 (Nat.le_refl _) 5 _ (fun w5 L5 c5 hM5 hl5 e5=>?_)
 simp (disch:=try exact DI) only [↓PR,QR,Int.reduceBEq,Int.reduceBNe,Int.reduceLT,Int.reduceLE,Int.reduceGT,Int.reduceGE,Int.reduceNeg]
 refine kind_step hM5 e5 (Nat.le_refl _) 6 _ (fun w6 L6 c6 hM6 hl6 e6=>?_)
 simp (disch:=try exact DI) only [↓PR,QR,Int.reduceBEq,Int.reduceBNe,Int.reduceLT,Int.reduceLE,Int.reduceGT,Int.reduceGE,Int.reduceNeg]
 refine kind_step hM6 e6 (Nat.le_refl _) 7 _ (fun w7 L7 c7 hM7 hl7 e7=>?_)
 simp (disch:=try exact DI) only [↓PR,QR,Int.reduceBEq,Int.reduceBNe,Int.reduceLT,Int.reduceLE,Int.reduceGT,Int.reduceGE,Int.reduceNeg]
 refine kind_step hM7 e7 (Nat.le_refl _) 8 _ (fun w8 L8 c8 hM8 hl8 e8=>?_)
 simp (disch:=try exact DI) only [↓PR,QR,Int.reduceBEq,Int.reduceBNe,Int.reduceLT,Int.reduceLE,Int.reduceGT,Int.reduceGE,Int.reduceNeg]
 refine kind_step hM8 e8 (Nat.le_refl _) 9 _ (fun w9 L9 c9 hM9 hl9 e9=>?_)
 simp (disch:=try exact DI) only [↓PR,QR,Int.reduceBEq,Int.reduceBNe,Int.reduceLT,Int.reduceLE,Int.reduceGT,Int.reduceGE,Int.reduceNeg]
 refine kind_step hM9 e9 (Nat.le_refl _) 10 _ (fun w10 L10 c10 hM10 hl10 e10=>?_)
 simp (disch:=try exact DI) only [↓PR,QR,Int.reduceBEq,Int.reduceBNe,Int.reduceLT,Int.reduceLE,Int.reduceGT,Int.reduceGE,Int.reduceNeg]
 refine kind_step hM10 e10 (Nat.le_refl _) 11 _ (fun w11 L11 c11 hM11 hl11 e11=>?_)
 simp (disch:=try exact DI) only [↓PR,QR,Int.reduceBEq,Int.reduceBNe,Int.reduceLT,Int.reduceLE,Int.reduceGT,Int.reduceGE,Int.reduceNeg]
 refine kind_step hM11 e11 (Nat.le_refl _) 12 _ (fun w12 L12 c12 hM12 hl12 e12=>?_)
 simp (disch:=try exact DI) only [↓PR,QR,Int.reduceBEq,Int.reduceBNe,Int.reduceLT,Int.reduceLE,Int.reduceGT,Int.reduceGE,Int.reduceNeg]
 have hn:∀ k,Sw.look ([]:List (Int×Value×Nat)) k=none:=fun _=>rfl
 refine ⟨_,_,_,rfl,Nat.le_refl _,hM12,⟨fun k hk=>?_,?_,?_,?_,?_,?_,?_,?_,?_,?_,?_,?_,?_⟩,e12⟩
 · rw [hl12,if_neg (by omega),hl11,if_neg (by omega),hl10,if_neg (by omega),hl9,if_neg (by omega),hl8,if_neg (by omega),hl7,if_neg (by omega),hl6,if_neg (by omega),hl5,if_neg (by omega),hl4,if_neg (by omega),hl3,if_neg (by omega),hl2,if_neg (by omega),hl1,if_neg (by omega),hn]
 · rw [hl12,if_neg (by decide),hl11,if_neg (by decide),hl10,if_neg (by decide),hl9,if_neg (by decide),hl8,if_neg (by decide),hl7,if_neg (by decide),hl6,if_neg (by decide),hl5,if_neg (by decide),hl4,if_neg (by decide),hl3,if_neg (by decide),hl2,if_neg (by decide),hl1,if_pos rfl]
 · rw [hl12,if_neg (by decide),hl11,if_neg (by decide),hl10,if_neg (by decide),hl9,if_neg (by decide),hl8,if_neg (by decide),hl7,if_neg (by decide),hl6,if_neg (by decide),hl5,if_neg (by decide),hl4,if_neg (by decide),hl3,if_neg (by decide),hl2,if_pos rfl]
 · rw [hl12,if_neg (by decide),hl11,if_neg (by decide),hl10,if_neg (by decide),hl9,if_neg (by decide),hl8,if_neg (by decide),hl7,if_neg (by decide),hl6,if_neg (by decide),hl5,if_neg (by decide),hl4,if_neg (by decide),hl3,if_pos rfl]
 · rw [hl12,if_neg (by decide),hl11,if_neg (by decide),hl10,if_neg (by decide),hl9,if_neg (by decide),hl8,if_neg (by decide),hl7,if_neg (by decide),hl6,if_neg (by decide),hl5,if_neg (by decide),hl4,if_pos rfl]
 · rw [hl12,if_neg (by decide),hl11,if_neg (by decide),hl10,if_neg (by decide),hl9,if_neg (by decide),hl8,if_neg (by decide),hl7,if_neg (by decide),hl6,if_neg (by decide),hl5,if_pos rfl]
 · rw [hl12,if_neg (by decide),hl11,if_neg (by decide),hl10,if_neg (by decide),hl9,if_neg (by decide),hl8,if_neg (by decide),hl7,if_neg (by decide),hl6,if_pos rfl]
 · rw [hl12,if_neg (by decide),hl11,if_neg (by decide),hl10,if_neg (by decide),hl9,if_neg (by decide),hl8,if_neg (by decide),hl7,if_pos rfl]
 · rw [hl12,if_neg (by decide),hl11,if_neg (by decide),hl10,if_neg (by decide),hl9,if_neg (by decide),hl8,if_pos rfl]
 · rw [hl12,if_neg (by decide),hl11,if_neg (by decide),hl10,if_neg (by decide),hl9,if_pos rfl]
 · rw [hl12,if_neg (by decide),hl11,if_neg (by decide),hl10,if_pos rfl]
 · rw [hl12,if_neg (by decide),hl11,if_pos rfl]
 · rw [hl12,if_pos rfl]
def bareF (f:FieldD):FieldD:={ name:=f.name,kind:=f.kind,bits:=0,little:=false,loose:=false,low:=0,high:=0,base:=0,terms:=[],of:=ByteArray.empty,tag:=ByteArray.empty,fr:=ByteArray.empty,cases:=[],check:=0,key:=0 }
section
variable {w0:World} {cb md ms:Nat} {deps strs:List (ByteArray×Value)} {at_ fld:Int} {fs:List FieldD}
theorem exa_tail {a0:World} (e00:Ext a0 w0) (h:Chk w0 cb md ms deps strs at_ fld fs) (p3 p6:Nat) (f:FieldD) (tv cv:Value) (hT:TermsOf w0 tv f.terms) (hC:CasesOf w0 cv f.cases) (o3:w0.heap[p3]?=some (.cells (fieldCells f tv cv).toArray 52 (0,0)))
 (g1 g2:FuncId) (o6:w0.heap[p6]?=some (.cells #[.func (.func g1) #[] #[],.func (.func g2) #[] #[]] 121 (0,0))) (hc1:Callable Pg g1) (hc2:Callable Pg g2) (cl:FieldD→FieldD) (ct cc:Bool) (hcl:Clears g1 cl ct cc)
 (hterms:(cl f).terms=if ct then [] else f.terms) (hcases:(cl f).cases=if cc then [] else f.cases) (code:Int)
 (hchk:∀ w v,Chk w cb md ms deps strs at_ fld fs→FieldVal w v f→Calls Pg g2 #[.pointer (some ⟨cb,0,none⟩),v] w (flwR w at_ fld code)) :
 n53c3 (.pointer (some ⟨cb,0,none⟩)) (.pointer (some ⟨p3,0,none⟩)) (.pointer (some ⟨p6,0,none⟩)) (flwR a0 at_ fld (orC (needC (decide (cl f=bareF f)) 5) code)) w0:=by
 have ht1:=SliceOf.oneCell hT
 have hv1:=SliceOf.oneCell hC
 have l6:p6 < w0.heap.size:=(Array.getElem?_eq_some_iff.1 o6).1
 unfold n53c3
 simp (disch:=try exact DI) only [↓PR,QR,Int.reduceBEq,Int.reduceBNe,Int.reduceLT,Int.reduceLE,Int.reduceGT,Int.reduceGE,Int.reduceNeg,(cells_of_heap o3).1,(cells_of_heap o6).1]
 have e1:Ext w0 (w0.alloc (Obj.cells (fieldCells f tv cv).toArray 52)):=ee
 have o7:=heap_new w0 (fieldCells f tv cv).toArray 52
 rw [callV_func hc1]
 simp only [Array.empty_append,Array.append_empty]
 refine callK_ret (hcl _ w0.heap.size f tv cv ht1 hv1 o7) ?_
 rintro r w2 ⟨o7',hE⟩
 have e2:=hE w0 e1 (Nat.le_refl _)
 clear hE o7 e1
 have hT2:TermsOf w2 (if ct then .slice none 0 0 else tv) (cl f).terms:=by
  rw [hterms]
  cases ct
  · exact TermsOf.ext hT e2
  · exact SliceOf.nil _ _ _
 have hC2:CasesOf w2 (if cc then .slice none 0 0 else cv) (cl f).cases:=by
  rw [hcases]
  cases cc
  · exact CasesOf.ext hC e2
  · exact SliceOf.nil _ _ _
 generalize (if ct=true then Value.slice none 0 0 else tv)=tv2 at o7' hT2
 generalize (if cc=true then Value.slice none 0 0 else cv)=cv2 at o7' hC2
 generalize cl f=g at o7' hT2 hC2 ⊢
 have o3':=e2.obj o3
 clear hterms hcases hcl
 unfold n53c2
 have hL:Loads Pg w2 52 ⟨w0.heap.size,0,none⟩ (.agg (fieldCells g tv2 cv2).toArray):=Loads.many ty52 rfl (fun j v hv=>by rw [Addr.add_lit,(cells_of_heap o7').1];simpa using hv)
 refine (op_load hL).mpr ?_
 simp (disch:=try exact DI) only [↓PR,QR,Int.reduceBEq,Int.reduceBNe,Int.reduceLT,Int.reduceLE,Int.reduceGT,Int.reduceGE,Int.reduceNeg,(cells_of_heap o3').1]
 refine zcr (sameField_ret w2 _ _ g (bareF f) ⟨_,_,rfl,hT2,hC2⟩ ⟨.slice none 0 0,.slice none 0 0,rfl,SliceOf.nil _ _ _,SliceOf.nil _ _ _⟩) fun w3 e3=>?_
 have e23:=e2.trans e3
 refine callK_flw (need_flw (h.ext e23) _ 5 (by decide)) (fun w4 e4 h0=>?_) (fun w4 e4 h0=>?_)
 · rw [h0,orC_zero]
   have e24:=e23.trans e4
   simp (disch:=try exact DI) only [↓PR,QR,Int.reduceBEq,Int.reduceBNe,Int.reduceLT,Int.reduceLE,Int.reduceGT,Int.reduceGE,Int.reduceNeg,↓n53c1,(cells_of_heap (e24.obj o6)).1,(cells_of_heap (e24.obj o3)).1]
   rw [callV_func hc2]
   simp only [Array.empty_append,Array.append_empty]
   refine callK_flw (hchk w4 _ (h.ext e24) ⟨tv,cv,rfl,TermsOf.ext hT e24,CasesOf.ext hC e24⟩) (fun w5 e5 h0=>?_) (fun w5 e5 h0=>?_)
   · exact flwR_ret (e00.trans (e24.trans e5)) h0
   · exact flwR_pan (e00.trans (e24.trans e5)) rfl h0
 · rw [orC_ne h0]
   exact flwR_pan (e00.trans (e23.trans e4)) rfl h0
end
def checkC (bef:List FieldD) (deps strs:List (ByteArray×Value)) (f:FieldD):Int :=
 if f.kind=1 then orC (needC (bitsB f) 6) (withinC (topF f) 0 [f.low,f.high]) else
 if f.kind=2 then orC (needC (bitsB f) 6) (withinC (topF f) 0 [f.low]) else
 if f.kind=3 then withinC 34359738367 0 [f.low,f.high] else
 if f.kind=4 then sizedC (numR bef) f else
 if f.kind=5 then orC (withinC 255 0 [f.low]) (withinC 1048576 0 [f.high]) else
 if f.kind=6 then withinC 1048576 2 [f.high] else
 if f.kind=7 then orC (needC (lastOf deps f.of).isSome 8) (sizedC (numR bef) f) else
 if f.kind=8 then needC (lastOf deps f.of).isSome 8 else
 if f.kind=9 then casesC bef deps f else
 if f.kind=10 then needC (padB f) 6 else
 if f.kind=11 then orC (withinC 3 1 [f.check]) (needC (bef.any fun o=>decide (o.name=f.fr)) 8) else
 if f.kind=12 then orC (withinC 4294967295 0 [f.key]) (orC (needC (strB strs f.of) 8) (sizedC (numR bef) f)) else 0
def clearK (f:FieldD):FieldD :=
 if f.kind=1 then clear1 f else
 if f.kind=2 then clear2 f else
 if f.kind=3 then clear3 f else
 if f.kind=4 then clear4 f else
 if f.kind=5 then clear5 f else
 if f.kind=6 then clear6 f else
 if f.kind=7 then clear7 f else
 if f.kind=8 then clear8 f else
 if f.kind=9 then clear9 f else
 if f.kind=10 then clear10 f else
 if f.kind=11 then clear11 f else
 if f.kind=12 then clear12 f else f
def examineC (bef:List FieldD) (deps strs:List (ByteArray×Value)) (f:FieldD):Int :=
 orC (needC (nameB f.name) 1) (orC (needC (!bef.any fun o=>decide (o.name=f.name)) 2) (orC (needC (decide (1≤f.kind∧f.kind≤12)) 4) (orC (needC (decide (clearK f=bareF f)) 5) (checkC bef deps strs f))))
section
variable {w0:World} {cb md ms:Nat} {deps strs:List (ByteArray×Value)} {at_ fld:Int} {fs:List FieldD}
theorem exa_mid {a0:World} (e00:Ext a0 w0) (h:Chk w0 cb md ms deps strs at_ fld fs) (i:Nat) (hi:fld=i) (hlt:i < fs.length) (p3 p6:Nat) (f:FieldD) (tv cv:Value) (ht:f.terms.length≤1048576) (hT:TermsOf w0 tv f.terms) (hC:CasesOf w0 cv f.cases) (o3:w0.heap[p3]?=some (.cells (fieldCells f tv cv).toArray 52 (0,0)))
 (L:List (Int×Value×Nat)) (hL:KindsIn L) (a b:Value) (ok:Bool) (hab:(Sw.look L f.kind).getD (.agg #[.nilFunc,.nilFunc]) = .agg #[a,b]) (hok:ok=(Sw.look L f.kind).isSome) (o6:w0.heap[p6]?=some (.cells #[a,b] 121 (0,0))) :
 callK Pg 37 #[.pointer (some ⟨cb,0,none⟩),.bool ok,.int .i64 4] (panK (flwR a0 at_ fld (orC (needC (decide (1≤f.kind∧f.kind≤12)) 4) (orC (needC (decide (clearK f=bareF f)) 5) (checkC (fs.take i) deps strs f))))) w0
  (fun _ w=>n53c3 (.pointer (some ⟨cb,0,none⟩)) (.pointer (some ⟨p3,0,none⟩)) (.pointer (some ⟨p6,0,none⟩)) (flwR a0 at_ fld (orC (needC (decide (1≤f.kind∧f.kind≤12)) 4) (orC (needC (decide (clearK f=bareF f)) 5) (checkC (fs.take i) deps strs f)))) w):=by
 obtain ⟨hn,k1,k2,k3,k4,k5,k6,k7,k8,k9,k10,k11,k12⟩:=hL
 by_cases hk:1≤f.kind∧f.kind≤12
 · have hd:decide (1≤f.kind∧f.kind≤12)=true:=by simpa using hk
   rw [hd]
   show callK _ _ _ (panK (flwR a0 at_ fld (orC 0 _))) _ _
   simp only [show needC true 4=0 from rfl,orC_zero]
   have hs:ok=true:=by
    rw [hok]
    have:f.kind=1∨f.kind=2∨f.kind=3∨f.kind=4∨f.kind=5∨f.kind=6∨f.kind=7∨f.kind=8∨f.kind=9∨f.kind=10∨f.kind=11∨f.kind=12:=by omega
    rcases this with h | h | h | h | h | h | h | h | h | h | h | h<;>simp only [h,k1,k2,k3,k4,k5,k6,k7,k8,k9,k10,k11,k12,Option.isSome_some]
   subst hs
   refine callK_flw (need_flw h true 4 (by decide)) (fun w1 e1 _=>?_) (fun w1 e1 h0=>absurd rfl h0)
   have hw:=h.ext e1
   have hT1:=TermsOf.ext hT e1
   have hC1:=CasesOf.ext hC e1
   have o31:=e1.obj o3
   have this:f.kind=1∨f.kind=2∨f.kind=3∨f.kind=4∨f.kind=5∨f.kind=6∨f.kind=7∨f.kind=8∨f.kind=9∨f.kind=10∨f.kind=11∨f.kind=12:=by omega
   rcases this with hkk | hkk | hkk | hkk | hkk | hkk | hkk | hkk | hkk | hkk | hkk | hkk
   · rw [hkk,k1,Option.getD_some] at hab
     injection hab with hab
     have hab:=congrArg Array.toList hab
     simp only [List.cons.injEq,and_true] at hab
     obtain ⟨rfl,rfl⟩:=hab
     have hcl:clearK f=clear1 f:=by unfold clearK;simp [hkk]
     have hcc:checkC (fs.take i) deps strs f=orC (needC (bitsB f) 6) (withinC (topF f) 0 [f.low,f.high]):=by unfold checkC;simp [hkk]
     rw [hcl,hcc]
     exact exa_tail (e00.trans e1) hw p3 p6 f tv cv hT1 hC1 o31 _ _ (e1.obj o6) c78 c79 clear1 false false clears1 rfl rfl _ (fun w v hw hf=>uint_flw hw v f hf)
   · rw [hkk,k2,Option.getD_some] at hab
     injection hab with hab
     have hab:=congrArg Array.toList hab
     simp only [List.cons.injEq,and_true] at hab
     obtain ⟨rfl,rfl⟩:=hab
     have hcl:clearK f=clear2 f:=by unfold clearK;simp [hkk]
     have hcc:checkC (fs.take i) deps strs f=orC (needC (bitsB f) 6) (withinC (topF f) 0 [f.low]):=by unfold checkC;simp [hkk]
     rw [hcl,hcc]
     exact exa_tail (e00.trans e1) hw p3 p6 f tv cv hT1 hC1 o31 _ _ (e1.obj o6) c82 c83 clear2 false false clears2 rfl rfl _ (fun w v hw hf=>const_flw hw v f hf)
   · rw [hkk,k3,Option.getD_some] at hab
     injection hab with hab
     have hab:=congrArg Array.toList hab
     simp only [List.cons.injEq,and_true] at hab
     obtain ⟨rfl,rfl⟩:=hab
     have hcl:clearK f=clear3 f:=by unfold clearK;simp [hkk]
     have hcc:checkC (fs.take i) deps strs f=withinC 34359738367 0 [f.low,f.high]:=by unfold checkC;simp [hkk]
     rw [hcl,hcc]
     exact exa_tail (e00.trans e1) hw p3 p6 f tv cv hT1 hC1 o31 _ _ (e1.obj o6) c84 c85 clear3 false false clears3 rfl rfl _ (fun w v hw hf=>varint_flw hw v f hf)
   · rw [hkk,k4,Option.getD_some] at hab
     injection hab with hab
     have hab:=congrArg Array.toList hab
     simp only [List.cons.injEq,and_true] at hab
     obtain ⟨rfl,rfl⟩:=hab
     have hcl:clearK f=clear4 f:=by unfold clearK;simp [hkk]
     have hcc:checkC (fs.take i) deps strs f=sizedC (numR (fs.take i)) f:=by unfold checkC;simp [hkk]
     rw [hcl,hcc]
     exact exa_tail (e00.trans e1) hw p3 p6 f tv cv hT1 hC1 o31 _ _ (e1.obj o6) c86 c87 clear4 true false clears4 rfl rfl _ (fun w v hw hf=>sized_flw hw i hi hlt v f hf ht)
   · rw [hkk,k5,Option.getD_some] at hab
     injection hab with hab
     have hab:=congrArg Array.toList hab
     simp only [List.cons.injEq,and_true] at hab
     obtain ⟨rfl,rfl⟩:=hab
     have hcl:clearK f=clear5 f:=by unfold clearK;simp [hkk]
     have hcc:checkC (fs.take i) deps strs f=orC (withinC 255 0 [f.low]) (withinC 1048576 0 [f.high]):=by unfold checkC;simp [hkk]
     rw [hcl,hcc]
     exact exa_tail (e00.trans e1) hw p3 p6 f tv cv hT1 hC1 o31 _ _ (e1.obj o6) c88 c89 clear5 false false clears5 rfl rfl _ (fun w v hw hf=>until_flw hw v f hf)
   · rw [hkk,k6,Option.getD_some] at hab
     injection hab with hab
     have hab:=congrArg Array.toList hab
     simp only [List.cons.injEq,and_true] at hab
     obtain ⟨rfl,rfl⟩:=hab
     have hcl:clearK f=clear6 f:=by unfold clearK;simp [hkk]
     have hcc:checkC (fs.take i) deps strs f=withinC 1048576 2 [f.high]:=by unfold checkC;simp [hkk]
     rw [hcl,hcc]
     exact exa_tail (e00.trans e1) hw p3 p6 f tv cv hT1 hC1 o31 _ _ (e1.obj o6) c90 c91 clear6 false false clears6 rfl rfl _ (fun w v hw hf=>headers_flw hw v f hf)
   · rw [hkk,k7,Option.getD_some] at hab
     injection hab with hab
     have hab:=congrArg Array.toList hab
     simp only [List.cons.injEq,and_true] at hab
     obtain ⟨rfl,rfl⟩:=hab
     have hcl:clearK f=clear7 f:=by unfold clearK;simp [hkk]
     have hcc:checkC (fs.take i) deps strs f=orC (needC (lastOf deps f.of).isSome 8) (sizedC (numR (fs.take i)) f):=by unfold checkC;simp [hkk]
     rw [hcl,hcc]
     exact exa_tail (e00.trans e1) hw p3 p6 f tv cv hT1 hC1 o31 _ _ (e1.obj o6) c92 c93 clear7 true false clears7 rfl rfl _ (fun w v hw hf=>list_flw hw i hi hlt v f hf ht)
   · rw [hkk,k8,Option.getD_some] at hab
     injection hab with hab
     have hab:=congrArg Array.toList hab
     simp only [List.cons.injEq,and_true] at hab
     obtain ⟨rfl,rfl⟩:=hab
     have hcl:clearK f=clear8 f:=by unfold clearK;simp [hkk]
     have hcc:checkC (fs.take i) deps strs f=needC (lastOf deps f.of).isSome 8:=by unfold checkC;simp [hkk]
     rw [hcl,hcc]
     exact exa_tail (e00.trans e1) hw p3 p6 f tv cv hT1 hC1 o31 _ _ (e1.obj o6) c95 c96 clear8 false false clears8 rfl rfl _ (fun w v hw hf=>message_flw hw v f hf)
   · rw [hkk,k9,Option.getD_some] at hab
     injection hab with hab
     have hab:=congrArg Array.toList hab
     simp only [List.cons.injEq,and_true] at hab
     obtain ⟨rfl,rfl⟩:=hab
     have hcl:clearK f=clear9 f:=by unfold clearK;simp [hkk]
     have hcc:checkC (fs.take i) deps strs f=casesC (fs.take i) deps f:=by unfold checkC;simp [hkk]
     rw [hcl,hcc]
     exact exa_tail (e00.trans e1) hw p3 p6 f tv cv hT1 hC1 o31 _ _ (e1.obj o6) c97 c98 clear9 false true clears9 rfl rfl _ (fun w v hw hf=>cases_flw hw i hi hlt v f hf)
   · rw [hkk,k10,Option.getD_some] at hab
     injection hab with hab
     have hab:=congrArg Array.toList hab
     simp only [List.cons.injEq,and_true] at hab
     obtain ⟨rfl,rfl⟩:=hab
     have hcl:clearK f=clear10 f:=by unfold clearK;simp [hkk]
     have hcc:checkC (fs.take i) deps strs f=needC (padB f) 6:=by unfold checkC;simp [hkk]
     rw [hcl,hcc]
     exact exa_tail (e00.trans e1) hw p3 p6 f tv cv hT1 hC1 o31 _ _ (e1.obj o6) c99 c100 clear10 false false clears10 rfl rfl _ (fun w v hw hf=>pad_flw hw v f hf)
   · rw [hkk,k11,Option.getD_some] at hab
     injection hab with hab
     have hab:=congrArg Array.toList hab
     simp only [List.cons.injEq,and_true] at hab
     obtain ⟨rfl,rfl⟩:=hab
     have hcl:clearK f=clear11 f:=by unfold clearK;simp [hkk]
     have hcc:checkC (fs.take i) deps strs f=orC (withinC 3 1 [f.check]) (needC ((fs.take i).any fun o=>decide (o.name=f.fr)) 8):=by unfold checkC;simp [hkk]
     rw [hcl,hcc]
     exact exa_tail (e00.trans e1) hw p3 p6 f tv cv hT1 hC1 o31 _ _ (e1.obj o6) c101 c102 clear11 false false clears11 rfl rfl _ (fun w v hw hf=>check_flw hw i hi hlt v f hf)
   · rw [hkk,k12,Option.getD_some] at hab
     injection hab with hab
     have hab:=congrArg Array.toList hab
     simp only [List.cons.injEq,and_true] at hab
     obtain ⟨rfl,rfl⟩:=hab
     have hcl:clearK f=clear12 f:=by unfold clearK;simp [hkk]
     have hcc:checkC (fs.take i) deps strs f=orC (withinC 4294967295 0 [f.key]) (orC (needC (strB strs f.of) 8) (sizedC (numR (fs.take i)) f)):=by unfold checkC;simp [hkk]
     rw [hcl,hcc]
     exact exa_tail (e00.trans e1) hw p3 p6 f tv cv hT1 hC1 o31 _ _ (e1.obj o6) c103 c104 clear12 true false clears12 rfl rfl _ (fun w v hw hf=>view_flw hw i hi hlt v f hf ht)
 · have hd:decide (1≤f.kind∧f.kind≤12)=false:=by simpa using hk
   rw [hd]
   have hs:ok=false:=by rw [hok,hn _ hk];rfl
   subst hs
   refine callK_flw (need_flw h false 4 (by decide)) (fun w1 e1 h0=>absurd h0 (by decide)) (fun w1 e1 h0=>?_)
   exact flwR_pan (e00.trans e1) rfl h0
end
end Go.Proofs.YtiajhbbmgglmlaaGreat
namespace Go.Proofs.YtiajhbbmgglmlaaGreat
open Sw
open Go.RowKit (intOf Below)
section
variable {w0:World} {cb md ms:Nat} {deps strs:List (ByteArray×Value)} {at_ fld:Int} {fs:List FieldD}
theorem examine_flw (h:Chk w0 cb md ms deps strs at_ fld fs) (i:Nat) (hi:fld=i) (hlt:i < fs.length) (v:Value) (f:FieldD) (hf:FieldVal w0 v f) (ht:f.terms.length≤1048576) :
 Calls Pg 53 #[.pointer (some ⟨cb,0,none⟩),v] w0 (flwR w0 at_ fld (examineC (fs.take i) deps strs f)):=by
 obtain ⟨tv,cv,rfl,hT,hC,ht1,hc1⟩:=hf.op
 refine n53s ?_;unfold n53
 simp (disch:=try exact DI) only [↓PR,QR,Int.reduceBEq,Int.reduceBNe,Int.reduceLT,Int.reduceLE,Int.reduceGT,Int.reduceGE,Int.reduceNeg]
 generalize hW:World.alloc w0 _=W
 have e0:Ext w0 W:=by rw [← hW];exact ee
 have o3:W.heap[w0.heap.size]?=some (.cells (fieldCells f tv cv).toArray 52 (0,0)):=by rw [← hW];simp (disch:=try exact DI) only [↓PR,QR,Int.reduceBEq,Int.reduceBNe,Int.reduceLT,Int.reduceLE,Int.reduceGT,Int.reduceGE,Int.reduceNeg]
 clear hW
 refine zcr (Name_ret _ f.name) fun w1 e1=>?_
 have e01:=e0.trans e1
 unfold examineC
 refine callK_flw (need_flw (h.ext e01) _ 1 (by decide)) (fun w2 e2 h0=>?_) (fun w2 e2 h0=>?_)
 · rw [h0,orC_zero]
   have e02:=e01.trans e2
   have o32:=(e1.trans e2).obj o3
   refine drawK_intro ?_
   simp (disch:=try exact DI) only [↓PR,QR,Int.reduceBEq,Int.reduceBNe,Int.reduceLT,Int.reduceLE,Int.reduceGT,Int.reduceGE,Int.reduceNeg,↓n53c8,(cells_of_heap o32).1]
   have eD:Ext w0 w2.drew:=e02.wdrew
   refine callK_ret (before_ret (h.ext eD) i hi hlt) ?_
   rintro bv w3 ⟨hB,e3⟩
   refine ⟨e3,?_⟩
   have hb1:=SliceOf.oneCell hB
   simp (disch:=try exact DI) only [↓PR,QR,Int.reduceBEq,Int.reduceBNe,Int.reduceLT,Int.reduceLE,Int.reduceGT,Int.reduceGE,Int.reduceNeg]
   refine zcr (Field_ret w3 _ ⟨ByteArray.empty,fs.take i⟩ f.name ⟨bv,rfl,hB⟩) fun w4 e4=>?_
   refine ⟨e3.trans e4,?_⟩
   simp (disch:=try exact DI) only [↓PR,QR,Int.reduceBEq,Int.reduceBNe,Int.reduceLT,Int.reduceLE,Int.reduceGT,Int.reduceGE,Int.reduceNeg,↓n53c7]
   have e04:=eD.trans (e3.trans e4)
   have e24:Ext w2 w4:=(Ext.refl w2).wdrew.trans (e3.trans e4)
   refine callK_flw (need_flw (h.ext e04) _ 2 (by decide)) (fun w5 e5 h0=>?_) (fun w5 e5 h0=>?_)
   · rw [h0,orC_zero]
     have e05:=e04.trans e5
     have o35:=(e24.trans e5).obj o32
     clear e24 e04 e3 e4 hB eD e02 e01 e1 e2 o32
     refine drawK_intro ?_
     simp (disch:=try exact DI) only [↓PR,QR,Int.reduceBEq,Int.reduceBNe,Int.reduceLT,Int.reduceLE,Int.reduceGT,Int.reduceGE,Int.reduceNeg,↓n53c6,(cells_of_heap o35).1]
     have eD:Ext w5 w5.drew:=(Ext.refl _).wdrew
     have fin5:∀ (w':World) (m p6 c:Nat) (L:List (Int×Value×Nat)) (u0 u1:Value),Ext w5.drew w'→MapB w' m kindEnc L c→KindsIn L→w'.heap[p6]?=some (.cells #[u0,u1] 121 (0,0))→w5.heap.size≤p6 →
      n53c5 (.pointer (some ⟨p6,0,none⟩)) (.map (some m)) (.int .i64 f.kind) (KM w5.drew m kindEnc L c) (fun t5 t6 w=>callK Pg 37 #[.pointer (some ⟨cb,0,none⟩),t5,.int .i64 4] (panK (flwR w0 at_ fld (orC (needC (decide (1≤f.kind∧f.kind≤12)) 4) (orC (needC (decide (clearK f=bareF f)) 5) (checkC (fs.take i) deps strs f))))) w fun _ w=>n53c3 (.pointer (some ⟨cb,0,none⟩)) (.pointer (some ⟨w0.heap.size,0,none⟩)) t6 (flwR w0 at_ fld (orC (needC (decide (1≤f.kind∧f.kind≤12)) 4) (orC (needC (decide (clearK f=bareF f)) 5) (checkC (fs.take i) deps strs f)))) w)
       (flwR w0 at_ fld (orC (needC (decide (1≤f.kind∧f.kind≤12)) 4) (orC (needC (decide (clearK f=bareF f)) 5) (checkC (fs.take i) deps strs f)))) w':=by
      intro w' m p6 c L u0 u1 e' hM hL o6 hp6
      haveI:ClassNe (KM w5.drew m kindEnc L c):=⟨⟨w',e',hM⟩⟩
      unfold n53c5
      rw [qV_lookupKM Tryz.underlying123 (KeyOK.int Tryz.underlying46) ty121 ⟨w',e',hM⟩]
      obtain ⟨a,b,hab,ha,hb⟩:∃ a b,(Sw.look L f.kind).getD (.agg #[.nilFunc,.nilFunc]) = .agg #[a,b]∧a.oneCell'=true∧b.oneCell'=true:=by
       obtain ⟨hn,k1,k2,k3,k4,k5,k6,k7,k8,k9,k10,k11,k12⟩:=hL
       by_cases hk:1≤f.kind∧f.kind≤12
       · have this:f.kind=1∨f.kind=2∨f.kind=3∨f.kind=4∨f.kind=5∨f.kind=6∨f.kind=7∨f.kind=8∨f.kind=9∨f.kind=10∨f.kind=11∨f.kind=12:=by omega
         rcases this with h | h | h | h | h | h | h | h | h | h | h | h<;>simp only [h,k1,k2,k3,k4,k5,k6,k7,k8,k9,k10,k11,k12,Option.getD_some]<;>exact ⟨_,_,rfl,rfl,rfl⟩
       · rw [hn _ hk];exact ⟨_,_,rfl,rfl,rfl⟩
      rw [hab]
      simp (disch:=try exact DI) only [↓PR,QR,Int.reduceBEq,Int.reduceBNe,Int.reduceLT,Int.reduceLE,Int.reduceGT,Int.reduceGE,Int.reduceNeg,(cells_of_heap o6).1,(cells_of_heap o6).2]
      have e6:Ext w5.drew ((w'.setCell ⟨p6,0,none⟩ a).setCell ⟨p6,1,none⟩ b):=(e'.setCell (show w5.drew.heap.size≤(⟨p6,0,none⟩:Addr).block from hp6) _).setCell (show w5.drew.heap.size≤(⟨p6,1,none⟩:Addr).block from hp6) _
      refine ⟨⟨e6,(hM.setCell _ _).setCell _ _⟩,?_⟩
      have e06:=(e05.trans eD).trans e6
      have o6':=heap_set (o:=1) (heap_set (o:=0) o6 a) b
      exact exa_mid e06 (h.ext e06) i hi hlt _ p6 f tv cv ht (TermsOf.ext hT e06) (CasesOf.ext hC e06) ((eD.trans e6).obj o35) L hL a b _ hab rfl (by simpa using o6')
     refine ⟨?_,?_⟩
     · refine callK_ret (kinds_ret _) ?_
       rintro _ w6 ⟨m,L,c,rfl,hm,hM,hL,e6⟩
       refine narrowK_KM e6 hM ?_
       have h9:=fin5 (w6.alloc (.cells #[.nilFunc,.nilFunc] 121)) m w6.heap.size c L _ _ (e6.alloc _) (hM.ext ((Ext.refl _).alloc _)) hL (heap_new _ _ _) (by have:=e6.size;simpa using this)
       unfold n53c5 at h9
       unfold n53c4
       simp only [drew_wdrew]
       haveI:ClassNe (KM w5.drew m kindEnc L c):=⟨⟨w6,e6,hM⟩⟩
       rw [qV_lookupKM Tryz.underlying123 (KeyOK.int Tryz.underlying46) ty121 ⟨w6,e6,hM⟩] at h9 ⊢
       simp (disch:=try exact DI) only [↓PR,QR,Int.reduceBEq,Int.reduceBNe,Int.reduceLT,Int.reduceLE,Int.reduceGT,Int.reduceGE,Int.reduceNeg]
       simp only [↓Sw.GENQ] at h9
       exact ⟨⟨e6.alloc _,hM.ext ((Ext.refl _).alloc _)⟩,h9⟩
     · refine ⟨(Ext.refl _).alloc _,?_⟩
       refine callK_ret (kinds_ret _) ?_
       rintro _ w6 ⟨m,L,c,rfl,hm,hM,hL,e6⟩
       refine narrowK_KM (((Ext.refl _).alloc _).trans e6) hM ?_
       exact fin5 w6 m w5.heap.size c L _ _ (((Ext.refl _).alloc _).trans e6) hM hL (e6.obj (heap_new w5.drew _ _)) (Nat.le_refl _)
   · rw [orC_ne h0]
     exact flwR_pan (e04.trans e5) rfl h0
 · rw [orC_ne h0]
   exact flwR_pan (e01.trans e2) rfl h0
end
end Go.Proofs.YtiajhbbmgglmlaaGreat
namespace Go.Proofs.YtiajhbbmgglmlaaGreat
open Sw
def n44c1 (t3 t29 t31:Value) (next4:KV) (R:RT) (w:World):Prop :=
 X0 50 t29 t31 R w fun t33 w =>
 L0 81 t33 R w fun t34 w =>
 opV Pg (Instr.alloc 81 true (.tuple #[])) (panK R) w fun t7 w =>
 opU Pg (Instr.storeAt 81 t7 t34) (panK R) w fun w =>
 L0 69 t3 R w fun t35 w =>
 F0 81 t7 2 R w fun t36 w =>
 L0 9 t36 R w fun t37 w =>
 opV Pg (Instr.buildSlice 69 1 #[(0,t37)]) (panK R) w fun t38 w =>
 opV Pg (Builtin.append_ #[69,69] 69 #[t35,t38]) (panK R) w fun t39 w =>
 opU Pg (Instr.storeAt 69 t3 t39) (panK R) w fun w =>
 B0 .add 3 true t31 (.int .i64 1) R w fun t40 w =>
 next4 t40 w
def n44c2 (t3 t5:Value) (K3:World→Prop) (R:RT) (w:World):Prop :=
 F0 52 t5 11 R w fun t28 w =>
 L0 50 t28 R w fun t29 w =>
 opV Pg (Builtin.len_ #[50] 3 #[t29]) (panK R) w fun t30 w =>
 loop1 (fun t31 w next4 =>
 B0 .lss 3 false t31 t30 R w fun t32 w =>
 condP t32 (
 n44c1 t3 t29 t31 next4 R w) (
 K3 w)) (.int .i64 0) w
def n44c3 (t3 t5:Value) (K3:World→Prop) (R:RT) (w:World):Prop :=
 L0 69 t3 R w fun t21 w =>
 F0 52 t5 8 R w fun t22 w =>
 L0 9 t22 R w fun t23 w =>
 opV Pg (Instr.buildSlice 69 1 #[(0,t23)]) (panK R) w fun t24 w =>
 opV Pg (Builtin.append_ #[69,69] 69 #[t21,t24]) (panK R) w fun t25 w =>
 opU Pg (Instr.storeAt 69 t3 t25) (panK R) w fun w =>
 K3 w
def n44c4 (t3 t5 t11 t16 t17:Value) (next1:KV) (R:RT) (w:World):Prop :=
 joinK (fun (w:World) =>
 B0 .add 3 true t11 (.int .i64 1) R w fun t41 w =>
 next1 t41 w) fun K3 =>
 condP t17 (
 n44c3 t3 t5 K3 R w) (
 B0 .eql 46 true t16 (.int .i64 9) R w fun t27 w =>
 condP t27 (
 n44c2 t3 t5 K3 R w) (
 K3 w))
def n44c5 (t16:Value) (K2:KV) (R:RT) (w:World):Prop :=
 B0 .eql 46 true t16 (.int .i64 8) R w fun t19 w =>
 condP t19 (
 K2 t19 w) (
 B0 .eql 46 true t16 (.int .i64 12) R w fun t20 w =>
 K2 t20 w)
def n44c6 (t3 t9 t11:Value) (next1:KV) (R:RT) (w:World):Prop :=
 X0 43 t9 t11 R w fun t13 w =>
 L0 52 t13 R w fun t14 w =>
 opV Pg (Instr.alloc 52 true (.tuple #[])) (panK R) w fun t5 w =>
 opU Pg (Instr.storeAt 52 t5 t14) (panK R) w fun w =>
 F0 52 t5 1 R w fun t15 w =>
 L0 46 t15 R w fun t16 w =>
 B0 .eql 46 true t16 (.int .i64 7) R w fun t18 w =>
 joinK (fun (t17:Value) (w:World) =>
 n44c4 t3 t5 t11 t16 t17 next1 R w) fun K2 =>
 condP t18 (
 K2 t18 w) (
 n44c5 t16 K2 R w)
def n44c7 (t3 t9 t10 t11:Value) (next1:KV) (R:RT) (w:World):Prop :=
 B0 .lss 3 false t11 t10 R w fun t12 w =>
 condP t12 (
 n44c6 t3 t9 t11 next1 R w) (
 opV Pg (Instr.makeFunc (.func 71) #[] #[t3]) (panK R) w fun t42 w =>
 R (.returned t42) w)
def n44 (t0:Value) (R:RT) (w:World):Prop :=
 opV Pg (Instr.box 45 t0) (panK R) w fun t1 w =>
 opV Pg (Instr.alloc 69 true (.tuple #[])) (panK R) w fun t3 w =>
 F0 45 t1 1 R w fun t8 w =>
 L0 43 t8 R w fun t9 w =>
 opV Pg (Builtin.len_ #[43] 3 #[t9]) (panK R) w fun t10 w =>
 loop1 (fun t11 w next1 =>
 n44c7 t3 t9 t10 t11 next1 R w) (.int .i64 0) w
theorem n44s {t0:Value} {R:RT} {w:World} (h:n44 t0 R w):Calls Pg 54 #[t0] w R:=by
 refine calls_of_den (args:=[t0]) Tryz.func54 rfl (Nat.le_of_ble_eq_true rfl) ?_
 unfold n44 at h
 refine zs<|zr ?_
 refine zv h fun t1 w h=>?_
 refine zm<|zn<|zk<|zs<|zr ?_
 refine zv h fun t3 w h=>?_
 refine zn<|zk<|zs<|zs<|zr ?_
 refine zv h fun t8 w h=>?_
 refine zv h fun t9 w h=>?_
 refine zx h fun t10 w h=>?_
 refine zm<|zn<|zk<|sim_block ?_
 obtain ⟨I,μ,h0,hr⟩:=h
 refine sim_loop [5,7,11,12,13,14,15,16,17,18,19,20,21,22,23,24,25,26,27,28,29,30,31,32,33,34,35,36,37,38,39,40,41] (by kernel_rfl) (fun ρ w=>I (ρ 11) w) (fun ρ w=>μ (ρ 11) w) h0 (fun σ w hI=>?_)
 have h:=hr _ _ hI
 clear hr h0 hI
 refine zs<|zr ?_
 refine zb h fun t12 w h=>?_
 refine zn<|zk<|zs ?_
 refine sim_cond h rfl (fun h=>?_) (fun h=>?_)
 · refine sim_skip<|zk<|zs<|sim_block<|zs<|zr ?_
   refine zv h fun t13 w h=>?_
   refine zv h fun t14 w h=>?_
   refine zv h fun t5 w h=>?_
   refine zu h fun w h=>?_
   refine zn<|zk<|zs<|zr ?_
   refine zv h fun t15 w h=>?_
   refine zv h fun t16 w h=>?_
   refine zn<|zk<|sim_block<|zs<|zs<|zr ?_
   refine zb h fun t18 w h=>?_
   refine zm<|zn<|zk ?_
   refine joinK_elim h (fun K2 hK h=>?_)
   refine sim_joinQ [17,19,20] (fun ρ w=>K2 (ρ 17) w) (fun _ hkK2=>?_) (fun σ w h=>?_)
   · refine sim_cond h rfl (fun h=>?_) (fun h=>?_)
     · refine sim_skip<|zk ?_
       exact zt hkK2 h
     · refine zs<|zr ?_
       refine zb h fun t19 w h=>?_
       refine zm<|zn<|zk ?_
       refine sim_cond h rfl (fun h=>?_) (fun h=>?_)
       · refine sim_skip<|zk ?_
         exact zt hkK2 h
       · refine zr ?_
         refine zb h fun t20 w h=>?_
         refine zm<|zn<|zk ?_
         exact zt hkK2 h
   subst hK
   refine zk ?_
   refine joinK_elim h (fun K3 hK h=>?_)
   refine sim_joinQ [7,21,22,23,24,25,26,27,28,29,30,31,32,33,34,35,36,37,38,39,40] (fun ρ w=>K3 w) (fun _ hkK3=>?_) (fun σ w h=>?_)
   · refine sim_cond h rfl (fun h=>?_) (fun h=>?_)
     · refine zr ?_
       refine zv h fun t21 w h=>?_
       refine zv h fun t22 w h=>?_
       refine zv h fun t23 w h=>?_
       refine sim_buildSlice h rfl (fun _ _ h=>⟨rfl,h⟩) ?_;intro t24 w h
       refine zx h fun t25 w h=>?_
       refine zu h fun w h=>?_
       refine zn<|zk ?_
       exact zt hkK3 h
     · refine zs<|zr ?_
       refine zb h fun t27 w h=>?_
       refine zm<|zn<|zk ?_
       refine sim_cond h rfl (fun h=>?_) (fun h=>?_)
       · refine zs<|zr ?_
         refine zv h fun t28 w h=>?_
         refine zv h fun t29 w h=>?_
         refine zx h fun t30 w h=>?_
         refine zm<|zn<|zk<|sim_block ?_
         obtain ⟨I,μ,h0,hr⟩:=h
         refine sim_loop [7,31,32,33,34,35,36,37,38,39,40] (by kernel_rfl) (fun ρ w=>I (ρ 31) w) (fun ρ w=>μ (ρ 31) w) h0 (fun σ w hI=>?_)
         have h:=hr _ _ hI
         clear hr h0 hI
         refine zs<|zr ?_
         refine zb h fun t32 w h=>?_
         refine zn<|zk<|zs ?_
         refine sim_cond h rfl (fun h=>?_) (fun h=>?_)
         · refine sim_skip<|zk<|zs<|sim_block<|zs<|zr ?_
           refine zv h fun t33 w h=>?_
           refine zv h fun t34 w h=>?_
           refine zv h fun t7 w h=>?_
           refine zu h fun w h=>?_
           refine zn<|zk<|zr ?_
           refine zv h fun t35 w h=>?_
           refine zv h fun t36 w h=>?_
           refine zv h fun t37 w h=>?_
           refine sim_buildSlice h rfl (fun _ _ h=>⟨rfl,h⟩) ?_;intro t38 w h
           refine zx h fun t39 w h=>?_
           refine zu h fun w h=>?_
           refine zn<|sim_block_normal<|zk<|zr ?_
           refine zb h fun t40 w h=>?_
           refine zm<|zn<|zk ?_
           exact ⟨rfl,h⟩
         · refine sim_exit<|sim_then_exit<|sim_then_exit<|sim_block_hit<|zk ?_
           exact zt hkK3 h
       · refine sim_skip<|zk ?_
         exact zt hkK3 h
   subst hK
   refine sim_block_normal<|sim_block_normal<|zk<|zr ?_
   refine zb h fun t41 w h=>?_
   refine zm<|zn<|zk ?_
   exact ⟨rfl,h⟩
 · refine sim_exit<|sim_then_exit<|sim_then_exit<|sim_block_hit<|zk<|zs<|zr ?_
   refine sim_makeFunc h rfl rfl (fun _ _ h=>⟨rfl,h⟩) ?_;intro t42 w h
   refine zm<|zn<|zk<|sim_ret ?_
   exact body_ret1 rfl rfl h
def n32 (t0:Value) (R:RT) (w:World):Prop :=
 opV Pg (Instr.buildSlice 69 13 #[(0,(.string { data := #[] })),(1,(.string { data := #[98,108,120,104] })),(2,(.string { data := #[98,108,120] })),(3,(.string { data := #[111,120,104] })),(4,(.string { data := #[115] })),(5,(.string { data := #[120,104] })),(6,(.string { data := #[111,104] })),(7,(.string { data := #[102,115] })),(8,(.string { data := #[102] })),(9,(.string { data := #[116,99] })),(10,(.string { data := #[98] })),(11,(.string { data := #[114,107] })),(12,(.string { data := #[102,115,121] }))]) (panK R) w fun t3 w =>
 X0 69 t3 t0 R w fun t5 w =>
 L0 9 t5 R w fun t6 w =>
 R (.returned t6) w
theorem n32s {t0:Value} {R:RT} {w:World} (h:n32 t0 R w):Calls Pg 55 #[t0] w R:=by
 refine calls_of_den (args:=[t0]) Tryz.func55 rfl (Nat.le_of_ble_eq_true rfl) ?_
 unfold n32 at h
 refine zs<|zr<|zm<|zn<|zk<|zs<|zr ?_
 refine sim_buildSlice h rfl (fun _ _ h=>⟨rfl,h⟩) ?_;intro t3 w h
 refine zm ?_
 refine zv h fun t5 w h=>?_
 refine zv h fun t6 w h=>?_
 refine zm<|zn<|zk<|sim_ret ?_
 exact body_ret1 rfl rfl h
def n27c1 (t0 t1 t5:Value) (next1:KV) (R:RT) (w:World):Prop :=
 opV Pg (Instr.index 9 t0 t5) (panK R) w fun t14 w =>
 B0 .eql 5 false t14 t1 R w fun t16 w =>
 condP t16 (
 R (.returned (.bool true)) w) (
 B0 .add 3 true t5 (.int .i64 1) R w fun t11 w =>
 next1 t11 w)
def n27c2 (t0 t1 t5:Value) (next1:KV) (R:RT) (w:World):Prop :=
 opV Pg (Builtin.len_ #[9] 3 #[t0]) (panK R) w fun t8 w =>
 B0 .lss 3 false t5 t8 R w fun t9 w =>
 condP t9 (
 n27c1 t0 t1 t5 next1 R w) (
 R (.returned (.bool false)) w)
def n27 (t0 t1:Value) (R:RT) (w:World):Prop :=
 loop1 (fun t5 w next1 =>
 n27c2 t0 t1 t5 next1 R w) (.int .i64 0) w
theorem n27s {t0 t1:Value} {R:RT} {w:World} (h:n27 t0 t1 R w):Calls Pg 56 #[t0,t1] w R:=by
 refine calls_of_den (args:=[t0,t1]) Tryz.func56 rfl (Nat.le_of_ble_eq_true rfl) ?_
 unfold n27 at h
 refine zs<|zr<|zm<|zn<|zk<|zs<|zs<|zr<|zm<|zn<|zk<|sim_block ?_
 obtain ⟨I,μ,h0,hr⟩:=h
 refine sim_loop [4,5,6,7,8,9,10,11,12,13,14,15,16] (by kernel_rfl) (fun ρ w=>I (ρ 5) w) (fun ρ w=>μ (ρ 5) w) h0 (fun σ w hI=>?_)
 have h:=hr _ _ hI
 clear hr h0 hI
 refine zs<|zs<|zr<|zm<|zm ?_
 refine zx h fun t8 w h=>?_
 refine zb h fun t9 w h=>?_
 refine zn<|zk ?_
 refine sim_cond h rfl (fun h=>?_) (fun h=>?_)
 · refine sim_skip<|zk<|zs<|sim_block<|zs<|zr<|zm<|zm ?_
   refine zv h fun t14 w h=>?_
   refine zm ?_
   refine zb h fun t16 w h=>?_
   refine zn<|zk ?_
   refine sim_cond h rfl (fun h=>?_) (fun h=>?_)
   · refine zs<|zr<|zm<|zn<|zk<|sim_ret<|sim_block_ret<|sim_then_ret<|sim_then_ret<|sim_block_ret<|sim_then_ret ?_
     exact body_ret1 rfl rfl h
   · refine sim_skip<|sim_block_normal<|zk<|zr<|zm ?_
     refine zb h fun t11 w h=>?_
     refine zm<|zn<|zk ?_
     exact ⟨rfl,h⟩
 · refine sim_exit<|sim_then_exit<|sim_then_exit<|sim_block_hit<|zk<|zs<|zr<|zm<|zn<|zk<|sim_ret ?_
   exact body_ret1 rfl rfl h
def n29c1 (t1 t3 t40 t45:Value) (R:RT) (w:World):Prop :=
 pickK t40 (.bool true) t45 fun t46 =>
 joinK (fun (t52:Value) (w:World) =>
 pickK t46 (.bool true) t52 fun t53 =>
 condP t53 (
 R (.returned (.int .i64 7)) w) (
 R (.returned (.int .i64 0)) w)) fun K11 =>
 guardP t46 false (
 F0 52 t1 2 R w fun t49 w =>
 L0 3 t49 R w fun t50 w =>
 B0 .shl 3 true (.int .i64 1) t50 R w fun t51 w =>
 B0 .geq 3 false t3 t51 R w fun t52 w =>
 K11 t52 w) (
 K11 undef w)
def n29c2 (t1 t3:Value) (R:RT) (w:World):Prop :=
 F0 52 t1 5 R w fun t38 w =>
 L0 3 t38 R w fun t39 w =>
 B0 .lss 3 true t39 (.int .i64 0) R w fun t40 w =>
 joinK (fun (t45:Value) (w:World) =>
 n29c1 t1 t3 t40 t45 R w) fun K10 =>
 guardP t40 false (
 F0 52 t1 5 R w fun t42 w =>
 L0 3 t42 R w fun t43 w =>
 B0 .gtr 3 false t43 t3 R w fun t45 w =>
 K10 t45 w) (
 K10 undef w)
def n29c3 (t1:Value) (R:RT) (w:World):Prop :=
 F0 52 t1 6 R w fun t31 w =>
 L0 3 t31 R w fun t32 w =>
 F0 52 t1 1 R w fun t33 w =>
 L0 46 t33 R w fun t34 w =>
 B0 .eql 46 true t34 (.int .i64 2) R w fun t35 w =>
 joinK (fun (t3:Value) (w:World) =>
 n29c2 t1 t3 R w) fun K9 =>
 condP t35 (
 F0 52 t1 5 R w fun t36 w =>
 L0 3 t36 R w fun t37 w =>
 K9 t37 w) (
 K9 t32 w)
def n29c4 (t1 t11 t25 t28:Value) (R:RT) (w:World):Prop :=
 joinK (fun (t29:Value) (w:World) =>
 pickK t11 (.bool true) t29 fun t30 =>
 condP t30 (
 R (.returned (.int .i64 6)) w) (
 n29c3 t1 R w)) fun K8 =>
 guardP t11 false (
 pickK t25 t28 (.bool false) fun t29 =>
 K8 t29 w) (
 K8 undef w)
def n29c5 (t1 t11 t25:Value) (R:RT) (w:World):Prop :=
 joinK (fun (t28:Value) (w:World) =>
 n29c4 t1 t11 t25 t28 R w) fun K7 =>
 guardP t25 true (
 F0 52 t1 2 R w fun t26 w =>
 L0 3 t26 R w fun t27 w =>
 B0 .neq 3 true t27 (.int .i64 32) R w fun t28 w =>
 K7 t28 w) (
 K7 undef w)
def n29c6 (t1 t11 t20:Value) (R:RT) (w:World):Prop :=
 joinK (fun (t23:Value) (w:World) =>
 joinK (fun (t25:Value) (w:World) =>
 n29c5 t1 t11 t25 R w) fun K6 =>
 guardP t11 false (
 pickK t20 t23 (.bool false) fun t24 =>
 K6 t24 w) (
 K6 undef w)) fun K5 =>
 guardP t20 true (
 F0 52 t1 2 R w fun t21 w =>
 L0 3 t21 R w fun t22 w =>
 B0 .neq 3 true t22 (.int .i64 24) R w fun t23 w =>
 K5 t23 w) (
 K5 undef w)
def n29c7 (t1 t11 t15:Value) (R:RT) (w:World):Prop :=
 joinK (fun (t18:Value) (w:World) =>
 joinK (fun (t20:Value) (w:World) =>
 n29c6 t1 t11 t20 R w) fun K4 =>
 guardP t11 false (
 pickK t15 t18 (.bool false) fun t19 =>
 K4 t19 w) (
 K4 undef w)) fun K3 =>
 guardP t15 true (
 F0 52 t1 2 R w fun t16 w =>
 L0 3 t16 R w fun t17 w =>
 B0 .neq 3 true t17 (.int .i64 16) R w fun t18 w =>
 K3 t18 w) (
 K3 undef w)
def n29c8 (t1 t6 t10:Value) (R:RT) (w:World):Prop :=
 pickK t6 (.bool true) t10 fun t11 =>
 joinK (fun (t15:Value) (w:World) =>
 n29c7 t1 t11 t15 R w) fun K2 =>
 guardP t11 false (
 F0 52 t1 3 R w fun t13 w =>
 L0 4 t13 R w fun t14 w =>
 K2 t14 w) (
 K2 undef w)
def n29 (t0:Value) (R:RT) (w:World):Prop :=
 opV Pg (Instr.box 52 t0) (panK R) w fun t1 w =>
 F0 52 t1 2 R w fun t4 w =>
 L0 3 t4 R w fun t5 w =>
 B0 .lss 3 true t5 (.int .i64 1) R w fun t6 w =>
 joinK (fun (t10:Value) (w:World) =>
 n29c8 t1 t6 t10 R w) fun K1 =>
 guardP t6 false (
 F0 52 t1 2 R w fun t8 w =>
 L0 3 t8 R w fun t9 w =>
 B0 .gtr 3 true t9 (.int .i64 32) R w fun t10 w =>
 K1 t10 w) (
 K1 undef w)
theorem n29s {t0:Value} {R:RT} {w:World} (h:n29 t0 R w):Calls Pg 57 #[t0] w R:=by
 refine calls_of_den (args:=[t0]) Tryz.func57 rfl (Nat.le_of_ble_eq_true rfl) ?_
 unfold n29 at h
 refine zs<|zr ?_
 refine zv h fun t1 w h=>?_
 refine zm<|zn<|zk<|zs<|zs<|sim_regionG ?_
 refine sim_seg 4 rfl ?_
 refine zv h fun t4 w h=>?_
 refine zv h fun t5 w h=>?_
 refine zb h fun t6 w h=>?_
 refine zm<|zn ?_
 refine joinK_elim h (fun K1 hK h=>?_)
 refine sim_groupJ 3 3 false [8,9,10] (fun ρ w=>K1 (ρ 10) w) rfl rfl (fun T hT=>guardP_mono h (fun h=>?_) (fun h=>?_)) (fun σ w h=>?_)
 · refine zv h fun t8 w h=>?_
   refine zv h fun t9 w h=>?_
   refine zb h fun t10 w h=>?_
   refine zn ?_
   exact zt hT h
 · exact zt hT h
 subst hK
 refine sim_seg 2 rfl ?_
 refine sim_pick h rfl rfl rfl ?_;intro t11 h
 refine zm<|zn ?_
 refine joinK_elim h (fun K2 hK h=>?_)
 refine sim_groupJ 3 8 false [13,14,15] (fun ρ w=>K2 (ρ 15) w) rfl rfl (fun T hT=>guardP_mono h (fun h=>?_) (fun h=>?_)) (fun σ w h=>?_)
 · refine zv h fun t13 w h=>?_
   refine zv h fun t14 w h=>?_
   refine zm<|zn ?_
   exact zt hT h
 · exact zt hT h
 subst hK
 refine joinK_elim h (fun K3 hK h=>?_)
 refine sim_groupJ 3 11 true [16,17,18] (fun ρ w=>K3 (ρ 18) w) rfl rfl (fun T hT=>guardP_mono h (fun h=>?_) (fun h=>?_)) (fun σ w h=>?_)
 · refine zv h fun t16 w h=>?_
   refine zv h fun t17 w h=>?_
   refine zb h fun t18 w h=>?_
   refine zn ?_
   exact zt hT h
 · exact zt hT h
 subst hK
 refine joinK_elim h (fun K4 hK h=>?_)
 refine sim_groupJ 2 8 false [19,20] (fun ρ w=>K4 (ρ 20) w) rfl rfl (fun T hT=>guardP_mono h (fun h=>?_) (fun h=>?_)) (fun σ w h=>?_)
 · refine sim_pick h rfl rfl rfl ?_;intro t19 h
   refine zm<|zn ?_
   exact zt hT h
 · exact zt hT h
 subst hK
 refine joinK_elim h (fun K5 hK h=>?_)
 refine sim_groupJ 3 16 true [21,22,23] (fun ρ w=>K5 (ρ 23) w) rfl rfl (fun T hT=>guardP_mono h (fun h=>?_) (fun h=>?_)) (fun σ w h=>?_)
 · refine zv h fun t21 w h=>?_
   refine zv h fun t22 w h=>?_
   refine zb h fun t23 w h=>?_
   refine zn ?_
   exact zt hT h
 · exact zt hT h
 subst hK
 refine joinK_elim h (fun K6 hK h=>?_)
 refine sim_groupJ 2 8 false [24,25] (fun ρ w=>K6 (ρ 25) w) rfl rfl (fun T hT=>guardP_mono h (fun h=>?_) (fun h=>?_)) (fun σ w h=>?_)
 · refine sim_pick h rfl rfl rfl ?_;intro t24 h
   refine zm<|zn ?_
   exact zt hT h
 · exact zt hT h
 subst hK
 refine joinK_elim h (fun K7 hK h=>?_)
 refine sim_groupJ 3 21 true [26,27,28] (fun ρ w=>K7 (ρ 28) w) rfl rfl (fun T hT=>guardP_mono h (fun h=>?_) (fun h=>?_)) (fun σ w h=>?_)
 · refine zv h fun t26 w h=>?_
   refine zv h fun t27 w h=>?_
   refine zb h fun t28 w h=>?_
   refine zn ?_
   exact zt hT h
 · exact zt hT h
 subst hK
 refine joinK_elim h (fun K8 hK h=>?_)
 refine sim_groupJ 1 8 false [29] (fun ρ w=>K8 (ρ 29) w) rfl rfl (fun T hT=>guardP_mono h (fun h=>?_) (fun h=>?_)) (fun σ w h=>?_)
 · refine sim_pick h rfl rfl rfl ?_;intro t29 h
   refine zn ?_
   exact zt hT h
 · exact zt hT h
 subst hK
 refine sim_seg 1 rfl ?_
 refine sim_pick h rfl rfl rfl ?_;intro t30 h
 refine zn<|sim_end<|zk ?_
 refine sim_cond h rfl (fun h=>?_) (fun h=>?_)
 · refine zs<|zr<|zm<|zn<|zk<|sim_ret<|sim_then_ret ?_
   exact body_ret1 rfl rfl h
 · refine sim_skip<|zk<|zs<|zr ?_
   refine zv h fun t31 w h=>?_
   refine zv h fun t32 w h=>?_
   refine zm<|zn<|zk<|zs<|zs<|zr ?_
   refine zv h fun t33 w h=>?_
   refine zv h fun t34 w h=>?_
   refine zb h fun t35 w h=>?_
   refine zn<|zk ?_
   refine joinK_elim h (fun K9 hK h=>?_)
   refine sim_joinQ [3,36,37] (fun ρ w=>K9 (ρ 3) w) (fun _ hkK9=>?_) (fun σ w h=>?_)
   · refine sim_cond h rfl (fun h=>?_) (fun h=>?_)
     · refine zr ?_
       refine zv h fun t36 w h=>?_
       refine zv h fun t37 w h=>?_
       refine zm<|zn<|zk ?_
       exact zt hkK9 h
     · refine sim_skip<|zk ?_
       exact zt hkK9 h
   subst hK
   refine zk<|zs<|zs<|sim_regionG ?_
   refine sim_seg 4 rfl ?_
   refine zv h fun t38 w h=>?_
   refine zv h fun t39 w h=>?_
   refine zb h fun t40 w h=>?_
   refine zm<|zn ?_
   refine joinK_elim h (fun K10 hK h=>?_)
   refine sim_groupJ 4 3 false [42,43,44,45] (fun ρ w=>K10 (ρ 45) w) rfl rfl (fun T hT=>guardP_mono h (fun h=>?_) (fun h=>?_)) (fun σ w h=>?_)
   · refine zv h fun t42 w h=>?_
     refine zv h fun t43 w h=>?_
     refine zm ?_
     refine zb h fun t45 w h=>?_
     refine zn ?_
     exact zt hT h
   · exact zt hT h
   subst hK
   refine sim_seg 2 rfl ?_
   refine sim_pick h rfl rfl rfl ?_;intro t46 h
   refine zm<|zn ?_
   refine joinK_elim h (fun K11 hK h=>?_)
   refine sim_groupJ 5 9 false [48,49,50,51,52] (fun ρ w=>K11 (ρ 52) w) rfl rfl (fun T hT=>guardP_mono h (fun h=>?_) (fun h=>?_)) (fun σ w h=>?_)
   · refine zm ?_
     refine zv h fun t49 w h=>?_
     refine zv h fun t50 w h=>?_
     refine zb h fun t51 w h=>?_
     refine zb h fun t52 w h=>?_
     refine zn ?_
     exact zt hT h
   · exact zt hT h
   subst hK
   refine sim_seg 1 rfl ?_
   refine sim_pick h rfl rfl rfl ?_;intro t53 h
   refine zn<|sim_end<|zk ?_
   refine sim_cond h rfl (fun h=>?_) (fun h=>?_)
   · refine zs<|zr<|zm<|zn<|zk<|sim_ret<|sim_then_ret ?_
     exact body_ret1 rfl rfl h
   · refine sim_skip<|zk<|zs<|zr<|zm<|zn<|zk<|sim_ret ?_
     exact body_ret1 rfl rfl h
def n33c1 (t1 t6 t10:Value) (R:RT) (w:World):Prop :=
 pickK t6 t10 (.bool false) fun t11 =>
 joinK (fun (t14:Value) (w:World) =>
 pickK t11 t14 (.bool false) fun t15 =>
 R (.returned t15) w) fun K2 =>
 guardP t11 true (
 B0 .lss 3 true t1 (.int .i64 34359738368) R w fun t14 w =>
 K2 t14 w) (
 K2 undef w)
def n33 (t0 t1:Value) (R:RT) (w:World):Prop :=
 B0 .geq 3 true t0 (.int .i64 0) R w fun t6 w =>
 joinK (fun (t10:Value) (w:World) =>
 n33c1 t1 t6 t10 R w) fun K1 =>
 guardP t6 true (
 B0 .leq 3 false t0 t1 R w fun t10 w =>
 K1 t10 w) (
 K1 undef w)
theorem n33s {t0 t1:Value} {R:RT} {w:World} (h:n33 t0 t1 R w):Calls Pg 58 #[t0,t1] w R:=by
 refine calls_of_den (args:=[t0,t1]) Tryz.func58 rfl (Nat.le_of_ble_eq_true rfl) ?_
 unfold n33 at h
 refine zs<|zr<|zm<|zn<|zk<|zs<|sim_regionG ?_
 refine sim_seg 3 rfl ?_
 refine zm ?_
 refine zb h fun t6 w h=>?_
 refine zm<|zn ?_
 refine joinK_elim h (fun K1 hK h=>?_)
 refine sim_groupJ 3 2 true [8,9,10] (fun ρ w=>K1 (ρ 10) w) rfl rfl (fun T hT=>guardP_mono h (fun h=>?_) (fun h=>?_)) (fun σ w h=>?_)
 · refine zm<|zm ?_
   refine zb h fun t10 w h=>?_
   refine zn ?_
   exact zt hT h
 · exact zt hT h
 subst hK
 refine sim_seg 2 rfl ?_
 refine sim_pick h rfl rfl rfl ?_;intro t11 h
 refine zm<|zn ?_
 refine joinK_elim h (fun K2 hK h=>?_)
 refine sim_groupJ 2 7 true [13,14] (fun ρ w=>K2 (ρ 14) w) rfl rfl (fun T hT=>guardP_mono h (fun h=>?_) (fun h=>?_)) (fun σ w h=>?_)
 · refine zm ?_
   refine zb h fun t14 w h=>?_
   refine zn ?_
   exact zt hT h
 · exact zt hT h
 subst hK
 refine sim_seg 2 rfl ?_
 refine sim_pick h rfl rfl rfl ?_;intro t15 h
 refine zm<|zn<|sim_end<|zk<|sim_ret ?_
 exact body_ret1 rfl rfl h
def n30c1 (t5 t6 t7 t56:Value) (next1:KW) (R:RT) (w:World):Prop :=
 opV Pg (Instr.extract t56 0) (panK R) w fun t57 w =>
 opV Pg (Instr.extract t56 1) (panK R) w fun t58 w =>
 F0 49 t5 1 R w fun t60 w =>
 L0 47 t60 R w fun t61 w =>
 X0 47 t61 t7 R w fun t63 w =>
 F0 78 t63 0 R w fun t64 w =>
 L0 9 t64 R w fun t65 w =>
 opV Pg (Instr.build 129 #[(0,t65),(1,t57),(2,t58)]) (panK R) w fun t68 w =>
 opV Pg (Instr.buildSlice 127 1 #[(0,t68)]) (panK R) w fun t69 w =>
 opV Pg (Builtin.append_ #[127,127] 127 #[t6,t69]) (panK R) w fun t70 w =>
 B0 .add 3 true t7 (.int .i64 1) R w fun t29 w =>
 next1 t70 t29 w
def n30c2 (t2 t5 t6 t7 t38:Value) (next1:KW) (R:RT) (w:World):Prop :=
 F0 45 t2 1 R w fun t51 w =>
 L0 43 t51 R w fun t52 w =>
 X0 43 t52 t38 R w fun t54 w =>
 L0 52 t54 R w fun t55 w =>
 C0 62 #[t55] R w fun t56 w =>
 n30c1 t5 t6 t7 t56 next1 R w
def n30c3 (t2 t5 t6 t7 t38:Value) (next1:KW) (R:RT) (w:World):Prop :=
 B0 .lss 3 true t38 (.int .i64 0) R w fun t40 w =>
 joinK (fun (t48:Value) (w:World) =>
 pickK t40 (.bool true) t48 fun t49 =>
 condP t49 (
 R (.returned (.int .i64 8)) w) (
 n30c2 t2 t5 t6 t7 t38 next1 R w)) fun K3 =>
 guardP t40 false (
 F0 45 t2 1 R w fun t42 w =>
 L0 43 t42 R w fun t43 w =>
 X0 43 t43 t38 R w fun t45 w =>
 L0 52 t45 R w fun t46 w =>
 C0 60 #[t46] R w fun t47 w =>
 opV Pg (Op.unary .not t47) (panK R) w fun t48 w =>
 K3 t48 w) (
 K3 undef w)
def n30c4 (t1 t2 t5 t6 t7:Value) (C2:World→Prop) (next1:KW) (R:RT) (w:World):Prop :=
 qV Pg C2 (Instr.loadAt 45 t2) fun t30 =>
 qV Pg C2 (Instr.fieldAt 49 t5 1) fun t31 =>
 qV Pg C2 (Instr.loadAt 47 t31) fun t32 =>
 qV Pg C2 (Instr.indexAt 47 t32 t7) fun t34 =>
 qV Pg C2 (Instr.fieldAt 78 t34 0) fun t35 =>
 qV Pg C2 (Instr.loadAt 9 t35) fun t36 =>
 C0 42 #[t30,t36,t1] R w fun t38 w =>
 C2 w∧(
 n30c3 t2 t5 t6 t7 t38 next1 R w)
def n30c5 (t76 t79 t82:Value) (R:RT) (w:World):Prop :=
 pickK t79 (.bool true) t82 fun t83 =>
 joinK (fun (t86:Value) (w:World) =>
 pickK t83 (.bool true) t86 fun t87 =>
 condP t87 (
 R (.returned (.int .i64 9)) w) (
 R (.returned (.int .i64 0)) w)) fun K5 =>
 guardP t83 false (
 B0 .gtr 3 true t76 (.int .i64 1048576) R w fun t86 w =>
 K5 t86 w) (
 K5 undef w)
def n30c6 (t74:Value) (R:RT) (w:World):Prop :=
 opV Pg (Instr.extract t74 0) (panK R) w fun t75 w =>
 opV Pg (Instr.extract t74 1) (panK R) w fun t76 w =>
 opV Pg (Instr.extract t74 2) (panK R) w fun t77 w =>
 B0 .neq 3 true t77 (.int .i64 0) R w fun t79 w =>
 joinK (fun (t82:Value) (w:World) =>
 n30c5 t76 t79 t82 R w) fun K4 =>
 guardP t79 false (
 B0 .lss 3 true t75 (.int .i64 0) R w fun t82 w =>
 K4 t82 w) (
 K4 undef w)
def n30c7 (t1 t2 t5 t6 t7:Value) (next1:KW) (R:RT) (w:World):Prop :=
 F0 49 t5 1 R w fun t24 w =>
 L0 47 t24 R w fun t25 w =>
 opV Pg (Builtin.len_ #[47] 3 #[t25]) (panK R) w fun t26 w =>
 B0 .lss 3 false t7 t26 R w fun t27 w =>
 condP t27 (
 drawK w fun C2 w =>
 n30c4 t1 t2 t5 t6 t7 C2 next1 R w) (
 L0 49 t5 R w fun t72 w =>
 C0 74 #[t72,t6] R w fun t74 w =>
 n30c6 t74 R w)
def n30c8 (t1 t2 t5 t21:Value) (R:RT) (w:World):Prop :=
 opV Pg (Op.unary .not t21) (panK R) w fun t22 w =>
 condP t22 (
 R (.returned (.int .i64 9)) w) (
 loop2 (fun t6 t7 w next1 =>
 n30c7 t1 t2 t5 t6 t7 next1 R w) (Value.slice none 0 0) (.int .i64 0) w)
def n30 (t0 t1:Value) (R:RT) (w:World):Prop :=
 opV Pg (Instr.box 45 t0) (panK R) w fun t2 w =>
 F0 45 t2 1 R w fun t14 w =>
 L0 43 t14 R w fun t15 w =>
 X0 43 t15 t1 R w fun t17 w =>
 F0 52 t17 7 R w fun t18 w =>
 L0 49 t18 R w fun t19 w =>
 opV Pg (Instr.alloc 49 true (.tuple #[])) (panK R) w fun t5 w =>
 opU Pg (Instr.storeAt 49 t5 t19) (panK R) w fun w =>
 L0 49 t5 R w fun t20 w =>
 C0 73 #[t20] R w fun t21 w =>
 n30c8 t1 t2 t5 t21 R w
theorem n30s {t0 t1:Value} {R:RT} {w:World} (h:n30 t0 t1 R w):Calls Pg 59 #[t0,t1] w R:=by
 refine calls_of_den (args:=[t0,t1]) Tryz.func59 rfl (Nat.le_of_ble_eq_true rfl) ?_
 unfold n30 at h
 refine zs<|zr ?_
 refine zv h fun t2 w h=>?_
 refine zm<|zn<|zk<|zs<|zr ?_
 refine zv h fun t14 w h=>?_
 refine zv h fun t15 w h=>?_
 refine zm ?_
 refine zv h fun t17 w h=>?_
 refine zv h fun t18 w h=>?_
 refine zv h fun t19 w h=>?_
 refine zv h fun t5 w h=>?_
 refine zu h fun w h=>?_
 refine zn<|zk<|zs<|zs<|zr ?_
 refine zv h fun t20 w h=>?_
 refine zc h c73 fun t21 w h=>?_
 refine zv h fun t22 w h=>?_
 refine zn<|zk ?_
 refine sim_cond h rfl (fun h=>?_) (fun h=>?_)
 · refine zs<|zr<|zm<|zn<|zk<|sim_ret<|sim_then_ret ?_
   exact body_ret1 rfl rfl h
 · refine sim_skip<|zk<|zs<|zr<|zm<|zn<|zk<|zs<|zs<|zr<|zm<|zn<|zk<|sim_block ?_
   obtain ⟨I,μ,h0,hr⟩:=h
   refine sim_loop [4,6,7,8,9,10,23,24,25,26,27,28,29,30,31,32,33,34,35,36,37,38,39,40,41,42,43,44,45,46,47,48,49,50,51,52,53,54,55,56,57,58,59,60,61,62,63,64,65,66,67,68,69,70] (by kernel_rfl) (fun ρ w=>I (ρ 6) (ρ 7) w) (fun ρ w=>μ (ρ 6) (ρ 7) w) h0 (fun σ w hI=>?_)
   have h:=hr _ _ _ hI
   clear hr h0 hI
   refine zs<|zs<|zr<|zm ?_
   refine zv h fun t24 w h=>?_
   refine zv h fun t25 w h=>?_
   refine zx h fun t26 w h=>?_
   refine zb h fun t27 w h=>?_
   refine zn<|zk ?_
   refine sim_cond h rfl (fun h=>?_) (fun h=>?_)
   · refine sim_skip<|zk<|zs<|sim_block<|zs ?_
     obtain ⟨C2,hC,h⟩:=h
     refine sim_draw [8,30,31,32,33,34,35,36,37,38] (by kernel_rfl) (by kernel_rfl) C2 ?_
     refine ze 0 hC h fun t30 h=>?_
     refine ze 1 hC h fun t31 h=>?_
     refine ze 2 hC h fun t32 h=>?_
     refine zw 3 hC ?_
     refine ze 4 hC h fun t34 h=>?_
     refine ze 5 hC h fun t35 h=>?_
     refine ze 6 hC h fun t36 h=>?_
     refine zw 7 hC ?_
     refine sim_dloud 8 rfl (by kernel_rfl) (fun _ _=>rfl) ?_
     refine sim_call h c42 rfl (fun _ _ h _ _=>⟨rfl,h⟩) ?_;intro t38 w h
     refine zn ?_
     obtain ⟨hC,h⟩:=h
     refine ⟨hC,?_⟩
     refine zw 9 hC ?_
     refine sim_dend (by kernel_rfl) ?_
     refine zk<|zs<|zs<|sim_regionG ?_
     refine sim_seg 3 rfl ?_
     refine zm ?_
     refine zb h fun t40 w h=>?_
     refine zm<|zn ?_
     refine joinK_elim h (fun K3 hK h=>?_)
     refine sim_groupJ 7 2 false [42,43,44,45,46,47,48] (fun ρ w=>K3 (ρ 48) w) rfl rfl (fun T hT=>guardP_mono h (fun h=>?_) (fun h=>?_)) (fun σ w h=>?_)
     · refine zv h fun t42 w h=>?_
       refine zv h fun t43 w h=>?_
       refine zm ?_
       refine zv h fun t45 w h=>?_
       refine zv h fun t46 w h=>?_
       refine zc h c60 fun t47 w h=>?_
       refine zv h fun t48 w h=>?_
       refine zn ?_
       exact zt hT h
     · exact zt hT h
     subst hK
     refine sim_seg 1 rfl ?_
     refine sim_pick h rfl rfl rfl ?_;intro t49 h
     refine zn<|sim_end<|zk ?_
     refine sim_cond h rfl (fun h=>?_) (fun h=>?_)
     · refine zs<|zr<|zm<|zn<|zk<|sim_ret<|sim_then_ret<|sim_block_ret<|sim_then_ret<|sim_then_ret<|sim_block_ret<|sim_then_ret ?_
       exact body_ret1 rfl rfl h
     · refine sim_skip<|zk<|zs<|zr ?_
       refine zv h fun t51 w h=>?_
       refine zv h fun t52 w h=>?_
       refine zm ?_
       refine zv h fun t54 w h=>?_
       refine zv h fun t55 w h=>?_
       refine zc h c62 fun t56 w h=>?_
       refine zm ?_
       refine zv h fun t57 w h=>?_
       refine zv h fun t58 w h=>?_
       refine zm<|zm<|zn<|zk<|zr<|zm ?_
       refine zv h fun t60 w h=>?_
       refine zv h fun t61 w h=>?_
       refine zm ?_
       refine zv h fun t63 w h=>?_
       refine zv h fun t64 w h=>?_
       refine zv h fun t65 w h=>?_
       refine zm<|zm ?_
       refine sim_build h rfl (fun _ _ h=>⟨rfl,h⟩) ?_;intro t68 w h
       refine sim_buildSlice h rfl (fun _ _ h=>⟨rfl,h⟩) ?_;intro t69 w h
       refine zx h fun t70 w h=>?_
       refine zm<|zn<|sim_block_normal<|zk<|zr<|zm ?_
       refine zb h fun t29 w h=>?_
       refine zm<|zn<|zk ?_
       exact ⟨rfl,h⟩
   · refine sim_exit<|sim_then_exit<|sim_then_exit<|sim_block_hit<|zk<|zs<|zr ?_
     refine zv h fun t72 w h=>?_
     refine zm ?_
     refine zc h c74 fun t74 w h=>?_
     refine zm ?_
     refine zv h fun t75 w h=>?_
     refine zv h fun t76 w h=>?_
     refine zv h fun t77 w h=>?_
     refine zm<|zm<|zm<|zn<|zk<|zs<|zs<|sim_regionG ?_
     refine sim_seg 3 rfl ?_
     refine zm ?_
     refine zb h fun t79 w h=>?_
     refine zm<|zn ?_
     refine joinK_elim h (fun K4 hK h=>?_)
     refine sim_groupJ 2 2 false [81,82] (fun ρ w=>K4 (ρ 82) w) rfl rfl (fun T hT=>guardP_mono h (fun h=>?_) (fun h=>?_)) (fun σ w h=>?_)
     · refine zm ?_
       refine zb h fun t82 w h=>?_
       refine zn ?_
       exact zt hT h
     · exact zt hT h
     subst hK
     refine sim_seg 2 rfl ?_
     refine sim_pick h rfl rfl rfl ?_;intro t83 h
     refine zm<|zn ?_
     refine joinK_elim h (fun K5 hK h=>?_)
     refine sim_groupJ 2 6 false [85,86] (fun ρ w=>K5 (ρ 86) w) rfl rfl (fun T hT=>guardP_mono h (fun h=>?_) (fun h=>?_)) (fun σ w h=>?_)
     · refine zm ?_
       refine zb h fun t86 w h=>?_
       refine zn ?_
       exact zt hT h
     · exact zt hT h
     subst hK
     refine sim_seg 1 rfl ?_
     refine sim_pick h rfl rfl rfl ?_;intro t87 h
     refine zn<|sim_end<|zk ?_
     refine sim_cond h rfl (fun h=>?_) (fun h=>?_)
     · refine zs<|zr<|zm<|zn<|zk<|sim_ret<|sim_then_ret ?_
       exact body_ret1 rfl rfl h
     · refine sim_skip<|zk<|zs<|zr<|zm<|zn<|zk<|sim_ret ?_
       exact body_ret1 rfl rfl h
end Go.Proofs.YtiajhbbmgglmlaaGreat
namespace Go.Proofs.YtiajhbbmgglmlaaGreat
open Sw
open Go.RowKit (intOf Below)
def refsF (f:FieldD):List ByteArray:=if f.kind=7∨f.kind=8∨f.kind=12 then [f.of] else if f.kind=9 then f.cases.map (·.of) else []
def allRefs (l:List FieldD):List ByteArray:=l.flatMap refsF
abbrev strEnc (s:ByteArray):List Value:=[.string s]
theorem append_str {w:World} {QP:List PanicEntry→World→Prop} {k:Value→World→Prop} {base:Nat} {v:Value} {l:List ByteArray} (s:ByteArray) {b:Nat} (hown:OwnE w base 9 1 strEnc v l) (hc:w.cell? ⟨b,0,none⟩=some (.string s)) (hbase:base≤w.heap.size) (hl:l.length≤1048576)
 (hk:∀ v' w',OwnE w' base 9 1 strEnc v' (l++[s])→w.grownBy w' v.ownBlock→k v' w') :
 opV Pg (Builtin.append_ #[69,69] 69 #[v,.slice (some ⟨b,0,none⟩) 1 1]) QP w k:=by
 have hby:=by9
 refine op_appendE (l':=[s]) Tryz.underlying69 ty9 rfl (by decide) (fun _=>rfl) (fun x _ u hu=>by simp at hu;subst hu;rfl) hown (fun j x hx=>?_) hbase ?_ (by simp;omega) hk
 · cases j with
   | zero =>
    simp at hx;subst hx
    intro j v hv
    cases j with
    | zero=>simp at hv;subst hv;simpa using hc
    | succ j=>simp at hv
   | succ j=>simp at hx
 · simp only [List.length_cons,List.length_nil]
   exact Nat.le_trans (Nat.mul_le_mul (Nat.add_le_add_right hl 1) hby) (by decide)
def StrsAt (w:World) (pb:Nat) (sv:Value) (l:List ByteArray):Prop:=w.cell? ⟨pb,0,none⟩=some sv∧SliceOf w 1 EStr sv l∧∀ A m c,sv = .slice (some A) m c→pb < A.block
theorem StrsAt.ext {w w':World} {pb:Nat} {sv:Value} {l:List ByteArray} (h:StrsAt w pb sv l) (e:Ext w w'):StrsAt w' pb sv l:=⟨e.cell h.1,h.2.1.ext keptStr e,h.2.2⟩
theorem append_cell {w0 w:World} {QP:List PanicEntry→World→Prop} {ku:World→Prop} {pb lo p:Nat} {sv:Value} {l:List ByteArray} (s:ByteArray) {T T':TypeId} (hp:p=w.heap.size) (e:Ext w0 w) (h0:w0.heap.size≤pb) (hlo:pb < lo) (o3:w.heap[pb]?=some (.cells #[sv] T (0,0))) (hO:OwnE w lo 9 1 strEnc sv l) (hs:lo≤w.heap.size) (hl:l.length≤1048576)
 (hk:∀ w' sv',Ext w0 w'→w'.heap[pb]?=some (.cells #[sv'] T (0,0))→OwnE w' lo 9 1 strEnc sv' (l++[s])→lo≤w'.heap.size→ku w') :
 opV Pg (Builtin.append_ #[69,69] 69 #[sv,.slice (some ⟨p,0,none⟩) 1 1]) QP (w.alloc (.cells #[.string s] T')) (fun t w=>opU Pg (Instr.storeAt 69 (.pointer (some ⟨pb,0,none⟩)) t) QP w ku):=by
 subst hp
 have l3:pb < w.heap.size:=(Array.getElem?_eq_some_iff.1 o3).1
 have o3':=((Ext.refl w).alloc (.cells #[.string s] T')).obj o3
 refine append_str s (hO.ext ((Ext.refl w).alloc _)) (by rw [cell_new];rfl) (Nat.le_trans hs (by simp)) hl ?_
 intro v' w' hO' hg
 have hne:some pb≠sv.ownBlock:=by
  intro h
  have:=hO.lt pb h.symm
  omega
 have o3w:w'.heap[pb]?=some (.cells #[sv] T (0,0)):=by rw [hg.block pb (by simp;omega) hne];exact o3'
 have eg:Ext w0 w':=(e.alloc _).grown hg (fun k hk=>by have:=hO.lt k hk;omega)
 have hv:=(hO'.slice (E:=EStr) (fun _=>rfl) (fun _ _=>rfl)).oneCell
 rw [op_store1 ty69 hv ((cells_of_heap o3w).1 0) ((cells_of_heap o3w).2 0)]
 refine hk _ v' (eg.setCell h0 _) ?_ ((hO'.range.only (Only.setCell w' pb 0 v') (.inr (.inl hlo))).1) ?_
 · have:=heap_set (o:=0) o3w v'
   simpa using this
 · have:=hg.size
   simp at this ⊢
   omega
theorem Refers_ret (w0:World) (v:Value) (m:MsgD) (hm:MsgVal w0 v m) (hb:(allRefs m.fields).length≤1048576) :
 Ret Pg 54 #[v] w0 fun r w'=>∃ pb sv,r = .func (.func 71) #[] #[.pointer (some ⟨pb,0,none⟩)]∧StrsAt w' pb sv (allRefs m.fields)∧w0.heap.size≤pb∧Ext w0 w':=by
 obtain ⟨fv,rfl,hF⟩:=hm
 obtain ⟨A,c,rfl,hlc,hcm,hlm,hel⟩:=SliceOf.open hF
 refine n44s (R:=retR _) ?_;unfold n44
 simp (disch:=try exact DI) only [↓PR,QR,Int.reduceBEq,Int.reduceBNe,Int.reduceLT,Int.reduceLE,Int.reduceGT,Int.reduceGE,Int.reduceNeg]
 generalize hW:World.alloc (World.alloc w0 _) _=W
 have e0:Ext w0 W:=by rw [← hW];exact ee
 have hsz:W.heap.size=w0.heap.size+1+1:=by rw [← hW];simp only [World.size_alloc]
 have o3:W.heap[w0.heap.size+1]?=some (.cells #[.slice none 0 0] 69 (0,0)):=by rw [← hW];simp (disch:=try exact DI) only [↓PR,QR,Int.reduceBEq,Int.reduceBNe,Int.reduceLT,Int.reduceLE,Int.reduceGT,Int.reduceGE,Int.reduceNeg]
 clear hW
 refine loop1_intro (fun a0 w=>∃ (k:Nat) , a0 = .int .i64 (k:Int)∧k≤m.fields.length∧Ext w0 w∧(∃ sv,w.heap[w0.heap.size+1]?=some (.cells #[sv] 69 (0,0))∧OwnE w W.heap.size 9 1 strEnc sv (allRefs (m.fields.take k))∧W.heap.size≤w.heap.size)) (fun a0 _=>m.fields.length - (intOf a0).toNat) ⟨0,rfl,Nat.zero_le _,ee,⟨_,o3,OwnE.nil _ _ _ _ _,Nat.le_refl _⟩⟩ ?_
 rintro _ w ⟨k,rfl,hk,e,hI⟩
 have se:=e.size
 rcases drop_cases hk with ⟨x,hx,hd,hlt,hdec⟩ | ⟨hk,hd,hdec⟩
 · obtain ⟨sv,o3,hO,hsW⟩:=hI
   obtain ⟨b,o,cs,rfl,hl,hA,hE⟩:=hel k x hx
   obtain ⟨tv,cv,rfl,hT,hC,ht1,hc1⟩:=hE.op
   have hpre:(allRefs (m.fields.take (k+1)))=allRefs (m.fields.take k)++refsF x:=by unfold allRefs;rw [take_snoc hx,List.flatMap_append];simp
   have hle:(allRefs (m.fields.take (k+1))).length≤1048576:=by
    refine Nat.le_trans ?_ hb
    have:m.fields=m.fields.take (k+1)++m.fields.drop (k+1):=(List.take_append_drop _ _).symm
    conv=>rhs;rw [this]
    unfold allRefs
    rw [List.flatMap_append,List.length_append]
    omega
   rw [hpre,List.length_append] at hle
   have hsv:=(hO.slice (E:=EStr) (fun _=>rfl) (fun _ _=>rfl)).oneCell
   simp (disch:=try exact DI) only [↓PR,QR,Int.reduceBEq,Int.reduceBNe,Int.reduceLT,Int.reduceLE,Int.reduceGT,Int.reduceGE,Int.reduceNeg,↓n44c1,↓n44c2,↓n44c3,↓n44c4,↓n44c5,↓n44c6,↓n44c7,hdec,hA.c15]
   generalize hW1:World.alloc w _=w1
   have e1:Ext w w1:=by rw [← hW1];exact ee
   have o5:w1.heap[w.heap.size]?=some (.cells (fieldCells x tv cv).toArray 52 (0,0)):=by rw [← hW1];simp (disch:=try exact DI) only [↓PR,QR,Int.reduceBEq,Int.reduceBNe,Int.reduceLT,Int.reduceLE,Int.reduceGT,Int.reduceGE,Int.reduceNeg]
   clear hW1
   have s1:=e1.size
   have e01:=e.trans e1
   have o31:=e1.obj o3
   have hO1:=hO.ext e1
   have l5:w.heap.size < w1.heap.size:=(Array.getElem?_eq_some_iff.1 o5).1
   have l3:w0.heap.size+1 < w1.heap.size:=(Array.getElem?_eq_some_iff.1 o31).1
   by_cases hr:x.kind=7∨x.kind=8∨x.kind=12
   · have hrf:refsF x=[x.of]:=by unfold refsF;rw [if_pos hr]
     rw [hrf] at hpre hle
     have key:∀ b,b=true→n44c4 (.pointer (some ⟨w0.heap.size+1,0,none⟩)) (.pointer (some ⟨w.heap.size,0,none⟩)) (.int .i64 (k:Int)) (.int .i64 x.kind) (.bool b) (fun a0' w'=>(∃ k:Nat,a0'=Value.int IntKind.i64 (k:Int)∧k≤m.fields.length∧Ext w0 w'∧∃ sv,w'.heap[w0.heap.size+1]?=some (.cells #[sv] 69 (0,0))∧OwnE w' W.heap.size 9 1 strEnc sv (allRefs (m.fields.take k))∧W.heap.size≤w'.heap.size)∧m.fields.length - (intOf a0').toNat < m.fields.length - (intOf (Value.int IntKind.i64 (k:Int))).toNat)
      (retR fun r w'=>∃ pb sv,r = .func (.func 71) #[] #[.pointer (some ⟨pb,0,none⟩)]∧StrsAt w' pb sv (allRefs m.fields)∧w0.heap.size≤pb∧Ext w0 w') w1:=by
      rintro b rfl
      simp (disch:=try exact DI) only [↓PR,QR,Int.reduceBEq,Int.reduceBNe,Int.reduceLT,Int.reduceLE,Int.reduceGT,Int.reduceGE,Int.reduceNeg,↓n44c1,↓n44c2,↓n44c3,↓n44c4,↓n44c5,↓n44c6,↓n44c7,(cells_of_heap o31).1,(cells_of_heap o5).1]
      refine append_cell x.of rfl e01 (by omega) (by omega) o31 hO1 (by omega) (by simp at hle;omega) ?_
      intro w2 sv2 e2 o32 hO2 hs2
      rw [← hpre] at hO2
      simp (disch:=try exact DI) only [↓PR,QR,Int.reduceBEq,Int.reduceBNe,Int.reduceLT,Int.reduceLE,Int.reduceGT,Int.reduceGE,Int.reduceNeg]
      exact ⟨⟨k+1,rfl,by omega,ee,⟨sv2,o32,hO2,hs2⟩⟩,meas_lt hlt⟩
     simp only [World.size_alloc]
     rcases hr with h | h | h
     · rw [h] at key ⊢
       simp (disch:=try exact DI) only [↓PR,QR,Int.reduceBEq,Int.reduceBNe,Int.reduceLT,Int.reduceLE,Int.reduceGT,Int.reduceGE,Int.reduceNeg]
       exact key true rfl
     · rw [h] at key ⊢
       simp (disch:=try exact DI) only [↓PR,QR,Int.reduceBEq,Int.reduceBNe,Int.reduceLT,Int.reduceLE,Int.reduceGT,Int.reduceGE,Int.reduceNeg,↓n44c5]
       exact key true rfl
     · rw [h] at key ⊢
       simp (disch:=try exact DI) only [↓PR,QR,Int.reduceBEq,Int.reduceBNe,Int.reduceLT,Int.reduceLE,Int.reduceGT,Int.reduceGE,Int.reduceNeg,↓n44c5]
       exact key true rfl
   · have h7:(x.kind == 7)=false:=by simp;omega
     have h8:(x.kind == 8)=false:=by simp;omega
     have h12:(x.kind == 12)=false:=by simp;omega
     simp only [World.size_alloc]
     by_cases h9:x.kind=9
     · have h9':(x.kind == 9)=true:=by simp [h9]
       have hrf:refsF x=x.cases.map (·.of):=by unfold refsF;rw [if_neg hr,if_pos h9]
       rw [hrf] at hpre hle
       obtain ⟨A',c',rfl,hlc',hcm',hlm',hel'⟩:=SliceOf.open hC
       simp (disch:=try exact DI) only [↓PR,QR,Int.reduceBEq,Int.reduceBNe,Int.reduceLT,Int.reduceLE,Int.reduceGT,Int.reduceGE,Int.reduceNeg,↓n44c1,↓n44c2,↓n44c3,↓n44c4,↓n44c5,↓n44c6,↓n44c7,h7,h8,h12,h9',(cells_of_heap o5).1]
       refine loop1_intro (fun a0 wa=>∃ (ka:Nat) , a0 = .int .i64 (ka:Int)∧ka≤x.cases.length∧Ext w0 wa∧(∃ sv,wa.heap[w0.heap.size+1]?=some (.cells #[sv] 69 (0,0))∧OwnE wa W.heap.size 9 1 strEnc sv (allRefs (m.fields.take k)++(x.cases.take ka).map (·.of))∧W.heap.size≤wa.heap.size)) (fun a0 _=>x.cases.length - (intOf a0).toNat) ⟨0,rfl,Nat.zero_le _,ee,⟨sv,o31,by simpa using hO1,by omega⟩⟩ ?_
       rintro _ wa ⟨ka,rfl,hka,ea,hIa⟩
       have sea:=ea.size
       rcases drop_cases hka with ⟨xa,hxa,hda,hlta,hdeca⟩ | ⟨hka,hda,hdeca⟩
       · obtain ⟨sva,oa,hOa,hsa⟩:=hIa
         obtain ⟨b',o',cs',rfl,_,hA',rfl⟩:=hel' ka xa hxa
         have la:w0.heap.size+1 < wa.heap.size:=(Array.getElem?_eq_some_iff.1 oa).1
         have oa':=((Ext.refl wa).alloc (.cells #[.int .i64 xa.low,.int .i64 xa.high,.string xa.of] 81)).obj oa
         have hla:(x.cases.take ka).length≤x.cases.length:=by rw [List.length_take];omega
         simp (disch:=try exact DI) only [↓PR,QR,Int.reduceBEq,Int.reduceBNe,Int.reduceLT,Int.reduceLE,Int.reduceGT,Int.reduceGE,Int.reduceNeg,↓n44c1,↓n44c2,↓n44c3,↓n44c4,↓n44c5,↓n44c6,↓n44c7,hdeca,hA'.c3,(cells_of_heap oa').1,(cells_of_heap oa).1]
         refine append_cell xa.of (by simp only [World.size_alloc]) (ea.alloc _) (by omega) (by omega) oa' (hOa.ext ((Ext.refl wa).alloc _)) (by simp;omega) (by simp at hle hla ⊢;omega) ?_
         intro w2 sv2 e2 o32 hO2 hs2
         simp (disch:=try exact DI) only [↓PR,QR,Int.reduceBEq,Int.reduceBNe,Int.reduceLT,Int.reduceLE,Int.reduceGT,Int.reduceGE,Int.reduceNeg]
         have hO3:OwnE w2 W.heap.size 9 1 strEnc sv2 (allRefs (m.fields.take k)++(x.cases.take (ka+1)).map (·.of)):=by
          rw [take_snoc hxa,List.map_append,← List.append_assoc];exact hO2
         exact ⟨⟨ka+1,rfl,by omega,ee,⟨sv2,o32,hO3,hs2⟩⟩,meas_lt hlta⟩
       · subst hka
         obtain ⟨sva,oa,hOa,hsa⟩:=hIa
         rw [List.take_length,← hpre] at hOa
         simp (disch:=try exact DI) only [↓PR,QR,Int.reduceBEq,Int.reduceBNe,Int.reduceLT,Int.reduceLE,Int.reduceGT,Int.reduceGE,Int.reduceNeg,↓n44c1,↓n44c2,↓n44c3,↓n44c4,↓n44c5,↓n44c6,↓n44c7,hdeca]
         exact ⟨⟨k+1,rfl,by omega,ee,⟨sva,oa,hOa,hsa⟩⟩,meas_lt hlt⟩
     · have h9':(x.kind == 9)=false:=by simp;omega
       have hrf:refsF x=[]:=by unfold refsF;rw [if_neg hr,if_neg h9]
       rw [hrf,List.append_nil] at hpre
       rw [← hpre] at hO1
       simp (disch:=try exact DI) only [↓PR,QR,Int.reduceBEq,Int.reduceBNe,Int.reduceLT,Int.reduceLE,Int.reduceGT,Int.reduceGE,Int.reduceNeg,↓n44c1,↓n44c2,↓n44c3,↓n44c4,↓n44c5,↓n44c6,↓n44c7,h7,h8,h12,h9',(cells_of_heap o5).1]
       exact ⟨⟨k+1,rfl,by omega,ee,⟨sv,o31,hO1,by omega⟩⟩,meas_lt hlt⟩
 · subst hk
   obtain ⟨sv,o3,hO,hsW⟩:=hI
   rw [List.take_length] at hO
   simp (disch:=try exact DI) only [↓PR,QR,Int.reduceBEq,Int.reduceBNe,Int.reduceLT,Int.reduceLE,Int.reduceGT,Int.reduceGE,Int.reduceNeg,↓n44c1,↓n44c2,↓n44c3,↓n44c4,↓n44c5,↓n44c6,↓n44c7,hdec]
   have hS:=hO.slice (E:=EStr) (fun _=>rfl) (fun _ _=>rfl)
   exact ⟨_,sv,rfl,⟨(cells_of_heap o3).1 0,hS,fun A m c e=>by subst e;have:=hO.lt A.block rfl;omega⟩,by omega,e⟩
theorem Index_string_ret (w0:World) (v:Value) (l:List ByteArray) (s:ByteArray) (hs:SliceOf w0 1 EStr v l) :
 Ret Pg 108 #[v,.string s] w0 fun r w'=>r = .int .i64 (idx (fun y=>decide (s=y)) l)∧Ext w0 w':=by
 obtain ⟨A,c,rfl,hlc,hcm,hlm,hel⟩:=SliceOf.open hs
 refine n118s (R:=retR _) ?_;unfold n118
 simp (disch:=try exact DI) only [↓PR,QR,Int.reduceBEq,Int.reduceBNe,Int.reduceLT,Int.reduceLE,Int.reduceGT,Int.reduceGE,Int.reduceNeg]
 refine loop1_intro (fun a0 w=>∃ (k:Nat) , a0 = .int .i64 (k:Int)∧k≤l.length∧Ext w0 w∧∀ (j:Nat) y,j < k→l[j]?=some y→decide (s=y)=false) (fun a0 _=>l.length - (intOf a0).toNat) ⟨0,rfl,Nat.zero_le _,ee,fun j y h=>by omega⟩ ?_
 rintro _ w ⟨k,rfl,hk,e,hI⟩
 have se:=e.size
 rcases drop_cases hk with ⟨x,hx,hd,hlt,hdec⟩ | ⟨hk,hd,hdec⟩
 · obtain ⟨b,o,cs,rfl,hl,hA,rfl⟩:=hel k x hx
   simp (disch:=try exact DI) only [↓PR,QR,Int.reduceBEq,Int.reduceBNe,Int.reduceLT,Int.reduceLE,Int.reduceGT,Int.reduceGE,Int.reduceNeg,hdec,hA.c1,↓n118c1]
   cases hp:decide (s=x) with
   | true =>
    simp (disch:=try exact DI) only [↓PR,QR,Int.reduceBEq,Int.reduceBNe,Int.reduceLT,Int.reduceLE,Int.reduceGT,Int.reduceGE,Int.reduceNeg]
    exact ⟨by rw [idx_here hx hp hI],e⟩
   | false =>
    simp (disch:=try exact DI) only [↓PR,QR,Int.reduceBEq,Int.reduceBNe,Int.reduceLT,Int.reduceLE,Int.reduceGT,Int.reduceGE,Int.reduceNeg]
    exact ⟨⟨k+1,rfl,by omega,ee,before_succ hI hx hp⟩,meas_lt hlt⟩
 · subst hk
   simp (disch:=try exact DI) only [↓PR,QR,Int.reduceBEq,Int.reduceBNe,Int.reduceLT,Int.reduceLE,Int.reduceGT,Int.reduceGE,Int.reduceNeg,hdec,↓n118c1]
   exact ⟨by rw [idx_none fun j y hy=>hI j y (List.getElem?_eq_some_iff.1 hy).1 hy],e⟩
theorem Contains_string_ret (w0:World) (v:Value) (l:List ByteArray) (s:ByteArray) (hs:SliceOf w0 1 EStr v l) :
 Ret Pg 72 #[v,.string s] w0 fun r w'=>r = .bool (l.any fun y=>decide (s=y))∧Ext w0 w':=by
 refine n111s (R:=retR _) ?_;unfold n111
 refine callK_ret (Index_string_ret _ _ l s hs) ?_
 rintro r w' ⟨rfl,e⟩
 simp (disch:=try exact DI) only [↓PR,QR,Int.reduceBEq,Int.reduceBNe,Int.reduceLT,Int.reduceLE,Int.reduceGT,Int.reduceGE,Int.reduceNeg,Sw.joinK_eq]
 exact ⟨by rw [idx_neg],e⟩
def dedupA:List ByteArray→List ByteArray→List ByteArray
 | _,[]=>[]
 | seen,s::l=>if seen.any (fun y=>decide (s=y)) then dedupA (seen++[s]) l else s::dedupA (seen++[s]) l
def strX (l:List ByteArray) (k:Nat):Value:=match l[k]? with
 | some s => .string s
 | none=>undef
theorem Refers_seq (pb:Nat) (sv:Value) (l:List ByteArray):SeqIt Pg 71 #[.pointer (some ⟨pb,0,none⟩)] (dedupA [] l).length (strX (dedupA [] l)) (fun w=>StrsAt w pb sv l):=by
 intro yv J Jx Jp w hFP hJe hJx hstep h0
 obtain ⟨hc,hT,_⟩:=hFP 0 w h0
 obtain ⟨A,c,rfl,hlc,hcm,hlm,hel⟩:=SliceOf.open hT
 refine n45s (t0:=yv) (t1 := .pointer (some ⟨pb,0,none⟩)) ?_
 unfold n45
 simp (disch:=try exact DI) only [↓PR,QR,Int.reduceBEq,Int.reduceBNe,Int.reduceLT,Int.reduceLE,Int.reduceGT,Int.reduceGE,Int.reduceNeg,hc]
 refine loop1_intro (fun i w=>∃ k j:Nat,i = .int .i64 k∧k≤l.length∧J j w∧j≤(dedupA [] l).length∧(dedupA [] l).drop j=dedupA (l.take k) (l.drop k)) (fun i _=>l.length - (intOf i).toNat) ⟨0,0,rfl,by omega,h0,by omega,rfl⟩ ?_
 rintro i w' ⟨k,j,rfl,hk,hJ,hj,hD⟩
 rcases drop_cases hk with ⟨x,hx,hd,hlt,hdec⟩ | ⟨hk,hd,hdec⟩
 · obtain ⟨hc',hT',_⟩:=hFP j w' hJ
   obtain ⟨A',c',hv,_,hcm',_,hel'⟩:=SliceOf.open hT'
   injection hv with hv _ hv'
   subst hv hv'
   obtain ⟨b,o,cs,rfl,hl,hA,rfl⟩:=hel' k x hx
   have er:=Ext.refl w'
   rw [hd] at hD
   simp only [dedupA] at hD
   simp (disch:=try exact DI) only [↓PR,QR,Int.reduceBEq,Int.reduceBNe,Int.reduceLT,Int.reduceLE,Int.reduceGT,Int.reduceGE,Int.reduceNeg,↓n45c1,↓n45c2,hdec,hA.c1,hc']
   rw [op_sliceTo Tryz.underlying69 ty9 b o l.length c .i64 k (by omega)]
   have hlen:(l.take k).length=k:=by rw [List.length_take];omega
   have hpre:SliceOf w' 1 EStr (.slice (some ⟨b,o,none⟩) k c) (l.take k):=by
    refine ⟨_,c,by rw [hlen],by rw [hlen];omega,hcm,fun _=>⟨b,o,rfl,fun i y hy=>?_⟩⟩
    rw [List.getElem?_take] at hy
    split at hy
    · obtain ⟨b',o',cs,hA',h1,h2,h3⟩:=hel' i y hy
      injection hA' with hA'
      injection hA' with h5 h6
      subst h5 h6
      exact ⟨cs,h1,h2,h3⟩
    · cases hy
   refine zcr (Contains_string_ret w' _ _ x hpre) fun w2 e2=>?_
   have hJ2:=hJe j w' w2 hJ e2
   have htk:l.take (k+1)=l.take k++[x]:=take_snoc hx
   cases hany:(l.take k).any (fun y=>decide (x=y)) with
   | true =>
    rw [hany,if_pos rfl,← htk] at hD
    simp (disch:=try exact DI) only [↓PR,QR,Int.reduceBEq,Int.reduceBNe,Int.reduceLT,Int.reduceLE,Int.reduceGT,Int.reduceGE,Int.reduceNeg,↓n45c1,↓n45c2]
    exact ⟨⟨k+1,j,rfl,by omega,hJ2,hj,hD⟩,meas_lt hlt⟩
   | false =>
    rw [hany,if_neg (by simp),← htk] at hD
    have hjl:j < (dedupA [] l).length:=by
     have:=congrArg List.length hD
     simp at this
     omega
    have hxj:(dedupA [] l)[j]?=some x:=by
     have:=congrArg (fun l=>l[0]?) hD
     simpa using this
    have hD2:(dedupA [] l).drop (j+1)=dedupA (l.take (k+1)) (l.drop (k+1)):=by
     rw [← List.tail_drop,hD];rfl
    have hs:=hstep j hjl w2 hJ2
    rw [show strX (dedupA [] l) j = .string x by unfold strX;rw [hxj]] at hs
    simp (disch:=try exact DI) only [↓PR,QR,Int.reduceBEq,Int.reduceBNe,Int.reduceLT,Int.reduceLE,Int.reduceGT,Int.reduceGE,Int.reduceNeg,↓n45c1,↓n45c2]
    refine callV_mono hs (fun ch w h=>h) ?_
    rintro v w3 (⟨rfl,h2⟩ | ⟨rfl,h2⟩)
    · simp (disch:=try exact DI) only [↓PR,QR,Int.reduceBEq,Int.reduceBNe,Int.reduceLT,Int.reduceLE,Int.reduceGT,Int.reduceGE,Int.reduceNeg,↓n45c1,↓n45c2]
      exact ⟨⟨k+1,j+1,rfl,by omega,h2,hjl,hD2⟩,meas_lt hlt⟩
    · simp (disch:=try exact DI) only [↓PR,QR,Int.reduceBEq,Int.reduceBNe,Int.reduceLT,Int.reduceLE,Int.reduceGT,Int.reduceGE,Int.reduceNeg,↓n45c1,↓n45c2]
      exact .inr h2
 · subst hk
   simp (disch:=try exact DI) only [↓PR,QR,Int.reduceBEq,Int.reduceBNe,Int.reduceLT,Int.reduceLE,Int.reduceGT,Int.reduceGE,Int.reduceNeg,↓n45c1,↓n45c2,hdec]
   rw [hd] at hD
   have hjl:j=(dedupA [] l).length:=by
    have:=congrArg List.length hD
    simp [dedupA] at this
    omega
   rw [← hjl]
   exact .inl hJ
end Go.Proofs.YtiajhbbmgglmlaaGreat
namespace Go.Proofs.YtiajhbbmgglmlaaGreat
open Sw
open Go.RowKit (intOf Below)
def lastP {β:Type} (l:List (ByteArray×β)) (s:ByteArray):Option β:=(l.reverse.find? (fun p=>decide (p.1=s))).map (·.2)
theorem lastP_snoc {β:Type} (ps:List (ByteArray×β)) (p:ByteArray×β) (s:ByteArray):lastP (ps++[p]) s=if p.1=s then some p.2 else lastP ps s:=by
 unfold lastP
 rw [List.reverse_append,List.reverse_singleton,List.singleton_append,List.find?_cons]
 by_cases h:p.1=s<;>simp [h]
theorem lastP_mem {β:Type} {ps:List (ByteArray×β)} {s:ByteArray} {v:β} (h:lastP ps s=some v):(s,v)∈ps:=by
 unfold lastP at h
 obtain ⟨q,hq,rfl⟩:=Option.map_eq_some_iff.1 h
 have h1:=List.find?_some hq
 have h2:=List.mem_of_find?_eq_some hq
 simp only [decide_eq_true_eq] at h1
 subst h1
 exact List.mem_reverse.1 h2
def vI (l:List (ByteArray×Int)):List (ByteArray×Value):=l.map fun p=>(p.1,.int .i64 p.2)
def vB (l:List (ByteArray×Bool)):List (ByteArray×Value):=l.map fun p=>(p.1,.bool p.2)
theorem lastOf_map {β:Type} (g:β→Value) (l:List (ByteArray×β)) (s:ByteArray):lastOf (l.map fun p=>(p.1,g p.2)) s=(lastP l s).map g:=by
 unfold lastOf lastP
 rw [← List.map_reverse,List.find?_map]
 simp only [Option.map_map]
 rfl
theorem lastOf_vI (l:List (ByteArray×Int)) (s:ByteArray):lastOf (vI l) s=(lastP l s).map fun n => .int .i64 n:=lastOf_map _ l s
theorem lastOf_vB (l:List (ByteArray×Bool)) (s:ByteArray):lastOf (vB l) s=(lastP l s).map Value.bool:=lastOf_map _ l s
theorem strB_vB (l:List (ByteArray×Bool)) (s:ByteArray):strB (vB l) s=(lastP l s).getD false:=by
 unfold strB;rw [lastOf_vB];cases lastP l s<;>rfl
structure CkO (a0 w:World) (cb md ms:Nat) (deps:List (ByteArray×Int)) (strs:List (ByteArray×Bool)) (at_ fld:Int) (fs:List FieldD):Prop where
 ext:Ext a0 w
 obj:∃ dn mv ds mn fv,w.heap[cb]?=some (.cells #[.string dn,mv,.string ds,.map (some md),.map (some ms),.int .i64 at_,.int .i64 fld,.string mn,fv] 65 (0,0))∧FieldsOf a0 fv fs
 mdeps:MapOf w md (vI deps)
 mstrs:MapOf w ms (vB strs)
 lcb:a0.heap.size≤cb
 lmd:a0.heap.size≤md
 lms:a0.heap.size≤ms
 ne:md≠ms
section
variable {a0 w w':World} {cb md ms:Nat} {deps:List (ByteArray×Int)} {strs:List (ByteArray×Bool)} {at_ fld:Int} {fs:List FieldD}
theorem CkO.chk (h:CkO a0 w cb md ms deps strs at_ fld fs):Chk w cb md ms (vI deps) (vB strs) at_ fld fs:=by
 obtain ⟨dn,mv,ds,mn,fv,h1,h2⟩:=h.obj
 refine ⟨⟨dn,mv,ds,mn,fv,h1,h2.ext h.ext⟩,h.mdeps,h.mstrs,fun k v hv=>?_,fun k v hv=>?_⟩
 · rw [lastOf_vI] at hv;obtain ⟨n,_,rfl⟩:=Option.map_eq_some_iff.1 hv;exact ⟨n,rfl⟩
 · rw [lastOf_vB] at hv;obtain ⟨n,_,rfl⟩:=Option.map_eq_some_iff.1 hv;exact ⟨n,rfl⟩
theorem CkO.nd (h:CkO a0 w cb md ms deps strs at_ fld fs):cb≠md∧cb≠ms∧cb < w.heap.size∧md < w.heap.size∧ms < w.heap.size:=by
 obtain ⟨dn,mv,ds,mn,fv,h1,h2⟩:=h.obj
 refine ⟨?_,?_,(Array.getElem?_eq_some_iff.1 h1).1,h.mdeps.lt,h.mstrs.lt⟩
 · rintro rfl;have:=h.mdeps.obj;rw [h1] at this;cases this
 · rintro rfl;have:=h.mstrs.obj;rw [h1] at this;cases this
theorem CkO.go (h:CkO a0 w cb md ms deps strs at_ fld fs) (e:Ext w w'):CkO a0 w' cb md ms deps strs at_ fld fs:=by
 obtain ⟨dn,mv,ds,mn,fv,h1,h2⟩:=h.obj
 exact ⟨h.ext.trans e,⟨dn,mv,ds,mn,fv,e.obj h1,h2⟩,h.mdeps.ext e,h.mstrs.ext e,h.lcb,h.lmd,h.lms,h.ne⟩
theorem CkO.other (h:CkO a0 w cb md ms deps strs at_ fld fs) {b o:Nat} (hb:a0.heap.size≤b) (hn:b≠cb) (v:Value):CkO a0 (w.setCell ⟨b,o,none⟩ v) cb md ms deps strs at_ fld fs:=by
 obtain ⟨dn,mv,ds,mn,fv,h1,h2⟩:=h.obj
 refine ⟨h.ext.setCell hb v,⟨dn,mv,ds,mn,fv,?_,h2⟩,h.mdeps.setCell _ _,h.mstrs.setCell _ _,h.lcb,h.lmd,h.lms,h.ne⟩
 rw [Only.setCell w b o v cb (fun e=>hn e.symm)];exact h1
theorem CkO.setFld (h:CkO a0 w cb md ms deps strs at_ fld fs) (n:Int):CkO a0 (w.setCell ⟨cb,6,none⟩ (.int .i64 n)) cb md ms deps strs at_ n fs:=by
 obtain ⟨dn,mv,ds,mn,fv,h1,h2⟩:=h.obj
 exact ⟨h.ext.setCell h.lcb _,⟨dn,mv,ds,mn,fv,heap_set h1 _,h2⟩,h.mdeps.setCell _ _,h.mstrs.setCell _ _,h.lcb,h.lmd,h.lms,h.ne⟩
theorem CkO.setAt (h:CkO a0 w cb md ms deps strs at_ fld fs) (n:Int):CkO a0 (w.setCell ⟨cb,5,none⟩ (.int .i64 n)) cb md ms deps strs n fld fs:=by
 obtain ⟨dn,mv,ds,mn,fv,h1,h2⟩:=h.obj
 exact ⟨h.ext.setCell h.lcb _,⟨dn,mv,ds,mn,fv,heap_set h1 _,h2⟩,h.mdeps.setCell _ _,h.mstrs.setCell _ _,h.lcb,h.lmd,h.lms,h.ne⟩
theorem CkO.setMsg (h:CkO a0 w cb md ms deps strs at_ fld fs) (s:ByteArray) (fv':Value) (fs':List FieldD) (hf:FieldsOf a0 fv' fs'):CkO a0 ((w.setCell ⟨cb,7,none⟩ (.string s)).setCell ⟨cb,8,none⟩ fv') cb md ms deps strs at_ fld fs':=by
 obtain ⟨dn,mv,ds,mn,fv,h1,h2⟩:=h.obj
 exact ⟨(h.ext.setCell h.lcb _).setCell h.lcb _,⟨dn,mv,ds,s,fv',heap_set (heap_set h1 _) _,hf⟩,(h.mdeps.setCell _ _).setCell _ _,(h.mstrs.setCell _ _).setCell _ _,h.lcb,h.lmd,h.lms,h.ne⟩
theorem CkO.putOther (h:CkO a0 w cb md ms deps strs at_ fld fs) {B:Nat} (o:Obj) (hB:a0.heap.size≤B) (h1:B≠cb) (h2:B≠md) (h3:B≠ms):CkO a0 (w.putObj B o) cb md ms deps strs at_ fld fs:=by
 obtain ⟨dn,mv,ds,mn,fv,h4,h5⟩:=h.obj
 exact ⟨h.ext.putObj hB o,⟨dn,mv,ds,mn,fv,(World.putObj_heap_other (fun e=>h1 e.symm)).trans h4,h5⟩,MapB.putOther h.mdeps (fun e=>h2 e.symm) o,MapB.putOther h.mstrs (fun e=>h3 e.symm) o,h.lcb,h.lmd,h.lms,h.ne⟩
theorem CkO.unmark (h:CkO a0 w cb md ms deps strs at_ fld fs) {B:Nat} (hm:MarkAt B w) (hB:a0.heap.size≤B):CkO a0 (w.putObj B (.deferred none)) cb md ms deps strs at_ fld fs:=by
 obtain ⟨dn,mv,ds,mn,fv,h4,h5⟩:=h.obj
 refine h.putOther _ hB ?_ ?_ ?_
 · rintro rfl;unfold MarkAt at hm;rw [h4] at hm;cases hm
 · rintro rfl;unfold MarkAt at hm;have:=h.mdeps.obj;rw [hm] at this;cases this
 · rintro rfl;unfold MarkAt at hm;have:=h.mstrs.obj;rw [hm] at this;cases this
theorem CkO.lasts {B:Nat} (hB:a0.heap.size≤B):Lasts B (fun w=>CkO a0 w cb md ms deps strs at_ fld fs):=by
 refine ⟨fun w w' h e=>h.go e,fun w l r r' hl h hr=>?_⟩
 obtain ⟨dn,mv,ds,mn,fv,h4,h5⟩:=h.obj
 refine h.putOther _ (by omega) ?_ ?_ ?_
 · rintro rfl;rw [h4] at hr;cases hr
 · rintro rfl;have:=h.mdeps.obj;rw [hr] at this;cases this
 · rintro rfl;have:=h.mstrs.obj;rw [hr] at this;cases this
theorem CkO.turn (h:CkO a0 w cb md ms deps strs at_ fld fs) {o:Obj} {r:Nat} (hr:r=md∨r=ms):CkO a0 w cb md ms deps strs at_ fld fs:=h
theorem StrsAt.lasts (B pb:Nat) (sv:Value) (l:List ByteArray):Lasts B (fun w=>StrsAt w pb sv l) :=
 Lasts.and (Lasts.cell B) (Lasts.and ⟨fun _ _ h e=>h.ext keptStr e,fun _ _ _ _ _ h hl=>SliceOf.putLoop (fun _ _ h=>h) hl h⟩ (Lasts.const _ _))
theorem StrsAt.set {w:World} {pb:Nat} {sv:Value} {l:List ByteArray} (h:StrsAt w pb sv l) {b o:Nat} (hb:b < pb) (u:Value):StrsAt (w.setCell ⟨b,o,none⟩ u) pb sv l :=
 ⟨by rw [cell_set_other (by omega)];exact h.1,SliceOf.setOther h.2.1 u (fun A m c e=>by have:=h.2.2 A m c e;omega) (fun _ _ h=>h),h.2.2⟩
end
def refsM (m:MsgD):List ByteArray:=dedupA [] (allRefs m.fields)
def fieldsP (deps:List (ByteArray×Int)) (strs:List (ByteArray×Bool)) (bef:List FieldD):List FieldD→Int×Int
 | []=>(-1,0)
 | f::l=>if examineC bef (vI deps) (vB strs) f=0 then fieldsP deps strs (bef++[f]) l else (bef.length,examineC bef (vI deps) (vB strs) f)
def maxI (a b:Int):Int:=if b > a then b else a
def depthM (deps:List (ByteArray×Int)) (m:MsgD):Int:=(refsM m).foldl (fun d s=>maxI d ((lastP deps s).getD 0)) 0
def strictM (strs:List (ByteArray×Bool)) (m:MsgD):Bool:=(m.fields.all fun f=>!f.loose)&&(refsM m).all fun s=>(lastP strs s).getD false
def tailP (deps:List (ByteArray×Int)) (m:MsgD) (r:Int×Int):Int×Int:=if r.2=0 then (if depthM deps m < 16 then (-1,0) else (-1,10)) else r
def nextP (deps:List (ByteArray×Int)) (strs:List (ByteArray×Bool)) (m:MsgD):Int×Int :=
 if nameB m.name then (if (lastP deps m.name).isSome then (-1,2) else (if 1≤m.fields.length∧m.fields.length≤40 then tailP deps m (fieldsP deps strs [] m.fields) else (-1,3))) else (-1,1)
def nxtR (a0:World) (at_:Int) (r:Int×Int) (K:World→Prop):Ending→World→Prop:=fun e w'=>Ext a0 w'∧(r.2=0∧e = .returned (.tuple #[])∧K w'∨r.2≠0∧e = .panicked [flawEntry at_ r.1 r.2])
theorem nxtR_ret {a0 w':World} {at_:Int} {r:Int×Int} {K:World→Prop} (e:Ext a0 w') (h:r.2=0) (hK:K w'):nxtR a0 at_ r K (.returned (.tuple #[])) w':=⟨e,.inl ⟨h,rfl,hK⟩⟩
theorem nxtR_pan {a0 w':World} {at_ a b:Int} {r:Int×Int} {K:World→Prop} (e:Ext a0 w') (h:r=(a,b)) (h0:b≠0):nxtR a0 at_ r K (.panicked [flawEntry at_ a b]) w':=by subst h;exact ⟨e,.inr ⟨h0,rfl⟩⟩
theorem qV_loadG {P:Program} {C:World→Prop} [ClassNe C] {T:TypeId} {a:Addr} {v:Value} {k:Value→Prop} (h:∀ w',C w'→Loads P w' T a v):qV P C (Instr.loadAt T (.pointer (some a))) k=k v :=
 qV_eqC fun w' e=>run_of_op fun QP k=>op_load (h w' e)
section
variable {a0 w:World} {cb md ms:Nat} {deps:List (ByteArray×Int)} {strs:List (ByteArray×Bool)} {at_ fld:Int} {fs:List FieldD}
theorem nxt_end (h:CkO a0 w cb md ms deps strs at_ (-1) fs) (p2 p3 p6 p9 B:Nat) (m:MsgD) (fv:Value) (st:Bool) (dp:Int) (hd0:0≤dp) (hd1:dp≤1000)
 (o2:w.heap[p2]?=some (.cells #[.pointer (some ⟨cb,0,none⟩)] 61 (0,0))) (o3:w.heap[p3]?=some (.cells (msgCells m fv).toArray 45 (0,0))) (o6:w.heap[p6]?=some (.cells #[.bool st] 4 (0,0))) (o9:w.heap[p9]?=some (.cells #[.int .i64 dp] 3 (0,0)))
 (hmk:MarkAt B w) (hB:a0.heap.size≤B) (r:Int×Int) (hr:r=if dp < 16 then (-1,0) else (-1,10)) (K:World→Prop)
 (hK:∀ w',CkO a0 w' cb md ms (deps++[(m.name,dp+1)]) (strs++[(m.name,st)]) at_ (-1) fs→K w') :
 drawK w fun C12 w=>n55c8 (.pointer (some ⟨p2,0,none⟩)) (.pointer (some ⟨p3,0,none⟩)) (.pointer (some ⟨p6,0,none⟩)) (.pointer (some ⟨p9,0,none⟩)) C12 [Sw.mark B] (nxtR a0 at_ r K) w:=by
 obtain ⟨n1,n2,l1,l2,l3⟩:=h.nd
 have hne:=h.ne
 obtain ⟨dn,mv,ds,mn,fv',h1,h2⟩:=h.obj
 have m2:p2≠md:=by rintro rfl;have:=h.mdeps.obj;rw [o2] at this;cases this
 have m3:p3≠md:=by rintro rfl;have:=h.mdeps.obj;rw [o3] at this;cases this
 have m6:p6≠md:=by rintro rfl;have:=h.mdeps.obj;rw [o6] at this;cases this
 have m9:p9≠md:=by rintro rfl;have:=h.mdeps.obj;rw [o9] at this;cases this
 have q2:p2≠ms:=by rintro rfl;have:=h.mstrs.obj;rw [o2] at this;cases this
 have q3:p3≠ms:=by rintro rfl;have:=h.mstrs.obj;rw [o3] at this;cases this
 have q6:p6≠ms:=by rintro rfl;have:=h.mstrs.obj;rw [o6] at this;cases this
 have q9:p9≠ms:=by rintro rfl;have:=h.mstrs.obj;rw [o9] at this;cases this
 refine drawK_introB (w1:=w) md ms (fun _ _ _ _=>rfl) ?_
 unfold n55c8
 simp (disch:=try exact DI) only [↓PR,QR,Int.reduceBEq,Int.reduceBNe,Int.reduceLT,Int.reduceLE,Int.reduceGT,Int.reduceGE,Int.reduceNeg,(cells_of_heap h1).1,(cells_of_heap o2).1,(cells_of_heap o3).1,(cells_of_heap o6).1,(cells_of_heap o9).1]
 have eD:Ext w w.drew:=(Ext.refl w).drew
 have hmd:MapOf w.drew md (vI deps):=h.mdeps.ext eD
 rw [op_mapEntryS Tryz.underlying62 Tryz.underlying9 ty3 hmd m.name]
 refine ⟨fun b hb b1 b2=>(World.putObj_heap_other b1),?_⟩
 unfold n55c7
 simp (disch:=try exact DI) only [↓PR,QR,Int.reduceBEq,Int.reduceBNe,Int.reduceLT,Int.reduceLE,Int.reduceGT,Int.reduceGE,Int.reduceNeg]
 rw [op_entryStore (MapB.ent hmd m.name _) (hasK_ent _ _),ent_put,putObj_putObj]
 have hw1:w.drew.putObj md (mapObj (fun s:ByteArray=>Value.string s) (putL (bld (vI deps)).1 (bld (vI deps)).2 m.name (.int .i64 (IntKind.i64.wrap (dp+1)))) (putC (bld (vI deps)).1 (bld (vI deps)).2 m.name))=putW w.drew md (vI deps) m.name (.int .i64 (IntKind.i64.wrap (dp+1))):=by
  unfold putW;rw [bld_snoc]
 rw [hw1]
 have hms:MapOf (putW w.drew md (vI deps) m.name (.int .i64 (IntKind.i64.wrap (dp+1)))) ms (vB strs):=MapB.putOther (h.mstrs.ext eD) (fun e=>hne e.symm) _
 refine ⟨fun b hb b1 b2=>(World.putObj_heap_other b1),?_⟩
 rw [op_mapEntryS Tryz.underlying63 Tryz.underlying9 ty4 hms m.name]
 refine ⟨fun b hb b1 b2=>(World.putObj_heap_other b2).trans (World.putObj_heap_other b1),?_⟩
 unfold n55c6
 simp (disch:=try exact DI) only [↓PR,QR,Int.reduceBEq,Int.reduceBNe,Int.reduceLT,Int.reduceLE,Int.reduceGT,Int.reduceGE,Int.reduceNeg]
 rw [op_entryStore (MapB.ent hms m.name _) (hasK_ent _ _),ent_put,putObj_putObj]
 have hw2:(putW w.drew md (vI deps) m.name (.int .i64 (IntKind.i64.wrap (dp+1)))).putObj ms (mapObj (fun s:ByteArray=>Value.string s) (putL (bld (vB strs)).1 (bld (vB strs)).2 m.name (.bool st)) (putC (bld (vB strs)).1 (bld (vB strs)).2 m.name))=putW (putW w.drew md (vI deps) m.name (.int .i64 (IntKind.i64.wrap (dp+1)))) ms (vB strs) m.name (.bool st):=by
  unfold putW;rw [bld_snoc,bld_snoc]
 rw [hw2]
 have hwr:IntKind.i64.wrap (dp+1)=dp+1:=wrap_ok (by omega) (by omega)
 rw [hwr]
 have hC2:CkO a0 (putW (putW w.drew md (vI deps) m.name (.int .i64 (dp+1))) ms (vB strs) m.name (.bool st)) cb md ms (deps++[(m.name,dp+1)]) (strs++[(m.name,st)]) at_ (-1) fs:=by
  refine ⟨(h.ext.drew.putObj h.lmd _).putObj h.lms _,⟨dn,mv,ds,mn,fv',((World.putObj_heap_other n2).trans (World.putObj_heap_other n1)).trans h1,h2⟩,?_,?_,h.lcb,h.lmd,h.lms,hne⟩
  · have:=MapB.putOther (hmd.put m.name (.int .i64 (dp+1))) hne (mapObjS (bld (vB strs++[(m.name,.bool st)])).1 (bld (vB strs++[(m.name,.bool st)])).2)
    unfold vI at this ⊢
    rw [List.map_append]
    exact this
  · rw [hwr] at hms
    have:=hms.put m.name (.bool st)
    unfold vB at this ⊢
    rw [List.map_append]
    exact this
 have hk2:MarkAt B (putW (putW w.drew md (vI deps) m.name (.int .i64 (dp+1))) ms (vB strs) m.name (.bool st)):=by
  have b1:B≠md:=by rintro rfl;have:=h.mdeps.obj;unfold MarkAt at hmk;rw [hmk] at this;cases this
  have b2:B≠ms:=by rintro rfl;have:=h.mstrs.obj;unfold MarkAt at hmk;rw [hmk] at this;cases this
  exact ((World.putObj_heap_other b2).trans (World.putObj_heap_other b1)).trans hmk
 have o2':(putW (putW w.drew md (vI deps) m.name (.int .i64 (dp+1))) ms (vB strs) m.name (.bool st)).heap[p2]?=some (.cells #[.pointer (some ⟨cb,0,none⟩)] 61 (0,0)):=((World.putObj_heap_other q2).trans (World.putObj_heap_other m2)).trans o2
 have o9':(putW (putW w.drew md (vI deps) m.name (.int .i64 (dp+1))) ms (vB strs) m.name (.bool st)).heap[p9]?=some (.cells #[.int .i64 dp] 3 (0,0)):=((World.putObj_heap_other q9).trans (World.putObj_heap_other m9)).trans o9
 generalize putW (putW w.drew md (vI deps) m.name (.int .i64 (dp+1))) ms (vB strs) m.name (.bool st)=W at hC2 hk2 o2' o9' ⊢
 refine turnK_intro ?_
 unfold n55c5
 simp (disch:=try exact DI) only [↓PR,QR,Int.reduceBEq,Int.reduceBNe,Int.reduceLT,Int.reduceLE,Int.reduceGT,Int.reduceGE,Int.reduceNeg,(cells_of_heap o2').1,(cells_of_heap o9').1]
 refine callK_flw (need_flw hC2.chk _ 10 (by decide)) (fun w' e h0=>?_) (fun w' e h0=>?_)
 · refine outX_mark (hk2.ext e) ?_
   rw [outX_nil]
   have hC3:=(hC2.go e).unmark (hk2.ext e) hB
   refine nxtR_ret hC3.ext ?_ (hK _ hC3)
   rw [hr]
   by_cases hdp:dp < 16
   · rw [if_pos hdp]
   · rw [decide_eq_false hdp] at h0;exact absurd h0 (by decide)
 · refine outQ_mark (hk2.ext e) ?_
   rw [outQ_nil]
   have hC3:=(hC2.go e).unmark (hk2.ext e) hB
   by_cases hdp:dp < 16
   · rw [decide_eq_true hdp] at h0;exact absurd rfl h0
   · rw [decide_eq_false hdp]
     rw [if_neg hdp] at hr
     exact nxtR_pan hC3.ext hr (by decide)
theorem maxI_le {a b c:Int} (h1:a≤c) (h2:b≤c):maxI a b≤c:=by unfold maxI;split<;>assumption
theorem le_maxI (a b:Int):a≤maxI a b:=by unfold maxI;split<;>omega
theorem foldl_maxI (g:ByteArray→Int):∀ (l:List ByteArray) (d:Int),0≤d→(∀ s∈l,0≤g s∧g s≤16)→d≤16→0≤l.foldl (fun d s=>maxI d (g s)) d∧l.foldl (fun d s=>maxI d (g s)) d≤16
 | [],d,h0,_,h1=>⟨h0,h1⟩
 | s::l,d,h0,h,h1=>foldl_maxI g l _ (Int.le_trans h0 (le_maxI _ _)) (fun u hu=>h u (List.mem_cons_of_mem _ hu)) (maxI_le h1 (h s (List.mem_cons_self ..)).2)
def Low (deps:List (ByteArray×Int)):Prop:=∀ p∈deps,0≤p.2∧p.2≤16
theorem Low.get {deps:List (ByteArray×Int)} (h:Low deps) (s:ByteArray):0≤(lastP deps s).getD 0∧(lastP deps s).getD 0≤16:=by
 cases hl:lastP deps s with
 | none=>exact ⟨by decide,by decide⟩
 | some n=>exact h _ (lastP_mem hl)
theorem nxt_range (hlow:Low deps) (h:CkO a0 w cb md ms deps strs at_ fld fs) (p2 p3 p6:Nat) (m:MsgD) (fv:Value) (st:Bool) (hst:st=m.fields.all fun f=>!f.loose) (hF:FieldsOf a0 fv m.fields) (hb:(allRefs m.fields).length≤1048576) (hp2:a0.heap.size≤p2) (hp3:a0.heap.size≤p3) (hp6:a0.heap.size≤p6) (h26:p2 < p6) (h36:p3 < p6)
 (o2:w.heap[p2]?=some (.cells #[.pointer (some ⟨cb,0,none⟩)] 61 (0,0))) (o3:w.heap[p3]?=some (.cells (msgCells m fv).toArray 45 (0,0))) (o6:w.heap[p6]?=some (.cells #[.bool st] 4 (0,0)))
 (r:Int×Int) (hr:r=if depthM deps m < 16 then (-1,0) else (-1,10)) (K:World→Prop)
 (hK:∀ w',CkO a0 w' cb md ms (deps++[(m.name,depthM deps m+1)]) (strs++[(m.name,strictM strs m)]) at_ (-1) fs→K w') :
 n55c10 (.pointer (some ⟨p2,0,none⟩)) (.pointer (some ⟨p3,0,none⟩)) (.pointer (some ⟨p6,0,none⟩)) [] (nxtR a0 at_ r K) w:=by
 obtain ⟨n1,n2,l1,l2,l3⟩:=h.nd
 obtain ⟨dn,mv,ds,mn,fv',h1,h2⟩:=h.obj
 have c2:p2≠cb:=by rintro rfl;rw [o2] at h1;cases h1
 have c3:p3≠cb:=by rintro rfl;rw [o3] at h1;cases h1
 have c6:p6≠cb:=by rintro rfl;rw [o6] at h1;cases h1
 have lp6:p6 < w.heap.size:=(Array.getElem?_eq_some_iff.1 o6).1
 have lp3:p3 < w.heap.size:=(Array.getElem?_eq_some_iff.1 o3).1
 unfold n55c10
 simp (disch:=try exact DI) only [↓PR,QR,Int.reduceBEq,Int.reduceBNe,Int.reduceLT,Int.reduceLE,Int.reduceGT,Int.reduceGE,Int.reduceNeg,(cells_of_heap h1).1,(cells_of_heap h1).2,(cells_of_heap o2).1,(cells_of_heap o3).1]
 have hC1:=h.setFld (-1)
 have o2':(w.setCell ⟨cb,6,none⟩ (.int .i64 (-1))).heap[p2]?=some (.cells #[.pointer (some ⟨cb,0,none⟩)] 61 (0,0)):=by rw [Only.setCell w cb 6 _ p2 c2];exact o2
 have o3':(w.setCell ⟨cb,6,none⟩ (.int .i64 (-1))).heap[p3]?=some (.cells (msgCells m fv).toArray 45 (0,0)):=by rw [Only.setCell w cb 6 _ p3 c3];exact o3
 have o6':(w.setCell ⟨cb,6,none⟩ (.int .i64 (-1))).heap[p6]?=some (.cells #[.bool st] 4 (0,0)):=by rw [Only.setCell w cb 6 _ p6 c6];exact o6
 simp only [World.size_setCell]
 have eW:=hC1.go ((Ext.refl (w.setCell ⟨cb,6,none⟩ (.int .i64 (-1)))).alloc (Obj.cells #[.int .i64 0] 3))
 have x2:=((Ext.refl (w.setCell ⟨cb,6,none⟩ (.int .i64 (-1)))).alloc (Obj.cells #[.int .i64 0] 3)).obj o2'
 have x3:=((Ext.refl (w.setCell ⟨cb,6,none⟩ (.int .i64 (-1)))).alloc (Obj.cells #[.int .i64 0] 3)).obj o3'
 have x6:=((Ext.refl (w.setCell ⟨cb,6,none⟩ (.int .i64 (-1)))).alloc (Obj.cells #[.int .i64 0] 3)).obj o6'
 have x9:=heap_new (w.setCell ⟨cb,6,none⟩ (.int .i64 (-1))) #[.int .i64 0] 3
 rw [World.size_setCell] at x9
 generalize hW:World.alloc (w.setCell ⟨cb,6,none⟩ (.int .i64 (-1))) _=W at eW x2 x3 x6 x9
 have hsz:W.heap.size=w.heap.size+1:=by rw [← hW];simp only [World.size_alloc,World.size_setCell]
 clear hW hC1 o2 o3 o6 o2' o3' o6' h
 have lW:a0.heap.size≤W.heap.size:=eW.ext.size
 refine callK_ret (Refers_ret W _ m ⟨fv,rfl,hF.ext eW.ext⟩ hb) ?_
 rintro _ w7 ⟨pb,sv,rfl,hS,hpb,e7⟩
 have s7:=e7.size
 unfold n55c9
 let rs:=refsM m
 let I:Nat→World→Prop:=fun k w'=>CkO a0 w' cb md ms deps strs at_ (-1) fs∧StrsAt w' pb sv (allRefs m.fields)∧w'.heap[p2]?=some (.cells #[.pointer (some ⟨cb,0,none⟩)] 61 (0,0))∧w'.heap[p3]?=some (.cells (msgCells m fv).toArray 45 (0,0)) ∧
  w'.heap[p6]?=some (.cells #[.bool (st&&(rs.take k).all fun s=>(lastP strs s).getD false)] 4 (0,0))∧w'.heap[w.heap.size]?=some (.cells #[.int .i64 ((rs.take k).foldl (fun d s=>maxI d ((lastP deps s).getD 0)) 0)] 3 (0,0))
 have hLI:∀ k,Lasts w7.heap.size (I k):=fun k=>Lasts.and (CkO.lasts (by omega)) (Lasts.and (StrsAt.lasts _ _ _ _) (Lasts.and (Lasts.has _ (by simp)) (Lasts.and (Lasts.has _ (by simp)) (Lasts.and (Lasts.has _ (by simp)) (Lasts.has _ (by simp))))))
 refine ⟨_,_,rs.length,strX rs,fun w=>StrsAt w pb sv (allRefs m.fields),I,fun _ _=>False,fun _ _=>False,rfl,c71,Refers_seq pb sv _,⟨eW.go e7,hS,e7.obj x2,e7.obj x3,?_,e7.obj x9⟩,fun k w h=>h.2.1,hLI,fun _=>Lasts.const _ _,?_,?_,?_,?_⟩
 · have:=e7.obj x6
   rw [this];simp
 · intro rec j w3 hj hI3 hrec hready
   refine ⟨hready,fun w4 hbz=>?_⟩
   have hrec4:=hrec.busied hbz
   have hI4:=(hLI j).busied hbz (Nat.le_succ _) hI3
   clear hI3 hrec hready hbz
   obtain ⟨hC4,hS4,y2,y3,y6,y9⟩:=hI4
   obtain ⟨s,hx⟩:=getElem?_lt hj
   have hrs:rs[j]?=some s:=hx
   rw [show strX rs j = .string s by unfold strX;rw [hrs]]
   obtain ⟨dn,mv,ds,mn,fv',h1,h2⟩:=hC4.obj
   have l9:w.heap.size < w4.heap.size:=(Array.getElem?_eq_some_iff.1 y9).1
   have hstep:rs.take (j+1)=rs.take j++[s]:=take_snoc hrs
   refine drawK_intro ?_
   unfold n55c4
   simp (disch:=try exact DI) only [↓PR,QR,Int.reduceBEq,Int.reduceBNe,Int.reduceLT,Int.reduceLE,Int.reduceGT,Int.reduceGE,Int.reduceNeg,(cells_of_heap y9).1,(cells_of_heap y2).1,(cells_of_heap h1).1]
   rw [qV_lookup1E Tryz.underlying62 Tryz.underlying9 ty3 (hC4.mdeps.ext ((Ext.refl w4).wdrew)) s]
   have hg:(lastOf (vI deps) s).getD (.int .i64 0) = .int .i64 ((lastP deps s).getD 0):=by rw [lastOf_vI];cases lastP deps s<;>rfl
   rw [hg]
   simp (disch:=try exact DI) only [↓PR,QR,Int.reduceBEq,Int.reduceBNe,Int.reduceLT,Int.reduceLE,Int.reduceGT,Int.reduceGE,Int.reduceNeg,(cells_of_heap y9).1,(cells_of_heap y9).2]
   refine turnK_intro ?_
   have e4:Ext w4 w4.drew:=(Ext.refl w4).wdrew
   have hC5:=(hC4.go e4).other (b:=w.heap.size) (o:=0) (by omega) (by omega) (.int .i64 (if (lastP deps s).getD 0 > (rs.take j).foldl (fun d s=>maxI d ((lastP deps s).getD 0)) 0 then (lastP deps s).getD 0 else (rs.take j).foldl (fun d s=>maxI d ((lastP deps s).getD 0)) 0))
   have hS5:StrsAt (w4.drew.setCell ⟨w.heap.size,0,none⟩ (.int .i64 (if (lastP deps s).getD 0 > (rs.take j).foldl (fun d s=>maxI d ((lastP deps s).getD 0)) 0 then (lastP deps s).getD 0 else (rs.take j).foldl (fun d s=>maxI d ((lastP deps s).getD 0)) 0))) pb sv (allRefs m.fields):=(hS4.ext e4).set (by omega) _
   have hrec5:RecAt rec w7.heap.size (w4.drew.setCell ⟨w.heap.size,0,none⟩ (.int .i64 (if (lastP deps s).getD 0 > (rs.take j).foldl (fun d s=>maxI d ((lastP deps s).getD 0)) 0 then (lastP deps s).getD 0 else (rs.take j).foldl (fun d s=>maxI d ((lastP deps s).getD 0)) 0))):=hrec4.drew.setCell _ _
   have z2:=(Only.setCell w4.drew w.heap.size 0 (.int .i64 (if (lastP deps s).getD 0 > (rs.take j).foldl (fun d s=>maxI d ((lastP deps s).getD 0)) 0 then (lastP deps s).getD 0 else (rs.take j).foldl (fun d s=>maxI d ((lastP deps s).getD 0)) 0)) p2 (by omega)).trans y2
   have z3:=(Only.setCell w4.drew w.heap.size 0 (.int .i64 (if (lastP deps s).getD 0 > (rs.take j).foldl (fun d s=>maxI d ((lastP deps s).getD 0)) 0 then (lastP deps s).getD 0 else (rs.take j).foldl (fun d s=>maxI d ((lastP deps s).getD 0)) 0)) p3 (by omega)).trans y3
   have z6:=(Only.setCell w4.drew w.heap.size 0 (.int .i64 (if (lastP deps s).getD 0 > (rs.take j).foldl (fun d s=>maxI d ((lastP deps s).getD 0)) 0 then (lastP deps s).getD 0 else (rs.take j).foldl (fun d s=>maxI d ((lastP deps s).getD 0)) 0)) p6 (by omega)).trans y6
   have z9:=heap_set (w:=w4.drew) (o:=0) y9 (.int .i64 (if (lastP deps s).getD 0 > (rs.take j).foldl (fun d s=>maxI d ((lastP deps s).getD 0)) 0 then (lastP deps s).getD 0 else (rs.take j).foldl (fun d s=>maxI d ((lastP deps s).getD 0)) 0))
   rw [show (#[Value.int .i64 ((rs.take j).foldl (fun d s=>maxI d ((lastP deps s).getD 0)) 0)]:Array Value).setIfInBounds 0 (.int .i64 (if (lastP deps s).getD 0 > (rs.take j).foldl (fun d s=>maxI d ((lastP deps s).getD 0)) 0 then (lastP deps s).getD 0 else (rs.take j).foldl (fun d s=>maxI d ((lastP deps s).getD 0)) 0)) = #[.int .i64 ((rs.take (j+1)).foldl (fun d s=>maxI d ((lastP deps s).getD 0)) 0)] from by rw [hstep,List.foldl_append];rfl] at z9
   generalize w4.drew.setCell ⟨w.heap.size,0,none⟩ _=w5 at hC5 hS5 hrec5 z2 z3 z6 z9 ⊢
   clear hC4 hS4 hrec4 y2 y3 y6 y9 h1 hg
   obtain ⟨dn,mv,ds,mn,fv',h1,h2⟩:=hC5.obj
   have hall:(st&&(rs.take (j+1)).all fun s=>(lastP strs s).getD false)=((st&&(rs.take j).all fun s=>(lastP strs s).getD false)&&(lastP strs s).getD false):=by
    rw [hstep,List.all_append,Bool.and_assoc];simp
   have fin:∀ b,b=(st&&(rs.take (j+1)).all fun s=>(lastP strs s).getD false)→RecAt rec w7.heap.size (w5.setCell ⟨p6,0,none⟩ (.bool b))∧I (j+1) (w5.setCell ⟨p6,0,none⟩ (.bool b)):=by
    rintro b rfl
    refine ⟨hrec5.setCell _ _,hC5.other hp6 c6 _,hS5.set (by omega) _,(Only.setCell w5 p6 0 _ p2 (by omega)).trans z2,(Only.setCell w5 p6 0 _ p3 (by omega)).trans z3,?_,(Only.setCell w5 p6 0 _ w.heap.size (by omega)).trans z9⟩
    have:=heap_set (o:=0) z6 (.bool (st&&(rs.take (j+1)).all fun s=>(lastP strs s).getD false))
    simpa using this
   rw [hall] at fin
   generalize (st&&(rs.take j).all fun s=>(lastP strs s).getD false)=sj at z6 fin
   unfold n55c3
   have hg:(lastOf (vB strs) s).getD (.bool false) = .bool ((lastP strs s).getD false):=by rw [lastOf_vB];cases lastP strs s<;>rfl
   cases sj with
   | false =>
    simp (disch:=try exact DI) only [↓PR,QR,Int.reduceBEq,Int.reduceBNe,Int.reduceLT,Int.reduceLE,Int.reduceGT,Int.reduceGE,Int.reduceNeg,(cells_of_heap z6).1,(cells_of_heap z6).2,↓n55c1,↓n55c2,↓n55c3,↓n55c4,↓n55c5,↓n55c6,↓n55c7,↓n55c8,↓n55c9,↓n55c10,↓n55c11,↓n55c12,↓n55c13,↓n55c14,↓n55c15,↓n55c16,↓n55c17,↓n55c18]
    exact fin false rfl
   | true =>
    simp (disch:=try exact DI) only [↓PR,QR,Int.reduceBEq,Int.reduceBNe,Int.reduceLT,Int.reduceLE,Int.reduceGT,Int.reduceGE,Int.reduceNeg,(cells_of_heap z6).1,(cells_of_heap z6).2,(cells_of_heap z2).1,(cells_of_heap h1).1]
    rw [op_lookup1O Tryz.underlying63 Tryz.underlying9 ty4 hC5.mstrs s,hg]
    generalize (lastP strs s).getD false=b at fin
    simp (disch:=try exact DI) only [↓PR,QR,Int.reduceBEq,Int.reduceBNe,Int.reduceLT,Int.reduceLE,Int.reduceGT,Int.reduceGE,Int.reduceNeg,(cells_of_heap z6).1,(cells_of_heap z6).2,n55c1]
    exact fin b (by cases b<;>rfl)
 · rintro w3 hI3 hmk
   obtain ⟨hC3,hS3,y2,y3,y6,y9⟩:=hI3
   rw [List.take_length] at y6 y9
   have hfold:=foldl_maxI (fun s=>(lastP deps s).getD 0) rs 0 (by decide) (fun s _=>hlow.get s) (by decide)
   refine nxt_end hC3 p2 p3 p6 w.heap.size w7.heap.size m fv _ _ hfold.1 (by have:=hfold.2;omega) y2 y3 y6 y9 hmk (by omega) r hr K ?_
   rw [hst]
   exact hK
 · rintro c w3 h
   exact h.elim
 · rintro ch w3 h
   exact h.elim
end
section
variable {a0 w:World} {cb md ms:Nat} {deps:List (ByteArray×Int)} {strs:List (ByteArray×Bool)} {at_ fld:Int} {m:MsgD}
theorem nxt_loop (hlow:Low deps) (h:CkO a0 w cb md ms deps strs at_ fld m.fields) (p2 p3:Nat) (fv:Value) (hF:FieldsOf a0 fv m.fields) (hb:(allRefs m.fields).length≤1048576) (ht:∀ f∈m.fields,f.terms.length≤1048576) (hp2:a0.heap.size≤p2) (hp3:a0.heap.size≤p3)
 (o2:w.heap[p2]?=some (.cells #[.pointer (some ⟨cb,0,none⟩)] 61 (0,0))) (o3:w.heap[p3]?=some (.cells (msgCells m fv).toArray 45 (0,0)))
 (r:Int×Int) (hr:r=tailP deps m (fieldsP deps strs [] m.fields)) (K:World→Prop)
 (hK:∀ w',CkO a0 w' cb md ms (deps++[(m.name,depthM deps m+1)]) (strs++[(m.name,strictM strs m)]) at_ (-1) m.fields→K w') :
 n55c13 (.pointer (some ⟨p2,0,none⟩)) (.pointer (some ⟨p3,0,none⟩)) [] (nxtR a0 at_ r K) w:=by
 obtain ⟨n1,n2,l1,l2,l3⟩:=h.nd
 have lp2:p2 < w.heap.size:=(Array.getElem?_eq_some_iff.1 o2).1
 have lp3:p3 < w.heap.size:=(Array.getElem?_eq_some_iff.1 o3).1
 have lw:=h.ext.size
 obtain ⟨A,c,rfl,hlc,hcm,hlm,hel⟩:=SliceOf.open hF
 unfold n55c13
 simp (disch:=try exact DI) only [↓PR,QR,Int.reduceBEq,Int.reduceBNe,Int.reduceLT,Int.reduceLE,Int.reduceGT,Int.reduceGE,Int.reduceNeg,(cells_of_heap o3).1]
 refine loop1_intro (fun i w'=>∃ (k:Nat) (fld':Int),i = .int .i64 k∧k≤m.fields.length∧CkO a0 w' cb md ms deps strs at_ fld' m.fields∧w'.heap[p2]?=some (.cells #[.pointer (some ⟨cb,0,none⟩)] 61 (0,0))∧w'.heap[p3]?=some (.cells (msgCells m (.slice A m.fields.length c)).toArray 45 (0,0)) ∧
  w'.heap[w.heap.size]?=some (.cells #[.bool ((m.fields.take k).all fun f=>!f.loose)] 4 (0,0))∧r=tailP deps m (fieldsP deps strs (m.fields.take k) (m.fields.drop k))) (fun i _=>m.fields.length - (intOf i).toNat) ⟨0,fld,rfl,by omega,h.go ((Ext.refl _).alloc _),((Ext.refl _).alloc _).obj o2,((Ext.refl _).alloc _).obj o3,heap_new w #[.bool true] 4,hr⟩ ?_
 rintro i w' ⟨k,fld',rfl,hk,hC,y2,y3,y6,hrk⟩
 have l6:w.heap.size < w'.heap.size:=(Array.getElem?_eq_some_iff.1 y6).1
 have lw':=hC.ext.size
 obtain ⟨dn,mv,ds,mn,fv',h1,h2⟩:=hC.obj
 have c2:p2≠cb:=by rintro rfl;rw [y2] at h1;cases h1
 have c3:p3≠cb:=by rintro rfl;rw [y3] at h1;cases h1
 rcases drop_cases hk with ⟨x,hx,hd,hlt,hdec⟩ | ⟨hk,hd,hdec⟩
 · obtain ⟨b,o,cs,rfl,hl,hA,hE⟩:=hel k x hx
   obtain ⟨tv,cv,rfl,hT,hCa,ht1,hc1⟩:=hE.op
   have hA':=hA.ext hC.ext
   rw [hd] at hrk
   simp only [fieldsP] at hrk
   unfold n55c12
   simp (disch:=try exact DI) only [↓PR,QR,Int.reduceBEq,Int.reduceBNe,Int.reduceLT,Int.reduceLE,Int.reduceGT,Int.reduceGE,Int.reduceNeg,hdec]
   unfold n55c11
   rw [op_indexN Tryz.underlying43 ty52 _ _ _ _ _ k hlt,op_load (hA'.loads ty52 rfl)]
   simp (disch:=try exact DI) only [↓PR,QR,Int.reduceBEq,Int.reduceBNe,Int.reduceLT,Int.reduceLE,Int.reduceGT,Int.reduceGE,Int.reduceNeg,(cells_of_heap y2).1,(cells_of_heap h1).1,(cells_of_heap h1).2]
   have hCw:=(hC.setFld (k:Int)).go ((Ext.refl _).alloc (Obj.cells (fieldCells x tv cv).toArray 52))
   have z2:=((Ext.refl _).alloc (Obj.cells (fieldCells x tv cv).toArray 52)).obj ((Only.setCell w' cb 6 (.int .i64 (k:Int)) p2 c2).trans y2)
   have z3:=((Ext.refl _).alloc (Obj.cells (fieldCells x tv cv).toArray 52)).obj ((Only.setCell w' cb 6 (.int .i64 (k:Int)) p3 c3).trans y3)
   have z6:=((Ext.refl _).alloc (Obj.cells (fieldCells x tv cv).toArray 52)).obj ((Only.setCell w' cb 6 (.int .i64 (k:Int)) w.heap.size (by omega)).trans y6)
   have z8:=heap_new (w'.setCell ⟨cb,6,none⟩ (.int .i64 (k:Int))) (fieldCells x tv cv).toArray 52
   rw [World.size_setCell] at z8
   generalize (World.alloc (w'.setCell ⟨cb,6,none⟩ (.int .i64 (k:Int))) (Obj.cells (fieldCells x tv cv).toArray 52))=W at hCw z2 z3 z6 z8 ⊢
   have hkt:(m.fields.take k).length=k:=by rw [List.length_take];omega
   refine callK_flw (examine_flw hCw.chk k rfl hlt _ x ⟨tv,cv,rfl,TermsOf.ext hT hCw.ext,CasesOf.ext hCa hCw.ext⟩ (ht x (List.mem_of_getElem? hx))) (fun w5 e5 h0=>?_) (fun w5 e5 h0=>?_)
   · rw [if_pos h0] at hrk
     have q6:=e5.obj z6
     have q8:=e5.obj z8
     have hC5:=hCw.go e5
     have l5:w'.heap.size < w5.heap.size:=(Array.getElem?_eq_some_iff.1 q8).1
     have htk:=take_snoc hx
     rw [← htk] at hrk
     have hall:((m.fields.take (k+1)).all fun f=>!f.loose)=(((m.fields.take k).all fun f=>!f.loose)&&!x.loose):=by rw [htk,List.all_append];simp
     have fin:∀ b' w6,Ext w5 w6→b'=((m.fields.take (k+1)).all fun f=>!f.loose)→(∃ (k':Nat) (fld':Int),Value.int .i64 ((k+1:Nat):Int) = .int .i64 k'∧k'≤m.fields.length∧CkO a0 (w6.setCell ⟨w.heap.size,0,none⟩ (.bool b')) cb md ms deps strs at_ fld' m.fields∧w6.heap[p2]?=some (.cells #[.pointer (some ⟨cb,0,none⟩)] 61 (0,0))∧w6.heap[p3]?=some (.cells (msgCells m (.slice (some ⟨b,o,none⟩) m.fields.length c)).toArray 45 (0,0)) ∧
      (w6.setCell ⟨w.heap.size,0,none⟩ (.bool b')).heap[w.heap.size]?=some (.cells #[.bool ((m.fields.take k').all fun f=>!f.loose)] 4 (0,0))∧r=tailP deps m (fieldsP deps strs (m.fields.take k') (m.fields.drop k')))∧m.fields.length - (intOf (Value.int .i64 ((k+1:Nat):Int))).toNat < m.fields.length - (intOf (Value.int IntKind.i64 k)).toNat:=by
      rintro b' w6 e6 rfl
      refine ⟨⟨k+1,k,rfl,by omega,(hC5.go e6).other (by omega) (by omega) _,e6.obj (e5.obj z2),e6.obj (e5.obj z3),?_,hrk⟩,meas_lt hlt⟩
      have:=heap_set (o:=0) (e6.obj q6) (.bool ((m.fields.take (k+1)).all fun f=>!f.loose))
      simpa using this
     unfold n55c2
     rw [hall] at fin
     generalize ((m.fields.take k).all fun f=>!f.loose)=sj at q6 fin
     cases sj with
     | true =>
      generalize hxl:x.loose=xl at fin
      simp (disch:=try exact DI) only [↓PR,QR,Int.reduceBEq,Int.reduceBNe,Int.reduceLT,Int.reduceLE,Int.reduceGT,Int.reduceGE,Int.reduceNeg,(cells_of_heap q6).1,(cells_of_heap q6).2,(cells_of_heap q8).1,n55c1,hxl]
      simp only [Bool.true_and] at fin
      exact fin _ w5 (Ext.refl _) rfl
     | false =>
      simp (disch:=try exact DI) only [↓PR,QR,Int.reduceBEq,Int.reduceBNe,Int.reduceLT,Int.reduceLE,Int.reduceGT,Int.reduceGE,Int.reduceNeg,(cells_of_heap q6).1,(cells_of_heap q6).2,(cells_of_heap q8).1,n55c1]
      simp only [Bool.false_and] at fin
      exact fin _ w5 (Ext.refl _) rfl
   · rw [if_neg h0] at hrk
     have hr2:r=((k:Int),examineC (m.fields.take k) (vI deps) (vB strs) x):=by
      rw [hrk,hkt];unfold tailP;rw [if_neg h0]
     show outQ _ _ _ _ _ _
     rw [outQ_nil]
     exact nxtR_pan (hCw.ext.trans e5) hr2 h0
 · subst hk
   rw [hd] at hrk
   rw [List.take_length] at y6
   unfold n55c12
   simp (disch:=try exact DI) only [↓PR,QR,Int.reduceBEq,Int.reduceBNe,Int.reduceLT,Int.reduceLE,Int.reduceGT,Int.reduceGE,Int.reduceNeg,hdec]
   refine nxt_range hlow hC p2 p3 w.heap.size m _ _ rfl hF hb hp2 hp3 lw lp2 lp3 y2 y3 y6 r ?_ K hK
   rw [hrk]
   rfl
theorem next_flw {w0:World} {fs0:List FieldD} (hlow:Low deps) (h:CkO a0 w0 cb md ms deps strs at_ fld fs0) (v:Value) (hm:MsgVal a0 v m) (hb:(allRefs m.fields).length≤1048576) (ht:∀ f∈m.fields,f.terms.length≤1048576) (K:World→Prop)
 (hK:∀ w',CkO a0 w' cb md ms (deps++[(m.name,depthM deps m+1)]) (strs++[(m.name,strictM strs m)]) at_ (-1) m.fields→K w') :
 Calls Pg 39 #[.pointer (some ⟨cb,0,none⟩),v] w0 (nxtR a0 at_ (nextP deps strs m) K):=by
 obtain ⟨fv,rfl,hF⟩:=hm
 obtain ⟨n1,n2,l1,l2,l3⟩:=h.nd
 have lw:=h.ext.size
 have hf1:=SliceOf.oneCell hF
 refine n55s ?_;unfold n55
 simp (disch:=try exact DI) only [↓PR,QR,Int.reduceBEq,Int.reduceBNe,Int.reduceLT,Int.reduceLE,Int.reduceGT,Int.reduceGE,Int.reduceNeg]
 have hC:=h.go (((Ext.refl w0).alloc (Obj.cells #[.pointer (some ⟨cb,0,none⟩)] 61)).alloc (Obj.cells (msgCells m fv).toArray 45))
 have z3:=heap_new (w0.alloc (Obj.cells #[.pointer (some ⟨cb,0,none⟩)] 61)) (msgCells m fv).toArray 45
 have z2:=((Ext.refl (w0.alloc (Obj.cells #[.pointer (some ⟨cb,0,none⟩)] 61))).alloc (Obj.cells (msgCells m fv).toArray 45)).obj (heap_new w0 _ _)
 simp only [World.size_alloc] at z3 ⊢
 generalize (World.alloc (World.alloc w0 _) _)=W at hC z2 z3 ⊢
 clear h
 obtain ⟨dn,mv,ds,mn,fv',h1,h2⟩:=hC.obj
 refine drawK_introB (w1:=W) cb cb (fun _ _ _ _=>rfl) ?_
 unfold n55c18
 simp (disch:=try exact DI) only [↓PR,QR,Int.reduceBEq,Int.reduceBNe,Int.reduceLT,Int.reduceLE,Int.reduceGT,Int.reduceGE,Int.reduceNeg,(cells_of_heap z2).1]
 have L3:∀ w',KB W cb cb w'→Loads Pg w' 45 ⟨w0.heap.size+1,0,none⟩ (.agg (msgCells m fv).toArray):=fun w' hw'=>Loads.many ty45 rfl (fun j u hu=>by
  rw [Addr.add_lit]
  exact KB.cell (b:=w0.heap.size+1) hw' (by omega) (by omega) (by rw [(cells_of_heap z3).1];simpa using hu))
 rw [qV_loadG L3]
 simp (disch:=try exact DI) only [↓PR,QR,Int.reduceBEq,Int.reduceBNe,Int.reduceLT,Int.reduceLE,Int.reduceGT,Int.reduceGE,Int.reduceNeg,(cells_of_heap h1).1,(cells_of_heap h1).2]
 have eD:Ext W W.drew:=(Ext.refl W).wdrew
 have hC1:=(hC.go eD).setMsg m.name fv m.fields hF
 have y2:=(Only.setCell (W.drew.setCell ⟨cb,7,none⟩ (.string m.name)) cb 8 fv w0.heap.size (by omega)).trans ((Only.setCell W.drew cb 7 (.string m.name) w0.heap.size (by omega)).trans (eD.obj z2))
 have y3:=(Only.setCell (W.drew.setCell ⟨cb,7,none⟩ (.string m.name)) cb 8 fv (w0.heap.size+1) (by omega)).trans ((Only.setCell W.drew cb 7 (.string m.name) (w0.heap.size+1) (by omega)).trans (eD.obj z3))
 refine ⟨fun b hb b1 _=>(Only.setCell _ cb 8 fv b b1).trans (Only.setCell W.drew cb 7 (.string m.name) b b1),?_⟩
 show n55c17 _ _ _ _ _ _ ((W.drew.setCell ⟨cb,7,none⟩ (.string m.name)).setCell ⟨cb,8,none⟩ fv)
 generalize ((W.drew.setCell ⟨cb,7,none⟩ (.string m.name)).setCell ⟨cb,8,none⟩ fv)=W1 at hC1 y2 y3 ⊢
 clear hC z2 z3 h1
 obtain ⟨dn,mv,ds,mn,fv',h1,h2'⟩:=hC1.obj
 unfold n55c17
 simp (disch:=try exact DI) only [↓PR,QR,Int.reduceBEq,Int.reduceBNe,Int.reduceLT,Int.reduceLE,Int.reduceGT,Int.reduceGE,Int.reduceNeg,(cells_of_heap h1).1,(cells_of_heap h1).2]
 have hC2:=hC1.setFld (-1)
 have x2:=(Only.setCell W1 cb 6 (.int .i64 (-1)) w0.heap.size (by omega)).trans y2
 have x3:=(Only.setCell W1 cb 6 (.int .i64 (-1)) (w0.heap.size+1) (by omega)).trans y3
 generalize (W1.setCell ⟨cb,6,none⟩ (.int .i64 (-1)))=W2 at hC2 x2 x3 ⊢
 clear hC1 y2 y3 h1
 refine turnK_intro ?_
 refine drawK_intro ?_
 unfold n55c16
 simp (disch:=try exact DI) only [↓PR,QR,Int.reduceBEq,Int.reduceBNe,Int.reduceLT,Int.reduceLE,Int.reduceGT,Int.reduceGE,Int.reduceNeg,(cells_of_heap x2).1,(cells_of_heap x3).1]
 refine zcr (Name_ret _ m.name) fun w3 e3=>?_
 have e3':Ext W2 w3:=(Ext.refl W2).wdrew.trans e3
 refine ⟨e3,?_⟩
 generalize hr:nextP deps strs m=r
 unfold nextP at hr
 refine callK_flw (need_flw (hC2.go e3').chk _ 1 (by decide)) (fun w4 e4 h0=>?_) (fun w4 e4 h0=>?_)
 · have e4':=e3'.trans e4
   have hn:nameB m.name=true:=needC_zero (by decide) h0
   rw [if_pos hn] at hr
   refine ⟨e3.trans e4,?_⟩
   have hC4:=hC2.go e4'
   have x2':=e4'.obj x2
   have x3':=e4'.obj x3
   obtain ⟨dn,mv,ds,mn,fv',h1,h2'⟩:=hC4.obj
   refine drawK_intro ?_
   unfold n55c15
   simp (disch:=try exact DI) only [↓PR,QR,Int.reduceBEq,Int.reduceBNe,Int.reduceLT,Int.reduceLE,Int.reduceGT,Int.reduceGE,Int.reduceNeg,(cells_of_heap x2').1,(cells_of_heap x3').1,(cells_of_heap h1).1]
   have eD4:Ext w4 w4.drew:=(Ext.refl w4).wdrew
   rw [qV_lookupE Tryz.underlying62 Tryz.underlying9 ty3 (hC4.mdeps.ext eD4) m.name]
   have hsome:(lastOf (vI deps) m.name).isSome=(lastP deps m.name).isSome:=by rw [lastOf_vI,Option.isSome_map]
   rw [hsome]
   simp (disch:=try exact DI) only [↓PR,QR,Int.reduceBEq,Int.reduceBNe,Int.reduceLT,Int.reduceLE,Int.reduceGT,Int.reduceGE,Int.reduceNeg,(cells_of_heap x2').1]
   refine callK_flw (need_flw (hC4.go eD4).chk _ 2 (by decide)) (fun w5 e5 h0=>?_) (fun w5 e5 h0=>?_)
   · have hs:(lastP deps m.name).isSome=false:=by have:=needC_zero (by decide) h0;simpa using this
     rw [hs,if_neg (by simp)] at hr
     have hC5:=hC4.go (eD4.trans e5)
     have x2'':=(eD4.trans e5).obj x2'
     have x3'':=(eD4.trans e5).obj x3'
     have fin:∀ b,b=decide (1≤m.fields.length∧m.fields.length≤40)→callK Pg 37 #[.pointer (some ⟨cb,0,none⟩),.bool b,.int .i64 3] (outQ Pg [] [] (nxtR a0 at_ r K)) w5 (fun _ w=>n55c13 (.pointer (some ⟨w0.heap.size,0,none⟩)) (.pointer (some ⟨w0.heap.size+1,0,none⟩)) [] (nxtR a0 at_ r K) w):=by
      rintro b rfl
      refine callK_flw (need_flw hC5.chk _ 3 (by decide)) (fun w6 e6 h0=>?_) (fun w6 e6 h0=>?_)
      · have hl:=needC_zero (by decide) h0
        simp only [decide_eq_true_eq] at hl
        rw [if_pos hl] at hr
        exact nxt_loop hlow (hC5.go e6) w0.heap.size (w0.heap.size+1) fv hF hb ht (by omega) (by omega) (e6.obj x2'') (e6.obj x3'') r hr.symm K hK
      · by_cases hl:1≤m.fields.length∧m.fields.length≤40
        · rw [decide_eq_true hl] at h0;exact absurd rfl h0
        · rw [if_neg hl] at hr
          rw [decide_eq_false hl]
          show outQ _ _ _ _ _ _
          rw [outQ_nil]
          exact nxtR_pan (hC5.ext.trans e6) hr.symm (by decide)
     obtain ⟨A,c,rfl,hlc,hcm,hlm,hel⟩:=SliceOf.open hF
     unfold n55c14
     by_cases h1l:1≤m.fields.length
     · have d1:decide ((m.fields.length:Int)≥1)=true:=by simp;omega
       by_cases h2l:m.fields.length≤40
       · have d2:decide ((m.fields.length:Int)≤40)=true:=by simp;omega
         simp (disch:=try exact DI) only [↓PR,QR,Int.reduceBEq,Int.reduceBNe,Int.reduceLT,Int.reduceLE,Int.reduceGT,Int.reduceGE,Int.reduceNeg,(cells_of_heap x2'').1,(cells_of_heap x3'').1,d1,d2]
         exact fin _ (by simp [h1l,h2l])
       · have d2:decide ((m.fields.length:Int)≤40)=false:=by simp;omega
         simp (disch:=try exact DI) only [↓PR,QR,Int.reduceBEq,Int.reduceBNe,Int.reduceLT,Int.reduceLE,Int.reduceGT,Int.reduceGE,Int.reduceNeg,(cells_of_heap x2'').1,(cells_of_heap x3'').1,d1,d2]
         exact fin _ (by simp [h2l])
     · have d1:decide ((m.fields.length:Int)≥1)=false:=by simp;omega
       simp (disch:=try exact DI) only [↓PR,QR,Int.reduceBEq,Int.reduceBNe,Int.reduceLT,Int.reduceLE,Int.reduceGT,Int.reduceGE,Int.reduceNeg,(cells_of_heap x2'').1,(cells_of_heap x3'').1,d1]
       exact fin _ (by simp [h1l])
   · have hs:(lastP deps m.name).isSome=true:=by
      cases hq:(lastP deps m.name).isSome with
      | true=>rfl
      | false=>rw [hq] at h0;exact absurd rfl h0
     rw [hs,if_pos rfl] at hr
     rw [hs]
     show outQ _ _ _ _ _ _
     rw [outQ_nil]
     exact nxtR_pan (hC4.ext.trans (eD4.trans e5)) hr.symm (by decide)
 · have hn:nameB m.name=false:=by
    cases hq:nameB m.name with
    | false=>rfl
    | true=>rw [hq] at h0;exact absurd rfl h0
   rw [hn,if_neg (by simp)] at hr
   rw [hn]
   show outQ _ _ _ _ _ _
   rw [outQ_nil]
   exact nxtR_pan (hC2.ext.trans (e3'.trans e4)) hr.symm (by decide)
end
end Go.Proofs.YtiajhbbmgglmlaaGreat
