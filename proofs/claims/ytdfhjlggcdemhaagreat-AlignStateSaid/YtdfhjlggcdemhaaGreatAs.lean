/-
  phrasebooklaw14.AlignState returns true for every definition and every number of a message, and leaves its arguments as they were; no condition is asked.
-/
import Derived.Test.YtdfhjlggcdemhaaGreatAs5
set_option linter.all false
set_option maxHeartbeats 4000000
set_option maxRecDepth 100000
namespace Go.Proofs.YtdfhjlggcdemhaaGreat
open Sw
open Go.RowKit (intOf Below)
theorem flaw_out {w0 w:World} {bt:Nat} {x0 x1 x2:Value} {QP QP':List PanicEntry→World→Prop} {k:Value→World→Prop} (e:Ext w0 w) (hb:w0.heap.size≤bt) (h:w.heap[bt]?=some (.cells #[x0,x1,x2] 29 (0,0))) (a f c:Int) (hk:∀ w',Ext w0 w'→k (flawVal a f c) w') :
 opV Pg (Instr.build 29 #[(0,.int .i64 a),(1,.int .i64 f),(2,.int .i64 c)]) QP w fun t w=>opU Pg (Instr.storeAt 29 (.pointer (some ⟨bt,0,none⟩)) t) QP' w fun w=>qW Pg 29 (.pointer (some ⟨bt,0,none⟩)) w fun r0=>k r0 w:=by
 simp (disch:=try exact DI) only [↓PR,QR,simprocAttr,(cells_of_heap h).1,(cells_of_heap h).2]
 exact hk _ (((e.setCell hb _).setCell hb _).setCell hb _)
theorem flaw_tup {d:DefD} {a f c:Int} (h:checkP d=(a,f,c)) (h0:c≠0):Value.tuple #[flawVal a f c,.bool true] = .tuple #[flawOf (checkP d),.bool (flawedB d)]:=by
 unfold flawedB flawOf
 rw [h]
 simp [h0]
theorem msgs_split {l:List MsgD} {k:Nat} (h:Fine (l.take k)) (hk:k≤l.length):msgsP [] [] 0 l=msgsP (depsOf (l.take k)) (strsOf (l.take k)) k (l.drop k):=by
 have:=(msgs_append (l.drop k) (l.take k) [] [] 0).1 h
 rw [List.take_append_drop] at this
 rw [this,List.length_take,Nat.min_eq_left hk,Nat.zero_add]
 rfl
theorem Fine.step {l:List MsgD} {k:Nat} {m:MsgD} (h:Fine (l.take k)) (hm:l[k]?=some m) (h0:(nextP (depsOf (l.take k)) (strsOf (l.take k)) m).2=0):Fine (l.take (k+1)):=by
 rw [take_snoc hm]
 unfold Fine
 rw [(msgs_append [m] (l.take k) [] [] 0).1 h]
 show (msgsP (depsOf (l.take k)) (strsOf (l.take k)) _ [m]).2.2=0
 rw [msgs_cons0 h0]
 rfl
theorem check_bad {d:DefD} {k:Nat} {m:MsgD} {a c:Int} (h1:nameB d.name=true) (h2:1≤d.msgs.length∧d.msgs.length≤60) (h:Fine (d.msgs.take k)) (hm:d.msgs[k]?=some m) (hn:nextP (depsOf (d.msgs.take k)) (strsOf (d.msgs.take k)) m=(a,c)) (h0:c≠0):checkP d=((k:Int),a,c):=by
 have hk:=(List.getElem?_eq_some_iff.1 hm).1
 unfold checkP
 rw [if_pos h1,if_pos h2,msgs_split h (Nat.le_of_lt hk),List.drop_eq_getElem_cons hk,msgs_cons1 (by rw [(List.getElem?_eq_some_iff.1 hm).2,hn];exact h0),(List.getElem?_eq_some_iff.1 hm).2,hn]
 unfold endP
 rw [if_neg h0]
def depL (l:List MsgD) (k:Nat):List Int:=(depsOf (l.take k)).map (·.2)++List.replicate (l.length - k) 0
theorem depD_len (l:List MsgD) {k:Nat} (hk:k≤l.length):((depsOf (l.take k)).map (·.2)).length=k:=by
 have:=congrArg List.length (keysD (l.take k))
 simp only [List.length_map,List.length_take] at this ⊢
 omega
theorem depL_len (l:List MsgD) {k:Nat} (hk:k≤l.length):(depL l k).length=l.length:=by
 unfold depL
 rw [List.length_append,depD_len l hk,List.length_replicate];omega
theorem depL_zero (l:List MsgD) {k:Nat} (hk:k < l.length):(depL l k)[k]?=some 0:=by
 unfold depL
 rw [List.getElem?_append_right (by rw [depD_len l (by omega)];omega),depD_len l (by omega),List.getElem?_replicate,if_pos (by omega)]
theorem depL_old (l:List MsgD) {k:Nat} (hk:k < l.length) (j:Nat) (n:Int) (h:((depsOf (l.take k)).map (·.2))[j]?=some n):(depL l k)[j]?=some n∧j < k:=by
 have hj:=(List.getElem?_eq_some_iff.1 h).1
 rw [depD_len l (by omega)] at hj
 unfold depL
 rw [List.getElem?_append_left (by rw [depD_len l (by omega)];exact hj)]
 exact ⟨h,hj⟩
theorem depL_step {l:List MsgD} {k:Nat} {m:MsgD} (hm:l[k]?=some m):(depL l k).set k (depthM (depsOf (l.take k)) m+1)=depL l (k+1):=by
 have hk:=(List.getElem?_eq_some_iff.1 hm).1
 unfold depL
 rw [List.set_append_right _ _ (by rw [depD_len l (by omega)];omega),depD_len l (by omega),Nat.sub_self,take_snoc hm,deps_snoc,List.map_append,List.append_assoc]
 congr 1
 rw [show l.length - k=(l.length - (k+1))+1 by omega,List.replicate_succ]
 rfl
theorem field_split {deps:List (ByteArray×Int)} {strs:List (ByteArray×Bool)}:∀ (l:List FieldD) (bef:List FieldD) (k:Nat),(∀ (j:Nat) (f:FieldD),j < k→l[j]?=some f→examineC (bef++l.take j) (vI deps) (vB strs) f=0)→fieldsP deps strs (bef++l.take k) (l.drop k)=fieldsP deps strs bef l
 | [],bef,k,_=>by simp
 | f::l,bef,0,_=>by simp
 | f::l,bef,k+1,h=>by
  have h0:=h 0 f (by omega) rfl
  rw [List.take_zero,List.append_nil] at h0
  have ih:=field_split l (bef++[f]) k fun j g hj hg=>by
   have:=h (j+1) g (by omega) (by simpa using hg)
   rw [List.take_succ_cons] at this
   rw [List.append_assoc];exact this
  rw [List.take_succ_cons,List.drop_succ_cons,fieldsP,if_pos h0,← ih,List.append_assoc]
  rfl
theorem FineF.fields {deps:List (ByteArray×Int)} {strs:List (ByteArray×Bool)} {l:List FieldD} {k:Nat} (h:FineF deps strs (l.take k)):fieldsP deps strs (l.take k) (l.drop k)=fieldsP deps strs [] l:=by
 have:=field_split (deps:=deps) (strs:=strs) l [] k fun j f hj hf=>by
  have:=h j f (by rw [List.getElem?_take,if_pos hj];exact hf)
  rwa [List.take_take,Nat.min_eq_left (by omega)] at this
 simpa using this
end Go.Proofs.YtdfhjlggcdemhaaGreat
namespace Go.Proofs.YtdfhjlggcdemhaaGreat
open Sw
open Go.RowKit (intOf Below)
theorem rCheck_ret (w0:World) (v:Value) (d:DefD) (hd:DefVal w0 v d) (hb:calm d):Ret Pg 52 #[v] w0 fun r w'=>r = .tuple #[flawOf (checkP d),.bool (flawedB d)]∧Ext w0 w':=by
 obtain ⟨mv,rfl,hM⟩:=hd
 have hM0:=hM
 refine n40s (R:=retR _) ?_;unfold n40
 rw [op_boxA]
 have hBW:=ElemAt.new (w:=w0) (defCells d mv) (24)
 have eW:Ext w0 (w0.alloc (Obj.cells (List.toArray (defCells d mv)) (24))):=(Ext.refl _).alloc _
 generalize (w0.alloc (Obj.cells (List.toArray (defCells d mv)) (24)))=W at hBW eW ⊢
 obtain ⟨A,cm,rfl,hlc,hcm,hlm,hel⟩:=SliceOf.open hM
 have sB:w0.heap.size < W.heap.size:=World.block_lt_of_cell? W ⟨w0.heap.size,0,none⟩ (hBW.c3 (Ext.refl W)).1
 simp (disch:=try exact DI) only [↓PR,QR,simprocAttr,hBW.c3 (Ext.refl W)]
 have oV:=heap_new W #[.int .i64 0,.int .i64 0,.int .i64 0] 29
 have eV:Ext W (W.alloc (.cells #[.int .i64 0,.int .i64 0,.int .i64 0] 29)):=(Ext.refl W).alloc _
 have sV:(W.alloc (.cells #[.int .i64 0,.int .i64 0,.int .i64 0] 29)).heap.size=W.heap.size+1:=World.size_alloc _ _
 generalize W.alloc (.cells #[.int .i64 0,.int .i64 0,.int .i64 0] 29)=V at oV eV sV ⊢
 have EV:Ext w0 V:=eW.trans eV
 have sW:=eW.size
 refine zcr (rName_ret _ _) fun w1 e1=>?_
 have E1:=EV.trans e1
 cases hnm:nameB d.name with
 | false =>
  have hc:checkP d=(-1,-1,1):=by unfold checkP;rw [hnm];rfl
  simp (disch:=try exact DI) only [↓PR,QR,simprocAttr]
  unfold n40c23
  exact flaw_out E1 sW (e1.obj oV) _ _ _ fun w' e'=>⟨_,rfl,flaw_tup hc (by decide),e'⟩
 | true =>
 simp (disch:=try exact DI) only [↓PR,QR,simprocAttr,hBW.c3 (eV.trans e1),n40c24]
 have hlen:(decide ((d.msgs.length:Int) < 1)||decide (60 < (d.msgs.length:Int)))=!decide (1≤d.msgs.length∧d.msgs.length≤60):=by
  rw [Bool.eq_iff_iff];simp only [Bool.or_eq_true,decide_eq_true_eq,Bool.not_eq_true',decide_eq_false_iff_not];omega
 rw [hlen]
 by_cases hl:1≤d.msgs.length∧d.msgs.length≤60
 case neg =>
  have hc:checkP d=(-1,-1,3):=by unfold checkP;rw [hnm,if_pos rfl,if_neg hl]
  simp (disch:=try exact DI) only [↓PR,QR,simprocAttr,show decide (1≤d.msgs.length∧d.msgs.length≤60)=false by simpa using hl]
  unfold n40c21
  exact flaw_out E1 sW (e1.obj oV) _ _ _ fun w' e'=>⟨_,rfl,flaw_tup hc (by decide),e'⟩
 case pos =>
 simp (disch:=try exact DI) only [↓PR,QR,simprocAttr,show decide (1≤d.msgs.length∧d.msgs.length≤60)=true by simpa using hl]
 unfold n40c22
 simp (disch:=try exact DI) only [↓PR,QR,simprocAttr,hBW.c3 (eV.trans e1)]
 rw [op_makeInts _ (by omega)]
 have oD:DRow (w1.alloc (.cells ((List.replicate d.msgs.length (0:Int)).map fun n=>Value.int .i64 n).toArray 3)) w1.heap.size (depL d.msgs 0):=heap_new w1 _ _
 have eD:Ext w1 (w1.alloc (.cells ((List.replicate d.msgs.length (0:Int)).map fun n=>Value.int .i64 n).toArray 3)):=(Ext.refl w1).alloc _
 generalize w1.alloc (.cells ((List.replicate d.msgs.length (0:Int)).map fun n=>Value.int .i64 n).toArray 3)=w2 at oD eD ⊢
 have sw1:=e1.size
 generalize hbd:w1.heap.size=bd at oD sw1 ⊢
 have e2:Ext V w2:=e1.trans eD
 refine loop1_intro (fun a w'=>∃ k:Nat,a = .int .i64 k∧k≤d.msgs.length∧Ext V w'∧DRow w' bd (depL d.msgs k)∧Fine (d.msgs.take k)) (fun b _=>d.msgs.length - (intOf b).toNat) ⟨0,rfl,by omega,e2,oD,rfl⟩ ?_
 rintro _ w ⟨k,rfl,hk,e,hL,hfine⟩
 have E:=EV.trans e
 have hcW:=hBW.c3 (eV.trans e)
 unfold n40c20
 rcases drop_cases hk with ⟨m,hm,hdr,hlt,hdec⟩ | ⟨hk,hdr,hdec⟩
 · obtain ⟨bm,om,csm,rfl,_,hAm,fv,rfl,hF⟩:=hel k m hm
   have hF0:=hF
   obtain ⟨Af,cf,rfl,hlf,hcf,hlmf,helf⟩:=SliceOf.open hF
   have hdist:=hfine.dist
   have hbad:=fun (a c:Int)=>check_bad (d:=d) (k:=k) (m:=m) (a:=a) (c:=c) hnm hl hfine hm
   simp (disch:=try exact DI) only [↓PR,QR,simprocAttr,hdec,hcW,hAm.c2 E,n40c19]
   have hBY:=ElemAt.new (w:=w) (msgCells m (.slice Af m.fields.length cf)) (44)
   have eY:Ext w (w.alloc (Obj.cells (List.toArray (msgCells m (.slice Af m.fields.length cf))) (44))):=(Ext.refl _).alloc _
   generalize (w.alloc (Obj.cells (List.toArray (msgCells m (.slice Af m.fields.length cf))) (44)))=Y at hBY eY ⊢
   have eY':Ext V Y:=e.trans eY
   refine zcr (rName_ret _ _) fun w3 e3=>?_
   have f3:Ext V w3:=eY'.trans e3
   cases hmn:nameB m.name with
   | false =>
    have hc:=hbad (-1) 1 (by unfold nextP;rw [hmn];rfl) (by decide)
    simp (disch:=try exact DI) only [↓PR,QR,simprocAttr]
    unfold n40c14
    exact flaw_out (EV.trans f3) sW (f3.obj oV) _ _ _ fun w' e'=>⟨_,rfl,flaw_tup hc (by decide),e'⟩
   | true =>
   simp (disch:=try exact DI) only [↓PR,QR,simprocAttr,hBW.c3 (eV.trans f3),hBY.c2 e3,n40c15]
   refine zcr (rFind_ret _ _ d m.name k ⟨_,rfl,hM0.ext (EV.trans f3)⟩ hk) fun w4 e4=>?_
   have f4:=f3.trans e4
   have hdi:=idx_neg (p:=fun x:MsgD=>decide (x.name=m.name)) (l:=d.msgs.take k)
   rw [← anyD _ hdist] at hdi
   cases hls:(lastP (depsOf (d.msgs.take k)) m.name).isSome with
   | true =>
    rw [hls] at hdi
    have hc:=hbad (-1) 2 (by unfold nextP;rw [hmn,hls];rfl) (by decide)
    simp (disch:=try exact DI) only [↓PR,QR,simprocAttr,hdi]
    unfold n40c12
    exact flaw_out (EV.trans f4) sW (f4.obj oV) _ _ _ fun w' e'=>⟨_,rfl,flaw_tup hc (by decide),e'⟩
   | false =>
   rw [hls] at hdi
   have hcY4:=hBY.c2 (e3.trans e4)
   simp (disch:=try exact DI) only [↓PR,QR,simprocAttr,hdi,hcY4,↓n40c1,↓n40c2,↓n40c3,↓n40c4,↓n40c5,↓n40c6,↓n40c7,↓n40c8,↓n40c9,↓n40c10,↓n40c11,↓n40c12,↓n40c13,↓n40c14,↓n40c15,↓n40c16,↓n40c17,↓n40c18,↓n40c19,↓n40c20,↓n40c21,↓n40c22,↓n40c23,↓n40c24]
   have hlen2:(decide ((m.fields.length:Int) < 1)||decide (40 < (m.fields.length:Int)))=!decide (1≤m.fields.length∧m.fields.length≤40):=by
    rw [Bool.eq_iff_iff];simp only [Bool.or_eq_true,decide_eq_true_eq,Bool.not_eq_true',decide_eq_false_iff_not];omega
   rw [hlen2]
   by_cases hl2:1≤m.fields.length∧m.fields.length≤40
   case neg =>
    have hc:=hbad (-1) 3 (by unfold nextP;rw [hmn,hls,if_pos rfl,if_neg (by simp),if_neg hl2]) (by decide)
    rw [show decide (1≤m.fields.length∧m.fields.length≤40)=false by simpa using hl2]
    exact flaw_out (EV.trans f4) sW (f4.obj oV) _ _ _ fun w' e'=>⟨_,rfl,flaw_tup hc (by decide),e'⟩
   case pos =>
   have hnx:nextP (depsOf (d.msgs.take k)) (strsOf (d.msgs.take k)) m=tailP (depsOf (d.msgs.take k)) m (fieldsP (depsOf (d.msgs.take k)) (strsOf (d.msgs.take k)) [] m.fields):=by
    unfold nextP;rw [hmn,hls,if_pos rfl,if_neg (by simp),if_pos hl2]
   rw [show decide (1≤m.fields.length∧m.fields.length≤40)=true by simpa using hl2]
   simp (disch:=try exact DI) only [↓PR,QR,simprocAttr]
   refine loop1_intro (fun a w'=>∃ i:Nat,a = .int .i64 i∧i≤m.fields.length∧Ext w4 w'∧FineF (depsOf (d.msgs.take k)) (strsOf (d.msgs.take k)) (m.fields.take i)) (fun b _=>m.fields.length - (intOf b).toNat) ⟨0,rfl,by omega,Ext.refl _,by intro j f h;simp at h⟩ ?_
   rintro _ w5 ⟨i,rfl,hi,e5,hff⟩
   have f5:=f4.trans e5
   have hsp:=hff.fields
   unfold n40c9
   rcases drop_cases hi with ⟨f,hx,hdf,hltf,hdecf⟩ | ⟨hi,hdf,hdecf⟩
   · rw [hdf,fieldsP] at hsp
     simp (disch:=try exact DI) only [↓PR,QR,simprocAttr,hdecf,hBY.c2 (e3.trans (e4.trans e5)),hBW.c3 (eV.trans f5)]
     refine zcr (rfield_ret _ _ d k i m f ⟨_,rfl,hM0.ext (EV.trans f5)⟩ hm hx hdist hfine.refsIn hff.dist hb (by omega) hff.bounds) fun w6 e6=>?_
     have f6:=f5.trans e6
     by_cases h0:examineC (m.fields.take i) (vI (depsOf (d.msgs.take k))) (vB (strsOf (d.msgs.take k))) f=0
     · simp (disch:=try exact DI) only [↓PR,QR,simprocAttr,h0,n40c2,show ((0:Int) != 0)=false from rfl]
       exact ⟨⟨i+1,rfl,hltf,e5.trans e6,hff.step hx h0⟩,meas_lt hltf⟩
     · rw [if_neg h0,List.length_take,Nat.min_eq_left (by omega)] at hsp
       have hc:=hbad i _ (by rw [hnx,← hsp];unfold tailP;rw [if_neg h0]) h0
       simp (disch:=try exact DI) only [↓PR,QR,simprocAttr,n40c2,show (examineC (m.fields.take i) (vI (depsOf (d.msgs.take k))) (vB (strsOf (d.msgs.take k))) f != 0)=true by simpa using h0]
       unfold n40c1
       exact flaw_out (EV.trans f6) sW (f6.obj oV) _ _ _ fun w' e'=>⟨_,rfl,flaw_tup hc h0,e'⟩
   · subst hi
     rw [hdf,fieldsP] at hsp
     rw [← hsp] at hnx
     have hfd:(fieldsP (depsOf (d.msgs.take k)) (strsOf (d.msgs.take k)) [] m.fields).2=0:=by rw [← hsp]
     simp (disch:=try exact DI) only [↓PR,QR,simprocAttr,hdecf,hBY.c2 (e3.trans (e4.trans e5))]
     have hkl:k < d.msgs.length:=(List.getElem?_eq_some_iff.1 hm).1
     have hlow:=hfine.low k
     rw [List.take_take,Nat.min_self] at hlow
     have hdm:=foldl_maxI (fun s=>(lastP (depsOf (d.msgs.take k)) s).getD 0) (refsM m) 0 (by decide) (fun s _=>hlow.get s) (by decide)
     have hlo5:bd < w5.heap.size:=by
      have:=(Array.getElem?_eq_some_iff.1 hL).1
      have h1:=eY.size
      have h2:=e3.size
      have h3:=e4.size
      have h4:=e5.size
      omega
     unfold n40c8
     simp (disch:=try exact DI) only [↓PR,QR,simprocAttr,hBY.c2 (e3.trans (e4.trans e5))]
     refine callK_ret (rRefers_ret _ _ m ⟨_,rfl,hF0.ext (EV.trans (e.trans (eY.trans (e3.trans (e4.trans e5)))))⟩ (hb m (List.mem_of_getElem? hm)).1) ?_
     rintro rv w6 ⟨hS,e6⟩
     have f6:=f5.trans e6
     have hL6:DRow w6 bd (depL d.msgs k):=((((hL.ext eY).ext e3).ext e4).ext e5).ext e6
     refine rcheck_refs (hBW.ext eV) EV hM0 hkl hdist (next_refs (ds_of _) hfd) f6 (by omega) hL6 (depL_len _ (by omega)) (depL_old _ hkl) (depL_zero _ hkl) hS hlo5 ?_
     intro w7 f7 hL7
     have hdp:0≤depthM (depsOf (d.msgs.take k)) m∧depthM (depsOf (d.msgs.take k)) m≤16:=hdm
     have hst:=depL_step hm
     generalize hDM:depthM (depsOf (d.msgs.take k)) m=dm at hL7 hdp hst
     have hlL:=depL_len d.msgs (k:=k) (by omega)
     have hc7:=hL7.cell (k:=k) (n:=dm) (by rw [List.getElem?_set,if_pos rfl,if_pos (by omega)])
     have hL8:=hL7.set k (dm+1)
     rw [List.set_set,hst] at hL8
     unfold n40c6
     simp (disch:=try exact DI) only [↓PR,QR,simprocAttr,hc7,hL7.free,show IntKind.i64.wrap (dm+1)=dm+1 from wrap_ok (by omega) (by omega)]
     have f8:Ext V (w7.setCell ⟨bd,k*1,none⟩ (.int .i64 (dm+1))):=f7.setCell (by omega) _
     have htl:nextP (depsOf (d.msgs.take k)) (strsOf (d.msgs.take k)) m=if dm < 16 then (-1,0) else (-1,10):=by rw [hnx];unfold tailP;rw [if_pos rfl,hDM]
     by_cases h16:dm < 16
     · rw [if_pos h16] at htl
       simp (disch:=try exact DI) only [↓PR,QR,simprocAttr,show decide (16 < dm+1)=false by simp only [decide_eq_false_iff_not];omega]
       rw [wrap_ok (by omega) (by omega)]
       exact ⟨⟨k+1,rfl,hlt,f8,hL8,hfine.step hm (by rw [htl])⟩,meas_lt hlt⟩
     · rw [if_neg h16] at htl
       have hc:=hbad _ _ htl (by decide)
       simp (disch:=try exact DI) only [↓PR,QR,simprocAttr,show decide (16 < dm+1)=true by simp only [decide_eq_true_eq];omega]
       rw [wrap_ok (by omega) (by omega)]
       unfold n40c5
       exact flaw_out (EV.trans f8) sW (f8.obj oV) _ _ _ fun w' e'=>⟨_,rfl,flaw_tup hc (by decide),e'⟩
 · subst hk
   rw [List.take_length] at hfine
   have hmp:msgsP [] [] 0 d.msgs=(0,0,0):=by
    have:=msgs_split (l:=d.msgs) (k:=d.msgs.length) (by rw [List.take_length];exact hfine) (Nat.le_refl _)
    rw [this,List.drop_length];rfl
   have hcp:checkP d=if (lastP (depsOf d.msgs) d.start).isSome then (0,0,0) else (-1,-1,11):=by
    unfold checkP;rw [if_pos hnm,if_pos hl,hmp];rfl
   simp (disch:=try exact DI) only [↓PR,QR,simprocAttr,hdec,hcW,n40c18]
   refine zcr (rFind_ret _ _ d d.start d.msgs.length ⟨_,rfl,hM0.ext E⟩ (Nat.le_refl _)) fun w3 e3=>?_
   have f3:=e.trans e3
   have hdi:=idx_some (p:=fun x:MsgD=>decide (x.name=d.start)) (l:=d.msgs.take d.msgs.length)
   rw [← anyD _ (by rw [List.take_length];exact hfine.dist)] at hdi
   rw [List.take_length] at hdi
   cases hls:(lastP (depsOf d.msgs) d.start).isSome with
   | false =>
    rw [hls] at hdi hcp
    simp (disch:=try exact DI) only [↓PR,QR,simprocAttr,hdi,List.take_length]
    unfold n40c16
    exact flaw_out (EV.trans f3) sW (f3.obj oV) _ _ _ fun w' e'=>⟨_,rfl,flaw_tup hcp (by decide),e'⟩
   | true =>
    rw [hls] at hdi hcp
    simp (disch:=try exact DI) only [↓PR,QR,simprocAttr,hdi,List.take_length,n40c17,(cells_of_heap (f3.obj oV)).1,(cells_of_heap (f3.obj oV)).2]
    rw [if_pos rfl] at hcp
    exact ⟨by unfold flawedB flawOf;rw [hcp];rfl,(((EV.trans f3).setCell sW _).setCell sW _).setCell sW _⟩
end Go.Proofs.YtdfhjlggcdemhaaGreat
namespace Go.Proofs.YtdfhjlggcdemhaaGreat
open Sw
open Go.RowKit (intOf Below)
theorem rNext_ret (w0:World) (v:Value) (f:FieldD) (o:Int) (hf:FieldVal w0 v f) (hok:okA f) (h0:0≤o∧o≤7):Ret Pg 58 #[v,.int .i64 o] w0 fun r w'=>r = .int .i64 (nextO f o)∧Ext w0 w':=by
 obtain ⟨tv,cv,rfl,hT,hC,ht1,hc1⟩:=hf.op
 refine n59s (R:=retR _) ?_;unfold n59
 simp (disch:=try exact DI) only [↓PR,QR,simprocAttr]
 generalize hW:World.alloc w0 _=W
 have e0:Ext w0 W:=by rw [← hW];exact ee
 have o2:W.heap[w0.heap.size]?=some (.cells (fieldCells f tv cv).toArray 38 (0,0)):=by rw [← hW];simp (disch:=try exact DI) only [↓PR,QR,simprocAttr]
 clear hW
 unfold nextO
 by_cases h12:f.kind=1∨f.kind=2
 · rw [if_pos h12]
   have hb:=hok.1 h12
   rcases h12 with hk | hk
   · have d1:(f.kind == 1)=true:=by simp [hk]
     simp (disch:=try exact DI) only [↓PR,QR,simprocAttr,(cells_of_heap o2).1,d1,wrap_ok,↓n59c1,↓n59c2,↓n59c3,↓n59c4]
     exact ⟨by first | rfl | trivial,e0⟩
   · have d1:(f.kind == 1)=false:=by simp [hk]
     have d2:(f.kind == 2)=true:=by simp [hk]
     simp (disch:=try exact DI) only [↓PR,QR,simprocAttr,(cells_of_heap o2).1,d1,d2,wrap_ok,↓n59c1,↓n59c2,↓n59c3,↓n59c4]
     exact ⟨by first | rfl | trivial,e0⟩
 · rw [if_neg h12]
   have d1:(f.kind == 1)=false:=by simp;omega
   have d2:(f.kind == 2)=false:=by simp;omega
   by_cases h10:f.kind=10
   · rw [if_pos h10]
     have d3:(f.kind == 10)=true:=by simp [h10]
     have hb:=padB_bits (hok.2 h10)
     obtain ⟨q,hq,he,hq1,hq2⟩:=upI_mul h0.1 (show 1≤f.bits by omega)
     have main:f.bits=2∨f.bits=4→loop1 (fun t1 w next4=>n59c1 t1 (.pointer (some ⟨w0.heap.size,0,none⟩)) next4 (retR fun r w'=>r = .int .i64 ((upI o f.bits).tmod 8)∧Ext w0 w') w) (.int .i64 o) W:=by
      intro hbb
      refine loop1_intro (fun a w=>∃ n:Int,a = .int .i64 n∧o≤n∧n≤upI o f.bits∧Ext W w) (fun a _=>(upI o f.bits - intOf a).toNat) ⟨o,rfl,by omega,by omega,Ext.refl _⟩ ?_
      rintro _ w ⟨n,rfl,hn1,hn2,e⟩
      have x2:=e.obj o2
      unfold n59c1
      have hne:f.bits≠0:=by omega
      by_cases hz:n.tmod f.bits=0
      · have hz':(n.tmod f.bits != 0)=false:=by simp [hz]
        have hn:n=upI o f.bits:=by
         rw [Int.tmod_eq_emod_of_nonneg (by omega)] at hz
         rcases hbb with hb | hb
         · have h2:f.bits*q=2*q:=by rw [hb]
           rw [hb] at hz;omega
         · have h2:f.bits*q=4*q:=by rw [hb]
           rw [hb] at hz;omega
        simp (disch:=try exact DI) only [↓PR,QR,simprocAttr,(cells_of_heap x2).1,op_rem,hz']
        exact ⟨by rw [hn],e0.trans e⟩
      · have hz':(n.tmod f.bits != 0)=true:=by simp [hz]
        have hn:n < upI o f.bits:=by
         by_cases hnn:n=upI o f.bits
         · exfalso;apply hz
           rw [Int.tmod_eq_emod_of_nonneg (by omega),hnn,he]
           rcases hbb with hb | hb<;>rw [hb]<;>omega
         · omega
        have hn7:n≤1000:=by have:=hb.2.1;omega
        simp (disch:=try exact DI) only [↓PR,QR,simprocAttr,(cells_of_heap x2).1,op_rem,hz',wrap_ok]
        refine ⟨⟨n+1,rfl,by omega,by omega,e⟩,?_⟩
        simp only [intOf]
        omega
     by_cases hb2:f.bits=2
     · have d4:(f.bits == 2)=true:=by simp [hb2]
       simp (disch:=try exact DI) only [↓PR,QR,simprocAttr,(cells_of_heap o2).1,d1,d2,d3,d4,↓n59c2,↓n59c4]
       exact main (.inl hb2)
     · have d4:(f.bits == 2)=false:=by simp [hb2]
       by_cases hb4:f.bits=4
       · have d5:(f.bits == 4)=true:=by simp [hb4]
         simp (disch:=try exact DI) only [↓PR,QR,simprocAttr,(cells_of_heap o2).1,d1,d2,d3,d4,d5,↓n59c2,↓n59c4]
         exact main (.inr hb4)
       · have d5:(f.bits == 4)=false:=by simp [hb4]
         simp (disch:=try exact DI) only [↓PR,QR,simprocAttr,(cells_of_heap o2).1,d1,d2,d3,d4,d5,↓n59c2,↓n59c4]
         obtain ⟨p,hp,hp2⟩:∃ p,1≤p∧f.bits=8*p:=by
          rcases hb.2.2 with h | h | h
          · exact absurd h hb2
          · exact absurd h hb4
          · exact h
         refine ⟨?_,e0⟩
         rw [he,Int.tmod_eq_emod_of_nonneg (Int.mul_nonneg (by omega) hq),hp2,Int.mul_assoc,Int.mul_emod_right]
   · rw [if_neg h10]
     have d3:(f.kind == 10)=false:=by simp [h10]
     simp (disch:=try exact DI) only [↓PR,QR,simprocAttr,(cells_of_heap o2).1,d1,d2,d3,↓n59c1,↓n59c2,↓n59c3,↓n59c4]
     exact ⟨trivial,e0⟩
def offsL (l:List FieldD):List Int:=(List.range l.length).map fun k=>endO (l.take k)
theorem offsL_get {l:List FieldD} {k:Nat} (h:k < l.length):(offsL l)[k]?=some (endO (l.take k)):=by
 unfold offsL;rw [List.getElem?_map,List.getElem?_range h];rfl
theorem offsL_len (l:List FieldD):(offsL l).length=l.length:=by unfold offsL;simp
theorem offsL_snoc {l:List FieldD} {k:Nat} {x:FieldD} (h:l[k]?=some x):offsL (l.take (k+1))=offsL (l.take k)++[endO (l.take k)]:=by
 have hlt:=(List.getElem?_eq_some_iff.1 h).1
 have h1:(l.take (k+1)).length=k+1:=by rw [List.length_take];omega
 have h2:(l.take k).length=k:=by rw [List.length_take];omega
 unfold offsL
 rw [h1,h2,List.range_succ,List.map_append]
 congr 1
 · refine List.map_congr_left fun j hj=>?_
   have:=List.mem_range.1 hj
   rw [List.take_take,List.take_take,Nat.min_eq_left (by omega),Nat.min_eq_left (by omega)]
 · simp only [List.map_cons,List.map_nil]
   rw [List.take_take,Nat.min_eq_left (by omega)]
theorem rOffsets_ret (w0:World) (v:Value) (m:MsgD) (hm:MsgVal w0 v m) (hok:∀ f∈m.fields,okA f) (hlen:m.fields.length≤1048576):Ret Pg 23 #[v] w0 fun r w'=>∃ lv,r = .tuple #[lv,.int .i64 (endO m.fields)]∧OwnE w' w0.heap.size 3 1 (fun n=>[Value.int .i64 n]) lv (offsL m.fields)∧Ext w0 w':=by
 obtain ⟨fv,rfl,hF⟩:=hm
 obtain ⟨A,c,rfl,hlc,hcm,hlm,hel⟩:=SliceOf.open hF
 refine n58s (R:=retR _) ?_;unfold n58
 simp (disch:=try exact DI) only [↓PR,QR,simprocAttr]
 generalize hW:World.alloc w0 _=W
 have e0:Ext w0 W:=by rw [← hW];exact ee
 have o1:W.heap[w0.heap.size]?=some (.cells (msgCells m (.slice A m.fields.length c)).toArray 44 (0,0)):=by rw [← hW];simp (disch:=try exact DI) only [↓PR,QR,simprocAttr]
 clear hW
 have s0:=e0.size
 refine loop3_intro (fun a b i w=>∃ k:Nat,k≤m.fields.length∧i = .int .i64 k∧b = .int .i64 (endO (m.fields.take k))∧OwnE w W.heap.size 3 1 (fun n=>[Value.int .i64 n]) a (offsL (m.fields.take k))∧Ext W w) (fun _ _ i _=>m.fields.length - (intOf i).toNat) ⟨0,by omega,rfl,rfl,OwnE.nil _ _ _ _ _,Ext.refl _⟩ ?_
 rintro a _ _ w ⟨k,hk,rfl,rfl,hO,e⟩
 have x1:=e.obj o1
 have hB:=endO_bounds (l:=m.fields.take k) fun f hf=>hok f (List.mem_of_mem_take hf)
 unfold n58c2
 rcases drop_cases hk with ⟨x,hx,hd,hlt,hdec⟩ | ⟨hk,hd,hdec⟩
 · obtain ⟨b,o,cs,rfl,hl,hA,hE⟩:=hel k x hx
   obtain ⟨tv,cv,rfl,hT,hC,ht1,hc1⟩:=hE.op
   have hokx:=hok x (List.mem_of_getElem? hx)
   simp (disch:=try exact DI) only [↓PR,QR,simprocAttr,(cells_of_heap x1).1,hdec]
   unfold n58c1
   simp (disch:=try exact DI) only [↓PR,QR,simprocAttr]
   have eX:Ext w (w.alloc (.cells #[.int .i64 (endO (m.fields.take k))] 3)):=ee
   have hN:ElemAt (w.alloc (.cells #[.int .i64 (endO (m.fields.take k))] 3)) w.heap.size 0 [Value.int .i64 (endO (m.fields.take k))]:=ElemAt.new _ _
   generalize (w.alloc (.cells #[.int .i64 (endO (m.fields.take k))] 3))=X at eX hN ⊢
   have hlk:(m.fields.take k).length=k:=by rw [List.length_take];omega
   refine append_one Tryz.underlying48 ty3 by3 rfl (by decide) (fun _=>rfl) (endO (m.fields.take k)) (by simp only [List.forall_mem_cons];exact ⟨rfl,by simp⟩) (hO.ext eX) hN (by have:=e.size;have:=eX.size;omega) (by rw [offsL_len];omega) (fun v' X2 hO2 hE2=>?_)
   have eX2:Ext W X2:=hE2 W (e.trans eX) (Nat.le_refl _)
   have y1:=eX2.obj o1
   have E2:=e0.trans eX2
   simp (disch:=try exact DI) only [↓PR,QR,simprocAttr,(cells_of_heap y1).1,hA.c15 E2]
   refine zcr (rNext_ret _ _ x _ ⟨tv,cv,rfl,hT.ext E2,hC.ext E2⟩ hokx hB) fun w3 e3=>?_
   simp (disch:=try exact DI) only [↓PR,QR,simprocAttr]
   rw [← endO_step hx]
   rw [← offsL_snoc hx] at hO2
   exact ⟨⟨k+1,by omega,rfl,rfl,hO2.ext e3,eX2.trans e3⟩,meas_lt hlt⟩
 · subst hk
   simp (disch:=try exact DI) only [↓PR,QR,simprocAttr,(cells_of_heap x1).1,hdec]
   rw [List.take_length] at hO ⊢
   exact ⟨_,rfl,hO.base e0.size,e0.trans e⟩
end Go.Proofs.YtdfhjlggcdemhaaGreat
namespace Go.Proofs.YtdfhjlggcdemhaaGreat
open Sw
def n32c1 (t6 t10 t11:Value) (Kr2:World→Prop) (Qr2:List PanicEntry→World→Prop) (Xr2:Nat→World→Prop) (R:RT) (w:World):Prop :=
 opV Pg (Instr.loadAt 3 t11) Qr2 w fun t43 w =>
 opV Pg (binS .add 3 true t43 (.int .i64 1)) Qr2 w fun t44 w =>
 opU Pg (Instr.storeAt 3 t11 t44) Qr2 w fun w =>
 opV Pg (Instr.loadAt 3 t10) Qr2 w fun t45 w =>
 opV Pg (binS .eql 3 true t45 (.int .i64 0)) Qr2 w fun t46 w =>
 joinK (fun (t50:Value) (w:World) =>
 pickK t46 t50 (.bool false) fun t51 =>
 condP t51 (
 Xr2 1 w) (
 Kr2 w)) fun K5 =>
 guardP t46 true (
 opV Pg (Instr.loadAt 3 t11) Qr2 w fun t48 w =>
 opV Pg (Instr.loadAt 3 t6) Qr2 w fun t49 w =>
 opV Pg (binS .geq 3 false t48 t49) Qr2 w fun t50 w =>
 K5 t50 w) (
 K5 undef w)
def n32c2 (t6 t7 t8 t10 t11 t25 t29 t33:Value) (Kr2:World→Prop) (Qr2:List PanicEntry→World→Prop) (Xr2:Nat→World→Prop) (R:RT) (w:World):Prop :=
 pickK t29 (.bool true) t33 fun t34 =>
 joinK (fun (t41:Value) (w:World) =>
 pickK t34 (.bool true) t41 fun t42 =>
 condP t42 (
 opU Pg (Instr.storeAt 4 t8 (.bool false)) Qr2 w fun w =>
 Xr2 0 w) (
 n32c1 t6 t10 t11 Kr2 Qr2 Xr2 R w)) fun K4 =>
 guardP t34 false (
 opV Pg (Instr.loadAt 48 t7) Qr2 w fun t37 w =>
 opV Pg (Instr.loadAt 3 t11) Qr2 w fun t38 w =>
 opV Pg (Instr.indexAt 48 t37 t38) Qr2 w fun t39 w =>
 opV Pg (Instr.loadAt 3 t39) Qr2 w fun t40 w =>
 opV Pg (binS .neq 3 false t25 t40) Qr2 w fun t41 w =>
 K4 t41 w) (
 K4 undef w)
def n32c3 (t6 t7 t8 t10 t11 t24 t25:Value) (Kr2:World→Prop) (Qr2:List PanicEntry→World→Prop) (Xr2:Nat→World→Prop) (R:RT) (w:World):Prop :=
 opV Pg (Instr.loadAt 3 t11) Qr2 w fun t26 w =>
 opV Pg (Instr.loadAt 48 t7) Qr2 w fun t27 w =>
 opV Pg (Builtin.len_ #[48] 3 #[t27]) Qr2 w fun t28 w =>
 opV Pg (binS .geq 3 false t26 t28) Qr2 w fun t29 w =>
 joinK (fun (t33:Value) (w:World) =>
 n32c2 t6 t7 t8 t10 t11 t25 t29 t33 Kr2 Qr2 Xr2 R w) fun K3 =>
 guardP t29 false (
 opV Pg (Instr.loadAt 3 t11) Qr2 w fun t32 w =>
 opV Pg (binS .neq 3 false t24 t32) Qr2 w fun t33 w =>
 K3 t33 w) (
 K3 undef w)
def n32c4 (t8 t10:Value) (next1:List Deferred→Value→World→Prop) (ds:List Deferred) (R:RT) (w:World):Prop :=
 opV Pg (Instr.loadAt 3 t10) (outQ Pg ds [(some 4,t8)] R) w fun t73 w =>
 opV Pg (Instr.alloc 3 true (.tuple #[])) (outQ Pg ds [(some 4,t8)] R) w fun t10 w =>
 opU Pg (Instr.storeAt 3 t10 t73) (outQ Pg ds [(some 4,t8)] R) w fun w =>
 opV Pg (Instr.loadAt 3 t10) (outQ Pg ds [(some 4,t8)] R) w fun t21 w =>
 opV Pg (binS .add 3 true t21 (.int .i64 1)) (outQ Pg ds [(some 4,t8)] R) w fun t22 w =>
 opU Pg (Instr.storeAt 3 t10 t22) (outQ Pg ds [(some 4,t8)] R) w fun w =>
 next1 ds t10 w
def n32c5 (t8 t10 t62 t71:Value) (next1:List Deferred→Value→World→Prop) (ds:List Deferred) (R:RT) (w:World):Prop :=
 pickK t62 (.bool true) t71 fun t72 =>
 condP t72 (
 opU Pg (Instr.storeAt 4 t8 (.bool false)) (outQ Pg ds [(some 4,t8)] R) w fun w =>
 outX Pg ds [(some 4,t8)] R w) (
 n32c4 t8 t10 next1 ds R w)
def n32c6 (t7 t8 t10 t11 t62 t66:Value) (next1:List Deferred→Value→World→Prop) (ds:List Deferred) (R:RT) (w:World):Prop :=
 joinK (fun (t70:Value) (w:World) =>
 joinK (fun (t71:Value) (w:World) =>
 n32c5 t8 t10 t62 t71 next1 ds R w) fun K9 =>
 guardP t62 false (
 pickK t66 t70 (.bool false) fun t71 =>
 K9 t71 w) (
 K9 undef w)) fun K8 =>
 guardP t66 true (
 opV Pg (Instr.loadAt 3 t11) (outQ Pg ds [(some 4,t8)] R) w fun t67 w =>
 opV Pg (Instr.loadAt 48 t7) (outQ Pg ds [(some 4,t8)] R) w fun t68 w =>
 opV Pg (Builtin.len_ #[48] 3 #[t68]) (outQ Pg ds [(some 4,t8)] R) w fun t69 w =>
 opV Pg (binS .neq 3 false t67 t69) (outQ Pg ds [(some 4,t8)] R) w fun t70 w =>
 K8 t70 w) (
 K8 undef w)
def n32c7 (t7 t8 t10 t11 t53 t61:Value) (next1:List Deferred→Value→World→Prop) (ds:List Deferred) (R:RT) (w:World):Prop :=
 pickK t53 t61 (.bool false) fun t62 =>
 joinK (fun (t66:Value) (w:World) =>
 n32c6 t7 t8 t10 t11 t62 t66 next1 ds R w) fun K7 =>
 guardP t62 false (
 opV Pg (Instr.loadAt 3 t10) (outQ Pg ds [(some 4,t8)] R) w fun t64 w =>
 opV Pg (binS .eql 3 true t64 (.int .i64 1)) (outQ Pg ds [(some 4,t8)] R) w fun t65 w =>
 K7 t65 w) (
 K7 undef w)
def n32c8 (t6 t7 t8 t11:Value) (K6:KV) (ds:List Deferred) (R:RT) (w:World):Prop :=
 opV Pg (Instr.loadAt 3 t11) (outQ Pg ds [(some 4,t8)] R) w fun t55 w =>
 opV Pg (Instr.loadAt 48 t7) (outQ Pg ds [(some 4,t8)] R) w fun t56 w =>
 opV Pg (Builtin.len_ #[48] 3 #[t56]) (outQ Pg ds [(some 4,t8)] R) w fun t57 w =>
 opV Pg (Instr.loadAt 3 t6) (outQ Pg ds [(some 4,t8)] R) w fun t58 w =>
 opV Pg (Builtin.max_ #[3,3] 3 #[(.int .i64 1),t58]) (outQ Pg ds [(some 4,t8)] R) w fun t59 w =>
 opV Pg (Builtin.min_ #[3,3] 3 #[t57,t59]) (outQ Pg ds [(some 4,t8)] R) w fun t60 w =>
 opV Pg (binS .neq 3 false t55 t60) (outQ Pg ds [(some 4,t8)] R) w fun t61 w =>
 K6 t61 w
def n32c9 (t6 t7 t8 t10 t11:Value) (next1:List Deferred→Value→World→Prop) (ds:List Deferred) (R:RT) (w:World):Prop :=
 opV Pg (Instr.loadAt 3 t10) (outQ Pg ds [(some 4,t8)] R) w fun t52 w =>
 opV Pg (binS .eql 3 true t52 (.int .i64 0)) (outQ Pg ds [(some 4,t8)] R) w fun t53 w =>
 joinK (fun (t61:Value) (w:World) =>
 n32c7 t7 t8 t10 t11 t53 t61 next1 ds R w) fun K6 =>
 guardP t53 true (
 n32c8 t6 t7 t8 t11 K6 ds R w) (
 K6 undef w)
def n32c10 (t8 t10:Value) (next1:List Deferred→Value→World→Prop) (ds:List Deferred) (R:RT) (w:World):Prop :=
 opV Pg (Instr.loadAt 3 t10) (outQ Pg ds [(some 4,t8)] R) w fun t73 w =>
 opV Pg (Instr.alloc 3 true (.tuple #[])) (outQ Pg ds [(some 4,t8)] R) w fun t10 w =>
 opU Pg (Instr.storeAt 3 t10 t73) (outQ Pg ds [(some 4,t8)] R) w fun w =>
 opV Pg (Instr.loadAt 3 t10) (outQ Pg ds [(some 4,t8)] R) w fun t21 w =>
 opV Pg (binS .add 3 true t21 (.int .i64 1)) (outQ Pg ds [(some 4,t8)] R) w fun t22 w =>
 opU Pg (Instr.storeAt 3 t10 t22) (outQ Pg ds [(some 4,t8)] R) w fun w =>
 next1 ds t10 w
def n32c11 (t8 t10 t62 t71:Value) (next1:List Deferred→Value→World→Prop) (ds:List Deferred) (R:RT) (w:World):Prop :=
 pickK t62 (.bool true) t71 fun t72 =>
 condP t72 (
 opU Pg (Instr.storeAt 4 t8 (.bool false)) (outQ Pg ds [(some 4,t8)] R) w fun w =>
 outX Pg ds [(some 4,t8)] R w) (
 n32c10 t8 t10 next1 ds R w)
def n32c12 (t8 t10 t62 t66 t70:Value) (next1:List Deferred→Value→World→Prop) (ds:List Deferred) (R:RT) (w:World):Prop :=
 joinK (fun (t71:Value) (w:World) =>
 n32c11 t8 t10 t62 t71 next1 ds R w) fun K13 =>
 guardP t62 false (
 pickK t66 t70 (.bool false) fun t71 =>
 K13 t71 w) (
 K13 undef w)
def n32c13 (t7 t8 t10 t11 t62 t66:Value) (next1:List Deferred→Value→World→Prop) (ds:List Deferred) (R:RT) (w:World):Prop :=
 joinK (fun (t70:Value) (w:World) =>
 n32c12 t8 t10 t62 t66 t70 next1 ds R w) fun K12 =>
 guardP t66 true (
 opV Pg (Instr.loadAt 3 t11) (outQ Pg ds [(some 4,t8)] R) w fun t67 w =>
 opV Pg (Instr.loadAt 48 t7) (outQ Pg ds [(some 4,t8)] R) w fun t68 w =>
 opV Pg (Builtin.len_ #[48] 3 #[t68]) (outQ Pg ds [(some 4,t8)] R) w fun t69 w =>
 opV Pg (binS .neq 3 false t67 t69) (outQ Pg ds [(some 4,t8)] R) w fun t70 w =>
 K12 t70 w) (
 K12 undef w)
def n32c14 (t7 t8 t10 t11 t53 t61:Value) (next1:List Deferred→Value→World→Prop) (ds:List Deferred) (R:RT) (w:World):Prop :=
 pickK t53 t61 (.bool false) fun t62 =>
 joinK (fun (t66:Value) (w:World) =>
 n32c13 t7 t8 t10 t11 t62 t66 next1 ds R w) fun K11 =>
 guardP t62 false (
 opV Pg (Instr.loadAt 3 t10) (outQ Pg ds [(some 4,t8)] R) w fun t64 w =>
 opV Pg (binS .eql 3 true t64 (.int .i64 1)) (outQ Pg ds [(some 4,t8)] R) w fun t65 w =>
 K11 t65 w) (
 K11 undef w)
def n32c15 (t6 t7 t8 t11:Value) (K10:KV) (ds:List Deferred) (R:RT) (w:World):Prop :=
 opV Pg (Instr.loadAt 3 t11) (outQ Pg ds [(some 4,t8)] R) w fun t55 w =>
 opV Pg (Instr.loadAt 48 t7) (outQ Pg ds [(some 4,t8)] R) w fun t56 w =>
 opV Pg (Builtin.len_ #[48] 3 #[t56]) (outQ Pg ds [(some 4,t8)] R) w fun t57 w =>
 opV Pg (Instr.loadAt 3 t6) (outQ Pg ds [(some 4,t8)] R) w fun t58 w =>
 opV Pg (Builtin.max_ #[3,3] 3 #[(.int .i64 1),t58]) (outQ Pg ds [(some 4,t8)] R) w fun t59 w =>
 opV Pg (Builtin.min_ #[3,3] 3 #[t57,t59]) (outQ Pg ds [(some 4,t8)] R) w fun t60 w =>
 opV Pg (binS .neq 3 false t55 t60) (outQ Pg ds [(some 4,t8)] R) w fun t61 w =>
 K10 t61 w
def n32c16 (t6 t7 t8 t10 t11:Value) (next1:List Deferred→Value→World→Prop) (ds:List Deferred) (R:RT) (w:World):Prop :=
 opV Pg (Instr.loadAt 3 t10) (outQ Pg ds [(some 4,t8)] R) w fun t52 w =>
 opV Pg (binS .eql 3 true t52 (.int .i64 0)) (outQ Pg ds [(some 4,t8)] R) w fun t53 w =>
 joinK (fun (t61:Value) (w:World) =>
 n32c14 t7 t8 t10 t11 t53 t61 next1 ds R w) fun K10 =>
 guardP t53 true (
 n32c15 t6 t7 t8 t11 K10 ds R w) (
 K10 undef w)
def n32c17 (t6 t7 t8 t10 t16:Value) (next1:List Deferred→Value→World→Prop) (ds:List Deferred) (R:RT) (w:World):Prop :=
 opV Pg (Instr.alloc 3 true (.tuple #[])) (outQ Pg ds [(some 4,t8)] R) w fun t11 w =>
 opU Pg (Instr.storeAt 3 t11 (.int .i64 0)) (outQ Pg ds [(some 4,t8)] R) w fun w =>
 rangeN2 Pg t16 ds (fun l2 t24 t25 w Kr2 Xr2 Qr2 =>
 busyK l2 w fun w =>
 n32c3 t6 t7 t8 t10 t11 t24 t25 Kr2 Qr2 Xr2 R w) (fun ch ds w=>outQ Pg ds [(some 4,t8)] R ch w) w (fun ds w =>
 n32c9 t6 t7 t8 t10 t11 next1 ds R w) [fun ds w =>
 outX Pg ds [(some 4,t8)] R w,fun ds w =>
 n32c16 t6 t7 t8 t10 t11 next1 ds R w]
def n32c18 (t6 t7 t8 t10 t16:Value) (next1:List Deferred→Value→World→Prop) (ds:List Deferred) (R:RT) (w:World):Prop :=
 opV Pg (Instr.loadAt 3 t10) (outQ Pg ds [(some 4,t8)] R) w fun t19 w =>
 opV Pg (binS .lss 3 true t19 (.int .i64 2)) (outQ Pg ds [(some 4,t8)] R) w fun t20 w =>
 condP t20 (
 n32c17 t6 t7 t8 t10 t16 next1 ds R w) (
 opU Pg (Instr.storeAt 4 t8 (.bool true)) (outQ Pg ds [(some 4,t8)] R) w fun w =>
 outX Pg ds [(some 4,t8)] R w)
def n32c19 (t6 t7 t8 t16:Value) (ds:List Deferred) (R:RT) (w:World):Prop :=
 opV Pg (Instr.alloc 3 true (.tuple #[])) (outQ Pg ds [(some 4,t8)] R) w fun t10 w =>
 opU Pg (Instr.storeAt 3 t10 (.int .i64 0)) (outQ Pg ds [(some 4,t8)] R) w fun w =>
 loopM1 (fun ds t10 w next1 =>
 n32c18 t6 t7 t8 t10 t16 next1 ds R w) ds t10 w
def n32c20 (t6 t7 t8 t16:Value) (ds:List Deferred) (R:RT) (w:World):Prop :=
 opV Pg (binS .eql 46 true t16 .nilFunc) (outQ Pg ds [(some 4,t8)] R) w fun t18 w =>
 condP t18 (
 opU Pg (Instr.storeAt 4 t8 (.bool false)) (outQ Pg ds [(some 4,t8)] R) w fun w =>
 outX Pg ds [(some 4,t8)] R w) (
 n32c19 t6 t7 t8 t16 ds R w)
def n32 (t0 t1 t2 t3:Value) (R:RT) (w:World):Prop :=
 (fun (ds:List Deferred) =>
 opV Pg (Instr.box 24 t0) (outQ Pg ds [(some 4,undef)] R) w fun t4 w =>
 opV Pg (Instr.box 3 t2) (outQ Pg ds [(some 4,undef)] R) w fun t6 w =>
 opV Pg (Instr.box 48 t3) (outQ Pg ds [(some 4,undef)] R) w fun t7 w =>
 opV Pg (Instr.alloc 4 true (.tuple #[])) (outQ Pg ds [(some 4,undef)] R) w fun t8 w =>
 opV Pg (Instr.loadAt 24 t4) (outQ Pg ds [(some 4,t8)] R) w fun t14 w =>
 callK Pg 22 #[t14,t1] (outQ Pg ds [(some 4,t8)] R) w fun t16 w =>
 n32c20 t6 t7 t8 t16 ds R w) []
set_option maxHeartbeats 40000000 in
theorem n32s {t0 t1 t2 t3:Value} {R:RT} {w:World} (h:n32 t0 t1 t2 t3 R w):Calls Pg 29 #[t0,t1,t2,t3] w R:=by
 refine yE Tryz.func29 ?_
 unfold n32 at h
 dsimp only at h
 refine zs<|zr<|yv h fun _ w h=>yv h fun _ w h=>yv h fun _ w h=>yv h fun _ w h=>zn<|zk<|zs<|zr<|yv h fun _ w h=>zm<|yc h c22 fun _ w h=>zm<|zn ?_
 refine zk<|zs<|zs<|zr<|zm<|yb h fun _ w h=>zn<|zk<|yC h (fun h=>zs<|zr<|yu h fun w h=>zn<|zk<|sim_ret<|sim_then_ret<|bodyM_ret rfl h) fun h=>sim_skip<|zk<|zs<|zs<|zr ?_
 refine yv h fun _ w h=>yu h fun w h=>zn<|zk<|sim_block<|yL1 [10,11,19,20,21,22,23,52,53,54,55,56,57,58,59,60,61,62,63,64,65,66,67,68,69,70,71,72,73] 10 h fun σ ds w next h=>zs<|zs<|zr<|yv h fun _ w h=>yb h fun _ w h=>zn<|zk<|yC h (fun h=>?_) fun h=>?_
 · refine sim_skip<|zk<|zs<|sim_block<|zs<|zr<|yv h fun _ w h=>yu h fun w h=>zn<|zk<|zs<|zs<|zr<|zm<|zn ?_
   refine zk<|sim_block<|sim_range2 [.ret,.exit 2] h rfl (fun l2 t24 t25 w Kr2 Xr2 Qr2 h=>?_) (fun ds w h=>?_) (fun c ds w h=>?_) (fun ch ds w h=>outQ_of rfl h)
   · refine zs<|zr<|zm<|zn<|zk<|zr<|zm<|zn<|zk ?_
     obtain ⟨hr,h⟩:=h
     refine ⟨rfl,hr,fun w hb=>?_⟩
     have h:=h w hb
     refine sim_block<|zs<|zs<|sim_regionG<|yG 5<|yv h fun _ w h=>yv h fun _ w h=>yx h fun _ w h=>yb h fun _ w h=>zm<|zn<|yg1 3 4 false [31,32,33] 33 h (fun _ T hT h=>?_) fun σ w h=>?_
     · refine zm<|yv h fun _ w h=>yb h fun _ w h=>zn ?_
       exact zt hT h
     refine yG 2<|yp h fun _ h=>zm<|zn<|yg1 6 9 false [36,37,38,39,40,41] 41 h (fun _ T hT h=>?_) fun σ w h=>?_
     · refine zm<|yv h fun _ w h=>yv h fun _ w h=>yv h fun _ w h=>yv h fun _ w h=>yb h fun _ w h=>zn ?_
       exact zt hT h
     refine yG 1<|yp h fun _ h=>zn<|sim_end<|zk<|yC h (fun h=>zs<|zr<|yu h fun w h=>zn<|zk<|sim_ret<|sim_then_ret<|sim_block_ret<|⟨rfl,0,rfl,h⟩) fun h=>sim_skip<|zk<|zs<|zr<|yv h fun _ w h=>yb h fun _ w h=>yu h fun w h=>zn ?_
     refine zk<|zs<|sim_regionG<|yG 3<|yv h fun _ w h=>yb h fun _ w h=>zm<|zn<|yg1 3 2 true [48,49,50] 50 h (fun _ T hT h=>?_) fun σ w h=>?_
     · refine yv h fun _ w h=>yv h fun _ w h=>yb h fun _ w h=>zn ?_
       exact zt hT h
     exact yG 1<|yp h fun _ h=>zn<|sim_end<|zk<|yC h (fun h=>sim_exit<|sim_block_miss rfl<|⟨rfl,1,rfl,h⟩) fun h=>sim_skip<|sim_block_normal<|⟨rfl,h⟩
   · refine sim_block_normal<|zk<|zs<|sim_regionG<|yG 3<|yv h fun _ w h=>yb h fun _ w h=>zm<|zn<|yg1 7 2 true [55,56,57,58,59,60,61] 61 h (fun _ T hT h=>?_) fun σ w h=>?_
     · refine yv h fun _ w h=>yv h fun _ w h=>yx h fun _ w h=>yv h fun _ w h=>yx h fun _ w h=>yx h fun _ w h=>yb h fun _ w h=>zn ?_
       exact zt hT h
     refine yG 2<|yp h fun _ h=>zm<|zn<|yg1 3 11 false [64,65,66] 66 h (fun _ T hT h=>?_) fun σ w h=>?_
     · refine yv h fun _ w h=>yb h fun _ w h=>zm<|zn ?_
       exact zt hT h
     refine yg1 4 14 true [67,68,69,70] 70 h (fun _ T hT h=>?_) fun σ w h=>?_
     · refine yv h fun _ w h=>yv h fun _ w h=>yx h fun _ w h=>yb h fun _ w h=>zn ?_
       exact zt hT h
     refine yg1 1 11 false [71] 71 h (fun _ T hT h=>?_) fun σ w h=>?_
     · refine yp h fun _ h=>zn ?_
       exact zt hT h
     refine yG 1<|yp h fun _ h=>zn<|sim_end<|zk<|yC h (fun h=>zs<|zr<|yu h fun w h=>zn<|zk<|sim_ret<|sim_block_ret<|sim_then_ret<|sim_then_ret<|sim_block_ret<|sim_then_ret<|bodyM_ret rfl h) fun h=>sim_skip<|sim_block_normal<|zk<|zs<|zs<|zr<|yv h fun _ w h=>zn ?_
     exact zk<|zr<|yv h fun _ w h=>yu h fun w h=>zn<|zk<|zr<|yv h fun _ w h=>yb h fun _ w h=>yu h fun w h=>zn<|zk<|h
   rcases c with _ | c
   · refine ⟨_,rfl,.inl ⟨rfl,?_⟩⟩
     exact sim_block_ret<|sim_then_ret<|sim_block_ret<|sim_then_ret<|sim_then_ret<|sim_block_ret<|sim_then_ret<|bodyM_ret rfl h
   rcases c with _ | c
   · refine ⟨_,rfl,.inr ⟨_,rfl,?_⟩⟩
     refine sim_block_hit<|zk<|zs<|sim_regionG<|yG 3<|yv h fun _ w h=>yb h fun _ w h=>zm<|zn<|yg1 7 2 true [55,56,57,58,59,60,61] 61 h (fun _ T hT h=>?_) fun σ w h=>?_
     · refine yv h fun _ w h=>yv h fun _ w h=>yx h fun _ w h=>yv h fun _ w h=>yx h fun _ w h=>yx h fun _ w h=>yb h fun _ w h=>zn ?_
       exact zt hT h
     refine yG 2<|yp h fun _ h=>zm<|zn<|yg1 3 11 false [64,65,66] 66 h (fun _ T hT h=>?_) fun σ w h=>?_
     · refine yv h fun _ w h=>yb h fun _ w h=>zm<|zn ?_
       exact zt hT h
     refine yg1 4 14 true [67,68,69,70] 70 h (fun _ T hT h=>?_) fun σ w h=>?_
     · refine yv h fun _ w h=>yv h fun _ w h=>yx h fun _ w h=>yb h fun _ w h=>zn ?_
       exact zt hT h
     refine yg1 1 11 false [71] 71 h (fun _ T hT h=>?_) fun σ w h=>?_
     · refine yp h fun _ h=>zn ?_
       exact zt hT h
     refine yG 1<|yp h fun _ h=>zn<|sim_end<|zk<|yC h (fun h=>zs<|zr<|yu h fun w h=>zn<|zk<|sim_ret<|sim_block_ret<|sim_then_ret<|sim_then_ret<|sim_block_ret<|sim_then_ret<|bodyM_ret rfl h) fun h=>sim_skip<|sim_block_normal<|zk<|zs<|zs<|zr<|yv h fun _ w h=>zn ?_
     exact zk<|zr<|yv h fun _ w h=>yu h fun w h=>zn<|zk<|zr<|yv h fun _ w h=>yb h fun _ w h=>yu h fun w h=>zn<|zk<|h
   exact h.elim
 exact sim_exit<|sim_then_exit<|sim_then_exit<|sim_block_hit<|zk<|zs<|zr<|yu h fun w h=>zn<|zk<|sim_ret<|bodyM_ret rfl h
end Go.Proofs.YtdfhjlggcdemhaaGreat
namespace Go.Proofs.YtdfhjlggcdemhaaGreat
open Sw
open Go.RowKit (intOf Below)
def zeroF:FieldD:={ name:=ByteArray.empty,kind:=0,bits:=0,little:=false,loose:=false,low:=0,high:=0,base:=0,terms:=[],of:=ByteArray.empty,tag:=ByteArray.empty,fr:=ByteArray.empty,cases:=[],check:=0,key:=0 }
def gF:List FieldD:=[{ zeroF with name:=⟨#[97]⟩,kind:=1,bits:=3,high:=7 },{ zeroF with name:=⟨#[112]⟩,kind:=10,bits:=4 },{ zeroF with name:=⟨#[98]⟩,kind:=2,bits:=4 },{ zeroF with name:=⟨#[99]⟩,kind:=4 }]
def gD (l:List FieldD):DefD:=⟨⟨#[100]⟩,[⟨⟨#[109]⟩,l⟩],⟨#[109]⟩⟩
abbrev gVal (bm:Nat):Value := .agg #[.string ⟨#[100]⟩,.slice (some ⟨bm,0,none⟩) 1 1,.string ⟨#[109]⟩]
abbrev encP (f:FieldD):List Value:=fieldCells f (.slice none 0 0) (.slice none 0 0)
theorem own_fields {w:World} {base:Nat} {v:Value} {l:List FieldD} (h:OwnE w base 38 15 encP v l) (hl:∀ f∈l,f.terms=[]∧f.cases=[]):FieldsOf w v l:=h.slice (fun _=>rfl) fun f hf=>⟨_,_,rfl,by rw [(hl f hf).1];exact SliceOf.nil _ _ _,by rw [(hl f hf).2];exact SliceOf.nil _ _ _⟩
theorem one_def {w:World} {bm:Nat} {v:Value} {l:List FieldD} (h:w.heap[bm]?=some (.cells #[.string ⟨#[109]⟩,v] 44 (0,0))) (hF:FieldsOf w v l):DefVal w (gVal bm) (gD l):=by
 refine ⟨_,rfl,_,1,rfl,Nat.le_refl 1,by decide,fun _=>⟨bm,0,rfl,fun k x hx=>?_⟩⟩
 cases k with
 | succ k=>simp [gD] at hx
 | zero =>
  simp [gD] at hx;subst hx
  exact ⟨[.string ⟨#[109]⟩,v],rfl,fun j u hu=>by rw [(cells_of_heap h).1];simpa using hu,v,rfl,hF⟩
theorem gF_plain:∀ f∈gF,f.terms=[]∧f.cases=[]:=by decide
theorem given_ret (w0:World):Ret Pg 46 #[] w0 fun r w'=>∃ bf bm,r=gVal bm∧w0.heap.size≤bf∧bf < bm∧bm < w'.heap.size∧OwnE w' w0.heap.size 38 15 encP (.slice (some ⟨bf,0,none⟩) 4 4) gF∧w'.heap[bm]?=some (.cells #[.string ⟨#[109]⟩,.slice (some ⟨bf,0,none⟩) 4 4] 44 (0,0))∧Ext w0 w':=by
 refine n28s (R:=retR _) ?_;unfold n28
 simp (disch:=try exact DI) only [↓PR,QR,simprocAttr]
 refine ⟨w0.heap.size+1,w0.heap.size+1+1,rfl,by omega,by omega,by omega,⟨rfl,.inr ⟨_,4,(gF.flatMap encP).toArray,rfl,by omega,?_,Nat.le_refl _,by decide,rfl,rfl⟩⟩,?_,ee⟩
 · simp (disch:=try exact DI) only [↓PR,QR,simprocAttr]
   rfl
 · simp (disch:=try exact DI) only [↓PR,QR,simprocAttr]
theorem idxG {w:World} {QP:List PanicEntry→World→Prop} {k:Value→World→Prop} (b:Nat):opV Pg (Instr.indexAt 22 (.slice (some ⟨b,0,none⟩) 1 1) (.int .i64 0)) QP w k=k (.pointer (some ⟨b,0,none⟩)) w:=op_indexN Tryz.underlying22 ty44 b 0 1 1 .i64 0 (by decide)
theorem qidxG {C:World→Prop} [ClassNe C] {k:Value→Prop} (b:Nat):qV Pg C (Instr.indexAt 22 (.slice (some ⟨b,0,none⟩) 1 1) (.int .i64 0)) k=k (.pointer (some ⟨b,0,none⟩)):=qV_of fun _ _ _=>idxG b
def gL (k:Nat):List FieldD:=gF.take k++gF.drop (k+1)
theorem calm_g {l:List FieldD} (h:∀ f∈l,f.terms=[]∧f.cases=[]) (hr:(allRefs l).length≤1048576):calm (gD l):=by
 intro m hm
 simp only [gD,List.mem_singleton] at hm
 subst hm
 exact ⟨hr,fun f hf=>by rw [(h f hf).1];decide⟩
theorem al_g:alignP (gD gF)=(0,0,0):=by decide +kernel
theorem al_1:alignP (gD (gL 1))=(0,2,12):=by decide +kernel
theorem al_2:alignP (gD (gL 2))=(0,2,12):=by decide +kernel
theorem of_g:offsL gF=[0,3,4,0]:=by decide +kernel
theorem en_g:endO gF=0:=by decide +kernel
theorem fx_g:fixO gF=7:=by decide +kernel
theorem op_sliceFrom {P:Program} {QP:List PanicEntry→World→Prop} {w:World} {k:Value→World→Prop} {t e:TypeId} {agg:Bool} {n m:Nat} {z:Value} (hu:P.underlying t=some (.slice e)) (ht:TyInfo P e agg n m z) (b o len cap:Nat) (kd:IntKind) (l:Nat) (hl:l≤len) (hc:l < cap) :
 opV P (Instr.sliceAt t (.slice (some ⟨b,o,none⟩) len cap) (some (.int kd (l:Int))) none none) QP w k=k (.slice (some ⟨b,o+l*n,none⟩) (len - l) (cap - l)) w:=by
 refine opV_ok ?_
 have h3:(l:Int)≤(len:Int):=by omega
 have h4:(0:Int)≤(l:Int):=by omega
 have h5:¬ cap=l:=by omega
 simp [Instr.sliceAt,run_underlying hu,Instr.slice,Instr.sliceBounds,run_sliceBound,h3,h4,h5,Sw.run_sizeOf ht,Addr.add_lit]
theorem encP_one (f:FieldD):∀ u∈encP f,u.oneCell'=true:=by
 intro u hu
 simp only [encP,fieldCells,List.mem_cons,List.not_mem_nil,or_false] at hu
 rcases hu with h | h | h | h | h | h | h | h | h | h | h | h | h | h | h<;>subst h<;>rfl
theorem less_ret (w0:World) (k:Nat) (hk:k=1∨k=2):Ret Pg 47 #[.int .i64 (k:Int)] w0 fun r w'=>DefVal w' r (gD (gL k))∧Ext w0 w':=by
 refine n30s (R:=retR _) ?_;unfold n30
 simp (disch:=try exact DI) only [↓PR,QR,Int.reduceBEq,Int.reduceBNe,Int.reduceLT,Int.reduceLE,Int.reduceGT,Int.reduceGE,Int.reduceNeg]
 generalize hW:World.alloc w0 _=W
 have e0:Ext w0 W:=by rw [← hW];exact ee
 have o2:W.heap[w0.heap.size]?=some (.cells #[.string ByteArray.empty,.slice none 0 0,.string ByteArray.empty] 24 (0,0)):=by rw [← hW];simp (disch:=try exact DI) only [↓PR,QR,Int.reduceBEq,Int.reduceBNe,Int.reduceLT,Int.reduceLE,Int.reduceGT,Int.reduceGE,Int.reduceNeg]
 clear hW
 refine callK_ret (given_ret _) ?_
 rintro _ w1 ⟨bf,bm,rfl,hbf,hbm,hbs,hO,hm,e1⟩
 have E1:=e0.trans e1
 unfold n30c4
 simp (disch:=try exact DI) only [↓PR,QR,Int.reduceBEq,Int.reduceBNe,Int.reduceLT,Int.reduceLE,Int.reduceGT,Int.reduceGE,Int.reduceNeg,(cells_of_heap hm).1,↓idxG]
 have eX:Ext w1 (w1.alloc (.cells #[.string ⟨#[100]⟩,.slice (some ⟨bm,0,none⟩) 1 1,.string ⟨#[109]⟩] 24)):=ee
 have oX:=heap_new w1 #[.string ⟨#[100]⟩,.slice (some ⟨bm,0,none⟩) 1 1,.string ⟨#[109]⟩] 24
 generalize (w1.alloc (.cells #[.string ⟨#[100]⟩,.slice (some ⟨bm,0,none⟩) 1 1,.string ⟨#[109]⟩] 24))=X at eX oX ⊢
 have E2:=E1.trans eX
 refine drawK_intro ?_
 have eD:Ext X X.drew:=(Ext.refl _).wdrew
 unfold n30c3
 simp (disch:=try exact DI) only [↓PR,QR,Int.reduceBEq,Int.reduceBNe,Int.reduceLT,Int.reduceLE,Int.reduceGT,Int.reduceGE,Int.reduceNeg,(cells_of_heap oX).1]
 rw [qV_of fun QP w' K=>op_sliceTo (QP:=QP) (w:=w') (k:=K) Tryz.underlying42 ty38 bf 0 4 4 .i64 k (by omega)]
 simp (disch:=try exact DI) only [↓PR,QR,Int.reduceBEq,Int.reduceBNe,Int.reduceLT,Int.reduceLE,Int.reduceGT,Int.reduceGE,Int.reduceNeg]
 rw [qV_of fun QP w' K=>op_sliceFrom (QP:=QP) (w:=w') (k:=K) Tryz.underlying42 ty38 bf 0 4 4 .i64 (k+1) (by omega) (by omega)]
 simp (disch:=try exact DI) only [↓PR,QR,Int.reduceBEq,Int.reduceBNe,Int.reduceLT,Int.reduceLE,Int.reduceGT,Int.reduceGE,Int.reduceNeg]
 have lX:=(Array.getElem?_eq_some_iff.1 oX).1
 have oX':X.drew.heap[w1.heap.size]?=some (.cells #[.string ⟨#[100]⟩,.slice (some ⟨bm,0,none⟩) 1 1,.string ⟨#[109]⟩] 24 (0,0)):=oX
 have E3:=E2.trans eD
 have e13:=eX.trans eD
 have sZ:X.drew.heap.size=X.heap.size:=World.size_drew _
 generalize X.drew=Z at eD oX' E3 e13 sZ ⊢
 have hO0:=OwnE.new Z 38 15 encP [] (fun _=>rfl) (by simp)
 simp only [List.flatMap_nil,List.length_nil] at hO0
 have eY:Ext Z (Z.alloc (.cells #[] 38)):=ee
 have sY:Z.heap.size≤(Z.alloc (.cells #[] 38)).heap.size:=eY.size
 rw [sZ] at hO0 sY
 generalize (Z.alloc (.cells #[] 38))=Y at hO0 eY sY ⊢
 refine ⟨eY,?_⟩
 obtain ⟨A,cc,hA,_,_,_,hel⟩:=SliceOf.open (hO.slice (E:=fun _ cs f=>cs=encP f) (fun _=>rfl) (fun _ _=>rfl))
 have helem:∀ (W':World) (j:Nat) (x:FieldD),Ext w1 W'→gF[j]?=some x→ElemAt W' bf (j*15) (encP x):=by
  intro W' j x eW' hj
  obtain ⟨b,o,cs,hA',_,hE,rfl⟩:=hel j x hj
  injection hA with hA1 _ _
  rw [← hA1] at hA'
  injection hA' with hA'
  injection hA' with h1 h2 _
  rw [← h1,← h2,Nat.zero_add] at hE
  exact hE.ext eW'
 have hlk:(gF.take k).length=k:=by rcases hk with rfl | rfl<;>rfl
 have hld:(gF.drop (k+1)).length=4 - (k+1):=by rcases hk with rfl | rfl<;>rfl
 have ap:=fun (K:Value→World→Prop) (QP:List PanicEntry→World→Prop) hk=>op_appendE (P:=Pg) (QP:=QP) (k:=K) (ty:=42) (l':=gF.take k) (c:=4) (b:=bf) (o:=0) Tryz.underlying42 ty38 rfl (by decide) (fun _=>rfl) (fun x _=>encP_one x) hO0 (fun j x hj=>by
  rw [Nat.zero_add]
  exact helem _ j x (e13.trans eY) (take_get hj)) sY (Nat.le_trans (Nat.mul_le_mul (show 0+(gF.take k).length≤4 by omega) by38) (by decide)) (by simp;omega) hk
 simp only [hlk] at ap
 unfold n30c2
 refine ap _ _ (fun v1 Y1 hO1 hg1=>?_)
 have eY1:Ext Z Y1:=eY.grown hg1 fun g hg=>by have:=(World.ownsRow.lt hO0 g hg).1;omega
 refine ⟨eY1,?_⟩
 have ap2:=fun (K:Value→World→Prop) (QP:List PanicEntry→World→Prop) hk=>op_appendE (P:=Pg) (QP:=QP) (k:=K) (ty:=42) (l':=gF.drop (k+1)) (c:=4 - (k+1)) (b:=bf) (o:=(k+1)*15) Tryz.underlying42 ty38 rfl (by decide) (fun _=>rfl) (fun x _=>encP_one x) hO1 (fun j x hj=>by
  rw [List.getElem?_drop] at hj
  have:=helem Y1 (k+1+j) x (e13.trans eY1) hj
  rwa [show (k+1+j)*15=(k+1)*15+j*15 by omega] at this) (by have:=eY1.size;omega) (Nat.le_trans (Nat.mul_le_mul (show ([]++gF.take k).length+(gF.drop (k+1)).length≤4 by rw [List.nil_append];omega) by38) (by decide)) (by rw [List.nil_append];omega) hk
 simp only [hld] at ap2
 refine ap2 _ _ (fun v2 Y2 hO2 hg2=>?_)
 have eY2:Ext Z Y2:=eY1.grown hg2 fun g hg=>by have:=(World.ownsRow.lt hO1 g hg).1;omega
 refine ⟨eY2,?_⟩
 have hFn:FieldsOf Y2 v2 (gL k):=own_fields (l:=gL k) hO2 (by rcases hk with rfl | rfl<;>decide)
 have hv2:=SliceOf.oneCell hFn
 have m2:=(e13.trans eY2).obj hm
 unfold n30c1
 simp (disch:=try exact DI) only [↓PR,QR,Int.reduceBEq,Int.reduceBNe,Int.reduceLT,Int.reduceLE,Int.reduceGT,Int.reduceGE,Int.reduceNeg,↓qidxG,(cells_of_heap m2).1,(cells_of_heap m2).2]
 refine turnK_intro ?_
 have m3:(Y2.setCell ⟨bm,1,none⟩ v2).heap[bm]?=some (.cells #[.string ⟨#[109]⟩,v2] 44 (0,0)):=by simpa using heap_set (o:=1) m2 v2
 have x3:=(Only.setCell Y2 bm 1 v2 w1.heap.size (by omega)).trans (eY2.obj oX')
 have q3:=(Only.setCell Y2 bm 1 v2 w0.heap.size (by have:=(Array.getElem?_eq_some_iff.1 o2).1;omega)).trans (((e1.trans e13).trans eY2).obj o2)
 have hO3:OwnE (Y2.setCell ⟨bm,1,none⟩ v2) X.heap.size 38 15 encP v2 (gL k):=(OwnR.only (OwnE.range (l:=gL k) hO2) (Only.setCell Y2 bm 1 v2) (.inr (.inl (by have:=eX.size;omega)))).1
 have E5:Ext w0 (Y2.setCell ⟨bm,1,none⟩ v2):=(E3.trans eY2).setCell (by show w0.heap.size≤bm;have:=e0.size;omega) _
 generalize (Y2.setCell ⟨bm,1,none⟩ v2)=V at m3 x3 q3 hO3 E5 ⊢
 have hs:∀ (V:World) (o:Nat) (u:Value),(V.heap[bm]?=some (.cells #[.string ⟨#[109]⟩,v2] 44 (0,0))∧OwnE V X.heap.size 38 15 encP v2 (gL k)∧Ext w0 V)→((V.setCell ⟨w0.heap.size,o,none⟩ u).heap[bm]?=some (.cells #[.string ⟨#[109]⟩,v2] 44 (0,0))∧OwnE (V.setCell ⟨w0.heap.size,o,none⟩ u) X.heap.size 38 15 encP v2 (gL k)∧Ext w0 (V.setCell ⟨w0.heap.size,o,none⟩ u)):=fun V o u ⟨h1,h2,h3⟩ =>
  ⟨(Only.setCell V w0.heap.size o u bm (by have:=(Array.getElem?_eq_some_iff.1 o2).1;omega)).trans h1,(OwnR.only (OwnE.range h2) (Only.setCell V w0.heap.size o u) (.inr (.inl (by have:=E1.size;omega)))).1,h3.setCell (Nat.le_refl _) _⟩
 simp (disch:=try exact DI) only [↓PR,QR,Int.reduceBEq,Int.reduceBNe,Int.reduceLT,Int.reduceLE,Int.reduceGT,Int.reduceGE,Int.reduceNeg,(cells_of_heap x3).1,(cells_of_heap q3).1,(cells_of_heap q3).2]
 obtain ⟨r1,r2,r3⟩:=hs _ 2 (.string ⟨#[109]⟩) (hs _ 1 (.slice (some ⟨bm,0,none⟩) 1 1) (hs V 0 (.string ⟨#[100]⟩) ⟨m3,hO3,E5⟩))
 exact ⟨one_def r1 (own_fields r2 (by rcases hk with rfl | rfl<;>decide)),r3⟩
end Go.Proofs.YtdfhjlggcdemhaaGreat
namespace Go.Proofs.YtdfhjlggcdemhaaGreat
open Sw
open Go.RowKit (intOf Below)
variable {R:RT}
def turnA (a:Value) (w:World):Nat:=match a with
 | .pointer (some p)=>(match w.cell? p with
  | some (.int _ t)=>(2 - t).toNat
  | _=>0)
 | _=>0
theorem yie_after1 {w2:World} {p6 p7 p8 p10 p11:Nat} {many:Int} {t k n:Nat} {A:Option Addr} {cc:Nat} {ds:List Deferred} {next1:List Deferred→Value→World→Prop} (x6:w2.heap[p6]?=some (.cells #[.int .i64 many] 3 (0,0))) (x7:w2.heap[p7]?=some (.cells #[.slice A n cc] 48 (0,0))) (y10:w2.heap[p10]?=some (.cells #[.int .i64 (t:Int)] 3 (0,0))) (y11:w2.heap[p11]?=some (.cells #[.int .i64 (k:Int)] 3 (0,0)))
 (ht:t < 2) (h0:t=0→(k:Int)=min (n:Int) (max 1 many)) (h1:t=1→k=n) (hn:∀ w',w2.heap.size < w'.heap.size→w'.heap[w2.heap.size]?=some (.cells #[.int .i64 ((t+1:Nat):Int)] 3 (0,0))→Ext w2 w'→next1 ds (.pointer (some ⟨w2.heap.size,0,none⟩)) w') :
 n32c9 (.pointer (some ⟨p6,0,none⟩)) (.pointer (some ⟨p7,0,none⟩)) (.pointer (some ⟨p8,0,none⟩)) (.pointer (some ⟨p10,0,none⟩)) (.pointer (some ⟨p11,0,none⟩)) next1 ds R w2:=by
 have fin:n32c4 (.pointer (some ⟨p8,0,none⟩)) (.pointer (some ⟨p10,0,none⟩)) next1 ds R w2:=by
  unfold n32c4
  simp (disch:=try exact DI) only [↓PR,QR,simprocAttr,(cells_of_heap y10).1]
  exact hn _ (by simp only [World.size_alloc];omega) (by simpa using heap_new w2 #[.int .i64 ((t+1:Nat):Int)] 3) ee
 unfold n32c9
 have hcase:t=0∨t=1:=by omega
 rcases hcase with rfl | rfl
 · have hm:(if (if many > 1 then many else 1) < (n:Int) then (if many > 1 then many else 1) else (n:Int))=(k:Int):=by
    rw [h0 rfl]
    split<;>split<;>omega
   have d0:((((0:Nat):Int)) == 0)=true:=rfl
   have d1:((((0:Nat):Int)) == 1)=false:=rfl
   have dk:((k:Int) != (k:Int))=false:=by simp
   simp (disch:=try exact DI) only [↓PR,QR,simprocAttr,(cells_of_heap y10).1,d0,(cells_of_heap y11).1,(cells_of_heap x7).1,(cells_of_heap x6).1,hm,dk,d1,↓n32c8,↓n32c7,↓n32c6,↓n32c5]
   exact fin
 · have d0:((((1:Nat):Int)) == 0)=false:=rfl
   have d1:((((1:Nat):Int)) == 1)=true:=rfl
   have dk:((k:Int) != (n:Int))=false:=by rw [h1 rfl];simp
   simp (disch:=try exact DI) only [↓PR,QR,simprocAttr,(cells_of_heap y10).1,d0,d1,(cells_of_heap y11).1,(cells_of_heap x7).1,dk,↓n32c8,↓n32c7,↓n32c6,↓n32c5]
   exact fin
theorem yie_after2 {w2:World} {p6 p7 p8 p10 p11:Nat} {many:Int} {t k n:Nat} {A:Option Addr} {cc:Nat} {ds:List Deferred} {next1:List Deferred→Value→World→Prop} (x6:w2.heap[p6]?=some (.cells #[.int .i64 many] 3 (0,0))) (x7:w2.heap[p7]?=some (.cells #[.slice A n cc] 48 (0,0))) (y10:w2.heap[p10]?=some (.cells #[.int .i64 (t:Int)] 3 (0,0))) (y11:w2.heap[p11]?=some (.cells #[.int .i64 (k:Int)] 3 (0,0)))
 (ht:t < 2) (h0:t=0→(k:Int)=min (n:Int) (max 1 many)) (h1:t=1→k=n) (hn:∀ w',w2.heap.size < w'.heap.size→w'.heap[w2.heap.size]?=some (.cells #[.int .i64 ((t+1:Nat):Int)] 3 (0,0))→Ext w2 w'→next1 ds (.pointer (some ⟨w2.heap.size,0,none⟩)) w') :
 n32c16 (.pointer (some ⟨p6,0,none⟩)) (.pointer (some ⟨p7,0,none⟩)) (.pointer (some ⟨p8,0,none⟩)) (.pointer (some ⟨p10,0,none⟩)) (.pointer (some ⟨p11,0,none⟩)) next1 ds R w2:=by
 have fin:n32c10 (.pointer (some ⟨p8,0,none⟩)) (.pointer (some ⟨p10,0,none⟩)) next1 ds R w2:=by
  unfold n32c10
  simp (disch:=try exact DI) only [↓PR,QR,simprocAttr,(cells_of_heap y10).1]
  exact hn _ (by simp only [World.size_alloc];omega) (by simpa using heap_new w2 #[.int .i64 ((t+1:Nat):Int)] 3) ee
 unfold n32c16
 have hcase:t=0∨t=1:=by omega
 rcases hcase with rfl | rfl
 · have hm:(if (if many > 1 then many else 1) < (n:Int) then (if many > 1 then many else 1) else (n:Int))=(k:Int):=by
    rw [h0 rfl]
    split<;>split<;>omega
   have d0:((((0:Nat):Int)) == 0)=true:=rfl
   have d1:((((0:Nat):Int)) == 1)=false:=rfl
   have dk:((k:Int) != (k:Int))=false:=by simp
   simp (disch:=try exact DI) only [↓PR,QR,simprocAttr,(cells_of_heap y10).1,d0,(cells_of_heap y11).1,(cells_of_heap x7).1,(cells_of_heap x6).1,hm,dk,d1,↓n32c15,↓n32c14,↓n32c13,↓n32c12,↓n32c11]
   exact fin
 · have d0:((((1:Nat):Int)) == 0)=false:=rfl
   have d1:((((1:Nat):Int)) == 1)=true:=rfl
   have dk:((k:Int) != (n:Int))=false:=by rw [h1 rfl];simp
   simp (disch:=try exact DI) only [↓PR,QR,simprocAttr,(cells_of_heap y10).1,d0,d1,(cells_of_heap y11).1,(cells_of_heap x7).1,dk,↓n32c15,↓n32c14,↓n32c13,↓n32c12,↓n32c11]
   exact fin
theorem yields_ret (w0:World) (v:Value) (d:DefD) (i many:Int) (wv:Value) (hd:DefVal w0 v d) (ht:calm d) (hL:SliceOf w0 1 EInt wv (offsL (msgL d i))):Ret Pg 29 #[v,.int .i64 i,.int .i64 many,wv] w0 fun r w'=>r = .bool true∧Ext w0 w':=by
 obtain ⟨mv,rfl,hM⟩:=hd
 have hm1:=SliceOf.oneCell hM
 have hw1:=SliceOf.oneCell hL
 obtain ⟨hokM,hlen⟩ := @msgL_ok d i
 refine n32s (R:=retR _) ?_;unfold n32
 simp (disch:=try exact DI) only [↓PR,QR,simprocAttr]
 simp only [World.size_alloc,cells_one hw1]
 generalize hW:World.alloc (World.alloc (World.alloc (World.alloc w0 _) _) _) _=W
 have e0:Ext w0 W:=by rw [← hW];exact ee
 have o6:W.heap[w0.heap.size+1]?=some (.cells #[.int .i64 many] 3 (0,0)):=by rw [← hW];simp (disch:=try exact DI) only [↓PR,QR,simprocAttr]
 have o7:W.heap[w0.heap.size+1+1]?=some (.cells #[wv] 48 (0,0)):=by rw [← hW];simp (disch:=try exact DI) only [↓PR,QR,simprocAttr]
 have o8:W.heap[w0.heap.size+1+1+1]?=some (.cells #[.bool false] 4 (0,0)):=by rw [← hW];simp (disch:=try exact DI) only [↓PR,QR,simprocAttr]
 clear hW
 generalize hp6:w0.heap.size+1=p6 at *
 generalize hp7:p6+1=p7 at *
 generalize hp8:p7+1=p8 at *
 refine callK_ret (Offsets_ret _ d i ⟨_,rfl,hM.ext e0⟩ ht) ?_
 rintro _ w1 ⟨p5,rfl,⟨w1',ea,hIt,eb⟩,e1⟩
 obtain ⟨fv,hOff⟩:=hIt.off
 have E1:=e0.trans e1
 have x6:=e1.obj o6
 have x7:=e1.obj o7
 have x8:=e1.obj o8
 have hL1:=hL.ext keptInt E1
 generalize msgL d i=l at hOff hL1 hokM hlen
 clear hIt o6 o7 o8 hL
 obtain ⟨A,cc,rfl,hlc,hcm,hlm,hel⟩:=SliceOf.open hL1
 rw [offsL_len] at *
 unfold n32c20
 simp (disch:=try exact DI) only [↓PR,QR,simprocAttr]
 unfold n32c19
 simp (disch:=try exact DI) only [↓PR,QR,simprocAttr]
 have l8:=(Array.getElem?_eq_some_iff.1 x8).1
 have o10:=heap_new w1 #[.int .i64 0] 3
 have eX:Ext w1 (w1.alloc (Obj.cells #[.int .i64 0] 3)):=ee
 generalize (w1.alloc (Obj.cells #[.int .i64 0] 3))=X at o10 eX ⊢
 refine loopM1_intro (fun ds a w'=>∃ (p10:Nat) (t:Nat),a = .pointer (some ⟨p10,0,none⟩)∧t≤2∧w1.heap.size≤p10∧w'.heap[p10]?=some (.cells #[.int .i64 (t:Int)] 3 (0,0))∧Ext w1 w'∧(∃ bs:List Nat,ds=bs.map Sw.mark∧bs.Nodup∧∀ b∈bs,MarkAt b w'∧w1.heap.size≤b)) turnA ⟨w1.heap.size,0,rfl,by omega,Nat.le_refl _,o10,eX,[],rfl,by simp,by simp⟩ ?_
 rintro ds _ w2 ⟨p10,t,rfl,ht2,hp10,y10,e2,bs,rfl,hnd,hbs⟩
 have hcw:∀ (w':World) (p u:Nat),w'.heap[p]?=some (.cells #[.int .i64 (u:Int)] 3 (0,0))→turnA (.pointer (some ⟨p,0,none⟩)) w'=2 - u:=by
  intro w' p u h
  unfold turnA
  simp only
  rw [(cells_of_heap h).1 0]
  show ((2:Int) - (u:Int)).toNat=2 - u
  omega
 unfold n32c18
 by_cases ht:t < 2
 · have dt:decide ((t:Int) < 2)=true:=by simp;omega
   simp (disch:=try exact DI) only [↓PR,QR,simprocAttr,(cells_of_heap y10).1,dt]
   unfold n32c17
   simp (disch:=try exact DI) only [↓PR,QR,simprocAttr]
   have l10:p10 < w2.heap.size:=(Array.getElem?_eq_some_iff.1 y10).1
   have eB:Ext w2 (w2.alloc (Obj.cells #[.int .i64 0] 3)):=ee
   have o11:=heap_new w2 #[.int .i64 0] 3
   have hs3:(w2.alloc (Obj.cells #[.int .i64 0] 3)).heap.size=w2.heap.size+1:=by simp only [World.size_alloc]
   generalize hp11:w2.heap.size=p11 at o11 hs3 ⊢
   generalize (w2.alloc (Obj.cells #[.int .i64 0] 3))=w3 at eB o11 hs3 ⊢
   have s2:=e2.size
   let I:Nat→World→Prop:=fun k w'=>Ext w1 w'∧(∀ b∈bs,MarkAt b w')∧w'.heap[p10]?=some (.cells #[.int .i64 (t:Int)] 3 (0,0))∧w'.heap[p11]?=some (.cells #[.int .i64 (k:Int)] 3 (0,0))∧(t=0→k=0∨(k:Int) < many)
   let Ix:Nat→World→Prop:=fun c w'=>c=1∧Ext w1 w'∧(∀ b∈bs,MarkAt b w')∧w'.heap[p10]?=some (.cells #[.int .i64 (t:Int)] 3 (0,0))∧∃ k:Nat,w'.heap[p11]?=some (.cells #[.int .i64 (k:Int)] 3 (0,0))∧t=0∧(k:Int)=min (l.length:Int) (max 1 many)
   have hmk:Lasts2 w3.heap.size (fun w=>∀ b∈bs,MarkAt b w):=lasts2_marks fun b hb=>by have:=(Array.getElem?_eq_some_iff.1 (hbs b hb).1).1;omega
   have hLI:∀ k,Lasts2 w3.heap.size (I k):=fun k=>(Lasts2.from (by omega)).and (hmk.and ((Lasts2.has _ (by simp) (by simp)).and ((Lasts2.has _ (by simp) (by simp)).and (Lasts2.const _ _))))
   have hLX:∀ k,Lasts2 w3.heap.size (Ix k):=fun k=>(Lasts2.const _ _).and ((Lasts2.from (by omega)).and (hmk.and ((Lasts2.has _ (by simp) (by simp)).and (.ex fun k=>(Lasts2.has _ (by simp) (by simp)).and (Lasts2.const _ _)))))
   have hfin:∀ (w4:World),Ext w1 w4→(∀ b∈bs,MarkAt b w4)→MarkAt w3.heap.size w4→∀ w5,w4.heap.size < w5.heap.size→w5.heap[w4.heap.size]?=some (.cells #[.int .i64 ((t+1:Nat):Int)] 3 (0,0))→Ext w4 w5 →
    (∃ (p10:Nat) (t':Nat),Value.pointer (some ⟨w4.heap.size,0,none⟩) = .pointer (some ⟨p10,0,none⟩)∧t'≤2∧w1.heap.size≤p10∧w5.heap[p10]?=some (.cells #[.int .i64 (t':Int)] 3 (0,0))∧Ext w1 w5∧(∃ bs':List Nat,(Sw.mark w3.heap.size::bs.map Sw.mark)=bs'.map Sw.mark∧bs'.Nodup∧∀ b∈bs',MarkAt b w5∧w1.heap.size≤b)) ∧
    turnA (.pointer (some ⟨w4.heap.size,0,none⟩)) w5 < turnA (.pointer (some ⟨p10,0,none⟩)) w2:=by
    intro w4 e4 hm4 hmk w5 hlt5 h5 e5
    have s4:=e4.size
    refine ⟨⟨w4.heap.size,t+1,rfl,by omega,by omega,h5,e4.trans e5,w3.heap.size::bs,rfl,List.nodup_cons.2 ⟨fun hin=>?_,hnd⟩,fun b hb=>?_⟩,?_⟩
    · have:=(Array.getElem?_eq_some_iff.1 (hbs _ hin).1).1
      omega
    · rcases List.mem_cons.1 hb with rfl | hb
      · exact ⟨hmk.ext e5,by omega⟩
      · exact ⟨(hm4 b hb).ext e5,(hbs b hb).2⟩
    · rw [hcw w5 _ (t+1) h5,hcw w2 p10 t y10];omega
   refine ⟨_,_,l.length,(fun k => .int .i64 k),(fun k => .int .i64 (endO (l.take k))),OffAt p5 fv l,I,Ix,fun _ _=>False,rfl,c57,Offsets_seq p5 fv l hokM.1,⟨e2.trans eB,fun b hb=>(hbs b hb).1.ext eB,eB.obj y10,o11,fun _ => .inl rfl⟩,fun k w' h=>hOff.ext h.1,hLI,hLX,fun _=>Lasts2.const _ _,?_,?_,?_,?_⟩
   · intro Rk hRk j w4 hj hI4 hR4 hlt hready
     refine ⟨hready,fun w5 hbz=>?_⟩
     have hR5:=hRk _ _ (KR.busied hbz) hR4
     obtain ⟨e5,hm5,q10,q11,hjm⟩:=(hLI j).busied hbz (Nat.le_succ _) hI4
     obtain ⟨b,o,cs,rfl,_,hE,hcs⟩:=hel j _ (offsL_get hj)
     subst hcs
     have hge:decide ((j:Int)≥(l.length:Int))=false:=by simp;omega
     have hjj:((j:Int) != (j:Int))=false:=by simp
     have hss:(endO (l.take j) != endO (l.take j))=false:=by simp
     unfold n32c3
     simp (disch:=try exact DI) only [↓PR,QR,simprocAttr,(cells_of_heap q11).1,(cells_of_heap (e5.obj x7)).1,hge,hjj,hE.c1 e5,hss,↓n32c2]
     unfold n32c1
     have hw:IntKind.i64.wrap ((j:Int)+1)=((j+1:Nat):Int):=by rw [wrap_ok (by omega) (by omega)];omega
     have r11:(w5.setCell ⟨p11,0,none⟩ (.int .i64 ((j+1:Nat):Int))).heap[p11]?=some (.cells #[.int .i64 ((j+1:Nat):Int)] 3 (0,0)):=by simpa using heap_set (o:=0) q11 (.int .i64 ((j+1:Nat):Int))
     have r10:=(Only.setCell w5 p11 0 (.int .i64 ((j+1:Nat):Int)) p10 (by omega)).trans q10
     have e6:Ext w1 (w5.setCell ⟨p11,0,none⟩ (.int .i64 ((j+1:Nat):Int))):=e5.setCell (by show w1.heap.size≤p11;omega) _
     have hm6:∀ b∈bs,MarkAt b (w5.setCell ⟨p11,0,none⟩ (.int .i64 ((j+1:Nat):Int))):=fun b hb=>(hm5 b hb).setCell _ _
     have hR6:=hRk _ _ (KR.setCell (KR.refl _ w5) p11 0 (.int .i64 ((j+1:Nat):Int)) (.inl (by omega))) hR5
     have x6':=e5.obj x6
     have hcase:t=0∨t=1:=by omega
     rcases hcase with ht0 | ht1
     · have d0:((t:Int) == 0)=true:=by rw [ht0];rfl
       by_cases hmy:((j+1:Nat):Int)≥many
       · have dm:decide (((j+1:Nat):Int)≥many)=true:=by simpa using hmy
         simp (disch:=try exact DI) only [↓PR,QR,simprocAttr,(cells_of_heap q11).1,(cells_of_heap q11).2,(cells_of_heap q10).1,d0,(cells_of_heap r11).1,(cells_of_heap x6').1,dm]
         refine ⟨hR6,rfl,e6,hm6,r10,j+1,r11,ht0,?_⟩
         have:=hjm ht0
         omega
       · have dm:decide (((j+1:Nat):Int)≥many)=false:=by simpa using hmy
         simp (disch:=try exact DI) only [↓PR,QR,simprocAttr,(cells_of_heap q11).1,(cells_of_heap q11).2,(cells_of_heap q10).1,d0,(cells_of_heap r11).1,(cells_of_heap x6').1,dm]
         exact ⟨hR6,e6,hm6,r10,r11,fun _ => .inr (by omega)⟩
     · have d0:((t:Int) == 0)=false:=by rw [ht1];rfl
       simp (disch:=try exact DI) only [↓PR,QR,simprocAttr,(cells_of_heap q11).1,(cells_of_heap q11).2,(cells_of_heap q10).1,d0]
       exact ⟨hR6,e6,hm6,r10,r11,fun h=>by omega⟩
   · rintro w4 ⟨e4,hm4,q10,q11,hjm⟩ hmk
     exact yie_after1 (e4.obj x6) (e4.obj x7) q10 q11 ht (fun h=>by have:=hjm h;omega) (fun _=>rfl) (hfin w4 e4 hm4 hmk)
   · rintro c w4 ⟨rfl,e4,hm4,q10,k,q11,ht0,hk⟩ hmk
     exact yie_after2 (e4.obj x6) (e4.obj x7) q10 q11 ht (fun _=>hk) (fun h=>by omega) (hfin w4 e4 hm4 hmk)
   · rintro ch w4 h
     exact h.elim
 · have dt:decide ((t:Int) < 2)=false:=by simp;omega
   have q8:=e2.obj x8
   simp (disch:=try exact DI) only [↓PR,QR,simprocAttr,(cells_of_heap y10).1,dt,(cells_of_heap q8).1,(cells_of_heap q8).2]
   have r8:(w2.setCell ⟨p8,0,none⟩ (.bool true)).heap[p8]?=some (.cells #[.bool true] 4 (0,0)):=by simpa using heap_set (o:=0) q8 (.bool true)
   refine outs_marks (w0:=w0) hnd (fun b hb=>⟨(hbs b hb).1.setCell _ _,by have:=(hbs b hb).2;have:=E1.size;omega⟩) ((E1.trans e2).setCell (by show w0.heap.size≤p8;omega) _) (fun w' e' hh=>?_)
   have z8:=hh _ _ has_nd r8
   simp (disch:=try exact DI) only [↓PR,QR,simprocAttr,outX_nil,retV,resOne,(cells_of_heap z8).1]
   exact ⟨by trivial,e'⟩
end Go.Proofs.YtdfhjlggcdemhaaGreat
namespace Go.Sw
open Go.ChangeShapes Go.WideShapes Go.RowKit Go.ChangeAt Go.Deep
theorem list_of {α:Type} {p:Nat→α→Prop}:∀ (n:Nat),(∀ i,i < n→∃ x,p i x)→∃ l:List α,l.length=n∧∀ k x,l[k]?=some x→p k x
 | 0,_=>⟨[],rfl,fun k x h=>by simp at h⟩
 | n+1,h=>by
  obtain ⟨l,hl,hp⟩:=list_of n (fun i hi=>h i (by omega))
  obtain ⟨x,hx⟩:=h n (by omega)
  refine ⟨l++[x],by simp [hl],fun k y hy=>?_⟩
  rw [List.getElem?_append] at hy
  split at hy
  · exact hp k y hy
  · have hk:k=n:=by
     have:=(List.getElem?_eq_some_iff.1 hy).1
     simp at this
     omega
    subst hk
    simp [hl] at hy
    subst hy
    exact hx
section
variable {H:Type} {enc:TypeId×Value→H} {P:Program} {w:World} {base:Nat} {spare:Nat→Bool} {held:Bool}
theorem weightsAll_mem {e:TypeId} {m:Nat} {d:DataW H}:∀ {l:List (DataW H)},d∈l→m∈d.weights P e→m∈DataW.weightsAll P e l
 | [],h,_=>by cases h
 | a::l,h,hm=>by
  rw [DataW.weightsAll,List.mem_append]
  rcases List.mem_cons.1 h with rfl | h
  · exact .inl hm
  · exact .inr (weightsAll_mem h hm)
def Reached (P:Program) (t:TypeId) (d:DataW H):Prop:=∀ m∈d.weights P t,m≤reachBytes
theorem reached_of {ts:List TypeId} {ds:List (DataW H)} (h:(DataW.weightsEach P ts ds).all (· ≤ reachBytes)=true) {j:Nat} {t:TypeId} {d:DataW H} (ht:ts[j]?=some t) (hd:ds[j]?=some d):Reached P t d:=fun m hm=>by
 have:=List.all_eq_true.1 h _ (DataW.weights_mem_each ht hd m hm)
 simpa using this
theorem slice_of_trod {α:Type} {E:World→List Value→α→Prop} {Q:α→Prop} {t e:TypeId} {n fuel:Nat} {cs:List Value} {x:DataW H×List MemPlace} (ht:P.underlying t=some (.slice e)) (hn:P.cellsOf e=n) (hb1:1≤P.bytesOf e) (h0:0 < n)
 (hE:∀ m cs' y,DataW.trod enc P w base spare held m e cs'=some y→Reached P e y.1→∃ x,E w cs' x∧Q x) (h:DataW.trod enc P w base spare held fuel t cs=some x) (hr:Reached P t x.1):∃ v l,cs=[v]∧SliceOf w n E v l∧(∀ x∈l,Q x)∧l.length≤140737488355328:=by
 rcases open_slice ht h with ⟨rfl,_⟩ | ⟨a,len,cap,m,k,D,Pl,rfl,hb,hl,hm,hmm,hx,hel⟩
 · exact ⟨_,[],rfl,SliceOf.nil _ _ _,fun x hx=>by (cases hx),Nat.zero_le _⟩
 · have hlm:len≤m:=by rw [hmm];split<;>omega
   subst hx
   have hw0:=hr ((len+(m - len))*P.bytesOf e) (by simp only [DataW.weights,ht];simp)
   have hlen:len≤140737488355328:=by
    have:len*1≤(len+(m - len))*P.bytesOf e:=Nat.mul_le_mul (by omega) hb1
    simp only [reachBytes] at hw0
    omega
   have hD:∀ i,i < len→Reached P e (D i):=fun i hi q hq=>hr q (by
    simp only [DataW.weights,ht,List.mem_cons,List.mem_append]
    exact .inr (.inl (weightsAll_mem (List.mem_map.2 ⟨i,List.mem_range.2 hi,rfl⟩) hq)))
   obtain ⟨l,hll,hp⟩:=list_of (p:=fun i (x:α)=>∃ cs',w.cells? base (a.add (i*n)) n=some cs'∧E w cs' x∧Q x) len (fun i hi=>by
    obtain ⟨cs',h1,h2⟩:=hel i (by omega)
    rw [hn] at h1
    obtain ⟨x,hx⟩:=hE _ _ _ h2 (hD i hi)
    exact ⟨x,cs',h1,hx⟩)
   refine ⟨_,l,rfl,⟨some a,cap,by rw [hll],by rw [hll];exact hl,by simp only [maxLen] at hm;omega,fun hne=>?_⟩,fun x hx=>?_,by omega⟩
   · obtain ⟨b,o,spot⟩:=a
     have hspot:spot=none:=by
      have:0 < l.length:=List.length_pos_iff.2 hne
      obtain ⟨y,hy⟩:=getElem?_lt this
      obtain ⟨cs',h1,_⟩:=hp 0 y hy
      obtain ⟨_,h2,h3⟩:=World.cells?_some h1
      have h4:=h3 0 h0
      rw [List.getElem?_eq_getElem (by omega)] at h4
      simpa [Addr.add] using World.cell?_spot h4
     subst hspot
     refine ⟨b,o,rfl,fun k x hx=>?_⟩
     obtain ⟨cs',h1,h2,_⟩:=hp k x hx
     obtain ⟨_,h3,h4⟩:=World.cells?_some h1
     refine ⟨cs',h3,fun j v hv=>?_,h2⟩
     have h5:=h4 j (by have:=(List.getElem?_eq_some_iff.1 hv).1;omega)
     rw [hv] at h5
     simpa [Addr.add_lit] using h5
   · obtain ⟨k,hk⟩:=List.getElem?_of_mem hx
     obtain ⟨_,_,_,hq⟩:=hp k x hk
     exact hq
theorem struct_of_trod {fs:Array Field} {t:TypeId} {n fuel:Nat} {cs:List Value} {x:DataW H×List MemPlace} (ht:P.underlying t=some (.struct fs)) (hn:P.cellsOf t=n) (h:DataW.trod enc P w base spare held fuel t cs=some x) (hr:Reached P t x.1) :
 cs.length=n∧∃ m,∀ (i:Nat) (ty off k:Nat),(fs[i]?).map (fun f=>(f.type,f.offset))=some (ty,off)→P.cellsOf ty=k→∃ y,DataW.trod enc P w base spare held m ty ((cs.drop off).take k)=some y∧Reached P ty y.1:=by
 obtain ⟨xs,m,_,rfl,hl,hlen,hf⟩:=DataW.trod_struct ht h
 refine ⟨hl.trans hn,m,fun i ty off k hi hk=>?_⟩
 obtain ⟨f,hfi,he⟩:=Option.map_eq_some_iff.1 hi
 injection he with h1 h2
 subst h1 h2 hk
 have hil:i < xs.length:=by rw [hlen];exact (Array.getElem?_eq_some_iff.1 hfi).1
 refine ⟨xs[i],(hf i f hfi).trans (List.getElem?_eq_getElem hil),fun q hq=>hr q ?_⟩
 simp only [DataW.weights,ht]
 refine DataW.weights_mem_each (j:=i) (t:=f.type) (d:=xs[i].1) ?_ ?_ q hq
 · rw [List.getElem?_map,Array.getElem?_toList,hfi];rfl
 · rw [List.getElem?_map,List.getElem?_eq_getElem hil];rfl
theorem trodAll_stays (hl:laidOutB P=true) {W W':World} (he:Ext W W'):∀ {ts:List TypeId} {vs:List Value} {ds:List (DataW H)} {ps:List MemPlace},(∀ t∈ts,P.readableRec t=true∧t < P.types.size)→(∀ x∈ps,x.block < W.heap.size) →
 DataW.TrodAll enc P W 0 (fun _=>true) true ts vs ds ps→DataW.TrodAll enc P W' 0 (fun b=>decide (b < W.heap.size)) true ts vs ds ps
 | [],_,_,_,_,_,h=>by obtain ⟨rfl,rfl,rfl⟩:=trodAll_nil h;exact trodAll_mk0
 | t::ts,_,_,_,hr,hlt,h=>by
  obtain ⟨v,vs1,d,ds1,a,b,rfl,rfl,rfl,h1,h2⟩:=trodAll_cons h
  refine ⟨a,b,?_,trodAll_stays hl he (fun t ht=>hr t (List.mem_cons_of_mem _ ht)) (fun x hx=>hlt x (List.mem_append_right _ hx)) h2,rfl⟩
  exact Below.trod hl (hr t (List.mem_cons_self ..)).1 (hr t (List.mem_cons_self ..)).2 h1 ⟨he.os,he.tape,he.output,he.size,he.block⟩ (fun x hx=>hlt x (List.mem_append_left _ hx))
theorem law_post {f:Func} {s:ChangeSpec} {W W':World} {args:Array Value} {ds gs:List (DataW H)} {before:List MemPlace} {tb:TypeId} (hl:laidOutB P=true) (hr:∀ t∈f.params.toList,P.readableRec t=true∧t < P.types.size) (hs:s.vars=[])
 (hW:DataW.Whole enc P f.params.toList s.vars false W args.toList ds gs before) (he:Ext W W') (hres:f.resultTypes = #[tb]) (htb:P.underlying tb=some .bool) (hfn:(s.fn H ds).results=[.lit (.bool true)]) (hargs:(s.fn H ds).args=ds) (hvars:(s.fn H ds).vars=[]) :
 s.post enc P f false true false false W args (.bool true) W':=by
 have hW':=hW
 obtain ⟨p,q,hA,hV,rfl,_,_⟩:=hW
 rw [hs] at hV
 obtain ⟨rfl,rfl⟩:=trodVars_none hV
 have hlt:∀ x∈p,x.block < W.heap.size:=fun x hx=>hW'.lt x (by simpa using hx)
 rw [List.append_nil] at hW'
 refine ⟨ds,[],p,[],p,[],hW',?_,?_,?_,Below.frame ⟨he.os,he.tape,he.output,he.size,he.block⟩ _,fun h=>by cases h⟩
 · rw [List.append_nil,hfn,hres]
   exact trodAll_mk1 (shut_bool htb _)
 · rw [List.append_nil,hargs]
   exact trodAll_stays hl he hr hlt hA
 · rw [List.append_nil,hvars,hs]
   exact rfl
end
end Go.Sw
namespace Go.Proofs.YtdfhjlggcdemhaaGreat
open Sw
open Go.ChangeShapes Go.WideShapes Go.RowKit Go.ChangeAt Go.Deep
theorem cellsTerm:Pg.cellsOf 121=2:=by kernel_rfl
theorem cellsCase:Pg.cellsOf 116=3:=by kernel_rfl
theorem cellsSize:Pg.cellsOf 35=2:=by kernel_rfl
theorem cellsField:Pg.cellsOf 38=15:=by kernel_rfl
theorem cellsMessage:Pg.cellsOf 44=2:=by kernel_rfl
theorem cellsDefinition:Pg.cellsOf 24=3:=by kernel_rfl
theorem cellsString:Pg.cellsOf 9=1:=by kernel_rfl
theorem cellsInt:Pg.cellsOf 3=1:=by kernel_rfl
theorem cellsBool:Pg.cellsOf 4=1:=by kernel_rfl
theorem cellsKind:Pg.cellsOf 32=1:=by kernel_rfl
theorem cellsTerms:Pg.cellsOf 33=1:=by kernel_rfl
theorem cellsCases:Pg.cellsOf 36=1:=by kernel_rfl
theorem cellsFields:Pg.cellsOf 42=1:=by kernel_rfl
theorem bytesTerm:1≤Pg.bytesOf 121:=Nat.le_of_ble_eq_true (by kernel_rfl)
theorem bytesCase:1≤Pg.bytesOf 116:=Nat.le_of_ble_eq_true (by kernel_rfl)
theorem bytesField:1≤Pg.bytesOf 38:=Nat.le_of_ble_eq_true (by kernel_rfl)
theorem bytesMessage:1≤Pg.bytesOf 44:=Nat.le_of_ble_eq_true (by kernel_rfl)
def FieldSm (f:FieldD):Prop:=f.terms.length≤140737488355328∧f.cases.length≤140737488355328∧∀ c∈f.cases,c.of.size≤140737488355328
def MsgSm (m:MsgD):Prop:=m.fields.length≤140737488355328∧∀ f∈m.fields,FieldSm f
def DefSm (d:DefD):Prop:=d.msgs.length≤140737488355328∧∀ m∈d.msgs,MsgSm m
theorem cellsMessages:Pg.cellsOf 22=1:=by kernel_rfl
section
variable {H:Type} {enc:TypeId×Value→H} {w:World} {base:Nat} {spare:Nat→Bool} {held:Bool}
theorem term_of {m:Nat} {cs:List Value} {y:DataW H×List MemPlace} (h:DataW.trod enc Pg w base spare held m 121 cs=some y) (hr:Reached Pg 121 y.1):∃ x,ETerm w cs x:=by
 obtain ⟨hl,n,hf⟩:=struct_of_trod Tryz.underlying121 cellsTerm h hr
 obtain ⟨y0,h0,r0⟩:=hf 0 9 0 1 rfl cellsString
 obtain ⟨y1,h1,r1⟩:=hf 1 3 1 1 rfl cellsInt
 match cs,hl with
 | [c0,c1],_ =>
  obtain ⟨s,e0,_⟩:=DataW.trod_string Tryz.underlying9 h0
  obtain ⟨k,e1,_⟩:=DataW.trod_int Tryz.underlying3 h1
  simp at e0 e1
  subst e0 e1
  exact ⟨⟨s,k⟩,rfl⟩
theorem case_of {m:Nat} {cs:List Value} {y:DataW H×List MemPlace} (h:DataW.trod enc Pg w base spare held m 116 cs=some y) (hr:Reached Pg 116 y.1):∃ x,ECase w cs x∧x.of.size≤140737488355328:=by
 obtain ⟨hl,n,hf⟩:=struct_of_trod Tryz.underlying116 cellsCase h hr
 obtain ⟨y0,h0,r0⟩:=hf 0 3 0 1 rfl cellsInt
 obtain ⟨y1,h1,r1⟩:=hf 1 3 1 1 rfl cellsInt
 obtain ⟨y2,h2,r2⟩:=hf 2 9 2 1 rfl cellsString
 match cs,hl with
 | [c0,c1,c2],_ =>
  obtain ⟨a,e0,_⟩:=DataW.trod_int Tryz.underlying3 h0
  obtain ⟨b,e1,_⟩:=DataW.trod_int Tryz.underlying3 h1
  obtain ⟨s,e2,e3,_⟩:=DataW.trod_string Tryz.underlying9 h2
  simp at e0 e1 e2
  subst e0 e1 e2
  refine ⟨⟨a,b,s⟩,rfl,?_⟩
  have:=r2 s.data.toList.length (by rw [e3];exact List.mem_singleton.2 rfl)
  simp only [reachBytes] at this
  have h4:s.size=s.data.toList.length:=Array.length_toList.symm
  show s.size≤_
  omega
theorem size_of {m:Nat} {cs:List Value} {y:DataW H×List MemPlace} (h:DataW.trod enc Pg w base spare held m 35 cs=some y) (hr:Reached Pg 35 y.1):∃ b tv ts,cs=[.int .i64 b,tv]∧TermsOf w tv ts∧ts.length≤140737488355328:=by
 obtain ⟨hl,n,hf⟩:=struct_of_trod Tryz.underlying35 cellsSize h hr
 obtain ⟨y0,h0,r0⟩:=hf 0 3 0 1 rfl cellsInt
 obtain ⟨y1,h1,r1⟩:=hf 1 33 1 1 rfl cellsTerms
 match cs,hl with
 | [c0,c1],_ =>
  obtain ⟨a,e0,_⟩:=DataW.trod_int Tryz.underlying3 h0
  obtain ⟨v,l,e1,hS,_,hL⟩:=slice_of_trod (E:=ETerm) (Q:=fun _=>True) Tryz.underlying33 cellsTerm bytesTerm (by decide) (fun _ _ _ h hr=>let ⟨x,hx⟩:=term_of h hr; ⟨x,hx,trivial⟩) h1 r1
  simp at e0 e1
  subst e0 e1
  exact ⟨a,_,l,rfl,hS,hL⟩
theorem field_of {m:Nat} {cs:List Value} {y:DataW H×List MemPlace} (h:DataW.trod enc Pg w base spare held m 38 cs=some y) (hr:Reached Pg 38 y.1):∃ x,EField w cs x∧FieldSm x:=by
 obtain ⟨hl,n,hf⟩:=struct_of_trod Tryz.underlying38 cellsField h hr
 obtain ⟨y0,h0,r0⟩:=hf 0 9 0 1 rfl cellsString
 obtain ⟨y1,h1,r1⟩:=hf 1 32 1 1 rfl cellsKind
 obtain ⟨y2,h2,r2⟩:=hf 2 3 2 1 rfl cellsInt
 obtain ⟨y3,h3,r3⟩:=hf 3 4 3 1 rfl cellsBool
 obtain ⟨y4,h4,r4⟩:=hf 4 4 4 1 rfl cellsBool
 obtain ⟨y5,h5,r5⟩:=hf 5 3 5 1 rfl cellsInt
 obtain ⟨y6,h6,r6⟩:=hf 6 3 6 1 rfl cellsInt
 obtain ⟨y7,h7,r7⟩:=hf 7 35 7 2 rfl cellsSize
 obtain ⟨y8,h8,r8⟩:=hf 8 9 9 1 rfl cellsString
 obtain ⟨y9,h9,r9⟩:=hf 9 9 10 1 rfl cellsString
 obtain ⟨y10,h10,r10⟩:=hf 10 9 11 1 rfl cellsString
 obtain ⟨y11,h11,r11⟩:=hf 11 36 12 1 rfl cellsCases
 obtain ⟨y12,h12,r12⟩:=hf 12 3 13 1 rfl cellsInt
 obtain ⟨y13,h13,r13⟩:=hf 13 3 14 1 rfl cellsInt
 match cs,hl with
 | [c0,c1,c2,c3,c4,c5,c6,c7,c8,c9,c10,c11,c12,c13,c14],_ =>
  obtain ⟨x0,e0,_⟩:=DataW.trod_string Tryz.underlying9 h0
  obtain ⟨x1,e1,_⟩:=DataW.trod_int Tryz.underlying32 h1
  obtain ⟨x2,e2,_⟩:=DataW.trod_int Tryz.underlying3 h2
  obtain ⟨x3,e3,_⟩:=DataW.trod_bool Tryz.underlying4 h3
  obtain ⟨x4,e4,_⟩:=DataW.trod_bool Tryz.underlying4 h4
  obtain ⟨x5,e5,_⟩:=DataW.trod_int Tryz.underlying3 h5
  obtain ⟨x6,e6,_⟩:=DataW.trod_int Tryz.underlying3 h6
  obtain ⟨x7,tv,ts,e7,hT,hTl⟩:=size_of h7 r7
  obtain ⟨x9,e9,_⟩:=DataW.trod_string Tryz.underlying9 h8
  obtain ⟨x10,e10,_⟩:=DataW.trod_string Tryz.underlying9 h9
  obtain ⟨x11,e11,_⟩:=DataW.trod_string Tryz.underlying9 h10
  obtain ⟨cv,l,e12,hC,hCq,hCl⟩:=slice_of_trod (E:=ECase) (Q:=fun c=>c.of.size≤140737488355328) Tryz.underlying36 cellsCase bytesCase (by decide) (fun _ _ _ h hr=>case_of h hr) h11 r11
  obtain ⟨x13,e13,_⟩:=DataW.trod_int Tryz.underlying3 h12
  obtain ⟨x14,e14,_⟩:=DataW.trod_int Tryz.underlying3 h13
  simp at e0 e1 e2 e3 e4 e5 e6 e7 e9 e10 e11 e12 e13 e14
  obtain ⟨e7,e8⟩:=e7
  subst e0 e1 e2 e3 e4 e5 e6 e7 e8 e9 e10 e11 e12 e13 e14
  exact ⟨⟨x0,x1,x2,x3,x4,x5,x6,x7,ts,x9,x10,x11,l,x13,x14⟩,⟨_,_,rfl,hT,hC⟩,hTl,hCl,hCq⟩
theorem msg_of {m:Nat} {cs:List Value} {y:DataW H×List MemPlace} (h:DataW.trod enc Pg w base spare held m 44 cs=some y) (hr:Reached Pg 44 y.1):∃ x,EMsg w cs x∧MsgSm x:=by
 obtain ⟨hl,n,hf⟩:=struct_of_trod Tryz.underlying44 cellsMessage h hr
 obtain ⟨y0,h0,r0⟩:=hf 0 9 0 1 rfl cellsString
 obtain ⟨y1,h1,r1⟩:=hf 1 42 1 1 rfl cellsFields
 match cs,hl with
 | [c0,c1],_ =>
  obtain ⟨a,e0,_⟩:=DataW.trod_string Tryz.underlying9 h0
  obtain ⟨v,l,e1,hS,hQ,hL⟩:=slice_of_trod (E:=EField) (Q:=FieldSm) Tryz.underlying42 cellsField bytesField (by decide) (fun _ _ _ h hr=>field_of h hr) h1 r1
  simp at e0 e1
  subst e0 e1
  exact ⟨⟨a,l⟩,⟨_,rfl,hS⟩,hL,hQ⟩
theorem def_of {m:Nat} {cs:List Value} {y:DataW H×List MemPlace} (h:DataW.trod enc Pg w base spare held m 24 cs=some y) (hr:Reached Pg 24 y.1):∃ d mv,cs=defCells d mv∧MsgsOf w mv d.msgs∧DefSm d:=by
 obtain ⟨hl,n,hf⟩:=struct_of_trod Tryz.underlying24 cellsDefinition h hr
 obtain ⟨y0,h0,r0⟩:=hf 0 9 0 1 rfl cellsString
 obtain ⟨y1,h1,r1⟩:=hf 1 22 1 1 rfl cellsMessages
 obtain ⟨y2,h2,r2⟩:=hf 2 9 2 1 rfl cellsString
 match cs,hl with
 | [c0,c1,c2],_ =>
  obtain ⟨a,e0,_⟩:=DataW.trod_string Tryz.underlying9 h0
  obtain ⟨v,l,e1,hS,hQ,hL⟩:=slice_of_trod (E:=EMsg) (Q:=MsgSm) Tryz.underlying22 cellsMessage bytesMessage (by decide) (fun _ _ _ h hr=>msg_of h hr) h1 r1
  obtain ⟨b,e2,_⟩:=DataW.trod_string Tryz.underlying9 h2
  simp at e0 e1 e2
  subst e0 e1 e2
  exact ⟨⟨a,l,b⟩,_,rfl,hS,hL,hQ⟩
theorem def_val {r:Reach} {b0:Nat} {v:Value} {d:DataW H} {ps:List MemPlace} (hval:Value.okWide Pg w r b0 24 v) (h:DataW.Trod enc Pg w base spare held 24 v d ps) (hr:Reached Pg 24 d):∃ f,DefVal w v f∧DefSm f:=by
 obtain ⟨cs,rfl,_⟩:=okWide_struct Tryz.underlying24 hval
 obtain ⟨fuel,hf⟩:=h
 obtain ⟨f,tv,h1,h2,hs⟩:=def_of hf hr
 exact ⟨f,⟨tv,congrArg Value.agg (by rw [← h1,cells_agg]),h2⟩,hs⟩
end
end Go.Proofs.YtdfhjlggcdemhaaGreat
namespace Go.Proofs.YtdfhjlggcdemhaaGreat
open Sw
open Go.RowKit (intOf Below)
def sumF (l:List MsgD):Nat:=(l.map fun m=>m.fields.length).sum
def okF (f:FieldD):Prop:=f.cases.length≤50∧f.terms.length≤10
def fitsP (d:DefD):Prop:=d.msgs.length≤70∧sumF d.msgs≤400∧∀ m∈d.msgs,∀ f∈m.fields,okF f
theorem sumF_take {l:List MsgD} {k:Nat} {x:MsgD} (hx:l[k]?=some x):sumF (l.take (k+1))=sumF (l.take k)+x.fields.length:=by
 rw [take_snoc hx];simp [sumF]
theorem le_sumF {l:List MsgD} {m:MsgD} (h:m∈l):m.fields.length≤sumF l:=by
 unfold sumF
 induction l with
 | nil=>cases h
 | cons a l ih =>
  rcases List.mem_cons.1 h with rfl | h
  · simp
  · have:=ih h;simp at this ⊢;omega
theorem forall_take {α:Type} {p:α→Prop} {l:List α} {k:Nat} {x:α} (h:∀ y∈l.take k,p y) (hx:l[k]?=some x) (hp:p x):∀ y∈l.take (k+1),p y:=by
 rw [take_snoc hx]
 intro y hy
 rcases List.mem_append.1 hy with hy | hy
 · exact h y hy
 · simp only [List.mem_singleton] at hy;subst hy;exact hp
theorem refsF_len {f:FieldD} (h:okF f):(refsF f).length≤50:=by
 unfold refsF
 split
 · simp
 · split
   · simpa using h.1
   · simp
theorem allRefs_len:∀ {l:List FieldD},(∀ f∈l,okF f)→(allRefs l).length≤l.length*50
 | [],_=>by simp [allRefs]
 | f::l,h=>by
  have h1:=refsF_len (h f (List.mem_cons_self ..))
  have h2:=allRefs_len (l:=l) (fun g hg=>h g (List.mem_cons_of_mem _ hg))
  unfold allRefs at *
  rw [List.flatMap_cons,List.length_append,List.length_cons]
  omega
theorem fits_calm {d:DefD} (h:fitsP d):calm d:=fun m hm=>by
 have h1:=le_sumF hm
 have h2:=h.2.1
 have h3:=allRefs_len (h.2.2 m hm)
 exact ⟨by omega,fun f hf=>by have:=(h.2.2 m hm f hf).2;omega⟩
end Go.Proofs.YtdfhjlggcdemhaaGreat
namespace Go.Proofs.YtdfhjlggcdemhaaGreat
open Sw
open Go.RowKit (intOf Below)
theorem fits14_ret (w0:World) (v:Value) (d:DefD) (hd:DefVal w0 v d) (hs:DefSm d):Ret Pg 14 #[v] w0 fun r w'=>∃ b,r = .bool b∧(b=true→fitsP d)∧Ext w0 w':=by
 obtain ⟨mv,rfl,hM⟩:=hd
 obtain ⟨A,c,rfl,hlc,hcm,hlm,hel⟩:=SliceOf.open hM
 refine n27s (R:=retR _) ?_;unfold n27
 simp (disch:=try exact DI) only [↓PR,QR,simprocAttr]
 have hBW:=ElemAt.new (w:=w0) (defCells d (.slice A d.msgs.length c)) (24)
 have eW:Ext w0 (w0.alloc (Obj.cells (List.toArray (defCells d (.slice A d.msgs.length c))) (24))):=(Ext.refl _).alloc _
 generalize (w0.alloc (Obj.cells (List.toArray (defCells d (.slice A d.msgs.length c))) (24)))=W at hBW eW ⊢
 refine loop2_intro (fun a0 a1 w=>∃ (k:Nat) , a0 = .int .i64 (sumF (d.msgs.take k):Nat)∧a1 = .int .i64 (k:Int)∧k≤d.msgs.length∧Ext W w∧sumF (d.msgs.take k)≤400∧∀ m∈d.msgs.take k,∀ f∈m.fields,okF f) (fun a0 a1 _=>d.msgs.length - (intOf a1).toNat) ⟨0,rfl,rfl,Nat.zero_le _,ee,⟨by simp [sumF],by simp⟩⟩ ?_
 rintro _ _ w ⟨k,rfl,rfl,hk,e,hI⟩
 have se:=e.size
 rcases drop_cases hk with ⟨x,hx,hd,hlt,hdec⟩ | ⟨hk,hd,hdec⟩
 · obtain ⟨h400,hok⟩:=hI
   obtain ⟨b,o,cs,rfl,hl,hA,fv,rfl,hF⟩:=hel k x hx
   obtain ⟨A2,c2,rfl,hlc2,hcm2,hlm2,hel2⟩:=SliceOf.open hF
   have hxm:=List.mem_of_getElem? hx
   have hsx:=hs.2 x hxm
   have hx1:=hsx.1
   have e':=eW.trans e
   unfold n27c5
   by_cases hk70:k≤70
   · have d1:decide ((k:Int)≤70)=true:=by simp;omega
     simp (disch:=try exact DI) only [↓PR,QR,simprocAttr,hBW.c3,hdec,d1]
     unfold n27c4
     have hwr:IntKind.i64.wrap ((sumF (d.msgs.take k):Int)+(x.fields.length:Int))=((sumF (d.msgs.take (k+1)):Nat):Int):=by
      rw [sumF_take hx,wrap_ok (by omega) (by omega)];omega
     by_cases hn:sumF (d.msgs.take (k+1))≤400
     · have d2:decide (((sumF (d.msgs.take (k+1)):Nat):Int) > 400)=false:=by simp;omega
       simp (disch:=try exact DI) only [↓PR,QR,simprocAttr,hBW.c3,(hA.c2 e').1,(hA.c2 e').2,hwr,d2]
       rw [hwr]
       refine loop1_intro (fun a0 wb=>∃ (kb:Nat) , a0 = .int .i64 (kb:Int)∧kb≤x.fields.length∧Ext w wb∧∀ f∈x.fields.take kb,okF f) (fun a0 _=>x.fields.length - (intOf a0).toNat) ⟨0,rfl,Nat.zero_le _,ee,by simp⟩ ?_
       rintro _ wb ⟨kb,rfl,hkb,eb,hIb⟩
       have seb:=eb.size
       rcases drop_cases hkb with ⟨xb,hxb,hdb,hltb,hdecb⟩ | ⟨hkb,hdb,hdecb⟩
       · obtain ⟨b2,o2,cs2,rfl,hl2,hA2,hE2⟩:=hel2 kb xb hxb
         obtain ⟨tv,cv,rfl,hT,hC,ht1,hc1⟩:=hE2.op
         obtain ⟨A3,c3,rfl,hlc3,hcm3,hlm3,hel3⟩:=SliceOf.open hC
         obtain ⟨A4,c4,rfl,hlc4,hcm4,hlm4,hel4⟩:=SliceOf.open hT
         have eb':=e'.trans eb
         unfold n27c2
         simp (disch:=try exact DI) only [↓PR,QR,simprocAttr,hdecb]
         unfold n27c1
         have hcell:=hA2.c15 eb'
         by_cases hc50:xb.cases.length≤50
         · have d3:decide ((xb.cases.length:Int) > 50)=false:=by simp;omega
           by_cases ht10:xb.terms.length≤10
           · have d4:decide ((xb.terms.length:Int) > 10)=false:=by simp;omega
             simp (disch:=try exact DI) only [↓PR,QR,simprocAttr,hcell,d3,d4]
             exact ⟨⟨kb+1,rfl,by omega,ee,forall_take hIb hxb ⟨hc50,ht10⟩⟩,meas_lt hltb⟩
           · have d4:decide ((xb.terms.length:Int) > 10)=true:=by simp;omega
             simp (disch:=try exact DI) only [↓PR,QR,simprocAttr,hcell,d3,d4]
             exact ⟨false,rfl,by simp,ee⟩
         · have d3:decide ((xb.cases.length:Int) > 50)=true:=by simp;omega
           simp (disch:=try exact DI) only [↓PR,QR,simprocAttr,hcell,d3]
           exact ⟨false,rfl,by simp,ee⟩
       · subst hkb
         rw [List.take_length] at hIb
         unfold n27c2
         simp (disch:=try exact DI) only [↓PR,QR,simprocAttr,hdecb]
         exact ⟨⟨k+1,rfl,rfl,by omega,ee,⟨hn,forall_take hok hx hIb⟩⟩,meas_lt hlt⟩
     · have d2:decide (((sumF (d.msgs.take (k+1)):Nat):Int) > 400)=true:=by simp;omega
       simp (disch:=try exact DI) only [↓PR,QR,simprocAttr,hBW.c3,(hA.c2 e').1,(hA.c2 e').2,hwr,d2]
       exact ⟨false,rfl,by simp,ee⟩
   · have d1:decide ((k:Int)≤70)=false:=by simp;omega
     have d2:decide ((d.msgs.length:Int)≤70)=false:=by simp;omega
     simp (disch:=try exact DI) only [↓PR,QR,simprocAttr,hBW.c3,hdec,d1,n27c3,d2]
     exact ⟨false,rfl,by simp,ee⟩
 · subst hk
   obtain ⟨h400,hok⟩:=hI
   rw [List.take_length] at h400 hok
   unfold n27c5
   simp (disch:=try exact DI) only [↓PR,QR,simprocAttr,hBW.c3,hdec,n27c3]
   exact ⟨_,rfl,fun hb=>⟨by have:=of_decide_eq_true hb;omega,h400,hok⟩,ee⟩
theorem pads_true (w0:World) (n p want no:Int) (h:padP n p=(want,no)):Ret Pg 48 #[.int .i64 n,.int .i64 p,.int .i64 want,.int .i64 no] w0 fun r w'=>r = .bool true∧Ext w0 w':=by
 refine n31s (R:=retR _) ?_;unfold n31
 refine zcr (Padding_ret n p) fun w1 e1=>?_
 rw [h]
 have d1:(want == want)=true:=by simp
 have d2:(no == no)=true:=by simp
 unfold n31c1
 simp (disch:=try exact DI) only [↓PR,QR,simprocAttr,d1,d2]
 exact ⟨by trivial,e1⟩
theorem known14_ret (w0:World):Ret Pg 15 #[] w0 fun r w'=>r = .bool true∧Ext w0 w':=by
 have hcg:calm (gD gF):=calm_g gF_plain (by decide)
 have hc1:calm (gD (gL 1)):=calm_g (by decide) (by decide)
 have hc2:calm (gD (gL 2)):=calm_g (by decide) (by decide)
 have hE:msgE (gD gF) 0=0:=by decide +kernel
 have hL:msgL (gD gF) 0=gF:=by decide +kernel
 have f1:flawedA (gD (gL 1))=true:=by unfold flawedA;rw [al_1];rfl
 have f2:flawedA (gD (gL 2))=true:=by unfold flawedA;rw [al_2];rfl
 have fg:flawedA (gD gF)=false:=by unfold flawedA;rw [al_g];rfl
 refine n29s (R:=retR _) ?_;unfold n29
 refine callK_ret (given_ret _) ?_
 rintro _ w1 ⟨bf1,bm1,rfl,_,_,_,hO1,hm1,e1⟩
 refine zcr (End_ret _ (gD gF) 0 (one_def hm1 (own_fields hO1 gF_plain)) hcg) fun w2 e2=>?_
 rw [hE,hL,en_g]
 unfold n29c17
 simp (disch:=try exact DI) only [↓PR,QR,simprocAttr]
 refine callK_ret (given_ret _) ?_
 rintro _ w3 ⟨bf3,bm3,rfl,_,_,_,hO3,hm3,e3⟩
 refine zcr (Fixed_ret _ (gD gF) 0 (one_def hm3 (own_fields hO3 gF_plain)) hcg) fun w4 e4=>?_
 rw [hE,hL,fx_g]
 have E4:=e1.trans (e2.trans (e3.trans e4))
 unfold n29c16
 simp (disch:=try exact DI) only [↓PR,QR,simprocAttr]
 refine callK_ret (less_ret _ 1 (.inl rfl)) ?_
 rintro v5 w5 ⟨hd5,e5⟩
 refine zcr (alCheck_ret _ v5 _ hd5 hc1) fun w6 e6=>?_
 rw [al_1,f1]
 have E6:=E4.trans (e5.trans e6)
 unfold n29c15
 simp (disch:=try exact DI) only [↓PR,QR,simprocAttr]
 have eX:Ext w6 (w6.alloc (.cells #[.int .i64 0,.int .i64 2,.int .i64 12] 29)):=ee
 have oX:=heap_new w6 #[.int .i64 0,.int .i64 2,.int .i64 12] 29
 generalize (w6.alloc (.cells #[.int .i64 0,.int .i64 2,.int .i64 12] 29))=X at eX oX ⊢
 refine callK_ret (less_ret _ 2 (.inr rfl)) ?_
 rintro v7 w7 ⟨hd7,e7⟩
 refine zcr (alCheck_ret _ v7 _ hd7 hc2) fun w8 e8=>?_
 rw [al_2,f2]
 unfold n29c14
 simp (disch:=try exact DI) only [↓PR,QR,simprocAttr]
 simp only [World.size_setCell,World.size_alloc]
 generalize hY:World.alloc (World.alloc w8 _) _=Y
 have eY:Ext w8 Y:=by rw [← hY];exact ee
 have o7:Y.heap[w8.heap.size]?=some (.cells #[.int .i64 0,.int .i64 2,.int .i64 12] 29 (0,0)):=by rw [← hY];simp (disch:=try exact DI) only [↓PR,QR,simprocAttr]
 have o9:Y.heap[w8.heap.size+1]?=some (.cells #[.int .i64 0,.int .i64 2,.int .i64 12] 29 (0,0)):=by rw [← hY];simp (disch:=try exact DI) only [↓PR,QR,simprocAttr]
 clear hY
 have x5:=(e7.trans (e8.trans eY)).obj oX
 have E9:=E6.trans (eX.trans (e7.trans (e8.trans eY)))
 clear e7 e8 eY hd7 hd5 e5 e6 oX eX E4 E6 hO1 hO3 hm1 hm3 e1 e2 e3 e4
 generalize w8.heap.size=p7 at o7 o9 ⊢
 generalize w6.heap.size=p5 at x5 ⊢
 refine callK_ret (given_ret _) ?_
 rintro _ w10 ⟨bf,bm,rfl,_,_,_,hO,hm,e10⟩
 unfold n29c13
 simp (disch:=try exact DI) only [↓PR,QR,simprocAttr]
 have hS:=SliceOf.new1 (E:=EInt) (fun n=>Value.int .i64 n) (fun _ _=>rfl) w10 [0,3,4,0] 3 (by decide)
 have eZ:Ext w10 (w10.alloc (.cells (([0,3,4,0]:List Int).map (fun n=>Value.int .i64 n)).toArray 3)):=ee
 refine zcr (yields_ret (w10.alloc (.cells (([0,3,4,0]:List Int).map (fun n=>Value.int .i64 n)).toArray 3)) _ (gD gF) 0 9 _ ((one_def hm (own_fields hO gF_plain)).ext eZ) hcg (by rw [hL,of_g];exact hS)) fun w11 e11=>?_
 have E11:=E9.trans (e10.trans (eZ.trans e11))
 have y5:=(e10.trans (eZ.trans e11)).obj x5
 have y7:=(e10.trans (eZ.trans e11)).obj o7
 have y9:=(e10.trans (eZ.trans e11)).obj o9
 clear e10 eZ e11 x5 o7 o9 hO hm hS E9
 simp (disch:=try exact DI) only [↓PR,QR,simprocAttr,↓n29c12,↓n29c11,↓n29c10,↓n29c9,↓n29c8]
 refine callK_ret (given_ret _) ?_
 rintro _ w12 ⟨bf2,bm2,rfl,_,_,_,hO,hm,e12⟩
 refine zcr (Aligned_ret _ (gD gF) (one_def hm (own_fields hO gF_plain)) hcg) fun w13 e13=>?_
 rw [fg]
 have z5:=(e12.trans e13).obj y5
 have z7:=(e12.trans e13).obj y7
 have z9:=(e12.trans e13).obj y9
 have E13:=E11.trans (e12.trans e13)
 simp (disch:=try exact DI) only [↓PR,QR,simprocAttr,↓n29c7,↓n29c6,↓n29c5,↓n29c4,(cells_of_heap z5).1,(cells_of_heap z7).1,(cells_of_heap z9).1]
 refine zcr (pads_true _ 4 3 1 0 (by decide +kernel)) fun w14 e14=>?_
 simp (disch:=try exact DI) only [↓PR,QR,simprocAttr,↓n29c3]
 refine zcr (pads_true _ 16 24 8 0 (by decide +kernel)) fun w15 e15=>?_
 simp (disch:=try exact DI) only [↓PR,QR,simprocAttr,↓n29c2]
 refine zcr (pads_true _ 8 8 0 0 (by decide +kernel)) fun w16 e16=>?_
 simp (disch:=try exact DI) only [↓PR,QR,simprocAttr,↓n29c1]
 refine zcr (pads_true _ 3 0 0 2 (by decide +kernel)) fun w17 e17=>?_
 simp (disch:=try exact DI) only [↓PR,QR,simprocAttr]
 exact ⟨by trivial,E13.trans (e14.trans (e15.trans (e16.trans e17)))⟩
end Go.Proofs.YtdfhjlggcdemhaaGreat
namespace Go.Proofs.YtdfhjlggcdemhaaGreat
open Sw
open Go.RowKit (intOf Below)
theorem rValid_ret (w0:World) (v:Value) (d:DefD) (hd:DefVal w0 v d) (hb:calm d):Ret Pg 21 #[v] w0 fun r w'=>r = .bool (!flawedB d)∧Ext w0 w':=by
 obtain ⟨mv,rfl,hM⟩:=hd
 have hm1:=SliceOf.oneCell hM
 refine n47s (R:=retR _) ?_;unfold n47
 simp (disch:=try exact DI) only [↓PR,QR,simprocAttr]
 refine zcr (rCheck_ret _ _ d ⟨mv,rfl,hM.ext ee⟩ hb) fun w1 e1=>?_
 unfold n47c1
 simp (disch:=try exact DI) only [↓PR,QR,simprocAttr]
 exact ⟨by first | trivial | rfl,ee⟩
end Go.Proofs.YtdfhjlggcdemhaaGreat
namespace Go.Proofs.YtdfhjlggcdemhaaGreat
open Sw
def n26c1 (t4 t11 t94 t101:Value) (Kr5:World→Prop) (Qr5:List PanicEntry→World→Prop) (Xr5:Nat→World→Prop) (R:RT) (w:World):Prop :=
 pickK t94 (.bool true) t101 fun t102 =>
 condP t102 (
 opU Pg (Instr.storeAt 4 t4 (.bool false)) Qr5 w fun w =>
 Xr5 0 w) (
 opV Pg (Instr.loadAt 3 t11) Qr5 w fun t103 w =>
 opV Pg (binS .add 3 true t103 (.int .i64 1)) Qr5 w fun t104 w =>
 opU Pg (Instr.storeAt 3 t11 t104) Qr5 w fun w =>
 Kr5 w)
def n26c2 (t4 t9 t11 t85 t89 t93:Value) (Kr5:World→Prop) (Qr5:List PanicEntry→World→Prop) (Xr5:Nat→World→Prop) (R:RT) (w:World):Prop :=
 pickK t89 (.bool true) t93 fun t94 =>
 joinK (fun (t101:Value) (w:World) =>
 n26c1 t4 t11 t94 t101 Kr5 Qr5 Xr5 R w) fun K7 =>
 guardP t94 false (
 opV Pg (Instr.loadAt 48 t9) Qr5 w fun t97 w =>
 opV Pg (Instr.loadAt 3 t11) Qr5 w fun t98 w =>
 opV Pg (Instr.indexAt 48 t97 t98) Qr5 w fun t99 w =>
 opV Pg (Instr.loadAt 3 t99) Qr5 w fun t100 w =>
 opV Pg (binS .neq 3 false t85 t100) Qr5 w fun t101 w =>
 K7 t101 w) (
 K7 undef w)
def n26c3 (t4 t9 t11 t84 t85:Value) (Kr5:World→Prop) (Qr5:List PanicEntry→World→Prop) (Xr5:Nat→World→Prop) (R:RT) (w:World):Prop :=
 opV Pg (Instr.loadAt 3 t11) Qr5 w fun t86 w =>
 opV Pg (Instr.loadAt 48 t9) Qr5 w fun t87 w =>
 opV Pg (Builtin.len_ #[48] 3 #[t87]) Qr5 w fun t88 w =>
 opV Pg (binS .geq 3 false t86 t88) Qr5 w fun t89 w =>
 joinK (fun (t93:Value) (w:World) =>
 n26c2 t4 t9 t11 t85 t89 t93 Kr5 Qr5 Xr5 R w) fun K6 =>
 guardP t89 false (
 opV Pg (Instr.loadAt 3 t11) Qr5 w fun t92 w =>
 opV Pg (binS .neq 3 false t84 t92) Qr5 w fun t93 w =>
 K6 t93 w) (
 K6 undef w)
def n26c4 (t4 t9 t11:Value) (ds:List Deferred) (R:RT) (w:World):Prop :=
 opV Pg (Instr.loadAt 3 t11) (outQ Pg ds [(some 4,t4)] R) w fun t105 w =>
 opV Pg (Instr.loadAt 48 t9) (outQ Pg ds [(some 4,t4)] R) w fun t106 w =>
 opV Pg (Builtin.len_ #[48] 3 #[t106]) (outQ Pg ds [(some 4,t4)] R) w fun t107 w =>
 opV Pg (binS .eql 3 false t105 t107) (outQ Pg ds [(some 4,t4)] R) w fun t108 w =>
 joinK (fun (t110:Value) (w:World) =>
 pickK t108 t110 (.bool false) fun t111 =>
 opU Pg (Instr.storeAt 4 t4 t111) (outQ Pg ds [(some 4,t4)] R) w fun w =>
 outX Pg ds [(some 4,t4)] R w) fun K8 =>
 guardP t108 true (
 callK Pg 15 #[] (outQ Pg ds [(some 4,t4)] R) w fun t110 w =>
 K8 t110 w) (
 K8 undef w)
def n26c5 (t4 t55 t80:Value) (ds:List Deferred) (R:RT) (w:World):Prop :=
 opV Pg (Instr.extract t80 0) (outQ Pg ds [(some 4,t4)] R) w fun t81 w =>
 opV Pg (Instr.extract t80 1) (outQ Pg ds [(some 4,t4)] R) w fun t82 w =>
 opV Pg (Instr.alloc 48 true (.tuple #[])) (outQ Pg ds [(some 4,t4)] R) w fun t9 w =>
 opU Pg (Instr.storeAt 48 t9 t81) (outQ Pg ds [(some 4,t4)] R) w fun w =>
 opV Pg (Instr.alloc 3 true (.tuple #[])) (outQ Pg ds [(some 4,t4)] R) w fun t11 w =>
 opU Pg (Instr.storeAt 3 t11 (.int .i64 0)) (outQ Pg ds [(some 4,t4)] R) w fun w =>
 rangeN2 Pg t55 ds (fun l5 t84 t85 w Kr5 Xr5 Qr5 =>
 busyK l5 w fun w =>
 n26c3 t4 t9 t11 t84 t85 Kr5 Qr5 Xr5 R w) (fun ch ds w=>outQ Pg ds [(some 4,t4)] R ch w) w (fun ds w =>
 n26c4 t4 t9 t11 ds R w) [fun ds w =>
 outX Pg ds [(some 4,t4)] R w]
def n26c6 (t1 t2 t4 t55:Value) (ds:List Deferred) (R:RT) (w:World):Prop :=
 opV Pg (Instr.fieldAt 24 t2 1) (outQ Pg ds [(some 4,t4)] R) w fun t75 w =>
 opV Pg (Instr.loadAt 22 t75) (outQ Pg ds [(some 4,t4)] R) w fun t76 w =>
 opV Pg (Instr.indexAt 22 t76 t1) (outQ Pg ds [(some 4,t4)] R) w fun t78 w =>
 opV Pg (Instr.loadAt 44 t78) (outQ Pg ds [(some 4,t4)] R) w fun t79 w =>
 callK Pg 23 #[t79] (outQ Pg ds [(some 4,t4)] R) w fun t80 w =>
 n26c5 t4 t55 t80 ds R w
def n26c7 (t4 t8 t43:Value) (next4:KV) (ds:List Deferred) (R:RT) (w:World):Prop :=
 opN Pg (nilN t43) (outQ Pg ds [(some 4,t4)] R) w fun t68 w =>
 opV Pg (Instr.fieldAt 44 t68 1) (outQ Pg ds [(some 4,t4)] R) w fun t69 w =>
 opV Pg (Instr.loadAt 42 t69) (outQ Pg ds [(some 4,t4)] R) w fun t70 w =>
 opV Pg (Instr.build 38 #[(1,(.int .i64 1)),(2,(.int .i64 1))]) (outQ Pg ds [(some 4,t4)] R) w fun t72 w =>
 opV Pg (Instr.indexAt 42 t70 t8) (outQ Pg ds [(some 4,t4)] R) w fun t73 w =>
 opU Pg (Instr.storeAt 38 t73 t72) (outQ Pg ds [(some 4,t4)] R) w fun w =>
 opV Pg (binS .add 3 true t8 (.int .i64 1)) (outQ Pg ds [(some 4,t4)] R) w fun t66 w =>
 next4 t66 w
def n26c8 (t1 t2 t4 t8 t43 t55:Value) (next4:KV) (ds:List Deferred) (R:RT) (w:World):Prop :=
 opN Pg (nilN t43) (outQ Pg ds [(some 4,t4)] R) w fun t60 w =>
 opV Pg (Instr.fieldAt 44 t60 1) (outQ Pg ds [(some 4,t4)] R) w fun t61 w =>
 opV Pg (Instr.loadAt 42 t61) (outQ Pg ds [(some 4,t4)] R) w fun t62 w =>
 opV Pg (Builtin.len_ #[42] 3 #[t62]) (outQ Pg ds [(some 4,t4)] R) w fun t63 w =>
 opV Pg (binS .lss 3 false t8 t63) (outQ Pg ds [(some 4,t4)] R) w fun t64 w =>
 condP t64 (
 n26c7 t4 t8 t43 next4 ds R w) (
 n26c6 t1 t2 t4 t55 ds R w)
def n26c9 (t1 t2 t4 t43 t55:Value) (ds:List Deferred) (R:RT) (w:World):Prop :=
 opV Pg (binS .eql 46 true t55 .nilFunc) (outQ Pg ds [(some 4,t4)] R) w fun t57 w =>
 condP t57 (
 opU Pg (Instr.storeAt 4 t4 (.bool false)) (outQ Pg ds [(some 4,t4)] R) w fun w =>
 outX Pg ds [(some 4,t4)] R w) (
 loop1 (fun t8 w next4 =>
 n26c8 t1 t2 t4 t8 t43 t55 next4 ds R w) (.int .i64 0) w)
def n26c10 (t4:Value) (ds:List Deferred) (R:RT) (w:World):Prop :=
 callK Pg 15 #[] (outQ Pg ds [(some 4,t4)] R) w fun t33 w =>
 opU Pg (Instr.storeAt 4 t4 t33) (outQ Pg ds [(some 4,t4)] R) w fun w =>
 outX Pg ds [(some 4,t4)] R w
def n26c11 (t1 t2 t4:Value) (ds:List Deferred) (R:RT) (w:World):Prop :=
 opV Pg (Instr.loadAt 24 t2) (outQ Pg ds [(some 4,t4)] R) w fun t34 w =>
 opV Pg (Instr.alloc 24 true (.tuple #[])) (outQ Pg ds [(some 4,t4)] R) w fun t5 w =>
 opU Pg (Instr.storeAt 24 t5 t34) (outQ Pg ds [(some 4,t4)] R) w fun w =>
 opV Pg (Instr.buildSlice 22 0 #[]) (outQ Pg ds [(some 4,t4)] R) w fun t35 w =>
 opV Pg (Instr.fieldAt 24 t2 1) (outQ Pg ds [(some 4,t4)] R) w fun t36 w =>
 opV Pg (Instr.loadAt 22 t36) (outQ Pg ds [(some 4,t4)] R) w fun t37 w =>
 opV Pg (Builtin.append_ #[22,22] 22 #[t35,t37]) (outQ Pg ds [(some 4,t4)] R) w fun t38 w =>
 opV Pg (Instr.fieldAt 24 t5 1) (outQ Pg ds [(some 4,t4)] R) w fun t39 w =>
 opU Pg (Instr.storeAt 22 t39 t38) (outQ Pg ds [(some 4,t4)] R) w fun w =>
 opV Pg (Instr.fieldAt 24 t5 1) (outQ Pg ds [(some 4,t4)] R) w fun t40 w =>
 opV Pg (Instr.loadAt 22 t40) (outQ Pg ds [(some 4,t4)] R) w fun t41 w =>
 opV Pg (Instr.indexAt 22 t41 t1) (outQ Pg ds [(some 4,t4)] R) w fun t43 w =>
 opV Pg (Instr.buildSlice 42 0 #[]) (outQ Pg ds [(some 4,t4)] R) w fun t45 w =>
 opN Pg (nilN t43) (outQ Pg ds [(some 4,t4)] R) w fun t47 w =>
 opV Pg (Instr.fieldAt 44 t47 1) (outQ Pg ds [(some 4,t4)] R) w fun t48 w =>
 opV Pg (Instr.loadAt 42 t48) (outQ Pg ds [(some 4,t4)] R) w fun t49 w =>
 opV Pg (Builtin.append_ #[42,42] 42 #[t45,t49]) (outQ Pg ds [(some 4,t4)] R) w fun t50 w =>
 opN Pg (nilN t43) (outQ Pg ds [(some 4,t4)] R) w fun t51 w =>
 opV Pg (Instr.fieldAt 44 t51 1) (outQ Pg ds [(some 4,t4)] R) w fun t52 w =>
 opU Pg (Instr.storeAt 42 t52 t50) (outQ Pg ds [(some 4,t4)] R) w fun w =>
 opV Pg (Instr.loadAt 24 t5) (outQ Pg ds [(some 4,t4)] R) w fun t53 w =>
 callK Pg 22 #[t53,t1] (outQ Pg ds [(some 4,t4)] R) w fun t55 w =>
 n26c9 t1 t2 t4 t43 t55 ds R w
def n26c12 (t1 t2 t4 t21 t24:Value) (ds:List Deferred) (R:RT) (w:World):Prop :=
 pickK t21 (.bool true) t24 fun t25 =>
 joinK (fun (t31:Value) (w:World) =>
 pickK t25 (.bool true) t31 fun t32 =>
 condP t32 (
 n26c10 t4 ds R w) (
 n26c11 t1 t2 t4 ds R w)) fun K3 =>
 guardP t25 false (
 opV Pg (Instr.fieldAt 24 t2 1) (outQ Pg ds [(some 4,t4)] R) w fun t28 w =>
 opV Pg (Instr.loadAt 22 t28) (outQ Pg ds [(some 4,t4)] R) w fun t29 w =>
 opV Pg (Builtin.len_ #[22] 3 #[t29]) (outQ Pg ds [(some 4,t4)] R) w fun t30 w =>
 opV Pg (binS .geq 3 false t1 t30) (outQ Pg ds [(some 4,t4)] R) w fun t31 w =>
 K3 t31 w) (
 K3 undef w)
def n26c13 (t1 t2 t4 t16 t20:Value) (ds:List Deferred) (R:RT) (w:World):Prop :=
 pickK t16 (.bool true) t20 fun t21 =>
 joinK (fun (t24:Value) (w:World) =>
 n26c12 t1 t2 t4 t21 t24 ds R w) fun K2 =>
 guardP t21 false (
 opV Pg (binS .lss 3 true t1 (.int .i64 0)) (outQ Pg ds [(some 4,t4)] R) w fun t24 w =>
 K2 t24 w) (
 K2 undef w)
def n26c14 (t1 t2 t4 t15:Value) (ds:List Deferred) (R:RT) (w:World):Prop :=
 opV Pg (Op.unary .not t15) (outQ Pg ds [(some 4,t4)] R) w fun t16 w =>
 joinK (fun (t20:Value) (w:World) =>
 n26c13 t1 t2 t4 t16 t20 ds R w) fun K1 =>
 guardP t16 false (
 opV Pg (Instr.loadAt 24 t2) (outQ Pg ds [(some 4,t4)] R) w fun t18 w =>
 callK Pg 21 #[t18] (outQ Pg ds [(some 4,t4)] R) w fun t19 w =>
 opV Pg (Op.unary .not t19) (outQ Pg ds [(some 4,t4)] R) w fun t20 w =>
 K1 t20 w) (
 K1 undef w)
def n26 (t0 t1:Value) (R:RT) (w:World):Prop :=
 (fun (ds:List Deferred) =>
 opV Pg (Instr.box 24 t0) (outQ Pg ds [(some 4,undef)] R) w fun t2 w =>
 opV Pg (Instr.alloc 4 true (.tuple #[])) (outQ Pg ds [(some 4,undef)] R) w fun t4 w =>
 opV Pg (Instr.loadAt 24 t2) (outQ Pg ds [(some 4,t4)] R) w fun t14 w =>
 callK Pg 14 #[t14] (outQ Pg ds [(some 4,t4)] R) w fun t15 w =>
 n26c14 t1 t2 t4 t15 ds R w) []
set_option maxHeartbeats 40000000 in
theorem n26s {t0 t1:Value} {R:RT} {w:World} (h:n26 t0 t1 R w):Calls Pg 5 #[t0,t1] w R:=by
 refine yE Tryz.func5 ?_
 unfold n26 at h
 dsimp only at h
 refine zs<|zr<|yv h fun _ w h=>yv h fun _ w h=>zn<|zk<|zs<|zs<|sim_regionG<|yG 4<|yv h fun _ w h=>yc h c14 fun _ w h=>yv h fun _ w h=>zm<|zn ?_
 refine yg1 3 3 false [18,19,20] 20 h (fun _ T hT h=>?_) fun σ w h=>?_
 · refine yv h fun _ w h=>yc h c21 fun _ w h=>yv h fun _ w h=>zn ?_
   exact zt hT h
 refine yG 2<|yp h fun _ h=>zm<|zn<|yg1 2 8 false [23,24] 24 h (fun _ T hT h=>?_) fun σ w h=>?_
 · refine zm<|yb h fun _ w h=>zn ?_
   exact zt hT h
 refine yG 2<|yp h fun _ h=>zm<|zn<|yg1 5 12 false [27,28,29,30,31] 31 h (fun _ T hT h=>?_) fun σ w h=>?_
 · refine zm<|yv h fun _ w h=>yv h fun _ w h=>yx h fun _ w h=>yb h fun _ w h=>zn ?_
   exact zt hT h
 refine yG 1<|yp h fun _ h=>zn<|sim_end<|zk<|yC h (fun h=>zs<|zr<|yc h c15 fun _ w h=>yu h fun w h=>zn<|zk<|sim_ret<|sim_then_ret<|bodyM_ret rfl h) fun h=>sim_skip<|zk<|zs<|zr<|yv h fun _ w h=>yv h fun _ w h=>yu h fun w h=>zn ?_
 refine zk<|zs<|zr<|yS h fun _ w h=>yv h fun _ w h=>yv h fun _ w h=>yx h fun _ w h=>yv h fun _ w h=>yu h fun w h=>zn<|zk<|zs<|zr<|yv h fun _ w h=>yv h fun _ w h=>?_
 refine zm<|yv h fun _ w h=>zm<|zn<|zk<|zs<|zr<|zm<|yS h fun _ w h=>zm<|yN h fun _ w h=>yv h fun _ w h=>yv h fun _ w h=>yx h fun _ w h=>yN h fun _ w h=>?_
 refine yv h fun _ w h=>yu h fun w h=>zn<|zk<|zs<|zr<|yv h fun _ w h=>zm<|yc h c22 fun _ w h=>zm<|zn<|zk<|zs<|zs<|zr ?_
 refine zm<|yb h fun _ w h=>zn<|zk<|yC h (fun h=>zs<|zr<|yu h fun w h=>zn<|zk<|sim_ret<|sim_then_ret<|bodyM_ret rfl h) fun h=>sim_skip<|zk<|zs<|zs<|zr<|zm<|zn<|zk<|sim_block ?_
 refine yl1 [8,58,59,60,61,62,63,64,65,66,67,68,69,70,71,72,73] 8 h fun σ w next h=>zs<|zs<|zr<|zm<|zm<|yN h fun _ w h=>yv h fun _ w h=>yv h fun _ w h=>yx h fun _ w h=>yb h fun _ w h=>zn<|zk<|yC h (fun h=>?_) fun h=>?_
 · refine sim_skip<|zk<|zs<|sim_block<|zr<|zm<|yN h fun _ w h=>yv h fun _ w h=>yv h fun _ w h=>zm<|yB h fun _ w h=>yv h fun _ w h=>yu h fun w h=>zn<|sim_block_normal ?_
   exact zk<|zr<|zm<|yb h fun _ w h=>zm<|zn<|zk<|⟨rfl,h⟩
 refine sim_exit<|sim_then_exit<|sim_then_exit<|sim_block_hit<|zk<|zs<|zr<|yv h fun _ w h=>yv h fun _ w h=>zm<|yv h fun _ w h=>yv h fun _ w h=>yc h c23 fun _ w h=>zm<|yv h fun _ w h=>?_
 refine yv h fun _ w h=>yv h fun _ w h=>yu h fun w h=>zm<|zn<|zk<|zs<|zr<|yv h fun _ w h=>yu h fun w h=>zn<|zk<|zs<|zs<|zr ?_
 refine zm<|zn<|zk<|sim_block<|sim_range2 [.ret] h rfl (fun l5 t84 t85 w Kr5 Xr5 Qr5 h=>?_) (fun ds w h=>?_) (fun c ds w h=>?_) (fun ch ds w h=>outQ_of rfl h)
 · refine zs<|zr<|zm<|zn<|zk<|zr<|zm<|zn<|zk ?_
   obtain ⟨hr,h⟩:=h
   refine ⟨rfl,hr,fun w hb=>?_⟩
   have h:=h w hb
   refine sim_block<|zs<|zs<|sim_regionG<|yG 5<|yv h fun _ w h=>yv h fun _ w h=>yx h fun _ w h=>yb h fun _ w h=>zm<|zn<|yg1 3 4 false [91,92,93] 93 h (fun _ T hT h=>?_) fun σ w h=>?_
   · refine zm<|yv h fun _ w h=>yb h fun _ w h=>zn ?_
     exact zt hT h
   refine yG 2<|yp h fun _ h=>zm<|zn<|yg1 6 9 false [96,97,98,99,100,101] 101 h (fun _ T hT h=>?_) fun σ w h=>?_
   · refine zm<|yv h fun _ w h=>yv h fun _ w h=>yv h fun _ w h=>yv h fun _ w h=>yb h fun _ w h=>zn ?_
     exact zt hT h
   refine yG 1<|yp h fun _ h=>zn<|sim_end<|zk<|yC h (fun h=>zs<|zr<|yu h fun w h=>zn<|zk<|sim_ret<|sim_then_ret<|sim_block_ret<|⟨rfl,0,rfl,h⟩) fun h=>sim_skip<|zk<|zr<|yv h fun _ w h=>yb h fun _ w h=>yu h fun w h=>zn<|sim_block_normal ?_
   exact ⟨rfl,h⟩
 · refine sim_block_normal<|zk<|zs<|sim_regionG<|yG 5<|yv h fun _ w h=>yv h fun _ w h=>yx h fun _ w h=>yb h fun _ w h=>zm<|zn<|yg1 1 4 true [110] 110 h (fun _ T hT h=>?_) fun σ w h=>?_
   · refine yc h c15 fun _ w h=>zn ?_
     exact zt hT h
   exact yG 2<|yp h fun _ h=>yu h fun w h=>zn<|sim_end<|zk<|sim_ret<|bodyM_ret rfl h
 rcases c with _ | c
 · refine ⟨_,rfl,.inl ⟨rfl,?_⟩⟩
   exact sim_block_ret<|sim_then_ret<|bodyM_ret rfl h
 exact h.elim
end Go.Proofs.YtdfhjlggcdemhaaGreat
namespace Go.Proofs.YtdfhjlggcdemhaaGreat
open Sw
open Go.RowKit (intOf Below)
theorem setCells_row {b:Nat} {T:TypeId} {fr:Nat×Nat}:∀ (vs:List Value) (o:Nat) {w:World} {cur:Array Value},w.heap[b]?=some (.cells cur T fr)→∃ cur':Array Value,(setCells w b o vs).heap[b]?=some (.cells cur' T fr)∧cur'.size=cur.size
 | [],_,_,_,h=>⟨_,h,rfl⟩
 | v::vs,o,w,cur,h=>by
  obtain ⟨cur',h1,h2⟩:=setCells_row vs (o+1) (heap_set (o:=o) h v)
  exact ⟨cur',h1,by rw [h2];simp⟩
theorem setCells_only {b:Nat}:∀ (vs:List Value) (o:Nat) (w:World),Only b w (setCells w b o vs)
 | [],_,_=>fun _ _=>rfl
 | v::vs,o,w=>fun g hg=>(setCells_only vs (o+1) (w.setCell ⟨b,o,none⟩ v) g hg).trans (Only.setCell w b o v g hg)
theorem setCells_ext {W:World} {b:Nat} (hb:W.heap.size≤b):∀ (vs:List Value) (o:Nat) {w:World},Ext W w→Ext W (setCells w b o vs)
 | [],_,_,e=>e
 | v::vs,o,w,e=>setCells_ext hb vs (o+1) (e.setCell (by exact hb) v)
theorem op_storeRow {P:Program} {QP:List PanicEntry→World→Prop} {w:World} {T n m:Nat} {z:Value} {ku:World→Prop} (h:TyInfo P T true n m z) {b:Nat} {cur:Array Value} {T':TypeId} (hc:w.heap[b]?=some (.cells cur T' (0,0))) (o:Nat) (vs:List Value) (ho:o+n≤cur.size) (hn:vs.length=n) (hv:∀ v∈vs,v.oneCell'=true) :
 opU P (Instr.storeAt T (.pointer (some ⟨b,o,none⟩)) (.agg vs.toArray)) QP w ku=ku (setCells w b o vs):=by
 refine opU_ok (u:=()) ?_
 have:=run_storeCellsA (P:=P) b o vs 0 w (fun j hj=>⟨cur[o+(0+j)]'(by omega),by rw [(cells_of_heap hc).1];exact Array.getElem?_eq_getElem (by omega)⟩) (fun j hj=>(cells_of_heap hc).2 _) hv
 simp [Instr.storeAt,Instr.sureAddr,storeVar,Sw.run_sizeOf h,cells_agg,hn,this]
theorem las_loop {w0 W w2:World} {l:List FieldD} {t1:Value} {n g1 g2 p4 p k1 cap:Nat} {t2:Value} {R:RT} (hn:l.length=n) (hn2:n≤40) (hIt:ItAt w2 W p l) (hg2:g2 < w2.heap.size) (hb2:w0.heap.size≤g2) (hne:g1≠g2) (hne4:p4≠g2) {cur:Array Value} (hc:W.heap[g2]?=some (.cells cur 38 (0,0))) (hcs:n*15≤cur.size)
 (hf:W.cell? ⟨g1,k1+1,none⟩=some (.slice (some ⟨g2,0,none⟩) n cap)) (h0:W.cell? ⟨g1,k1,none⟩≠none) (o4:W.heap[p4]?=some (.cells #[.bool false] 4 (0,0))) (e0:Ext w0 W)
 (hK:∀ w',Ext w0 w'→w'.heap[p4]?=some (.cells #[.bool false] 4 (0,0))→ItAt w2 w' p l→n26c6 t1 t2 (.pointer (some ⟨p4,0,none⟩)) (.func (.func 57) #[] #[.pointer (some ⟨p,0,none⟩)]) [] R w') :
 loop1 (fun t8 w next4=>n26c8 t1 t2 (.pointer (some ⟨p4,0,none⟩)) t8 (.pointer (some ⟨g1,k1,none⟩)) (.func (.func 57) #[] #[.pointer (some ⟨p,0,none⟩)]) next4 [] R w) (.int .i64 0) W:=by
 refine loop1_intro (fun i w=>∃ k:Nat,i = .int .i64 k∧k≤n∧Ext w0 w∧w.heap[p4]?=some (.cells #[.bool false] 4 (0,0))∧ItAt w2 w p l∧w.heap[g1]?=W.heap[g1]?∧∃ cur:Array Value,w.heap[g2]?=some (.cells cur 38 (0,0))∧n*15≤cur.size) (fun i _=>n - (intOf i).toNat) ⟨0,rfl,by omega,e0,o4,hIt,rfl,cur,hc,hcs⟩ ?_
 rintro _ w ⟨k,rfl,hk,e,y4,hI,hg,cu,hcu,hcz⟩
 have hcell:∀ o,w.cell? ⟨g1,o,none⟩=W.cell? ⟨g1,o,none⟩:=fun o=>by unfold World.cell?;simp only [hg]
 have a1:w.cell? ⟨g1,k1+1,none⟩=some (.slice (some ⟨g2,0,none⟩) n cap):=(hcell _).trans hf
 obtain ⟨nm,hnm⟩:=Option.ne_none_iff_exists'.1 (show w.cell? ⟨g1,k1,none⟩≠none by rw [hcell];exact h0)
 unfold n26c8
 by_cases hlt:k < n
 · have d1:decide ((k:Int) < (n:Int))=true:=by simp;omega
   simp (disch:=try exact DI) only [↓PR,QR,simprocAttr,a1,hnm,d1]
   unfold n26c7
   simp (disch:=try exact DI) only [↓PR,QR,simprocAttr,a1,hnm]
   rw [op_storeRow ty38 hcu (k*15) [.string ByteArray.empty,.int .i64 1,.int .i64 1,.bool false,.bool false,.int .i64 0,.int .i64 0,.int .i64 0,.slice none 0 0,.string ByteArray.empty,.string ByteArray.empty,.string ByteArray.empty,.slice none 0 0,.int .i64 0,.int .i64 0] (by omega) rfl (by simp [Value.oneCell'])]
   obtain ⟨cu2,hc2,hs2⟩:=setCells_row [.string ByteArray.empty,.int .i64 1,.int .i64 1,.bool false,.bool false,.int .i64 0,.int .i64 0,.int .i64 0,.slice none 0 0,.string ByteArray.empty,.string ByteArray.empty,.string ByteArray.empty,.slice none 0 0,.int .i64 0,.int .i64 0] (k*15) hcu
   have ho:=setCells_only (b:=g2) [.string ByteArray.empty,.int .i64 1,.int .i64 1,.bool false,.bool false,.int .i64 0,.int .i64 0,.int .i64 0,.slice none 0 0,.string ByteArray.empty,.string ByteArray.empty,.string ByteArray.empty,.slice none 0 0,.int .i64 0,.int .i64 0] (k*15) w
   have e2:=setCells_ext hb2 [.string ByteArray.empty,.int .i64 1,.int .i64 1,.bool false,.bool false,.int .i64 0,.int .i64 0,.int .i64 0,.slice none 0 0,.string ByteArray.empty,.string ByteArray.empty,.string ByteArray.empty,.slice none 0 0,.int .i64 0,.int .i64 0] (k*15) e
   generalize setCells w g2 (k*15) [.string ByteArray.empty,.int .i64 1,.int .i64 1,.bool false,.bool false,.int .i64 0,.int .i64 0,.int .i64 0,.slice none 0 0,.string ByteArray.empty,.string ByteArray.empty,.string ByteArray.empty,.slice none 0 0,.int .i64 0,.int .i64 0]=w3 at hc2 ho e2 ⊢
   simp (disch:=try exact DI) only [↓PR,QR,simprocAttr]
   exact ⟨⟨k+1,rfl,by omega,e2,(ho p4 hne4).trans y4,hI.only ho hg2,(ho g1 hne).trans hg,cu2,hc2,by omega⟩,meas_lt hlt⟩
 · have d1:decide ((k:Int) < (n:Int))=false:=by simp;omega
   simp (disch:=try exact DI) only [↓PR,QR,simprocAttr,a1,hnm,d1]
   exact hK w e y4 hI
theorem las_range {w0 w:World} {d:DefD} {m:MsgD} {A:Option Addr} {c p2 p4 p i:Nat} {w2:World} (hM:MsgsOf w0 (.slice A d.msgs.length c) d.msgs) (hm:d.msgs[i]?=some m) (hok:okM m.fields) (hl:m.fields.length≤40) (hIt:ItAt w2 w p m.fields) (o4:w.heap[p4]?=some (.cells #[.bool false] 4 (0,0))) (hp4:w0.heap.size≤p4) (e:Ext w0 w) (o2:ElemAt w p2 0 (defCells d (.slice A d.msgs.length c))) :
 n26c6 (.int .i64 (i:Int)) (.pointer (some ⟨p2,0,none⟩)) (.pointer (some ⟨p4,0,none⟩)) (.func (.func 57) #[] #[.pointer (some ⟨p,0,none⟩)]) [] (retR fun r w'=>r = .bool true∧Ext w0 w') w:=by
 obtain ⟨_,_,hAA,_,_,_,hel⟩:=SliceOf.open hM
 injection hAA with hA1 _ hA2
 subst hA1 hA2
 obtain ⟨b,o,cs,rfl,_,hA,fv,rfl,hF⟩:=hel i m hm
 have hlt:=(List.getElem?_eq_some_iff.1 hm).1
 have hf1:=SliceOf.oneCell hF
 have hidx:∀ (w:World) (QP:List PanicEntry→World→Prop) (K:Value→World→Prop),opV Pg (Instr.indexAt 22 (.slice (some ⟨b,o,none⟩) d.msgs.length c) (.int .i64 i)) QP w K=K (.pointer (some ⟨b,o+i*2,none⟩)) w:=fun w QP K=>op_indexN Tryz.underlying22 ty44 _ _ _ _ _ i hlt
 unfold n26c6
 simp (disch:=try exact DI) only [↓PR,QR,simprocAttr,o2.c3 (Ext.refl _),hidx,(hA.c2 e).1,(hA.c2 e).2]
 refine callK_ret (rOffsets_ret w _ m ⟨_,rfl,hF.ext e⟩ hok.1 (by omega)) ?_
 rintro _ w1 ⟨lv,rfl,hO,e1⟩
 have hSl:=hO.slice (E:=EInt) (fun _=>rfl) (fun _ _=>rfl)
 obtain ⟨B,cc,rfl,hlc',hcm',hlm',hel'⟩:=SliceOf.open hSl
 have y4:=e1.obj o4
 have hI1:=hIt.ext e1
 have E1:=e.trans e1
 unfold n26c5
 simp (disch:=try exact DI) only [↓PR,QR,simprocAttr]
 obtain ⟨fv',hOff⟩:=hI1.off
 have eX:Ext w1 ((w1.alloc (.cells #[.slice B (offsL m.fields).length cc] 48)).alloc (.cells #[.int .i64 0] 3)):=ee
 have o9:((w1.alloc (.cells #[.slice B (offsL m.fields).length cc] 48)).alloc (.cells #[.int .i64 0] 3)).heap[w1.heap.size]?=some (.cells #[.slice B (offsL m.fields).length cc] 48 (0,0)):=by simp (disch:=try exact DI) only [↓PR,QR,simprocAttr]
 have o11:((w1.alloc (.cells #[.slice B (offsL m.fields).length cc] 48)).alloc (.cells #[.int .i64 0] 3)).heap[w1.heap.size+1]?=some (.cells #[.int .i64 0] 3 (0,0)):=by simp (disch:=try exact DI) only [↓PR,QR,simprocAttr]
 have s4:=(Array.getElem?_eq_some_iff.1 y4).1
 generalize hp9:w1.heap.size=p9 at o9 o11 ⊢
 have l9:=(Array.getElem?_eq_some_iff.1 o9).1
 have l11:=(Array.getElem?_eq_some_iff.1 o11).1
 generalize hX:((w1.alloc (.cells #[.slice B (offsL m.fields).length cc] 48)).alloc (.cells #[.int .i64 0] 3))=X at eX o9 o11 l9 l11 ⊢
 have x4:=eX.obj y4
 have EX:=E1.trans eX
 have s0:=e.size
 have s1:=e1.size
 have l4:=(Array.getElem?_eq_some_iff.1 x4).1
 let I:Nat→World→Prop:=fun k w'=>Ext w1 w'∧w'.heap[p9]?=some (.cells #[.slice B (offsL m.fields).length cc] 48 (0,0))∧w'.heap[p9+1]?=some (.cells #[.int .i64 (k:Int)] 3 (0,0))∧w'.heap[p4]?=some (.cells #[.bool false] 4 (0,0))
 have hsX:w1.heap.size≤X.heap.size:=eX.size
 have hLI:∀ k,Lasts2 X.heap.size (I k):=fun k=>(Lasts2.from (by omega)).and ((Lasts2.has _ (by simp) (by simp)).and ((Lasts2.has _ (by simp) (by simp)).and (Lasts2.has _ (by simp) (by simp))))
 refine ⟨_,_,m.fields.length,(fun k => .int .i64 k),(fun k => .int .i64 (endO (m.fields.take k))),OffAt p fv' m.fields,I,fun _ _=>False,fun _ _=>False,rfl,c57,Offsets_seq p fv' m.fields hok.1,⟨eX,o9,o11,x4⟩,fun k w' h=>hOff.ext h.1,hLI,fun _=>Lasts2.const _ _,fun _=>Lasts2.const _ _,?_,?_,?_,?_⟩
 · intro Rk hRk j w4 hj hI4 hR4 hlt4 hready
   refine ⟨hready,fun w5 hbz=>?_⟩
   have hR5:=hRk _ _ (KR.busied hbz) hR4
   obtain ⟨e5,q9,q11,q4⟩:=(hLI j).busied hbz (Nat.le_succ _) hI4
   have hcl:=offsL_len m.fields
   obtain ⟨b2,o2',cs2,rfl,_,hE,hcs⟩:=hel' j _ (offsL_get hj)
   subst hcs
   have hge:decide ((j:Int)≥((offsL m.fields).length:Int))=false:=by simp;omega
   have hjj:((j:Int) != (j:Int))=false:=by simp
   have hss:(endO (m.fields.take j) != endO (m.fields.take j))=false:=by simp
   unfold n26c3
   simp (disch:=try exact DI) only [↓PR,QR,simprocAttr,(cells_of_heap q11).1,(cells_of_heap q9).1,hge,hjj,hE.c1 e5,hss,↓n26c2]
   unfold n26c1
   have hw:IntKind.i64.wrap ((j:Int)+1)=((j+1:Nat):Int):=by rw [wrap_ok (by omega) (by omega)];omega
   have r11:(w5.setCell ⟨p9+1,0,none⟩ (.int .i64 ((j+1:Nat):Int))).heap[p9+1]?=some (.cells #[.int .i64 ((j+1:Nat):Int)] 3 (0,0)):=by simpa using heap_set (o:=0) q11 (.int .i64 ((j+1:Nat):Int))
   have r9:=(Only.setCell w5 (p9+1) 0 (.int .i64 ((j+1:Nat):Int)) p9 (by omega)).trans q9
   have r4:=(Only.setCell w5 (p9+1) 0 (.int .i64 ((j+1:Nat):Int)) p4 (by omega)).trans q4
   have e6:Ext w1 (w5.setCell ⟨p9+1,0,none⟩ (.int .i64 ((j+1:Nat):Int))):=e5.setCell (by show w1.heap.size≤p9+1;omega) _
   have hR6:=hRk _ _ (KR.setCell (KR.refl _ w5) (p9+1) 0 (.int .i64 ((j+1:Nat):Int)) (.inl (by omega))) hR5
   simp (disch:=try exact DI) only [↓PR,QR,simprocAttr,(cells_of_heap q11).1,(cells_of_heap q11).2,hw]
   exact ⟨hR6,e6,r9,r11,r4⟩
 · rintro w4 ⟨e4,q9,q11,q4⟩ hmk
   have hcl:=offsL_len m.fields
   have hee:((m.fields.length:Int) == ((offsL m.fields).length:Int))=true:=by simp [hcl]
   unfold n26c4
   simp (disch:=try exact DI) only [↓PR,QR,simprocAttr,(cells_of_heap q11).1,(cells_of_heap q9).1,hee]
   refine zcr (known14_ret _) fun w5 e5=>?_
   have z4:=e5.obj q4
   simp (disch:=try exact DI) only [↓PR,QR,simprocAttr,(cells_of_heap z4).1,(cells_of_heap z4).2,hee]
   have r4:(w5.setCell ⟨p4,0,none⟩ (.bool true)).heap[p4]?=some (.cells #[.bool true] 4 (0,0)):=by simpa using heap_set (o:=0) z4 (.bool true)
   refine outs_marks (bs:=[X.heap.size]) (w0:=w0) (by simp) (fun b hb=>?_) ((E1.trans (e4.trans e5)).setCell (p:=⟨p4,0,none⟩) hp4 _) (fun w' e' hh=>?_)
   · obtain rfl:=List.mem_singleton.1 hb
     exact ⟨(hmk.ext e5).setCell _ _,by have:=EX.size;omega⟩
   · have z8:=hh _ _ has_nd r4
     simp (disch:=try exact DI) only [↓PR,QR,simprocAttr,outX_nil,retV,resOne,(cells_of_heap z8).1]
     exact ⟨by trivial,e'⟩
 · rintro c w4 h
   exact h.elim
 · rintro ch w4 h
   exact h.elim
theorem AlignState_ret (w0:World) (v:Value) (d:DefD) (i:Int) (hd:DefVal w0 v d) (hsm:DefSm d):Ret Pg 5 #[v,.int .i64 i] w0 fun r w'=>r = .bool true∧Ext w0 w':=by
 obtain ⟨mv,rfl,hM⟩:=hd
 have hm1:=SliceOf.oneCell hM
 have hdv:∀ w,Ext w0 w→DefVal w (.agg #[.string d.name,mv,.string d.start]) d:=fun w e=>⟨_,rfl,hM.ext e⟩
 refine n26s (R:=retR _) ?_;unfold n26
 dsimp only
 rw [op_boxA]
 have hBW:=ElemAt.new (w:=w0) (defCells d mv) (24)
 have eW:Ext w0 (w0.alloc (Obj.cells (List.toArray (defCells d mv)) (24))):=(Ext.refl _).alloc _
 generalize (w0.alloc (Obj.cells (List.toArray (defCells d mv)) (24)))=W at hBW eW ⊢
 have eY:Ext W (W.alloc (.cells #[.bool false] 4)):=ee
 have oY:=heap_new W #[.bool false] 4
 have hW0:w0.heap.size≤W.heap.size:=eW.size
 have sY:(W.alloc (.cells #[.bool false] 4)).heap.size=W.heap.size+1:=by simp
 have hcY:=hBW.c3 eY
 simp (disch:=try exact DI) only [↓PR,QR,simprocAttr,hcY]
 generalize hp4:W.heap.size=p4 at oY sY hW0 ⊢
 generalize (W.alloc (.cells #[.bool false] 4))=Y at eY oY sY hcY ⊢
 have EY:=eW.trans eY
 refine callK_ret (fits14_ret _ _ d (hdv _ EY) hsm) ?_
 rintro _ w1 ⟨b,rfl,hfit,e1⟩
 have f1:=eY.trans e1
 have E1:=eW.trans f1
 have o1:=e1.obj oY
 have hend:∀ w,Ext w0 w→w.heap[p4]?=some (.cells #[.bool false] 4 (0,0))→n26c10 (.pointer (some ⟨p4,0,none⟩)) [] (retR fun r w'=>r = .bool true∧Ext w0 w') w:=by
  intro w e o
  unfold n26c10
  refine zcr (known14_ret _) fun w2 e2=>?_
  have z4:=e2.obj o
  simp (disch:=try exact DI) only [↓PR,QR,simprocAttr,(cells_of_heap z4).1,(cells_of_heap z4).2]
  have r4:(w2.setCell ⟨p4,0,none⟩ (.bool true)).heap[p4]?=some (.cells #[.bool true] 4 (0,0)):=by simpa using heap_set (o:=0) z4 (.bool true)
  have e':Ext w0 (w2.setCell ⟨p4,0,none⟩ (.bool true)):=(e.trans e2).setCell (by exact hW0) _
  simp (disch:=try exact DI) only [↓PR,QR,simprocAttr,outX_nil,retV,resOne,(cells_of_heap r4).1]
  exact ⟨by trivial,e'⟩
 unfold n26c14
 cases b with
 | false =>
  simp (disch:=try exact DI) only [↓PR,QR,simprocAttr,↓n26c13,↓n26c12]
  exact hend _ E1 o1
 | true =>
 have ht:=fits_calm (hfit rfl)
 simp (disch:=try exact DI) only [↓PR,QR,simprocAttr,hBW.c3 f1]
 refine zcr (rValid_ret _ _ d (hdv _ E1) ht) fun w2 e2=>?_
 have f2:=f1.trans e2
 have E2:=eW.trans f2
 have o2:=e2.obj o1
 by_cases hf:(checkP d).2.2=0
 case neg =>
  have hfb:flawedB d=true:=by unfold flawedB;simp [hf]
  rw [hfb]
  simp (disch:=try exact DI) only [↓PR,QR,simprocAttr,↓n26c13,↓n26c12]
  exact hend _ E2 o2
 have hfb:flawedB d=false:=by unfold flawedB;simp [hf]
 rw [hfb]
 by_cases hi:i < 0
 · have d1:decide (i < 0)=true:=decide_eq_true hi
   simp (disch:=try exact DI) only [↓PR,QR,simprocAttr,d1,↓n26c13,↓n26c12]
   exact hend _ E2 o2
 have d1:decide (i < 0)=false:=decide_eq_false hi
 obtain ⟨A,c,rfl,hlc,hcm,hlm,hel⟩:=SliceOf.open hM
 have hcW:=hBW.c3 f2
 by_cases hh:(d.msgs.length:Int)≤i
 · have d2:decide (i≥(d.msgs.length:Int))=true:=decide_eq_true hh
   simp (disch:=try exact DI) only [↓PR,QR,simprocAttr,d1,d2,hcW,↓n26c13,↓n26c12]
   exact hend _ E2 o2
 have d2:decide (i≥(d.msgs.length:Int))=false:=decide_eq_false hh
 obtain ⟨k,rfl⟩:∃ k:Nat,i=k:=⟨i.toNat,by omega⟩
 have hk:k < d.msgs.length:=by omega
 obtain ⟨m,hm⟩:=getElem?_lt hk
 obtain ⟨hok,hl1,hl40⟩:=valid_okM hf (List.mem_of_getElem? hm)
 simp (disch:=try exact DI) only [↓PR,QR,simprocAttr,d1,d2,hcW,↓n26c13,↓n26c12]
 unfold n26c11
 have eZ1:Ext w2 (w2.alloc (.cells #[.string d.name,.slice A d.msgs.length c,.string d.start] 24)):=ee
 have o5:=heap_new w2 #[.string d.name,.slice A d.msgs.length c,.string d.start] 24
 have s51:(w2.alloc (.cells #[.string d.name,.slice A d.msgs.length c,.string d.start] 24)).heap.size=w2.heap.size+1:=by simp only [World.size_alloc]
 have eZ:Ext (w2.alloc (.cells #[.string d.name,.slice A d.msgs.length c,.string d.start] 24)) ((w2.alloc (.cells #[.string d.name,.slice A d.msgs.length c,.string d.start] 24)).alloc (.cells #[] 44)):=ee
 have hO0:=OwnE.new (w2.alloc (.cells #[.string d.name,.slice A d.msgs.length c,.string d.start] 24)) 44 2 (Subtype.val:Cs 2→List Value) [] (fun x=>x.2) (by simp)
 simp only [List.flatMap_nil,List.length_nil,World.size_alloc] at hO0
 have hcZ:=hBW.c3 (f2.trans (eZ1.trans eZ))
 have sZ:((w2.alloc (.cells #[.string d.name,.slice A d.msgs.length c,.string d.start] 24)).alloc (.cells #[] 44)).heap.size=w2.heap.size+1+1:=by simp only [World.size_alloc]
 simp (disch:=try exact DI) only [↓PR,QR,simprocAttr,hcW,hcZ]
 have s2:=E2.size
 have l42:=(Array.getElem?_eq_some_iff.1 o2).1
 generalize hp5:w2.heap.size=p5 at o5 hO0 sZ s51 s2 l42 ⊢
 generalize hZ1:(w2.alloc (.cells #[.string d.name,.slice A d.msgs.length c,.string d.start] 24))=Z1 at eZ1 eZ o5 hO0 hcZ sZ s51 ⊢
 clear hZ1
 generalize hZ:(Z1.alloc (.cells #[] 44))=Z at eZ hO0 hcZ sZ ⊢
 clear hZ
 obtain ⟨css,hraw,hmates⟩:=SliceOf.raw hM
 have hlc2:css.length=d.msgs.length:=hmates.1
 obtain ⟨A',c',hAv,_,_,hne⟩:=hraw
 injection hAv with hAv1 _ hAv2
 subst hAv1 hAv2
 obtain ⟨b,o,rfl,hcs⟩:=hne (by rintro rfl;simp at hlc2;omega)
 have h70:=(hfit rfl).1
 rw [← hlc2]
 refine op_appendE (l':=css) (b:=b) (o:=o) Tryz.underlying22 ty44 rfl (by decide) (fun x=>x.2) (fun x hx u hu=>?_) hO0 (fun j x hx=>?_) (by omega) (Nat.le_trans (Nat.mul_le_mul (show ([]:List (Cs 2)).length+css.length≤70 by simp;omega) by44) (by decide)) (by simp;omega) ?_
 · obtain ⟨y,_,hy⟩:=hmates.mem hx
   exact EMsg.one hy u hu
 · obtain ⟨cs,_,h2,rfl⟩:=hcs j x hx
   exact h2.ext (E2.trans (eZ1.trans eZ))
 rintro v1 w3 hO1 hg1
 rw [List.nil_append] at hO1
 obtain ⟨g1,cap1,rfl,hb1,hlt1,hT1,hfz1,hel1⟩:=hO1.row (fun x=>x.2) (by omega)
 have e3:Ext Z1 w3:=eZ.grown hg1 fun g hg=>by have:=(World.ownsRow.lt hO0 g hg).1;omega
 have x5:=e3.obj o5
 have E3:Ext w0 w3:=E2.trans (eZ1.trans e3)
 have x4:=e3.obj (eZ1.obj o2)
 have s4':=(Array.getElem?_eq_some_iff.1 (eZ1.obj o2)).1
 obtain ⟨ck,hck⟩:=getElem?_lt (l:=css) (k:=k) (by omega)
 obtain ⟨fv,hcke,hF⟩:=hmates.2 k m ck hm hck
 have hEk:=hel1 k ck hck
 have hf1:=SliceOf.oneCell hF
 have y5:(w3.setCell ⟨p5,1,none⟩ (.slice (some ⟨g1,0,none⟩) css.length cap1)).heap[p5]?=some (.cells #[.string d.name,.slice (some ⟨g1,0,none⟩) css.length cap1,.string d.start] 24 (0,0)):=by simpa using heap_set (o:=1) x5 (.slice (some ⟨g1,0,none⟩) css.length cap1)
 have ho4:=Only.setCell w3 p5 1 (.slice (some ⟨g1,0,none⟩) css.length cap1)
 have y4:=(ho4 p4 (by omega)).trans x4
 have hO4:=(OwnR.only hO1.range ho4 (.inr (.inl (by omega)))).1
 have e4:Ext w2 (w3.setCell ⟨p5,1,none⟩ (.slice (some ⟨g1,0,none⟩) css.length cap1)):=(eZ1.trans e3).setCell (p:=⟨p5,1,none⟩) (by rw [hp5];exact Nat.le_refl _) _
 have s34:(w3.setCell ⟨p5,1,none⟩ (.slice (some ⟨g1,0,none⟩) css.length cap1)).heap.size=w3.heap.size:=by simp only [World.size_setCell]
 have eT:Ext (w3.setCell ⟨p5,1,none⟩ (.slice (some ⟨g1,0,none⟩) css.length cap1)) ((w3.setCell ⟨p5,1,none⟩ (.slice (some ⟨g1,0,none⟩) css.length cap1)).alloc (.cells #[] 38)):=ee
 have hO5:=OwnE.new (w3.setCell ⟨p5,1,none⟩ (.slice (some ⟨g1,0,none⟩) css.length cap1)) 38 15 (Subtype.val:Cs 15→List Value) [] (fun x=>x.2) (by simp)
 simp only [List.flatMap_nil,List.length_nil,World.size_setCell] at hO5
 obtain ⟨g1',cap1',hv1',hb1',hlt1',hT1',hfz1',hel1'⟩:=hO4.row (fun x=>x.2) (by omega)
 injection hv1' with hv1' _ hv1''
 injection hv1' with hv1'
 injection hv1' with hv1'
 subst hv1' hv1''
 have hEk4:ElemAt (w3.setCell ⟨p5,1,none⟩ (.slice (some ⟨g1,0,none⟩) css.length cap1)) g1 (k*2) (msgCells m fv):=hcke ▸ hel1' k ck hck
 have hc5:=hEk4.c2 eT
 simp (disch:=try exact DI) only [↓PR,QR,simprocAttr,(cells_of_heap x5).1,(cells_of_heap x5).2,(cells_of_heap y5).1,hc5.1,hc5.2,(hEk4.c2 (Ext.refl _)).1,(hEk4.c2 (Ext.refl _)).2]
 have sT:((w3.setCell ⟨p5,1,none⟩ (.slice (some ⟨g1,0,none⟩) css.length cap1)).alloc (.cells #[] 38)).heap.size=w3.heap.size+1:=by simp only [World.size_alloc,World.size_setCell]
 generalize hU:(w3.setCell ⟨p5,1,none⟩ (.slice (some ⟨g1,0,none⟩) css.length cap1))=U at y5 y4 hO4 e4 s34 eT hO5 hEk4 hc5 sT ho4 hT1' hfz1' hlt1' hel1' ⊢
 clear hU
 generalize hT:(U.alloc (.cells #[] 38))=V at eT hO5 hc5 sT ⊢
 clear hT
 have EU:Ext w0 U:=E2.trans e4
 obtain ⟨cs2,hraw2,hmates2⟩:=SliceOf.raw hF
 have hlc3:cs2.length=m.fields.length:=hmates2.1
 obtain ⟨A',c',hAv,_,_,hne⟩:=hraw2
 subst hAv
 obtain ⟨b',o',rfl,hcs'⟩:=hne (by rintro rfl;simp at hlc3;omega)
 refine op_appendE (l':=cs2) (b:=b') (o:=o') Tryz.underlying42 ty38 rfl (by decide) (fun x=>x.2) (fun x hx u hu=>?_) hO5 (fun j x hx=>?_) (by omega) (Nat.le_trans (Nat.mul_le_mul (show ([]:List (Cs 15)).length+cs2.length≤70 by simp;omega) by38) (by decide)) (by simp;omega) ?_
 · obtain ⟨y,_,hy⟩:=hmates2.mem hx
   exact EField.one hy u hu
 · obtain ⟨cs,_,h2,rfl⟩:=hcs' j x hx
   exact h2.ext (EU.trans eT)
 rintro v2 w6 hO6 hg6
 rw [List.nil_append] at hO6
 obtain ⟨g2,cap2,rfl,hb2,hlt2,hT2,hfz2,hel2⟩:=hO6.row (fun x=>x.2) (by omega)
 have e6:Ext U w6:=eT.grown hg6 fun g hg=>by have:=(World.ownsRow.lt hO5 g hg).1;omega
 have z5:=e6.obj y5
 have z4:=e6.obj y4
 have hEk6:=hEk4.ext e6
 have E6:=EU.trans e6
 have hk1:=hEk6.c2 (Ext.refl _)
 have fz6:w6.frozen? ⟨g1,k*2+1,none⟩=false:=by
  obtain ⟨cur1,fr1,hh1⟩:=hT1'
  have h:=hfz1' (k*2+1)
  unfold World.frozen? at h ⊢
  rw [show w6.heap[g1]?=U.heap[g1]? from e6.block g1 (Array.getElem?_eq_some_iff.1 hh1).1]
  exact h
 have h15:g1≠p5:=by omega
 have hO7:OwnE (w6.setCell ⟨g1,k*2+1,none⟩ (.slice (some ⟨g2,0,none⟩) cs2.length cap2)) (p5+1) 44 2 Subtype.val (.slice (some ⟨g1,0,none⟩) css.length cap1) (css.set k ⟨ck.1.set 1 (.slice (some ⟨g2,0,none⟩) cs2.length cap2),by simp [ck.2]⟩):=(hO4.ext e6).set hck (by decide) _
 have ho7:=Only.setCell w6 g1 (k*2+1) (.slice (some ⟨g2,0,none⟩) cs2.length cap2)
 have u5:=(ho7 p5 (by omega)).trans z5
 have u4:=(ho7 p4 (by omega)).trans z4
 have hO8:=(OwnR.only hO6.range ho7 (.inr (.inl (by omega)))).1
 have e7:Ext w2 (w6.setCell ⟨g1,k*2+1,none⟩ (.slice (some ⟨g2,0,none⟩) cs2.length cap2)):=(e4.trans e6).setCell (p:=⟨g1,k*2+1,none⟩) (by rw [hp5];show p5≤g1;omega) _
 have s67:(w6.setCell ⟨g1,k*2+1,none⟩ (.slice (some ⟨g2,0,none⟩) cs2.length cap2)).heap.size=w6.heap.size:=by simp only [World.size_setCell]
 have E7:=E2.trans e7
 obtain ⟨g1'',cap1'',hv1,_,hlt7,_,_,hel7⟩:=hO7.row (fun x=>x.2) (by simp;omega)
 injection hv1 with hv1 _ _
 injection hv1 with hv1
 injection hv1 with hv1
 subst hv1
 have hE7:ElemAt (w6.setCell ⟨g1,k*2+1,none⟩ (.slice (some ⟨g2,0,none⟩) cs2.length cap2)) g1 (k*2) [.string m.name,.slice (some ⟨g2,0,none⟩) cs2.length cap2]:=by
  have:=hel7 k _ (by rw [List.getElem?_set_self (by omega)])
  replace this:ElemAt (w6.setCell ⟨g1,k*2+1,none⟩ (.slice (some ⟨g2,0,none⟩) cs2.length cap2)) g1 (k*2) (ck.1.set 1 (.slice (some ⟨g2,0,none⟩) cs2.length cap2)):=this
  rw [show ck.1=msgCells m (.slice (some ⟨b',o',none⟩) cs2.length c') from hcke] at this
  exact this
 have hFd:FieldsOf (w6.setCell ⟨g1,k*2+1,none⟩ (.slice (some ⟨g2,0,none⟩) cs2.length cap2)) (.slice (some ⟨g2,0,none⟩) cs2.length cap2) m.fields:=hO8.reads (E:=EField) (hmates2.imp fun cs x hx=>keptField _ _ _ _ E7 hx)
 have hDv:DefVal (w6.setCell ⟨g1,k*2+1,none⟩ (.slice (some ⟨g2,0,none⟩) cs2.length cap2)) (.agg #[.string d.name,.slice (some ⟨g1,0,none⟩) css.length cap1,.string d.start]) d:=by
  refine ⟨_,rfl,hO7.reads (E:=EMsg) ⟨by simp;exact hlc2,fun j x cs hx hcs=>?_⟩⟩
  by_cases hj:j=k
  · subst hj
    rw [hm] at hx
    injection hx with hx
    subst hx
    rw [List.getElem?_set_self (by omega)] at hcs
    injection hcs with hcs
    subst hcs
    refine ⟨.slice (some ⟨g2,0,none⟩) cs2.length cap2,?_,hFd⟩
    show ck.1.set 1 _=_
    rw [show ck.1=msgCells m (.slice (some ⟨b',o',none⟩) cs2.length c') from hcke]
    rfl
  · rw [List.getElem?_set_ne (by omega)] at hcs
    exact keptMsg _ _ _ _ E7 (hmates.2 j x cs hx hcs)
 simp (disch:=try exact DI) only [↓PR,QR,simprocAttr,hk1.1,hk1.2,fz6,(cells_of_heap u5).1,Nat.zero_add]
 generalize hX:(w6.setCell ⟨g1,k*2+1,none⟩ (.slice (some ⟨g2,0,none⟩) cs2.length cap2))=X at hO7 ho7 u5 u4 hO8 e7 s67 E7 hlt7 hel7 hE7 hFd hDv ⊢
 clear hX
 refine callK_ret (Offsets_ret (w0:=X) _ d k hDv ht) ?_
 rintro _ w8 ⟨p,rfl,⟨wm,ea,hIt,eb⟩,e8⟩
 have hE:msgE d k=0:=by unfold msgE;rw [if_neg (by simp [hf]),if_neg (by omega)]
 have hL:msgL d k=m.fields:=by unfold msgL;rw [if_pos hE,Int.toNat_natCast,hm]
 rw [hL] at hIt
 have hE8:=hE7.ext e8
 have E8:=E7.trans e8
 have n4:=e8.obj u4
 have n2:=hBW.ext (f2.trans (e7.trans e8))
 unfold n26c9
 simp (disch:=try exact DI) only [↓PR,QR,simprocAttr]
 rcases hO8.2 with ⟨h0,_⟩ | ⟨g2',cap2',cur,hv2,hb8,hg8,hc8,hm8,hs8,ht8⟩
 · cases h0
 injection hv2 with hv2 _ hv2'
 injection hv2 with hv2
 injection hv2 with hv2
 subst hv2 hv2'
 have hc15:cs2.length*15≤cur.size:=by rw [hs8];exact Nat.mul_le_mul_right _ hc8
 have s3:=ea.size
 refine las_loop (w0:=W) (w2:=wm) (n:=cs2.length) (cap:=cap2) (k1:=0+k*2) hlc3.symm (by omega) hIt (by omega) (by omega) (by omega) (by omega) (e8.obj hg8) hc15 (by rw [Nat.zero_add];exact (hE8.c2 (Ext.refl _)).2) (by rw [Nat.zero_add,(hE8.c2 (Ext.refl _)).1];simp) n4 (f2.trans (e7.trans e8)) fun w' e' o' hI'=>?_
 exact las_range hM hm hok hl40 hI' o' hW0 (eW.trans e') (hBW.ext e')
end Go.Proofs.YtdfhjlggcdemhaaGreat
namespace Go.Proofs.YtdfhjlggcdemhaaGreat
open Sw
open Go.ChangeShapes Go.WideShapes Go.RowKit Go.ChangeAt Go.Deep
theorem astate_own:ownKnob Pg.godebug=none:=by kernel_rfl
theorem astate_laidOut:laidOutB Pg=true:=by kernel_rfl
theorem astate_lifted (os:Os) (started:os.Started) (H:Type) (enc:TypeId×Value→H) :
 ReturnsInHanded {} Tryz.checked os 5 .any (Rows.alignStateSpec.pre6 enc Pg Tryz.f5 Rows.alignStateRow.domain false) (Rows.alignStateSpec.post enc Pg Tryz.f5 false true false false):=by
 refine returnsInHanded_of_change_sized (C:=Tryz.checked) astate_own started (by kernel_rfl) Tryz.func5
  (ChangeSpec.witness6 (enc:=enc) (C:=Tryz.checked) false ⟨#[],#[.agg #[.string ByteArray.empty,.slice none 0 0,.string ByteArray.empty],.int .i64 0],[]⟩ 8 (by kernel_rfl) (by kernel_rfl) (by kernel_rfl) (by kernel_rfl)) ?_
 intro W base args ds gs before hval hW _ hsz _
 have hW':=hW
 obtain ⟨p,q,hA0,hV,rfl,_,_⟩:=hW
 have hA:DataW.TrodAll enc Pg W 0 (fun _=>true) true Tryz.f5.params.toList args.toList ds p:=hA0
 rw [Tryz.params5] at hA hval hsz
 obtain ⟨v0,vs0,d0,ds0,p0,q0,ha0,rfl,rfl,h0,r0⟩:=trodAll_cons hA
 obtain ⟨v1,vs1,d1,ds1,p1,q1,ha1,rfl,rfl,h1,r1⟩:=trodAll_cons r0
 obtain ⟨rfl,rfl,rfl⟩:=trodAll_nil r1
 subst ha1
 obtain rfl:args = #[v0,v1]:=by cases args;simp_all
 obtain ⟨f0,hf0,hs0⟩:=def_val (hval 0 _ v0 rfl rfl) h0 (reached_of (j:=0) hsz rfl rfl)
 obtain ⟨n1,rfl,_,_,hw1⟩:=open_int Tryz.underlying3 (hval 1 _ v1 rfl rfl) h1
 refine Calls.mono (AlignState_ret W v0 f0 n1 hf0 hs0) fun e W' ⟨v,he,hv,hx⟩=>?_
 subst he hv
 exact ⟨_,rfl,law_post astate_laidOut (by decide +kernel) rfl hW' hx rfl Tryz.underlying4 rfl rfl rfl⟩
theorem astate_holds:Rows.AlignStateSaid :=
 OpenClaim.holds_of_wide 5 Tryz.f5 rfl rfl rfl rfl rfl rfl rfl ⟨rfl,rfl,rfl,rfl,rfl⟩ rfl rfl rfl rfl rfl (by kernel_rfl) Tryz.func5 (by kernel_rfl)
  (of_decide_eq_true (by kernel_rfl)) (by unfold Func.isWrapper;first | (rw [if_pos (by decide +kernel)];kernel_rfl) | (rw [if_neg (by decide +kernel)];exact ⟨rfl,rfl⟩))
  (fun os started H enc _=>astate_lifted os started H enc)
end Go.Proofs.YtdfhjlggcdemhaaGreat
