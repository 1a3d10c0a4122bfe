/-
  phrasebooklaw04.SizeTexts returns true for every size and text, and leaves its arguments as they were; no condition is asked but that the tables of the library lie as the program lays them (the card ties them).
-/
import Derived.Test.YtpgkjhikdhdffaaGreatDoorVc3
set_option linter.all false
set_option maxHeartbeats 4000000
set_option maxRecDepth 100000
namespace Go.Proofs.YtpgkjhikdhdffaaGreatDoor
open Sw
open Go.RowKit (intOf Below)
theorem Add_ret (w0:World) (va vb:Value) (ba bb:Int) (ta tb:List TermD) (ha:SizeVal w0 va ba ta) (hb:SizeVal w0 vb bb tb) (hla:ta.length≤400) (hlb:tb.length≤400) :
 Ret Pg 29 #[va,vb] w0 fun u w'=>(∃ tv,u = .tuple #[.agg #[.int .i64 (addP ba ta bb tb).1,tv],.int .i64 (addP ba ta bb tb).2.2]∧OwnE w' w0.heap.size TTm 2 termCells tv (addP ba ta bb tb).2.1)∧Ext w0 w':=by
 obtain ⟨tva,rfl,hTa⟩:=ha
 obtain ⟨tvb,rfl,hTb⟩:=hb
 have h1:=SliceOf.oneCell hTa
 have h2:=SliceOf.oneCell hTb
 show Calls _ _ _ _ (AddR w0 (addP ba ta bb tb))
 refine n20s ?_
 unfold n20
 simp (disch:=try exact DI) only [↓PR,QR,simprocAttr]
 generalize hW:World.alloc (World.alloc (World.alloc w0 _) _) _=W
 have e0:Ext w0 W:=by rw [← hW];exact ee
 have o2:W.heap[w0.heap.size]?=some (.cells #[.int .i64 ba,tva] TSz (0,0)):=by rw [← hW];simp (disch:=try exact DI) only [↓PR,QR,simprocAttr]
 have o3:W.heap[w0.heap.size+1]?=some (.cells #[.int .i64 bb,tvb] TSz (0,0)):=by rw [← hW];simp (disch:=try exact DI) only [↓PR,QR,simprocAttr]
 have o4:W.heap[w0.heap.size+1+1]?=some (.cells #[.int .i64 0,.slice none 0 0] TSz (0,0)):=by rw [← hW];simp (disch:=try exact DI) only [↓PR,QR,simprocAttr]
 clear hW
 refine drawK_intro ?_
 have eD:Ext W W.drew:=(Ext.refl W).drew
 have E:=e0.trans eD
 have g2:=eD.obj o2
 have g3:=eD.obj o3
 have g4:=eD.obj o4
 change n20c16 _ _ _ (EC W.drew) _ W.drew
 generalize W.drew=D at *
 unfold n20c16
 simp (disch:=try exact DI) only [↓PR,QR,simprocAttr,(cells_of_heap g2).1,(cells_of_heap g3).1]
 refine zcr (Valid_ret D _ ba ta ⟨tva,rfl,TermsOf.ext hTa E⟩) fun w1 e1=>?_
 refine ⟨e1,callK_ret (Valid_ret w1 _ bb tb ⟨tvb,rfl,(TermsOf.ext hTb E).ext e1⟩) ?_⟩
 rintro _ w2 ⟨rfl,e2⟩
 have e12:=e1.trans e2
 refine ⟨e12,?_⟩
 unfold n20c15
 simp (disch:=try exact DI) only [↓PR,QR,simprocAttr]
 have eY:Ext w2 (w2.alloc (.cells #[.bool (sizeB ba ta),.bool (sizeB bb tb)] 4)):=(Ext.refl _).alloc _
 refine ⟨e12.trans eY,callK_ret (all2_ret rfl _ _ _) ?_⟩
 rintro _ w3 ⟨rfl,e3⟩
 have eX:=(e12.trans eY).trans e3
 refine ⟨eX,?_⟩
 simp only [World.size_alloc]
 cases hv:(sizeB ba ta&&sizeB bb tb) with
 | false =>
  simp (disch:=try exact DI) only [↓PR,QR,simprocAttr]
  exact add_wrong2 (E.trans eX) (eX.obj g4) (by omega) (by unfold addP;rw [hv];rfl)
 | true =>
  simp (disch:=try exact DI) only [↓PR,QR,simprocAttr]
  have EX:=E.trans eX
  have k2:=eX.obj g2
  have k3:=eX.obj g3
  have k4:=eX.obj g4
  have hTa3:=TermsOf.ext hTa EX
  have hTb3:=TermsOf.ext hTb EX
  clear e1 e2 e12 eY e3 eX g2 g3 g4 o2 o3 o4 e0 eD E
  unfold n20c14
  rw [op_makeMap]
  have hm0:MapS (w3.alloc (.map #[] 0)) w3.heap.size [] 0:=MapS.new w3
  have eM:Ext w3 (w3.alloc (.map #[] 0)):=(Ext.refl _).alloc _
  have hzM:(w3.alloc (.map #[] 0)).heap.size=w3.heap.size+1:=by simp
  have i2:=(cells_of_heap (eM.obj k2)).1
  have i3:=(cells_of_heap (eM.obj k3)).1
  generalize w3.alloc (.map #[] 0)=w4 at *
  simp (disch:=try exact DI) only [↓PR,QR,simprocAttr,i2,i3]
  have eC:Ext w4 (w4.alloc (.cells #[tva,tvb] 22)):=(Ext.refl _).alloc _
  have hzC:(w4.alloc (.cells #[tva,tvb] 22)).heap.size=w4.heap.size+1:=by simp
  refine callK_ret (Concat_ret (w4.alloc (.cells #[tva,tvb] 22)) w4.heap.size tva tvb ta tb (hTa3.ext (eM.trans eC)) (hTb3.ext (eM.trans eC)) (World.alloc_heap_new w4 _) (by omega) (by omega)) ?_
  rintro tv w5 ⟨hO,e5⟩
  refine add_loop (W:=w3) (base:=(w4.alloc (.cells #[tva,tvb] 22)).heap.size) (Nat.le_refl _) (eM.trans (eC.trans e5)) (MapB.ext hm0 (eC.trans e5)) hO (by omega) (fun w' L c e hM hS=>?_)
  refine add_mid (EX.trans e) (e.obj k2) (e.obj k3) (e.obj k4) hM hS (by rw [List.length_append];omega) (by omega) ?_
  unfold addP
  rw [hv,if_pos rfl]
section
variable {QP:List PanicEntry→World→Prop} {k:Value→World→Prop} {w:World}
theorem subF (l:List UInt8) (a:Nat) (h:a≤l.length):opV Pg (Instr.sliceAt 9 (.string (mkB l)) (some (.int .i64 (a:Int))) none none) QP w k=k (.string (mkB (l.drop a))) w:=op_subF Tryz.underlying9 l a h
theorem subH (l:List UInt8) (a:Nat) (h:a≤l.length):opV Pg (Instr.sliceAt 9 (.string (mkB l)) none (some (.int .i64 (a:Int))) none) QP w k=k (.string (mkB (l.take a))) w:=op_subH Tryz.underlying9 l a h
theorem subM (l:List UInt8) (a b:Nat) (h:a≤b) (h2:b≤l.length):opV Pg (Instr.sliceAt 9 (.string (mkB l)) (some (.int .i64 (a:Int))) (some (.int .i64 (b:Int))) none) QP w k=k (.string (mkB ((l.drop a).take (b - a)))) w:=op_subM Tryz.underlying9 l a b h h2
end
theorem parse_round {w0 w:World} {p2 p4:Nat} {b:Int} {ts:List TermD} {tv:Value} {text:ByteArray} {l:List UInt8} {f:Nat} {K1:World→Prop} {next:Value→World→Prop} (hE:EnvOK w0) (h:PZ w0 w p2 p4 b ts tv) (hts:ts.length≤1048576) (hl:l.length≤100000)
 (hK:pGo (f+1) l b ts=some (b,ts)→∀ w',PZ w0 w' p2 p4 b ts tv→K1 w') (hX:pGo (f+1) l b ts=none→parseZ text=(0,[],6))
 (hN:∀ l' b' ts' tv' w',l'.length < l.length→pGo (f+1) l b ts=pGo f l' b' ts'→ts'.length≤ts.length+1→PZ w0 w' p2 p4 b' ts' tv'→next (.string (mkB l')) w') :
 n33c15 (.pointer (some ⟨p2,0,none⟩)) (.pointer (some ⟨p4,0,none⟩)) (.string (mkB l)) K1 next (PRt w0 text) w:=by
 have hp:pGo (f+1) l b ts=if l=[] then some (b,ts) else if l.all signB=true∨1 < (l.takeWhile signB).length then some (b,ts) else
  match onePart (l.takeWhile signB) ((l.dropWhile signB).takeWhile fun c=>!signB c) with
  | none=>none
  | some q=>if q.2=[] then pGo f ((l.dropWhile signB).dropWhile fun c=>!signB c) (IntKind.i64.wrap (b+q.1)) ts else pGo f ((l.dropWhile signB).dropWhile fun c=>!signB c) b (ts++[⟨mkB q.2,q.1⟩]):=rfl
 unfold n33c15
 have hd:decide (mkB l=⟨#[]⟩)=decide (l=[]):=decide_eq_decide.2 ⟨fun h=>mkB_inj (b:=[]) h,fun h=>by rw [h];rfl⟩
 by_cases hl0:l=[]
 · rw [if_pos hl0] at hp
   simp (disch:=try exact DI) only [↓PR,QR,simprocAttr,hd,hl0]
   exact hK hp _ h
 · rw [if_neg hl0] at hp
   have hd0:decide (mkB l=⟨#[]⟩)=false:=by rw [hd];exact decide_eq_false hl0
   simp (disch:=try exact DI) only [↓PR,QR,simprocAttr,hd0]
   refine zcr (Signs_ret w (mkB l)) fun w1 e1=>?_
   have h1:=h.ext e1
   rw [show (mkB l).data.toList=l by simp [mkB]]
   by_cases hall:l.all signB=true
   · rw [if_pos (.inl hall)] at hp
     rw [if_pos hall]
     simp (disch:=try exact DI) only [↓PR,QR,simprocAttr,↓n33c14]
     exact hK hp _ h1
   rw [if_neg hall]
   by_cases hone:1 < (l.takeWhile signB).length
   · rw [if_pos (.inr hone)] at hp
     have g0:decide (((l.takeWhile signB).length:Int) < 0)=false:=by simp
     have g1:decide (((l.takeWhile signB).length:Int) > 1)=true:=decide_eq_true (by omega)
     have g1':decide (1 < ((l.takeWhile signB).length:Int))=true:=decide_eq_true (by omega)
     simp (disch:=try exact DI) only [↓PR,QR,simprocAttr,↓n33c14,g0,g1,g1']
     exact hK hp _ h1
   rw [if_neg (by simp only [hall,hone,or_self];simp)] at hp
   have hSD:l.takeWhile signB++l.dropWhile signB=l:=List.takeWhile_append_dropWhile
   have hpr:(l.dropWhile signB).takeWhile (fun c=>!signB c)++(l.dropWhile signB).dropWhile (fun c=>!signB c)=l.dropWhile signB:=List.takeWhile_append_dropWhile
   have hD0:l.dropWhile signB≠[]:=by
    intro h0
    rw [h0,List.append_nil] at hSD
    refine hall ?_
    rw [← hSD]
    exact List.all_takeWhile
   have hp0:(l.dropWhile signB).takeWhile (fun c=>!signB c)≠[]:=by
    obtain ⟨c,D',hc⟩:=List.exists_cons_of_ne_nil hD0
    have hcs:signB c=false:=by
     have:=List.head_dropWhile_not signB hD0
     simp only [hc,List.head_cons] at this
     simpa using this
    rw [hc,List.takeWhile_cons,hcs]
    simp
   generalize l.takeWhile signB=S at *
   generalize l.dropWhile signB=D at *
   have d1:l.drop S.length=D:=by rw [← hSD,List.drop_left]
   have t1:l.take S.length=S:=by rw [← hSD,List.take_left]
   have lenl:l.length=S.length+D.length:=by rw [← hSD,List.length_append]
   have g0:decide ((S.length:Int) < 0)=false:=by simp
   have g1:decide ((S.length:Int) > 1)=false:=by simp;omega
   have g1':decide (1 < (S.length:Int))=false:=by simp;omega
   have i1:Szb (mkB D) 100000:=⟨by rw [mkB_size];omega⟩
   simp (disch:=try exact DI) only [↓PR,QR,simprocAttr,↓n33c14,g0,g1,g1']
   unfold n33c13
   rw [subF l S.length (by omega),d1,op_saddB _ _ _ _ rfl,show mkB D++⟨#[43]⟩=mkB (D++[43]) from mkB_app D [43]]
   refine zcr (Next_ret w1 D (by omega)) fun w2 e2=>?_
   have h2:=h1.ext e2
   generalize (D.takeWhile fun c=>!signB c)=p at *
   generalize (D.dropWhile fun c=>!signB c)=r at *
   have lenD:D.length=p.length+r.length:=by rw [← hpr,List.length_append]
   have d2:l.drop (S.length+p.length)=r:=by rw [← hSD,← hpr,← List.append_assoc,← List.length_append,List.drop_left]
   have d3:(l.drop S.length).take (S.length+p.length - S.length)=p:=by rw [d1,← hpr,Nat.add_sub_cancel_left,List.take_left]
   rw [op_add]
   refine drawK_intro ?_
   have hw:IntKind.i64.wrap ((S.length:Int)+(p.length:Int))=((S.length+p.length:Nat):Int):=by
    rw [wrap_ok (by omega) (by omega)]
    omega
   have hq1:∀ K:Value→Prop,qV Pg (EC (drew w2)) (Instr.sliceAt 9 (.string (mkB l)) none (some (.int .i64 (S.length:Int))) none) K=K (.string (mkB S)):=fun K=>qV_of fun QP w k=>(subH l S.length (by omega)).trans (by rw [t1])
   have hq2:∀ K:Value→Prop,qV Pg (EC (drew w2)) (Instr.sliceAt 9 (.string (mkB l)) (some (.int .i64 (S.length:Int))) (some (.int .i64 ((S.length+p.length:Nat):Int))) none) K=K (.string (mkB p)):=fun K=>qV_of fun QP w k=>(subM l S.length (S.length+p.length) (by omega) (by omega)).trans (by rw [d3])
   unfold n33c12
   rw [hw,hq1,hq2,subF l (S.length+p.length) (by omega),d2]
   have h3:=h2.ext ((Ext.refl w2).drew)
   have hp1:p.length≤100000:=by omega
   refine zcr (CutStar_ret (hE.ext h3.e) p hp1) fun w3 e3=>?_
   have h4:=h3.ext e3
   have final:∀ (F Nm:List UInt8) (w':World),PZ w0 w' p2 p4 b ts tv→F.length≤100000→((p.all starF=true→digitB (p.headD 0)=false→F=[49]∧Nm=p)∧(¬ (p.all starF=true∧digitB (p.headD 0)=false)→F=p.takeWhile starF∧Nm=(p.dropWhile starF).tail)) →
    callK Pg 67 #[.string (mkB F)] (panK (PRt w0 text)) w' fun t62 w=>n33c9 (.pointer (some ⟨p2,0,none⟩)) (.pointer (some ⟨p4,0,none⟩)) (.string (mkB F)) (.string (mkB Nm)) (.string (mkB S)) (.string (mkB r)) t62 next (PRt w0 text) w:=by
    intro F Nm w' h' hF hc
    refine parse_tail (q:=onePart S p) hE h' hts hF (one_part S p F Nm hc) (fun hn=>hX (by rw [hp,hn])) (fun n hn w'' tv' h''=>?_)
    rw [hn] at hp
    simp only at hp
    have hrl:r.length < l.length:=by
     have:p.length≠0:=fun h=>hp0 (List.eq_nil_of_length_eq_zero h)
     omega
    refine hN r _ _ tv' w'' hrl ?_ ?_ h''
    · rw [hp]
      by_cases hz:Nm=[]<;>simp only [hz,if_true,if_false]
    · split
      · omega
      · simp
   obtain ⟨c,p',rfl⟩:=List.exists_cons_of_ne_nil hp0
   have hidx:(mkB (c::p')).data.toList[0]?=some c:=by simp [mkB]
   by_cases hs:(c::p').all starF=true
   · rw [if_pos hs]
     simp (disch:=try exact DI) only [↓PR,QR,simprocAttr,↓n33c11]
     rw [op_indexS0 Tryz.underlying9 (mkB (c::p')) .i64 hidx]
     refine zcr (digit_ret _ c) fun w4 e4=>?_
     have h5:=h4.ext e4
     cases hdg:digitB c with
     | true =>
      simp (disch:=try exact DI) only [↓PR,QR,simprocAttr,↓n33c10]
      obtain ⟨k1,k2⟩:=take_all (p:=starF) (a:=c::p') (b:=[]) hs (fun c hc=>by cases hc)
      rw [List.append_nil] at k1 k2
      exact final (c::p') [] w4 h5 hp1 ⟨fun _ h=>(by rw [List.headD_cons,hdg] at h;cases h),fun _=>⟨k1.symm,(by rw [k2];rfl)⟩⟩
     | false =>
      simp (disch:=try exact DI) only [↓PR,QR,simprocAttr,↓n33c10]
      exact final [49] (c::p') w4 h5 (by decide) ⟨fun _ _=>⟨rfl,rfl⟩,fun h=>absurd ⟨hs,hdg⟩ h⟩
   · rw [if_neg hs]
     simp (disch:=try exact DI) only [↓PR,QR,simprocAttr,↓n33c11,↓n33c10]
     exact final _ _ w3 h4 (Nat.le_trans (List.takeWhile_sublist _).length_le hp1) ⟨fun h=>absurd h hs,fun _=>⟨rfl,rfl⟩⟩
theorem Parse_ret {w0:World} (hE:EnvOK w0) (text:ByteArray) (hz:text.size≤100000) :
 Ret Pg 24 #[.string text] w0 fun u w'=>(∃ x,u = .tuple #[x,.int .i64 (parseZ text).2.2]∧SizeVal w' x (parseZ text).1 (parseZ text).2.1)∧Ext w0 w':=by
 have hsz:text.data.toList.length=text.size:=by rw [Array.length_toList];rfl
 refine n33s (R:=retR _) ?_;unfold n33
 simp (disch:=try exact DI) only [↓PR,QR,simprocAttr]
 have hsp:(w0.alloc (Obj.cells (Value.agg #[Value.int IntKind.i64 0,Value.slice none 0 0]).cells 24)).heap.size=w0.heap.size+1:=by simp
 rw [hsp]
 have hP0:PZ w0 ((w0.alloc (.cells #[.int .i64 0,.slice none 0 0] TSz)).alloc (.cells #[.int .i64 0,.slice none 0 0] TSz)) w0.heap.size (w0.heap.size+1) 0 [] (.slice none 0 0):=by
  refine ⟨ee,?_,?_,OwnE.nil _ _ _ _ _,Nat.le_refl _,Nat.lt_succ_self _⟩
  · simp (disch:=try exact DI) only [↓PR,QR,simprocAttr]
  · have:=World.alloc_heap_new (w0.alloc (.cells #[.int .i64 0,.slice none 0 0] TSz)) (.cells #[.int .i64 0,.slice none 0 0] TSz)
    rwa [World.size_alloc] at this
 refine loop1_intro (fun v w=>∃ (f:Nat) (l:List UInt8) (b:Int) (ts:List TermD) (tv:Value),v = .string (mkB l)∧l.length≤f∧l.length≤text.size∧ts.length+l.length≤text.size∧pGo f l b ts=pGo text.size text.data.toList 0 []∧PZ w0 w w0.heap.size (w0.heap.size+1) b ts tv)
  (fun v _=>match v with | .string s=>s.size | _=>0) ⟨text.size,text.data.toList,0,[],_,by rw [mkB_to],by omega,by omega,by simp,rfl,hP0⟩ ?_
 rintro _ w ⟨f,l,b,ts,tv,rfl,hlf,hlt,htl,hI,hP⟩
 have hf:∃ f',pGo (f'+1) l b ts=pGo f l b ts∧l.length≤f'+1:=by
  cases f with
  | zero =>
   have:l=[]:=List.eq_nil_of_length_eq_zero (by omega)
   subst this
   exact ⟨0,by rw [pGo_nil,pGo_nil],by simp⟩
  | succ f=>exact ⟨f,rfl,hlf⟩
 obtain ⟨f',hf1,hf2⟩:=hf
 refine parse_round (f:=f') hE hP (by omega) (by omega) (fun hk w' hP'=>?_) (fun hx=>?_) (fun l' b' ts' tv' w' hll hgo htl' hP'=>?_)
 · exact parse_end hE.tab hP' (by rw [← hI,← hf1,hk])
 · unfold parseZ
   rw [← hI,← hf1,hx]
 · refine ⟨⟨f',l',b',ts',tv',rfl,by omega,by omega,by omega,by rw [← hgo,hf1,hI],hP'⟩,?_⟩
   show (mkB l').size < (mkB l).size
   rw [mkB_size,mkB_size]
   exact hll
theorem says_ret {w0:World} (hE:EnvOK w0) (v:Value) (base:Int) (ts:List TermD) (want:ByteArray) (hs:SizeVal w0 v base ts) (hv:sizeB base ts=true) (hw:want=sizeT base ts) (hz:want.size≤100000) :
 Ret Pg 37 #[v,.string want] w0 fun r w'=>r = .bool true∧Ext w0 w':=by
 obtain ⟨tv,rfl,hT⟩:=hs
 have h1:=SliceOf.oneCell hT
 refine n8s (R:=retR _) ?_;unfold n8
 simp (disch:=try exact DI) only [↓PR,QR,simprocAttr]
 generalize hW:World.alloc w0 _=W
 have e0:Ext w0 W:=by rw [← hW];exact ee
 have o2:W.heap[w0.heap.size]?=some (.cells #[.int .i64 base,tv] TSz (0,0)):=by rw [← hW];simp (disch:=try exact DI) only [↓PR,QR,simprocAttr]
 clear hW
 refine zcr (Text_ret (hE.tab.ext e0) _ base ts ⟨tv,rfl,TermsOf.ext hT e0⟩) fun w1 e1=>?_
 rw [hv,if_pos rfl,if_pos rfl,← hw]
 unfold n8c4
 simp (disch:=try exact DI) only [↓PR,QR,simprocAttr]
 refine callK_ret (Parse_ret (hE.ext (e0.trans e1)) want hz) ?_
 rintro _ w2 ⟨⟨x,rfl,hx⟩,e2⟩
 have hp:parseZ want=(base,ts,0):=by rw [hw];exact parseZ_of hv
 rw [hp] at hx ⊢
 obtain ⟨tv2,rfl,hT2⟩:=hx
 have h2:=SliceOf.oneCell hT2
 unfold n8c3
 simp (disch:=try exact DI) only [↓PR,QR,simprocAttr]
 have e12:=e1.trans e2
 have eA:Ext w2 (w2.alloc (.cells #[.int .i64 base,tv2] TSz)):=(Ext.refl _).alloc _
 have oA:(w2.alloc (.cells #[.int .i64 base,tv2] TSz)).heap[w2.heap.size]?=some (.cells #[.int .i64 base,tv2] TSz (0,0)):=World.alloc_heap_new w2 _
 have E3:Ext w0 (w2.alloc (.cells #[.int .i64 base,tv2] TSz)):=(e0.trans e12).trans eA
 have o3:=(e12.trans eA).obj o2
 have hT3:=TermsOf.ext hT E3
 have hT4:=TermsOf.ext hT2 eA
 generalize w2.alloc (.cells #[.int .i64 base,tv2] TSz)=w3 at *
 simp (disch:=try exact DI) only [↓PR,QR,simprocAttr,↓n8c1,↓n8c2,↓n8c3,↓n8c4,(cells_of_heap oA).1,(cells_of_heap o3).1]
 refine zcr (rSame_ret w3 _ _ base base ts ts ⟨tv2,rfl,hT4⟩ ⟨tv,rfl,hT3⟩) fun w4 e4=>?_
 have h00:((0:Int) == 0)=true:=rfl
 rw [h00]
 simp (disch:=try exact DI) only [↓PR,QR,simprocAttr]
 exact ⟨by simp,E3.trans e4⟩
def sN:ByteArray:=⟨#[110]⟩
def sM:ByteArray:=⟨#[109]⟩
def sA:ByteArray:=⟨#[97]⟩
theorem ex1:evalN 4 givenT [(sN,5),(sM,3)]=11∧evalE 4 givenT ByteArray.empty [(sN,5),(sM,3)]=0:=by decide +kernel
theorem ex2:evalN 4 givenT [(sN,5)]=0∧evalE 4 givenT ByteArray.empty [(sN,5)]=9:=by decide +kernel
theorem ex3:evalN 4 givenT [(sN,-1),(sM,0)]=0∧evalE 4 givenT ByteArray.empty [(sN,-1),(sM,0)]=2:=by decide +kernel
theorem ex4:lenN 4 givenT [(sN,0),(sM,5)]=0∧lenE 4 givenT [(sN,0),(sM,5)]=3:=by decide +kernel
theorem ex5:intervalL 4 givenT [(sN,0,10),(sM,1,4)]=0∧intervalH 4 givenT [(sN,0,10),(sM,1,4)]=23∧intervalE 4 givenT [(sN,0,10),(sM,1,4)]=0:=by decide +kernel
theorem ex6:solveP 4 givenT sN 11 [(sM,3)]=(5,0)∧solveP 4 givenT sN 12 [(sM,3)]=(0,9):=by decide +kernel
theorem ex7:(parseZ ⟨#[110,42,50]⟩).2.2=6:=by decide +kernel
theorem ex8a:sortB [sN,sA]=[sA,sN] :=
 strict_ext (sortB_strict (by decide +kernel)) (by
  refine List.pairwise_pair.2 ?_
  decide +kernel) fun s=>by
  rw [mem_sortB]
  simp only [List.mem_cons,List.not_mem_nil,or_false]
  exact Or.comm
theorem ex8b:sumT1 (givenT++[⟨sM,1⟩,⟨sA,3⟩])=[⟨sA,3⟩,⟨sN,2⟩]:=by
 unfold sumT1
 have hX:(dedupB ((givenT++[⟨sM,1⟩,⟨sA,3⟩]:List TermD).map fun t=>t.field)).filter (fun s=>decide (addF s (givenT++[⟨sM,1⟩,⟨sA,3⟩])≠0))=[sN,sA]:=by decide +kernel
 rw [hX,ex8a]
 decide +kernel
theorem ex8:addP 4 givenT (-4) [⟨sM,1⟩,⟨sA,3⟩]=(0,[⟨sA,3⟩,⟨sN,2⟩],0):=by
 unfold addP
 rw [ex8b]
 decide +kernel
theorem ex9:sizeT 4 givenT=⟨#[50,42,110,45,109,43,52]⟩∧sizeT 0 []=⟨#[48]⟩∧sizeT (-8) [⟨sN,1⟩]=⟨#[110,45,56]⟩∧sizeT 3 [⟨sN,-1⟩]=⟨#[45,110,43,51]⟩:=by decide +kernel
theorem ex10:sizeB 4 givenT=true∧sizeB 0 []=true∧sizeB (-8) [⟨sN,1⟩]=true∧sizeB 3 [⟨sN,-1⟩]=true:=by decide +kernel
theorem vals_new (w:World) (T:TypeId) (l:List (ByteArray×Int)) (hl:l.length≤9223372036854775807):ValsOf (w.alloc (.cells (l.flatMap valCells).toArray T)) (.slice (some ⟨w.heap.size,0,none⟩) l.length l.length) l :=
 (OwnE.new w T 2 valCells l (fun _=>rfl) hl).slice (fun _=>rfl) (fun _ _=>rfl)
theorem terms_new (w:World) (T:TypeId) (l:List TermD) (hl:l.length≤9223372036854775807):TermsOf (w.alloc (.cells (l.flatMap termCells).toArray T)) (.slice (some ⟨w.heap.size,0,none⟩) l.length l.length) l :=
 (OwnE.new w T 2 termCells l (fun _=>rfl) hl).slice (fun _=>rfl) (fun _ _=>rfl)
theorem known_c4 {w0 w:World} (hE:EnvOK w0) (e:Ext w0 w):n7c4 (retR fun r w'=>r = .bool true∧Ext w0 w') w:=by
 unfold n7c4
 refine callK_ret (given_ret w) ?_
 rintro v1 w1 ⟨hs1,e1⟩
 refine zcr (says_ret (hE.ext (e.trans e1)) v1 4 givenT _ hs1 ex10.1 ex9.1.symm (by decide)) fun w2 e2=>?_
 have E2:=(e.trans e1).trans e2
 unfold n7c3
 simp (disch:=try exact DI) only [↓PR,QR,simprocAttr]
 refine zcr (says_ret (hE.ext E2) _ 0 [] _ ⟨_,rfl,SliceOf.nil _ _ _⟩ ex10.2.1 ex9.2.1.symm (by decide)) fun w3 e3=>?_
 have E3:=E2.trans e3
 unfold n7c2
 simp (disch:=try exact DI) only [↓PR,QR,simprocAttr]
 have eA:Ext w3 (w3.alloc (.cells ([(⟨sN,1⟩:TermD)].flatMap termCells).toArray 32)):=(Ext.refl _).alloc _
 refine zcr (says_ret (hE.ext (E3.trans eA)) _ (-8) [⟨sN,1⟩] _ ⟨_,rfl,terms_new w3 32 [⟨sN,1⟩] (by decide)⟩ ex10.2.2.1 ex9.2.2.1.symm (by decide)) fun w4 e4=>?_
 have E4:=(E3.trans eA).trans e4
 unfold n7c1
 simp (disch:=try exact DI) only [↓PR,QR,simprocAttr]
 have eB:Ext w4 (w4.alloc (.cells ([(⟨sN,-1⟩:TermD)].flatMap termCells).toArray 32)):=(Ext.refl _).alloc _
 refine zcr (says_ret (hE.ext (E4.trans eB)) _ 3 [⟨sN,-1⟩] _ ⟨_,rfl,terms_new w4 32 [⟨sN,-1⟩] (by decide)⟩ ex10.2.2.2 ex9.2.2.2.symm (by decide)) fun w5 e5=>?_
 simp (disch:=try exact DI) only [↓PR,QR,simprocAttr]
 exact ⟨trivial,(E4.trans eB).trans e5⟩
abbrev VT:TypeId:=78
abbrev allocV (w:World) (l:List (ByteArray×Int)):World:=w.alloc (.cells (l.flatMap valCells).toArray VT)
theorem allocV_ext (w:World) (l:List (ByteArray×Int)):Ext w (allocV w l):=(Ext.refl _).alloc _
theorem solve_step {w:World} (n:Int) {v:Value} (hs:SizeVal w v 4 givenT) {K:Value→World→Prop} {R:RT} (hK:∀ w',Ext w w'→K (.tuple #[.int .i64 (solveP 4 givenT sN n [(sM,3)]).1,.int .i64 (solveP 4 givenT sN n [(sM,3)]).2]) w') :
 opV Pg (Instr.makeMap 35 none) (panK R) w fun t47 w=>opU Pg (Instr.mapUpdate 35 t47 (.string ⟨#[109]⟩) (.int .i64 3)) (panK R) w fun w=>callK Pg 28 #[v,.string ⟨#[110]⟩,.int .i64 n,t47] (panK R) w K:=by
 rw [op_makeMap]
 have eM:Ext w (w.alloc (.map #[] 0)):=(Ext.refl _).alloc _
 have hm0:MapOf (w.alloc (.map #[] 0)) w.heap.size []:=MapOf.new w
 generalize w.alloc (.map #[] 0)=W at *
 rw [op_updateO Tryz.underlying35 Tryz.underlying9 hm0 ⟨#[109]⟩]
 have eP:=eM.putW (ps:=[]) (Nat.le_refl _) ⟨#[109]⟩ (.int .i64 3)
 have hm1:=hm0.put ⟨#[109]⟩ (.int .i64 3)
 generalize putW W w.heap.size [] ⟨#[109]⟩ (.int .i64 3)=W1 at *
 refine zcr (Solve_ret W1 v 4 givenT sN n w.heap.size [(sM,3)] (hs.ext eP) (by decide) hm1) fun w2 e2=>?_
 exact hK w2 (eP.trans e2)
theorem known_c20 {w0 w5:World} {v5:Value} (hE:EnvOK w0) (E5:Ext w0 w5) (hs5:SizeVal w5 v5 4 givenT):n7c20 v5 (retR fun r w'=>r = .bool true∧Ext w0 w') w5:=by
 unfold n7c20
 rw [op_makeMap]
 have eM:Ext w5 (w5.alloc (.map #[] 0)):=(Ext.refl _).alloc _
 have hm0:MapOf (w5.alloc (.map #[] 0)) w5.heap.size []:=MapOf.new w5
 generalize w5.alloc (.map #[] 0)=W at *
 simp (disch:=try exact DI) only [↓PR,QR,simprocAttr]
 rw [op_updateO Tryz.underlying46 Tryz.underlying9 hm0 ⟨#[110]⟩]
 have eP:=eM.putW (ps:=[]) (Nat.le_refl _) ⟨#[110]⟩ (.agg #[.int .i64 0,.int .i64 10])
 have hm1:=hm0.put ⟨#[110]⟩ (.agg #[.int .i64 0,.int .i64 10])
 generalize putW W w5.heap.size [] ⟨#[110]⟩ (.agg #[.int .i64 0,.int .i64 10])=W1 at *
 simp (disch:=try exact DI) only [↓PR,QR,simprocAttr]
 rw [op_updateO Tryz.underlying46 Tryz.underlying9 hm1 ⟨#[109]⟩]
 have eQ:=eP.putW (ps:=[]++[(⟨#[110]⟩,(.agg #[.int .i64 0,.int .i64 10]))]) (Nat.le_refl _) ⟨#[109]⟩ (.agg #[.int .i64 1,.int .i64 4])
 have hm2:=hm1.put ⟨#[109]⟩ (.agg #[.int .i64 1,.int .i64 4])
 generalize putW W1 w5.heap.size ([]++[(⟨#[110]⟩,(.agg #[.int .i64 0,.int .i64 10]))]) ⟨#[109]⟩ (.agg #[.int .i64 1,.int .i64 4])=W2 at *
 refine zcr (Interval_ret W2 v5 4 givenT w5.heap.size [(sN,0,10),(sM,1,4)] (hs5.ext eQ) (by decide) hm2) fun w6 e6=>?_
 rw [ex5.1,ex5.2.1,ex5.2.2]
 have E6:=(E5.trans eQ).trans e6
 clear hm0 hm1 hm2 eM eP eQ e6 E5 hs5 W W1 W2
 unfold n7c19 rangeVal
 simp (disch:=try exact DI) only [↓PR,QR,simprocAttr]
 have oP:(w6.alloc (.cells #[.int .i64 0,.int .i64 23] 51)).heap[w6.heap.size]?=some (.cells #[.int .i64 0,.int .i64 23] 51 (0,0)):=World.alloc_heap_new w6 _
 have E7:=E6.trans ((Ext.refl w6).alloc (.cells #[.int .i64 0,.int .i64 23] 51))
 generalize w6.alloc (.cells #[.int .i64 0,.int .i64 23] 51)=w7 at *
 generalize w6.heap.size=p1 at *
 refine callK_ret (given_ret w7) ?_
 rintro v8 w8 ⟨hs8,e8⟩
 have oP8:=e8.obj oP
 have E8:=E7.trans e8
 clear e8 E7 oP E6
 unfold n7c18
 refine solve_step 11 hs8 fun w9 e9=>?_
 rw [ex6.1]
 have oP9:=e9.obj oP8
 have E9:=E8.trans e9
 clear e9 E8 oP8 hs8
 unfold n7c17
 simp (disch:=try exact DI) only [↓PR,QR,simprocAttr]
 refine callK_ret (given_ret w9) ?_
 rintro v10 w10 ⟨hs10,e10⟩
 unfold n7c16
 refine solve_step 12 hs10 fun w11 e11=>?_
 rw [ex6.2]
 have oP11:=e11.obj (e10.obj oP9)
 have E11:=(E9.trans e10).trans e11
 clear e10 e11 E9 oP9 hs10
 unfold n7c15
 simp (disch:=try exact DI) only [↓PR,QR,simprocAttr]
 refine callK_ret (Parse_ret (hE.ext E11) ⟨#[110,42,50]⟩ (by decide)) ?_
 rintro _ w12 ⟨⟨x12,rfl,hx12⟩,e12⟩
 rw [ex7]
 obtain ⟨tv12,rfl,hT12⟩:=hx12
 have h12:=SliceOf.oneCell hT12
 have oP12:=e12.obj oP11
 have E12:=E11.trans e12
 clear e12 E11 oP11
 unfold n7c14
 simp (disch:=try exact DI) only [↓PR,QR,simprocAttr]
 have eA:Ext w12 (w12.alloc (.cells #[.int .i64 (parseZ ⟨#[110,42,50]⟩).1,tv12] TSz)):=(Ext.refl _).alloc _
 refine callK_ret (given_ret (w12.alloc (.cells #[.int .i64 (parseZ ⟨#[110,42,50]⟩).1,tv12] TSz))) ?_
 rintro v13 w13 ⟨hs13,e13⟩
 have oP13:=e13.obj (eA.obj oP12)
 have E13:=(E12.trans eA).trans e13
 clear e13 eA E12 oP12 hT12 h12
 unfold n7c13
 simp (disch:=try exact DI) only [↓PR,QR,simprocAttr]
 have eB:Ext w13 (w13.alloc (.cells ([(⟨sM,1⟩:TermD),⟨sA,3⟩].flatMap termCells).toArray TTm)):=(Ext.refl _).alloc _
 refine callK_ret (Add_ret (w13.alloc (.cells ([(⟨sM,1⟩:TermD),⟨sA,3⟩].flatMap termCells).toArray TTm)) v13 _ 4 (-4) givenT [⟨sM,1⟩,⟨sA,3⟩] (hs13.ext eB) ⟨_,rfl,terms_new w13 TTm [⟨sM,1⟩,⟨sA,3⟩] (by decide)⟩ (by decide) (by decide)) ?_
 rintro _ w14 ⟨⟨tv14,rfl,hx14⟩,e14⟩
 rw [ex8] at hx14 ⊢
 have hT14:=own_terms hx14
 have h14:=SliceOf.oneCell hT14
 have oP14:=e14.obj (eB.obj oP13)
 have E14:=(E13.trans eB).trans e14
 clear e14 eB E13 oP13 hs13
 unfold n7c12
 have eC:Ext w14 (w14.alloc (.cells #[.int .i64 0,tv14] TSz)):=(Ext.refl _).alloc _
 have oC:(w14.alloc (.cells #[.int .i64 0,tv14] TSz)).heap[w14.heap.size]?=some (.cells #[.int .i64 0,tv14] TSz (0,0)):=World.alloc_heap_new w14 _
 simp (disch:=try exact DI) only [↓PR,QR,simprocAttr,(cells_of_heap (eC.obj oP14)).1,(cells_of_heap oC).1]
 have E15:=E14.trans eC
 have hT15:=TermsOf.ext hT14 eC
 generalize w14.alloc (.cells #[.int .i64 0,tv14] TSz)=w15 at *
 generalize w14.heap.size=p9 at *
 clear eC oP14 E14 hT14
 simp (disch:=try exact DI) only [↓PR,QR,simprocAttr,↓n7c11,↓n7c10,↓n7c9,↓n7c8,↓n7c7,↓n7c6,↓n7c5,(cells_of_heap oC).1]
 have eD:Ext w15 (w15.alloc (.cells ([(⟨sA,3⟩:TermD),⟨sN,2⟩].flatMap termCells).toArray TTm)):=(Ext.refl _).alloc _
 refine zcr (rSame_ret (w15.alloc (.cells ([(⟨sA,3⟩:TermD),⟨sN,2⟩].flatMap termCells).toArray TTm)) _ _ 0 0 [⟨sA,3⟩,⟨sN,2⟩] [⟨sA,3⟩,⟨sN,2⟩] ⟨tv14,rfl,TermsOf.ext hT15 eD⟩ ⟨_,rfl,terms_new w15 TTm [⟨sA,3⟩,⟨sN,2⟩] (by decide)⟩) fun w16 e16=>?_
 rw [decide_eq_true (p:=(0:Int)=0∧[(⟨sA,3⟩:TermD),⟨sN,2⟩]=[⟨sA,3⟩,⟨sN,2⟩]) ⟨rfl,rfl⟩,show ((0:Int) != 0)=false from rfl]
 simp (disch:=try exact DI) only [↓PR,QR,simprocAttr]
 exact known_c4 hE ((E15.trans eD).trans e16)
theorem known_ret {w0:World} (hE:EnvOK w0):Ret Pg 9 #[] w0 fun r w'=>r = .bool true∧Ext w0 w':=by
 refine n7s (R:=retR _) ?_;unfold n7
 simp (disch:=try exact DI) only [↓PR,QR,simprocAttr]
 refine zcr (evals_Eval (allocV w0 [(sN,5),(sM,3)]) 11 0 _ [(sN,5),(sM,3)] (vals_new w0 VT _ (by decide)) (by decide)) fun w1 e1=>?_
 rw [decide_eq_true ex1]
 have E1:=(allocV_ext w0 [(sN,5),(sM,3)]).trans e1
 clear e1
 unfold n7c25
 simp (disch:=try exact DI) only [↓PR,QR,simprocAttr]
 refine zcr (evals_Eval (allocV w1 [(sN,5)]) 0 9 _ [(sN,5)] (vals_new w1 VT _ (by decide)) (by decide)) fun w2 e2=>?_
 rw [decide_eq_true ex2]
 have E2:=(E1.trans (allocV_ext w1 [(sN,5)])).trans e2
 clear e2 E1
 simp (disch:=try exact DI) only [↓PR,QR,simprocAttr,↓n7c24,↓n7c23]
 refine zcr (evals_Eval (allocV w2 [(sN,-1),(sM,0)]) 0 2 _ [(sN,-1),(sM,0)] (vals_new w2 VT _ (by decide)) (by decide)) fun w3 e3=>?_
 rw [decide_eq_true ex3]
 have E3:=(E2.trans (allocV_ext w2 [(sN,-1),(sM,0)])).trans e3
 clear e3 E2
 simp (disch:=try exact DI) only [↓PR,QR,simprocAttr,↓n7c22,↓n7c21]
 refine zcr (evals_Length (allocV w3 [(sN,0),(sM,5)]) 0 3 _ [(sN,0),(sM,5)] (vals_new w3 VT _ (by decide)) (by decide)) fun w4 e4=>?_
 rw [decide_eq_true ex4]
 have E4:=(E3.trans (allocV_ext w3 [(sN,0),(sM,5)])).trans e4
 clear e4 E3
 simp (disch:=try exact DI) only [↓PR,QR,simprocAttr]
 refine callK_ret (given_ret w4) ?_
 rintro v5 w5 ⟨hs5,e5⟩
 have E5:=E4.trans e5
 clear e5 E4
 exact known_c20 hE E5 hs5
def n3c1 (t49 t52:Value) (R:RT) (w:World):Prop :=
 pickK t49 t52 (.bool false) fun t53 =>
 joinK (fun (t55:Value) (w:World) =>
 pickK t53 t55 (.bool false) fun t56 =>
 R (.returned t56) w) fun K4 =>
 guardP t53 true (
 callK Pg 9 #[] (panK R) w fun t55 w =>
 K4 t55 w) (
 K4 undef w)
def n3c2 (t60 t63:Value) (R:RT) (w:World):Prop :=
 pickK t60 t63 (.bool false) fun t64 =>
 joinK (fun (t66:Value) (w:World) =>
 pickK t64 t66 (.bool false) fun t67 =>
 R (.returned t67) w) fun K6 =>
 guardP t64 true (
 callK Pg 9 #[] (panK R) w fun t66 w =>
 K6 t66 w) (
 K6 undef w)
def n3c3 (t24 t25 t59:Value) (R:RT) (w:World):Prop :=
 opV Pg (binS .eql 9 false t24 t59) (panK R) w fun t60 w =>
 joinK (fun (t63:Value) (w:World) =>
 n3c2 t60 t63 R w) fun K5 =>
 guardP t60 true (
 opV Pg (binS .eql 39 true t25 (.int .i64 0)) (panK R) w fun t63 w =>
 K5 t63 w) (
 K5 undef w)
def n3c4 (t24 t25:Value) (R:RT) (w:World):Prop :=
 opV Pg (binS .eql 9 true t24 (.string { data := #[] })) (panK R) w fun t49 w =>
 joinK (fun (t52:Value) (w:World) =>
 n3c1 t49 t52 R w) fun K3 =>
 guardP t49 true (
 opV Pg (binS .eql 39 true t25 (.int .i64 2)) (panK R) w fun t52 w =>
 K3 t52 w) (
 K3 undef w)
def n3c5 (t2 t24 t25 t46:Value) (R:RT) (w:World):Prop :=
 opV Pg (Op.unary .not t46) (panK R) w fun t47 w =>
 condP t47 (
 n3c4 t24 t25 R w) (
 opV Pg (Instr.loadAt 24 t2) (panK R) w fun t58 w =>
 callK Pg 27 #[t58] (panK R) w fun t59 w =>
 n3c3 t24 t25 t59 R w)
def n3c6 (t2 t24 t25 t38 t43:Value) (R:RT) (w:World):Prop :=
 pickK t38 (.bool true) t43 fun t44 =>
 condP t44 (
 R (.returned (.bool false)) w) (
 opV Pg (Instr.loadAt 24 t2) (panK R) w fun t45 w =>
 callK Pg 13 #[t45] (panK R) w fun t46 w =>
 n3c5 t2 t24 t25 t46 R w)
def n3c7 (t2 t7 t24 t25 t30 t33:Value) (R:RT) (w:World):Prop :=
 opV Pg (Instr.extract t33 0) (panK R) w fun t34 w =>
 opV Pg (Instr.extract t33 1) (panK R) w fun t35 w =>
 opV Pg (Instr.alloc 24 true (.tuple #[])) (panK R) w fun t9 w =>
 opU Pg (Instr.storeAt 24 t9 t34) (panK R) w fun w =>
 opV Pg (binS .neq 3 false t30 t35) (panK R) w fun t38 w =>
 joinK (fun (t43:Value) (w:World) =>
 n3c6 t2 t24 t25 t38 t43 R w) fun K2 =>
 guardP t38 false (
 opV Pg (Instr.loadAt 24 t7) (panK R) w fun t40 w =>
 opV Pg (Instr.loadAt 24 t9) (panK R) w fun t41 w =>
 callK Pg 26 #[t40,t41] (panK R) w fun t42 w =>
 opV Pg (Op.unary .not t42) (panK R) w fun t43 w =>
 K2 t43 w) (
 K2 undef w)
def n3c8 (t1 t2 t24 t25 t28:Value) (R:RT) (w:World):Prop :=
 opV Pg (Instr.extract t28 0) (panK R) w fun t29 w =>
 opV Pg (Instr.extract t28 1) (panK R) w fun t30 w =>
 opV Pg (Instr.alloc 24 true (.tuple #[])) (panK R) w fun t7 w =>
 opU Pg (Instr.storeAt 24 t7 t29) (panK R) w fun w =>
 callK Pg 25 #[t1] (panK R) w fun t33 w =>
 n3c7 t2 t7 t24 t25 t30 t33 R w
def n3c9 (t1 t2 t23:Value) (R:RT) (w:World):Prop :=
 opV Pg (Instr.extract t23 0) (panK R) w fun t24 w =>
 opV Pg (Instr.extract t23 1) (panK R) w fun t25 w =>
 callK Pg 24 #[t1] (panK R) w fun t28 w =>
 n3c8 t1 t2 t24 t25 t28 R w
def n3c10 (t1 t2 t14 t18:Value) (R:RT) (w:World):Prop :=
 pickK t14 (.bool true) t18 fun t19 =>
 condP t19 (
 callK Pg 9 #[] (panK R) w fun t20 w =>
 R (.returned t20) w) (
 opV Pg (Instr.loadAt 24 t2) (panK R) w fun t22 w =>
 callK Pg 23 #[t22] (panK R) w fun t23 w =>
 n3c9 t1 t2 t23 R w)
def n3 (t0 t1:Value) (R:RT) (w:World):Prop :=
 opV Pg (Instr.box 24 t0) (panK R) w fun t2 w =>
 opV Pg (Instr.fieldAt 24 t2 1) (panK R) w fun t11 w =>
 opV Pg (Instr.loadAt 22 t11) (panK R) w fun t12 w =>
 opV Pg (Builtin.len_ #[22] 3 #[t12]) (panK R) w fun t13 w =>
 opV Pg (binS .gtr 3 true t13 (.int .i64 10)) (panK R) w fun t14 w =>
 joinK (fun (t18:Value) (w:World) =>
 n3c10 t1 t2 t14 t18 R w) fun K1 =>
 guardP t14 false (
 opV Pg (Builtin.len_ #[9] 3 #[t1]) (panK R) w fun t17 w =>
 opV Pg (binS .gtr 3 true t17 (.int .i64 200)) (panK R) w fun t18 w =>
 K1 t18 w) (
 K1 undef w)
theorem n3s {t0 t1:Value} {R:RT} {w:World} (h:n3 t0 t1 R w):Calls Pg 6 #[t0,t1] w R:=by
 refine yD Tryz.func6 ?_
 refine zs<|zr<|yv h fun _ w h=>zm<|zn<|zk<|zs<|zs<|sim_regionG<|yG 5<|yv h fun _ w h=>yv h fun _ w h=>yx h fun _ w h=>yb h fun _ w h=>zm ?_
 refine zn<|yg1 3 4 false [16,17,18] 18 h (fun _ T hT h=>?_) fun σ w h=>?_
 · refine zm<|yx h fun _ w h=>yb h fun _ w h=>zn ?_
   exact zt hT h
 refine yG 1<|yp h fun _ h=>zn<|sim_end<|zk<|yC h (fun h=>zs<|zr<|yc h c9 fun _ w h=>zm<|zn<|zk<|sim_ret<|sim_then_ret<|body_ret1 rfl rfl h) fun h=>sim_skip<|zk<|zs<|zr<|yv h fun _ w h=>yc h c23 fun _ w h=>zm<|yv h fun _ w h=>?_
 refine yv h fun _ w h=>zm<|zm<|zn<|zk<|zs<|zr<|zm<|yc h c24 fun _ w h=>zm<|yv h fun _ w h=>yv h fun _ w h=>yv h fun _ w h=>yu h fun w h=>zm ?_
 refine zn<|zk<|zs<|zr<|zm<|yc h c25 fun _ w h=>zm<|yv h fun _ w h=>yv h fun _ w h=>yv h fun _ w h=>yu h fun w h=>zm<|zn<|zk<|zs ?_
 refine zs<|sim_regionG<|yG 4<|zm<|zm<|yb h fun _ w h=>zm<|zn<|yg1 4 3 false [40,41,42,43] 43 h (fun _ T hT h=>?_) fun σ w h=>?_
 · refine yv h fun _ w h=>yv h fun _ w h=>yc h c26 fun _ w h=>yv h fun _ w h=>zn ?_
   exact zt hT h
 refine yG 1<|yp h fun _ h=>zn<|sim_end<|zk<|yC h (fun h=>zs<|zr<|zm<|zn<|zk<|sim_ret<|sim_then_ret<|body_ret1 rfl rfl h) fun h=>sim_skip<|zk<|zs<|zs<|zr<|yv h fun _ w h=>yc h c13 fun _ w h=>yv h fun _ w h=>?_
 refine zn<|zk<|yC h (fun h=>?_) fun h=>?_
 · refine zs<|sim_regionG<|yG 3<|zm<|yb h fun _ w h=>zm<|zn<|yg1 2 2 true [51,52] 52 h (fun _ T hT h=>?_) fun σ w h=>?_
   · refine zm<|yb h fun _ w h=>zn ?_
     exact zt hT h
   refine yG 2<|yp h fun _ h=>zm<|zn<|yg1 1 6 true [55] 55 h (fun _ T hT h=>?_) fun σ w h=>?_
   · refine yc h c9 fun _ w h=>zn ?_
     exact zt hT h
   exact yG 2<|yp h fun _ h=>zm<|zn<|sim_end<|zk<|sim_ret<|sim_then_ret<|body_ret1 rfl rfl h
 refine sim_skip<|zk<|zs<|sim_regionG<|yG 5<|zm<|yv h fun _ w h=>yc h c27 fun _ w h=>yb h fun _ w h=>zm<|zn<|yg1 2 4 true [62,63] 63 h (fun _ T hT h=>?_) fun σ w h=>?_
 · refine zm<|yb h fun _ w h=>zn ?_
   exact zt hT h
 refine yG 2<|yp h fun _ h=>zm<|zn<|yg1 1 8 true [66] 66 h (fun _ T hT h=>?_) fun σ w h=>?_
 · refine yc h c9 fun _ w h=>zn ?_
   exact zt hT h
 exact yG 2<|yp h fun _ h=>zm<|zn<|sim_end<|zk<|sim_ret<|body_ret1 rfl rfl h
end Go.Proofs.YtpgkjhikdhdffaaGreatDoor
namespace Go.Sw
open Go.ChangeShapes Go.WideShapes Go.RowKit Go.ChangeAt Go.Deep
theorem list_of {α:Type} {p:Nat→α→Prop}:∀ (n:Nat),(∀ i,i < n→∃ x,p i x)→∃ l:List α,l.length=n∧∀ k x,l[k]?=some x→p k x
 | 0,_=>⟨[],rfl,fun k x h=>by simp at h⟩
 | n+1,h=>by
  obtain ⟨l,hl,hp⟩:=list_of n (fun i hi=>h i (by omega))
  obtain ⟨x,hx⟩:=h n (by omega)
  refine ⟨l++[x],by simp [hl],fun k y hy=>?_⟩
  rw [List.getElem?_append] at hy
  split at hy
  · exact hp k y hy
  · have hk:k=n:=by
     have:=(List.getElem?_eq_some_iff.1 hy).1
     simp at this
     omega
    subst hk
    simp [hl] at hy
    subst hy
    exact hx
section
variable {H:Type} {enc:TypeId×Value→H} {P:Program} {w:World} {base:Nat} {spare:Nat→Bool} {held:Bool}
theorem weightsAll_mem {e:TypeId} {m:Nat} {d:DataW H}:∀ {l:List (DataW H)},d∈l→m∈d.weights P e→m∈DataW.weightsAll P e l
 | [],h,_=>by cases h
 | a::l,h,hm=>by
  rw [DataW.weightsAll,List.mem_append]
  rcases List.mem_cons.1 h with rfl | h
  · exact .inl hm
  · exact .inr (weightsAll_mem h hm)
def Reached (P:Program) (t:TypeId) (d:DataW H):Prop:=∀ m∈d.weights P t,m≤reachBytes
theorem reached_of {ts:List TypeId} {ds:List (DataW H)} (h:(DataW.weightsEach P ts ds).all (· ≤ reachBytes)=true) {j:Nat} {t:TypeId} {d:DataW H} (ht:ts[j]?=some t) (hd:ds[j]?=some d):Reached P t d:=fun m hm=>by
 have:=List.all_eq_true.1 h _ (DataW.weights_mem_each ht hd m hm)
 simpa using this
theorem slice_of_trod {α:Type} {E:World→List Value→α→Prop} {Q:α→Prop} {t e:TypeId} {n fuel:Nat} {cs:List Value} {x:DataW H×List MemPlace} (ht:P.underlying t=some (.slice e)) (hn:P.cellsOf e=n) (hb1:1≤P.bytesOf e) (h0:0 < n)
 (hE:∀ m cs' y,DataW.trod enc P w base spare held m e cs'=some y→Reached P e y.1→∃ x,E w cs' x∧Q x) (h:DataW.trod enc P w base spare held fuel t cs=some x) (hr:Reached P t x.1):∃ v l,cs=[v]∧SliceOf w n E v l∧(∀ x∈l,Q x)∧l.length≤140737488355328:=by
 rcases open_slice ht h with ⟨rfl,_⟩ | ⟨a,len,cap,m,k,D,Pl,rfl,hb,hl,hm,hmm,hx,hel⟩
 · exact ⟨_,[],rfl,SliceOf.nil _ _ _,fun x hx=>by (cases hx),Nat.zero_le _⟩
 · have hlm:len≤m:=by rw [hmm];split<;>omega
   subst hx
   have hw0:=hr ((len+(m - len))*P.bytesOf e) (by simp only [DataW.weights,ht];simp)
   have hlen:len≤140737488355328:=by
    have:len*1≤(len+(m - len))*P.bytesOf e:=Nat.mul_le_mul (by omega) hb1
    simp only [reachBytes] at hw0
    omega
   have hD:∀ i,i < len→Reached P e (D i):=fun i hi q hq=>hr q (by
    simp only [DataW.weights,ht,List.mem_cons,List.mem_append]
    exact .inr (.inl (weightsAll_mem (List.mem_map.2 ⟨i,List.mem_range.2 hi,rfl⟩) hq)))
   obtain ⟨l,hll,hp⟩:=list_of (p:=fun i (x:α)=>∃ cs',w.cells? base (a.add (i*n)) n=some cs'∧E w cs' x∧Q x) len (fun i hi=>by
    obtain ⟨cs',h1,h2⟩:=hel i (by omega)
    rw [hn] at h1
    obtain ⟨x,hx⟩:=hE _ _ _ h2 (hD i hi)
    exact ⟨x,cs',h1,hx⟩)
   refine ⟨_,l,rfl,⟨some a,cap,by rw [hll],by rw [hll];exact hl,by simp only [maxLen] at hm;omega,fun hne=>?_⟩,fun x hx=>?_,by omega⟩
   · obtain ⟨b,o,spot⟩:=a
     have hspot:spot=none:=by
      have:0 < l.length:=List.length_pos_iff.2 hne
      obtain ⟨y,hy⟩:=getElem?_lt this
      obtain ⟨cs',h1,_⟩:=hp 0 y hy
      obtain ⟨_,h2,h3⟩:=World.cells?_some h1
      have h4:=h3 0 h0
      rw [List.getElem?_eq_getElem (by omega)] at h4
      simpa [Addr.add] using World.cell?_spot h4
     subst hspot
     refine ⟨b,o,rfl,fun k x hx=>?_⟩
     obtain ⟨cs',h1,h2,_⟩:=hp k x hx
     obtain ⟨_,h3,h4⟩:=World.cells?_some h1
     refine ⟨cs',h3,fun j v hv=>?_,h2⟩
     have h5:=h4 j (by have:=(List.getElem?_eq_some_iff.1 hv).1;omega)
     rw [hv] at h5
     simpa [Addr.add_lit] using h5
   · obtain ⟨k,hk⟩:=List.getElem?_of_mem hx
     obtain ⟨_,_,_,hq⟩:=hp k x hk
     exact hq
theorem struct_of_trod {fs:Array Field} {t:TypeId} {n fuel:Nat} {cs:List Value} {x:DataW H×List MemPlace} (ht:P.underlying t=some (.struct fs)) (hn:P.cellsOf t=n) (h:DataW.trod enc P w base spare held fuel t cs=some x) (hr:Reached P t x.1) :
 cs.length=n∧∃ m,∀ (i:Nat) (ty off k:Nat),(fs[i]?).map (fun f=>(f.type,f.offset))=some (ty,off)→P.cellsOf ty=k→∃ y,DataW.trod enc P w base spare held m ty ((cs.drop off).take k)=some y∧Reached P ty y.1:=by
 obtain ⟨xs,m,_,rfl,hl,hlen,hf⟩:=DataW.trod_struct ht h
 refine ⟨hl.trans hn,m,fun i ty off k hi hk=>?_⟩
 obtain ⟨f,hfi,he⟩:=Option.map_eq_some_iff.1 hi
 injection he with h1 h2
 subst h1 h2 hk
 have hil:i < xs.length:=by rw [hlen];exact (Array.getElem?_eq_some_iff.1 hfi).1
 refine ⟨xs[i],(hf i f hfi).trans (List.getElem?_eq_getElem hil),fun q hq=>hr q ?_⟩
 simp only [DataW.weights,ht]
 refine DataW.weights_mem_each (j:=i) (t:=f.type) (d:=xs[i].1) ?_ ?_ q hq
 · rw [List.getElem?_map,Array.getElem?_toList,hfi];rfl
 · rw [List.getElem?_map,List.getElem?_eq_getElem hil];rfl
theorem open_str {r:Reach} {b0:Nat} {t:TypeId} {v:Value} {d:DataW H} {ps:List MemPlace} (ht:P.underlying t=some .string) (hval:Value.okWide P w r b0 t v) (hd:DataW.Trod enc P w base spare held t v d ps):∃ s:ByteArray,v = .string s∧d = .lit (.string s.data.toList):=by
 obtain ⟨s,rfl⟩:=okWide_string ht hval
 obtain ⟨fuel,hf⟩:=hd
 obtain ⟨s',h,hx,hs⟩:=DataW.trod_string ht hf
 simp [Value.cells] at h
 simp only [Prod.mk.injEq] at hx
 exact ⟨s,rfl,by rw [hx.1,h]⟩
theorem trodAll_stays (hl:laidOutB P=true) {W W':World} (he:Ext W W'):∀ {ts:List TypeId} {vs:List Value} {ds:List (DataW H)} {ps:List MemPlace},(∀ t∈ts,P.readableRec t=true∧t < P.types.size)→(∀ x∈ps,x.block < W.heap.size) →
 DataW.TrodAll enc P W 0 (fun _=>true) true ts vs ds ps→DataW.TrodAll enc P W' 0 (fun b=>decide (b < W.heap.size)) true ts vs ds ps
 | [],_,_,_,_,_,h=>by obtain ⟨rfl,rfl,rfl⟩:=trodAll_nil h;exact trodAll_mk0
 | t::ts,_,_,_,hr,hlt,h=>by
  obtain ⟨v,vs1,d,ds1,a,b,rfl,rfl,rfl,h1,h2⟩:=trodAll_cons h
  refine ⟨a,b,?_,trodAll_stays hl he (fun t ht=>hr t (List.mem_cons_of_mem _ ht)) (fun x hx=>hlt x (List.mem_append_right _ hx)) h2,rfl⟩
  exact Below.trod hl (hr t (List.mem_cons_self ..)).1 (hr t (List.mem_cons_self ..)).2 h1 ⟨he.os,he.tape,he.output,he.size,he.block⟩ (fun x hx=>hlt x (List.mem_append_left _ hx))
theorem law_post {f:Func} {s:ChangeSpec} {W W':World} {args:Array Value} {ds gs:List (DataW H)} {before:List MemPlace} {tb:TypeId} (hl:laidOutB P=true) (hr:∀ t∈f.params.toList,P.readableRec t=true∧t < P.types.size) (hs:s.vars=[])
 (hW:DataW.Whole enc P f.params.toList s.vars false W args.toList ds gs before) (he:Ext W W') (hres:f.resultTypes = #[tb]) (htb:P.underlying tb=some .bool) (hfn:(s.fn H ds).results=[.lit (.bool true)]) (hargs:(s.fn H ds).args=ds) (hvars:(s.fn H ds).vars=[]) :
 s.post enc P f false true false false W args (.bool true) W':=by
 have hW':=hW
 obtain ⟨p,q,hA,hV,rfl,_,_⟩:=hW
 rw [hs] at hV
 obtain ⟨rfl,rfl⟩:=trodVars_none hV
 have hlt:∀ x∈p,x.block < W.heap.size:=fun x hx=>hW'.lt x (by simpa using hx)
 rw [List.append_nil] at hW'
 refine ⟨ds,[],p,[],p,[],hW',?_,?_,?_,Below.frame ⟨he.os,he.tape,he.output,he.size,he.block⟩ _,fun h=>by cases h⟩
 · rw [List.append_nil,hfn,hres]
   exact trodAll_mk1 (shut_bool htb _)
 · rw [List.append_nil,hargs]
   exact trodAll_stays hl he hr hlt hA
 · rw [List.append_nil,hvars,hs]
   exact rfl
end
end Go.Sw
namespace Go.Proofs.YtpgkjhikdhdffaaGreatDoor
open Sw
open Go.RowKit Go.Deep
def role_laid:List (String×DataW Unit):=[("math/bits.deBruijn32tab", Rows.laid_math_bits_deBruijn32tab),("math/bits.deBruijn64tab", Rows.laid_math_bits_deBruijn64tab),("internal/strconv.uint64pow10", Rows.laid_internal_strconv_uint64pow10),("strconv.ErrRange", Rows.laid_strconv_ErrRange),("strconv.ErrSyntax", Rows.laid_strconv_ErrSyntax)]
theorem role_own:ownKnob Pg.godebug=none:=by kernel_rfl
theorem role_laidOut:laidOutB Pg=true:=by kernel_rfl
theorem role_met (os:Os) (args:Array Value):laidMetH Pg role_laid ((World.laidAll Pg os role_laid).forCall (fun _ _=>0) ⟨#[],args,[]⟩).memory:=by
 rw [MakeChecks.laidMetH_plain _ _ _ (by kernel_rfl)]
 exact laidMet_laidAll _ (by kernel_rfl) (by kernel_rfl)
theorem role_tab {W:World} (h:laidMetH Pg role_laid W):TabOK W:=by
 rw [MakeChecks.laidMetH_plain _ _ _ (by kernel_rfl)] at h
 have h3:=laidMet.tail (laidMet.tail h)
 have he:(Rows.laid_internal_strconv_uint64pow10:DataW Unit)=Go.Lib.tabData .u64 Go.Lib.pow10Tab:=by kernel_rfl
 rw [he] at h3
 obtain ⟨g,hg⟩:=Option.isSome_iff_exists.1 gPow
 have hty:(Pg.globals[g]?).map (·.type)=some 178:=by
  have h1:(Pg.globalNamed "internal/strconv.uint64pow10").bind (fun g=>(Pg.globals[g]?).map (·.type))=some 178:=by kernel_rfl
  rw [hg] at h1
  exact h1
 exact Go.Lib.tabIs_of_head hg hty Tryz.underlying178 Tryz.underlying146 (by kernel_rfl) (by kernel_rfl) h3
theorem role_star : "*" ++ "errors.errorString" = "*errors.errorString" := by decide
theorem role_rowErr (u:TypeId) (h:Pg.typeName? 3 u=some "*errors.errorString"):u=166 :=
 typeName_ptr_named (nm := "errors.errorString") (by rw [role_star];kernel_rfl) (by kernel_rfl) (by decide) u (by rw [role_star];exact h)
theorem role_env {W:World} (hs:W.ShapedOpen Pg) (h:laidMetH Pg role_laid W):EnvOK W:=by
 refine ⟨role_tab h,Go.Proofs.cell_of_shapedOpen_int (k := .i64) hs (of_decide_eq_true (by kernel_rfl)) (zero := #[.int .i64 0]) (t:=3) (by kernel_rfl) rfl (by kernel_rfl) (by kernel_rfl) Tryz.underlying3,?_,?_⟩
 · rw [MakeChecks.laidMetH_plain _ _ _ (by kernel_rfl)] at h
   have h5:=h.tail.tail.tail.tail
   obtain ⟨a,s,hv,_⟩:=laid_sentinel (g:=1) h5 (by kernel_rfl) (by kernel_rfl) Tryz.underlying107 role_rowErr Tryz.underlying166 Tryz.underlying168 rfl rfl Tryz.underlying9 (by kernel_rfl) (by kernel_rfl)
   refine ⟨_,by rw [World.var?_cell (show Pg.globalNamed "strconv.ErrSyntax" = some 1 by kernel_rfl) hv 0];rfl,.inr ⟨_,_,rfl⟩⟩
 · rw [MakeChecks.laidMetH_plain _ _ _ (by kernel_rfl)] at h
   have h5:=h.tail.tail.tail
   obtain ⟨a,s,hv,_⟩:=laid_sentinel (g:=2) h5 (by kernel_rfl) (by kernel_rfl) Tryz.underlying107 role_rowErr Tryz.underlying166 Tryz.underlying168 rfl rfl Tryz.underlying9 (by kernel_rfl) (by kernel_rfl)
   refine ⟨_,by rw [World.var?_cell (show Pg.globalNamed "strconv.ErrRange" = some 2 by kernel_rfl) hv 0];rfl,.inr ⟨_,_,rfl⟩⟩
theorem handed_and {H:Type} {enc:TypeId×Value→H} {a:Assume} {C:Checked} {os:Os} {f:FuncId} {fn:Func} {s:ChangeSpec} {conds:List PathCond} {apart fresh handsOn again:Bool} {X:World→Array Value→Prop}
 (hX:∀ (w w':World) (args:Array Value),w.heap=w'.heap→X w args→X w' args)
 (own:ownKnob C.prog.godebug=none) (started:os.Started) (noInit:C.prog.inits.idxOf? f=none) (hfn:C.prog.funcs[f]?=some fn)
 (witness:∃ (w:World) (tape:Tape) (i:Input),w.os=os∧(w.forCall tape i).Shaped C.prog∧i.vars=[]∧Input.okWide C.prog (w.forCall tape i) .any w.heap.size f i ∧
  ((s.pre enc C.prog fn conds apart (w.forCall tape i).memory i.args∧X (w.forCall tape i).memory i.args)∧sizedMet enc C.prog fn (OpenSpec.ofChange s) apart (w.forCall tape i).memory i.args)∧a.holds C.prog (lone (Frame.enter C.prog f i.args .normal) [] (w.forCall tape i)))
 (contract:∀ (W:World) (base:Nat) (args:Array Value) (ds gs:List (DataW H)) (before:List MemPlace),
  (∀ (j:Nat) t v,fn.params[j]?=some t→args[j]?=some v→Value.okWide C.prog W .any base t v) →
  DataW.Whole enc C.prog fn.params.toList s.vars apart W args.toList ds gs before →
  conds.all (PathCond.test C.prog ⟨fn.params.toList,ds,s.plain.varTypes C.prog,gs⟩)=true →
  (DataW.weightsEach C.prog (fn.params.toList++s.plain.varTypes C.prog) (ds++gs)).all (· ≤ reachBytes)=true→X W args→W.ShapedOpen C.prog →
  a.holds C.prog (lone (Frame.enter C.prog f args .normal) [] W) →
  Calls C.prog f args W fun e W'=>∃ v,e = .returned v∧s.post enc C.prog fn apart fresh handsOn again W args v W') :
 ReturnsInHanded a C os f .any (fun w args=>(s.pre enc C.prog fn conds apart w args∧X w args)∧sizedMet enc C.prog fn (OpenSpec.ofChange s) apart w args) (s.post enc C.prog fn apart fresh handsOn again):=by
 refine returnsInHanded_of_calls own started noInit witness ?_
 intro w tape i _ hsh _ hok hpre hholds
 obtain ⟨_,_,_,fn',hfn',_,_,_,_,hval⟩:=hok
 have e:fn'=fn:=Option.some.inj (hfn'.symm.trans hfn)
 subst e
 obtain ⟨⟨⟨ds,gs,before,hw,hc⟩,hx⟩,hz⟩:=hpre
 have hw':=DataW.Whole.of_heap (w':=w.forCall tape i) (by rfl) hw
 refine (contract (w.forCall tape i) w.heap.size i.args ds gs before hval hw' hc (hz.weights hw) (hX _ _ _ (by rfl) hx) hsh hholds).mono fun e W' ⟨v,he,hp⟩=>?_
 subst he
 exact ChangeSpec.post_blind hp
open Go.ChangeShapes Go.WideShapes Go.ChangeAt
theorem cellsTerm:Pg.cellsOf 32=2:=by kernel_rfl
theorem cellsSize:Pg.cellsOf 24=2:=by kernel_rfl
theorem cellsString:Pg.cellsOf 9=1:=by kernel_rfl
theorem cellsInt:Pg.cellsOf 3=1:=by kernel_rfl
theorem cellsTerms:Pg.cellsOf 22=1:=by kernel_rfl
theorem bytesTerm:1≤Pg.bytesOf 32:=Nat.le_of_ble_eq_true (by kernel_rfl)
section
variable {H:Type} {enc:TypeId×Value→H} {w:World} {base:Nat} {spare:Nat→Bool} {held:Bool}
theorem term_of {m:Nat} {cs:List Value} {y:DataW H×List MemPlace} (h:DataW.trod enc Pg w base spare held m 32 cs=some y) (hr:Reached Pg 32 y.1):∃ x,ETerm w cs x:=by
 obtain ⟨hl,n,hf⟩:=struct_of_trod Tryz.underlying32 cellsTerm h hr
 obtain ⟨y0,h0,r0⟩:=hf 0 9 0 1 rfl cellsString
 obtain ⟨y1,h1,r1⟩:=hf 1 3 1 1 rfl cellsInt
 match cs,hl with
 | [c0,c1],_ =>
  obtain ⟨s,e0,_⟩:=DataW.trod_string Tryz.underlying9 h0
  obtain ⟨k,e1,_⟩:=DataW.trod_int Tryz.underlying3 h1
  simp at e0 e1
  subst e0 e1
  exact ⟨⟨s,k⟩,rfl⟩
theorem size_of {m:Nat} {cs:List Value} {y:DataW H×List MemPlace} (h:DataW.trod enc Pg w base spare held m 24 cs=some y) (hr:Reached Pg 24 y.1):∃ b tv ts,cs=[.int .i64 b,tv]∧TermsOf w tv ts∧ts.length≤140737488355328:=by
 obtain ⟨hl,n,hf⟩:=struct_of_trod Tryz.underlying24 cellsSize h hr
 obtain ⟨y0,h0,r0⟩:=hf 0 3 0 1 rfl cellsInt
 obtain ⟨y1,h1,r1⟩:=hf 1 22 1 1 rfl cellsTerms
 match cs,hl with
 | [c0,c1],_ =>
  obtain ⟨a,e0,_⟩:=DataW.trod_int Tryz.underlying3 h0
  obtain ⟨v,l,e1,hS,_,hL⟩:=slice_of_trod (E:=ETerm) (Q:=fun _=>True) Tryz.underlying22 cellsTerm bytesTerm (by decide) (fun _ _ _ h hr=>let ⟨x,hx⟩:=term_of h hr; ⟨x,hx,trivial⟩) h1 r1
  simp at e0 e1
  subst e0 e1
  exact ⟨a,_,l,rfl,hS,hL⟩
theorem siz_val {r:Reach} {b0:Nat} {v:Value} {d:DataW H} {ps:List MemPlace} (hval:Value.okWide Pg w r b0 24 v) (h:DataW.Trod enc Pg w base spare held 24 v d ps) (hr:Reached Pg 24 d):∃ f:Int×List TermD,SizeVal w v f.1 f.2∧True:=by
 obtain ⟨cs,rfl,_⟩:=okWide_struct Tryz.underlying24 hval
 obtain ⟨fuel,hf⟩:=h
 obtain ⟨b,tv,ts,h1,h2,_⟩:=size_of hf hr
 exact ⟨(b,ts),⟨tv,congrArg Value.agg (by rw [← Array.toArray_toList (xs := #[.int .i64 b,tv]),← h1,cells_agg]),h2⟩,trivial⟩
end
end Go.Proofs.YtpgkjhikdhdffaaGreatDoor
namespace Go.Proofs.YtpgkjhikdhdffaaGreatDoor
open Sw
open Go.RowKit (intOf Below)
theorem op_saddZ {w:World} {QP:List PanicEntry→World→Prop} {k:Value→World→Prop} (t:TypeId) (c:Bool) (a b:ByteArray) (h:a.size+b.size≤9223372036854775807):opV Pg (binS .add t c (.string a) (.string b)) QP w k=k (.string (a++b)) w :=
 @op_saddB Pg QP w t c a b a.size b.size ⟨Nat.le_refl _⟩ ⟨Nat.le_refl _⟩ (Nat.ble_eq_true_of_le h) k
def decZ (v:Nat):ByteArray:=if v=0 then ⟨#[]⟩ else decB v
theorem decZ_step {v:Nat} (h:0 < v):decZ (v / 10)++⟨#[UInt8.ofNat (48+v % 10)]⟩=decZ v:=by
 have hv:decZ v=decB v:=by unfold decZ;rw [if_neg (by omega)]
 rw [hv]
 by_cases h1:v < 10
 · have:v / 10=0:=by omega
   rw [this,dec_one h1,Nat.mod_eq_of_lt h1]
   unfold decZ
   rw [if_pos rfl]
   exact bytes_ext (by simp)
 · rw [dec_more (by omega),dec_one (n:=v % 10) (by omega)]
   unfold decZ
   rw [if_neg (by omega)]
theorem digit_step (w:World) (v:Nat) (hv:v≤9223372036854775807) {QP:List PanicEntry→World→Prop} {K:Value→World→Prop} (hK:∀ w',Ext w w'→K (.string ⟨#[UInt8.ofNat (48+v % 10)]⟩) w') :
 opV Pg (binS .rem 3 true (.int .i64 (v:Int)) (.int .i64 10)) QP w fun t17 w=>opV Pg (binS .add 3 true (.int .i64 48) t17) QP w fun t18 w=>opV Pg (Go.convert 3 5 t18) QP w fun t19 w=>opV Pg (Instr.buildSlice 83 1 #[(0,t19)]) QP w fun t20 w=>opV Pg (Go.convert 83 9 t20) QP w K:=by
 have hr:(v:Int).tmod 10=((v % 10:Nat):Int):=by rw [Int.tmod_eq_emod_of_nonneg (by omega)];omega
 have hw:IntKind.i64.wrap (48+((v % 10:Nat):Int))=((48+v % 10:Nat):Int):=by rw [wrap_ok (by omega) (by omega)];omega
 have hu:IntKind.u8.wrap ((48+v % 10:Nat):Int)=((48+v % 10:Nat):Int):=by
  have key:∀ n:Fin 10,IntKind.u8.wrap ((48+n.val:Nat):Int)=((48+n.val:Nat):Int):=by decide +kernel
  exact key ⟨v % 10,Nat.mod_lt _ (by omega)⟩
 simp (disch:=try exact DI) only [↓PR,QR,simprocAttr,hr,hw]
 rw [hu]
 have o1:=heap_new w #[.int .u8 ((48+v % 10:Nat):Int)] 5
 have e1:Ext w (w.alloc (.cells #[.int .u8 ((48+v % 10:Nat):Int)] 5)):=ee
 generalize World.alloc w _=W at o1 e1 ⊢
 rw [op_oneB o1,Int.toNat_natCast]
 exact hK W e1
theorem decimal_ret (w0:World) (n:Nat) (hn:n≤9223372036854775807):Ret Pg 68 #[.int .i64 (n:Int)] w0 fun r w'=>r = .string (decB n)∧Ext w0 w':=by
 have hq:∀ v:Nat,v≤9223372036854775807→IntKind.i64.wrap ((v:Int).tdiv 10)=((v / 10:Nat):Int):=fun v hv=>by
  have:(v:Int).tdiv 10=((v / 10:Nat):Int):=by rw [Int.tdiv_eq_ediv_of_nonneg (by omega)];omega
  rw [this,wrap_ok (by omega) (by omega)]
 refine n16s (R:=retR _) ?_;unfold n16
 refine digit_step w0 n hn fun w1 e1=>?_
 rw [op_quo _ _ _ _ _ (by decide),hq n hn]
 have h0:decZ (n / 10)++⟨#[UInt8.ofNat (48+n % 10)]⟩=decB n:=by
  by_cases hz:n=0
  · subst hz
    rw [show (0:Nat) / 10=0 from rfl,dec_one (n:=0) (by omega)]
    exact bytes_ext (by simp [decZ])
  · rw [decZ_step (by omega)]
    unfold decZ
    rw [if_neg hz]
 refine loop2_intro (fun a s w=>∃ (v:Nat) (b:ByteArray),a = .int .i64 (v:Int)∧s = .string b∧v≤n∧b.size≤1000∧decZ v++b=decB n∧Ext w0 w) (fun a _ _=>(intOf a).toNat) ⟨n / 10,_,rfl,rfl,Nat.div_le_self _ _,by show 1≤1000;decide,h0,e1⟩ ?_
 rintro _ _ w ⟨v,b,rfl,rfl,hv,hb,hI,e⟩
 by_cases h:v=0
 · subst h
   have d0:decide (((0:Nat):Int) > 0)=false:=by decide
   simp (disch:=try exact DI) only [↓PR,QR,simprocAttr,d0]
   refine ⟨?_,e⟩
   rw [← hI]
   exact congrArg Value.string (bytes_ext (by simp [decZ]))
 · have d0:decide ((v:Int) > 0)=true:=decide_eq_true (by omega)
   simp (disch:=try exact DI) only [↓PR,QR,simprocAttr,d0]
   unfold n16c1
   refine digit_step w v (by omega) fun w2 e2=>?_
   have hsz:(⟨#[UInt8.ofNat (48+v % 10)]⟩:ByteArray).size=1:=rfl
   rw [op_saddZ _ _ _ _ (by omega),op_quo _ _ _ _ _ (by decide),hq v (by omega)]
   have hI':decZ (v / 10)++(⟨#[UInt8.ofNat (48+v % 10)]⟩++b)=decB n:=by
    rw [← ByteArray.append_assoc,decZ_step (by omega),hI]
   have hlen:(⟨#[UInt8.ofNat (48+v % 10)]⟩++b:ByteArray).size≤1000:=by
    have h1:=congrArg ByteArray.size hI'
    have h2:=decB_size (n:=(n:Int)) (by omega) (by omega)
    rw [size_append] at h1
    omega
   exact ⟨⟨v / 10,_,rfl,rfl,by omega,hlen,hI',e.trans e2⟩,by show ((v / 10:Nat):Int).toNat < (v:Int).toNat;omega⟩
theorem dec_mk (n:Nat):decB (n:Int)=mkB (Go.Lib.decDigits n):=by
 unfold decB mkB
 rw [itoa_pos (by omega),Int.toNat_natCast]
theorem lit43:(⟨#[43]⟩:ByteArray)=mkB [43]:=rfl
theorem lit45:(⟨#[45]⟩:ByteArray)=mkB [45]:=rfl
theorem lit42:(⟨#[42]⟩:ByteArray)=mkB [42]:=rfl
theorem rt_tail {w0 w:World} {p1:Nat} {base:Int} {tv:Value} {ts:List TermD} {R:RT} (e:Ext w0 w) (hT:TermsOf w0 tv ts) (o1:w.heap[p1]?=some (.cells #[.int .i64 base,tv] TSz (0,0))) (hl4:ts.length≤4) {k m:Nat} {x:TermD} (hx:ts[k]?=some x) (hm:m≤1048576) (hnm:x.field.size≤32) (hne:x.field.data.toList≠[]) {l:List UInt8} (hl:l.length≤500) {next:Value→Value→World→Prop}
 (hn:∀ w',Ext w w'→next (.string (mkB (l++bodyL m x.field.data.toList))) (.int .i64 ((k+1:Nat):Int)) w') :
 n13c3 (.pointer (some ⟨p1,0,none⟩)) (.string (mkB l)) (.int .i64 (k:Int)) (.int .i64 (m:Int)) next R w:=by
 have hlt:=(List.getElem?_eq_some_iff.1 hx).1
 have hwk:IntKind.i64.wrap ((k:Int)+1)=((k+1:Nat):Int):=by rw [wrap_ok (by omega) (by omega)];omega
 obtain ⟨A0,c0,hv,_,_,_,hel0⟩:=SliceOf.open hT
 obtain ⟨b0,o0,cs0,hA0,_,hA,rfl⟩:=hel0 k x hx
 subst hA0
 rw [hv] at o1
 have dk:(k:Int) < (ts.length:Int):=by omega
 have hfs:(mkB x.field.data.toList).size=x.field.size:=by rw [mkB_to]
 have hfl:x.field.data.toList.length=x.field.size:=rfl
 have fin:∀ (w':World) (l':List UInt8),Ext w w'→l'.length≤600→(l'++x.field.data.toList=l++bodyL m x.field.data.toList)→n13c1 (.pointer (some ⟨p1,0,none⟩)) (.string (mkB l')) (.int .i64 (k:Int)) next R w':=by
  intro w' l' e' hl' he
  have o':=e'.obj o1
  unfold n13c1
  simp (disch:=try exact DI) only [↓PR,QR,simprocAttr,(cells_of_heap o').1,dk,hA.c2 (e.trans e')]
  rw [op_saddZ _ _ _ _ (by rw [mkB_size];omega),show mkB l'++x.field=mkB (l'++x.field.data.toList) from mkB_app l' x.field.data.toList,he]
  simp (disch:=try exact DI) only [↓PR,QR,simprocAttr,hwk]
  exact hn w' e'
 unfold n13c3
 by_cases h1:m=1
 · subst h1
   have d1:(((1:Nat):Int) != 1)=false:=rfl
   simp (disch:=try exact DI) only [↓PR,QR,simprocAttr,d1]
   refine fin w l (Ext.refl _) (by omega) ?_
   unfold bodyL
   rw [if_neg hne,if_pos rfl]
 · have d1:((m:Int) != 1)=true:=by simp;omega
   simp (disch:=try exact DI) only [↓PR,QR,simprocAttr,d1]
   unfold n13c2
   refine zcr (decimal_ret w m (by omega)) fun w2 e2=>?_
   have hd:=decD_len hm
   rw [dec_mk,op_saddZ _ _ _ _ (by rw [mkB_size,mkB_size];omega),mkB_app,lit42,op_saddZ _ _ _ _ (by rw [mkB_size,mkB_size,List.length_append];show _+_+1≤_;omega),mkB_app]
   refine fin w2 _ e2 (by simp;omega) ?_
   unfold bodyL
   rw [if_neg hne,if_neg h1]
   simp
theorem rText_ret (w0:World) (v:Value) (base:Int) (ts:List TermD) (hs:SizeVal w0 v base ts) (hv:sizeB base ts=true) :
 Ret Pg 27 #[v] w0 fun r w'=>r = .string (sizeT base ts)∧Ext w0 w':=by
 obtain ⟨tv,rfl,hT⟩:=hs
 have hT1:=SliceOf.oneCell hT
 obtain ⟨⟨b0,b1⟩,hl4,hok⟩:=size_ok hv
 have hnm:∀ t∈ts,t.field.size≤32:=by
  unfold sizeB at hv
  simp only [Bool.and_eq_true,decide_eq_true_eq] at hv
  intro t ht
  have:=terms_all ts [] hv.2 t ht
  unfold termB at this
  simp only [Bool.and_eq_true] at this
  exact name_size this.1.1
 refine n13s (R:=retR _) ?_;unfold n13
 simp (disch:=try exact DI) only [↓PR,QR,simprocAttr]
 have e0:Ext w0 (w0.alloc (.cells #[.int .i64 base,tv] TSz)):=(Ext.refl _).alloc _
 have o1:=heap_new w0 #[.int .i64 base,tv] TSz
 change loop2 _ _ _ (w0.alloc (.cells #[.int .i64 base,tv] TSz))
 generalize w0.alloc (.cells #[.int .i64 base,tv] TSz)=W at *
 generalize w0.heap.size=p1 at *
 refine loop2_intro (fun s a w=>∃ (k:Nat) (l:List UInt8),s = .string (mkB l)∧a = .int .i64 (k:Int)∧k≤ts.length∧l.length≤41*k∧(k=0↔l=[])∧(ts.drop k).foldl (fun out t=>addPart out t.factor t.field.data.toList) l=termsL ts∧Ext W w) (fun _ a _=>ts.length - (intOf a).toNat) ⟨0,[],rfl,rfl,by omega,by simp,by simp,rfl,Ext.refl _⟩ ?_
 rintro _ _ w ⟨k,l,rfl,rfl,hk,hll,hz,hI,e⟩
 have g1:=e.obj o1
 have E:=e0.trans e
 obtain ⟨A0,c0,hvv,_,_,_,hel0⟩:=SliceOf.open hT
 have g1':=g1
 rw [hvv] at g1'
 unfold n13c11
 by_cases hlt:k < ts.length
 · obtain ⟨x,hx⟩:=getElem?_lt hlt
   obtain ⟨b0',o0,cs0,hA0,_,hA,rfl⟩:=hel0 k x hx
   subst hA0
   have dk:(k:Int) < (ts.length:Int):=by omega
   have d1:decide ((k:Int) < (ts.length:Int))=true:=decide_eq_true dk
   have hok':=hok x (List.mem_of_getElem? hx)
   have hnx:=hnm x (List.mem_of_getElem? hx)
   have hlo:=hok'.lo
   have hhi:=hok'.hi
   have hna8:x.factor.natAbs≤1048576:=by omega
   have hfl:x.field.data.toList.length=x.field.size:=rfl
   have hd:ts.drop k=x::ts.drop (k+1):=by
    rw [List.drop_eq_getElem_cons hlt]
    congr 1
    exact (List.getElem?_eq_some_iff.1 hx).2
   rw [hd,List.foldl_cons] at hI
   have hpl:=part_len (n:=x.factor) (l:=x.field.data.toList) (first:=decide (l=[])) hok'.lo hok'.hi
   have next:∀ (w':World) (l1:List UInt8),Ext w w'→l1++bodyL x.factor.natAbs x.field.data.toList=addPart l x.factor x.field.data.toList→(∃ (k':Nat) (l':List UInt8),Value.string (mkB (l1++bodyL x.factor.natAbs x.field.data.toList)) = .string (mkB l')∧Value.int .i64 ((k+1:Nat):Int) = .int .i64 (k':Int)∧k'≤ts.length∧l'.length≤41*k'∧(k'=0↔l'=[])∧(ts.drop k').foldl (fun out t=>addPart out t.factor t.field.data.toList) l'=termsL ts∧Ext W w')∧ts.length - (intOf (.int .i64 ((k+1:Nat):Int))).toNat < ts.length - (intOf (.int .i64 (k:Int))).toNat:=by
    intro w' l1 e' he
    rw [he]
    refine ⟨⟨k+1,_,rfl,rfl,hlt,?_,?_,hI,e.trans e'⟩,meas_lt (kd := .i64) hlt⟩
    · unfold addPart
      rw [List.length_append]
      omega
    · refine ⟨fun h=>by omega,fun h=>?_⟩
      unfold addPart at h
      exact absurd (List.append_eq_nil_iff.1 h).2 (part_ne hok'.nm)
   unfold n13c10
   by_cases hneg:x.factor < 0
   · have d2:decide (x.factor < 0)=true:=decide_eq_true hneg
     have hw:IntKind.i64.wrap (0 - x.factor)=(x.factor.natAbs:Int):=by rw [wrap_ok (by omega) (by omega)];omega
     simp (disch:=try exact DI) only [↓PR,QR,simprocAttr,(cells_of_heap g1').1,d1,dk,(hA.c2 E).1,(hA.c2 E).2,d2]
     rw [lit45,op_saddZ _ _ _ _ (by rw [mkB_size,mkB_size];show _+1≤_;omega),mkB_app]
     simp (disch:=try exact DI) only [↓PR,QR,simprocAttr,hw]
     refine rt_tail (l:=l++[45]) E hT g1 hl4 hx hna8 hnx hok'.ne (by rw [List.length_append];show _+1≤_;omega) fun w' e'=>next w' _ e' ?_
     unfold addPart partL
     rw [if_pos hneg,List.append_assoc]
   · have d2:decide (x.factor < 0)=false:=decide_eq_false hneg
     have hna:x.factor=(x.factor.natAbs:Int):=by omega
     simp (disch:=try exact DI) only [↓PR,QR,simprocAttr,(cells_of_heap g1').1,d1,dk,(hA.c2 E).1,(hA.c2 E).2,d2,↓n13c4]
     by_cases hk0:k=0
     · have d3:decide ((k:Int) > 0)=false:=decide_eq_false (by omega)
       have hl0:=hz.1 hk0
       simp (disch:=try exact DI) only [↓PR,QR,simprocAttr,d3]
       rw [hna]
       refine rt_tail E hT g1 hl4 hx hna8 hnx hok'.ne (by omega) fun w' e'=>next w' _ e' ?_
       unfold addPart partL
       rw [if_neg hneg,if_pos (decide_eq_true hl0),List.nil_append]
     · have d3:decide ((k:Int) > 0)=true:=decide_eq_true (by omega)
       have hl0:l≠[]:=fun h=>hk0 (hz.2 h)
       simp (disch:=try exact DI) only [↓PR,QR,simprocAttr,d3]
       rw [lit43,op_saddZ _ _ _ _ (by rw [mkB_size,mkB_size];show _+1≤_;omega),mkB_app,hna]
       refine rt_tail (l:=l++[43]) E hT g1 hl4 hx hna8 hnx hok'.ne (by rw [List.length_append];show _+1≤_;omega) fun w' e'=>next w' _ e' ?_
       unfold addPart partL
       rw [if_neg hneg,if_neg (by simpa using hl0),List.append_assoc]
 · obtain rfl:k=ts.length:=by omega
   have d1:decide ((ts.length:Int) < (ts.length:Int))=false:=decide_eq_false (by omega)
   rw [List.drop_length] at hI
   simp only [List.foldl_nil] at hI
   subst hI
   have hf:decide (mkB (termsL ts)=⟨#[]⟩)=decide (termsL ts=[]):=decide_eq_decide.2 ⟨fun h=>mkB_inj (b:=[]) h,fun h=>by rw [h];rfl⟩
   unfold sizeT sizeL
   simp (disch:=try exact DI) only [↓PR,QR,simprocAttr,(cells_of_heap g1').1,d1,↓n13c9]
   have hdl:∀ m:Nat,m≤1048576→(Go.Lib.decDigits m).length≤7:=fun m h=>decD_len h
   have hbody:∀ m,bodyL m []=Go.Lib.decDigits m:=fun m=>by unfold bodyL;rw [if_pos rfl]
   have ex:∃ m:Nat,base.natAbs=m:=⟨_,rfl⟩
   obtain ⟨m,hm⟩:=ex
   have h7:=hdl m (by omega)
   by_cases hb:base=0
   · have db:(base == 0)=true:=by simpa using hb
     by_cases hl0:termsL ts=[]
     · have hfd:decide (mkB (termsL ts)=⟨#[]⟩)=true:=by rw [hf];exact decide_eq_true hl0
       have d0:decide (base < 0)=false:=decide_eq_false (by omega)
       simp (disch:=try exact DI) only [↓PR,QR,simprocAttr,db,hfd,Bool.not_true,↓n13c8,d0,↓n13c7]
       rw [show base=((0:Nat):Int) from hb]
       refine zcr (decimal_ret w 0 (by omega)) fun w2 e2=>?_
       simp (disch:=try exact DI) only [↓PR,QR,simprocAttr]
       refine ⟨?_,E.trans e2⟩
       rw [if_pos (.inr hl0),show decB 0=mkB (Go.Lib.decDigits 0) from dec_mk 0,hl0]
       unfold addPart partL
       rw [hbody]
       rfl
     · have hfd:decide (mkB (termsL ts)=⟨#[]⟩)=false:=by rw [hf];exact decide_eq_false hl0
       simp (disch:=try exact DI) only [↓PR,QR,simprocAttr,db,hfd,Bool.not_false,↓n13c8]
       exact ⟨by rw [if_neg (by simp [hb,hl0])],E⟩
   · have db:(base == 0)=false:=by simpa using hb
     rw [if_pos (.inl hb)]
     by_cases hneg:base < 0
     · have d0:decide (base < 0)=true:=decide_eq_true hneg
       have hw:IntKind.i64.wrap (0 - base)=(m:Int):=by rw [wrap_ok (by omega) (by omega)];omega
       simp (disch:=try exact DI) only [↓PR,QR,simprocAttr,db,↓n13c8,d0,↓n13c6]
       rw [lit45,op_saddZ _ _ _ _ (by rw [mkB_size,mkB_size];show _+1≤_;omega),mkB_app]
       simp (disch:=try exact DI) only [↓PR,QR,simprocAttr,hw]
       refine zcr (decimal_ret w m (by omega)) fun w2 e2=>?_
       rw [dec_mk,op_saddZ _ _ _ _ (by rw [mkB_size,mkB_size,List.length_append];show _+1+_≤_;omega),mkB_app]
       simp (disch:=try exact DI) only [↓PR,QR,simprocAttr]
       refine ⟨?_,E.trans e2⟩
       unfold addPart partL
       rw [hbody,if_pos hneg,hm,List.append_assoc]
     · have d0:decide (base < 0)=false:=decide_eq_false hneg
       have hbm:base=(m:Int):=by omega
       by_cases hl0:termsL ts=[]
       · have hfd:decide (mkB (termsL ts)=⟨#[]⟩)=true:=by rw [hf];exact decide_eq_true hl0
         simp (disch:=try exact DI) only [↓PR,QR,simprocAttr,db,↓n13c8,d0,↓n13c7,hfd,Bool.not_true]
         rw [hbm]
         refine zcr (decimal_ret w m (by omega)) fun w2 e2=>?_
         simp (disch:=try exact DI) only [↓PR,QR,simprocAttr]
         refine ⟨?_,E.trans e2⟩
         unfold addPart partL
         rw [hbody,dec_mk,hl0,if_neg (by omega),if_pos (decide_eq_true rfl),Int.natAbs_natCast]
         rfl
       · have hfd:decide (mkB (termsL ts)=⟨#[]⟩)=false:=by rw [hf];exact decide_eq_false hl0
         simp (disch:=try exact DI) only [↓PR,QR,simprocAttr,db,↓n13c8,d0,↓n13c7,hfd,Bool.not_false,↓n13c5]
         rw [lit43,op_saddZ _ _ _ _ (by rw [mkB_size,mkB_size];show _+1≤_;omega),mkB_app,hbm]
         refine zcr (decimal_ret w m (by omega)) fun w2 e2=>?_
         rw [dec_mk,op_saddZ _ _ _ _ (by rw [mkB_size,mkB_size,List.length_append];show _+1+_≤_;omega),mkB_app]
         simp (disch:=try exact DI) only [↓PR,QR,simprocAttr]
         refine ⟨?_,E.trans e2⟩
         unfold addPart partL
         rw [hbody,if_neg (by omega),if_neg (by simpa using hl0),Int.natAbs_natCast,List.append_assoc]
theorem tw_len {α:Type} {p:α→Bool} {l:List α} {j:Nat} (h1:∀ i y,i < j→l[i]?=some y→p y=true) (h2:∀ y,l[j]?=some y→p y=false):l.takeWhile p=l.take j:=by
 induction l generalizing j with
 | nil=>simp
 | cons x l ih =>
  cases j with
  | zero=>rw [List.takeWhile_cons,h2 x rfl];rfl
  | succ j =>
   rw [List.takeWhile_cons,h1 0 x (by omega) rfl,if_pos rfl,ih (j:=j) (fun i y hi hy=>h1 (i+1) y (by omega) hy) (fun y hy=>h2 y hy)]
   rfl
theorem mkB_at {L:List UInt8} {k:Nat} {c:UInt8} (h:L[k]?=some c):(mkB L).data.toList[k]?=some c:=by
 rw [show (mkB L).data.toList=L by simp [mkB]]
 exact h
section
variable {w0 w:World} {p2 p4:Nat} {b:Int} {ts:List TermD} {tv:Value} {L:List UInt8} {text:ByteArray}
theorem rp_wrong (h:PZ w0 w p2 p4 b ts tv) (hp:parseZ text=(0,[],6)):n11c3 (.pointer (some ⟨p2,0,none⟩)) (PRt w0 text) w:=by
 have q2:=h.h2
 unfold n11c3
 simp (disch:=try exact DI) only [↓PR,QR,simprocAttr,(cells_of_heap q2).1,(cells_of_heap q2).2]
 rw [hp]
 exact ⟨⟨_,rfl,_,rfl,SliceOf.nil _ _ _⟩,(h.e.setCell (p:=⟨p2,0,none⟩) h.l2 _).setCell (p:=⟨p2,1,none⟩) h.l2 _⟩
theorem rp_push (h:PZ w0 w p2 p4 b ts tv) (hts:ts.length≤1000) {fr at':Nat} (h1:fr≤at') (h2:at'≤L.length) {sg m:Int} (hsm : -1000000000≤sg*m∧sg*m≤1000000000) {next1:Value→World→Prop}
 (hN:∀ w' tv',PZ w0 w' p2 p4 b (ts++[⟨mkB ((L.drop fr).take (at' - fr)),sg*m⟩]) tv'→next1 (.int .i64 (at':Int)) w') :
 drawK w fun C18 w=>n11c2 (.string (mkB L)) (.pointer (some ⟨p4,0,none⟩)) (.int .i64 sg) (.int .i64 m) (.int .i64 (fr:Int)) (.int .i64 (at':Int)) C18 next1 (PRt w0 text) w:=by
 have l4:=(Array.getElem?_eq_some_iff.1 h.h4).1
 obtain ⟨g,hgd⟩:∃ g,g=tv.ownBlock.getD w.heap.size:=⟨_,rfl⟩
 have hown:∀ b,tv.ownBlock=some b→p4+1≤b∧b < w.heap.size:=fun b hb=>World.ownsRow.lt h.ot b hb
 have hg:p4 < g:=by
  rw [hgd]
  cases hv:tv.ownBlock with
  | none=>exact l4
  | some b=>exact (hown b hv).1
 have n4:p4≠g:=by omega
 have hv1:=SliceOf.oneCell (own_terms h.ot)
 have hw:IntKind.i64.wrap (sg*m)=sg*m:=wrap_ok (by omega) (by omega)
 have hq:∀ K:Value→Prop,qV Pg (KB w g g) (Instr.sliceAt 9 (.string (mkB L)) (some (.int .i64 (fr:Int))) (some (.int .i64 (at':Int))) none) K=K (.string (mkB ((L.drop fr).take (at' - fr)))):=fun K=>qV_of fun QP w k=>subM L fr at' h1 h2
 refine drawK_introB (w1:=w) g g (fun _ _ _ _=>rfl) ?_
 generalize hx:(⟨mkB ((L.drop fr).take (at' - fr)),sg*m⟩:TermD)=x at *
 have hx1:mkB ((L.drop fr).take (at' - fr))=x.field:=by rw [← hx]
 have hx2:sg*m=x.factor:=by rw [← hx]
 unfold n11c2
 simp (disch:=try exact DI) only [↓PR,QR,simprocAttr,(cells_of_heap h.h4).1,↓hq,hw]
 rw [hx1,hx2]
 generalize hA':World.alloc (World.drew w) _=w1
 have eA:Ext w w1:=by rw [← hA'];exact ee
 have oA:w1.heap[w.heap.size]?=some (.cells (termCells x).toArray TTm (0,0)):=by
  rw [← hA']
  have:=heap_new w.drew (termCells x).toArray TTm
  rw [World.size_drew] at this
  exact this
 have hzA:w1.heap.size=w.heap.size+1:=by rw [← hA'];simp
 clear hA'
 refine ⟨fun b hb _ _=>eA.block b hb,?_⟩
 have hA:=h.ext eA
 unfold n11c1
 refine append1_term x (b:=w.heap.size) hA.ot oA (by omega) (by omega) fun v' w' hO hgr=>?_
 have ht1:=SliceOf.oneCell (own_terms hO)
 have hb:∀ b,b < w1.heap.size→b≠g→w'.heap[b]?=w1.heap[b]?:=fun b h1 h2=>hgr.block b h1 fun e=>h2 (by rw [hgd,← e];rfl)
 have g4:=(hb p4 (by omega) n4).trans hA.h4
 refine ⟨fun b hb1 hb2 _=>(hb b (by omega) hb2).trans (eA.block b hb1),?_⟩
 simp (disch:=try exact DI) only [↓PR,QR,simprocAttr,(cells_of_heap g4).1,(cells_of_heap g4).2]
 refine turnK_intro ?_
 exact hN _ v' (hA.push hgr hO)
theorem rp_name (h:PZ w0 w p2 p4 b ts tv) (hts:ts.length≤1000) {fr at':Nat} (h1:fr≤at') (h2:at'≤L.length) {sg m:Int} (hsm : -1000000000≤sg*m∧sg*m≤1000000000) {next1:Value→World→Prop}
 (hX:(at'=fr∨4 < ts.length)→parseZ text=(0,[],6))
 (hN:¬ (at'=fr∨4 < ts.length)→∀ w' tv',PZ w0 w' p2 p4 b (ts++[⟨mkB ((L.drop fr).take (at' - fr)),sg*m⟩]) tv'→next1 (.int .i64 (at':Int)) w') :
 n11c4 (.string (mkB L)) (.pointer (some ⟨p2,0,none⟩)) (.pointer (some ⟨p4,0,none⟩)) (.int .i64 sg) (.int .i64 m) (.int .i64 (fr:Int)) (.int .i64 (at':Int)) next1 (PRt w0 text) w:=by
 obtain ⟨A,c,hv,_,_,_,_⟩:=SliceOf.open (own_terms h.ot)
 have g4:=h.h4
 rw [hv] at g4
 unfold n11c4
 by_cases he:at'=fr
 · have d1:((at':Int) == (fr:Int))=true:=by rw [he];simp
   simp (disch:=try exact DI) only [↓PR,QR,simprocAttr,d1]
   exact rp_wrong h (hX (.inl he))
 · have d1:((at':Int) == (fr:Int))=false:=by simp;omega
   by_cases hl:4 < ts.length
   · have d2:decide ((ts.length:Int) > 4)=true:=decide_eq_true (by omega)
     simp (disch:=try exact DI) only [↓PR,QR,simprocAttr,d1,(cells_of_heap g4).1,d2]
     exact rp_wrong h (hX (.inr hl))
   · have d2:decide ((ts.length:Int) > 4)=false:=decide_eq_false (by omega)
     simp (disch:=try exact DI) only [↓PR,QR,simprocAttr,d1,(cells_of_heap g4).1,d2]
     exact rp_push h hts h1 h2 hsm (hN (by simp [he,hl]))
theorem rp_word (h:PZ w0 w p2 p4 b ts tv) (hts:ts.length≤1000) (hL:L.length≤100000) {fr:Nat} (hfr:fr≤L.length) {sg m:Int} (hsm : -1000000000≤sg*m∧sg*m≤1000000000) {next1:Value→World→Prop}
 (hX:((L.drop fr).takeWhile wordB=[]∨4 < ts.length)→parseZ text=(0,[],6))
 (hN:¬ ((L.drop fr).takeWhile wordB=[]∨4 < ts.length)→∀ w' tv',PZ w0 w' p2 p4 b (ts++[⟨mkB ((L.drop fr).takeWhile wordB),sg*m⟩]) tv'→next1 (.int .i64 ((fr+((L.drop fr).takeWhile wordB).length:Nat):Int)) w') :
 loop1 (fun t3005 w next11=>n11c10 (.string (mkB L)) (.pointer (some ⟨p2,0,none⟩)) (.pointer (some ⟨p4,0,none⟩)) (.int .i64 sg) (.int .i64 m) (.int .i64 (fr:Int)) t3005 next1 next11 (PRt w0 text) w) (.int .i64 (fr:Int)) w:=by
 refine loop1_intro (fun a w'=>∃ j:Nat,a = .int .i64 ((fr+j:Nat):Int)∧fr+j≤L.length∧Ext w w'∧∀ i y,i < j→(L.drop fr)[i]?=some y→wordB y=true) (fun a _=>L.length - (intOf a).toNat) ⟨0,rfl,by omega,Ext.refl _,by intro i y h;omega⟩ ?_
 rintro _ w1 ⟨j,rfl,hj,e1,hI⟩
 have h':=h.ext e1
 have hsz:(mkB L).size=L.length:=mkB_size L
 have exit:∀ w2,Ext w1 w2→(∀ y,(L.drop fr)[j]?=some y→wordB y=false)→n11c4 (.string (mkB L)) (.pointer (some ⟨p2,0,none⟩)) (.pointer (some ⟨p4,0,none⟩)) (.int .i64 sg) (.int .i64 m) (.int .i64 (fr:Int)) (.int .i64 ((fr+j:Nat):Int)) next1 (PRt w0 text) w2:=by
  intro w2 e2 hn
  have ht:=tw_len hI hn
  have hlen:((L.drop fr).take j).length=j:=by rw [List.length_take,List.length_drop];omega
  have hnil:(L.drop fr).takeWhile wordB=[]↔fr+j=fr:=by
   rw [ht]
   constructor
   · intro hh;rw [hh] at hlen;simp at hlen;omega
   · intro hh
     have:j=0:=by omega
     rw [this];rfl
  refine rp_name (h'.ext e2) hts (by omega) hj hsm (fun hc=>hX (hc.imp hnil.2 id)) fun hc w3 tv' h3=>?_
  rw [ht,hlen] at hN
  refine hN (fun hh=>hc (hh.imp (fun h0=>hnil.1 (by rw [ht];exact h0)) id)) w3 tv' ?_
  rw [show fr+j - fr=j by omega] at h3
  exact h3
 unfold n11c10
 by_cases hlt:fr+j < L.length
 · obtain ⟨c,hc⟩:=getElem?_lt hlt
   have hcd:(L.drop fr)[j]?=some c:=by rw [List.getElem?_drop];exact hc
   have d1:decide (((fr+j:Nat):Int) < ((mkB L).size:Int))=true:=decide_eq_true (by omega)
   have hwj:IntKind.i64.wrap (((fr+j:Nat):Int)+1)=((fr+(j+1):Nat):Int):=by rw [wrap_ok (by omega) (by omega)];omega
   have ix:∀ (QP:List PanicEntry→World→Prop) (W:World) (K:Value→World→Prop),opV Pg (Instr.index 9 (.string (mkB L)) (.int .i64 ((fr+j:Nat):Int))) QP W K=K (.int .u8 c.toNat) W:=fun QP W K=>op_indexS Tryz.underlying9 (mkB L) .i64 (fr+j) (mkB_at hc)
   have more:wordB c=true→∀ w2,Ext w1 w2→(∃ j':Nat,Value.int .i64 ((fr+(j+1):Nat):Int) = .int .i64 ((fr+j':Nat):Int)∧fr+j'≤L.length∧Ext w w2∧∀ i y,i < j'→(L.drop fr)[i]?=some y→wordB y=true)∧L.length - (intOf (.int .i64 ((fr+(j+1):Nat):Int))).toNat < L.length - (intOf (.int .i64 ((fr+j:Nat):Int))).toNat:=by
    intro hw w2 e2
    refine ⟨⟨j+1,rfl,by omega,e1.trans e2,fun i y hi hy=>?_⟩,by simp only [intOf,Int.toNat_natCast];omega⟩
    by_cases hij:i=j
    · rw [hij,hcd] at hy
      injection hy with hy
      rw [← hy];exact hw
    · exact hI i y (by omega) hy
   simp (disch:=try exact DI) only [↓PR,QR,simprocAttr,d1]
   rw [ix]
   refine zcr (rletter_ret w1 c) fun w2 e2=>?_
   cases hl:letterB c with
   | true =>
    have hw:wordB c=true:=by unfold wordB;rw [hl];rfl
    simp (disch:=try exact DI) only [↓PR,QR,simprocAttr,d1,↓n11c9,↓n11c8,↓n11c7,↓n11c6,↓n11c5,hwj]
    exact more hw w2 e2
   | false =>
    simp (disch:=try exact DI) only [↓PR,QR,simprocAttr,d1,↓n11c9]
    rw [ix]
    refine zcr (rdigit_ret w2 c) fun w3 e3=>?_
    have e23:=e2.trans e3
    cases hd:digitB c with
    | true =>
     have hw:wordB c=true:=by unfold wordB;rw [hl,hd];rfl
     simp (disch:=try exact DI) only [↓PR,QR,simprocAttr,d1,↓n11c8,↓n11c7,↓n11c6,↓n11c5,hwj]
     exact more hw w3 e23
    | false =>
     simp (disch:=try exact DI) only [↓PR,QR,simprocAttr,d1,↓n11c8,↓n11c7]
     rw [ix]
     cases h95:((c.toNat:Int) == 95) with
     | true =>
      have hw:wordB c=true:=by unfold wordB;rw [hl,hd,h95];rfl
      simp (disch:=try exact DI) only [↓PR,QR,simprocAttr,d1,h95,↓n11c6,↓n11c5,hwj]
      exact more hw w3 e23
     | false =>
      have hw:wordB c=false:=by unfold wordB;rw [hl,hd,h95];rfl
      simp (disch:=try exact DI) only [↓PR,QR,simprocAttr,d1,h95,↓n11c6,↓n11c5]
      exact exit w3 e23 fun y hy=>by rw [hcd] at hy;injection hy with hy;rw [← hy];exact hw
 · have d1:decide (((fr+j:Nat):Int) < ((mkB L).size:Int))=false:=decide_eq_false (by omega)
   simp (disch:=try exact DI) only [↓PR,QR,simprocAttr,d1,↓n11c9,↓n11c8,↓n11c7,↓n11c6,↓n11c5]
   exact exit w1 (Ext.refl _) fun y hy=>by
    rw [List.getElem?_drop,List.getElem?_eq_none (by omega)] at hy
    cases hy
end
theorem digs_take:∀ {k j:Nat} {l:List UInt8},j≤k→(∀ i y,i < j→l[i]?=some y→digitB y=true)→(j < k→∀ y,l[j]?=some y→digitB y=false)→j≤l.length→digs k l=l.take j
 | 0,j,l,h,_,_,_=>by
  obtain rfl:j=0:=by omega
  rfl
 | k+1,j,[],_,_,_,h=>by
  obtain rfl:j=0:=by simpa using h
  rfl
 | k+1,0,c::l,_,_,h,_=>by
  show (if digitB c then c::digs k l else [])=[]
  rw [h (by omega) c rfl]
  rfl
 | k+1,j+1,c::l,hk,h1,h2,hl=>by
  show (if digitB c then c::digs k l else [])=c::l.take j
  rw [h1 0 c (by omega) rfl,if_pos rfl,digs_take (j:=j) (by omega) (fun i y hi hy=>h1 (i+1) y (by omega) hy) (fun hj y hy=>h2 (by omega) y hy) (by simpa using hl)]
theorem digs_len (k:Nat) (l:List UInt8):(digs k l).length≤k∧(digs k l).length≤l.length:=by
 induction k generalizing l with
 | zero=>exact ⟨Nat.le_refl _,Nat.zero_le _⟩
 | succ k ih =>
  cases l with
  | nil=>exact ⟨Nat.zero_le _,Nat.zero_le _⟩
  | cons c l =>
   have he:digs (k+1) (c::l)=if digitB c then c::digs k l else []:=rfl
   have:=ih l
   rw [he]
   split
   · simp only [List.length_cons];omega
   · simp
theorem digB_N {c:UInt8} (h:digitB c=true):48≤c.toNat∧c.toNat≤57:=by
 unfold digitB at h
 simp only [Bool.and_eq_true,decide_eq_true_eq] at h
 omega
theorem u8_sub {c:UInt8} (h:digitB c=true):IntKind.u8.wrap ((c.toNat:Int) - 48)=((c.toNat - 48:Nat):Int):=by
 obtain ⟨h1,h2⟩:=digB_N h
 have key:∀ n:Fin 10,IntKind.u8.wrap (((48+n.val:Nat):Int) - 48)=(n.val:Int):=by decide +kernel
 have:=key ⟨c.toNat - 48,by omega⟩
 simp only at this
 rw [show 48+(c.toNat - 48)=c.toNat by omega] at this
 exact this
theorem val_lt {l:List UInt8} (h:l.all digitB=true):valL l < 10 ^ l.length:=by
 refine valL_lt l ?_
 rw [List.all_eq_true] at h ⊢
 intro c hc
 have:=digB_N (h c hc)
 exact digN_iff.2 this
section
variable {w0 w:World} {p2 p4:Nat} {b:Int} {ts:List TermD} {tv:Value} {L:List UInt8} {text:ByteArray}
theorem rp_rest (h:PZ w0 w p2 p4 b ts tv) (hts:ts.length≤1000) (hL:L.length≤100000) {a1:Nat} (ha1:a1≤L.length) {sg:Int} (hsg:sg=1∨sg = -1) (hb : -1000000000000000≤b∧b≤1000000000000000) {d s2:List UInt8} (hd:d=digs 9 (L.drop a1)) (hdd:d.all digitB=true) (hs2:s2=(L.drop a1).drop d.length) {next1:Value→World→Prop} {s3:List UInt8} {m:Int} (hs3:s3=if d≠[] then s2.tail else s2) (hm:m=if d≠[] then (valL d:Int) else 1)
 (hB:d≠[]∧s2.headD 0≠42→∀ w' , PZ w0 w' p2 p4 (b+sg*(valL d:Int)) ts tv→next1 (.int .i64 ((a1+d.length:Nat):Int)) w')
 (hX:¬ (d≠[]∧s2.headD 0≠42)→(s3.takeWhile wordB=[]∨4 < ts.length)→parseZ text=(0,[],6))
 (hN:¬ (d≠[]∧s2.headD 0≠42)→¬ (s3.takeWhile wordB=[]∨4 < ts.length)→∀ w' tv' fr,L.drop fr=s3→fr≤L.length→a1≤fr→PZ w0 w' p2 p4 b (ts++[⟨mkB (s3.takeWhile wordB),sg*m⟩]) tv'→next1 (.int .i64 ((fr+(s3.takeWhile wordB).length:Nat):Int)) w') :
 n11c15 (.string (mkB L)) (.pointer (some ⟨p2,0,none⟩)) (.pointer (some ⟨p4,0,none⟩)) (.int .i64 sg) (.int .i64 (valL d:Int)) (.int .i64 (d.length:Int)) (.int .i64 ((a1+d.length:Nat):Int)) next1 (PRt w0 text) w:=by
 have hdl:=digs_len 9 (L.drop a1)
 rw [← hd] at hdl
 have hlen:(L.drop a1).length=L.length - a1:=List.length_drop
 have hv:=val_lt hdd
 have hv2:valL d < 10 ^ 9:=Nat.lt_of_lt_of_le hv (Nat.pow_le_pow_right (by decide) hdl.1)
 have hsm : -1000000000≤sg*(valL d:Int)∧sg*(valL d:Int)≤1000000000:=by
  rcases hsg with rfl | rfl<;>constructor<;>omega
 have hz:=mkB_size L
 have hs2':s2=L.drop (a1+d.length):=by rw [hs2,List.drop_drop]
 unfold n11c15
 have word:∀ (fr:Nat),L.drop fr=s3→fr≤L.length→a1≤fr→¬ (d≠[]∧s2.headD 0≠42)→loop1 (fun t3005 w next11=>n11c10 (.string (mkB L)) (.pointer (some ⟨p2,0,none⟩)) (.pointer (some ⟨p4,0,none⟩)) (.int .i64 sg) (.int .i64 m) (.int .i64 (fr:Int)) t3005 next1 next11 (PRt w0 text) w) (.int .i64 (fr:Int)) w:=by
  intro fr hfr hfl hal hc
  have hsm' : -1000000000≤sg*m∧sg*m≤1000000000:=by
   rw [hm]
   split
   · exact hsm
   · rcases hsg with rfl | rfl<;>decide
  refine rp_word h hts hL hfl hsm' (fun hh=>hX hc (by rw [hfr] at hh;exact hh)) fun hh w' tv' h'=>?_
  rw [hfr] at hh h' ⊢
  exact hN hc hh w' tv' fr hfr hfl hal h'
 by_cases hd0:d=[]
 · have hl0:d.length=0:=by rw [hd0];rfl
   have d1:decide ((d.length:Int) > 0)=false:=decide_eq_false (by omega)
   simp (disch:=try exact DI) only [↓PR,QR,simprocAttr,d1,↓n11c14,↓n11c13,↓n11c12]
   have hm1:m=1:=by rw [hm,if_neg (by simp [hd0])]
   have h3:L.drop (a1+d.length)=s3:=by rw [hs3,if_neg (by simp [hd0]),hs2']
   have:=word (a1+d.length) h3 (by omega) (by omega) (by simp [hd0])
   rw [hm1] at this
   exact this
 · have hl0:0 < d.length:=List.length_pos_iff.2 hd0
   have d1:decide ((d.length:Int) > 0)=true:=decide_eq_true (by omega)
   have hm1:m=(valL d:Int):=by rw [hm,if_pos hd0]
   have base:s2.headD 0≠42→n11c11 (.pointer (some ⟨p4,0,none⟩)) (.int .i64 sg) (.int .i64 (valL d:Int)) (.int .i64 ((a1+d.length:Nat):Int)) next1 (PRt w0 text) w:=by
    intro h42
    have hw1:IntKind.i64.wrap (sg*(valL d:Int))=sg*(valL d:Int):=wrap_ok (by omega) (by omega)
    have hw2:IntKind.i64.wrap (b+sg*(valL d:Int))=b+sg*(valL d:Int):=wrap_ok (by omega) (by omega)
    have g4:=h.h4
    unfold n11c11
    simp (disch:=try exact DI) only [↓PR,QR,simprocAttr,(cells_of_heap g4).1,(cells_of_heap g4).2,hw1,hw2]
    exact hB ⟨hd0,h42⟩ _ (h.base _)
   by_cases hend:a1+d.length=L.length
   · have h42:s2.headD 0≠42:=by
      rw [hs2',List.drop_eq_nil_of_le (by omega)]
      decide
     have d2:(((a1+d.length:Nat):Int) == ((mkB L).size:Int))=true:=by rw [hz,hend];simp
     simp (disch:=try exact DI) only [↓PR,QR,simprocAttr,d1,d2,↓n11c14,↓n11c13]
     exact base h42
   · have d2:(((a1+d.length:Nat):Int) == ((mkB L).size:Int))=false:=by rw [hz];simp;omega
     have hlt:a1+d.length < L.length:=by omega
     obtain ⟨c,hc⟩:=getElem?_lt hlt
     have hhd:s2.headD 0=c:=by
      rw [hs2',List.drop_eq_getElem_cons hlt]
      exact (List.getElem?_eq_some_iff.1 hc).2
     have ix:∀ (QP:List PanicEntry→World→Prop) (W:World) (K:Value→World→Prop),opV Pg (Instr.index 9 (.string (mkB L)) (.int .i64 ((a1+d.length:Nat):Int))) QP W K=K (.int .u8 c.toNat) W:=fun QP W K=>op_indexS Tryz.underlying9 (mkB L) .i64 (a1+d.length) (mkB_at hc)
     simp (disch:=try exact DI) only [↓PR,QR,simprocAttr,d1,d2,↓n11c14]
     rw [ix]
     by_cases h42:c=42
     · have d3:((c.toNat:Int) != 42)=false:=by rw [h42];rfl
       have hwk:IntKind.i64.wrap (((a1+d.length:Nat):Int)+1)=((a1+d.length+1:Nat):Int):=by rw [wrap_ok (by omega) (by omega)];omega
       simp (disch:=try exact DI) only [↓PR,QR,simprocAttr,d1,d2,d3,↓n11c13,↓n11c12,hwk]
       have h3:L.drop (a1+d.length+1)=s3:=by rw [hs3,if_pos hd0,hs2',List.tail_drop]
       have:=word (a1+d.length+1) h3 (by omega) (by omega) (by rw [hhd,h42];simp)
       rw [hm1] at this
       rw [hwk]
       exact this
     · have d3:((c.toNat:Int) != 42)=true:=by
        simp only [bne_iff_ne]
        intro hh
        refine h42 (UInt8.toNat_inj.1 ?_)
        show c.toNat=42
        omega
       simp (disch:=try exact DI) only [↓PR,QR,simprocAttr,d1,d2,d3,↓n11c13]
       exact base (by rw [hhd];exact h42)
theorem rp_digits (h:PZ w0 w p2 p4 b ts tv) (hL:L.length≤100000) {a1:Nat} (ha1:a1≤L.length) {sg:Int} {next1:Value→World→Prop}
 (hK:∀ w',Ext w w'→(digs 9 (L.drop a1)).all digitB=true→n11c15 (.string (mkB L)) (.pointer (some ⟨p2,0,none⟩)) (.pointer (some ⟨p4,0,none⟩)) (.int .i64 sg) (.int .i64 (valL (digs 9 (L.drop a1)):Int)) (.int .i64 ((digs 9 (L.drop a1)).length:Int)) (.int .i64 ((a1+(digs 9 (L.drop a1)).length:Nat):Int)) next1 (PRt w0 text) w') :
 loop3 (fun t1005 t7 t8 w next4=>n11c18 (.string (mkB L)) (.pointer (some ⟨p2,0,none⟩)) (.pointer (some ⟨p4,0,none⟩)) (.int .i64 sg) t7 t8 t1005 next1 next4 (PRt w0 text) w) (.int .i64 (a1:Int)) (.int .i64 0) (.int .i64 0) w:=by
 have hz:=mkB_size L
 refine loop3_intro (fun a n dg w'=>∃ j:Nat,a = .int .i64 ((a1+j:Nat):Int)∧n = .int .i64 (valL ((L.drop a1).take j):Int)∧dg = .int .i64 (j:Int)∧a1+j≤L.length∧j≤9∧Ext w w'∧∀ i y,i < j→(L.drop a1)[i]?=some y→digitB y=true) (fun a _ _ _=>L.length - (intOf a).toNat) ⟨0,rfl,rfl,rfl,by omega,by omega,Ext.refl _,by intro i y h;omega⟩ ?_
 rintro _ _ _ w1 ⟨j,rfl,rfl,rfl,hj,hj9,e1,hI⟩
 have hall:((L.drop a1).take j).all digitB=true:=by
  rw [List.all_eq_true]
  intro y hy
  obtain ⟨i,hi,rfl⟩:=List.mem_iff_getElem.1 hy
  rw [List.length_take] at hi
  rw [List.getElem_take]
  exact hI i _ (by omega) (List.getElem?_eq_getElem _)
 have hlen:((L.drop a1).take j).length=j:=by rw [List.length_take,List.length_drop];omega
 have exit:∀ w2,Ext w1 w2→(j < 9→∀ y,(L.drop a1)[j]?=some y→digitB y=false)→n11c15 (.string (mkB L)) (.pointer (some ⟨p2,0,none⟩)) (.pointer (some ⟨p4,0,none⟩)) (.int .i64 sg) (.int .i64 (valL ((L.drop a1).take j):Int)) (.int .i64 (j:Int)) (.int .i64 ((a1+j:Nat):Int)) next1 (PRt w0 text) w2:=by
  intro w2 e2 hn
  have ht:=digs_take hj9 hI hn (by rw [List.length_drop];omega)
  rw [ht,hlen] at hK
  exact hK w2 (e1.trans e2) hall
 unfold n11c18
 by_cases hlt:a1+j < L.length
 · obtain ⟨c,hc⟩:=getElem?_lt hlt
   have hcd:(L.drop a1)[j]?=some c:=by rw [List.getElem?_drop];exact hc
   have d1:decide (((a1+j:Nat):Int) < ((mkB L).size:Int))=true:=decide_eq_true (by omega)
   have hwj:IntKind.i64.wrap (((a1+j:Nat):Int)+1)=((a1+(j+1):Nat):Int):=by rw [wrap_ok (by omega) (by omega)];omega
   have hwd:IntKind.i64.wrap ((j:Int)+1)=((j+1:Nat):Int):=by rw [wrap_ok (by omega) (by omega)];omega
   have ix:∀ (QP:List PanicEntry→World→Prop) (W:World) (K:Value→World→Prop),opV Pg (Instr.index 9 (.string (mkB L)) (.int .i64 ((a1+j:Nat):Int))) QP W K=K (.int .u8 c.toNat) W:=fun QP W K=>op_indexS Tryz.underlying9 (mkB L) .i64 (a1+j) (mkB_at hc)
   simp (disch:=try exact DI) only [↓PR,QR,simprocAttr,d1]
   rw [ix]
   refine zcr (rdigit_ret w1 c) fun w2 e2=>?_
   cases hd:digitB c with
   | true =>
    by_cases h9:j < 9
    · have d2:decide ((j:Int) < 9)=true:=decide_eq_true (by omega)
      have hv:=val_lt hall
      rw [hlen] at hv
      have hv2:valL ((L.drop a1).take j) < 10 ^ 8:=Nat.lt_of_lt_of_le hv (Nat.pow_le_pow_right (by decide) (by omega))
      have hcn:=digB_N hd
      have hts:(L.drop a1).take (j+1)=(L.drop a1).take j++[c]:=take_snoc hcd
      have hw1:IntKind.i64.wrap (10*(valL ((L.drop a1).take j):Int))=10*(valL ((L.drop a1).take j):Int):=wrap_ok (by omega) (by omega)
      have hw2:IntKind.i64.wrap ((c.toNat - 48:Nat):Int)=((c.toNat - 48:Nat):Int):=wrap_ok (by omega) (by omega)
      have hw3:IntKind.i64.wrap (10*(valL ((L.drop a1).take j):Int)+((c.toNat - 48:Nat):Int))=(valL ((L.drop a1).take (j+1)):Int):=by
       rw [wrap_ok (by omega) (by omega),hts,valL_snoc]
       omega
      simp (disch:=try exact DI) only [↓PR,QR,simprocAttr,d1,d2,↓n11c17,↓n11c16,hw1]
      rw [ix]
      simp (disch:=try exact DI) only [↓PR,QR,simprocAttr,u8_sub hd,hw1,hw2,hw3,hwj,hwd]
      refine ⟨⟨j+1,rfl,rfl,rfl,by omega,by omega,e1.trans e2,fun i y hi hy=>?_⟩,by simp only [intOf,Int.toNat_natCast];omega⟩
      by_cases hij:i=j
      · rw [hij,hcd] at hy
        injection hy with hy
        rw [← hy];exact hd
      · exact hI i y (by omega) hy
    · have d2:decide ((j:Int) < 9)=false:=decide_eq_false (by omega)
      simp (disch:=try exact DI) only [↓PR,QR,simprocAttr,d1,d2,↓n11c17]
      exact exit w2 e2 fun h=>absurd h h9
   | false =>
    simp (disch:=try exact DI) only [↓PR,QR,simprocAttr,d1,↓n11c17]
    exact exit w2 e2 fun _ y hy=>by rw [hcd] at hy;injection hy with hy;rw [← hy];exact hd
 · have d1:decide (((a1+j:Nat):Int) < ((mkB L).size:Int))=false:=decide_eq_false (by omega)
   simp (disch:=try exact DI) only [↓PR,QR,simprocAttr,d1,↓n11c17]
   exact exit w1 (Ext.refl _) fun _ y hy=>by
    rw [List.getElem?_drop,List.getElem?_eq_none (by omega)] at hy
    cases hy
end
section
variable {w0 w:World} {p2 p4:Nat} {b:Int} {ts:List TermD} {tv:Value} {L:List UInt8} {text:ByteArray}
theorem rp_bad (h:PZ w0 w p2 p4 b ts tv) (hp:parseZ text=(0,[],6)):n11c21 (.pointer (some ⟨p2,0,none⟩)) (PRt w0 text) w:=rp_wrong h hp
theorem rp_end (h:PZ w0 w p2 p4 b ts tv) (hp:parseZ text=if text.data.toList≠[]∧sizeB b ts=true∧sizeT b ts=text then (b,ts,0) else (0,[],6)):n11c24 (.string text) (.pointer (some ⟨p2,0,none⟩)) (.pointer (some ⟨p4,0,none⟩)) (PRt w0 text) w:=by
 have g4:=h.h4
 have ht1:=SliceOf.oneCell (own_terms h.ot)
 have hd:decide (text=⟨#[]⟩)=decide (text.data.toList=[]):=decide_eq_decide.2 ⟨fun h=>by rw [h],fun h=>bytes_ext h⟩
 unfold n11c24
 by_cases hn:text.data.toList=[]
 · rw [if_neg (by simp [hn])] at hp
   simp (disch:=try exact DI) only [↓PR,QR,simprocAttr,hd,hn,↓n11c23]
   exact rp_bad h hp
 · have hd0:decide (text=⟨#[]⟩)=false:=by rw [hd];exact decide_eq_false hn
   simp (disch:=try exact DI) only [↓PR,QR,simprocAttr,hd0,(cells_of_heap g4).1]
   refine zcr (rSizeValid_ret w _ b ts ⟨tv,rfl,own_terms h.ot⟩) fun w1 e1=>?_
   have h1:=h.ext e1
   cases hv:sizeB b ts with
   | false =>
    rw [hv,if_neg (by simp)] at hp
    simp (disch:=try exact DI) only [↓PR,QR,simprocAttr,hd0,Bool.not_false,↓n11c23]
    exact rp_bad h1 hp
   | true =>
    simp (disch:=try exact DI) only [↓PR,QR,simprocAttr,hd0,Bool.not_true,↓n11c23,(cells_of_heap h1.h4).1]
    refine zcr (rText_ret w1 _ b ts ⟨tv,rfl,own_terms h1.ot⟩ hv) fun w2 e2=>?_
    have h2:=h1.ext e2
    by_cases he:sizeT b ts=text
    · rw [hv,if_pos ⟨hn,rfl,he⟩] at hp
      have de:(!decide (sizeT b ts=text))=false:=by simp [he]
      have q2:=h2.h2
      simp (disch:=try exact DI) only [↓PR,QR,simprocAttr,hd0,de]
      unfold n11c22
      simp (disch:=try exact DI) only [↓PR,QR,simprocAttr,(cells_of_heap h2.h4).1,(cells_of_heap q2).1,(cells_of_heap q2).2]
      rw [hp]
      have l2:=h2.l2
      have lt:=h2.lt
      refine ⟨⟨_,rfl,tv,rfl,own_terms (OwnE.keep h2.ot fun g hg=>?_)⟩,(h2.e.setCell (p:=⟨p2,0,none⟩) l2 _).setCell (p:=⟨p2,1,none⟩) l2 _⟩
      have:=(World.ownsRow.lt h2.ot g hg).1
      rw [Only.setCell _ p2 _ _ g (by omega),Only.setCell _ p2 _ _ g (by omega)]
    · rw [hv,if_neg (by simp [he])] at hp
      have de:(!decide (sizeT b ts=text))=true:=by simp [he]
      simp (disch:=try exact DI) only [↓PR,QR,simprocAttr,hd0,de]
      exact rp_bad h2 hp
theorem rp_part (h:PZ w0 w p2 p4 b ts tv) (hts:ts.length≤5) (hL:L.length≤100000) {a1:Nat} (ha1:a1≤L.length) {sg:Int} (hsg:sg=1∨sg = -1) (hb : -1000000000000000≤b∧b≤1000000000000000) {f:Nat} {next1:Value→World→Prop} {g:Option (Int×List TermD)}
 (hg:g=let d:=digs 9 (L.drop a1)
  let s2:=(L.drop a1).drop d.length
  if d≠[]∧s2.headD 0≠42 then rGo f s2 (b+sg*(valL d:Int)) ts else
  let s3:=if d≠[] then s2.tail else s2
  let m:Int:=if d≠[] then (valL d:Int) else 1
  if s3.takeWhile wordB=[]∨4 < ts.length then none else rGo f (s3.dropWhile wordB) b (ts++[⟨mkB (s3.takeWhile wordB),sg*m⟩]))
 (hX:g=none→parseZ text=(0,[],6))
 (hN:∀ at' b' ts' tv' w',a1 < at'→at'≤L.length→g=rGo f (L.drop at') b' ts'→ts'.length≤5→(b - 1000000000≤b'∧b'≤b+1000000000)→PZ w0 w' p2 p4 b' ts' tv'→next1 (.int .i64 (at':Int)) w') :
 loop3 (fun t1005 t7 t8 w next4=>n11c18 (.string (mkB L)) (.pointer (some ⟨p2,0,none⟩)) (.pointer (some ⟨p4,0,none⟩)) (.int .i64 sg) t7 t8 t1005 next1 next4 (PRt w0 text) w) (.int .i64 (a1:Int)) (.int .i64 0) (.int .i64 0) w:=by
 refine rp_digits h hL ha1 fun w1 e1 hdd=>?_
 have hdl:=digs_len 9 (L.drop a1)
 have hlen:(L.drop a1).length=L.length - a1:=List.length_drop
 have hv:=val_lt hdd
 simp only at hg
 generalize hd:digs 9 (L.drop a1)=d at *
 have hv2:valL d < 10 ^ 9:=Nat.lt_of_lt_of_le hv (Nat.pow_le_pow_right (by decide) hdl.1)
 refine rp_rest (h.ext e1) (by omega) hL ha1 hsg hb hd.symm hdd rfl rfl rfl (fun hc w' h'=>?_) (fun hc hh=>hX ?_) (fun hc hh w' tv' fr hfr hfl hal h'=>?_)
 · rw [if_pos hc] at hg
   have h0:0 < d.length:=List.length_pos_iff.2 hc.1
   refine hN _ _ _ _ w' (by omega) (by omega) (by rw [hg,List.drop_drop]) hts ?_ h'
   rcases hsg with rfl | rfl<;>constructor<;>omega
 · rw [if_neg hc,if_pos hh] at hg
   exact hg
 · rw [if_neg hc,if_neg hh] at hg
   rw [not_or] at hh
   generalize hs3:(if d≠[] then ((L.drop a1).drop d.length).tail else (L.drop a1).drop d.length)=s3 at *
   have h1:0 < (s3.takeWhile wordB).length:=List.length_pos_iff.2 hh.1
   have h2:s3.takeWhile wordB++s3.dropWhile wordB=s3:=List.takeWhile_append_dropWhile
   have h3:=congrArg List.length h2
   rw [List.length_append,← hfr,List.length_drop,hfr] at h3
   refine hN _ _ _ tv' w' (by omega) (by omega) ?_ ?_ ⟨by omega,by omega⟩ h'
   · rw [hg]
     congr 1
     rw [← List.drop_drop,hfr]
     conv=>rhs;arg 2;rw [← h2]
     rw [List.drop_left]
   · rw [List.length_append]
     show _+1≤_
     omega
end
theorem rParse_ret (w0:World) (text:ByteArray) (hz:text.size≤100000) :
 Ret Pg 25 #[.string text] w0 fun u w'=>(∃ x,u = .tuple #[x,.int .i64 (parseZ text).2.2]∧SizeVal w' x (parseZ text).1 (parseZ text).2.1)∧Ext w0 w':=by
 obtain ⟨L,rfl⟩:∃ L:List UInt8,text=mkB L:=⟨_,(mkB_to text).symm⟩
 have hLs:(mkB L).data.toList=L:=by simp [mkB]
 have hsz:L.length=(mkB L).size:=by rw [mkB_size]
 have hpe:=parse_eq (mkB L)
 unfold rparseZ at hpe
 rw [hLs] at hpe
 refine n11s (R:=retR _) ?_;unfold n11
 simp (disch:=try exact DI) only [↓PR,QR,simprocAttr]
 have hsp:(w0.alloc (Obj.cells (Value.agg #[Value.int IntKind.i64 0,Value.slice none 0 0]).cells 24)).heap.size=w0.heap.size+1:=by simp
 rw [hsp]
 have hP0:PZ w0 ((w0.alloc (.cells #[.int .i64 0,.slice none 0 0] TSz)).alloc (.cells #[.int .i64 0,.slice none 0 0] TSz)) w0.heap.size (w0.heap.size+1) 0 [] (.slice none 0 0):=by
  refine ⟨ee,?_,?_,OwnE.nil _ _ _ _ _,Nat.le_refl _,Nat.lt_succ_self _⟩
  · simp (disch:=try exact DI) only [↓PR,QR,simprocAttr]
  · have:=World.alloc_heap_new (w0.alloc (.cells #[.int .i64 0,.slice none 0 0] TSz)) (.cells #[.int .i64 0,.slice none 0 0] TSz)
    rwa [World.size_alloc] at this
 refine loop1_intro (fun a w=>∃ (k f:Nat) (b:Int) (ts:List TermD) (tv:Value),a = .int .i64 (k:Int)∧k≤L.length∧L.length≤k+f∧ts.length≤5∧(-(1000000000*(k:Int))≤b∧b≤1000000000*(k:Int))∧rGo f (L.drop k) b ts=rGo (mkB L).size L 0 []∧PZ w0 w w0.heap.size (w0.heap.size+1) b ts tv)
  (fun a _=>L.length - (intOf a).toNat) ⟨0,(mkB L).size,0,[],_,rfl,by omega,by omega,by simp,by omega,by rw [List.drop_zero],hP0⟩ ?_
 clear hP0 hsp
 rintro _ w ⟨k,f,b,ts,tv,rfl,hk,hf,hts,hb,hI,hP⟩
 generalize w0.heap.size=p2 at *
 unfold n11c26
 have hzz:(mkB L).size=L.length:=mkB_size L
 by_cases hlt:k < L.length
 · have d1:decide ((k:Int) < ((mkB L).size:Int))=true:=decide_eq_true (by omega)
   obtain ⟨c,hc⟩:=getElem?_lt hlt
   obtain ⟨f,rfl⟩:∃ f',f=f'+1:=⟨f - 1,by omega⟩
   have hdk:L.drop k=c::L.drop (k+1):=by
    rw [List.drop_eq_getElem_cons hlt]
    congr 1
    exact (List.getElem?_eq_some_iff.1 hc).2
   have ix:∀ (QP:List PanicEntry→World→Prop) (W:World) (K:Value→World→Prop),opV Pg (Instr.index 9 (.string (mkB L)) (.int .i64 (k:Int))) QP W K=K (.int .u8 c.toNat) W:=fun QP W K=>op_indexS Tryz.underlying9 (mkB L) .i64 k (mkB_at hc)
   have hwk:IntKind.i64.wrap ((k:Int)+1)=((k+1:Nat):Int):=by rw [wrap_ok (by omega) (by omega)];omega
   have hgo:rGo (f+1) (L.drop k) b ts=(let s:=if signB c then L.drop (k+1) else L.drop k
    let sg:Int:=if c=45 then -1 else 1
    let d:=digs 9 s
    let s2:=s.drop d.length
    if d≠[]∧s2.headD 0≠42 then rGo f s2 (b+sg*(valL d:Int)) ts else
    let s3:=if d≠[] then s2.tail else s2
    let m:Int:=if d≠[] then (valL d:Int) else 1
    if s3.takeWhile wordB=[]∨4 < ts.length then none else rGo f (s3.dropWhile wordB) b (ts++[⟨mkB (s3.takeWhile wordB),sg*m⟩])):=by
    rw [hdk]
    rfl
   rw [hI] at hgo
   have part:∀ (a1:Nat) (sg:Int) (next1:Value→World→Prop),a1=(if signB c then k+1 else k)→sg=(if c=45 then -1 else 1) →
    (∀ (k' f':Nat) (b':Int) (ts':List TermD) (tv':Value) (w':World),k < k'→k'≤L.length→L.length≤k'+f'→ts'.length≤5→(-(1000000000*(k':Int))≤b'∧b'≤1000000000*(k':Int))→rGo f' (L.drop k') b' ts'=rGo (mkB L).size L 0 []→PZ w0 w' p2 (p2+1) b' ts' tv'→next1 (.int .i64 (k':Int)) w') →
    loop3 (fun t1005 t7 t8 w next4=>n11c18 (.string (mkB L)) (.pointer (some ⟨p2,0,none⟩)) (.pointer (some ⟨p2+1,0,none⟩)) (.int .i64 sg) t7 t8 t1005 next1 next4 (PRt w0 (mkB L)) w) (.int .i64 (a1:Int)) (.int .i64 0) (.int .i64 0) w:=by
    intro a1 sg next1 ha hsg hnext
    have ha1:a1≤L.length∧k≤a1:=by rw [ha];split<;>omega
    have hs:(if signB c then L.drop (k+1) else L.drop k)=L.drop a1:=by rw [ha];split<;>rfl
    rw [hs,← hsg] at hgo
    have hb' : -1000000000000000≤b∧b≤1000000000000000:=by omega
    refine rp_part hP hts (by omega) ha1.1 (by rw [hsg];split<;>simp) hb' hgo (fun hn=>by rw [hpe,hn]) fun at' b' ts' tv' w' h1 h2 h3 h4 h5 h6=>?_
    exact hnext at' f b' ts' tv' w' (by omega) h2 (by omega) h4 (by omega) h3.symm h6
   have hnx:∀ (k' f':Nat) (b':Int) (ts':List TermD) (tv':Value) (w':World),k < k'→k'≤L.length→L.length≤k'+f'→ts'.length≤5→(-(1000000000*(k':Int))≤b'∧b'≤1000000000*(k':Int))→rGo f' (L.drop k') b' ts'=rGo (mkB L).size L 0 []→PZ w0 w' p2 (p2+1) b' ts' tv'→(∃ (k f:Nat) (b:Int) (ts:List TermD) (tv:Value),Value.int .i64 (k':Int) = .int .i64 (k:Int)∧k≤L.length∧L.length≤k+f∧ts.length≤5∧(-(1000000000*(k:Int))≤b∧b≤1000000000*(k:Int))∧rGo f (L.drop k) b ts=rGo (mkB L).size L 0 []∧PZ w0 w' p2 (p2+1) b ts tv)∧L.length - (intOf (.int .i64 (k':Int))).toNat < L.length - (intOf (.int .i64 (k:Int))).toNat :=
    fun k' f' b' ts' tv' w' h1 h2 h3 h4 h5 h6 h7=>⟨⟨k',f',b',ts',tv',rfl,h2,h3,h4,h5,h6,h7⟩,by simp only [intOf,Int.toNat_natCast];omega⟩
   simp (disch:=try exact DI) only [↓PR,QR,simprocAttr,d1]
   unfold n11c25
   rw [ix]
   have hne:∀ n:UInt8,c≠n→((c.toNat:Int) == (n.toNat:Int))=false:=fun n h=>by
    simp only [beq_eq_false_iff_ne]
    intro hh
    exact h (UInt8.toNat_inj.1 (by omega))
   by_cases h45:c=45
   · have d2:((c.toNat:Int) == 45)=true:=by rw [h45];rfl
     simp (disch:=try exact DI) only [↓PR,QR,simprocAttr,d2,↓n11c20,↓n11c19]
     rw [ix]
     simp (disch:=try exact DI) only [↓PR,QR,simprocAttr,d2,hwk]
     refine part (k+1) (-1) _ (by rw [h45];rfl) (by rw [if_pos h45]) hnx
   · have d2:((c.toNat:Int) == 45)=false:=hne 45 h45
     simp (disch:=try exact DI) only [↓PR,QR,simprocAttr,d2]
     rw [ix]
     by_cases h43:c=43
     · have d3:((c.toNat:Int) == 43)=true:=by rw [h43];rfl
       simp (disch:=try exact DI) only [↓PR,QR,simprocAttr,d2,d3,↓n11c20,↓n11c19]
       rw [ix]
       simp (disch:=try exact DI) only [↓PR,QR,simprocAttr,d2,hwk]
       refine part (k+1) 1 _ (by rw [h43];rfl) (by rw [if_neg h45]) hnx
     · have d3:((c.toNat:Int) == 43)=false:=hne 43 h43
       have hs:signB c=false:=by unfold signB;simp [h43,h45]
       simp (disch:=try exact DI) only [↓PR,QR,simprocAttr,d2,d3,↓n11c20]
       refine part k 1 _ (by rw [hs];rfl) (by rw [if_neg h45]) hnx
 · obtain rfl:k=L.length:=by omega
   have d1:decide ((L.length:Int) < ((mkB L).size:Int))=false:=decide_eq_false (by omega)
   simp (disch:=try exact DI) only [↓PR,QR,simprocAttr,d1]
   refine rp_end hP ?_
   rw [List.drop_length,rGo_nil] at hI
   rw [hpe,← hI,hLs]
theorem SizeTexts_ret (w0:World) (v:Value) (base:Int) (ts:List TermD) (text:ByteArray) (hs:SizeVal w0 v base ts) (hE:EnvOK w0) :
 Ret Pg 6 #[v,.string text] w0 fun r w'=>r = .bool true∧Ext w0 w':=by
 obtain ⟨tv,rfl,hT⟩:=hs
 have h1:=SliceOf.oneCell hT
 obtain ⟨A,c,rfl,_,_,_,_⟩:=SliceOf.open hT
 refine n3s (R:=retR _) ?_;unfold n3
 simp (disch:=try exact DI) only [↓PR,QR,simprocAttr]
 have e0:Ext w0 (w0.alloc (.cells #[.int .i64 base,.slice A ts.length c] TSz)):=(Ext.refl _).alloc _
 have o2:=heap_new w0 #[.int .i64 base,.slice A ts.length c] TSz
 have known:∀ W,Ext w0 W→callK Pg 9 #[] (panK (retR fun r w'=>r = .bool true∧Ext w0 w')) W fun t24 w=>(retR fun r w'=>r = .bool true∧Ext w0 w') (.returned t24) w:=by
  intro W e
  refine zcr (known_ret (hE.ext e)) fun w1 e1=>?_
  exact ⟨_,rfl,rfl,e.trans e1⟩
 by_cases g1:ts.length > 10
 · have d1:decide ((ts.length:Int) > 10)=true:=decide_eq_true (by omega)
   simp (disch:=try exact DI) only [↓PR,QR,simprocAttr,(cells_of_heap o2).1,d1,↓n3c10]
   exact known _ e0
 have d1:decide ((ts.length:Int) > 10)=false:=decide_eq_false (by omega)
 by_cases g2:text.size > 200
 · have d2:decide ((text.size:Int) > 200)=true:=decide_eq_true (by omega)
   simp (disch:=try exact DI) only [↓PR,QR,simprocAttr,(cells_of_heap o2).1,d1,d2,↓n3c10]
   exact known _ e0
 have d2:decide ((text.size:Int) > 200)=false:=decide_eq_false (by omega)
 simp (disch:=try exact DI) only [↓PR,QR,simprocAttr,(cells_of_heap o2).1,d1,d2,↓n3c10]
 change callK _ _ _ _ (w0.alloc (.cells #[.int .i64 base,.slice A ts.length c] TSz)) _
 generalize w0.alloc (.cells #[.int .i64 base,.slice A ts.length c] TSz)=W at *
 refine zcr (Text_ret (hE.tab.ext e0) _ base ts ⟨_,rfl,TermsOf.ext hT e0⟩) fun w1 e1=>?_
 have e01:=e0.trans e1
 generalize htx:(if sizeB base ts then sizeT base ts else ⟨#[]⟩)=tx at *
 generalize hte:(if sizeB base ts then (0:Int) else 2)=te at *
 unfold n3c9
 simp (disch:=try exact DI) only [↓PR,QR,simprocAttr]
 refine callK_ret (Parse_ret (hE.ext e01) text (by omega)) ?_
 rintro _ w2 ⟨⟨_,rfl,x,rfl,hx⟩,e2⟩
 have e02:=e01.trans e2
 have hx1:=SliceOf.oneCell hx
 generalize hq:parseZ text=q at *
 unfold n3c8
 have eA:Ext w2 (w2.alloc (.cells #[.int .i64 q.1,x] TSz)):=(Ext.refl _).alloc _
 have oA:=heap_new w2 #[.int .i64 q.1,x] TSz
 simp (disch:=try exact DI) only [↓PR,QR,simprocAttr]
 have hxA:=TermsOf.ext hx eA
 have e03:=e02.trans eA
 have o3:=((e1.trans e2).trans eA).obj o2
 change callK _ _ _ _ (w2.alloc (.cells #[.int .i64 q.1,x] TSz)) _
 generalize w2.alloc (.cells #[.int .i64 q.1,x] TSz)=w3 at *
 generalize w2.heap.size=p7 at *
 refine callK_ret (rParse_ret w3 text (by omega)) ?_
 rintro _ w4 ⟨⟨_,rfl,y,rfl,hy⟩,e4⟩
 rw [hq] at hy ⊢
 have hy1:=SliceOf.oneCell hy
 unfold n3c7
 have eB:Ext w4 (w4.alloc (.cells #[.int .i64 q.1,y] TSz)):=(Ext.refl _).alloc _
 have oB:=heap_new w4 #[.int .i64 q.1,y] TSz
 have hyB:=TermsOf.ext hy eB
 have e34:=e4.trans eB
 have oA4:=e34.obj oA
 have o4:=e34.obj o3
 have hxB:=TermsOf.ext hxA e34
 have e04:=e03.trans e34
 have d0:(q.2.2 != q.2.2)=false:=by simp
 simp (disch:=try exact DI) only [↓PR,QR,simprocAttr,d0,(cells_of_heap oA4).1,(cells_of_heap oB).1]
 change callK _ _ _ _ (w4.alloc (.cells #[.int .i64 q.1,y] TSz)) _
 generalize w4.alloc (.cells #[.int .i64 q.1,y] TSz)=w5 at *
 refine zcr (rSame_ret w5 _ _ q.1 q.1 q.2.1 q.2.1 ⟨x,rfl,hxB⟩ ⟨y,rfl,hyB⟩) fun w6 e6=>?_
 have dd:decide (q.1=q.1∧q.2.1=q.2.1)=true:=decide_eq_true ⟨rfl,rfl⟩
 have o6:=e6.obj o4
 have e06:=e04.trans e6
 rw [dd]
 simp (disch:=try exact DI) only [↓PR,QR,simprocAttr,d0,Bool.not_true,↓n3c6,(cells_of_heap o6).1]
 refine zcr (rSizeValid_ret w6 _ base ts ⟨_,rfl,TermsOf.ext hT e06⟩) fun w7 e7=>?_
 have o7:=e7.obj o6
 have e07:=e06.trans e7
 unfold n3c5
 cases hv:sizeB base ts with
 | false =>
  rw [hv] at htx hte
  have htx':tx=⟨#[]⟩:=htx.symm
  have hte':te=2:=hte.symm
  subst htx' hte'
  have t1:decide ((⟨#[]⟩:ByteArray)=⟨#[]⟩)=true:=decide_eq_true rfl
  simp (disch:=try exact DI) only [↓PR,QR,simprocAttr,Bool.not_false,↓n3c4,↓n3c1]
  refine zcr (known_ret (hE.ext e07)) fun w8 e8=>?_
  simp (disch:=try exact DI) only [↓PR,QR,simprocAttr]
  exact ⟨trivial,e07.trans e8⟩
 | true =>
  rw [hv] at htx hte
  have htx':tx=sizeT base ts:=htx.symm
  have hte':te=0:=hte.symm
  subst htx' hte'
  simp (disch:=try exact DI) only [↓PR,QR,simprocAttr,Bool.not_true,(cells_of_heap o7).1]
  refine zcr (rText_ret w7 _ base ts ⟨_,rfl,TermsOf.ext hT e07⟩ hv) fun w8 e8=>?_
  have e08:=e07.trans e8
  have t1:decide (sizeT base ts=sizeT base ts)=true:=decide_eq_true rfl
  unfold n3c3
  simp (disch:=try exact DI) only [↓PR,QR,simprocAttr,t1,↓n3c2]
  refine zcr (known_ret (hE.ext e08)) fun w9 e9=>?_
  simp (disch:=try exact DI) only [↓PR,QR,simprocAttr]
  exact ⟨trivial,e08.trans e9⟩
end Go.Proofs.YtpgkjhikdhdffaaGreatDoor
namespace Go.Proofs.YtpgkjhikdhdffaaGreatDoor
open Sw
open Go.RowKit Go.Deep
theorem SizeTexts_at (W:World) (v0:Value) (f0:Int×List TermD) (s:ByteArray) (h0:SizeVal W v0 f0.1 f0.2) (_:True) (hE:EnvOK W):Ret Pg 6 #[v0,.string s] W fun r w'=>r = .bool true∧Ext W w':=SizeTexts_ret W v0 f0.1 f0.2 s h0 hE
end Go.Proofs.YtpgkjhikdhdffaaGreatDoor
namespace Go.Proofs.YtpgkjhikdhdffaaGreatDoor
open Sw
open Go.ChangeShapes Go.WideShapes Go.RowKit Go.ChangeAt Go.Deep
theorem ztexts_lifted (os:Os) (started:os.Started) (H:Type) (enc:TypeId×Value→H) :
 ReturnsInHanded {} Tryz.checked os 6 .any (fun w args=>(Rows.sizeTextsSpec.pre enc Pg Tryz.f6 Rows.sizeTextsRow.domain false w args∧laidMetH Pg role_laid w)∧sizedMet enc Pg Tryz.f6 (OpenSpec.ofChange Rows.sizeTextsSpec) false w args) (Rows.sizeTextsSpec.post enc Pg Tryz.f6 false true false false):=by
 refine handed_and (C:=Tryz.checked) (X:=fun w _=>laidMetH Pg role_laid w) (fun _ _ _ hh h=>h.of_heap hh) role_own started (by kernel_rfl) Tryz.func6
  (ChangeSpec.witness_shaped (enc:=enc) (C:=Tryz.checked) (os:=os) (X:=fun w _=>laidMetH Pg role_laid w) false (World.laidAll Pg os role_laid) #[.agg #[.int .i64 0,.slice none 0 0],.string ByteArray.empty] 8 (World.laidAll_os _ _ _) (World.shaped_of_ZipB (by kernel_rfl) (by kernel_rfl)) (by kernel_rfl) (by kernel_rfl) (by kernel_rfl) (role_met os _)) ?_
 intro W base args ds gs before hval hW _ hsz hL hsh _
 have hW':=hW
 obtain ⟨p,q,hA0,hV,rfl,_,_⟩:=hW
 have hA:DataW.TrodAll enc Pg W 0 (fun _=>true) true Tryz.f6.params.toList args.toList ds p:=hA0
 rw [Tryz.params6] at hA hval hsz
 obtain ⟨v0,vs0,d0,ds0,p0,q0,ha0,rfl,rfl,h0,r0⟩:=trodAll_cons hA
 obtain ⟨v1,vs1,d1,ds1,p1,q1,ha1,rfl,rfl,h1,r1⟩:=trodAll_cons r0
 obtain ⟨rfl,rfl,rfl⟩:=trodAll_nil r1
 subst ha1
 obtain rfl:args = #[v0,v1]:=by cases args;simp_all
 obtain ⟨f0,hf0,hs0⟩:=siz_val (hval 0 _ v0 rfl rfl) h0 (reached_of (j:=0) hsz rfl rfl)
 obtain ⟨s1,rfl,_⟩:=open_str Tryz.underlying9 (hval 1 _ v1 rfl rfl) h1
 refine Calls.mono (SizeTexts_at W v0 f0 s1 hf0 hs0 (role_env hsh hL)) fun e W' ⟨v,he,hv,hx⟩=>?_
 subst he hv
 exact ⟨_,rfl,law_post role_laidOut (by decide +kernel) rfl hW' hx rfl Tryz.underlying4 rfl rfl rfl⟩
theorem ztexts_holds:Rows.SizeTextsSaid :=
 OpenClaim.holds_of_wide 6 Tryz.f6 rfl rfl rfl rfl rfl rfl rfl ⟨rfl,rfl,rfl,rfl,rfl⟩ rfl rfl rfl rfl rfl (by kernel_rfl) Tryz.func6 (by kernel_rfl)
  (of_decide_eq_true (by kernel_rfl)) (by unfold Func.isWrapper;first | (rw [if_pos (by decide +kernel)];kernel_rfl) | (rw [if_neg (by decide +kernel)];exact ⟨rfl,rfl⟩))
  (fun os started H enc _=>ztexts_lifted os started H enc)
theorem ztexts_card:Rows.SizeTextsCardSaid :=
 Claim7.holds_tied_plain_at .later [] [.data,.data,.data,.sentinel,.sentinel] true (true, "b28e11fa6ee41b26e56fb3f3301f1cebdb04d4d8f758d2c888fe09ee37c1016c") true
  ztexts_holds (fun _ h=>by cases h) (by kernel_rfl) (fun _ h=>by cases h) sizeTexts_row_tie rfl ⟨rfl,rfl⟩ (by kernel_rfl) rfl
  (fun f fn hf hfn=>by
   obtain rfl:f=6:=Option.some.inj ((show Pg.funcNamed "phrasebook/phrasebooklaw04.SizeTexts" = some 6 by kernel_rfl).symm.trans hf) |>.symm
   obtain rfl:fn=Tryz.f6:=(Option.some.inj (Tryz.func6.symm.trans hfn)).symm
   exact ⟨by kernel_rfl,fun j t ht=>by
    rw [Tryz.params6] at ht
    have hm:t∈[24,9]:=by simpa using Array.mem_of_getElem? ht
    have hall:([24,9].all fun u=>!Pg.wantsStandIn u)=true:=by kernel_rfl
    exact (show Pg.wantsStandIn t=false by simpa using List.all_eq_true.1 hall t hm)⟩)
  (by kernel_rfl)
end Go.Proofs.YtpgkjhikdhdffaaGreatDoor
