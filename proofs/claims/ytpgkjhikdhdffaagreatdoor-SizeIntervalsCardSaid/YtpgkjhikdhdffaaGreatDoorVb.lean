/-
  phrasebooklaw04.SizeIntervals returns true for every size and all ranges, and leaves its arguments as they were; no condition is asked but that the tables of the library lie as the program lays them (the card ties them).
-/
import Derived.Test.YtpgkjhikdhdffaaGreatDoorVb3
set_option linter.all false
set_option maxHeartbeats 4000000
set_option maxRecDepth 100000
namespace Go.Proofs.YtpgkjhikdhdffaaGreatDoor
open Sw
open Go.RowKit (intOf Below)
section
variable {QP:List PanicEntry→World→Prop} {k:Value→World→Prop} {w:World}
theorem subF (l:List UInt8) (a:Nat) (h:a≤l.length):opV Pg (Instr.sliceAt 9 (.string (mkB l)) (some (.int .i64 (a:Int))) none none) QP w k=k (.string (mkB (l.drop a))) w:=op_subF Tryz.underlying9 l a h
theorem subH (l:List UInt8) (a:Nat) (h:a≤l.length):opV Pg (Instr.sliceAt 9 (.string (mkB l)) none (some (.int .i64 (a:Int))) none) QP w k=k (.string (mkB (l.take a))) w:=op_subH Tryz.underlying9 l a h
theorem subM (l:List UInt8) (a b:Nat) (h:a≤b) (h2:b≤l.length):opV Pg (Instr.sliceAt 9 (.string (mkB l)) (some (.int .i64 (a:Int))) (some (.int .i64 (b:Int))) none) QP w k=k (.string (mkB ((l.drop a).take (b - a)))) w:=op_subM Tryz.underlying9 l a b h h2
end
theorem parse_round {w0 w:World} {p2 p4:Nat} {b:Int} {ts:List TermD} {tv:Value} {text:ByteArray} {l:List UInt8} {f:Nat} {K1:World→Prop} {next:Value→World→Prop} (hE:EnvOK w0) (h:PZ w0 w p2 p4 b ts tv) (hts:ts.length≤1048576) (ha:AsciiL l) (hl:l.length≤100000)
 (hK:pGo (f+1) l b ts=some (b,ts)→∀ w',PZ w0 w' p2 p4 b ts tv→K1 w') (hX:pGo (f+1) l b ts=none→parseZ text=(0,[],6))
 (hN:∀ l' b' ts' tv' w',l'.length < l.length→AsciiL l'→pGo (f+1) l b ts=pGo f l' b' ts'→ts'.length≤ts.length+1→PZ w0 w' p2 p4 b' ts' tv'→next (.string (mkB l')) w') :
 n33c15 (.pointer (some ⟨p2,0,none⟩)) (.pointer (some ⟨p4,0,none⟩)) (.string (mkB l)) K1 next (PRt w0 text) w:=by
 have hp:pGo (f+1) l b ts=if l=[] then some (b,ts) else if l.all signB=true∨1 < (l.takeWhile signB).length then some (b,ts) else
  match onePart (l.takeWhile signB) ((l.dropWhile signB).takeWhile fun c=>!signB c) with
  | none=>none
  | some q=>if q.2=[] then pGo f ((l.dropWhile signB).dropWhile fun c=>!signB c) (IntKind.i64.wrap (b+q.1)) ts else pGo f ((l.dropWhile signB).dropWhile fun c=>!signB c) b (ts++[⟨mkB q.2,q.1⟩]):=rfl
 unfold n33c15
 have hd:decide (mkB l=⟨#[]⟩)=decide (l=[]):=decide_eq_decide.2 ⟨fun h=>mkB_inj (b:=[]) h,fun h=>by rw [h];rfl⟩
 by_cases hl0:l=[]
 · rw [if_pos hl0] at hp
   simp (disch:=try exact DI) only [↓PR,QR,simprocAttr,hd,hl0]
   exact hK hp _ h
 · rw [if_neg hl0] at hp
   have hd0:decide (mkB l=⟨#[]⟩)=false:=by rw [hd];exact decide_eq_false hl0
   simp (disch:=try exact DI) only [↓PR,QR,simprocAttr,hd0]
   refine zcr (Signs_ret w (mkB l)) fun w1 e1=>?_
   have h1:=h.ext e1
   rw [show (mkB l).data.toList=l by simp [mkB]]
   by_cases hall:l.all signB=true
   · rw [if_pos (.inl hall)] at hp
     rw [if_pos hall]
     simp (disch:=try exact DI) only [↓PR,QR,simprocAttr,↓n33c14]
     exact hK hp _ h1
   rw [if_neg hall]
   by_cases hone:1 < (l.takeWhile signB).length
   · rw [if_pos (.inr hone)] at hp
     have g0:decide (((l.takeWhile signB).length:Int) < 0)=false:=by simp
     have g1:decide (((l.takeWhile signB).length:Int) > 1)=true:=decide_eq_true (by omega)
     have g1':decide (1 < ((l.takeWhile signB).length:Int))=true:=decide_eq_true (by omega)
     simp (disch:=try exact DI) only [↓PR,QR,simprocAttr,↓n33c14,g0,g1,g1']
     exact hK hp _ h1
   rw [if_neg (by simp only [hall,hone,or_self];simp)] at hp
   have hSD:l.takeWhile signB++l.dropWhile signB=l:=List.takeWhile_append_dropWhile
   have hpr:(l.dropWhile signB).takeWhile (fun c=>!signB c)++(l.dropWhile signB).dropWhile (fun c=>!signB c)=l.dropWhile signB:=List.takeWhile_append_dropWhile
   have hD0:l.dropWhile signB≠[]:=by
    intro h0
    rw [h0,List.append_nil] at hSD
    refine hall ?_
    rw [← hSD]
    exact List.all_takeWhile
   have hp0:(l.dropWhile signB).takeWhile (fun c=>!signB c)≠[]:=by
    obtain ⟨c,D',hc⟩:=List.exists_cons_of_ne_nil hD0
    have hcs:signB c=false:=by
     have:=List.head_dropWhile_not signB hD0
     simp only [hc,List.head_cons] at this
     simpa using this
    rw [hc,List.takeWhile_cons,hcs]
    simp
   generalize l.takeWhile signB=S at *
   generalize l.dropWhile signB=D at *
   have d1:l.drop S.length=D:=by rw [← hSD,List.drop_left]
   have t1:l.take S.length=S:=by rw [← hSD,List.take_left]
   have lenl:l.length=S.length+D.length:=by rw [← hSD,List.length_append]
   have aD:AsciiL D:=fun c hc=>ha c (by rw [← hSD];exact List.mem_append_right _ hc)
   have g0:decide ((S.length:Int) < 0)=false:=by simp
   have g1:decide ((S.length:Int) > 1)=false:=by simp;omega
   have g1':decide (1 < (S.length:Int))=false:=by simp;omega
   have i1:Szb (mkB D) 100000:=⟨by rw [mkB_size];omega⟩
   simp (disch:=try exact DI) only [↓PR,QR,simprocAttr,↓n33c14,g0,g1,g1']
   unfold n33c13
   rw [subF l S.length (by omega),d1,op_saddB _ _ _ _ rfl,show mkB D++⟨#[43]⟩=mkB (D++[43]) from mkB_app D [43]]
   refine zcr (Next_ret w1 D aD (by omega)) fun w2 e2=>?_
   have h2:=h1.ext e2
   generalize (D.takeWhile fun c=>!signB c)=p at *
   generalize (D.dropWhile fun c=>!signB c)=r at *
   have lenD:D.length=p.length+r.length:=by rw [← hpr,List.length_append]
   have d2:l.drop (S.length+p.length)=r:=by rw [← hSD,← hpr,← List.append_assoc,← List.length_append,List.drop_left]
   have d3:(l.drop S.length).take (S.length+p.length - S.length)=p:=by rw [d1,← hpr,Nat.add_sub_cancel_left,List.take_left]
   have ar:AsciiL r:=fun c hc=>aD c (by rw [← hpr];exact List.mem_append_right _ hc)
   rw [op_add]
   refine drawK_intro ?_
   have hw:IntKind.i64.wrap ((S.length:Int)+(p.length:Int))=((S.length+p.length:Nat):Int):=by
    rw [wrap_ok (by omega) (by omega)]
    omega
   have hq1:∀ K:Value→Prop,qV Pg (EC (drew w2)) (Instr.sliceAt 9 (.string (mkB l)) none (some (.int .i64 (S.length:Int))) none) K=K (.string (mkB S)):=fun K=>qV_of fun QP w k=>(subH l S.length (by omega)).trans (by rw [t1])
   have hq2:∀ K:Value→Prop,qV Pg (EC (drew w2)) (Instr.sliceAt 9 (.string (mkB l)) (some (.int .i64 (S.length:Int))) (some (.int .i64 ((S.length+p.length:Nat):Int))) none) K=K (.string (mkB p)):=fun K=>qV_of fun QP w k=>(subM l S.length (S.length+p.length) (by omega) (by omega)).trans (by rw [d3])
   unfold n33c12
   rw [hw,hq1,hq2,subF l (S.length+p.length) (by omega),d2]
   have h3:=h2.ext ((Ext.refl w2).drew)
   have hp1:p.length≤100000:=by omega
   refine zcr (CutStar_ret (hE.ext h3.e) p hp1) fun w3 e3=>?_
   have h4:=h3.ext e3
   have final:∀ (F Nm:List UInt8) (w':World),PZ w0 w' p2 p4 b ts tv→F.length≤100000→((p.all starF=true→digitB (p.headD 0)=false→F=[49]∧Nm=p)∧(¬ (p.all starF=true∧digitB (p.headD 0)=false)→F=p.takeWhile starF∧Nm=(p.dropWhile starF).tail)) →
    callK Pg 67 #[.string (mkB F)] (panK (PRt w0 text)) w' fun t62 w=>n33c9 (.pointer (some ⟨p2,0,none⟩)) (.pointer (some ⟨p4,0,none⟩)) (.string (mkB F)) (.string (mkB Nm)) (.string (mkB S)) (.string (mkB r)) t62 next (PRt w0 text) w:=by
    intro F Nm w' h' hF hc
    refine parse_tail (q:=onePart S p) hE h' hts hF (one_part S p F Nm hc) (fun hn=>hX (by rw [hp,hn])) (fun n hn w'' tv' h''=>?_)
    rw [hn] at hp
    simp only at hp
    have hrl:r.length < l.length:=by
     have:p.length≠0:=fun h=>hp0 (List.eq_nil_of_length_eq_zero h)
     omega
    refine hN r _ _ tv' w'' hrl ar ?_ ?_ h''
    · rw [hp]
      by_cases hz:Nm=[]<;>simp only [hz,if_true,if_false]
    · split
      · omega
      · simp
   obtain ⟨c,p',rfl⟩:=List.exists_cons_of_ne_nil hp0
   have hidx:(mkB (c::p')).data.toList[0]?=some c:=by simp [mkB]
   by_cases hs:(c::p').all starF=true
   · rw [if_pos hs]
     simp (disch:=try exact DI) only [↓PR,QR,simprocAttr,↓n33c11]
     rw [op_indexS0 Tryz.underlying9 (mkB (c::p')) .i64 hidx]
     refine zcr (digit_ret _ c) fun w4 e4=>?_
     have h5:=h4.ext e4
     cases hdg:digitB c with
     | true =>
      simp (disch:=try exact DI) only [↓PR,QR,simprocAttr,↓n33c10]
      obtain ⟨k1,k2⟩:=take_all (p:=starF) (a:=c::p') (b:=[]) hs (fun c hc=>by cases hc)
      rw [List.append_nil] at k1 k2
      exact final (c::p') [] w4 h5 hp1 ⟨fun _ h=>(by rw [List.headD_cons,hdg] at h;cases h),fun _=>⟨k1.symm,(by rw [k2];rfl)⟩⟩
     | false =>
      simp (disch:=try exact DI) only [↓PR,QR,simprocAttr,↓n33c10]
      exact final [49] (c::p') w4 h5 (by decide) ⟨fun _ _=>⟨rfl,rfl⟩,fun h=>absurd ⟨hs,hdg⟩ h⟩
   · rw [if_neg hs]
     simp (disch:=try exact DI) only [↓PR,QR,simprocAttr,↓n33c11,↓n33c10]
     exact final _ _ w3 h4 (Nat.le_trans (List.takeWhile_sublist _).length_le hp1) ⟨fun h=>absurd h hs,fun _=>⟨rfl,rfl⟩⟩
theorem Parse_ret {w0:World} (hE:EnvOK w0) (text:ByteArray) (ha:AsciiL text.data.toList) (hz:text.size≤100000) :
 Ret Pg 24 #[.string text] w0 fun u w'=>(∃ x,u = .tuple #[x,.int .i64 (parseZ text).2.2]∧SizeVal w' x (parseZ text).1 (parseZ text).2.1)∧Ext w0 w':=by
 have hsz:text.data.toList.length=text.size:=by rw [Array.length_toList];rfl
 refine n33s (R:=retR _) ?_;unfold n33
 simp (disch:=try exact DI) only [↓PR,QR,simprocAttr]
 have hsp:(w0.alloc (Obj.cells (Value.agg #[Value.int IntKind.i64 0,Value.slice none 0 0]).cells 24)).heap.size=w0.heap.size+1:=by simp
 rw [hsp]
 have hP0:PZ w0 ((w0.alloc (.cells #[.int .i64 0,.slice none 0 0] TSz)).alloc (.cells #[.int .i64 0,.slice none 0 0] TSz)) w0.heap.size (w0.heap.size+1) 0 [] (.slice none 0 0):=by
  refine ⟨ee,?_,?_,OwnE.nil _ _ _ _ _,Nat.le_refl _,Nat.lt_succ_self _⟩
  · simp (disch:=try exact DI) only [↓PR,QR,simprocAttr]
  · have:=World.alloc_heap_new (w0.alloc (.cells #[.int .i64 0,.slice none 0 0] TSz)) (.cells #[.int .i64 0,.slice none 0 0] TSz)
    rwa [World.size_alloc] at this
 refine loop1_intro (fun v w=>∃ (f:Nat) (l:List UInt8) (b:Int) (ts:List TermD) (tv:Value),v = .string (mkB l)∧l.length≤f∧AsciiL l∧l.length≤text.size∧ts.length+l.length≤text.size∧pGo f l b ts=pGo text.size text.data.toList 0 []∧PZ w0 w w0.heap.size (w0.heap.size+1) b ts tv)
  (fun v _=>match v with | .string s=>s.size | _=>0) ⟨text.size,text.data.toList,0,[],_,by rw [mkB_to],by omega,ha,by omega,by simp,rfl,hP0⟩ ?_
 rintro _ w ⟨f,l,b,ts,tv,rfl,hlf,hal,hlt,htl,hI,hP⟩
 have hf:∃ f',pGo (f'+1) l b ts=pGo f l b ts∧l.length≤f'+1:=by
  cases f with
  | zero =>
   have:l=[]:=List.eq_nil_of_length_eq_zero (by omega)
   subst this
   exact ⟨0,by rw [pGo_nil,pGo_nil],by simp⟩
  | succ f=>exact ⟨f,rfl,hlf⟩
 obtain ⟨f',hf1,hf2⟩:=hf
 refine parse_round (f:=f') hE hP (by omega) hal (by omega) (fun hk w' hP'=>?_) (fun hx=>?_) (fun l' b' ts' tv' w' hll hal' hgo htl' hP'=>?_)
 · exact parse_end hE.tab hP' (by rw [← hI,← hf1,hk])
 · unfold parseZ
   rw [← hI,← hf1,hx]
 · refine ⟨⟨f',l',b',ts',tv',rfl,by omega,hal',by omega,by omega,by rw [← hgo,hf1,hI],hP'⟩,?_⟩
   show (mkB l').size < (mkB l).size
   rw [mkB_size,mkB_size]
   exact hll
theorem says_ret {w0:World} (hE:EnvOK w0) (v:Value) (base:Int) (ts:List TermD) (want:ByteArray) (hs:SizeVal w0 v base ts) (hv:sizeB base ts=true) (hw:want=sizeT base ts) (ha:AsciiL want.data.toList) (hz:want.size≤100000) :
 Ret Pg 37 #[v,.string want] w0 fun r w'=>r = .bool true∧Ext w0 w':=by
 obtain ⟨tv,rfl,hT⟩:=hs
 have h1:=SliceOf.oneCell hT
 refine n9s (R:=retR _) ?_;unfold n9
 simp (disch:=try exact DI) only [↓PR,QR,simprocAttr]
 generalize hW:World.alloc w0 _=W
 have e0:Ext w0 W:=by rw [← hW];exact ee
 have o2:W.heap[w0.heap.size]?=some (.cells #[.int .i64 base,tv] TSz (0,0)):=by rw [← hW];simp (disch:=try exact DI) only [↓PR,QR,simprocAttr]
 clear hW
 refine zcr (Text_ret (hE.tab.ext e0) _ base ts ⟨tv,rfl,TermsOf.ext hT e0⟩) fun w1 e1=>?_
 rw [hv,if_pos rfl,if_pos rfl,← hw]
 unfold n9c4
 simp (disch:=try exact DI) only [↓PR,QR,simprocAttr]
 refine callK_ret (Parse_ret (hE.ext (e0.trans e1)) want ha hz) ?_
 rintro _ w2 ⟨⟨x,rfl,hx⟩,e2⟩
 have hp:parseZ want=(base,ts,0):=by rw [hw];exact parseZ_of hv
 rw [hp] at hx ⊢
 obtain ⟨tv2,rfl,hT2⟩:=hx
 have h2:=SliceOf.oneCell hT2
 unfold n9c3
 simp (disch:=try exact DI) only [↓PR,QR,simprocAttr]
 have e12:=e1.trans e2
 have eA:Ext w2 (w2.alloc (.cells #[.int .i64 base,tv2] TSz)):=(Ext.refl _).alloc _
 have oA:(w2.alloc (.cells #[.int .i64 base,tv2] TSz)).heap[w2.heap.size]?=some (.cells #[.int .i64 base,tv2] TSz (0,0)):=World.alloc_heap_new w2 _
 have E3:Ext w0 (w2.alloc (.cells #[.int .i64 base,tv2] TSz)):=(e0.trans e12).trans eA
 have o3:=(e12.trans eA).obj o2
 have hT3:=TermsOf.ext hT E3
 have hT4:=TermsOf.ext hT2 eA
 generalize w2.alloc (.cells #[.int .i64 base,tv2] TSz)=w3 at *
 simp (disch:=try exact DI) only [↓PR,QR,simprocAttr,↓n9c1,↓n9c2,↓n9c3,↓n9c4,(cells_of_heap oA).1,(cells_of_heap o3).1]
 refine zcr (rSame_ret w3 _ _ base base ts ts ⟨tv2,rfl,hT4⟩ ⟨tv,rfl,hT3⟩) fun w4 e4=>?_
 have h00:((0:Int) == 0)=true:=rfl
 rw [h00]
 simp (disch:=try exact DI) only [↓PR,QR,simprocAttr]
 exact ⟨by simp,E3.trans e4⟩
def sN:ByteArray:=⟨#[110]⟩
def sM:ByteArray:=⟨#[109]⟩
def sA:ByteArray:=⟨#[97]⟩
theorem ex1:evalN 4 givenT [(sN,5),(sM,3)]=11∧evalE 4 givenT ByteArray.empty [(sN,5),(sM,3)]=0:=by decide +kernel
theorem ex2:evalN 4 givenT [(sN,5)]=0∧evalE 4 givenT ByteArray.empty [(sN,5)]=9:=by decide +kernel
theorem ex3:evalN 4 givenT [(sN,-1),(sM,0)]=0∧evalE 4 givenT ByteArray.empty [(sN,-1),(sM,0)]=2:=by decide +kernel
theorem ex4:lenN 4 givenT [(sN,0),(sM,5)]=0∧lenE 4 givenT [(sN,0),(sM,5)]=3:=by decide +kernel
theorem ex5:intervalL 4 givenT [(sN,0,10),(sM,1,4)]=0∧intervalH 4 givenT [(sN,0,10),(sM,1,4)]=23∧intervalE 4 givenT [(sN,0,10),(sM,1,4)]=0:=by decide +kernel
theorem ex6:solveP 4 givenT sN 11 [(sM,3)]=(5,0)∧solveP 4 givenT sN 12 [(sM,3)]=(0,9):=by decide +kernel
theorem ex7:(parseZ ⟨#[110,42,50]⟩).2.2=6:=by decide +kernel
theorem ex8a:sortB [sN,sA]=[sA,sN] :=
 strict_ext (sortB_strict (by decide +kernel)) (by
  refine List.pairwise_pair.2 ?_
  decide +kernel) fun s=>by
  rw [mem_sortB]
  simp only [List.mem_cons,List.not_mem_nil,or_false]
  exact Or.comm
theorem ex8b:sumT1 (givenT++[⟨sM,1⟩,⟨sA,3⟩])=[⟨sA,3⟩,⟨sN,2⟩]:=by
 unfold sumT1
 have hX:(dedupB ((givenT++[⟨sM,1⟩,⟨sA,3⟩]:List TermD).map fun t=>t.field)).filter (fun s=>decide (addF s (givenT++[⟨sM,1⟩,⟨sA,3⟩])≠0))=[sN,sA]:=by decide +kernel
 rw [hX,ex8a]
 decide +kernel
theorem ex8:addP 4 givenT (-4) [⟨sM,1⟩,⟨sA,3⟩]=(0,[⟨sA,3⟩,⟨sN,2⟩],0):=by
 unfold addP
 rw [ex8b]
 decide +kernel
theorem ex9:sizeT 4 givenT=⟨#[50,42,110,45,109,43,52]⟩∧sizeT 0 []=⟨#[48]⟩∧sizeT (-8) [⟨sN,1⟩]=⟨#[110,45,56]⟩∧sizeT 3 [⟨sN,-1⟩]=⟨#[45,110,43,51]⟩:=by decide +kernel
theorem ex10:sizeB 4 givenT=true∧sizeB 0 []=true∧sizeB (-8) [⟨sN,1⟩]=true∧sizeB 3 [⟨sN,-1⟩]=true:=by decide +kernel
theorem vals_new (w:World) (T:TypeId) (l:List (ByteArray×Int)) (hl:l.length≤9223372036854775807):ValsOf (w.alloc (.cells (l.flatMap valCells).toArray T)) (.slice (some ⟨w.heap.size,0,none⟩) l.length l.length) l :=
 (OwnE.new w T 2 valCells l (fun _=>rfl) hl).slice (fun _=>rfl) (fun _ _=>rfl)
theorem terms_new (w:World) (T:TypeId) (l:List TermD) (hl:l.length≤9223372036854775807):TermsOf (w.alloc (.cells (l.flatMap termCells).toArray T)) (.slice (some ⟨w.heap.size,0,none⟩) l.length l.length) l :=
 (OwnE.new w T 2 termCells l (fun _=>rfl) hl).slice (fun _=>rfl) (fun _ _=>rfl)
theorem known_c4 {w0 w:World} (hE:EnvOK w0) (e:Ext w0 w):n7c4 (retR fun r w'=>r = .bool true∧Ext w0 w') w:=by
 unfold n7c4
 refine callK_ret (given_ret w) ?_
 rintro v1 w1 ⟨hs1,e1⟩
 refine zcr (says_ret (hE.ext (e.trans e1)) v1 4 givenT _ hs1 ex10.1 ex9.1.symm (by unfold AsciiL;decide) (by decide)) fun w2 e2=>?_
 have E2:=(e.trans e1).trans e2
 unfold n7c3
 simp (disch:=try exact DI) only [↓PR,QR,simprocAttr]
 refine zcr (says_ret (hE.ext E2) _ 0 [] _ ⟨_,rfl,SliceOf.nil _ _ _⟩ ex10.2.1 ex9.2.1.symm (by unfold AsciiL;decide) (by decide)) fun w3 e3=>?_
 have E3:=E2.trans e3
 unfold n7c2
 simp (disch:=try exact DI) only [↓PR,QR,simprocAttr]
 have eA:Ext w3 (w3.alloc (.cells ([(⟨sN,1⟩:TermD)].flatMap termCells).toArray 32)):=(Ext.refl _).alloc _
 refine zcr (says_ret (hE.ext (E3.trans eA)) _ (-8) [⟨sN,1⟩] _ ⟨_,rfl,terms_new w3 32 [⟨sN,1⟩] (by decide)⟩ ex10.2.2.1 ex9.2.2.1.symm (by unfold AsciiL;decide) (by decide)) fun w4 e4=>?_
 have E4:=(E3.trans eA).trans e4
 unfold n7c1
 simp (disch:=try exact DI) only [↓PR,QR,simprocAttr]
 have eB:Ext w4 (w4.alloc (.cells ([(⟨sN,-1⟩:TermD)].flatMap termCells).toArray 32)):=(Ext.refl _).alloc _
 refine zcr (says_ret (hE.ext (E4.trans eB)) _ 3 [⟨sN,-1⟩] _ ⟨_,rfl,terms_new w4 32 [⟨sN,-1⟩] (by decide)⟩ ex10.2.2.2 ex9.2.2.2.symm (by unfold AsciiL;decide) (by decide)) fun w5 e5=>?_
 simp (disch:=try exact DI) only [↓PR,QR,simprocAttr]
 exact ⟨trivial,(E4.trans eB).trans e5⟩
abbrev VT:TypeId:=78
abbrev allocV (w:World) (l:List (ByteArray×Int)):World:=w.alloc (.cells (l.flatMap valCells).toArray VT)
theorem allocV_ext (w:World) (l:List (ByteArray×Int)):Ext w (allocV w l):=(Ext.refl _).alloc _
theorem solve_step {w:World} (n:Int) {v:Value} (hs:SizeVal w v 4 givenT) {K:Value→World→Prop} {R:RT} (hK:∀ w',Ext w w'→K (.tuple #[.int .i64 (solveP 4 givenT sN n [(sM,3)]).1,.int .i64 (solveP 4 givenT sN n [(sM,3)]).2]) w') :
 opV Pg (Instr.makeMap 35 none) (panK R) w fun t47 w=>opU Pg (Instr.mapUpdate 35 t47 (.string ⟨#[109]⟩) (.int .i64 3)) (panK R) w fun w=>callK Pg 28 #[v,.string ⟨#[110]⟩,.int .i64 n,t47] (panK R) w K:=by
 rw [op_makeMap]
 have eM:Ext w (w.alloc (.map #[] 0)):=(Ext.refl _).alloc _
 have hm0:MapOf (w.alloc (.map #[] 0)) w.heap.size []:=MapOf.new w
 generalize w.alloc (.map #[] 0)=W at *
 rw [op_updateO Tryz.underlying35 Tryz.underlying9 hm0 ⟨#[109]⟩]
 have eP:=eM.putW (ps:=[]) (Nat.le_refl _) ⟨#[109]⟩ (.int .i64 3)
 have hm1:=hm0.put ⟨#[109]⟩ (.int .i64 3)
 generalize putW W w.heap.size [] ⟨#[109]⟩ (.int .i64 3)=W1 at *
 refine zcr (Solve_ret W1 v 4 givenT sN n w.heap.size [(sM,3)] (hs.ext eP) (by decide) hm1) fun w2 e2=>?_
 exact hK w2 (eP.trans e2)
theorem known_c20 {w0 w5:World} {v5:Value} (hE:EnvOK w0) (E5:Ext w0 w5) (hs5:SizeVal w5 v5 4 givenT):n7c20 v5 (retR fun r w'=>r = .bool true∧Ext w0 w') w5:=by
 unfold n7c20
 rw [op_makeMap]
 have eM:Ext w5 (w5.alloc (.map #[] 0)):=(Ext.refl _).alloc _
 have hm0:MapOf (w5.alloc (.map #[] 0)) w5.heap.size []:=MapOf.new w5
 generalize w5.alloc (.map #[] 0)=W at *
 simp (disch:=try exact DI) only [↓PR,QR,simprocAttr]
 rw [op_updateO Tryz.underlying46 Tryz.underlying9 hm0 ⟨#[110]⟩]
 have eP:=eM.putW (ps:=[]) (Nat.le_refl _) ⟨#[110]⟩ (.agg #[.int .i64 0,.int .i64 10])
 have hm1:=hm0.put ⟨#[110]⟩ (.agg #[.int .i64 0,.int .i64 10])
 generalize putW W w5.heap.size [] ⟨#[110]⟩ (.agg #[.int .i64 0,.int .i64 10])=W1 at *
 simp (disch:=try exact DI) only [↓PR,QR,simprocAttr]
 rw [op_updateO Tryz.underlying46 Tryz.underlying9 hm1 ⟨#[109]⟩]
 have eQ:=eP.putW (ps:=[]++[(⟨#[110]⟩,(.agg #[.int .i64 0,.int .i64 10]))]) (Nat.le_refl _) ⟨#[109]⟩ (.agg #[.int .i64 1,.int .i64 4])
 have hm2:=hm1.put ⟨#[109]⟩ (.agg #[.int .i64 1,.int .i64 4])
 generalize putW W1 w5.heap.size ([]++[(⟨#[110]⟩,(.agg #[.int .i64 0,.int .i64 10]))]) ⟨#[109]⟩ (.agg #[.int .i64 1,.int .i64 4])=W2 at *
 refine zcr (Interval_ret W2 v5 4 givenT w5.heap.size [(sN,0,10),(sM,1,4)] (hs5.ext eQ) (by decide) hm2) fun w6 e6=>?_
 rw [ex5.1,ex5.2.1,ex5.2.2]
 have E6:=(E5.trans eQ).trans e6
 clear hm0 hm1 hm2 eM eP eQ e6 E5 hs5 W W1 W2
 unfold n7c19 rangeVal
 simp (disch:=try exact DI) only [↓PR,QR,simprocAttr]
 have oP:(w6.alloc (.cells #[.int .i64 0,.int .i64 23] 51)).heap[w6.heap.size]?=some (.cells #[.int .i64 0,.int .i64 23] 51 (0,0)):=World.alloc_heap_new w6 _
 have E7:=E6.trans ((Ext.refl w6).alloc (.cells #[.int .i64 0,.int .i64 23] 51))
 generalize w6.alloc (.cells #[.int .i64 0,.int .i64 23] 51)=w7 at *
 generalize w6.heap.size=p1 at *
 refine callK_ret (given_ret w7) ?_
 rintro v8 w8 ⟨hs8,e8⟩
 have oP8:=e8.obj oP
 have E8:=E7.trans e8
 clear e8 E7 oP E6
 unfold n7c18
 refine solve_step 11 hs8 fun w9 e9=>?_
 rw [ex6.1]
 have oP9:=e9.obj oP8
 have E9:=E8.trans e9
 clear e9 E8 oP8 hs8
 unfold n7c17
 simp (disch:=try exact DI) only [↓PR,QR,simprocAttr]
 refine callK_ret (given_ret w9) ?_
 rintro v10 w10 ⟨hs10,e10⟩
 unfold n7c16
 refine solve_step 12 hs10 fun w11 e11=>?_
 rw [ex6.2]
 have oP11:=e11.obj (e10.obj oP9)
 have E11:=(E9.trans e10).trans e11
 clear e10 e11 E9 oP9 hs10
 unfold n7c15
 simp (disch:=try exact DI) only [↓PR,QR,simprocAttr]
 refine callK_ret (Parse_ret (hE.ext E11) ⟨#[110,42,50]⟩ (by unfold AsciiL;decide) (by decide)) ?_
 rintro _ w12 ⟨⟨x12,rfl,hx12⟩,e12⟩
 rw [ex7]
 obtain ⟨tv12,rfl,hT12⟩:=hx12
 have h12:=SliceOf.oneCell hT12
 have oP12:=e12.obj oP11
 have E12:=E11.trans e12
 clear e12 E11 oP11
 unfold n7c14
 simp (disch:=try exact DI) only [↓PR,QR,simprocAttr]
 have eA:Ext w12 (w12.alloc (.cells #[.int .i64 (parseZ ⟨#[110,42,50]⟩).1,tv12] TSz)):=(Ext.refl _).alloc _
 refine callK_ret (given_ret (w12.alloc (.cells #[.int .i64 (parseZ ⟨#[110,42,50]⟩).1,tv12] TSz))) ?_
 rintro v13 w13 ⟨hs13,e13⟩
 have oP13:=e13.obj (eA.obj oP12)
 have E13:=(E12.trans eA).trans e13
 clear e13 eA E12 oP12 hT12 h12
 unfold n7c13
 simp (disch:=try exact DI) only [↓PR,QR,simprocAttr]
 have eB:Ext w13 (w13.alloc (.cells ([(⟨sM,1⟩:TermD),⟨sA,3⟩].flatMap termCells).toArray TTm)):=(Ext.refl _).alloc _
 refine callK_ret (Add_ret (w13.alloc (.cells ([(⟨sM,1⟩:TermD),⟨sA,3⟩].flatMap termCells).toArray TTm)) v13 _ 4 (-4) givenT [⟨sM,1⟩,⟨sA,3⟩] (hs13.ext eB) ⟨_,rfl,terms_new w13 TTm [⟨sM,1⟩,⟨sA,3⟩] (by decide)⟩ (by decide) (by decide)) ?_
 rintro _ w14 ⟨⟨x14,rfl,hx14⟩,e14⟩
 rw [ex8] at hx14 ⊢
 obtain ⟨tv14,rfl,hT14⟩:=hx14
 have h14:=SliceOf.oneCell hT14
 have oP14:=e14.obj (eB.obj oP13)
 have E14:=(E13.trans eB).trans e14
 clear e14 eB E13 oP13 hs13
 unfold n7c12
 have eC:Ext w14 (w14.alloc (.cells #[.int .i64 0,tv14] TSz)):=(Ext.refl _).alloc _
 have oC:(w14.alloc (.cells #[.int .i64 0,tv14] TSz)).heap[w14.heap.size]?=some (.cells #[.int .i64 0,tv14] TSz (0,0)):=World.alloc_heap_new w14 _
 simp (disch:=try exact DI) only [↓PR,QR,simprocAttr,(cells_of_heap (eC.obj oP14)).1,(cells_of_heap oC).1]
 have E15:=E14.trans eC
 have hT15:=TermsOf.ext hT14 eC
 generalize w14.alloc (.cells #[.int .i64 0,tv14] TSz)=w15 at *
 generalize w14.heap.size=p9 at *
 clear eC oP14 E14 hT14
 simp (disch:=try exact DI) only [↓PR,QR,simprocAttr,↓n7c11,↓n7c10,↓n7c9,↓n7c8,↓n7c7,↓n7c6,↓n7c5,(cells_of_heap oC).1]
 have eD:Ext w15 (w15.alloc (.cells ([(⟨sA,3⟩:TermD),⟨sN,2⟩].flatMap termCells).toArray TTm)):=(Ext.refl _).alloc _
 refine zcr (rSame_ret (w15.alloc (.cells ([(⟨sA,3⟩:TermD),⟨sN,2⟩].flatMap termCells).toArray TTm)) _ _ 0 0 [⟨sA,3⟩,⟨sN,2⟩] [⟨sA,3⟩,⟨sN,2⟩] ⟨tv14,rfl,TermsOf.ext hT15 eD⟩ ⟨_,rfl,terms_new w15 TTm [⟨sA,3⟩,⟨sN,2⟩] (by decide)⟩) fun w16 e16=>?_
 rw [decide_eq_true (p:=(0:Int)=0∧[(⟨sA,3⟩:TermD),⟨sN,2⟩]=[⟨sA,3⟩,⟨sN,2⟩]) ⟨rfl,rfl⟩,show ((0:Int) != 0)=false from rfl]
 simp (disch:=try exact DI) only [↓PR,QR,simprocAttr]
 exact known_c4 hE ((E15.trans eD).trans e16)
theorem known_ret {w0:World} (hE:EnvOK w0):Ret Pg 9 #[] w0 fun r w'=>r = .bool true∧Ext w0 w':=by
 refine n7s (R:=retR _) ?_;unfold n7
 simp (disch:=try exact DI) only [↓PR,QR,simprocAttr]
 refine zcr (evals_Eval (allocV w0 [(sN,5),(sM,3)]) 11 0 _ [(sN,5),(sM,3)] (vals_new w0 VT _ (by decide)) (by decide)) fun w1 e1=>?_
 rw [decide_eq_true ex1]
 have E1:=(allocV_ext w0 [(sN,5),(sM,3)]).trans e1
 clear e1
 unfold n7c25
 simp (disch:=try exact DI) only [↓PR,QR,simprocAttr]
 refine zcr (evals_Eval (allocV w1 [(sN,5)]) 0 9 _ [(sN,5)] (vals_new w1 VT _ (by decide)) (by decide)) fun w2 e2=>?_
 rw [decide_eq_true ex2]
 have E2:=(E1.trans (allocV_ext w1 [(sN,5)])).trans e2
 clear e2 E1
 simp (disch:=try exact DI) only [↓PR,QR,simprocAttr,↓n7c24,↓n7c23]
 refine zcr (evals_Eval (allocV w2 [(sN,-1),(sM,0)]) 0 2 _ [(sN,-1),(sM,0)] (vals_new w2 VT _ (by decide)) (by decide)) fun w3 e3=>?_
 rw [decide_eq_true ex3]
 have E3:=(E2.trans (allocV_ext w2 [(sN,-1),(sM,0)])).trans e3
 clear e3 E2
 simp (disch:=try exact DI) only [↓PR,QR,simprocAttr,↓n7c22,↓n7c21]
 refine zcr (evals_Length (allocV w3 [(sN,0),(sM,5)]) 0 3 _ [(sN,0),(sM,5)] (vals_new w3 VT _ (by decide)) (by decide)) fun w4 e4=>?_
 rw [decide_eq_true ex4]
 have E4:=(E3.trans (allocV_ext w3 [(sN,0),(sM,5)])).trans e4
 clear e4 E3
 simp (disch:=try exact DI) only [↓PR,QR,simprocAttr]
 refine callK_ret (given_ret w4) ?_
 rintro v5 w5 ⟨hs5,e5⟩
 have E5:=E4.trans e5
 clear e5 E4
 exact known_c20 hE E5 hs5
def n4c1 (t44 t48:Value) (R:RT) (w:World):Prop :=
 pickK t44 t48 (.bool false) fun t49 =>
 joinK (fun (t51:Value) (w:World) =>
 pickK t49 t51 (.bool false) fun t52 =>
 R (.returned t52) w) fun K3 =>
 guardP t49 true (
 callK Pg 9 #[] (panK R) w fun t51 w =>
 K3 t51 w) (
 K3 undef w)
def n4c2 (t7 t32 t36:Value) (R:RT) (w:World):Prop :=
 opV Pg (Instr.extract t36 0) (panK R) w fun t37 w =>
 opV Pg (Instr.extract t36 1) (panK R) w fun t38 w =>
 opV Pg (Instr.extract t36 2) (panK R) w fun t39 w =>
 opV Pg (Instr.loadAt 51 t7) (panK R) w fun t40 w =>
 opV Pg (Instr.build 51 #[(0,t37),(1,t38)]) (panK R) w fun t43 w =>
 opV Pg (binS .eql 51 false t40 t43) (panK R) w fun t44 w =>
 joinK (fun (t48:Value) (w:World) =>
 n4c1 t44 t48 R w) fun K2 =>
 guardP t44 true (
 opV Pg (binS .eql 3 false t32 t39) (panK R) w fun t48 w =>
 K2 t48 w) (
 K2 undef w)
def n4c3 (t2 t26 t30:Value) (R:RT) (w:World):Prop :=
 opV Pg (Instr.extract t30 0) (panK R) w fun t31 w =>
 opV Pg (Instr.extract t30 1) (panK R) w fun t32 w =>
 opV Pg (Instr.alloc 51 true (.tuple #[])) (panK R) w fun t7 w =>
 opU Pg (Instr.storeAt 51 t7 t31) (panK R) w fun w =>
 opV Pg (Instr.loadAt 24 t2) (panK R) w fun t34 w =>
 callK Pg 22 #[t34,t26] (panK R) w fun t36 w =>
 n4c2 t7 t32 t36 R w
def n4c4 (t2 t24:Value) (R:RT) (w:World):Prop :=
 opV Pg (Instr.extract t24 0) (panK R) w fun t25 w =>
 opV Pg (Instr.extract t24 1) (panK R) w fun t26 w =>
 opV Pg (Instr.loadAt 24 t2) (panK R) w fun t28 w =>
 callK Pg 21 #[t28,t25] (panK R) w fun t30 w =>
 n4c3 t2 t26 t30 R w
def n4c5 (t1 t2 t15 t19:Value) (R:RT) (w:World):Prop :=
 pickK t15 (.bool true) t19 fun t20 =>
 condP t20 (
 callK Pg 9 #[] (panK R) w fun t21 w =>
 R (.returned t21) w) (
 callK Pg 20 #[t1] (panK R) w fun t24 w =>
 n4c4 t2 t24 R w)
def n4 (t0 t1:Value) (R:RT) (w:World):Prop :=
 opV Pg (Instr.box 24 t0) (panK R) w fun t2 w =>
 opV Pg (Instr.fieldAt 24 t2 1) (panK R) w fun t12 w =>
 opV Pg (Instr.loadAt 22 t12) (panK R) w fun t13 w =>
 opV Pg (Builtin.len_ #[22] 3 #[t13]) (panK R) w fun t14 w =>
 opV Pg (binS .gtr 3 true t14 (.int .i64 10)) (panK R) w fun t15 w =>
 joinK (fun (t19:Value) (w:World) =>
 n4c5 t1 t2 t15 t19 R w) fun K1 =>
 guardP t15 false (
 opV Pg (Builtin.len_ #[45] 3 #[t1]) (panK R) w fun t18 w =>
 opV Pg (binS .gtr 3 true t18 (.int .i64 12)) (panK R) w fun t19 w =>
 K1 t19 w) (
 K1 undef w)
theorem n4s {t0 t1:Value} {R:RT} {w:World} (h:n4 t0 t1 R w):Calls Pg 5 #[t0,t1] w R:=by
 refine yD Tryz.func5 ?_
 refine zs<|zr<|yv h fun _ w h=>zm<|zn<|zk<|zs<|zs<|sim_regionG<|yG 5<|yv h fun _ w h=>yv h fun _ w h=>yx h fun _ w h=>yb h fun _ w h=>zm ?_
 refine zn<|yg1 3 4 false [17,18,19] 19 h (fun _ T hT h=>?_) fun σ w h=>?_
 · refine zm<|yx h fun _ w h=>yb h fun _ w h=>zn ?_
   exact zt hT h
 refine yG 1<|yp h fun _ h=>zn<|sim_end<|zk<|yC h (fun h=>zs<|zr<|yc h c9 fun _ w h=>zm<|zn<|zk<|sim_ret<|sim_then_ret<|body_ret1 rfl rfl h) fun h=>sim_skip<|zk<|zs<|zr<|zm<|yc h c20 fun _ w h=>zm<|yv h fun _ w h=>?_
 refine yv h fun _ w h=>zm<|zm<|zn<|zk<|zs<|zr<|yv h fun _ w h=>zm<|yc h c21 fun _ w h=>zm<|yv h fun _ w h=>yv h fun _ w h=>yv h fun _ w h=>yu h fun w h=>?_
 refine zm<|zn<|zk<|zs<|zr<|yv h fun _ w h=>zm<|yc h c22 fun _ w h=>zm<|yv h fun _ w h=>yv h fun _ w h=>yv h fun _ w h=>zm<|zm<|zm ?_
 refine zn<|zk<|zs<|sim_regionG<|yG 6<|yv h fun _ w h=>zm<|zm<|yB h fun _ w h=>yb h fun _ w h=>zm<|zn<|yg1 3 5 true [46,47,48] 48 h (fun _ T hT h=>?_) fun σ w h=>?_
 · refine zm<|zm<|yb h fun _ w h=>zn ?_
   exact zt hT h
 refine yG 2<|yp h fun _ h=>zm<|zn<|yg1 1 10 true [51] 51 h (fun _ T hT h=>?_) fun σ w h=>?_
 · refine yc h c9 fun _ w h=>zn ?_
   exact zt hT h
 exact yG 2<|yp h fun _ h=>zm<|zn<|sim_end<|zk<|sim_ret<|body_ret1 rfl rfl h
end Go.Proofs.YtpgkjhikdhdffaaGreatDoor
namespace Go.Sw
open Go.ChangeShapes Go.WideShapes Go.RowKit Go.ChangeAt Go.Deep
theorem list_of {α:Type} {p:Nat→α→Prop}:∀ (n:Nat),(∀ i,i < n→∃ x,p i x)→∃ l:List α,l.length=n∧∀ k x,l[k]?=some x→p k x
 | 0,_=>⟨[],rfl,fun k x h=>by simp at h⟩
 | n+1,h=>by
  obtain ⟨l,hl,hp⟩:=list_of n (fun i hi=>h i (by omega))
  obtain ⟨x,hx⟩:=h n (by omega)
  refine ⟨l++[x],by simp [hl],fun k y hy=>?_⟩
  rw [List.getElem?_append] at hy
  split at hy
  · exact hp k y hy
  · have hk:k=n:=by
     have:=(List.getElem?_eq_some_iff.1 hy).1
     simp at this
     omega
    subst hk
    simp [hl] at hy
    subst hy
    exact hx
section
variable {H:Type} {enc:TypeId×Value→H} {P:Program} {w:World} {base:Nat} {spare:Nat→Bool} {held:Bool}
theorem weightsAll_mem {e:TypeId} {m:Nat} {d:DataW H}:∀ {l:List (DataW H)},d∈l→m∈d.weights P e→m∈DataW.weightsAll P e l
 | [],h,_=>by cases h
 | a::l,h,hm=>by
  rw [DataW.weightsAll,List.mem_append]
  rcases List.mem_cons.1 h with rfl | h
  · exact .inl hm
  · exact .inr (weightsAll_mem h hm)
def Reached (P:Program) (t:TypeId) (d:DataW H):Prop:=∀ m∈d.weights P t,m≤reachBytes
theorem reached_of {ts:List TypeId} {ds:List (DataW H)} (h:(DataW.weightsEach P ts ds).all (· ≤ reachBytes)=true) {j:Nat} {t:TypeId} {d:DataW H} (ht:ts[j]?=some t) (hd:ds[j]?=some d):Reached P t d:=fun m hm=>by
 have:=List.all_eq_true.1 h _ (DataW.weights_mem_each ht hd m hm)
 simpa using this
theorem slice_of_trod {α:Type} {E:World→List Value→α→Prop} {Q:α→Prop} {t e:TypeId} {n fuel:Nat} {cs:List Value} {x:DataW H×List MemPlace} (ht:P.underlying t=some (.slice e)) (hn:P.cellsOf e=n) (hb1:1≤P.bytesOf e) (h0:0 < n)
 (hE:∀ m cs' y,DataW.trod enc P w base spare held m e cs'=some y→Reached P e y.1→∃ x,E w cs' x∧Q x) (h:DataW.trod enc P w base spare held fuel t cs=some x) (hr:Reached P t x.1):∃ v l,cs=[v]∧SliceOf w n E v l∧(∀ x∈l,Q x)∧l.length≤140737488355328:=by
 rcases open_slice ht h with ⟨rfl,_⟩ | ⟨a,len,cap,m,k,D,Pl,rfl,hb,hl,hm,hmm,hx,hel⟩
 · exact ⟨_,[],rfl,SliceOf.nil _ _ _,fun x hx=>by (cases hx),Nat.zero_le _⟩
 · have hlm:len≤m:=by rw [hmm];split<;>omega
   subst hx
   have hw0:=hr ((len+(m - len))*P.bytesOf e) (by simp only [DataW.weights,ht];simp)
   have hlen:len≤140737488355328:=by
    have:len*1≤(len+(m - len))*P.bytesOf e:=Nat.mul_le_mul (by omega) hb1
    simp only [reachBytes] at hw0
    omega
   have hD:∀ i,i < len→Reached P e (D i):=fun i hi q hq=>hr q (by
    simp only [DataW.weights,ht,List.mem_cons,List.mem_append]
    exact .inr (.inl (weightsAll_mem (List.mem_map.2 ⟨i,List.mem_range.2 hi,rfl⟩) hq)))
   obtain ⟨l,hll,hp⟩:=list_of (p:=fun i (x:α)=>∃ cs',w.cells? base (a.add (i*n)) n=some cs'∧E w cs' x∧Q x) len (fun i hi=>by
    obtain ⟨cs',h1,h2⟩:=hel i (by omega)
    rw [hn] at h1
    obtain ⟨x,hx⟩:=hE _ _ _ h2 (hD i hi)
    exact ⟨x,cs',h1,hx⟩)
   refine ⟨_,l,rfl,⟨some a,cap,by rw [hll],by rw [hll];exact hl,by simp only [maxLen] at hm;omega,fun hne=>?_⟩,fun x hx=>?_,by omega⟩
   · obtain ⟨b,o,spot⟩:=a
     have hspot:spot=none:=by
      have:0 < l.length:=List.length_pos_iff.2 hne
      obtain ⟨y,hy⟩:=getElem?_lt this
      obtain ⟨cs',h1,_⟩:=hp 0 y hy
      obtain ⟨_,h2,h3⟩:=World.cells?_some h1
      have h4:=h3 0 h0
      rw [List.getElem?_eq_getElem (by omega)] at h4
      simpa [Addr.add] using World.cell?_spot h4
     subst hspot
     refine ⟨b,o,rfl,fun k x hx=>?_⟩
     obtain ⟨cs',h1,h2,_⟩:=hp k x hx
     obtain ⟨_,h3,h4⟩:=World.cells?_some h1
     refine ⟨cs',h3,fun j v hv=>?_,h2⟩
     have h5:=h4 j (by have:=(List.getElem?_eq_some_iff.1 hv).1;omega)
     rw [hv] at h5
     simpa [Addr.add_lit] using h5
   · obtain ⟨k,hk⟩:=List.getElem?_of_mem hx
     obtain ⟨_,_,_,hq⟩:=hp k x hk
     exact hq
theorem struct_of_trod {fs:Array Field} {t:TypeId} {n fuel:Nat} {cs:List Value} {x:DataW H×List MemPlace} (ht:P.underlying t=some (.struct fs)) (hn:P.cellsOf t=n) (h:DataW.trod enc P w base spare held fuel t cs=some x) (hr:Reached P t x.1) :
 cs.length=n∧∃ m,∀ (i:Nat) (ty off k:Nat),(fs[i]?).map (fun f=>(f.type,f.offset))=some (ty,off)→P.cellsOf ty=k→∃ y,DataW.trod enc P w base spare held m ty ((cs.drop off).take k)=some y∧Reached P ty y.1:=by
 obtain ⟨xs,m,_,rfl,hl,hlen,hf⟩:=DataW.trod_struct ht h
 refine ⟨hl.trans hn,m,fun i ty off k hi hk=>?_⟩
 obtain ⟨f,hfi,he⟩:=Option.map_eq_some_iff.1 hi
 injection he with h1 h2
 subst h1 h2 hk
 have hil:i < xs.length:=by rw [hlen];exact (Array.getElem?_eq_some_iff.1 hfi).1
 refine ⟨xs[i],(hf i f hfi).trans (List.getElem?_eq_getElem hil),fun q hq=>hr q ?_⟩
 simp only [DataW.weights,ht]
 refine DataW.weights_mem_each (j:=i) (t:=f.type) (d:=xs[i].1) ?_ ?_ q hq
 · rw [List.getElem?_map,Array.getElem?_toList,hfi];rfl
 · rw [List.getElem?_map,List.getElem?_eq_getElem hil];rfl
theorem trodAll_stays (hl:laidOutB P=true) {W W':World} (he:Ext W W'):∀ {ts:List TypeId} {vs:List Value} {ds:List (DataW H)} {ps:List MemPlace},(∀ t∈ts,P.readableRec t=true∧t < P.types.size)→(∀ x∈ps,x.block < W.heap.size) →
 DataW.TrodAll enc P W 0 (fun _=>true) true ts vs ds ps→DataW.TrodAll enc P W' 0 (fun b=>decide (b < W.heap.size)) true ts vs ds ps
 | [],_,_,_,_,_,h=>by obtain ⟨rfl,rfl,rfl⟩:=trodAll_nil h;exact trodAll_mk0
 | t::ts,_,_,_,hr,hlt,h=>by
  obtain ⟨v,vs1,d,ds1,a,b,rfl,rfl,rfl,h1,h2⟩:=trodAll_cons h
  refine ⟨a,b,?_,trodAll_stays hl he (fun t ht=>hr t (List.mem_cons_of_mem _ ht)) (fun x hx=>hlt x (List.mem_append_right _ hx)) h2,rfl⟩
  exact Below.trod hl (hr t (List.mem_cons_self ..)).1 (hr t (List.mem_cons_self ..)).2 h1 ⟨he.os,he.tape,he.output,he.size,he.block⟩ (fun x hx=>hlt x (List.mem_append_left _ hx))
theorem law_post {f:Func} {s:ChangeSpec} {W W':World} {args:Array Value} {ds gs:List (DataW H)} {before:List MemPlace} {tb:TypeId} (hl:laidOutB P=true) (hr:∀ t∈f.params.toList,P.readableRec t=true∧t < P.types.size) (hs:s.vars=[])
 (hW:DataW.Whole enc P f.params.toList s.vars false W args.toList ds gs before) (he:Ext W W') (hres:f.resultTypes = #[tb]) (htb:P.underlying tb=some .bool) (hfn:(s.fn H ds).results=[.lit (.bool true)]) (hargs:(s.fn H ds).args=ds) (hvars:(s.fn H ds).vars=[]) :
 s.post enc P f false true false false W args (.bool true) W':=by
 have hW':=hW
 obtain ⟨p,q,hA,hV,rfl,_,_⟩:=hW
 rw [hs] at hV
 obtain ⟨rfl,rfl⟩:=trodVars_none hV
 have hlt:∀ x∈p,x.block < W.heap.size:=fun x hx=>hW'.lt x (by simpa using hx)
 rw [List.append_nil] at hW'
 refine ⟨ds,[],p,[],p,[],hW',?_,?_,?_,Below.frame ⟨he.os,he.tape,he.output,he.size,he.block⟩ _,fun h=>by cases h⟩
 · rw [List.append_nil,hfn,hres]
   exact trodAll_mk1 (shut_bool htb _)
 · rw [List.append_nil,hargs]
   exact trodAll_stays hl he hr hlt hA
 · rw [List.append_nil,hvars,hs]
   exact rfl
end
end Go.Sw
namespace Go.Proofs.YtpgkjhikdhdffaaGreatDoor
open Sw
open Go.RowKit Go.Deep
def role_laid:List (String×DataW Unit):=[("math/bits.deBruijn32tab", Rows.laid_math_bits_deBruijn32tab),("math/bits.deBruijn64tab", Rows.laid_math_bits_deBruijn64tab),("internal/strconv.uint64pow10", Rows.laid_internal_strconv_uint64pow10),("strconv.ErrRange", Rows.laid_strconv_ErrRange),("strconv.ErrSyntax", Rows.laid_strconv_ErrSyntax)]
theorem role_own:ownKnob Pg.godebug=none:=by kernel_rfl
theorem role_laidOut:laidOutB Pg=true:=by kernel_rfl
theorem role_met (os:Os) (args:Array Value):laidMetH Pg role_laid ((World.laidAll Pg os role_laid).forCall (fun _ _=>0) ⟨#[],args,[]⟩).memory:=by
 rw [MakeChecks.laidMetH_plain _ _ _ (by kernel_rfl)]
 exact laidMet_laidAll _ (by kernel_rfl) (by kernel_rfl)
theorem role_tab {W:World} (h:laidMetH Pg role_laid W):TabOK W:=by
 rw [MakeChecks.laidMetH_plain _ _ _ (by kernel_rfl)] at h
 have h3:=laidMet.tail (laidMet.tail h)
 have he:(Rows.laid_internal_strconv_uint64pow10:DataW Unit)=Go.Lib.tabData .u64 Go.Lib.pow10Tab:=by kernel_rfl
 rw [he] at h3
 obtain ⟨g,hg⟩:=Option.isSome_iff_exists.1 gPow
 have hty:(Pg.globals[g]?).map (·.type)=some 178:=by
  have h1:(Pg.globalNamed "internal/strconv.uint64pow10").bind (fun g=>(Pg.globals[g]?).map (·.type))=some 178:=by kernel_rfl
  rw [hg] at h1
  exact h1
 exact Go.Lib.tabIs_of_head hg hty Tryz.underlying178 Tryz.underlying146 (by kernel_rfl) (by kernel_rfl) h3
theorem role_star : "*" ++ "errors.errorString" = "*errors.errorString" := by decide
theorem role_rowErr (u:TypeId) (h:Pg.typeName? 3 u=some "*errors.errorString"):u=166 :=
 typeName_ptr_named (nm := "errors.errorString") (by rw [role_star];kernel_rfl) (by kernel_rfl) (by decide) u (by rw [role_star];exact h)
theorem role_env {W:World} (hs:W.ShapedOpen Pg) (h:laidMetH Pg role_laid W):EnvOK W:=by
 refine ⟨role_tab h,Go.Proofs.cell_of_shapedOpen_int (k := .i64) hs (of_decide_eq_true (by kernel_rfl)) (zero := #[.int .i64 0]) (t:=3) (by kernel_rfl) rfl (by kernel_rfl) (by kernel_rfl) Tryz.underlying3,?_,?_⟩
 · rw [MakeChecks.laidMetH_plain _ _ _ (by kernel_rfl)] at h
   have h5:=h.tail.tail.tail.tail
   obtain ⟨a,s,hv,_⟩:=laid_sentinel (g:=1) h5 (by kernel_rfl) (by kernel_rfl) Tryz.underlying107 role_rowErr Tryz.underlying166 Tryz.underlying168 rfl rfl Tryz.underlying9 (by kernel_rfl) (by kernel_rfl)
   refine ⟨_,by rw [World.var?_cell (show Pg.globalNamed "strconv.ErrSyntax" = some 1 by kernel_rfl) hv 0];rfl,.inr ⟨_,_,rfl⟩⟩
 · rw [MakeChecks.laidMetH_plain _ _ _ (by kernel_rfl)] at h
   have h5:=h.tail.tail.tail
   obtain ⟨a,s,hv,_⟩:=laid_sentinel (g:=2) h5 (by kernel_rfl) (by kernel_rfl) Tryz.underlying107 role_rowErr Tryz.underlying166 Tryz.underlying168 rfl rfl Tryz.underlying9 (by kernel_rfl) (by kernel_rfl)
   refine ⟨_,by rw [World.var?_cell (show Pg.globalNamed "strconv.ErrRange" = some 2 by kernel_rfl) hv 0];rfl,.inr ⟨_,_,rfl⟩⟩
theorem handed_and {H:Type} {enc:TypeId×Value→H} {a:Assume} {C:Checked} {os:Os} {f:FuncId} {fn:Func} {s:ChangeSpec} {conds:List PathCond} {apart fresh handsOn again:Bool} {X:World→Array Value→Prop}
 (hX:∀ (w w':World) (args:Array Value),w.heap=w'.heap→X w args→X w' args)
 (own:ownKnob C.prog.godebug=none) (started:os.Started) (noInit:C.prog.inits.idxOf? f=none) (hfn:C.prog.funcs[f]?=some fn)
 (witness:∃ (w:World) (tape:Tape) (i:Input),w.os=os∧(w.forCall tape i).Shaped C.prog∧i.vars=[]∧Input.okWide C.prog (w.forCall tape i) .any w.heap.size f i ∧
  ((s.pre enc C.prog fn conds apart (w.forCall tape i).memory i.args∧X (w.forCall tape i).memory i.args)∧sizedMet enc C.prog fn (OpenSpec.ofChange s) apart (w.forCall tape i).memory i.args)∧a.holds C.prog (lone (Frame.enter C.prog f i.args .normal) [] (w.forCall tape i)))
 (contract:∀ (W:World) (base:Nat) (args:Array Value) (ds gs:List (DataW H)) (before:List MemPlace),
  (∀ (j:Nat) t v,fn.params[j]?=some t→args[j]?=some v→Value.okWide C.prog W .any base t v) →
  DataW.Whole enc C.prog fn.params.toList s.vars apart W args.toList ds gs before →
  conds.all (PathCond.test C.prog ⟨fn.params.toList,ds,s.plain.varTypes C.prog,gs⟩)=true →
  (DataW.weightsEach C.prog (fn.params.toList++s.plain.varTypes C.prog) (ds++gs)).all (· ≤ reachBytes)=true→X W args→W.ShapedOpen C.prog →
  a.holds C.prog (lone (Frame.enter C.prog f args .normal) [] W) →
  Calls C.prog f args W fun e W'=>∃ v,e = .returned v∧s.post enc C.prog fn apart fresh handsOn again W args v W') :
 ReturnsInHanded a C os f .any (fun w args=>(s.pre enc C.prog fn conds apart w args∧X w args)∧sizedMet enc C.prog fn (OpenSpec.ofChange s) apart w args) (s.post enc C.prog fn apart fresh handsOn again):=by
 refine returnsInHanded_of_calls own started noInit witness ?_
 intro w tape i _ hsh _ hok hpre hholds
 obtain ⟨_,_,_,fn',hfn',_,_,_,_,hval⟩:=hok
 have e:fn'=fn:=Option.some.inj (hfn'.symm.trans hfn)
 subst e
 obtain ⟨⟨⟨ds,gs,before,hw,hc⟩,hx⟩,hz⟩:=hpre
 have hw':=DataW.Whole.of_heap (w':=w.forCall tape i) (by rfl) hw
 refine (contract (w.forCall tape i) w.heap.size i.args ds gs before hval hw' hc (hz.weights hw) (hX _ _ _ (by rfl) hx) hsh hholds).mono fun e W' ⟨v,he,hp⟩=>?_
 subst he
 exact ChangeSpec.post_blind hp
open Go.ChangeShapes Go.WideShapes Go.ChangeAt
theorem cellsTerm:Pg.cellsOf 32=2:=by kernel_rfl
theorem cellsSize:Pg.cellsOf 24=2:=by kernel_rfl
theorem cellsString:Pg.cellsOf 9=1:=by kernel_rfl
theorem cellsInt:Pg.cellsOf 3=1:=by kernel_rfl
theorem cellsTerms:Pg.cellsOf 22=1:=by kernel_rfl
theorem bytesTerm:1≤Pg.bytesOf 32:=Nat.le_of_ble_eq_true (by kernel_rfl)
section
variable {H:Type} {enc:TypeId×Value→H} {w:World} {base:Nat} {spare:Nat→Bool} {held:Bool}
theorem term_of {m:Nat} {cs:List Value} {y:DataW H×List MemPlace} (h:DataW.trod enc Pg w base spare held m 32 cs=some y) (hr:Reached Pg 32 y.1):∃ x,ETerm w cs x:=by
 obtain ⟨hl,n,hf⟩:=struct_of_trod Tryz.underlying32 cellsTerm h hr
 obtain ⟨y0,h0,r0⟩:=hf 0 9 0 1 rfl cellsString
 obtain ⟨y1,h1,r1⟩:=hf 1 3 1 1 rfl cellsInt
 match cs,hl with
 | [c0,c1],_ =>
  obtain ⟨s,e0,_⟩:=DataW.trod_string Tryz.underlying9 h0
  obtain ⟨k,e1,_⟩:=DataW.trod_int Tryz.underlying3 h1
  simp at e0 e1
  subst e0 e1
  exact ⟨⟨s,k⟩,rfl⟩
theorem size_of {m:Nat} {cs:List Value} {y:DataW H×List MemPlace} (h:DataW.trod enc Pg w base spare held m 24 cs=some y) (hr:Reached Pg 24 y.1):∃ b tv ts,cs=[.int .i64 b,tv]∧TermsOf w tv ts∧ts.length≤140737488355328:=by
 obtain ⟨hl,n,hf⟩:=struct_of_trod Tryz.underlying24 cellsSize h hr
 obtain ⟨y0,h0,r0⟩:=hf 0 3 0 1 rfl cellsInt
 obtain ⟨y1,h1,r1⟩:=hf 1 22 1 1 rfl cellsTerms
 match cs,hl with
 | [c0,c1],_ =>
  obtain ⟨a,e0,_⟩:=DataW.trod_int Tryz.underlying3 h0
  obtain ⟨v,l,e1,hS,_,hL⟩:=slice_of_trod (E:=ETerm) (Q:=fun _=>True) Tryz.underlying22 cellsTerm bytesTerm (by decide) (fun _ _ _ h hr=>let ⟨x,hx⟩:=term_of h hr; ⟨x,hx,trivial⟩) h1 r1
  simp at e0 e1
  subst e0 e1
  exact ⟨a,_,l,rfl,hS,hL⟩
theorem siz_val {r:Reach} {b0:Nat} {v:Value} {d:DataW H} {ps:List MemPlace} (hval:Value.okWide Pg w r b0 24 v) (h:DataW.Trod enc Pg w base spare held 24 v d ps) (hr:Reached Pg 24 d):∃ f:Int×List TermD,SizeVal w v f.1 f.2∧True:=by
 obtain ⟨cs,rfl,_⟩:=okWide_struct Tryz.underlying24 hval
 obtain ⟨fuel,hf⟩:=h
 obtain ⟨b,tv,ts,h1,h2,_⟩:=size_of hf hr
 exact ⟨(b,ts),⟨tv,congrArg Value.agg (by rw [← Array.toArray_toList (xs := #[.int .i64 b,tv]),← h1,cells_agg]),h2⟩,trivial⟩
end
end Go.Proofs.YtpgkjhikdhdffaaGreatDoor
namespace Go.Proofs.YtpgkjhikdhdffaaGreatDoor
open Sw
open Go.RowKit (intOf Below)
theorem rInterval_all (w0:World) (v rv:Value) (base:Int) (ts:List TermD) (rp:List (ByteArray×Int×Int)) (hs:SizeVal w0 v base ts) (hR:RansOf w0 rv rp):Ret Pg 22 #[v,rv] w0 fun r w'=>r=ivOf base ts rp∧Ext w0 w':=by
 obtain ⟨tv,rfl,hT⟩:=hs
 have hS1:=hT
 obtain ⟨A,c,rfl,hlc,hcm,hlm,hel⟩:=SliceOf.open hT
 obtain ⟨A2,c2,rfl,hlc2,hcm2,hlm2,hel2⟩:=SliceOf.open hR
 refine n12s (R:=retR _) ?_;unfold n12
 simp (disch:=try exact DI) only [↓PR,QR,simprocAttr]
 have hBW:=ElemAt.new (w:=w0) ([.int .i64 base,.slice A ts.length c]) (24)
 have eW:Ext w0 (w0.alloc (Obj.cells (List.toArray ([.int .i64 base,.slice A ts.length c])) (24))):=(Ext.refl _).alloc _
 generalize (w0.alloc (Obj.cells (List.toArray ([.int .i64 base,.slice A ts.length c])) (24)))=W at hBW eW ⊢
 refine zcr (rSizeValid_ret _ _ base ts ⟨_,rfl,hS1.ext eW⟩) fun w1 e1=>?_
 have E1:=eW.trans e1
 unfold n12c15
 cases hsz:sizeB base ts with
 | false =>
  simp (disch:=try exact DI) only [↓PR,QR,simprocAttr]
  refine ⟨?_,E1⟩
  rw [iv_bad (by unfold intervalE;rw [hsz];rfl)]
 | true =>
 obtain ⟨hb,h4,hterm⟩:=terms_names hsz
 simp (disch:=try exact DI) only [↓PR,QR,simprocAttr]
 refine loop2_intro (fun a0 a1 w=>∃ (k:Nat) (no:Bool),a0 = .bool no∧a1 = .int .i64 (k:Int)∧k≤ts.length∧Ext w1 w∧checkedF ByteArray.empty (RP rp) wideV (ts.drop k) no=checkedF ByteArray.empty (RP rp) wideV ts false∧(no=false→∀ j t,j < k→ts[j]?=some t→(lastR rp t.field).isSome=true∧wideB (rngT rp t).1 (rngT rp t).2=true)) (fun a0 a1 _=>ts.length - (intOf a1).toNat) ⟨0,false,rfl,rfl,Nat.zero_le _,ee,⟨rfl,fun _ j t h=>by omega⟩⟩ ?_
 rintro _ _ w ⟨k,no,rfl,rfl,hk,e,hI⟩
 have se:=e.size
 rcases drop_cases hk with ⟨x,hx,hd,hlt,hdec⟩ | ⟨hk,hd,hdec⟩
 · obtain ⟨b,o,cs,rfl,hl,hA,rfl⟩:=hel k x hx
   obtain ⟨hC,hI⟩:=hI
   have E:=E1.trans e
   have f:=e1.trans e
   have hne:x.field≠ByteArray.empty:=by
    have:=hterm x (List.mem_of_getElem? hx)
    unfold termB at this
    simp only [Bool.and_eq_true] at this
    exact name_ne this.1.1
   rw [hd] at hC
   simp only [checkedF,if_neg hne,lastOf_RP] at hC
   unfold n12c14
   simp (disch:=try exact DI) only [↓PR,QR,simprocAttr,hBW.c2,hdec]
   unfold n12c13
   simp (disch:=try exact DI) only [↓PR,QR,simprocAttr,hBW.c2,(hA.c2 E).1]
   refine callK_ret (rFindRange_ret _ _ rp x.field (hR.ext E)) ?_
   rintro _ w2 ⟨⟨a,rfl,ha⟩,e2⟩
   rcases ha with ⟨rfl,hno⟩ | ⟨j,q,rfl,hj,hq⟩
   · rw [hno] at hC
     simp only [Option.map_none] at hC
     simp (disch:=try exact DI) only [↓PR,QR,simprocAttr]
     exact ⟨⟨k+1,true,rfl,rfl,hlt,e.trans e2,hC,fun h=>by cases h⟩,meas_lt (kd := .i64) hlt⟩
   rw [hq] at hC
   simp only [Option.map_some] at hC
   rw [show wideV (rangeVal q.1 q.2)=wideB q.1 q.2 from rfl] at hC
   obtain ⟨b',o',cs',rfl,_,hB,rfl⟩:=hel2 j _ hj
   have hjl:(j:Int) < (rp.length:Int):=by have:=(List.getElem?_eq_some_iff.1 hj).1;omega
   have E2:=E.trans e2
   have hq':=rng_some hq
   have d0:decide ((j:Int) < 0)=false:=by simp
   have stop:wideB q.1 q.2=false→(Value.tuple #[.int .i64 0,.int .i64 0,.int .i64 2])=ivOf base ts rp:=fun h=>by
    rw [h] at hC
    rw [iv_bad (by unfold intervalE;rw [hsz,if_pos rfl,← hC];rfl)]
   simp (disch:=try exact DI) only [↓PR,QR,simprocAttr,d0]
   refine drawK_intro ?_
   unfold n12c2
   by_cases h1:q.1 < 0
   · have d1:decide (q.1 < 0)=true:=by simpa using h1
     simp (disch:=try exact DI) only [↓PR,QR,simprocAttr,(hB.c3 E2).1,(hB.c3 E2).2,d1]
     unfold n12c1
     simp (disch:=try exact DI) only [↓PR,QR,simprocAttr]
     exact ⟨stop (by unfold wideB;simp;omega),ee⟩
   have d1:decide (q.1 < 0)=false:=by simpa using h1
   by_cases h2:q.1 > q.2
   · have d2:decide (q.1 > q.2)=true:=by simpa using h2
     simp (disch:=try exact DI) only [↓PR,QR,simprocAttr,(hB.c3 E2).1,(hB.c3 E2).2,d1,d2]
     unfold n12c1
     simp (disch:=try exact DI) only [↓PR,QR,simprocAttr]
     exact ⟨stop (by unfold wideB;simp;omega),ee⟩
   have d2:decide (q.1 > q.2)=false:=by simpa using h2
   by_cases h3:q.2≥34359738368
   · have d3:decide (q.2≥34359738368)=true:=by simpa using h3
     simp (disch:=try exact DI) only [↓PR,QR,simprocAttr,(hB.c3 E2).1,(hB.c3 E2).2,d1,d2,d3]
     unfold n12c1
     simp (disch:=try exact DI) only [↓PR,QR,simprocAttr,(hB.c3 E2).1,(hB.c3 E2).2,d3]
     exact ⟨stop (by unfold wideB;simp;omega),ee⟩
   have d3:decide (q.2≥34359738368)=false:=by simpa using h3
   simp (disch:=try exact DI) only [↓PR,QR,simprocAttr,(hB.c3 E2).1,(hB.c3 E2).2,d1,d2,d3]
   unfold n12c1
   simp (disch:=try exact DI) only [↓PR,QR,simprocAttr,(hB.c3 E2).1,(hB.c3 E2).2,d3]
   have hwt:wideB q.1 q.2=true:=by unfold wideB;simp;omega
   rw [hwt,if_pos rfl] at hC
   refine ⟨⟨k+1,no,by first | trivial | rfl,by first | trivial | rfl,by omega,e.trans e2.wdrew,hC,fun hn i z hi hz=>?_⟩,meas_lt (kd := .i64) hlt⟩
   by_cases hij:i=k
   · subst hij;rw [hx] at hz;injection hz with hz;subst hz
     exact ⟨by rw [hq];rfl,by rw [hq'];exact hwt⟩
   · exact hI hn i z (by omega) hz
 · subst hk
   have E:=E1.trans e
   have f:=e1.trans e
   obtain ⟨hC,hI0⟩:=hI
   cases no with
   | true =>
    rw [List.drop_length] at hC
    simp only [checkedF,if_true] at hC
    unfold n12c14
    simp (disch:=try exact DI) only [↓PR,QR,simprocAttr,hBW.c2,hdec]
    refine ⟨_,rfl,?_,E⟩
    have h9:intervalE base ts rp=9:=by unfold intervalE;rw [hsz,if_pos rfl,← hC]
    unfold ivOf intervalL intervalH
    rw [h9]
    rfl
   | false =>
   have hI:∀ j t,j < ts.length→ts[j]?=some t→wideB (rngT rp t).1 (rngT rp t).2=true:=fun j t hj ht=>(hI0 rfl j t hj ht).2
   have hin:∀ t∈ts,(lastR rp t.field).isSome=true:=fun t ht=>by
    obtain ⟨j,hj⟩:=List.getElem?_of_mem ht
    exact (hI0 rfl j t (List.getElem?_eq_some_iff.1 hj).1 hj).1
   clear hI0 hC
   obtain ⟨hsm,hiv⟩:=iv_fine hsz hin (fun t ht=>by obtain ⟨j,hj⟩:=List.getElem?_of_mem ht;exact hI j t (List.getElem?_eq_some_iff.1 hj).1 hj)
   rw [hiv]
   clear hiv hI
   unfold n12c14
   simp (disch:=try exact DI) only [↓PR,QR,simprocAttr,hBW.c2,hdec]
   unfold n12c12
   simp (disch:=try exact DI) only [↓PR,QR,simprocAttr]
   obtain ⟨hall,⟨mL,hmL,hvL⟩,⟨mH,hmH,hvH⟩⟩:=mix_least (rp:=rp) (ts:=ts) (fun t ht=>⟨hin t ht,hsm t ht⟩)
   have hp16:2 ^ ts.length≤16:=by
    have:(2:Nat) ^ ts.length≤2 ^ 4:=Nat.pow_le_pow_right (by decide) h4
    exact this
   have hpow:IntKind.i64.wrap (1*2 ^ ((ts.length:Int)).toNat)=((2 ^ ts.length:Nat):Int):=by
    rw [Int.toNat_natCast,Int.one_mul]
    rw [show ((2:Int) ^ ts.length)=((2 ^ ts.length:Nat):Int) by simp]
    exact wrap_ok (by omega) (by omega)
   have hbase : -1048576≤base∧base≤1048576:=by unfold smallB at hb;simpa using hb
   refine loop3_intro (fun x y i w'=>∃ (lo hi:Int) (mix:Nat),x = .int .i64 lo∧y = .int .i64 hi∧i = .int .i64 mix∧mix≤2 ^ ts.length∧Ext w0 w'∧Ext W w'∧(mix≠0→base+sumT (endF rp true) ts≤lo∧hi≤base+sumT (endF rp false) ts)∧∀ j,j < mix→lo≤base+mixS rp j 0 ts∧base+mixS rp j 0 ts≤hi) (fun _ _ i _=>2 ^ ts.length - (intOf i).toNat) ⟨0,0,0,rfl,rfl,rfl,Nat.zero_le _,E,f,by simp,by intro j h;omega⟩ ?_
   rintro _ _ _ w3 ⟨lo,hi,mix,rfl,rfl,rfl,hmix,E3,f3,hLH,hall3⟩
   unfold n12c11
   by_cases hm:mix < 2 ^ ts.length
   · have d1:decide ((mix:Int) < ((2 ^ ts.length:Nat):Int))=true:=by simp only [decide_eq_true_eq];exact Int.ofNat_lt.2 hm
     simp (disch:=try exact DI) only [↓PR,QR,simprocAttr,hBW.c2,hpow,d1]
     unfold n12c10
     simp (disch:=try exact DI) only [↓PR,QR,simprocAttr,hBW.c2]
     have hnext:∀ (n:Int) (w':World),n=base+mixS rp mix 0 ts→Ext w3 w'→n12c7 (.int .i64 lo) (.int .i64 hi) (.int .i64 (mix:Int)) (.int .i64 n) (fun t10 t11 t12 w'=>(∃ (lo hi:Int) (mix:Nat),t10 = .int .i64 lo∧t11 = .int .i64 hi∧t12 = .int .i64 mix∧mix≤2 ^ ts.length∧Ext w0 w'∧Ext W w'∧(mix≠0→base+sumT (endF rp true) ts≤lo∧hi≤base+sumT (endF rp false) ts)∧∀ j,j < mix→lo≤base+mixS rp j 0 ts∧base+mixS rp j 0 ts≤hi)∧2 ^ ts.length - (intOf t12).toNat < 2 ^ ts.length - (intOf (.int .i64 (mix:Int))).toNat) (retR fun r w'=>r=Value.tuple #[.int .i64 (base+sumT (endF rp true) ts),.int .i64 (base+sumT (endF rp false) ts),.int .i64 0]∧Ext w0 w') w':=by
      intro n w' hn e'
      have hv:=hall mix
      have hw:IntKind.i64.wrap ((mix:Int)+1)=((mix+1:Nat):Int):=by rw [wrap_ok (by omega) (by omega)];omega
      have hgo:∀ lo' hi':Int,(base+sumT (endF rp true) ts≤lo'∧hi'≤base+sumT (endF rp false) ts)→(lo'≤n∧n≤hi')→(∀ j,j < mix→lo'≤base+mixS rp j 0 ts∧base+mixS rp j 0 ts≤hi')→(∃ (lo hi:Int) (mix_1:Nat),Value.int .i64 lo' = .int .i64 lo∧Value.int .i64 hi' = .int .i64 hi∧Value.int .i64 ((mix+1:Nat):Int) = .int .i64 mix_1∧mix_1≤2 ^ ts.length∧Ext w0 w'∧Ext W w'∧(mix_1≠0→base+sumT (endF rp true) ts≤lo∧hi≤base+sumT (endF rp false) ts)∧∀ j,j < mix_1→lo≤base+mixS rp j 0 ts∧base+mixS rp j 0 ts≤hi)∧2 ^ ts.length - (intOf (Value.int .i64 ((mix+1:Nat):Int))).toNat < 2 ^ ts.length - (intOf (.int .i64 (mix:Int))).toNat:=by
       intro lo' hi' h1 h2 h3
       refine ⟨⟨lo',hi',mix+1,rfl,rfl,rfl,hm,E3.trans e',f3.trans e',fun _=>h1,fun j hj=>?_⟩,meas_lt (kd := .i64) hm⟩
       by_cases hjm:j=mix
       · subst hjm;rw [← hn];exact h2
       · exact h3 j (by omega)
      unfold n12c7
      by_cases hz:mix=0
      · subst hz
        simp (disch:=try exact DI) only [↓PR,QR,simprocAttr]
        unfold n12c6
        simp (disch:=try exact DI) only [↓PR,QR,simprocAttr]
        unfold n12c5
        simp (disch:=try exact DI) only [↓PR,QR,simprocAttr]
        exact hgo n n (by omega) (by omega) (by intro j hj;omega)
      · have d2:((mix:Int) == 0)=false:=by simp;omega
        have hl:=hLH hz
        by_cases hlo:n < lo
        · have d3:decide (n < lo)=true:=by simpa using hlo
          simp (disch:=try exact DI) only [↓PR,QR,simprocAttr,d2,d3]
          unfold n12c6
          by_cases hhi:n > hi
          · have d4:decide (n > hi)=true:=by simpa using hhi
            simp (disch:=try exact DI) only [↓PR,QR,simprocAttr,d2,d4]
            unfold n12c5
            simp (disch:=try exact DI) only [↓PR,QR,simprocAttr]
            exact hgo n n (by omega) (by omega) (fun j hj=>by have:=hall3 j hj;omega)
          · have d4:decide (n > hi)=false:=by simpa using hhi
            simp (disch:=try exact DI) only [↓PR,QR,simprocAttr,d2,d4]
            unfold n12c5
            simp (disch:=try exact DI) only [↓PR,QR,simprocAttr]
            exact hgo n hi (by omega) (by omega) (fun j hj=>by have:=hall3 j hj;omega)
        · have d3:decide (n < lo)=false:=by simpa using hlo
          simp (disch:=try exact DI) only [↓PR,QR,simprocAttr,d2,d3]
          unfold n12c6
          by_cases hhi:n > hi
          · have d4:decide (n > hi)=true:=by simpa using hhi
            simp (disch:=try exact DI) only [↓PR,QR,simprocAttr,d2,d4]
            unfold n12c5
            simp (disch:=try exact DI) only [↓PR,QR,simprocAttr]
            exact hgo lo n (by omega) (by omega) (fun j hj=>by have:=hall3 j hj;omega)
          · have d4:decide (n > hi)=false:=by simpa using hhi
            simp (disch:=try exact DI) only [↓PR,QR,simprocAttr,d2,d4]
            unfold n12c5
            simp (disch:=try exact DI) only [↓PR,QR,simprocAttr]
            exact hgo lo hi (by omega) (by omega) (fun j hj=>by have:=hall3 j hj;omega)
     refine loop2_intro (fun a0 a1 wb=>∃ (kb:Nat) (n:Int),a0 = .int .i64 n∧a1 = .int .i64 (kb:Int)∧kb≤ts.length∧Ext w3 wb∧n+mixS rp mix kb (ts.drop kb)=base+mixS rp mix 0 ts ∧ -1048576 - kb*36028797018963968≤n∧n≤1048576+kb*36028797018963968) (fun a0 a1 _=>ts.length - (intOf a1).toNat) ⟨0,base,rfl,rfl,Nat.zero_le _,ee,⟨rfl,by omega,by omega⟩⟩ ?_
     rintro _ _ wb ⟨kb,n,rfl,rfl,hkb,eb,hIb⟩
     have seb:=eb.size
     rcases drop_cases hkb with ⟨xb,hxb,hdb,hltb,hdecb⟩ | ⟨hkb,hdb,hdecb⟩
     · obtain ⟨hsum,hn1,hn2⟩:=hIb
       obtain ⟨b,o,cs,rfl,hl,hA,rfl⟩:=hel kb xb hxb
       have Eb:=E3.trans eb
       have fb:=f3.trans eb
       unfold n12c9
       simp (disch:=try exact DI) only [↓PR,QR,simprocAttr,hBW.c2,hdecb]
       unfold n12c8
       simp (disch:=try exact DI) only [↓PR,QR,simprocAttr,hBW.c2,(hA.c2 Eb).1]
       refine callK_ret (rFindRange_ret _ _ rp xb.field (hR.ext Eb)) ?_
       rintro _ w5 ⟨⟨a,rfl,ha⟩,e5⟩
       have hxm:=List.mem_of_getElem? hxb
       rcases ha with ⟨rfl,hno⟩ | ⟨j,q,rfl,hj,hq⟩
       · have:=hin xb hxm
         rw [hno] at this;cases this
       obtain ⟨b',o',cs',rfl,_,hB,rfl⟩:=hel2 j _ hj
       have hjl:(j:Int) < (rp.length:Int):=by have:=(List.getElem?_eq_some_iff.1 hj).1;omega
       have E5:=Eb.trans e5
       have f5:=fb.trans e5
       have hq':=rng_some hq
       obtain ⟨s1,s2,s3,s4,s5⟩:=hsm xb hxm
       rw [hq'] at s3 s4 s5
       unfold n12c4
       have hmod:(((mix / 2 ^ kb:Nat):Int)).tmod 2=((mix / 2 ^ kb % 2:Nat):Int):=(Int.ofNat_tmod _ 2).symm
       have hstep:∀ u:Int,u=mixT rp mix kb xb→(∃ (kb_1:Nat) (n1:Int),Value.int .i64 (n+xb.factor*u) = .int .i64 n1∧Value.int .i64 ((kb+1:Nat):Int) = .int .i64 kb_1∧kb_1≤ts.length∧n1+mixS rp mix kb_1 (ts.drop kb_1)=base+mixS rp mix 0 ts ∧ -1048576 - kb_1*36028797018963968≤n1∧n1≤1048576+kb_1*36028797018963968):=by
        intro u hu
        have hmb : -36028797018963968≤xb.factor*u∧xb.factor*u≤36028797018963968:=by
         rw [hu]
         unfold mixT
         rw [hq']
         split
         · exact mul_bound s1 s2 (by omega) s5
         · exact mul_bound s1 s2 s3 (by omega)
        refine ⟨kb+1,_,rfl,rfl,hltb,?_,by omega,by omega⟩
        rw [hdb] at hsum
        simp only [mixS] at hsum
        rw [hu]
        omega
       simp (disch:=try exact DI) only [↓PR,QR,simprocAttr,hB.c3 E5]
       rw [op_shr _ _ mix .i64 kb (by omega)]
       have hmul:∀ u:Int,u=mixT rp mix kb xb→IntKind.i64.wrap (xb.factor*u)=xb.factor*u∧IntKind.i64.wrap (n+xb.factor*u)=n+xb.factor*u:=by
        intro u hu
        have hmb : -36028797018963968≤xb.factor*u∧xb.factor*u≤36028797018963968:=by
         rw [hu]
         unfold mixT
         rw [hq']
         split
         · exact mul_bound s1 s2 (by omega) s5
         · exact mul_bound s1 s2 s3 (by omega)
        exact ⟨wrap_ok (by omega) (by omega),wrap_ok (by omega) (by omega)⟩
       by_cases hbit:mix / 2 ^ kb % 2=1
       · have f6:Ext W (w5.alloc (Obj.cells #[.string xb.field,.int .i64 q.1,.int .i64 q.2] 95)):=f5.alloc _
         have E6:Ext w0 (w5.alloc (Obj.cells #[.string xb.field,.int .i64 q.1,.int .i64 q.2] 95)):=E5.alloc _
         have hu:q.2=mixT rp mix kb xb:=by unfold mixT;rw [if_pos hbit,hq']
         have d5:((((mix / 2 ^ kb % 2:Nat)):Int) == 1)=true:=by rw [hbit];rfl
         simp (disch:=try exact DI) only [↓PR,QR,simprocAttr,hmod,d5]
         unfold n12c3
         simp (disch:=try exact DI) only [↓PR,QR,simprocAttr,hBW.c2,(hA.c2 E6).2,(hmul _ hu).1,(hmul _ hu).2]
         obtain ⟨kk,nn,h1,h2,h3,h4,h5,h6⟩:=hstep _ hu
         exact ⟨⟨kk,nn,h1,h2,h3,eb.trans (e5.alloc _),h4,h5,h6⟩,meas_lt (kd := .i64) hltb⟩
       · have f6:Ext W (w5.alloc (Obj.cells #[.string xb.field,.int .i64 q.1,.int .i64 q.2] 95)):=f5.alloc _
         have E6:Ext w0 (w5.alloc (Obj.cells #[.string xb.field,.int .i64 q.1,.int .i64 q.2] 95)):=E5.alloc _
         have hu:q.1=mixT rp mix kb xb:=by unfold mixT;rw [if_neg hbit,hq']
         have d5:((((mix / 2 ^ kb % 2:Nat)):Int) == 1)=false:=by simp only [beq_eq_false_iff_ne,ne_eq];omega
         simp (disch:=try exact DI) only [↓PR,QR,simprocAttr,hmod,d5]
         unfold n12c3
         simp (disch:=try exact DI) only [↓PR,QR,simprocAttr,hBW.c2,(hA.c2 E6).2,(hmul _ hu).1,(hmul _ hu).2]
         obtain ⟨kk,nn,h1,h2,h3,h4,h5,h6⟩:=hstep _ hu
         exact ⟨⟨kk,nn,h1,h2,h3,eb.trans (e5.alloc _),h4,h5,h6⟩,meas_lt (kd := .i64) hltb⟩
     · subst hkb
       obtain ⟨hsum,_⟩:=hIb
       have fb:=f3.trans eb
       rw [hdb] at hsum
       simp only [mixS] at hsum
       unfold n12c9
       simp (disch:=try exact DI) only [↓PR,QR,simprocAttr,hBW.c2,hdecb]
       exact hnext n wb (by omega) eb
   · have hme:mix=2 ^ ts.length:=by omega
     have d1:decide ((mix:Int) < ((2 ^ ts.length:Nat):Int))=false:=by simp only [decide_eq_false_iff_not];exact fun h=>hm (Int.ofNat_lt.1 h)
     simp (disch:=try exact DI) only [↓PR,QR,simprocAttr,hBW.c2,hpow,d1]
     have hpos:0 < 2 ^ ts.length:=Nat.two_pow_pos _
     have h1:=hLH (by omega)
     have h2:=hall3 mL (by omega)
     have h3:=hall3 mH (by omega)
     rw [hvL] at h2
     rw [hvH] at h3
     have e1:lo=base+sumT (endF rp true) ts:=by omega
     have e2:hi=base+sumT (endF rp false) ts:=by omega
     subst e1 e2
     exact ⟨rfl,E3⟩
theorem SizeIntervals_ret (W:World) (v0 v1:Value) (base:Int) (ts:List TermD) (rp:List (ByteArray×Int×Int)) (hs:SizeVal W v0 base ts) (hV:RansOf W v1 rp) (hE:EnvOK W) :
 Ret Pg 5 #[v0,v1] W fun r w'=>r = .bool true∧Ext W w':=by
 obtain ⟨tv,rfl,hT⟩:=hs
 have hV0:=hV
 obtain ⟨A,c,rfl,_,_,_,_⟩:=SliceOf.open hT
 obtain ⟨A1,c1,rfl,_,_,_,_⟩:=SliceOf.open hV
 refine n4s (R:=retR _) ?_;unfold n4
 simp (disch:=try exact DI) only [↓PR,QR,simprocAttr]
 generalize hW:World.alloc W _=D
 have e0:Ext W D:=by rw [← hW];exact ee
 have o2:D.heap[W.heap.size]?=some (.cells #[.int .i64 base,.slice A ts.length c] TSz (0,0)):=by rw [← hW];simp (disch:=try exact DI) only [↓PR,QR,simprocAttr]
 clear hW
 by_cases hbig:ts.length > 10∨rp.length > 12
 · have known:callK Pg 9 #[] (panK (retR fun r w'=>r = .bool true∧Ext W w')) D fun t24 w=>(retR fun r w'=>r = .bool true∧Ext W w') (.returned t24) w:=by
    refine zcr (known_ret (hE.ext e0)) fun w1 e1=>?_
    exact ⟨_,rfl,rfl,e0.trans e1⟩
   by_cases h1:ts.length > 10
   · have d1:decide ((ts.length:Int) > 10)=true:=decide_eq_true (by omega)
     simp (disch:=try exact DI) only [↓PR,QR,simprocAttr,(cells_of_heap o2).1,d1,↓n4c5]
     exact known
   · have d1:decide ((ts.length:Int) > 10)=false:=decide_eq_false (by omega)
     have d2:decide ((rp.length:Int) > 12)=true:=decide_eq_true (by omega)
     simp (disch:=try exact DI) only [↓PR,QR,simprocAttr,(cells_of_heap o2).1,d1,d2,↓n4c5]
     exact known
 · have d1:decide ((ts.length:Int) > 10)=false:=decide_eq_false (by omega)
   have d2:decide ((rp.length:Int) > 12)=false:=decide_eq_false (by omega)
   simp (disch:=try exact DI) only [↓PR,QR,simprocAttr,(cells_of_heap o2).1,d1,d2,↓n4c5]
   refine callK_ret (ranges_ret D _ rp (hV0.ext e0) (by omega)) ?_
   rintro _ w1 ⟨⟨m,rv,rfl,hm,hrv⟩,e1⟩
   have o3:=e1.obj o2
   have E1:=e0.trans e1
   clear o2 e1 e0
   unfold n4c4
   simp (disch:=try exact DI) only [↓PR,QR,simprocAttr,(cells_of_heap o3).1]
   refine zcr (Interval_ret w1 _ base ts m rp ⟨_,rfl,TermsOf.ext hT E1⟩ (by omega) hm) fun w2 e2=>?_
   have o4:=e2.obj o3
   unfold n4c3 rangeVal
   have eA:Ext w2 (w2.alloc (.cells #[.int .i64 (intervalL base ts rp),.int .i64 (intervalH base ts rp)] 51)):=(Ext.refl _).alloc _
   have oA:(w2.alloc (.cells #[.int .i64 (intervalL base ts rp),.int .i64 (intervalH base ts rp)] 51)).heap[w2.heap.size]?=some (.cells #[.int .i64 (intervalL base ts rp),.int .i64 (intervalH base ts rp)] 51 (0,0)):=World.alloc_heap_new w2 _
   simp (disch:=try exact DI) only [↓PR,QR,simprocAttr,(cells_of_heap (eA.obj o4)).1]
   have E2:=(E1.trans e2).trans eA
   have hT2:=TermsOf.ext hT E2
   have hrv2:=(hrv.ext e2).ext eA
   generalize w2.alloc (.cells #[.int .i64 (intervalL base ts rp),.int .i64 (intervalH base ts rp)] 51)=w3 at *
   generalize w2.heap.size=p7 at *
   refine zcr (rInterval_all w3 _ rv base ts rp ⟨_,rfl,hT2⟩ hrv2) fun w4 e4=>?_
   have oA4:=e4.obj oA
   have E4:=E2.trans e4
   have self:∀ n:Int,(n == n)=true:=fun n=>by simp
   unfold ivOf n4c2
   simp (disch:=try exact DI) only [↓PR,QR,simprocAttr,(cells_of_heap oA4).1,self]
   unfold n4c1
   simp (disch:=try exact DI) only [↓PR,QR,simprocAttr]
   refine zcr (known_ret (hE.ext E4)) fun w6 e6=>?_
   simp (disch:=try exact DI) only [↓PR,QR,simprocAttr]
   exact ⟨trivial,E4.trans e6⟩
end Go.Proofs.YtpgkjhikdhdffaaGreatDoor
namespace Go.Proofs.YtpgkjhikdhdffaaGreatDoor
open Sw
open Go.RowKit Go.Deep
open Go.ChangeShapes Go.WideShapes Go.ChangeAt
theorem cellsRng:Pg.cellsOf 51=2:=by kernel_rfl
theorem cellsRan:Pg.cellsOf 68=3:=by kernel_rfl
theorem bytesRan:1≤Pg.bytesOf 68:=Nat.le_of_ble_eq_true (by kernel_rfl)
section
variable {H:Type} {enc:TypeId×Value→H} {w:World} {base:Nat} {spare:Nat→Bool} {held:Bool}
theorem rng_of {m:Nat} {cs:List Value} {y:DataW H×List MemPlace} (h:DataW.trod enc Pg w base spare held m 51 cs=some y) (hr:Reached Pg 51 y.1):∃ a b,cs=[.int .i64 a,.int .i64 b]:=by
 obtain ⟨hl,n,hf⟩:=struct_of_trod Tryz.underlying51 cellsRng h hr
 obtain ⟨y0,h0,r0⟩:=hf 0 3 0 1 rfl cellsInt
 obtain ⟨y1,h1,r1⟩:=hf 1 3 1 1 rfl cellsInt
 match cs,hl with
 | [c0,c1],_ =>
  obtain ⟨s,e0,_⟩:=DataW.trod_int Tryz.underlying3 h0
  obtain ⟨k,e1,_⟩:=DataW.trod_int Tryz.underlying3 h1
  simp at e0 e1
  subst e0 e1
  exact ⟨s,k,rfl⟩
theorem ran_of {m:Nat} {cs:List Value} {y:DataW H×List MemPlace} (h:DataW.trod enc Pg w base spare held m 68 cs=some y) (hr:Reached Pg 68 y.1):∃ x,ERan w cs x:=by
 obtain ⟨hl,n,hf⟩:=struct_of_trod Tryz.underlying68 cellsRan h hr
 obtain ⟨y0,h0,r0⟩:=hf 0 9 0 1 rfl cellsString
 obtain ⟨y1,h1,r1⟩:=hf 1 51 1 2 rfl cellsRng
 match cs,hl with
 | [c0,c1,c2],_ =>
  obtain ⟨s,e0,_⟩:=DataW.trod_string Tryz.underlying9 h0
  obtain ⟨a,b,e1⟩:=rng_of h1 r1
  simp at e0 e1
  obtain ⟨e1,e2⟩:=e1
  subst e0 e1 e2
  exact ⟨(s,a,b),rfl⟩
theorem rans_val {r:Reach} {b0:Nat} {v:Value} {d:DataW H} {ps:List MemPlace} (hval:Value.okWide Pg w r b0 45 v) (h:DataW.Trod enc Pg w base spare held 45 v d ps) (hr:Reached Pg 45 d):∃ f:List (ByteArray×Int×Int),RansOf w v f∧True:=by
 obtain ⟨a,len,cap,rfl⟩:=okWide_slice Tryz.underlying45 hval
 obtain ⟨fuel,hf⟩:=h
 obtain ⟨v',l,e1,hS,_,_⟩:=slice_of_trod (E:=ERan) (Q:=fun _=>True) Tryz.underlying45 cellsRan bytesRan (by decide) (fun _ _ _ h hr=>let ⟨x,hx⟩:=ran_of h hr; ⟨x,hx,trivial⟩) hf hr
 have e2:[Value.slice a len cap]=[v']:=e1
 injection e2 with e2 _
 subst e2
 exact ⟨l,hS,trivial⟩
end
theorem SizeIntervals_at (W:World) (v0:Value) (f0:Int×List TermD) (v1:Value) (f1:List (ByteArray×Int×Int)) (h0:SizeVal W v0 f0.1 f0.2) (_:True) (h1:RansOf W v1 f1) (_:True) (hE:EnvOK W):Ret Pg 5 #[v0,v1] W fun r w'=>r = .bool true∧Ext W w':=SizeIntervals_ret W v0 v1 f0.1 f0.2 f1 h0 h1 hE
end Go.Proofs.YtpgkjhikdhdffaaGreatDoor
namespace Go.Proofs.YtpgkjhikdhdffaaGreatDoor
open Sw
open Go.ChangeShapes Go.WideShapes Go.RowKit Go.ChangeAt Go.Deep
theorem zintervals_lifted (os:Os) (started:os.Started) (H:Type) (enc:TypeId×Value→H) :
 ReturnsInHanded {} Tryz.checked os 5 .any (fun w args=>(Rows.sizeIntervalsSpec.pre enc Pg Tryz.f5 Rows.sizeIntervalsRow.domain false w args∧laidMetH Pg role_laid w)∧sizedMet enc Pg Tryz.f5 (OpenSpec.ofChange Rows.sizeIntervalsSpec) false w args) (Rows.sizeIntervalsSpec.post enc Pg Tryz.f5 false true false false):=by
 refine handed_and (C:=Tryz.checked) (X:=fun w _=>laidMetH Pg role_laid w) (fun _ _ _ hh h=>h.of_heap hh) role_own started (by kernel_rfl) Tryz.func5
  (ChangeSpec.witness_shaped (enc:=enc) (C:=Tryz.checked) (os:=os) (X:=fun w _=>laidMetH Pg role_laid w) false (World.laidAll Pg os role_laid) #[.agg #[.int .i64 0,.slice none 0 0],.slice none 0 0] 8 (World.laidAll_os _ _ _) (World.shaped_of_ZipB (by kernel_rfl) (by kernel_rfl)) (by kernel_rfl) (by kernel_rfl) (by kernel_rfl) (role_met os _)) ?_
 intro W base args ds gs before hval hW _ hsz hL hsh _
 have hW':=hW
 obtain ⟨p,q,hA0,hV,rfl,_,_⟩:=hW
 have hA:DataW.TrodAll enc Pg W 0 (fun _=>true) true Tryz.f5.params.toList args.toList ds p:=hA0
 rw [Tryz.params5] at hA hval hsz
 obtain ⟨v0,vs0,d0,ds0,p0,q0,ha0,rfl,rfl,h0,r0⟩:=trodAll_cons hA
 obtain ⟨v1,vs1,d1,ds1,p1,q1,ha1,rfl,rfl,h1,r1⟩:=trodAll_cons r0
 obtain ⟨rfl,rfl,rfl⟩:=trodAll_nil r1
 subst ha1
 obtain rfl:args = #[v0,v1]:=by cases args;simp_all
 obtain ⟨f0,hf0,hs0⟩:=siz_val (hval 0 _ v0 rfl rfl) h0 (reached_of (j:=0) hsz rfl rfl)
 obtain ⟨f1,hf1,hs1⟩:=rans_val (hval 1 _ v1 rfl rfl) h1 (reached_of (j:=1) hsz rfl rfl)
 refine Calls.mono (SizeIntervals_at W v0 f0 v1 f1 hf0 hs0 hf1 hs1 (role_env hsh hL)) fun e W' ⟨v,he,hv,hx⟩=>?_
 subst he hv
 exact ⟨_,rfl,law_post role_laidOut (by decide +kernel) rfl hW' hx rfl Tryz.underlying4 rfl rfl rfl⟩
theorem zintervals_holds:Rows.SizeIntervalsSaid :=
 OpenClaim.holds_of_wide 5 Tryz.f5 rfl rfl rfl rfl rfl rfl rfl ⟨rfl,rfl,rfl,rfl,rfl⟩ rfl rfl rfl rfl rfl (by kernel_rfl) Tryz.func5 (by kernel_rfl)
  (of_decide_eq_true (by kernel_rfl)) (by unfold Func.isWrapper;first | (rw [if_pos (by decide +kernel)];kernel_rfl) | (rw [if_neg (by decide +kernel)];exact ⟨rfl,rfl⟩))
  (fun os started H enc _=>zintervals_lifted os started H enc)
theorem zintervals_card:Rows.SizeIntervalsCardSaid :=
 Claim7.holds_tied_plain_at .later [] [.data,.data,.data,.sentinel,.sentinel] true (true, "b28e11fa6ee41b26e56fb3f3301f1cebdb04d4d8f758d2c888fe09ee37c1016c") true
  zintervals_holds (fun _ h=>by cases h) (by kernel_rfl) (fun _ h=>by cases h) sizeIntervals_row_tie rfl ⟨rfl,rfl⟩ (by kernel_rfl) rfl
  (fun f fn hf hfn=>by
   obtain rfl:f=5:=Option.some.inj ((show Pg.funcNamed "phrasebook/phrasebooklaw04.SizeIntervals" = some 5 by kernel_rfl).symm.trans hf) |>.symm
   obtain rfl:fn=Tryz.f5:=(Option.some.inj (Tryz.func5.symm.trans hfn)).symm
   exact ⟨by kernel_rfl,fun j t ht=>by
    rw [Tryz.params5] at ht
    have hm:t∈[24,45]:=by simpa using Array.mem_of_getElem? ht
    have hall:([24,45].all fun u=>!Pg.wantsStandIn u)=true:=by kernel_rfl
    exact (show Pg.wantsStandIn t=false by simpa using List.all_eq_true.1 hall t hm)⟩)
  (by kernel_rfl)
end Go.Proofs.YtpgkjhikdhdffaaGreatDoor
