/-
  phrasebooklaw18.ProgramNone returns true for every number, every name and both kinds, and leaves its arguments as they were; no condition is asked but that the tables of the library lie as the program lays them (the card ties them).
-/
import Derived.Test.YtfdecdnmooaegaaGreatDoorRc5
set_option linter.all false
set_option maxHeartbeats 4000000
set_option maxRecDepth 100000
namespace Go.Proofs.YtfdecdnmooaegaaGreatDoor
open Sw
open Go.RowKit (intOf Below)
def TabOK (w:World):Prop:=Go.Lib.TabIs Pg w "internal/strconv.uint64pow10" .u64 Go.Lib.pow10Tab
theorem gPow:(Pg.globalNamed "internal/strconv.uint64pow10").isSome=true:=by kernel_rfl
theorem TabOK.lt {w:World} (h:TabOK w) {g:Nat} (hg:Pg.globalNamed "internal/strconv.uint64pow10" = some g):g < w.heap.size:=by
 unfold TabOK Go.Lib.TabIs World.var? at h
 rw [hg] at h
 simp only [Option.bind_some] at h
 rcases Nat.lt_or_ge g w.heap.size with h' | h'
 · exact h'
 · rw [Array.getElem?_eq_none h'] at h;cases h
theorem TabOK.same {w w':World} (h:TabOK w) (hb:∀ g,Pg.globalNamed "internal/strconv.uint64pow10" = some g→w'.heap[g]?=w.heap[g]?):TabOK w':=by
 obtain ⟨g,hg⟩:=Option.isSome_iff_exists.1 gPow
 have:=hb g hg
 unfold TabOK Go.Lib.TabIs World.var? at h ⊢
 rw [hg] at h ⊢
 simp only [Option.bind_some] at h ⊢
 rw [this]
 exact h
theorem TabOK.ext {w w':World} (h:TabOK w) (e:Ext w w'):TabOK w':=h.same fun g hg=>e.block g (h.lt hg)
theorem grow_ext (w:World) (k:Nat) (os:Array Obj):Ext w (Sort.grow (w.drewN k) os):=⟨rfl,rfl,rfl,by show w.heap.size≤(w.heap++os).size;simp,fun i hi=>by show (w.heap++os)[i]?=_;rw [Array.getElem?_append_left hi]⟩
theorem Itoa_ret {w:World} (hT:TabOK w) (n:Int) (h0 : -9223372036854775808≤n) (h1:n≤9223372036854775807):Ret Pg 65 #[.int .i64 n] w fun r w'=>r = .string (decB n)∧Ext w w':=by
 refine Calls.mono (sh_strconv_Itoa n h0 h1 w hT) ?_
 rintro e w' ⟨rfl,k,os,rfl⟩
 exact ⟨_,rfl,rfl,grow_ext w k os⟩
theorem Join_ret {w:World} {base:Nat} {v:Value} {l:List ByteArray} (h:OwnS w base v l) (sep:ByteArray) (hl:0 < l.length) (hn:l.length≤100000) (hz:(joinW sep l).size≤1000000000):Ret Pg 32 #[v,.string sep] w fun r w'=>r = .string (joinW sep l)∧Ext w w':=by
 obtain ⟨g,cap,rfl,_,hg,_,_,hE⟩:=h.row (fun _=>rfl) hl
 obtain ⟨A,c,hv,hlc,_⟩:=SliceOf.open (h.slice (E:=EStr) (fun _=>rfl) (fun _ _=>rfl))
 injection hv with _ _ hv
 subst hv
 have hzz:(Go.Lib.join (l.map (·.data.toList)) sep.data.toList).length≤140737488355328:=by
  unfold joinW ByteArray.size at hz
  simp only [List.size_toArray] at hz
  omega
 refine Calls.mono (sh_strings_Join g 0 cap l sep w (fun j x hx=>?_) hg (by omega) hlc hzz) ?_
 · have:=hE j x hx 0 _ rfl
   rw [Nat.zero_add]
   simpa using this
 · rintro e w' ⟨rfl,hb⟩
   exact ⟨_,rfl,rfl,Ext.of_below hb⟩
section
variable {P:Program} {QP:List PanicEntry→World→Prop} {w:World} {k:Value→World→Prop}
theorem op_indexArr {t e:TypeId} {agg:Bool} {n m len:Nat} {z:Value} (hu:P.underlying t=some (.array len e)) (ht:TyInfo P e agg n m z) (b o:Nat) (ik:IntKind) (i:Nat) (h1:i < len) :
 opV P (Instr.indexAt t (.pointer (some ⟨b,o,none⟩)) (.int ik (i:Int))) QP w k=k (.pointer (some ⟨b,o+i*n,none⟩)) w:=opV_ok (by
 have h0:(0:Int)≤i:=by omega
 have h2:(i:Int) < len:=by omega
 simp [Instr.indexAt,asIntOf,run_underlying hu,Sw.run_sizeOf ht,Instr.sureAddr,h1,h0,h2,Addr.add_lit])
theorem op_buildArr {T e:TypeId} {agg:Bool} {n m n' m' len:Nat} {z cs:Array Value} {z':Value} {parts:Array (Nat×Value)} (hu:P.underlying T=some (.array len e)) (hz:TyInfo P T true n m (.agg z)) (he:TyInfo P e agg n' m' z') (hf:Instr.fill (fun i=>some (i*n',n')) z parts.toList=some cs):opV P (Instr.build T parts) QP w k=k (.agg cs) w:=by
 have hsz:=Sw.run_sizeOf (w:=w) he
 obtain ⟨⟨i,hi,_,_,hzz⟩,_⟩:=hz
 refine opV_ok ?_
 unfold Instr.build
 have hz0:(zeroValue T).run P w = .ok (.agg z) w:=by simp [zeroValue,typeInfo,hi,hzz]
 simp only [Sem.run_bind,hz0,Result.andThen_ok,run_underlying hu,hsz]
 have:(Value.agg z).cells=z:=rfl
 rw [this,hf]
 rfl
theorem op_sadd' (t:TypeId) (c:Bool) (a b:ByteArray) (h:a.size+b.size≤9223372036854775807):opV P (binS .add t c (.string a) (.string b)) QP w k=k (.string (a++b)) w:=opV_ok (by
 have h1:¬ (((a.size+b.size:Nat):Int) > IntKind.i64.max):=by
  have:IntKind.i64.max=9223372036854775807:=rfl
  omega
 simp [binS,binOp,Op.stringOp,h1]
 omega)
theorem qV_sadd {C:World→Prop} [ClassNe C] {k:Value→Prop} (t:TypeId) (c:Bool) (a b:ByteArray) (h:a.size+b.size≤9223372036854775807):qV P C (binS .add t c (.string a) (.string b)) k=k (.string (a++b)):=qV_of fun _ _ _=>op_sadd' t c a b h
end
abbrev opArr:Array Value := #[.string ⟨#[]⟩,.string ⟨#[99,97,108,108]⟩,.string ⟨#[115,116,111,112]⟩,.string ⟨#[101,110,116,101,114]⟩,.string ⟨#[114,101,97,100]⟩,.string ⟨#[111,110,101]⟩,.string ⟨#[109,97,110,121]⟩,.string ⟨#[115,101,108,101,99,116]⟩,.string ⟨#[99,97,115,101]⟩,.string ⟨#[118,105,101,119]⟩,.string ⟨#[114,101,116,117,114,110]⟩]
theorem opArr_get {c:Nat} (h:c≤10):opArr[c]?=some (.string (opN c)):=by
 have:∀ c:Nat,c≤10→opArr[c]?=some (.string (opN c)):=by
  intro c hc
  match c,hc with
  | 0,_=>rfl
  | 1,_=>rfl
  | 2,_=>rfl
  | 3,_=>rfl
  | 4,_=>rfl
  | 5,_=>rfl
  | 6,_=>rfl
  | 7,_=>rfl
  | 8,_=>rfl
  | 9,_=>rfl
  | 10,_=>rfl
 exact this c h
section
variable {w:World} {lo pb:Nat} {d:DefD}
theorem line_ret (h:ProgAt w lo pb d) (hT:TabOK w) (hN:Names100 d) (i:Int) (hi:0≤i∧i≤100000) (x:InsD) (hx:OkX d x):Ret Pg 31 #[.pointer (some ⟨pb,0,none⟩),.int .i64 i,insVal x] w fun r w'=>r = .string (lineB d i x)∧Ext w w':=by
 refine n36s (R:=retR _) ?_;unfold n36
 rw [op_boxA]
 have o5:=heap_new w (insCells x).toArray TI
 have e1:Ext w (w.alloc (.cells (insCells x).toArray TI)):=ee
 generalize (w.alloc (.cells (insCells x).toArray TI))=w1 at o5 e1 ⊢
 generalize hp5:w.heap.size=p5 at o5 ⊢
 rw [op_buildArr (cs:=opArr) Tryz.underlying124 ty124 ty9 rfl]
 simp (disch:=try exact DI) only [↓PR,QR,simprocAttr]
 have o7:=heap_new w1 opArr 124
 have e2:Ext w1 (w1.alloc (.cells opArr 124)):=ee
 generalize hp7:w1.heap.size=p7 at o7 ⊢
 generalize (w1.alloc (.cells opArr 124))=w2 at o7 e2 ⊢
 refine drawK_intro ?_
 have eD:Ext w2 (Sw.drew w2):=(Ext.refl w2).drew
 have q5:=(e2.trans eD).obj o5
 have q7:=eD.obj o7
 have E2:=e1.trans (e2.trans eD)
 generalize (Sw.drew w2)=w3 at q5 q7 E2 ⊢
 clear eD
 unfold n36c14
 obtain ⟨c,hc⟩:∃ c:Nat,x.code=c:=⟨x.code.toNat,by have:=hx.code;omega⟩
 have hc10:c≤10:=by have:=hx.code;omega
 have hidx:∀ K:Value→Prop,qV Pg (EC w3) (Instr.indexAt 124 (.pointer (some ⟨p7,0,none⟩)) (.int .i64 x.code)) K=K (.pointer (some ⟨p7,c,none⟩)):=fun K=>qV_eqC fun w' _=>run_of_op fun QP kk=>by
  rw [hc]
  exact (op_indexArr Tryz.underlying124 ty9 p7 0 .i64 c (by omega)).trans (by rw [Nat.zero_add,Nat.mul_one])
 have hcell:w3.cell? ⟨p7,c,none⟩=some (.string (opN x.code)):=by rw [(cells_of_heap q7).1,opArr_get hc10,hc]
 simp (disch:=try exact DI) only [↓PR,QR,simprocAttr,(cells_of_heap q5).1,hidx,hcell]
 obtain ⟨wz,w5l,w4l,w3l⟩:=words_size hN hi hx
 have w4n:0 < (words4 d i x).length:=by
  have a1:words1 i x≠[]:=by simp [words1]
  have a2:words2 d i x≠[]:=by
   unfold words2
   split
   · simp
   · exact a1
  have a3:words3 d i x≠[]:=by
   unfold words3
   split
   · simp
   · exact a2
  refine List.length_pos_iff.2 ?_
  unfold words4
  split
  · simp
  · exact a3
 have last:∀ v u,OwnS u w3.heap.size v (words4 d i x)→Ext w3 u→callK Pg 32 #[v,.string ⟨#[32]⟩] (panK (retR fun r w'=>r=Value.string (lineB d i x)∧Ext w w')) u fun t94 w_1=>retR (fun r w'=>r=Value.string (lineB d i x)∧Ext w w') (Ending.returned t94) w_1:=by
  intro v u hO e
  have hz:=line_size hN hi hx
  refine zcr (Join_ret hO ⟨#[32]⟩ w4n (by omega) (Nat.le_trans hz (by decide))) fun u2 e2=>?_
  exact ⟨_,rfl,rfl,E2.trans (e.trans e2)⟩
 have fin2:∀ v u,OwnS u w3.heap.size v (words3 d i x)→Ext w3 u→n36c2 (.pointer (some ⟨p5,0,none⟩)) v (retR fun r w'=>r=Value.string (lineB d i x)∧Ext w w') u:=by
  intro v u hO e
  have q:=cells_of_heap (e.obj q5)
  have hto:=hx.to
  have last:=last
  unfold words4 at last
  unfold n36c2
  by_cases h0:0≤x.to
  · have d0:decide (x.to≥0)=true:=decide_eq_true h0
    rw [if_pos h0] at last
    simp (disch:=try exact DI) only [↓PR,QR,simprocAttr,q.1,d0,↓n36c1]
    refine zcr (Itoa_ret (hT.ext (E2.trans e)) x.to (by omega) (by omega)) fun u2 e2=>?_
    simp (disch:=try exact DI) only [↓PR,QR,simprocAttr]
    generalize hY:World.alloc u2 _=Y
    have eY:Ext u2 Y:=by rw [← hY];exact ee
    have oY:Y.cell? ⟨u2.heap.size,0,none⟩=some (.string (decB x.to)):=by rw [← hY,(cells_of_heap (heap_new _ _ _)).1];rfl
    clear hY
    have E3:=e.trans (e2.trans eY)
    refine append_str (decB x.to) (hO.ext (e2.trans eY)) oY E3.size (by omega) ?_
    intro v' u' hO' hg
    exact last v' u' hO' (E3.grown hg fun b hb=>(World.ownsRow.lt hO b hb).1)
  · have d0:decide (x.to≥0)=false:=decide_eq_false h0
    rw [if_neg h0] at last
    simp (disch:=try exact DI) only [↓PR,QR,simprocAttr,q.1,d0]
    exact last v u hO e
 have fin5:∀ v u,OwnS u w3.heap.size v (words2 d i x)→Ext w3 u→n36c5 (.pointer (some ⟨p5,0,none⟩)) v (retR fun r w'=>r=Value.string (lineB d i x)∧Ext w w') u:=by
  intro v u hO e
  have q:=cells_of_heap (e.obj q5)
  have hreg:=hx.reg
  have fin2:=fin2
  unfold words3 at fin2
  unfold n36c5
  by_cases h0:0≤x.reg
  · have d0:decide (x.reg≥0)=true:=decide_eq_true h0
    rw [if_pos h0] at fin2
    simp (disch:=try exact DI) only [↓PR,QR,simprocAttr,q.1,d0,↓n36c4]
    refine zcr (Itoa_ret (hT.ext (E2.trans e)) x.reg (by omega) (by omega)) fun u2 e2=>?_
    unfold n36c3
    rw [op_sadd' _ _ _ _ (by have:=decB_size (n:=x.reg) (by omega) (by omega);have h3:(⟨#[114]⟩:ByteArray).size=1:=rfl;omega)]
    simp (disch:=try exact DI) only [↓PR,QR,simprocAttr]
    generalize hY:World.alloc u2 _=Y
    have eY:Ext u2 Y:=by rw [← hY];exact ee
    have oY:Y.cell? ⟨u2.heap.size,0,none⟩=some (.string (⟨#[114]⟩++decB x.reg)):=by rw [← hY,(cells_of_heap (heap_new _ _ _)).1];rfl
    clear hY
    have E3:=e.trans (e2.trans eY)
    refine append_str (⟨#[114]⟩++decB x.reg) (hO.ext (e2.trans eY)) oY E3.size (by omega) ?_
    intro v' u' hO' hg
    exact fin2 v' u' hO' (E3.grown hg fun b hb=>(World.ownsRow.lt hO b hb).1)
  · have d0:decide (x.reg≥0)=false:=decide_eq_false h0
    rw [if_neg h0] at fin2
    simp (disch:=try exact DI) only [↓PR,QR,simprocAttr,q.1,d0]
    exact fin2 v u hO e
 refine zcr (Itoa_ret (hT.ext E2) i (by omega) (by omega)) fun w4 e4=>?_
 refine ⟨e4,?_⟩
 simp (disch:=try exact DI) only [↓PR,QR,simprocAttr]
 generalize hY:World.alloc w4 _=Y
 have eY:Ext w4 Y:=by rw [← hY];exact ee
 have hO1:OwnS Y w3.heap.size (.slice (some ⟨w4.heap.size,0,none⟩) 2 2) (words1 i x):=by
  rw [← hY]
  exact (OwnE.new w4 9 1 strEnc (words1 i x) (fun _=>rfl) (by simp [words1])).base e4.size
 clear hY
 have E4:=e4.trans eY
 refine ⟨E4,?_⟩
 generalize hv1:(Value.slice (some ⟨w4.heap.size,0,none⟩) 2 2)=v1 at hO1 ⊢
 unfold n36c13
 have q:=cells_of_heap (E4.obj q5)
 rcases hx.msg with ⟨hm,h8⟩ | ⟨mi,m,hm,hmi,hrest⟩
 · have d0:decide (x.msg≥0)=false:=decide_eq_false (by omega)
   have h0:¬ 0≤x.msg:=by omega
   simp (disch:=try exact DI) only [↓PR,QR,simprocAttr,q.1,d0]
   exact fin5 v1 Y (by unfold words2;rw [if_neg h0];exact hO1) E4
 · have d0:decide (x.msg≥0)=true:=decide_eq_true (by omega)
   have h0:0≤x.msg:=by omega
   simp (disch:=try exact DI) only [↓PR,QR,simprocAttr,q.1,d0]
   have hw2:words2 d i x=words1 i x++[nameX d x]:=by unfold words2;rw [if_pos h0]
   have hns:=nameX_size hN hx
   obtain ⟨mc,cv,rm,gm,hpb,_,_,_,hMN,_⟩:=h.ext (E2.trans E4)
   obtain ⟨A,c',rfl,hlc,hcm,hlm,hel⟩:=SliceOf.open hMN.plain
   obtain ⟨b,o,cs,rfl,_,hA,fv,rfl,hF⟩:=hel mi m hmi
   have hmil:=(List.getElem?_eq_some_iff.1 hmi).1
   have hfv:=SliceOf.oneCell hF
   have fin8:∀ u,Ext Y u→opV Pg (Builtin.append_ #[80,80] 80 #[v1,.slice (some ⟨u.heap.size,0,none⟩) 1 1]) (panK (retR fun r w'=>r=Value.string (lineB d i x)∧Ext w w')) (u.alloc (.cells #[.string (nameX d x)] 9)) fun t73 w_2=>n36c5 (.pointer (some ⟨p5,0,none⟩)) t73 (retR fun r w'=>r=Value.string (lineB d i x)∧Ext w w') w_2:=by
    intro u e
    generalize hZ:World.alloc u _=Z
    have eZ:Ext u Z:=by rw [← hZ];exact ee
    have oZ:Z.cell? ⟨u.heap.size,0,none⟩=some (.string (nameX d x)):=by rw [← hZ,(cells_of_heap (heap_new _ _ _)).1];rfl
    clear hZ
    have E5:=E4.trans (e.trans eZ)
    have hOZ:=hO1.ext (e.trans eZ)
    refine append_str (nameX d x) hOZ oZ E5.size (by simp [words1]) ?_
    intro v' u' hO' hg
    exact fin5 v' u' (by rw [hw2];exact hO') (E5.grown hg fun b hb=>(World.ownsRow.lt hOZ b hb).1)
   refine drawK_intro ?_
   have eD:Ext Y (Sw.drew Y):=(Ext.refl Y).drew
   generalize (Sw.drew Y)=Y1 at eD ⊢
   have q5':=(E4.trans eD).obj q5
   unfold n36c12
   simp (disch:=try exact DI) only [↓PR,QR,simprocAttr,(cells_of_heap q5').1,(cells_of_heap (eD.obj hpb)).1,hm,hA.c2 eD]
   refine ⟨ee,?_⟩
   refine turnK_intro ?_
   have o9:=heap_new Y1 #[.string m.name,fv] 53
   have eZ:Ext Y1 (Y1.alloc (.cells #[.string m.name,fv] 53)):=ee
   generalize (Y1.alloc (.cells #[.string m.name,fv] 53))=Z at o9 eZ ⊢
   generalize hp9:Y1.heap.size=p9 at o9 ⊢
   have q5'':=eZ.obj q5'
   have eYZ:=eD.trans eZ
   have hFZ:=FieldsOf.ext hF eYZ
   have hNm:=hN m (List.mem_of_getElem? hmi)
   obtain ⟨AF,cF,rfl,_,_,_,helF⟩:=SliceOf.open hF
   have fin9:∀ s,(x.code≠8→s=nameX d x)→n36c9 (.pointer (some ⟨p5,0,none⟩)) (.pointer (some ⟨p9,0,none⟩)) (.string s) v1 (fun t8 w_4=>n36c5 (.pointer (some ⟨p5,0,none⟩)) t8 (retR fun r w'=>r=Value.string (lineB d i x)∧Ext w w') w_4) (retR fun r w'=>r=Value.string (lineB d i x)∧Ext w w') Z:=by
    intro s hs
    unfold n36c9
    by_cases h8:x.code=8
    · have d8:(x.code == 8)=true:=by simp [h8]
      rcases hrest with ⟨_,hn8⟩ | ⟨k,f,hk,hfk,hn8 | ⟨j,cc,hj,hcc,hl0,hlh,hh⟩⟩
      · exact absurd h8 hn8
      · exact absurd h8 hn8
      have hkl:=(List.getElem?_eq_some_iff.1 hfk).1
      have hjl:=(List.getElem?_eq_some_iff.1 hcc).1
      obtain ⟨bF,oF,csF,rfl,_,hAF,tv,cv',rfl,hTF,hCF⟩:=helF k f hfk
      obtain ⟨AC,cC,rfl,_,_,_,helC⟩:=SliceOf.open hCF
      obtain ⟨bC,oC,csC,rfl,_,hAC,rfl⟩:=helC j cc hcc
      simp (disch:=try exact DI) only [↓PR,QR,simprocAttr,(cells_of_heap q5'').1,d8]
      refine drawK_intro ?_
      have eD2:Ext Z (Sw.drew Z):=(Ext.refl Z).drew
      have r5:=eD2.obj q5''
      have r9:=eD2.obj o9
      have E9:=eYZ.trans eD2
      generalize (Sw.drew Z)=Z1 at r5 r9 E9 ⊢
      unfold n36c8
      simp (disch:=try exact DI) only [↓PR,QR,simprocAttr,(cells_of_heap r5).1,(cells_of_heap r9).1,hk,hj,hAF.c15 E9,hAC.c3 E9]
      refine ⟨ee,?_⟩
      refine turnK_intro ?_
      refine drawK_intro ?_
      have o11:=heap_new Z1 #[.int .i64 cc.low,.int .i64 cc.high,.string cc.of] 85
      have eC:Ext Z1 (Z1.alloc (.cells #[.int .i64 cc.low,.int .i64 cc.high,.string cc.of] 85)):=ee
      generalize (Z1.alloc (.cells #[.int .i64 cc.low,.int .i64 cc.high,.string cc.of] 85))=Z2 at o11 eC ⊢
      have eD3:Ext Z2 (Sw.drew Z2):=(Ext.refl Z2).drew
      have r11:=eD3.obj o11
      have E10:=E9.trans (eC.trans eD3)
      generalize (Sw.drew Z2)=Z3 at r11 E10 ⊢
      unfold n36c7
      simp (disch:=try exact DI) only [↓PR,QR,simprocAttr,(cells_of_heap r11).1]
      have sl:=decB_size (n:=cc.low) (by omega) (by omega)
      have sh:=decB_size (n:=cc.high) (by omega) (by omega)
      have s1:(⟨#[45]⟩:ByteArray).size=1:=rfl
      refine zcr (Itoa_ret (hT.ext (E2.trans (E4.trans E10))) cc.low (by omega) (by omega)) fun u3 e3=>?_
      refine ⟨e3,?_⟩
      unfold n36c6
      rw [qV_sadd _ _ _ _ (by omega)]
      refine callK_ret (Itoa_ret (hT.ext (E2.trans (E4.trans (E10.trans e3)))) cc.high (by omega) (by omega)) ?_
      rintro _ u4 ⟨rfl,e4'⟩
      refine ⟨e3.trans e4',?_⟩
      rw [qV_sadd _ _ _ _ (by rw [size_append];omega)]
      have hname:decB cc.low++⟨#[45]⟩++decB cc.high=nameX d x:=by
       unfold nameX
       rw [hm,hk,hj,Int.toNat_natCast,hmi]
       simp only
       rw [if_neg (by omega),Int.toNat_natCast,hfk]
       simp only
       rw [if_pos h8,Int.toNat_natCast,hcc]
       rfl
      rw [hname]
      simp (disch:=try exact DI) only [↓PR,QR,simprocAttr]
      exact fin8 u4 (E10.trans (e3.trans e4'))
    · have d8:(x.code == 8)=false:=by simpa using h8
      simp (disch:=try exact DI) only [↓PR,QR,simprocAttr,(cells_of_heap q5'').1,d8]
      rw [hs h8]
      exact fin8 Z eYZ
   unfold n36c11
   rcases hrest with ⟨hfd,hn8⟩ | ⟨k,f,hk,hfk,hn8⟩
   · have d1:decide (x.field≥0)=false:=decide_eq_false (by omega)
     simp (disch:=try exact DI) only [↓PR,QR,simprocAttr,(cells_of_heap q5'').1,(cells_of_heap o9).1,d1]
     refine fin9 m.name fun _=>?_
     unfold nameX
     rw [hm,Int.toNat_natCast,hmi]
     simp only
     rw [if_pos (by omega)]
   · have d1:decide ((k:Int)≥0)=true:=decide_eq_true (by omega)
     have d2:decide (0≤(k:Int))=true:=decide_eq_true (by omega)
     have hkl:=(List.getElem?_eq_some_iff.1 hfk).1
     obtain ⟨bF,oF,csF,rfl,_,hAF,tv,cv',rfl,hTF,hCF⟩:=helF k f hfk
     have hf1:=hNm.2 f (List.mem_of_getElem? hfk)
     simp (disch:=try exact DI) only [↓PR,QR,simprocAttr,(cells_of_heap q5'').1,(cells_of_heap o9).1,d1,d2,↓n36c10,hk,hAF.c15 eYZ]
     have s1:(⟨#[46]⟩:ByteArray).size=1:=rfl
     rw [op_sadd' _ _ _ _ (by omega),op_sadd' _ _ _ _ (by rw [size_append];omega)]
     refine fin9 _ fun hn=>?_
     unfold nameX
     rw [hm,hk,Int.toNat_natCast,hmi]
     simp only
     rw [if_neg (by omega),Int.toNat_natCast,hfk]
     simp only
     rw [if_neg hn]
end
def n20c1 (t76:Value) (K7:KV) (R:RT) (w:World):Prop :=
 opV Pg (binS .eql 9 true t76 (.string { data := #[48,32,99,97,108,108,32,53,10,49,32,115,116,111,112,10,50,32,101,110,116,101,114,32,97,10,51,32,114,101,97,100,32,97,46,120,10,52,32,114,101,116,117,114,110,32,97,10,53,32,101,110,116,101,114,32,115,10,54,32,114,101,97,100,32,115,46,110,32,114,48,10,55,32,114,101,97,100,32,115,46,116,32,114,49,10,56,32,109,97,110,121,32,115,46,108,32,50,10,57,32,115,101,108,101,99,116,32,115,46,99,10,49,48,32,99,97,115,101,32,50,45,50,32,50,10,49,49,32,114,101,116,117,114,110,32,115] })) (panK R) w fun t77 w =>
 K7 t77 w
def n20c2 (t14 t68 t72:Value) (R:RT) (w:World):Prop :=
 pickK t68 t72 (.bool false) fun t73 =>
 joinK (fun (t77:Value) (w:World) =>
 pickK t73 t77 (.bool false) fun t78 =>
 R (.returned t78) w) fun K7 =>
 guardP t73 true (
 callK Pg 11 #[t14] (panK R) w fun t76 w =>
 n20c1 t76 K7 R w) (
 K7 undef w)
def n20c3 (t14 t42 t57 t67:Value) (R:RT) (w:World):Prop :=
 pickK t57 t67 (.bool false) fun t68 =>
 joinK (fun (t72:Value) (w:World) =>
 n20c2 t14 t68 t72 R w) fun K6 =>
 guardP t68 true (
 callK Pg 15 #[t42] (panK R) w fun t71 w =>
 opV Pg (binS .eql 3 true t71 (.int .i64 9)) (panK R) w fun t72 w =>
 K6 t72 w) (
 K6 undef w)
def n20c4 (t37 t60 t62:Value) (K5:KV) (R:RT) (w:World):Prop :=
 opV Pg (binS .add 3 false t60 t62) (panK R) w fun t63 w =>
 callK Pg 15 #[t37] (panK R) w fun t65 w =>
 opV Pg (binS .add 3 false t63 t65) (panK R) w fun t66 w =>
 opV Pg (binS .eql 3 true t66 (.int .i64 0)) (panK R) w fun t67 w =>
 K5 t67 w
def n20c5 (t14 t27 t32 t37 t42 t53 t56:Value) (R:RT) (w:World):Prop :=
 pickK t53 t56 (.bool false) fun t57 =>
 joinK (fun (t67:Value) (w:World) =>
 n20c3 t14 t42 t57 t67 R w) fun K5 =>
 guardP t57 true (
 callK Pg 15 #[t27] (panK R) w fun t60 w =>
 callK Pg 15 #[t32] (panK R) w fun t62 w =>
 n20c4 t37 t60 t62 K5 R w) (
 K5 undef w)
def n20c6 (t14 t27 t32 t36 t37 t42 t49 t52:Value) (R:RT) (w:World):Prop :=
 pickK t49 t52 (.bool false) fun t53 =>
 joinK (fun (t56:Value) (w:World) =>
 n20c5 t14 t27 t32 t37 t42 t53 t56 R w) fun K4 =>
 guardP t53 true (
 opV Pg (binS .eql 3 true t36 (.int .i64 0)) (panK R) w fun t56 w =>
 K4 t56 w) (
 K4 undef w)
def n20c7 (t14 t27 t31 t32 t36 t37 t42 t45 t48:Value) (R:RT) (w:World):Prop :=
 pickK t45 t48 (.bool false) fun t49 =>
 joinK (fun (t52:Value) (w:World) =>
 n20c6 t14 t27 t32 t36 t37 t42 t49 t52 R w) fun K3 =>
 guardP t49 true (
 opV Pg (binS .eql 3 true t31 (.int .i64 2)) (panK R) w fun t52 w =>
 K3 t52 w) (
 K3 undef w)
def n20c8 (t14 t26 t27 t31 t32 t36 t37 t42 t44:Value) (R:RT) (w:World):Prop :=
 opV Pg (binS .eql 3 true t44 (.int .i64 12)) (panK R) w fun t45 w =>
 joinK (fun (t48:Value) (w:World) =>
 n20c7 t14 t27 t31 t32 t36 t37 t42 t45 t48 R w) fun K2 =>
 guardP t45 true (
 opV Pg (binS .eql 3 true t26 (.int .i64 5)) (panK R) w fun t48 w =>
 K2 t48 w) (
 K2 undef w)
def n20c9 (t14 t26 t27 t31 t32 t36 t37 t40:Value) (R:RT) (w:World):Prop :=
 opV Pg (Instr.extract t40 0) (panK R) w fun t41 w =>
 opV Pg (Instr.extract t40 1) (panK R) w fun t42 w =>
 callK Pg 17 #[t14] (panK R) w fun t44 w =>
 n20c8 t14 t26 t27 t31 t32 t36 t37 t42 t44 R w
def n20c10 (t14 t26 t27 t31 t32 t35:Value) (R:RT) (w:World):Prop :=
 opV Pg (Instr.extract t35 0) (panK R) w fun t36 w =>
 opV Pg (Instr.extract t35 1) (panK R) w fun t37 w =>
 callK Pg 22 #[t14,(.string { data := #[98] })] (panK R) w fun t40 w =>
 n20c9 t14 t26 t27 t31 t32 t36 t37 t40 R w
def n20c11 (t14 t26 t27 t30:Value) (R:RT) (w:World):Prop :=
 opV Pg (Instr.extract t30 0) (panK R) w fun t31 w =>
 opV Pg (Instr.extract t30 1) (panK R) w fun t32 w =>
 callK Pg 21 #[t14,(.string { data := #[97] })] (panK R) w fun t35 w =>
 n20c10 t14 t26 t27 t31 t32 t35 R w
def n20c12 (t14 t25:Value) (R:RT) (w:World):Prop :=
 opV Pg (Instr.extract t25 0) (panK R) w fun t26 w =>
 opV Pg (Instr.extract t25 1) (panK R) w fun t27 w =>
 callK Pg 21 #[t14,(.string { data := #[115] })] (panK R) w fun t30 w =>
 n20c11 t14 t26 t27 t30 R w
def n20c13 (t14 t18 t21:Value) (R:RT) (w:World):Prop :=
 pickK t18 (.bool true) t21 fun t22 =>
 condP t22 (
 R (.returned (.bool false)) w) (
 callK Pg 22 #[t14,(.string { data := #[115] })] (panK R) w fun t25 w =>
 n20c12 t14 t25 R w)
def n20c14 (t14 t17:Value) (R:RT) (w:World):Prop :=
 opV Pg (binS .neq 3 true t17 (.int .i64 0)) (panK R) w fun t18 w =>
 joinK (fun (t21:Value) (w:World) =>
 n20c13 t14 t18 t21 R w) fun K1 =>
 guardP t18 false (
 opV Pg (binS .eql 27 true t14 (Value.pointer none)) (panK R) w fun t21 w =>
 K1 t21 w) (
 K1 undef w)
def n20c15 (t13:Value) (R:RT) (w:World):Prop :=
 opV Pg (Instr.extract t13 0) (panK R) w fun t14 w =>
 opV Pg (Instr.extract t13 1) (panK R) w fun t15 w =>
 callK Pg 15 #[t15] (panK R) w fun t17 w =>
 n20c14 t14 t17 R w
def n20 (R:RT) (w:World):Prop :=
 callK Pg 30 #[] (panK R) w fun t12 w =>
 callK Pg 20 #[t12] (panK R) w fun t13 w =>
 n20c15 t13 R w
theorem n20s {R:RT} {w:World} (h:n20 R w):Calls Pg 9 #[] w R:=by
 refine yD Tryz.func9 ?_
 refine zs<|zr<|zm<|zn<|zk<|zs<|zr<|yc h c30 fun _ w h=>yc h c20 fun _ w h=>zm<|yv h fun _ w h=>yv h fun _ w h=>zm<|zm<|zn ?_
 refine zk<|zs<|zs<|sim_regionG<|yG 4<|zm<|yc h c15 fun _ w h=>yb h fun _ w h=>zm<|zn<|yg1 2 3 false [20,21] 21 h (fun _ T hT h=>?_) fun σ w h=>?_
 · refine zm<|yb h fun _ w h=>zn ?_
   exact zt hT h
 refine yG 1<|yp h fun _ h=>zn<|sim_end<|zk<|yC h (fun h=>zs<|zr<|zm<|zn<|zk<|sim_ret<|sim_then_ret<|body_ret1 rfl rfl h) fun h=>sim_skip<|zk<|zs<|zr<|zm<|yc h c22 fun _ w h=>zm<|yv h fun _ w h=>?_
 refine yv h fun _ w h=>zm<|zm<|zn<|zk<|zs<|zr<|zm<|yc h c21 fun _ w h=>zm<|yv h fun _ w h=>yv h fun _ w h=>zm<|zm<|zn ?_
 refine zk<|zs<|zr<|zm<|yc h c21 fun _ w h=>zm<|yv h fun _ w h=>yv h fun _ w h=>zm<|zm<|zn<|zk<|zs<|zr<|zm ?_
 refine yc h c22 fun _ w h=>zm<|yv h fun _ w h=>yv h fun _ w h=>zm<|zm<|zn<|zk<|zs<|sim_regionG<|yG 4<|zm<|yc h c17 fun _ w h=>yb h fun _ w h=>zm ?_
 refine zn<|yg1 2 3 true [47,48] 48 h (fun _ T hT h=>?_) fun σ w h=>?_
 · refine zm<|yb h fun _ w h=>zn ?_
   exact zt hT h
 refine yG 2<|yp h fun _ h=>zm<|zn<|yg1 2 7 true [51,52] 52 h (fun _ T hT h=>?_) fun σ w h=>?_
 · refine zm<|yb h fun _ w h=>zn ?_
   exact zt hT h
 refine yG 2<|yp h fun _ h=>zm<|zn<|yg1 2 11 true [55,56] 56 h (fun _ T hT h=>?_) fun σ w h=>?_
 · refine zm<|yb h fun _ w h=>zn ?_
   exact zt hT h
 refine yG 2<|yp h fun _ h=>zm<|zn<|yg1 9 15 true [59,60,61,62,63,64,65,66,67] 67 h (fun _ T hT h=>?_) fun σ w h=>?_
 · refine zm<|yc h c15 fun _ w h=>zm<|yc h c15 fun _ w h=>yb h fun _ w h=>zm<|yc h c15 fun _ w h=>yb h fun _ w h=>yb h fun _ w h=>zn ?_
   exact zt hT h
 refine yG 2<|yp h fun _ h=>zm<|zn<|yg1 3 26 true [70,71,72] 72 h (fun _ T hT h=>?_) fun σ w h=>?_
 · refine zm<|yc h c15 fun _ w h=>yb h fun _ w h=>zn ?_
   exact zt hT h
 refine yG 2<|yp h fun _ h=>zm<|zn<|yg1 3 31 true [75,76,77] 77 h (fun _ T hT h=>?_) fun σ w h=>?_
 · refine zm<|yc h c11 fun _ w h=>yb h fun _ w h=>zn ?_
   exact zt hT h
 exact yG 2<|yp h fun _ h=>zm<|zn<|sim_end<|zk<|sim_ret<|body_ret1 rfl rfl h
def n34c1 (t3 t10 t14:Value) (C2:World→Prop) (Kr1:World→Prop) (Qr1:List PanicEntry→World→Prop) (R:RT) (w:World):Prop :=
 opV Pg (Instr.buildSlice 80 1 #[(0,t14)]) Qr1 w fun t15 w =>
 C2 w∧(
 opV Pg (Builtin.append_ #[80,80] 80 #[t10,t15]) Qr1 w fun t16 w =>
 C2 w∧(
 opU Pg (Instr.storeAt 80 t3 t16) Qr1 w fun w =>
 turnK w fun C3 w =>
 Kr1 w))
def n34c2 (t1 t3 t5 t8:Value) (C2:World→Prop) (Kr1:World→Prop) (Qr1:List PanicEntry→World→Prop) (R:RT) (w:World):Prop :=
 qV Pg C2 (Instr.loadAt 80 t3) fun t10 =>
 qV Pg C2 (Instr.loadAt 27 t1) fun t11 =>
 qV Pg C2 (Instr.loadAt 36 t5) fun t13 =>
 callK Pg 31 #[t11,t8,t13] Qr1 w fun t14 w =>
 C2 w∧(
 n34c1 t3 t10 t14 C2 Kr1 Qr1 R w)
def n34c3 (t1 t3 t8 t9:Value) (Kr1:World→Prop) (Qr1:List PanicEntry→World→Prop) (l1:Nat) (R:RT) (w:World):Prop :=
 opV Pg (Instr.alloc 36 true (.tuple #[])) (fun _ _=>False) w fun t5 w =>
 opU Pg (Instr.storeAt 36 t5 t9) (fun _ _=>False) w fun w =>
 busyK l1 w fun w =>
 drawK w fun C2 w =>
 n34c2 t1 t3 t5 t8 C2 Kr1 Qr1 R w
def n34c4 (t3:Value) (ds:List Deferred) (R:RT) (w:World):Prop :=
 opV Pg (Instr.loadAt 80 t3) (outQ Pg ds [(none,(.string { data := #[] }))] R) w fun t17 w =>
 callK Pg 32 #[t17,(.string { data := #[10] })] (outQ Pg ds [(none,(.string { data := #[] }))] R) w fun t18 w =>
 outX Pg ds [(none,t18)] R w
def n34c5 (t1 t3 t7:Value) (ds:List Deferred) (R:RT) (w:World):Prop :=
 rangeN5 Pg t7 ds (fun l1 t8 t9 w Kr1 Xr1 Qr1 =>
 n34c3 t1 t3 t8 t9 Kr1 Qr1 l1 R w) (fun ch ds w=>outQ Pg ds [(none,(.string { data := #[] }))] R ch w) w (fun ds w =>
 n34c4 t3 ds R w) []
def n34 (t0:Value) (R:RT) (w:World):Prop :=
 (fun (ds:List Deferred) =>
 opV Pg (Instr.box 27 t0) (outQ Pg ds [(none,undef)] R) w fun t1 w =>
 opV Pg (Instr.alloc 80 true (.tuple #[])) (outQ Pg ds [(none,(.string { data := #[] }))] R) w fun t3 w =>
 opV Pg (Instr.loadAt 27 t1) (outQ Pg ds [(none,(.string { data := #[] }))] R) w fun t6 w =>
 callK Pg 16 #[t6] (outQ Pg ds [(none,(.string { data := #[] }))] R) w fun t7 w =>
 n34c5 t1 t3 t7 ds R w) []
theorem n34s {t0:Value} {R:RT} {w:World} (h:n34 t0 R w):Calls Pg 11 #[t0] w R:=by
 refine yE Tryz.func11 ?_
 unfold n34 at h
 dsimp only at h
 refine zs<|zr<|yv h fun _ w h=>zm<|zn<|zk<|zs<|zr<|yv h fun _ w h=>zn<|zk<|zs<|zs<|zr<|yv h fun _ w h=>?_
 refine yc h c16 fun _ w h=>zn<|zk<|sim_block<|sim_range5 [] h rfl (fun l1 t8 t9 w Kr1 Xr1 Qr1 h=>?_) (fun ds w h=>?_) (fun c ds w h=>?_) (fun ch ds w h=>outQ_of rfl h)
 · refine zs<|zr<|zm<|zn<|zk<|zr<|yv h fun _ w h=>yu h fun w h=>zn<|zk ?_
   obtain ⟨hr,h⟩:=h
   refine ⟨rfl,hr,fun w hb=>?_⟩
   have h:=h w hb
   refine sim_block<|yh [10,11,12,13,14,15,16] h fun C hC h=>ye 0 hC h fun _ h=>?_
   refine ye 1 hC h fun _ h=>?_
   refine yw 2 hC ?_
   refine ye 3 hC h fun _ h=>?_
   refine yo 4 ?_
   refine yc h c31 fun _ w h=>zn ?_
   obtain ⟨hC,h⟩:=h
   refine ⟨hC,?_⟩
   refine yo 5 ?_
   refine yS h fun _ w h=>zn ?_
   obtain ⟨hC,h⟩:=h
   refine ⟨hC,?_⟩
   refine yo 6 ?_
   refine yx h fun _ w h=>zn ?_
   obtain ⟨hC,h⟩:=h
   refine ⟨hC,?_⟩
   refine yq 7 1 ?_
   refine yu h fun w h=>zn ?_
   obtain ⟨C3,hC,h⟩:=h
   refine ⟨C3,hC,?_⟩
   exact yz<|sim_block_normal<|⟨rfl,h⟩
 · exact sim_block_normal<|zk<|zs<|zr<|yv h fun _ w h=>yc h c32 fun _ w h=>zm<|zn<|zk<|sim_ret<|bodyM_ret rfl h
 exact h.elim
theorem lasts2_sv {B lo hi:Nat} {W:World} (hB:W.heap.size≤B):Lasts2 B (Save lo hi W):=fun w w' hl e=>⟨hl.os.trans e.os,hl.tape.trans e.tape,hl.output.trans e.output,Nat.le_trans e.size hl.size,fun k hk hb=>by
 have:=e.size
 rcases hl.block k (by omega) with h | ⟨h,_⟩
 · rw [h];exact e.block k hk hb
 · omega⟩
theorem lasts2_own {α:Type} {B base n:Nat} {T:TypeId} {enc:α→List Value} {v:Value} {l:List α}:Lasts2 B (fun w=>OwnE w base T n enc v l):=fun w w' hl h=>by
 refine ⟨h.1,?_⟩
 rcases h.2 with h1 | ⟨g,cap,cur,h1,h2,h3,h4⟩
 · exact .inl h1
 · exact .inr ⟨g,cap,cur,h1,h2,Lasts2.has B (by simp) (by simp) w w' hl h3,h4⟩
theorem Save.grown {lo hi:Nat} {w w1 w2:World} {row:Option Nat} (h:Save lo hi w w1) (hg:w1.grownBy w2 row) (hr:∀ g,row=some g→w.heap.size≤g):Save lo hi w w2:=⟨hg.os.trans h.os,hg.tape.trans h.tape,hg.output.trans h.output,Nat.le_trans h.size hg.size,fun k hk hb=>(hg.block k (by have:=h.size;omega) (fun e=>by have:=hr k e.symm;omega)).trans (h.block k hk hb)⟩
theorem own_row {α:Type} {w:World} {base n:Nat} {T:TypeId} {enc:α→List Value} {v:Value} {l:List α} (h:OwnE w base T n enc v l) {g:Nat} (hg:v.ownBlock=some g):∃ cur,w.heap[g]?=some (.cells cur T (0,0)):=by
 rcases h.2 with ⟨rfl,_⟩ | ⟨g',cap,cur,rfl,_,h3,_⟩
 · cases hg
 · have:g'=g:=by injection hg
   subst this
   exact ⟨cur,h3⟩
theorem row_apart {α:Type} {w w':World} {base n:Nat} {T:TypeId} {enc:α→List Value} {v:Value} {l:List α} (h:OwnE w base T n enc v l) (hg:w.grownBy w' v.ownBlock) {b:Nat} {cs:Array Value} {T':TypeId} (hb:w.heap[b]?=some (.cells cs T' (0,0))) (hT:T'≠T):w'.heap[b]?=some (.cells cs T' (0,0)):=(hg.block b (Array.getElem?_eq_some_iff.1 hb).1 (fun e=>by
 obtain ⟨cur,hc⟩:=own_row h e.symm
 rw [hb] at hc
 injection hc with hc
 injection hc with _ hc
 exact hT hc)).trans hb
section
variable {w:World} {lo pb:Nat} {d:DefD}
theorem Text_ret (h:ProgAt w lo pb d) (hT:TabOK w) (hN:Names100 d) (hc:(checkP d).2.2=0) (hz:sizeP d≤100000):Ret Pg 11 #[.pointer (some ⟨pb,0,none⟩)] w fun r w'=>r = .string (textN d (codeP d) (sizeP d))∧Ext w w':=by
 have hlen:=codeP_len d
 have hok:=code_ok hc hz
 refine n34s (R:=retR _) ?_;unfold n34
 dsimp only
 simp (disch:=try exact DI) only [↓PR,QR,simprocAttr]
 generalize hV:World.alloc (World.alloc w _) _=W
 have eW:Ext w W:=by rw [← hV];exact ee
 have o1:W.heap[w.heap.size]?=some (.cells #[.pointer (some ⟨pb,0,none⟩)] 27 (0,0)):=by rw [← hV];simp (disch:=try exact DI) only [↓PR,QR,simprocAttr]
 have o3:W.heap[w.heap.size+1]?=some (.cells #[.slice none 0 0] 80 (0,0)):=by rw [← hV];simp (disch:=try exact DI) only [↓PR,QR,simprocAttr]
 clear hV
 simp only [World.size_alloc]
 have sW:=(Array.getElem?_eq_some_iff.1 o3).1
 generalize hp1:w.heap.size=p1 at *
 generalize hp3:p1+1=p3 at *
 refine callK_ret (Each_ret (h.ext eW) hz) ?_
 rintro _ w2 ⟨⟨e,v0,rfl,he,hI0⟩,e2⟩
 have E2:=eW.trans e2
 have x1:=e2.obj o1
 have x3:=e2.obj o3
 have s2:=e2.size
 unfold n34c5
 let I:Nat→World→Prop:=fun k w'=>k≤sizeP d∧Save p3 (p3+1) w2 w'∧∃ v,w'.heap[p3]?=some (.cells #[v] 80 (0,0))∧OwnS w' w2.heap.size v (linesN d (codeP d) k)
 have hLI:∀ k,Lasts2 w2.heap.size (I k):=fun k=>(Lasts2.const _ _).and ((lasts2_sv (Nat.le_refl _)).and (.ex fun v=>(Lasts2.low (by omega) _).and lasts2_own))
 have hat:∀ w',Save p3 (p3+1) w2 w'→InsAt e v0 (codeP d) w':=fun w' hs=>ins_at (B:=W.heap.size) ⟨hs.obj hI0.1 (.inr (by omega)),hI0.2.1,by
  rcases hI0.2.2 with h1 | ⟨g,cap,cur,h1,h2,h3,h4⟩
  · exact .inl h1
  · exact .inr ⟨g,cap,cur,h1,h2,hs.obj h3 (.inr (by omega)),h4⟩⟩
 refine ⟨_,_,(codeP d).length,(fun k => .int .i64 k),(fun k=>insVal (((codeP d)[k]?).getD zeroI)),InsAt e v0 (codeP d),I,fun _ _=>False,fun _ _=>False,rfl,c38,Each_seq e v0 _ (by omega),⟨Nat.zero_le _,Save.refl _ _ _,_,x3,OwnE.nil _ _ _ _ _⟩,fun k w' h=>hat w' h.2.1,hLI,fun _=>Lasts2.const _ _,fun _=>Lasts2.const _ _,?_,?_,?_,?_⟩
 · intro Rk hRk j w3 hj hI3 hR3 hlt hready
   obtain ⟨x,hx⟩:=getElem?_lt hj
   have hgx:insVal (((codeP d)[j]?).getD zeroI)=insVal x:=by rw [hx];rfl
   dsimp only
   rw [hgx]
   unfold n34c3
   have eA:Ext w3 (w3.alloc (.cells (insCells x).toArray TI)):=ee
   have oA:=heap_new w3 (insCells x).toArray TI
   have hR4:=hRk _ _ (KR5.of eA) hR3
   have hI4:=(hLI j).ext hI3 eA
   have hrd:ReadyAt (w2.heap.size+1) (w3.alloc (.cells (insCells x).toArray TI)):=by obtain ⟨r,h1,h2⟩:=hready;exact ⟨r,eA.obj h1,h2⟩
   simp (disch:=try exact DI) only [↓PR,QR,simprocAttr]
   generalize (w3.alloc (.cells (insCells x).toArray TI))=w4 at oA hR4 hI4 hrd ⊢
   have hq2:w2.heap.size≤w3.heap.size:=hI3.2.1.size
   generalize w3.heap.size=q at oA hq2 ⊢
   refine ⟨hrd,fun w5 hbz=>?_⟩
   have hR5:=hRk _ _ (KR5.busied hbz) hR4
   have hI5:=(hLI j).busied hbz (Nat.le_succ _) hI4
   have o5:w5.heap[q]?=some (.cells (insCells x).toArray TI (0,0)):=by
    obtain ⟨r,hr,rfl⟩:=hbz
    rw [World.putObj_heap_other (by rintro rfl;rw [oA] at hr;cases hr)]
    exact oA
   have eD:Ext w5 (Sw.drew w5):=(Ext.refl w5).drew
   have hR6:=hRk _ _ (KR5.of eD) hR5
   obtain ⟨_,hs6,v,y3,hO6⟩:=(hLI j).ext hI5 eD
   have y5:=eD.obj o5
   have y1:=hs6.obj x1 (.inl (by omega))
   refine looksK (C:=fun u=>u.heap[p3]?=some (.cells #[v] 80 (0,0))∧u.heap[p1]?=some (.cells #[.pointer (some ⟨pb,0,none⟩)] 27 (0,0))∧u.heap[q]?=some (.cells (insCells x).toArray TI (0,0))) ⟨y3,y1,y5⟩ fun hne=>?_
   generalize hCC:(fun u:World=>u.heap[p3]?=some (.cells #[v] 80 (0,0))∧u.heap[p1]?=some (.cells #[.pointer (some ⟨pb,0,none⟩)] 27 (0,0))∧u.heap[q]?=some (.cells (insCells x).toArray TI (0,0)))=CC at hne ⊢
   have hCC1:∀ u,CC u↔(u.heap[p3]?=some (.cells #[v] 80 (0,0))∧u.heap[p1]?=some (.cells #[.pointer (some ⟨pb,0,none⟩)] 27 (0,0))∧u.heap[q]?=some (.cells (insCells x).toArray TI (0,0))):=fun u=>by rw [← hCC]
   clear hCC
   have r3:∀ K:Value→Prop,qV Pg CC (Instr.loadAt 80 (.pointer (some ⟨p3,0,none⟩))) K=K v:=fun K=>qV_loadG fun u hu=>Loads.one ty80 (by rw [(cells_of_heap ((hCC1 u).1 hu).1).1];rfl)
   have r1:∀ K:Value→Prop,qV Pg CC (Instr.loadAt 27 (.pointer (some ⟨p1,0,none⟩))) K=K (.pointer (some ⟨pb,0,none⟩)):=fun K=>qV_loadG fun u hu=>Loads.one ty27 (by rw [(cells_of_heap ((hCC1 u).1 hu).2.1).1];rfl)
   have r5:∀ K:Value→Prop,qV Pg CC (Instr.loadAt TI (.pointer (some ⟨q,0,none⟩))) K=K (insVal x):=fun K=>qV_loadG fun u hu=>ElemAt.loads (b:=q) (o:=0) (cs:=insCells x) (fun j u' hu'=>by rw [Nat.zero_add,(cells_of_heap ((hCC1 u).1 hu).2.2).1];simpa using hu') ty36 rfl
   generalize (Sw.drew w5)=w6 at hR6 hs6 y3 hO6 y5 y1 ⊢
   have E6:Ext w w6:=hs6.to_ext E2 (by omega)
   unfold n34c2
   rw [r3,r1,r5]
   refine zcr (line_ret (h.ext E6) (hT.ext E6) hN j ⟨by omega,by omega⟩ x (hok x (List.mem_of_getElem? hx))) fun w7 e7=>?_
   refine ⟨(hCC1 w7).2 ⟨e7.obj y3,e7.obj y1,e7.obj y5⟩,?_⟩
   unfold n34c1
   simp (disch:=try exact DI) only [↓PR,QR,simprocAttr]
   generalize hY:World.alloc w7 _=w8
   have e8:Ext w7 w8:=by rw [← hY];exact ee
   have oY:w8.cell? ⟨w7.heap.size,0,none⟩=some (.string (lineB d j x)):=by rw [← hY,(cells_of_heap (heap_new _ _ _)).1];rfl
   clear hY
   have e68:=e7.trans e8
   have z3:=e68.obj y3
   have z1:=e68.obj y1
   have z5:=e68.obj y5
   have hO8:=hO6.ext e68
   have hs8:=hs6.ext e68
   refine ⟨(hCC1 w8).2 ⟨z3,z1,z5⟩,?_⟩
   refine append_str (lineB d j x) hO8 oY hs8.size (by rw [linesN_len (by omega)];omega) ?_
   intro v' w9 hO9 hg
   have a3:=row_apart hO8 hg z3 (by decide)
   have a1:=row_apart hO8 hg z1 (by decide)
   have a5:=row_apart hO8 hg z5 (by decide)
   refine ⟨(hCC1 w9).2 ⟨a3,a1,a5⟩,?_⟩
   have hv1:v'.oneCell'=true:=SliceOf.oneCell (hO9.slice (E:=EStr) (fun _=>rfl) (fun _ _=>rfl))
   simp (disch:=try exact DI) only [↓PR,QR,simprocAttr,(cells_of_heap a3).1,(cells_of_heap a3).2]
   refine turnK_intro ?_
   have hs9:=hs8.grown hg fun g hgr=>(World.ownsRow.lt hO8 g hgr).1
   have hk9:KR5 (w2.heap.size+1+1) w6 w9:=(KR5.of e68).grown hg fun g hgr=>by
    obtain ⟨cur,hc⟩:=own_row hO8 hgr
    exact ⟨cur,_,_,hc⟩
   refine ⟨hRk _ _ (hk9.setCell p3 0 v') hR6,by omega,hs9.setCell (Nat.le_refl _) (Nat.lt_succ_self _) v',v',by simpa using heap_set (o:=0) a3 v',?_⟩
   rw [linesN_succ hx]
   exact (OwnR.only (OwnE.range hO9) (Only.setCell w9 p3 0 v') (.inr (.inl (by omega)))).1
 · rintro w3 ⟨_,hs,v,y3,hO⟩ hmk
   have E3:Ext w w3:=hs.to_ext E2 (by omega)
   unfold n34c4
   have hsz:=sizeP_pos d
   have htz:=textN_size hN hok (k:=(codeP d).length) (Nat.le_refl _) (by omega)
   simp (disch:=try exact DI) only [↓PR,QR,simprocAttr,(cells_of_heap y3).1]
   refine zcr (Join_ret hO ⟨#[10]⟩ (by rw [linesN_len (Nat.le_refl _)];omega) (by rw [linesN_len (Nat.le_refl _)];omega) (Nat.le_trans htz (by decide))) fun w4 e4=>?_
   refine outX_mark (hmk.ext e4) ?_
   simp (disch:=try exact DI) only [↓PR,QR,simprocAttr,outX_nil,retV,resOne]
   exact ⟨by rw [hlen];rfl,(E3.trans e4).putObj (by have:=E2.size;omega) _⟩
 · rintro c w3 hf
   exact hf.elim
 · rintro ch w3 hf
   exact hf.elim
theorem JoinN_ret (w:World) (sep:ByteArray):Ret Pg 32 #[.slice none 0 0,.string sep] w fun r w'=>r = .string ByteArray.empty∧Ext w w':=by
 refine Calls.mono (sh_strings_Join_none none 0 sep w) ?_
 rintro e w' ⟨rfl,rfl⟩
 exact ⟨_,rfl,rfl,Ext.refl _⟩
theorem TextN_ret {p:Value} (h:NoProg w p):Ret Pg 11 #[p] w fun r w'=>r = .string ByteArray.empty∧Ext w w':=by
 have hp:p.oneCell'=true:=by rcases h with rfl | ⟨pb,rfl,_⟩<;>rfl
 refine n34s (R:=retR _) ?_;unfold n34
 dsimp only
 simp (disch:=try exact DI) only [↓PR,QR,simprocAttr]
 simp only [cells_one hp]
 simp (disch:=try exact DI) only [↓PR,QR,simprocAttr]
 generalize hV:World.alloc (World.alloc w _) _=W
 have eW:Ext w W:=by rw [← hV];exact ee
 have o3:W.heap[w.heap.size+1]?=some (.cells #[.slice none 0 0] 80 (0,0)):=by rw [← hV];simp (disch:=try exact DI) only [↓PR,QR,simprocAttr]
 clear hV
 simp only [World.size_alloc]
 have sW:=(Array.getElem?_eq_some_iff.1 o3).1
 refine callK_ret (EachN_ret (h.ext eW)) ?_
 rintro _ w2 ⟨⟨e,rfl,hI0⟩,e2⟩
 have E2:=eW.trans e2
 have x3:=e2.obj o3
 unfold n34c5
 refine ⟨_,_,([]:List InsD).length,(fun k => .int .i64 k),(fun k=>insVal ((([]:List InsD)[k]?).getD zeroI)),InsAt e (.slice none 0 0) [],fun _=>Ext w2,fun _ _=>False,fun _ _=>False,rfl,c38,Each_seq e _ _ (by decide),Ext.refl _,fun k w' h=>hI0.ext h,fun _=>Lasts2.from (Nat.le_refl _),fun _=>Lasts2.const _ _,fun _=>Lasts2.const _ _,?_,?_,?_,?_⟩
 · intro Rk hRk j w3 hj
   exact absurd hj (by simp)
 · rintro w3 e3 hmk
   unfold n34c4
   simp (disch:=try exact DI) only [↓PR,QR,simprocAttr,(cells_of_heap (e3.obj x3)).1]
   refine zcr (JoinN_ret w3 ⟨#[10]⟩) fun w4 e4=>?_
   refine outX_mark (hmk.ext e4) ?_
   simp (disch:=try exact DI) only [↓PR,QR,simprocAttr,outX_nil,retV,resOne]
   exact ⟨by trivial,(E2.trans (e3.trans e4)).putObj (by have:=E2.size;omega) _⟩
 · rintro c w3 hf
   exact hf.elim
 · rintro ch w3 hf
   exact hf.elim
end
def L1 (i:Int) (x:InsD):ByteArray:=decB i++⟨#[32]⟩++opN x.code
def L2 (d:DefD) (i:Int) (x:InsD):ByteArray:=if 0≤x.msg then L1 i x++⟨#[32]⟩++nameX d x else L1 i x
def L3 (d:DefD) (i:Int) (x:InsD):ByteArray:=if 0≤x.reg then L2 d i x++⟨#[32]⟩++(⟨#[114]⟩++decB x.reg) else L2 d i x
def L4 (d:DefD) (i:Int) (x:InsD):ByteArray:=if 0≤x.to then L3 d i x++⟨#[32]⟩++decB x.to else L3 d i x
end Go.Proofs.YtfdecdnmooaegaaGreatDoor
namespace Go.Sw
open Go.ChangeShapes Go.WideShapes Go.RowKit Go.ChangeAt Go.Deep
section
variable {H:Type} {enc:TypeId×Value→H} {P:Program} {w:World} {base:Nat} {spare:Nat→Bool} {held:Bool}
theorem open_str {r:Reach} {b0:Nat} {t:TypeId} {v:Value} {d:DataW H} {ps:List MemPlace} (ht:P.underlying t=some .string) (hval:Value.okWide P w r b0 t v) (hd:DataW.Trod enc P w base spare held t v d ps):∃ s:ByteArray,v = .string s∧d = .lit (.string s.data.toList):=by
 obtain ⟨s,rfl⟩:=okWide_string ht hval
 obtain ⟨fuel,hf⟩:=hd
 obtain ⟨s',h,hx,hs⟩:=DataW.trod_string ht hf
 simp [Value.cells] at h
 simp only [Prod.mk.injEq] at hx
 exact ⟨s,rfl,by rw [hx.1,h]⟩
theorem trodAll_stays (hl:laidOutB P=true) {W W':World} (he:Ext W W'):∀ {ts:List TypeId} {vs:List Value} {ds:List (DataW H)} {ps:List MemPlace},(∀ t∈ts,P.readableRec t=true∧t < P.types.size)→(∀ x∈ps,x.block < W.heap.size) →
 DataW.TrodAll enc P W 0 (fun _=>true) true ts vs ds ps→DataW.TrodAll enc P W' 0 (fun b=>decide (b < W.heap.size)) true ts vs ds ps
 | [],_,_,_,_,_,h=>by obtain ⟨rfl,rfl,rfl⟩:=trodAll_nil h;exact trodAll_mk0
 | t::ts,_,_,_,hr,hlt,h=>by
  obtain ⟨v,vs1,d,ds1,a,b,rfl,rfl,rfl,h1,h2⟩:=trodAll_cons h
  refine ⟨a,b,?_,trodAll_stays hl he (fun t ht=>hr t (List.mem_cons_of_mem _ ht)) (fun x hx=>hlt x (List.mem_append_right _ hx)) h2,rfl⟩
  exact Below.trod hl (hr t (List.mem_cons_self ..)).1 (hr t (List.mem_cons_self ..)).2 h1 ⟨he.os,he.tape,he.output,he.size,he.block⟩ (fun x hx=>hlt x (List.mem_append_left _ hx))
theorem law_post {f:Func} {s:ChangeSpec} {W W':World} {args:Array Value} {ds gs:List (DataW H)} {before:List MemPlace} {tb:TypeId} (hl:laidOutB P=true) (hr:∀ t∈f.params.toList,P.readableRec t=true∧t < P.types.size) (hs:s.vars=[])
 (hW:DataW.Whole enc P f.params.toList s.vars false W args.toList ds gs before) (he:Ext W W') (hres:f.resultTypes = #[tb]) (htb:P.underlying tb=some .bool) (hfn:(s.fn H ds).results=[.lit (.bool true)]) (hargs:(s.fn H ds).args=ds) (hvars:(s.fn H ds).vars=[]) :
 s.post enc P f false true false false W args (.bool true) W':=by
 have hW':=hW
 obtain ⟨p,q,hA,hV,rfl,_,_⟩:=hW
 rw [hs] at hV
 obtain ⟨rfl,rfl⟩:=trodVars_none hV
 have hlt:∀ x∈p,x.block < W.heap.size:=fun x hx=>hW'.lt x (by simpa using hx)
 rw [List.append_nil] at hW'
 refine ⟨ds,[],p,[],p,[],hW',?_,?_,?_,Below.frame ⟨he.os,he.tape,he.output,he.size,he.block⟩ _,fun h=>by cases h⟩
 · rw [List.append_nil,hfn,hres]
   exact trodAll_mk1 (shut_bool htb _)
 · rw [List.append_nil,hargs]
   exact trodAll_stays hl he hr hlt hA
 · rw [List.append_nil,hvars,hs]
   exact rfl
end
end Go.Sw
namespace Go.Proofs.YtfdecdnmooaegaaGreatDoor
open Sw
open Go.RowKit (intOf Below)
def smallF (f:FieldD):Prop:=f.name.size≤100∧f.cases.length≤20∧f.terms.length≤6
def smallM (m:MsgD):Prop:=m.fields.length≤20∧m.name.size≤100∧∀ f∈m.fields,smallF f
def smallP (d:DefD):Prop:=d.msgs.length≤12∧∀ m∈d.msgs,smallM m
theorem srefsF_len {f:FieldD} (h:smallF f):(refsF f).length≤20:=by
 unfold refsF
 split
 · simp
 · split
   · simpa using h.2.1
   · simp
theorem sallRefs_len:∀ {l:List FieldD},(∀ f∈l,smallF f)→(allRefs l).length≤l.length*20
 | [],_=>by simp [allRefs]
 | f::l,h=>by
  have h1:=srefsF_len (h f (List.mem_cons_self ..))
  have h2:=sallRefs_len (l:=l) (fun g hg=>h g (List.mem_cons_of_mem _ hg))
  unfold allRefs at *
  rw [List.flatMap_cons,List.length_append,List.length_cons]
  omega
section
variable {d:DefD}
theorem small_calm (h:smallP d):calm d:=fun m hm=>by
 obtain ⟨h1,_,h3⟩:=h.2 m hm
 have:=sallRefs_len h3
 exact ⟨by omega,fun f hf=>by have:=(h3 f hf).2.2;omega⟩
theorem small_tame (h:smallP d):tame d:=⟨by have:=h.1;omega,fun m hm=>⟨by have:=(h.2 m hm).1;omega,fun f hf=>⟨by have:=((h.2 m hm).2.2 f hf).2.2;omega,by have:=((h.2 m hm).2.2 f hf).2.1;omega⟩⟩⟩
theorem small_names (h:smallP d):Names100 d:=fun m hm=>⟨(h.2 m hm).2.1,fun f hf=>((h.2 m hm).2.2 f hf).1⟩
theorem small_lenK {l:List FieldD} (h:∀ f∈l,smallF f):∀ k,lenK l k≤k*21
 | 0=>Nat.le_refl _
 | k+1=>by
  have:=small_lenK h k
  unfold lenK
  cases hf:l[k]? with
  | none=>simp;omega
  | some f =>
   have:=(h f (List.mem_of_getElem? hf)).2.1
   have:lenF f≤21:=by unfold lenF;split<;>omega
   simp only
   omega
theorem small_rout {l:List MsgD} (h:∀ m∈l,smallM m) (r:Nat→Bool):∀ k,routN l r k≤2+k*422
 | 0=>Nat.le_refl _
 | k+1=>by
  have:=small_rout h r k
  unfold routN
  cases hm:l[k]? with
  | none=>simp;omega
  | some m =>
   obtain ⟨h1,_,h3⟩:=h m (List.mem_of_getElem? hm)
   have h4:=small_lenK h3 m.fields.length
   have:lenM m≤422:=by unfold lenM;omega
   simp only
   split<;>omega
theorem small_size (h:smallP d):sizeP d≤100000:=by
 have:=small_rout h.2 (reachD d) d.msgs.length
 have:=h.1
 unfold sizeP
 omega
end
theorem num_ret (w0:World) (v:Value):Ret Pg 15 #[v] w0 fun r w'=>r=v∧Ext w0 w':=by
 refine n21s (R:=retR _) ?_;unfold n21
 exact ⟨_,rfl,rfl,Ext.refl _⟩
def zFd:FieldD:={ name:=ByteArray.empty,kind:=0,bits:=0,little:=false,loose:=false,low:=0,high:=0,base:=0,terms:=[],of:=ByteArray.empty,tag:=ByteArray.empty,fr:=ByteArray.empty,cases:=[],check:=0,key:=0 }
def fAx:FieldD:={ zFd with name:=⟨#[120]⟩,kind:=1,bits:=8,high:=1 }
def fBz:FieldD:={ zFd with name:=⟨#[122]⟩,kind:=2,bits:=8 }
def fSn:FieldD:={ zFd with name:=⟨#[110]⟩,kind:=1,bits:=8,high:=3 }
def fSt:FieldD:={ zFd with name:=⟨#[116]⟩,kind:=2,bits:=8,low:=2 }
def fSl:FieldD:={ zFd with name:=⟨#[108]⟩,kind:=7,of:=⟨#[97]⟩,terms:=[⟨⟨#[110]⟩,1⟩] }
def fSc:FieldD:={ zFd with name:=⟨#[99]⟩,kind:=9,tag:=⟨#[116]⟩,cases:=[⟨2,2,⟨#[97]⟩⟩] }
def xA:MsgD:=⟨⟨#[97]⟩,[fAx]⟩
def xB:MsgD:=⟨⟨#[98]⟩,[fBz]⟩
def xS:MsgD:=⟨⟨#[115]⟩,[fSn,fSt,fSl,fSc]⟩
def gv18:DefD:=⟨⟨#[100]⟩,[xA,xB,xS],⟨#[115]⟩⟩
theorem gv_small:smallP gv18:=by
 refine ⟨by decide,?_⟩
 intro m hm
 simp only [gv18,List.mem_cons,List.not_mem_nil,or_false] at hm
 rcases hm with rfl | rfl | rfl
 all_goals
  refine ⟨by decide,by decide,?_⟩
  intro f hf
  simp only [xA,xB,xS,List.mem_cons,List.not_mem_nil,or_false] at hf
  rcases hf with rfl | rfl | rfl | rfl<;>exact ⟨by decide,by decide,by decide⟩
theorem gv_ok:flawedA gv18=false:=by decide +kernel
theorem gv_size:sizeP gv18=12:=by decide +kernel
theorem gv_rs:routE gv18 ⟨#[115]⟩=some 5:=by decide +kernel
theorem gv_gs:regE gv18 ⟨#[115]⟩=some 2:=by decide +kernel
theorem gv_ga:regE gv18 ⟨#[97]⟩=some 0:=by decide +kernel
theorem gv_rb:routE gv18 ⟨#[98]⟩=none:=by decide +kernel
theorem gv_text:textN gv18 (codeP gv18) 12=⟨#[48,32,99,97,108,108,32,53,10,49,32,115,116,111,112,10,50,32,101,110,116,101,114,32,97,10,51,32,114,101,97,100,32,97,46,120,10,52,32,114,101,116,117,114,110,32,97,10,53,32,101,110,116,101,114,32,115,10,54,32,114,101,97,100,32,115,46,110,32,114,48,10,55,32,114,101,97,100,32,115,46,116,32,114,49,10,56,32,109,97,110,121,32,115,46,108,32,50,10,57,32,115,101,108,101,99,116,32,115,46,99,10,49,48,32,99,97,115,101,32,50,45,50,32,50,10,49,49,32,114,101,116,117,114,110,32,115]⟩:=by decide +kernel
theorem rows_given {α:Type} {w:World} {b n:Nat} {T:TypeId} {E:World→List Value→α→Prop} (css:List (List Value)) (l:List α) (hn0:0 < n) (h:w.heap[b]?=some (.cells css.flatten.toArray T (0,0))) (hn:∀ cs∈css,cs.length=n) (hl:l.length=css.length) (hb:l.length≤1048576) (hE:∀ (k:Nat) cs x,css[k]?=some cs→l[k]?=some x→E w cs x):SliceOf w n E (.slice (some ⟨b,0,none⟩) l.length l.length) l:=by
 refine ⟨_,_,rfl,Nat.le_refl _,by omega,fun _=>⟨b,0,rfl,fun k x hx=>?_⟩⟩
 obtain ⟨cs,hcs⟩:=getElem?_lt (l:=css) (k:=k) (by have:=(List.getElem?_eq_some_iff.1 hx).1;omega)
 refine ⟨cs,hn cs (List.mem_of_getElem? hcs),fun j u hu=>?_,hE k cs x hcs hx⟩
 rw [(cells_of_heap h).1]
 have hj:j < n:=by have:=(List.getElem?_eq_some_iff.1 hu).1;rw [hn cs (List.mem_of_getElem? hcs)] at this;exact this
 have key:∀ (css:List (List Value)) (k:Nat),(∀ cs∈css,cs.length=n)→css[k]?=some cs→css.flatten[k*n+j]?=some u:=by
  intro css
  induction css with
  | nil=>intro k _ h;cases h
  | cons c css ih =>
   intro k hn h
   have hc:=hn c (List.mem_cons_self ..)
   cases k with
   | zero =>
    injection h with h
    subst h
    rw [List.flatten_cons,Nat.zero_mul,Nat.zero_add,List.getElem?_append_left (by omega)]
    exact hu
   | succ k =>
    rw [List.flatten_cons,List.getElem?_append_right (by rw [hc,Nat.succ_mul];omega),hc,show (k+1)*n+j - n=k*n+j by rw [Nat.succ_mul];omega]
    exact ih k (fun cs hm=>hn cs (List.mem_cons_of_mem _ hm)) h
 have:=key css k hn hcs
 simpa using this
theorem given18_ret (w0:World):Ret Pg 30 #[] w0 fun r w'=>DefVal w' r gv18∧Ext w0 w':=by
 refine n19s (R:=retR _) ?_;unfold n19
 simp (disch:=try exact DI) only [↓PR,QR,simprocAttr]
 generalize hn:w0.heap.size=n
 refine ⟨⟨_,rfl,?_⟩,ee⟩
 subst hn
 have r1:∀ (f:FieldD) (k:Nat) (cs:List Value) (x:FieldD) (w:World),f.terms=[]→f.cases=[]→[fieldCells f (.slice none 0 0) (.slice none 0 0)][k]?=some cs→[f][k]?=some x→EField w cs x:=fun f k cs x w ht hc h1 h2=>by
  match k with
  | 0=>injection h1 with h1;injection h2 with h2;subst h1 h2;exact ⟨_,_,rfl,by rw [ht];exact SliceOf.nil _ _ _,by rw [hc];exact SliceOf.nil _ _ _⟩
 refine rows_given (T:=53) [msgCells xA (.slice (some ⟨w0.heap.size+1,0,none⟩) 1 1),msgCells xB (.slice (some ⟨w0.heap.size+3,0,none⟩) 1 1),msgCells xS (.slice (some ⟨w0.heap.size+7,0,none⟩) 4 4)] gv18.msgs (by decide) (by simp (disch:=try exact DI) only [↓PR,QR,simprocAttr];rfl) (by simp [msgCells]) rfl (by decide) fun k cs x h1 h2=>?_
 match k with
 | 0 =>
  injection h1 with h1;injection h2 with h2;subst h1 h2
  exact ⟨_,rfl,rows_given [fieldCells fAx (.slice none 0 0) (.slice none 0 0)] [fAx] (by decide) (by simp (disch:=try exact DI) only [↓PR,QR,simprocAttr];rfl) (by simp [fieldCells]) rfl (by decide) fun k cs x h1 h2=>r1 fAx k cs x _ rfl rfl h1 h2⟩
 | 1 =>
  injection h1 with h1;injection h2 with h2;subst h1 h2
  exact ⟨_,rfl,rows_given [fieldCells fBz (.slice none 0 0) (.slice none 0 0)] [fBz] (by decide) (by simp (disch:=try exact DI) only [↓PR,QR,simprocAttr];rfl) (by simp [fieldCells]) rfl (by decide) fun k cs x h1 h2=>r1 fBz k cs x _ rfl rfl h1 h2⟩
 | 2 =>
  injection h1 with h1;injection h2 with h2;subst h1 h2
  refine ⟨_,rfl,rows_given [fieldCells fSn (.slice none 0 0) (.slice none 0 0),fieldCells fSt (.slice none 0 0) (.slice none 0 0),fieldCells fSl (.slice (some ⟨w0.heap.size+5,0,none⟩) 1 1) (.slice none 0 0),fieldCells fSc (.slice none 0 0) (.slice (some ⟨w0.heap.size+6,0,none⟩) 1 1)] xS.fields (by decide) (by simp (disch:=try exact DI) only [↓PR,QR,simprocAttr];rfl) (by simp [fieldCells]) rfl (by decide) fun k cs x h1 h2=>?_⟩
  match k with
  | 0=>injection h1 with h1;injection h2 with h2;subst h1 h2;exact ⟨_,_,rfl,SliceOf.nil _ _ _,SliceOf.nil _ _ _⟩
  | 1=>injection h1 with h1;injection h2 with h2;subst h1 h2;exact ⟨_,_,rfl,SliceOf.nil _ _ _,SliceOf.nil _ _ _⟩
  | 2 =>
   injection h1 with h1;injection h2 with h2;subst h1 h2
   refine ⟨_,_,rfl,?_,SliceOf.nil _ _ _⟩
   exact rows_given (T:=113) [termCells ⟨⟨#[110]⟩,1⟩] fSl.terms (by decide) (by simp (disch:=try exact DI) only [↓PR,QR,simprocAttr];rfl) (by simp [termCells]) rfl (by decide) fun k cs x h1 h2=>by
    match k with
    | 0=>injection h1 with h1;injection h2 with h2;subst h1 h2;rfl
  | 3 =>
   injection h1 with h1;injection h2 with h2;subst h1 h2
   refine ⟨_,_,rfl,SliceOf.nil _ _ _,?_⟩
   exact rows_given (T:=85) [caseCells ⟨2,2,⟨#[97]⟩⟩] fSc.cases (by decide) (by simp (disch:=try exact DI) only [↓PR,QR,simprocAttr];rfl) (by simp [caseCells]) rfl (by decide) fun k cs x h1 h2=>by
    match k with
    | 0=>injection h1 with h1;injection h2 with h2;subst h1 h2;rfl
theorem known18_ret (w0:World) (hT:TabOK w0):Ret Pg 9 #[] w0 fun r w'=>r = .bool true∧Ext w0 w':=by
 have hz:sizeP gv18≤100000:=small_size gv_small
 have hcv:=aligned_valid gv_ok
 refine n20s (R:=retR _) ?_;unfold n20
 refine callK_ret (given18_ret w0) ?_
 rintro gv w1 ⟨hD,e1⟩
 refine callK_ret (Compile_ret w1 _ gv18 hD (small_calm gv_small) (small_tame gv_small) hz) ?_
 rintro _ w2 ⟨hr,e2⟩
 rw [gv_ok,if_neg (by decide)] at hr
 obtain ⟨pb,rfl,hP⟩:=hr
 have E2:=e1.trans e2
 simp (disch:=try exact DI) only [↓PR,QR,simprocAttr,↓n20c15]
 refine zcr (num_ret _ _) fun w3 e3=>?_
 have P3:=hP.ext e3
 simp (disch:=try exact DI) only [↓PR,QR,simprocAttr,↓n20c14]
 rw [op_eqNilP Tryz.underlying27]
 simp only [Option.isNone_some]
 simp (disch:=try exact DI) only [↓PR,QR,simprocAttr,↓n20c13]
 refine zcr (Routine_ret P3 ⟨#[115]⟩) fun w4 e4=>?_
 rw [gv_rs]
 have P4:=P3.ext e4
 simp (disch:=try exact DI) only [↓PR,QR,simprocAttr,↓n20c12,Option.getD_some,Option.isSome_some]
 refine zcr (Registers_ret P4 ⟨#[115]⟩) fun w5 e5=>?_
 rw [gv_gs]
 have P5:=P4.ext e5
 simp (disch:=try exact DI) only [↓PR,QR,simprocAttr,↓n20c11,Option.getD_some,Option.isSome_some]
 refine zcr (Registers_ret P5 ⟨#[97]⟩) fun w6 e6=>?_
 rw [gv_ga]
 have P6:=P5.ext e6
 simp (disch:=try exact DI) only [↓PR,QR,simprocAttr,↓n20c10,Option.getD_some,Option.isSome_some]
 refine zcr (Routine_ret P6 ⟨#[98]⟩) fun w7 e7=>?_
 rw [gv_rb]
 have P7:=P6.ext e7
 simp (disch:=try exact DI) only [↓PR,QR,simprocAttr,↓n20c9,Option.getD_none,Option.isSome_none]
 refine zcr (Len_ret P7) fun w8 e8=>?_
 rw [gv_size]
 have P8:=P7.ext e8
 simp (disch:=try exact DI) only [↓PR,QR,simprocAttr,↓n20c8,↓n20c7,↓n20c6,↓n20c5]
 simp only [Option.isSome_some,Option.isSome_none,Bool.false_eq_true,if_true,if_false]
 refine zcr (num_ret _ _) fun w9 e9=>?_
 refine zcr (num_ret _ _) fun w10 e10=>?_
 have a10:IntKind.i64.wrap ((0:Int)+0)=0:=by decide
 simp (disch:=try exact DI) only [↓PR,QR,simprocAttr,↓n20c4,a10]
 refine zcr (num_ret _ _) fun w11 e11=>?_
 simp (disch:=try exact DI) only [↓PR,QR,simprocAttr,a10,↓n20c3]
 refine zcr (num_ret _ _) fun w12 e12=>?_
 have e812:=e9.trans (e10.trans (e11.trans e12))
 have E12:=(E2.trans (e3.trans (e4.trans (e5.trans (e6.trans (e7.trans e8)))))).trans e812
 simp (disch:=try exact DI) only [↓PR,QR,simprocAttr,↓n20c2]
 refine zcr (Text_ret (P8.ext e812) (hT.ext E12) (small_names gv_small) hcv hz) fun w13 e13=>?_
 rw [gv_size,gv_text]
 simp (disch:=try exact DI) only [↓PR,QR,simprocAttr,↓n20c1]
 exact ⟨by trivial,E12.trans e13⟩
theorem over_ret (w0:World) (e:Nat) (v sv:Value) (l:List InsD) (many:Int) (hI:InsAt e v l w0) (hS:SliceOf w0 6 EIns sv l) (hl:l.length≤100000):Ret Pg 18 #[.func (.func 38) #[] #[.pointer (some ⟨e,0,none⟩)],sv,.int .i64 many] w0 fun r w'=>r = .bool true∧Ext w0 w':=by
 have hs1:=SliceOf.oneCell hS
 obtain ⟨A,c,rfl,_,_,_,_⟩:=SliceOf.open hS
 refine n22s (R:=retR _) ?_;unfold n22
 dsimp only
 simp (disch:=try exact DI) only [↓PR,QR,simprocAttr]
 generalize hV:World.alloc (World.alloc (World.alloc w0 _) _) _=V
 have eV:Ext w0 V:=by rw [← hV];exact ee
 have o4:V.heap[w0.heap.size]?=some (.cells #[.slice A l.length c] 32 (0,0)):=by rw [← hV];simp (disch:=try exact DI) only [↓PR,QR,simprocAttr]
 have o5:V.heap[w0.heap.size+1]?=some (.cells #[.int .i64 many] 3 (0,0)):=by rw [← hV];simp (disch:=try exact DI) only [↓PR,QR,simprocAttr]
 have o6:V.heap[w0.heap.size+1+1]?=some (.cells #[.bool false] 4 (0,0)):=by rw [← hV];simp (disch:=try exact DI) only [↓PR,QR,simprocAttr]
 clear hV
 have s6:=(Array.getElem?_eq_some_iff.1 o6).1
 unfold n22c7
 simp (disch:=try exact DI) only [↓PR,QR,simprocAttr]
 generalize hV:World.alloc V _=U
 have eU:Ext V U:=by rw [← hV];exact ee
 have o7:U.heap[V.heap.size]?=some (.cells #[.int .i64 0] 3 (0,0)):=by rw [← hV];exact heap_new _ _ _
 clear hV
 have s7:=(Array.getElem?_eq_some_iff.1 o7).1
 have EU:=eV.trans eU
 have x4:=eU.obj o4
 have x5:=eU.obj o5
 have x6:=eU.obj o6
 generalize hp4:w0.heap.size=p4 at *
 generalize hp5:p4+1=p5 at *
 generalize hp6:p5+1=p6 at *
 generalize hp7:V.heap.size=p7 at *
 let St:Nat→World→Prop:=fun k w=>Save p7 (p7+1) U w∧w.heap[p7]?=some (.cells #[.int .i64 (k:Int)] 3 (0,0))
 have hSt:∀ k,Lasts2 U.heap.size (St k):=fun k=>(lasts2_sv (Nat.le_refl _)).and (Lasts2.low (by omega) _)
 let I:Nat→World→Prop:=fun k w=>k≤l.length∧(0 < k→(k:Int) < many)∧St k w
 let Ix:Nat→World→Prop:=fun cc w=>cc=1∧∃ k:Nat,1≤k∧k≤l.length∧many≤k∧(k=1∨((k:Int) - 1) < many)∧St k w
 have hat:∀ w',Save p7 (p7+1) U w'→Ext w0 w':=fun w' hs=>hs.to_ext EU (by omega)
 have hLI:∀ k,Lasts2 U.heap.size (I k):=fun k=>(Lasts2.const _ _).and ((Lasts2.const _ _).and (hSt k))
 have hLX:∀ cc,Lasts2 U.heap.size (Ix cc):=fun cc=>(Lasts2.const _ _).and (.ex fun k=>(Lasts2.const _ _).and ((Lasts2.const _ _).and ((Lasts2.const _ _).and ((Lasts2.const _ _).and (hSt k)))))
 have fin:∀ (k:Nat) (w:World) (B:Nat),B=U.heap.size→St k w→MarkAt B w→((k:Int) == if (if many > 1 then many else 1) < (l.length:Int) then if many > 1 then many else 1 else (l.length:Int))=true→n22c5 (.pointer (some ⟨p4,0,none⟩)) (.pointer (some ⟨p5,0,none⟩)) (.pointer (some ⟨p6,0,none⟩)) (.pointer (some ⟨p7,0,none⟩)) (Sw.mark B::[]) (retR fun r w'=>r = .bool true∧Ext w0 w') w:=by
  intro k w B hB hst hmk hk
  have c4:=cells_of_heap (hst.1.obj x4 (.inl (by omega)))
  have c5:=cells_of_heap (hst.1.obj x5 (.inl (by omega)))
  have q6:=hst.1.obj x6 (.inl (by omega))
  have c6:=cells_of_heap q6
  have c7:=cells_of_heap hst.2
  unfold n22c5
  simp (disch:=try exact DI) only [↓PR,QR,simprocAttr,c4.1,c5.1,c7.1,c6.1,c6.2,hk]
  have hm2:MarkAt B (w.setCell ⟨p6,0,none⟩ (.bool true)):=hmk.setCell _ _
  refine outX_mark hm2 ?_
  have z6:((w.setCell ⟨p6,0,none⟩ (.bool true)).putObj B (.deferred none)).heap[p6]?=some (.cells #[.bool true] 4 (0,0)):=by
   rw [World.putObj_heap_other (by omega)]
   simpa using heap_set (o:=0) q6 (.bool true)
  simp (disch:=try exact DI) only [↓PR,QR,simprocAttr,outX_nil,retV,resOne,(cells_of_heap z6).1]
  exact ⟨trivial,((hat w hst.1).setCell (p:=⟨p6,0,none⟩) (by show w0.heap.size≤p6;omega) _).putObj (by have:=EU.size;omega) _⟩
 refine ⟨_,_,l.length,(fun k => .int .i64 k),(fun k=>insVal ((l[k]?).getD zeroI)),InsAt e v l,I,Ix,fun _ _=>False,rfl,c38,(Each_seq e v l hl).to2,⟨Nat.zero_le _,fun h=>absurd h (Nat.lt_irrefl 0),Save.refl _ _ _,o7⟩,fun k w h=>hI.ext (hat w h.2.2.1),hLI,hLX,fun _=>Lasts2.const _ _,?_,?_,?_,?_⟩
 · intro Rk hRk j w3 hj hI3 hR3 hlt hready
   obtain ⟨x,hx⟩:=getElem?_lt hj
   have hgx:insVal ((l[j]?).getD zeroI)=insVal x:=by rw [hx];rfl
   dsimp only
   rw [hgx]
   unfold n22c4
   have eA:Ext w3 (w3.alloc (.cells (insCells x).toArray TI)):=ee
   have oA:=heap_new w3 (insCells x).toArray TI
   have hR4:=hRk _ _ (KR.of eA) hR3
   have hI4:=(hLI j).ext hI3 eA
   have hrd:ReadyAt (U.heap.size+1) (w3.alloc (.cells (insCells x).toArray TI)):=by obtain ⟨r,h1,h2⟩:=hready;exact ⟨r,eA.obj h1,h2⟩
   simp (disch:=try exact DI) only [↓PR,QR,simprocAttr]
   generalize (w3.alloc (.cells (insCells x).toArray TI))=w4 at oA hR4 hI4 hrd ⊢
   have hq2:U.heap.size≤w3.heap.size:=hI3.2.2.1.size
   generalize w3.heap.size=q at oA hq2 ⊢
   refine ⟨hrd,fun w5 hbz=>?_⟩
   have hR5:=hRk _ _ (KR.busied hbz) hR4
   have hI5:=(hLI j).busied hbz (Nat.le_succ _) hI4
   have oq:w5.heap[q]?=some (.cells (insCells x).toArray TI (0,0)):=by
    obtain ⟨r,hr,rfl⟩:=hbz
    rw [World.putObj_heap_other (by rintro rfl;rw [oA] at hr;cases hr)]
    exact oA
   have eD:Ext w5 (Sw.drew w5):=(Ext.refl w5).drew
   have hR6:=hRk _ _ (KR.of eD) hR5
   obtain ⟨hjl,hjm,hs6,y7⟩:=(hLI j).ext hI5 eD
   have yq:=cells_of_heap (eD.obj oq)
   refine drawK_intro ?_
   generalize (Sw.drew w5)=w6 at hR6 hs6 y7 yq ⊢
   have y4:=cells_of_heap (hs6.obj x4 (.inl (by omega)))
   have y5:=cells_of_heap (hs6.obj x5 (.inl (by omega)))
   have c7:=cells_of_heap y7
   obtain ⟨A',c',hv,_,_,_,hel⟩:=SliceOf.open (SliceOf.ext keptIns hS (hat _ hs6))
   injection hv with hv1 _ hv2
   subst hv1 hv2
   obtain ⟨b,o,cs,rfl,_,hA,rfl⟩:=hel j x hx
   have d1:((j:Int) != (j:Int))=false:=by simp
   have d2:decide ((j:Int)≥(l.length:Int))=false:=decide_eq_false (by omega)
   unfold n22c3
   simp (disch:=try exact DI) only [↓PR,QR,simprocAttr,c7.1,y4.1,d1,d2,↓n22c2,yq.1,hA.c6 (Ext.refl _)]
   have hwj:IntKind.i64.wrap ((j:Int)+1)=((j+1:Nat):Int):=by rw [wrap_ok (by omega) (by omega)];omega
   have z7:(w6.setCell ⟨p7,0,none⟩ (.int .i64 ((j+1:Nat):Int))).heap[p7]?=some (.cells #[.int .i64 ((j+1:Nat):Int)] 3 (0,0)):=by simpa using heap_set (o:=0) y7 (.int .i64 ((j+1:Nat):Int))
   have hsz:=hs6.setCell (o:=0) (Nat.le_refl p7) (Nat.lt_succ_self p7) (.int .i64 ((j+1:Nat):Int))
   have hRz:=hRk _ _ (KR.setCell (KR.refl _ w6) p7 0 (.int .i64 ((j+1:Nat):Int)) (.inl (by omega))) hR6
   have n57:p5≠p7:=by omega
   unfold n22c1
   by_cases hmn:((j+1:Nat):Int)≥many
   · have d3:decide (((j+1:Nat):Int)≥many)=true:=decide_eq_true hmn
     simp (disch:=try exact DI) only [↓PR,QR,simprocAttr,c7.1,c7.2,hwj,y5.1,d3]
     refine ⟨hRz,rfl,j+1,by omega,by omega,hmn,?_,hsz,z7⟩
     by_cases h0:j=0
     · exact .inl (by omega)
     · have:=hjm (by omega)
       exact .inr (by omega)
   · have d3:decide (((j+1:Nat):Int)≥many)=false:=decide_eq_false hmn
     simp (disch:=try exact DI) only [↓PR,QR,simprocAttr,c7.1,c7.2,hwj,y5.1,d3]
     exact ⟨hRz,by omega,fun _=>by omega,hsz,z7⟩
 · rintro w3 ⟨_,hm,hst⟩ hmk
   refine fin l.length w3 _ rfl hst hmk ?_
   rw [beq_iff_eq]
   by_cases h1:many > 1
   · rw [if_pos h1]
     split<;>omega
   · rw [if_neg h1]
     split<;>omega
 · rintro cc w3 ⟨rfl,k,h1,h2,h3,h4,hst⟩ hmk
   show n22c6 _ _ _ _ _ _ _
   refine fin k w3 _ rfl hst hmk ?_
   rw [beq_iff_eq]
   by_cases h1:many > 1
   · rw [if_pos h1]
     split<;>omega
   · rw [if_neg h1]
     split<;>omega
 · rintro ch w3 hf
   exact hf.elim
def n18c1 (t79 t83:Value) (R:RT) (w:World):Prop :=
 pickK t79 t83 (.bool false) fun t84 =>
 joinK (fun (t86:Value) (w:World) =>
 pickK t84 t86 (.bool false) fun t87 =>
 R (.returned t87) w) fun K10 =>
 guardP t84 true (
 callK Pg 9 #[] (panK R) w fun t86 w =>
 K10 t86 w) (
 K10 undef w)
def n18c2 (t7 t72 t78:Value) (R:RT) (w:World):Prop :=
 pickK t72 t78 (.bool false) fun t79 =>
 joinK (fun (t83:Value) (w:World) =>
 n18c1 t79 t83 R w) fun K9 =>
 guardP t79 true (
 callK Pg 11 #[t7] (panK R) w fun t82 w =>
 opV Pg (binS .eql 9 true t82 (.string { data := #[] })) (panK R) w fun t83 w =>
 K9 t83 w) (
 K9 undef w)
def n18c3 (t75:Value) (K8:KV) (R:RT) (w:World):Prop :=
 opV Pg (Instr.field 24 t75 1) (panK R) w fun t76 w =>
 opV Pg (Builtin.len_ #[22] 3 #[t76]) (panK R) w fun t77 w =>
 opV Pg (binS .eql 3 true t77 (.int .i64 0)) (panK R) w fun t78 w =>
 K8 t78 w
def n18c4 (t7 t67 t71:Value) (R:RT) (w:World):Prop :=
 pickK t67 t71 (.bool false) fun t72 =>
 joinK (fun (t78:Value) (w:World) =>
 n18c2 t7 t72 t78 R w) fun K8 =>
 guardP t72 true (
 callK Pg 23 #[t7] (panK R) w fun t75 w =>
 n18c3 t75 K8 R w) (
 K8 undef w)
def n18c5 (t7 t62 t66:Value) (R:RT) (w:World):Prop :=
 pickK t62 t66 (.bool false) fun t67 =>
 joinK (fun (t71:Value) (w:World) =>
 n18c4 t7 t67 t71 R w) fun K7 =>
 guardP t67 true (
 callK Pg 16 #[t7] (panK R) w fun t70 w =>
 callK Pg 18 #[t70,(Value.slice none 0 0),(.int .i64 9)] (panK R) w fun t71 w =>
 K7 t71 w) (
 K7 undef w)
def n18c6 (t7 t38 t57 t61:Value) (R:RT) (w:World):Prop :=
 pickK t57 t61 (.bool false) fun t62 =>
 joinK (fun (t66:Value) (w:World) =>
 n18c5 t7 t62 t66 R w) fun K6 =>
 guardP t62 true (
 callK Pg 15 #[t38] (panK R) w fun t65 w =>
 opV Pg (binS .eql 3 true t65 (.int .i64 1)) (panK R) w fun t66 w =>
 K6 t66 w) (
 K6 undef w)
def n18c7 (t7 t32 t38 t51 t56:Value) (R:RT) (w:World):Prop :=
 pickK t51 t56 (.bool false) fun t57 =>
 joinK (fun (t61:Value) (w:World) =>
 n18c6 t7 t38 t57 t61 R w) fun K5 =>
 guardP t57 true (
 callK Pg 15 #[t32] (panK R) w fun t60 w =>
 opV Pg (binS .eql 3 true t60 (.int .i64 1)) (panK R) w fun t61 w =>
 K5 t61 w) (
 K5 undef w)
def n18c8 (t7 t31 t32 t37 t38 t46 t50:Value) (R:RT) (w:World):Prop :=
 pickK t46 t50 (.bool false) fun t51 =>
 joinK (fun (t56:Value) (w:World) =>
 n18c7 t7 t32 t38 t51 t56 R w) fun K4 =>
 guardP t51 true (
 opV Pg (binS .add 3 false t31 t37) (panK R) w fun t55 w =>
 opV Pg (binS .eql 3 true t55 (.int .i64 0)) (panK R) w fun t56 w =>
 K4 t56 w) (
 K4 undef w)
def n18c9 (t7 t26 t31 t32 t37 t38 t41 t45:Value) (R:RT) (w:World):Prop :=
 pickK t41 t45 (.bool false) fun t46 =>
 joinK (fun (t50:Value) (w:World) =>
 n18c8 t7 t31 t32 t37 t38 t46 t50 R w) fun K3 =>
 guardP t46 true (
 callK Pg 15 #[t26] (panK R) w fun t49 w =>
 opV Pg (binS .eql 3 true t49 (.int .i64 1)) (panK R) w fun t50 w =>
 K3 t50 w) (
 K3 undef w)
def n18c10 (t7 t8 t26 t31 t32 t37 t38 t40:Value) (R:RT) (w:World):Prop :=
 opV Pg (binS .eql 3 true t40 (.int .i64 0)) (panK R) w fun t41 w =>
 joinK (fun (t45:Value) (w:World) =>
 n18c9 t7 t26 t31 t32 t37 t38 t41 t45 R w) fun K2 =>
 guardP t41 true (
 opV Pg (Instr.loadAt 36 t8) (panK R) w fun t43 w =>
 opV Pg (Instr.build 36 #[]) (panK R) w fun t44 w =>
 opV Pg (binS .eql 36 false t43 t44) (panK R) w fun t45 w =>
 K2 t45 w) (
 K2 undef w)
def n18c11 (t7 t8 t26 t31 t32 t36:Value) (R:RT) (w:World):Prop :=
 opV Pg (Instr.extract t36 0) (panK R) w fun t37 w =>
 opV Pg (Instr.extract t36 1) (panK R) w fun t38 w =>
 callK Pg 17 #[t7] (panK R) w fun t40 w =>
 n18c10 t7 t8 t26 t31 t32 t37 t38 t40 R w
def n18c12 (t1 t7 t8 t26 t30:Value) (R:RT) (w:World):Prop :=
 opV Pg (Instr.extract t30 0) (panK R) w fun t31 w =>
 opV Pg (Instr.extract t30 1) (panK R) w fun t32 w =>
 callK Pg 21 #[t7,t1] (panK R) w fun t36 w =>
 n18c11 t7 t8 t26 t31 t32 t36 R w
def n18c13 (t1 t7 t24:Value) (R:RT) (w:World):Prop :=
 opV Pg (Instr.extract t24 0) (panK R) w fun t25 w =>
 opV Pg (Instr.extract t24 1) (panK R) w fun t26 w =>
 opV Pg (Instr.alloc 36 true (.tuple #[])) (panK R) w fun t8 w =>
 opU Pg (Instr.storeAt 36 t8 t25) (panK R) w fun w =>
 callK Pg 22 #[t7,t1] (panK R) w fun t30 w =>
 n18c12 t1 t7 t8 t26 t30 R w
def n18c14 (t0 t1 t2:Value) (R:RT) (w:World):Prop :=
 joinK (fun (t7:Value) (w:World) =>
 callK Pg 14 #[t7,t0] (panK R) w fun t24 w =>
 n18c13 t1 t7 t24 R w) fun K1 =>
 condP t2 (
 opV Pg (Instr.build 61 #[]) (panK R) w fun t19 w =>
 opV Pg (Instr.box 61 t19) (panK R) w fun t20 w =>
 K1 t20 w) (
 K1 (Value.pointer none) w)
def n18 (t0 t1 t2:Value) (R:RT) (w:World):Prop :=
 opV Pg (Builtin.len_ #[9] 3 #[t1]) (panK R) w fun t15 w =>
 opV Pg (binS .gtr 3 true t15 (.int .i64 100)) (panK R) w fun t16 w =>
 condP t16 (
 callK Pg 9 #[] (panK R) w fun t17 w =>
 R (.returned t17) w) (
 n18c14 t0 t1 t2 R w)
set_option maxHeartbeats 40000000 in
theorem n18s {t0 t1 t2:Value} {R:RT} {w:World} (h:n18 t0 t1 t2 R w):Calls Pg 6 #[t0,t1,t2] w R:=by
 refine yD Tryz.func6 ?_
 refine zs<|zr<|zm<|zn<|zk<|zs<|zs<|zr<|zm<|yx h fun _ w h=>yb h fun _ w h=>zn<|zk<|yC h (fun h=>zs<|zr<|yc h c9 fun _ w h=>zm<|zn<|zk<|sim_ret<|sim_then_ret<|body_ret1 rfl rfl h) fun h=>?_
 refine sim_skip<|zk<|zs<|zr<|zm<|zn<|zk<|zs<|zs<|zr<|zm<|zn<|zk<|yJ1 [7,19,20] 7 h (fun _ _ hkK1 h=>?_) fun σ w h=>?_
 · refine yC h (fun h=>?_) fun h=>?_
   · refine zr<|yB h fun _ w h=>yv h fun _ w h=>zm<|zn<|zk ?_
     exact zt hkK1 h
   refine sim_skip<|zk ?_
   exact zt hkK1 h
 refine zk<|zs<|zr<|zm<|zm<|yc h c14 fun _ w h=>zm<|yv h fun _ w h=>yv h fun _ w h=>yv h fun _ w h=>yu h fun w h=>zm<|zn<|zk<|zs ?_
 refine zr<|zm<|zm<|yc h c22 fun _ w h=>zm<|yv h fun _ w h=>yv h fun _ w h=>zm<|zm<|zn<|zk<|zs<|zr<|zm<|zm ?_
 refine yc h c21 fun _ w h=>zm<|yv h fun _ w h=>yv h fun _ w h=>zm<|zm<|zn<|zk<|zs<|sim_regionG<|yG 4<|zm<|yc h c17 fun _ w h=>yb h fun _ w h=>zm ?_
 refine zn<|yg1 3 3 true [43,44,45] 45 h (fun _ T hT h=>?_) fun σ w h=>?_
 · refine yv h fun _ w h=>yB h fun _ w h=>yb h fun _ w h=>zn ?_
   exact zt hT h
 refine yG 2<|yp h fun _ h=>zm<|zn<|yg1 3 8 true [48,49,50] 50 h (fun _ T hT h=>?_) fun σ w h=>?_
 · refine zm<|yc h c15 fun _ w h=>yb h fun _ w h=>zn ?_
   exact zt hT h
 refine yG 2<|yp h fun _ h=>zm<|zn<|yg1 4 13 true [53,54,55,56] 56 h (fun _ T hT h=>?_) fun σ w h=>?_
 · refine zm<|zm<|yb h fun _ w h=>yb h fun _ w h=>zn ?_
   exact zt hT h
 refine yG 2<|yp h fun _ h=>zm<|zn<|yg1 3 19 true [59,60,61] 61 h (fun _ T hT h=>?_) fun σ w h=>?_
 · refine zm<|yc h c15 fun _ w h=>yb h fun _ w h=>zn ?_
   exact zt hT h
 refine yG 2<|yp h fun _ h=>zm<|zn<|yg1 3 24 true [64,65,66] 66 h (fun _ T hT h=>?_) fun σ w h=>?_
 · refine zm<|yc h c15 fun _ w h=>yb h fun _ w h=>zn ?_
   exact zt hT h
 refine yG 2<|yp h fun _ h=>zm<|zn<|yg1 3 29 true [69,70,71] 71 h (fun _ T hT h=>?_) fun σ w h=>?_
 · refine zm<|yc h c16 fun _ w h=>yc h c18 fun _ w h=>zn ?_
   exact zt hT h
 refine yG 2<|yp h fun _ h=>zm<|zn<|yg1 5 34 true [74,75,76,77,78] 78 h (fun _ T hT h=>?_) fun σ w h=>?_
 · refine zm<|yc h c23 fun _ w h=>yv h fun _ w h=>yx h fun _ w h=>yb h fun _ w h=>zn ?_
   exact zt hT h
 refine yG 2<|yp h fun _ h=>zm<|zn<|yg1 3 41 true [81,82,83] 83 h (fun _ T hT h=>?_) fun σ w h=>?_
 · refine zm<|yc h c11 fun _ w h=>yb h fun _ w h=>zn ?_
   exact zt hT h
 refine yG 2<|yp h fun _ h=>zm<|zn<|yg1 1 46 true [86] 86 h (fun _ T hT h=>?_) fun σ w h=>?_
 · refine yc h c9 fun _ w h=>zn ?_
   exact zt hT h
 exact yG 2<|yp h fun _ h=>zm<|zn<|sim_end<|zk<|sim_ret<|body_ret1 rfl rfl h
theorem ProgramNone_ret (w0:World) (i:Int) (s:ByteArray) (b:Bool) (hT:TabOK w0):Ret Pg 6 #[.int .i64 i,.string s,.bool b] w0 fun r w'=>r = .bool true∧Ext w0 w':=by
 refine n18s (R:=retR _) ?_;unfold n18
 by_cases h1:s.size≤100
 · have d1:decide ((s.size:Int) > 100)=false:=decide_eq_false (by omega)
   have main:∀ p W,Ext w0 W→NoProg W p→callK Pg 14 #[p,.int .i64 i] (panK (retR fun r w'=>r = .bool true∧Ext w0 w')) W fun t24 w=>n18c13 (.string s) p t24 (retR fun r w'=>r = .bool true∧Ext w0 w') w:=by
    intro p W eW hP
    refine zcr (AtN_ret hP i) fun w1 e1=>?_
    simp (disch:=try exact DI) only [↓PR,QR,simprocAttr,↓n18c13]
    have o8:=heap_new w1 (insCells zeroI).toArray TI
    have e2:Ext w1 (w1.alloc (.cells (insCells zeroI).toArray TI)):=(Ext.refl w1).alloc _
    generalize hp:w1.heap.size=p8 at o8 ⊢
    generalize (w1.alloc (.cells (insCells zeroI).toArray TI))=w2 at o8 e2 ⊢
    have E2:=e1.trans e2
    refine zcr (RoutineN_ret (hP.ext E2) s) fun w3 e3=>?_
    have E3:=E2.trans e3
    simp (disch:=try exact DI) only [↓PR,QR,simprocAttr,↓n18c12]
    refine zcr (RegistersN_ret (hP.ext E3) s) fun w4 e4=>?_
    have E4:=E3.trans e4
    simp (disch:=try exact DI) only [↓PR,QR,simprocAttr,↓n18c11]
    refine zcr (LenN_ret (hP.ext E4)) fun w5 e5=>?_
    have E5:=E4.trans e5
    have q8:=cells_of_heap ((e3.trans (e4.trans e5)).obj o8)
    simp (disch:=try exact DI) only [↓PR,QR,simprocAttr,↓n18c10,q8.1]
    have a0:IntKind.i64.wrap ((0:Int)+0)=0:=by decide
    have step:∀ u,Ext W u→n18c9 p (.int .i64 1) (.int .i64 0) (.int .i64 1) (.int .i64 0) (.int .i64 1) (.bool true) (.bool true) (retR fun r w'=>r = .bool true∧Ext w0 w') u:=by
     intro u E
     simp (disch:=try exact DI) only [↓PR,QR,simprocAttr,↓n18c9]
     refine zcr (num_ret _ _) fun u1 f1=>?_
     simp (disch:=try exact DI) only [↓PR,QR,simprocAttr,↓n18c8,a0,↓n18c7]
     refine zcr (num_ret _ _) fun u2 f2=>?_
     simp (disch:=try exact DI) only [↓PR,QR,simprocAttr,↓n18c6]
     refine zcr (num_ret _ _) fun u3 f3=>?_
     have F3:=E.trans (f1.trans (f2.trans f3))
     simp (disch:=try exact DI) only [↓PR,QR,simprocAttr,↓n18c5]
     refine callK_ret (EachN_ret (hP.ext F3)) ?_
     rintro _ u4 ⟨⟨e,rfl,hI⟩,f4⟩
     have hnil:SliceOf u4 6 EIns (.slice none 0 0) []:=SliceOf.nil _ _ _
     refine zcr (over_ret u4 e _ _ [] 9 hI hnil (by decide)) fun u5 f5=>?_
     have F5:=F3.trans (f4.trans f5)
     simp (disch:=try exact DI) only [↓PR,QR,simprocAttr,↓n18c4]
     refine zcr (DefinitionN_ret (hP.ext F5)) fun u6 f6=>?_
     have F6:=F5.trans f6
     simp (disch:=try exact DI) only [↓PR,QR,simprocAttr,↓n18c3,↓n18c2]
     refine zcr (TextN_ret (hP.ext F6)) fun u7 f7=>?_
     have F7:=F6.trans f7
     simp (disch:=try exact DI) only [↓PR,QR,simprocAttr,↓n18c1]
     refine zcr (known18_ret u7 (hT.ext (eW.trans F7))) fun u8 f8=>?_
     simp (disch:=try exact DI) only [↓PR,QR,simprocAttr]
     exact ⟨_,rfl,rfl,eW.trans (F7.trans f8)⟩
    exact step w5 E5
   cases b with
   | false =>
    simp (disch:=try exact DI) only [↓PR,QR,simprocAttr,d1,↓n18c14]
    exact main _ _ (Ext.refl _) (.inl rfl)
   | true =>
    simp (disch:=try exact DI) only [↓PR,QR,simprocAttr,d1,↓n18c14]
    exact main _ _ ((Ext.refl w0).alloc _) (.inr ⟨_,rfl,heap_new w0 _ _⟩)
 · have d1:decide ((s.size:Int) > 100)=true:=decide_eq_true (by omega)
   simp (disch:=try exact DI) only [↓PR,QR,simprocAttr,d1]
   refine zcr (known18_ret w0 hT) fun w2 e2=>?_
   exact ⟨_,rfl,rfl,e2⟩
end Go.Proofs.YtfdecdnmooaegaaGreatDoor
namespace Go.Proofs.YtfdecdnmooaegaaGreatDoor
open Sw
open Go.ChangeShapes Go.WideShapes Go.RowKit Go.ChangeAt Go.Deep
def pnone_laid:List (String×DataW Unit):=[("math/bits.deBruijn32tab", Rows.laid_math_bits_deBruijn32tab),("math/bits.deBruijn64tab", Rows.laid_math_bits_deBruijn64tab),("internal/strconv.uint64pow10", Rows.laid_internal_strconv_uint64pow10)]
theorem pnone_own:ownKnob Pg.godebug=none:=by kernel_rfl
theorem pnone_laidOut:laidOutB Pg=true:=by kernel_rfl
theorem pnone_met (os:Os) (args:Array Value):laidMetH Pg pnone_laid ((World.doorLaid Pg 400 os).forCall (fun _ _=>0) ⟨#[],args,[]⟩).memory:=laidMetH_of_parts3 (fuel:=8) (laidMet_of_run' 8 (by kernel_rfl) (by kernel_rfl)) (by kernel_rfl) (by kernel_rfl)
theorem pnone_tab {W:World} (h:laidMetH Pg pnone_laid W):TabOK W:=by
 rw [MakeChecks.laidMetH_plain _ _ _ (by kernel_rfl)] at h
 have h3:=laidMet.tail (laidMet.tail h)
 have he:(Rows.laid_internal_strconv_uint64pow10:DataW Unit)=Go.Lib.tabData .u64 Go.Lib.pow10Tab:=by kernel_rfl
 rw [he] at h3
 obtain ⟨g,hg⟩:=Option.isSome_iff_exists.1 gPow
 have hty:(Pg.globals[g]?).map (·.type)=some 196:=by
  have h1:(Pg.globalNamed "internal/strconv.uint64pow10").bind (fun g=>(Pg.globals[g]?).map (·.type))=some 196:=by kernel_rfl
  rw [hg] at h1
  exact h1
 exact Go.Lib.tabIs_of_head hg hty Tryz.underlying196 Tryz.underlying185 (by kernel_rfl) (by kernel_rfl) h3
theorem pnone_lifted (os:Os) (started:os.Started) (H:Type) (enc:TypeId×Value→H) :
 ReturnsInHanded {} Tryz.checked os 6 .any (fun w args=>(Rows.programNoneSpec.pre enc Pg Tryz.f6 Rows.programNoneRow.domain false w args∧laidMetH Pg pnone_laid w)∧sizedMet enc Pg Tryz.f6 (OpenSpec.ofChange Rows.programNoneSpec) false w args) (Rows.programNoneSpec.post enc Pg Tryz.f6 false true false false):=by
 refine returnsInHanded_of_change_and (C:=Tryz.checked) (X:=fun w _=>laidMetH Pg pnone_laid w) (fun _ _ _ hh h=>h.of_heap hh) pnone_own started (by kernel_rfl) Tryz.func6
  (ChangeSpec.witness_shaped (enc:=enc) (C:=Tryz.checked) (os:=os) (X:=fun w _=>laidMetH Pg pnone_laid w) false (World.doorLaid Pg 400 os) #[.int .i64 0,.string ByteArray.empty,.bool false] 8 rfl (World.shaped_of_RefB (by kernel_rfl) (by kernel_rfl)) (by kernel_rfl) (by kernel_rfl) (by kernel_rfl) (pnone_met os _)) ?_
 intro W base args ds gs before hval hW _ hsz hL _
 have hW':=hW
 obtain ⟨p,q,hA0,hV,rfl,_,_⟩:=hW
 have hA:DataW.TrodAll enc Pg W 0 (fun _=>true) true Tryz.f6.params.toList args.toList ds p:=hA0
 rw [Tryz.params6] at hA hval hsz
 obtain ⟨v0,vs0,d0,ds0,p0,q0,ha0,rfl,rfl,h0,r0⟩:=trodAll_cons hA
 obtain ⟨v1,vs1,d1,ds1,p1,q1,ha1,rfl,rfl,h1,r1⟩:=trodAll_cons r0
 obtain ⟨v2,vs2,d2,ds2,p2,q2,ha2,rfl,rfl,h2,r2⟩:=trodAll_cons r1
 obtain ⟨rfl,rfl,rfl⟩:=trodAll_nil r2
 subst ha2 ha1
 obtain rfl:args = #[v0,v1,v2]:=by cases args;simp_all
 obtain ⟨n0,rfl,_,_,hw0⟩:=open_int Tryz.underlying3 (hval 0 _ v0 rfl rfl) h0
 obtain ⟨s1,rfl,_⟩:=open_str Tryz.underlying9 (hval 1 _ v1 rfl rfl) h1
 obtain ⟨n2,rfl,_⟩:=open_bool Tryz.underlying4 (hval 2 _ v2 rfl rfl) h2
 refine Calls.mono (ProgramNone_ret W n0 s1 n2 (pnone_tab hL)) fun e W' ⟨v,he,hv,hx⟩=>?_
 subst he hv
 exact ⟨_,rfl,law_post pnone_laidOut (by decide +kernel) rfl hW' hx rfl Tryz.underlying4 rfl rfl rfl⟩
theorem pnone_holds:Rows.ProgramNoneSaid :=
 OpenClaim.holds_of_wide 6 Tryz.f6 rfl rfl rfl rfl rfl rfl rfl ⟨rfl,rfl,rfl,rfl,rfl⟩ rfl rfl rfl rfl rfl (by kernel_rfl) Tryz.func6 (by kernel_rfl)
  (of_decide_eq_true (by kernel_rfl)) (by unfold Func.isWrapper;first | (rw [if_pos (by decide +kernel)];kernel_rfl) | (rw [if_neg (by decide +kernel)];exact ⟨rfl,rfl⟩))
  (fun os started H enc _=>pnone_lifted os started H enc)
theorem pnone_card:Rows.ProgramNoneCardSaid :=
 Claim7.holds_tied_plain_at .later [] [.data,.data,.data] true (true, "098e99f67870c94ed070b7e90f46c62b88197afeac646b9f27e4aa6966b563e4") true
  pnone_holds (fun _ h=>by cases h) (by kernel_rfl) (fun _ h=>by cases h) programNone_row_tie rfl ⟨rfl,rfl⟩ (by kernel_rfl) rfl
  (fun f fn hf hfn=>by
   obtain rfl:f=6:=Option.some.inj ((show Pg.funcNamed "phrasebook/phrasebooklaw18.ProgramNone" = some 6 by kernel_rfl).symm.trans hf) |>.symm
   obtain rfl:fn=Tryz.f6:=(Option.some.inj (Tryz.func6.symm.trans hfn)).symm
   exact ⟨by kernel_rfl,fun j t ht=>by
    rw [Tryz.params6] at ht
    have hm:t∈[3,9,4]:=by simpa using Array.mem_of_getElem? ht
    have hall:([3,9,4].all fun u=>!Pg.wantsStandIn u)=true:=by kernel_rfl
    exact (show Pg.wantsStandIn t=false by simpa using List.all_eq_true.1 hall t hm)⟩)
  (by kernel_rfl)
end Go.Proofs.YtfdecdnmooaegaaGreatDoor
