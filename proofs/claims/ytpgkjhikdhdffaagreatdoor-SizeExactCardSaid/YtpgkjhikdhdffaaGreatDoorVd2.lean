/-
  Lemmas for the claim.
-/
import Derived.Test.YtpgkjhikdhdffaaGreatDoorVd1
set_option linter.all false
set_option maxHeartbeats 4000000
set_option maxRecDepth 100000
namespace Go.Sw
variable {α:Type}
def esOf (enc:α→Value) (L:List (α×Value×Nat)):Array MapEntry:=(L.map (mkE enc)).toArray
def IterAt (w:World) (p m c:Nat) (seen:Array Nat):Prop:=w.heap[p]?=some (.mapIter (some m) c seen c)
def iterLeft (enc:α→Value) (L:List (α×Value×Nat)) (p:Nat) (w:World):Nat:=(leftOf (esOf enc L) (w.iterSeen p)).size
section
variable {P:Program} {w w':World} {m c p:Nat} {enc:α→Value} {L:List (α×Value×Nat)} {seen:Array Nat} {QP:List PanicEntry→World→Prop} {k:Value→World→Prop}
theorem IterAt.seenEq (h:IterAt w p m c seen):w.iterSeen p=seen:=by
 unfold IterAt at h
 unfold World.iterSeen
 rw [h]
theorem op_rangeMap {t kt et:TypeId} (ht:P.underlying t=some (.map kt et)) (h:MapB w m enc L c):opV P (Instr.range t (.map (some m))) QP w k=k (.pointer (some ⟨w.heap.size,0,none⟩)) (w.alloc (.mapIter (some m) c #[] c)):=opV_ok (run_range_map w t kt et m _ c ht h.obj)
theorem iter_new (w:World) (m c:Nat):IterAt (w.alloc (.mapIter (some m) c #[] c)) w.heap.size m c #[]:=heap_alloc_new w _
theorem mem_leftL (h:MapB w m enc L c) {e:MapEntry} (he:e∈(leftOf (esOf enc L) seen).toList):∃ x∈L,e=mkE enc x∧seen.contains x.2.2=false:=by
 obtain ⟨h1,h2⟩:=mem_left he
 unfold esOf at h1
 simp only [List.mem_map] at h1
 obtain ⟨x,hx,rfl⟩:=h1
 exact ⟨x,hx,rfl,h2⟩
theorem iterLeft_zero (h:MapB w m enc L c) (hi:iterLeft enc L p w=0) {x:α×Value×Nat} (hx:x∈L):(w.iterSeen p).contains x.2.2=true:=by
 cases hc:(w.iterSeen p).contains x.2.2 with
 | true=>rfl
 | false =>
  exfalso
  have hm:mkE enc x∈leftOf (esOf enc L) (w.iterSeen p):=by
   unfold leftOf
   rw [Array.mem_filter]
   refine ⟨?_,?_⟩
   · unfold esOf;simp;exact ⟨x.1,x.2.1,x.2.2,hx,rfl⟩
   · show (!(w.iterSeen p).contains x.2.2)=true
     rw [hc];rfl
  unfold iterLeft at hi
  have:=Array.size_pos_of_mem hm
  omega
theorem op_nextMap {ty:TypeId} (h:MapB w m enc L c) (hi:IterAt w p m c seen)
 (h0:iterLeft enc L p w=0→k (.tuple #[.bool false]) w)
 (h1:∀ x w',x∈L→seen.contains x.2.2=false→(∀ a,Ext a w→a.heap.size≤p→Ext a w')→MapB w' m enc L c→IterAt w' p m c (seen.push x.2.2)→(∀ b,b≠p→w'.heap[b]?=w.heap[b]?)→w'.heap.size=w.heap.size→iterLeft enc L p w' < iterLeft enc L p w→k (.tuple #[.bool true,enc x.1,x.2.1]) w') :
 opV P (Instr.next (.pointer (some ⟨p,0,none⟩)) false ty) QP w k:=by
 have hp:p < w.heap.size:=(Array.getElem?_eq_some_iff.1 hi).1
 have hne:m≠p:=fun e=>by
  have:=h.obj
  rw [e,hi] at this
  cases this
 have hes:∀ x∈(esOf enc L).toList,x.born < c:=fun x hx=>by
  unfold esOf at hx
  simp only [List.mem_map] at hx
  obtain ⟨y,hy,rfl⟩:=hx
  exact h.lt y hy
 have hb:=h.obj
 have hs:=IterAt.seenEq hi
 rw [show (L.map (mkE enc)).toArray=esOf enc L from rfl] at hb
 have hrun:(Instr.next (.pointer (some ⟨p,0,none⟩)) false ty).run P w=(if (leftOf (esOf enc L) seen).size=0 then .ok (.tuple #[.bool false]) w else (Instr.next (.pointer (some ⟨p,0,none⟩)) false ty).run P w):=by
  split
  · rename_i hz
    have hL:(leftOf (esOf enc L) seen) = #[]:=Array.eq_empty_of_size_eq_zero hz
    have hip:w.heap[p]?=some (.mapIter (some m) c seen c):=hi
    simp only [Instr.next,getObj,Sem.run_bind,Sem.run,hip,hb,Result.andThen,next_test_false seen (esOf enc L) c c hes (Nat.le_refl _),Bool.false_eq_true,if_false]
    unfold leftOf at hL
    simp only [hL]
    simp [choose,Sem.run,Question.forced]
  · rfl
 by_cases hz:(leftOf (esOf enc L) seen).size=0
 · rw [if_pos hz] at hrun
   rw [opV_ok hrun]
   exact h0 (by unfold iterLeft;rw [hs];exact hz)
 · clear hrun h0
   have hmem:∀ x∈(leftOf (esOf enc L) seen).toList,x.born < c:=fun x hx=>hes x (mem_left hx).1
   have hml:∀ e∈(leftOf (esOf enc L) seen).toList,∃ x∈L,e=mkE enc x∧seen.contains x.2.2=false:=fun e he=>mem_leftL h he
   have hsh:∀ e∈(leftOf (esOf enc L) seen).toList,(leftOf (esOf enc L) (seen.push e.born)).size < (leftOf (esOf enc L) seen).size:=fun e he=>left_shrinks _ _ _ he
   have hit:iterLeft enc L p w=(leftOf (esOf enc L) seen).size:=by unfold iterLeft;rw [hs]
   generalize hLf:leftOf (esOf enc L) seen=Lf at hmem hml hz hsh hit
   have e1:Lf.filter (fun x=>decide (x.born < c))=Lf:=Array.filter_eq_self.2 (fun x hx=>by simpa using hmem x (by simpa using hx))
   have e2:Lf.filter (fun x=>decide (x.born≥c)) = #[]:=by
    rw [Array.filter_eq_empty_iff]
    intro x hx
    have:=hmem x (by simpa using hx)
    simp
    omega
   have hne0:Lf.isEmpty=false:=by simp [Array.isEmpty,hz]
   have hch:∃ (j:Nat) (w1:World),j < Lf.size∧w1.heap=w.heap∧w1.os=w.os∧w1.tape=w.tape∧w1.output=w.output∧(choose (Question.mapNext Lf.size)).run P w = .ok j w1:=by
    by_cases hf:Lf.size≤1
    · exact ⟨0,w,by omega,rfl,rfl,rfl,rfl,by simp [choose,Sem.run,Question.forced,hf]⟩
    · exact ⟨_,w.drew,Nat.mod_lt _ (by omega),rfl,rfl,rfl,rfl,by
       simp only [choose,Sem.run,Question.forced,decide_eq_true_eq,hf,if_false,Question.cut]
       rfl⟩
   obtain ⟨j,w1,hj,a1,a2,a3,a4,hrun⟩:=hch
   obtain ⟨x,hx,hxe,hxs⟩:=hml Lf[j] (by simp)
   have hset:∀ o',(Go.setObj p o').run P w1 = .ok () (w1.putObj p o'):=fun o'=>by
    have:w1.heap[p]?=some (.mapIter (some m) c seen c):=by rw [a1];exact hi
    simp [Go.setObj,Sem.run,this,World.putObj]
   have hfin:(Instr.next (.pointer (some ⟨p,0,none⟩)) false ty).run P w = .ok (.tuple #[.bool true,enc x.1,x.2.1]) (w1.putObj p (.mapIter (some m) c (seen.push x.2.2) c)):=by
    have hip:w.heap[p]?=some (.mapIter (some m) c seen c):=hi
    simp only [Instr.next,getObj,Sem.run_bind,Sem.run,hip,hb,Result.andThen,next_test_false seen (esOf enc L) c c hes (Nat.le_refl _),Bool.false_eq_true,if_false]
    unfold leftOf at hLf
    simp only [hLf,e1,e2,Array.append_empty,hne0,Bool.false_eq_true,if_false,Array.empty_append,Array.size_map,hrun,Array.getElem?_map,Array.getElem?_eq_getElem hj,Option.map_some,Sem.run_bind,Result.andThen,hset]
    rw [hxe]
    rfl
   rw [opV_ok hfin]
   have hsz:(w1.putObj p (.mapIter (some m) c (seen.push x.2.2) c)).heap.size=w.heap.size:=by rw [World.putObj_size,a1]
   have hoth:∀ b,b≠p→(w1.putObj p (.mapIter (some m) c (seen.push x.2.2) c)).heap[b]?=w.heap[b]?:=fun b hb=>by rw [World.putObj_heap_other hb,a1]
   have hnew:IterAt (w1.putObj p (.mapIter (some m) c (seen.push x.2.2) c)) p m c (seen.push x.2.2):=by
    unfold IterAt
    show (w1.heap.setIfInBounds p _)[p]?=_
    rw [Array.getElem?_setIfInBounds_self_of_lt (by rw [a1];exact hp)]
   refine h1 x _ hx hxs (fun a e hap=>⟨by show w1.os=_;rw [a2];exact e.os,by show w1.tape=_;rw [a3];exact e.tape,by show w1.output=_;rw [a4];exact e.output,by rw [hsz];exact e.size,fun b hb=>by rw [hoth b (by omega)];exact e.block b hb⟩) (h.of_obj (hoth m hne)) hnew hoth hsz ?_
   rw [hit]
   unfold iterLeft
   rw [IterAt.seenEq hnew]
   have:=hsh Lf[j] (by simp)
   rw [hxe] at this
   exact this
theorem op_entryMap (h:MapB w m enc L c) {x:α×Value×Nat} (hx:x∈L) (hi:IterAt w p m c (seen.push x.2.2)):opV P (Instr.entry (.pointer (some ⟨p,0,none⟩))) QP w k=k (.tuple #[enc x.1,x.2.1]) w:=by
 refine opV_ok ?_
 have hn:((esOf enc L).toList.map (·.born)).Nodup:=by
  unfold esOf
  simp only [List.map_map]
  rw [List.nodup_iff_pairwise_ne,List.pairwise_map]
  exact h.births
 have hf:(esOf enc L).find? (·.born == x.2.2)=some (mkE enc x):=by
  rw [← Array.find?_toList]
  exact find_born (mkE enc x) _ hn (by unfold esOf;exact List.mem_map.2 ⟨x,hx,rfl⟩)
 have hip:w.heap[p]?=some (.mapIter (some m) c (seen.push x.2.2) c):=hi
 have hb:w.heap[m]?=some (.map (esOf enc L) c):=h.obj
 simp only [Instr.entry,getObj,Sem.run_bind,Sem.run,hip,hb,Result.andThen,Array.back?_push,bne_self_eq_false,Bool.false_eq_true,if_false,hf]
 rfl
theorem look_mem [DecidableEq α] (h:MapB w m enc L c) {x:α×Value×Nat} (hx:x∈L):look L x.1=some x.2.1:=by
 have hk:=h.keys
 clear h
 induction L with
 | nil=>cases hx
 | cons y l ih =>
  rw [look_cons]
  rw [List.pairwise_cons] at hk
  rcases List.mem_cons.1 hx with rfl | hx
  · rw [if_pos rfl]
  · rw [if_neg (hk.1 x hx),ih hx hk.2]
theorem look_has [DecidableEq α] {k:α} {v:Value} (h:look L k=some v):∃ x∈L,x.1=k∧x.2.1=v:=by
 unfold look at h
 cases hf:L.find? (fun x=>decide (x.1=k)) with
 | none=>rw [hf] at h;cases h
 | some x =>
  rw [hf] at h
  injection h with h
  exact ⟨x,List.mem_of_find?_eq_some hf,by simpa using List.find?_some hf,h⟩
end
end Go.Sw
namespace Go.Proofs.YtpgkjhikdhdffaaGreatDoor
open Go.Shelf
noncomputable abbrev Pg:=Tryz.prog
def sh_laysM171_ren:Go.Shelf.Ren:=⟨fun | 171=>79 | 243=>92 | 246=>106 | 283=>115 | 284=>116 | 285=>117 | 286=>118 | 129=>133 | 317=>134 | 318=>135 | 319=>136 | 320=>137 | 337=>144 | 338=>145 | n=>n,fun | 3=>3 | 9=>9 | 2=>2 | 4=>4 | 171=>156 | 0=>0 | 53=>146 | 37=>83 | 5=>5 | 173=>159 | 212=>178 | 51=>161 | 20=>20 | 213=>179 | 46=>136 | 232=>188 | 233=>189 | n=>n,fun | 17=>3 | 18=>4 | 19=>5 | n=>n⟩
theorem sh_laysM171:Go.Proofs.LaysM.n171 Pg sh_laysM171_ren:={
 mixed:=by kernel_rfl
 f129:=Tryz.func133.trans (congrArg some (by kernel_rfl))
 f171:=Tryz.func79.trans (congrArg some (by kernel_rfl))
 f243:=Tryz.func92.trans (congrArg some (by kernel_rfl))
 f246:=Tryz.func106.trans (congrArg some (by kernel_rfl))
 f283:=Tryz.func115.trans (congrArg some (by kernel_rfl))
 f284:=Tryz.func116.trans (congrArg some (by kernel_rfl))
 f285:=Tryz.func117.trans (congrArg some (by kernel_rfl))
 f286:=Tryz.func118.trans (congrArg some (by kernel_rfl))
 f317:=Tryz.func134.trans (congrArg some (by kernel_rfl))
 f318:=Tryz.func135.trans (congrArg some (by kernel_rfl))
 f319:=Tryz.func136.trans (congrArg some (by kernel_rfl))
 f320:=Tryz.func137.trans (congrArg some (by kernel_rfl))
 f337:=Tryz.func144.trans (congrArg some (by kernel_rfl))
 f338:=Tryz.func145.trans (congrArg some (by kernel_rfl))
 t0:=Tryz.underlying0
 a0:=Tryz.isAgg0
 z0:=Tryz.sizeOf0
 v0:=Tryz.zeroValue0
 t2:=Tryz.underlying2
 a2:=Tryz.isAgg2
 z2:=Tryz.sizeOf2
 v2:=Tryz.zeroValue2
 t3:=Tryz.underlying3
 a3:=Tryz.isAgg3
 z3:=Tryz.sizeOf3
 v3:=Tryz.zeroValue3
 t4:=Tryz.underlying4
 a4:=Tryz.isAgg4
 z4:=Tryz.sizeOf4
 v4:=Tryz.zeroValue4
 t5:=Tryz.underlying5
 a5:=Tryz.isAgg5
 z5:=Tryz.sizeOf5
 v5:=Tryz.zeroValue5
 t9:=Tryz.underlying9
 a9:=Tryz.isAgg9
 z9:=Tryz.sizeOf9
 v9:=Tryz.zeroValue9
 t20:=Tryz.underlying20
 a20:=Tryz.isAgg20
 z20:=Tryz.sizeOf20
 v20:=Tryz.zeroValue20
 t37:=Tryz.underlying83
 a37:=Tryz.isAgg83
 z37:=Tryz.sizeOf83
 v37:=Tryz.zeroValue83
 t46:=Tryz.underlying136
 a46:=Tryz.isAgg136
 z46:=Tryz.sizeOf136
 v46:=Tryz.zeroValue136
 t51:=Tryz.underlying161
 a51:=Tryz.isAgg161
 z51:=Tryz.sizeOf161
 v51:=Tryz.zeroValue161
 t53:=Tryz.underlying146
 a53:=Tryz.isAgg146
 z53:=Tryz.sizeOf146
 v53:=Tryz.zeroValue146
 t171:=Tryz.underlying156
 a171:=Tryz.isAgg156
 z171:=Tryz.sizeOf156
 v171:=Tryz.zeroValue156
 t173:=Tryz.underlying159
 a173:=Tryz.isAgg159
 z173:=Tryz.sizeOf159
 v173:=Tryz.zeroValue159
 t212:=Tryz.underlying178
 a212:=Tryz.isAgg178
 z212:=Tryz.sizeOf178
 v212:=Tryz.zeroValue178
 t213:=Tryz.underlying179
 a213:=Tryz.isAgg179
 z213:=Tryz.sizeOf179
 t232:=Tryz.underlying188
 a232:=Tryz.isAgg188
 z232:=Tryz.sizeOf188
 v232:=Tryz.zeroValue188
 t233:=Tryz.underlying189
 a233:=Tryz.isAgg189
 z233:=Tryz.sizeOf189
 v233:=Tryz.zeroValue189
 g17:=by kernel_rfl
 g18:=by kernel_rfl
 g19:=by kernel_rfl
 i0:=by kernel_rfl
 i2:=by kernel_rfl
 i3:=by kernel_rfl
 i4:=by kernel_rfl
 i5:=by kernel_rfl
 i9:=by kernel_rfl
 i20:=by kernel_rfl
 i37:=by kernel_rfl
 i46:=by kernel_rfl
 i51:=by kernel_rfl
 i53:=by kernel_rfl
 i171:=by kernel_rfl
 i173:=by kernel_rfl
 i212:=by kernel_rfl
 i232:=by kernel_rfl
 i233:=by kernel_rfl
 m17:=by kernel_rfl
 m18:=by kernel_rfl
 m19:=by kernel_rfl }
open Go.RowKit Go.Sort Go.Lib in
theorem sh_strconv_Itoa (n:Int) (h0 : -9223372036854775808≤n) (h1:n≤9223372036854775807) (w:World) (htab:Lib.TabIs Pg w "internal/strconv.uint64pow10" .u64 Lib.pow10Tab) :
 Calls Pg 79 #[.int .i64 n] w fun e w'=>e = .returned (.string ⟨(Lib.itoa n).toArray⟩)∧∃ k os,w'=grow (w.drewN k) os:=Any.strconv_Itoa sh_laysM171 n h0 h1 w htab
def sh_laysC172_ren:Go.Shelf.Ren:=⟨fun | 172=>67 | 244=>86 | 245=>87 | 247=>98 | 279=>99 | 280=>100 | 281=>101 | 282=>102 | 287=>109 | 316=>110 | 171=>79 | 205=>111 | 321=>121 | 322=>122 | 243=>92 | 246=>106 | 283=>115 | 284=>116 | 285=>117 | 286=>118 | 129=>133 | 317=>134 | 318=>135 | 319=>136 | 320=>137 | 337=>144 | 338=>145 | n=>n,fun | 9=>9 | 3=>3 | 75=>107 | 76=>108 | 4=>4 | 5=>5 | 167=>138 | 37=>83 | 0=>0 | 85=>139 | 2=>2 | 168=>141 | 53=>146 | 175=>147 | 46=>136 | 210=>151 | 127=>165 | 145=>168 | 143=>166 | 21=>21 | 171=>156 | 173=>159 | 212=>178 | 51=>161 | 20=>20 | 213=>179 | 232=>188 | 233=>189 | 80=>190 | n=>n,fun | 15=>1 | 16=>2 | 17=>3 | 18=>4 | 19=>5 | n=>n⟩
theorem sh_laysC172:Go.Proofs.LaysC.n172 Pg sh_laysC172_ren:={
 mixed:=by kernel_rfl
 f129:=Tryz.func133.trans (congrArg some (by kernel_rfl))
 f171:=Tryz.func79.trans (congrArg some (by kernel_rfl))
 f172:=Tryz.func67.trans (congrArg some (by kernel_rfl))
 f205:=Tryz.func111.trans (congrArg some (by kernel_rfl))
 f243:=Tryz.func92.trans (congrArg some (by kernel_rfl))
 f244:=Tryz.func86.trans (congrArg some (by kernel_rfl))
 f245:=Tryz.func87.trans (congrArg some (by kernel_rfl))
 f246:=Tryz.func106.trans (congrArg some (by kernel_rfl))
 f247:=Tryz.func98.trans (congrArg some (by kernel_rfl))
 f279:=Tryz.func99.trans (congrArg some (by kernel_rfl))
 f280:=Tryz.func100.trans (congrArg some (by kernel_rfl))
 f281:=Tryz.func101.trans (congrArg some (by kernel_rfl))
 f282:=Tryz.func102.trans (congrArg some (by kernel_rfl))
 f283:=Tryz.func115.trans (congrArg some (by kernel_rfl))
 f284:=Tryz.func116.trans (congrArg some (by kernel_rfl))
 f285:=Tryz.func117.trans (congrArg some (by kernel_rfl))
 f286:=Tryz.func118.trans (congrArg some (by kernel_rfl))
 f287:=Tryz.func109.trans (congrArg some (by kernel_rfl))
 f316:=Tryz.func110.trans (congrArg some (by kernel_rfl))
 f317:=Tryz.func134.trans (congrArg some (by kernel_rfl))
 f318:=Tryz.func135.trans (congrArg some (by kernel_rfl))
 f319:=Tryz.func136.trans (congrArg some (by kernel_rfl))
 f320:=Tryz.func137.trans (congrArg some (by kernel_rfl))
 f321:=Tryz.func121.trans (congrArg some (by kernel_rfl))
 f322:=Tryz.func122.trans (congrArg some (by kernel_rfl))
 f337:=Tryz.func144.trans (congrArg some (by kernel_rfl))
 f338:=Tryz.func145.trans (congrArg some (by kernel_rfl))
 t0:=Tryz.underlying0
 a0:=Tryz.isAgg0
 z0:=Tryz.sizeOf0
 v0:=Tryz.zeroValue0
 t2:=Tryz.underlying2
 a2:=Tryz.isAgg2
 z2:=Tryz.sizeOf2
 v2:=Tryz.zeroValue2
 t3:=Tryz.underlying3
 a3:=Tryz.isAgg3
 z3:=Tryz.sizeOf3
 v3:=Tryz.zeroValue3
 t4:=Tryz.underlying4
 a4:=Tryz.isAgg4
 z4:=Tryz.sizeOf4
 v4:=Tryz.zeroValue4
 t5:=Tryz.underlying5
 a5:=Tryz.isAgg5
 z5:=Tryz.sizeOf5
 v5:=Tryz.zeroValue5
 t9:=Tryz.underlying9
 a9:=Tryz.isAgg9
 z9:=Tryz.sizeOf9
 v9:=Tryz.zeroValue9
 t20:=Tryz.underlying20
 a20:=Tryz.isAgg20
 z20:=Tryz.sizeOf20
 v20:=Tryz.zeroValue20
 t21:=Tryz.underlying21
 a21:=Tryz.isAgg21
 z21:=Tryz.sizeOf21
 v21:=Tryz.zeroValue21
 t37:=Tryz.underlying83
 a37:=Tryz.isAgg83
 z37:=Tryz.sizeOf83
 v37:=Tryz.zeroValue83
 t46:=Tryz.underlying136
 a46:=Tryz.isAgg136
 z46:=Tryz.sizeOf136
 v46:=Tryz.zeroValue136
 t51:=Tryz.underlying161
 a51:=Tryz.isAgg161
 z51:=Tryz.sizeOf161
 v51:=Tryz.zeroValue161
 t53:=Tryz.underlying146
 a53:=Tryz.isAgg146
 z53:=Tryz.sizeOf146
 v53:=Tryz.zeroValue146
 t75:=Tryz.underlying107
 a75:=Tryz.isAgg107
 z75:=Tryz.sizeOf107
 v75:=Tryz.zeroValue107
 t76:=Tryz.underlying108
 a76:=Tryz.isAgg108
 z76:=Tryz.sizeOf108
 v76:=Tryz.zeroValue108
 t85:=Tryz.underlying139
 a85:=Tryz.isAgg139
 z85:=Tryz.sizeOf139
 v85:=Tryz.zeroValue139
 t127:=Tryz.underlying165
 a127:=Tryz.isAgg165
 z127:=Tryz.sizeOf165
 v127:=Tryz.zeroValue165
 t143:=Tryz.underlying166
 a143:=Tryz.isAgg166
 z143:=Tryz.sizeOf166
 v143:=Tryz.zeroValue166
 t145:=Tryz.underlying168
 a145:=Tryz.isAgg168
 z145:=Tryz.sizeOf168
 v145:=Tryz.zeroValue168
 t167:=Tryz.underlying138
 a167:=Tryz.isAgg138
 z167:=Tryz.sizeOf138
 v167:=Tryz.zeroValue138
 t168:=Tryz.underlying141
 a168:=Tryz.isAgg141
 z168:=Tryz.sizeOf141
 v168:=Tryz.zeroValue141
 t171:=Tryz.underlying156
 a171:=Tryz.isAgg156
 z171:=Tryz.sizeOf156
 v171:=Tryz.zeroValue156
 t173:=Tryz.underlying159
 a173:=Tryz.isAgg159
 z173:=Tryz.sizeOf159
 v173:=Tryz.zeroValue159
 t175:=Tryz.underlying147
 a175:=Tryz.isAgg147
 z175:=Tryz.sizeOf147
 v175:=Tryz.zeroValue147
 t210:=Tryz.underlying151
 a210:=Tryz.isAgg151
 z210:=Tryz.sizeOf151
 v210:=Tryz.zeroValue151
 t212:=Tryz.underlying178
 a212:=Tryz.isAgg178
 z212:=Tryz.sizeOf178
 v212:=Tryz.zeroValue178
 t213:=Tryz.underlying179
 a213:=Tryz.isAgg179
 z213:=Tryz.sizeOf179
 t232:=Tryz.underlying188
 a232:=Tryz.isAgg188
 z232:=Tryz.sizeOf188
 v232:=Tryz.zeroValue188
 t233:=Tryz.underlying189
 a233:=Tryz.isAgg189
 z233:=Tryz.sizeOf189
 v233:=Tryz.zeroValue189
 g15:=by kernel_rfl
 g16:=by kernel_rfl
 g17:=by kernel_rfl
 g18:=by kernel_rfl
 g19:=by kernel_rfl
 t80:=Tryz.underlying190
 a80:=Tryz.isAgg190
 z80:=Tryz.sizeOf190
 v80:=Tryz.zeroValue190
 i0:=by kernel_rfl
 i2:=by kernel_rfl
 i3:=by kernel_rfl
 i4:=by kernel_rfl
 i5:=by kernel_rfl
 i9:=by kernel_rfl
 i20:=by kernel_rfl
 i21:=by kernel_rfl
 i37:=by kernel_rfl
 i46:=by kernel_rfl
 i51:=by kernel_rfl
 i53:=by kernel_rfl
 i75:=by kernel_rfl
 i76:=by kernel_rfl
 i80:=by kernel_rfl
 i85:=by kernel_rfl
 i127:=by kernel_rfl
 i143:=by kernel_rfl
 i145:=by kernel_rfl
 i167:=by kernel_rfl
 i168:=by kernel_rfl
 i171:=by kernel_rfl
 i173:=by kernel_rfl
 i175:=by kernel_rfl
 i210:=by kernel_rfl
 i212:=by kernel_rfl
 i232:=by kernel_rfl
 i233:=by kernel_rfl
 m15:=by kernel_rfl
 m16:=by kernel_rfl
 m17:=by kernel_rfl
 m18:=by kernel_rfl
 m19:=by kernel_rfl
 c0:=by kernel_rfl
 c2:=by kernel_rfl
 c3:=by kernel_rfl
 c4:=by kernel_rfl
 c5:=by kernel_rfl
 c9:=by kernel_rfl
 c20:=by kernel_rfl
 c21:=by kernel_rfl
 c37:=by kernel_rfl
 c46:=by kernel_rfl
 c51:=by kernel_rfl
 c53:=by kernel_rfl
 c75:=by kernel_rfl
 c76:=by kernel_rfl
 c80:=by kernel_rfl
 c85:=by kernel_rfl
 c127:=by kernel_rfl
 c143:=by kernel_rfl
 c145:=by kernel_rfl
 c167:=by kernel_rfl
 c168:=by kernel_rfl
 c171:=by kernel_rfl
 c173:=by kernel_rfl
 c175:=by kernel_rfl
 c210:=by kernel_rfl
 c212:=by kernel_rfl
 c213:=by kernel_rfl
 c232:=by kernel_rfl
 c233:=by kernel_rfl }
open Go.RowKit in
theorem sh_strconv_Atoi_ok (s:ByteArray) (hmax:s.size≤9223372036854775806) (v:Int) (h:Lib.atoiAll s.data.toList = .ok v) (w:World) :
 Calls Pg 67 #[.string s] w fun e w'=>e = .returned (.tuple #[.int .i64 v,.nilIface])∧(w'=w∨∃ t,w'=Lib.bytesWorld w 5 t):=Any.strconv_Atoi_ok sh_laysC172 s hmax v h w
open Go.RowKit in
theorem sh_strconv_Atoi_syntax (s:ByteArray) (hlim:s.size≤281474976710656) (h:Lib.atoiAll s.data.toList=Go.Lib.NumEnd.syntax) (ev:Value) (w:World) (hv:w.cell? ⟨1,0,none⟩=some ev) (hev:ev = .nilIface∨∃ te pe,ev = .iface te pe) :
 Calls Pg 67 #[.string s] w fun e w'=>∃ N,e = .returned (.tuple #[.int .i64 (0),.iface 141 (.pointer (some ⟨N,0,none⟩))])∧w.heap.size≤N∧w'.heap[N]?=some (.cells #[.string ⟨#[65,116,111,105]⟩,.string s,ev] 151 (0,0))∧Below w.heap.size w w':=Any.strconv_Atoi_syntax sh_laysC172 s hlim h ev w hv hev
open Go.RowKit in
theorem sh_strconv_Atoi_range (s:ByteArray) (hlim:s.size≤281474976710656) (h:Lib.atoiAll s.data.toList = .range) (ev:Value) (w:World) (hv:w.cell? ⟨2,0,none⟩=some ev) (hev:ev = .nilIface∨∃ te pe,ev = .iface te pe) :
 Calls Pg 67 #[.string s] w fun e w'=>∃ N,e = .returned (.tuple #[.int .i64 (Lib.atoiSat s.data.toList),.iface 141 (.pointer (some ⟨N,0,none⟩))])∧w.heap.size≤N∧w'.heap[N]?=some (.cells #[.string ⟨#[65,116,111,105]⟩,.string s,ev] 151 (0,0))∧Below w.heap.size w w':=Any.strconv_Atoi_range sh_laysC172 s hlim h ev w hv hev
def sh_lays145_ren:Go.Shelf.Ren:=⟨fun | 145=>66 | 220=>85 | 219=>97 | 217=>107 | 225=>96 | 224=>95 | 267=>108 | 266=>119 | 314=>120 | n=>n,fun | 9=>9 | 4=>4 | 59=>104 | 3=>3 | 5=>5 | 46=>136 | 146=>162 | 51=>161 | n=>n,fun | 1=>0 | n=>n⟩
theorem sh_lays145:Go.Proofs.Lays.n145 Pg sh_lays145_ren:={
 mixed:=by kernel_rfl
 f145:=Tryz.func66.trans (congrArg some (by kernel_rfl))
 f217:=Tryz.func107.trans (congrArg some (by kernel_rfl))
 f219:=Tryz.func97.trans (congrArg some (by kernel_rfl))
 f220:=Tryz.func85.trans (congrArg some (by kernel_rfl))
 f224:=Tryz.func95.trans (congrArg some (by kernel_rfl))
 f225:=Tryz.func96.trans (congrArg some (by kernel_rfl))
 f266:=Tryz.func119.trans (congrArg some (by kernel_rfl))
 f267:=Tryz.func108.trans (congrArg some (by kernel_rfl))
 f314:=Tryz.func120.trans (congrArg some (by kernel_rfl))
 t3:=Tryz.underlying3
 a3:=Tryz.isAgg3
 z3:=Tryz.sizeOf3
 v3:=Tryz.zeroValue3
 t4:=Tryz.underlying4
 a4:=Tryz.isAgg4
 z4:=Tryz.sizeOf4
 v4:=Tryz.zeroValue4
 t5:=Tryz.underlying5
 a5:=Tryz.isAgg5
 z5:=Tryz.sizeOf5
 v5:=Tryz.zeroValue5
 t9:=Tryz.underlying9
 a9:=Tryz.isAgg9
 z9:=Tryz.sizeOf9
 v9:=Tryz.zeroValue9
 t46:=Tryz.underlying136
 a46:=Tryz.isAgg136
 z46:=Tryz.sizeOf136
 v46:=Tryz.zeroValue136
 t51:=Tryz.underlying161
 a51:=Tryz.isAgg161
 z51:=Tryz.sizeOf161
 v51:=Tryz.zeroValue161
 t59:=Tryz.underlying104
 a59:=Tryz.isAgg104
 z59:=Tryz.sizeOf104
 v59:=Tryz.zeroValue104
 t146:=Tryz.underlying162
 a146:=Tryz.isAgg162
 z146:=Tryz.sizeOf162
 v146:=Tryz.zeroValue162
 g1:=by kernel_rfl }
open Go.RowKit Go.Lib in
theorem sh_strings_Cut (s sep:ByteArray) (m:Int) (w:World) (hs:s.size < 4294967281) (hm:w.cell? ⟨0,0,none⟩=some (.int .i64 m)) :
 Calls Pg 66 #[.string s,.string sep] w fun e w'=>e = .returned (.tuple #[.string ⟨(Lib.cut s.data.toList sep.data.toList).1.toArray⟩,.string ⟨(Lib.cut s.data.toList sep.data.toList).2.1.toArray⟩,.bool (Lib.cut s.data.toList sep.data.toList).2.2])∧∃ n,w'=w.drewN n:=Any.strings_Cut sh_lays145 s sep m w hs hm
def sh_lays190_ren:Go.Shelf.Ren:=⟨fun | 190=>104 | 125=>114 | 258=>113 | 128=>132 | 129=>133 | 302=>123 | 303=>124 | 304=>125 | 305=>126 | 306=>127 | 307=>128 | 308=>129 | 309=>130 | 310=>131 | 333=>138 | 329=>139 | 330=>140 | 334=>141 | 335=>142 | 336=>143 | 344=>146 | n=>n,fun | 31=>129 | 9=>9 | 3=>3 | 46=>136 | 0=>0 | 51=>161 | 53=>146 | 4=>4 | 183=>171 | 182=>170 | 131=>119 | 5=>5 | 218=>180 | 222=>184 | 228=>186 | 229=>42 | n=>n,fun | n=>n⟩
theorem sh_lays190:Go.Proofs.Lays.n190 Pg sh_lays190_ren:={
 mixed:=by kernel_rfl
 f125:=Tryz.func114.trans (congrArg some (by kernel_rfl))
 f128:=Tryz.func132.trans (congrArg some (by kernel_rfl))
 f129:=Tryz.func133.trans (congrArg some (by kernel_rfl))
 f190:=Tryz.func104.trans (congrArg some (by kernel_rfl))
 f258:=Tryz.func113.trans (congrArg some (by kernel_rfl))
 f302:=Tryz.func123.trans (congrArg some (by kernel_rfl))
 f303:=Tryz.func124.trans (congrArg some (by kernel_rfl))
 f304:=Tryz.func125.trans (congrArg some (by kernel_rfl))
 f305:=Tryz.func126.trans (congrArg some (by kernel_rfl))
 f306:=Tryz.func127.trans (congrArg some (by kernel_rfl))
 f307:=Tryz.func128.trans (congrArg some (by kernel_rfl))
 f308:=Tryz.func129.trans (congrArg some (by kernel_rfl))
 f309:=Tryz.func130.trans (congrArg some (by kernel_rfl))
 f310:=Tryz.func131.trans (congrArg some (by kernel_rfl))
 f329:=Tryz.func139.trans (congrArg some (by kernel_rfl))
 f330:=Tryz.func140.trans (congrArg some (by kernel_rfl))
 f333:=Tryz.func138.trans (congrArg some (by kernel_rfl))
 f334:=Tryz.func141.trans (congrArg some (by kernel_rfl))
 f335:=Tryz.func142.trans (congrArg some (by kernel_rfl))
 f336:=Tryz.func143.trans (congrArg some (by kernel_rfl))
 f344:=Tryz.func146.trans (congrArg some (by kernel_rfl))
 t0:=Tryz.underlying0
 a0:=Tryz.isAgg0
 z0:=Tryz.sizeOf0
 v0:=Tryz.zeroValue0
 t3:=Tryz.underlying3
 a3:=Tryz.isAgg3
 z3:=Tryz.sizeOf3
 v3:=Tryz.zeroValue3
 t4:=Tryz.underlying4
 a4:=Tryz.isAgg4
 z4:=Tryz.sizeOf4
 v4:=Tryz.zeroValue4
 t5:=Tryz.underlying5
 a5:=Tryz.isAgg5
 z5:=Tryz.sizeOf5
 v5:=Tryz.zeroValue5
 t9:=Tryz.underlying9
 a9:=Tryz.isAgg9
 z9:=Tryz.sizeOf9
 v9:=Tryz.zeroValue9
 t31:=Tryz.underlying129
 a31:=Tryz.isAgg129
 z31:=Tryz.sizeOf129
 v31:=Tryz.zeroValue129
 t46:=Tryz.underlying136
 a46:=Tryz.isAgg136
 z46:=Tryz.sizeOf136
 v46:=Tryz.zeroValue136
 t51:=Tryz.underlying161
 a51:=Tryz.isAgg161
 z51:=Tryz.sizeOf161
 v51:=Tryz.zeroValue161
 t53:=Tryz.underlying146
 a53:=Tryz.isAgg146
 z53:=Tryz.sizeOf146
 v53:=Tryz.zeroValue146
 t131:=Tryz.underlying119
 a131:=Tryz.isAgg119
 z131:=Tryz.sizeOf119
 v131:=Tryz.zeroValue119
 t182:=Tryz.underlying170
 a182:=Tryz.isAgg170
 z182:=Tryz.sizeOf170
 v182:=Tryz.zeroValue170
 t183:=Tryz.underlying171
 a183:=Tryz.isAgg171
 z183:=Tryz.sizeOf171
 v183:=Tryz.zeroValue171
 t218:=Tryz.underlying180
 a218:=Tryz.isAgg180
 z218:=Tryz.sizeOf180
 v218:=Tryz.zeroValue180
 t222:=Tryz.underlying184
 a222:=Tryz.isAgg184
 z222:=Tryz.sizeOf184
 v222:=Tryz.zeroValue184
 t228:=Tryz.underlying186
 a228:=Tryz.isAgg186
 z228:=Tryz.sizeOf186
 v228:=Tryz.zeroValue186
 t229:=Tryz.underlying42
 a229:=Tryz.isAgg42
 z229:=Tryz.sizeOf42
 v229:=Tryz.zeroValue42 }
open Go.Sort Go.RowKit in
theorem sh_slices_Sort_string (blk off cap:Nat) (ss:List (List UInt8)) (w:World) (hH:Holds encStr w blk off ss.toArray) (hblk:blk < w.heap.size) (hsz:ss.length < 4611686018427387904) :
 Calls Pg 104 #[.slice (some ⟨blk,off,none⟩) ss.length cap] w fun e w' =>
  e = .returned (.tuple #[])∧∃ n os,w'=grow (putRow encStr (Sort.ahead w n) blk off (ss.mergeSort fun x y=>decide (x≤y)).toArray) os:=Any.slices_Sort_string sh_lays190 blk off cap ss w hH hblk hsz
def sh_laysGw15_ren:Go.Shelf.Ren:=⟨fun | 15=>63 | 20=>80 | n=>n,fun | 9=>9 | 23=>102 | 3=>3 | 4=>4 | 0=>0 | 21=>21 | n=>n,fun | n=>n⟩
theorem sh_laysGw15:Go.Proofs.LaysGw.n15 Pg sh_laysGw15_ren:={
 mixed:=by kernel_rfl
 f15:=Tryz.func63.trans (congrArg some (by kernel_rfl))
 f20:=Tryz.func80.trans (congrArg some (by kernel_rfl))
 t0:=Tryz.underlying0
 a0:=Tryz.isAgg0
 z0:=Tryz.sizeOf0
 v0:=Tryz.zeroValue0
 i0:=by kernel_rfl
 t3:=Tryz.underlying3
 a3:=Tryz.isAgg3
 z3:=Tryz.sizeOf3
 v3:=Tryz.zeroValue3
 i3:=by kernel_rfl
 t4:=Tryz.underlying4
 a4:=Tryz.isAgg4
 z4:=Tryz.sizeOf4
 v4:=Tryz.zeroValue4
 i4:=by kernel_rfl
 t9:=Tryz.underlying9
 a9:=Tryz.isAgg9
 z9:=Tryz.sizeOf9
 v9:=Tryz.zeroValue9
 i9:=by kernel_rfl
 t21:=Tryz.underlying21
 a21:=Tryz.isAgg21
 z21:=Tryz.sizeOf21
 v21:=Tryz.zeroValue21
 i21:=by kernel_rfl
 t23:=Tryz.underlying102
 a23:=Tryz.isAgg102
 z23:=Tryz.sizeOf102
 v23:=Tryz.zeroValue102
 i23:=by kernel_rfl }
open Go.RowKit Go.Lib in
theorem sh_strings_IndexFunc (g:Nat) (lb:Array Value) (eg:∀ args w,(callFunc g args).run Pg w = .ok (.enter g args) w) (p:Nat→Bool) (s:ByteArray) (w:World) (hp:PredAt Pg g lb encR p w) :
 Calls Pg 63 #[.string s,.func (.func g) #[] lb] w fun e w'=>e = .returned (.int .i64 (Lib.idxFunc p true s))∧Below w.heap.size w w':=Any.strings_IndexFunc sh_laysGw15 g lb eg p s w hp
def sh_lays153_ren:Go.Shelf.Ren:=⟨fun | 153=>65 | 152=>81 | 226=>82 | 227=>83 | 228=>84 | 137=>93 | 119=>94 | 224=>95 | 225=>96 | 217=>107 | 266=>119 | n=>n,fun | 9=>9 | 3=>3 | 4=>4 | 5=>5 | 21=>21 | 117=>124 | 116=>123 | 0=>0 | 46=>136 | 124=>137 | n=>n,fun | n=>n⟩
theorem sh_lays153:Go.Proofs.Lays.n153 Pg sh_lays153_ren:={
 mixed:=by kernel_rfl
 f119:=Tryz.func94.trans (congrArg some (by kernel_rfl))
 f137:=Tryz.func93.trans (congrArg some (by kernel_rfl))
 f152:=Tryz.func81.trans (congrArg some (by kernel_rfl))
 f153:=Tryz.func65.trans (congrArg some (by kernel_rfl))
 f217:=Tryz.func107.trans (congrArg some (by kernel_rfl))
 f224:=Tryz.func95.trans (congrArg some (by kernel_rfl))
 f225:=Tryz.func96.trans (congrArg some (by kernel_rfl))
 f226:=Tryz.func82.trans (congrArg some (by kernel_rfl))
 f227:=Tryz.func83.trans (congrArg some (by kernel_rfl))
 f228:=Tryz.func84.trans (congrArg some (by kernel_rfl))
 f266:=Tryz.func119.trans (congrArg some (by kernel_rfl))
 t0:=Tryz.underlying0
 a0:=Tryz.isAgg0
 z0:=Tryz.sizeOf0
 v0:=Tryz.zeroValue0
 t3:=Tryz.underlying3
 a3:=Tryz.isAgg3
 z3:=Tryz.sizeOf3
 v3:=Tryz.zeroValue3
 t4:=Tryz.underlying4
 a4:=Tryz.isAgg4
 z4:=Tryz.sizeOf4
 v4:=Tryz.zeroValue4
 t5:=Tryz.underlying5
 a5:=Tryz.isAgg5
 z5:=Tryz.sizeOf5
 v5:=Tryz.zeroValue5
 t9:=Tryz.underlying9
 a9:=Tryz.isAgg9
 z9:=Tryz.sizeOf9
 v9:=Tryz.zeroValue9
 t21:=Tryz.underlying21
 a21:=Tryz.isAgg21
 z21:=Tryz.sizeOf21
 v21:=Tryz.zeroValue21
 t46:=Tryz.underlying136
 a46:=Tryz.isAgg136
 z46:=Tryz.sizeOf136
 v46:=Tryz.zeroValue136
 t116:=Tryz.underlying123
 a116:=Tryz.isAgg123
 z116:=Tryz.sizeOf123
 t117:=Tryz.underlying124
 a117:=Tryz.isAgg124
 z117:=Tryz.sizeOf124
 v117:=Tryz.zeroValue124
 t124:=Tryz.underlying137
 a124:=Tryz.isAgg137
 z124:=Tryz.sizeOf137
 v124:=Tryz.zeroValue137 }
open Go.RowKit Go.Lib in
theorem sh_strings_IndexAny_long (hv116:∀ w,(zeroValue 123).run Pg w = .ok (.agg (Array.replicate 256 (.bool false))) w) (s chars:ByteArray) (w:World) (h2:2≤chars.size) (h8:8 < s.size) (hs:s.size < 4294967281) (hcs:chars.size < 4294967281) (hascii:∀ (j:Nat) b,chars.data.toList[j]?=some b→b.toNat < 128) :
 Calls Pg 65 #[.string s,.string chars] w fun e w'=>e = .returned (.int .i64 (Lib.indexAny s.data.toList chars.data.toList))∧w'=((w.alloc (.cells (Lib.setCells chars.data.toList) 123)).alloc (.cells (Lib.setCells chars.data.toList) 123)):=Any.strings_IndexAny_long sh_lays153 hv116 (by kernel_rfl) s chars w h2 h8 hs hcs hascii
open Go.RowKit Go.Sort in
theorem sh_slices_Sort_string_none (p:Option Addr) (cap:Nat) (w:World) :
 Calls Pg 104 #[.slice p 0 cap] w fun e w'=>e = .returned (.tuple #[])∧w'=w:=Any.slices_Sort_string_none sh_lays190 p cap w
end Go.Proofs.YtpgkjhikdhdffaaGreatDoor
namespace Go.Sw
class Szb (a:ByteArray) (n:outParam Nat):Prop where
 le:a.size≤n
instance szbLit (a:Array UInt8):Szb ⟨a⟩ a.size:=⟨Nat.le_refl _⟩
instance szbApp (a b:ByteArray) (n m:Nat) [Szb a n] [Szb b m]:Szb (a++b) (n+m):=⟨by rw [ByteArray.size_append];exact Nat.add_le_add Szb.le Szb.le⟩
section
variable {P:Program} {QP:List PanicEntry→World→Prop} {w:World}
theorem op_saddB (t:TypeId) (c:Bool) (a b:ByteArray) {n m:Nat} [ha:Szb a n] [hb:Szb b m] (h:Nat.ble (n+m) 9223372036854775807=true) {k:Value→World→Prop}:opV P (binS .add t c (.string a) (.string b)) QP w k=k (.string (a++b)) w:=by
 have h:=Nat.le_of_ble_eq_true h
 have h1:=ha.le
 have h2:=hb.le
 refine opV_ok ?_
 have h1:¬ (((a.size+b.size:Nat):Int) > IntKind.i64.max):=by
  have:IntKind.i64.max=9223372036854775807:=rfl
  omega
 simp [binS,binOp,Op.stringOp,h1]
 omega
end
end Go.Sw
namespace Go.Proofs.YtpgkjhikdhdffaaGreatDoor
open Sw
open Go.RowKit (intOf Below)
def decB (n:Int):ByteArray:=⟨(Go.Lib.itoa n).toArray⟩
theorem bytes_ext {a b:ByteArray} (h:a.data.toList=b.data.toList):a=b:=by
 cases a;cases b
 congr
 exact Array.toList_inj.1 h
theorem decB_size {n:Int} (h0 : -9223372036854775808≤n) (h1:n≤9223372036854775807):(decB n).size≤21:=by
 have:=Go.Lib.itoa_length_le n h0 h1
 unfold decB ByteArray.size
 simpa using this
def TabOK (w:World):Prop:=Go.Lib.TabIs Pg w "internal/strconv.uint64pow10" .u64 Go.Lib.pow10Tab
theorem gPow:(Pg.globalNamed "internal/strconv.uint64pow10").isSome=true:=by kernel_rfl
theorem TabOK.lt {w:World} (h:TabOK w) {g:Nat} (hg:Pg.globalNamed "internal/strconv.uint64pow10" = some g):g < w.heap.size:=by
 unfold TabOK Go.Lib.TabIs World.var? at h
 rw [hg] at h
 simp only [Option.bind_some] at h
 rcases Nat.lt_or_ge g w.heap.size with h' | h'
 · exact h'
 · rw [Array.getElem?_eq_none h'] at h;cases h
theorem TabOK.same {w w':World} (h:TabOK w) (hb:∀ g,Pg.globalNamed "internal/strconv.uint64pow10" = some g→w'.heap[g]?=w.heap[g]?):TabOK w':=by
 obtain ⟨g,hg⟩:=Option.isSome_iff_exists.1 gPow
 have:=hb g hg
 unfold TabOK Go.Lib.TabIs World.var? at h ⊢
 rw [hg] at h ⊢
 simp only [Option.bind_some] at h ⊢
 rw [this]
 exact h
theorem TabOK.ext {w w':World} (h:TabOK w) (e:Ext w w'):TabOK w':=h.same fun g hg=>e.block g (h.lt hg)
theorem grow_ext (w:World) (k:Nat) (os:Array Obj):Ext w (Sort.grow (w.drewN k) os):=⟨rfl,rfl,rfl,by show w.heap.size≤(w.heap++os).size;simp,fun i hi=>by show (w.heap++os)[i]?=_;rw [Array.getElem?_append_left hi]⟩
theorem Itoa_ret {w:World} (hT:TabOK w) (n:Int) (h0 : -9223372036854775808≤n) (h1:n≤9223372036854775807):Ret Pg 79 #[.int .i64 n] w fun r w'=>r = .string (decB n)∧Ext w w':=by
 refine Calls.mono (sh_strconv_Itoa n h0 h1 w hT) ?_
 rintro e w' ⟨rfl,k,os,rfl⟩
 exact ⟨_,rfl,rfl,grow_ext w k os⟩
structure EnvOK (w:World):Prop where
 tab:TabOK w
 len:∃ m,w.cell? ⟨0,0,none⟩=some (.int .i64 m)
 syn:∃ ev,w.cell? ⟨1,0,none⟩=some ev∧(ev = .nilIface∨∃ te pe,ev = .iface te pe)
 rng:∃ ev,w.cell? ⟨2,0,none⟩=some ev∧(ev = .nilIface∨∃ te pe,ev = .iface te pe)
theorem EnvOK.ext {w w':World} (h:EnvOK w) (e:Ext w w'):EnvOK w':=⟨h.tab.ext e,h.len.imp fun _ h=>e.cell h,h.syn.imp fun _ h=>⟨e.cell h.1,h.2⟩,h.rng.imp fun _ h=>⟨e.cell h.1,h.2⟩⟩
theorem Atoi_ret {w:World} (hE:EnvOK w) (s:ByteArray) (hs:s.size≤100000):Ret Pg 67 #[.string s] w fun r w'=>Ext w w'∧∃ n e,r = .tuple #[.int .i64 n,e]∧((Go.Lib.atoiAll s.data.toList = .ok n∧e = .nilIface)∨((∀ v,Go.Lib.atoiAll s.data.toList ≠ .ok v)∧∃ t x,e = .iface t x)):=by
 match h:Go.Lib.atoiAll s.data.toList with
 | .ok v =>
  refine Calls.mono (sh_strconv_Atoi_ok s (by omega) v h w) ?_
  rintro e w' ⟨rfl,rfl | ⟨t,rfl⟩⟩
  · exact ⟨_,rfl,Ext.refl _,_,_,rfl,.inl ⟨rfl,rfl⟩⟩
  · exact ⟨_,rfl,Ext.of_below (Go.Lib.bytesWorld_below w 5 t),_,_,rfl,.inl ⟨rfl,rfl⟩⟩
 | Go.Lib.NumEnd.syntax =>
  obtain ⟨ev,h1,h2⟩:=hE.syn
  refine Calls.mono (sh_strconv_Atoi_syntax s (by omega) h ev w h1 h2) ?_
  rintro e w' ⟨N,rfl,_,_,hb⟩
  exact ⟨_,rfl,Ext.of_below hb,_,_,rfl,.inr ⟨fun v hv=>(by cases hv),_,_,rfl⟩⟩
 | Go.Lib.NumEnd.range =>
  obtain ⟨ev,h1,h2⟩:=hE.rng
  refine Calls.mono (sh_strconv_Atoi_range s (by omega) h ev w h1 h2) ?_
  rintro e w' ⟨N,rfl,_,_,hb⟩
  exact ⟨_,rfl,Ext.of_below hb,_,_,rfl,.inr ⟨fun v hv=>(by cases hv),_,_,rfl⟩⟩
theorem app_assoc (a b c:ByteArray):a++b++c=a++(b++c):=ByteArray.append_assoc
def digN (c:UInt8):Bool:=decide (48≤c.toNat)&&decide (c.toNat≤57)
def stepN (n:Nat) (c:UInt8):Nat:=n*10+(c.toNat - 48)
def valL (l:List UInt8):Nat:=l.foldl stepN 0
theorem valL_snoc (l:List UInt8) (c:UInt8):valL (l++[c])=valL l*10+(c.toNat - 48):=by simp [valL,stepN]
theorem digN_iff {c:UInt8}:digN c=true↔48≤c.toNat∧c.toNat≤57:=by simp [digN]
theorem all_snoc {l:List UInt8} {c:UInt8}:(l++[c]).all digN=true↔l.all digN=true∧digN c=true:=by simp
theorem head_snoc {l:List UInt8} (h:l≠[]) (c:UInt8):(l++[c]).head?=l.head?:=by
 cases l with
 | nil=>exact absurd rfl h
 | cons a l=>rfl
theorem dig_toNat {u:Nat} (h:u < 10):(UInt8.ofNat (48+u)).toNat=48+u:=by
 rw [UInt8.toNat_ofNat']
 exact Nat.mod_eq_of_lt (by omega)
theorem dec_ok (u:Nat):Go.Lib.decDigits u≠[]∧(Go.Lib.decDigits u).all digN=true∧valL (Go.Lib.decDigits u)=u∧((Go.Lib.decDigits u).head?=some 48→u=0):=by
 induction u using Nat.strongRecOn with
 | ind u ih =>
  by_cases h:u < 10
  · rw [Go.Lib.decDigits_one h]
    refine ⟨by simp,?_,?_,fun e=>?_⟩
    · rw [List.all_cons,List.all_nil,Bool.and_true,digN_iff,dig_toNat h];omega
    · show 0*10+((UInt8.ofNat (48+u)).toNat - 48)=u
      rw [dig_toNat h];omega
    · injection e with e
      have:=dig_toNat h
      rw [e] at this
      have h48:(48:UInt8).toNat=48:=rfl
      omega
  · obtain ⟨a1,a2,a3,a4⟩:=ih (u / 10) (by omega)
    rw [Go.Lib.decDigits,dif_neg h]
    have hm:u % 10 < 10:=Nat.mod_lt _ (by omega)
    refine ⟨by simp,all_snoc.2 ⟨a2,?_⟩,?_,fun e=>?_⟩
    · rw [digN_iff,dig_toNat hm];omega
    · rw [valL_snoc,a3,dig_toNat hm];omega
    · rw [head_snoc a1] at e
      have:=a4 e
      omega
theorem parse_val:∀ (l:List UInt8) (acc k:Nat),l.all digN=true→acc < 10 ^ k→k+l.length≤18→Go.Lib.parseUint10 acc l = .ok (l.foldl stepN acc)
 | [],acc,k,_,_,_=>rfl
 | c::r,acc,k,h,ha,hk=>by
  rw [List.all_cons,Bool.and_eq_true] at h
  have h2:=digN_iff.1 h.1
  rw [List.length_cons] at hk
  have h18:10 ^ (k+1)≤10 ^ 18:=Nat.pow_le_pow_right (by omega) (by omega)
  have h18':(10:Nat) ^ 18=1000000000000000000:=by decide
  have hs:10 ^ (k+1)=10 ^ k*10:=Nat.pow_succ ..
  simp only [Go.Lib.parseUint10]
  rw [if_pos h2,if_neg (by omega),if_neg (by omega),parse_val r (acc*10+(c.toNat - 48)) (k+1) h.2 (by omega) (by omega)]
  rfl
theorem mag_val {l:List UInt8} (h:l≠[]) (hd:l.all digN=true) (hl:l.length≤18):Go.Lib.parseMag l = .ok (valL l):=by
 unfold Go.Lib.parseMag
 rw [if_neg h,parse_val l 0 0 hd (by decide) (by omega)]
 rfl
theorem itoa_pos {n:Int} (h:¬ n < 0):Go.Lib.itoa n=Go.Lib.decDigits n.toNat:=by unfold Go.Lib.itoa;rw [if_neg h]
end Go.Proofs.YtpgkjhikdhdffaaGreatDoor
namespace Go.Proofs.YtpgkjhikdhdffaaGreatDoor
open Sw
def isAggD (d:TypeDesc):Bool:=match d with | .struct _ | .array _ _=>true | _=>false
theorem ty_mk {P:Program} {T:TypeId} {agg:Bool} {n:Nat} {z:Value} {d:TypeDesc} (h:(P.info? T).map (fun i=>(i.size,i.zero))=some (n,some z)) (hu:P.underlying T=some d) (ha:isAggD d=agg):TyInfo P T agg n (P.bytesOf T) z:=by
 obtain ⟨i,hi,he⟩:=Option.map_eq_some_iff.1 h
 simp only [Prod.mk.injEq] at he
 exact ⟨⟨i,hi,he.1,by simp [Program.bytesOf,hi],he.2⟩,d,hu,ha⟩
theorem ty3:TyInfo Pg 3 false 1 (Pg.bytesOf 3) (.int .i64 0):=ty_mk (by kernel_rfl) Tryz.underlying3 rfl
theorem ty4:TyInfo Pg 4 false 1 (Pg.bytesOf 4) (.bool false):=ty_mk (by kernel_rfl) Tryz.underlying4 rfl
theorem ty5:TyInfo Pg 5 false 1 (Pg.bytesOf 5) (.int .u8 0):=ty_mk (by kernel_rfl) Tryz.underlying5 rfl
theorem ty9:TyInfo Pg 9 false 1 (Pg.bytesOf 9) (.string ByteArray.empty):=ty_mk (by kernel_rfl) Tryz.underlying9 rfl
theorem by9:Pg.bytesOf 9≤4096:=Nat.le_of_ble_eq_true (by kernel_rfl)
theorem ty22:TyInfo Pg 22 false 1 (Pg.bytesOf 22) (.slice none 0 0):=ty_mk (by kernel_rfl) Tryz.underlying22 rfl
theorem ty24:TyInfo Pg 24 true 2 (Pg.bytesOf 24) (.agg #[.int .i64 0,.slice none 0 0]):=ty_mk (by kernel_rfl) Tryz.underlying24 rfl
theorem ty32:TyInfo Pg 32 true 2 (Pg.bytesOf 32) (.agg #[.string ByteArray.empty,.int .i64 0]):=ty_mk (by kernel_rfl) Tryz.underlying32 rfl
theorem by32:Pg.bytesOf 32≤4096:=Nat.le_of_ble_eq_true (by kernel_rfl)
theorem ty35:TyInfo Pg 35 false 1 (Pg.bytesOf 35) (.map none):=ty_mk (by kernel_rfl) Tryz.underlying35 rfl
theorem ty39:TyInfo Pg 39 false 1 (Pg.bytesOf 39) (.int .i64 0):=ty_mk (by kernel_rfl) Tryz.underlying39 rfl
theorem ty46:TyInfo Pg 46 false 1 (Pg.bytesOf 46) (.map none):=ty_mk (by kernel_rfl) Tryz.underlying46 rfl
theorem ty51:TyInfo Pg 51 true 2 (Pg.bytesOf 51) (.agg #[.int .i64 0,.int .i64 0]):=ty_mk (by kernel_rfl) Tryz.underlying51 rfl
theorem ty68:TyInfo Pg 68 true 3 (Pg.bytesOf 68) (.agg #[.string ByteArray.empty,.int .i64 0,.int .i64 0]):=ty_mk (by kernel_rfl) Tryz.underlying68 rfl
theorem ty78:TyInfo Pg 78 true 2 (Pg.bytesOf 78) (.agg #[.string ByteArray.empty,.int .i64 0]):=ty_mk (by kernel_rfl) Tryz.underlying78 rfl
theorem ty84:TyInfo Pg 84 false 1 (Pg.bytesOf 84) (.map none):=ty_mk (by kernel_rfl) Tryz.underlying84 rfl
theorem ty85:TyInfo Pg 85 false 1 (Pg.bytesOf 85) (.nilFunc):=ty_mk (by kernel_rfl) Tryz.underlying85 rfl
theorem ty89:TyInfo Pg 89 true 2 (Pg.bytesOf 89) (.agg #[.string ByteArray.empty,.int .i64 0]):=ty_mk (by kernel_rfl) Tryz.underlying89 rfl
theorem by89:Pg.bytesOf 89≤4096:=Nat.le_of_ble_eq_true (by kernel_rfl)
theorem ty95:TyInfo Pg 95 true 3 (Pg.bytesOf 95) (.agg #[.string ByteArray.empty,.int .i64 0,.int .i64 0]):=ty_mk (by kernel_rfl) Tryz.underlying95 rfl
theorem by95:Pg.bytesOf 95≤4096:=Nat.le_of_ble_eq_true (by kernel_rfl)
theorem ty96:TyInfo Pg 96 false 1 (Pg.bytesOf 96) (.nilFunc):=ty_mk (by kernel_rfl) Tryz.underlying96 rfl
theorem ty129:TyInfo Pg 129 false 1 (Pg.bytesOf 129) (.slice none 0 0):=ty_mk (by kernel_rfl) Tryz.underlying129 rfl
theorem eq32 {w:World} (a0 b0:ByteArray) (a1 b1:Int):(Op.equalIn (9999+1) 32 (.agg #[.string a0,.int .i64 a1]) (.agg #[.string b0,.int .i64 b1])).run Pg w = .ok (decide (a0=b0)&&(decide (a1=b1)&&true)) w :=
 equalIn_struct Tryz.underlying32 (by kernel_rfl) (eqFields_step rfl (part1 ty9 rfl) (part1 ty9 rfl) (eqString Tryz.underlying9) (eqFields_step rfl (part1 ty3 rfl) (part1 ty3 rfl) (eqInt Tryz.underlying3) eqFields_nil))
theorem eq51 {w:World} (a0 b0:Int) (a1 b1:Int):(Op.equalIn (9999+1) 51 (.agg #[.int .i64 a0,.int .i64 a1]) (.agg #[.int .i64 b0,.int .i64 b1])).run Pg w = .ok (decide (a0=b0)&&(decide (a1=b1)&&true)) w :=
 equalIn_struct Tryz.underlying51 (by kernel_rfl) (eqFields_step rfl (part1 ty3 rfl) (part1 ty3 rfl) (eqInt Tryz.underlying3) (eqFields_step rfl (part1 ty3 rfl) (part1 ty3 rfl) (eqInt Tryz.underlying3) eqFields_nil))
section
variable {QP:List PanicEntry→World→Prop} {w:World} {k:Value→World→Prop}
def o0:=op_loadC (QP:=QP) (w:=w) (k:=k) ty3
theorem o1:(∀ u,opV Pg (Instr.alloc 3 true u) QP w k=k (.pointer (some ⟨w.heap.size,0,none⟩)) (w.alloc (.cells ((.int .i64 0):Value).cells 3))):=(op_alloc ty3)
def o2:=op_loadC (QP:=QP) (w:=w) (k:=k) ty4
theorem o3:(∀ c a b,opV Pg (binS .eql 4 c (.bool a) (.bool b)) QP w k=k (.bool (a == b)) w):=(op_beql Tryz.underlying4)
theorem o4:(∀ c a b,opV Pg (binS .neq 4 c (.bool a) (.bool b)) QP w k=k (.bool (a != b)) w):=(op_bneq Tryz.underlying4)
theorem o5:(∀ u,opV Pg (Instr.alloc 4 true u) QP w k=k (.pointer (some ⟨w.heap.size,0,none⟩)) (w.alloc (.cells ((.bool false):Value).cells 4))):=(op_alloc ty4)
def o6:=op_loadC (QP:=QP) (w:=w) (k:=k) ty5
def o7:=op_loadC (QP:=QP) (w:=w) (k:=k) ty9
theorem o8:(∀ r s,opV Pg (Builtin.len_ #[9] r #[.string s]) QP w k=k (.int .i64 (s.size:Int)) w):=(fun r=>op_len_string (r:=r) Tryz.underlying9)
def o9:=op_loadC (QP:=QP) (w:=w) (k:=k) ty22
theorem o10:(∀ r a n c,opV Pg (Builtin.len_ #[22] r #[.slice a n c]) QP w k=k (.int .i64 (n:Int)) w):=(fun r=>op_len_slice (r:=r) Tryz.underlying22)
theorem o11:(∀ b o len cap ik (i:Nat),i < len→opV Pg (Instr.indexAt 22 (.slice (some ⟨b,o,none⟩) len cap) (.int ik (i:Int))) QP w k=k (.pointer (some ⟨b,o+i*2,none⟩)) w):=(op_indexN Tryz.underlying22 ty32)
theorem o12:(∀ u,opV Pg (Instr.alloc 22 true u) QP w k=k (.pointer (some ⟨w.heap.size,0,none⟩)) (w.alloc (.cells ((.slice none 0 0):Value).cells 22))):=(op_alloc ty22)
def o13:=op_field0 (QP:=QP) (w:=w) (k:=k) (i:=0) (ft:=3) (n:=1) Tryz.underlying24 rfl ty3 rfl
def o14:=op_fieldO (QP:=QP) (w:=w) (k:=k) (i:=1) (ft:=22) (off:=1) (n:=1) Tryz.underlying24 rfl ty22 rfl
theorem o15:(∀ b o,opV Pg (Instr.loadAt 24 (.pointer (some ⟨b,o,none⟩))) QP w k=onCells [w.cell? ⟨b,o,none⟩,w.cell? ⟨b,o+1,none⟩] (fun vs=>k (.agg vs.toArray) w) (opVx Pg (Instr.loadAt 24 (.pointer (some ⟨b,o,none⟩))) QP w k)):=(by intro b o;exact op_loadA ty24 b o _ rfl)
theorem o16:(∀ u,opV Pg (Instr.alloc 24 true u) QP w k=k (.pointer (some ⟨w.heap.size,0,none⟩)) (w.alloc (.cells ((.agg #[.int .i64 0,.slice none 0 0]):Value).cells 24))):=(op_alloc ty24)
def o17:=op_field0 (QP:=QP) (w:=w) (k:=k) (i:=0) (ft:=9) (n:=1) Tryz.underlying32 rfl ty9 rfl
def o18:=op_fieldO (QP:=QP) (w:=w) (k:=k) (i:=1) (ft:=3) (off:=1) (n:=1) Tryz.underlying32 rfl ty3 rfl
theorem o19:(∀ b o,opV Pg (Instr.loadAt 32 (.pointer (some ⟨b,o,none⟩))) QP w k=onCells [w.cell? ⟨b,o,none⟩,w.cell? ⟨b,o+1,none⟩] (fun vs=>k (.agg vs.toArray) w) (opVx Pg (Instr.loadAt 32 (.pointer (some ⟨b,o,none⟩))) QP w k)):=(by intro b o;exact op_loadA ty32 b o _ rfl)
theorem o20:(∀ u,opV Pg (Instr.alloc 32 true u) QP w k=k (.pointer (some ⟨w.heap.size,0,none⟩)) (w.alloc (.cells ((.agg #[.string ByteArray.empty,.int .i64 0]):Value).cells 32))):=(op_alloc ty32)
theorem o21:(∀ r a n c,opV Pg (Builtin.len_ #[34] r #[.slice a n c]) QP w k=k (.int .i64 (n:Int)) w):=(fun r=>op_len_slice (r:=r) Tryz.underlying34)
theorem o22:(∀ b o len cap ik (i:Nat),i < len→opV Pg (Instr.indexAt 34 (.slice (some ⟨b,o,none⟩) len cap) (.int ik (i:Int))) QP w k=k (.pointer (some ⟨b,o+i*2,none⟩)) w):=(op_indexN Tryz.underlying34 ty78)
def o23:=op_loadC (QP:=QP) (w:=w) (k:=k) ty35
theorem o24:(∀ r a n c,opV Pg (Builtin.len_ #[36] r #[.slice a n c]) QP w k=k (.int .i64 (n:Int)) w):=(fun r=>op_len_slice (r:=r) Tryz.underlying36)
theorem o25:(∀ b o len cap ik (i:Nat),i < len→opV Pg (Instr.indexAt 36 (.slice (some ⟨b,o,none⟩) len cap) (.int ik (i:Int))) QP w k=k (.pointer (some ⟨b,o+i*2,none⟩)) w):=(op_indexN Tryz.underlying36 ty89)
def o26:=op_loadC (QP:=QP) (w:=w) (k:=k) ty39
theorem o27:(∀ u,opV Pg (Instr.alloc 39 true u) QP w k=k (.pointer (some ⟨w.heap.size,0,none⟩)) (w.alloc (.cells ((.int .i64 0):Value).cells 39))):=(op_alloc ty39)
theorem o28:(∀ r a n c,opV Pg (Builtin.len_ #[45] r #[.slice a n c]) QP w k=k (.int .i64 (n:Int)) w):=(fun r=>op_len_slice (r:=r) Tryz.underlying45)
theorem o29:(∀ b o len cap ik (i:Nat),i < len→opV Pg (Instr.indexAt 45 (.slice (some ⟨b,o,none⟩) len cap) (.int ik (i:Int))) QP w k=k (.pointer (some ⟨b,o+i*3,none⟩)) w):=(op_indexN Tryz.underlying45 ty68)
def o30:=op_loadC (QP:=QP) (w:=w) (k:=k) ty46
theorem o31:(∀ r a n c,opV Pg (Builtin.len_ #[47] r #[.slice a n c]) QP w k=k (.int .i64 (n:Int)) w):=(fun r=>op_len_slice (r:=r) Tryz.underlying47)
theorem o32:(∀ b o len cap ik (i:Nat),i < len→opV Pg (Instr.indexAt 47 (.slice (some ⟨b,o,none⟩) len cap) (.int ik (i:Int))) QP w k=k (.pointer (some ⟨b,o+i*3,none⟩)) w):=(op_indexN Tryz.underlying47 ty95)
def o33:=op_field0 (QP:=QP) (w:=w) (k:=k) (i:=0) (ft:=3) (n:=1) Tryz.underlying51 rfl ty3 rfl
def o34:=op_fieldO (QP:=QP) (w:=w) (k:=k) (i:=1) (ft:=3) (off:=1) (n:=1) Tryz.underlying51 rfl ty3 rfl
theorem o35:(∀ v0 v1,opV Pg (Instr.field 51 (.agg #[v0,v1]) 1) QP w k=k v1 w):=(by intro v0 v1;exact op_fieldV1 Tryz.underlying51 rfl ty3 rfl)
theorem o36:(∀ b o,opV Pg (Instr.loadAt 51 (.pointer (some ⟨b,o,none⟩))) QP w k=onCells [w.cell? ⟨b,o,none⟩,w.cell? ⟨b,o+1,none⟩] (fun vs=>k (.agg vs.toArray) w) (opVx Pg (Instr.loadAt 51 (.pointer (some ⟨b,o,none⟩))) QP w k)):=(by intro b o;exact op_loadA ty51 b o _ rfl)
theorem o37:(∀ u,opV Pg (Instr.alloc 51 true u) QP w k=k (.pointer (some ⟨w.heap.size,0,none⟩)) (w.alloc (.cells ((.agg #[.int .i64 0,.int .i64 0]):Value).cells 51))):=(op_alloc ty51)
theorem o38:(∀ r a n c,opV Pg (Builtin.len_ #[66] r #[.slice a n c]) QP w k=k (.int .i64 (n:Int)) w):=(fun r=>op_len_slice (r:=r) Tryz.underlying66)
theorem o39:(∀ b o len cap ik (i:Nat),i < len→opV Pg (Instr.indexAt 66 (.slice (some ⟨b,o,none⟩) len cap) (.int ik (i:Int))) QP w k=k (.pointer (some ⟨b,o+i*1,none⟩)) w):=(op_indexN Tryz.underlying66 ty3)
def o40:=op_field0 (QP:=QP) (w:=w) (k:=k) (i:=0) (ft:=9) (n:=1) Tryz.underlying68 rfl ty9 rfl
def o41:=op_fieldO (QP:=QP) (w:=w) (k:=k) (i:=1) (ft:=51) (off:=1) (n:=2) Tryz.underlying68 rfl ty51 rfl
def o42:=op_field0 (QP:=QP) (w:=w) (k:=k) (i:=0) (ft:=9) (n:=1) Tryz.underlying78 rfl ty9 rfl
def o43:=op_fieldO (QP:=QP) (w:=w) (k:=k) (i:=1) (ft:=3) (off:=1) (n:=1) Tryz.underlying78 rfl ty3 rfl
theorem o44:(∀ r a n c,opV Pg (Builtin.len_ #[83] r #[.slice a n c]) QP w k=k (.int .i64 (n:Int)) w):=(fun r=>op_len_slice (r:=r) Tryz.underlying83)
theorem o45:(∀ b o len cap ik (i:Nat),i < len→opV Pg (Instr.indexAt 83 (.slice (some ⟨b,o,none⟩) len cap) (.int ik (i:Int))) QP w k=k (.pointer (some ⟨b,o+i*1,none⟩)) w):=(op_indexN Tryz.underlying83 ty5)
def o46:=op_loadC (QP:=QP) (w:=w) (k:=k) ty84
theorem o47:(∀ u,opV Pg (Instr.alloc 84 true u) QP w k=k (.pointer (some ⟨w.heap.size,0,none⟩)) (w.alloc (.cells ((.map none):Value).cells 84))):=(op_alloc ty84)
def o48:=op_loadC (QP:=QP) (w:=w) (k:=k) ty85
def o49:=op_field0 (QP:=QP) (w:=w) (k:=k) (i:=0) (ft:=9) (n:=1) Tryz.underlying89 rfl ty9 rfl
def o50:=op_fieldO (QP:=QP) (w:=w) (k:=k) (i:=1) (ft:=3) (off:=1) (n:=1) Tryz.underlying89 rfl ty3 rfl
def o51:=op_field0 (QP:=QP) (w:=w) (k:=k) (i:=0) (ft:=9) (n:=1) Tryz.underlying95 rfl ty9 rfl
def o52:=op_fieldO (QP:=QP) (w:=w) (k:=k) (i:=1) (ft:=3) (off:=1) (n:=1) Tryz.underlying95 rfl ty3 rfl
def o53:=op_fieldO (QP:=QP) (w:=w) (k:=k) (i:=2) (ft:=3) (off:=2) (n:=1) Tryz.underlying95 rfl ty3 rfl
theorem o54:(∀ b o,opV Pg (Instr.loadAt 95 (.pointer (some ⟨b,o,none⟩))) QP w k=onCells [w.cell? ⟨b,o,none⟩,w.cell? ⟨b,o+1,none⟩,w.cell? ⟨b,o+2,none⟩] (fun vs=>k (.agg vs.toArray) w) (opVx Pg (Instr.loadAt 95 (.pointer (some ⟨b,o,none⟩))) QP w k)):=(by intro b o;exact op_loadA ty95 b o _ rfl)
theorem o55:(∀ u,opV Pg (Instr.alloc 95 true u) QP w k=k (.pointer (some ⟨w.heap.size,0,none⟩)) (w.alloc (.cells ((.agg #[.string ByteArray.empty,.int .i64 0,.int .i64 0]):Value).cells 95))):=(op_alloc ty95)
def o56:=op_loadC (QP:=QP) (w:=w) (k:=k) ty96
theorem o58:(∀ r a n c,opV Pg (Builtin.len_ #[116] r #[.slice a n c]) QP w k=k (.int .i64 (n:Int)) w):=(fun r=>op_len_slice (r:=r) Tryz.underlying116)
theorem o59:(∀ b o len cap ik (i:Nat),i < len→opV Pg (Instr.indexAt 116 (.slice (some ⟨b,o,none⟩) len cap) (.int ik (i:Int))) QP w k=k (.pointer (some ⟨b,o+i*1,none⟩)) w):=(op_indexN Tryz.underlying116 ty4)
theorem o60:(∀ r a n c,opV Pg (Builtin.len_ #[127] r #[.slice a n c]) QP w k=k (.int .i64 (n:Int)) w):=(fun r=>op_len_slice (r:=r) Tryz.underlying127)
theorem o61:(∀ b o len cap ik (i:Nat),i < len→opV Pg (Instr.indexAt 127 (.slice (some ⟨b,o,none⟩) len cap) (.int ik (i:Int))) QP w k=k (.pointer (some ⟨b,o+i*1,none⟩)) w):=(op_indexN Tryz.underlying127 ty22)
def o62:=op_loadC (QP:=QP) (w:=w) (k:=k) ty129
theorem o63:(∀ r a n c,opV Pg (Builtin.len_ #[129] r #[.slice a n c]) QP w k=k (.int .i64 (n:Int)) w):=(fun r=>op_len_slice (r:=r) Tryz.underlying129)
theorem o64:(∀ b o len cap ik (i:Nat),i < len→opV Pg (Instr.indexAt 129 (.slice (some ⟨b,o,none⟩) len cap) (.int ik (i:Int))) QP w k=k (.pointer (some ⟨b,o+i*1,none⟩)) w):=(op_indexN Tryz.underlying129 ty9)
theorem o65:(∀ r a n c,opV Pg (Builtin.len_ #[132] r #[.slice a n c]) QP w k=k (.int .i64 (n:Int)) w):=(fun r=>op_len_slice (r:=r) Tryz.underlying132)
theorem o66:(∀ b o len cap ik (i:Nat),i < len→opV Pg (Instr.indexAt 132 (.slice (some ⟨b,o,none⟩) len cap) (.int ik (i:Int))) QP w k=k (.pointer (some ⟨b,o+i*1,none⟩)) w):=(op_indexN Tryz.underlying132 ty39)
theorem o71:(opV Pg (Instr.build 24 #[]) QP w k=k (.agg #[.int .i64 0,.slice none 0 0]) w):=(by exact op_build (places := #[(0,1),(1,1)]) Tryz.underlying24 ty24 (by intro w;simp [List.mapM_cons,Sem.run_bind,Sw.run_sizeOf ty22,Sw.run_sizeOf ty3]) (by simp [Instr.fill,cells_agg]))
theorem o72:(∀ v0:Value,v0.oneCell'=true→opV Pg (Instr.build 24 #[(0,v0)]) QP w k=k (.agg #[v0,.slice none 0 0]) w):=(by intro v0 hv0;exact op_build (places := #[(0,1),(1,1)]) Tryz.underlying24 ty24 (by intro w;simp [List.mapM_cons,Sem.run_bind,Sw.run_sizeOf ty22,Sw.run_sizeOf ty3]) (by simp [Instr.fill,cells_agg,cells_one hv0]))
theorem o73:(∀ v0 v1:Value,v0.oneCell'=true→v1.oneCell'=true→opV Pg (Instr.build 24 #[(0,v0),(1,v1)]) QP w k=k (.agg #[v0,v1]) w):=(by intro v0 v1 hv0 hv1;exact op_build (places := #[(0,1),(1,1)]) Tryz.underlying24 ty24 (by intro w;simp [List.mapM_cons,Sem.run_bind,Sw.run_sizeOf ty22,Sw.run_sizeOf ty3]) (by simp [Instr.fill,cells_agg,cells_one hv0,cells_one hv1]))
theorem o74:(∀ v1:Value,v1.oneCell'=true→opV Pg (Instr.build 24 #[(1,v1)]) QP w k=k (.agg #[.int .i64 0,v1]) w):=(by intro v1 hv1;exact op_build (places := #[(0,1),(1,1)]) Tryz.underlying24 ty24 (by intro w;simp [List.mapM_cons,Sem.run_bind,Sw.run_sizeOf ty22,Sw.run_sizeOf ty3]) (by simp [Instr.fill,cells_agg,cells_one hv1]))
theorem o75:(∀ v0 v1:Value,v0.oneCell'=true→v1.oneCell'=true→opV Pg (Instr.build 32 #[(0,v0),(1,v1)]) QP w k=k (.agg #[v0,v1]) w):=(by intro v0 v1 hv0 hv1;exact op_build (places := #[(0,1),(1,1)]) Tryz.underlying32 ty32 (by intro w;simp [List.mapM_cons,Sem.run_bind,Sw.run_sizeOf ty3,Sw.run_sizeOf ty9]) (by simp [Instr.fill,cells_agg,cells_one hv0,cells_one hv1]))
theorem o76:(opV Pg (Instr.build 51 #[]) QP w k=k (.agg #[.int .i64 0,.int .i64 0]) w):=(by exact op_build (places := #[(0,1),(1,1)]) Tryz.underlying51 ty51 (by intro w;simp [List.mapM_cons,Sem.run_bind,Sw.run_sizeOf ty3]) (by simp [Instr.fill,cells_agg]))
theorem o77:(∀ v0 v1:Value,v0.oneCell'=true→v1.oneCell'=true→opV Pg (Instr.build 51 #[(0,v0),(1,v1)]) QP w k=k (.agg #[v0,v1]) w):=(by intro v0 v1 hv0 hv1;exact op_build (places := #[(0,1),(1,1)]) Tryz.underlying51 ty51 (by intro w;simp [List.mapM_cons,Sem.run_bind,Sw.run_sizeOf ty3]) (by simp [Instr.fill,cells_agg,cells_one hv0,cells_one hv1]))
theorem o78:(∀ v1:Value,v1.oneCell'=true→opV Pg (Instr.build 51 #[(1,v1)]) QP w k=k (.agg #[.int .i64 0,v1]) w):=(by intro v1 hv1;exact op_build (places := #[(0,1),(1,1)]) Tryz.underlying51 ty51 (by intro w;simp [List.mapM_cons,Sem.run_bind,Sw.run_sizeOf ty3]) (by simp [Instr.fill,cells_agg,cells_one hv1]))
theorem o79:(∀ v0 v1:Value,v0.oneCell'=true→v1.oneCell'=true→opV Pg (Instr.build 78 #[(0,v0),(1,v1)]) QP w k=k (.agg #[v0,v1]) w):=(by intro v0 v1 hv0 hv1;exact op_build (places := #[(0,1),(1,1)]) Tryz.underlying78 ty78 (by intro w;simp [List.mapM_cons,Sem.run_bind,Sw.run_sizeOf ty3,Sw.run_sizeOf ty9]) (by simp [Instr.fill,cells_agg,cells_one hv0,cells_one hv1]))
theorem o80:(∀ v0 v1:Value,v0.oneCell'=true→v1.oneCell'=true→opV Pg (Instr.build 89 #[(0,v0),(1,v1)]) QP w k=k (.agg #[v0,v1]) w):=(by intro v0 v1 hv0 hv1;exact op_build (places := #[(0,1),(1,1)]) Tryz.underlying89 ty89 (by intro w;simp [List.mapM_cons,Sem.run_bind,Sw.run_sizeOf ty3,Sw.run_sizeOf ty9]) (by simp [Instr.fill,cells_agg,cells_one hv0,cells_one hv1]))
theorem o81:(∀ v0 v1 v2:Value,v0.oneCell'=true→v1.oneCell'=true→v2.oneCell'=true→opV Pg (Instr.build 95 #[(0,v0),(1,v1),(2,v2)]) QP w k=k (.agg #[v0,v1,v2]) w):=(by intro v0 v1 v2 hv0 hv1 hv2;exact op_build (places := #[(0,1),(1,1),(2,1)]) Tryz.underlying95 ty95 (by intro w;simp [List.mapM_cons,Sem.run_bind,Sw.run_sizeOf ty3,Sw.run_sizeOf ty9]) (by simp [Instr.fill,cells_agg,cells_one hv0,cells_one hv1,cells_one hv2]))
theorem o84:(opV Pg (Instr.buildSlice 22 0 #[]) QP w k=k (.slice (some ⟨w.heap.size,0,none⟩) 0 0) (w.alloc (.cells #[] 32))):=(by exact op_buildSlice Tryz.underlying22 ty32 (by decide) (base := #[]) (by kernel_rfl) (by simp [Instr.fill,cells_agg]))
theorem o85:(∀ v0_0 v0_1:Value,opV Pg (Instr.buildSlice 22 1 #[(0,(.agg #[v0_0,v0_1]))]) QP w k=k (.slice (some ⟨w.heap.size,0,none⟩) 1 1) (w.alloc (.cells #[v0_0,v0_1] 32))):=(by intro v0_0 v0_1;exact op_buildSlice Tryz.underlying22 ty32 (by decide) (base := #[.string ByteArray.empty,.int .i64 0]) (by kernel_rfl) (by simp [Instr.fill,cells_agg]))
theorem o86:(∀ v0_0 v0_1 v1_0 v1_1:Value,opV Pg (Instr.buildSlice 22 2 #[(0,(.agg #[v0_0,v0_1])),(1,(.agg #[v1_0,v1_1]))]) QP w k=k (.slice (some ⟨w.heap.size,0,none⟩) 2 2) (w.alloc (.cells #[v0_0,v0_1,v1_0,v1_1] 32))):=(by intro v0_0 v0_1 v1_0 v1_1;exact op_buildSlice Tryz.underlying22 ty32 (by decide) (base := #[.string ByteArray.empty,.int .i64 0,.string ByteArray.empty,.int .i64 0]) (by kernel_rfl) (by simp [Instr.fill,cells_agg]))
theorem o87:(∀ v0_0 v0_1:Value,opV Pg (Instr.buildSlice 34 1 #[(0,(.agg #[v0_0,v0_1]))]) QP w k=k (.slice (some ⟨w.heap.size,0,none⟩) 1 1) (w.alloc (.cells #[v0_0,v0_1] 78))):=(by intro v0_0 v0_1;exact op_buildSlice Tryz.underlying34 ty78 (by decide) (base := #[.string ByteArray.empty,.int .i64 0]) (by kernel_rfl) (by simp [Instr.fill,cells_agg]))
theorem o88:(∀ v0_0 v0_1 v1_0 v1_1:Value,opV Pg (Instr.buildSlice 34 2 #[(0,(.agg #[v0_0,v0_1])),(1,(.agg #[v1_0,v1_1]))]) QP w k=k (.slice (some ⟨w.heap.size,0,none⟩) 2 2) (w.alloc (.cells #[v0_0,v0_1,v1_0,v1_1] 78))):=(by intro v0_0 v0_1 v1_0 v1_1;exact op_buildSlice Tryz.underlying34 ty78 (by decide) (base := #[.string ByteArray.empty,.int .i64 0,.string ByteArray.empty,.int .i64 0]) (by kernel_rfl) (by simp [Instr.fill,cells_agg]))
theorem o89:(∀ v0_0 v0_1:Value,opV Pg (Instr.buildSlice 36 1 #[(0,(.agg #[v0_0,v0_1]))]) QP w k=k (.slice (some ⟨w.heap.size,0,none⟩) 1 1) (w.alloc (.cells #[v0_0,v0_1] 89))):=(by intro v0_0 v0_1;exact op_buildSlice Tryz.underlying36 ty89 (by decide) (base := #[.string ByteArray.empty,.int .i64 0]) (by kernel_rfl) (by simp [Instr.fill,cells_agg]))
theorem o90:(∀ v0_0 v0_1 v0_2:Value,opV Pg (Instr.buildSlice 47 1 #[(0,(.agg #[v0_0,v0_1,v0_2]))]) QP w k=k (.slice (some ⟨w.heap.size,0,none⟩) 1 1) (w.alloc (.cells #[v0_0,v0_1,v0_2] 95))):=(by intro v0_0 v0_1 v0_2;exact op_buildSlice Tryz.underlying47 ty95 (by decide) (base := #[.string ByteArray.empty,.int .i64 0,.int .i64 0]) (by kernel_rfl) (by simp [Instr.fill,cells_agg]))
theorem o92:(∀ v0 v1:Value,v0.oneCell'=true→v1.oneCell'=true→opV Pg (Instr.buildSlice 116 2 #[(0,v0),(1,v1)]) QP w k=k (.slice (some ⟨w.heap.size,0,none⟩) 2 2) (w.alloc (.cells #[v0,v1] 4))):=(by intro v0 v1 hv0 hv1;exact op_buildSlice Tryz.underlying116 ty4 (by decide) (base := #[.bool false,.bool false]) (by kernel_rfl) (by simp [Instr.fill,cells_agg,cells_one hv0,cells_one hv1]))
theorem o93:(∀ v0 v1 v2:Value,v0.oneCell'=true→v1.oneCell'=true→v2.oneCell'=true→opV Pg (Instr.buildSlice 116 3 #[(0,v0),(1,v1),(2,v2)]) QP w k=k (.slice (some ⟨w.heap.size,0,none⟩) 3 3) (w.alloc (.cells #[v0,v1,v2] 4))):=(by intro v0 v1 v2 hv0 hv1 hv2;exact op_buildSlice Tryz.underlying116 ty4 (by decide) (base := #[.bool false,.bool false,.bool false]) (by kernel_rfl) (by simp [Instr.fill,cells_agg,cells_one hv0,cells_one hv1,cells_one hv2]))
theorem o94:(∀ v0 v1:Value,v0.oneCell'=true→v1.oneCell'=true→opV Pg (Instr.buildSlice 127 2 #[(0,v0),(1,v1)]) QP w k=k (.slice (some ⟨w.heap.size,0,none⟩) 2 2) (w.alloc (.cells #[v0,v1] 22))):=(by intro v0 v1 hv0 hv1;exact op_buildSlice Tryz.underlying127 ty22 (by decide) (base := #[.slice none 0 0,.slice none 0 0]) (by kernel_rfl) (by simp [Instr.fill,cells_agg,cells_one hv0,cells_one hv1]))
theorem o95:(∀ v0:Value,v0.oneCell'=true→opV Pg (Instr.buildSlice 129 1 #[(0,v0)]) QP w k=k (.slice (some ⟨w.heap.size,0,none⟩) 1 1) (w.alloc (.cells #[v0] 9))):=(by intro v0 hv0;exact op_buildSlice Tryz.underlying129 ty9 (by decide) (base := #[.string ByteArray.empty]) (by kernel_rfl) (by simp [Instr.fill,cells_agg,cells_one hv0]))
theorem o96:(∀ v0 v1:Value,v0.oneCell'=true→v1.oneCell'=true→opV Pg (Instr.buildSlice 132 2 #[(0,v0),(1,v1)]) QP w k=k (.slice (some ⟨w.heap.size,0,none⟩) 2 2) (w.alloc (.cells #[v0,v1] 39))):=(by intro v0 v1 hv0 hv1;exact op_buildSlice Tryz.underlying132 ty39 (by decide) (base := #[.int .i64 0,.int .i64 0]) (by kernel_rfl) (by simp [Instr.fill,cells_agg,cells_one hv0,cells_one hv1]))
theorem o117:(∀ c A n m,opV Pg (binS .eql 22 c (.slice A n m) (.slice none 0 0)) QP w k=k (.bool A.isNone) w):=(op_eqNilS Tryz.underlying22)
theorem o121:(∀ c (a0 b0:ByteArray) (a1 b1:Int),opV Pg (binS .neq 32 c (.agg #[.string a0,.int .i64 a1]) (.agg #[.string b0,.int .i64 b1])) QP w k=k (.bool (!(decide (a0=b0)&&(decide (a1=b1)&&true)))) w):=(by intro c a0 b0 a1 b1;exact op_aggNe (by kernel_rfl) (fun w=>eq32 a0 b0 a1 b1) c)
theorem o122:(∀ c (a0 b0:Int) (a1 b1:Int),opV Pg (binS .eql 51 c (.agg #[.int .i64 a0,.int .i64 a1]) (.agg #[.int .i64 b0,.int .i64 b1])) QP w k=k (.bool (decide (a0=b0)&&(decide (a1=b1)&&true))) w):=(by intro c a0 b0 a1 b1;exact op_aggEq (by kernel_rfl) (fun w=>eq51 a0 b0 a1 b1) c)
theorem o123:(∀ c (a0 b0:Int) (a1 b1:Int),opV Pg (binS .neq 51 c (.agg #[.int .i64 a0,.int .i64 a1]) (.agg #[.int .i64 b0,.int .i64 b1])) QP w k=k (.bool (!(decide (a0=b0)&&(decide (a1=b1)&&true)))) w):=(by intro c a0 b0 a1 b1;exact op_aggNe (by kernel_rfl) (fun w=>eq51 a0 b0 a1 b1) c)
theorem o124:(∀ d v,opV Pg (binS .neq 107 true (.iface d v) .nilIface) QP w k=k (.bool true) w):=(op_neqNil_some Tryz.underlying107)
theorem o125:(opV Pg (binS .neq 107 true .nilIface .nilIface) QP w k=k (.bool false) w):=(op_neqNil_none Tryz.underlying107)
end
theorem qV_two {P:Program} {C:World→Prop} [ClassNe C] {k:Value→Prop} {s:Nat→Nat→Sem Value} {v:Nat→Nat→Value} (h:∀ QP w k b o,opV P (s b o) QP w k=k (v b o) w) (b o:Nat):qV P C (s b o) k=k (v b o):=qV_of fun QP w k=>h QP w k b o
def OPU0 {QP:List PanicEntry→World→Prop} {w:World} {ku:World→Prop}:=And.intro (op_storeC (QP:=QP) (w:=w) (ku:=ku) ty3)<|And.intro (op_storeC (QP:=QP) (w:=w) (ku:=ku) ty4)<|And.intro (op_storeC (QP:=QP) (w:=w) (ku:=ku) ty9)<|And.intro (op_storeC (QP:=QP) (w:=w) (ku:=ku) ty22)<|And.intro (op_storeC (QP:=QP) (w:=w) (ku:=ku) ty39)<|And.intro (op_storeC (QP:=QP) (w:=w) (ku:=ku) ty84)<|(op_storeC (QP:=QP) (w:=w) (ku:=ku) ty129)
def OPA0 {QP:List PanicEntry→World→Prop} {w:World} {ku:World→Prop}:=And.intro ((by intro b o v0 v1 h0 h1;exact op_storeA ty24 b o _ rfl (by intro v hv;simp only [List.mem_cons,List.not_mem_nil,or_false] at hv;rcases hv with rfl | rfl<;>assumption) _ rfl _ rfl):(∀ b o v0 v1,v0.oneCell'=true→v1.oneCell'=true→opU Pg (Instr.storeAt 24 (.pointer (some ⟨b,o,none⟩)) (.agg #[v0,v1])) QP w ku=onCells [w.cell? ⟨b,o,none⟩,w.cell? ⟨b,o+1,none⟩] (fun _=>onFree [w.frozen? ⟨b,o,none⟩,w.frozen? ⟨b,o+1,none⟩] (ku ((w.setCell ⟨b,o,none⟩ v0).setCell ⟨b,o+1,none⟩ v1)) (opUx Pg (Instr.storeAt 24 (.pointer (some ⟨b,o,none⟩)) (.agg #[v0,v1])) QP w ku)) (opUx Pg (Instr.storeAt 24 (.pointer (some ⟨b,o,none⟩)) (.agg #[v0,v1])) QP w ku)))<|And.intro ((by intro b o v0 v1 h0 h1;exact op_storeA ty32 b o _ rfl (by intro v hv;simp only [List.mem_cons,List.not_mem_nil,or_false] at hv;rcases hv with rfl | rfl<;>assumption) _ rfl _ rfl):(∀ b o v0 v1,v0.oneCell'=true→v1.oneCell'=true→opU Pg (Instr.storeAt 32 (.pointer (some ⟨b,o,none⟩)) (.agg #[v0,v1])) QP w ku=onCells [w.cell? ⟨b,o,none⟩,w.cell? ⟨b,o+1,none⟩] (fun _=>onFree [w.frozen? ⟨b,o,none⟩,w.frozen? ⟨b,o+1,none⟩] (ku ((w.setCell ⟨b,o,none⟩ v0).setCell ⟨b,o+1,none⟩ v1)) (opUx Pg (Instr.storeAt 32 (.pointer (some ⟨b,o,none⟩)) (.agg #[v0,v1])) QP w ku)) (opUx Pg (Instr.storeAt 32 (.pointer (some ⟨b,o,none⟩)) (.agg #[v0,v1])) QP w ku)))<|And.intro ((by intro b o v0 v1 h0 h1;exact op_storeA ty51 b o _ rfl (by intro v hv;simp only [List.mem_cons,List.not_mem_nil,or_false] at hv;rcases hv with rfl | rfl<;>assumption) _ rfl _ rfl):(∀ b o v0 v1,v0.oneCell'=true→v1.oneCell'=true→opU Pg (Instr.storeAt 51 (.pointer (some ⟨b,o,none⟩)) (.agg #[v0,v1])) QP w ku=onCells [w.cell? ⟨b,o,none⟩,w.cell? ⟨b,o+1,none⟩] (fun _=>onFree [w.frozen? ⟨b,o,none⟩,w.frozen? ⟨b,o+1,none⟩] (ku ((w.setCell ⟨b,o,none⟩ v0).setCell ⟨b,o+1,none⟩ v1)) (opUx Pg (Instr.storeAt 51 (.pointer (some ⟨b,o,none⟩)) (.agg #[v0,v1])) QP w ku)) (opUx Pg (Instr.storeAt 51 (.pointer (some ⟨b,o,none⟩)) (.agg #[v0,v1])) QP w ku)))<|((by intro b o v0 v1 v2 h0 h1 h2;exact op_storeA ty95 b o _ rfl (by intro v hv;simp only [List.mem_cons,List.not_mem_nil,or_false] at hv;rcases hv with rfl | rfl | rfl<;>assumption) _ rfl _ rfl):(∀ b o v0 v1 v2,v0.oneCell'=true→v1.oneCell'=true→v2.oneCell'=true→opU Pg (Instr.storeAt 95 (.pointer (some ⟨b,o,none⟩)) (.agg #[v0,v1,v2])) QP w ku=onCells [w.cell? ⟨b,o,none⟩,w.cell? ⟨b,o+1,none⟩,w.cell? ⟨b,o+2,none⟩] (fun _=>onFree [w.frozen? ⟨b,o,none⟩,w.frozen? ⟨b,o+1,none⟩,w.frozen? ⟨b,o+2,none⟩] (ku (((w.setCell ⟨b,o,none⟩ v0).setCell ⟨b,o+1,none⟩ v1).setCell ⟨b,o+2,none⟩ v2)) (opUx Pg (Instr.storeAt 95 (.pointer (some ⟨b,o,none⟩)) (.agg #[v0,v1,v2])) QP w ku)) (opUx Pg (Instr.storeAt 95 (.pointer (some ⟨b,o,none⟩)) (.agg #[v0,v1,v2])) QP w ku)))
section
def OPW0 {w:World} {k:Value→Prop}:=And.intro (qV_loadC (w:=w) (k:=k) ty3)<|And.intro (qV_loadKB (w:=w) (k:=k) ty3)<|And.intro (qV_loadC (w:=w) (k:=k) ty9)<|And.intro (qV_loadKB (w:=w) (k:=k) ty9)<|And.intro (qV_loadC (w:=w) (k:=k) ty22)<|And.intro (qV_loadKB (w:=w) (k:=k) ty22)<|And.intro ((by intro b o;exact qV_loadA ty24 b o _ rfl):(∀ b o,qV Pg (EC w) (Instr.loadAt 24 (.pointer (some ⟨b,o,none⟩))) k=onCells [w.cell? ⟨b,o,none⟩,w.cell? ⟨b,o+1,none⟩] (fun vs=>k (.agg vs.toArray)) (qVx Pg (EC w) (Instr.loadAt 24 (.pointer (some ⟨b,o,none⟩))) k)))<|And.intro ((by intro b o;exact qV_loadA ty32 b o _ rfl):(∀ b o,qV Pg (EC w) (Instr.loadAt 32 (.pointer (some ⟨b,o,none⟩))) k=onCells [w.cell? ⟨b,o,none⟩,w.cell? ⟨b,o+1,none⟩] (fun vs=>k (.agg vs.toArray)) (qVx Pg (EC w) (Instr.loadAt 32 (.pointer (some ⟨b,o,none⟩))) k)))<|And.intro ((by intro b o;exact qV_loadA ty51 b o _ rfl):(∀ b o,qV Pg (EC w) (Instr.loadAt 51 (.pointer (some ⟨b,o,none⟩))) k=onCells [w.cell? ⟨b,o,none⟩,w.cell? ⟨b,o+1,none⟩] (fun vs=>k (.agg vs.toArray)) (qVx Pg (EC w) (Instr.loadAt 51 (.pointer (some ⟨b,o,none⟩))) k)))<|And.intro (qW_loadC (w:=w) (k:=k) ty4)<|((by intro b o;exact qW_loadA ty24 b o _ rfl):(∀ b o,qW Pg 24 (.pointer (some ⟨b,o,none⟩)) w k=onCells [w.cell? ⟨b,o,none⟩,w.cell? ⟨b,o+1,none⟩] (fun vs=>k (.agg vs.toArray)) (qWx Pg 24 (.pointer (some ⟨b,o,none⟩)) w k)))
def OPW1 {w:World} {k:Value→Prop}:=And.intro (qW_loadC (w:=w) (k:=k) ty39)<|((by intro b o;exact qW_loadA ty51 b o _ rfl):(∀ b o,qW Pg 51 (.pointer (some ⟨b,o,none⟩)) w k=onCells [w.cell? ⟨b,o,none⟩,w.cell? ⟨b,o+1,none⟩] (fun vs=>k (.agg vs.toArray)) (qWx Pg 51 (.pointer (some ⟨b,o,none⟩)) w k)))
def OPQ0 {C:World→Prop} [ClassNe C] {k:Value→Prop}:=And.intro ((by intros;apply qV_of;intros;apply o10<;>assumption):(∀ r a n c,qV Pg C (Builtin.len_ #[22] r #[.slice a n c]) k=k (.int .i64 (n:Int))))<|And.intro ((by intros;apply qV_of;intros;apply o11<;>assumption):(∀ b o len cap ik (i:Nat),i < len→qV Pg C (Instr.indexAt 22 (.slice (some ⟨b,o,none⟩) len cap) (.int ik (i:Int))) k=k (.pointer (some ⟨b,o+i*2,none⟩))))<|And.intro (qV_two (C:=C) (k:=k) fun QP w k => @o13 QP w k)<|And.intro (qV_two (C:=C) (k:=k) fun QP w k => @o14 QP w k)<|And.intro (qV_two (C:=C) (k:=k) fun QP w k => @o17 QP w k)<|And.intro (qV_two (C:=C) (k:=k) fun QP w k => @o18 QP w k)<|And.intro ((by intros;apply qV_of;intros;apply o22<;>assumption):(∀ b o len cap ik (i:Nat),i < len→qV Pg C (Instr.indexAt 34 (.slice (some ⟨b,o,none⟩) len cap) (.int ik (i:Int))) k=k (.pointer (some ⟨b,o+i*2,none⟩))))<|And.intro ((by intros;apply qV_of;intros;apply o25<;>assumption):(∀ b o len cap ik (i:Nat),i < len→qV Pg C (Instr.indexAt 36 (.slice (some ⟨b,o,none⟩) len cap) (.int ik (i:Int))) k=k (.pointer (some ⟨b,o+i*2,none⟩))))<|And.intro ((by intros;apply qV_of;intros;apply o29<;>assumption):(∀ b o len cap ik (i:Nat),i < len→qV Pg C (Instr.indexAt 45 (.slice (some ⟨b,o,none⟩) len cap) (.int ik (i:Int))) k=k (.pointer (some ⟨b,o+i*3,none⟩))))<|And.intro ((by intros;apply qV_of;intros;apply o32<;>assumption):(∀ b o len cap ik (i:Nat),i < len→qV Pg C (Instr.indexAt 47 (.slice (some ⟨b,o,none⟩) len cap) (.int ik (i:Int))) k=k (.pointer (some ⟨b,o+i*3,none⟩))))<|And.intro (qV_two (C:=C) (k:=k) fun QP w k => @o33 QP w k)<|And.intro (qV_two (C:=C) (k:=k) fun QP w k => @o34 QP w k)<|And.intro (qV_two (C:=C) (k:=k) fun QP w k => @o40 QP w k)<|And.intro (qV_two (C:=C) (k:=k) fun QP w k => @o41 QP w k)<|And.intro (qV_two (C:=C) (k:=k) fun QP w k => @o42 QP w k)<|And.intro (qV_two (C:=C) (k:=k) fun QP w k => @o43 QP w k)<|And.intro (qV_two (C:=C) (k:=k) fun QP w k => @o50 QP w k)<|And.intro (qV_two (C:=C) (k:=k) fun QP w k => @o52 QP w k)<|(qV_two (C:=C) (k:=k) fun QP w k => @o53 QP w k)
def OPQ1 {C:World→Prop} [ClassNe C] {k:Value→Prop}:=And.intro ((by intros;apply qV_of;intros;apply o73<;>assumption):(∀ v0 v1:Value,v0.oneCell'=true→v1.oneCell'=true→qV Pg C (Instr.build 24 #[(0,v0),(1,v1)]) k=k (.agg #[v0,v1])))<|And.intro ((by intros;apply qV_of;intros;apply o80<;>assumption):(∀ v0 v1:Value,v0.oneCell'=true→v1.oneCell'=true→qV Pg C (Instr.build 89 #[(0,v0),(1,v1)]) k=k (.agg #[v0,v1])))<|And.intro ((by intros;apply qV_of;intros;apply o81<;>assumption):(∀ v0 v1 v2:Value,v0.oneCell'=true→v1.oneCell'=true→v2.oneCell'=true→qV Pg C (Instr.build 95 #[(0,v0),(1,v1),(2,v2)]) k=k (.agg #[v0,v1,v2])))<|((by intros;apply qV_of;intros;apply o121<;>assumption):(∀ c (a0 b0:ByteArray) (a1 b1:Int),qV Pg C (binS .neq 32 c (.agg #[.string a0,.int .i64 a1]) (.agg #[.string b0,.int .i64 b1])) k=k (.bool (!(decide (a0=b0)&&(decide (a1=b1)&&true))))))
end
def PR:=And.intro @GEN<|And.intro @op_makeMap<|And.intro @CTL<|And.intro @GENQ<|And.intro @o0<|And.intro @o1<|And.intro @o2<|And.intro @o3<|And.intro @o5<|And.intro @o6<|And.intro @o7<|And.intro @o8<|And.intro @o9<|And.intro @o10<|And.intro @o11<|And.intro @o12<|And.intro @o13<|And.intro @o14<|And.intro @o15<|And.intro @o16<|And.intro @o17<|And.intro @o18<|And.intro @o19<|And.intro @o20<|And.intro @o21<|And.intro @o23<|And.intro @o24<|And.intro @o25<|And.intro @o26<|And.intro @o27<|And.intro @o28<|And.intro @o29<|And.intro @o30<|And.intro @o31<|And.intro @o32<|And.intro @o33<|And.intro @o34<|And.intro @o35<|And.intro @o36<|And.intro @o37<|And.intro @o38<|And.intro @o39<|And.intro @o40<|And.intro @o44<|And.intro @o45<|And.intro @o46<|And.intro @o47<|And.intro @o48<|And.intro @o49<|And.intro @o50<|And.intro @o51<|And.intro @o52<|And.intro @o53<|And.intro @o54<|And.intro @o55<|And.intro @o56<|And.intro @o58<|And.intro @o59<|And.intro @o60<|And.intro @o61<|And.intro @o62<|And.intro @o63<|And.intro @o64<|And.intro @o65<|And.intro @o66<|And.intro @o71<|And.intro @o72<|And.intro @o73<|And.intro @o74<|And.intro @o75<|And.intro @o76<|And.intro @o77<|And.intro @o78<|And.intro @o79<|And.intro @o84<|And.intro @o85<|And.intro @o86<|And.intro @o87<|And.intro @o88<|And.intro @o89<|And.intro @o90<|And.intro @o92<|And.intro @o93<|And.intro @o94<|And.intro @o95<|And.intro @o96<|And.intro @o117<|And.intro @o122<|And.intro @o123<|And.intro @o124<|And.intro @o125<|And.intro @OPU0<|And.intro @OPW0<|And.intro @OPW1<|And.intro @OPQ0<|And.intro @OPQ1<|And.intro @joinK_eq<|And.intro @op_rem<|And.intro @guard_undef <| @op_shl
def QR:=And.intro @OPA0<|And.intro @dirty_eq<|And.intro @onCells_nil<|And.intro @onCells_some<|And.intro @onFree_nil<|And.intro @onFree_false<|And.intro @guard_or<|And.intro @guard_and<|And.intro @STD<|And.intro @heap_newE<|And.intro @heap_oldE<|And.intro @heap_setE<|And.intro @cell_newE<|And.intro @frozen_newE<|And.intro @set_newE<|And.intro @cell_old<|And.intro @frozen_old<|And.intro @set_old<|And.intro @wrap_succ<|And.intro @List.setIfInBounds_toArray.{0}<|And.intro @List.set_cons_zero.{0}<|And.intro @List.set_cons_succ.{0}<|And.intro @decide_true<|And.intro @decide_false<|And.intro @Bool.false_eq_true<|And.intro @Option.isSome_some.{0}<|And.intro @Option.isSome_none.{0}<|And.intro @Option.getD_some.{0}<|And.intro @Option.getD_none.{0}<|And.intro @cell_set_map<|And.intro @cell_set_other<|And.intro @Option.map_some.{0,0}<|And.intro @List.getElem?_toArray.{0}<|And.intro @List.getElem?_cons_succ.{0}<|And.intro @List.getElem?_cons_zero.{0}<|And.intro @Nat.zero_add<|And.intro @World.size_alloc<|And.intro @World.size_setCell<|And.intro @World.size_drew<|And.intro @Bool.not_true<|And.intro @Bool.not_false<|And.intro @Bool.and_true<|And.intro @Bool.true_and<|And.intro @Bool.and_false<|And.intro @Bool.false_and<|And.intro @Bool.or_true<|And.intro @Bool.true_or<|And.intro @Bool.or_false <| @Bool.false_or
theorem SZ:type_of% (And.intro @World.size_alloc<|And.intro @World.size_setCell<|And.intro @World.size_drew<|And.intro @World.putObj_size <| @putW_size):=(And.intro @World.size_alloc<|And.intro @World.size_setCell<|And.intro @World.size_drew<|And.intro @World.putObj_size <| @putW_size)
theorem DI {p:Prop} (h:p:=by first | assumption | (simp only [ONE];done) | rfl | (simp only [SZ];done) | omega | (simp only [SZ] at *;omega)):p:=h
theorem ee {a b:World} (h:Ext a b:=by repeat' first | exact Ext.refl _ | assumption | apply Ext.alloc | apply Ext.wdrew | apply Ext.drew | (refine Ext.setCell ?_ (by first | omega | (simp only [SZ] at *;omega)) _) | (refine Ext.putObj ?_ (by first | omega | (simp only [SZ] at *;omega)) _) | (refine Ext.trans ?_ (by assumption))):Ext a b:=h
structure TermD where
 field:ByteArray
 factor:Int
 deriving DecidableEq
structure CaseD where
 low:Int
 high:Int
 of:ByteArray
 deriving DecidableEq
structure FieldD where
 name:ByteArray
 kind:Int
 bits:Int
 little:Bool
 loose:Bool
 low:Int
 high:Int
 base:Int
 terms:List TermD
 of:ByteArray
 tag:ByteArray
 fr:ByteArray
 cases:List CaseD
 check:Int
 key:Int
 deriving DecidableEq
structure MsgD where
 name:ByteArray
 fields:List FieldD
 deriving DecidableEq
structure DefD where
 name:ByteArray
 msgs:List MsgD
 start:ByteArray
 deriving DecidableEq
abbrev termCells (t:TermD):List Value:=[.string t.field,.int .i64 t.factor]
def ETerm (_:World) (cs:List Value) (t:TermD):Prop:=cs=termCells t
def TermsOf (w:World) (v:Value) (l:List TermD):Prop:=SliceOf w 2 ETerm v l
def EByte (_:World) (cs:List Value) (b:UInt8):Prop:=cs=[.int .u8 b.toNat]
def EBool (_:World) (cs:List Value) (b:Bool):Prop:=cs=[.bool b]
def EStr (_:World) (cs:List Value) (s:ByteArray):Prop:=cs=[.string s]
def EInt (_:World) (cs:List Value) (n:Int):Prop:=cs=[.int .i64 n]
theorem keptTerm:Kept ETerm:=fun _ _ _ _ _ h=>h
theorem TermsOf.ext {w w':World} {v:Value} {l:List TermD} (h:TermsOf w v l) (e:Ext w w'):TermsOf w' v l:=SliceOf.ext keptTerm h e
def SizeVal (w:World) (v:Value) (base:Int) (ts:List TermD):Prop:=∃ tv,v = .agg #[.int .i64 base,tv]∧TermsOf w tv ts
def termVal (t:TermD):Value := .agg (termCells t).toArray
theorem SizeVal.ext {w w':World} {v:Value} {b:Int} {ts:List TermD} (h:SizeVal w v b ts) (e:Ext w w'):SizeVal w' v b ts:=by obtain ⟨fv,h,h1⟩:=h;exact ⟨fv,h,h1.ext e⟩
def Tests {α:Type} (w0:World) (V:World→Value→α→Prop) (g:FuncId) (caps:Array Value) (p:α→Bool) (l:List α):Prop :=
 ∀ w v x,x∈l→Ext w0 w→V w v x→Ret Pg g (#[v]++caps) w fun r w'=>r = .bool (p x)∧Ext w w'
end Go.Proofs.YtpgkjhikdhdffaaGreatDoor
namespace Go.Sw
section
variable {P:Program} {N:Nat} {ro:Option Nat} {QP:KP} {T:Env→List Deferred→World→Prop} {o:Oper} {rest:List Oper} {ρ:Env} {ds:List Deferred} {w:World}
theorem zm {v:Value} (h:denSeq P N ro QP T rest (put N ρ o.dst v) ds w) (hs:execOp (ev ρ) o=Sem.pure (.value v):=by exact rfl) (hd:isDefer o.op=false:=by exact rfl):denSeq P N ro QP T (o::rest) ρ ds w:=sim_move hd hs h
theorem zt {S:List Nat} {J G:Env→World→Prop} (hT:∀ ρ' w,Fr S ρ ρ'→J ρ' w→G ρ' w) {ρ':Env} {w:World} (h:J ρ' w) (hf:Fr S ρ ρ':=by repeat (first | exact Fr.refl _ _ | refine Fr.put rfl ?_ | refine Fr.put_none ?_ | refine Fr.mix rfl ?_ | refine Fr.skipAll rfl ?_)):G ρ' w:=hT ρ' w hf h
end
theorem zr {P:Program} {N:Nat} {ro:Option Nat} {id:Nat} {l:List Oper} {Q:K} {QP:KP} {ρ:Env} {ds:List Deferred} {w:World} (h:denSeq P N ro QP (fun ρ ds w=>Q .normal ρ ds w) l ρ ds w) (hu:unguarded l=true:=by exact rfl):den P N ro (.region id l.toArray false) Q QP ρ ds w:=sim_region hu h
theorem zn:type_of% @sim_nil := @sim_nil
theorem zk:type_of% @sim_then := @sim_then
theorem zs:type_of% @sim_seq := @sim_seq
end Go.Sw
namespace Go.Sw
open Go.RowKit (Below)
structure LW (B:Nat) (w w':World):Prop where
 os:w'.os=w.os
 tape:w'.tape=w.tape
 output:w'.output=w.output
 size:w.heap.size≤w'.heap.size
 block:∀ b,b < w.heap.size→w'.heap[b]?=w.heap[b]?∨(B≤b∧((∃ r,w.heap[b]?=some (.loop r))∨∃ d,w.heap[b]?=some (.deferred d)))
def KR (B:Nat) (w w':World):Prop:=w.heap.size≤w'.heap.size∧(∀ (b:Nat) (r:Loop),w.heap[b]?=some (.loop r)→∃ st p,w'.heap[b]?=some (.loop { r with state:=st,pending:=p })) ∧
 (∀ (b:Nat),w.heap[b]?=some (.deferred (some []))→w'.heap[b]?=some (.deferred (some [])))∧∀ (b:Nat),B≤b→b < w.heap.size→(∀ r,w.heap[b]?≠some (.loop r))→w'.heap[b]?=w.heap[b]?
section
variable {B:Nat} {w w1 w2:World}
theorem KR.refl (B:Nat) (w:World):KR B w w:=⟨Nat.le_refl _,fun b r h=>⟨r.state,r.pending,h⟩,fun _ h=>h,fun _ _ _ _=>rfl⟩
theorem KR.of (e:Ext w w1):KR B w w1:=⟨e.size,fun b r h=>⟨r.state,r.pending,e.obj h⟩,fun _ h=>e.obj h,fun b _ hl _=>e.block b hl⟩
theorem KR.turn {l:Nat} {r:Loop} (hl:w.heap[l]?=some (.loop r)) (st:LoopState) (p:Option Code):KR B w (w.putObj l (.loop { r with state:=st,pending:=p })):=⟨by simp,fun b r' hb=>by
 by_cases e:b=l
 · subst e
   rw [hl] at hb;injection hb with hb;injection hb with hb;subst hb
   exact ⟨st,p,World.putObj_heap_same (Array.getElem?_eq_some_iff.1 hl).1⟩
 · rw [World.putObj_heap_other e];exact ⟨r'.state,r'.pending,hb⟩,fun b hb=>by
 by_cases e:b=l
 · subst e;rw [hl] at hb;cases hb
 · rw [World.putObj_heap_other e];exact hb,fun b _ _ hr=>by
 by_cases e:b=l
 · subst e;exact absurd hl (hr _)
 · rw [World.putObj_heap_other e]⟩
end
section
variable {P:Program} {QP:List PanicEntry→World→Prop} {w:World} {k:Value→World→Prop}
theorem op_quo (t:TypeId) (c:Bool) (kd:IntKind) (a b:Int) (hb:b≠0):opV P (binS .quo t c (.int kd a) (.int kd b)) QP w k=k (.int kd (kd.wrap (a.tdiv b))) w:=opV_ok (by
 rw [run_bin_int _ _ _ _ _ _ rfl]
 show Sem.run P (Op.intDiv .quo kd a b) w=_
 unfold Op.intDiv
 rw [if_neg hb];rfl)
end
end Go.Sw
namespace Go.Sw
section
variable {P:Program} {N:Nat} {ro:Option Nat} {QP:KP} {T:Env→List Deferred→World→Prop} {o:Oper} {rest:List Oper} {ρ:Env} {ds:List Deferred} {w:World} {ty:TypeId} {dst:Option Nat} {d:Nat} {pos:String} {after:Array Edge} {g:Option (Nat×Bool)} {QP':List PanicEntry→World→Prop} {k:Value→World→Prop}
theorem yv {s:Sem Value} (h:opV P s QP' w k) (hk:∀ v w,k v w→denSeq P N ro QP T rest (put N ρ o.dst v) ds w) (hs:execOp (ev ρ) o=(do pure (.value (← s))):=by exact rfl) (hd:isDefer o.op=false:=by exact rfl) (hp:∀ ch w,QP' ch w→QP ch ρ ds w:=by first | exact fun _ _ h=>⟨rfl,h⟩ | exact fun _ _ h=>outQ_of rfl h | exact fun _ _ h _ _=>⟨rfl,h⟩ | exact fun _ _ h=>outQ_ofD rfl rfl h | exact fun _ _ h=>h):denSeq P N ro QP T (o::rest) ρ ds w:=sim_val h hd hs hp hk
theorem yu {s:Sem Unit} {k:World→Prop} (h:opU P s QP' w k) (hk:∀ w,k w→denSeq P N ro QP T rest (put N ρ o.dst undef) ds w) (hs:execOp (ev ρ) o=(do s;pure .skip):=by exact rfl) (hd:isDefer o.op=false:=by exact rfl) (hp:∀ ch w,QP' ch w→QP ch ρ ds w:=by first | exact fun _ _ h=>⟨rfl,h⟩ | exact fun _ _ h=>outQ_of rfl h | exact fun _ _ h _ _=>⟨rfl,h⟩ | exact fun _ _ h=>outQ_ofD rfl rfl h | exact fun _ _ h=>h):denSeq P N ro QP T (o::rest) ρ ds w:=sim_unit h hd hs hp hk
theorem yb {op:BinOp} {t:TypeId} {x y:Operand} {t2:TypeId} {c:Bool} {a b:Value} (h:opV P (binS op t c a b) QP' w k) (hk:∀ v w',k v w'→denSeq P N ro QP T rest (put N ρ (some d) v) ds w') (hc:(isConst x||isConst y)=c:=by exact rfl) (h1:ev ρ x=a:=by exact rfl) (h2:ev ρ y=b:=by exact rfl) (hp:∀ ch w,QP' ch w→QP ch ρ ds w:=by first | exact fun _ _ h=>⟨rfl,h⟩ | exact fun _ _ h=>outQ_of rfl h | exact fun _ _ h _ _=>⟨rfl,h⟩ | exact fun _ _ h=>outQ_ofD rfl rfl h | exact fun _ _ h=>h) :
 denSeq P N ro QP T (⟨some d,.binOp op t x y t2,ty,pos,after,g⟩::rest) ρ ds w:=sim_bin h hc h1 h2 hp hk
theorem yc {f:FuncId} {l:List Operand} {ats:Array TypeId} {args:List Value} (h:callK P f args.toArray QP' w k) (hf:Callable P f) (hk:∀ v w',k v w'→denSeq P N ro QP T rest (put N ρ dst v) ds w') (h2:l.map (ev ρ)=args:=by exact rfl) (hp:∀ ch w,QP' ch w→QP ch ρ ds w:=by first | exact fun _ _ h=>⟨rfl,h⟩ | exact fun _ _ h=>outQ_of rfl h | exact fun _ _ h _ _=>⟨rfl,h⟩ | exact fun _ _ h=>outQ_ofD rfl rfl h | exact fun _ _ h=>h) :
 denSeq P N ro QP T (⟨dst,.call ⟨.value (.func f),l.toArray,ats⟩,ty,pos,after,g⟩::rest) ρ ds w:=sim_call h hf h2 hp hk
theorem yV {fo:Operand} {l:List Operand} {ats:Array TypeId} {fv:Value} {args:List Value} (h:callV P fv args.toArray QP' w k) (hk:∀ v w',k v w'→denSeq P N ro QP T rest (put N ρ dst v) ds w') (h1:ev ρ fo=fv:=by exact rfl) (h2:l.map (ev ρ)=args:=by exact rfl) (hp:∀ ch w,QP' ch w→QP ch ρ ds w:=by first | exact fun _ _ h=>⟨rfl,h⟩ | exact fun _ _ h=>outQ_of rfl h | exact fun _ _ h _ _=>⟨rfl,h⟩ | exact fun _ _ h=>outQ_ofD rfl rfl h | exact fun _ _ h=>h) :
 denSeq P N ro QP T (⟨dst,.call ⟨.value fo,l.toArray,ats⟩,ty,pos,after,g⟩::rest) ρ ds w:=sim_callV h h1 h2 hp hk
theorem yx {b:Builtin} {l:List Operand} {ats:Array TypeId} {s:Sem Value} (h:opV P s QP' w k) (hk:∀ v w',k v w'→denSeq P N ro QP T rest (put N ρ (some d) v) ds w') (hs:builtin b ats ty ((l.map fun | .const _=>true | _=>false).toArray) (l.map (ev ρ)).toArray=(do pure (.value (← s))):=by exact rfl) (hp:∀ ch w,QP' ch w→QP ch ρ ds w:=by first | exact fun _ _ h=>⟨rfl,h⟩ | exact fun _ _ h=>outQ_of rfl h | exact fun _ _ h _ _=>⟨rfl,h⟩ | exact fun _ _ h=>outQ_ofD rfl rfl h | exact fun _ _ h=>h) :
 denSeq P N ro QP T (⟨some d,.call ⟨.builtin b,l.toArray,ats⟩,ty,pos,after,g⟩::rest) ρ ds w:=sim_builtin h hs hp hk
theorem yB {t:TypeId} {ps:List (Nat×Operand)} {vs:List (Nat×Value)} (h:opV P (Instr.build t vs.toArray) QP' w k) (hk:∀ v w',k v w'→denSeq P N ro QP T rest (put N ρ (some d) v) ds w') (h2:(ps.map fun (i,x)=>(i,ev ρ x))=vs:=by exact rfl) (hp:∀ ch w,QP' ch w→QP ch ρ ds w:=by first | exact fun _ _ h=>⟨rfl,h⟩ | exact fun _ _ h=>outQ_of rfl h | exact fun _ _ h _ _=>⟨rfl,h⟩ | exact fun _ _ h=>outQ_ofD rfl rfl h | exact fun _ _ h=>h) :
 denSeq P N ro QP T (⟨some d,.build t ps.toArray,ty,pos,after,g⟩::rest) ρ ds w:=sim_build h h2 hp hk
theorem yS {t:TypeId} {n:Nat} {ps:List (Nat×Operand)} {vs:List (Nat×Value)} (h:opV P (Instr.buildSlice t n vs.toArray) QP' w k) (hk:∀ v w',k v w'→denSeq P N ro QP T rest (put N ρ (some d) v) ds w') (h2:(ps.map fun (i,x)=>(i,ev ρ x))=vs:=by exact rfl) (hp:∀ ch w,QP' ch w→QP ch ρ ds w:=by first | exact fun _ _ h=>⟨rfl,h⟩ | exact fun _ _ h=>outQ_of rfl h | exact fun _ _ h _ _=>⟨rfl,h⟩ | exact fun _ _ h=>outQ_ofD rfl rfl h | exact fun _ _ h=>h) :
 denSeq P N ro QP T (⟨some d,.buildSlice t n ps.toArray,ty,pos,after,g⟩::rest) ρ ds w:=sim_buildSlice h h2 hp hk
theorem yF {fn:Fn} {fs cs:List Operand} {vf vs:List Value} (h:opV P (Instr.makeFunc fn vf.toArray vs.toArray) QP' w k) (hk:∀ v w',k v w'→denSeq P N ro QP T rest (put N ρ (some d) v) ds w') (h1:fs.map (ev ρ)=vf:=by exact rfl) (h2:cs.map (ev ρ)=vs:=by exact rfl) (hp:∀ ch w,QP' ch w→QP ch ρ ds w:=by first | exact fun _ _ h=>⟨rfl,h⟩ | exact fun _ _ h=>outQ_of rfl h | exact fun _ _ h _ _=>⟨rfl,h⟩ | exact fun _ _ h=>outQ_ofD rfl rfl h | exact fun _ _ h=>h) :
 denSeq P N ro QP T (⟨some d,.makeFunc fn fs.toArray cs.toArray,ty,pos,after,g⟩::rest) ρ ds w:=sim_makeFunc h h1 h2 hp hk
theorem yp {c a b:Operand} {vc va vb:Value} {k:Value→Prop} (h:pickK vc va vb k) (hk:∀ v,k v→denSeq P N ro QP T rest (put N ρ (some d) v) ds w) (h1:ev ρ c=vc:=by exact rfl) (h2:ev ρ a=va:=by exact rfl) (h3:ev ρ b=vb:=by exact rfl):denSeq P N ro QP T (⟨some d,.pick c a b,ty,pos,after,g⟩::rest) ρ ds w:=sim_pick h h1 h2 h3 hk
theorem yt {S:List Nat} {J G:Env→World→Prop} {C:World→Prop} (hT:∀ ρ' w,Fr S ρ ρ'→C w→J ρ' w→G ρ' w) {ρ':Env} {w:World} (hC:C w) (h:J ρ' w) (hf:Fr S ρ ρ':=by repeat (first | exact Fr.refl _ _ | refine Fr.put rfl ?_ | refine Fr.put_none ?_ | refine Fr.mix rfl ?_ | refine Fr.skipAll rfl ?_)):G ρ' w:=hT ρ' w hf hC h
end
section
variable {P:Program} {N:Nat} {ro:Option Nat} {ops:Array Oper} {Q:Env→List Deferred→World→Prop} {QP0:List PanicEntry→List Deferred→World→Prop} {QP:KP} {C:World→Prop} {fuel:Nat} {done:List Nat} {o:Oper} {ρ:Env} {ds:List Deferred} {w:World}
theorem ye (i:Nat) {k:Value→Prop} (hC:C w) {s:Sem Value} (h:qV P C s k) (hk:∀ v,k v→denD P N ro ops Q (fun ch _ ds w=>QP0 ch ds w) C fuel (i::done) (put N ρ o.dst v) ds w) (hi:ops[i]?=some o:=by exact rfl) (hr:(readyL ops done).contains i=true:=by kernel_rfl) (hf:freeB ops done i=true:=by kernel_rfl) (hg:∀ p q,guardO ops o ρ p q=p:=by first | exact fun _ _=>rfl | exact fun _ _=>guardP_true (by assumption)) (hd:isDefer o.op=false:=by exact rfl) (hs:∀ v,(∀ w,C w→s.run P w = .ok v w)→∀ w,C w→(execOp (ev ρ) o).run P w = .ok (.value v) w:=by first | exact fun _ h=>qV_run rfl h | exact fun _ h=>qV_bin rfl rfl rfl h | exact fun _ h=>qV_builtin rfl h | exact fun _ h=>qV_build rfl h | exact fun _ h=>qV_makeFunc rfl rfl h) :
 denD P N ro ops Q (fun ch _ ds w=>QP0 ch ds w) C (fuel+1) done ρ ds w:=let ⟨v,hv,hkv⟩:=h;sim_dsilent i hC hi hr hf hg hd (hs v hv) (hk v hkv)
theorem yw (i:Nat) {v:Value} (hC:C w) (h:denD P N ro ops Q (fun ch _ ds w=>QP0 ch ds w) C fuel (i::done) (put N ρ o.dst v) ds w) (hi:ops[i]?=some o:=by exact rfl) (hr:(readyL ops done).contains i=true:=by kernel_rfl) (hf:freeB ops done i=true:=by kernel_rfl) (hg:∀ p q,guardO ops o ρ p q=p:=by first | exact fun _ _=>rfl | exact fun _ _=>guardP_true (by assumption)) (hd:isDefer o.op=false:=by exact rfl) (hs:execOp (ev ρ) o=Sem.pure (.value v):=by exact rfl) :
 denD P N ro ops Q (fun ch _ ds w=>QP0 ch ds w) C (fuel+1) done ρ ds w:=sim_dsilent i hC hi hr hf hg hd (move_run hs) h
theorem yi (i:Nat) (hC:C w) (h:denD P N ro ops Q (fun ch _ ds w=>QP0 ch ds w) C fuel (i::done) (put N ρ o.dst undef) ds w) (hi:ops[i]?=some o:=by exact rfl) (hr:(readyL ops done).contains i=true:=by kernel_rfl) (hf:freeB ops done i=true:=by kernel_rfl) (hg:∀ p q,guardO ops o ρ p q=q:=by exact fun _ _=>guardP_false (by assumption)) :
 denD P N ro ops Q (fun ch _ ds w=>QP0 ch ds w) C (fuel+1) done ρ ds w:=sim_dskip i hC hi hr hf hg h
theorem yP (i:Nat) {c a b:Operand} {d:Nat} {ty:TypeId} {pos:String} {after:Array Edge} {g:Option (Nat×Bool)} {vc va vb:Value} {k:Value→Prop} (hC:C w) (h:pickK vc va vb k) (hk:∀ v,k v→denD P N ro ops Q (fun ch _ ds w=>QP0 ch ds w) C fuel (i::done) (put N ρ (some d) v) ds w) (hi:ops[i]?=some ⟨some d,.pick c a b,ty,pos,after,g⟩:=by exact rfl) (hr:(readyL ops done).contains i=true:=by kernel_rfl) (hf:freeB ops done i=true:=by kernel_rfl) (hg:∀ p q,guardO ops ⟨some d,.pick c a b,ty,pos,after,g⟩ ρ p q=p:=by first | exact fun _ _=>rfl | exact fun _ _=>guardP_true (by assumption)) (h1:ev ρ c=vc:=by exact rfl) (h2:ev ρ a=va:=by exact rfl) (h3:ev ρ b=vb:=by exact rfl) :
 denD P N ro ops Q (fun ch _ ds w=>QP0 ch ds w) C (fuel+1) done ρ ds w:=by
 obtain ⟨t,ht,h⟩:=pickK_elim h
 exact sim_dsilent i hC hi hr hf hg rfl (pick_run (h1.trans ht) h2 h3) (hk _ h)
theorem yo (i:Nat) (h:denSeq P N ro QP (fun ρ ds w=>C w∧denD P N ro ops Q QP C fuel (i::done) ρ ds w) [o] ρ ds w) (hi:ops[i]?=some o:=by exact rfl) (hr:readyL ops done=[i]:=by kernel_rfl) (hg:∀ p q,guardO ops o ρ p q=p:=by first | exact fun _ _=>rfl | exact fun _ _=>guardP_true (by assumption)):denD P N ro ops Q QP C (fuel+1) done ρ ds w:=sim_dloud i hi hr hg h
theorem yq (i n:Nat) (h:denSeq P N ro QP (fun ρ ds w=>∃ C':World→Prop,C' w∧denD P N ro ops Q QP C' fuel (i::done) ρ ds w) [o] ρ ds w) (hi:ops[i]?=some o:=by exact rfl) (hr:readyL ops done=[i]:=by kernel_rfl) (hm:mayTurn ops n done i=true:=by kernel_rfl) (hg:∀ p q,guardO ops o ρ p q=p:=by first | exact fun _ _=>rfl | exact fun _ _=>guardP_true (by assumption)):denD P N ro ops Q QP C (fuel+1) done ρ ds w:=sim_dturn i n hi hr hm hg h
theorem yz (h:Q ρ ds w) (hr:readyL ops done=[]:=by kernel_rfl):denD P N ro ops Q QP C fuel done ρ ds w:=sim_dend hr h
theorem yh (S:List Nat) {id:Nat} {l:List Oper} {Q:K} {f:(World→Prop)→World→Prop} (h:drawK w f) (hk:∀ C:World→Prop,C (drew w)→f C (drew w)→denD P N ro l.toArray (Q .normal) (fun ch _ ds w=>∀ ρ',Fr S ρ ρ'→QP ch ρ' ds w) C l.length [] ρ ds (drew w)) (hm:P.follows .mixedOrders=true:=by kernel_rfl) (hS:l.all (fun o=>match o.dst with | some d=>S.contains d | none=>true)=true:=by kernel_rfl):den P N ro (.region id l.toArray true) Q QP ρ ds w:=let ⟨C,hC,hf⟩:=h;sim_draw S hm hS C (hk C hC hf)
theorem yj1 (fuel':Nat) (done' S:List Nat) (x0:Nat) {K0:Value→World→Prop} {A B:(Value→World→Prop)→Prop} {v:Value} {want:Bool} (h:joinK K0 fun K=>guardP v want (A K) (B K))
 (h1:∀ K:Value→World→Prop,(∀ ρ' w,Fr S ρ ρ'→C w→K (ρ' x0) w→denD P N ro ops Q QP C fuel' done' ρ' ds w)→boolOf v=some want→A K→denD P N ro ops Q QP C fuel done ρ ds w) (h2:∀ K:Value→World→Prop,(∀ ρ' w,Fr S ρ ρ'→C w→K (ρ' x0) w→denD P N ro ops Q QP C fuel' done' ρ' ds w)→boolOf v≠some want→B K→denD P N ro ops Q QP C fuel done ρ ds w)
 (hJ:∀ σ w,C w→K0 (σ x0) w→denD P N ro ops Q QP C fuel' done' (mix S ρ σ) ds w):denD P N ro ops Q QP C fuel done ρ ds w :=
 sim_djoin fuel' done' S (fun ρ w=>K0 (ρ x0) w) (fun _ hT=>(guardP_cases h).elim (fun h=>h1 K0 hT h.1 h.2) (fun h=>h2 K0 hT h.1 h.2)) hJ
end
section
variable {P:Program} {N:Nat} {ro:Option Nat} {c:Code} {Q:K} {QP:KP} {ρ:Env} {ds:List Deferred} {w:World}
theorem yl0 (W:List Nat) {body:World→(World→Prop)→Prop} (h:loop0 body w) (hr:∀ σ w (k:World→Prop),body w k→den P N ro c (thenK (fun ρ' ds' w'=>ds'=ds∧k w') Q) QP (mix W ρ σ) ds w) (hW:((writes c).all (W.contains ·)&&W.all ((writes c).contains ·))=true:=by kernel_rfl):den P N ro (.loop c) Q QP ρ ds w:=by
 obtain ⟨I,μ,hi,hb⟩:=h
 exact sim_loop W hW (fun ρ w=>I w) (fun ρ w=>μ w) hi fun σ w hI=>hr σ w _ (hb _ hI)
theorem yl1 (W:List Nat) (x0:Nat) {body:Value→World→(Value→World→Prop)→Prop} {a0:Value} (h:loop1 body a0 w) (hr:∀ σ w (k:Value→World→Prop),body (σ x0) w k→den P N ro c (thenK (fun ρ' ds' w'=>ds'=ds∧k (ρ' x0) w') Q) QP (mix W ρ σ) ds w) (hW:((writes c).all (W.contains ·)&&W.all ((writes c).contains ·))=true:=by kernel_rfl) (h0:ρ x0=a0:=by exact rfl):den P N ro (.loop c) Q QP ρ ds w:=by
 obtain ⟨I,μ,hi,hb⟩:=h
 subst h0
 exact sim_loop W hW (fun ρ w=>I (ρ x0) w) (fun ρ w=>μ (ρ x0) w) hi fun σ w hI=>hr σ w _ (hb _ _ hI)
theorem yl2 (W:List Nat) (x0 x1:Nat) {body:Value→Value→World→(Value→Value→World→Prop)→Prop} {a0 a1:Value} (h:loop2 body a0 a1 w) (hr:∀ σ w (k:Value→Value→World→Prop),body (σ x0) (σ x1) w k→den P N ro c (thenK (fun ρ' ds' w'=>ds'=ds∧k (ρ' x0) (ρ' x1) w') Q) QP (mix W ρ σ) ds w) (hW:((writes c).all (W.contains ·)&&W.all ((writes c).contains ·))=true:=by kernel_rfl) (h0:ρ x0=a0:=by exact rfl) (h1:ρ x1=a1:=by exact rfl):den P N ro (.loop c) Q QP ρ ds w:=by
 obtain ⟨I,μ,hi,hb⟩:=h
 subst h0 h1
 exact sim_loop W hW (fun ρ w=>I (ρ x0) (ρ x1) w) (fun ρ w=>μ (ρ x0) (ρ x1) w) hi fun σ w hI=>hr σ w _ (hb _ _ _ hI)
theorem yJ0 (S:List Nat) {K0:World→Prop} {f:(World→Prop)→Prop} (h:joinK K0 f) (hc:∀ (K:World→Prop) (k':Env→List Deferred→World→Prop),(∀ ρ' w,Fr S ρ ρ'→K w→k' ρ' ds w)→f K→den P N ro c (thenK k' Q) QP ρ ds w) (hJ:∀ σ w,K0 w→Q .normal (mix S ρ σ) ds w):den P N ro c Q QP ρ ds w :=
 sim_joinQ S (fun ρ w=>K0 w) (fun k' hk=>hc K0 k' hk h) hJ
theorem yJ1 (S:List Nat) (x0:Nat) {K0:Value→World→Prop} {f:(Value→World→Prop)→Prop} (h:joinK K0 f) (hc:∀ (K:Value→World→Prop) (k':Env→List Deferred→World→Prop),(∀ ρ' w,Fr S ρ ρ'→K (ρ' x0) w→k' ρ' ds w)→f K→den P N ro c (thenK k' Q) QP ρ ds w) (hJ:∀ σ w,K0 (σ x0) w→Q .normal (mix S ρ σ) ds w):den P N ro c Q QP ρ ds w :=
 sim_joinQ S (fun ρ w=>K0 (ρ x0) w) (fun k' hk=>hc K0 k' hk h) hJ
theorem yJ2 (S:List Nat) (x0 x1:Nat) {K0:Value→Value→World→Prop} {f:(Value→Value→World→Prop)→Prop} (h:joinK K0 f) (hc:∀ (K:Value→Value→World→Prop) (k':Env→List Deferred→World→Prop),(∀ ρ' w,Fr S ρ ρ'→K (ρ' x0) (ρ' x1) w→k' ρ' ds w)→f K→den P N ro c (thenK k' Q) QP ρ ds w) (hJ:∀ σ w,K0 (σ x0) (σ x1) w→Q .normal (mix S ρ σ) ds w):den P N ro c Q QP ρ ds w :=
 sim_joinQ S (fun ρ w=>K0 (ρ x0) (ρ x1) w) (fun k' hk=>hc K0 k' hk h) hJ
theorem yC {x:Operand} {A B:Code} {v:Value} {p q:Prop} (h:condP v p q) (hp:p→den P N ro A Q QP ρ ds w) (hq:q→den P N ro B Q QP ρ ds w) (hv:ev ρ x=v:=by exact rfl):den P N ro (.cond x A B) Q QP ρ ds w:=sim_cond h hv hp hq
theorem yG (n:Nat) {ops:Array Oper} {l:List Oper} (h:denSeq P N ro QP (fun ρ ds w=>denOps P N ro ops Q QP (l.drop n) none ρ ds w) (l.take n) ρ ds w) (hu:unguarded (l.take n)=true:=by exact rfl):denOps P N ro ops Q QP l none ρ ds w:=sim_seg n hu h
theorem yg1 (n j:Nat) (want:Bool) (S:List Nat) (x0:Nat) {ops:Array Oper} {l:List Oper} {K0:Value→World→Prop} {A:(Value→World→Prop)→Prop} {v:Value} {u0:Value} (h:joinK K0 fun K=>guardP v want (A K) (K u0 w))
 (hc:∀ (K:Value→World→Prop) (T:Env→List Deferred→World→Prop),(∀ ρ' w,Fr S ρ ρ'→K (ρ' x0) w→T ρ' ds w)→A K→denSeq P N ro QP T (l.take n) ρ ds w) (hJ:∀ σ w,K0 (σ x0) w→denOps P N ro ops Q QP (l.drop n) none (mix S ρ σ) ds w) (hok:grpOK ops j want (l.take n) (l.drop n)=true:=by exact rfl) (hv:gslot ops ρ j=v:=by exact rfl) (hf:Fr S ρ (skipAll N (l.take n) ρ):=by exact Fr.skipAll rfl (Fr.refl _ _)) (hu0:skipAll N (l.take n) ρ x0=u0:=by exact rfl):denOps P N ro ops Q QP l none ρ ds w:=by
 subst hu0;exact sim_groupJ n j want S (fun ρ w=>K0 (ρ x0) w) hok hv (fun T hT=>guardP_mono h (hc K0 T hT) fun h=>hT _ _ hf h) hJ
end
section
variable {P:Program} {f:FuncId} {fn:Func} {c:Code} {args:List Value} {w:World} {R:RT}
theorem yD (hf:P.funcs[f]?=some fn) (h:den P fn.ntmps none c (bodyK P fn R) (bodyQP R) (env0 args) [] w) (hb:fn.body=some c:=by exact rfl) (hn:args.length≤fn.ntmps:=by exact Nat.le_of_ble_eq_true rfl):Calls P f args.toArray w R:=calls_of_den hf hb hn h
theorem yE (hf:P.funcs[f]?=some fn) (h:den P fn.ntmps none c (bodyKM P fn R) (bodyQPM P fn R) (env0 args) [] w) (hb:fn.body=some c:=by exact rfl) (hn:args.length≤fn.ntmps:=by exact Nat.le_of_ble_eq_true rfl):Calls P f args.toArray w R:=calls_of_denM hf hb hn h
end
end Go.Sw
namespace Go.Proofs.YtpgkjhikdhdffaaGreatDoor
open Sw
theorem c3:Sw.Callable Pg 3:=⟨_,Tryz.func3,by kernel_rfl,rfl⟩
theorem c4:Sw.Callable Pg 4:=⟨_,Tryz.func4,by kernel_rfl,rfl⟩
theorem c5:Sw.Callable Pg 5:=⟨_,Tryz.func5,by kernel_rfl,rfl⟩
theorem c9:Sw.Callable Pg 9:=⟨_,Tryz.func9,by kernel_rfl,rfl⟩
theorem c10:Sw.Callable Pg 10:=⟨_,Tryz.func10,by kernel_rfl,rfl⟩
theorem c12:Sw.Callable Pg 12:=⟨_,Tryz.func12,by kernel_rfl,rfl⟩
theorem c14:Sw.Callable Pg 14:=⟨_,Tryz.func14,by kernel_rfl,rfl⟩
theorem c15:Sw.Callable Pg 15:=⟨_,Tryz.func15,by kernel_rfl,rfl⟩
theorem c16:Sw.Callable Pg 16:=⟨_,Tryz.func16,by kernel_rfl,rfl⟩
theorem c17:Sw.Callable Pg 17:=⟨_,Tryz.func17,by kernel_rfl,rfl⟩
theorem c20:Sw.Callable Pg 20:=⟨_,Tryz.func20,by kernel_rfl,rfl⟩
theorem c21:Sw.Callable Pg 21:=⟨_,Tryz.func21,by kernel_rfl,rfl⟩
theorem c23:Sw.Callable Pg 23:=⟨_,Tryz.func23,by kernel_rfl,rfl⟩
theorem c24:Sw.Callable Pg 24:=⟨_,Tryz.func24,by kernel_rfl,rfl⟩
theorem c26:Sw.Callable Pg 26:=⟨_,Tryz.func26,by kernel_rfl,rfl⟩
theorem c28:Sw.Callable Pg 28:=⟨_,Tryz.func28,by kernel_rfl,rfl⟩
theorem c29:Sw.Callable Pg 29:=⟨_,Tryz.func29,by kernel_rfl,rfl⟩
theorem c35:Sw.Callable Pg 35:=⟨_,Tryz.func35,by kernel_rfl,rfl⟩
theorem c36:Sw.Callable Pg 36:=⟨_,Tryz.func36,by kernel_rfl,rfl⟩
theorem c37:Sw.Callable Pg 37:=⟨_,Tryz.func37,by kernel_rfl,rfl⟩
theorem c38:Sw.Callable Pg 38:=⟨_,Tryz.func38,by kernel_rfl,rfl⟩
theorem c39:Sw.Callable Pg 39:=⟨_,Tryz.func39,by kernel_rfl,rfl⟩
theorem c40:Sw.Callable Pg 40:=⟨_,Tryz.func40,by kernel_rfl,rfl⟩
theorem c41:Sw.Callable Pg 41:=⟨_,Tryz.func41,by kernel_rfl,rfl⟩
theorem c42:Sw.Callable Pg 42:=⟨_,Tryz.func42,by kernel_rfl,rfl⟩
theorem c45:Sw.Callable Pg 45:=⟨_,Tryz.func45,by kernel_rfl,rfl⟩
theorem c46:Sw.Callable Pg 46:=⟨_,Tryz.func46,by kernel_rfl,rfl⟩
theorem c47:Sw.Callable Pg 47:=⟨_,Tryz.func47,by kernel_rfl,rfl⟩
theorem c49:Sw.Callable Pg 49:=⟨_,Tryz.func49,by kernel_rfl,rfl⟩
theorem c50:Sw.Callable Pg 50:=⟨_,Tryz.func50,by kernel_rfl,rfl⟩
theorem c51:Sw.Callable Pg 51:=⟨_,Tryz.func51,by kernel_rfl,rfl⟩
theorem c52:Sw.Callable Pg 52:=⟨_,Tryz.func52,by kernel_rfl,rfl⟩
theorem c53:Sw.Callable Pg 53:=⟨_,Tryz.func53,by kernel_rfl,rfl⟩
theorem c54:Sw.Callable Pg 54:=⟨_,Tryz.func54,by kernel_rfl,rfl⟩
theorem c57:Sw.Callable Pg 57:=⟨_,Tryz.func57,by kernel_rfl,rfl⟩
theorem c58:Sw.Callable Pg 58:=⟨_,Tryz.func58,by kernel_rfl,rfl⟩
theorem c59:Sw.Callable Pg 59:=⟨_,Tryz.func59,by kernel_rfl,rfl⟩
theorem c60:Sw.Callable Pg 60:=⟨_,Tryz.func60,by kernel_rfl,rfl⟩
theorem c62:Sw.Callable Pg 62:=⟨_,Tryz.func62,by kernel_rfl,rfl⟩
theorem c63:Sw.Callable Pg 63:=⟨_,Tryz.func63,by kernel_rfl,rfl⟩
theorem c64:Sw.Callable Pg 64:=⟨_,Tryz.func64,by kernel_rfl,rfl⟩
theorem c65:Sw.Callable Pg 65:=⟨_,Tryz.func65,by kernel_rfl,rfl⟩
theorem c66:Sw.Callable Pg 66:=⟨_,Tryz.func66,by kernel_rfl,rfl⟩
theorem c67:Sw.Callable Pg 67:=⟨_,Tryz.func67,by kernel_rfl,rfl⟩
theorem c69:Sw.Callable Pg 69:=⟨_,Tryz.func69,by kernel_rfl,rfl⟩
theorem c70:Sw.Callable Pg 70:=⟨_,Tryz.func70,by kernel_rfl,rfl⟩
theorem c71:Sw.Callable Pg 71:=⟨_,Tryz.func71,by kernel_rfl,rfl⟩
theorem c72:Sw.Callable Pg 72:=⟨_,Tryz.func72,by kernel_rfl,rfl⟩
theorem c73:Sw.Callable Pg 73:=⟨_,Tryz.func73,by kernel_rfl,rfl⟩
theorem c74:Sw.Callable Pg 74:=⟨_,Tryz.func74,by kernel_rfl,rfl⟩
theorem c75:Sw.Callable Pg 75:=⟨_,Tryz.func75,by kernel_rfl,rfl⟩
theorem c76:Sw.Callable Pg 76:=⟨_,Tryz.func76,by kernel_rfl,rfl⟩
theorem c77:Sw.Callable Pg 77:=⟨_,Tryz.func77,by kernel_rfl,rfl⟩
theorem c78:Sw.Callable Pg 78:=⟨_,Tryz.func78,by kernel_rfl,rfl⟩
theorem c79:Sw.Callable Pg 79:=⟨_,Tryz.func79,by kernel_rfl,rfl⟩
theorem c80:Sw.Callable Pg 80:=⟨_,Tryz.func80,by kernel_rfl,rfl⟩
theorem c85:Sw.Callable Pg 85:=⟨_,Tryz.func85,by kernel_rfl,rfl⟩
theorem c88:Sw.Callable Pg 88:=⟨_,Tryz.func88,by kernel_rfl,rfl⟩
theorem c89:Sw.Callable Pg 89:=⟨_,Tryz.func89,by kernel_rfl,rfl⟩
theorem c90:Sw.Callable Pg 90:=⟨_,Tryz.func90,by kernel_rfl,rfl⟩
theorem c91:Sw.Callable Pg 91:=⟨_,Tryz.func91,by kernel_rfl,rfl⟩
theorem c103:Sw.Callable Pg 103:=⟨_,Tryz.func103,by kernel_rfl,rfl⟩
theorem c104:Sw.Callable Pg 104:=⟨_,Tryz.func104,by kernel_rfl,rfl⟩
theorem c105:Sw.Callable Pg 105:=⟨_,Tryz.func105,by kernel_rfl,rfl⟩
theorem c112:Sw.Callable Pg 112:=⟨_,Tryz.func112,by kernel_rfl,rfl⟩
theorem c127:Sw.Callable Pg 127:=⟨_,Tryz.func127,by kernel_rfl,rfl⟩
theorem c143:Sw.Callable Pg 143:=⟨_,Tryz.func143,by kernel_rfl,rfl⟩
theorem c145:Sw.Callable Pg 145:=⟨_,Tryz.func145,by kernel_rfl,rfl⟩
theorem c173:Sw.Callable Pg 173:=⟨_,Tryz.func173,by kernel_rfl,rfl⟩
def n46c1 (t1 t7 t30:Value) (R:RT) (w:World):Prop :=
 opV Pg (binS .add 9 false t7 t30) (panK R) w fun t31 w =>
 opV Pg (binS .add 9 true t31 (.string { data := #[42] })) (panK R) w fun t32 w =>
 opV Pg (binS .add 9 false t32 t1) (panK R) w fun t34 w =>
 R (.returned t34) w
def n46c2 (t1 t7 t14:Value) (R:RT) (w:World):Prop :=
 opV Pg (binS .eql 3 true t14 (.int .i64 1)) (panK R) w fun t24 w =>
 condP t24 (
 opV Pg (binS .add 9 false t7 t1) (panK R) w fun t27 w =>
 R (.returned t27) w) (
 callK Pg 79 #[t14] (panK R) w fun t30 w =>
 n46c1 t1 t7 t30 R w)
def n46c3 (t0 t1 t7:Value) (R:RT) (w:World):Prop :=
 opV Pg (Op.unary .neg t0) (panK R) w fun t13 w =>
 opV Pg (Builtin.max_ #[3,3] 3 #[t0,t13]) (panK R) w fun t14 w =>
 opV Pg (binS .eql 9 true t1 (.string { data := #[] })) (panK R) w fun t17 w =>
 condP t17 (
 callK Pg 79 #[t14] (panK R) w fun t20 w =>
 opV Pg (binS .add 9 false t7 t20) (panK R) w fun t21 w =>
 R (.returned t21) w) (
 n46c2 t1 t7 t14 R w)
def n46 (t0 t1 t2:Value) (R:RT) (w:World):Prop :=
 opV Pg (binS .lss 3 true t0 (.int .i64 0)) (panK R) w fun t9 w =>
 joinK (fun (t7:Value) (w:World) =>
 n46c3 t0 t1 t7 R w) fun K1 =>
 condP t9 (
 K1 (.string { data := #[45] }) w) (
 condP t2 (
 K1 (.string { data := #[] }) w) (
 K1 (.string { data := #[43] }) w))
theorem n46s {t0 t1 t2:Value} {R:RT} {w:World} (h:n46 t0 t1 t2 R w):Calls Pg 62 #[t0,t1,t2] w R:=by
 refine yD Tryz.func62 ?_
 refine zs<|zr<|zm<|zn<|zk<|zs<|zr<|zm<|zn<|zk<|zs<|zs<|zr<|zm<|yb h fun _ w h=>?_
 refine zn<|zk<|yJ1 [7,10] 7 h (fun _ _ hkK1 h=>?_) fun σ w h=>?_
 · refine yC h (fun h=>?_) fun h=>?_
   · refine zr<|zm<|zn<|zk ?_
     exact zt hkK1 h
   refine zs<|zr<|zm<|zn<|zk<|yC h (fun h=>?_) fun h=>?_
   · refine zr<|zm<|zn<|zk ?_
     exact zt hkK1 h
   refine sim_skip<|zk ?_
   exact zt hkK1 h
 refine zk<|zs<|zr<|zm<|zm<|yv h fun _ w h=>yx h fun _ w h=>zm<|zn<|zk<|zs<|sim_block<|zs<|zr<|zm ?_
 refine yb h fun _ w h=>zm<|zn<|zk<|yC h (fun h=>zs<|zr<|zm<|zm<|yc h c79 fun _ w h=>yb h fun _ w h=>zm<|zn<|zk<|sim_ret<|sim_block_ret<|sim_then_ret<|body_ret1 rfl rfl h) fun h=>zs<|zr<|zm<|yb h fun _ w h=>zm<|zn<|zk<|yC h (fun h=>zs<|zr<|zm<|zm<|yb h fun _ w h=>zm<|zn<|zk<|sim_ret<|sim_block_ret<|sim_then_ret<|body_ret1 rfl rfl h) fun h=>?_
 refine sim_skip<|sim_block_normal<|zk<|zs<|zr<|zm<|zm<|yc h c79 fun _ w h=>yb h fun _ w h=>yb h fun _ w h=>zm<|yb h fun _ w h=>zm<|zn<|zk ?_
 exact sim_ret<|body_ret1 rfl rfl h
def n32 (t0:Value) (R:RT) (w:World):Prop :=
 opV Pg (binS .neq 21 true t0 (.int .i32 43)) (panK R) w fun t4 w =>
 joinK (fun (t7:Value) (w:World) =>
 pickK t4 t7 (.bool false) fun t8 =>
 R (.returned t8) w) fun K1 =>
 guardP t4 true (
 opV Pg (binS .neq 21 true t0 (.int .i32 45)) (panK R) w fun t7 w =>
 K1 t7 w) (
 K1 undef w)
theorem n32s {t0:Value} {R:RT} {w:World} (h:n32 t0 R w):Calls Pg 64 #[t0] w R:=by
 refine yD Tryz.func64 ?_
 refine zs<|zr<|zm<|zn<|zk<|zs<|sim_regionG<|yG 3<|zm<|yb h fun _ w h=>zm<|zn<|yg1 2 2 true [6,7] 7 h (fun _ T hT h=>?_) fun σ w h=>?_
 · refine zm<|yb h fun _ w h=>zn ?_
   exact zt hT h
 exact yG 2<|yp h fun _ h=>zm<|zn<|sim_end<|zk<|sim_ret<|body_ret1 rfl rfl h
def n57c1 (t0 t1 t8:Value) (next1:KV) (R:RT) (w:World):Prop :=
 opV Pg (Instr.indexAt 22 t0 t8) (panK R) w fun t14 w =>
 opV Pg (Instr.loadAt 32 t14) (panK R) w fun t15 w =>
 callV Pg t1 #[t15] (panK R) w fun t16 w =>
 condP t16 (
 R (.returned t8) w) (
 opV Pg (binS .add 3 true t8 (.int .i64 1)) (panK R) w fun t18 w =>
 next1 t18 w)
def n57 (t0 t1:Value) (R:RT) (w:World):Prop :=
 opV Pg (Builtin.len_ #[22] 3 #[t0]) (panK R) w fun t7 w =>
 loop1 (fun t8 w next1 =>
 opV Pg (binS .lss 3 false t8 t7) (panK R) w fun t9 w =>
 condP t9 (
 n57c1 t0 t1 t8 next1 R w) (
 R (.returned (.int .i64 (-1))) w)) (.int .i64 0) w
theorem n57s {t0 t1:Value} {R:RT} {w:World} (h:n57 t0 t1 R w):Calls Pg 69 #[t0,t1] w R:=by
 refine yD Tryz.func69 ?_
 refine zs<|zr<|zm<|zn<|zk<|zs<|zs<|zr<|zm<|yx h fun _ w h=>zm<|zn<|zk<|sim_block<|yl1 [4,5,8,9,10,11,12,13,14,15,16,17,18] 8 h fun σ w next h=>?_
 refine zs<|zr<|yb h fun _ w h=>zn<|zk<|zs<|yC h (fun h=>?_) fun h=>?_
 · refine sim_skip<|zk<|zs<|sim_block<|zs<|zr<|zm<|zm<|zn<|zk<|zs<|zr<|zm<|zm<|zm ?_
   refine yv h fun _ w h=>yv h fun _ w h=>yV h fun _ w h=>zn<|zk<|yC h (fun h=>zs<|zr<|zm<|zm<|zn<|zk<|sim_ret<|sim_block_ret<|sim_then_ret<|sim_then_ret<|sim_block_ret<|sim_then_ret<|body_ret1 rfl rfl h) fun h=>sim_skip<|sim_block_normal<|zk<|zr<|yb h fun _ w h=>zm<|zn<|zk ?_
   exact ⟨rfl,h⟩
 exact sim_exit<|sim_then_exit<|sim_then_exit<|sim_block_hit<|zk<|zs<|zr<|zm<|zn<|zk<|sim_ret<|body_ret1 rfl rfl h
def n34 (t0 t1:Value) (R:RT) (w:World):Prop :=
 opV Pg (Instr.box 32 t0) (panK R) w fun t2 w =>
 opV Pg (Instr.fieldAt 32 t2 0) (panK R) w fun t4 w =>
 opV Pg (Instr.loadAt 9 t4) (panK R) w fun t5 w =>
 opV Pg (Instr.loadAt 9 t1) (panK R) w fun t6 w =>
 opV Pg (binS .eql 9 false t5 t6) (panK R) w fun t7 w =>
 R (.returned t7) w
theorem n34s {t0 t1:Value} {R:RT} {w:World} (h:n34 t0 t1 R w):Calls Pg 70 #[t0,t1] w R:=by
 refine yD Tryz.func70 ?_
 refine zs<|zr<|yv h fun _ w h=>zm<|zn<|zk<|zs<|zr<|yv h fun _ w h=>yv h fun _ w h=>yv h fun _ w h=>yb h fun _ w h=>zm<|zn<|zk ?_
 exact sim_ret<|body_ret1 rfl rfl h
def n35c1 (t2 t3:Value) (R:RT) (w:World):Prop :=
 opV Pg (Instr.loadAt 35 t2) (panK R) w fun t9 w =>
 opV Pg (Instr.fieldAt 32 t3 0) (panK R) w fun t10 w =>
 opV Pg (Instr.loadAt 9 t10) (panK R) w fun t11 w =>
 opV Pg (Instr.lookup 35 t9 t11 false) (panK R) w fun t12 w =>
 R (.returned t12) w
def n35 (t0 t1 t2:Value) (R:RT) (w:World):Prop :=
 opV Pg (Instr.box 32 t0) (panK R) w fun t3 w =>
 opV Pg (Instr.fieldAt 32 t3 0) (panK R) w fun t5 w =>
 opV Pg (Instr.loadAt 9 t5) (panK R) w fun t6 w =>
 opV Pg (Instr.loadAt 9 t1) (panK R) w fun t7 w =>
 opV Pg (binS .eql 9 false t6 t7) (panK R) w fun t8 w =>
 condP t8 (
 R (.returned (.int .i64 0)) w) (
 n35c1 t2 t3 R w)
theorem n35s {t0 t1 t2:Value} {R:RT} {w:World} (h:n35 t0 t1 t2 R w):Calls Pg 71 #[t0,t1,t2] w R:=by
 refine yD Tryz.func71 ?_
 refine zs<|zr<|yv h fun _ w h=>zm<|zn<|zk<|zs<|zs<|zr<|yv h fun _ w h=>yv h fun _ w h=>yv h fun _ w h=>yb h fun _ w h=>zn<|zk ?_
 exact yC h (fun h=>zs<|zr<|zm<|zn<|zk<|sim_ret<|sim_then_ret<|body_ret1 rfl rfl h) fun h=>sim_skip<|zk<|zs<|zr<|yv h fun _ w h=>yv h fun _ w h=>yv h fun _ w h=>yv h fun _ w h=>zm<|zn<|zk<|sim_ret<|body_ret1 rfl rfl h
def n52c1 (R:RT) (w:World):Prop :=
 opV Pg (Instr.makeInterface 9 (.string { data := #[108,101,110,32,111,117,116,32,111,102,32,114,97,110,103,101] })) (panK R) w fun t21 w =>
 opV Pg (Instr.panic t21) (panK R) w fun _ w =>
 False
def n52c2 (t0 t6 t27:Value) (next2:KW) (R:RT) (w:World):Prop :=
 opV Pg (Instr.indexAt 127 t0 t27) (panK R) w fun t29 w =>
 opV Pg (Instr.loadAt 22 t29) (panK R) w fun t30 w =>
 opV Pg (Builtin.append_ #[22,22] 22 #[t6,t30]) (panK R) w fun t33 w =>
 opV Pg (binS .add 3 true t27 (.int .i64 1)) (panK R) w fun t34 w =>
 next2 t33 t34 w
def n52c3 (t0 t24:Value) (R:RT) (w:World):Prop :=
 opV Pg (Builtin.len_ #[127] 3 #[t0]) (panK R) w fun t26 w =>
 loop2 (fun t6 t27 w next2 =>
 opV Pg (binS .lss 3 false t27 t26) (panK R) w fun t28 w =>
 condP t28 (
 n52c2 t0 t6 t27 next2 R w) (
 R (.returned t6) w)) t24 (.int .i64 0) w
def n52c4 (t0 t3 t11:Value) (next1:KW) (R:RT) (w:World):Prop :=
 opV Pg (Instr.indexAt 127 t0 t11) (panK R) w fun t13 w =>
 opV Pg (Instr.loadAt 22 t13) (panK R) w fun t14 w =>
 opV Pg (Builtin.len_ #[22] 3 #[t14]) (panK R) w fun t17 w =>
 opV Pg (binS .add 3 false t3 t17) (panK R) w fun t18 w =>
 opV Pg (binS .lss 3 true t18 (.int .i64 0)) (panK R) w fun t20 w =>
 condP t20 (
 n52c1 R w) (
 opV Pg (binS .add 3 true t11 (.int .i64 1)) (panK R) w fun t22 w =>
 next1 t18 t22 w)
def n52c5 (t0 t3 t10 t11:Value) (next1:KW) (R:RT) (w:World):Prop :=
 opV Pg (binS .lss 3 false t11 t10) (panK R) w fun t12 w =>
 condP t12 (
 n52c4 t0 t3 t11 next1 R w) (
 callK Pg 88 #[(Value.slice none 0 0),t3] (panK R) w fun t24 w =>
 n52c3 t0 t24 R w)
def n52 (t0:Value) (R:RT) (w:World):Prop :=
 opV Pg (Builtin.len_ #[127] 3 #[t0]) (panK R) w fun t10 w =>
 loop2 (fun t3 t11 w next1 =>
 n52c5 t0 t3 t10 t11 next1 R w) (.int .i64 0) (.int .i64 0) w
theorem n52s {t0:Value} {R:RT} {w:World} (h:n52 t0 R w):Calls Pg 72 #[t0] w R:=by
 refine yD Tryz.func72 ?_
 refine zs<|zr<|zm<|zn<|zk<|zs<|zr<|zm<|zn<|zk<|zs<|zs<|zr<|zm<|yx h fun _ w h=>?_
 refine zm<|zn<|zk<|sim_block<|yl2 [3,5,11,12,13,14,15,16,17,18,19,20,21,22] 3 11 h fun σ w next h=>zs<|zr<|yb h fun _ w h=>zn<|zk<|zs<|yC h (fun h=>?_) fun h=>?_
 · refine sim_skip<|zk<|zs<|sim_block<|zs<|zr<|yv h fun _ w h=>yv h fun _ w h=>zm<|zn<|zk<|zs<|zr<|zm<|zm ?_
   refine yx h fun _ w h=>yb h fun _ w h=>zm<|zn<|zk<|zs<|zr<|zm<|yb h fun _ w h=>zn<|zk<|yC h (fun h=>zr<|yv h fun _ w h=>yv h fun _ w h=>zn<|h.elim) fun h=>sim_skip<|sim_block_normal ?_
   exact zk<|zr<|yb h fun _ w h=>zm<|zn<|zk<|⟨rfl,h⟩
 refine sim_exit<|sim_then_exit<|sim_then_exit<|sim_block_hit<|zk<|zs<|zr<|zm<|yc h c88 fun _ w h=>zm<|zn<|zk<|zs<|zs<|zr ?_
 refine zm<|yx h fun _ w h=>zm<|zn<|zk<|sim_block<|yl2 [6,8,27,28,29,30,31,32,33,34] 6 27 h fun σ w next h=>zs<|zr<|yb h fun _ w h=>zn<|zk<|zs<|yC h (fun h=>?_) fun h=>?_
 · refine sim_skip<|zk<|zs<|sim_block<|zs<|zr<|yv h fun _ w h=>yv h fun _ w h=>zm<|zn<|zk<|zr<|zm<|zm<|yx h fun _ w h=>?_
   exact zm<|zn<|sim_block_normal<|zk<|zr<|yb h fun _ w h=>zm<|zn<|zk<|⟨rfl,h⟩
 exact sim_exit<|sim_then_exit<|sim_then_exit<|sim_block_hit<|zk<|zs<|zr<|zm<|zm<|zn<|zk<|sim_ret<|body_ret1 rfl rfl h
def n48c1 (t0 t2 t7 t9:Value) (next1:KW) (R:RT) (w:World):Prop :=
 opV Pg (Instr.indexAt 129 t7 t9) (panK R) w fun t11 w =>
 opV Pg (Instr.loadAt 9 t11) (panK R) w fun t12 w =>
 opV Pg (Instr.lookup 35 t0 t12 false) (panK R) w fun t17 w =>
 opV Pg (Instr.build 32 #[(0,t12),(1,t17)]) (panK R) w fun t18 w =>
 opV Pg (Instr.buildSlice 22 1 #[(0,t18)]) (panK R) w fun t19 w =>
 opV Pg (Builtin.append_ #[22,22] 22 #[t2,t19]) (panK R) w fun t20 w =>
 opV Pg (binS .add 3 true t9 (.int .i64 1)) (panK R) w fun t21 w =>
 next1 t20 t21 w
def n48c2 (t0 t7:Value) (R:RT) (w:World):Prop :=
 opV Pg (Builtin.len_ #[129] 3 #[t7]) (panK R) w fun t8 w =>
 loop2 (fun t2 t9 w next1 =>
 opV Pg (binS .lss 3 false t9 t8) (panK R) w fun t10 w =>
 condP t10 (
 n48c1 t0 t2 t7 t9 next1 R w) (
 R (.returned t2) w)) (Value.slice none 0 0) (.int .i64 0) w
def n48 (t0:Value) (R:RT) (w:World):Prop :=
 callK Pg 90 #[t0] (panK R) w fun t6 w =>
 callK Pg 89 #[t6] (panK R) w fun t7 w =>
 n48c2 t0 t7 R w
theorem n48s {t0:Value} {R:RT} {w:World} (h:n48 t0 R w):Calls Pg 73 #[t0] w R:=by
 refine yD Tryz.func73 ?_
 refine zs<|zr<|zm<|zn<|zk<|zs<|zs<|zr<|zm<|yc h c90 fun _ w h=>yc h c89 fun _ w h=>yx h fun _ w h=>zm<|zn<|zk ?_
 refine sim_block<|yl2 [2,4,9,10,11,12,13,14,15,16,17,18,19,20,21] 2 9 h fun σ w next h=>zs<|zr<|yb h fun _ w h=>zn<|zk<|zs<|yC h (fun h=>?_) fun h=>?_
 · refine sim_skip<|zk<|zs<|sim_block<|zs<|zr<|yv h fun _ w h=>yv h fun _ w h=>zm<|zn<|zk<|zr<|zm<|zm<|zm ?_
   exact zm<|yv h fun _ w h=>yB h fun _ w h=>yS h fun _ w h=>yx h fun _ w h=>zm<|zn<|sim_block_normal<|zk<|zr<|yb h fun _ w h=>zm<|zn<|zk<|⟨rfl,h⟩
 exact sim_exit<|sim_then_exit<|sim_then_exit<|sim_block_hit<|zk<|zs<|zr<|zm<|zm<|zn<|zk<|sim_ret<|body_ret1 rfl rfl h
def n19 (t0:Value) (R:RT) (w:World):Prop :=
 opV Pg (Instr.box 32 t0) (panK R) w fun t1 w =>
 opV Pg (Instr.fieldAt 32 t1 1) (panK R) w fun t3 w =>
 opV Pg (Instr.loadAt 3 t3) (panK R) w fun t4 w =>
 callK Pg 46 #[t4] (panK R) w fun t5 w =>
 opV Pg (Op.unary .not t5) (panK R) w fun t6 w =>
 R (.returned t6) w
theorem n19s {t0:Value} {R:RT} {w:World} (h:n19 t0 R w):Calls Pg 74 #[t0] w R:=by
 refine yD Tryz.func74 ?_
 refine zs<|zr<|yv h fun _ w h=>zm<|zn<|zk<|zs<|zr<|yv h fun _ w h=>yv h fun _ w h=>yc h c46 fun _ w h=>yv h fun _ w h=>zm<|zn<|zk ?_
 exact sim_ret<|body_ret1 rfl rfl h
def n55 (t0 t1:Value) (R:RT) (w:World):Prop :=
 callK Pg 91 #[t0,t1] (panK R) w fun t7 w =>
 opV Pg (binS .geq 3 true t7 (.int .i64 0)) (panK R) w fun t8 w =>
 R (.returned t8) w
theorem n55s {t0 t1:Value} {R:RT} {w:World} (h:n55 t0 t1 R w):Calls Pg 77 #[t0,t1] w R:=by
 refine yD Tryz.func77 ?_
 refine zs<|zr<|zm<|zn<|zk<|zs<|zr<|zm<|zm<|yc h c91 fun _ w h=>yb h fun _ w h=>zm<|zn<|zk<|sim_ret ?_
 exact body_ret1 rfl rfl h
def n58c1 (t0 t1 t8:Value) (next1:KV) (R:RT) (w:World):Prop :=
 opV Pg (Instr.indexAt 83 t0 t8) (panK R) w fun t14 w =>
 opV Pg (Instr.loadAt 5 t14) (panK R) w fun t15 w =>
 callV Pg t1 #[t15] (panK R) w fun t16 w =>
 condP t16 (
 R (.returned t8) w) (
 opV Pg (binS .add 3 true t8 (.int .i64 1)) (panK R) w fun t18 w =>
 next1 t18 w)
def n58 (t0 t1:Value) (R:RT) (w:World):Prop :=
 opV Pg (Builtin.len_ #[83] 3 #[t0]) (panK R) w fun t7 w =>
 loop1 (fun t8 w next1 =>
 opV Pg (binS .lss 3 false t8 t7) (panK R) w fun t9 w =>
 condP t9 (
 n58c1 t0 t1 t8 next1 R w) (
 R (.returned (.int .i64 (-1))) w)) (.int .i64 0) w
theorem n58s {t0 t1:Value} {R:RT} {w:World} (h:n58 t0 t1 R w):Calls Pg 78 #[t0,t1] w R:=by
 refine yD Tryz.func78 ?_
 refine zs<|zr<|zm<|zn<|zk<|zs<|zs<|zr<|zm<|yx h fun _ w h=>zm<|zn<|zk<|sim_block<|yl1 [4,5,8,9,10,11,12,13,14,15,16,17,18] 8 h fun σ w next h=>?_
 refine zs<|zr<|yb h fun _ w h=>zn<|zk<|zs<|yC h (fun h=>?_) fun h=>?_
 · refine sim_skip<|zk<|zs<|sim_block<|zs<|zr<|zm<|zm<|zn<|zk<|zs<|zr<|zm<|zm<|zm ?_
   refine yv h fun _ w h=>yv h fun _ w h=>yV h fun _ w h=>zn<|zk<|yC h (fun h=>zs<|zr<|zm<|zm<|zn<|zk<|sim_ret<|sim_block_ret<|sim_then_ret<|sim_then_ret<|sim_block_ret<|sim_then_ret<|body_ret1 rfl rfl h) fun h=>sim_skip<|sim_block_normal<|zk<|zr<|yb h fun _ w h=>zm<|zn<|zk ?_
   exact ⟨rfl,h⟩
 exact sim_exit<|sim_then_exit<|sim_then_exit<|sim_block_hit<|zk<|zs<|zr<|zm<|zn<|zk<|sim_ret<|body_ret1 rfl rfl h
open Go.RowKit (intOf)
theorem IndexFunc_Term_ret (w0:World) (v:Value) (l:List TermD) (g:FuncId) (caps:Array Value) (p:TermD→Bool) (hs:TermsOf w0 v l) (hg:Callable Pg g) (hc:Tests w0 (fun _ v x=>v=termVal x) g caps p l) :
 Ret Pg 69 #[v,.func (.func g) #[] caps] w0 fun r w'=>r = .int .i64 (idx p l)∧Ext w0 w':=by
 obtain ⟨A,c,rfl,hlc,hcm,hlm,hel⟩:=SliceOf.open hs
 refine n57s (R:=retR _) ?_
 unfold n57
 simp (disch:=try exact DI) only [↓PR,QR,simprocAttr]
 refine loop1_intro (fun i w=>∃ k:Nat,i = .int .i64 k∧k≤l.length∧Ext w0 w∧∀ (j:Nat) y,j < k→l[j]?=some y→p y=false) (fun i _=>l.length - (intOf i).toNat) ⟨0,rfl,by omega,Ext.refl _,fun j y h=>by omega⟩ ?_
 rintro i w ⟨k,rfl,hk,e,hb⟩
 by_cases hlt:k < l.length
 · obtain ⟨x,hx⟩:=getElem?_lt hlt
   obtain ⟨b,o,cs,rfl,hl,hA,hE⟩:=hel k x hx
   have hd:decide ((k:Int) < (l.length:Int))=true:=by simp;omega
   simp (disch:=try exact DI) only [↓PR,QR,simprocAttr,hd]
   unfold n57c1
   simp (disch:=try exact DI) only [↓PR,QR,simprocAttr]
   obtain rfl:=hE
   have hV:(.agg (termCells x).toArray:Value)=termVal x:=rfl
   simp (disch:=try exact DI) only [↓PR,QR,simprocAttr,hA.c2]
   rw [callV_func hg]
   simp only [Array.empty_append]
   refine callK_ret (hc w _ x (List.mem_of_getElem? hx) e (hV)) ?_
   rintro r w' ⟨rfl,e'⟩
   cases hp:p x with
   | true => 
    simp (disch:=try exact DI) only [↓PR,QR,simprocAttr]
    exact ⟨by rw [idx_here hx hp hb],e.trans e'⟩
   | false =>
    simp (disch:=try exact DI) only [↓PR,QR,simprocAttr]
    refine ⟨⟨k+1,rfl,by omega,e.trans e',fun j y hj hy=>?_⟩,by simp [intOf];omega⟩
    by_cases hjk:j=k
    · subst hjk;rw [hx] at hy;injection hy with hy;subst hy;exact hp
    · exact hb j y (by omega) hy
 · have hd:decide ((k:Int) < (l.length:Int))=false:=by simp;omega
   simp (disch:=try exact DI) only [↓PR,QR,simprocAttr,hd]
   exact ⟨by rw [idx_none fun j y hy=>hb j y (by have:=(List.getElem?_eq_some_iff.1 hy).1;omega) hy],e⟩
theorem IndexFunc_byte_ret (w0:World) (v:Value) (l:List UInt8) (g:FuncId) (caps:Array Value) (p:UInt8→Bool) (hs:(fun w v l=>SliceOf w 1 EByte v l) w0 v l) (hg:Callable Pg g) (hc:Tests w0 (fun _ v x=>v = .int .u8 (x.toNat:Int)) g caps p l) :
 Ret Pg 78 #[v,.func (.func g) #[] caps] w0 fun r w'=>r = .int .i64 (idx p l)∧Ext w0 w':=by
 obtain ⟨A,c,rfl,hlc,hcm,hlm,hel⟩:=SliceOf.open hs
 refine n58s (R:=retR _) ?_
 unfold n58
 simp (disch:=try exact DI) only [↓PR,QR,simprocAttr]
 refine loop1_intro (fun i w=>∃ k:Nat,i = .int .i64 k∧k≤l.length∧Ext w0 w∧∀ (j:Nat) y,j < k→l[j]?=some y→p y=false) (fun i _=>l.length - (intOf i).toNat) ⟨0,rfl,by omega,Ext.refl _,fun j y h=>by omega⟩ ?_
 rintro i w ⟨k,rfl,hk,e,hb⟩
 by_cases hlt:k < l.length
 · obtain ⟨x,hx⟩:=getElem?_lt hlt
   obtain ⟨b,o,cs,rfl,hl,hA,hE⟩:=hel k x hx
   have hd:decide ((k:Int) < (l.length:Int))=true:=by simp;omega
   simp (disch:=try exact DI) only [↓PR,QR,simprocAttr,hd]
   unfold n58c1
   simp (disch:=try exact DI) only [↓PR,QR,simprocAttr]
   obtain rfl:=hE
   have hV:(.int .u8 (x.toNat:Int):Value) = .int .u8 (x.toNat:Int):=rfl
   simp (disch:=try exact DI) only [↓PR,QR,simprocAttr,hA.c1]
   rw [callV_func hg]
   simp only [Array.empty_append]
   refine callK_ret (hc w _ x (List.mem_of_getElem? hx) e (hV)) ?_
   rintro r w' ⟨rfl,e'⟩
   cases hp:p x with
   | true => 
    simp (disch:=try exact DI) only [↓PR,QR,simprocAttr]
    exact ⟨by rw [idx_here hx hp hb],e.trans e'⟩
   | false =>
    simp (disch:=try exact DI) only [↓PR,QR,simprocAttr]
    refine ⟨⟨k+1,rfl,by omega,e.trans e',fun j y hj hy=>?_⟩,by simp [intOf];omega⟩
    by_cases hjk:j=k
    · subst hjk;rw [hx] at hy;injection hy with hy;subst hy;exact hp
    · exact hb j y (by omega) hy
 · have hd:decide ((k:Int) < (l.length:Int))=false:=by simp;omega
   simp (disch:=try exact DI) only [↓PR,QR,simprocAttr,hd]
   exact ⟨by rw [idx_none fun j y hy=>hb j y (by have:=(List.getElem?_eq_some_iff.1 hy).1;omega) hy],e⟩
theorem IndexFunc_Term_st (w0 w1:World) (v:Value) (l:List TermD) (g:FuncId) (caps:Array Value) (p:Nat→Bool) (J:Nat→World→Prop) (hs:TermsOf w0 v l) (hg:Callable Pg g) (hJ:∀ k w,J k w→Ext w0 w) (h0:J 0 w1)
 (hc:∀ k x w u,l[k]?=some x→J k w→(fun _ v x=>v=termVal x) w u x→Ret Pg g (#[u]++caps) w fun r w'=>r = .bool (p k)∧J (k+1) w') :
 Ret Pg 69 #[v,.func (.func g) #[] caps] w1 fun r w'=>r = .int .i64 (idx p (List.range l.length))∧∃ k,J k w':=by
 obtain ⟨A,c,rfl,hlc,hcm,hlm,hel⟩:=SliceOf.open hs
 refine n57s (R:=retR _) ?_
 unfold n57
 simp (disch:=try exact DI) only [↓PR,QR,simprocAttr]
 refine loop1_intro (fun i w=>∃ k:Nat,i = .int .i64 k∧k≤l.length∧J k w∧∀ (j:Nat) y,j < k→(List.range l.length)[j]?=some y→p y=false) (fun i _=>l.length - (intOf i).toNat) ⟨0,rfl,by omega,h0,fun j y h=>by omega⟩ ?_
 rintro i w ⟨k,rfl,hk,hj,hb⟩
 have e:=hJ _ _ hj
 by_cases hlt:k < l.length
 · obtain ⟨x,hx⟩:=getElem?_lt hlt
   have hr:(List.range l.length)[k]?=some k:=by simp [hlt]
   obtain ⟨b,o,cs,rfl,hl,hA,hE⟩:=hel k x hx
   have hd:decide ((k:Int) < (l.length:Int))=true:=by simp;omega
   simp (disch:=try exact DI) only [↓PR,QR,simprocAttr,hd]
   unfold n57c1
   simp (disch:=try exact DI) only [↓PR,QR,simprocAttr]
   obtain rfl:=hE
   have hV:(.agg (termCells x).toArray:Value)=termVal x:=rfl
   simp (disch:=try exact DI) only [↓PR,QR,simprocAttr,hA.c2]
   rw [callV_func hg]
   simp only [Array.empty_append]
   refine callK_ret (hc k x w _ hx hj hV) ?_
   rintro r w' ⟨rfl,hj'⟩
   cases hp:p k with
   | true => 
    simp (disch:=try exact DI) only [↓PR,QR,simprocAttr]
    exact ⟨by rw [idx_here hr hp hb],_,hj'⟩
   | false =>
    simp (disch:=try exact DI) only [↓PR,QR,simprocAttr]
    exact ⟨⟨k+1,rfl,by omega,hj',before_succ hb hr hp⟩,by simp [intOf];omega⟩
 · have hd:decide ((k:Int) < (l.length:Int))=false:=by simp;omega
   simp (disch:=try exact DI) only [↓PR,QR,simprocAttr,hd]
   exact ⟨by rw [idx_none fun j y hy=>hb j y (by have:=(List.getElem?_eq_some_iff.1 hy).1;simp at this;omega) hy],_,hj⟩
def n10c1 (t1 t2 t22:Value) (R:RT) (w:World):Prop :=
 opV Pg (Instr.extract t22 0) (panK R) w fun t23 w =>
 opV Pg (Instr.extract t22 1) (panK R) w fun t24 w =>
 opV Pg (binS .eql 3 false t23 t1) (panK R) w fun t27 w =>
 joinK (fun (t31:Value) (w:World) =>
 pickK t27 t31 (.bool false) fun t32 =>
 R (.returned t32) w) fun K1 =>
 guardP t27 true (
 opV Pg (binS .eql 39 false t24 t2) (panK R) w fun t31 w =>
 K1 t31 w) (
 K1 undef w)
def n10c2 (t0 t1 t2 t15:Value) (R:RT) (w:World):Prop :=
 opV Pg (Instr.extract t15 0) (panK R) w fun t16 w =>
 opV Pg (Instr.extract t15 1) (panK R) w fun t17 w =>
 callK Pg 36 #[] (panK R) w fun t20 w =>
 callV Pg t0 #[t20,t16] (panK R) w fun t22 w =>
 n10c1 t1 t2 t22 R w
def n10 (t0 t1 t2 t3:Value) (R:RT) (w:World):Prop :=
 callK Pg 15 #[t3] (panK R) w fun t15 w =>
 n10c2 t0 t1 t2 t15 R w
theorem n10s {t0 t1 t2 t3:Value} {R:RT} {w:World} (h:n10 t0 t1 t2 t3 R w):Calls Pg 35 #[t0,t1,t2,t3] w R:=by
 refine yD Tryz.func35 ?_
 refine zs<|zr<|zm<|zn<|zk<|zs<|zr<|zm<|yc h c15 fun _ w h=>zm<|yv h fun _ w h=>yv h fun _ w h=>zm<|zm<|zn ?_
 refine zk<|zs<|zr<|zm<|yc h c36 fun _ w h=>zm<|yV h fun _ w h=>zm<|yv h fun _ w h=>yv h fun _ w h=>zm<|zm<|zn<|zk<|zs ?_
 refine sim_regionG<|yG 4<|zm<|zm<|yb h fun _ w h=>zm<|zn<|yg1 3 3 true [29,30,31] 31 h (fun _ T hT h=>?_) fun σ w h=>?_
 · refine zm<|zm<|yb h fun _ w h=>zn ?_
   exact zt hT h
 exact yG 2<|yp h fun _ h=>zm<|zn<|sim_end<|zk<|sim_ret<|body_ret1 rfl rfl h
def n11 (R:RT) (w:World):Prop :=
 opV Pg (Instr.alloc 24 true (.tuple #[])) (panK R) w fun t0 w =>
 opV Pg (Instr.build 32 #[(0,(.string { data := #[110] })),(1,(.int .i64 2))]) (panK R) w fun t1 w =>
 opV Pg (Instr.build 32 #[(0,(.string { data := #[109] })),(1,(.int .i64 (-1)))]) (panK R) w fun t2 w =>
 opV Pg (Instr.buildSlice 22 2 #[(0,t1),(1,t2)]) (panK R) w fun t3 w =>
 opV Pg (Instr.build 24 #[(0,(.int .i64 4)),(1,t3)]) (panK R) w fun t4 w =>
 opU Pg (Instr.storeAt 24 t0 t4) (panK R) w fun w =>
 qW Pg 24 t0 w fun r0 =>
 R (.returned r0) w
theorem n11s {R:RT} {w:World} (h:n11 R w):Calls Pg 36 #[] w R:=by
 refine yD Tryz.func36 ?_
 refine zs<|zr<|yv h fun _ w h=>zn<|zk<|zs<|zr<|yB h fun _ w h=>yB h fun _ w h=>yS h fun _ w h=>yB h fun _ w h=>yu h fun w h=>zn<|zk<|sim_ret ?_
 exact body_retC rfl rfl h
def n14c1 (t2 t7 t25 t28:Value) (R:RT) (w:World):Prop :=
 pickK t25 t28 (.bool false) fun t29 =>
 joinK (fun (t33:Value) (w:World) =>
 pickK t29 t33 (.bool false) fun t34 =>
 R (.returned t34) w) fun K3 =>
 guardP t29 true (
 opV Pg (Instr.loadAt 24 t7) (panK R) w fun t31 w =>
 opV Pg (Instr.loadAt 24 t2) (panK R) w fun t32 w =>
 callK Pg 26 #[t31,t32] (panK R) w fun t33 w =>
 K3 t33 w) (
 K3 undef w)
def n14c2 (t2 t7 t18 t21 t24:Value) (R:RT) (w:World):Prop :=
 pickK t21 t24 (.bool false) fun t25 =>
 joinK (fun (t28:Value) (w:World) =>
 n14c1 t2 t7 t25 t28 R w) fun K2 =>
 guardP t25 true (
 opV Pg (binS .eql 39 true t18 (.int .i64 0)) (panK R) w fun t28 w =>
 K2 t28 w) (
 K2 undef w)
def n14c3 (t1 t2 t12 t13 t16:Value) (R:RT) (w:World):Prop :=
 opV Pg (Instr.extract t16 0) (panK R) w fun t17 w =>
 opV Pg (Instr.extract t16 1) (panK R) w fun t18 w =>
 opV Pg (Instr.alloc 24 true (.tuple #[])) (panK R) w fun t7 w =>
 opU Pg (Instr.storeAt 24 t7 t17) (panK R) w fun w =>
 opV Pg (binS .eql 9 false t12 t1) (panK R) w fun t21 w =>
 joinK (fun (t24:Value) (w:World) =>
 n14c2 t2 t7 t18 t21 t24 R w) fun K1 =>
 guardP t21 true (
 opV Pg (binS .eql 39 true t13 (.int .i64 0)) (panK R) w fun t24 w =>
 K1 t24 w) (
 K1 undef w)
def n14c4 (t1 t2 t11:Value) (R:RT) (w:World):Prop :=
 opV Pg (Instr.extract t11 0) (panK R) w fun t12 w =>
 opV Pg (Instr.extract t11 1) (panK R) w fun t13 w =>
 callK Pg 24 #[t1] (panK R) w fun t16 w =>
 n14c3 t1 t2 t12 t13 t16 R w
def n14 (t0 t1:Value) (R:RT) (w:World):Prop :=
 opV Pg (Instr.box 24 t0) (panK R) w fun t2 w =>
 opV Pg (Instr.loadAt 24 t2) (panK R) w fun t10 w =>
 callK Pg 23 #[t10] (panK R) w fun t11 w =>
 n14c4 t1 t2 t11 R w
theorem n14s {t0 t1:Value} {R:RT} {w:World} (h:n14 t0 t1 R w):Calls Pg 37 #[t0,t1] w R:=by
 refine yD Tryz.func37 ?_
 refine zs<|zr<|yv h fun _ w h=>zm<|zn<|zk<|zs<|zr<|yv h fun _ w h=>yc h c23 fun _ w h=>zm<|yv h fun _ w h=>yv h fun _ w h=>zm<|zm ?_
 refine zn<|zk<|zs<|zr<|zm<|yc h c24 fun _ w h=>zm<|yv h fun _ w h=>yv h fun _ w h=>yv h fun _ w h=>yu h fun w h=>zm<|zn<|zk<|zs ?_
 refine sim_regionG<|yG 4<|zm<|zm<|yb h fun _ w h=>zm<|zn<|yg1 2 3 true [23,24] 24 h (fun _ T hT h=>?_) fun σ w h=>?_
 · refine zm<|yb h fun _ w h=>zn ?_
   exact zt hT h
 refine yG 2<|yp h fun _ h=>zm<|zn<|yg1 2 7 true [27,28] 28 h (fun _ T hT h=>?_) fun σ w h=>?_
 · refine zm<|yb h fun _ w h=>zn ?_
   exact zt hT h
 refine yG 2<|yp h fun _ h=>zm<|zn<|yg1 3 11 true [31,32,33] 33 h (fun _ T hT h=>?_) fun σ w h=>?_
 · refine yv h fun _ w h=>yv h fun _ w h=>yc h c26 fun _ w h=>zn ?_
   exact zt hT h
 exact yG 2<|yp h fun _ h=>zm<|zn<|sim_end<|zk<|sim_ret<|body_ret1 rfl rfl h
def n28c1 (t0 t5 t9:Value) (R:RT) (w:World):Prop :=
 pickK t5 t9 (.bool false) fun t10 =>
 joinK (fun (t13:Value) (w:World) =>
 pickK t10 t13 (.bool false) fun t14 =>
 R (.returned t14) w) fun K2 =>
 guardP t10 true (
 opV Pg (binS .neq 5 true t0 (.int .u8 95)) (panK R) w fun t13 w =>
 K2 t13 w) (
 K2 undef w)
def n28c2 (t0 t4:Value) (R:RT) (w:World):Prop :=
 opV Pg (Op.unary .not t4) (panK R) w fun t5 w =>
 joinK (fun (t9:Value) (w:World) =>
 n28c1 t0 t5 t9 R w) fun K1 =>
 guardP t5 true (
 callK Pg 40 #[t0] (panK R) w fun t8 w =>
 opV Pg (Op.unary .not t8) (panK R) w fun t9 w =>
 K1 t9 w) (
 K1 undef w)
def n28 (t0:Value) (R:RT) (w:World):Prop :=
 callK Pg 39 #[t0] (panK R) w fun t4 w =>
 n28c2 t0 t4 R w
theorem n28s {t0:Value} {R:RT} {w:World} (h:n28 t0 R w):Calls Pg 38 #[t0] w R:=by
 refine yD Tryz.func38 ?_
 refine zs<|zr<|zm<|zn<|zk<|zs<|sim_regionG<|yG 4<|zm<|yc h c39 fun _ w h=>yv h fun _ w h=>zm<|zn<|yg1 3 3 true [7,8,9] 9 h (fun _ T hT h=>?_) fun σ w h=>?_
 · refine zm<|yc h c40 fun _ w h=>yv h fun _ w h=>zn ?_
   exact zt hT h
 refine yG 2<|yp h fun _ h=>zm<|zn<|yg1 2 8 true [12,13] 13 h (fun _ T hT h=>?_) fun σ w h=>?_
 · refine zm<|yb h fun _ w h=>zn ?_
   exact zt hT h
 exact yG 2<|yp h fun _ h=>zm<|zn<|sim_end<|zk<|sim_ret<|body_ret1 rfl rfl h
def n44c1 (t0 t8 t12:Value) (R:RT) (w:World):Prop :=
 joinK (fun (t14:Value) (w:World) =>
 joinK (fun (t15:Value) (w:World) =>
 pickK t8 (.bool true) t15 fun t16 =>
 R (.returned t16) w) fun K4 =>
 guardP t8 false (
 pickK t12 t14 (.bool false) fun t15 =>
 K4 t15 w) (
 K4 undef w)) fun K3 =>
 guardP t12 true (
 opV Pg (binS .leq 5 true t0 (.int .u8 122)) (panK R) w fun t14 w =>
 K3 t14 w) (
 K3 undef w)
def n44c2 (t0 t4 t7:Value) (R:RT) (w:World):Prop :=
 pickK t4 t7 (.bool false) fun t8 =>
 joinK (fun (t12:Value) (w:World) =>
 n44c1 t0 t8 t12 R w) fun K2 =>
 guardP t8 false (
 opV Pg (binS .geq 5 true t0 (.int .u8 97)) (panK R) w fun t11 w =>
 K2 t11 w) (
 K2 undef w)
def n44 (t0:Value) (R:RT) (w:World):Prop :=
 opV Pg (binS .geq 5 true t0 (.int .u8 65)) (panK R) w fun t4 w =>
 joinK (fun (t7:Value) (w:World) =>
 n44c2 t0 t4 t7 R w) fun K1 =>
 guardP t4 true (
 opV Pg (binS .leq 5 true t0 (.int .u8 90)) (panK R) w fun t7 w =>
 K1 t7 w) (
 K1 undef w)
theorem n44s {t0:Value} {R:RT} {w:World} (h:n44 t0 R w):Calls Pg 39 #[t0] w R:=by
 refine yD Tryz.func39 ?_
 refine zs<|zr<|zm<|zn<|zk<|zs<|sim_regionG<|yG 3<|zm<|yb h fun _ w h=>zm<|zn<|yg1 2 2 true [6,7] 7 h (fun _ T hT h=>?_) fun σ w h=>?_
 · refine zm<|yb h fun _ w h=>zn ?_
   exact zt hT h
 refine yG 2<|yp h fun _ h=>zm<|zn<|yg1 3 6 false [10,11,12] 12 h (fun _ T hT h=>?_) fun σ w h=>?_
 · refine zm<|yb h fun _ w h=>zm<|zn ?_
   exact zt hT h
 refine yg1 2 9 true [13,14] 14 h (fun _ T hT h=>?_) fun σ w h=>?_
 · refine zm<|yb h fun _ w h=>zn ?_
   exact zt hT h
 refine yg1 1 6 false [15] 15 h (fun _ T hT h=>?_) fun σ w h=>?_
 · refine yp h fun _ h=>zn ?_
   exact zt hT h
 exact yG 2<|yp h fun _ h=>zm<|zn<|sim_end<|zk<|sim_ret<|body_ret1 rfl rfl h
def n43 (t0:Value) (R:RT) (w:World):Prop :=
 opV Pg (binS .geq 5 true t0 (.int .u8 48)) (panK R) w fun t4 w =>
 joinK (fun (t7:Value) (w:World) =>
 pickK t4 t7 (.bool false) fun t8 =>
 R (.returned t8) w) fun K1 =>
 guardP t4 true (
 opV Pg (binS .leq 5 true t0 (.int .u8 57)) (panK R) w fun t7 w =>
 K1 t7 w) (
 K1 undef w)
theorem n43s {t0:Value} {R:RT} {w:World} (h:n43 t0 R w):Calls Pg 40 #[t0] w R:=by
 refine yD Tryz.func40 ?_
 refine zs<|zr<|zm<|zn<|zk<|zs<|sim_regionG<|yG 3<|zm<|yb h fun _ w h=>zm<|zn<|yg1 2 2 true [6,7] 7 h (fun _ T hT h=>?_) fun σ w h=>?_
 · refine zm<|yb h fun _ w h=>zn ?_
   exact zt hT h
 exact yG 2<|yp h fun _ h=>zm<|zn<|sim_end<|zk<|sim_ret<|body_ret1 rfl rfl h
def n39 (t0:Value) (R:RT) (w:World):Prop :=
 callK Pg 77 #[t0,(.bool false)] (panK R) w fun t4 w =>
 opV Pg (Op.unary .not t4) (panK R) w fun t5 w =>
 R (.returned t5) w
theorem n39s {t0:Value} {R:RT} {w:World} (h:n39 t0 R w):Calls Pg 41 #[t0] w R:=by
 refine yD Tryz.func41 ?_
 exact zs<|zr<|zm<|zn<|zk<|zs<|zr<|zm<|yc h c77 fun _ w h=>yv h fun _ w h=>zm<|zn<|zk<|sim_ret<|body_ret1 rfl rfl h
def n54 (t0 t1:Value) (R:RT) (w:World):Prop :=
 callK Pg 78 #[t0,t1] (panK R) w fun t7 w =>
 opV Pg (binS .geq 3 true t7 (.int .i64 0)) (panK R) w fun t8 w =>
 R (.returned t8) w
theorem n54s {t0 t1:Value} {R:RT} {w:World} (h:n54 t0 t1 R w):Calls Pg 42 #[t0,t1] w R:=by
 refine yD Tryz.func42 ?_
 refine zs<|zr<|zm<|zn<|zk<|zs<|zr<|zm<|zm<|yc h c78 fun _ w h=>yb h fun _ w h=>zm<|zn<|zk<|sim_ret ?_
 exact body_ret1 rfl rfl h
def n38c1 (t16 t19 t22:Value) (C1:World→Prop) (K2:KV) (R:RT) (w:World):Prop :=
 opV Pg (Instr.buildSlice 116 3 #[(0,t16),(1,t19),(2,t22)]) (panK R) w fun t23 w =>
 C1 w∧(
 callK Pg 41 #[t23] (panK R) w fun t24 w =>
 C1 w∧(
 qV Pg C1 (Op.unary .not t24) fun t25 =>
 K2 t25 w))
def n38c2 (t2:Value) (C1:World→Prop) (K2:KV) (R:RT) (w:World):Prop :=
 qV Pg C1 (Instr.fieldAt 32 t2 0) fun t14 =>
 qV Pg C1 (Instr.loadAt 9 t14) fun t15 =>
 qV Pg C1 (Instr.fieldAt 32 t2 1) fun t17 =>
 qV Pg C1 (Instr.loadAt 3 t17) fun t18 =>
 qV Pg C1 (binS .neq 3 true t18 (.int .i64 0)) fun t19 =>
 qV Pg C1 (Instr.fieldAt 32 t2 1) fun t20 =>
 qV Pg C1 (Instr.loadAt 3 t20) fun t21 =>
 callK Pg 10 #[t15] (panK R) w fun t16 w =>
 C1 w∧(
 callK Pg 46 #[t21] (panK R) w fun t22 w =>
 C1 w∧(
 n38c1 t16 t19 t22 C1 K2 R w))
def n38 (t0 t1:Value) (R:RT) (w:World):Prop :=
 opV Pg (Instr.box 32 t0) (panK R) w fun t2 w =>
 opV Pg (Instr.loadAt 84 t1) (panK R) w fun t5 w =>
 opV Pg (Instr.fieldAt 32 t2 0) (panK R) w fun t6 w =>
 opV Pg (Instr.loadAt 9 t6) (panK R) w fun t7 w =>
 opV Pg (Instr.lookup 84 t5 t7 false) (panK R) w fun t8 w =>
 opV Pg (Instr.loadAt 84 t1) (panK R) w fun t9 w =>
 opV Pg (Instr.fieldAt 32 t2 0) (panK R) w fun t10 w =>
 opV Pg (Instr.loadAt 9 t10) (panK R) w fun t11 w =>
 opU Pg (Instr.mapUpdate 84 t9 t11 (.bool true)) (panK R) w fun w =>
 drawK w fun C1 w =>
 joinK (fun (t25:Value) (w:World) =>
 pickK t8 (.bool true) t25 fun t26 =>
 R (.returned t26) w) fun K2 =>
 guardP t8 false (
 n38c2 t2 C1 K2 R w) (
 K2 undef w)
theorem n38s {t0 t1:Value} {R:RT} {w:World} (h:n38 t0 t1 R w):Calls Pg 45 #[t0,t1] w R:=by
 refine yD Tryz.func45 ?_
 refine zs<|zr<|yv h fun _ w h=>zm<|zn<|zk<|zs<|zr<|yv h fun _ w h=>yv h fun _ w h=>yv h fun _ w h=>yv h fun _ w h=>zm<|zn<|zk ?_
 refine zs<|zr<|yv h fun _ w h=>yv h fun _ w h=>yv h fun _ w h=>yu h fun w h=>zn<|zk<|zs<|yh [3,12,13,14,15,16,17,18,19,20,21,22,23,24,25,26] h fun C hC h=>yw 0 hC ?_
 refine yw 1 hC ?_
 refine yj1 2 [13,12,11,10,4,9,8,7,6,5,3,2,1,0] [14,15,16,17,18,19,20,21,22,23,24,25] 25 h (fun _ hT hb h=>?_) (fun _ hT hb h=>?_) fun σ w hC h=>?_
 · refine ye 2 hC h fun _ h=>?_
   refine ye 3 hC h fun _ h=>?_
   refine ye 5 hC h fun _ h=>?_
   refine ye 6 hC h fun _ h=>?_
   refine ye 7 hC h fun _ h=>?_
   refine ye 8 hC h fun _ h=>?_
   refine ye 9 hC h fun _ h=>?_
   refine yo 4 ?_
   refine yc h c10 fun _ w h=>zn ?_
   obtain ⟨hC,h⟩:=h
   refine ⟨hC,?_⟩
   refine yo 10 ?_
   refine yc h c46 fun _ w h=>zn ?_
   obtain ⟨hC,h⟩:=h
   refine ⟨hC,?_⟩
   refine yo 11 ?_
   refine yS h fun _ w h=>zn ?_
   obtain ⟨hC,h⟩:=h
   refine ⟨hC,?_⟩
   refine yo 12 ?_
   refine yc h c41 fun _ w h=>zn ?_
   obtain ⟨hC,h⟩:=h
   refine ⟨hC,?_⟩
   refine ye 13 hC h fun _ h=>?_
   exact yt hT hC h
 · refine yi 2 hC ?_
   refine yi 3 hC ?_
   refine yi 5 hC ?_
   refine yi 6 hC ?_
   refine yi 7 hC ?_
   refine yi 8 hC ?_
   refine yi 9 hC ?_
   refine yi 4 hC ?_
   refine yi 10 hC ?_
   refine yi 11 hC ?_
   refine yi 12 hC ?_
   refine yi 13 hC ?_
   exact yt hT hC h
 refine yP 14 hC h fun _ h=>?_
 refine yw 15 hC ?_
 exact yz<|zk<|sim_ret<|body_ret1 rfl rfl h
def n47 (t0:Value) (R:RT) (w:World):Prop :=
 opV Pg (binS .geq 3 true t0 (.int .i64 (-1048576))) (panK R) w fun t4 w =>
 joinK (fun (t7:Value) (w:World) =>
 pickK t4 t7 (.bool false) fun t8 =>
 R (.returned t8) w) fun K1 =>
 guardP t4 true (
 opV Pg (binS .leq 3 true t0 (.int .i64 1048576)) (panK R) w fun t7 w =>
 K1 t7 w) (
 K1 undef w)
theorem n47s {t0:Value} {R:RT} {w:World} (h:n47 t0 R w):Calls Pg 46 #[t0] w R:=by
 refine yD Tryz.func46 ?_
 refine zs<|zr<|zm<|zn<|zk<|zs<|sim_regionG<|yG 3<|zm<|yb h fun _ w h=>zm<|zn<|yg1 2 2 true [6,7] 7 h (fun _ T hT h=>?_) fun σ w h=>?_
 · refine zm<|yb h fun _ w h=>zn ?_
   exact zt hT h
 exact yG 2<|yp h fun _ h=>zm<|zn<|sim_end<|zk<|sim_ret<|body_ret1 rfl rfl h
def n53 (t0 t1:Value) (R:RT) (w:World):Prop :=
 callK Pg 69 #[t0,t1] (panK R) w fun t7 w =>
 opV Pg (binS .geq 3 true t7 (.int .i64 0)) (panK R) w fun t8 w =>
 R (.returned t8) w
theorem n53s {t0 t1:Value} {R:RT} {w:World} (h:n53 t0 t1 R w):Calls Pg 47 #[t0,t1] w R:=by
 refine yD Tryz.func47 ?_
 refine zs<|zr<|zm<|zn<|zk<|zs<|zr<|zm<|zm<|yc h c69 fun _ w h=>yb h fun _ w h=>zm<|zn<|zk<|sim_ret ?_
 exact body_ret1 rfl rfl h
def n50 (t0:Value) (R:RT) (w:World):Prop :=
 opV Pg (binS .eql 22 true t0 (Value.slice none 0 0)) (panK R) w fun t4 w =>
 condP t4 (
 R (.returned (Value.slice none 0 0)) w) (
 opV Pg (Instr.buildSlice 22 0 #[]) (panK R) w fun t5 w =>
 opV Pg (Builtin.append_ #[22,22] 22 #[t5,t0]) (panK R) w fun t7 w =>
 R (.returned t7) w)
theorem n50s {t0:Value} {R:RT} {w:World} (h:n50 t0 R w):Calls Pg 49 #[t0] w R:=by
 refine yD Tryz.func49 ?_
 refine zs<|zr<|zm<|zn<|zk<|zs<|zs<|zr<|zm<|yb h fun _ w h=>zn<|zk<|yC h (fun h=>zs<|zr<|zm<|zn<|zk<|sim_ret<|sim_then_ret<|body_ret1 rfl rfl h) fun h=>sim_skip ?_
 exact zk<|zs<|zr<|yS h fun _ w h=>zm<|yx h fun _ w h=>zm<|zn<|zk<|sim_ret<|body_ret1 rfl rfl h
def n30c1 (t7 t14:Value) (next1:KV) (R:RT) (w:World):Prop :=
 opV Pg (Op.unary .not t14) (panK R) w fun t15 w =>
 condP t15 (
 R (.returned (.tuple #[])) w) (
 opV Pg (binS .add 3 true t7 (.int .i64 1)) (panK R) w fun t16 w =>
 next1 t16 w)
def n30c2 (t0 t5 t7:Value) (next1:KV) (R:RT) (w:World):Prop :=
 opV Pg (Instr.indexAt 22 t5 t7) (panK R) w fun t9 w =>
 opV Pg (Instr.loadAt 32 t9) (panK R) w fun t10 w =>
 opV Pg (Instr.alloc 32 true (.tuple #[])) (panK R) w fun t4 w =>
 opU Pg (Instr.storeAt 32 t4 t10) (panK R) w fun w =>
 opV Pg (Instr.fieldAt 32 t4 0) (panK R) w fun t12 w =>
 opV Pg (Instr.loadAt 9 t12) (panK R) w fun t13 w =>
 callV Pg t0 #[t13] (panK R) w fun t14 w =>
 n30c1 t7 t14 next1 R w
def n30 (t0 t1:Value) (R:RT) (w:World):Prop :=
 opV Pg (Instr.loadAt 22 t1) (panK R) w fun t5 w =>
 opV Pg (Builtin.len_ #[22] 3 #[t5]) (panK R) w fun t6 w =>
 loop1 (fun t7 w next1 =>
 opV Pg (binS .lss 3 false t7 t6) (panK R) w fun t8 w =>
 condP t8 (
 n30c2 t0 t5 t7 next1 R w) (
 R (.returned (.tuple #[])) w)) (.int .i64 0) w
theorem n30s {t0 t1:Value} {R:RT} {w:World} (h:n30 t0 t1 R w):Calls Pg 50 #[t0,t1] w R:=by
 refine yD Tryz.func50 ?_
 refine zs<|zr<|yv h fun _ w h=>yx h fun _ w h=>zm<|zn<|zk<|sim_block<|yl1 [4,7,8,9,10,11,12,13,14,15,16] 7 h fun σ w next h=>zs<|zr<|yb h fun _ w h=>zn<|zk<|zs ?_
 refine yC h (fun h=>?_) fun h=>?_
 · refine sim_skip<|zk<|zs<|sim_block<|zs<|zr<|yv h fun _ w h=>yv h fun _ w h=>yv h fun _ w h=>yu h fun w h=>zn<|zk<|zs<|zr<|zm ?_
   refine yv h fun _ w h=>yv h fun _ w h=>yV h fun _ w h=>yv h fun _ w h=>zn<|zk<|yC h (fun h=>sim_ret<|sim_block_ret<|sim_then_ret<|sim_then_ret<|sim_block_ret<|body_ret0 rfl h) fun h=>sim_skip<|sim_block_normal<|zk<|zr<|yb h fun _ w h=>zm<|zn ?_
   exact zk<|⟨rfl,h⟩
 exact sim_exit<|sim_then_exit<|sim_then_exit<|sim_block_hit<|body_normal<|body_ret0 rfl h
def n42c1 (t7 t8 t23:Value) (K2:World→Prop) (Qr1:List PanicEntry→World→Prop) (Xr1:Nat→World→Prop) (R:RT) (w:World):Prop :=
 opV Pg (Instr.loadAt 85 t7) Qr1 w fun t33 w =>
 callV Pg t33 #[t23] Qr1 w fun t35 w =>
 opV Pg (Op.unary .not t35) Qr1 w fun t36 w =>
 condP t36 (
 opU Pg (Instr.storeAt 39 t8 (.int .i64 2)) Qr1 w fun w =>
 Xr1 0 w) (
 K2 w)
def n42c2 (t5 t6 t7 t8 t9 t18:Value) (Kr1:World→Prop) (Qr1:List PanicEntry→World→Prop) (Xr1:Nat→World→Prop) (R:RT) (w:World):Prop :=
 opV Pg (Instr.loadAt 35 t6) Qr1 w fun t20 w =>
 opV Pg (Instr.lookup 35 t20 t18 true) Qr1 w fun t22 w =>
 opV Pg (Instr.extract t22 0) Qr1 w fun t23 w =>
 opV Pg (Instr.extract t22 1) Qr1 w fun t24 w =>
 opV Pg (Instr.loadAt 9 t5) Qr1 w fun t27 w =>
 opV Pg (binS .eql 9 false t18 t27) Qr1 w fun t28 w =>
 joinK (fun (w:World) =>
 Kr1 w) fun K2 =>
 condP t28 (
 K2 w) (
 opV Pg (Op.unary .not t24) Qr1 w fun t31 w =>
 condP t31 (
 opU Pg (Instr.storeAt 4 t9 (.bool true)) Qr1 w fun w =>
 K2 w) (
 n42c1 t7 t8 t23 K2 Qr1 Xr1 R w))
def n42c3 (t8 t9:Value) (ds:List Deferred) (R:RT) (w:World):Prop :=
 opV Pg (Instr.loadAt 4 t9) (outQ Pg ds [(some 39,t8)] R) w fun t37 w =>
 condP t37 (
 opU Pg (Instr.storeAt 39 t8 (.int .i64 9)) (outQ Pg ds [(some 39,t8)] R) w fun w =>
 outX Pg ds [(some 39,t8)] R w) (
 opU Pg (Instr.storeAt 39 t8 (.int .i64 0)) (outQ Pg ds [(some 39,t8)] R) w fun w =>
 outX Pg ds [(some 39,t8)] R w)
def n42c4 (t5 t6 t7 t8 t9 t17:Value) (ds:List Deferred) (R:RT) (w:World):Prop :=
 rangeN Pg t17 ds (fun l1 t18 w Kr1 Xr1 Qr1 =>
 busyK l1 w fun w =>
 n42c2 t5 t6 t7 t8 t9 t18 Kr1 Qr1 Xr1 R w) (fun ch ds w=>outQ Pg ds [(some 39,t8)] R ch w) w (fun ds w =>
 n42c3 t8 t9 ds R w) [fun ds w =>
 outX Pg ds [(some 39,t8)] R w]
def n42c5 (t4 t5 t6 t7 t8:Value) (ds:List Deferred) (R:RT) (w:World):Prop :=
 opV Pg (Instr.alloc 4 true (.tuple #[])) (outQ Pg ds [(some 39,t8)] R) w fun t9 w =>
 opU Pg (Instr.storeAt 4 t9 (.bool false)) (outQ Pg ds [(some 39,t8)] R) w fun w =>
 opV Pg (Instr.loadAt 24 t4) (outQ Pg ds [(some 39,t8)] R) w fun t16 w =>
 callK Pg 14 #[t16] (outQ Pg ds [(some 39,t8)] R) w fun t17 w =>
 n42c4 t5 t6 t7 t8 t9 t17 ds R w
def n42c6 (t4 t5 t6 t7 t8 t14:Value) (ds:List Deferred) (R:RT) (w:World):Prop :=
 opV Pg (Op.unary .not t14) (outQ Pg ds [(some 39,t8)] R) w fun t15 w =>
 condP t15 (
 opU Pg (Instr.storeAt 39 t8 (.int .i64 2)) (outQ Pg ds [(some 39,t8)] R) w fun w =>
 outX Pg ds [(some 39,t8)] R w) (
 n42c5 t4 t5 t6 t7 t8 ds R w)
def n42 (t0 t1 t2 t3:Value) (R:RT) (w:World):Prop :=
 (fun (ds:List Deferred) =>
 opV Pg (Instr.box 24 t0) (outQ Pg ds [(some 39,undef)] R) w fun t4 w =>
 opV Pg (Instr.box 9 t1) (outQ Pg ds [(some 39,undef)] R) w fun t5 w =>
 opV Pg (Instr.box 35 t2) (outQ Pg ds [(some 39,undef)] R) w fun t6 w =>
 opV Pg (Instr.box 85 t3) (outQ Pg ds [(some 39,undef)] R) w fun t7 w =>
 opV Pg (Instr.alloc 39 true (.tuple #[])) (outQ Pg ds [(some 39,undef)] R) w fun t8 w =>
 opV Pg (Instr.loadAt 24 t4) (outQ Pg ds [(some 39,t8)] R) w fun t13 w =>
 callK Pg 12 #[t13] (outQ Pg ds [(some 39,t8)] R) w fun t14 w =>
 n42c6 t4 t5 t6 t7 t8 t14 ds R w) []
theorem n42s {t0 t1 t2 t3:Value} {R:RT} {w:World} (h:n42 t0 t1 t2 t3 R w):Calls Pg 51 #[t0,t1,t2,t3] w R:=by
 refine yE Tryz.func51 ?_
 unfold n42 at h
 dsimp only at h
 refine zs<|zr<|yv h fun _ w h=>yv h fun _ w h=>yv h fun _ w h=>yv h fun _ w h=>yv h fun _ w h=>zn<|zk<|zs<|zs<|zr<|yv h fun _ w h=>yc h c12 fun _ w h=>yv h fun _ w h=>?_
 refine zn<|zk<|yC h (fun h=>zs<|zr<|yu h fun w h=>zn<|zk<|sim_ret<|sim_then_ret<|bodyM_ret rfl h) fun h=>sim_skip<|zk<|zs<|zr<|yv h fun _ w h=>yu h fun w h=>zn<|zk<|zs<|zs<|zr ?_
 refine yv h fun _ w h=>yc h c14 fun _ w h=>zn<|zk<|sim_block<|sim_range [.ret] h rfl (fun l1 t18 w Kr1 Xr1 Qr1 h=>?_) (fun ds w h=>?_) (fun c ds w h=>?_) (fun ch ds w h=>outQ_of rfl h)
 · refine zr<|zm<|zn<|zk ?_
   obtain ⟨hr,h⟩:=h
   refine ⟨rfl,hr,fun w hb=>?_⟩
   have h:=h w hb
   refine sim_block<|zs<|zr<|yv h fun _ w h=>zm<|yv h fun _ w h=>zm<|yv h fun _ w h=>yv h fun _ w h=>zm<|zm<|zn<|zk<|sim_block<|zs ?_
   refine zr<|zm<|yv h fun _ w h=>yb h fun _ w h=>zm<|zn<|zk<|yJ0 [29,30,31,32,33,34,35,36] h (fun _ _ hkK2 h=>?_) fun σ w h=>?_
   · refine yC h (fun h=>?_) fun h=>?_
     · refine sim_skip<|zk ?_
       exact zt hkK2 h
     refine zs<|zr<|zm<|yv h fun _ w h=>zm<|zn<|zk<|yC h (fun h=>?_) fun h=>?_
     · refine zr<|yu h fun w h=>zn<|zk ?_
       exact zt hkK2 h
     refine zs<|zr<|yv h fun _ w h=>zm<|yV h fun _ w h=>yv h fun _ w h=>zm<|zn<|zk<|yC h (fun h=>zs<|zr<|yu h fun w h=>zn<|zk<|sim_ret<|sim_then_ret<|sim_block_ret<|sim_block_ret<|⟨rfl,0,rfl,h⟩) fun h=>sim_skip<|zk ?_
     exact zt hkK2 h
   exact sim_block_normal<|sim_block_normal<|⟨rfl,h⟩
 · refine sim_block_normal<|zk<|zs<|zs<|zr<|yv h fun _ w h=>zn<|zk<|yC h (fun h=>zs<|zr<|yu h fun w h=>zn<|zk<|sim_ret<|sim_then_ret<|bodyM_ret rfl h) fun h=>sim_skip<|zk<|zs<|zr<|yu h fun w h=>?_
   exact zn<|zk<|sim_ret<|bodyM_ret rfl h
 rcases c with _ | c
 · refine ⟨_,rfl,.inl ⟨rfl,?_⟩⟩
   exact sim_block_ret<|sim_then_ret<|bodyM_ret rfl h
 exact h.elim
def n40 (t0:Value) (R:RT) (w:World):Prop :=
 opV Pg (binS .geq 3 true t0 (.int .i64 0)) (panK R) w fun t4 w =>
 joinK (fun (t7:Value) (w:World) =>
 pickK t4 t7 (.bool false) fun t8 =>
 R (.returned t8) w) fun K1 =>
 guardP t4 true (
 opV Pg (binS .lss 3 true t0 (.int .i64 34359738368)) (panK R) w fun t7 w =>
 K1 t7 w) (
 K1 undef w)
theorem n40s {t0:Value} {R:RT} {w:World} (h:n40 t0 R w):Calls Pg 52 #[t0] w R:=by
 refine yD Tryz.func52 ?_
 refine zs<|zr<|zm<|zn<|zk<|zs<|sim_regionG<|yG 3<|zm<|yb h fun _ w h=>zm<|zn<|yg1 2 2 true [6,7] 7 h (fun _ T hT h=>?_) fun σ w h=>?_
 · refine zm<|yb h fun _ w h=>zn ?_
   exact zt hT h
 exact yG 2<|yp h fun _ h=>zm<|zn<|sim_end<|zk<|sim_ret<|body_ret1 rfl rfl h
def n45c1 (t5 t13 t19 t22:Value) (C2:World→Prop) (next1:KW) (R:RT) (w:World):Prop :=
 qV Pg C2 (binS .mul 3 false t19 t22) fun t23 =>
 qV Pg C2 (binS .add 3 false t5 t23) fun t24 =>
 opV Pg (binS .add 3 true t13 (.int .i64 1)) (panK R) w fun t25 w =>
 next1 t24 t25 w
def n45c2 (t1 t5 t7 t13:Value) (C2:World→Prop) (next1:KW) (R:RT) (w:World):Prop :=
 qV Pg C2 (Instr.fieldAt 32 t7 1) fun t18 =>
 qV Pg C2 (Instr.loadAt 3 t18) fun t19 =>
 qV Pg C2 (Instr.loadAt 32 t7) fun t21 =>
 callV Pg t1 #[t21] (panK R) w fun t22 w =>
 C2 w∧(
 n45c1 t5 t13 t19 t22 C2 next1 R w)
def n45c3 (t1 t5 t11 t13:Value) (next1:KW) (R:RT) (w:World):Prop :=
 opV Pg (Instr.indexAt 22 t11 t13) (panK R) w fun t15 w =>
 opV Pg (Instr.loadAt 32 t15) (panK R) w fun t16 w =>
 opV Pg (Instr.alloc 32 true (.tuple #[])) (panK R) w fun t7 w =>
 opU Pg (Instr.storeAt 32 t7 t16) (panK R) w fun w =>
 drawK w fun C2 w =>
 n45c2 t1 t5 t7 t13 C2 next1 R w
def n45 (t0 t1:Value) (R:RT) (w:World):Prop :=
 opV Pg (Instr.box 24 t0) (panK R) w fun t2 w =>
 opV Pg (Instr.fieldAt 24 t2 0) (panK R) w fun t8 w =>
 opV Pg (Instr.loadAt 3 t8) (panK R) w fun t9 w =>
 opV Pg (Instr.fieldAt 24 t2 1) (panK R) w fun t10 w =>
 opV Pg (Instr.loadAt 22 t10) (panK R) w fun t11 w =>
 opV Pg (Builtin.len_ #[22] 3 #[t11]) (panK R) w fun t12 w =>
 loop2 (fun t5 t13 w next1 =>
 opV Pg (binS .lss 3 false t13 t12) (panK R) w fun t14 w =>
 condP t14 (
 n45c3 t1 t5 t11 t13 next1 R w) (
 R (.returned t5) w)) t9 (.int .i64 0) w
theorem n45s {t0 t1:Value} {R:RT} {w:World} (h:n45 t0 t1 R w):Calls Pg 53 #[t0,t1] w R:=by
 refine yD Tryz.func53 ?_
 refine zs<|zr<|yv h fun _ w h=>zm<|zn<|zk<|zs<|zr<|yv h fun _ w h=>yv h fun _ w h=>zm<|zn<|zk<|zs<|zs ?_
 refine zr<|yv h fun _ w h=>yv h fun _ w h=>yx h fun _ w h=>zm<|zn<|zk<|sim_block<|yl2 [5,7,13,14,15,16,17,18,19,20,21,22,23,24,25] 5 13 h fun σ w next h=>zs<|zr<|yb h fun _ w h=>zn<|zk<|zs ?_
 refine yC h (fun h=>?_) fun h=>?_
 · refine sim_skip<|zk<|zs<|sim_block<|zs<|zr<|yv h fun _ w h=>yv h fun _ w h=>yv h fun _ w h=>yu h fun w h=>zn<|zk<|yh [5,17,18,19,20,21,22,23,24] h fun C hC h=>yw 0 hC ?_
   refine ye 1 hC h fun _ h=>?_
   refine ye 2 hC h fun _ h=>?_
   refine yw 3 hC ?_
   refine ye 4 hC h fun _ h=>?_
   refine yo 5 ?_
   refine yV h fun _ w h=>zn ?_
   obtain ⟨hC,h⟩:=h
   refine ⟨hC,?_⟩
   refine ye 6 hC h fun _ h=>?_
   refine ye 7 hC h fun _ h=>?_
   refine yw 8 hC ?_
   exact yz<|sim_block_normal<|zk<|zr<|yb h fun _ w h=>zm<|zn<|zk<|⟨rfl,h⟩
 exact sim_exit<|sim_then_exit<|sim_then_exit<|sim_block_hit<|zk<|zs<|zr<|zm<|zm<|zn<|zk<|sim_ret<|body_ret1 rfl rfl h
def n21 (t0 t1:Value) (R:RT) (w:World):Prop :=
 opV Pg (Instr.box 32 t0) (panK R) w fun t2 w =>
 opV Pg (Instr.loadAt 35 t1) (panK R) w fun t4 w =>
 opV Pg (Instr.fieldAt 32 t2 0) (panK R) w fun t5 w =>
 opV Pg (Instr.loadAt 9 t5) (panK R) w fun t6 w =>
 opV Pg (Instr.lookup 35 t4 t6 false) (panK R) w fun t7 w =>
 R (.returned t7) w
theorem n21s {t0 t1:Value} {R:RT} {w:World} (h:n21 t0 t1 R w):Calls Pg 54 #[t0,t1] w R:=by
 refine yD Tryz.func54 ?_
 refine zs<|zr<|yv h fun _ w h=>zm<|zn<|zk<|zs<|zr<|yv h fun _ w h=>yv h fun _ w h=>yv h fun _ w h=>yv h fun _ w h=>zm<|zn<|zk ?_
 exact sim_ret<|body_ret1 rfl rfl h
def n23 (t0:Value) (R:RT) (w:World):Prop :=
 opV Pg (Instr.box 51 t0) (panK R) w fun t1 w =>
 opV Pg (Instr.fieldAt 51 t1 0) (panK R) w fun t3 w =>
 opV Pg (Instr.loadAt 3 t3) (panK R) w fun t4 w =>
 opV Pg (binS .geq 3 true t4 (.int .i64 0)) (panK R) w fun t5 w =>
 opV Pg (Instr.fieldAt 51 t1 0) (panK R) w fun t6 w =>
 opV Pg (Instr.loadAt 3 t6) (panK R) w fun t7 w =>
 opV Pg (Instr.fieldAt 51 t1 1) (panK R) w fun t8 w =>
 opV Pg (Instr.loadAt 3 t8) (panK R) w fun t9 w =>
 opV Pg (binS .leq 3 false t7 t9) (panK R) w fun t10 w =>
 opV Pg (Instr.fieldAt 51 t1 1) (panK R) w fun t11 w =>
 opV Pg (Instr.loadAt 3 t11) (panK R) w fun t12 w =>
 opV Pg (binS .lss 3 true t12 (.int .i64 34359738368)) (panK R) w fun t13 w =>
 opV Pg (Instr.buildSlice 116 3 #[(0,t5),(1,t10),(2,t13)]) (panK R) w fun t14 w =>
 callK Pg 41 #[t14] (panK R) w fun t15 w =>
 R (.returned t15) w
theorem n23s {t0:Value} {R:RT} {w:World} (h:n23 t0 R w):Calls Pg 57 #[t0] w R:=by
 refine yD Tryz.func57 ?_
 refine zs<|zr<|yv h fun _ w h=>zm<|zn<|zk<|zs<|zr<|yv h fun _ w h=>yv h fun _ w h=>yb h fun _ w h=>yv h fun _ w h=>yv h fun _ w h=>yv h fun _ w h=>yv h fun _ w h=>?_
 exact yb h fun _ w h=>yv h fun _ w h=>yv h fun _ w h=>yb h fun _ w h=>yS h fun _ w h=>yc h c41 fun _ w h=>zm<|zn<|zk<|sim_ret<|body_ret1 rfl rfl h
def n41c1 (t7 t8 t11:Value) (K2:World→Prop) (Qr1:List PanicEntry→World→Prop) (Xr1:Nat→World→Prop) (R:RT) (w:World):Prop :=
 opV Pg (Instr.loadAt 96 t7) Qr1 w fun t33 w =>
 opV Pg (Instr.loadAt 51 t11) Qr1 w fun t34 w =>
 callV Pg t33 #[t34] Qr1 w fun t35 w =>
 opV Pg (Op.unary .not t35) Qr1 w fun t36 w =>
 condP t36 (
 opU Pg (Instr.storeAt 39 t8 (.int .i64 2)) Qr1 w fun w =>
 Xr1 0 w) (
 K2 w)
def n41c2 (t5 t6 t7 t8 t9 t18:Value) (Kr1:World→Prop) (Qr1:List PanicEntry→World→Prop) (Xr1:Nat→World→Prop) (R:RT) (w:World):Prop :=
 opV Pg (Instr.loadAt 46 t6) Qr1 w fun t20 w =>
 opV Pg (Instr.lookup 46 t20 t18 true) Qr1 w fun t22 w =>
 opV Pg (Instr.extract t22 0) Qr1 w fun t23 w =>
 opV Pg (Instr.extract t22 1) Qr1 w fun t24 w =>
 opV Pg (Instr.alloc 51 true (.tuple #[])) Qr1 w fun t11 w =>
 opU Pg (Instr.storeAt 51 t11 t23) Qr1 w fun w =>
 opV Pg (Instr.loadAt 9 t5) Qr1 w fun t27 w =>
 opV Pg (binS .eql 9 false t18 t27) Qr1 w fun t28 w =>
 joinK (fun (w:World) =>
 Kr1 w) fun K2 =>
 condP t28 (
 K2 w) (
 opV Pg (Op.unary .not t24) Qr1 w fun t31 w =>
 condP t31 (
 opU Pg (Instr.storeAt 4 t9 (.bool true)) Qr1 w fun w =>
 K2 w) (
 n41c1 t7 t8 t11 K2 Qr1 Xr1 R w))
def n41c3 (t8 t9:Value) (ds:List Deferred) (R:RT) (w:World):Prop :=
 opV Pg (Instr.loadAt 4 t9) (outQ Pg ds [(some 39,t8)] R) w fun t37 w =>
 condP t37 (
 opU Pg (Instr.storeAt 39 t8 (.int .i64 9)) (outQ Pg ds [(some 39,t8)] R) w fun w =>
 outX Pg ds [(some 39,t8)] R w) (
 opU Pg (Instr.storeAt 39 t8 (.int .i64 0)) (outQ Pg ds [(some 39,t8)] R) w fun w =>
 outX Pg ds [(some 39,t8)] R w)
def n41c4 (t5 t6 t7 t8 t9 t17:Value) (ds:List Deferred) (R:RT) (w:World):Prop :=
 rangeN Pg t17 ds (fun l1 t18 w Kr1 Xr1 Qr1 =>
 busyK l1 w fun w =>
 n41c2 t5 t6 t7 t8 t9 t18 Kr1 Qr1 Xr1 R w) (fun ch ds w=>outQ Pg ds [(some 39,t8)] R ch w) w (fun ds w =>
 n41c3 t8 t9 ds R w) [fun ds w =>
 outX Pg ds [(some 39,t8)] R w]
def n41c5 (t4 t5 t6 t7 t8:Value) (ds:List Deferred) (R:RT) (w:World):Prop :=
 opV Pg (Instr.alloc 4 true (.tuple #[])) (outQ Pg ds [(some 39,t8)] R) w fun t9 w =>
 opU Pg (Instr.storeAt 4 t9 (.bool false)) (outQ Pg ds [(some 39,t8)] R) w fun w =>
 opV Pg (Instr.loadAt 24 t4) (outQ Pg ds [(some 39,t8)] R) w fun t16 w =>
 callK Pg 14 #[t16] (outQ Pg ds [(some 39,t8)] R) w fun t17 w =>
 n41c4 t5 t6 t7 t8 t9 t17 ds R w
def n41c6 (t4 t5 t6 t7 t8 t14:Value) (ds:List Deferred) (R:RT) (w:World):Prop :=
 opV Pg (Op.unary .not t14) (outQ Pg ds [(some 39,t8)] R) w fun t15 w =>
 condP t15 (
 opU Pg (Instr.storeAt 39 t8 (.int .i64 2)) (outQ Pg ds [(some 39,t8)] R) w fun w =>
 outX Pg ds [(some 39,t8)] R w) (
 n41c5 t4 t5 t6 t7 t8 ds R w)
def n41 (t0 t1 t2 t3:Value) (R:RT) (w:World):Prop :=
 (fun (ds:List Deferred) =>
 opV Pg (Instr.box 24 t0) (outQ Pg ds [(some 39,undef)] R) w fun t4 w =>
 opV Pg (Instr.box 9 t1) (outQ Pg ds [(some 39,undef)] R) w fun t5 w =>
 opV Pg (Instr.box 46 t2) (outQ Pg ds [(some 39,undef)] R) w fun t6 w =>
 opV Pg (Instr.box 96 t3) (outQ Pg ds [(some 39,undef)] R) w fun t7 w =>
 opV Pg (Instr.alloc 39 true (.tuple #[])) (outQ Pg ds [(some 39,undef)] R) w fun t8 w =>
 opV Pg (Instr.loadAt 24 t4) (outQ Pg ds [(some 39,t8)] R) w fun t13 w =>
 callK Pg 12 #[t13] (outQ Pg ds [(some 39,t8)] R) w fun t14 w =>
 n41c6 t4 t5 t6 t7 t8 t14 ds R w) []
theorem n41s {t0 t1 t2 t3:Value} {R:RT} {w:World} (h:n41 t0 t1 t2 t3 R w):Calls Pg 58 #[t0,t1,t2,t3] w R:=by
 refine yE Tryz.func58 ?_
 unfold n41 at h
 dsimp only at h
 refine zs<|zr<|yv h fun _ w h=>yv h fun _ w h=>yv h fun _ w h=>yv h fun _ w h=>yv h fun _ w h=>zn<|zk<|zs<|zs<|zr<|yv h fun _ w h=>yc h c12 fun _ w h=>yv h fun _ w h=>?_
 refine zn<|zk<|yC h (fun h=>zs<|zr<|yu h fun w h=>zn<|zk<|sim_ret<|sim_then_ret<|bodyM_ret rfl h) fun h=>sim_skip<|zk<|zs<|zr<|yv h fun _ w h=>yu h fun w h=>zn<|zk<|zs<|zs<|zr ?_
 refine yv h fun _ w h=>yc h c14 fun _ w h=>zn<|zk<|sim_block<|sim_range [.ret] h rfl (fun l1 t18 w Kr1 Xr1 Qr1 h=>?_) (fun ds w h=>?_) (fun c ds w h=>?_) (fun ch ds w h=>outQ_of rfl h)
 · refine zr<|zm<|zn<|zk ?_
   obtain ⟨hr,h⟩:=h
   refine ⟨rfl,hr,fun w hb=>?_⟩
   have h:=h w hb
   refine sim_block<|zs<|zr<|yv h fun _ w h=>zm<|yv h fun _ w h=>zm<|yv h fun _ w h=>yv h fun _ w h=>yv h fun _ w h=>yu h fun w h=>zm<|zn<|zk<|sim_block ?_
   refine zs<|zr<|zm<|yv h fun _ w h=>yb h fun _ w h=>zm<|zn<|zk<|yJ0 [29,30,31,32,33,34,35,36] h (fun _ _ hkK2 h=>?_) fun σ w h=>?_
   · refine yC h (fun h=>?_) fun h=>?_
     · refine sim_skip<|zk ?_
       exact zt hkK2 h
     refine zs<|zr<|zm<|yv h fun _ w h=>zm<|zn<|zk<|yC h (fun h=>?_) fun h=>?_
     · refine zr<|yu h fun w h=>zn<|zk ?_
       exact zt hkK2 h
     refine zs<|zr<|yv h fun _ w h=>yv h fun _ w h=>yV h fun _ w h=>yv h fun _ w h=>zm<|zn<|zk<|yC h (fun h=>zs<|zr<|yu h fun w h=>zn<|zk<|sim_ret<|sim_then_ret<|sim_block_ret<|sim_block_ret<|⟨rfl,0,rfl,h⟩) fun h=>sim_skip<|zk ?_
     exact zt hkK2 h
   exact sim_block_normal<|sim_block_normal<|⟨rfl,h⟩
 · refine sim_block_normal<|zk<|zs<|zs<|zr<|yv h fun _ w h=>zn<|zk<|yC h (fun h=>zs<|zr<|yu h fun w h=>zn<|zk<|sim_ret<|sim_then_ret<|bodyM_ret rfl h) fun h=>sim_skip<|zk<|zs<|zr<|yu h fun w h=>?_
   exact zn<|zk<|sim_ret<|bodyM_ret rfl h
 rcases c with _ | c
 · refine ⟨_,rfl,.inl ⟨rfl,?_⟩⟩
   exact sim_block_ret<|sim_then_ret<|bodyM_ret rfl h
 exact h.elim
def n24 (t0 t1 t2:Value) (R:RT) (w:World):Prop :=
 opV Pg (Instr.box 4 t0) (panK R) w fun t3 w =>
 opV Pg (Instr.loadAt 24 t1) (panK R) w fun t5 w =>
 opV Pg (Instr.makeFunc (.func 60) #[] #[t2,t3]) (panK R) w fun t6 w =>
 callK Pg 53 #[t5,t6] (panK R) w fun t7 w =>
 R (.returned t7) w
theorem n24s {t0 t1 t2:Value} {R:RT} {w:World} (h:n24 t0 t1 t2 R w):Calls Pg 59 #[t0,t1,t2] w R:=by
 refine yD Tryz.func59 ?_
 refine zs<|zr<|yv h fun _ w h=>zm<|zn<|zk<|zs<|zr<|yv h fun _ w h=>yF h fun _ w h=>yc h c53 fun _ w h=>zm<|zn<|zk<|sim_ret ?_
 exact body_ret1 rfl rfl h
def n25c1 (t1 t3:Value) (R:RT) (w:World):Prop :=
 opV Pg (Instr.loadAt 46 t1) (panK R) w fun t17 w =>
 opV Pg (Instr.fieldAt 32 t3 0) (panK R) w fun t18 w =>
 opV Pg (Instr.loadAt 9 t18) (panK R) w fun t19 w =>
 opV Pg (Instr.lookup 46 t17 t19 false) (panK R) w fun t20 w =>
 opV Pg (Instr.field 51 t20 1) (panK R) w fun t21 w =>
 R (.returned t21) w
def n25 (t0 t1 t2:Value) (R:RT) (w:World):Prop :=
 opV Pg (Instr.box 32 t0) (panK R) w fun t3 w =>
 opV Pg (Instr.loadAt 46 t1) (panK R) w fun t6 w =>
 opV Pg (Instr.fieldAt 32 t3 0) (panK R) w fun t7 w =>
 opV Pg (Instr.loadAt 9 t7) (panK R) w fun t8 w =>
 opV Pg (Instr.lookup 46 t6 t8 false) (panK R) w fun t9 w =>
 opV Pg (Instr.alloc 51 true (.tuple #[])) (panK R) w fun t5 w =>
 opU Pg (Instr.storeAt 51 t5 t9) (panK R) w fun w =>
 opV Pg (Instr.loadAt 4 t2) (panK R) w fun t10 w =>
 opV Pg (Instr.fieldAt 32 t3 1) (panK R) w fun t11 w =>
 opV Pg (Instr.loadAt 3 t11) (panK R) w fun t12 w =>
 opV Pg (binS .gtr 3 true t12 (.int .i64 0)) (panK R) w fun t13 w =>
 opV Pg (binS .eql 4 false t10 t13) (panK R) w fun t14 w =>
 condP t14 (
 opV Pg (Instr.fieldAt 51 t5 0) (panK R) w fun t15 w =>
 opV Pg (Instr.loadAt 3 t15) (panK R) w fun t16 w =>
 R (.returned t16) w) (
 n25c1 t1 t3 R w)
theorem n25s {t0 t1 t2:Value} {R:RT} {w:World} (h:n25 t0 t1 t2 R w):Calls Pg 60 #[t0,t1,t2] w R:=by
 refine yD Tryz.func60 ?_
 refine zs<|zr<|yv h fun _ w h=>zm<|zn<|zk<|zs<|zs<|zr<|yv h fun _ w h=>yv h fun _ w h=>yv h fun _ w h=>yv h fun _ w h=>yv h fun _ w h=>yu h fun w h=>?_
 refine zn<|zk<|zs<|zr<|yv h fun _ w h=>yv h fun _ w h=>yv h fun _ w h=>yb h fun _ w h=>yb h fun _ w h=>zn<|zk<|yC h (fun h=>zs<|zr<|yv h fun _ w h=>yv h fun _ w h=>zm<|zn<|zk<|sim_ret<|sim_then_ret<|body_ret1 rfl rfl h) fun h=>sim_skip<|zk ?_
 exact zs<|zr<|yv h fun _ w h=>yv h fun _ w h=>yv h fun _ w h=>yv h fun _ w h=>yv h fun _ w h=>zm<|zn<|zk<|sim_ret<|body_ret1 rfl rfl h
end Go.Proofs.YtpgkjhikdhdffaaGreatDoor
namespace Go.Sw
open Go.RowKit (Below)
structure LW3 (B:Nat) (w w':World):Prop where
 os:w'.os=w.os
 tape:w'.tape=w.tape
 output:w'.output=w.output
 size:w.heap.size≤w'.heap.size
 block:∀ b,b < B→b < w.heap.size→w'.heap[b]?=w.heap[b]?
end Go.Sw
namespace Go.Sw
open Go.RowKit (Below)
def KR5 (_B:Nat) (w w':World):Prop:=w.heap.size≤w'.heap.size∧(∀ (b:Nat) (r:Loop),w.heap[b]?=some (.loop r)→∃ st p,w'.heap[b]?=some (.loop { r with state:=st,pending:=p })) ∧
 (∀ (b:Nat),w.heap[b]?=some (.deferred (some []))→w'.heap[b]?=some (.deferred (some [])))
section
variable {B:Nat} {w w1 w2:World}
theorem KR5.of2 (h:KR B w w1):KR5 B w w1:=⟨h.1,h.2.1,h.2.2.1⟩
theorem KR5.refl (B:Nat) (w:World):KR5 B w w := .of2 (KR.refl B w)
theorem KR5.trans (h:KR5 B w w1) (k:KR5 B w1 w2):KR5 B w w2:=⟨Nat.le_trans h.1 k.1,fun b r hb=>by
 obtain ⟨st,p,h1⟩:=h.2.1 b r hb
 obtain ⟨st',p',h2⟩:=k.2.1 b _ h1
 exact ⟨st',p',h2⟩,fun b hb=>k.2.2 b (h.2.2 b hb)⟩
theorem KR5.of (e:Ext w w1):KR5 B w w1 := .of2 (.of e)
theorem KR5.setCell (h:KR5 B w w1) (b o:Nat) (v:Value):KR5 B w (w1.setCell ⟨b,o,none⟩ v):=h.trans ⟨by simp,fun b r hb=>⟨r.state,r.pending,(KeepsOthers.setCell w1 _ v).same _ _ hb rfl⟩,fun b hb=>(KeepsOthers.setCell w1 _ v).same _ _ hb rfl⟩
theorem KR5.turn {l:Nat} {r:Loop} (hl:w.heap[l]?=some (.loop r)) (st:LoopState) (p:Option Code):KR5 B w (w.putObj l (.loop { r with state:=st,pending:=p })) := .of2 (.turn hl st p)
theorem KR5.grown {row:Option Nat} (h:KR5 B w w1) (hg:w1.grownBy w2 row) (hr:∀ g,row=some g→∃ cs T f,w1.heap[g]?=some (.cells cs T f)):KR5 B w w2:=h.trans ⟨hg.size,fun b r hb=>⟨r.state,r.pending,(hg.block b (Array.getElem?_eq_some_iff.1 hb).1 (fun e=>by
 obtain ⟨cs,T,f,hc⟩:=hr b e.symm
 rw [hb] at hc;cases hc)).trans hb⟩,fun b hb=>(hg.block b (Array.getElem?_eq_some_iff.1 hb).1 (fun e=>by
 obtain ⟨cs,T,f,hc⟩:=hr b e.symm
 rw [hb] at hc;cases hc)).trans hb⟩
end
def Firm5 (B:Nat) (R:World→Prop):Prop:=∀ w w',KR5 B w w'→R w→R w'
theorem RecAt.firm5 (rec:Loop) (B b:Nat):Firm5 B (RecAt rec b):=fun w w' h ⟨h1,st,p,h2⟩=>by
 obtain ⟨st',p',h3⟩:=h.2.1 _ _ h2
 exact ⟨h.2.2 _ h1,st',p',h3⟩
end Go.Sw
namespace Go.Sw
open Go.RowKit (Below)
def softO:Obj→Bool
 | .loop _=>true
 | .deferred _=>true
 | .mapIter .. => true
 | _=>false
structure LW6 (B:Nat) (w w':World):Prop where
 os:w'.os=w.os
 tape:w'.tape=w.tape
 output:w'.output=w.output
 size:w.heap.size≤w'.heap.size
 block:∀ b,b < w.heap.size→w'.heap[b]?=w.heap[b]?∨(B≤b∧∃ o,w.heap[b]?=some o∧softO o=true)
theorem LW6.mono {B B':Nat} {w w':World} (h:LW6 B w w') (hb:B'≤B):LW6 B' w w':=⟨h.os,h.tape,h.output,h.size,fun b hl=>(h.block b hl).imp_right fun h=>⟨by omega,h.2⟩⟩
theorem LW6.of {B:Nat} {w w':World} (e:Ext w w'):LW6 B w w':=⟨e.os,e.tape,e.output,e.size,fun b hb => .inl (e.block b hb)⟩
theorem LW6.put {B l:Nat} {w:World} {o1:Obj} (hb:B≤l) (hl:w.heap[l]?=some o1) (hs:softO o1=true) (o:Obj):LW6 B w (w.putObj l o):=⟨rfl,rfl,rfl,by simp,fun b _=>by
 by_cases e:b=l
 · exact .inr ⟨by omega,o1,by rw [e];exact hl,hs⟩
 · exact .inl (World.putObj_heap_other e)⟩
def Lasts6 (B:Nat) (I:World→Prop):Prop:=∀ w w',LW6 B w w'→I w→I w'
theorem Lasts6.ext {B:Nat} {I:World→Prop} (h:Lasts6 B I) {w w':World} (hI:I w) (e:Ext w w'):I w':=h _ _ (.of e) hI
theorem Lasts6.loop {B l:Nat} {I:World→Prop} (h:Lasts6 B I) {w:World} {r:Loop} (hb:B≤l) (hI:I w) (hl:w.heap[l]?=some (.loop r)) (o:Obj):I (w.putObj l o):=h _ _ (.put hb hl rfl o) hI
theorem Lasts6.busied {B l:Nat} {I:World→Prop} {w w':World} (h:Lasts6 B I) (hb:Busied l w w') (hl:B≤l) (hI:I w):I w':=by
 obtain ⟨r,hr,rfl⟩:=hb
 exact h.loop hl hI hr _
theorem Lasts6.mono {B B':Nat} {I:World→Prop} (h:Lasts6 B I) (hb:B≤B'):Lasts6 B' I:=fun _ _ hl=>h _ _ (hl.mono hb)
theorem Lasts6.and {B:Nat} {I J:World→Prop} (h:Lasts6 B I) (k:Lasts6 B J):Lasts6 B (fun w=>I w∧J w):=fun w w' hl hh=>⟨h _ _ hl hh.1,k _ _ hl hh.2⟩
theorem Lasts6.ex {B:Nat} {α:Sort _} {I:α→World→Prop} (h:∀ x,Lasts6 B (I x)):Lasts6 B (fun w=>∃ x,I x w):=fun w w' hl ⟨x,hx⟩=>⟨x,h x _ _ hl hx⟩
theorem Lasts6.const (B:Nat) (p:Prop):Lasts6 B (fun _=>p):=fun _ _ _ h=>h
theorem Lasts6.from {B:Nat} {w0:World} (hb:w0.heap.size≤B):Lasts6 B (Ext w0):=fun w w' hl e=>⟨hl.os.trans e.os,hl.tape.trans e.tape,hl.output.trans e.output,Nat.le_trans e.size hl.size,fun k hk=>by
 have:=e.size
 rcases hl.block k (by omega) with h | ⟨h,_⟩
 · rw [h];exact e.block k hk
 · omega⟩
theorem Lasts6.has (B:Nat) {b:Nat} {o:Obj} (h1:softO o=false):Lasts6 B (fun w=>w.heap[b]?=some o):=fun w w' hl h=>by
 rcases hl.block b (Array.getElem?_eq_some_iff.1 h).1 with e | ⟨_,o',e,hs⟩
 · rw [e];exact h
 · rw [h] at e;injection e with e;subst e;rw [h1] at hs;cases hs
theorem Lasts6.low {B b:Nat} (hb:b < B) (o:Obj):Lasts6 B (fun w=>w.heap[b]?=some o):=fun w w' hl h=>by
 rcases hl.block b (Array.getElem?_eq_some_iff.1 h).1 with e | ⟨e,_⟩
 · rw [e];exact h
 · omega
theorem Lasts6.own {α:Type} {B base n:Nat} {T:TypeId} {enc:α→List Value} {v:Value} {l:List α}:Lasts6 B (fun w=>OwnE w base T n enc v l):=fun w w' hl h=>by
 obtain ⟨h1,h2⟩:=h
 refine ⟨h1,?_⟩
 rcases h2 with h2 | ⟨g,cap,cur,hv,a1,a2,a3⟩
 · exact .inl h2
 · exact .inr ⟨g,cap,cur,hv,a1,Lasts6.has B (o := .cells _ _ _) rfl w w' hl a2,a3⟩
def keepO:Obj→Bool
 | .mapIter .. => true
 | .map .. => true
 | _=>false
def KR6 (B:Nat) (w w':World):Prop:=KR5 B w w'∧∀ (b:Nat) (o:Obj),w.heap[b]?=some o→keepO o=true→w'.heap[b]?=some o
section
variable {B:Nat} {w w1 w2:World}
theorem KR6.refl (B:Nat) (w:World):KR6 B w w:=⟨KR5.refl B w,fun _ _ h _=>h⟩
theorem KR6.trans (h:KR6 B w w1) (k:KR6 B w1 w2):KR6 B w w2:=⟨h.1.trans k.1,fun b o hb ho=>k.2 b o (h.2 b o hb ho) ho⟩
theorem KR6.of (e:Ext w w1):KR6 B w w1:=⟨KR5.of e,fun b o hb _=>e.obj hb⟩
theorem KR6.ext (h:KR6 B w w1) (e:Ext w1 w2):KR6 B w w2:=h.trans (.of e)
theorem KR6.turn {l:Nat} {r:Loop} (hl:w.heap[l]?=some (.loop r)) (st:LoopState) (p:Option Code):KR6 B w (w.putObj l (.loop { r with state:=st,pending:=p })):=⟨KR5.turn hl st p,fun b o hb ho=>by
 by_cases e:b=l
 · subst e;rw [hl] at hb;injection hb with hb;subst hb;cases ho
 · rw [World.putObj_heap_other e];exact hb⟩
theorem KR6.busied {l:Nat} (h:Busied l w w1):KR6 B w w1:=by
 obtain ⟨r,hr,rfl⟩:=h
 exact KR6.turn hr .busy r.pending
theorem KR6.cell (h:KR6 B w w1) {b:Nat} {cs:Array Value} {T:TypeId} {f:Nat×Nat} (hb:w1.heap[b]?=some (.cells cs T f)) (o:Nat) (v:Value):KR6 B w (w1.setCell ⟨b,o,none⟩ v):=h.trans ⟨(KR5.refl B w1).setCell b o v,fun b' o' hb' ho=>by
 by_cases e:b'=b
 · subst e;rw [hb] at hb';injection hb' with hb';subst hb';cases ho
 · rw [heap_setE e];exact hb'⟩
theorem KR6.grown {row:Option Nat} (h:KR6 B w w1) (hg:w1.grownBy w2 row) (hr:∀ g,row=some g→∃ cs T f,w1.heap[g]?=some (.cells cs T f)):KR6 B w w2:=h.trans ⟨(KR5.refl B w1).grown hg hr,fun b o hb ho=>(hg.block b (Array.getElem?_eq_some_iff.1 hb).1 (fun e=>by
 obtain ⟨cs,T,f,hc⟩:=hr b e.symm
 rw [hb] at hc;injection hc with hc;subst hc;cases ho)).trans hb⟩
end
def Firm6 (B:Nat) (R:World→Prop):Prop:=∀ w w',KR6 B w w'→R w→R w'
theorem RecAt.firm6 (rec:Loop) (B b:Nat):Firm6 B (RecAt rec b):=fun w w' h hr=>RecAt.firm5 rec B b w w' h.1 hr
theorem Firm6.and {B:Nat} {R S:World→Prop} (h:Firm6 B R) (k:Firm6 B S):Firm6 B (fun w=>R w∧S w):=fun w w' e hh=>⟨h _ _ e hh.1,k _ _ e hh.2⟩
theorem Firm6.keep {B b:Nat} {o:Obj} (ho:keepO o=Bool.true):Firm6 B (fun w=>w.heap[b]?=some o):=fun w w' h k=>h.2 b o k ho
def SeqIt6 (P:Program) (f:FuncId) (caps:Array Value) (Al:List Value→Value→Prop) (Fin:List Value→Prop) (FP:World→Prop):Prop :=
 ∀ (yv:Value) (J:List Value→World→Prop) (Jx:World→Prop) (Jp:List PanicEntry→World→Prop) (w:World),yv.oneCell'=true→(∀ k w,J k w→FP w)→(∀ k,Lasts6 w.heap.size (J k))→Lasts6 w.heap.size Jx→(∀ ch,Lasts6 w.heap.size (Jp ch)) →
  (∀ k x,Al k x→∀ Rk,Firm6 w.heap.size Rk→∀ w,J k w→Rk w→callV P yv #[x] (fun ch w'=>Rk w'∧Jp ch w') w (fun v w'=>Rk w'∧((v = .bool true∧J (k++[x]) w')∨(v = .bool false∧Jx w'))))→J [] w →
  Calls P f (#[yv]++caps) w (fun e w'=>match e with
   | .returned _=>(∃ k,Fin k∧J k w')∨Jx w'
   | .panicked ch=>Jp ch w'
   | .outgrown=>False)
def rangeN6 (P:Program) (fv:Value) (ds:List Deferred) (body:Nat→Value→World→(World→Prop)→(Nat→World→Prop)→(List PanicEntry→World→Prop)→Prop) (QP:List PanicEntry→List Deferred→World→Prop) (w:World)
 (k:List Deferred→World→Prop) (kx:List (List Deferred→World→Prop)):Prop :=
 ∃ (f:FuncId) (caps:Array Value) (Al:List Value→Value→Prop) (Fin:List Value→Prop) (FP:World→Prop) (I:List Value→World→Prop) (Ix:Nat→World→Prop) (Ip:List PanicEntry→World→Prop),
  fv = .func (.func f) #[] caps∧Callable P f∧SeqIt6 P f caps Al Fin FP∧I [] w∧(∀ k w,I k w→FP w)∧(∀ k,Lasts6 w.heap.size (I k))∧(∀ c,Lasts6 w.heap.size (Ix c))∧(∀ ch,Lasts6 w.heap.size (Ip ch)) ∧
  (∀ (Rk:World→Prop),Firm6 (w.heap.size+1+1) Rk→∀ (j:List Value) (x:Value) (w':World),Al j x→I j w'→Rk w'→w.heap.size+1 < w'.heap.size→ReadyAt (w.heap.size+1) w' →
   body (w.heap.size+1) x w' (fun w''=>Rk w''∧I (j++[x]) w'') (fun c w''=>Rk w''∧Ix c w'') (fun ch w''=>Rk w''∧Ip ch w'')) ∧
  (∀ j w',Fin j→I j w'→MarkAt w.heap.size w'→k (mark w.heap.size::ds) w') ∧
  (∀ c w',Ix c w'→MarkAt w.heap.size w'→nthK kx c (mark w.heap.size::ds) w') ∧
  (∀ ch w',Ip ch w'→MarkAt w.heap.size w'→QP ch (mark w.heap.size::ds) w')
section
variable {P:Program} {N:Nat}
theorem sim_range6 {g:Operand} {p:Nat} {asg body:Code} {Q:K} {QP:KP} {ρ:Env} {ds:List Deferred} {w:World} {fv:Value} {nbody:Nat→Value→World→(World→Prop)→(Nat→World→Prop)→(List PanicEntry→World→Prop)→Prop} {QPn:List PanicEntry→List Deferred→World→Prop}
 {k:List Deferred→World→Prop} {kx:List (List Deferred→World→Prop)} (js:List Code) (h:rangeN6 P fv ds nbody QPn w k kx) (hg:ev ρ g=fv)
 (hbody:∀ l x w K X QPr,nbody l x w K X QPr→den P N (some l) asg (thenK (fun ρ' ds' w'=>ds'=[]∧busyK l w' (fun w''=>den P N (some l) body (roundK js K X) (roundQP QPr) ρ' [] w'')) (fun _ _ _ _=>False)) (fun _ _ _ _=>False) (put N ρ (some p) x) [] w)
 (hk:∀ ds w,k ds w→Q .normal ρ ds w) (hx:∀ c ds w,nthK kx c ds w→∃ code,js[c]?=some code∧((code = .ret∧Q .ret ρ ds w)∨(∃ id,code = .exit id∧Q (.exit id) ρ ds w))) (hp:∀ ch ds w,QPn ch ds w→QP ch ρ ds w) :
 den P N none (.rangeFunc g #[p] asg body) Q QP ρ ds w:=by
 intro a ha hds
 subst hds
 obtain ⟨f,caps,Al,Fin,FP,I,Ix,Ip,hfv,hcal,hseq,h0,hFP,hL,hLx,hLp,hround,hend,hjump,hpan⟩:=h
 refine wpV_rangeFunc fun fn hfn=>?_
 obtain ⟨rec,hrec⟩:∃ rec:Loop,rec={ state := .ready,pending:=none,fn,tmps:=a.tmps,params := #[p],assign:=asg,body,defers:=w.heap.size }:=⟨_,rfl⟩
 obtain ⟨W1,hW1⟩:∃ W1,(w.alloc (.deferred (some []))).alloc (.loop rec)=W1:=⟨_,rfl⟩
 have hE1:Ext w W1:=by rw [← hW1];exact ((Ext.refl w).alloc _).alloc _
 have hW1s:W1.heap.size=w.heap.size+1+1:=by rw [← hW1];simp
 have hL1:W1.heap[w.heap.size+1]?=some (.loop rec):=by
  rw [← hW1];have:=World.alloc_heap_new (w.alloc (.deferred (some []))) (.loop rec);rwa [World.size_alloc] at this
 have hK1:MarkAt w.heap.size W1:=by
  rw [← hW1];exact MarkAt.alloc (World.alloc_heap_new w _) _
 have hev:a.eval g=fv:=by rw [ha.eval];exact hg
 refine ⟨w.heap.size+1,[mark w.heap.size],W1,{ target := .fn (.func f) caps,args := #[.func (.yield (w.heap.size+1)) #[] #[]] },W1,f,#[.func (.yield (w.heap.size+1)) #[] #[]]++caps,W1,?_,?_,?_,?_⟩
 · rw [← hW1,hrec];exact run_enterLoop_outer _ _ _ _ _
 · simp only [resolve,hev,hfv]
   simp [go_sem]
 · simp only [invoke]
   exact callFunc_run hcal _ _
 · refine Calls.mono (hseq (.func (.yield (w.heap.size+1)) #[] #[]) (fun j w'=>I j w'∧MarkAt w.heap.size w'∧∃ p,w'.heap[w.heap.size+1]?=some (.loop { rec with state := .ready,pending:=p })∧p=none)
    (fun w'=>MarkAt w.heap.size w'∧∃ c code,Ix c w'∧js[c]?=some code∧w'.heap[w.heap.size+1]?=some (.loop { rec with state := .done,pending:=some code }))
    (fun ch w'=>MarkAt w.heap.size w'∧Ip ch w') W1 rfl (fun j w' hj=>hFP j w' hj.1) (fun j=>((hL j).mono (by omega)).and ((Lasts6.low (by omega) _).and (.ex fun q=>(Lasts6.low (by omega) _).and (.const _ _))))
    ((Lasts6.low (by omega) _).and (.ex fun c => .ex fun code=>((hLx c).mono (by omega)).and ((Lasts6.const _ _).and (Lasts6.low (by omega) _)))) (fun ch=>(Lasts6.low (by omega) _).and ((hLp ch).mono (by omega))) ?_ ⟨(hL []).ext h0 hE1,hK1,none,by rw [hL1,hrec],rfl⟩) ?_
   · rintro j x hj Rk hF w' ⟨hi,hm,q,hl,rfl⟩ hR
     have hlt:w.heap.size+1 < w'.heap.size:=(Array.getElem?_eq_some_iff.1 hl).1
     have hy:=run_yield (P:=P) (args := #[x]) hl (by rw [hrec];rfl)
     show onNext P _ _ _ _
     have hcs:callS (.func (.yield (w.heap.size+1)) #[] #[]) #[x]=Instr.yield (w.heap.size+1) #[x]:=by
      simp [callS,Deferred.ofValue,invoke,go_sem,bind,pure,Sem.bind]
     rw [hcs,hy]
     have key:∀ R,wpV (some (w.heap.size+1)) P asg (Exit.then (fun a₁ w₁=>∃ w₂,(Instr.beginRound (w.heap.size+1)).run P w₁ = .ok () w₂∧wpV (some (w.heap.size+1)) P body (endV P (w.heap.size+1) R) a₁ w₂) (fun _ _ _=>False)) { tmps:=((#[p].zip #[x]).foldl (fun tmps (t,a)=>tmps.setIfInBounds t a) a.tmps),defers:=[] } w' →
      RoundV P (w.heap.size+1) rec.fn ((rec.params.zip #[x]).foldl (fun tmps (t,a)=>tmps.setIfInBounds t a) rec.tmps) rec.assign rec.body w' R:=by
      intro R h;rw [hrec];exact roundV_of_wpV hfn h
     refine key _ ?_
     have hb:=hbody _ _ _ _ _ _ (hround _ ((RecAt.firm6 rec _ w.heap.size).and (hW1s ▸ hF)) j x w' hj hi ⟨⟨hm,_,_,hl⟩,hR⟩ hlt ⟨_,hl,rfl⟩)
     have hagr:Agrees N ({ tmps:=((#[p].zip #[x]).foldl (fun tmps (t,a)=>tmps.setIfInBounds t a) a.tmps),defers:=[] }:Act) (put N ρ (some p) x):=by
      have:=(Agrees.defers ha []).put (some p) x
      simpa [Act.put] using this
     refine wpV_mono (den_sound asg _ _ _ _ _ hagr hb) ?_
     intro e a1 w1 hl1
     cases e with
     | panic ch=>obtain ⟨_,_,hf⟩:=hl1;exact hf.elim
     | outgrown=>exact hl1
     | exit id=>obtain ⟨_,_,_,hf⟩:=hl1;exact hf.elim
     | goto l=>obtain ⟨_,_,_,hf⟩:=hl1;exact hf.elim
     | ret=>obtain ⟨_,_,_,hf⟩:=hl1;exact hf.elim
     | normal =>
      obtain ⟨ρ1,ha1,_,hd1,hbz⟩:=hl1
      obtain ⟨⟨r,hr1,hr2⟩,hbz⟩:=hbz
      refine ⟨_,run_beginRound hr1 hr2,?_⟩
      rw [show a1={ a1 with defers:=[] } by rw [← hd1]]
      refine wpV_mono (den_sound body _ _ _ _ _ (Agrees.defers ha1 []) (hbz _ ⟨_,hr1,rfl⟩)) ?_
      have fin:∀ (jump:Option Code) (w2:World),RecAt rec w.heap.size w2→(Instr.endRound (w.heap.size+1) jump).run P w2 = .ok (.bool jump.isNone) (w2.putObj (w.heap.size+1) (.loop { rec with state:=if jump.isNone then .ready else .done,pending:=jump })) ∧
       (w2.putObj (w.heap.size+1) (.loop { rec with state:=if jump.isNone then .ready else .done,pending:=jump })).heap[w.heap.size+1]?=some (.loop { rec with state:=if jump.isNone then .ready else .done,pending:=jump }) ∧
       MarkAt w.heap.size (w2.putObj (w.heap.size+1) (.loop { rec with state:=if jump.isNone then .ready else .done,pending:=jump })):=by
       rintro jump w2 ⟨hm2,st,q,hq⟩
       refine ⟨by have:=run_endRound (P:=P) jump hq;exact this,World.putObj_heap_same (Array.getElem?_eq_some_iff.1 hq).1,?_⟩
       unfold MarkAt
       rw [World.putObj_heap_other (by omega)];exact hm2
      intro e a2 w2 hl2
      cases e with
      | normal =>
       obtain ⟨_,_,_,_,⟨hrec2,hR2⟩,hi2⟩:=hl2
       obtain ⟨f1,f2,f3⟩:=fin none w2 hrec2
       obtain ⟨_,st,q,hq⟩:=hrec2
       exact ⟨_,_,f1,hF _ _ (KR6.turn hq _ _) hR2,.inl ⟨rfl,(hL _).loop (Nat.le_succ _) hi2 hq _,f3,none,f2,rfl⟩⟩
      | ret =>
       obtain ⟨_,_,_,_,c,hc,⟨hrec2,hR2⟩,hi2⟩:=hl2
       obtain ⟨f1,f2,f3⟩:=fin (some .ret) w2 hrec2
       obtain ⟨_,st,q,hq⟩:=hrec2
       exact ⟨_,_,f1,hF _ _ (KR6.turn hq _ _) hR2,.inr ⟨rfl,f3,c,_,(hLx _).loop (Nat.le_succ _) hi2 hq _,hc,f2⟩⟩
      | exit id =>
       obtain ⟨_,_,_,_,c,hc,⟨hrec2,hR2⟩,hi2⟩:=hl2
       obtain ⟨f1,f2,f3⟩:=fin (some (.exit id)) w2 hrec2
       obtain ⟨_,st,q,hq⟩:=hrec2
       exact ⟨_,_,f1,hF _ _ (KR6.turn hq _ _) hR2,.inr ⟨rfl,f3,c,_,(hLx _).loop (Nat.le_succ _) hi2 hq _,hc,f2⟩⟩
      | panic ch =>
       obtain ⟨_,_,hd2,⟨hrec2,hR2⟩,hi2⟩:=hl2
       exact ⟨hd2,hR2,hrec2.1,hi2⟩
      | goto l=>obtain ⟨_,_,_,hf⟩:=hl2;exact hf.elim
      | outgrown=>exact hl2
   · have hagr:Agrees N ({ a with defers:=[mark w.heap.size]++a.defers }:Act) ρ:=ha
     have exh:∀ (st:LoopState) (q:Option Code) (w':World),w'.heap[w.heap.size+1]?=some (.loop { rec with state:=st,pending:=q })→st ≠ .busy→MarkAt w.heap.size w' →
      (Instr.endLoop (w.heap.size+1)).run P w' = .ok q (w'.putObj (w.heap.size+1) (.loop { rec with state := .exhausted,pending:=q }))∧MarkAt w.heap.size (w'.putObj (w.heap.size+1) (.loop { rec with state := .exhausted,pending:=q })):=by
      intro st q w' hq hne hm
      refine ⟨by have:=run_endLoop (P:=P) hq hne;exact this,?_⟩
      unfold MarkAt
      rw [World.putObj_heap_other (by omega)];exact hm
     rintro e w' he
     cases e with
     | returned v =>
      rcases he with ⟨j,hfin,hi,hm,q,hl,rfl⟩ | ⟨hm,c,code,hi,hc,hl⟩
      · obtain ⟨e1,e2⟩:=exh _ _ w' hl (by simp) hm
        exact ⟨none,_,e1,hagr,hk _ _ (hend j _ hfin ((hL _).loop (Nat.le_succ _) hi hl _) e2)⟩
      · obtain ⟨e1,e2⟩:=exh _ _ w' hl (by simp) hm
        refine ⟨some code,_,e1,?_⟩
        obtain ⟨code',hc',hden⟩:=hx c _ _ (hjump c _ ((hLx _).loop (Nat.le_succ _) hi hl _) e2)
        rw [hc] at hc';cases hc'
        rcases hden with ⟨rfl,hq⟩ | ⟨id,rfl,hq⟩
        · exact wpV_ret ⟨hagr,hq⟩
        · exact wpV_exit ⟨hagr,hq⟩
     | panicked ch=>exact ⟨hagr,hp _ _ _ (hpan ch _ he.2 he.1)⟩
     | outgrown=>exact he.elim
end
end Go.Sw
namespace Go.Proofs.YtpgkjhikdhdffaaGreatDoor
open Sw
def n56c1 (t0 t14:Value) (K1:KV) (R:RT) (w:World):Prop :=
 opV Pg (Builtin.cap_ #[22] 3 #[t0]) (panK R) w fun t19 w =>
 opV Pg (Instr.sliceAt 22 t0 none (some t19) none) (panK R) w fun t20 w =>
 opV Pg (Builtin.append_ #[22,3] 22 #[t20,t14]) (panK R) w fun t22 w =>
 opV Pg (Builtin.len_ #[22] 3 #[t0]) (panK R) w fun t24 w =>
 opV Pg (Instr.sliceAt 22 t22 none (some t24) none) (panK R) w fun t25 w =>
 K1 t25 w
def n56c2 (R:RT) (w:World):Prop :=
 opV Pg (Instr.makeInterface 9 (.string { data := #[99,97,110,110,111,116,32,98,101,32,110,101,103,97,116,105,118,101] })) (panK R) w fun t7 w =>
 opV Pg (Instr.panic t7) (panK R) w fun _ w =>
 False
def n56c3 (t0 t1:Value) (R:RT) (w:World):Prop :=
 opV Pg (Builtin.cap_ #[22] 3 #[t0]) (panK R) w fun t10 w =>
 opV Pg (Builtin.len_ #[22] 3 #[t0]) (panK R) w fun t12 w =>
 opV Pg (binS .sub 3 false t10 t12) (panK R) w fun t13 w =>
 opV Pg (binS .sub 3 false t1 t13) (panK R) w fun t14 w =>
 opV Pg (binS .gtr 3 true t14 (.int .i64 0)) (panK R) w fun t16 w =>
 joinK (fun (t1000:Value) (w:World) =>
 R (.returned t1000) w) fun K1 =>
 condP t16 (
 n56c1 t0 t14 K1 R w) (
 K1 t0 w)
def n56 (t0 t1:Value) (R:RT) (w:World):Prop :=
 opV Pg (binS .lss 3 true t1 (.int .i64 0)) (panK R) w fun t6 w =>
 condP t6 (
 n56c2 R w) (
 n56c3 t0 t1 R w)
theorem n56s {t0 t1:Value} {R:RT} {w:World} (h:n56 t0 t1 R w):Calls Pg 88 #[t0,t1] w R:=by
 refine yD Tryz.func88 ?_
 refine zs<|zr<|zm<|zn<|zk<|zs<|zs<|zr<|zm<|yb h fun _ w h=>zn<|zk<|yC h (fun h=>zr<|yv h fun _ w h=>yv h fun _ w h=>zn<|h.elim) fun h=>sim_skip ?_
 refine zk<|zs<|zs<|zr<|zm<|zm<|yx h fun _ w h=>zm<|yx h fun _ w h=>yb h fun _ w h=>yb h fun _ w h=>zm<|zn<|zk<|zs ?_
 refine zr<|zm<|yb h fun _ w h=>zn<|zk<|yJ1 [0,17,18,19,20,21,22,23,24,25] 0 h (fun _ _ hkK1 h=>?_) fun σ w h=>?_
 · refine yC h (fun h=>?_) fun h=>?_
   · refine zr<|zm<|zm<|yx h fun _ w h=>yv h fun _ w h=>zm<|yx h fun _ w h=>zm<|yx h fun _ w h=>yv h fun _ w h=>zm<|zn<|zk ?_
     exact zt hkK1 h
   refine sim_skip<|zk ?_
   exact zt hkK1 h
 exact zk<|zs<|zr<|zm<|zm<|zn<|zk<|sim_ret<|body_ret1 rfl rfl h
def n60 (t0:Value) (R:RT) (w:World):Prop :=
 callK Pg 103 #[t0] (panK R) w fun t5 w =>
 callK Pg 104 #[t5] (panK R) w fun t7 w =>
 R (.returned t5) w
theorem n60s {t0:Value} {R:RT} {w:World} (h:n60 t0 R w):Calls Pg 89 #[t0] w R:=by
 refine yD Tryz.func89 ?_
 refine zs<|zr<|zm<|zn<|zk<|zs<|zr<|zm<|yc h c103 fun _ w h=>zm<|zn<|zk<|zs<|zr<|zm ?_
 exact yc h c104 fun _ w h=>zn<|zk<|zs<|zr<|zm<|zm<|zn<|zk<|sim_ret<|body_ret1 rfl rfl h
def n7 (t0:Value) (R:RT) (w:World):Prop :=
 opV Pg (Instr.box 35 t0) (panK R) w fun t1 w =>
 opV Pg (Instr.makeFunc (.func 105) #[] #[t1]) (panK R) w fun t3 w =>
 R (.returned t3) w
theorem n7s {t0:Value} {R:RT} {w:World} (h:n7 t0 R w):Calls Pg 90 #[t0] w R:=by
 refine yD Tryz.func90 ?_
 exact zs<|zr<|yv h fun _ w h=>zm<|zn<|zk<|zs<|zr<|yF h fun _ w h=>zm<|zn<|zk<|sim_ret<|body_ret1 rfl rfl h
def n59c1 (t0 t1 t8:Value) (next1:KV) (R:RT) (w:World):Prop :=
 opV Pg (Instr.indexAt 116 t0 t8) (panK R) w fun t14 w =>
 opV Pg (Instr.loadAt 4 t14) (panK R) w fun t15 w =>
 opV Pg (binS .eql 4 false t1 t15) (panK R) w fun t16 w =>
 condP t16 (
 R (.returned t8) w) (
 opV Pg (binS .add 3 true t8 (.int .i64 1)) (panK R) w fun t18 w =>
 next1 t18 w)
def n59 (t0 t1:Value) (R:RT) (w:World):Prop :=
 opV Pg (Builtin.len_ #[116] 3 #[t0]) (panK R) w fun t7 w =>
 loop1 (fun t8 w next1 =>
 opV Pg (binS .lss 3 false t8 t7) (panK R) w fun t9 w =>
 condP t9 (
 n59c1 t0 t1 t8 next1 R w) (
 R (.returned (.int .i64 (-1))) w)) (.int .i64 0) w
theorem n59s {t0 t1:Value} {R:RT} {w:World} (h:n59 t0 t1 R w):Calls Pg 91 #[t0,t1] w R:=by
 refine yD Tryz.func91 ?_
 refine zs<|zr<|zm<|zn<|zk<|zs<|zs<|zr<|zm<|yx h fun _ w h=>zm<|zn<|zk<|sim_block<|yl1 [4,5,8,9,10,11,12,13,14,15,16,17,18] 8 h fun σ w next h=>?_
 refine zs<|zr<|yb h fun _ w h=>zn<|zk<|zs<|yC h (fun h=>?_) fun h=>?_
 · refine sim_skip<|zk<|zs<|sim_block<|zs<|zr<|zm<|zm<|zn<|zk<|zs<|zr<|zm<|zm<|zm ?_
   refine yv h fun _ w h=>yv h fun _ w h=>yb h fun _ w h=>zn<|zk<|yC h (fun h=>zs<|zr<|zm<|zm<|zn<|zk<|sim_ret<|sim_block_ret<|sim_then_ret<|sim_then_ret<|sim_block_ret<|sim_then_ret<|body_ret1 rfl rfl h) fun h=>sim_skip<|sim_block_normal<|zk<|zr<|yb h fun _ w h=>zm<|zn<|zk ?_
   exact ⟨rfl,h⟩
 exact sim_exit<|sim_then_exit<|sim_then_exit<|sim_block_hit<|zk<|zs<|zr<|zm<|zn<|zk<|sim_ret<|body_ret1 rfl rfl h
def n51 (t0:Value) (R:RT) (w:World):Prop :=
 callK Pg 112 #[(Value.slice none 0 0),t0] (panK R) w fun t4 w =>
 R (.returned t4) w
theorem n51s {t0:Value} {R:RT} {w:World} (h:n51 t0 R w):Calls Pg 103 #[t0] w R:=by
 refine yD Tryz.func103 ?_
 exact zs<|zr<|zm<|zn<|zk<|zs<|zr<|zm<|yc h c112 fun _ w h=>zm<|zn<|zk<|sim_ret<|body_ret1 rfl rfl h
def n8c1 (t0 t5:Value) (next1:World→Prop) (R:RT) (w:World):Prop :=
 opV Pg (Instr.entry t5) (panK R) w fun t8 w =>
 opV Pg (Instr.extract t8 0) (panK R) w fun t9 w =>
 callV Pg t0 #[t9] (panK R) w fun t12 w =>
 opV Pg (Op.unary .not t12) (panK R) w fun t13 w =>
 condP t13 (
 R (.returned (.tuple #[])) w) (
 next1 w)
def n8c2 (t0 t5:Value) (next1:World→Prop) (R:RT) (w:World):Prop :=
 opV Pg (Instr.next t5 false 0) (panK R) w fun t6 w =>
 opV Pg (Instr.extract t6 0) (panK R) w fun t7 w =>
 condP t7 (
 n8c1 t0 t5 next1 R w) (
 R (.returned (.tuple #[])) w)
def n8 (t0 t1:Value) (R:RT) (w:World):Prop :=
 opV Pg (Instr.loadAt 35 t1) (panK R) w fun t4 w =>
 opV Pg (Instr.range 35 t4) (panK R) w fun t5 w =>
 loop0 (fun w next1 =>
 n8c2 t0 t5 next1 R w) w
theorem n8s {t0 t1:Value} {R:RT} {w:World} (h:n8 t0 t1 R w):Calls Pg 105 #[t0,t1] w R:=by
 refine yD Tryz.func105 ?_
 refine zs<|zr<|yv h fun _ w h=>yv h fun _ w h=>zn<|zk<|sim_block<|yl0 [3,6,7,8,9,10,11,12,13] h fun σ w next h=>zs<|zr<|yv h fun _ w h=>yv h fun _ w h=>zn<|zk<|zs ?_
 refine yC h (fun h=>?_) fun h=>?_
 · refine sim_skip<|zk<|sim_block<|zs<|zr<|yv h fun _ w h=>yv h fun _ w h=>zm<|zn<|zk<|zs<|zr<|zm<|zm<|yV h fun _ w h=>?_
   exact yv h fun _ w h=>zn<|zk<|yC h (fun h=>sim_ret<|sim_block_ret<|sim_then_ret<|sim_block_ret<|body_ret0 rfl h) fun h=>sim_skip<|sim_block_normal<|zk<|⟨rfl,h⟩
 exact sim_exit<|sim_then_exit<|sim_then_exit<|sim_block_hit<|body_normal<|body_ret0 rfl h
def n49c1 (t2 t7:Value) (Kr1:World→Prop) (Qr1:List PanicEntry→World→Prop) (R:RT) (w:World):Prop :=
 opV Pg (Instr.loadAt 129 t2) Qr1 w fun t8 w =>
 opV Pg (Instr.buildSlice 129 1 #[(0,t7)]) Qr1 w fun t10 w =>
 opV Pg (Builtin.append_ #[129,129] 129 #[t8,t10]) Qr1 w fun t11 w =>
 opU Pg (Instr.storeAt 129 t2 t11) Qr1 w fun w =>
 Kr1 w
def n49 (t0 t1:Value) (R:RT) (w:World):Prop :=
 (fun (ds:List Deferred) =>
 opV Pg (Instr.box 129 t0) (outQ Pg ds [(none,undef)] R) w fun t2 w =>
 Sw.rangeN6 Pg t1 ds (fun l1 t7 w Kr1 Xr1 Qr1 =>
 busyK l1 w fun w =>
 n49c1 t2 t7 Kr1 Qr1 R w) (fun ch ds w=>outQ Pg ds [(none,(Value.slice none 0 0))] R ch w) w (fun ds w =>
 opV Pg (Instr.loadAt 129 t2) (outQ Pg ds [(none,(Value.slice none 0 0))] R) w fun t12 w =>
 outX Pg ds [(none,t12)] R w) []) []
theorem n49s {t0 t1:Value} {R:RT} {w:World} (h:n49 t0 t1 R w):Calls Pg 112 #[t0,t1] w R:=by
 refine yE Tryz.func112 ?_
 unfold n49 at h
 dsimp only at h
 refine zs<|zr<|yv h fun _ w h=>zm<|zn<|zk<|zs<|zs<|zr<|zm<|zn<|zk<|sim_block<|sim_range6 [] h rfl (fun l1 t7 w Kr1 Xr1 Qr1 h=>?_) (fun ds w h=>?_) (fun c ds w h=>?_) (fun ch ds w h=>outQ_of rfl h)
 · refine zr<|zm<|zn<|zk ?_
   obtain ⟨hr,h⟩:=h
   refine ⟨rfl,hr,fun w hb=>?_⟩
   have h:=h w hb
   exact sim_block<|zr<|yv h fun _ w h=>zm<|yS h fun _ w h=>yx h fun _ w h=>yu h fun w h=>zn<|sim_block_normal<|⟨rfl,h⟩
 · exact sim_block_normal<|zk<|zs<|zr<|yv h fun _ w h=>zm<|zn<|zk<|sim_ret<|bodyM_ret rfl h
 exact h.elim
def n12c1 (t113 t118:Value) (R:RT) (w:World):Prop :=
 pickK t113 t118 (.bool false) fun t119 =>
 joinK (fun (t124:Value) (w:World) =>
 pickK t119 t124 (.bool false) fun t125 =>
 R (.returned t125) w) fun K13 =>
 guardP t119 true (
 opV Pg (Instr.build 32 #[(0,(.string { data := #[110] })),(1,(.int .i64 (-1)))]) (panK R) w fun t121 w =>
 opV Pg (Instr.buildSlice 22 1 #[(0,t121)]) (panK R) w fun t122 w =>
 opV Pg (Instr.build 24 #[(0,(.int .i64 3)),(1,t122)]) (panK R) w fun t123 w =>
 callK Pg 37 #[t123,(.string { data := #[45,110,43,51] })] (panK R) w fun t124 w =>
 K13 t124 w) (
 K13 undef w)
def n12c2 (t109 t112:Value) (R:RT) (w:World):Prop :=
 pickK t109 t112 (.bool false) fun t113 =>
 joinK (fun (t118:Value) (w:World) =>
 n12c1 t113 t118 R w) fun K12 =>
 guardP t113 true (
 opV Pg (Instr.build 32 #[(0,(.string { data := #[110] })),(1,(.int .i64 1))]) (panK R) w fun t115 w =>
 opV Pg (Instr.buildSlice 22 1 #[(0,t115)]) (panK R) w fun t116 w =>
 opV Pg (Instr.build 24 #[(0,(.int .i64 (-8))),(1,t116)]) (panK R) w fun t117 w =>
 callK Pg 37 #[t117,(.string { data := #[110,45,56] })] (panK R) w fun t118 w =>
 K12 t118 w) (
 K12 undef w)
def n12c3 (t109:Value) (R:RT) (w:World):Prop :=
 joinK (fun (t112:Value) (w:World) =>
 n12c2 t109 t112 R w) fun K11 =>
 guardP t109 true (
 opV Pg (Instr.build 24 #[]) (panK R) w fun t111 w =>
 callK Pg 37 #[t111,(.string { data := #[48] })] (panK R) w fun t112 w =>
 K11 t112 w) (
 K11 undef w)
def n12c4 (R:RT) (w:World):Prop :=
 callK Pg 36 #[] (panK R) w fun t108 w =>
 callK Pg 37 #[t108,(.string { data := #[50,42,110,45,109,43,52] })] (panK R) w fun t109 w =>
 n12c3 t109 R w
def n12c5 (t9:Value) (K10:KV) (R:RT) (w:World):Prop :=
 opV Pg (Instr.loadAt 24 t9) (panK R) w fun t100 w =>
 opV Pg (Instr.build 32 #[(0,(.string { data := #[97] })),(1,(.int .i64 3))]) (panK R) w fun t101 w =>
 opV Pg (Instr.build 32 #[(0,(.string { data := #[110] })),(1,(.int .i64 2))]) (panK R) w fun t102 w =>
 opV Pg (Instr.buildSlice 22 2 #[(0,t101),(1,t102)]) (panK R) w fun t103 w =>
 opV Pg (Instr.build 24 #[(1,t103)]) (panK R) w fun t104 w =>
 callK Pg 26 #[t100,t104] (panK R) w fun t105 w =>
 opV Pg (Op.unary .not t105) (panK R) w fun t106 w =>
 K10 t106 w
def n12c6 (t9 t94 t97:Value) (R:RT) (w:World):Prop :=
 pickK t94 (.bool true) t97 fun t98 =>
 joinK (fun (t106:Value) (w:World) =>
 pickK t98 (.bool true) t106 fun t107 =>
 condP t107 (
 R (.returned (.bool false)) w) (
 n12c4 R w)) fun K10 =>
 guardP t98 false (
 n12c5 t9 K10 R w) (
 K10 undef w)
def n12c7 (t9 t71 t90 t93:Value) (R:RT) (w:World):Prop :=
 pickK t90 (.bool true) t93 fun t94 =>
 joinK (fun (t97:Value) (w:World) =>
 n12c6 t9 t94 t97 R w) fun K9 =>
 guardP t94 false (
 opV Pg (binS .neq 39 true t71 (.int .i64 0)) (panK R) w fun t97 w =>
 K9 t97 w) (
 K9 undef w)
def n12c8 (t9 t62 t71 t86 t89:Value) (R:RT) (w:World):Prop :=
 pickK t86 (.bool true) t89 fun t90 =>
 joinK (fun (t93:Value) (w:World) =>
 n12c7 t9 t71 t90 t93 R w) fun K8 =>
 guardP t90 false (
 opV Pg (binS .neq 39 true t62 (.int .i64 6)) (panK R) w fun t93 w =>
 K8 t93 w) (
 K8 undef w)
def n12c9 (t9 t58 t62 t71 t82 t85:Value) (R:RT) (w:World):Prop :=
 pickK t82 (.bool true) t85 fun t86 =>
 joinK (fun (t89:Value) (w:World) =>
 n12c8 t9 t62 t71 t86 t89 R w) fun K7 =>
 guardP t86 false (
 opV Pg (binS .neq 39 true t58 (.int .i64 9)) (panK R) w fun t89 w =>
 K7 t89 w) (
 K7 undef w)
def n12c10 (t9 t51 t58 t62 t71 t78 t81:Value) (R:RT) (w:World):Prop :=
 pickK t78 (.bool true) t81 fun t82 =>
 joinK (fun (t85:Value) (w:World) =>
 n12c9 t9 t58 t62 t71 t82 t85 R w) fun K6 =>
 guardP t82 false (
 opV Pg (binS .neq 39 true t51 (.int .i64 0)) (panK R) w fun t85 w =>
 K6 t85 w) (
 K6 undef w)
def n12c11 (t9 t50 t51 t58 t62 t71 t74 t77:Value) (R:RT) (w:World):Prop :=
 pickK t74 (.bool true) t77 fun t78 =>
 joinK (fun (t81:Value) (w:World) =>
 n12c10 t9 t51 t58 t62 t71 t78 t81 R w) fun K5 =>
 guardP t78 false (
 opV Pg (binS .neq 3 true t50 (.int .i64 5)) (panK R) w fun t81 w =>
 K5 t81 w) (
 K5 undef w)
def n12c12 (t1 t44 t50 t51 t58 t62 t69:Value) (R:RT) (w:World):Prop :=
 opV Pg (Instr.extract t69 0) (panK R) w fun t70 w =>
 opV Pg (Instr.extract t69 1) (panK R) w fun t71 w =>
 opV Pg (Instr.alloc 24 true (.tuple #[])) (panK R) w fun t9 w =>
 opU Pg (Instr.storeAt 24 t9 t70) (panK R) w fun w =>
 opV Pg (Instr.loadAt 51 t1) (panK R) w fun t72 w =>
 opV Pg (Instr.build 51 #[(1,(.int .i64 23))]) (panK R) w fun t73 w =>
 opV Pg (binS .neq 51 false t72 t73) (panK R) w fun t74 w =>
 joinK (fun (t77:Value) (w:World) =>
 n12c11 t9 t50 t51 t58 t62 t71 t74 t77 R w) fun K4 =>
 guardP t74 false (
 opV Pg (binS .neq 39 true t44 (.int .i64 0)) (panK R) w fun t77 w =>
 K4 t77 w) (
 K4 undef w)
def n12c13 (t1 t44 t50 t51 t58 t62 t64:Value) (R:RT) (w:World):Prop :=
 opV Pg (Instr.build 32 #[(0,(.string { data := #[109] })),(1,(.int .i64 1))]) (panK R) w fun t65 w =>
 opV Pg (Instr.build 32 #[(0,(.string { data := #[97] })),(1,(.int .i64 3))]) (panK R) w fun t66 w =>
 opV Pg (Instr.buildSlice 22 2 #[(0,t65),(1,t66)]) (panK R) w fun t67 w =>
 opV Pg (Instr.build 24 #[(0,(.int .i64 (-4))),(1,t67)]) (panK R) w fun t68 w =>
 callK Pg 29 #[t64,t68] (panK R) w fun t69 w =>
 n12c12 t1 t44 t50 t51 t58 t62 t69 R w
def n12c14 (t1 t44 t50 t51 t58 t60:Value) (R:RT) (w:World):Prop :=
 opV Pg (Instr.extract t60 0) (panK R) w fun t61 w =>
 opV Pg (Instr.extract t60 1) (panK R) w fun t62 w =>
 opV Pg (Instr.alloc 24 true (.tuple #[])) (panK R) w fun t7 w =>
 opU Pg (Instr.storeAt 24 t7 t61) (panK R) w fun w =>
 callK Pg 36 #[] (panK R) w fun t64 w =>
 n12c13 t1 t44 t50 t51 t58 t62 t64 R w
def n12c15 (t1 t44 t50 t51 t56:Value) (R:RT) (w:World):Prop :=
 opV Pg (Instr.extract t56 0) (panK R) w fun t57 w =>
 opV Pg (Instr.extract t56 1) (panK R) w fun t58 w =>
 callK Pg 24 #[(.string { data := #[110,42,50] })] (panK R) w fun t60 w =>
 n12c14 t1 t44 t50 t51 t58 t60 R w
def n12c16 (t1 t44 t50 t51 t53:Value) (R:RT) (w:World):Prop :=
 opV Pg (Instr.makeMap 35 none) (panK R) w fun t54 w =>
 opU Pg (Instr.mapUpdate 35 t54 (.string { data := #[109] }) (.int .i64 3)) (panK R) w fun w =>
 callK Pg 28 #[t53,(.string { data := #[110] }),(.int .i64 12),t54] (panK R) w fun t56 w =>
 n12c15 t1 t44 t50 t51 t56 R w
def n12c17 (t1 t44 t49:Value) (R:RT) (w:World):Prop :=
 opV Pg (Instr.extract t49 0) (panK R) w fun t50 w =>
 opV Pg (Instr.extract t49 1) (panK R) w fun t51 w =>
 callK Pg 36 #[] (panK R) w fun t53 w =>
 n12c16 t1 t44 t50 t51 t53 R w
def n12c18 (t1 t44 t46:Value) (R:RT) (w:World):Prop :=
 opV Pg (Instr.makeMap 35 none) (panK R) w fun t47 w =>
 opU Pg (Instr.mapUpdate 35 t47 (.string { data := #[109] }) (.int .i64 3)) (panK R) w fun w =>
 callK Pg 28 #[t46,(.string { data := #[110] }),(.int .i64 11),t47] (panK R) w fun t49 w =>
 n12c17 t1 t44 t49 R w
def n12c19 (t42:Value) (R:RT) (w:World):Prop :=
 opV Pg (Instr.extract t42 0) (panK R) w fun t43 w =>
 opV Pg (Instr.extract t42 1) (panK R) w fun t44 w =>
 opV Pg (Instr.alloc 51 true (.tuple #[])) (panK R) w fun t1 w =>
 opU Pg (Instr.storeAt 51 t1 t43) (panK R) w fun w =>
 callK Pg 36 #[] (panK R) w fun t46 w =>
 n12c18 t1 t44 t46 R w
def n12c20 (t37:Value) (R:RT) (w:World):Prop :=
 opV Pg (Instr.makeMap 46 none) (panK R) w fun t38 w =>
 opV Pg (Instr.build 51 #[(1,(.int .i64 10))]) (panK R) w fun t39 w =>
 opU Pg (Instr.mapUpdate 46 t38 (.string { data := #[110] }) t39) (panK R) w fun w =>
 opV Pg (Instr.build 51 #[(0,(.int .i64 1)),(1,(.int .i64 4))]) (panK R) w fun t40 w =>
 opU Pg (Instr.mapUpdate 46 t38 (.string { data := #[109] }) t40) (panK R) w fun w =>
 callK Pg 21 #[t37,t38] (panK R) w fun t42 w =>
 n12c19 t42 R w
def n12c21 (K3:KV) (R:RT) (w:World):Prop :=
 opV Pg (Instr.build 78 #[(0,(.string { data := #[110] })),(1,(.int .i64 0))]) (panK R) w fun t30 w =>
 opV Pg (Instr.build 78 #[(0,(.string { data := #[109] })),(1,(.int .i64 5))]) (panK R) w fun t31 w =>
 opV Pg (Instr.buildSlice 34 2 #[(0,t30),(1,t31)]) (panK R) w fun t32 w =>
 callK Pg 35 #[(.func (.func 17) #[] #[]),(.int .i64 0),(.int .i64 3),t32] (panK R) w fun t33 w =>
 opV Pg (Op.unary .not t33) (panK R) w fun t34 w =>
 K3 t34 w
def n12c22 (t21 t27:Value) (R:RT) (w:World):Prop :=
 pickK t21 (.bool true) t27 fun t28 =>
 joinK (fun (t34:Value) (w:World) =>
 pickK t28 (.bool true) t34 fun t35 =>
 condP t35 (
 R (.returned (.bool false)) w) (
 callK Pg 36 #[] (panK R) w fun t37 w =>
 n12c20 t37 R w)) fun K3 =>
 guardP t28 false (
 n12c21 K3 R w) (
 K3 undef w)
def n12c23 (K2:KV) (R:RT) (w:World):Prop :=
 opV Pg (Instr.build 78 #[(0,(.string { data := #[110] })),(1,(.int .i64 (-1)))]) (panK R) w fun t23 w =>
 opV Pg (Instr.build 78 #[(0,(.string { data := #[109] })),(1,(.int .i64 0))]) (panK R) w fun t24 w =>
 opV Pg (Instr.buildSlice 34 2 #[(0,t23),(1,t24)]) (panK R) w fun t25 w =>
 callK Pg 35 #[(.func (.func 16) #[] #[]),(.int .i64 0),(.int .i64 2),t25] (panK R) w fun t26 w =>
 opV Pg (Op.unary .not t26) (panK R) w fun t27 w =>
 K2 t27 w
def n12c24 (t15 t20:Value) (R:RT) (w:World):Prop :=
 pickK t15 (.bool true) t20 fun t21 =>
 joinK (fun (t27:Value) (w:World) =>
 n12c22 t21 t27 R w) fun K2 =>
 guardP t21 false (
 n12c23 K2 R w) (
 K2 undef w)
def n12c25 (t14:Value) (R:RT) (w:World):Prop :=
 opV Pg (Op.unary .not t14) (panK R) w fun t15 w =>
 joinK (fun (t20:Value) (w:World) =>
 n12c24 t15 t20 R w) fun K1 =>
 guardP t15 false (
 opV Pg (Instr.build 78 #[(0,(.string { data := #[110] })),(1,(.int .i64 5))]) (panK R) w fun t17 w =>
 opV Pg (Instr.buildSlice 34 1 #[(0,t17)]) (panK R) w fun t18 w =>
 callK Pg 35 #[(.func (.func 16) #[] #[]),(.int .i64 0),(.int .i64 9),t18] (panK R) w fun t19 w =>
 opV Pg (Op.unary .not t19) (panK R) w fun t20 w =>
 K1 t20 w) (
 K1 undef w)
def n12 (R:RT) (w:World):Prop :=
 opV Pg (Instr.build 78 #[(0,(.string { data := #[110] })),(1,(.int .i64 5))]) (panK R) w fun t11 w =>
 opV Pg (Instr.build 78 #[(0,(.string { data := #[109] })),(1,(.int .i64 3))]) (panK R) w fun t12 w =>
 opV Pg (Instr.buildSlice 34 2 #[(0,t11),(1,t12)]) (panK R) w fun t13 w =>
 callK Pg 35 #[(.func (.func 16) #[] #[]),(.int .i64 11),(.int .i64 0),t13] (panK R) w fun t14 w =>
 n12c25 t14 R w
set_option maxHeartbeats 40000000 in
theorem n12s {R:RT} {w:World} (h:n12 R w):Calls Pg 9 #[] w R:=by
 refine yD Tryz.func9 ?_
 refine zs<|zr<|zm<|zn<|zk<|zs<|zs<|sim_regionG<|yG 6<|yB h fun _ w h=>yB h fun _ w h=>yS h fun _ w h=>yc h c35 fun _ w h=>yv h fun _ w h=>zm ?_
 refine zn<|yg1 4 5 false [17,18,19,20] 20 h (fun _ T hT h=>?_) fun σ w h=>?_
 · refine yB h fun _ w h=>yS h fun _ w h=>yc h c35 fun _ w h=>yv h fun _ w h=>zn ?_
   exact zt hT h
 refine yG 2<|yp h fun _ h=>zm<|zn<|yg1 5 11 false [23,24,25,26,27] 27 h (fun _ T hT h=>?_) fun σ w h=>?_
 · refine yB h fun _ w h=>yB h fun _ w h=>yS h fun _ w h=>yc h c35 fun _ w h=>yv h fun _ w h=>zn ?_
   exact zt hT h
 refine yG 2<|yp h fun _ h=>zm<|zn<|yg1 5 18 false [30,31,32,33,34] 34 h (fun _ T hT h=>?_) fun σ w h=>?_
 · refine yB h fun _ w h=>yB h fun _ w h=>yS h fun _ w h=>yc h c35 fun _ w h=>yv h fun _ w h=>zn ?_
   exact zt hT h
 refine yG 1<|yp h fun _ h=>zn<|sim_end<|zk<|yC h (fun h=>zs<|zr<|zm<|zn<|zk<|sim_ret<|sim_then_ret<|body_ret1 rfl rfl h) fun h=>sim_skip<|zk<|zs<|zr<|yc h c36 fun _ w h=>yv h fun _ w h=>yB h fun _ w h=>yu h fun w h=>?_
 refine yB h fun _ w h=>yu h fun w h=>zm<|yc h c21 fun _ w h=>zm<|yv h fun _ w h=>yv h fun _ w h=>yv h fun _ w h=>yu h fun w h=>zm<|zn<|zk<|zs<|zr<|yc h c36 fun _ w h=>?_
 refine yv h fun _ w h=>yu h fun w h=>zm<|yc h c28 fun _ w h=>zm<|yv h fun _ w h=>yv h fun _ w h=>zm<|zm<|zn<|zk<|zs<|zr<|yc h c36 fun _ w h=>yv h fun _ w h=>?_
 refine yu h fun w h=>zm<|yc h c28 fun _ w h=>zm<|yv h fun _ w h=>yv h fun _ w h=>zm<|zm<|zn<|zk<|zs<|zr<|yc h c24 fun _ w h=>zm<|yv h fun _ w h=>?_
 refine yv h fun _ w h=>yv h fun _ w h=>yu h fun w h=>zm<|zn<|zk<|zs<|zr<|yc h c36 fun _ w h=>yB h fun _ w h=>yB h fun _ w h=>yS h fun _ w h=>yB h fun _ w h=>yc h c29 fun _ w h=>zm ?_
 refine yv h fun _ w h=>yv h fun _ w h=>yv h fun _ w h=>yu h fun w h=>zm<|zn<|zk<|zs<|zs<|sim_regionG<|yG 4<|yv h fun _ w h=>yB h fun _ w h=>yb h fun _ w h=>zm ?_
 refine zn<|yg1 2 3 false [76,77] 77 h (fun _ T hT h=>?_) fun σ w h=>?_
 · refine zm<|yb h fun _ w h=>zn ?_
   exact zt hT h
 refine yG 2<|yp h fun _ h=>zm<|zn<|yg1 2 7 false [80,81] 81 h (fun _ T hT h=>?_) fun σ w h=>?_
 · refine zm<|yb h fun _ w h=>zn ?_
   exact zt hT h
 refine yG 2<|yp h fun _ h=>zm<|zn<|yg1 2 11 false [84,85] 85 h (fun _ T hT h=>?_) fun σ w h=>?_
 · refine zm<|yb h fun _ w h=>zn ?_
   exact zt hT h
 refine yG 2<|yp h fun _ h=>zm<|zn<|yg1 2 15 false [88,89] 89 h (fun _ T hT h=>?_) fun σ w h=>?_
 · refine zm<|yb h fun _ w h=>zn ?_
   exact zt hT h
 refine yG 2<|yp h fun _ h=>zm<|zn<|yg1 2 19 false [92,93] 93 h (fun _ T hT h=>?_) fun σ w h=>?_
 · refine zm<|yb h fun _ w h=>zn ?_
   exact zt hT h
 refine yG 2<|yp h fun _ h=>zm<|zn<|yg1 2 23 false [96,97] 97 h (fun _ T hT h=>?_) fun σ w h=>?_
 · refine zm<|yb h fun _ w h=>zn ?_
   exact zt hT h
 refine yG 2<|yp h fun _ h=>zm<|zn<|yg1 7 27 false [100,101,102,103,104,105,106] 106 h (fun _ T hT h=>?_) fun σ w h=>?_
 · refine yv h fun _ w h=>yB h fun _ w h=>yB h fun _ w h=>yS h fun _ w h=>yB h fun _ w h=>yc h c26 fun _ w h=>yv h fun _ w h=>zn ?_
   exact zt hT h
 refine yG 1<|yp h fun _ h=>zn<|sim_end<|zk<|yC h (fun h=>zs<|zr<|zm<|zn<|zk<|sim_ret<|sim_then_ret<|body_ret1 rfl rfl h) fun h=>sim_skip<|zk<|zs<|sim_regionG<|yG 3<|yc h c36 fun _ w h=>yc h c37 fun _ w h=>zm ?_
 refine zn<|yg1 2 2 true [111,112] 112 h (fun _ T hT h=>?_) fun σ w h=>?_
 · refine yB h fun _ w h=>yc h c37 fun _ w h=>zn ?_
   exact zt hT h
 refine yG 2<|yp h fun _ h=>zm<|zn<|yg1 4 6 true [115,116,117,118] 118 h (fun _ T hT h=>?_) fun σ w h=>?_
 · refine yB h fun _ w h=>yS h fun _ w h=>yB h fun _ w h=>yc h c37 fun _ w h=>zn ?_
   exact zt hT h
 refine yG 2<|yp h fun _ h=>zm<|zn<|yg1 4 12 true [121,122,123,124] 124 h (fun _ T hT h=>?_) fun σ w h=>?_
 · refine yB h fun _ w h=>yS h fun _ w h=>yB h fun _ w h=>yc h c37 fun _ w h=>zn ?_
   exact zt hT h
 exact yG 2<|yp h fun _ h=>zm<|zn<|sim_end<|zk<|sim_ret<|body_ret1 rfl rfl h
def n27c1 (t0 t11 t15:Value) (R:RT) (w:World):Prop :=
 pickK t11 t15 (.bool false) fun t16 =>
 joinK (fun (t22:Value) (w:World) =>
 pickK t16 t22 (.bool false) fun t23 =>
 R (.returned t23) w) fun K2 =>
 guardP t16 true (
 opV Pg (Go.convert 9 83 t0) (panK R) w fun t19 w =>
 callK Pg 42 #[t19,(.func (.func 38) #[] #[])] (panK R) w fun t21 w =>
 opV Pg (Op.unary .not t21) (panK R) w fun t22 w =>
 K2 t22 w) (
 K2 undef w)
def n27c2 (t0 t11:Value) (R:RT) (w:World):Prop :=
 joinK (fun (t15:Value) (w:World) =>
 n27c1 t0 t11 t15 R w) fun K1 =>
 guardP t11 true (
 opV Pg (Instr.index 9 t0 (.int .i64 0)) (panK R) w fun t14 w =>
 callK Pg 39 #[t14] (panK R) w fun t15 w =>
 K1 t15 w) (
 K1 undef w)
def n27 (t0:Value) (R:RT) (w:World):Prop :=
 opV Pg (Builtin.len_ #[9] 3 #[t0]) (panK R) w fun t5 w =>
 opV Pg (binS .geq 3 true t5 (.int .i64 1)) (panK R) w fun t6 w =>
 opV Pg (Builtin.len_ #[9] 3 #[t0]) (panK R) w fun t8 w =>
 opV Pg (binS .leq 3 true t8 (.int .i64 32)) (panK R) w fun t9 w =>
 opV Pg (Instr.buildSlice 116 2 #[(0,t6),(1,t9)]) (panK R) w fun t10 w =>
 callK Pg 41 #[t10] (panK R) w fun t11 w =>
 n27c2 t0 t11 R w
theorem n27s {t0:Value} {R:RT} {w:World} (h:n27 t0 R w):Calls Pg 10 #[t0] w R:=by
 refine yD Tryz.func10 ?_
 refine zs<|zr<|zm<|zn<|zk<|zs<|zr<|zm<|zn<|zk<|zs<|sim_regionG<|yG 9<|zm<|yx h fun _ w h=>?_
 refine yb h fun _ w h=>zm<|yx h fun _ w h=>yb h fun _ w h=>yS h fun _ w h=>yc h c41 fun _ w h=>zm<|zn<|yg1 3 8 true [13,14,15] 15 h (fun _ T hT h=>?_) fun σ w h=>?_
 · refine zm<|yv h fun _ w h=>yc h c39 fun _ w h=>zn ?_
   exact zt hT h
 refine yG 2<|yp h fun _ h=>zm<|zn<|yg1 5 13 true [18,19,20,21,22] 22 h (fun _ T hT h=>?_) fun σ w h=>?_
 · refine zm<|yv h fun _ w h=>zm<|yc h c42 fun _ w h=>yv h fun _ w h=>zn ?_
   exact zt hT h
 exact yG 2<|yp h fun _ h=>zm<|zn<|sim_end<|zk<|sim_ret<|body_ret1 rfl rfl h
def n37c1 (t1 t6 t15:Value) (C1:World→Prop) (R:RT) (w:World):Prop :=
 joinK (fun (t21:Value) (w:World) =>
 pickK t15 t21 (.bool false) fun t22 =>
 R (.returned t22) w) fun K2 =>
 guardP t15 true (
 qV Pg C1 (Instr.fieldAt 24 t1 1) fun t17 =>
 qV Pg C1 (Instr.loadAt 22 t17) fun t18 =>
 callK Pg 47 #[t18,t6] (panK R) w fun t20 w =>
 C1 w∧(
 qV Pg C1 (Op.unary .not t20) fun t21 =>
 K2 t21 w)) (
 K2 undef w)
def n37c2 (t1 t6 t9 t13:Value) (C1:World→Prop) (R:RT) (w:World):Prop :=
 C1 w∧(
 opV Pg (Instr.buildSlice 116 2 #[(0,t9),(1,t13)]) (panK R) w fun t14 w =>
 C1 w∧(
 callK Pg 41 #[t14] (panK R) w fun t15 w =>
 C1 w∧(
 n37c1 t1 t6 t15 C1 R w)))
def n37c3 (t1 t6:Value) (C1:World→Prop) (R:RT) (w:World):Prop :=
 qV Pg C1 (Instr.fieldAt 24 t1 0) fun t7 =>
 qV Pg C1 (Instr.loadAt 3 t7) fun t8 =>
 qV Pg C1 (Instr.fieldAt 24 t1 1) fun t10 =>
 qV Pg C1 (Instr.loadAt 22 t10) fun t11 =>
 qV Pg C1 (Builtin.len_ #[22] 3 #[t11]) fun t12 =>
 qV Pg C1 (binS .leq 3 true t12 (.int .i64 4)) fun t13 =>
 callK Pg 46 #[t8] (panK R) w fun t9 w =>
 n37c2 t1 t6 t9 t13 C1 R w
def n37 (t0:Value) (R:RT) (w:World):Prop :=
 opV Pg (Instr.box 24 t0) (panK R) w fun t1 w =>
 opV Pg (Instr.makeMap 84 none) (panK R) w fun t5 w =>
 opV Pg (Instr.alloc 84 true (.tuple #[])) (panK R) w fun t3 w =>
 opU Pg (Instr.storeAt 84 t3 t5) (panK R) w fun w =>
 opV Pg (Instr.makeFunc (.func 45) #[] #[t3]) (panK R) w fun t6 w =>
 drawK w fun C1 w =>
 n37c3 t1 t6 C1 R w
theorem n37s {t0:Value} {R:RT} {w:World} (h:n37 t0 R w):Calls Pg 12 #[t0] w R:=by
 refine yD Tryz.func12 ?_
 refine zs<|zr<|yv h fun _ w h=>zm<|zn<|zk<|zs<|zr<|yv h fun _ w h=>yv h fun _ w h=>yu h fun w h=>zn<|zk<|zs<|zr ?_
 refine yF h fun _ w h=>zm<|zn<|zk<|zs<|yh [2,7,8,9,10,11,12,13,14,15,16,17,18,19,20,21,22] h fun C hC h=>ye 0 hC h fun _ h=>?_
 refine ye 1 hC h fun _ h=>?_
 refine ye 3 hC h fun _ h=>?_
 refine ye 4 hC h fun _ h=>?_
 refine ye 5 hC h fun _ h=>?_
 refine ye 6 hC h fun _ h=>?_
 refine yo 2 ?_
 refine yc h c46 fun _ w h=>zn ?_
 obtain ⟨hC,h⟩:=h
 refine ⟨hC,?_⟩
 refine yo 7 ?_
 refine yS h fun _ w h=>zn ?_
 obtain ⟨hC,h⟩:=h
 refine ⟨hC,?_⟩
 refine yo 8 ?_
 refine yc h c41 fun _ w h=>zn ?_
 obtain ⟨hC,h⟩:=h
 refine ⟨hC,?_⟩
 refine yw 9 hC ?_
 refine yj1 2 [14,13,12,11,10,9,8,7,2,6,5,4,3,1,0] [17,18,19,20,21] 21 h (fun _ hT hb h=>?_) (fun _ hT hb h=>?_) fun σ w hC h=>?_
 · refine ye 10 hC h fun _ h=>?_
   refine ye 11 hC h fun _ h=>?_
   refine yw 12 hC ?_
   refine yo 13 ?_
   refine yc h c47 fun _ w h=>zn ?_
   obtain ⟨hC,h⟩:=h
   refine ⟨hC,?_⟩
   refine ye 14 hC h fun _ h=>?_
   exact yt hT hC h
 · refine yi 10 hC ?_
   refine yi 11 hC ?_
   refine yi 12 hC ?_
   refine yi 13 hC ?_
   refine yi 14 hC ?_
   exact yt hT hC h
 refine yP 15 hC h fun _ h=>?_
 refine yw 16 hC ?_
 exact yz<|zk<|sim_ret<|body_ret1 rfl rfl h
open Go.RowKit (intOf)
def letterB (c:UInt8):Bool:=(decide (65≤(c.toNat:Int))&&decide ((c.toNat:Int)≤90))||(decide (97≤(c.toNat:Int))&&decide ((c.toNat:Int)≤122))
def digitB (c:UInt8):Bool:=decide (48≤(c.toNat:Int))&&decide ((c.toNat:Int)≤57)
def wordB (c:UInt8):Bool:=letterB c||digitB c||((c.toNat:Int) == 95)
def smallB (v:Int):Bool:=decide (-1048576≤v)&&decide (v≤1048576)
def nameB (s:ByteArray):Bool:=decide (1≤(s.size:Int))&&decide ((s.size:Int)≤32)&&(match s.data.toList with | []=>false | c::_=>letterB c)&&s.data.toList.all wordB
theorem letter_ret (w0:World) (c:UInt8):Ret Pg 39 #[.int .u8 c.toNat] w0 fun r w'=>r = .bool (letterB c)∧Ext w0 w':=by
 refine n44s (R:=retR _) ?_;unfold n44
 simp (disch:=try exact DI) only [↓PR,QR,simprocAttr,↓n44c1,↓n44c2]
 unfold letterB
 have e:=Ext.refl w0
 generalize decide (65≤(c.toNat:Int))=b1
 generalize decide ((c.toNat:Int)≤90)=b2
 generalize decide (97≤(c.toNat:Int))=b3
 generalize decide ((c.toNat:Int)≤122)=b4
 cases b1<;>cases b2<;>cases b3<;>cases b4<;>simp (disch:=try exact DI) only [↓PR,QR,simprocAttr,↓n44c1,↓n44c2]<;>exact ⟨by trivial,e⟩
theorem digit_ret (w0:World) (c:UInt8):Ret Pg 40 #[.int .u8 c.toNat] w0 fun r w'=>r = .bool (digitB c)∧Ext w0 w':=by
 refine n43s (R:=retR _) ?_;unfold n43
 simp (disch:=try exact DI) only [↓PR,QR,simprocAttr,Sw.joinK_eq]
 unfold digitB
 have e:=Ext.refl w0
 generalize decide (48≤(c.toNat:Int))=b1
 generalize decide ((c.toNat:Int)≤57)=b2
 cases b1<;>cases b2<;>simp (disch:=try exact DI) only [↓PR,QR,simprocAttr,Sw.joinK_eq]<;>exact ⟨by trivial,e⟩
theorem small_ret (w0:World) (v:Int):Ret Pg 46 #[.int .i64 v] w0 fun r w'=>r = .bool (smallB v)∧Ext w0 w':=by
 refine n47s (R:=retR _) ?_;unfold n47
 simp (disch:=try exact DI) only [↓PR,QR,simprocAttr,Sw.joinK_eq]
 unfold smallB
 have e:=Ext.refl w0
 generalize decide (-1048576≤v)=b1
 generalize decide (v≤1048576)=b2
 cases b1<;>cases b2<;>simp (disch:=try exact DI) only [↓PR,QR,simprocAttr,Sw.joinK_eq]<;>exact ⟨by trivial,e⟩
def BoolsOf (w:World) (v:Value) (l:List Bool):Prop:=SliceOf w 1 EBool v l
theorem Index_bool_ret (w0:World) (v:Value) (l:List Bool) (x:Bool) (hs:BoolsOf w0 v l) :
 Ret Pg 91 #[v,.bool x] w0 fun r w'=>r = .int .i64 (idx (x == ·) l)∧Ext w0 w':=by
 obtain ⟨A,c,rfl,hlc,hcm,hlm,hel⟩:=SliceOf.open hs
 refine n59s (R:=retR _) ?_;unfold n59
 simp (disch:=try exact DI) only [↓PR,QR,simprocAttr]
 refine loop1_intro (fun i w=>∃ k:Nat,i = .int .i64 k∧k≤l.length∧Ext w0 w∧∀ (j:Nat) y,j < k→l[j]?=some y→(x == y)=false) (fun i _=>l.length - (intOf i).toNat) ⟨0,rfl,by omega,Ext.refl _,fun j y h=>by omega⟩ ?_
 rintro i w ⟨k,rfl,hk,e,hb⟩
 by_cases hlt:k < l.length
 · obtain ⟨y,hy⟩:=getElem?_lt hlt
   obtain ⟨b,o,cs,rfl,hl,hA,rfl⟩:=hel k y hy
   have hd:decide ((k:Int) < (l.length:Int))=true:=by simp;omega
   have hc:w.cell? ⟨b,o+k*1,none⟩=some (.bool y):=(hA.ext e).cell 0 rfl
   simp (disch:=try exact DI) only [↓PR,QR,simprocAttr,hd,hc,↓n59c1]
   cases hp:(x == y) with
   | true =>
    simp (disch:=try exact DI) only [↓PR,QR,simprocAttr]
    exact ⟨by rw [idx_here hy hp hb],e⟩
   | false =>
    simp (disch:=try exact DI) only [↓PR,QR,simprocAttr]
    exact ⟨⟨k+1,rfl,by omega,e,before_succ hb hy hp⟩,by simp [intOf];omega⟩
 · have hd:decide ((k:Int) < (l.length:Int))=false:=by simp;omega
   simp (disch:=try exact DI) only [↓PR,QR,simprocAttr,hd,↓n59c1]
   exact ⟨by rw [idx_none fun j y hy=>hb j y (by have:=(List.getElem?_eq_some_iff.1 hy).1;omega) hy],e⟩
theorem Contains_bool_ret (w0:World) (v:Value) (l:List Bool) (x:Bool) (hs:BoolsOf w0 v l) :
 Ret Pg 77 #[v,.bool x] w0 fun r w'=>r = .bool (l.any (x == ·))∧Ext w0 w':=by
 refine n55s (R:=retR _) ?_;unfold n55
 refine callK_ret (Index_bool_ret _ _ l x hs) ?_
 rintro r w' ⟨rfl,e⟩
 simp (disch:=try exact DI) only [↓PR,QR,simprocAttr,Sw.joinK_eq]
 exact ⟨by rw [idx_neg],e⟩
theorem all_ret (w0:World) (v:Value) (l:List Bool) (hs:BoolsOf w0 v l) :
 Ret Pg 41 #[v] w0 fun r w'=>r = .bool (l.all id)∧Ext w0 w':=by
 refine n39s (R:=retR _) ?_;unfold n39
 refine callK_ret (Contains_bool_ret _ _ l false hs) ?_
 rintro r w' ⟨rfl,e⟩
 simp (disch:=try exact DI) only [↓PR,QR,simprocAttr,Sw.joinK_eq]
 refine ⟨?_,e⟩
 congr 1
 clear hs
 induction l with
 | nil=>rfl
 | cons a l ih=>cases a<;>simp_all
theorem NameS1_ret (w0:World) (c:UInt8):Ret Pg 38 #[.int .u8 c.toNat] w0 fun r w'=>r = .bool (!wordB c)∧Ext w0 w':=by
 refine n28s (R:=retR _) ?_;unfold n28
 refine callK_ret (letter_ret _ c) ?_
 rintro r w' ⟨rfl,e⟩
 simp (disch:=try exact DI) only [↓PR,QR,simprocAttr,↓n28c1,↓n28c2]
 unfold wordB
 cases letterB c with
 | true=>simp (disch:=try exact DI) only [↓PR,QR,simprocAttr,↓n28c1,↓n28c2];exact ⟨by trivial,e⟩
 | false =>
  simp (disch:=try exact DI) only [↓PR,QR,simprocAttr,↓n28c1,↓n28c2]
  refine callK_ret (digit_ret _ c) ?_
  rintro r w2 ⟨rfl,e2⟩
  have e3:=e.trans e2
  cases digitB c with
  | true=>simp (disch:=try exact DI) only [↓PR,QR,simprocAttr,↓n28c1,↓n28c2];exact ⟨by trivial,e3⟩
  | false=>simp (disch:=try exact DI) only [↓PR,QR,simprocAttr,↓n28c1,↓n28c2];exact ⟨by trivial,e3⟩
def BytesOf (w:World) (v:Value) (l:List UInt8):Prop:=SliceOf w 1 EByte v l
theorem ContainsFunc_byte_ret (w0:World) (v:Value) (l:List UInt8) (g:FuncId) (caps:Array Value) (p:UInt8→Bool) (hs:BytesOf w0 v l) (hg:Callable Pg g) (hc:Tests w0 (fun _ v x=>v = .int .u8 (x.toNat:Int)) g caps p l) :
 Ret Pg 42 #[v,.func (.func g) #[] caps] w0 fun r w'=>r = .bool (l.any p)∧Ext w0 w':=by
 refine n54s (R:=retR _) ?_;unfold n54
 refine callK_ret (IndexFunc_byte_ret _ _ l g caps p hs hg hc) ?_
 rintro r w' ⟨rfl,e⟩
 simp (disch:=try exact DI) only [↓PR,QR,simprocAttr,Sw.joinK_eq]
 exact ⟨by rw [idx_neg],e⟩
theorem boolsNew (w:World) (l:List Bool) (T:TypeId) (hl:l.length≤9223372036854775807):BoolsOf (w.alloc (.cells (l.map Value.bool).toArray T)) (.slice (some ⟨w.heap.size,0,none⟩) l.length l.length) l:=SliceOf.new1 _ (fun _ _=>rfl) w l T hl
theorem all2_ret {w:World} {p:Nat} (hp:p=w.heap.size) (a b:Bool) (T:TypeId):Ret Pg 41 #[.slice (some ⟨p,0,none⟩) 2 2] (w.alloc (.cells #[.bool a,.bool b] T)) fun r w'=>r = .bool (a&&b)∧Ext (w.alloc (.cells #[.bool a,.bool b] T)) w':=by
 subst hp
 have h:=all_ret _ _ [a,b] (boolsNew w [a,b] T (by simp))
 simpa using h
theorem all3_ret {w:World} {p:Nat} (hp:p=w.heap.size) (a b c:Bool) (T:TypeId):Ret Pg 41 #[.slice (some ⟨p,0,none⟩) 3 3] (w.alloc (.cells #[.bool a,.bool b,.bool c] T)) fun r w'=>r = .bool (a&&b&&c)∧Ext (w.alloc (.cells #[.bool a,.bool b,.bool c] T)) w':=by
 subst hp
 have h:=all_ret _ _ [a,b,c] (boolsNew w [a,b,c] T (by simp))
 simpa [Bool.and_assoc] using h
theorem Name_ret (w0:World) (s:ByteArray):Ret Pg 10 #[.string s] w0 fun r w'=>r = .bool (nameB s)∧Ext w0 w':=by
 refine n27s (R:=retR _) ?_;unfold n27
 simp (disch:=try exact DI) only [↓PR,QR,simprocAttr,↓n27c1,↓n27c2]
 have e1:Ext w0 (w0.alloc (.cells #[.bool (decide (1≤(s.size:Int))),.bool (decide ((s.size:Int)≤32))] 4)):=(Ext.refl w0).alloc _
 refine callK_ret (all_ret _ _ [decide (1≤(s.size:Int)),decide ((s.size:Int)≤32)] (boolsNew w0 [decide (1≤(s.size:Int)),decide ((s.size:Int)≤32)] 4 (by simp))) ?_
 rintro r w1 ⟨rfl,e2⟩
 have e:=e1.trans e2
 have hall:[decide (1≤(s.size:Int)),decide ((s.size:Int)≤32)].all id=(decide (1≤(s.size:Int))&&decide ((s.size:Int)≤32)):=by simp
 rw [hall]
 unfold nameB
 cases h1:(decide (1≤(s.size:Int))&&decide ((s.size:Int)≤32)) with
 | false=>simp (disch:=try exact DI) only [↓PR,QR,simprocAttr,↓n27c1,↓n27c2];exact ⟨by trivial,e⟩
 | true =>
  simp (disch:=try exact DI) only [↓PR,QR,simprocAttr,↓n27c1,↓n27c2]
  have hlen:s.size≤9223372036854775807:=by simp only [Bool.and_eq_true,decide_eq_true_eq] at h1;omega
  obtain ⟨c,cs,hcs⟩:∃ c cs,s.data.toList=c::cs:=by
   simp only [Bool.and_eq_true,decide_eq_true_eq] at h1
   cases hd:s.data.toList with
   | nil =>
    have:s.data.size=0:=by rw [← Array.length_toList,hd];rfl
    have h0:s.size=s.data.size:=rfl
    omega
   | cons c cs=>exact ⟨c,cs,rfl⟩
  rw [op_indexS0 Tryz.underlying9 s .i64 (b:=c) (by rw [hcs];rfl)]
  refine callK_ret (letter_ret _ c) ?_
  rintro r w2 ⟨rfl,e3⟩
  have e:=e.trans e3
  rw [hcs]
  cases hl:letterB c with
  | false=>simp (disch:=try exact DI) only [↓PR,QR,simprocAttr,↓n27c1,↓n27c2];exact ⟨by rw [hl];rfl,e⟩
  | true =>
   simp (disch:=try exact DI) only [↓PR,QR,simprocAttr,↓n27c1,↓n27c2]
   refine op_bytes Tryz.underlying9 Tryz.underlying83 Tryz.underlying5 s hlen ?_
   rintro v w3 e4 ⟨A,cp,rfl,hc1,hc2,b,rfl,hcell⟩
   have hsz:s.data.toList.length=s.size:=by rw [Array.length_toList];rfl
   have hB:BytesOf w3 (.slice (some ⟨b,0,none⟩) s.size cp) s.data.toList:=by
    rw [← hsz]
    refine ⟨_,_,rfl,by omega,hc2,fun _=>⟨_,_,rfl,fun k x hx=>⟨[.int .u8 x.toNat],rfl,fun j v hv=>?_,rfl⟩⟩⟩
    cases j with
    | zero=>injection hv with hv;subst hv;simpa using hcell k x hx
    | succ j=>cases hv
   have e:=e.trans e4
   refine callK_ret (ContainsFunc_byte_ret _ _ s.data.toList _ _ (fun x=>!wordB x) hB c38 ?_) ?_
   · rintro w v x _ _ rfl
     exact NameS1_ret w x
   · rintro r w4 ⟨rfl,e5⟩
     simp (disch:=try exact DI) only [↓PR,QR,simprocAttr,↓n27c1,↓n27c2]
     refine ⟨?_,e.trans e5⟩
     rw [hcs,hl]
     congr 1
     generalize c::cs=l
     clear hall
     induction l with
     | nil=>rfl
     | cons a l ih=>simp only [List.any_cons,List.all_cons,Bool.not_or,Bool.not_not,Bool.true_and] at *;rw [ih]
def termB (t:TermD):Bool:=nameB t.field&&(t.factor != 0)&&smallB t.factor
theorem ValidS1_ret (w:World) (t:TermD) (pb r:Nat) (names:List ByteArray) (hcell:w.cell? ⟨pb,0,none⟩=some (.map (some r))) (hm:SetOf w r names) :
 Ret Pg 45 #[termVal t,.pointer (some ⟨pb,0,none⟩)] w fun v w'=>v = .bool (memB names t.field||!termB t)∧SetOf w' r (names++[t.field])∧w'.cell? ⟨pb,0,none⟩=some (.map (some r)) ∧
  ∀ w0,Ext w0 w→w0.heap.size≤r→Ext w0 w':=by
 have hpb:pb < w.heap.size:=World.block_lt_of_cell? w _ hcell
 obtain ⟨L,c,hM,hl⟩:=hm
 refine n38s (R:=retR _) ?_;unfold n38
 unfold termVal
 simp (disch:=try exact DI) only [↓PR,QR,simprocAttr,hcell]
 have e1:Ext w (w.alloc (.cells #[.string t.field,.int .i64 t.factor] 32)):=(Ext.refl w).alloc _
 rw [op_lookup1S Tryz.underlying84 Tryz.underlying9 ty4 (hM.ext e1)]
 simp (disch:=try exact DI) only [↓PR,QR,simprocAttr,hcell]
 rw [op_mapUpdateS Tryz.underlying84 Tryz.underlying9 (hM.ext e1)]
 obtain ⟨W,hW⟩:∃ W,((w.alloc (.cells #[.string t.field,.int .i64 t.factor] 32)).putObj r (mapObjS (putL L c t.field (.bool true)) (putC L c t.field)))=W:=⟨_,rfl⟩
 have hS:SetOf W r (names++[t.field]):=by rw [← hW];exact SetOf.put (hM.ext e1) hl _
 have hC:W.cell? ⟨pb,0,none⟩=some (.map (some r)):=by rw [← hW,cell_putMap (hM.ext e1)];exact e1.cell hcell
 have hE:∀ w0,Ext w0 w→w0.heap.size≤r→Ext w0 W:=fun w0 h0 hr=>by rw [← hW];exact (h0.trans e1).putObj hr _
 have hA0:W.cell? ⟨w.heap.size,0,none⟩=some (.string t.field):=by rw [← hW,cell_putMap (hM.ext e1),cell_new];rfl
 have hA1:W.cell? ⟨w.heap.size,1,none⟩=some (.int .i64 t.factor):=by rw [← hW,cell_putMap (hM.ext e1),cell_new];rfl
 rw [hW]
 refine drawK_intro ?_
 have ht8:(Sw.look L t.field).getD (.bool false) = .bool (memB names t.field):=by rw [hl];cases memB names t.field<;>rfl
 rw [ht8]
 have fin:∀ b w',Ext W w'→b=(memB names t.field||!termB t)→(Value.bool b = .bool (memB names t.field||!termB t)∧SetOf w' r (names++[t.field])∧w'.cell? ⟨pb,0,none⟩=some (.map (some r))∧∀ w0,Ext w0 w→w0.heap.size≤r→Ext w0 w') :=
  fun b w' e hb=>⟨by rw [hb],hS.ext e,e.cell hC,fun w0 h0 hr=>(hE w0 h0 hr).trans e⟩
 cases hmem:memB names t.field with
 | true =>
  simp (disch:=try exact DI) only [↓PR,QR,simprocAttr,↓n38c1,↓n38c2]
  exact ⟨trivial,(fin (true||!termB t) _ (Ext.refl _).wdrew (by rw [hmem])).2⟩
 | false =>
  simp (disch:=try exact DI) only [↓PR,QR,simprocAttr,↓n38c1,↓n38c2,hA0,hA1]
  refine zcr (Name_ret _ t.field) fun w1 e2=>?_
  refine ⟨e2,?_⟩
  refine zcr (small_ret _ t.factor) fun w2 e3=>?_
  refine ⟨e2.trans e3,?_⟩
  simp (disch:=try exact DI) only [↓PR,QR,simprocAttr,↓n38c1,↓n38c2]
  have e:=e2.trans e3
  refine ⟨e.alloc _,?_⟩
  refine zcr (all3_ret rfl _ _ _ _) fun w3 e4=>?_
  refine ⟨(e.alloc _).trans e4,?_⟩
  simp (disch:=try exact DI) only [↓PR,QR,simprocAttr,↓n38c1,↓n38c2]
  exact ⟨rfl,(fin (!termB t) w3 (((Ext.refl _).wdrew).trans ((e.alloc _).trans e4)) (by rw [hmem];rfl)).2⟩
def termsB:List ByteArray→List TermD→Bool
 | _,[]=>true
 | seen,t::ts=>!(memB seen t.field)&&termB t&&termsB (seen++[t.field]) ts
theorem termsB_iff:∀ (ts:List TermD) (seen:List ByteArray),termsB seen ts=true↔∀ k x,ts[k]?=some x→(memB (seen++(ts.take k).map (·.field)) x.field||!termB x)=false
 | [],seen=>by simp [termsB]
 | t::ts,seen=>by
  simp only [termsB,Bool.and_eq_true,termsB_iff ts]
  constructor
  · rintro ⟨⟨h1,h2⟩,h3⟩ k x hx
    cases k with
    | zero=>simp at hx;subst hx;simpa using ⟨by simpa using h1,h2⟩
    | succ k=>have:=h3 k x (by simpa using hx);simpa using this
  · intro h
    refine ⟨?_,fun k x hx=>by simpa using h (k+1) x (by simpa using hx)⟩
    have:=h 0 t rfl
    simp at this
    exact ⟨by rw [this.1];rfl,this.2⟩
theorem ContainsFunc_Term_st (w0 w1:World) (v:Value) (l:List TermD) (g:FuncId) (caps:Array Value) (p:Nat→Bool) (J:Nat→World→Prop) (hs:TermsOf w0 v l) (hg:Callable Pg g) (hJ:∀ k w,J k w→Ext w0 w) (h0:J 0 w1)
 (hc:∀ k x w u,l[k]?=some x→J k w→(fun _ v x=>v=termVal x) w u x→Ret Pg g (#[u]++caps) w fun r w'=>r = .bool (p k)∧J (k+1) w') :
 Ret Pg 47 #[v,.func (.func g) #[] caps] w1 fun r w'=>r = .bool ((List.range l.length).any p)∧∃ k,J k w':=by
 refine n53s (R:=retR _) ?_;unfold n53
 refine callK_ret (IndexFunc_Term_st w0 _ _ l g caps p J hs hg hJ h0 hc) ?_
 rintro r w' ⟨rfl,e⟩
 simp (disch:=try exact DI) only [↓PR,QR,simprocAttr,Sw.joinK_eq]
 exact ⟨by rw [idx_neg],e⟩
def sizeB (base:Int) (ts:List TermD):Bool:=smallB base&&decide (ts.length≤4)&&termsB [] ts
theorem Valid_ret (w0:World) (v:Value) (base:Int) (ts:List TermD) (hs:SizeVal w0 v base ts) :
 Ret Pg 12 #[v] w0 fun r w'=>r = .bool (sizeB base ts)∧Ext w0 w':=by
 obtain ⟨tv,rfl,hT⟩:=hs
 refine n37s (R:=retR _) ?_;unfold n37
 simp (disch:=try exact DI) only [↓PR,QR,simprocAttr]
 obtain ⟨A,c,rfl,hlc,hcm,hlm,hel⟩:=SliceOf.open hT
 obtain ⟨W1,hW1⟩:∃ W1,w0.alloc (.cells #[.int .i64 base,.slice A ts.length c] 24)=W1:=⟨_,rfl⟩
 have e0:Ext w0 W1:=by rw [← hW1];exact (Ext.refl w0).alloc _
 have hc0:W1.cell? ⟨w0.heap.size,0,none⟩=some (.int .i64 base):=by rw [← hW1];simp (disch:=try exact DI) only [↓PR,QR,simprocAttr]
 have hc1:W1.cell? ⟨w0.heap.size,1,none⟩=some (.slice A ts.length c):=by rw [← hW1];simp (disch:=try exact DI) only [↓PR,QR,simprocAttr]
 have hsz:w0.heap.size+1=W1.heap.size:=by rw [← hW1];simp (disch:=try exact DI) only [↓PR,QR,simprocAttr]
 simp only [hW1,hsz]
 refine drawK_introE (w1:=W1) (((Ext.refl W1).alloc _).alloc _) ?_
 simp (disch:=try exact DI) only [↓PR,QR,simprocAttr,↓n37c1,↓n37c2,↓n37c3,hc0,hc1]
 generalize hW:(World.drew _)=W
 have e1:Ext W1 W:=by rw [← hW];exact (((Ext.refl W1).alloc _).alloc _).wdrew
 have hpb:W.cell? ⟨W1.heap.size+1,0,none⟩=some (.map (some W1.heap.size)):=by rw [← hW];simp (disch:=try exact DI) only [↓PR,QR,simprocAttr]
 have hset:SetOf W W1.heap.size []:=by
  rw [← hW]
  have h:=(MapS.new W1).ext (((Ext.refl _).alloc (Obj.cells (#[Value.map none].setIfInBounds 0 (Value.map (some W1.heap.size))) 84)).wdrew)
  exact ⟨[],0,by simpa using h,fun s=>rfl⟩
 clear hW
 refine zcr (small_ret _ base) fun w1 e2=>?_
 refine ⟨e1.trans e2,?_⟩
 simp (disch:=try exact DI) only [↓PR,QR,simprocAttr]
 refine ⟨e1.trans (e2.alloc _),?_⟩
 refine zcr (all2_ret rfl _ _ _) fun w2 e3=>?_
 replace e2:=(e2.alloc _).trans e3
 refine ⟨e1.trans e2,?_⟩
 simp (disch:=try exact DI) only [↓PR,QR,simprocAttr,↓n37c1,↓n37c2,↓n37c3]
 unfold sizeB
 cases hb:(smallB base&&decide (ts.length≤4)) with
 | false =>
  have hb':(smallB base&&decide ((ts.length:Int)≤4))=false:=by rw [← hb];congr 1;simp;omega
  rw [hb']
  simp (disch:=try exact DI) only [↓PR,QR,simprocAttr,↓n37c1,↓n37c2,↓n37c3,hc0,hc1]
  exact ⟨by trivial,e0.trans (e1.trans e2)⟩
 | true =>
  have hb':(smallB base&&decide ((ts.length:Int)≤4))=true:=by rw [← hb];congr 1;simp;omega
  rw [hb']
  simp (disch:=try exact DI) only [↓PR,QR,simprocAttr,↓n37c1,↓n37c2,↓n37c3,hc0,hc1]
  refine callK_ret (ContainsFunc_Term_st W1 w2 _ ts 45 _ (fun k=>match ts[k]? with | some t=>memB ((ts.take k).map (·.field)) t.field||!termB t | none=>true) (fun k w=>SetOf w W1.heap.size ((ts.take k).map (·.field))∧w.cell? ⟨W1.heap.size+1,0,none⟩=some (.map (some W1.heap.size))∧Ext W1 w) (hT.ext e0) c45 (fun k w h=>h.2.2) ⟨hset.ext e2,e2.cell hpb,e1.trans e2⟩ ?_) ?_
  · rintro k x w u hx ⟨h1,h2,h3⟩ rfl
    simp only [hsz]
    refine Ret.mono (ValidS1_ret w x _ _ _ h2 h1) ?_
    rintro v w' ⟨rfl,h4,h5,h6⟩
    refine ⟨by rw [hx],?_,h5,h6 _ h3 (Nat.le_refl _)⟩
    rw [List.take_add_one,hx]
    simpa using h4
  · rintro _ w3 ⟨rfl,k,h1,h2,h3⟩
    refine ⟨h3,?_⟩
    simp (disch:=try exact DI) only [↓PR,QR,simprocAttr,↓n37c1,↓n37c2,↓n37c3]
    refine ⟨?_,e0.trans h3⟩
    congr 1
    rw [Bool.eq_iff_iff,termsB_iff,Bool.not_eq_true',List.any_eq_false]
    simp only [List.mem_range,List.nil_append]
    constructor
    · intro h k x hx
      have:=h k (List.getElem?_eq_some_iff.1 hx).1
      rw [hx] at this
      simpa using this
    · intro h k hk
      rw [List.getElem?_eq_getElem hk]
      have:=h k _ (List.getElem?_eq_getElem hk)
      simpa using this
def mkB (l:List UInt8):ByteArray:=⟨l.toArray⟩
theorem mkB_to (s:ByteArray):mkB s.data.toList=s:=rfl
def signB (c:UInt8):Bool:=decide (c=43)||decide (c=45)
def bodyL (m:Nat) (name:List UInt8):List UInt8:=if name=[] then Go.Lib.decDigits m else if m=1 then name else Go.Lib.decDigits m++42::name
def partL (n:Int) (name:List UInt8) (first:Bool):List UInt8:=(if n < 0 then [45] else if first then [] else [43])++bodyL n.natAbs name
def addPart (out:List UInt8) (n:Int) (name:List UInt8):List UInt8:=out++partL n name (decide (out=[]))
def termsL (ts:List TermD):List UInt8:=ts.foldl (fun out t=>addPart out t.factor t.field.data.toList) []
def sizeL (base:Int) (ts:List TermD):List UInt8:=if base≠0∨termsL ts=[] then addPart (termsL ts) base [] else termsL ts
def sizeT (base:Int) (ts:List TermD):ByteArray:=mkB (sizeL base ts)
def starF (c:UInt8):Bool:=decide (c≠42)
def onePart (sign piece:List UInt8):Option (Int×List UInt8) :=
 if (!piece.all starF||digitB (piece.headD 0))=true then
  (match Go.Lib.atoiAll (piece.takeWhile starF) with
   | .ok n=>if digitB ((piece.takeWhile starF).headD 0) then some (if sign=[45] then IntKind.i64.wrap (-n) else n,(piece.dropWhile starF).tail) else none
   | _=>none)
 else some (if sign=[45] then IntKind.i64.wrap (-1) else 1,piece)
def pGo:Nat→List UInt8→Int→List TermD→Option (Int×List TermD)
 | 0,_,b,ts=>some (b,ts)
 | f+1,rest,b,ts=>if rest=[] then some (b,ts) else if rest.all signB=true∨1 < (rest.takeWhile signB).length then some (b,ts) else
  match onePart (rest.takeWhile signB) ((rest.dropWhile signB).takeWhile fun c=>!signB c) with
  | none=>none
  | some q=>if q.2=[] then pGo f ((rest.dropWhile signB).dropWhile fun c=>!signB c) (IntKind.i64.wrap (b+q.1)) ts else pGo f ((rest.dropWhile signB).dropWhile fun c=>!signB c) b (ts++[⟨mkB q.2,q.1⟩])
def parseZ (text:ByteArray):Int×List TermD×Int:=match pGo text.size text.data.toList 0 [] with
 | none=>(0,[],6)
 | some q=>if sizeB q.1 q.2=true∧sizeT q.1 q.2=text then (q.1,q.2,0) else (0,[],6)
def NameOk (name:List UInt8):Prop:=name=[]∨((∃ c l,name=c::l∧letterB c=true)∧name.all wordB=true)
theorem word_nosign {c:UInt8} (h:wordB c=true):signB c=false∧starF c=true:=by
 have hc:c≠43∧c≠45∧c≠42:=by
  refine ⟨?_,?_,?_⟩<;>(rintro rfl;revert h;decide)
 unfold signB starF
 simp [hc.1,hc.2.1,hc.2.2]
theorem dig_word {c:UInt8} (h:digN c=true):wordB c=true∧digitB c=true:=by
 rw [digN_iff] at h
 have:digitB c=true:=by
  unfold digitB
  simp only [Bool.and_eq_true,decide_eq_true_eq]
  omega
 refine ⟨?_,this⟩
 unfold wordB
 rw [this]
 simp
theorem letter_nodig {c:UInt8} (h:letterB c=true):digitB c=false:=by
 unfold letterB digitB at *
 simp only [Bool.or_eq_true,Bool.and_eq_true,decide_eq_true_eq,Bool.and_eq_false_iff,decide_eq_false_iff_not] at *
 omega
theorem decD_len {u:Nat} (h:u≤1048576):(Go.Lib.decDigits u).length≤7:=by
 obtain ⟨h0,h1,h2,h3⟩:=dec_ok u
 rcases Nat.lt_or_ge (Go.Lib.decDigits u).length 8 with h | h
 · omega
 · have:∀ (k v:Nat),v < 10 ^ (k+1)→(Go.Lib.decDigits v).length≤k+1:=by
    intro k
    induction k with
    | zero =>
     intro v hv
     rw [Go.Lib.decDigits,dif_pos (by omega)]
     simp
    | succ k ih =>
     intro v hv
     rw [Go.Lib.decDigits]
     split
     · simp
     · have:=ih (v / 10) (by rw [Nat.pow_succ] at hv;omega)
       rw [List.length_append,List.length_singleton]
       omega
   exact this 6 u (by omega)
theorem decD_atoi {u:Nat} (h:u≤1048576):Go.Lib.atoiAll (Go.Lib.decDigits u) = .ok (u:Int):=by
 obtain ⟨h0,h1,h2,h3⟩:=dec_ok u
 have hl:=decD_len h
 have hm:=mag_val h0 h1 (by omega)
 rw [h2] at hm
 cases hd:Go.Lib.decDigits u with
 | nil=>exact absurd hd h0
 | cons c r =>
  rw [hd] at h1 hm
  have hc:=List.all_eq_true.1 h1 c (List.mem_cons_self ..)
  rw [digN_iff] at hc
  rw [Go.Lib.atoiAll_plain c r (by omega) (by omega),hm]
  unfold Go.Lib.signless
  simp only
  rw [if_neg (by omega)]
theorem body_words {m:Nat} {name:List UInt8} (hn:NameOk name):(bodyL m name).all (fun c=>!signB c)=true∧bodyL m name≠[]:=by
 obtain ⟨h0,h1,_,_⟩:=dec_ok m
 have hd:(Go.Lib.decDigits m).all (fun c=>!signB c)=true:=by
  rw [List.all_eq_true] at h1 ⊢
  intro c hc
  rw [(word_nosign (dig_word (h1 c hc)).1).1]
  rfl
 unfold bodyL
 rcases hn with rfl | ⟨⟨c,l,rfl,hc⟩,hw⟩
 · rw [if_pos rfl]
   exact ⟨hd,h0⟩
 · rw [if_neg (by simp)]
   have hnm:(c::l).all (fun c=>!signB c)=true:=by
    rw [List.all_eq_true] at hw ⊢
    intro x hx
    rw [(word_nosign (hw x hx)).1]
    rfl
   split
   · exact ⟨hnm,by simp⟩
   · refine ⟨?_,by simp⟩
     rw [List.all_append,List.all_cons,hd,hnm]
     rfl
theorem take_all {p:UInt8→Bool} {a b:List UInt8} (ha:a.all p=true) (hb:∀ c∈b.head?,p c=false):(a++b).takeWhile p=a∧(a++b).dropWhile p=b:=by
 induction a with
 | nil =>
  cases b with
  | nil=>exact ⟨rfl,rfl⟩
  | cons c b =>
   have:=hb c rfl
   simp [this]
 | cons x a ih =>
  rw [List.all_cons,Bool.and_eq_true] at ha
  obtain ⟨h1,h2⟩:=ih ha.2
  rw [List.cons_append,List.takeWhile_cons,List.dropWhile_cons,ha.1,h1,h2]
  exact ⟨rfl,rfl⟩
theorem one_body {m:Nat} {name sign:List UInt8} (hn:NameOk name) (hm:m≤1048576):onePart sign (bodyL m name)=some (if sign=[45] then IntKind.i64.wrap (-(m:Int)) else (m:Int),name):=by
 obtain ⟨h0,h1,_,_⟩:=dec_ok m
 have hstar:(Go.Lib.decDigits m).all starF=true:=by
  rw [List.all_eq_true] at h1 ⊢
  exact fun c hc=>(word_nosign (dig_word (h1 c hc)).1).2
 have hhead:digitB ((Go.Lib.decDigits m).headD 0)=true:=by
  cases hd:Go.Lib.decDigits m with
  | nil=>exact absurd hd h0
  | cons c r =>
   rw [hd] at h1
   exact (dig_word (List.all_eq_true.1 h1 c (List.mem_cons_self ..))).2
 have hat:=decD_atoi hm
 rcases hn with rfl | ⟨⟨c,l,rfl,hc⟩,hw⟩
 · rw [show bodyL m []=Go.Lib.decDigits m from rfl]
   unfold onePart
   rw [if_pos (by rw [hhead];simp)]
   obtain ⟨t1,t2⟩:=take_all (b:=[]) hstar (fun c hc=>by cases hc)
   rw [List.append_nil] at t1 t2
   rw [t1,t2,hat]
   simp only
   rw [if_pos hhead]
   rfl
 · by_cases h1':m=1
   · subst h1'
     have hs:(c::l).all starF=true:=by
      rw [List.all_eq_true] at hw ⊢
      exact fun x hx=>(word_nosign (hw x hx)).2
     rw [show bodyL 1 (c::l)=c::l from rfl]
     unfold onePart
     rw [if_neg (by rw [hs];simp [letter_nodig hc])]
     rfl
   · rw [show bodyL m (c::l)=Go.Lib.decDigits m++42::c::l by unfold bodyL;rw [if_neg (by simp),if_neg h1']]
     obtain ⟨t1,t2⟩:=take_all (b:=42::c::l) hstar (fun x hx=>by injection hx with hx;subst hx;decide)
     have hns:(Go.Lib.decDigits m++42::c::l).all starF=false:=by
      rw [List.all_append,List.all_cons,show starF 42=false by decide]
      simp
     unfold onePart
     rw [if_pos (by rw [hns];rfl),t1,t2,hat]
     simp only
     rw [if_pos hhead]
     rfl
theorem go_part {f:Nat} {n:Int} {name R:List UInt8} {first:Bool} {b:Int} {ts:List TermD} (hn:NameOk name) (h1 : -1048576≤n) (h2:n≤1048576) (hR:∀ c∈R.head?,signB c=true) :
 pGo (f+1) (partL n name first++R) b ts=if name=[] then pGo f R (IntKind.i64.wrap (b+n)) ts else pGo f R b (ts++[⟨mkB name,n⟩]):=by
 obtain ⟨hb,hne⟩:=body_words (m:=n.natAbs) hn
 have key:∀ S:List UInt8,S.all signB=true→S.length≤1→pGo (f+1) (S++bodyL n.natAbs name++R) b ts=match onePart S (bodyL n.natAbs name) with
  | none=>none
  | some q=>if q.2=[] then pGo f R (IntKind.i64.wrap (b+q.1)) ts else pGo f R b (ts++[⟨mkB q.2,q.1⟩]):=by
  intro S hS hl
  have t1:=take_all (a:=S) (b:=bodyL n.natAbs name++R) hS (fun c hc=>by
   cases hbd:bodyL n.natAbs name with
   | nil=>exact absurd hbd hne
   | cons x l =>
    rw [hbd] at hb hc
    injection hc with hc
    subst hc
    rw [List.all_cons,Bool.and_eq_true] at hb
    simpa using hb.1)
  have t2:=take_all (p:=fun c=>!signB c) (a:=bodyL n.natAbs name) (b:=R) hb (fun c hc=>by rw [hR c hc];rfl)
  have hall:(S++bodyL n.natAbs name++R).all signB=false:=by
   cases hbd:bodyL n.natAbs name with
   | nil=>exact absurd hbd hne
   | cons x l =>
    rw [hbd,List.all_cons,Bool.and_eq_true] at hb
    have:signB x=false:=by simpa using hb.1
    simp [this]
  rw [List.append_assoc] at hall ⊢
  rw [show pGo (f+1) (S++(bodyL n.natAbs name++R)) b ts=if S++(bodyL n.natAbs name++R)=[] then some (b,ts) else if (S++(bodyL n.natAbs name++R)).all signB=true∨1 < ((S++(bodyL n.natAbs name++R)).takeWhile signB).length then some (b,ts) else
   match onePart ((S++(bodyL n.natAbs name++R)).takeWhile signB) (((S++(bodyL n.natAbs name++R)).dropWhile signB).takeWhile fun c=>!signB c) with
   | none=>none
   | some q=>if q.2=[] then pGo f (((S++(bodyL n.natAbs name++R)).dropWhile signB).dropWhile fun c=>!signB c) (IntKind.i64.wrap (b+q.1)) ts else pGo f (((S++(bodyL n.natAbs name++R)).dropWhile signB).dropWhile fun c=>!signB c) b (ts++[⟨mkB q.2,q.1⟩]) from rfl]
  rw [t1.1,t1.2,t2.1,t2.2,if_neg (by simp [hne]),if_neg (by rw [hall];simp;omega)]
 unfold partL
 have hlit:(n.natAbs:Int)=n∨(n.natAbs:Int) = -n:=Int.natAbs_eq n |>.imp (fun h=>h.symm) (fun h=>by omega)
 by_cases hneg:n < 0
 · rw [if_pos hneg,key [45] rfl (by simp),one_body hn (by omega)]
   have hw:IntKind.i64.wrap (-(n.natAbs:Int))=n:=by rw [Sw.wrap_ok (by omega) (by omega)];omega
   simp only [if_true]
   rw [hw]
 · rw [if_neg hneg]
   have hab:(n.natAbs:Int)=n:=by omega
   cases first with
   | true =>
    rw [if_pos rfl,key [] rfl (by simp),one_body hn (by omega),hab]
    rfl
   | false =>
    rw [if_neg (by simp),key [43] rfl (by simp),one_body hn (by omega),hab]
    rfl
def n29c1 (t1 t3:Value) (K1:World→Prop) (R:RT) (w:World):Prop :=
 opV Pg (Instr.fieldAt 24 t1 1) (panK R) w fun t6 w =>
 opV Pg (Instr.loadAt 22 t6) (panK R) w fun t7 w =>
 callK Pg 49 #[t7] (panK R) w fun t8 w =>
 opU Pg (Instr.storeAt 22 t3 t8) (panK R) w fun w =>
 K1 w
def n29 (t0:Value) (R:RT) (w:World):Prop :=
 opV Pg (Instr.box 24 t0) (panK R) w fun t1 w =>
 opV Pg (Instr.alloc 22 true (.tuple #[])) (panK R) w fun t3 w =>
 opV Pg (Instr.loadAt 24 t1) (panK R) w fun t4 w =>
 callK Pg 12 #[t4] (panK R) w fun t5 w =>
 joinK (fun (w:World) =>
 opV Pg (Instr.makeFunc (.func 50) #[] #[t3]) (panK R) w fun t9 w =>
 R (.returned t9) w) fun K1 =>
 condP t5 (
 n29c1 t1 t3 K1 R w) (
 K1 w)
theorem n29s {t0:Value} {R:RT} {w:World} (h:n29 t0 R w):Calls Pg 14 #[t0] w R:=by
 refine yD Tryz.func14 ?_
 refine zs<|zr<|yv h fun _ w h=>zm<|zn<|zk<|zs<|zr<|yv h fun _ w h=>zn<|zk<|zs<|zs<|zr<|yv h fun _ w h=>?_
 refine yc h c12 fun _ w h=>zn<|zk<|yJ0 [6,7,8] h (fun _ _ hkK1 h=>?_) fun σ w h=>?_
 · refine yC h (fun h=>?_) fun h=>?_
   · refine zr<|yv h fun _ w h=>yv h fun _ w h=>yc h c49 fun _ w h=>yu h fun w h=>zn<|zk ?_
     exact zt hkK1 h
   refine sim_skip<|zk ?_
   exact zt hkK1 h
 exact zk<|zs<|zr<|yF h fun _ w h=>zm<|zn<|zk<|sim_ret<|body_ret1 rfl rfl h
def n16c1 (t0 t5 t6:Value) (C4:World→Prop) (next1:KW) (R:RT) (w:World):Prop :=
 qV Pg C4 (Instr.indexAt 34 t0 t6) fun t28 =>
 qV Pg C4 (Instr.fieldAt 78 t28 0) fun t29 =>
 qV Pg C4 (Instr.loadAt 9 t29) fun t30 =>
 qV Pg C4 (Instr.indexAt 34 t0 t6) fun t33 =>
 qV Pg C4 (Instr.fieldAt 78 t33 1) fun t34 =>
 qV Pg C4 (Instr.loadAt 3 t34) fun t35 =>
 qV Pg C4 (Instr.build 89 #[(0,t30),(1,t35)]) fun t36 =>
 opV Pg (Instr.buildSlice 36 1 #[(0,t36)]) (panK R) w fun t37 w =>
 C4 w∧(
 opV Pg (Builtin.append_ #[36,36] 36 #[t5,t37]) (panK R) w fun t38 w =>
 C4 w∧(
 opV Pg (binS .add 3 true t6 (.int .i64 1)) (panK R) w fun t13 w =>
 next1 t38 t13 w))
def n16c2 (t0 t5 t6 t7:Value) (C2:World→Prop) (next1:KW) (R:RT) (w:World):Prop :=
 qV Pg C2 (Instr.indexAt 34 t0 t6) fun t17 =>
 qV Pg C2 (Instr.fieldAt 78 t17 0) fun t18 =>
 qV Pg C2 (Instr.loadAt 9 t18) fun t19 =>
 qV Pg C2 (Instr.indexAt 34 t0 t6) fun t22 =>
 qV Pg C2 (Instr.fieldAt 78 t22 1) fun t23 =>
 qV Pg C2 (Instr.loadAt 3 t23) fun t24 =>
 opU Pg (Instr.mapUpdate 35 t7 t19 t24) (panK R) w fun w =>
 turnK w fun C3 w =>
 drawK w fun C4 w =>
 n16c1 t0 t5 t6 C4 next1 R w
def n16c3 (t0 t5 t6 t7:Value) (next1:KW) (R:RT) (w:World):Prop :=
 opV Pg (Builtin.len_ #[34] 3 #[t0]) (panK R) w fun t10 w =>
 opV Pg (binS .lss 3 false t6 t10) (panK R) w fun t11 w =>
 condP t11 (
 drawK w fun C2 w =>
 n16c2 t0 t5 t6 t7 C2 next1 R w) (
 R (.returned (.tuple #[t7,t5])) w)
def n16 (t0:Value) (R:RT) (w:World):Prop :=
 opV Pg (Instr.makeMap 35 none) (panK R) w fun t7 w =>
 loop2 (fun t5 t6 w next1 =>
 n16c3 t0 t5 t6 t7 next1 R w) (Value.slice none 0 0) (.int .i64 0) w
theorem n16s {t0:Value} {R:RT} {w:World} (h:n16 t0 R w):Calls Pg 15 #[t0] w R:=by
 refine yD Tryz.func15 ?_
 refine zs<|zr<|zm<|zm<|zn<|zk<|zs<|zr<|yv h fun _ w h=>zm<|zn<|zk<|zs<|zr<|zm ?_
 refine zn<|zk<|zs<|zs<|zr<|zm<|zn<|zk<|sim_block<|yl2 [5,6,8,9,10,11,12,13,14,15,16,17,18,19,20,21,22,23,24,25,26,27,28,29,30,31,32,33,34,35,36,37,38] 5 6 h fun σ w next h=>zs<|zs<|zr<|zm<|zm ?_
 refine yx h fun _ w h=>yb h fun _ w h=>zn<|zk<|yC h (fun h=>?_) fun h=>?_
 · refine sim_skip<|zk<|zs<|sim_block<|zs<|yh [14,15,16,17,18,19,20,21,22,23,24] h fun C hC h=>yw 0 hC ?_
   refine yw 1 hC ?_
   refine yw 2 hC ?_
   refine ye 3 hC h fun _ h=>?_
   refine ye 4 hC h fun _ h=>?_
   refine ye 5 hC h fun _ h=>?_
   refine yw 6 hC ?_
   refine yw 7 hC ?_
   refine ye 8 hC h fun _ h=>?_
   refine ye 9 hC h fun _ h=>?_
   refine ye 10 hC h fun _ h=>?_
   refine yq 11 1 ?_
   refine yu h fun w h=>zn ?_
   obtain ⟨C3,hC,h⟩:=h
   refine ⟨C3,hC,?_⟩
   refine yz<|zk<|yh [5,25,26,27,28,29,30,31,32,33,34,35,36,37,38] h fun C hC h=>yw 0 hC ?_
   refine yw 1 hC ?_
   refine yw 2 hC ?_
   refine ye 3 hC h fun _ h=>?_
   refine ye 4 hC h fun _ h=>?_
   refine ye 5 hC h fun _ h=>?_
   refine yw 6 hC ?_
   refine yw 7 hC ?_
   refine ye 8 hC h fun _ h=>?_
   refine ye 9 hC h fun _ h=>?_
   refine ye 10 hC h fun _ h=>?_
   refine ye 11 hC h fun _ h=>?_
   refine yo 12 ?_
   refine yS h fun _ w h=>zn ?_
   obtain ⟨hC,h⟩:=h
   refine ⟨hC,?_⟩
   refine yo 13 ?_
   refine yx h fun _ w h=>zn ?_
   obtain ⟨hC,h⟩:=h
   refine ⟨hC,?_⟩
   refine yw 14 hC ?_
   exact yz<|sim_block_normal<|zk<|zr<|zm<|yb h fun _ w h=>zm<|zn<|zk<|⟨rfl,h⟩
 exact sim_exit<|sim_then_exit<|sim_then_exit<|sim_block_hit<|zk<|zs<|zr<|zm<|zm<|zm<|zm<|zn<|zk<|sim_ret<|body_ret2 rfl rfl rfl h
def n20c1 (t2 t3:Value) (R:RT) (w:World):Prop :=
 opV Pg (Instr.loadAt 24 t2) (panK R) w fun t13 w =>
 opV Pg (Instr.makeFunc (.func 54) #[] #[t3]) (panK R) w fun t14 w =>
 callK Pg 53 #[t13,t14] (panK R) w fun t15 w =>
 R (.returned (.tuple #[t15,(.int .i64 0)])) w
def n20 (t0 t1:Value) (R:RT) (w:World):Prop :=
 opV Pg (Instr.box 24 t0) (panK R) w fun t2 w =>
 opV Pg (Instr.box 35 t1) (panK R) w fun t3 w =>
 opV Pg (Instr.loadAt 24 t2) (panK R) w fun t7 w =>
 opV Pg (Instr.loadAt 35 t3) (panK R) w fun t8 w =>
 callK Pg 51 #[t7,(.string { data := #[] }),t8,(.func (.func 52) #[] #[])] (panK R) w fun t9 w =>
 opV Pg (binS .neq 39 true t9 (.int .i64 0)) (panK R) w fun t11 w =>
 condP t11 (
 R (.returned (.tuple #[(.int .i64 0),t9])) w) (
 n20c1 t2 t3 R w)
theorem n20s {t0 t1:Value} {R:RT} {w:World} (h:n20 t0 t1 R w):Calls Pg 16 #[t0,t1] w R:=by
 refine yD Tryz.func16 ?_
 refine zs<|zr<|yv h fun _ w h=>yv h fun _ w h=>zm<|zm<|zn<|zk<|zs<|zs<|zr<|yv h fun _ w h=>yv h fun _ w h=>yc h c51 fun _ w h=>zm ?_
 refine zn<|zk<|zs<|zr<|zm<|yb h fun _ w h=>zn<|zk<|yC h (fun h=>zs<|zr<|zm<|zm<|zm<|zn<|zk<|sim_ret<|sim_then_ret<|body_ret2 rfl rfl rfl h) fun h=>sim_skip<|zk<|zs<|zr<|yv h fun _ w h=>?_
 exact yF h fun _ w h=>yc h c53 fun _ w h=>zm<|zm<|zn<|zk<|sim_ret<|body_ret2 rfl rfl rfl h
def n26c1 (t12:Value) (R:RT) (w:World):Prop :=
 opV Pg (binS .lss 3 true t12 (.int .i64 0)) (panK R) w fun t20 w =>
 joinK (fun (t23:Value) (w:World) =>
 pickK t20 (.bool true) t23 fun t24 =>
 condP t24 (
 R (.returned (.tuple #[(.int .i64 0),(.int .i64 3)])) w) (
 R (.returned (.tuple #[t12,(.int .i64 0)])) w)) fun K1 =>
 guardP t20 false (
 opV Pg (binS .gtr 3 true t12 (.int .i64 1048576)) (panK R) w fun t23 w =>
 K1 t23 w) (
 K1 undef w)
def n26c2 (t11:Value) (R:RT) (w:World):Prop :=
 opV Pg (Instr.extract t11 0) (panK R) w fun t12 w =>
 opV Pg (Instr.extract t11 1) (panK R) w fun t13 w =>
 opV Pg (binS .neq 39 true t13 (.int .i64 0)) (panK R) w fun t16 w =>
 condP t16 (
 R (.returned (.tuple #[(.int .i64 0),t13])) w) (
 n26c1 t12 R w)
def n26 (t0 t1:Value) (R:RT) (w:World):Prop :=
 opV Pg (Instr.box 24 t0) (panK R) w fun t2 w =>
 opV Pg (Instr.loadAt 24 t2) (panK R) w fun t9 w =>
 callK Pg 16 #[t9,t1] (panK R) w fun t11 w =>
 n26c2 t11 R w
theorem n26s {t0 t1:Value} {R:RT} {w:World} (h:n26 t0 t1 R w):Calls Pg 17 #[t0,t1] w R:=by
 refine yD Tryz.func17 ?_
 refine zs<|zr<|yv h fun _ w h=>zm<|zm<|zn<|zk<|zs<|zr<|yv h fun _ w h=>zm<|yc h c16 fun _ w h=>zm<|yv h fun _ w h=>yv h fun _ w h=>?_
 refine zm<|zm<|zn<|zk<|zs<|sim_block<|zs<|zr<|zm<|yb h fun _ w h=>zm<|zn<|zk<|yC h (fun h=>zs<|zr<|zm<|zm<|zm<|zn<|zk<|sim_ret<|sim_block_ret<|sim_then_ret<|body_ret2 rfl rfl rfl h) fun h=>?_
 refine zs<|sim_regionG<|yG 3<|zm<|yb h fun _ w h=>zm<|zn<|yg1 2 2 false [22,23] 23 h (fun _ T hT h=>?_) fun σ w h=>?_
 · refine zm<|yb h fun _ w h=>zn ?_
   exact zt hT h
 refine yG 2<|yp h fun _ h=>zm<|zn<|sim_end<|zk<|yC h (fun h=>zs<|zr<|zm<|zm<|zn<|zk<|sim_ret<|sim_block_ret<|sim_then_ret<|body_ret2 rfl rfl rfl h) fun h=>sim_skip<|sim_block_normal<|zk<|zs<|zr<|zm<|zm ?_
 exact zm<|zn<|zk<|sim_ret<|body_ret2 rfl rfl rfl h
end Go.Proofs.YtpgkjhikdhdffaaGreatDoor
