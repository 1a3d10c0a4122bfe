/-
  phrasebooklaw28.RoleBack returns true for every role, every session and every text, and leaves its arguments as they were; no condition is asked but that the tables of the library lie as the program lays them (the card ties them).
-/
import Derived.Test.YtngflmjncplkaaaGreatDoorUf4
set_option linter.all false
set_option maxHeartbeats 4000000
set_option maxRecDepth 100000
namespace Go.Proofs.YtngflmjncplkaaaGreatDoor
open Sw
open Go.RowKit (intOf Below)
structure RowR where
 r:RolD
 sv:Value
 cv:Value
 tv:Value
abbrev encR (q:RowR):List Value:=rolCells q.r q.sv q.cv q.tv
structure RowK (w:World) (a:Nat) (N:Option Nat) (q:RowR):Prop where
 s:OwnE w a 50 3 staCells q.sv q.r.states
 c:OwnE w a 52 2 cntCells q.cv q.r.counters
 t:OwnE w a 71 9 stpCells q.tv q.r.steps
 ne:∀ b,q.sv.ownBlock=some b∨q.cv.ownBlock=some b∨q.tv.ownBlock=some b→N≠some b
theorem RowK.lt {w:World} {a:Nat} {N:Option Nat} {q:RowR} (h:RowK w a N q):∀ b,q.sv.ownBlock=some b∨q.cv.ownBlock=some b∨q.tv.ownBlock=some b→a≤b∧b < w.heap.size:=by
 rintro b (hb | hb | hb)
 · exact World.ownsRow.lt h.s b hb
 · exact World.ownsRow.lt h.c b hb
 · exact World.ownsRow.lt h.t b hb
theorem RowK.keep {w w':World} {a:Nat} {N N':Option Nat} {q:RowR} (h:RowK w a N q) (hk:∀ b,a≤b→b < w.heap.size→N≠some b→w'.heap[b]?=w.heap[b]?∧N'≠some b):RowK w' a N' q :=
 ⟨OwnE.keep h.s fun b hb=>(hk b (h.lt b (.inl hb)).1 (h.lt b (.inl hb)).2 (h.ne b (.inl hb))).1,
  OwnE.keep h.c fun b hb=>(hk b (h.lt b (.inr (.inl hb))).1 (h.lt b (.inr (.inl hb))).2 (h.ne b (.inr (.inl hb)))).1,
  OwnE.keep h.t fun b hb=>(hk b (h.lt b (.inr (.inr hb))).1 (h.lt b (.inr (.inr hb))).2 (h.ne b (.inr (.inr hb)))).1,
  fun b hb=>(hk b (h.lt b hb).1 (h.lt b hb).2 (h.ne b hb)).2⟩
def RolsK (w:World) (a:Nat) (vv:Value) (l:List RolD):Prop:=∃ rows:List RowR,rows.map RowR.r=l∧OwnE w a TRol 4 encR vv rows∧∀ q∈rows,RowK w a vv.ownBlock q
theorem RolsK.nil (w:World) (a:Nat):RolsK w a (.slice none 0 0) []:=⟨[],rfl,OwnE.nil _ _ _ _ _,fun q hq=>by cases hq⟩
theorem RolsK.lt {w:World} {a:Nat} {vv:Value} {l:List RolD} (h:RolsK w a vv l):∀ b,vv.ownBlock=some b→a≤b∧b < w.heap.size:=by
 obtain ⟨rows,_,h,_⟩:=h
 exact World.ownsRow.lt h
theorem RolsK.keep {w w':World} {a:Nat} {vv:Value} {l:List RolD} (h:RolsK w a vv l) (hk:∀ b,a≤b→b < w.heap.size→w'.heap[b]?=w.heap[b]?):RolsK w' a vv l:=by
 obtain ⟨rows,h1,h2,h3⟩:=h
 exact ⟨rows,h1,OwnE.keep h2 fun b hb=>hk b (World.ownsRow.lt h2 b hb).1 (World.ownsRow.lt h2 b hb).2,fun q hq=>(h3 q hq).keep fun b hb hb2 hn=>⟨hk b hb hb2,hn⟩⟩
theorem RolsK.ext {w w':World} {a:Nat} {vv:Value} {l:List RolD} (h:RolsK w a vv l) (e:Ext w w'):RolsK w' a vv l:=h.keep fun b _ hb=>e.block b hb
theorem RolsK.base {w:World} {a a':Nat} {vv:Value} {l:List RolD} (h:RolsK w a vv l) (ha:a'≤a):RolsK w a' vv l:=by
 obtain ⟨rows,h1,h2,h3⟩:=h
 exact ⟨rows,h1,h2.base ha,fun q hq=>⟨(h3 q hq).s.base ha,(h3 q hq).c.base ha,(h3 q hq).t.base ha,(h3 q hq).ne⟩⟩
theorem slice_map {α β:Type} {w:World} {n:Nat} {E:World→List Value→β→Prop} {v:Value} {f:α→β} {l:List α} (h:SliceOf w n (fun w cs x=>E w cs (f x)) v l):SliceOf w n E v (l.map f):=by
 obtain ⟨A,c,h1,h2,h3,h4⟩:=h
 refine ⟨A,c,by rw [List.length_map];exact h1,by rw [List.length_map];exact h2,h3,fun hne=>?_⟩
 obtain ⟨b,o,h5,h6⟩:=h4 (by rintro rfl;exact hne rfl)
 refine ⟨b,o,h5,fun k x hx=>?_⟩
 rw [List.getElem?_map] at hx
 cases hl:l[k]? with
 | none=>rw [hl] at hx;cases hx
 | some y =>
  rw [hl] at hx
  injection hx with hx
  subst hx
  exact h6 k y hl
theorem RolsK.of {w:World} {a:Nat} {vv:Value} {l:List RolD} (h:RolsK w a vv l):RolsOf w vv l:=by
 obtain ⟨rows,rfl,h2,h3⟩:=h
 exact slice_map (E:=ERol) (f:=RowR.r) (h2.slice (E:=fun w cs x=>ERol w cs x.r) (fun _=>rfl) fun q hq=>show ERol w (encR q) q.r from ⟨q.sv,q.cv,q.tv,rfl,OwnE.slice (E:=ESta) (h3 q hq).s (fun _=>rfl) (fun _ _=>rfl),OwnE.slice (E:=ECnt) (h3 q hq).c (fun _=>rfl) (fun _ _=>rfl),OwnE.slice (E:=EStp) (h3 q hq).t (fun _=>rfl) (fun _ _=>rfl)⟩)
theorem append_role {w:World} {QP:List PanicEntry→World→Prop} {k:Value→World→Prop} {a b:Nat} {vv:Value} {l:List RolD} {r:RolD} {sv cv tv:Value} (h:RolsK w a vv l) (hr:RowK w a vv.ownBlock ⟨r,sv,cv,tv⟩) (hc:ElemAt w b 0 (rolCells r sv cv tv)) (hbase:a≤w.heap.size) (hl:l.length≤1000000)
 (hk:∀ g cap w',RolsK w' a (.slice (some ⟨g,0,none⟩) (l.length+1) cap) (l++[r])→w.grownBy w' vv.ownBlock→(vv.ownBlock=some g∨g=w.heap.size)→g < w'.heap.size→k (.slice (some ⟨g,0,none⟩) (l.length+1) cap) w') :
 opV Pg (Builtin.append_ #[54,54] 54 #[vv,.slice (some ⟨b,0,none⟩) 1 1]) QP w k:=by
 obtain ⟨rows,rfl,h2,h3⟩:=h
 have hby:=by26
 rw [List.length_map] at hl hk
 refine op_appendL (enc:=encR) (l':=[(⟨r,sv,cv,tv⟩:RowR)]) Tryz.underlying54 ty26 rfl (by decide) (fun _=>rfl) (fun x hx u hu=>?_) h2 (o:=0) (fun j x hx=>?_) hbase (by simp) ?_ (by simp;omega) ?_
 · simp only [List.mem_singleton] at hx
   subst hx
   have f1:=own_one hr.s (fun _=>rfl)
   have f2:=own_one hr.c (fun _=>rfl)
   have f3:=own_one hr.t (fun _=>rfl)
   simp only [List.mem_cons,List.not_mem_nil,or_false] at hu
   rcases hu with rfl | rfl | rfl | rfl
   · rfl
   · exact f1
   · exact f2
   · exact f3
 · cases j with
   | zero =>
    simp only [List.getElem?_cons_zero,Option.some.injEq] at hx
    subst hx
    simpa using hc
   | succ j=>simp at hx
 · simp only [List.length_cons,List.length_nil]
   have:rows.length+1≤2000000:=by omega
   exact Nat.le_trans (Nat.mul_le_mul this hby) (by decide)
 · intro g cap w' hO hg hgg hgl
   refine hk g cap w' ⟨rows++[⟨r,sv,cv,tv⟩],by simp,hO,fun q hq=>?_⟩ hg hgg hgl
   have mv:∀ {q},RowK w a vv.ownBlock q→RowK w' a (some g) q:=fun h=>h.keep fun b hb hb2 hn=>by
    refine ⟨hg.block b hb2 (fun e=>hn e.symm),fun e=>?_⟩
    injection e with e
    subst e
    rcases hgg with e | e
    · exact hn e
    · omega
   rcases List.mem_append.1 hq with hq | hq
   · exact mv (h3 q hq)
   · rw [List.mem_singleton.1 hq]
     exact mv hr
theorem Index_string_ret (w0:World) (v:Value) (l:List ByteArray) (x:ByteArray) (hs:SliceOf w0 1 EStr v l) :
 Ret Pg 68 #[v,.string x] w0 fun r w'=>r = .int .i64 (idx (fun y=>decide (x=y)) l)∧Ext w0 w':=by
 obtain ⟨A,c,rfl,hlc,hcm,hlm,hel⟩:=SliceOf.open hs
 refine n66s (R:=retR _) ?_;unfold n66
 simp (disch:=try exact DI) only [↓PR,QR,simprocAttr]
 refine loop1_intro (fun i w=>∃ k:Nat,i = .int .i64 k∧k≤l.length∧Ext w0 w∧∀ (j:Nat) y,j < k→l[j]?=some y→decide (x=y)=false) (fun i _=>l.length - (intOf i).toNat) ⟨0,rfl,by omega,Ext.refl _,fun j y h=>by omega⟩ ?_
 rintro i w ⟨k,rfl,hk,e,hb⟩
 by_cases hlt:k < l.length
 · obtain ⟨y,hy⟩:=getElem?_lt hlt
   obtain ⟨b,o,cs,rfl,hl,hA,rfl⟩:=hel k y hy
   have dk:(k:Int) < (l.length:Int):=by omega
   have hd:decide ((k:Int) < (l.length:Int))=true:=decide_eq_true dk
   have hw:IntKind.i64.wrap ((k:Int)+1)=((k+1:Nat):Int):=by rw [wrap_ok (by omega) (by omega)];omega
   have hc1:=hA.c1 e
   cases hp:decide (x=y) with
   | true =>
    simp (disch:=try exact DI) only [↓PR,QR,simprocAttr,hd,↓n66c1,hc1,hp]
    exact ⟨by rw [idx_here hy hp hb],e⟩
   | false =>
    simp (disch:=try exact DI) only [↓PR,QR,simprocAttr,hd,↓n66c1,hc1,hp,hw]
    exact ⟨⟨k+1,rfl,by omega,e,before_succ hb hy hp⟩,meas_lt (kd := .i64) hlt⟩
 · have hd:decide ((k:Int) < (l.length:Int))=false:=by simp;omega
   simp (disch:=try exact DI) only [↓PR,QR,simprocAttr,hd]
   exact ⟨by rw [idx_none fun j y hy=>hb j y (by have:=(List.getElem?_eq_some_iff.1 hy).1;omega) hy],e⟩
def SesObj (w:World) (c base:Nat) (s:SesD):Prop:=∃ rv,w.heap[c]?=some (.cells (sesCells s rv).toArray TSes (0,0))∧RolsK w base rv s.roles
theorem SesObj.keep {w w':World} {c base:Nat} {s:SesD} (h:SesObj w c base s) (hc:w'.heap[c]?=w.heap[c]?) (hk:∀ b,base≤b→b < w.heap.size→w'.heap[b]?=w.heap[b]?):SesObj w' c base s:=by
 obtain ⟨rv,ho,h1⟩:=h
 exact ⟨rv,hc.trans ho,h1.keep hk⟩
theorem class_idx (x:ByteArray):idx (fun y=>decide (x=y)) [classB 1,classB 2,classB 3]+1=classI x:=by
 unfold classI idx
 by_cases h1:x=classB 1
 · simp [List.findIdx?_cons,h1]
 by_cases h2:x=classB 2
 · rw [if_neg h1,if_pos h2]
   simp [List.findIdx?_cons,h1,h2,show ¬ classB 2=classB 1 from by decide]
 by_cases h3:x=classB 3
 · rw [if_neg h1,if_neg h2,if_pos h3]
   simp [List.findIdx?_cons,h3,show ¬ classB 3=classB 1 from by decide,show ¬ classB 3=classB 2 from by decide]
 · rw [if_neg h1,if_neg h2,if_neg h3]
   simp [List.findIdx?_cons,h1,h2,h3]
theorem sesP_eq (k:ByteArray) (ws:List ByteArray) (L:List (List ByteArray)):sesP ((k::ws)::L)=if k=kSession then (match headP ws with
 | none=>(none,1)
 | some h=>match goS L.length [] L 1 with
  | (none,n)=>(none,n)
  | (some rs,n)=>(some ⟨h.name,rs,h.cls,h.capacity⟩,n)) else (none,1):=rfl
theorem sesP_bad {us:List ByteArray} {L:List (List ByteArray)} (h:headP us=none):sesP ((kSession::us)::L)=(none,1):=by
 rw [sesP_eq,if_pos rfl,h]
theorem sesP_no {lines:List ByteArray} (h:∀ x l,lines[0]?=some x→spW x≠kSession::l):sesP (lines.map spW)=(none,1):=by
 cases lines with
 | nil=>rfl
 | cons x l =>
  rw [List.map_cons]
  cases hx:spW x with
  | nil=>rfl
  | cons k us=>rw [sesP_eq,if_neg fun e=>h x us rfl (by rw [hx,e])]
theorem goS_step {f:Nat} {acc:List RolD} {L:List (List ByteArray)} {n k:Nat} {r:RolD} (hL:L≠[]) (h:roleP L=(some r,k)):goS (f+1) acc L n=goS f (acc++[r]) (L.drop k) (n+k):=by
 rw [show goS (f+1) acc L n=if L=[] then (some acc,n) else match roleP L with
  | (none,k)=>(none,n+k)
  | (some r,k)=>goS f (acc++[r]) (L.drop k) (n+k) from rfl,if_neg hL,h]
theorem goS_fail {f:Nat} {acc:List RolD} {L:List (List ByteArray)} {n k:Nat} (hL:L≠[]) (h:roleP L=(none,k)):goS (f+1) acc L n=(none,n+k):=by
 rw [show goS (f+1) acc L n=if L=[] then (some acc,n) else match roleP L with
  | (none,k)=>(none,n+k)
  | (some r,k)=>goS f (acc++[r]) (L.drop k) (n+k) from rfl,if_neg hL,h]
theorem goS_nil {f:Nat} {acc:List RolD} {n:Nat}:goS f acc [] n=(some acc,n):=by
 cases f with
 | zero=>rfl
 | succ f=>rfl
section
variable {w w' w1:World} {p c at_ at1 B B':Nat} {lines us us':List ByteArray} {lv:Value} {cs:Array Value} {QP:List PanicEntry→World→Prop} {k:Value→World→Prop}
theorem word_call (h:Rd w p lines at_ us lv B) (hk:∀ x l w',us=x::l→Rd w' p lines at_ l lv B→Save p (p+1) w w'→k (.string x) w') (hn:∀ w',us=[]→Save p (p+1) w w'→QP (wrongE at_) w'):callK Pg 69 #[.pointer (some ⟨p,0,none⟩)] QP w k:=by
 refine callK_wr (word_wr h) (fun v l w1 ho hr hs=>?_) fun w1 ho hs=>hn _ (pop_none ho) hs
 obtain ⟨x,rfl,hx⟩:=pop_some ho
 exact hk _ _ _ hx hr hs
theorem must_call (h:Rd w p lines at_ us lv B) (b:Bool) (hk:∀ w',b=true→Rd w' p lines at_ us lv B→Save p (p+1) w w'→k (.tuple #[]) w') (hn:∀ w',b=false→Save p (p+1) w w'→QP (wrongE at_) w'):callK Pg 66 #[.pointer (some ⟨p,0,none⟩),.bool b] QP w k:=by
 refine callK_wr (must_wr h b) (fun v l w1 ho hr hs=>?_) fun w1 ho hs=>?_
 · cases b with
   | false=>cases ho
   | true =>
    rw [if_pos rfl] at ho
    injection ho with ho
    injection ho with e1 e2
    subst e1 e2
    exact hk _ rfl hr hs
 · cases b with
   | false=>exact hn _ rfl hs
   | true=>cases ho
theorem Save2.to_ext {a:World} (h:Save2 p c w w') (e:Ext a w) (hp:a.heap.size≤p) (hc:a.heap.size≤c):Ext a w':=⟨h.os.trans e.os,h.tape.trans e.tape,h.output.trans e.output,Nat.le_trans e.size h.size,fun k hk=>(h.block k (Nat.lt_of_lt_of_le hk e.size) (by omega) (by omega)).trans (e.block k hk)⟩
structure SH (w1:World) (p c:Nat) (lines:List ByteArray) (lv:Value) (w:World) (at_:Nat) (us:List ByteArray) (B:Nat) (cs:Array Value):Prop where
 rd:Rd w p lines at_ us lv B
 Bw:B < w.heap.size
 Bc:c≠B
 sv:Save2 p c w1 w
 ob:w.heap[c]?=some (.cells cs TSes (0,0))
theorem SH.move (h:SH w1 p c lines lv w at_ us B cs) (hcp:c≠p) (hs:Save p (p+1) w w') (hr:Rd w' p lines at1 us' lv B') (h1:c≠B') (h2:B' < w'.heap.size):SH w1 p c lines lv w' at1 us' B' cs :=
 ⟨hr,h2,h1,h.sv.trans (Save2.of hs),hs.obj h.ob (by omega)⟩
theorem SH.next (h:SH w1 p c lines lv w at_ us B cs) (hcp:c≠p) (hs:Save p (p+1) w w') (hr:Rd w' p lines at_ us' lv B):SH w1 p c lines lv w' at_ us' B cs:=h.move hcp hs hr h.Bc (Nat.lt_of_lt_of_le h.Bw hs.size)
theorem SH.ext (h:SH w1 p c lines lv w at_ us B cs) (hcp:c≠p) (e:Ext w w'):SH w1 p c lines lv w' at_ us B cs:=h.next hcp (Save.of_ext e) (h.rd.ext e)
theorem SH.set (h:SH w1 p c lines lv w at_ us B cs) (hcp:c≠p) (hl:∀ A n c',lv = .slice (some A) n c'→A.block < w1.heap.size∧A.block≠c) (i:Nat) (v:Value):SH w1 p c lines lv (w.setCell ⟨c,i,none⟩ v) at_ us B (cs.setIfInBounds i v) :=
 ⟨h.rd.other v hcp h.Bc fun A n c' e=>(hl A n c' e).2,by rw [World.size_setCell];exact h.Bw,h.Bc,h.sv.setCell i v,heap_set h.ob v⟩
end
section
variable {WB w w' w1 W:World} {p c at_ B:Nat} {lines us:List ByteArray} {lv:Value} {cs:Array Value}
theorem SH.grown (h:SH w1 p c lines lv w at_ us B cs) {N:Option Nat} (hg:w.grownBy w' N) (hN:∀ b,N=some b→w1.heap.size≤b∧b≠B) (hp:p < w1.heap.size) (hc:c < w1.heap.size) (hl:∀ A n c',lv = .slice (some A) n c'→A.block < w1.heap.size∧A.block≠c):SH w1 p c lines lv w' at_ us B cs:=by
 have sz:=h.sv.size
 have sg:=hg.size
 have sm:∀ b,b < w1.heap.size→w'.heap[b]?=w.heap[b]?:=fun b hb=>hg.block b (by omega) fun e=>by have:=(hN b e.symm).1;omega
 refine ⟨h.rd.same (sm p hp) (hg.block B h.Bw fun e=>(hN B e.symm).2 rfl) fun A n c' e=>sm _ (hl A n c' e).1,Nat.lt_of_lt_of_le h.Bw sg,h.Bc,⟨hg.os.trans h.sv.os,hg.tape.trans h.sv.tape,hg.output.trans h.sv.output,by omega,fun k hk h1 h2=>(sm k hk).trans (h.sv.block k hk h1 h2)⟩,(sm c hc).trans h.ob⟩
theorem ses_loop {R:RT} {nm:ByteArray} {cls cap:Int} {us0:List ByteArray} {B0:Nat} (hE:EnvOK WB) (eB:Ext WB w1) (hb:WB.heap.size≤p) (hbc:WB.heap.size≤c) (hlz:∀ x∈lines,x.size≤100000) (hn:lines.length≤100000) (hcp:c≠p) (hp:p < w1.heap.size) (hc:c < w1.heap.size) (hl:∀ A n c',lv = .slice (some A) n c'→A.block < w1.heap.size∧A.block≠c)
 (h:SH w1 p c lines lv W 1 us0 B0 (sesCells ⟨nm,[],cls,cap⟩ (.slice none 0 0)).toArray) (hln:1≤lines.length)
 (hok:∀ w us B rs vv,SH w1 p c lines lv w lines.length us B (sesCells ⟨nm,rs,cls,cap⟩ vv).toArray→RolsK w w1.heap.size vv rs→goS ((lines.map spW).drop 1).length [] ((lines.map spW).drop 1) 1=(some rs,lines.length)→R (.returned (.tuple #[])) w)
 (hno:∀ w (n:Nat) rs vv,Save2 p c w1 w→w.heap[c]?=some (.cells (sesCells ⟨nm,rs,cls,cap⟩ vv).toArray TSes (0,0))→goS ((lines.map spW).drop 1).length [] ((lines.map spW).drop 1) 1=(none,n)→panK R (wrongE (n:Int)) w) :
 loop0 (fun w next4=>drawK w fun C5 w=>n26c3 (.pointer (some ⟨p,0,none⟩)) (.pointer (some ⟨c,0,none⟩)) C5 next4 R w) W:=by
 generalize hL:lines.map spW=L at hok hno
 have hLl:L.length=lines.length:=by rw [← hL,List.length_map]
 refine loop0_intro (fun w=>∃ at_ us B vv acc f,SH w1 p c lines lv w at_ us B (sesCells ⟨nm,acc,cls,cap⟩ vv).toArray∧RolsK w w1.heap.size vv acc∧acc.length+1≤at_∧at_≤lines.length∧lines.length≤at_+f∧goS (L.drop 1).length [] (L.drop 1) 1=goS f acc (L.drop at_) at_∧∀ b,vv.ownBlock=some b→b≠B) (fun w=>lines.length - atOf p w) ⟨1,us0,B0,_,[],(L.drop 1).length,h,RolsK.nil _ _,by simp,hln,by rw [List.length_drop];omega,rfl,fun b hb=>by cases hb⟩ ?_
 clear h
 rintro w ⟨at_,us,B,vv,acc,f,h,hK,ha,hal,hf,hG,hvB⟩
 have hm:=h.rd.at
 refine drawK_intro ?_
 have eD:Ext w (Sw.drew w):=(Ext.refl w).drew
 have h:=h.ext hcp eD
 have hK:=hK.ext eD
 generalize Sw.drew w=D at eD h hK ⊢
 obtain ⟨wv,hrd⟩:=h.rd
 have hrd0:=hrd
 obtain ⟨A,c',hlv,_⟩:=SliceOf.open hrd.ls
 have olv:=SliceOf.oneCell hrd.ls
 unfold n26c3
 by_cases hlt:at_ < lines.length
 case neg =>
  obtain rfl:at_=lines.length:=by omega
  have d1:decide ((lines.length:Int) < (lines.length:Int))=false:=decide_eq_false (by omega)
  subst hlv
  simp (disch:=try exact DI) only [↓PR,QR,simprocAttr,(cells_of_heap hrd.obj).1,d1]
  refine hok D us B acc vv h hK ?_
  rw [hG,← hLl,List.drop_length,goS_nil]
 have d1:decide ((at_:Int) < (lines.length:Int))=true:=decide_eq_true (by omega)
 have hcell:D.cell? ⟨c,1,none⟩=some vv:=by rw [(cells_of_heap h.ob).1];rfl
 have hlo:=hK.lt
 have szw:=h.sv.size
 have hqb:c≠rowB vv p:=by
  unfold rowB
  cases hv:vv.ownBlock with
  | none=>exact hcp
  | some b=>have:=(hlo b hv).1;show c≠b;omega
 have hqp:p≠rowB vv p∨p=rowB vv p:=by omega
 have hov:vv.oneCell'=true:=SliceOf.oneCell hK.of
 have hstep:∀ C:Prop,C→C:=fun _ h=>h
 subst hlv
 simp (disch:=try exact DI) only [↓PR,QR,simprocAttr,(cells_of_heap hrd.obj).1,d1]
 refine drawK_introB p (rowB vv p) (w1:=D) (fun _ _ _ _=>rfl) ?_
 have eE:Ext D (Sw.drew D):=(Ext.refl D).drew
 have hKE:KB D p (rowB vv p) (Sw.drew D):=fun _ _ _ _=>rfl
 have h:=h.ext hcp eE
 have hK:=hK.ext eE
 have szE:=eE.size
 generalize Sw.drew D=E at hKE h hK szE ⊢
 unfold n26c2
 simp (disch:=try exact DI) only [↓PR,QR,simprocAttr,hcell]
 have hror:=role_ror hE (h.sv.to_ext eB hb hbc) hb hlz hn hal h.rd h.Bw fun A n c' e=>Nat.lt_of_lt_of_le (hl A n c' e).1 h.sv.size
 rw [hL] at hror
 have hne:L.drop at_≠[]:=by
  intro e
  rw [List.drop_eq_nil_iff] at e
  omega
 obtain ⟨f,rfl⟩:∃ f',f=f'+1:=⟨f - 1,by omega⟩
 have hge:=roleP_ge (L.drop at_)
 refine callK_calls hror (fun v w2 hA=>?_) (fun ch w2 hA=>?_) (fun w2 hA=>?_)
 · obtain ⟨hs,hA⟩:=hA
   cases hrp:roleP (L.drop at_) with
   | mk o n =>
   rw [hrp] at hA hge
   cases o with
   | none=>cases hA
   | some r =>
   obtain ⟨v',he,⟨sv,cv,tv,hv,h1,h2,h3⟩,us',B',hr2,hB2,hB3⟩:=hA
   injection he with he
   subst he hv
   have hge:1≤n:=hge
   have hnl:=(roleP_read hrp).2.2.2.2.2
   rw [List.length_drop] at hnl
   have f1:=own_one h1 (fun _=>rfl)
   have f2:=own_one h2 (fun _=>rfl)
   have f3:=own_one h3 (fun _=>rfl)
   have sz2:=hs.size
   have szE1:=h.sv.size
   have hbE:=h.Bw
   have h:=h.move hcp hs hr2 (by omega) hB2
   have hK:=hK.keep (w':=w2) fun b hb1 hb2=>hs.block b hb2 (by omega)
   have hK2:KB D p (rowB vv p) w2:=fun b hb h1 h2=>(hs.block b (by omega) (by omega)).trans (hKE b hb h1 h2)
   refine ⟨hK2,?_⟩
   simp (disch:=try exact DI) only [↓PR,QR,simprocAttr]
   generalize hY:World.alloc w2 _=Y
   have eY:Ext w2 Y:=by rw [← hY];exact (Ext.refl w2).alloc _
   have oY:ElemAt Y w2.heap.size 0 (rolCells r sv cv tv):=by rw [← hY];exact ElemAt.new _ _
   clear hY
   have hKY:KB D p (rowB vv p) Y:=fun b hb h1 h2=>(eY.block b (by omega)).trans (hK2 b hb h1 h2)
   refine ⟨hKY,?_⟩
   have h:=h.ext hcp eY
   have hK:=hK.ext eY
   have szY:=eY.size
   have hrow:RowK Y w1.heap.size vv.ownBlock ⟨r,sv,cv,tv⟩:=⟨(h1.ext eY).base (by omega),(h2.ext eY).base (by omega),(h3.ext eY).base (by omega),fun b hb e=>by
    have hlt1:=(hlo b e).2
    have:E.heap.size≤b:=by
     rcases hb with hb | hb | hb
     · exact (World.ownsRow.lt h1 b hb).1
     · exact (World.ownsRow.lt h2 b hb).1
     · exact (World.ownsRow.lt h3 b hb).1
    omega⟩
   unfold n26c1
   refine append_role hK hrow oY (by omega) (by omega) ?_
   intro g cap' w4 hK4 hg hgg hgl
   have hK4':KB D p (rowB vv p) w4:=fun b hb h1 h2=>(hg.block b (by omega) (fun e=>by unfold rowB at h2;rw [← e] at h2;exact h2 rfl)).trans (hKY b hb h1 h2)
   refine ⟨hK4',?_⟩
   have h4:=h.grown hg (fun b hb=>⟨(hlo b hb).1,by have:=(hlo b hb).2;omega⟩) hp hc hl
   have hc4:w4.cell? ⟨c,1,none⟩=some vv:=by rw [(cells_of_heap h4.ob).1];rfl
   have hf4:w4.frozen? ⟨c,1,none⟩=false:=(cells_of_heap h4.ob).2 _
   simp (disch:=try exact DI) only [↓PR,QR,simprocAttr,hc4,hf4]
   refine turnK_intro ?_
   have h5:=h4.set hcp hl 1 (.slice (some ⟨g,0,none⟩) (acc.length+1) cap')
   refine ⟨⟨at_+n,us',B',_,acc++[r],f,h5,hK4.keep fun b hb1 _=>Only.setCell w4 c 1 _ b (by omega),by simp;omega,by omega,by omega,?_,fun b hb=>?_⟩,?_⟩
   · rw [hG,goS_step hne hrp,List.drop_drop]
   · have hb:g=b:=by injection hb
     have hB4:B' < w2.heap.size:=hB2
     rcases hgg with e | e
     · have:=(hlo _ e).2;omega
     · omega
   · rw [h5.rd.at,hm];omega
 · obtain ⟨hs,hA⟩:=hA
   cases hrp:roleP (L.drop at_) with
   | mk o n =>
   rw [hrp] at hA
   cases o with
   | some r=>obtain ⟨v',he,_⟩:=hA;cases he
   | none =>
   injection hA with hA
   subst hA
   exact hno w2 _ acc vv (h.sv.trans (Save2.of hs)) (hs.obj h.ob (by omega)) (by rw [hG,goS_fail hne hrp])
 · obtain ⟨hs,hA⟩:=hA
   cases hrp:roleP (L.drop at_) with
   | mk o n =>
   rw [hrp] at hA
   cases o with
   | some r=>obtain ⟨v',he,_⟩:=hA;cases he
   | none=>cases hA
end
theorem classI_range (x:ByteArray):0≤classI x∧classI x≤3:=by
 unfold classI
 split
 · omega
 · split
   · omega
   · split<;>omega
theorem cls_slice {w:World} {b:Nat} (h:w.heap[b]?=some (.cells clsCells.toArray 9 (0,0))):SliceOf w 1 EStr (.slice (some ⟨b,1,none⟩) 3 3) [classB 1,classB 2,classB 3]:=by
 refine ⟨_,3,rfl,by simp,by omega,fun _=>⟨b,1,rfl,fun k x hx=>⟨[.string x],rfl,fun j v hv=>?_,rfl⟩⟩⟩
 cases j with
 | succ j=>cases hv
 | zero =>
  injection hv with hv
  subst hv
  rw [(cells_of_heap h).1]
  have hk:=(List.getElem?_eq_some_iff.1 hx).1
  have:k=0∨k=1∨k=2:=by simp at hk;omega
  rcases this with rfl | rfl | rfl<;>(injection hx with hx;subst hx;rfl)
section
variable {WB w1:World} {p c B:Nat} {lines:List ByteArray} {lv:Value}
theorem SesS1_all (hE:EnvOK WB) (eB:Ext WB w1) (hb:WB.heap.size≤p) (hbc:WB.heap.size≤c) (hlz:∀ x∈lines,x.size≤90000) (hn:lines.length≤100000) (hcp:c≠p) (hp:p < w1.heap.size) (hc:c < w1.heap.size) (hl:∀ A n c',lv = .slice (some A) n c'→A.block < w1.heap.size∧A.block≠c) (hr:Rd w1 p lines 0 [] lv B) (hB:B < w1.heap.size) (hcB:c≠B)
 (ho:w1.heap[c]?=some (.cells (sesCells zeroSes (.slice none 0 0)).toArray TSes (0,0))) :
 Calls Pg 64 #[.pointer (some ⟨p,0,none⟩),.pointer (some ⟨c,0,none⟩)] w1 (AllR w1 p c lines lv (fun w2 at_=>∃ s,sesP (lines.map spW)=(some s,at_)∧SesObj w2 c w1.heap.size s) (fun w2 n=>sesP (lines.map spW)=(none,n)∧∃ s rv,w2.heap[c]?=some (.cells (sesCells s rv).toArray TSes (0,0)))):=by
 refine n26s ?_
 unfold n26
 have pan:∀ (w:World) (n:Nat) (s:SesD) (rv:Value),Save2 p c w1 w→w.heap[c]?=some (.cells (sesCells s rv).toArray TSes (0,0))→sesP (lines.map spW)=(none,n)→panK (AllR w1 p c lines lv (fun w2 at_=>∃ s,sesP (lines.map spW)=(some s,at_)∧SesObj w2 c w1.heap.size s) (fun w2 n=>sesP (lines.map spW)=(none,n)∧∃ s rv,w2.heap[c]?=some (.cells (sesCells s rv).toArray TSes (0,0)))) (wrongE (n:Int)) w :=
  fun w n s rv hs ho he=>⟨hs,.inr ⟨n,rfl,he,s,rv,ho⟩⟩
 have h0:SH w1 p c lines lv w1 0 [] B (sesCells zeroSes (.slice none 0 0)).toArray:=⟨hr,hB,hcB,Save2.of (Save.refl _ _ _),ho⟩
 have hlz':∀ x∈lines,x.size≤100000:=fun x hx=>Nat.le_trans (hlz x hx) (by omega)
 refine callK_ret (next_ret hE eB hb hlz' (Nat.zero_le _) hn hr kSession) ?_
 rintro _ w2 ⟨hs2,⟨x,us,B',hx,hsp,rfl,⟨hB1,hB2⟩,hr2⟩ | ⟨hno,rfl,hr2⟩⟩
 rotate_left
 · have h:=h0.next hcp hs2 hr2
   obtain ⟨wv,hrd⟩:=h.rd
   unfold n26c10
   have hw:IntKind.i64.wrap (((0:Nat):Int)+1)=((0+1:Nat):Int):=by rw [wrap_ok (by omega) (by omega)];omega
   simp (disch:=try exact DI) only [↓PR,QR,simprocAttr,↓n26c9,(cells_of_heap hrd.obj).1,(cells_of_heap hrd.obj).2,hw]
   have hrd2:Rd (w2.setCell ⟨p,1,none⟩ (.int .i64 ((1:Nat):Int))) p lines 1 [] lv B:=⟨wv,hrd.setAt 1⟩
   have hs3:Save p (p+1) w2 (w2.setCell ⟨p,1,none⟩ (.int .i64 ((1:Nat):Int))):=(Save.refl _ _ _).setCell (Nat.le_refl _) (Nat.lt_succ_self _) _
   refine must_call hrd2 false (fun w' he=>by cases he) fun w' _ hs4=>?_
   have hs:=hs3.trans hs4
   exact pan w' 1 _ _ (h.sv.trans (Save2.of hs)) (hs.obj h.ob (by omega)) (sesP_no hno)
 have hlt:=(List.getElem?_eq_some_iff.1 hx).1
 have hus:∀ y∈us,y.size≤100000:=fun y hy=>Nat.le_trans (spW_sub (x:=x) (by rw [hsp];exact List.mem_cons_of_mem _ hy)) (hlz' x (List.mem_of_getElem? hx))
 have hdr:lines.map spW=(kSession::us)::(lines.map spW).drop 1:=by
  have:=drop_words hx hsp
  rw [List.drop_zero] at this
  exact this
 have h:=h0.move hcp hs2 hr2 (by omega) hB2
 have bad:headP us=none→sesP (lines.map spW)=(none,1):=fun e=>by rw [hdr];exact sesP_bad e
 clear h0 hr2 hs2
 unfold n26c10
 simp (disch:=try exact DI) only [↓PR,QR,simprocAttr]
 refine name_call h.rd (fun nm l1 w3 hnm hr3 hs3=>?_) fun w' hnm hs3=>pan w' 1 _ _ (h.sv.trans (Save2.of hs3)) (hs3.obj h.ob (by omega)) (bad (by unfold headP;rw [hnm];rfl))
 have h:=h.next hcp hs3 hr3
 unfold n26c8
 simp (disch:=try exact DI) only [↓PR,QR,simprocAttr,(cells_of_heap h.ob).1,(cells_of_heap h.ob).2]
 have h:=h.set hcp hl 0 (.string nm)
 generalize w3.setCell ⟨c,0,none⟩ (.string nm)=w4 at h ⊢
 have h:SH w1 p c lines lv w4 1 l1 B' (sesCells ⟨nm,[],0,0⟩ (.slice none 0 0)).toArray:=h
 refine drawK_introB p c (w1:=w4) (fun _ _ _ _=>rfl) ?_
 have eD:Ext w4 (Sw.drew w4):=(Ext.refl w4).drew
 have hKD:KB w4 p c (Sw.drew w4):=fun _ _ _ _=>rfl
 have h:=h.ext hcp eD
 generalize Sw.drew w4=D at eD hKD h ⊢
 refine callK_ret (classes_ret D) ?_
 rintro _ w5 ⟨rfl,o5,s5,e5⟩
 have szD:=eD.size
 have szD1:=h.sv.size
 have h:=h.ext hcp e5
 have hK5:KB w4 p c w5:=fun b hb h1 h2=>(e5.block b (by omega)).trans (hKD b hb h1 h2)
 refine ⟨hK5,?_⟩
 have hsl:∀ K:Value→Prop,qV Pg (KB w4 p c) (Instr.sliceAt 73 (.slice (some ⟨D.heap.size,0,none⟩) 4 4) (some (.int .i64 1)) none none) K=K (.slice (some ⟨D.heap.size,1,none⟩) 3 3):=fun K=>qV_of fun QP w k=>op_dropV 1 D.heap.size 0 4 4 (by omega) (by omega)
 unfold n26c7
 rw [hsl]
 refine word_call h.rd (fun x2 l2 w6 hl1 hr6 hs6=>?_) fun w' hl1 hs6=>pan w' 1 _ _ (h.sv.trans (Save2.of hs6)) (hs6.obj h.ob (by omega)) (bad (by unfold headP;rw [hnm];simp only [Option.bind_some];rw [hl1];rfl))
 have h:=h.next hcp hs6 hr6
 have hK6:KB w4 p c w6:=fun b hb h1 h2=>(hs6.block b (by omega) (by omega)).trans (hK5 b hb h1 h2)
 refine ⟨hK6,?_⟩
 have o6:=hs6.obj o5 (by omega)
 refine zcr (Index_string_ret w6 _ _ x2 (cls_slice o6)) fun w7 e7=>?_
 have h:=h.ext hcp e7
 have hK7:KB w4 p c w7:=fun b hb h1 h2=>(e7.block b (by have:=hs6.size;omega)).trans (hK6 b hb h1 h2)
 refine ⟨hK7,?_⟩
 have hcr:=classI_range x2
 have hw:IntKind.i64.wrap (idx (fun y=>decide (x2=y)) [classB 1,classB 2,classB 3]+1)=classI x2:=by rw [class_idx,wrap_ok (by omega) (by omega)]
 unfold n26c6
 simp (disch:=try exact DI) only [↓PR,QR,simprocAttr,hw,(cells_of_heap h.ob).1,(cells_of_heap h.ob).2]
 refine turnK_intro ?_
 have h:=h.set hcp hl 2 (.int .i64 (classI x2))
 generalize w7.setCell ⟨c,2,none⟩ (.int .i64 (classI x2))=w8 at h ⊢
 have h:SH w1 p c lines lv w8 1 l2 B' (sesCells ⟨nm,[],classI x2,0⟩ (.slice none 0 0)).toArray:=h
 unfold n26c5
 simp (disch:=try exact DI) only [↓PR,QR,simprocAttr,(cells_of_heap h.ob).1]
 refine must_call h.rd _ (fun w9 hb9 hr9 hs9=>?_) fun w' hb9 hs9=>pan w' 1 _ _ (h.sv.trans (Save2.of hs9)) (hs9.obj h.ob (by omega)) (bad (by
  unfold headP
  rw [hnm]
  simp only [Option.bind_some]
  rw [hl1]
  show (if classI x2=0 then none else _)=none
  rw [if_pos (by simpa using hb9)]))
 have hc0:¬ classI x2=0:=by simpa using hb9
 have h:=h.next hcp hs9 hr9
 have hz2:∀ y∈l2,y.size≤100000:=fun y hy=>hus y (nameP_sub hnm y (by rw [hl1];exact List.mem_cons_of_mem _ hy))
 have hh:headP us=(numP l2).bind fun c=>endP (⟨nm,classI x2,c.1⟩:HeadD) c.2:=by
  unfold headP
  rw [hnm]
  simp only [Option.bind_some]
  rw [hl1]
  show (if classI x2=0 then none else _)=_
  rw [if_neg hc0]
 refine num_call hE (h.sv.to_ext eB hb hbc) hb hz2 h.rd (fun n l3 w10 hnn hr10 hs10=>?_) fun w' hnn hs10=>pan w' 1 _ _ (h.sv.trans (Save2.of hs10)) (hs10.obj h.ob (by omega)) (bad (by rw [hh,hnn];rfl))
 have h:=h.next hcp hs10 hr10
 unfold n26c4
 simp (disch:=try exact DI) only [↓PR,QR,simprocAttr,(cells_of_heap h.ob).1,(cells_of_heap h.ob).2]
 have h:=h.set hcp hl 3 (.int .i64 n)
 generalize w10.setCell ⟨c,3,none⟩ (.int .i64 n)=w11 at h ⊢
 have h:SH w1 p c lines lv w11 1 l3 B' (sesCells ⟨nm,[],classI x2,n⟩ (.slice none 0 0)).toArray:=h
 refine end_call h.rd (fun w12 hl3 hr12 hs12=>?_) fun w' hl3 hs12=>pan w' 1 _ _ (h.sv.trans (Save2.of hs12)) (hs12.obj h.ob (by omega)) (bad (by rw [hh,hnn];simp only [Option.bind_some];unfold endP;rw [if_neg hl3]))
 have h:=h.next hcp hs12 hr12
 have hhd:headP us=some ⟨nm,classI x2,n⟩:=by rw [hh,hnn,hl3];rfl
 have hsp2:∀ o m,goS ((lines.map spW).drop 1).length [] ((lines.map spW).drop 1) 1=(o,m)→sesP (lines.map spW)=(o.map fun rs=>⟨nm,rs,classI x2,n⟩,m):=by
  intro o m hg
  rw [hdr,sesP_eq,if_pos rfl,hhd]
  simp only
  rw [hg]
  cases o<;>rfl
 refine ses_loop hE eB hb hbc hlz' hn hcp hp hc hl h (by omega) (fun w us' B2 rs vv h' hK' hg=>?_) fun w m rs vv hs' ho' hg=>?_
 · exact ⟨h'.sv,.inl ⟨lines.length,us',B2,rfl,h'.rd,Nat.le_refl _,_,hsp2 _ _ hg,vv,h'.ob,hK'⟩⟩
 · exact pan w m _ vv hs' ho' (hsp2 _ _ hg)
end
def n25c1 (t2 t18:Value) (R:RT) (w:World):Prop :=
 opV Pg (Instr.build 57 #[]) (panK R) w fun t21 w =>
 opU Pg (Instr.storeAt 57 t2 t21) (panK R) w fun w =>
 qW Pg 57 t2 w fun r0 =>
 R (.returned (.tuple #[r0,(.int .i64 0),t18])) w
def n25c2 (t2:Value) (R:RT) (w:World):Prop :=
 opV Pg (Instr.loadAt 57 t2) (panK R) w fun t23 w =>
 opU Pg (Instr.storeAt 57 t2 t23) (panK R) w fun w =>
 qW Pg 57 t2 w fun r0 =>
 R (.returned (.tuple #[r0,(.int .i64 0),(.int .i64 0)])) w
def n25c3 (t2 t16:Value) (R:RT) (w:World):Prop :=
 opV Pg (Instr.extract t16 0) (panK R) w fun t17 w =>
 opV Pg (Instr.extract t16 1) (panK R) w fun t18 w =>
 opV Pg (binS .neq 29 true t18 (.int .i64 0)) (panK R) w fun t20 w =>
 condP t20 (
 n25c1 t2 t18 R w) (
 n25c2 t2 R w)
def n25c4 (t2 t9:Value) (R:RT) (w:World):Prop :=
 opV Pg (Instr.build 57 #[]) (panK R) w fun t12 w =>
 opU Pg (Instr.storeAt 57 t2 t12) (panK R) w fun w =>
 qW Pg 57 t2 w fun r0 =>
 R (.returned (.tuple #[r0,t9,(.int .i64 6)])) w
def n25c5 (t2 t9:Value) (R:RT) (w:World):Prop :=
 opV Pg (binS .gtr 3 true t9 (.int .i64 0)) (panK R) w fun t11 w =>
 condP t11 (
 n25c4 t2 t9 R w) (
 opV Pg (Instr.loadAt 57 t2) (panK R) w fun t15 w =>
 callK Pg 26 #[t15] (panK R) w fun t16 w =>
 n25c3 t2 t16 R w)
def n25 (t0:Value) (R:RT) (w:World):Prop :=
 opV Pg (Instr.alloc 57 true (.tuple #[])) (panK R) w fun t2 w =>
 opV Pg (Instr.makeFunc (.func 64) #[] #[t2]) (panK R) w fun t8 w =>
 callK Pg 50 #[t0,t8] (panK R) w fun t9 w =>
 n25c5 t2 t9 R w
theorem n25s {t0:Value} {R:RT} {w:World} (h:n25 t0 R w):Calls Pg 30 #[t0] w R:=by
 refine yD Tryz.func30 ?_
 refine zs<|zr<|yv h fun _ w h=>zm<|zm<|zn<|zk<|zs<|zr<|zm<|yF h fun _ w h=>yc h c50 fun _ w h=>zm<|zn<|zk ?_
 refine zs<|zs<|zr<|zm<|yb h fun _ w h=>zn<|zk<|yC h (fun h=>zs<|zr<|yB h fun _ w h=>zm<|yu h fun w h=>zm<|zm<|zn<|zk<|sim_ret<|sim_then_ret<|body_retCTT rfl rfl rfl rfl h) fun h=>sim_skip<|zk<|zs<|zs<|zr<|yv h fun _ w h=>?_
 refine yc h c26 fun _ w h=>zm<|yv h fun _ w h=>yv h fun _ w h=>zm<|zm<|zn<|zk<|zs<|zr<|zm<|yb h fun _ w h=>zn<|zk<|yC h (fun h=>zs<|zr<|yB h fun _ w h=>zm<|yu h fun w h=>zm<|zm<|zn<|zk<|sim_ret<|sim_then_ret<|body_retCTT rfl rfl rfl rfl h) fun h=>?_
 exact sim_skip<|zk<|zs<|zr<|yv h fun _ w h=>yu h fun w h=>zm<|zm<|zn<|zk<|sim_ret<|body_retCTT rfl rfl rfl rfl h
def n14c1 (t5 t51:Value) (C5:World→Prop) (next4:KV) (R:RT) (w:World):Prop :=
 C5 w∧(
 qV Pg C5 (Op.unary .not t51) fun t52 =>
 condP t52 (
 R (.returned (.bool false)) w) (
 opV Pg (binS .add 3 true t5 (.int .i64 1)) (panK R) w fun t40 w =>
 next4 t40 w))
def n14c2 (t2 t3 t5:Value) (C5:World→Prop) (next4:KV) (R:RT) (w:World):Prop :=
 qV Pg C5 (Instr.fieldAt 57 t2 1) fun t41 =>
 qV Pg C5 (Instr.loadAt 54 t41) fun t42 =>
 qV Pg C5 (Instr.indexAt 54 t42 t5) fun t44 =>
 qV Pg C5 (Instr.loadAt 26 t44) fun t45 =>
 qV Pg C5 (Instr.fieldAt 57 t3 1) fun t46 =>
 qV Pg C5 (Instr.loadAt 54 t46) fun t47 =>
 qV Pg C5 (Instr.indexAt 54 t47 t5) fun t49 =>
 qV Pg C5 (Instr.loadAt 26 t49) fun t50 =>
 callK Pg 21 #[t45,t50] (panK R) w fun t51 w =>
 n14c1 t5 t51 C5 next4 R w
def n14c3 (t2 t3 t5:Value) (next4:KV) (R:RT) (w:World):Prop :=
 opV Pg (Instr.fieldAt 57 t2 1) (panK R) w fun t35 w =>
 opV Pg (Instr.loadAt 54 t35) (panK R) w fun t36 w =>
 opV Pg (Builtin.len_ #[54] 3 #[t36]) (panK R) w fun t37 w =>
 opV Pg (binS .lss 3 false t5 t37) (panK R) w fun t38 w =>
 condP t38 (
 drawK w fun C5 w =>
 n14c2 t2 t3 t5 C5 next4 R w) (
 R (.returned (.bool true)) w)
def n14c4 (t2 t3 t17 t23:Value) (R:RT) (w:World):Prop :=
 pickK t17 (.bool true) t23 fun t24 =>
 joinK (fun (t32:Value) (w:World) =>
 pickK t24 (.bool true) t32 fun t33 =>
 condP t33 (
 R (.returned (.bool false)) w) (
 loop1 (fun t5 w next4 =>
 n14c3 t2 t3 t5 next4 R w) (.int .i64 0) w)) fun K3 =>
 guardP t24 false (
 opV Pg (Instr.fieldAt 57 t2 1) (panK R) w fun t26 w =>
 opV Pg (Instr.loadAt 54 t26) (panK R) w fun t27 w =>
 opV Pg (Builtin.len_ #[54] 3 #[t27]) (panK R) w fun t28 w =>
 opV Pg (Instr.fieldAt 57 t3 1) (panK R) w fun t29 w =>
 opV Pg (Instr.loadAt 54 t29) (panK R) w fun t30 w =>
 opV Pg (Builtin.len_ #[54] 3 #[t30]) (panK R) w fun t31 w =>
 opV Pg (binS .neq 3 false t28 t31) (panK R) w fun t32 w =>
 K3 t32 w) (
 K3 undef w)
def n14c5 (t2 t3 t10 t16:Value) (R:RT) (w:World):Prop :=
 pickK t10 (.bool true) t16 fun t17 =>
 joinK (fun (t23:Value) (w:World) =>
 n14c4 t2 t3 t17 t23 R w) fun K2 =>
 guardP t17 false (
 opV Pg (Instr.fieldAt 57 t2 3) (panK R) w fun t19 w =>
 opV Pg (Instr.loadAt 3 t19) (panK R) w fun t20 w =>
 opV Pg (Instr.fieldAt 57 t3 3) (panK R) w fun t21 w =>
 opV Pg (Instr.loadAt 3 t21) (panK R) w fun t22 w =>
 opV Pg (binS .neq 3 false t20 t22) (panK R) w fun t23 w =>
 K2 t23 w) (
 K2 undef w)
def n14 (t0 t1:Value) (R:RT) (w:World):Prop :=
 opV Pg (Instr.box 57 t0) (panK R) w fun t2 w =>
 opV Pg (Instr.box 57 t1) (panK R) w fun t3 w =>
 opV Pg (Instr.fieldAt 57 t2 0) (panK R) w fun t6 w =>
 opV Pg (Instr.loadAt 9 t6) (panK R) w fun t7 w =>
 opV Pg (Instr.fieldAt 57 t3 0) (panK R) w fun t8 w =>
 opV Pg (Instr.loadAt 9 t8) (panK R) w fun t9 w =>
 opV Pg (binS .neq 9 false t7 t9) (panK R) w fun t10 w =>
 joinK (fun (t16:Value) (w:World) =>
 n14c5 t2 t3 t10 t16 R w) fun K1 =>
 guardP t10 false (
 opV Pg (Instr.fieldAt 57 t2 2) (panK R) w fun t12 w =>
 opV Pg (Instr.loadAt 55 t12) (panK R) w fun t13 w =>
 opV Pg (Instr.fieldAt 57 t3 2) (panK R) w fun t14 w =>
 opV Pg (Instr.loadAt 55 t14) (panK R) w fun t15 w =>
 opV Pg (binS .neq 55 false t13 t15) (panK R) w fun t16 w =>
 K1 t16 w) (
 K1 undef w)
theorem n14s {t0 t1:Value} {R:RT} {w:World} (h:n14 t0 t1 R w):Calls Pg 32 #[t0,t1] w R:=by
 refine yD Tryz.func32 ?_
 refine zs<|zr<|yv h fun _ w h=>yv h fun _ w h=>zm<|zn<|zk<|zs<|zs<|sim_regionG<|yG 6<|yv h fun _ w h=>yv h fun _ w h=>yv h fun _ w h=>yv h fun _ w h=>?_
 refine yb h fun _ w h=>zm<|zn<|yg1 5 5 false [12,13,14,15,16] 16 h (fun _ T hT h=>?_) fun σ w h=>?_
 · refine yv h fun _ w h=>yv h fun _ w h=>yv h fun _ w h=>yv h fun _ w h=>yb h fun _ w h=>zn ?_
   exact zt hT h
 refine yG 2<|yp h fun _ h=>zm<|zn<|yg1 5 12 false [19,20,21,22,23] 23 h (fun _ T hT h=>?_) fun σ w h=>?_
 · refine yv h fun _ w h=>yv h fun _ w h=>yv h fun _ w h=>yv h fun _ w h=>yb h fun _ w h=>zn ?_
   exact zt hT h
 refine yG 2<|yp h fun _ h=>zm<|zn<|yg1 7 19 false [26,27,28,29,30,31,32] 32 h (fun _ T hT h=>?_) fun σ w h=>?_
 · refine yv h fun _ w h=>yv h fun _ w h=>yx h fun _ w h=>yv h fun _ w h=>yv h fun _ w h=>yx h fun _ w h=>yb h fun _ w h=>zn ?_
   exact zt hT h
 refine yG 1<|yp h fun _ h=>zn<|sim_end<|zk<|yC h (fun h=>zs<|zr<|zm<|zn<|zk<|sim_ret<|sim_then_ret<|body_ret1 rfl rfl h) fun h=>sim_skip<|zk<|zs<|zs<|zr<|zm<|zn<|zk ?_
 refine sim_block<|yl1 [4,5,34,35,36,37,38,39,40,41,42,43,44,45,46,47,48,49,50,51,52] 5 h fun σ w next h=>zs<|zs<|zr<|zm<|yv h fun _ w h=>yv h fun _ w h=>yx h fun _ w h=>yb h fun _ w h=>zn<|zk<|yC h (fun h=>?_) fun h=>?_
 · refine sim_skip<|zk<|zs<|sim_block<|zs<|yh [41,42,43,44,45,46,47,48,49,50,51,52] h fun C hC h=>ye 0 hC h fun _ h=>?_
   refine ye 1 hC h fun _ h=>?_
   refine yw 2 hC ?_
   refine ye 3 hC h fun _ h=>?_
   refine ye 4 hC h fun _ h=>?_
   refine ye 5 hC h fun _ h=>?_
   refine ye 6 hC h fun _ h=>?_
   refine yw 7 hC ?_
   refine ye 8 hC h fun _ h=>?_
   refine ye 9 hC h fun _ h=>?_
   refine yo 10 ?_
   refine yc h c21 fun _ w h=>zn ?_
   obtain ⟨hC,h⟩:=h
   refine ⟨hC,?_⟩
   refine ye 11 hC h fun _ h=>?_
   exact yz<|zk<|yC h (fun h=>zs<|zr<|zm<|zn<|zk<|sim_ret<|sim_block_ret<|sim_then_ret<|sim_then_ret<|sim_block_ret<|sim_then_ret<|body_ret1 rfl rfl h) fun h=>sim_skip<|sim_block_normal<|zk<|zr<|zm<|yb h fun _ w h=>zm<|zn<|zk<|⟨rfl,h⟩
 exact sim_exit<|sim_then_exit<|sim_then_exit<|sim_block_hit<|zk<|zs<|zr<|zm<|zn<|zk<|sim_ret<|body_ret1 rfl rfl h
theorem sesP_len {L:List (List ByteArray)} {s:SesD} {n:Nat} (h:sesP L=(some s,n)):n=L.length∧s.roles.length≤L.length∧∀ r∈s.roles,Read r:=by
 match L,h with
 | [],h=>cases h
 | []::L,h=>cases h
 | (k::ws)::L,h =>
  rw [sesP_eq] at h
  split at h
  · cases hh:headP ws with
    | none=>rw [hh] at h;cases h
    | some hd =>
     rw [hh] at h
     simp only at h
     cases hg:goS L.length [] L 1 with
     | mk o m =>
     rw [hg] at h
     cases o with
     | none=>cases h
     | some rs =>
      obtain ⟨g1,g2,g3⟩:=goS_len (Nat.le_refl _) hg
      injection h with h1 h2
      injection h1 with h1
      subst h1 h2
      refine ⟨by rw [List.length_cons];omega,?_,g3 fun r hr=>by cases hr⟩
      simp only [List.length_nil,List.length_cons] at g2 ⊢
      omega
  · cases h
def SesOwn (w:World) (base:Nat) (v:Value) (s:SesD):Prop:=∃ rv,v = .agg (sesCells s rv).toArray∧RolsK w base rv s.roles
theorem SesOwn.zero (w:World) (base:Nat):SesOwn w base (.agg #[.string ByteArray.empty,.slice none 0 0,.int .i64 0,.int .i64 0]) zeroSes:=⟨_,rfl,RolsK.nil _ _⟩
theorem goS_few {N:Nat}:∀ {f:Nat} {acc rs:List RolD} {L:List (List ByteArray)} {n m:Nat},L.length≤N→goS f acc L n=(some rs,m)→(∀ r∈acc,r.counters.length≤N∧r.states.length≤N∧r.steps.length≤N)→∀ r∈rs,r.counters.length≤N∧r.states.length≤N∧r.steps.length≤N
 | 0,acc,rs,L,n,m,h,e,ha=>by
  injection e with e1 e2
  injection e1 with e1
  subst e1
  exact ha
 | f+1,acc,rs,L,n,m,h,e,ha=>by
  unfold goS at e
  by_cases hL:L=[]
  · rw [if_pos hL] at e
    injection e with e1 e2
    injection e1 with e1
    subst e1
    exact ha
  rw [if_neg hL] at e
  cases hr:roleP L with
  | mk o k =>
  rw [hr] at e
  cases o with
  | none=>cases e
  | some r =>
   obtain ⟨_,l1,l2,l3,_,_⟩:=roleP_read hr
   refine goS_few (by rw [List.length_drop];omega) e fun x hx=>?_
   rcases List.mem_append.1 hx with hx | hx
   · exact ha x hx
   · rw [List.mem_singleton.1 hx]
     exact ⟨by omega,by omega,by omega⟩
theorem sesP_few {L:List (List ByteArray)} {s:SesD} {n:Nat} (h:sesP L=(some s,n)):∀ r∈s.roles,r.counters.length≤L.length∧r.states.length≤L.length∧r.steps.length≤L.length:=by
 match L,h with
 | [],h=>cases h
 | []::L,h=>cases h
 | (k::ws)::L,h =>
  rw [sesP_eq] at h
  split at h
  · cases hh:headP ws with
    | none=>rw [hh] at h;cases h
    | some hd =>
     rw [hh] at h
     simp only at h
     cases hg:goS L.length [] L 1 with
     | mk o m =>
     rw [hg] at h
     cases o with
     | none=>cases h
     | some rs =>
      injection h with h1 h2
      injection h1 with h1
      subst h1
      exact goS_few (by simp) hg fun r hr=>by cases hr
  · cases h
theorem lines_roles {text:ByteArray} {r:RolD} (hz:text.size≤90000) {s:SesD} {n:Nat} (h:sesP (linesT text)=(some s,n)) (hr:r∈s.roles):RolOk r:=by
 obtain ⟨l1,l2,l3⟩:=sesP_few h r hr
 have hl:=(lines_small text).1
 rw [linesT_len] at l1 l2 l3
 exact ((sesP_len h).2.2 r hr).ok ⟨by omega,by omega,by omega⟩
theorem ParseSession_ret {w0:World} {text:ByteArray} (hE:EnvOK w0) (hz:text.size≤90000):Ret Pg 30 #[.string text] w0 fun u w'=>(∃ v,u = .tuple #[v,.int .i64 (parseS text).2.1,.int .i64 (parseS text).2.2]∧SesOwn w' w0.heap.size v (parseS text).1)∧Ext w0 w':=by
 obtain ⟨hln,hlz⟩:=lines_small text
 refine n25s (R:=retR _) ?_;unfold n25
 simp (disch:=try exact DI) only [↓PR,QR,simprocAttr]
 have e0:Ext w0 (World.alloc w0 (.cells (sesCells zeroSes (.slice none 0 0)).toArray TSes)):=(Ext.refl w0).alloc _
 have ho:=heap_new w0 (sesCells zeroSes (.slice none 0 0)).toArray TSes
 have s0:(World.alloc w0 (.cells (sesCells zeroSes (.slice none 0 0)).toArray TSes)).heap.size=w0.heap.size+1:=World.size_alloc ..
 generalize hV:World.alloc w0 (.cells (sesCells zeroSes (.slice none 0 0)).toArray TSes)=V at e0 ho s0
 have hV':World.alloc w0 (.cells #[.string ByteArray.empty,.slice none 0 0,.int .i64 0,.int .i64 0] TSes)=V:=hV
 rw [hV']
 clear hV hV'
 generalize hc:w0.heap.size=c at ho s0 ⊢
 refine callK_ret (read_ret (c:=c) (caps := #[.pointer (some ⟨c,0,none⟩)]) (Φ:=fun w2 at_=>∃ s,sesP (linesT text)=(some s,at_)∧SesObj w2 c (V.heap.size+1) s) (Ψ:=fun w2 n=>sesP (linesT text)=(none,n)∧∃ s rv,w2.heap[c]?=some (.cells (sesCells s rv).toArray TSes (0,0))) (hE.ext e0) hz c64 (by omega) fun w1 p lv B eV h1 h2 hr hB hcB hl=>Calls.mono (SesS1_all hE (e0.trans eV) (by omega) (by omega) (fun x hx=>Nat.le_trans (hlz x hx) (by omega)) (by omega) (by omega) h2 (by omega) hl hr hB hcB (eV.obj ho)) fun e w' he=>?_) ?_
 · obtain ⟨g1,g2⟩:=he
   refine ⟨g1,?_⟩
   rcases g2 with ⟨at_,ws,B2,q1,q2,q3,s,q4,rv,q5,q6⟩ | g2
   · exact .inl ⟨at_,ws,B2,q1,q2,q3,s,q4,rv,q5,q6.base (by omega)⟩
   · exact .inr g2
 rintro t10 w' ⟨w2,hs,hbl,hsz,⟨ho1,ho2,ho3⟩,hcase⟩
 have hcw:w0.heap.size≤c:=Nat.le_of_eq hc
 have e':Ext w0 w':=⟨ho1.trans e0.os,ho2.trans e0.tape,ho3.trans e0.output,by have:=hs.size;omega,fun b hb=>(hbl b (by omega) (by omega)).trans (e0.block b hb)⟩
 have hcs:w'.heap[c]?=w2.heap[c]?:=hs.block c (by omega) (by omega)
 have bad:∀ (n:Nat) (s:SesD) (rv:Value),0 < n→parseS text=(zeroSes,(n:Int),6)→w'.heap[c]?=some (.cells (sesCells s rv).toArray TSes (0,0))→n25c5 (.pointer (some ⟨c,0,none⟩)) (.int .i64 (n:Int)) (retR fun u w'=>(∃ v,u = .tuple #[v,.int .i64 (parseS text).2.1,.int .i64 (parseS text).2.2]∧SesOwn w' c v (parseS text).1)∧Ext w0 w') w':=by
  intro n s rv hn hpp hob
  have d1:decide ((n:Int) > 0)=true:=decide_eq_true (by omega)
  unfold n25c5
  simp (disch:=try exact DI) only [↓PR,QR,simprocAttr,d1,↓n25c4,(cells_of_heap hob).1,(cells_of_heap hob).2]
  refine ⟨⟨_,by rw [hpp],by rw [hpp];exact SesOwn.zero _ _⟩,?_⟩
  exact (((e'.setCell (p:=⟨c,0,none⟩) hcw _).setCell (p:=⟨c,1,none⟩) hcw _).setCell (p:=⟨c,2,none⟩) hcw _).setCell (p:=⟨c,3,none⟩) hcw _
 rcases hcase with ⟨at_,⟨s,hrp,hob⟩,hat,rfl⟩ | ⟨n,⟨hrp,s,rv,hob⟩,rfl⟩
 · rw [← linesT_len] at hat ⊢
   obtain ⟨hl1,hl2,hread⟩:=sesP_len hrp
   rw [if_neg (by omega)]
   have hpp:parseS text=if (checkS s).2=0 then (s,0,0) else (zeroSes,0,(checkS s).2):=by unfold parseS;rw [hrp]
   have hob:=(hob.keep hcs fun b hb hb2=>hs.block b hb2 (by omega))
   obtain ⟨rv,hob,h1⟩:=hob
   have f1:rv.oneCell'=true:=SliceOf.oneCell h1.of
   have hll:=linesT_len text
   unfold n25c5
   simp (disch:=try exact DI) only [↓PR,QR,simprocAttr,(cells_of_heap hob).1]
   refine zcr (CheckSession_ret w' _ s ⟨rv,rfl,h1.of⟩ (fun r hr=>OkFit (lines_roles hz hrp hr)) (by omega)) fun w3 e3=>?_
   have hob3:=e3.obj hob
   have E3:=e'.trans e3
   by_cases hc0:(checkS s).2=0
   · have d1:((checkS s).2 != 0)=false:=by simp [hc0]
     rw [if_pos hc0] at hpp
     simp (disch:=try exact DI) only [↓PR,QR,simprocAttr,↓n25c3,d1,↓n25c2,(cells_of_heap hob3).1,(cells_of_heap hob3).2]
     have hb5:∀ b,b≠c→((((w3.setCell ⟨c,0,none⟩ (.string s.name)).setCell ⟨c,1,none⟩ rv).setCell ⟨c,2,none⟩ (.int .i64 s.cls)).setCell ⟨c,3,none⟩ (.int .i64 s.capacity)).heap[b]?=w3.heap[b]?:=fun b hb=>by simp only [Only.setCell _ c _ _ b hb]
     refine ⟨⟨_,by rw [hpp],?_⟩,?_⟩
     · rw [hpp]
       exact ⟨rv,rfl,((h1.ext e3).keep fun b hb _=>hb5 b (by omega)).base (by omega)⟩
     · exact (((E3.setCell (p:=⟨c,0,none⟩) hcw _).setCell (p:=⟨c,1,none⟩) hcw _).setCell (p:=⟨c,2,none⟩) hcw _).setCell (p:=⟨c,3,none⟩) hcw _
   · have d1:((checkS s).2 != 0)=true:=by simp [hc0]
     rw [if_neg hc0] at hpp
     simp (disch:=try exact DI) only [↓PR,QR,simprocAttr,↓n25c3,d1,↓n25c1,(cells_of_heap hob3).1,(cells_of_heap hob3).2]
     refine ⟨⟨_,by rw [hpp],by rw [hpp];exact SesOwn.zero _ _⟩,?_⟩
     exact (((E3.setCell (p:=⟨c,0,none⟩) hcw _).setCell (p:=⟨c,1,none⟩) hcw _).setCell (p:=⟨c,2,none⟩) hcw _).setCell (p:=⟨c,3,none⟩) hcw _
 · have hn:0 < n:=sesP_pos hrp
   exact bad n _ _ hn (by unfold parseS;rw [hrp]) (hcs.trans hob)
theorem take_any {α:Type} {p:α→Bool} {l:List α} {k:Nat} (h:∀ (j:Nat) y,j < k→l[j]?=some y→p y=false):(l.take k).any p=false:=by
 rw [List.any_eq_false]
 intro y hy
 obtain ⟨j,hj⟩:=List.getElem?_of_mem hy
 have hjk:j < k:=by
  have:=(List.getElem?_eq_some_iff.1 hj).1
  rw [List.length_take] at this
  omega
 rw [List.getElem?_take_of_lt hjk] at hj
 rw [h j y hjk hj]
 simp
theorem any_at {α:Type} {p:α→Bool} {l:List α} {j k:Nat} {y:α} (hj:j < k) (hy:l[j]?=some y) (hp:p y=true):(l.take k).any p=true:=by
 rw [List.any_eq_true]
 exact ⟨y,List.mem_of_getElem? (i:=j) (by rw [List.getElem?_take_of_lt hj];exact hy),hp⟩
theorem headP_three (a b c:ByteArray):headP [a,b,c]=if nameB a then (if classI b=0 then none else (numB c).map fun n=>⟨a,classI b,n⟩) else none:=by
 unfold headP
 rw [nameP_eq]
 by_cases ha:nameB a=true
 · rw [if_pos ha,if_pos ha]
   show (if classI b=0 then none else _)=_
   by_cases hb:classI b=0
   · rw [if_pos hb,if_pos hb]
   · rw [if_neg hb,if_neg hb,numP_cons]
     cases numB c<;>rfl
 · rw [if_neg ha,if_neg ha]
   rfl
theorem headP_len {ws:List ByteArray} (h:ws.length≠3):headP ws=none:=by
 match ws,h with
 | [],_=>rfl
 | [a],_ =>
  unfold headP
  rw [nameP_eq]
  split<;>rfl
 | [a,b],_ =>
  unfold headP
  rw [nameP_eq]
  split
  · show (if classI b=0 then none else _)=none
    split<;>rfl
  · rfl
 | a::b::c::d::l,_ =>
  unfold headP
  rw [nameP_eq]
  split
  · show (if classI b=0 then none else _)=none
    split
    · rfl
    · rw [numP_cons]
      cases numB c<;>rfl
  · rfl
 | [a,b,c],h=>exact absurd rfl h
theorem printR_W {r:RolD} (h:(checkR r).2=0):printR r=joinW ⟨#[10]⟩ ((linesW r).map (joinW ⟨#[32]⟩)):=by
 unfold printR
 rw [if_pos h,linesR_W]
theorem linesW_ne (r:RolD):linesW r≠[]:=by
 unfold linesW
 simp
theorem back_role {r:RolD} (h:(checkR r).2=0):parseP (printR r)=(r,0,0):=by
 have hr:=check_rd h
 have hl:linesT (printR r)=linesW r:=by rw [printR_W h];exact linesT_join (linesW_ne r) (linesW_ok hr)
 have hp:=roleP_of hr (R:=[]) (fun w hw=>by cases hw)
 rw [List.append_nil] at hp
 unfold parseP
 rw [hl,hp]
 simp only
 rw [if_neg (Nat.lt_irrefl _),if_pos h]
theorem wait_ok {r:RolD} (h:(checkR r).2=0):∀ x∈r.states,0≤x.wait:=fun x hx=>((check_rd h).ss x hx).2.1
theorem parse_ok {text:ByteArray} (h:(parseP text).2.2=0):(checkR (parseP text).1).2=0∧printR (parseP text).1=text∧Read (parseP text).1:=by
 unfold parseP at h ⊢
 cases hr:roleP (linesT text) with
 | mk o n =>
 rw [hr] at h
 cases o with
 | none=>simp at h
 | some r =>
  simp only at h ⊢
  by_cases hn:n < (linesT text).length
  · rw [if_pos hn] at h;simp at h
  rw [if_neg hn] at h ⊢
  by_cases hc:(checkR r).2=0
  · rw [if_pos hc]
    obtain ⟨h1,h2⟩:=roleP_inv hr (wait_ok hc)
    have hd:(linesT text).drop n=[]:=by rw [List.drop_eq_nil_iff];omega
    rw [hd,List.append_nil] at h1
    refine ⟨hc,?_,(roleP_read hr).1⟩
    rw [printR_W hc,← h1,join_linesT]
  · rw [if_neg hc] at h
    exact absurd h hc
def headW (s:SesD):List ByteArray:=[kSession,s.name,classB s.cls,decB s.capacity]
def linesS (s:SesD):List (List ByteArray):=headW s::s.roles.flatMap linesW
theorem join_flat {α:Type} {X:α→List ByteArray} (hX:∀ a,X a≠[]) (sep:ByteArray):∀ (l:List α) (ls:List ByteArray),ls≠[]→joinW sep (ls++l.map fun a=>joinW sep (X a))=joinW sep (ls++l.flatMap X)
 | [],ls,h=>rfl
 | a::l,ls,h=>by
  rw [List.map_cons,List.flatMap_cons,show ls++joinW sep (X a)::l.map (fun a=>joinW sep (X a))=(ls++[joinW sep (X a)])++l.map (fun a=>joinW sep (X a)) by simp,join_flat hX sep l _ (by simp),← List.append_assoc]
  by_cases hl:l.flatMap X=[]
  · rw [hl,List.append_nil,List.append_nil,joinW_snoc _ h,joinW_app h (hX a)]
  · rw [joinW_app (by simp) hl,joinW_snoc _ h,joinW_app (xs:=ls++X a) (by simp [h]) hl,joinW_app h (hX a)]
theorem printS_W {s:SesD} (h:(checkS s).2=0):printS s=joinW ⟨#[10]⟩ ((linesS s).map (joinW ⟨#[32]⟩)):=by
 have ho:=check_ses h
 unfold printS linesS
 rw [if_pos h]
 have h1:s.roles.map printR=s.roles.map fun r=>joinW ⟨#[10]⟩ ((linesW r).map (joinW ⟨#[32]⟩)):=List.map_congr_left fun r hr=>printR_W (ho.rs r hr)
 have h2:=join_flat (X:=fun r=>(linesW r).map (joinW ⟨#[32]⟩)) (fun r=>by simp [linesW_ne r]) ⟨#[10]⟩ s.roles [lineA (sesH s)] (by simp)
 rw [List.singleton_append,List.singleton_append] at h2
 rw [h1,h2,List.map_cons,List.map_flatMap]
 rfl
theorem classI_B {k:Int} (h1:1≤k) (h2:k≤3):classI (classB k)=k:=by
 have:k=1∨k=2∨k=3:=by omega
 rcases this with rfl | rfl | rfl<;>decide
theorem classB_I {x:ByteArray} (h:classI x≠0):classB (classI x)=x:=by
 unfold classI at h ⊢
 by_cases h1:x=classB 1
 · rw [if_pos h1,h1]
 by_cases h2:x=classB 2
 · rw [if_neg h1,if_pos h2,h2]
 by_cases h3:x=classB 3
 · rw [if_neg h1,if_neg h2,if_pos h3,h3]
 · rw [if_neg h1,if_neg h2,if_neg h3] at h
   exact absurd rfl h
theorem class_word (k:Int):wordOK (classB k):=by
 unfold classB
 split
 · unfold wordOK;decide
 · split
   · unfold wordOK;decide
   · split<;>(unfold wordOK;decide)
theorem head_of {s:SesD} (ho:SesOk s):headP [s.name,classB s.cls,decB s.capacity]=some ⟨s.name,s.cls,s.capacity⟩:=by
 have h1:=ho.c1
 have h2:=ho.c2
 have h3:=ho.p1
 have h4:=ho.p2
 rw [headP_three,if_pos ho.nm,classI_B h1 h2,if_neg (by omega),numB_dec (by omega) (by omega)]
 rfl
theorem flat_head (l:List RolD):∀ w∈(l.flatMap linesW).head?,∀ k∈w.head?,k=kRole:=by
 intro w hw k hk
 cases l with
 | nil=>cases hw
 | cons r l =>
  rw [List.flatMap_cons] at hw
  unfold linesW at hw
  simp only [List.singleton_append,List.cons_append,List.head?_cons,Option.mem_def,Option.some.injEq] at hw
  subst hw
  simp only [List.head?_cons,Option.mem_def,Option.some.injEq] at hk
  exact hk.symm
theorem goS_of:∀ (l:List RolD) (f:Nat) (acc:List RolD) (n:Nat),(∀ r∈l,RdOk r)→(l.flatMap linesW).length≤f→goS f acc (l.flatMap linesW) n=(some (acc++l),n+(l.flatMap linesW).length)
 | [],f,acc,n,h,hf=>by
  rw [List.flatMap_nil,goS_nil,List.append_nil]
  rfl
 | r::l,f,acc,n,h,hf=>by
  rw [List.flatMap_cons] at hf ⊢
  have h1:1≤(linesW r).length:=List.length_pos_iff.2 (linesW_ne r)
  rw [List.length_append] at hf ⊢
  obtain ⟨f,rfl⟩:∃ f',f=f'+1:=⟨f - 1,by omega⟩
  rw [goS_step (by simp [linesW_ne r]) (roleP_of (h r (List.mem_cons_self ..)) (flat_head l)),List.drop_left,goS_of l f _ _ (fun x hx=>h x (List.mem_cons_of_mem _ hx)) (by omega),List.append_assoc,List.singleton_append,Nat.add_assoc]
theorem ses_of_lines {s:SesD} (h:(checkS s).2=0):sesP (linesS s)=(some s,(linesS s).length):=by
 have ho:=check_ses h
 unfold linesS headW
 rw [sesP_eq,if_pos rfl,head_of ho]
 simp only
 rw [goS_of _ _ _ _ (fun r hr=>check_rd (ho.rs r hr)) (Nat.le_refl _)]
 simp only [List.nil_append,List.length_cons,Prod.mk.injEq]
 exact ⟨by trivial,by omega⟩
theorem linesS_ok {s:SesD} (h:(checkS s).2=0):∀ ws∈linesS s,ws≠[]∧∀ x∈ws,wordOK x:=by
 have ho:=check_ses h
 intro ws hws
 unfold linesS at hws
 rcases List.mem_cons.1 hws with rfl | hws
 · refine ⟨by simp [headW],fun x hx=>?_⟩
   unfold headW at hx
   simp only [List.mem_cons,List.not_mem_nil,or_false] at hx
   rcases hx with rfl | rfl | rfl | rfl
   · unfold wordOK;decide
   · exact name_word ho.nm
   · exact class_word _
   · exact dec_word _
 · obtain ⟨r,hr,hws⟩:=List.mem_flatMap.1 hws
   exact linesW_ok (check_rd (ho.rs r hr)) ws hws
theorem back_ses {s:SesD} (h:(checkS s).2=0):parseS (printS s)=(s,0,0):=by
 have hl:linesT (printS s)=linesS s:=by rw [printS_W h];exact linesT_join (by simp [linesS]) (linesS_ok h)
 unfold parseS
 rw [hl,ses_of_lines h]
 simp only
 rw [if_pos h]
theorem head_inv {ws:List ByteArray} {h:HeadD} (e:headP ws=some h):ws=[h.name,classB h.cls,decB h.capacity]:=by
 by_cases hl:ws.length=3
 case neg=>rw [headP_len hl] at e;cases e
 match ws,hl with
 | [a,b,c],_ =>
  rw [headP_three] at e
  by_cases ha:nameB a=true
  case neg=>rw [if_neg ha] at e;cases e
  rw [if_pos ha] at e
  by_cases hb:classI b=0
  · rw [if_pos hb] at e;cases e
  rw [if_neg hb] at e
  cases hc:numB c with
  | none=>rw [hc] at e;cases e
  | some n =>
   rw [hc] at e
   injection e with e
   subst e
   rw [classB_I hb,numB_inv hc]
theorem goS_inv:∀ {f:Nat} {acc rs:List RolD} {L:List (List ByteArray)} {n m:Nat},L.length≤f→goS f acc L n=(some rs,m)→(∀ r∈rs,∀ x∈r.states,0≤x.wait)→∃ l,rs=acc++l∧L=l.flatMap linesW
 | 0,acc,rs,L,n,m,h,e,hw=>by
  injection e with e1 e2
  injection e1 with e1
  refine ⟨[],by rw [List.append_nil,e1],?_⟩
  exact List.eq_nil_of_length_eq_zero (by omega)
 | f+1,acc,rs,L,n,m,h,e,hw=>by
  by_cases hL:L=[]
  · subst hL
    rw [goS_nil] at e
    injection e with e1 e2
    injection e1 with e1
    exact ⟨[],by rw [List.append_nil,e1],rfl⟩
  cases hr:roleP L with
  | mk o k =>
  cases o with
  | none=>rw [goS_fail hL hr] at e;cases e
  | some r =>
   rw [goS_step hL hr] at e
   have hk:=(roleP_read hr).2.2.2.2
   obtain ⟨l,h1,h2⟩:=goS_inv (by rw [List.length_drop];omega) e hw
   obtain ⟨h3,h4⟩:=roleP_inv hr (hw r (by rw [h1];simp))
   refine ⟨r::l,by rw [h1];simp,?_⟩
   rw [List.flatMap_cons,← h2]
   exact h3
theorem parseS_ok {text:ByteArray} (h:(parseS text).2.2=0):(checkS (parseS text).1).2=0∧printS (parseS text).1=text∧∃ n,sesP (linesT text)=(some (parseS text).1,n):=by
 unfold parseS at h ⊢
 cases hr:sesP (linesT text) with
 | mk o n =>
 rw [hr] at h
 cases o with
 | none=>simp at h
 | some s =>
  simp only at h ⊢
  by_cases hc:(checkS s).2=0
  case neg=>rw [if_neg hc] at h;exact absurd h hc
  rw [if_pos hc]
  refine ⟨hc,?_,n,rfl⟩
  have ho:=check_ses hc
  have hL:linesT text=linesS s:=by
   generalize linesT text=L at hr
   match L,hr with
   | [],hr=>cases hr
   | []::L,hr=>cases hr
   | (k::ws)::L,hr =>
    rw [sesP_eq] at hr
    by_cases hk:k=kSession
    case neg=>rw [if_neg hk] at hr;cases hr
    subst hk
    rw [if_pos rfl] at hr
    cases hh:headP ws with
    | none=>rw [hh] at hr;cases hr
    | some hd =>
    rw [hh] at hr
    simp only at hr
    cases hg:goS L.length [] L 1 with
    | mk o m =>
    rw [hg] at hr
    cases o with
    | none=>cases hr
    | some rs =>
     injection hr with h1 h2
     injection h1 with h1
     subst h1
     obtain ⟨l,h3,h4⟩:=goS_inv (Nat.le_refl _) hg fun r hr=>wait_ok (ho.rs r hr)
     rw [List.nil_append] at h3
     subst h3
     unfold linesS headW
     rw [head_inv hh]
     congr 1
  rw [printS_W hc,← hL,join_linesT]
structure LT (w0 w:World) (base p2 p5 B1 B2:Nat) (r:RolD) (sv cv tv:Value):Prop where
 e:Ext w0 w
 h2:w.heap[p2]?=some (.cells zR TRol (0,0))
 h5:w.heap[p5]?=some (.cells (rolCells r sv cv tv).toArray TRol (0,0))
 oc:OwnE w base 52 2 cntCells cv r.counters
 lc:∀ b,cv.ownBlock=some b→b < B1
 os:OwnE w B1 50 3 staCells sv r.states
 ls:∀ b,sv.ownBlock=some b→b < B2
 ot:OwnE w B2 71 9 stpCells tv r.steps
 bb:base≤B1
 b12:B1≤B2
 b2:B2≤w.heap.size
 p2b:p2 < base
 p5b:p5 < B1
 p5c:∀ b,cv.ownBlock=some b→b≠p5
 ne:p2≠p5
 l2:w0.heap.size≤p2
 l5:w0.heap.size≤p5
def Dist (l:List StpD):Prop:=∀ (n:Nat) x,l[n]?=some x→((l.take n).any fun y=>decide (y=x))=false
theorem Dist.ne {l:List StpD} (h:Dist l) {i j:Nat} {x y:StpD} (hij:i < j) (hx:l[i]?=some x) (hy:l[j]?=some y):x≠y:=by
 rintro rfl
 have:=h j x hy
 rw [any_at hij hx (by simp)] at this
 cases this
structure Turns (peer:ByteArray) (s:StpD):Prop where
 k1:1≤s.kind
 k4:s.kind≤4
 k3:s.kind≠3
 pr:speaksB s.kind=true→s.peer=peer
theorem flip_back {nm peer:ByteArray} {s:StpD} (h:Turns peer s):flipS peer (flipS nm s)=s∧Turns nm (flipS nm s):=by
 obtain ⟨k1,k4,k3,pr⟩:=h
 obtain ⟨fr,to,kind,message,pe,counter,low,high,add⟩:=s
 have:kind=1∨kind=2∨kind=4:=by
  have k1:1≤kind:=k1
  have k4:kind≤4:=k4
  have k3:kind≠3:=k3
  omega
 rcases this with rfl | rfl | rfl
 · obtain rfl:pe=peer:=pr rfl
   refine ⟨by simp [flipS,speaksB],?_,?_,?_,?_⟩<;>simp [flipS,speaksB]
 · obtain rfl:pe=peer:=pr rfl
   refine ⟨by simp [flipS,speaksB],?_,?_,?_,?_⟩<;>simp [flipS,speaksB]
 · refine ⟨by simp [flipS,speaksB],?_,?_,?_,?_⟩<;>simp [flipS,speaksB]
theorem flip_inj {nm peer:ByteArray} {s t:StpD} (hs:Turns peer s) (ht:Turns peer t) (e:flipS nm s=flipS nm t):s=t:=by
 have h1:=(flip_back (nm:=nm) hs).1
 rw [e,(flip_back ht).1] at h1
 exact h1.symm
theorem dist_flip {nm peer:ByteArray} {l:List StpD} (hd:Dist l) (ht:∀ s∈l,Turns peer s):Dist (l.map (flipS nm)):=by
 intro n x hx
 rw [List.getElem?_map] at hx
 cases hl:l[n]? with
 | none=>rw [hl] at hx;cases hx
 | some s =>
  rw [hl] at hx
  injection hx with hx
  subst hx
  refine take_any fun j y hj hy=>?_
  rw [List.getElem?_map] at hy
  cases hlj:l[j]? with
  | none=>rw [hlj] at hy;cases hy
  | some t =>
   rw [hlj] at hy
   injection hy with hy
   subst hy
   refine decide_eq_false fun e=>?_
   exact hd.ne hj hlj hl (flip_inj (ht t (List.mem_of_getElem? hlj)) (ht s (List.mem_of_getElem? hl)) e)
theorem turnL_some {nm peer:ByteArray}:∀ {l acc ts:List StpD},turnL nm peer acc l=some ts→∀ s∈l,speaksB s.kind=true→s.peer=peer
 | [],acc,ts,h,s,hs,_=>by cases hs
 | x::l,acc,ts,h,s,hs,hk=>by
  rw [turnL] at h
  split at h
  · cases h
  · rename_i hx
    rcases List.mem_cons.1 hs with rfl | hs
    · rw [hk] at hx
      simpa using hx
    · exact turnL_some h s hs hk
theorem turnL_map {nm peer:ByteArray}:∀ (l pre:List StpD),Dist (pre++l)→(∀ s∈pre++l,Turns peer s)→turnL nm peer (pre.map (flipS nm)) l=some ((pre++l).map (flipS nm))
 | [],pre,hd,ht=>by rw [turnL,List.append_nil]
 | s::l,pre,hd,ht=>by
  have hs:Turns peer s:=ht s (by simp)
  have ha:addS (pre.map (flipS nm)) (flipS nm s)=(pre++[s]).map (flipS nm):=by
   unfold addS
   rw [if_neg,List.map_append]
   · rfl
   · intro h
     rw [List.any_eq_true] at h
     obtain ⟨y,hy,e⟩:=h
     obtain ⟨t,hm,rfl⟩:=List.mem_map.1 hy
     have e:=flip_inj hs (ht t (by simp [hm])) (of_decide_eq_true e)
     obtain ⟨j,hj⟩:=List.getElem?_of_mem hm
     have hjl:=(List.getElem?_eq_some_iff.1 hj).1
     exact hd.ne (i:=j) (j:=pre.length) hjl (by rw [List.getElem?_append_left hjl];exact hj) (by simp) e.symm
  rw [turnL,if_neg,ha,turnL_map l (pre++[s]) (by simpa using hd) (by simpa using ht)]
  · simp
  · intro h
    rw [Bool.and_eq_true] at h
    exact of_decide_eq_true h.2 (hs.pr h.1)
theorem check_of {r:RolD} (h1:nameB r.name=true) (h2:r.counters.length≤4) (h3:∀ i,i < r.counters.length→cntB r i=true) (h4:1≤r.states.length∧r.states.length≤24) (h5:∀ i,i < r.states.length→staB r i=true) (h6:r.steps.length≤80) (h7:∀ i,i < r.steps.length→stpB r i=true):(checkR r).2=0:=by
 unfold checkR
 rw [h1,if_neg (by simp),few_none (Nat.zero_le _) h2 h3,if_neg (by omega),few_none h4.1 h4.2 h5,if_neg (by omega),few_none (Nat.zero_le _) h6 h7,if_neg (by omega)]
theorem flip_same (nm:ByteArray) (s:StpD):(flipS nm s).fr=s.fr∧(flipS nm s).to=s.to∧(flipS nm s).message=s.message∧(flipS nm s).counter=s.counter∧(flipS nm s).low=s.low∧(flipS nm s).high=s.high∧(flipS nm s).add=s.add:=by
 unfold flipS
 split
 · exact ⟨rfl,rfl,rfl,rfl,rfl,rfl,rfl⟩
 · split<;>exact ⟨rfl,rfl,rfl,rfl,rfl,rfl,rfl⟩
theorem steps_dist {r:RolD} (h:(checkR r).2=0):Dist r.steps:=by
 obtain ⟨_,_,_,_,hs⟩:=check_parts h
 intro n x hx
 have:=hs n (List.getElem?_eq_some_iff.1 hx).1
 unfold stpB at this
 rw [hx] at this
 simp only at this
 unfold allowB at this
 simp only [Bool.and_eq_true,Bool.not_eq_true'] at this
 exact this.2.2.2.1
theorem still_map {l:List StaD} (h:∀ x∈l,x.wait=0):l.map still=l:=by
 rw [(List.map_congr_left (g:=id) fun x hx=>?_).trans (List.map_id _)]
 have:=h x hx
 obtain ⟨nm,fin,wait⟩:=x
 have this:wait=0:=this
 subst this
 rfl
theorem turn_back {r y:RolD} {peer:ByteArray} (h:(checkR r).2=0) (h3:∀ x∈r.steps,x.kind≠3) (hw:∀ x∈r.states,x.wait=0) (ht:turnP r peer=(y,0)):turnP y r.name=(r,0)∧(checkR y).2=0:=by
 obtain ⟨c1,⟨c2,c3⟩,⟨c4,c5⟩,c6,c7⟩:=check_parts h
 unfold turnP at ht
 rw [if_pos h] at ht
 by_cases hp:(nameB peer&&decide (peer≠r.name))=true
 case neg=>rw [if_neg hp] at ht;simp at ht
 rw [if_pos hp] at ht
 rw [Bool.and_eq_true] at hp
 have hpn:peer≠r.name:=of_decide_eq_true hp.2
 have hT:∀ s∈r.steps,(turnL r.name peer [] r.steps).isSome=true→Turns peer s:=fun s hs hsome=>by
  obtain ⟨j,hj⟩:=List.getElem?_of_mem hs
  have hk:=step_kind h hj
  obtain ⟨ts,hts⟩:=Option.isSome_iff_exists.1 hsome
  exact ⟨hk.1,hk.2,h3 s hs,turnL_some hts s hs⟩
 have hsome:(turnL r.name peer [] r.steps).isSome=true:=by
  cases hts:turnL r.name peer [] r.steps with
  | none=>rw [hts] at ht;simp at ht
  | some ts=>rfl
 have hT:∀ s∈r.steps,Turns peer s:=fun s hs=>hT s hs hsome
 have hd:=steps_dist h
 have hm:=turnL_map (nm:=r.name) (peer:=peer) r.steps [] (by simpa using hd) (by simpa using hT)
 rw [List.map_nil,List.nil_append] at hm
 rw [hm] at ht
 simp only [Prod.mk.injEq,and_true] at ht
 rw [still_map hw] at ht
 subst ht
 have hd2:Dist (r.steps.map (flipS r.name)):=dist_flip hd hT
 have hT2:∀ s∈r.steps.map (flipS r.name),Turns r.name s:=fun s hs=>by
  obtain ⟨x,hx,rfl⟩:=List.mem_map.1 hs
  exact (flip_back (hT x hx)).2
 have hc:(checkR ⟨peer,r.states,r.counters,r.steps.map (flipS r.name)⟩).2=0:=by
  refine check_of hp.1 c2 c3 c4 c5 (by simpa using c6) fun i hi=>?_
  simp only [List.length_map] at hi
  obtain ⟨s,hs⟩:=getElem?_lt hi
  have hal:=c7 i hi
  unfold stpB at hal
  rw [hs] at hal
  have hal:allowB r i s=true:=hal
  have hsm:=List.mem_of_getElem? hs
  have ht:=hT s hsm
  have ht2:=(flip_back (nm:=r.name) ht).2
  obtain ⟨f1,f2,f3,f4,f5,f6,f7⟩:=flip_same r.name s
  have hg:(r.steps.map (flipS r.name))[i]?=some (flipS r.name s):=by rw [List.getElem?_map,hs];rfl
  unfold stpB
  show (match (r.steps.map (flipS r.name))[i]? with
   | some s=>allowB ⟨peer,r.states,r.counters,r.steps.map (flipS r.name)⟩ i s
   | none=>false)=true
  rw [hg]
  show allowB ⟨peer,r.states,r.counters,r.steps.map (flipS r.name)⟩ i (flipS r.name s)=true
  unfold allowB at hal ⊢
  simp only [Bool.and_eq_true] at hal
  obtain ⟨_,a2,a3,_,_,a6,a7⟩:=hal
  have b1:decide (1≤(flipS r.name s).kind∧(flipS r.name s).kind≤4)=true:=decide_eq_true ⟨ht2.k1,ht2.k4⟩
  have b4:=hd2 i _ hg
  have b5:decide ((flipS r.name s).kind≠3)=true:=decide_eq_true ht2.k3
  have b6:partsB ⟨peer,r.states,r.counters,r.steps.map (flipS r.name)⟩ (flipS r.name s)=true:=by
   unfold partsB at a6 ⊢
   rw [f3]
   cases hk:speaksB s.kind with
   | true =>
    rw [hk,if_pos rfl,Bool.and_eq_true] at a6
    have hk2:speaksB (flipS r.name s).kind=true:=by
     unfold flipS
     rw [if_pos hk]
     unfold speaksB at hk ⊢
     simp only [Bool.or_eq_true,decide_eq_true_eq] at hk ⊢
     omega
    have hpe:(flipS r.name s).peer=r.name:=ht2.pr hk2
    rw [hk2,if_pos rfl,hpe,a6.1,c1]
    show (true&&(true&&decide (r.name≠peer)))=true
    rw [decide_eq_true (Ne.symm hpn)]
    rfl
   | false =>
    have hk2:flipS r.name s=s:=by
     unfold flipS
     rw [if_neg (by rw [hk];simp),if_neg ht.k3]
    rw [hk2]
    rw [hk] at a6 ⊢
    exact a6
  have b7:guardB ⟨peer,r.states,r.counters,r.steps.map (flipS r.name)⟩ (flipS r.name s)=true:=by
   unfold guardB at a7 ⊢
   rw [f4,f5,f6,f7]
   exact a7
  rw [b1,b5,b6,b7,f1,f2]
  show (true&&(decide (0≤stateI r s.fr)&&(decide (0≤stateI r s.to)&&((!((r.steps.map (flipS r.name)).take i).any fun x=>decide (x=flipS r.name s))&&((true||waitsB _ s.fr)&&(true&&true))))))=true
  rw [a2,a3,b4]
  rfl
 refine ⟨?_,hc⟩
 unfold turnP
 rw [if_pos hc,if_pos (show (nameB r.name&&decide (r.name≠peer))=true by rw [c1,decide_eq_true (Ne.symm hpn)];rfl)]
 have hm2:=turnL_map (nm:=peer) (peer:=r.name) (r.steps.map (flipS r.name)) [] (by simpa using hd2) (by simpa using hT2)
 rw [List.map_nil,List.nil_append,List.map_map] at hm2
 have hid:r.steps.map (flipS peer ∘ flipS r.name)=r.steps:=(List.map_congr_left (g:=id) fun s hs=>(flip_back (hT s hs)).1).trans (List.map_id _)
 rw [hid] at hm2
 show (match turnL peer r.name [] (r.steps.map (flipS r.name)) with
  | none=>(zeroR,(2:Int))
  | some l=>(⟨r.name,r.states.map still,r.counters,l⟩,0))=(r,0)
 rw [hm2]
 simp only
 rw [still_map hw]
theorem kw7 (k:Int):(kwB k).size≤7:=by
 unfold kwB
 split
 · decide
 · split
   · decide
   · split<;>decide
theorem cls7 (k:Int):(classB k).size≤7:=by
 unfold classB
 split
 · decide
 · split
   · decide
   · split<;>decide
theorem fold_size {α:Type} {f:ByteArray→α→ByteArray} {B:Nat}:∀ (l:List α) (s:ByteArray),(∀ s x,x∈l→(f s x).size≤s.size+B)→(l.foldl f s).size≤s.size+l.length*B
 | [],s,h=>by simp
 | x::l,s,h=>by
  rw [List.foldl_cons,List.length_cons,Nat.add_mul,Nat.one_mul]
  have h1:=h s x (List.mem_cons_self ..)
  have h2:=fold_size l (f s x) fun s y hy=>h s y (List.mem_cons_of_mem _ hy)
  omega
theorem dec21 {n:Int} (h:Num10 n):(decB n).size≤21:=(szb_dec h).le
theorem text_short {r:RolD} (h:(checkR r).2=0):(textP r).size≤21937:=by
 have hr:=check_rd h
 obtain ⟨_,⟨l1,_⟩,⟨⟨_,l2⟩,_⟩,l3,_⟩:=check_parts h
 have e0:(⟨#[114,111,108,101,32]⟩:ByteArray).size=5:=rfl
 have e1:(⟨#[10,99,111,117,110,116,101,114,32]⟩:ByteArray).size=9:=rfl
 have e2:(⟨#[32]⟩:ByteArray).size=1:=rfl
 have e3:(⟨#[10,115,116,97,116,101,32]⟩:ByteArray).size=7:=rfl
 have e4:(⟨#[32,119,97,105,116,32]⟩:ByteArray).size=6:=rfl
 have e5:(⟨#[32,102,105,110,97,108]⟩:ByteArray).size=6:=rfl
 have e6:(⟨#[10,115,116,101,112,32]⟩:ByteArray).size=6:=rfl
 have e7:(⟨#[32,119,104,101,110,32]⟩:ByteArray).size=6:=rfl
 have hc:∀ s x,x∈r.counters→(cntT s x).size≤s.size+63:=fun s x hx=>by
  have h1:=small32 (hr.cs x hx).1
  have h2:=dec21 (hr.cs x hx).2
  unfold cntT
  simp only [size_app,e1,e2]
  omega
 have hs:∀ s x,x∈r.states→(staT s x).size≤s.size+72:=fun s x hx=>by
  obtain ⟨g1,g2,g3⟩:=hr.ss x hx
  have h1:=small32 g1
  have h2:=dec21 (n:=x.wait) (by unfold Num10;omega)
  unfold staT staT2 staT1
  split<;>split<;>(simp only [size_app,e3,e4,e5];omega)
 have ht:∀ s x,x∈r.steps→(stpT s x).size≤s.size+249:=fun s x hx=>by
  obtain ⟨g1,g2,g3,g4,g5⟩:=hr.ts x hx
  have h1:=small32 g1
  have h2:=small32 g2
  have h3:=kw7 x.kind
  have h4:(stpT2 s x).size≤s.size+145:=by
   unfold stpT2 stpT1
   split
   · rename_i hk
     rw [if_pos hk] at g4
     have h4:=small32 g4.1
     have h5:=small32 g4.2
     simp only [size_app,e6,e2]
     omega
   · simp only [size_app,e6,e2]
     omega
  unfold stpT
  split
  · rename_i hk
    rw [if_neg (show ¬ x.counter=ByteArray.empty from hk)] at g5
    have h5:=small32 g5.1
    have h6:=dec21 g5.2.1
    have h7:=dec21 g5.2.2.1
    have h8:=dec21 g5.2.2.2
    simp only [size_app,e7,e2]
    omega
  · omega
 have h1:=fold_size (f:=cntT) (B:=63) r.counters (⟨#[114,111,108,101,32]⟩++r.name) hc
 have h2:=fold_size (f:=staT) (B:=72) r.states (r.counters.foldl cntT (⟨#[114,111,108,101,32]⟩++r.name)) hs
 have h3:=fold_size (f:=stpT) (B:=249) r.steps (r.states.foldl staT (r.counters.foldl cntT (⟨#[114,111,108,101,32]⟩++r.name))) ht
 have hn:=small32 hr.nm
 rw [size_app,e0] at h1
 unfold textP
 omega
theorem print_short {r:RolD} (h:(checkR r).2=0):(printR r).size≤90000:=by
 rw [printR_eq h]
 have:=text_short h
 omega
theorem prints_short {s:SesD} (h:(checkS s).2=0):(printS s).size≤90000:=by
 have ho:=check_ses h
 have h2:=ho.n2
 have z0:(sesT s).size≤70:=by
  have h1:=small32 ho.nm
  have h2:=cls7 s.cls
  have h3:=dec21 (n:=s.capacity) (by have h1:=ho.p1;have h2:=ho.p2;unfold Num10;omega)
  have e1:(⟨#[115,101,115,115,105,111,110,32]⟩:ByteArray).size=8:=rfl
  have e2:(⟨#[32]⟩:ByteArray).size=1:=rfl
  unfold sesT
  simp only [size_app,e1,e2]
  omega
 have hf:=fold_size (f:=rolT) (B:=21938) s.roles (sesT s) fun t r hr=>by
  have:=text_short (ho.rs r hr)
  have e1:(⟨#[10]⟩:ByteArray).size=1:=rfl
  unfold rolT
  simp only [size_app,e1]
  omega
 rw [printS_eq h]
 unfold textS
 omega
theorem rd_sm {r:RolD} (h:RdOk r):∀ x∈r.steps,StpSm x:=fun x hx=>by
 obtain ⟨g1,g2,g3,g4,g5⟩:=h.ts x hx
 have h1:=small32 g1
 have h2:=small32 g2
 have e0:ByteArray.empty.size=0:=rfl
 refine ⟨by omega,by omega,?_,?_,?_⟩
 · split at g4
   · have:=small32 g4.1;omega
   · rw [g4.1,e0];omega
 · split at g4
   · have:=small32 g4.2;omega
   · rw [g4.2,e0];omega
 · split at g5
   · rename_i hc;rw [hc,e0];omega
   · have:=small32 g5.1;omega
theorem read_ok {r:RolD} (h:Read r) (hc:(checkR r).2=0):RolOk r:=by
 obtain ⟨_,⟨l1,_⟩,⟨⟨_,l2⟩,_⟩,l3,_⟩:=check_parts hc
 exact h.ok ⟨by omega,by omega,by omega⟩
theorem rSameSes_ret (w0:World) (va vb:Value) (a b:SesD) (ha:SesVal w0 va a) (hb:SesVal w0 vb b):Ret Pg 32 #[va,vb] w0 fun u w'=>u = .bool (decide (a=b))∧Ext w0 w':=by
 obtain ⟨ra,rfl,hA⟩:=ha
 obtain ⟨rb,rfl,hB⟩:=hb
 obtain ⟨A1,c1,rfl,_,_,l1,hel⟩:=SliceOf.open hA
 obtain ⟨B1,d1,rfl,_,_,m1,hem⟩:=SliceOf.open hB
 refine n14s (R:=retR _) ?_;unfold n14
 rw [op_boxA]
 have hp:=heap_new w0 (sesCells a (.slice A1 a.roles.length c1)).toArray 57
 have eW0:Ext w0 (w0.alloc (.cells (sesCells a (.slice A1 a.roles.length c1)).toArray 57)):=ee
 generalize (w0.alloc (.cells (sesCells a (.slice A1 a.roles.length c1)).toArray 57))=W0 at hp eW0 ⊢
 generalize w0.heap.size=p at hp ⊢
 rw [op_boxA]
 have hq:=heap_new W0 (sesCells b (.slice B1 b.roles.length d1)).toArray 57
 have eW1:Ext W0 (W0.alloc (.cells (sesCells b (.slice B1 b.roles.length d1)).toArray 57)):=ee
 generalize (W0.alloc (.cells (sesCells b (.slice B1 b.roles.length d1)).toArray 57))=W at hq eW1 ⊢
 generalize W0.heap.size=q at hq ⊢
 replace hp:=eW1.obj hp
 have eW:=eW0.trans eW1
 have no:∀ w,Ext W w→a≠b→Value.bool false = .bool (decide (a=b))∧Ext w0 w:=fun w e h=>⟨by rw [decide_eq_false h],eW.trans e⟩
 by_cases g0:a.name=b.name
 case neg =>
  have z0:(!decide (a.name=b.name))=true:=by simp [g0]
  simp (disch:=try exact DI) only [↓PR,QR,simprocAttr,(cells_of_heap hp).1,(cells_of_heap hq).1,z0,g0,↓n14c5,↓n14c4]
  exact no _ (Ext.refl _) fun e=>g0 (by rw [e])
 have z0:decide (a.name=b.name)=true:=decide_eq_true g0
 by_cases g1:a.cls=b.cls
 case neg =>
  have z1:(a.cls != b.cls)=true:=by simp [g1]
  simp (disch:=try exact DI) only [↓PR,QR,simprocAttr,(cells_of_heap hp).1,(cells_of_heap hq).1,z0,Bool.not_true,z1,↓n14c5,↓n14c4]
  exact no _ (Ext.refl _) fun e=>g1 (by rw [e])
 have z1:(a.cls != b.cls)=false:=by simp [g1]
 by_cases g2:a.capacity=b.capacity
 case neg =>
  have z2:(a.capacity != b.capacity)=true:=by simp [g2]
  simp (disch:=try exact DI) only [↓PR,QR,simprocAttr,(cells_of_heap hp).1,(cells_of_heap hq).1,z0,Bool.not_true,z1,z2,↓n14c5,↓n14c4]
  exact no _ (Ext.refl _) fun e=>g2 (by rw [e])
 have z2:(a.capacity != b.capacity)=false:=by simp [g2]
 by_cases g3:a.roles.length=b.roles.length
 case neg =>
  have z3:((a.roles.length:Int) != (b.roles.length:Int))=true:=by simp only [bne_iff_ne,ne_eq];omega
  simp (disch:=try exact DI) only [↓PR,QR,simprocAttr,(cells_of_heap hp).1,(cells_of_heap hq).1,z0,Bool.not_true,z1,z2,z3,↓n14c5,↓n14c4]
  exact no _ (Ext.refl _) fun e=>g3 (by rw [e])
 have z3:((a.roles.length:Int) != (b.roles.length:Int))=false:=by rw [g3];simp
 simp (disch:=try exact DI) only [↓PR,QR,simprocAttr,(cells_of_heap hp).1,(cells_of_heap hq).1,z0,Bool.not_true,z1,z2,z3,↓n14c5,↓n14c4]
 refine loop1_intro (fun i w=>∃ k:Nat,i = .int .i64 k∧k≤a.roles.length∧Ext W w∧∀ (j:Nat) y z,j < k→a.roles[j]?=some y→b.roles[j]?=some z→y=z) (fun i _=>a.roles.length - (intOf i).toNat) ⟨0,rfl,by omega,Ext.refl _,fun j y z h=>by omega⟩ ?_
 rintro _ w ⟨k,rfl,hk,e,hbb⟩
 unfold n14c3
 by_cases hlt:k < a.roles.length
 · obtain ⟨x,hx⟩:=getElem?_lt hlt
   obtain ⟨y,hy⟩:=getElem?_lt (l:=b.roles) (k:=k) (by omega)
   obtain ⟨b1,o1,cs1,rfl,_,hA1,s1,s2,s3,rfl,i1,i2,i3⟩:=hel k x hx
   obtain ⟨b2,o2,cs2,rfl,_,hB1,t1,t2,t3,rfl,j1,j2,j3⟩:=hem k y hy
   have dk:(k:Int) < (a.roles.length:Int):=by omega
   have dk2:(k:Int) < (b.roles.length:Int):=by omega
   have d1:decide ((k:Int) < (a.roles.length:Int))=true:=decide_eq_true dk
   have hw:IntKind.i64.wrap ((k:Int)+1)=((k+1:Nat):Int):=by rw [wrap_ok (by omega) (by omega)];omega
   simp (disch:=try exact DI) only [↓PR,QR,simprocAttr,(cells_of_heap (e.obj hp)).1,d1]
   refine drawK_intro ?_
   have eD:Ext w (Sw.drew w):=(Ext.refl w).drew
   have e2:=e.trans eD
   generalize (Sw.drew w)=w2 at e2 ⊢
   clear eD
   simp (disch:=try exact DI) only [↓PR,QR,simprocAttr,↓n14c2,(cells_of_heap (e2.obj hp)).1,(cells_of_heap (e2.obj hq)).1,hA1.c4 (eW.trans e2),hB1.c4 (eW.trans e2)]
   have e3:=eW.trans e2
   refine zcr (rSame_ret w2 _ _ x y ⟨s1,s2,s3,rfl,i1.ext e3,i2.ext e3,i3.ext e3⟩ ⟨t1,t2,t3,rfl,j1.ext e3,j2.ext e3,j3.ext e3⟩) fun w3 e4=>?_
   unfold n14c1
   refine ⟨e4,?_⟩
   by_cases hxy:x=y
   · have hq1:decide (x=y)=true:=decide_eq_true hxy
     simp (disch:=try exact DI) only [↓PR,QR,simprocAttr,hq1,Bool.not_true,hw]
     exact ⟨⟨k+1,rfl,by omega,e2.trans e4,same_succ hbb hx hy hxy⟩,meas_lt (kd := .i64) hlt⟩
   · have hq1:decide (x=y)=false:=decide_eq_false hxy
     simp (disch:=try exact DI) only [↓PR,QR,simprocAttr,hq1,Bool.not_false]
     exact no _ (e2.trans e4) fun h=>same_no hx hy hxy (by rw [h])
 · have d1:decide ((k:Int) < (a.roles.length:Int))=false:=decide_eq_false (by omega)
   have ex:a.roles=b.roles:=same_ext g3 fun j y z hj=>hbb j y z (by omega)
   simp (disch:=try exact DI) only [↓PR,QR,simprocAttr,(cells_of_heap (e.obj hp)).1,d1]
   have:a=b:=by
    cases a;cases b
    simp_all
   exact ⟨by rw [decide_eq_true this],eW.trans e⟩
theorem ses_known {w0 w:World} (hE:EnvOK w0) (e:Ext w0 w):callK Pg 11 #[] (panK (LawR w0)) w fun t24 w=>LawR w0 (.returned t24) w:=by
 refine zcr (known_ret w (hE.ext e)) fun w2 e2=>?_
 exact ⟨_,rfl,rfl,e.trans e2⟩
def n7c1 (t217 t221:Value) (R:RT) (w:World):Prop :=
 pickK t217 t221 (.bool false) fun t222 =>
 joinK (fun (t224:Value) (w:World) =>
 pickK t222 t224 (.bool false) fun t225 =>
 R (.returned t225) w) fun K7 =>
 guardP t222 true (
 callK Pg 11 #[] (panK R) w fun t224 w =>
 K7 t224 w) (
 K7 undef w)
def n7c2 (t2 t212:Value) (R:RT) (w:World):Prop :=
 opV Pg (Instr.extract t212 0) (panK R) w fun t213 w =>
 opV Pg (Instr.extract t212 1) (panK R) w fun t214 w =>
 opV Pg (binS .eql 9 false t213 t2) (panK R) w fun t217 w =>
 joinK (fun (t221:Value) (w:World) =>
 n7c1 t217 t221 R w) fun K6 =>
 guardP t217 true (
 callK Pg 15 #[t214] (panK R) w fun t220 w =>
 opV Pg (binS .eql 3 true t220 (.int .i64 0)) (panK R) w fun t221 w =>
 K6 t221 w) (
 K6 undef w)
def n7c3 (t2 t30 t208:Value) (R:RT) (w:World):Prop :=
 opV Pg (binS .eql 3 true t208 (.int .i64 0)) (panK R) w fun t209 w =>
 condP t209 (
 opV Pg (Instr.loadAt 57 t30) (panK R) w fun t211 w =>
 callK Pg 28 #[t211] (panK R) w fun t212 w =>
 n7c2 t2 t212 R w) (
 callK Pg 11 #[] (panK R) w fun t226 w =>
 R (.returned t226) w)
def n7c4 (t2 t203:Value) (R:RT) (w:World):Prop :=
 opV Pg (Instr.extract t203 0) (panK R) w fun t204 w =>
 opV Pg (Instr.extract t203 1) (panK R) w fun t205 w =>
 opV Pg (Instr.extract t203 2) (panK R) w fun t206 w =>
 opV Pg (Instr.alloc 57 true (.tuple #[])) (panK R) w fun t30 w =>
 opU Pg (Instr.storeAt 57 t30 t204) (panK R) w fun w =>
 callK Pg 15 #[t206] (panK R) w fun t208 w =>
 n7c3 t2 t30 t208 R w
def n7c5 (t2 t190:Value) (K5:World→Prop) (R:RT) (w:World):Prop :=
 opV Pg (Instr.extract t190 0) (panK R) w fun t191 w =>
 opV Pg (Instr.extract t190 1) (panK R) w fun t192 w =>
 opV Pg (binS .neq 9 false t191 t2) (panK R) w fun t195 w =>
 joinK (fun (t199:Value) (w:World) =>
 pickK t195 (.bool true) t199 fun t200 =>
 condP t200 (
 R (.returned (.bool false)) w) (
 K5 w)) fun K8 =>
 guardP t195 false (
 callK Pg 15 #[t192] (panK R) w fun t198 w =>
 opV Pg (binS .neq 3 true t198 (.int .i64 0)) (panK R) w fun t199 w =>
 K8 t199 w) (
 K8 undef w)
def n7c6 (t2 t25 t186:Value) (R:RT) (w:World):Prop :=
 opV Pg (binS .eql 3 true t186 (.int .i64 0)) (panK R) w fun t187 w =>
 joinK (fun (w:World) =>
 callK Pg 30 #[t2] (panK R) w fun t203 w =>
 n7c4 t2 t203 R w) fun K5 =>
 condP t187 (
 opV Pg (Instr.loadAt 26 t25) (panK R) w fun t189 w =>
 callK Pg 14 #[t189] (panK R) w fun t190 w =>
 n7c5 t2 t190 K5 R w) (
 K5 w)
def n7c7 (t2 t181:Value) (R:RT) (w:World):Prop :=
 opV Pg (Instr.extract t181 0) (panK R) w fun t182 w =>
 opV Pg (Instr.extract t181 1) (panK R) w fun t183 w =>
 opV Pg (Instr.extract t181 2) (panK R) w fun t184 w =>
 opV Pg (Instr.alloc 26 true (.tuple #[])) (panK R) w fun t25 w =>
 opU Pg (Instr.storeAt 26 t25 t182) (panK R) w fun w =>
 callK Pg 15 #[t184] (panK R) w fun t186 w =>
 n7c6 t2 t25 t186 R w
def n7c8 (t4 t22 t167 t171:Value) (K4:World→Prop) (R:RT) (w:World):Prop :=
 pickK t167 (.bool true) t171 fun t172 =>
 joinK (fun (t177:Value) (w:World) =>
 pickK t172 (.bool true) t177 fun t178 =>
 condP t178 (
 R (.returned (.bool false)) w) (
 K4 w)) fun K10 =>
 guardP t172 false (
 opV Pg (Instr.loadAt 57 t22) (panK R) w fun t174 w =>
 opV Pg (Instr.loadAt 57 t4) (panK R) w fun t175 w =>
 callK Pg 32 #[t174,t175] (panK R) w fun t176 w =>
 opV Pg (Op.unary .not t176) (panK R) w fun t177 w =>
 K10 t177 w) (
 K10 undef w)
def n7c9 (t4 t162:Value) (K4:World→Prop) (R:RT) (w:World):Prop :=
 opV Pg (Instr.extract t162 0) (panK R) w fun t163 w =>
 opV Pg (Instr.extract t162 1) (panK R) w fun t164 w =>
 opV Pg (Instr.extract t162 2) (panK R) w fun t165 w =>
 opV Pg (Instr.alloc 57 true (.tuple #[])) (panK R) w fun t22 w =>
 opU Pg (Instr.storeAt 57 t22 t163) (panK R) w fun w =>
 opV Pg (binS .neq 3 true t164 (.int .i64 0)) (panK R) w fun t167 w =>
 joinK (fun (t171:Value) (w:World) =>
 n7c8 t4 t22 t167 t171 K4 R w) fun K9 =>
 guardP t167 false (
 callK Pg 15 #[t165] (panK R) w fun t170 w =>
 opV Pg (binS .neq 3 true t170 (.int .i64 0)) (panK R) w fun t171 w =>
 K9 t171 w) (
 K9 undef w)
def n7c10 (t2 t4 t155 t158:Value) (R:RT) (w:World):Prop :=
 opV Pg (binS .eql 3 true t158 (.int .i64 0)) (panK R) w fun t159 w =>
 joinK (fun (w:World) =>
 callK Pg 19 #[t2] (panK R) w fun t181 w =>
 n7c7 t2 t181 R w) fun K4 =>
 condP t159 (
 callK Pg 30 #[t155] (panK R) w fun t162 w =>
 n7c9 t4 t162 K4 R w) (
 K4 w)
def n7c11 (t2 t4 t154:Value) (R:RT) (w:World):Prop :=
 opV Pg (Instr.extract t154 0) (panK R) w fun t155 w =>
 opV Pg (Instr.extract t154 1) (panK R) w fun t156 w =>
 callK Pg 15 #[t156] (panK R) w fun t158 w =>
 n7c10 t2 t4 t155 t158 R w
def n7c12 (t3 t12 t13 t14:Value) (next14:Value→Value→Value→World→Prop) (R:RT) (w:World):Prop :=
 joinK (fun (t105:Value) (w:World) =>
 pickK t13 t105 (.bool false) fun t106 =>
 opV Pg (binS .add 3 true t14 (.int .i64 1)) (panK R) w fun t83 w =>
 next14 t12 t106 t83 w) fun K16 =>
 guardP t13 true (
 opV Pg (Instr.fieldAt 26 t3 3) (panK R) w fun t99 w =>
 opV Pg (Instr.loadAt 24 t99) (panK R) w fun t100 w =>
 opV Pg (Instr.indexAt 24 t100 t14) (panK R) w fun t102 w =>
 opV Pg (Instr.fieldAt 71 t102 2) (panK R) w fun t103 w =>
 opV Pg (Instr.loadAt 69 t103) (panK R) w fun t104 w =>
 opV Pg (binS .neq 69 true t104 (.int .i64 3)) (panK R) w fun t105 w =>
 K16 t105 w) (
 K16 undef w)
def n7c13 (t3 t14:Value) (K15:KV) (R:RT) (w:World):Prop :=
 opV Pg (Instr.fieldAt 26 t3 3) (panK R) w fun t91 w =>
 opV Pg (Instr.loadAt 24 t91) (panK R) w fun t92 w =>
 opV Pg (Instr.indexAt 24 t92 t14) (panK R) w fun t94 w =>
 opV Pg (Instr.fieldAt 71 t94 4) (panK R) w fun t95 w =>
 opV Pg (Instr.loadAt 9 t95) (panK R) w fun t96 w =>
 K15 t96 w
def n7c14 (t3 t18 t144:Value) (K3:World→Prop) (R:RT) (w:World):Prop :=
 opV Pg (binS .neq 3 true t144 (.int .i64 0)) (panK R) w fun t145 w =>
 joinK (fun (t150:Value) (w:World) =>
 pickK t145 (.bool true) t150 fun t151 =>
 condP t151 (
 R (.returned (.bool false)) w) (
 K3 w)) fun K20 =>
 guardP t145 false (
 opV Pg (Instr.loadAt 26 t18) (panK R) w fun t147 w =>
 opV Pg (Instr.loadAt 26 t3) (panK R) w fun t148 w =>
 callK Pg 21 #[t147,t148] (panK R) w fun t149 w =>
 opV Pg (Op.unary .not t149) (panK R) w fun t150 w =>
 K20 t150 w) (
 K20 undef w)
def n7c15 (t3 t140:Value) (K3:World→Prop) (R:RT) (w:World):Prop :=
 opV Pg (Instr.extract t140 0) (panK R) w fun t141 w =>
 opV Pg (Instr.extract t140 1) (panK R) w fun t142 w =>
 opV Pg (Instr.alloc 26 true (.tuple #[])) (panK R) w fun t18 w =>
 opU Pg (Instr.storeAt 26 t18 t141) (panK R) w fun w =>
 callK Pg 15 #[t142] (panK R) w fun t144 w =>
 n7c14 t3 t18 t144 K3 R w
def n7c16 (t3 t16:Value) (K3:World→Prop) (R:RT) (w:World):Prop :=
 opV Pg (Instr.loadAt 26 t16) (panK R) w fun t137 w =>
 opV Pg (Instr.fieldAt 26 t3 0) (panK R) w fun t138 w =>
 opV Pg (Instr.loadAt 9 t138) (panK R) w fun t139 w =>
 callK Pg 23 #[t137,t139] (panK R) w fun t140 w =>
 n7c15 t3 t140 K3 R w
def n7c17 (t3 t13 t16 t131:Value) (K3:World→Prop) (R:RT) (w:World):Prop :=
 opV Pg (binS .eql 3 true t131 (.int .i64 0)) (panK R) w fun t132 w =>
 joinK (fun (t134:Value) (w:World) =>
 pickK t132 t134 (.bool false) fun t135 =>
 condP t135 (
 n7c16 t3 t16 K3 R w) (
 K3 w)) fun K19 =>
 guardP t132 true (
 K19 t13 w) (
 K19 undef w)
def n7c18 (t3 t13 t127:Value) (K3:World→Prop) (R:RT) (w:World):Prop :=
 opV Pg (Instr.extract t127 0) (panK R) w fun t128 w =>
 opV Pg (Instr.extract t127 1) (panK R) w fun t129 w =>
 opV Pg (Instr.alloc 26 true (.tuple #[])) (panK R) w fun t16 w =>
 opU Pg (Instr.storeAt 26 t16 t128) (panK R) w fun w =>
 callK Pg 15 #[t129] (panK R) w fun t131 w =>
 n7c17 t3 t13 t16 t131 K3 R w
def n7c19 (t3 t13 t15:Value) (next17:KW) (R:RT) (w:World):Prop :=
 joinK (fun (t122:Value) (w:World) =>
 pickK t13 t122 (.bool false) fun t123 =>
 opV Pg (binS .add 3 true t15 (.int .i64 1)) (panK R) w fun t113 w =>
 next17 t123 t113 w) fun K18 =>
 guardP t13 true (
 opV Pg (Instr.fieldAt 26 t3 1) (panK R) w fun t116 w =>
 opV Pg (Instr.loadAt 22 t116) (panK R) w fun t117 w =>
 opV Pg (Instr.indexAt 22 t117 t15) (panK R) w fun t119 w =>
 opV Pg (Instr.fieldAt 50 t119 2) (panK R) w fun t120 w =>
 opV Pg (Instr.loadAt 3 t120) (panK R) w fun t121 w =>
 opV Pg (binS .eql 3 true t121 (.int .i64 0)) (panK R) w fun t122 w =>
 K18 t122 w) (
 K18 undef w)
def n7c20 (t3 t12 t13 t15:Value) (K3:World→Prop) (next17:KW) (R:RT) (w:World):Prop :=
 opV Pg (Instr.fieldAt 26 t3 1) (panK R) w fun t108 w =>
 opV Pg (Instr.loadAt 22 t108) (panK R) w fun t109 w =>
 opV Pg (Builtin.len_ #[22] 3 #[t109]) (panK R) w fun t110 w =>
 opV Pg (binS .lss 3 false t15 t110) (panK R) w fun t111 w =>
 condP t111 (
 n7c19 t3 t13 t15 next17 R w) (
 opV Pg (Instr.loadAt 26 t3) (panK R) w fun t125 w =>
 callK Pg 23 #[t125,t12] (panK R) w fun t127 w =>
 n7c18 t3 t13 t127 K3 R w)
def n7c21 (t3 t12 t13 t14:Value) (next14:Value→Value→Value→World→Prop) (R:RT) (w:World):Prop :=
 opV Pg (Instr.fieldAt 26 t3 3) (panK R) w fun t84 w =>
 opV Pg (Instr.loadAt 24 t84) (panK R) w fun t85 w =>
 opV Pg (Instr.indexAt 24 t85 t14) (panK R) w fun t87 w =>
 opV Pg (Instr.fieldAt 71 t87 4) (panK R) w fun t88 w =>
 opV Pg (Instr.loadAt 9 t88) (panK R) w fun t89 w =>
 opV Pg (binS .neq 9 true t89 (.string { data := #[] })) (panK R) w fun t90 w =>
 joinK (fun (t12:Value) (w:World) =>
 n7c12 t3 t12 t13 t14 next14 R w) fun K15 =>
 condP t90 (
 n7c13 t3 t14 K15 R w) (
 K15 t12 w)
def n7c22 (t3 t12 t13 t14:Value) (K3:World→Prop) (next14:Value→Value→Value→World→Prop) (R:RT) (w:World):Prop :=
 opV Pg (Instr.fieldAt 26 t3 3) (panK R) w fun t78 w =>
 opV Pg (Instr.loadAt 24 t78) (panK R) w fun t79 w =>
 opV Pg (Builtin.len_ #[24] 3 #[t79]) (panK R) w fun t80 w =>
 opV Pg (binS .lss 3 false t14 t80) (panK R) w fun t81 w =>
 condP t81 (
 n7c21 t3 t12 t13 t14 next14 R w) (
 loop2 (fun t13 t15 w next17 =>
 n7c20 t3 t12 t13 t15 K3 next17 R w) t13 (.int .i64 0) w)
def n7c23 (t3:Value) (C13:World→Prop) (K3:World→Prop) (R:RT) (w:World):Prop :=
 qV Pg C13 (Instr.fieldAt 26 t3 0) fun t74 =>
 qV Pg C13 (Instr.loadAt 9 t74) fun t75 =>
 qV Pg C13 (binS .neq 9 true t75 (.string { data := #[111,116,104,101,114] })) fun t76 =>
 loop3 (fun t12 t13 t14 w next14 =>
 n7c22 t3 t12 t13 t14 K3 next14 R w) (.string { data := #[111,116,104,101,114] }) t76 (.int .i64 0) w
def n7c24 (t3 t9 t62 t66:Value) (K3:World→Prop) (R:RT) (w:World):Prop :=
 pickK t62 (.bool true) t66 fun t67 =>
 joinK (fun (t72:Value) (w:World) =>
 pickK t67 (.bool true) t72 fun t73 =>
 condP t73 (
 R (.returned (.bool false)) w) (
 drawK w fun C13 w =>
 n7c23 t3 C13 K3 R w)) fun K12 =>
 guardP t67 false (
 opV Pg (Instr.loadAt 26 t9) (panK R) w fun t69 w =>
 opV Pg (Instr.loadAt 26 t3) (panK R) w fun t70 w =>
 callK Pg 21 #[t69,t70] (panK R) w fun t71 w =>
 opV Pg (Op.unary .not t71) (panK R) w fun t72 w =>
 K12 t72 w) (
 K12 undef w)
def n7c25 (t3 t57:Value) (K3:World→Prop) (R:RT) (w:World):Prop :=
 opV Pg (Instr.extract t57 0) (panK R) w fun t58 w =>
 opV Pg (Instr.extract t57 1) (panK R) w fun t59 w =>
 opV Pg (Instr.extract t57 2) (panK R) w fun t60 w =>
 opV Pg (Instr.alloc 26 true (.tuple #[])) (panK R) w fun t9 w =>
 opU Pg (Instr.storeAt 26 t9 t58) (panK R) w fun w =>
 opV Pg (binS .neq 3 true t59 (.int .i64 0)) (panK R) w fun t62 w =>
 joinK (fun (t66:Value) (w:World) =>
 n7c24 t3 t9 t62 t66 K3 R w) fun K11 =>
 guardP t62 false (
 callK Pg 15 #[t60] (panK R) w fun t65 w =>
 opV Pg (binS .neq 3 true t65 (.int .i64 0)) (panK R) w fun t66 w =>
 K11 t66 w) (
 K11 undef w)
def n7c26 (t2 t3 t4 t50 t53:Value) (R:RT) (w:World):Prop :=
 opV Pg (binS .eql 3 true t53 (.int .i64 0)) (panK R) w fun t54 w =>
 joinK (fun (w:World) =>
 opV Pg (Instr.loadAt 57 t4) (panK R) w fun t153 w =>
 callK Pg 28 #[t153] (panK R) w fun t154 w =>
 n7c11 t2 t4 t154 R w) fun K3 =>
 condP t54 (
 callK Pg 19 #[t50] (panK R) w fun t57 w =>
 n7c25 t3 t57 K3 R w) (
 K3 w)
def n7c27 (t2 t3 t4 t49:Value) (R:RT) (w:World):Prop :=
 opV Pg (Instr.extract t49 0) (panK R) w fun t50 w =>
 opV Pg (Instr.extract t49 1) (panK R) w fun t51 w =>
 callK Pg 15 #[t51] (panK R) w fun t53 w =>
 n7c26 t2 t3 t4 t50 t53 R w
def n7c28 (t2 t3 t4 t40 t44:Value) (R:RT) (w:World):Prop :=
 pickK t40 (.bool true) t44 fun t45 =>
 condP t45 (
 callK Pg 11 #[] (panK R) w fun t46 w =>
 R (.returned t46) w) (
 opV Pg (Instr.loadAt 26 t3) (panK R) w fun t48 w =>
 callK Pg 14 #[t48] (panK R) w fun t49 w =>
 n7c27 t2 t3 t4 t49 R w)
def n7c29 (t2 t3 t4 t36 t39:Value) (R:RT) (w:World):Prop :=
 pickK t36 (.bool true) t39 fun t40 =>
 joinK (fun (t44:Value) (w:World) =>
 n7c28 t2 t3 t4 t40 t44 R w) fun K2 =>
 guardP t40 false (
 opV Pg (Builtin.len_ #[9] 3 #[t2]) (panK R) w fun t43 w =>
 opV Pg (binS .gtr 3 true t43 (.int .i64 3000)) (panK R) w fun t44 w =>
 K2 t44 w) (
 K2 undef w)
def n7c30 (t2 t3 t4 t36:Value) (R:RT) (w:World):Prop :=
 joinK (fun (t39:Value) (w:World) =>
 n7c29 t2 t3 t4 t36 t39 R w) fun K1 =>
 guardP t36 false (
 opV Pg (Instr.loadAt 57 t4) (panK R) w fun t38 w =>
 callK Pg 25 #[t38] (panK R) w fun t39 w =>
 K1 t39 w) (
 K1 undef w)
def n7 (t0 t1 t2:Value) (R:RT) (w:World):Prop :=
 opV Pg (Instr.box 26 t0) (panK R) w fun t3 w =>
 opV Pg (Instr.box 57 t1) (panK R) w fun t4 w =>
 opV Pg (Instr.loadAt 26 t3) (panK R) w fun t35 w =>
 callK Pg 10 #[t35] (panK R) w fun t36 w =>
 n7c30 t2 t3 t4 t36 R w
set_option maxHeartbeats 40000000 in
theorem n7s {t0 t1 t2:Value} {R:RT} {w:World} (h:n7 t0 t1 t2 R w):Calls Pg 8 #[t0,t1,t2] w R:=by
 refine yD Tryz.func8 ?_
 refine zs<|zr<|yv h fun _ w h=>yv h fun _ w h=>zm<|zn<|zk<|zs<|zs<|sim_regionG<|yG 3<|yv h fun _ w h=>yc h c10 fun _ w h=>zm<|zn ?_
 refine yg1 2 2 false [38,39] 39 h (fun _ T hT h=>?_) fun σ w h=>?_
 · refine yv h fun _ w h=>yc h c25 fun _ w h=>zn ?_
   exact zt hT h
 refine yG 2<|yp h fun _ h=>zm<|zn<|yg1 3 6 false [42,43,44] 44 h (fun _ T hT h=>?_) fun σ w h=>?_
 · refine zm<|yx h fun _ w h=>yb h fun _ w h=>zn ?_
   exact zt hT h
 refine yG 1<|yp h fun _ h=>zn<|sim_end<|zk<|yC h (fun h=>zs<|zr<|yc h c11 fun _ w h=>zm<|zn<|zk<|sim_ret<|sim_then_ret<|body_ret1 rfl rfl h) fun h=>sim_skip<|zk<|zs<|zs<|zr<|yv h fun _ w h=>yc h c14 fun _ w h=>zm ?_
 refine yv h fun _ w h=>yv h fun _ w h=>zm<|zm<|zn<|zk<|zs<|zr<|zm<|yc h c15 fun _ w h=>yb h fun _ w h=>zn<|zk<|yJ0 [6,9,10,11,12,13,14,15,16,17,18,19,55,56,57,58,59,60,61,62,63,64,65,66,67,68,69,70,71,72,73,74,75,76,77,78,79,80,81,82,83,84,85,86,87,88,89,90,91,92,93,94,95,96,97,98,99,100,101,102,103,104,105,106,107,108,109,110,111,112,113,114,115,116,117,118,119,120,121,122,123,124,125,126,127,128,129,130,131,132,133,134,135,136,137,138,139,140,141,142,143,144,145,146,147,148,149,150,151] h (fun _ _ hkK3 h=>?_) fun σ w h=>?_
 · refine yC h (fun h=>?_) fun h=>?_
   · refine zs<|zr<|zm<|yc h c19 fun _ w h=>zm<|yv h fun _ w h=>yv h fun _ w h=>yv h fun _ w h=>yv h fun _ w h=>yu h fun w h=>zm<|zm<|zn<|zk<|zs ?_
     refine zs<|sim_regionG<|yG 3<|zm<|yb h fun _ w h=>zm<|zn<|yg1 3 2 false [64,65,66] 66 h (fun _ T hT h=>?_) fun σ w h=>?_
     · refine zm<|yc h c15 fun _ w h=>yb h fun _ w h=>zn ?_
       exact zt hT h
     refine yG 2<|yp h fun _ h=>zm<|zn<|yg1 4 7 false [69,70,71,72] 72 h (fun _ T hT h=>?_) fun σ w h=>?_
     · refine yv h fun _ w h=>yv h fun _ w h=>yc h c21 fun _ w h=>yv h fun _ w h=>zn ?_
       exact zt hT h
     refine yG 1<|yp h fun _ h=>zn<|sim_end<|zk<|yC h (fun h=>zs<|zr<|zm<|zn<|zk<|sim_ret<|sim_then_ret<|sim_then_ret<|sim_then_ret<|body_ret1 rfl rfl h) fun h=>sim_skip<|zk<|zs<|yh [12,13,74,75,76] h fun C hC h=>ye 0 hC h fun _ h=>?_
     refine ye 1 hC h fun _ h=>?_
     refine ye 2 hC h fun _ h=>?_
     refine yw 3 hC ?_
     refine yw 4 hC ?_
     refine yz<|zk<|zs<|zs<|zr<|zm<|zn<|zk<|sim_block<|yl3 [12,13,14,77,78,79,80,81,82,83,84,85,86,87,88,89,90,91,92,93,94,95,96,97,98,99,100,101,102,103,104,105,106] 12 13 14 h fun σ w next h=>zs<|zs<|zr<|zm<|yv h fun _ w h=>?_
     refine yv h fun _ w h=>yx h fun _ w h=>yb h fun _ w h=>zn<|zk<|yC h (fun h=>?_) fun h=>?_
     · refine sim_skip<|zk<|zs<|sim_block<|zs<|zs<|zr<|yv h fun _ w h=>yv h fun _ w h=>zm<|yv h fun _ w h=>yv h fun _ w h=>yv h fun _ w h=>yb h fun _ w h=>zn ?_
       refine zk<|yJ1 [12,91,92,93,94,95,96] 12 h (fun _ _ hkK15 h=>?_) fun σ w h=>?_
       · refine yC h (fun h=>?_) fun h=>?_
         · refine zr<|yv h fun _ w h=>yv h fun _ w h=>zm<|yv h fun _ w h=>yv h fun _ w h=>yv h fun _ w h=>zm<|zn<|zk ?_
           exact zt hkK15 h
         refine sim_skip<|zk ?_
         exact zt hkK15 h
       refine zk<|sim_regionG<|yG 2<|zm<|zm<|zn<|yg1 7 1 true [99,100,101,102,103,104,105] 105 h (fun _ T hT h=>?_) fun σ w h=>?_
       · refine yv h fun _ w h=>yv h fun _ w h=>zm<|yv h fun _ w h=>yv h fun _ w h=>yv h fun _ w h=>yb h fun _ w h=>zn ?_
         exact zt hT h
       exact yG 2<|yp h fun _ h=>zm<|zn<|sim_end<|sim_block_normal<|zk<|zr<|zm<|yb h fun _ w h=>zm<|zn<|zk<|⟨rfl,h⟩
     refine sim_exit<|sim_then_exit<|sim_then_exit<|sim_block_hit<|zk<|zs<|zs<|zr<|zm<|zn<|zk<|sim_block<|yl2 [13,15,107,108,109,110,111,112,113,114,115,116,117,118,119,120,121,122,123] 13 15 h fun σ w next h=>zs<|zs ?_
     refine zr<|zm<|yv h fun _ w h=>yv h fun _ w h=>yx h fun _ w h=>yb h fun _ w h=>zn<|zk<|yC h (fun h=>?_) fun h=>?_
     · refine sim_skip<|zk<|zs<|sim_block<|sim_regionG<|yG 2<|zm<|zm<|zn<|yg1 7 1 true [116,117,118,119,120,121,122] 122 h (fun _ T hT h=>?_) fun σ w h=>?_
       · refine yv h fun _ w h=>yv h fun _ w h=>zm<|yv h fun _ w h=>yv h fun _ w h=>yv h fun _ w h=>yb h fun _ w h=>zn ?_
         exact zt hT h
       exact yG 2<|yp h fun _ h=>zm<|zn<|sim_end<|sim_block_normal<|zk<|zr<|zm<|yb h fun _ w h=>zm<|zn<|zk<|⟨rfl,h⟩
     refine sim_exit<|sim_then_exit<|sim_then_exit<|sim_block_hit<|zk<|zs<|zr<|yv h fun _ w h=>zm<|yc h c23 fun _ w h=>zm<|yv h fun _ w h=>yv h fun _ w h=>yv h fun _ w h=>yu h fun w h=>?_
     refine zm<|zn<|zk<|zs<|sim_regionG<|yG 4<|zm<|yc h c15 fun _ w h=>yb h fun _ w h=>zm<|zn<|yg1 1 3 true [134] 134 h (fun _ T hT h=>?_) fun σ w h=>?_
     · refine zm<|zn ?_
       exact zt hT h
     refine yG 1<|yp h fun _ h=>zn<|sim_end<|zk<|yC h (fun h=>?_) fun h=>?_
     · refine zs<|zr<|yv h fun _ w h=>yv h fun _ w h=>yv h fun _ w h=>yc h c23 fun _ w h=>zm<|yv h fun _ w h=>yv h fun _ w h=>yv h fun _ w h=>yu h fun w h=>zm<|zn<|zk<|zs ?_
       refine sim_regionG<|yG 4<|zm<|yc h c15 fun _ w h=>yb h fun _ w h=>zm<|zn<|yg1 4 3 false [147,148,149,150] 150 h (fun _ T hT h=>?_) fun σ w h=>?_
       · refine yv h fun _ w h=>yv h fun _ w h=>yc h c21 fun _ w h=>yv h fun _ w h=>zn ?_
         exact zt hT h
       refine yG 1<|yp h fun _ h=>zn<|sim_end<|zk<|yC h (fun h=>zs<|zr<|zm<|zn<|zk<|sim_ret<|sim_then_ret<|sim_then_ret<|body_ret1 rfl rfl h) fun h=>sim_skip<|zk ?_
       exact zt hkK3 h
     refine sim_skip<|zk ?_
     exact zt hkK3 h
   refine sim_skip<|zk ?_
   exact zt hkK3 h
 refine zk<|zs<|zs<|zr<|yv h fun _ w h=>yc h c28 fun _ w h=>zm<|yv h fun _ w h=>yv h fun _ w h=>zm<|zm<|zn<|zk<|zs<|zr ?_
 refine zm<|yc h c15 fun _ w h=>yb h fun _ w h=>zn<|zk<|yJ0 [6,22,23,24,160,161,162,163,164,165,166,167,168,169,170,171,172,173,174,175,176,177,178] h (fun _ _ hkK4 h=>?_) fun σ w h=>?_
 · refine yC h (fun h=>?_) fun h=>?_
   · refine zs<|zr<|zm<|yc h c30 fun _ w h=>zm<|yv h fun _ w h=>yv h fun _ w h=>yv h fun _ w h=>yv h fun _ w h=>yu h fun w h=>zm<|zm<|zn<|zk<|zs ?_
     refine sim_regionG<|yG 3<|zm<|yb h fun _ w h=>zm<|zn<|yg1 3 2 false [169,170,171] 171 h (fun _ T hT h=>?_) fun σ w h=>?_
     · refine zm<|yc h c15 fun _ w h=>yb h fun _ w h=>zn ?_
       exact zt hT h
     refine yG 2<|yp h fun _ h=>zm<|zn<|yg1 4 7 false [174,175,176,177] 177 h (fun _ T hT h=>?_) fun σ w h=>?_
     · refine yv h fun _ w h=>yv h fun _ w h=>yc h c32 fun _ w h=>yv h fun _ w h=>zn ?_
       exact zt hT h
     refine yG 1<|yp h fun _ h=>zn<|sim_end<|zk<|yC h (fun h=>zs<|zr<|zm<|zn<|zk<|sim_ret<|sim_then_ret<|sim_then_ret<|body_ret1 rfl rfl h) fun h=>sim_skip<|zk ?_
     exact zt hkK4 h
   refine sim_skip<|zk ?_
   exact zt hkK4 h
 refine zk<|zs<|zs<|zr<|zm<|yc h c19 fun _ w h=>zm<|yv h fun _ w h=>yv h fun _ w h=>yv h fun _ w h=>yv h fun _ w h=>yu h fun w h=>zm<|zm<|zn ?_
 refine zk<|zs<|zr<|zm<|yc h c15 fun _ w h=>yb h fun _ w h=>zn<|zk<|yJ0 [6,28,29,188,189,190,191,192,193,194,195,196,197,198,199,200] h (fun _ _ hkK5 h=>?_) fun σ w h=>?_
 · refine yC h (fun h=>?_) fun h=>?_
   · refine zs<|zr<|yv h fun _ w h=>yc h c14 fun _ w h=>zm<|yv h fun _ w h=>yv h fun _ w h=>zm<|zm<|zn<|zk<|zs<|sim_regionG<|yG 4<|zm ?_
     refine zm<|yb h fun _ w h=>zm<|zn<|yg1 3 3 false [197,198,199] 199 h (fun _ T hT h=>?_) fun σ w h=>?_
     · refine zm<|yc h c15 fun _ w h=>yb h fun _ w h=>zn ?_
       exact zt hT h
     refine yG 1<|yp h fun _ h=>zn<|sim_end<|zk<|yC h (fun h=>zs<|zr<|zm<|zn<|zk<|sim_ret<|sim_then_ret<|sim_then_ret<|body_ret1 rfl rfl h) fun h=>sim_skip<|zk ?_
     exact zt hkK5 h
   refine sim_skip<|zk ?_
   exact zt hkK5 h
 refine zk<|zs<|zs<|zr<|zm<|yc h c30 fun _ w h=>zm<|yv h fun _ w h=>yv h fun _ w h=>yv h fun _ w h=>yv h fun _ w h=>yu h fun w h=>zm<|zm<|zn ?_
 refine zk<|zs<|zr<|zm<|yc h c15 fun _ w h=>yb h fun _ w h=>zn<|zk<|yC h (fun h=>?_) fun h=>?_
 · refine zs<|zr<|yv h fun _ w h=>yc h c28 fun _ w h=>zm<|yv h fun _ w h=>yv h fun _ w h=>zm<|zm<|zn<|zk<|zs<|sim_regionG<|yG 4<|zm ?_
   refine zm<|yb h fun _ w h=>zm<|zn<|yg1 3 3 true [219,220,221] 221 h (fun _ T hT h=>?_) fun σ w h=>?_
   · refine zm<|yc h c15 fun _ w h=>yb h fun _ w h=>zn ?_
     exact zt hT h
   refine yG 2<|yp h fun _ h=>zm<|zn<|yg1 1 8 true [224] 224 h (fun _ T hT h=>?_) fun σ w h=>?_
   · refine yc h c11 fun _ w h=>zn ?_
     exact zt hT h
   exact yG 2<|yp h fun _ h=>zm<|zn<|sim_end<|zk<|sim_ret<|sim_then_ret<|body_ret1 rfl rfl h
 exact sim_skip<|zk<|zs<|zr<|yc h c11 fun _ w h=>zm<|zn<|zk<|sim_ret<|body_ret1 rfl rfl h
section
variable {w0 w:World} {text:ByteArray}
theorem bk_ses (hE:EnvOK w0) (e:Ext w0 w) (hz:text.size≤3000):callK Pg 30 #[.string text] (panK (LawR w0)) w fun t203 w=>n7c4 (.string text) t203 (LawR w0) w:=by
 refine callK_ret (ParseSession_ret (hE.ext e) (by omega)) ?_
 rintro _ w1 ⟨⟨x,rfl,hx⟩,e1⟩
 obtain ⟨rv,rfl,hK⟩:=hx
 have f1:rv.oneCell'=true:=SliceOf.oneCell hK.of
 have eX:Ext w1 (w1.alloc (.cells (sesCells (parseS text).1 rv).toArray TSes)):=ee
 have hX:(w1.alloc (.cells (sesCells (parseS text).1 rv).toArray TSes)).heap[w1.heap.size]?=some (.cells (sesCells (parseS text).1 rv).toArray TSes (0,0)):=heap_new _ _ _
 simp (disch:=try exact DI) only [↓PR,QR,simprocAttr,↓n7c4]
 change callK _ _ _ _ (w1.alloc (.cells (sesCells (parseS text).1 rv).toArray TSes)) _
 generalize (w1.alloc (.cells (sesCells (parseS text).1 rv).toArray TSes))=X at eX hX ⊢
 have EX:=(e.trans e1).trans eX
 refine callK_ret (num_ret X _) ?_
 rintro _ V' ⟨rfl,hV'⟩
 rw [hV']
 clear hV' V'
 by_cases h0:(parseS text).2.2=0
 · have d1:((parseS text).2.2 == 0)=true:=by simp [h0]
   obtain ⟨hc,hpt,n,hsp⟩:=parseS_ok h0
   have ho:=check_ses hc
   have ln:=ho.n2
   have hread:=(sesP_len hsp).2.2
   simp (disch:=try exact DI) only [↓PR,QR,simprocAttr,↓n7c3,d1,(cells_of_heap hX).1]
   refine zcr (PrintSession_ret X _ _ ⟨rv,rfl,hK.of.ext eX⟩ (fun r hr=>read_ok (hread r hr) (ho.rs r hr)) (by omega) (hE.tab.ext EX)) fun w3 e3=>?_
   have E3:=EX.trans e3
   rw [hpt,hc]
   have q1:decide (text=text)=true:=decide_eq_true rfl
   have q2:((0:Int) == 0)=true:=rfl
   simp (disch:=try exact DI) only [↓PR,QR,simprocAttr,↓n7c2,q1]
   refine callK_ret (num_ret w3 _) ?_
   rintro _ V' ⟨rfl,hV'⟩
   rw [hV']
   clear hV' V'
   simp (disch:=try exact DI) only [↓PR,QR,simprocAttr,q1,q2,↓n7c1]
   refine zcr (known_ret w3 (hE.ext E3)) fun w5 e5=>?_
   simp (disch:=try exact DI) only [↓PR,QR,simprocAttr,q1,q2]
   exact ⟨by trivial,E3.trans e5⟩
 · have d1:((parseS text).2.2 == 0)=false:=by simp [h0]
   simp (disch:=try exact DI) only [↓PR,QR,simprocAttr,↓n7c3,d1]
   exact ses_known hE EX
theorem bk_role (hE:EnvOK w0) (e:Ext w0 w) (hz:text.size≤3000):callK Pg 19 #[.string text] (panK (LawR w0)) w fun t181 w=>n7c7 (.string text) t181 (LawR w0) w:=by
 refine callK_ret (Parse_ret (hE.ext e) (by omega)) ?_
 rintro _ w1 ⟨⟨x,rfl,hx⟩,e1⟩
 obtain ⟨sv,cv,tv,rfl,o1,o2,o3⟩:=hx
 have f1:=own_one o1 fun _=>rfl
 have f2:=own_one o2 fun _=>rfl
 have f3:=own_one o3 fun _=>rfl
 have eX:Ext w1 (w1.alloc (.cells (rolCells (parseP text).1 sv cv tv).toArray TRol)):=ee
 have hX:(w1.alloc (.cells (rolCells (parseP text).1 sv cv tv).toArray TRol)).heap[w1.heap.size]?=some (.cells (rolCells (parseP text).1 sv cv tv).toArray TRol (0,0)):=heap_new _ _ _
 simp (disch:=try exact DI) only [↓PR,QR,simprocAttr,↓n7c7]
 change callK _ _ _ _ (w1.alloc (.cells (rolCells (parseP text).1 sv cv tv).toArray TRol)) _
 generalize (w1.alloc (.cells (rolCells (parseP text).1 sv cv tv).toArray TRol))=X at eX hX ⊢
 have EX:=(e.trans e1).trans eX
 refine callK_ret (num_ret X _) ?_
 rintro _ V' ⟨rfl,hV'⟩
 rw [hV']
 clear hV' V'
 by_cases h0:(parseP text).2.2=0
 · have d1:((parseP text).2.2 == 0)=true:=by simp [h0]
   obtain ⟨hc,hpt,hread⟩:=parse_ok h0
   simp (disch:=try exact DI) only [↓PR,QR,simprocAttr,↓n7c6,d1,(cells_of_heap hX).1]
   refine zcr (Print_ret X _ _ (RolOwn.val (base:=0) ⟨sv,cv,tv,rfl,(o1.ext eX).base (Nat.zero_le _),(o2.ext eX).base (Nat.zero_le _),(o3.ext eX).base (Nat.zero_le _)⟩) (read_ok hread hc) (hE.tab.ext EX)) fun w3 e3=>?_
   have E3:=EX.trans e3
   rw [hpt,hc]
   have q1:decide (text=text)=true:=decide_eq_true rfl
   have q2:((0:Int) != 0)=false:=rfl
   simp (disch:=try exact DI) only [↓PR,QR,simprocAttr,↓n7c5,q1,Bool.not_true]
   refine callK_ret (num_ret w3 _) ?_
   rintro _ V' ⟨rfl,hV'⟩
   rw [hV']
   clear hV' V'
   simp (disch:=try exact DI) only [↓PR,QR,simprocAttr,q1,q2,Bool.not_true]
   exact bk_ses hE E3 hz
 · have d1:((parseP text).2.2 == 0)=false:=by simp [h0]
   simp (disch:=try exact DI) only [↓PR,QR,simprocAttr,↓n7c6,d1]
   exact bk_ses hE EX hz
theorem bk_print {p4:Nat} {s:SesD} {rv:Value} (hE:EnvOK w0) (e:Ext w0 w) (hz:text.size≤3000) (h4:w.heap[p4]?=some (.cells (sesCells s rv).toArray TSes (0,0))) (hR:RolsOf w rv s.roles) (hF:∀ r∈s.roles,RolOk r) (hl:s.roles.length≤6) :
 callK Pg 28 #[.agg (sesCells s rv).toArray] (panK (LawR w0)) w fun t154 w=>n7c11 (.string text) (.pointer (some ⟨p4,0,none⟩)) t154 (LawR w0) w:=by
 refine zcr (PrintSession_ret w _ s ⟨rv,rfl,hR⟩ hF (by omega) (hE.tab.ext e)) fun w1 e1=>?_
 have E1:=e.trans e1
 have h41:=e1.obj h4
 have fr:=SliceOf.oneCell hR
 simp (disch:=try exact DI) only [↓PR,QR,simprocAttr,↓n7c11]
 refine callK_ret (num_ret w1 _) ?_
 rintro _ V' ⟨rfl,hV'⟩
 rw [hV']
 clear hV' V'
 by_cases h0:(checkS s).2=0
 case neg =>
  have d1:((checkS s).2 == 0)=false:=by simp [h0]
  simp (disch:=try exact DI) only [↓PR,QR,simprocAttr,↓n7c10,d1]
  exact bk_role hE E1 hz
 have d1:((checkS s).2 == 0)=true:=by simp [h0]
 simp (disch:=try exact DI) only [↓PR,QR,simprocAttr,↓n7c10,d1]
 refine callK_ret (ParseSession_ret (hE.ext E1) (prints_short h0)) ?_
 rintro _ w2 ⟨⟨x,rfl,hx⟩,e2⟩
 rw [back_ses h0] at hx ⊢
 obtain ⟨rv2,rfl,hK⟩:=hx
 have hK:RolsK w2 w1.heap.size rv2 s.roles:=hK
 have f1:rv2.oneCell'=true:=SliceOf.oneCell hK.of
 have eX:Ext w2 (w2.alloc (.cells (sesCells s rv2).toArray TSes)):=ee
 have hX:(w2.alloc (.cells (sesCells s rv2).toArray TSes)).heap[w2.heap.size]?=some (.cells (sesCells s rv2).toArray TSes (0,0)):=heap_new _ _ _
 have q2:((0:Int) != 0)=false:=rfl
 simp (disch:=try exact DI) only [↓PR,QR,simprocAttr,↓n7c9,q2]
 change callK _ _ _ _ (w2.alloc (.cells (sesCells s rv2).toArray TSes)) _
 generalize (w2.alloc (.cells (sesCells s rv2).toArray TSes))=X at eX hX ⊢
 have e1X:=e2.trans eX
 have EX:=E1.trans e1X
 refine callK_ret (num_ret X _) ?_
 rintro _ V' ⟨rfl,hV'⟩
 rw [hV']
 clear hV' V'
 simp (disch:=try exact DI) only [↓PR,QR,simprocAttr,q2,↓n7c8,(cells_of_heap hX).1,(cells_of_heap (e1X.obj h41)).1]
 refine zcr (rSameSes_ret X _ _ s s ⟨rv2,rfl,hK.of.ext eX⟩ ⟨rv,rfl,hR.ext (e1.trans e1X)⟩) fun w3 e3=>?_
 have q1:decide (s=s)=true:=decide_eq_true rfl
 simp (disch:=try exact DI) only [↓PR,QR,simprocAttr,q1,q2,Bool.not_true]
 exact bk_role hE (EX.trans e3) hz
end
section
variable {w0 w:World} {p3 p16:Nat} {r y:RolD} {sv cv tv sv2 cv2 tv2:Value} {peer:ByteArray} {K3:World→Prop}
theorem bk_turn2 (h3:w.heap[p3]?=some (.cells (rolCells r sv cv tv).toArray TRol (0,0))) (h16:w.heap[p16]?=some (.cells (rolCells y sv2 cv2 tv2).toArray TRol (0,0))) (hr:RolVal w (.agg (rolCells r sv cv tv).toArray) r) (hy:RolVal w (.agg (rolCells y sv2 cv2 tv2).toArray) y) (hc:(checkR y).2=0) (hb:turnP y r.name=(r,0)) (hK:∀ w',Ext w w'→K3 w') :
 n7c16 (.pointer (some ⟨p3,0,none⟩)) (.pointer (some ⟨p16,0,none⟩)) K3 (LawR w0) w:=by
 obtain ⟨_,⟨l1,_⟩,⟨⟨_,l2⟩,_⟩,l3,_⟩:=check_parts hc
 unfold n7c16
 simp (disch:=try exact DI) only [↓PR,QR,simprocAttr,(cells_of_heap h3).1,(cells_of_heap h16).1]
 refine callK_ret (Turn_ret w _ y r.name hy (rd_sm (check_rd hc)) ⟨by omega,by omega,by omega⟩) ?_
 rintro _ w1 ⟨⟨x,rfl,hx⟩,e1⟩
 rw [hb] at hx ⊢
 obtain ⟨sv3,cv3,tv3,rfl,o1,o2,o3⟩:=hx
 have f1:=own_one o1 fun _=>rfl
 have f2:=own_one o2 fun _=>rfl
 have f3:=own_one o3 fun _=>rfl
 have eX:Ext w1 (w1.alloc (.cells (rolCells r sv3 cv3 tv3).toArray TRol)):=ee
 have hX:(w1.alloc (.cells (rolCells r sv3 cv3 tv3).toArray TRol)).heap[w1.heap.size]?=some (.cells (rolCells r sv3 cv3 tv3).toArray TRol (0,0)):=heap_new _ _ _
 simp (disch:=try exact DI) only [↓PR,QR,simprocAttr,↓n7c15]
 change callK _ _ _ _ (w1.alloc (.cells (rolCells r sv3 cv3 tv3).toArray TRol)) _
 generalize (w1.alloc (.cells (rolCells r sv3 cv3 tv3).toArray TRol))=X at eX hX ⊢
 have EX:=e1.trans eX
 refine callK_ret (num_ret X _) ?_
 rintro _ V' ⟨rfl,hV'⟩
 rw [hV']
 clear hV' V'
 have q2:((0:Int) != 0)=false:=rfl
 obtain ⟨sv',cv',tv',hv',g1,g2,g3,ov1,ov2,ov3⟩:=hr.op
 have hq1:sv.oneCell'=true∧cv.oneCell'=true∧tv.oneCell'=true:=by
  injection hv' with hv'
  injection hv' with hv'
  injection hv' with _ hv'
  injection hv' with e1 hv'
  injection hv' with e2 hv'
  injection hv' with e3 _
  subst e1 e2 e3
  exact ⟨ov1,ov2,ov3⟩
 obtain ⟨i1,i2,i3⟩:=hq1
 simp (disch:=try exact DI) only [↓PR,QR,simprocAttr,q2,↓n7c14,(cells_of_heap hX).1,(cells_of_heap (EX.obj h3)).1]
 refine zcr (rSame_ret X _ _ r r (RolOwn.val (base:=0) ⟨sv3,cv3,tv3,rfl,(o1.ext eX).base (Nat.zero_le _),(o2.ext eX).base (Nat.zero_le _),(o3.ext eX).base (Nat.zero_le _)⟩) (hr.ext EX)) fun w3 e3=>?_
 have q1:decide (r=r)=true:=decide_eq_true rfl
 simp (disch:=try exact DI) only [↓PR,QR,simprocAttr,q1,q2,Bool.not_true]
 exact hK w3 (EX.trans e3)
theorem bk_loops (h3:w.heap[p3]?=some (.cells (rolCells r sv cv tv).toArray TRol (0,0))) (hS:StasOf w sv r.states) (hC:CntsOf w cv r.counters) (hT:StpsOf w tv r.steps) (hc:(checkR r).2=0) (hK:∀ w',Ext w w'→K3 w') :
 drawK w fun C13 w=>n7c23 (.pointer (some ⟨p3,0,none⟩)) C13 K3 (LawR w0) w:=by
 obtain ⟨_,⟨l1,_⟩,⟨⟨_,l2⟩,_⟩,l3,_⟩:=check_parts hc
 have i1:=SliceOf.oneCell hS
 have i2:=SliceOf.oneCell hC
 have i3:=SliceOf.oneCell hT
 obtain ⟨A1,c1,rfl,_,_,_,hel1⟩:=SliceOf.open hS
 obtain ⟨A3,c3,rfl,_,_,_,hel3⟩:=SliceOf.open hT
 refine drawK_intro ?_
 have eD:Ext w (Sw.drew w):=(Ext.refl w).drew
 generalize Sw.drew w=D at eD ⊢
 unfold n7c23
 simp (disch:=try exact DI) only [↓PR,QR,simprocAttr,(cells_of_heap (eD.obj h3)).1]
 refine loop3_intro (fun a b i w'=>∃ (t:ByteArray) (q:Bool) (k:Nat),a = .string t∧b = .bool q∧i = .int .i64 k∧k≤r.steps.length∧Ext w w'∧(q=true→∀ (j:Nat) y,j < k→r.steps[j]?=some y→y.kind≠3)) (fun _ _ i _=>r.steps.length - (intOf i).toNat) ⟨_,_,0,rfl,rfl,rfl,by omega,eD,fun _ j y h=>by omega⟩ ?_
 clear eD
 rintro _ _ _ w1 ⟨t,q,k,rfl,rfl,rfl,hk,e,hI⟩
 have h31:=e.obj h3
 unfold n7c22
 by_cases hlt:k < r.steps.length
 · obtain ⟨x,hx⟩:=getElem?_lt hlt
   obtain ⟨b,o,cs,rfl,_,hA,rfl⟩:=hel3 k x hx
   have dk:(k:Int) < (r.steps.length:Int):=by omega
   have d1:decide ((k:Int) < (r.steps.length:Int))=true:=decide_eq_true dk
   have hw:IntKind.i64.wrap ((k:Int)+1)=((k+1:Nat):Int):=by rw [wrap_ok (by omega) (by omega)];omega
   have tail:∀ (t':ByteArray) (nx:Value→Value→Value→World→Prop),(∀ q':Bool,(q'=true→q=true∧x.kind≠3)→nx (.string t') (.bool q') (.int .i64 ((k+1:Nat):Int)) w1)→n7c12 (.pointer (some ⟨p3,0,none⟩)) (.string t') (.bool q) (.int .i64 (k:Int)) nx (LawR w0) w1:=by
    intro t' nx hn
    unfold n7c12
    cases q with
    | false =>
     simp (disch:=try exact DI) only [↓PR,QR,simprocAttr,hw]
     exact hn false fun h=>by cases h
    | true =>
     simp (disch:=try exact DI) only [↓PR,QR,simprocAttr,(cells_of_heap h31).1,dk,hA.c9 e,hw]
     exact hn _ fun h=>⟨rfl,by simpa using h⟩
   have fin:∀ t' q',(q'=true→q=true∧x.kind≠3)→(∃ (t:ByteArray) (q:Bool) (k':Nat),(Value.string t') = .string t∧(Value.bool q') = .bool q∧(Value.int .i64 ((k+1:Nat):Int)) = .int .i64 k'∧k'≤r.steps.length∧Ext w w1∧(q=true→∀ (j:Nat) y,j < k'→r.steps[j]?=some y→y.kind≠3))∧r.steps.length - (intOf (.int .i64 ((k+1:Nat):Int))).toNat < r.steps.length - (intOf (.int .i64 (k:Int))).toNat:=by
    intro t' q' hq
    refine ⟨⟨t',q',k+1,rfl,rfl,rfl,by omega,e,fun h j y hj hy=>?_⟩,meas_lt (kd := .i64) hlt⟩
    by_cases hjk:j=k
    · subst hjk
      rw [hx] at hy
      injection hy with hy
      subst hy
      exact (hq h).2
    · exact hI (hq h).1 j y (by omega) hy
   cases hpe:decide (x.peer=⟨#[]⟩) with
   | true =>
    simp (disch:=try exact DI) only [↓PR,QR,simprocAttr,(cells_of_heap h31).1,d1,dk,↓n7c21,hA.c9 e,hpe]
    exact tail _ _ fun q' hq=>fin _ q' hq
   | false =>
    simp (disch:=try exact DI) only [↓PR,QR,simprocAttr,(cells_of_heap h31).1,d1,dk,↓n7c21,hA.c9 e,hpe,↓n7c13]
    exact tail _ _ fun q' hq=>fin _ q' hq
 · obtain rfl:k=r.steps.length:=by omega
   have d1:decide ((r.steps.length:Int) < (r.steps.length:Int))=false:=decide_eq_false (by omega)
   have hI:q=true→∀ x∈r.steps,x.kind≠3:=fun h x hx=>by
    obtain ⟨j,hj⟩:=List.getElem?_of_mem hx
    exact hI h j x (List.getElem?_eq_some_iff.1 hj).1 hj
   simp (disch:=try exact DI) only [↓PR,QR,simprocAttr,(cells_of_heap h31).1,d1]
   clear hlt d1 hk
   refine loop2_intro (fun b i w'=>∃ (q:Bool) (k:Nat),b = .bool q∧i = .int .i64 k∧k≤r.states.length∧Ext w w'∧(q=true→(∀ x∈r.steps,x.kind≠3)∧∀ (j:Nat) y,j < k→r.states[j]?=some y→y.wait=0)) (fun _ i _=>r.states.length - (intOf i).toNat) ⟨q,0,rfl,rfl,by omega,e,fun h=>⟨hI h,fun j y h=>by omega⟩⟩ ?_
   rintro _ _ w1 ⟨q,k,rfl,rfl,hk,e,hI⟩
   have h31:=e.obj h3
   unfold n7c20
   by_cases hlt:k < r.states.length
   · obtain ⟨x,hx⟩:=getElem?_lt hlt
     obtain ⟨b,o,cs,rfl,_,hA,rfl⟩:=hel1 k x hx
     have dk:(k:Int) < (r.states.length:Int):=by omega
     have d1:decide ((k:Int) < (r.states.length:Int))=true:=decide_eq_true dk
     have hw:IntKind.i64.wrap ((k:Int)+1)=((k+1:Nat):Int):=by rw [wrap_ok (by omega) (by omega)];omega
     cases q with
     | false =>
      simp (disch:=try exact DI) only [↓PR,QR,simprocAttr,(cells_of_heap h31).1,d1,↓n7c19,hw]
      exact ⟨⟨false,k+1,rfl,rfl,by omega,e,fun h=>by cases h⟩,meas_lt (kd := .i64) hlt⟩
     | true =>
      simp (disch:=try exact DI) only [↓PR,QR,simprocAttr,(cells_of_heap h31).1,d1,dk,↓n7c19,hA.c3 e,hw]
      refine ⟨⟨_,k+1,rfl,rfl,by omega,e,fun h=>⟨(hI rfl).1,fun j y hj hy=>?_⟩⟩,meas_lt (kd := .i64) hlt⟩
      by_cases hjk:j=k
      · subst hjk
        rw [hx] at hy
        injection hy with hy
        subst hy
        simpa using h
      · exact (hI rfl).2 j y (by omega) hy
   · obtain rfl:k=r.states.length:=by omega
     have d1:decide ((r.states.length:Int) < (r.states.length:Int))=false:=decide_eq_false (by omega)
     have hv:RolVal w1 (.agg (rolCells r (.slice A1 r.states.length c1) cv (.slice A3 r.steps.length c3)).toArray) r:=⟨_,_,_,rfl,hS.ext e,hC.ext e,hT.ext e⟩
     simp (disch:=try exact DI) only [↓PR,QR,simprocAttr,(cells_of_heap h31).1,d1]
     refine callK_ret (Turn_ret w1 _ r t hv (rd_sm (check_rd hc)) ⟨by omega,by omega,by omega⟩) ?_
     rintro _ w2 ⟨⟨x,rfl,hx⟩,e2⟩
     obtain ⟨sv3,cv3,tv3,rfl,o1,o2,o3⟩:=hx
     have f1:=own_one o1 fun _=>rfl
     have f2:=own_one o2 fun _=>rfl
     have f3:=own_one o3 fun _=>rfl
     have E2:=e.trans e2
     cases hy:turnP r t with
     | mk y n =>
     rw [hy] at o1 o2 o3
     simp only at o1 o2 o3 ⊢
     have eX:Ext w2 (w2.alloc (.cells (rolCells y sv3 cv3 tv3).toArray TRol)):=ee
     have hX:(w2.alloc (.cells (rolCells y sv3 cv3 tv3).toArray TRol)).heap[w2.heap.size]?=some (.cells (rolCells y sv3 cv3 tv3).toArray TRol (0,0)):=heap_new _ _ _
     simp (disch:=try exact DI) only [↓PR,QR,simprocAttr,↓n7c18]
     change callK _ _ _ _ (w2.alloc (.cells (rolCells y sv3 cv3 tv3).toArray TRol)) _
     generalize (w2.alloc (.cells (rolCells y sv3 cv3 tv3).toArray TRol))=X at eX hX ⊢
     have EX:=E2.trans eX
     refine callK_ret (num_ret X _) ?_
     rintro _ V' ⟨rfl,hV'⟩
     rw [hV']
     clear hV' V'
     by_cases h0:n=0
     case neg =>
      have d2:(n == 0)=false:=by simp [h0]
      simp (disch:=try exact DI) only [↓PR,QR,simprocAttr,↓n7c17,d2]
      exact hK X EX
     subst h0
     have d2:((0:Int) == 0)=true:=rfl
     cases q with
     | false =>
      simp (disch:=try exact DI) only [↓PR,QR,simprocAttr,↓n7c17,d2]
      exact hK X EX
     | true =>
      obtain ⟨hk3,hw0⟩:=hI rfl
      obtain ⟨tb,tc⟩:=turn_back hc hk3 (fun x hx=>by
       obtain ⟨j,hj⟩:=List.getElem?_of_mem hx
       exact hw0 j x (List.getElem?_eq_some_iff.1 hj).1 hj) hy
      simp (disch:=try exact DI) only [↓PR,QR,simprocAttr,↓n7c17,d2]
      exact bk_turn2 (EX.obj h3) hX (RolVal.ext ⟨_,_,_,rfl,hS,hC,hT⟩ EX) (RolOwn.val (base:=0) ⟨sv3,cv3,tv3,rfl,(o1.ext eX).base (Nat.zero_le _),(o2.ext eX).base (Nat.zero_le _),(o3.ext eX).base (Nat.zero_le _)⟩) tc tb fun w' e'=>hK w' (EX.trans e')
end
theorem RoleBack_ret (w0:World) (v:Value) (r:RolD) (v1:Value) (s:SesD) (text:ByteArray) (hr:RolVal w0 v r) (hi:RolIn r) (hs:SesVal w0 v1 s) (hj:SesIn s) (hE:EnvOK w0):Ret Pg 8 #[v,v1,.string text] w0 fun u w'=>u = .bool true∧Ext w0 w':=by
 obtain ⟨sv,cv,tv,rfl,hS,hC,hT,o1,o2,o3⟩:=hr.op
 obtain ⟨rv,rfl,hR⟩:=hs
 have o4:=SliceOf.oneCell hR
 refine n7s (R:=retR _) ?_;unfold n7
 rw [op_boxA,op_boxA]
 have h3a:=heap_new w0 (rolCells r sv cv tv).toArray TRol
 have eA:Ext w0 (w0.alloc (.cells (rolCells r sv cv tv).toArray TRol)):=ee
 generalize (w0.alloc (.cells (rolCells r sv cv tv).toArray TRol))=A at h3a eA ⊢
 have h4:=heap_new A (sesCells s rv).toArray TSes
 have eB:Ext A (A.alloc (.cells (sesCells s rv).toArray TSes)):=ee
 have h3:=eB.obj h3a
 generalize (A.alloc (.cells (sesCells s rv).toArray TSes))=W at h3 h4 eB ⊢
 have eW:=eA.trans eB
 generalize w0.heap.size=p3 at h3 ⊢
 generalize A.heap.size=p4 at h4 ⊢
 have hV:∀ w,Ext W w→RolVal w (.agg (rolCells r sv cv tv).toArray) r:=fun w e=>⟨_,_,_,rfl,hS.ext (eW.trans e),hC.ext (eW.trans e),hT.ext (eW.trans e)⟩
 have E0:=Ext.refl W
 simp (disch:=try exact DI) only [↓PR,QR,simprocAttr,(cells_of_heap h3).1]
 refine callK_ret (large_ret W _ r (hV W E0)) ?_
 rintro _ w1 ⟨e1,b,rfl,hb⟩
 have E1:=eW.trans e1
 cases b with
 | true =>
  simp (disch:=try exact DI) only [↓PR,QR,simprocAttr,↓n7c30,↓n7c29,↓n7c28]
  exact ses_known hE E1
 | false =>
 have hF:=hb rfl
 simp (disch:=try exact DI) only [↓PR,QR,simprocAttr,↓n7c30,(cells_of_heap (e1.obj h4)).1]
 refine callK_ret (sesMany_ret w1 _ s ⟨rv,rfl,hR.ext E1⟩) ?_
 rintro _ w2 ⟨e2,b,rfl,hb2⟩
 have e02:=e1.trans e2
 have E2:=eW.trans e02
 cases b with
 | true =>
  simp (disch:=try exact DI) only [↓PR,QR,simprocAttr,↓n7c29,↓n7c28]
  exact ses_known hE E2
 | false =>
 have hG:=hb2 rfl
 by_cases htx:3000 < text.size
 · have d1:decide ((text.size:Int) > 3000)=true:=decide_eq_true (by omega)
   simp (disch:=try exact DI) only [↓PR,QR,simprocAttr,↓n7c29,d1,↓n7c28]
   exact ses_known hE E2
 have d1:decide ((text.size:Int) > 3000)=false:=decide_eq_false (by omega)
 have hK:∀ w,Ext W w→callK Pg 28 #[.agg (sesCells s rv).toArray] (panK (LawR w0)) w fun t154 w=>n7c11 (.string text) (.pointer (some ⟨p4,0,none⟩)) t154 (LawR w0) w:=fun w e=>bk_print hE (eW.trans e) (by omega) (e.obj h4) (hR.ext (eW.trans e)) (fun r hr=>(hG.rs r hr).ok (hj.1 r hr)) hG.n
 have hK3:∀ w,Ext W w→opV Pg (Instr.loadAt TSes (.pointer (some ⟨p4,0,none⟩))) (panK (LawR w0)) w fun t153 w=>callK Pg 28 #[t153] (panK (LawR w0)) w fun t154 w=>n7c11 (.string text) (.pointer (some ⟨p4,0,none⟩)) t154 (LawR w0) w:=fun w e=>by
  simp (disch:=try exact DI) only [↓PR,QR,simprocAttr,(cells_of_heap (e.obj h4)).1]
  exact hK w e
 simp (disch:=try exact DI) only [↓PR,QR,simprocAttr,↓n7c29,d1,↓n7c28,(cells_of_heap (e02.obj h3)).1]
 refine zcr (Print_ret w2 _ r (hV w2 e02) (hF.ok hi) (hE.tab.ext E2)) fun w3 e3=>?_
 have e03:=e02.trans e3
 simp (disch:=try exact DI) only [↓PR,QR,simprocAttr,↓n7c27]
 refine callK_ret (num_ret w3 _) ?_
 rintro _ V' ⟨rfl,hV'⟩
 rw [hV']
 clear hV' V'
 unfold n7c26
 by_cases h0:(checkR r).2=0
 case neg =>
  have d2:((checkR r).2 == 0)=false:=by simp [h0]
  simp (disch:=try exact DI) only [↓PR,QR,simprocAttr,d2,(cells_of_heap (e03.obj h4)).1]
  exact hK w3 e03
 have d2:((checkR r).2 == 0)=true:=by simp [h0]
 simp (disch:=try exact DI) only [↓PR,QR,simprocAttr,d2]
 refine callK_ret (Parse_ret (hE.ext (eW.trans e03)) (print_short h0)) ?_
 rintro _ w4 ⟨⟨x,rfl,hx⟩,e4⟩
 rw [back_role h0] at hx ⊢
 obtain ⟨sv3,cv3,tv3,rfl,g1,g2,g3⟩:=hx
 have f1:=own_one g1 fun _=>rfl
 have f2:=own_one g2 fun _=>rfl
 have f3:=own_one g3 fun _=>rfl
 have eX:Ext w4 (w4.alloc (.cells (rolCells r sv3 cv3 tv3).toArray TRol)):=ee
 have hX:(w4.alloc (.cells (rolCells r sv3 cv3 tv3).toArray TRol)).heap[w4.heap.size]?=some (.cells (rolCells r sv3 cv3 tv3).toArray TRol (0,0)):=heap_new _ _ _
 have q2:((0:Int) != 0)=false:=rfl
 simp (disch:=try exact DI) only [↓PR,QR,simprocAttr,↓n7c25,q2]
 change callK _ _ _ _ (w4.alloc (.cells (rolCells r sv3 cv3 tv3).toArray TRol)) _
 generalize (w4.alloc (.cells (rolCells r sv3 cv3 tv3).toArray TRol))=X at eX hX ⊢
 have eX3:=(e03.trans e4).trans eX
 refine callK_ret (num_ret X _) ?_
 rintro _ V' ⟨rfl,hV'⟩
 rw [hV']
 clear hV' V'
 simp (disch:=try exact DI) only [↓PR,QR,simprocAttr,q2,↓n7c24,(cells_of_heap hX).1,(cells_of_heap (eX3.obj h3)).1]
 refine zcr (rSame_ret X _ _ r r (RolOwn.val (base:=0) ⟨sv3,cv3,tv3,rfl,(g1.ext eX).base (Nat.zero_le _),(g2.ext eX).base (Nat.zero_le _),(g3.ext eX).base (Nat.zero_le _)⟩) (hV X eX3)) fun w5 e5=>?_
 have e05:=eX3.trans e5
 have E5:=eW.trans e05
 have q1:decide (r=r)=true:=decide_eq_true rfl
 simp (disch:=try exact DI) only [↓PR,QR,simprocAttr,q1,q2,Bool.not_true]
 exact bk_loops (e05.obj h3) (hS.ext E5) (hC.ext E5) (hT.ext E5) h0 fun w' e'=>hK3 w' (e05.trans e')
end Go.Proofs.YtngflmjncplkaaaGreatDoor
namespace Go.Proofs.YtngflmjncplkaaaGreatDoor
open Sw
open Go.RowKit Go.Deep
def role_laid:List (String×DataW Unit):=[("math/bits.deBruijn32tab", Rows.laid_math_bits_deBruijn32tab),("math/bits.deBruijn64tab", Rows.laid_math_bits_deBruijn64tab),("internal/strconv.uint64pow10", Rows.laid_internal_strconv_uint64pow10),("unicode/utf8.acceptRanges", Rows.laid_unicode_utf8_acceptRanges),("strconv.ErrRange", Rows.laid_strconv_ErrRange),("strconv.ErrSyntax", Rows.laid_strconv_ErrSyntax),("unicode/utf8.first", Rows.laid_unicode_utf8_first)]
theorem role_own:ownKnob Pg.godebug=none:=by kernel_rfl
theorem role_laidOut:laidOutB Pg=true:=by kernel_rfl
theorem role_met (os:Os) (args:Array Value):laidMetH Pg role_laid ((World.laidAll Pg os role_laid).forCall (fun _ _=>0) ⟨#[],args,[]⟩).memory:=by
 rw [MakeChecks.laidMetH_plain _ _ _ (by kernel_rfl)]
 exact laidMet_laidAll _ (by kernel_rfl) (by kernel_rfl)
theorem role_tab {W:World} (h:laidMetH Pg role_laid W):TabOK W:=by
 rw [MakeChecks.laidMetH_plain _ _ _ (by kernel_rfl)] at h
 have h3:=laidMet.tail (laidMet.tail h)
 have he:(Rows.laid_internal_strconv_uint64pow10:DataW Unit)=Go.Lib.tabData .u64 Go.Lib.pow10Tab:=by kernel_rfl
 rw [he] at h3
 obtain ⟨g,hg⟩:=Option.isSome_iff_exists.1 gPow
 have hty:(Pg.globals[g]?).map (·.type)=some 197:=by
  have h1:(Pg.globalNamed "internal/strconv.uint64pow10").bind (fun g=>(Pg.globals[g]?).map (·.type))=some 197:=by kernel_rfl
  rw [hg] at h1
  exact h1
 exact Go.Lib.tabIs_of_head hg hty Tryz.underlying197 Tryz.underlying161 (by kernel_rfl) (by kernel_rfl) h3
theorem role_star : "*" ++ "errors.errorString" = "*errors.errorString" := by decide
theorem role_rowErr (u:TypeId) (h:Pg.typeName? 3 u=some "*errors.errorString"):u=200 :=
 typeName_ptr_named (nm := "errors.errorString") (by rw [role_star];kernel_rfl) (by kernel_rfl) (by decide) u (by rw [role_star];exact h)
theorem role_env {W:World} (hs:W.ShapedOpen Pg) (h:laidMetH Pg role_laid W):EnvOK W:=by
 refine ⟨role_tab h,Go.Proofs.cell_of_shapedOpen_int (k := .i64) hs (of_decide_eq_true (by kernel_rfl)) (zero := #[.int .i64 0]) (t:=3) (by kernel_rfl) rfl (by kernel_rfl) (by kernel_rfl) Tryz.underlying3,?_,?_⟩
 · rw [MakeChecks.laidMetH_plain _ _ _ (by kernel_rfl)] at h
   have h5:=h.tail.tail.tail.tail.tail
   obtain ⟨a,s,hv,_⟩:=laid_sentinel (g:=1) h5 (by kernel_rfl) (by kernel_rfl) Tryz.underlying130 role_rowErr Tryz.underlying200 Tryz.underlying202 rfl rfl Tryz.underlying9 (by kernel_rfl) (by kernel_rfl)
   refine ⟨_,by rw [World.var?_cell (show Pg.globalNamed "strconv.ErrSyntax" = some 1 by kernel_rfl) hv 0];rfl,.inr ⟨_,_,rfl⟩⟩
 · rw [MakeChecks.laidMetH_plain _ _ _ (by kernel_rfl)] at h
   have h5:=h.tail.tail.tail.tail
   obtain ⟨a,s,hv,_⟩:=laid_sentinel (g:=2) h5 (by kernel_rfl) (by kernel_rfl) Tryz.underlying130 role_rowErr Tryz.underlying200 Tryz.underlying202 rfl rfl Tryz.underlying9 (by kernel_rfl) (by kernel_rfl)
   refine ⟨_,by rw [World.var?_cell (show Pg.globalNamed "strconv.ErrRange" = some 2 by kernel_rfl) hv 0];rfl,.inr ⟨_,_,rfl⟩⟩
theorem handed_and {H:Type} {enc:TypeId×Value→H} {a:Assume} {C:Checked} {os:Os} {f:FuncId} {fn:Func} {s:ChangeSpec} {conds:List PathCond} {apart fresh handsOn again:Bool} {X:World→Array Value→Prop}
 (hX:∀ (w w':World) (args:Array Value),w.heap=w'.heap→X w args→X w' args)
 (own:ownKnob C.prog.godebug=none) (started:os.Started) (noInit:C.prog.inits.idxOf? f=none) (hfn:C.prog.funcs[f]?=some fn)
 (witness:∃ (w:World) (tape:Tape) (i:Input),w.os=os∧(w.forCall tape i).Shaped C.prog∧i.vars=[]∧Input.okWide C.prog (w.forCall tape i) .any w.heap.size f i ∧
  ((s.pre enc C.prog fn conds apart (w.forCall tape i).memory i.args∧X (w.forCall tape i).memory i.args)∧sizedMet enc C.prog fn (OpenSpec.ofChange s) apart (w.forCall tape i).memory i.args)∧a.holds C.prog (lone (Frame.enter C.prog f i.args .normal) [] (w.forCall tape i)))
 (contract:∀ (W:World) (base:Nat) (args:Array Value) (ds gs:List (DataW H)) (before:List MemPlace),
  (∀ (j:Nat) t v,fn.params[j]?=some t→args[j]?=some v→Value.okWide C.prog W .any base t v) →
  DataW.Whole enc C.prog fn.params.toList s.vars apart W args.toList ds gs before →
  conds.all (PathCond.test C.prog ⟨fn.params.toList,ds,s.plain.varTypes C.prog,gs⟩)=true →
  (DataW.weightsEach C.prog (fn.params.toList++s.plain.varTypes C.prog) (ds++gs)).all (· ≤ reachBytes)=true→X W args→W.ShapedOpen C.prog →
  a.holds C.prog (lone (Frame.enter C.prog f args .normal) [] W) →
  Calls C.prog f args W fun e W'=>∃ v,e = .returned v∧s.post enc C.prog fn apart fresh handsOn again W args v W') :
 ReturnsInHanded a C os f .any (fun w args=>(s.pre enc C.prog fn conds apart w args∧X w args)∧sizedMet enc C.prog fn (OpenSpec.ofChange s) apart w args) (s.post enc C.prog fn apart fresh handsOn again):=by
 refine returnsInHanded_of_calls own started noInit witness ?_
 intro w tape i _ hsh _ hok hpre hholds
 obtain ⟨_,_,_,fn',hfn',_,_,_,_,hval⟩:=hok
 have e:fn'=fn:=Option.some.inj (hfn'.symm.trans hfn)
 subst e
 obtain ⟨⟨⟨ds,gs,before,hw,hc⟩,hx⟩,hz⟩:=hpre
 have hw':=DataW.Whole.of_heap (w':=w.forCall tape i) (by rfl) hw
 refine (contract (w.forCall tape i) w.heap.size i.args ds gs before hval hw' hc (hz.weights hw) (hX _ _ _ (by rfl) hx) hsh hholds).mono fun e W' ⟨v,he,hp⟩=>?_
 subst he
 exact ChangeSpec.post_blind hp
end Go.Proofs.YtngflmjncplkaaaGreatDoor
namespace Go.Proofs.YtngflmjncplkaaaGreatDoor
open Sw
open Go.ChangeShapes Go.WideShapes Go.RowKit Go.ChangeAt Go.Deep
theorem rback_lifted (os:Os) (started:os.Started) (H:Type) (enc:TypeId×Value→H) :
 ReturnsInHanded {} Tryz.checked os 8 .any (fun w args=>(Rows.roleBackSpec.pre enc Pg Tryz.f8 Rows.roleBackRow.domain false w args∧laidMetH Pg role_laid w)∧sizedMet enc Pg Tryz.f8 (OpenSpec.ofChange Rows.roleBackSpec) false w args) (Rows.roleBackSpec.post enc Pg Tryz.f8 false true false false):=by
 refine handed_and (C:=Tryz.checked) (X:=fun w _=>laidMetH Pg role_laid w) (fun _ _ _ hh h=>h.of_heap hh) role_own started (by kernel_rfl) Tryz.func8
  (ChangeSpec.witness_shaped (enc:=enc) (C:=Tryz.checked) (os:=os) (X:=fun w _=>laidMetH Pg role_laid w) false (World.laidAll Pg os role_laid) #[.agg #[.string ByteArray.empty,.slice none 0 0,.slice none 0 0,.slice none 0 0],.agg #[.string ByteArray.empty,.slice none 0 0,.int .i64 0,.int .i64 0],.string ByteArray.empty] 8 (World.laidAll_os _ _ _) (World.shaped_of_ZipB (by kernel_rfl) (by kernel_rfl)) (by kernel_rfl) (by kernel_rfl) (by kernel_rfl) (role_met os _)) ?_
 intro W base args ds gs before hval hW _ hsz hL hsh _
 have hW':=hW
 obtain ⟨p,q,hA0,hV,rfl,_,_⟩:=hW
 have hA:DataW.TrodAll enc Pg W 0 (fun _=>true) true Tryz.f8.params.toList args.toList ds p:=hA0
 rw [Tryz.params8] at hA hval hsz
 obtain ⟨v0,vs0,d0,ds0,p0,q0,ha0,rfl,rfl,h0,r0⟩:=trodAll_cons hA
 obtain ⟨v1,vs1,d1,ds1,p1,q1,ha1,rfl,rfl,h1,r1⟩:=trodAll_cons r0
 obtain ⟨v2,vs2,d2,ds2,p2,q2,ha2,rfl,rfl,h2,r2⟩:=trodAll_cons r1
 obtain ⟨rfl,rfl,rfl⟩:=trodAll_nil r2
 subst ha2 ha1
 obtain rfl:args = #[v0,v1,v2]:=by cases args;simp_all
 obtain ⟨f0,hf0,hs0⟩:=rol_val (hval 0 _ v0 rfl rfl) h0 (reached_of (j:=0) hsz rfl rfl)
 obtain ⟨f1,hf1,hs1⟩:=ses_val (hval 1 _ v1 rfl rfl) h1 (reached_of (j:=1) hsz rfl rfl)
 obtain ⟨s2,rfl,_⟩:=open_str Tryz.underlying9 (hval 2 _ v2 rfl rfl) h2
 refine Calls.mono (RoleBack_ret W v0 f0 v1 f1 s2 hf0 hs0 hf1 hs1 (role_env hsh hL)) fun e W' ⟨v,he,hv,hx⟩=>?_
 subst he hv
 exact ⟨_,rfl,law_post role_laidOut (by decide +kernel) rfl hW' hx rfl Tryz.underlying4 rfl rfl rfl⟩
theorem rback_holds:Rows.RoleBackSaid :=
 OpenClaim.holds_of_wide 8 Tryz.f8 rfl rfl rfl rfl rfl rfl rfl ⟨rfl,rfl,rfl,rfl,rfl⟩ rfl rfl rfl rfl rfl (by kernel_rfl) Tryz.func8 (by kernel_rfl)
  (of_decide_eq_true (by kernel_rfl)) (by unfold Func.isWrapper;first | (rw [if_pos (by decide +kernel)];kernel_rfl) | (rw [if_neg (by decide +kernel)];exact ⟨rfl,rfl⟩))
  (fun os started H enc _=>rback_lifted os started H enc)
theorem rback_card:Rows.RoleBackCardSaid :=
 Claim7.holds_tied_plain_at .later [] [.data,.data,.data,.data,.sentinel,.sentinel,.pinned] true (true, "805d62ceadf1c0eaaccbbc96f2703f3718560c4f9884483faf4dfcc0b7041b30") true
  rback_holds (fun _ h=>by cases h) (by kernel_rfl) (fun _ h=>by cases h) roleBack_row_tie rfl ⟨rfl,rfl⟩ (by kernel_rfl) rfl
  (fun f fn hf hfn=>by
   obtain rfl:f=8:=Option.some.inj ((show Pg.funcNamed "phrasebook/phrasebooklaw28.RoleBack" = some 8 by kernel_rfl).symm.trans hf) |>.symm
   obtain rfl:fn=Tryz.f8:=(Option.some.inj (Tryz.func8.symm.trans hfn)).symm
   exact ⟨by kernel_rfl,fun j t ht=>by
    rw [Tryz.params8] at ht
    have hm:t∈[26,57,9]:=by simpa using Array.mem_of_getElem? ht
    have hall:([26,57,9].all fun u=>!Pg.wantsStandIn u)=true:=by kernel_rfl
    exact (show Pg.wantsStandIn t=false by simpa using List.all_eq_true.1 hall t hm)⟩)
  (by kernel_rfl)
end Go.Proofs.YtngflmjncplkaaaGreatDoor
