/-
  Lemmas for the claim.
-/
import Derived.Test.YtgalpdihjbinjaaGreatDoorXg4
set_option linter.all false
set_option maxHeartbeats 40000000
set_option maxRecDepth 100000
open Go.Instr (loadAt storeAt fieldAt indexAt buildSlice mapUpdate makeFunc alloc build box extract fill sliceAt lookup makeInterface)
open Go.Proofs.Tryz
namespace Go.Proofs.YtgalpdihjbinjaaGreatDoor
open Sw
open Go.RowKit (intOf Below)
def Vn (deps:List (BAr×Int)) (m:Yh):List (BAr×Int):=deps++[(m.name,Q1 deps m+1)]
def VQ (strs:List (BAr×Bool)) (m:Yh):List (BAr×Bool):=strs++[(m.name,UH strs m)]
def ZY (l:List Yh):List (BAr×Int):=l.foldl Vn []
def Yt (l:List Yh):List (BAr×Bool):=l.foldl VQ []
def Q5 (deps:List (BAr×Int)) (strs:List (BAr×Bool)) (at_:Nat):List Yh→Int×Int×Int
 | []=>(0,0,0)
 | m::l=>if (QW deps strs m).2=0 then Q5 (Vn deps m) (VQ strs m) (at_+1) l else (at_,QW deps strs m)
def Il (d:Xc) (r:Int×Int×Int):Int×Int×Int:=if r.2.2=0 then (if (ZM (ZY d.msgs) d.start).isSome then (0,0,0) else (-1,-1,11)) else r
def Xe (d:Xc):Int×Int×Int:=
 if YZ d.name then (if 1≤d.msgs.length∧d.msgs.length≤60 then Il d (Q5 [] [] 0 d.msgs) else (-1,-1,3)) else (-1,-1,1)
def Ow {deps:List (BAr×Int)} {m:Yh} {r:Int×Int} (h:(Uo deps m r).2=0):Q1 deps m < 16:=by
 unfold Uo at h
 split at h
 · split at h
   · assumption
   · exact absurd h K7
 · contradiction
def De {deps:List (BAr×Int)} {strs:List (BAr×Bool)} {m:Yh} (h:(QW deps strs m).2=0):Q1 deps m < 16:=by
 unfold QW at h
 split at h
 · split at h
   · exact absurd h K7
   · split at h
     · exact Ow h
     · exact absurd h K7
 · exact absurd h K7
def Low.step {deps:List (BAr×Int)} {strs:List (BAr×Bool)} {m:Yh} (hl:Low deps) (h:(QW deps strs m).2=0):Low (Vn deps m):=by
 intro p hp
 rcases List.mem_append.1 hp with hp | hp
 · exact hl p hp
 · simp only [List.mem_singleton] at hp
   subst hp
   have h1:=De h
   have h2:=(Kl (λ s=>(ZM deps s).getD 0) (Dl m) 0 K7 (λ s _=>hl.get s) K7).1
   exact ⟨by show 0≤Q1 deps m+1;unfold Q1;omega,by show Q1 deps m+1≤16;omega⟩
abbrev UM (p3 p4:Nat):Deferred:={ target := .fn (.func 134) #[Qq4 p3,Qq4 p4],args := #[] }
def Nv {p3 p4:Nat} {w:Wd} {k:FrameMode→Wd→Prop} (h:k .returning w):jv Pg [UM p3 p4] .returning w k:=by
 refine ⟨by simp,.inr ⟨.func 134,_,134,#[Qq4 p3,Qq4 p4],rfl,?_,?_⟩⟩
 · exact QD Zfj _ w
 · refine Zbw ?_
   unfold ZaS
   show opV _ (ZP .neq _ true .nilIface .nilIface) _ _ _
   rw [Ui underlying20]
   refine Qqk ?_
   exact h
def Nu {p3 p4:Nat} {w:Wd} {k:FrameMode→Wd→Prop} {a f c:Int} {x0 x1 x2 y:Vl} (o3:w.heap[p3]?=some (.cells #[x0,x1,x2] 131 (0,0))) (o4:w.heap[p4]?=some (.cells #[y] 4 (0,0)))
 (h:k .returning ((((w.setCell ⟨p3,0,none⟩ (.int .i64 a)).setCell ⟨p3,1,none⟩ (.int .i64 f)).setCell ⟨p3,2,none⟩ (.int .i64 c)).setCell ⟨p4,0,none⟩ (.bool true))):jv Pg [UM p3 p4] (.panicking [XM a f c]) w k:=by
 have Y3:p3≠p4:=by rintro rfl;rw [o3] at o4;cases o4
 refine ⟨by simp,.inr ⟨.func 134,_,134,#[Qq4 p3,Qq4 p4],rfl,?_,?_⟩⟩
 · exact QD Zfj _ w
 · refine Zbw ?_
   rw [show recM (.panicking [XM a f c])=(.iface 131 (Wj a f c),.panicking [{ v := .iface 131 (Wj a f c),recovered:=true }]) from rfl]
   unfold ZaS
   rw [Uj underlying20]
   refine Qqk ?_
   unfold PJ
   rw [EH underlying131 rfl]
   refine Qqm (Za o3).1 (Za o3).2 (Za o4).1 (Za o4).2 ?_
   exact h
section
variable {w0:Wd}
def CkE (w:Wd) (cb:Nat) (deps:List (BAr×Int)) (strs:List (BAr×Bool)):Prop:=∃ md ms dn mv ds at_ fld mn fv,w.heap[cb]?=some (.cells #[.string dn,mv,.string ds,.map (some md),.map (some ms),.int .i64 at_,.int .i64 fld,.string mn,fv] 201 (0,0))∧Y9 w md (vI deps)∧Y9 w ms (vB strs)
def CkE.other {w:Wd} {cb b o:Nat} {deps:List (BAr×Int)} {strs:List (BAr×Bool)} (h:CkE w cb deps strs) (hn:b≠cb) (v:Vl):CkE (w.setCell ⟨b,o,none⟩ v) cb deps strs:=by
 obtain ⟨md,ms,dn,mv,ds,at_,fld,mn,fv,h1,h2,h3⟩:=h
 exact ⟨md,ms,dn,mv,ds,at_,fld,mn,fv,(YT.setCell w b o v cb (λ e=>hn e.symm)).trans h1,h2.setCell _ _,h3.setCell _ _⟩
def CkO.left {a0 w:Wd} {cb md ms:Nat} {deps:List (BAr×Int)} {strs:List (BAr×Bool)} {at_ fld:Int} {fs:List Zt} (h:CkO a0 w cb md ms deps strs at_ fld fs):CkE w cb deps strs:=by
 obtain ⟨dn,mv,ds,mn,fv,h1,_⟩:=h.obj
 exact ⟨md,ms,dn,mv,ds,at_,fld,mn,fv,h1,h.mdeps,h.mstrs⟩
def qq (w0:Wd) (d:Xc) (r:Vl) (w':Wd):Prop:=Ext w0 w'∧∃ cb,r = .tuple #[Qq4 cb,Wj (Xe d).1 (Xe d).2.1 (Xe d).2.2,.bool (decide ((Xe d).2.2≠0))] ∧
 ((Xe d).2.2=0→CkE w' cb (ZY d.msgs) (Yt d.msgs))
abbrev LH (cb p3 p4:Nat):List (Option TypeId×Vl):=[(none,Qq4 cb),(some 131,Qq4 p3),(some 4,Qq4 p4)]
def Mk {w:Wd} {d:Xc} {cb p3 p4:Nat} {a f c:Int} {x0 x1 x2 y:Vl} (e:Ext w0 w) (h3:w0.heap.size≤p3) (h4:w0.heap.size≤p4) (o3:w.heap[p3]?=some (.cells #[x0,x1,x2] 131 (0,0))) (o4:w.heap[p4]?=some (.cells #[y] 4 (0,0)))
 (h:Xe d=(a,f,c)) (hc:c≠0):ZI Pg [UM p3 p4] (LH cb p3 p4) (ZR (qq w0 d)) [XM a f c] w:=by
 have Y3:p3≠p4:=by rintro rfl;rw [o3] at o4;cases o4
 unfold ZI
 refine Nu o3 o4 ?_
 have q3:=Zy (o:=2) (Zy (o:=1) (Zy (o:=0) o3 (.int .i64 a)) (.int .i64 f)) (.int .i64 c)
 have e1:Ext w0 ((((w.setCell ⟨p3,0,none⟩ (.int .i64 a)).setCell ⟨p3,1,none⟩ (.int .i64 f)).setCell ⟨p3,2,none⟩ (.int .i64 c)).setCell ⟨p4,0,none⟩ (.bool true)):=(((e.setCell h3 _).setCell h3 _).setCell h3 _).setCell h4 _
 have q4:=Zy (o:=0) ((YT.setCell ((w.setCell ⟨p3,0,none⟩ (.int .i64 a)).setCell ⟨p3,1,none⟩ (.int .i64 f)) p3 2 (.int .i64 c) p4 K9).trans ((YT.setCell (w.setCell ⟨p3,0,none⟩ (.int .i64 a)) p3 1 (.int .i64 f) p4 K9).trans ((YT.setCell w p3 0 (.int .i64 a) p4 K9).trans o4))) (.bool true)
 have q3':=(YT.setCell _ p4 0 (.bool true) p3 Y3).trans q3
 simp only [List.setIfInBounds_toArray,List.set_cons_zero,List.set_cons_succ] at q3' q4
 generalize ((((w.setCell ⟨p3,0,none⟩ (.int .i64 a)).setCell ⟨p3,1,none⟩ (.int .i64 f)).setCell ⟨p3,2,none⟩ (.int .i64 c)).setCell ⟨p4,0,none⟩ (.bool true))=W at e1 q3' q4 ⊢
 unfold endM jw Qz LH
 simp only
 refine Qqh (Za q3').1 (Za q4).1 ?_
 refine ⟨e1,cb,?_,λ h0=>?_⟩
 · rw [h];simp [hc]
 · rw [h] at h0;exact absurd h0 hc
def Pa {w:Wd} {d:Xc} {cb p3 p4:Nat} (e:Ext w0 w) (hC:CkE w cb (ZY d.msgs) (Yt d.msgs)) (o3:w.heap[p3]?=some (.cells #[.int .i64 0,.int .i64 0,.int .i64 0] 131 (0,0))) (o4:w.heap[p4]?=some (.cells #[.bool false] 4 (0,0)))
 (h:Xe d=(0,0,0)):Kz Pg [UM p3 p4] (LH cb p3 p4) (ZR (qq w0 d)) w:=by
 unfold Kz
 refine Nv ?_
 unfold endM jw Qz LH
 simp only
 refine Qqh (Za o3).1 (Za o4).1 ?_
 refine ⟨e,cb,?_,λ h0=>hC⟩
 rw [h];simp
def Nq {f:FuncId} {args:AVl} {QP:PEn} {a0 w:Wd} {k:KV} {at_:Int} {r:Int×Int} {K:WPr} (h:Calls Pg f args w (ED a0 at_ r K)) (hk:∀ w',r.2=0→K w'→k (.tuple #[]) w') (hp:∀ w',Ext a0 w'→r.2≠0→QP [XM at_ r.1 r.2] w'):Yb Pg f args QP w k:=
 Uv h (λ v w' h=>by rcases h with ⟨e,⟨h1,h2,h3⟩ | ⟨_,h2⟩⟩<;>cases h2;exact hk w' h1 h3) (λ ch w' h=>by rcases h with ⟨e,⟨_,h2,_⟩ | ⟨h1,h2⟩⟩<;>cases h2;exact hp w' e h1) (λ w' h=>by rcases h with ⟨_,⟨_,h2,_⟩ | ⟨_,h2⟩⟩<;>cases h2)
def Ao {α β:Type} (g:β→α→β) {l:List α} {k:Nat} {x:α} (b:β) (hx:l[k]?=some x):(l.take (k+1)).foldl g b=g ((l.take k).foldl g b) x:=by rw [Yw hx,List.foldl_append];rfl
def Pb {A0 w:Wd} {d:Xc} {cb p1 p3 p4 md ms:Nat} {fs:List Zt} {mv:Vl} (ea:Ext w0 A0) (hM:Va A0 mv d.msgs) (hC:CkO A0 w cb md ms [] [] (-1) (-1) fs) (o1:A0.heap[p1]?=some (.cells (ZO d mv).toArray 27 (0,0)))
 (o3:A0.heap[p3]?=some (.cells #[.int .i64 0,.int .i64 0,.int .i64 0] 131 (0,0))) (o4:A0.heap[p4]?=some (.cells #[.bool false] 4 (0,0))) (h3:w0.heap.size≤p3) (h4:w0.heap.size≤p4) (hr:Xe d=Il d (Q5 [] [] 0 d.msgs)) :
 zd (Qq4 p1) (Qq4 p3) (Qq4 p4) (Qq4 cb) [UM p3 p4] (ZR (qq w0 d)) w:=by
 have pan:∀ w' a f c,Ext A0 w'→Xe d=(a,f,c)→c≠0→ZI Pg [UM p3 p4] (LH cb p3 p4) (ZR (qq w0 d)) [XM a f c] w':=λ w' a f c e h h0=>Mk (ea.trans e) h3 h4 (e.obj o3) (e.obj o4) h h0
 obtain ⟨A,c,rfl,hlc,hcm,hlm,YS⟩:=Ze.open hM
 unfold zd
 refine Qqg (Za (hC.ext.obj o1)).1 ?_
 refine ZE (λ i w'=>∃ (k:Nat) (at':Int) (fs':List Zt),i = .int .i64 k∧k≤d.msgs.length∧CkO A0 w' cb md ms (ZY (d.msgs.take k)) (Yt (d.msgs.take k)) at' (-1) fs'∧Low (ZY (d.msgs.take k))∧Xe d=Il d (Q5 (ZY (d.msgs.take k)) (Yt (d.msgs.take k)) k (d.msgs.drop k))) (λ i _=>d.msgs.length - (intOf i).toNat) ⟨0,-1,fs,rfl,by omega,hC,(λ _ h=>by cases h),hr⟩ ?_
 rintro i w' ⟨k,at',fs',rfl,hk,hC',hlow,hrk⟩
 have lw':=hC'.ext.size
 obtain ⟨dn,mv,ds,mn,fv',x1,x2⟩:=hC'.obj
 obtain ⟨n1,n2,l1,l2,l3⟩:=hC'.nd
 rcases ZH hk with ⟨x,hx,hd,Ym,ZK⟩ | ⟨hk,hd,ZK⟩
 · obtain ⟨b,o,cs,rfl,hl,hA,fv,rfl,hF⟩:=YS k x hx
   have hf1:=Ze.oneCell hF
   rw [hd] at hrk
   simp only [Q5] at hrk
   unfold xB
   refine Qqg ZK ?_
   unfold AK
   refine Qqm (hA.c2 hC'.ext).1 (hA.c2 hC'.ext).2 (Za x1).1 (Za x1).2 ?_
   have hCw:=(hC'.setAt (k:Int)).go ((Ext.refl _).alloc (Obj.cells (ZZ x fv).toArray 74))
   refine Nq (S1 (m:=x) hlow hCw _ ⟨fv,rfl,hF⟩ (λ w'=>CkO A0 w' cb md ms (Vn (ZY (d.msgs.take k)) x) (VQ (Yt (d.msgs.take k)) x) k (-1) x.fields) (λ w' h=>h)) (λ w5 h0 hC5=>?_) (λ w5 e5 h0=>?_)
   · rw [if_pos h0] at hrk
     have hd1:ZY (d.msgs.take (k+1))=Vn (ZY (d.msgs.take k)) x:=Ao Vn [] hx
     have hs1:Yt (d.msgs.take (k+1))=VQ (Yt (d.msgs.take k)) x:=Ao VQ [] hx
     rw [← hd1,← hs1] at hrk hC5
     have hlow':Low (ZY (d.msgs.take (k+1))):=by rw [hd1];exact hlow.step h0
     refine Qqk ?_
     exact ⟨⟨k+1,k,x.fields,rfl,by omega,hC5,hlow',hrk⟩,ZQ (kd := .i64) Ym⟩
   · rw [if_neg h0] at hrk
     refine pan _ _ _ _ e5 ?_ h0
     rw [hrk]
     unfold Il
     rw [if_neg h0]
 · subst hk
   rw [hd] at hrk
   rw [List.take_length] at hC' hrk
   unfold xB
   refine Qqg ZK ?_
   unfold AJ
   refine Qqh (Za x1).1 (Za x1).2 ?_
   have hC2:=hC'.setAt (-1)
   generalize (w'.setCell ⟨cb,5,none⟩ (.int .i64 (-1)))=W at hC2 ⊢
   clear x1 x2 hC'
   obtain ⟨dn,mv,ds,mn,fv',x1,x2⟩:=hC2.obj
   refine ZB ?_
   have eD:Ext W W.drew:=(Ext.refl W).wdrew
   unfold AI
   refine Qqh (Za x1).1 (Za (hC2.ext.obj o1)).1 ?_
   rw [By underlying198 underlying9 ty3 (hC2.mdeps.ext eD) d.start]
   have hsome:(Yy (vI (ZY d.msgs)) d.start).isSome=(ZM (ZY d.msgs) d.start).isSome:=by rw [W3,Option.isSome_map]
   rw [hsome]
   simp only [Q5,Il,if_true] at hrk
   refine Qqk ?_
   refine Z1 (YP (hC2.go eD).chk _ 11 K7) (λ w5 e5 h0=>?_) (λ w5 e5 h0=>?_)
   · have hs:=QK K7 h0
     rw [hs,if_pos rfl] at hrk
     have hC5:=hC2.go (eD.trans e5)
     have y3:=hC5.ext.obj o3
     have y4:=hC5.ext.obj o4
     have ne34:p3≠p4:=by rintro rfl;rw [o3] at o4;cases o4
     unfold AH
     refine Qqm (Za y3).1 (Za y3).2 (Za y4).1 (Za y4).2 ?_
     have c3:p3≠cb:=by have:=hC5.lcb;have:=(Qqq o3).1;omega
     have c4:p4≠cb:=by have:=hC5.lcb;have:=(Qqq o4).1;omega
     have q3:=Zy (o:=2) (Zy (o:=1) (Zy (o:=0) y3 (.int .i64 0)) (.int .i64 0)) (.int .i64 0)
     have q4:=Zy (o:=0) ((YT.setCell ((w5.setCell ⟨p3,0,none⟩ (.int .i64 0)).setCell ⟨p3,1,none⟩ (.int .i64 0)) p3 2 (.int .i64 0) p4 K9).trans ((YT.setCell (w5.setCell ⟨p3,0,none⟩ (.int .i64 0)) p3 1 (.int .i64 0) p4 K9).trans ((YT.setCell w5 p3 0 (.int .i64 0) p4 K9).trans y4))) (.bool false)
     have q3':=(YT.setCell _ p4 0 (.bool false) p3 ne34).trans q3
     exact Pa (((((ea.trans hC5.ext).setCell h3 _).setCell h3 _).setCell h3 _).setCell h4 _) ((((hC5.left.other c3 _).other c3 _).other c3 _).other c4 _) (by simpa using q3') (by simpa using q4) hrk
   · have hs:(ZM (ZY d.msgs) d.start).isSome=false:=by
      cases hq:(ZM (ZY d.msgs) d.start).isSome with
      | false=>rfl
      | true=>rw [hq] at h0;exact absurd rfl h0
     rw [hs,if_neg (by simp)] at hrk
     rw [hs]
     exact pan _ _ _ _ (hC2.ext.trans (eD.trans e5)) hrk K7
def DV (v:Vl) (d:Xc) (hd:YM w0 v d):Ret Pg 106 #[v] w0 (qq w0 d):=by
 obtain ⟨mv,rfl,hM⟩:=hd
 have hm1:=Ze.oneCell hM
 refine ZfU (R:=ZR _) ?_;unfold Zei
 refine Qqk ?_
 refine ⟨UM (w0.heap.size+1) (w0.heap.size+1+1),_,rfl,?_⟩
 simp only [World.size_alloc]
 generalize hA0:((w0.alloc (Obj.cells (ZO d mv).toArray 27)).alloc (Obj.cells #[.int .i64 0,.int .i64 0,.int .i64 0] 131)).alloc (Obj.cells #[.bool false] 4)=A0
 have ea:Ext w0 A0:=by rw [← hA0];exact ee
 have o1:A0.heap[w0.heap.size]?=some (.cells (ZO d mv).toArray 27 (0,0)):=by rw [← hA0];exact Qqy
 have o3:A0.heap[w0.heap.size+1]?=some (.cells #[.int .i64 0,.int .i64 0,.int .i64 0] 131 (0,0)):=by rw [← hA0];exact Qqy
 have o4:A0.heap[w0.heap.size+1+1]?=some (.cells #[.bool false] 4 (0,0)):=by rw [← hA0];exact Qqy
 have Uq:A0.heap.size=w0.heap.size+1+1+1:=by rw [← hA0];simp only [World.size_alloc]
 clear hA0
 have hC:CkO A0 (((A0.alloc (Obj.map #[] 0)).alloc (Obj.map #[] 0)).alloc (Obj.cells #[.string d.name,mv,.string d.start,.map (some (w0.heap.size+1+1+1)),.map (some (w0.heap.size+1+1+1+1)),.int .i64 (-1),.int .i64 (-1),.string Qqz,.slice none 0 0] 201)) (w0.heap.size+1+1+1+1+1) (w0.heap.size+1+1+1) (w0.heap.size+1+1+1+1) [] [] (-1) (-1) []:=by
  refine ⟨ee,⟨d.name,mv,d.start,ByteArray.empty,.slice none 0 0,?_,Ze.nil _ _ _⟩,?_,?_,by omega,by omega,by omega,by omega⟩
  · have:=Zv ((A0.alloc (Obj.map #[] 0)).alloc (Obj.map #[] 0)) #[.string d.name,mv,.string d.start,.map (some (w0.heap.size+1+1+1)),.map (some (w0.heap.size+1+1+1+1)),.int .i64 (-1),.int .i64 (-1),.string Qqz,.slice none 0 0] 201
    simp only [World.size_alloc,Uq] at this
    exact this
  · have:=(Y9.new A0).ext (((Ext.refl _).alloc (Obj.map #[] 0)).alloc (Obj.cells #[.string d.name,mv,.string d.start,.map (some (w0.heap.size+1+1+1)),.map (some (w0.heap.size+1+1+1+1)),.int .i64 (-1),.int .i64 (-1),.string Qqz,.slice none 0 0] 201))
    simp only [World.size_alloc,Uq] at this
    exact this
  · have:=(Y9.new (A0.alloc (Obj.map #[] 0))).ext ((Ext.refl _).alloc (Obj.cells #[.string d.name,mv,.string d.start,.map (some (w0.heap.size+1+1+1)),.map (some (w0.heap.size+1+1+1+1)),.int .i64 (-1),.int .i64 (-1),.string Qqz,.slice none 0 0] 201))
    simp only [World.size_alloc,Uq] at this
    exact this
 generalize (((A0.alloc (Obj.map #[] 0)).alloc (Obj.map #[] 0)).alloc (Obj.cells #[.string d.name,mv,.string d.start,.map (some (w0.heap.size+1+1+1)),.map (some (w0.heap.size+1+1+1+1)),.int .i64 (-1),.int .i64 (-1),.string Qqz,.slice none 0 0] 201))=W at hC ⊢
 generalize hcb:w0.heap.size+1+1+1+1+1=cb at hC ⊢
 generalize hmd:w0.heap.size+1+1+1=md at hC Uq
 generalize hms:w0.heap.size+1+1+1+1=ms at hC
 generalize hp3:w0.heap.size+1+1=p4 at o4 ⊢
 generalize hp4:w0.heap.size+1=p3 at o3 ⊢
 have l3:w0.heap.size≤p3:=K9
 have l4:w0.heap.size≤p4:=K9
 refine Qqg (Za (hC.ext.obj o1)).1 ?_
 refine zcr (UU _ d.name) λ w1 e1=>?_
 have hC1:=hC.go e1
 have pan:∀ w' a f c,Ext A0 w'→Xe d=(a,f,c)→c≠0→ZI Pg [UM p3 p4] (LH cb p3 p4) (ZR (qq w0 d)) [XM a f c] w':=λ w' a f c e h h0=>Mk (ea.trans e) l3 l4 (e.obj o3) (e.obj o4) h h0
 generalize hr:Xe d=r
 have hr':=hr
 unfold Xe at hr
 refine Z1 (YP hC1.chk _ 1 K7) (λ w2 e2 h0=>?_) (λ w2 e2 h0=>?_)
 · have hn:YZ d.name=true:=QK K7 h0
   rw [if_pos hn] at hr
   have hC2:=hC1.go e2
   have fin:∀ b,b=decide (1≤d.msgs.length∧d.msgs.length≤60)→Yb Pg 135 #[Qq4 cb,.bool b,.int .i64 3] (ZI Pg [UM p3 p4] (LH cb p3 p4) (ZR (qq w0 d))) w2 (λ _ w=>zd (Qq4 w0.heap.size) (Qq4 p3) (Qq4 p4) (Qq4 cb) [UM p3 p4] (ZR (qq w0 d)) w):=by
    rintro b rfl
    refine Z1 (YP hC2.chk _ 3 K7) (λ w3 e3 h0=>?_) (λ w3 e3 h0=>?_)
    · have hl:=QK K7 h0
      simp only [decide_eq_true_eq] at hl
      rw [if_pos hl] at hr
      exact Pb ea (hM.ext ea) (hC2.go e3) o1 o3 o4 l3 l4 (hr'.trans hr.symm)
    · by_cases hl:1≤d.msgs.length∧d.msgs.length≤60
      · rw [decide_eq_true hl] at h0;exact absurd rfl h0
      · rw [if_neg hl] at hr
        rw [decide_eq_false hl]
        exact pan _ _ _ _ (hC2.ext.trans e3) (hr'.trans hr.symm) K7
   obtain ⟨A,c,rfl,hlc,hcm,hlm,YS⟩:=Ze.open hM
   have x1:=hC2.ext.obj o1
   unfold AL
   by_cases h1l:1≤d.msgs.length
   · have d1:decide ((d.msgs.length:Int)≥1)=true:=by simp;omega
     by_cases h2l:d.msgs.length≤60
     · have d2:decide ((d.msgs.length:Int)≤60)=true:=by simp;omega
       simp (disch:=try exact DI) only [↓PR,QR,simprocAttr,(Za x1).1,d1,d2,↓AH,↓AI,↓AJ,↓AK,↓xB,↓zd,↓D9,↓Ea,↓AL]
       exact fin _ (by simp [h1l,h2l])
     · have d2:decide ((d.msgs.length:Int)≤60)=false:=by simp;omega
       simp (disch:=try exact DI) only [↓PR,QR,simprocAttr,(Za x1).1,d1,d2,↓AH,↓AI,↓AJ,↓AK,↓xB,↓zd,↓D9,↓Ea,↓AL]
       exact fin _ (by simp [h2l])
   · have d1:decide ((d.msgs.length:Int)≥1)=false:=by simp;omega
     simp (disch:=try exact DI) only [↓PR,QR,simprocAttr,(Za x1).1,d1,↓AH,↓AI,↓AJ,↓AK,↓xB,↓zd,↓D9,↓Ea,↓AL]
     exact fin _ (by simp [h1l])
 · have hn:YZ d.name=false:=by
    cases hq:YZ d.name with
    | false=>rfl
    | true=>rw [hq] at h0;exact absurd rfl h0
   rw [hn,if_neg (by simp)] at hr
   rw [hn]
   exact pan _ _ _ _ (hC1.ext.trans e2) (hr'.trans hr.symm) K7
end
section
variable {w0:Wd}
abbrev An (r:Int×Int×Int):Vl:=Wj r.1 r.2.1 r.2.2
abbrev YI (d:Xc):Bool:=decide ((Xe d).2.2≠0)
def Ng (v:Vl) (d:Xc) (hd:YM w0 v d):Ret Pg 70 #[v] w0 λ r w'=>r = .tuple #[An (Xe d),.bool (YI d)]∧Ext w0 w':=by
 obtain ⟨mv,rfl,hM⟩:=hd
 have hm1:=Ze.oneCell hM
 refine ZlT (R:=ZR _) ?_;unfold n81
 refine Qqk ?_
 refine Zs (DV _ d ⟨mv,rfl,Va.ext hM ee⟩) ?_
 rintro _ w1 ⟨e1,cb,rfl,_⟩
 have s1:=e1.size
 simp only [World.size_alloc] at s1
 have o2:=e1.obj (Zv (w0.alloc (Obj.cells (ZO d mv).toArray 27)) #[.int .i64 0,.int .i64 0,.int .i64 0] 131)
 rw [World.size_alloc] at o2
 simp (disch:=try exact DI) only [↓PR,QR,simprocAttr,↓Zdw,(Za o2).1,(Za o2).2]
 exact ⟨by first | trivial | rfl,ee⟩
def xm (v:Vl) (d:Xc) (hd:YM w0 v d):Ret Pg 34 #[v] w0 λ r w'=>r = .bool (!YI d)∧Ext w0 w':=by
 obtain ⟨mv,rfl,hM⟩:=hd
 have hm1:=Ze.oneCell hM
 refine Zl1 (R:=ZR _) ?_;unfold n90
 refine Qqk ?_
 refine zcr (Ng _ d ⟨mv,rfl,Va.ext hM ee⟩) λ w1 e1=>?_
 simp (disch:=try exact DI) only [↓PR,QR,simprocAttr,↓Zdy]
 exact ⟨by first | trivial | rfl,ee⟩
end
def Sub {β:Type} (a b:List (BAr×β)):Prop:=∀ s v,ZM a s=some v→ZM b s=some v
section
variable {β:Type}
def Sub.refl (a:List (BAr×β)):Sub a a:=λ _ _ h=>h
def Sub.is {a b:List (BAr×β)} (h:Sub a b) {s:BAr} (k:(ZM a s).isSome=true):(ZM b s).isSome=true:=by
 obtain ⟨v,hv⟩:=Option.isSome_iff_exists.1 k
 rw [h s v hv];rfl
def Aw {l:List (BAr×β)} {s:BAr}:ZM l s=none↔∀ p∈l,p.1≠s:=by
 unfold ZM
 rw [Option.map_eq_none_iff,List.find?_eq_none]
 simp
end
def isI (deps:List (BAr×Int)) (s:BAr):(Yy (vI deps) s).isSome=(ZM deps s).isSome:=by rw [W3];simp
def QL {a b:Int}:orC a b=0↔a=0∧b=0:=by
 unfold orC
 split
 · rename_i h;simp [h]
 · rename_i h;simp [h]
def QX {b:Bool} {c:Int} (hc:c≠0):Yn b c=0↔b=true:=by
 unfold Yn
 cases b<;>simp [hc]
def zb {s:BAr}:∀ {l seen:List BAr},s∈ZV seen l→s∈l
 | [],_,h=>by cases h
 | x::l,seen,h=>by
  unfold ZV at h
  split at h
  · exact List.mem_cons_of_mem _ (zb h)
  · rcases List.mem_cons.1 h with rfl | h
    · exact List.mem_cons_self
    · exact List.mem_cons_of_mem _ (zb h)
section
variable {deps deps':List (BAr×Int)} {strs strs':List (BAr×Bool)}
def Jf (hd:Sub deps deps') (hi:Int):∀ (l:List zK) (lo:Int),WH hi (vI deps) lo l=0→WH hi (vI deps') lo l=0∧∀ c∈l,(ZM deps c.of).isSome=true
 | [],_,_=>⟨rfl,λ _ h=>by cases h⟩
 | x::l,lo,h=>by
  simp only [WH,QL,QX (show (8:Int)≠0 by decide),isI] at h ⊢
  obtain ⟨h1,h2,h3⟩:=h
  obtain ⟨i1,i2⟩:=Jf hd hi l _ h3
  refine ⟨⟨h1,hd.is h2,i1⟩,λ c hc=>?_⟩
  rcases List.mem_cons.1 hc with rfl | hc
  · exact h2
  · exact i2 c hc
def Ds {s:BAr} (h:Fc (vB strs) s=true):ZM strs s=some true:=by
 rw [Fe] at h
 cases hl:ZM strs s with
 | none=>rw [hl] at h;cases h
 | some b=>rw [hl] at h;simp at h;rw [h]
def DT (hd:Sub deps deps') (hs:Sub strs strs') {bef:List Zt} {f:Zt} (h:Xa bef (vI deps) (vB strs) f=0):Xa bef (vI deps') (vB strs') f=0:=by
 unfold Xa at h ⊢
 simp only [QL] at h ⊢
 refine ⟨h.1,h.2.1,h.2.2.1,h.2.2.2.1,?_⟩
 obtain ⟨_,_,_,_,h⟩:=h
 unfold Z4 at h ⊢
 by_cases k1:f.kind=1
 · rw [if_pos k1] at h ⊢;exact h
 rw [if_neg k1] at h ⊢
 by_cases k2:f.kind=2
 · rw [if_pos k2] at h ⊢;exact h
 rw [if_neg k2] at h ⊢
 by_cases k3:f.kind=3
 · rw [if_pos k3] at h ⊢;exact h
 rw [if_neg k3] at h ⊢
 by_cases k4:f.kind=4
 · rw [if_pos k4] at h ⊢;exact h
 rw [if_neg k4] at h ⊢
 by_cases k5:f.kind=5
 · rw [if_pos k5] at h ⊢;exact h
 rw [if_neg k5] at h ⊢
 by_cases k6:f.kind=6
 · rw [if_pos k6] at h ⊢;exact h
 rw [if_neg k6] at h ⊢
 by_cases k7:f.kind=7
 · rw [if_pos k7] at h ⊢
   simp only [QL,QX (show (8:Int)≠0 by decide),isI] at h ⊢
   exact ⟨hd.is h.1,h.2⟩
 rw [if_neg k7] at h ⊢
 by_cases k8:f.kind=8
 · rw [if_pos k8] at h ⊢
   simp only [QX (show (8:Int)≠0 by decide),isI] at h ⊢
   exact hd.is h
 rw [if_neg k8] at h ⊢
 by_cases k9:f.kind=9
 · rw [if_pos k9] at h ⊢
   unfold Vc at h ⊢
   simp only [QL] at h ⊢
   exact ⟨h.1,h.2.1,(Jf hd _ _ _ h.2.2).1⟩
 rw [if_neg k9] at h ⊢
 by_cases k10:f.kind=10
 · rw [if_pos k10] at h ⊢;exact h
 rw [if_neg k10] at h ⊢
 by_cases k11:f.kind=11
 · rw [if_pos k11] at h ⊢;exact h
 rw [if_neg k11] at h ⊢
 by_cases k12:f.kind=12
 · rw [if_pos k12] at h ⊢
   simp only [QL,QX (show (8:Int)≠0 by decide)] at h ⊢
   refine ⟨h.1,?_,h.2.2⟩
   rw [Fe,hs _ _ (Ds h.2.1)];rfl
 rw [if_neg k12]
def DU (hds:∀ s,(ZM strs s).isSome=true→(ZM deps s).isSome=true) {bef:List Zt} {f:Zt} (h:Xa bef (vI deps) (vB strs) f=0):∀ s∈Yr f,(ZM deps s).isSome=true:=by
 intro s hs
 unfold Xa at h
 simp only [QL] at h
 obtain ⟨_,_,_,_,h⟩:=h
 unfold Z4 at h
 unfold Yr at hs
 split at hs
 · rename_i hk
   simp only [List.mem_singleton] at hs
   subst hs
   rcases hk with hk | hk | hk
   · rw [if_neg K9,if_neg K9,if_neg K9,if_neg K9,if_neg K9,if_neg K9,if_pos hk] at h
     simp only [QL,QX (show (8:Int)≠0 by decide),isI] at h
     exact h.1
   · rw [if_neg K9,if_neg K9,if_neg K9,if_neg K9,if_neg K9,if_neg K9,if_neg K9,if_pos hk] at h
     simp only [QX (show (8:Int)≠0 by decide),isI] at h
     exact h
   · rw [if_neg K9,if_neg K9,if_neg K9,if_neg K9,if_neg K9,if_neg K9,if_neg K9,if_neg K9,if_neg K9,if_neg K9,if_neg K9,if_pos hk] at h
     simp only [QL,QX (show (8:Int)≠0 by decide)] at h
     exact hds _ (by rw [Ds h.2.1];rfl)
 · split at hs
   · rename_i hk
     obtain ⟨c,hc,rfl⟩:=List.mem_map.1 hs
     rw [if_neg K9,if_neg K9,if_neg K9,if_neg K9,if_neg K9,if_neg K9,if_neg K9,if_neg K9,if_pos hk] at h
     unfold Vc at h
     simp only [QL] at h
     exact (Jf (Sub.refl deps) _ _ _ h.2.2).2 c hc
   · cases hs
def qv (hd:Sub deps deps') (hs:Sub strs strs') (hds:∀ s,(ZM strs s).isSome=true→(ZM deps s).isSome=true):∀ (l bef:List Zt),(YE deps strs bef l).2=0→YE deps' strs' bef l=(-1,0)∧∀ s∈Z9 l,(ZM deps s).isSome=true
 | [],bef,h=>⟨rfl,λ s hs=>by cases hs⟩
 | f::l,bef,h=>by
  unfold YE at h ⊢
  by_cases h0:Xa bef (vI deps) (vB strs) f=0
  · rw [if_pos h0] at h
    rw [if_pos (DT hd hs h0)]
    obtain ⟨i1,i2⟩:=qv hd hs hds l _ h
    refine ⟨i1,λ s hs=>?_⟩
    rcases List.mem_append.1 (show s∈Yr f++Z9 l from hs) with hs | hs
    · exact DU hds h0 s hs
    · exact i2 s hs
  · rw [if_neg h0] at h;exact absurd h h0
def Kw {m:Yh} (h:(QW deps strs m).2=0):YZ m.name=true∧ZM deps m.name=none∧(1≤m.fields.length∧m.fields.length≤40)∧(YE deps strs [] m.fields).2=0∧Q1 deps m < 16:=by
 have hl:=De h
 unfold QW at h
 by_cases h1:YZ m.name=true
 · rw [if_pos h1] at h
   by_cases h2:(ZM deps m.name).isSome=true
   · rw [if_pos h2] at h;exact absurd h K7
   · rw [if_neg h2] at h
     by_cases h3:1≤m.fields.length∧m.fields.length≤40
     · rw [if_pos h3] at h
       refine ⟨h1,by simpa using h2,h3,?_,hl⟩
       unfold Uo at h
       split at h
       · assumption
       · contradiction
     · rw [if_neg h3] at h;exact absurd h K7
 · rw [if_neg h1] at h;exact absurd h K7
end
section
variable {deps:List (BAr×Int)} {strs:List (BAr×Bool)}
def zc {m:Yh} {l:List Yh} {i:Nat} (h:(QW deps strs m).2=0):Q5 deps strs i (m::l)=Q5 (Vn deps m) (VQ strs m) (i+1) l:=if_pos h
def Kp {m:Yh} {l:List Yh} {i:Nat} (h:¬ (QW deps strs m).2=0):Q5 deps strs i (m::l)=((i:Int),QW deps strs m):=if_neg h
def VK (r:List Yh):∀ (l:List Yh) (deps:List (BAr×Int)) (strs:List (BAr×Bool)) (i:Nat),((Q5 deps strs i l).2.2=0→Q5 deps strs i (l++r)=Q5 (l.foldl Vn deps) (l.foldl VQ strs) (i+l.length) r)∧((Q5 deps strs i l).2.2≠0→Q5 deps strs i (l++r)=Q5 deps strs i l)
 | [],deps,strs,i=>⟨λ _=>rfl,λ h=>absurd rfl h⟩
 | m::l,deps,strs,i=>by
  have ih:=VK r l (Vn deps m) (VQ strs m) (i+1)
  by_cases h:(QW deps strs m).2=0
  · rw [zc h,List.cons_append,zc h]
    simp only [List.foldl_cons,List.length_cons]
    rw [show i+(l.length+1)=i+1+l.length by omega]
    exact ih
  · rw [Kp h,List.cons_append,Kp h]
    exact ⟨λ k=>absurd k h,λ _=>rfl⟩
def Mt {l:List Yh} {deps:List (BAr×Int)} {strs:List (BAr×Bool)} {i:Nat} (h:(Q5 deps strs i l).2.2=0) {k:Nat} {m:Yh} (hk:l[k]?=some m):(QW ((l.take k).foldl Vn deps) ((l.take k).foldl VQ strs) m).2=0∧(Q5 deps strs i (l.take k)).2.2=0:=by
 have hl:l=l.take k++m::l.drop (k+1):=by
  have:=(List.take_append_drop k l).symm
  rw [List.drop_eq_getElem_cons (Qqj hk).1] at this
  rw [(Qqj hk).2] at this
  exact this
 rw [hl] at h
 by_cases h0:(Q5 deps strs i (l.take k)).2.2=0
 · rw [(VK _ _ _ _ _).1 h0] at h
   refine ⟨?_,h0⟩
   by_cases h1:(QW ((l.take k).foldl Vn deps) ((l.take k).foldl VQ strs) m).2=0
   · exact h1
   · rw [Kp h1] at h;exact absurd h h1
 · rw [(VK _ _ _ _ _).2 h0] at h;exact absurd h h0
def CB (l:List Yh) (m:Yh):ZY (l++[m])=ZY l++[(m.name,Q1 (ZY l) m+1)]:=by unfold ZY;rw [List.foldl_append];rfl
def Ov (l:List Yh) (m:Yh):Yt (l++[m])=Yt l++[(m.name,UH (Yt l) m)]:=by unfold Yt;rw [List.foldl_append];rfl
def G5:∀ (l:List Yh) (a:List (BAr×Int)) (b:List (BAr×Bool)),(l.foldl Vn a).map (·.1)=a.map (·.1)++l.map (·.name)∧(l.foldl VQ b).map (·.1)=b.map (·.1)++l.map (·.name)
 | [],a,b=>by simp
 | m::l,a,b=>by
  have ih:=G5 l (Vn a m) (VQ b m)
  simp only [List.foldl_cons,List.map_cons]
  rw [ih.1,ih.2]
  simp [Vn,VQ]
def isD {l:List Yh} {s:BAr}:(ZM (ZY l) s).isSome=true↔∃ m∈l,m.name=s:=by
 have h1:=(G5 l [] []).1
 rw [← Option.ne_none_iff_isSome,ne_eq,Aw]
 constructor
 · intro h
   apply Classical.byContradiction
   intro hn
   apply h
   intro p hp he
   have:p.1∈(ZY l).map (·.1):=List.mem_map.2 ⟨p,hp,rfl⟩
   rw [show ZY l=l.foldl Vn [] from rfl,h1] at this
   obtain ⟨m,hm,hme⟩:=List.mem_map.1 (show p.1∈l.map (·.name) by simpa using this)
   exact hn ⟨m,hm,hme.trans he⟩
 · rintro ⟨m,hm,rfl⟩ h
   have:m.name∈(ZY l).map (·.1):=by rw [show ZY l=l.foldl Vn [] from rfl,h1];simpa using ⟨m,hm,rfl⟩
   obtain ⟨p,hp,hpe⟩:=List.mem_map.1 this
   exact h p hp hpe
def isS {l:List Yh} {s:BAr}:(ZM (Yt l) s).isSome=true↔∃ m∈l,m.name=s:=by
 have h1:=(G5 l [] []).2
 rw [← Option.ne_none_iff_isSome,ne_eq,Aw]
 constructor
 · intro h
   apply Classical.byContradiction
   intro hn
   apply h
   intro p hp he
   have:p.1∈(Yt l).map (·.1):=List.mem_map.2 ⟨p,hp,rfl⟩
   rw [show Yt l=l.foldl VQ [] from rfl,h1] at this
   obtain ⟨m,hm,hme⟩:=List.mem_map.1 (show p.1∈l.map (·.name) by simpa using this)
   exact hn ⟨m,hm,hme.trans he⟩
 · rintro ⟨m,hm,rfl⟩ h
   have:m.name∈(Yt l).map (·.1):=by rw [show Yt l=l.foldl VQ [] from rfl,h1];simpa using ⟨m,hm,rfl⟩
   obtain ⟨p,hp,hpe⟩:=List.mem_map.1 this
   exact h p hp hpe
def US (l:List Yh):Prop:=(Q5 [] [] 0 l).2.2=0
def US.next {l:List Yh} (h:US l) {k:Nat} {m:Yh} (hk:l[k]?=some m):(QW (ZY (l.take k)) (Yt (l.take k)) m).2=0:=(Mt h hk).1
def US.take {l:List Yh} (h:US l) (k:Nat):US (l.take k):=by
 by_cases hk:k < l.length
 · obtain ⟨m,hm⟩:=getElem?_lt hk
   exact (Mt h hm).2
 · rw [List.take_of_length_le K9];exact h
def US.low {l:List Yh} (h:US l):∀ k,Low (ZY (l.take k))
 | 0=>λ p hp=>by simp [ZY] at hp
 | k+1=>by
  by_cases hk:k < l.length
  · obtain ⟨m,hm⟩:=getElem?_lt hk
    rw [Yw hm,show ZY (l.take k++[m])=Vn (ZY (l.take k)) m from CB _ _]
    exact (h.low k).step (h.next hm)
  · rw [List.take_of_length_le (show l.length≤k+1 by omega)]
    have:=h.low k
    rw [List.take_of_length_le (show l.length≤k by omega)] at this
    exact this
def NV {m:Yh} {s:BAr} (h:s∈Dl m):s∈Z9 m.fields:=zb h
def Zbp (l:List Yh) (s:BAr) (h:(ZM (Yt l) s).isSome=true):(ZM (ZY l) s).isSome=true:=isD.2 (isS.1 h)
end
section
variable {d:Xc}
def If (h:(Xe d).2.2=0):YZ d.name=true∧(1≤d.msgs.length∧d.msgs.length≤60)∧US d.msgs∧(ZM (ZY d.msgs) d.start).isSome=true:=by
 unfold Xe at h
 by_cases h1:YZ d.name=true
 · rw [if_pos h1] at h
   by_cases h2:1≤d.msgs.length∧d.msgs.length≤60
   · rw [if_pos h2] at h
     unfold Il at h
     by_cases h3:(Q5 [] [] 0 d.msgs).2.2=0
     · rw [if_pos h3] at h
       by_cases h4:(ZM (ZY d.msgs) d.start).isSome=true
       · exact ⟨h1,h2,h3,h4⟩
       · rw [if_neg h4] at h;exact absurd h K7
     · rw [if_neg h3] at h;exact absurd h h3
   · rw [if_neg h2] at h;exact absurd h K7
 · rw [if_neg h1] at h;exact absurd h K7
end
def Zbk (D:List BAr) (seen:List Vl) (v:Vl):Prop:=∃ s,seen=(D.take seen.length).map Value.string∧D[seen.length]?=some s∧v = .string s
def ZdL (D:List BAr) (seen:List Vl):Prop:=seen=D.map Value.string
def Fo (pb:Nat) (sv:Vl) (l:List BAr):ON Pg 198 #[Qq4 pb] (Zbk (ZV [] l)) (ZdL (ZV [] l)) (λ w=>QC w pb sv l):=by
 intro yv J Jx Jp w _ hFP hJe hJx hJp Qu h0
 obtain ⟨hc,hT,_⟩:=hFP _ w h0
 obtain ⟨A,c,rfl,hlc,hcm,hlm,YS⟩:=Ze.open hT
 refine ZiJ (t0:=yv) (t1 := Qq4 pb) ?_
 unfold n89
 refine Qqg hc ?_
 refine ZE (λ i w'=>∃ k j:Nat,i = .int .i64 k∧k≤l.length∧J (((ZV [] l).take j).map Value.string) w'∧j≤(ZV [] l).length∧(ZV [] l).drop j=ZV (l.take k) (l.drop k)) (λ i _=>l.length - (intOf i).toNat) ⟨0,0,rfl,by omega,h0,by omega,rfl⟩ ?_
 rintro i w' ⟨k,j,rfl,hk,hJ,hj,hD⟩
 rcases ZH hk with ⟨x,hx,hd,Ym,ZK⟩ | ⟨hk,hd,ZK⟩
 · obtain ⟨hc',hT',_⟩:=hFP _ w' hJ
   obtain ⟨A',c',hv,_,hcm',_,hel'⟩:=Ze.open hT'
   injection hv with hv _ hv'
   subst hv hv'
   obtain ⟨b,o,cs,rfl,hl,hA,rfl⟩:=hel' k x hx
   have er:=Ext.refl w'
   rw [hd] at hD
   simp only [ZV] at hD
   simp (disch:=try exact DI) only [↓PR,QR,simprocAttr,↓U2,↓U3,ZK,hA.c1,hc']
   rw [Uk underlying94 ty9 b o l.length c .i64 k K9]
   have YH:(l.take k).length=k:=by rw [List.length_take];omega
   have hpre:Ze w' 1 KN (.slice (some ⟨b,o,none⟩) k c) (l.take k):=by
    refine ⟨_,c,by rw [YH],by rw [YH];omega,hcm,λ _=>⟨b,o,rfl,λ i y hy=>?_⟩⟩
    rw [List.getElem?_take] at hy
    split at hy
    · obtain ⟨b',o',cs,hA',h1,h2,h3⟩:=hel' i y hy
      injection hA' with hA'
      injection hA' with h5 h6
      subst h5 h6
      exact ⟨cs,h1,h2,h3⟩
    · cases hy
   refine zcr (WG w' _ _ x hpre) λ w2 e2=>?_
   have hJ2:=(hJe _).ext hJ e2
   have htk:l.take (k+1)=l.take k++[x]:=Yw hx
   cases hany:(l.take k).any (λ y=>decide (x=y)) with
   | true=>
    rw [hany,if_pos rfl,← htk] at hD
    simp (disch:=try exact DI) only [↓PR,QR,simprocAttr,↓U2,↓U3]
    exact ⟨⟨k+1,j,rfl,by omega,hJ2,hj,hD⟩,ZQ (kd := .i64) Ym⟩
   | false=>
    rw [hany,if_neg (by simp),← htk] at hD
    have Ml:j < (ZV [] l).length:=by
     have:=congrArg List.length hD
     simp at this
     omega
    have hxj:(ZV [] l)[j]?=some x:=by
     have:=congrArg (λ l=>l[0]?) hD
     simpa using this
    have hD2:(ZV [] l).drop (j+1)=ZV (l.take (k+1)) (l.drop (k+1)):=by
     rw [← List.tail_drop,hD];rfl
    have hjm:(((ZV [] l).take j).map Value.string).length=j:=by rw [List.length_map,List.length_take];omega
    have hs:=Qu _ (.string x) ⟨x,by rw [hjm],by rw [hjm];exact hxj,rfl⟩ (λ _=>True) GB.true w2 hJ2 trivial
    rw [show ((ZV [] l).take j).map Value.string++[.string x]=((ZV [] l).take (j+1)).map Value.string by rw [Yw hxj];simp] at hs
    simp (disch:=try exact DI) only [↓PR,QR,simprocAttr,↓U2,↓U3]
    refine GZ hs (λ ch w h=>h.2) ?_
    rintro v w3 ⟨_,⟨rfl,h2⟩ | ⟨rfl,h2⟩⟩
    · simp (disch:=try exact DI) only [↓PR,QR,simprocAttr,↓U2,↓U3]
      exact ⟨⟨k+1,j+1,rfl,by omega,h2,Ml,hD2⟩,ZQ (kd := .i64) Ym⟩
    · simp (disch:=try exact DI) only [↓PR,QR,simprocAttr,↓U2,↓U3]
      exact .inr h2
 · subst hk
   simp (disch:=try exact DI) only [↓PR,QR,simprocAttr,↓U2,↓U3,ZK]
   rw [hd] at hD
   have Ml:j=(ZV [] l).length:=by
    have:=congrArg List.length hD
    simp [ZV] at this
    omega
   exact .inl ⟨_,by unfold ZdL;rw [Ml,List.take_length],hJ⟩
def Yc.cellsAt {α:Type} {w:Wd} {base n:Nat} {T:TypeId} {enc:α→List Vl} {v:Vl} {l:List α} (h:Yc w base T n enc v l) (g:Nat) (hg:v.ownBlock=some g):∃ cs T f,w.heap[g]?=some (.cells cs T f):=by
 rcases h.2 with ⟨rfl,h0⟩ | ⟨g',cap,cur,rfl,hb,hg',hc,hm,hs,ht⟩
 · cases hg
 · have:g'=g:=by simpa [Value.ownBlock] using hg
   subst this
   exact ⟨_,_,_,hg'⟩
def Yc.keep {α:Type} {w w':Wd} {base n:Nat} {T:TypeId} {enc:α→List Vl} {v:Vl} {l:List α} (h:Yc w base T n enc v l) (hk:∀ b,v.ownBlock=some b→w'.heap[b]?=w.heap[b]?):Yc w' base T n enc v l:=by
 obtain ⟨h1,h2⟩:=h
 refine ⟨h1,?_⟩
 rcases h2 with h2 | ⟨g,cap,cur,hv,a1,a2,a3⟩
 · exact .inl h2
 · exact .inr ⟨g,cap,cur,hv,a1,by rw [hk g (by rw [hv];rfl)];exact a2,a3⟩
def BS:∀ {a b:List BAr},a.map Value.string=b.map Value.string→a=b
 | [],[],_=>rfl
 | [],_::_,h=>by cases h
 | _::_,[],h=>by cases h
 | x::a,y::b,h=>by
  rw [List.map_cons,List.map_cons] at h
  injection h with h1 h2
  injection h1 with h1
  rw [h1,BS h2]
def xf (w0:Wd) (pb:Nat) (sv:Vl) (l:List BAr) (hS:QC w0 pb sv l) (hL:(ZV [] l).length≤1048576) :
 Ret Pg 200 #[.slice none 0 0,.func (.func 198) #[] #[Qq4 pb]] w0 λ r w'=>Yc w' w0.heap.size 9 1 XU r (ZV [] l)∧Ext w0 w':=by
 have hseq:=Fo pb sv l
 generalize hDD:ZV [] l=D at hseq hL ⊢
 refine Zhk (R:=ZR _) ?_;unfold Zek
 refine Qqk ?_
 let I:List Vl→Wd→Prop:=λ seen w=>Ext w0 w∧∃ (ss:List BAr) (tv:Vl),seen=ss.map Value.string∧ss.length≤D.length∧w.heap[w0.heap.size]?=some (.cells #[tv] 94 (0,0))∧Yc w (w0.heap.size+1) 9 1 XU tv ss
 have hLI:∀ B,w0.heap.size≤B→∀ k,Yl B (I k):=λ B hB k=>Yl.and (Yl.from hB) (Yl.ex λ ss=>Yl.ex λ tv=>Yl.and (Yl.const _ _) (Yl.and (Yl.const _ _) (Yl.and (Yl.has B rfl) Yl.own)))
 refine ⟨_,_,Zbk D,ZdL D,(λ w=>QC w pb sv l),I,λ _ _=>False,λ _ _=>False,rfl,Zfq,hseq,?_,λ k w h=>hS.ext h.1,λ k=>hLI _ (by simp) k,λ _=>Yl.const _ _,λ _=>Yl.const _ _,?_,?_,?_,?_⟩
 · refine ⟨ee,[],.slice none 0 0,rfl,Nat.zero_le _,?_,Yc.nil _ _ _ _ _⟩
   exact Qqy
 · intro Rk hF seen x w1 hal hI1 hR1 hlt1 hready
   refine ⟨hready,λ w4 hbz=>?_⟩
   have hR4:=hF _ _ (KR6.busied hbz) hR1
   have hI4:=(hLI (w0.alloc (.cells #[.slice none 0 0] 94)).heap.size (by simp) seen).busied hbz (Nat.le_succ _) hI1
   clear hI1 hR1 hready hbz hlt1
   obtain ⟨x0,_,hx0,rfl⟩:=hal
   obtain ⟨e4,ss,tv,rfl,hsub,h24,hO⟩:=hI4
   rw [List.length_map] at hx0
   have Ym:=(Qqj hx0).1
   have YH:ss.length≤1048576:=K9
   have z2:=(Qqq h24).1
   have hr:∀ g,tv.ownBlock=some g→w0.heap.size+1≤g:=λ g hb=>(World.ownsRow.lt hO g hb).1
   have eA:Ext w4 (w4.alloc (.cells #[.string x0] 9)):=(Ext.refl _).alloc _
   unfold PQ
   refine Qqg (Za h24).1 ?_
   refine Kg x0 (b:=w4.heap.size) (hO.ext eA) (by rw [Vd];rfl) (by have:=eA.size;omega) YH ?_
   intro v' w' hO' hg
   have h2':w'.heap[w0.heap.size]?=some (.cells #[tv] 94 (0,0)):=(hg.block w0.heap.size (by have:=eA.size;omega) λ e=>by have:=hr _ e.symm;omega).trans (eA.obj h24)
   have ht1:v'.oneCell'=true:=Ze.oneCell (Yc.slice (E:=λ _ cs s=>cs=XU s) hO' (λ _=>rfl) (λ _ _=>rfl))
   refine Qqh (Za h2').1 (Za h2').2 ?_
   have hE5:Ext w0 (w'.setCell ⟨w0.heap.size,0,none⟩ v'):=((e4.trans eA).grown hg λ g hb=>by have:=hr g hb;omega).setCell (p:=⟨w0.heap.size,0,none⟩) (Nat.le_refl _) _
   refine ⟨hF _ _ ((((KR6.refl _ w4).ext eA).grown hg λ g hb=>Yc.cellsAt (hO.ext eA) g hb).cell h2' 0 v') hR4,hE5,ss++[x0],v',by simp,by simp;omega,Zy (o:=0) h2' v',Yc.keep hO' λ g hb=>?_⟩
   have:=(World.ownsRow.lt hO' g hb).1
   rw [YT.setCell _ w0.heap.size _ _ g K9]
 · intro seen w1 hfin hI1 hmk
   obtain ⟨e1,ss,tv,rfl,_,h24,hO⟩:=hI1
   have hz:(w0.alloc (.cells #[.slice none 0 0] 94)).heap.size=w0.heap.size+1:=by simp
   rw [hz] at hmk ⊢
   show UN _ _ _
   rw [(Za h24).1]
   show Kz _ _ _ _ _
   refine V5 hmk ?_
   simp (disch:=try exact DI) only [↓PR,QR,simprocAttr,Um,jw,Qz]
   rw [← BS hfin]
   refine ⟨(Yc.keep hO λ g hb=>?_).base (Nat.le_succ _),e1.putObj (Nat.le_succ _) _⟩
   have Y3:g≠w0.heap.size+1:=by
    rintro rfl
    obtain ⟨cs,T,f,hc⟩:=Yc.cellsAt hO _ hb
    have:w1.heap[w0.heap.size+1]?=some (.deferred (some [])):=hmk
    rw [hc] at this
    cases this
   exact World.putObj_heap_other Y3
 · exact λ _ _ h=>h.elim
 · exact λ _ _ h=>h.elim
def xq:∀ (seen l:List BAr),(ZV seen l).length≤l.length
 | _,[]=>Nat.le_refl _
 | seen,s::l=>by
  unfold ZV
  split
  · exact Nat.le_trans (xq _ l) (Nat.le_succ _)
  · simp only [List.length_cons]
    exact Nat.succ_le_succ (xq _ l)
def jG (w0:Wd) (pb:Nat) (sv:Vl) (l:List BAr) (hS:QC w0 pb sv l) (hL:(ZV [] l).length≤1048576) :
 Ret Pg 166 #[.func (.func 198) #[] #[Qq4 pb]] w0 λ r w'=>Yc w' w0.heap.size 9 1 XU r (ZV [] l)∧Ext w0 w':=by
 refine Zho (R:=ZR _) ?_;unfold Zhn
 refine Zs (xf w0 pb sv l hS hL) ?_
 rintro v w1 ⟨h,e1⟩
 refine Qqk ?_
 exact ⟨h,e1⟩
def BF (w0:Wd) (v:Vl) (f:Zt) (hf:Z0 w0 v f) (hb:(Yr f).length≤1048576):Ret Pg 141 #[v] w0 λ r w'=>Ze w' 1 KN r (ZV [] (Yr f))∧Ext w0 w':=by
 obtain ⟨tv,cv,rfl,hT,hC,t1,c1⟩:=hf.op
 have hr:Z9 [f]=Yr f:=by unfold Z9;simp
 refine Zlf (R:=ZR _) ?_;unfold n41
 rw [Yi]
 have Xw:=Z6.new (w:=w0) (Zq f tv cv) (123)
 have eW:Ext w0 (w0.alloc (Obj.cells (List.toArray (Zq f tv cv)) (123))):=(Ext.refl _).alloc _
 generalize (w0.alloc (Obj.cells (List.toArray (Zq f tv cv)) (123)))=W at Xw eW ⊢
 refine Qqg (Xw.c15 (Ext.refl W)) ?_
 have hA:Z6 (W.alloc (.cells (Zq f tv cv).toArray 123)) W.heap.size 0 (Zq f tv cv):=Z6.new _ _
 have eV:Ext W (W.alloc (.cells (Zq f tv cv).toArray 123)):=(Ext.refl W).alloc _
 generalize (W.alloc (.cells (Zq f tv cv).toArray 123))=V at hA eV ⊢
 have hM:Qt V (.agg #[.string Qqz,.slice (some ⟨W.heap.size,0,none⟩) 1 1]) ⟨ByteArray.empty,[f]⟩:=by
  refine ⟨_,rfl,_,1,rfl,Nat.le_refl _,by decide,λ _=>⟨_,0,rfl,λ k x hx=>?_⟩⟩
  cases k with
  | zero=>
   simp only [List.getElem?_cons_zero,Option.some.injEq] at hx
   subst hx
   exact ⟨_,rfl,hA,tv,cv,rfl,hT.ext (eW.trans eV),hC.ext (eW.trans eV)⟩
  | succ k=>simp at hx
 refine Zs (jO V _ ⟨ByteArray.empty,[f]⟩ hM (by rw [hr];exact hb)) ?_
 rintro _ w1 ⟨pb,sv,rfl,hS,hpb,e1⟩
 rw [hr] at hS
 refine Zs (jG w1 pb sv _ hS (Nat.le_trans (xq _ _) hb)) ?_
 rintro v w2 ⟨hO,e2⟩
 refine Qqk ?_
 exact ⟨hO.slice (λ _=>rfl) (λ _ _=>rfl),eW.trans (eV.trans (e1.trans e2))⟩
section
variable {a0 w:Wd} {cb:Nat} {m:Xd} {d e:Xc} {ru fi:Int}
def BJ (last:Int) (x:UL):Bool:=decide (last < x.low)&&(decide (x.low≤x.high)&&(Vj x.high&&Vj x.to))
def LM (last:Int) (x:UL) (l:List UL):J8 last (x::l)=(BJ last x&&J8 x.high l):=by
 rw [J8];unfold BJ;simp only [Bool.and_assoc]
def ZeT (h:CkM a0 w cb m d e ru fi) (v:Vl) (l:List UL) (hs:Q0 w v l):Calls Pg 112 #[Qq4 cb,v] w (mR w (decide (WJ l=0)) ru fi (WJ l)):=by
 obtain ⟨A,c,rfl,hlc,hcm,hlm,YS⟩:=Ze.open hs
 refine Zk5 ?_;unfold n31
 have first:∀ b,b=decide (1≤l.length∧l.length≤40)→Yb Pg 33 #[Qq4 cb,.bool b,.int .i64 2] (Zj (mR w (decide (WJ l=0)) ru fi (WJ l))) w (λ _ w'=>qB (Qq4 cb) (.slice A l.length c) (mR w (decide (WJ l=0)) ru fi (WJ l)) w'):=by
  rintro b rfl
  refine YU (XH h _ 2) (λ w1 e1 hb=>?_) (λ w1 e1 hb=>?_)
  · simp only [decide_eq_true_eq] at hb
    have ht:WJ l=if J8 (-1) l=true then 0 else 8:=by unfold WJ;rw [if_neg K9]
    unfold qB
    refine Qqk ?_
    refine YA (λ a b w'=>∃ (k:Nat) (last:Int),a = .int .i64 last∧b = .int .i64 k∧k≤l.length∧Ext w w'∧J8 (-1) l=J8 last (l.drop k)) (λ _ b _=>l.length - (intOf b).toNat) ⟨0,-1,rfl,rfl,by omega,e1,rfl⟩ ?_
    rintro _ _ w2 ⟨k,last,rfl,rfl,hk,e2,hR⟩
    rcases ZH hk with ⟨x,hx,hdr,Ym,ZK⟩ | ⟨hk,hdr,ZK⟩
    · obtain ⟨bt,ot,cst,rfl,_,hAt,rfl⟩:=YS k x hx
      rw [hdr,LM] at hR
      refine Qqg ZK ?_
      unfold Bc
      refine Qqg (hAt.c3 e2) ?_
      have oV:=Zv w2 (Xh x).toArray 78
      have eV:Ext w2 (w2.alloc (.cells (Xh x).toArray 78)):=(Ext.refl w2).alloc _
      generalize (w2.alloc (.cells (Xh x).toArray 78))=V at oV eV ⊢
      have e3:=e2.trans eV
      have last3:∀ b,b=BJ last x→∀ k1:Vl→Wd→Prop,(∀ w4,Ext V w4→BJ last x=true→k1 (.tuple #[]) w4)→Yb Pg 33 #[Qq4 cb,.bool b,.int .i64 8] (Zj (mR w (decide (WJ l=0)) ru fi (WJ l))) V k1:=by
       rintro b rfl k1 hk1
       refine YU (XH (h.go e3) _ 8) (λ w4 e4 hb=>hk1 w4 e4 hb) (λ w4 e4 hb=>?_)
       rw [hb,Bool.false_and] at hR
       rw [hR,if_neg (by simp)] at ht
       exact xz (e3.trans e4) (by rw [ht];rfl) ht
      have q:=Za oV
      have goOn:∀ w4,Ext V w4→BJ last x=true→qz (Qq4 w2.heap.size) (.int .i64 k) (λ a b w'=>(∃ (k:Nat) (last:Int),a = .int .i64 last∧b = .int .i64 k∧k≤l.length∧Ext w w'∧J8 (-1) l=J8 last (l.drop k))∧l.length - (intOf b).toNat < l.length - (intOf (Value.int IntKind.i64 k)).toNat) (mR w (decide (WJ l=0)) ru fi (WJ l)) w4:=by
       intro w4 e4 hb
       rw [hb,Bool.true_and] at hR
       have q4:=Za (e4.obj oV)
       unfold qz
       refine Qqg q4.1 ?_
       exact ⟨⟨k+1,_,rfl,rfl,Ym,e3.trans e4,hR⟩,ZQ (kd := .i64) Ym⟩
      by_cases h1:last < x.low
      · have d1:decide (x.low > last)=true:=by simpa using h1
        by_cases h2:x.low≤x.high
        · have d2:decide (x.low≤x.high)=true:=by simpa using h2
          have hB:BJ last x=(Vj x.high&&Vj x.to):=by unfold BJ;simp [h1,h2]
          simp (disch:=try exact DI) only [↓PR,QR,simprocAttr,q.1,d1,d2,↓qz,↓CM,↓CN,↓Bc,↓qB]
          refine Zs (Q9 V x.high) ?_
          rintro _ w' ⟨rfl,hw⟩
          rw [hw]
          generalize hn:Vj x.high=nh at hB
          cases nh with
          | true=>
           simp (disch:=try exact DI) only [↓PR,QR,simprocAttr,q.1,↓qz,↓CM,↓CN,↓Bc,↓qB]
           refine Zs (Q9 V x.to) ?_
           rintro _ w' ⟨rfl,hw⟩
           rw [hw]
           refine Qqk ?_
           exact last3 _ (by rw [hB,Bool.true_and]) _ goOn
          | false=>
           simp (disch:=try exact DI) only [↓PR,QR,simprocAttr,q.1,↓qz,↓CM,↓CN,↓Bc,↓qB]
           exact last3 _ (by rw [hB,Bool.false_and]) _ goOn
        · have d2:decide (x.low≤x.high)=false:=by simpa using h2
          have hB:BJ last x=false:=by unfold BJ;simp [h2]
          simp (disch:=try exact DI) only [↓PR,QR,simprocAttr,q.1,d1,d2,↓qz,↓CM,↓CN,↓Bc,↓qB]
          exact last3 _ hB.symm _ goOn
      · have d1:decide (x.low > last)=false:=by simpa using h1
        have hB:BJ last x=false:=by unfold BJ;simp [h1]
        simp (disch:=try exact DI) only [↓PR,QR,simprocAttr,q.1,d1,↓qz,↓CM,↓CN,↓Bc,↓qB]
        exact last3 _ hB.symm _ goOn
    · subst hk
      rw [hdr,J8] at hR
      rw [hR,if_pos rfl] at ht
      refine Qqg ZK ?_
      exact D3 e2 (by rw [ht];rfl)
  · have ht:WJ l=2:=by
     unfold WJ
     rw [if_pos]
     simp only [decide_eq_false_iff_not] at hb
     omega
    exact xz e1 (by rw [ht];rfl) ht
 by_cases h1:1≤l.length
 · have d1:decide ((l.length:Int)≥1)=true:=by simp;omega
   by_cases h2:l.length≤40
   · have d2:decide ((l.length:Int)≤40)=true:=by simp;omega
     refine Qqh d1 d2 ?_
     exact first _ (by simp [h1,h2])
   · have d2:decide ((l.length:Int)≤40)=false:=by simp;omega
     refine Qqh d1 d2 ?_
     exact first _ (by simp [h2])
 · have d1:decide ((l.length:Int)≥1)=false:=by simp;omega
   refine Qqg d1 ?_
   exact first _ (by simp [h1])
end
section
variable {a0 w:Wd} {cb:Nat} {m:Xd} {d e:Xc} {ru fi:Int}
def qY (m:Xd) (f t:Zt):Bool:=(ZV [] (Yr f)).all (okN m (ZV [] (Yr t)))
def SY (h:CkM a0 w cb m d e ru fi) (u v:Vl) (f t:Zt) (hf:Z0 w u f) (ht:Z0 w v t) (bf:(Yr f).length≤1048576) (bt:(Yr t).length≤1048576):Calls Pg 113 #[Qq4 cb,u,v] w (mR w (qY m f t) ru fi 9):=by
 obtain ⟨tf,cf,rfl,hTf,hCf,o1,o2⟩:=hf.op
 obtain ⟨tt,ct,rfl,hTt,hCt,o3,o4⟩:=ht.op
 refine Zk2 ?_;unfold n28
 rw [Yi]
 have Xw:=Z6.new (w:=w) (Zq f tf cf) (123)
 have eW:Ext w (w.alloc (Obj.cells (List.toArray (Zq f tf cf)) (123))):=(Ext.refl _).alloc _
 generalize (w.alloc (Obj.cells (List.toArray (Zq f tf cf)) (123)))=W at Xw eW ⊢
 rw [Yi]
 have hBX:=Z6.new (w:=W) (Zq t tt ct) (123)
 have eX:Ext W (W.alloc (Obj.cells (List.toArray (Zq t tt ct)) (123))):=(Ext.refl _).alloc _
 generalize (W.alloc (Obj.cells (List.toArray (Zq t tt ct)) (123)))=X at hBX eX ⊢
 refine Qqg (Xw.c15 eX) ?_
 refine Zs (BF X _ f ⟨_,_,rfl,hTf.ext (eW.trans eX),hCf.ext (eW.trans eX)⟩ bf) ?_
 rintro v1 w1 ⟨hD,e1⟩
 have E1:=eW.trans (eX.trans e1)
 have hNB:qY m f t=(ZV [] (Yr f)).all (okN m (ZV [] (Yr t))):=rfl
 generalize ZV [] (Yr f)=D at hD hNB
 obtain ⟨A,c,rfl,hlc,hcm,hlm,YS⟩:=Ze.open hD
 unfold Zb1
 refine Qqk ?_
 refine ZE (λ b w'=>∃ k:Nat,b = .int .i64 k∧k≤D.length∧Ext w1 w'∧qY m f t=(D.drop k).all (okN m (ZV [] (Yr t)))) (λ b _=>D.length - (intOf b).toNat) ⟨0,rfl,by omega,Ext.refl _,hNB⟩ ?_
 rintro _ w2 ⟨k,rfl,hk,e2,hR⟩
 have E2:=E1.trans e2
 have hC:=h.go E2
 rcases ZH hk with ⟨s,hx,hdr,Ym,ZK⟩ | ⟨hk,hdr,ZK⟩
 · obtain ⟨bt',ot,cst,rfl,_,hAt,rfl⟩:=YS k s hx
   rw [hdr,List.all_cons] at hR
   obtain ⟨rv,dv,ev,q,hRv,hdv,hev⟩:=hC.obj
   have rv1:=Ze.oneCell hRv
   refine Qqg ZK ?_
   unfold Zb0
   refine Qqb (hAt.c1 e2) (Za q).1 (Za q).2 ?_
   refine zcr (jP w2 _ m s ⟨_,rfl,hRv.ext hC.ext⟩) λ w3 e3=>?_
   unfold ZbZ
   have fin:∀ (b:Bool) w4,Ext w3 w4→EC w3.drew w4→b=okN m (ZV [] (Yr t)) s→Yb Pg 33 #[Qq4 cb,.bool b,.int .i64 9] (Zj (mR w (qY m f t) ru fi 9)) w4 (λ _ w5=>EC w3.drew w5∧(opV Pg (ZP .add 3 true (.int .i64 k) (.int .i64 1)) (Zj (mR w (qY m f t) ru fi 9)) w5 λ b w'=>(∃ k:Nat,b = .int .i64 k∧k≤D.length∧Ext w1 w'∧qY m f t=(D.drop k).all (okN m (ZV [] (Yr t))))∧D.length - (intOf b).toNat < D.length - (intOf (Value.int IntKind.i64 k)).toNat)):=by
    rintro b w4 e4 x4 rfl
    refine YU (XH (h.go (E2.trans (e3.trans e4))) _ 9) (λ w5 e5 hb=>?_) (λ w5 e5 hb=>?_)
    · rw [hb,Bool.true_and] at hR
      refine ⟨Ext.trans x4 e5,?_⟩
      refine Qqk ?_
      exact ⟨⟨k+1,rfl,Ym,e2.trans (e3.trans (e4.trans e5)),hR⟩,ZQ (kd := .i64) Ym⟩
    · rw [hb,Bool.false_and] at hR
      exact xz (E2.trans (e3.trans (e4.trans e5))) hR rfl
   rcases LO (λ r:MrD=>decide (r.fr=s)) m.rules with ⟨h1,h2,_,_,_⟩ | ⟨i,x,hxi,h1,h2,_,_,_⟩
   · have hp:GN m s=none:=h2
     have hk0:okN m (ZV [] (Yr t)) s=false:=by unfold okN;rw [h1]
     rw [hp,Option.getD_none,show (none:Option Nat).isSome=false from rfl]
     refine Qqk ?_
     refine ZB ?_
     refine Qqk ?_
     unfold Rg
     exact fin false _ (Ext.refl w3).drew (Ext.refl _) hk0.symm
   · have hp:GN m s=some i:=h2
     rw [hp,Option.getD_some,show (some i).isSome=true from rfl]
     refine Qqk ?_
     refine ZB ?_
     obtain ⟨br,or',cr,rfl,_,_,_,hil,helr⟩:=UC hRv hxi
     obtain ⟨csr,_,hAr,hEr⟩:=helr i x hxi
     obtain ⟨fv,rfl,hFr⟩:=hEr
     have q3:=Za (e3.obj q)
     unfold ZbY
     refine Qqm q3.1 q3.2 (hBX.c15 (e1.trans (e2.trans e3))) (hAr.c3 (hC.ext.trans e3)) ?_
     have E3:=E2.trans e3.drew
     refine Zs (BF _ _ t ⟨_,_,rfl,hTt.ext E3,hCt.ext E3⟩ bt) ?_
     rintro v2 w4 ⟨hT2,e4⟩
     refine ⟨e4,?_⟩
     refine zcr (WG w4 _ _ x.to hT2) λ w5 e5=>?_
     refine ⟨e4.trans e5,?_⟩
     have hk1:okN m (ZV [] (Yr t)) s=(ZV [] (Yr t)).any λ y=>decide (x.to=y):=by unfold okN;rw [h1]
     unfold Rg
     refine Qqk ?_
     exact fin _ w5 ((Ext.refl w3).drew.trans (e4.trans e5)) (e4.trans e5) hk1.symm
 · subst hk
   rw [hdr] at hR
   refine Qqg ZK ?_
   exact D3 E2 (by rw [hR];rfl)
end
def CA {s:BAr} {l:List BAr}:s∈ZV [] l↔s∈l:=by rw [U1];simp
def T6 {α:Type} {p:α→Bool} {a b:List α} (h:∀ x,x∈a↔x∈b):a.all p=b.all p:=by
 rw [Bool.eq_iff_iff,List.all_eq_true,List.all_eq_true]
 exact ⟨λ k x hx=>k x ((h x).2 hx),λ k x hx=>k x ((h x).1 hx)⟩
def T7 {α:Type} {p:α→Bool} {a b:List α} (h:∀ x,x∈a↔x∈b):a.any p=b.any p:=by
 rw [Bool.eq_iff_iff,List.any_eq_true,List.any_eq_true]
 exact ⟨λ ⟨x,hx,k⟩=>⟨x,(h x).1 hx,k⟩,λ ⟨x,hx,k⟩=>⟨x,(h x).2 hx,k⟩⟩
def Ig {f:Zt} (h:4≤YV f):f.kind=7∨f.kind=8∨f.kind=12∨f.kind=9:=by
 unfold YV at h
 split at h
 · omega
 · split at h
   · omega
   · split at h
     · omega
     · split at h
       · omega
       · split at h
         · omega
         · split at h<;>omega
def j1 {f:Zt} (h:4≤YV f):Yr f=M5 (some f):=by
 unfold M5 Yr
 rcases Ig h with k | k | k | k<;>simp [k]
def ZaV {m:Xd} {s:BAr} {a b:List BAr} (h:∀ x,x∈a↔x∈b):okN m a s=okN m b s:=by
 unfold okN
 cases m.rules.find? λ r=>decide (r.fr=s) with
 | none=>rfl
 | some r=>exact T7 h
def ZaT {m:Xd} {f t:Zt} (hf:4≤YV f) (ht:4≤YV t):MY m (some f) (some t)=if qY m f t=true then 0 else 9:=by
 unfold MY qY
 rw [← j1 hf,← j1 ht]
 have:((Yr f).all (okN m (Yr t)))=((ZV [] (Yr f)).all (okN m (ZV [] (Yr t)))):=by
  rw [T6 (a:=ZV [] (Yr f)) (b:=Yr f) λ _=>CA]
  congr 1
  funext s
  exact ZaV λ _=>CA.symm
 rw [this]
section
variable {a0 w w0:Wd} {cb p6 p10:Nat} {m:Xd} {d e:Xc} {ru fi:Int}
def OP {r:FrD} (h:inF r=true):Vj (if IntKind.i64.wrap (0 - r.add) > r.add then IntKind.i64.wrap (0 - r.add) else r.add)=jT r.add:=by
 unfold inF zG at h
 simp only [Bool.and_eq_true,decide_eq_true_eq] at h
 obtain ⟨⟨h1,h2⟩,_⟩:=h
 generalize r.add=n at h1 h2
 by_cases hn:n = -9223372036854775808
 · subst hn;decide
 · rw [YF K9 K9]
   unfold Vj jT
   rw [Bool.eq_iff_iff]
   simp only [Bool.and_eq_true,decide_eq_true_eq]
   split<;>omega
def S7 (h:CkM a0 w cb m d e ru fi) (e0:Ext w0 w) (r:FrD) (bv tv:Vl) (o6:w.heap[p6]?=some (.cells (ZC r bv tv).toArray 43 (0,0))) (hT:Q0 w tv r.table) (hB:GT w bv r.bytes)
 (fo to:Option Zt) (tt tc:Vl) (o10:w.heap[p10]?=some (.cells (Zq (to.getD V0) tt tc).toArray 123 (0,0))) (hTt:Z8 w tt (to.getD V0).terms) (hTc:Yu w tc (to.getD V0).cases) (u:Vl) (hu:Z0 w u (fo.getD V0))
 (bf:(Yr (fo.getD V0)).length≤1048576) (bt:(Yr (to.getD V0)).length≤1048576) (hk:1≤r.kind∧r.kind≤7) (hin:inF r=true) :
 Kr (Qq4 cb) (Qq4 p6) (Qq4 p10) (.int .i64 (DO to)) (.tuple #[u,.int .i64 (DO fo)]) (mR w0 (decide (W0 m r fo to=0)) ru fi (W0 m r fo to)) w:=by
 obtain ⟨tf,cf,rfl,hTf,hCf,f1,f2⟩:=hu.op
 obtain ⟨At,ct,rfl,_,_,_,_⟩:=Ze.open hT
 obtain ⟨Ab,cby,rfl,_,_,hbl,_⟩:=Ze.open hB
 unfold Kr
 refine Qqk ?_
 have oV:=Zv w (Zq (fo.getD V0) tf cf).toArray 123
 have eV:Ext w (w.alloc (.cells (Zq (fo.getD V0) tf cf).toArray 123)):=(Ext.refl w).alloc _
 generalize (w.alloc (.cells (Zq (fo.getD V0) tf cf).toArray 123))=V at oV eV ⊢
 generalize w.heap.size=p14 at oV ⊢
 have hC:=h.go eV
 have E:=e0.trans eV
 have q:=(Za (eV.obj o6)).1
 have fin:∀ w',Ext V w'→W0 m r fo to=0→mR w0 (decide (W0 m r fo to=0)) ru fi (W0 m r fo to) (.returned (.tuple #[])) w':=λ w' e' hc=>D3 (E.trans e') (by rw [hc];rfl)
 have pan:∀ w' c,Ext V w'→W0 m r fo to=c→c≠0→Zj (mR w0 (decide (W0 m r fo to=0)) ru fi (W0 m r fo to)) [VS ru fi c] w':=λ w' c e' hc h0=>xz (E.trans e') (by rw [hc];simpa using h0) hc
 generalize hx:DO fo=x
 generalize hy:DO to=y
 have this:r.kind=1∨r.kind=2∨r.kind=3∨r.kind=4∨r.kind=5∨r.kind=6∨r.kind=7:=K9
 have hkc:W0 m r fo to=W0 m r fo to:=rfl
 conv at hkc=>rhs;unfold W0;rw [hx,hy];simp only
 rcases this with hk | hk | hk | hk | hk | hk | hk
 all_goals rw [hk] at hkc
 all_goals simp (disch:=try exact DI) only [↓PR,QR,simprocAttr,q,hk,↓AY,↓AZ,↓A5,↓A6,↓A7,↓A8,↓A9,↓Ba,↓Bb,↓zp,↓zq,↓zu,↓zv,↓zw,↓Kr,↓JI,↓Ks,↓JJ,↓JK,↓JL,↓JM,↓JN]
 · replace hkc:W0 m r fo to=if x≠y∨3 < y then 5 else 0:=hkc
   refine YU (XH hC _ 5) (λ w1 e1 hb=>?_) (λ w1 e1 hb=>?_)
   · simp only [Bool.and_eq_true,beq_iff_eq,decide_eq_true_eq] at hb
     exact fin _ e1 (by rw [hkc,if_neg K9])
   · simp only [Bool.and_eq_false_iff,beq_eq_false_iff_ne,decide_eq_false_iff_not] at hb
     exact pan _ _ e1 (by rw [hkc,if_pos K9]) K7
 · replace hkc:W0 m r fo to=if x≠1∨y≠1 then 5 else if jT r.add=true then 0 else 8:=hkc
   refine YU (XH hC _ 5) (λ w1 e1 hb=>?_) (λ w1 e1 hb=>?_)
   · simp only [Bool.and_eq_true,beq_iff_eq] at hb
     rw [if_neg K9] at hkc
     have q1:=(Za ((eV.trans e1).obj o6)).1
     simp (disch:=try exact DI) only [↓PR,QR,simprocAttr,q1,↓AY,↓AZ,↓A5,↓A6,↓A7,↓A8,↓A9,↓Ba,↓Bb,↓zp,↓zq,↓zu,↓zv,↓zw,↓Kr,↓JI,↓Ks,↓JJ,↓JK,↓JL,↓JM,↓JN]
     refine Zs (Q9 w1 _) ?_
     rintro _ w2 ⟨rfl,hw⟩
     rw [hw,OP hin]
     refine YU (XH (hC.go e1) _ 8) (λ w3 e3 hb=>?_) (λ w3 e3 hb=>?_)
     · exact fin _ (e1.trans e3) (by rw [hkc,if_pos hb])
     · exact pan _ _ (e1.trans e3) (by rw [hkc,hb];rfl) K7
   · simp only [Bool.and_eq_false_iff,beq_eq_false_iff_ne] at hb
     exact pan _ _ e1 (by rw [hkc,if_pos K9]) K7
 · replace hkc:W0 m r fo to=if y≠1 then 5 else if Vj r.value=true then 0 else 8:=hkc
   refine YU (XH hC _ 5) (λ w1 e1 hb=>?_) (λ w1 e1 hb=>?_)
   · simp only [beq_iff_eq] at hb
     rw [if_neg K9] at hkc
     have q1:=(Za ((eV.trans e1).obj o6)).1
     simp (disch:=try exact DI) only [↓PR,QR,simprocAttr,q1,↓AY,↓AZ,↓A5,↓A6,↓A7,↓A8,↓A9,↓Ba,↓Bb,↓zp,↓zq,↓zu,↓zv,↓zw,↓Kr,↓JI,↓Ks,↓JJ,↓JK,↓JL,↓JM,↓JN]
     refine Zs (Q9 w1 _) ?_
     rintro _ w2 ⟨rfl,hw⟩
     rw [hw]
     refine YU (XH (hC.go e1) _ 8) (λ w3 e3 hb=>?_) (λ w3 e3 hb=>?_)
     · exact fin _ (e1.trans e3) (by rw [hkc,if_pos hb])
     · exact pan _ _ (e1.trans e3) (by rw [hkc,hb];rfl) K7
   · simp only [beq_eq_false_iff_ne] at hb
     exact pan _ _ e1 (by rw [hkc,if_pos K9]) K7
 · replace hkc:W0 m r fo to=if y≠2 then 5 else if 1000 < r.bytes.length then 2 else 0:=hkc
   refine YU (XH hC _ 5) (λ w1 e1 hb=>?_) (λ w1 e1 hb=>?_)
   · simp only [beq_iff_eq] at hb
     rw [if_neg K9] at hkc
     have q1:=(Za ((eV.trans e1).obj o6)).1
     simp (disch:=try exact DI) only [↓PR,QR,simprocAttr,q1,↓AY,↓AZ,↓A5,↓A6,↓A7,↓A8,↓A9,↓Ba,↓Bb,↓zp,↓zq,↓zu,↓zv,↓zw,↓Kr,↓JI,↓Ks,↓JJ,↓JK,↓JL,↓JM,↓JN]
     refine YU (XH (hC.go e1) _ 2) (λ w3 e3 hb=>?_) (λ w3 e3 hb=>?_)
     · simp only [decide_eq_true_eq] at hb
       exact fin _ (e1.trans e3) (by rw [hkc,if_neg K9])
     · simp only [decide_eq_false_iff_not] at hb
       exact pan _ _ (e1.trans e3) (by rw [hkc,if_pos K9]) K7
   · simp only [beq_eq_false_iff_ne] at hb
     exact pan _ _ e1 (by rw [hkc,if_pos K9]) K7
 · replace hkc:W0 m r fo to=if x≠1∨y≠1 then 5 else WJ r.table:=hkc
   refine YU (XH hC _ 5) (λ w1 e1 hb=>?_) (λ w1 e1 hb=>?_)
   · simp only [Bool.and_eq_true,beq_iff_eq] at hb
     rw [if_neg K9] at hkc
     have q1:=(Za ((eV.trans e1).obj o6)).1
     simp (disch:=try exact DI) only [↓PR,QR,simprocAttr,q1,↓AY,↓AZ,↓A5,↓A6,↓A7,↓A8,↓A9,↓Ba,↓Bb,↓zp,↓zq,↓zu,↓zv,↓zw,↓Kr,↓JI,↓Ks,↓JJ,↓JK,↓JL,↓JM,↓JN]
     refine YU (ZeT (hC.go e1) _ _ (hT.ext (eV.trans e1))) (λ w3 e3 hb=>?_) (λ w3 e3 hb=>?_)
     · exact fin _ (e1.trans e3) (by rw [hkc];simpa using hb)
     · exact pan _ _ (e1.trans e3) hkc (by simpa using hb)
   · simp only [Bool.and_eq_false_iff,beq_eq_false_iff_ne] at hb
     exact pan _ _ e1 (by rw [hkc,if_pos K9]) K7
 · replace hkc:W0 m r fo to=if x≠y∨y < 4 then 5 else MY m fo to:=hkc
   refine YU (XH hC _ 5) (λ w1 e1 hb=>?_) (λ w1 e1 hb=>?_)
   · simp only [Bool.and_eq_true,beq_iff_eq,decide_eq_true_eq] at hb
     rw [if_neg K9] at hkc
     cases fo with
     | none=>have:(0:Int)=x:=hx;omega
     | some f=>
     cases to with
     | none=>have:(0:Int)=y:=hy;omega
     | some t=>
     have c1:YV f=x:=hx
     have c2:YV t=y:=hy
     rw [ZaT K9 K9] at hkc
     have e01:=eV.trans e1
     have q2:=(Za (e1.obj oV)).1
     have q3:=(Za (e01.obj o10)).1
     simp (disch:=try exact DI) only [↓PR,QR,simprocAttr,q2,q3,↓AY,↓AZ,↓A5,↓A6,↓A7,↓A8,↓A9,↓Ba,↓Bb,↓zp,↓zq,↓zu,↓zv,↓zw,↓Kr,↓JI,↓Ks,↓JJ,↓JK,↓JL,↓JM,↓JN]
     refine YU (SY (hC.go e1) _ _ f t ⟨_,_,rfl,Z8.ext hTf e01,Yu.ext hCf e01⟩ ⟨_,_,rfl,Z8.ext hTt e01,Yu.ext hTc e01⟩ bf bt) (λ w3 e3 hb=>?_) (λ w3 e3 hb=>?_)
     · exact fin _ (e1.trans e3) (by rw [hkc,if_pos hb])
     · exact pan _ _ (e1.trans e3) (by rw [hkc,hb];rfl) K7
   · simp only [Bool.and_eq_false_iff,beq_eq_false_iff_ne,decide_eq_false_iff_not] at hb
     exact pan _ _ e1 (by rw [hkc,if_pos K9]) K7
 · replace hkc:W0 m r fo to=if y≠1 then 5 else 0:=hkc
   refine YU (XH hC _ 5) (λ w1 e1 hb=>?_) (λ w1 e1 hb=>?_)
   · simp only [beq_iff_eq] at hb
     exact fin _ e1 (by rw [hkc,if_neg K9])
   · simp only [beq_eq_false_iff_ne] at hb
     exact pan _ _ e1 (by rw [hkc,if_pos K9]) K7
end
def OA {k:Int} {u:DD} (h:WE k=some u):1≤k∧k≤7:=by
 unfold WE at h
 by_cases h7:1≤k∧k≤7
 · exact h7
 · rw [if_neg K9,if_neg K9,if_neg K9,if_neg K9,if_neg K9,if_neg K9,if_neg K9] at h
   cases h
def JV:DD:=⟨false,false,false,false,false⟩
section
variable {a0 w:Wd} {cb:Nat} {m:Xd} {d e:Xc} {ru fi:Int}
def Zjb (h:CkM a0 w cb m d e ru fi) (rv av bv lv:Vl) (r:FrD) (a b:Yh) (l:List FrD) (hr:Ws w rv r) (ha:Qt w av a) (hb:Qt w bv b) (hl:WK w lv l) (hin:inF r=true)
 (ba:∀ f∈a.fields,(Yr f).length≤1048576) (bb:∀ f∈b.fields,(Yr f).length≤1048576) :
 Calls Pg 77 #[Qq4 cb,rv,av,bv,lv] w (mR w (decide (B9 m r a b l=0)) ru fi (B9 m r a b l)):=by
 obtain ⟨bv1,tv1,rfl,hB,hT,o1,o2⟩:=hr.op
 obtain ⟨fa,rfl,hFa⟩:=ha
 obtain ⟨fb,rfl,hFb⟩:=hb
 have p1:=Ze.oneCell hFa
 have p2:=Ze.oneCell hFb
 have refb:∀ (f:Option Zt),f=QF b r.to→(Yr (f.getD V0)).length≤1048576:=by
  rintro _ rfl
  cases hp:QF b r.to with
  | none=>decide
  | some f=>exact bb f (List.mem_of_find?_eq_some hp)
 have refa:∀ (f:Option Zt),f=QF a r.fr→(Yr (f.getD V0)).length≤1048576:=by
  rintro _ rfl
  cases hp:QF a r.fr with
  | none=>decide
  | some f=>exact ba f (List.mem_of_find?_eq_some hp)
 refine Zk3 ?_;unfold n29
 rw [Yi]
 have oW:=Zv w (ZC r bv1 tv1).toArray 43
 have eW:Ext w (w.alloc (.cells (ZC r bv1 tv1).toArray 43)):=(Ext.refl w).alloc _
 generalize (w.alloc (.cells (ZC r bv1 tv1).toArray 43))=W at oW eW ⊢
 generalize w.heap.size=p6 at oW ⊢
 rw [Yi]
 have hBX:=Z6.new (w:=W) (ZZ a fa) (74)
 have eX:Ext W (W.alloc (Obj.cells (List.toArray (ZZ a fa)) (74))):=(Ext.refl _).alloc _
 generalize (W.alloc (Obj.cells (List.toArray (ZZ a fa)) (74)))=X at hBX eX ⊢
 rw [Yi]
 have hBY:=Z6.new (w:=X) (ZZ b fb) (74)
 have eY:Ext X (X.alloc (Obj.cells (List.toArray (ZZ b fb)) (74))):=(Ext.refl _).alloc _
 generalize (X.alloc (Obj.cells (List.toArray (ZZ b fb)) (74)))=Y at hBY eY ⊢
 have EY:=eW.trans (eX.trans eY)
 generalize hCC:B9 m r a b l=C
 have pan:∀ w' c,Ext w w'→C=c→c≠0→Zj (mR w (decide (C=0)) ru fi C) [VS ru fi c] w':=λ w' c e' hc h0=>xz e' (by rw [hc];simpa using h0) hc
 unfold B9 at hCC
 refine Qqh (hBY.c2 (Ext.refl Y)) (Za ((eX.trans eY).obj oW)).1 ?_
 refine Zs (CC Y _ b r.to ⟨_,rfl,hFb.ext EY⟩) ?_
 rintro _ w1 ⟨⟨u,rfl,hu⟩,e1⟩
 obtain ⟨tf,cf,rfl,hTf,hCf,f1,f2⟩:=hu.op
 unfold JN
 refine Qqk ?_
 have oV:=Zv w1 (Zq ((QF b r.to).getD V0) tf cf).toArray 123
 have eV:Ext w1 (w1.alloc (.cells (Zq ((QF b r.to).getD V0) tf cf).toArray 123)):=(Ext.refl w1).alloc _
 generalize (w1.alloc (.cells (Zq ((QF b r.to).getD V0) tf cf).toArray 123))=V at oV eV ⊢
 generalize w1.heap.size=p10 at oV ⊢
 have EV:=EY.trans (e1.trans eV)
 refine YU (XH (h.go EV) _ 5) (λ w2 e2 hb=>?_) (λ w2 e2 hb=>?_)
 case refine_2=>
  simp only [bne_eq_false_iff_eq] at hb
  rw [if_pos hb] at hCC
  exact pan _ _ (EV.trans e2) hCC.symm K7
 simp only [bne_iff_ne,ne_eq] at hb
 rw [if_neg hb] at hCC
 refine Qqk ?_
 refine Zs (W9 w2 _ l _ _ (λ x=>decide (x.to=r.to)) (hl.ext (EV.trans e2)) ZjF λ w' v x _ e' hv=>?_) ?_
 · exact N5 w' v x r hv _ bv1 tv1 (((eX.trans eY).trans (e1.trans (eV.trans (e2.trans e')))).obj oW)
 rintro _ w3 ⟨rfl,e3⟩
 have E3:=EV.trans (e2.trans e3)
 unfold JM
 refine Qqk ?_
 refine YU (XH (h.go E3) _ 4) (λ w4 e4 hq=>?_) (λ w4 e4 hq=>?_)
 case refine_2=>
  simp only [Bool.not_eq_false'] at hq
  rw [if_pos hq] at hCC
  exact pan _ _ (E3.trans e4) hCC.symm K7
 simp only [Bool.not_eq_true'] at hq
 rw [hq,if_neg (by simp)] at hCC
 have E4:=E3.trans e4
 have rest:∀ (w5:Wd) (p12:Nat) (us:Option DD),us=WE r.kind→Ext w4 w5→w5.heap[p12]?=some (.cells #[.bool (us.getD JV).fr,.bool (us.getD JV).add,.bool (us.getD JV).value,.bool (us.getD JV).bytes,.bool (us.getD JV).table] 105 (0,0)) →
  Yb Pg 33 #[Qq4 cb,.bool us.isSome,.int .i64 6] (Zj (mR w (decide (C=0)) ru fi C)) w5 λ _ w6=>Ks (Qq4 cb) (Qq4 p6) (Qq4 W.heap.size) (Qq4 p10) (Qq4 p12) (.int .i64 (DO (QF b r.to))) (mR w (decide (C=0)) ru fi C) w6:=by
  intro w5 p12 us hus e5 o12
  have E5:=E4.trans e5
  rw [← hus] at hCC
  refine YU (XH (h.go E5) _ 6) (λ w6 e6 hq=>?_) (λ w6 e6 hq=>?_)
  case refine_2=>
   cases us with
   | some _=>cases hq
   | none=>exact pan _ _ (E5.trans e6) hCC.symm K7
  cases us with
  | none=>cases hq
  | some x=>
  have E6:=E5.trans e6
  have e46:=e5.trans e6
  have hk:=OA hus.symm
  have o6:w6.heap[p6]?=some (.cells (ZC r bv1 tv1).toArray 43 (0,0)):=((eX.trans eY).trans (e1.trans (eV.trans (e2.trans (e3.trans (e4.trans e46)))))).obj oW
  have q12:=(Za (e6.obj o12)).1
  unfold Ks
  refine Qqh (Za o6).1 q12 ?_
  refine zcr (Cy w6 _ r ⟨_,_,rfl,hB.ext E6,hT.ext E6⟩ x) λ w7 e7=>?_
  replace hCC:(if Jj r x=false then 7 else W0 m r (QF a r.fr) (QF b r.to))=C:=hCC
  have E7:=E6.trans e7
  refine YU (XH (h.go E7) _ 7) (λ w8 e8 hq=>?_) (λ w8 e8 hq=>?_)
  case refine_2=>
   rw [if_pos hq] at hCC
   exact pan _ _ (E7.trans e8) hCC.symm K7
  rw [hq,if_neg K7] at hCC
  have E8:=E7.trans e8
  have e68:=e7.trans e8
  have e48:=e46.trans e68
  have eV8:Ext V w8:=e2.trans (e3.trans (e4.trans e48))
  unfold JI
  refine Qqh (hBX.c2 (eY.trans (e1.trans (eV.trans eV8)))) (Za (e68.obj o6)).1 ?_
  refine Zs (CC w8 _ a r.fr ⟨_,rfl,hFa.ext E8⟩) ?_
  rintro _ w9 ⟨⟨u2,rfl,hu2⟩,e9⟩
  rw [← hCC]
  have E9:=E8.trans e9
  exact S7 (h.go E9) E9 r bv1 tv1 ((e68.trans e9).obj o6) (hT.ext E9) (hB.ext E9) (QF a r.fr) (QF b r.to) tf cf ((eV8.trans e9).obj oV) (hTf.ext (eV.trans (eV8.trans e9))) (hCf.ext (eV.trans (eV8.trans e9))) u2 hu2 (refa _ rfl) (refb _ rfl) hk hin
 refine ZB ?_
 unfold JL
 have eD:Ext w4 w4.drew:=(Ext.refl _).wdrew
 have o64:w4.heap[p6]?=some (.cells (ZC r bv1 tv1).toArray 43 (0,0)):=((eX.trans eY).trans (e1.trans (eV.trans (e2.trans (e3.trans e4))))).obj oW
 refine Qqg (Za o64).1 ?_
 have hget:((WE r.kind).map Co).getD (.agg #[.bool false,.bool false,.bool false,.bool false,.bool false]) = .agg #[.bool ((WE r.kind).getD JV).fr,.bool ((WE r.kind).getD JV).add,.bool ((WE r.kind).getD JV).value,.bool ((WE r.kind).getD JV).bytes,.bool ((WE r.kind).getD JV).table]:=by cases WE r.kind<;>rfl
 refine ⟨?_,(Ext.refl _).alloc _,?_⟩
 · refine Zs (Ko _) ?_
   rintro _ w6 ⟨mm,L,c,rfl,hm,hM,hL,e6⟩
   refine Ue e6 hM ?_
   unfold JJ
   simp only [Kj]
   rw [VN underlying106 (Q6.int underlying39) Ka ⟨w6,e6,hM⟩,hL r.kind,hget,Option.isSome_map]
   haveI:Xb (KM w4.drew mm XG L c):=⟨⟨w6,e6,hM⟩⟩
   refine Qqk ?_
   exact ⟨⟨e6.alloc _,hM.ext ((Ext.refl _).alloc _)⟩,⟨e6.alloc _,hM.ext ((Ext.refl _).alloc _)⟩,rest _ _ _ rfl (eD.trans (e6.alloc _)) (Zv _ _ _)⟩
 · refine Zs (Ko _) ?_
   rintro _ w6 ⟨mm,L,c,rfl,hm,hM,hL,e6⟩
   have e6':=((Ext.refl w4.drew).alloc (Obj.cells #[Value.bool false,Value.bool false,Value.bool false,Value.bool false,Value.bool false] 105)).trans e6
   refine Ue e6' hM ?_
   unfold JK
   simp only [Kj]
   rw [VN underlying106 (Q6.int underlying39) Ka ⟨w6,e6',hM⟩,hL r.kind,hget,Option.isSome_map]
   haveI:Xb (KM w4.drew mm XG L c):=⟨⟨w6,e6',hM⟩⟩
   have o12:w6.heap[w4.heap.size]?=some (.cells #[Value.bool false,Value.bool false,Value.bool false,Value.bool false,Value.bool false] 105 (0,0)):=e6.obj (Zv w4.drew #[Value.bool false,Value.bool false,Value.bool false,Value.bool false,Value.bool false] 105)
   refine Qqh (Za o12).1 (Za o12).2 ?_
   generalize hU:(WE r.kind).getD JV=U at rest
   have z:=Zy (o:=4) (Zy (o:=3) (Zy (o:=2) (Zy (o:=1) (Zy (o:=0) o12 (.bool U.fr)) (.bool U.add)) (.bool U.value)) (.bool U.bytes)) (.bool U.table)
   have hz:w4.drew.heap.size≤w4.heap.size:=Nat.le_refl _
   have eZ:=((((e6'.setCell (p:=⟨w4.heap.size,0,none⟩) hz (.bool U.fr)).setCell (p:=⟨w4.heap.size,1,none⟩) hz (.bool U.add)).setCell (p:=⟨w4.heap.size,2,none⟩) hz (.bool U.value)).setCell (p:=⟨w4.heap.size,3,none⟩) hz (.bool U.bytes)).setCell (p:=⟨w4.heap.size,4,none⟩) hz (.bool U.table)
   exact ⟨⟨eZ,((((hM.setCell _ _).setCell _ _).setCell _ _).setCell _ _).setCell _ _⟩,rest _ _ _ rfl (eD.trans eZ) (by rw [hU];simpa using z)⟩
end
section
variable {a0 w:Wd} {cb:Nat} {m:Xd} {d e:Xc} {ru fi:Int}
def msR (a0:Wd) (cb:Nat) (m:Xd) (d e:Xc) (ru:Int) (q:Int×Int):Ending→Wd→Prop:=λ x w'=>Ext a0 w'∧(q.2=0∧x = .returned (.tuple #[])∧CkM a0 w' cb m d e ru (-1)∨q.2≠0∧x = .panicked [VS ru q.1 q.2])
def jB {w':Wd} {q:Int×Int} {f c:Int} (x:Ext a0 w') (h:q=(f,c)) (h0:c≠0):Zj (msR a0 cb m d e ru q) [VS ru f c] w':=⟨x,.inr ⟨by rw [h];exact h0,by rw [h]⟩⟩
def Ze.pre {α:Type} {w:Wd} {n:Nat} {E:Wd→List Vl→α→Prop} {A:Option Addr} {c:Nat} {l:List α} (h:Ze w n E (.slice A l.length c) l) (k:Nat) (hk:k≤l.length):Ze w n E (.slice A k c) (l.take k):=by
 obtain ⟨A',c',hv,h2,h3,h4⟩:=h
 injection hv with hA _ hc
 subst hA hc
 have hl:(l.take k).length=k:=by rw [List.length_take];omega
 refine ⟨_,_,by rw [hl],by rw [hl];omega,h3,λ Y3=>?_⟩
 obtain ⟨b,o,hA,YS⟩:=h4 (by rintro rfl;simp at Y3)
 refine ⟨b,o,hA,λ i y hy=>YS i y ?_⟩
 rw [List.getElem?_take] at hy
 split at hy
 · exact hy
 · cases hy
def NY (h:CkM a0 w cb m d e ru fi) (l:List FrD) (fv:Vl) (hF:WK a0 fv l) (b:Yh) (fb:Vl) (hFb:YX a0 fb b.fields) (p3 p6:Nat) (n3:p3≠cb) (n6:p6≠cb) (fr to:BAr) (o3:w.heap[p3]?=some (.cells #[.string fr,.string to,fv] 60 (0,0))) (o6:w.heap[p6]?=some (.cells (ZZ b fb).toArray 74 (0,0)))
 (Q:Int×Int) (hq:Q=if (b.fields.any (GG l))=true then (-1,10) else (-1,0)) :
 CK (Qq4 cb) (Qq4 p3) (Qq4 p6) (msR a0 cb m d e ru Q) w:=by
 obtain ⟨rv',dv,ev,q,hRv,hdv,hev⟩:=h.obj
 have p1:=Ze.oneCell hF
 obtain ⟨A,c,rfl,hlc,hcm,hlm,YS⟩:=Ze.open hFb
 unfold CK
 refine Qqb (Za q).1 (Za q).2 (Za o6).1 ?_
 have hC2:=h.setField (-1)
 have y3:=(YT.setCell w cb 9 (.int .i64 (-1)) p3 n3).trans o3
 have y6:=(YT.setCell w cb 9 (.int .i64 (-1)) p6 n6).trans o6
 generalize (w.setCell ⟨cb,9,none⟩ (.int .i64 (-1)))=X at hC2 y3 y6 ⊢
 refine ZE (λ i w'=>∃ k:Nat,i = .int .i64 k∧k≤b.fields.length∧Ext X w'∧b.fields.any (GG l)=(b.fields.drop k).any (GG l)) (λ i _=>b.fields.length - (intOf i).toNat) ⟨0,rfl,by omega,Ext.refl _,rfl⟩ ?_
 rintro _ w1 ⟨k,rfl,hk,e1,hR⟩
 have E1:=hC2.ext.trans e1
 rcases ZH hk with ⟨x,hx,hdr,Ym,ZK⟩ | ⟨hk,hdr,ZK⟩
 · obtain ⟨bt,ot,cst,rfl,_,hAt,hE⟩:=YS k x hx
   obtain ⟨tv,cv,rfl,hT,hC,t1,c1⟩:=hE.op
   rw [hdr,List.any_cons] at hR
   refine Qqg ZK ?_
   unfold F4
   refine Qqg (hAt.c15 E1) ?_
   have oV:=Zv w1 (Zq x tv cv).toArray 123
   have eV:Ext w1 (w1.alloc (.cells (Zq x tv cv).toArray 123)):=(Ext.refl w1).alloc _
   generalize (w1.alloc (.cells (Zq x tv cv).toArray 123))=V at oV eV ⊢
   generalize w1.heap.size=p13 at oV ⊢
   have e2:=e1.trans eV
   have E2:=hC2.ext.trans e2
   refine Qqg (Za (e2.obj y3)).1 ?_
   refine zcr (W9 V _ l _ _ (λ y=>decide (y.to=x.name)) (hF.ext E2) c79 λ w' v y _ e' hv=>AC w' v y x hv _ tv cv (e'.obj oV)) λ w3 e3=>?_
   have e13:=e2.trans e3
   have fin:∀ (w4:Wd) (bb:Bool),Ext X w4→bb=!GG l x→Yb Pg 33 #[Qq4 cb,.bool bb,.int .i64 10] (Zj (msR a0 cb m d e ru Q)) w4 λ _ w5=>opV Pg (ZP .add 3 true (.int .i64 k) (.int .i64 1)) (Zj (msR a0 cb m d e ru Q)) w5 λ i w'=>(∃ k:Nat,i = .int .i64 k∧k≤b.fields.length∧Ext X w'∧b.fields.any (GG l)=(b.fields.drop k).any (GG l))∧b.fields.length - (intOf i).toNat < b.fields.length - (intOf (Value.int IntKind.i64 k)).toNat:=by
    rintro w4 bb e4 rfl
    refine YU (XH (hC2.go e4) _ 10) (λ w5 e5 hb=>?_) (λ w5 e5 hb=>?_)
    · simp only [Bool.not_eq_true'] at hb
      rw [hb,Bool.false_or] at hR
      refine Qqk ?_
      exact ⟨⟨k+1,rfl,Ym,e4.trans e5,hR⟩,ZQ (kd := .i64) Ym⟩
    · simp only [Bool.not_eq_false'] at hb
      rw [hb,Bool.true_or] at hR
      exact jB (hC2.ext.trans (e4.trans e5)) (by rw [hq,if_pos hR]) K7
   unfold F1
   unfold GG at fin
   generalize (l.any λ y=>decide (y.to=x.name))=g at fin
   cases g with
   | true=>
    simp (disch:=try exact DI) only [↓PR,QR,simprocAttr,↓FZ,↓Mv,↓F1,↓F4,↓CK,↓F9,↓CL,↓Ha,↓Hb,↓xO,↓AT,↓AU,↓xP,↓AV,↓AW,↓AX]
    exact fin w3 _ e13 (by simp)
   | false=>
    simp (disch:=try exact DI) only [↓PR,QR,simprocAttr,↓FZ,↓Mv,↓F1,↓F4,↓CK,↓F9,↓CL,↓Ha,↓Hb,↓xO,↓AT,↓AU,↓xP,↓AV,↓AW,↓AX,(Za (e3.obj oV)).1]
    refine zcr (Ji w3 _ x ⟨_,_,rfl,hT.ext (E2.trans e3),hC.ext (E2.trans e3)⟩) λ w4 e4=>?_
    simp (disch:=try exact DI) only [↓PR,QR,simprocAttr,↓FZ,↓Mv,↓F1,↓F4,↓CK,↓F9,↓CL,↓Ha,↓Hb,↓xO,↓AT,↓AU,↓xP,↓AV,↓AW,↓AX]
    exact fin w4 _ (e13.trans e4) (by by_cases hz:YV x=0<;>simp [hz])
 · subst hk
   rw [hdr,List.any_nil] at hR
   rw [hR,if_neg (by simp)] at hq
   refine Qqg ZK ?_
   exact ⟨E1,.inl ⟨by rw [hq],rfl,hC2.go e1⟩⟩
def Pe (h:CkM a0 w cb m d e ru (-1)) (r:MrD) (fv:Vl) (hF:WK a0 fv r.fields) (a b:Yh) (fa fb:Vl) (hFa:YX a0 fa a.fields) (hFb:YX a0 fb b.fields) (hin:∀ x∈r.fields,inF x=true)
 (ba:∀ f∈a.fields,(Yr f).length≤1048576) (bb:∀ f∈b.fields,(Yr f).length≤1048576) (p3 p4 p6:Nat) (n3:p3≠cb) (n4:p4≠cb) (n6:p6≠cb) (o3:w.heap[p3]?=some (.cells (ZT r fv).toArray 60 (0,0))) (o4:w.heap[p4]?=some (.cells (ZZ a fa).toArray 74 (0,0))) (o6:w.heap[p6]?=some (.cells (ZZ b fb).toArray 74 (0,0)))
 (Q:Int×Int) (hq:Q=if (WR m a b r.fields 0 r.fields).2≠0 then WR m a b r.fields 0 r.fields else if (b.fields.any (GG r.fields))=true then (-1,10) else (-1,0)) :
 CL (Qq4 cb) (Qq4 p3) (Qq4 p4) (Qq4 p6) (msR a0 cb m d e ru Q) w:=by
 obtain ⟨A,c,rfl,hlc,hcm,hlm,YS⟩:=Ze.open hF
 have p1:=Ze.oneCell hFa
 have p2:=Ze.oneCell hFb
 unfold CL
 refine Qqg (Za o3).1 ?_
 refine ZE (λ i w'=>∃ (k:Nat) (fl:Int),i = .int .i64 k∧k≤r.fields.length∧CkM a0 w' cb m d e ru fl∧w'.heap[p3]?=some (.cells (ZT r (.slice A r.fields.length c)).toArray 60 (0,0))∧w'.heap[p4]?=some (.cells (ZZ a fa).toArray 74 (0,0))∧w'.heap[p6]?=some (.cells (ZZ b fb).toArray 74 (0,0))∧WR m a b r.fields 0 r.fields=WR m a b r.fields k (r.fields.drop k)) (λ i _=>r.fields.length - (intOf i).toNat) ⟨0,-1,rfl,by omega,h,o3,o4,o6,rfl⟩ ?_
 rintro _ w1 ⟨k,fl,rfl,hk,hC,x3,x4,x6,hR⟩
 obtain ⟨rv',dv,ev,q,hRv,hdv,hev⟩:=hC.obj
 rcases ZH hk with ⟨x,hx,hdr,Ym,ZK⟩ | ⟨hk,hdr,ZK⟩
 · obtain ⟨bt,ot,cst,rfl,_,hAt,hE⟩:=YS k x hx
   obtain ⟨bv1,tv1,rfl,hB,hT,z1,z2⟩:=hE.op
   refine Qqg ZK ?_
   unfold F9
   have lcb:=(Qqq q).1
   refine Qqg (hAt.c7 hC.ext) ?_
   have oV:=Zv w1 (ZC x bv1 tv1).toArray 43
   have eV:Ext w1 (w1.alloc (.cells (ZC x bv1 tv1).toArray 43)):=(Ext.refl w1).alloc _
   generalize (w1.alloc (.cells (ZC x bv1 tv1).toArray 43))=V at oV eV ⊢
   have n11:w1.heap.size≠cb:=K9
   generalize w1.heap.size=p11 at oV n11 ⊢
   have qV:=Za (eV.obj q)
   refine Qqb (Za q).1 qV.1 qV.2 ?_
   have hC2:=(hC.go eV).setField (k:Int)
   have y3:=(YT.setCell V cb 9 (.int .i64 (k:Int)) p3 n3).trans (eV.obj x3)
   have y4:=(YT.setCell V cb 9 (.int .i64 (k:Int)) p4 n4).trans (eV.obj x4)
   have y6:=(YT.setCell V cb 9 (.int .i64 (k:Int)) p6 n6).trans (eV.obj x6)
   have y11:=(YT.setCell V cb 9 (.int .i64 (k:Int)) p11 n11).trans oV
   generalize (V.setCell ⟨cb,9,none⟩ (.int .i64 (k:Int)))=X at hC2 y3 y4 y6 y11 ⊢
   refine ZB ?_
   unfold FZ
   refine Qqm (Za y3).1 (Za y4).1 (Za y6).1 (Za y11).1 ?_
   rw [YG λ QP w' k'=>Uk underlying58 KE bt ot r.fields.length c .i64 k K9]
   refine Qqk ?_
   have eD:Ext X X.drew:=(Ext.refl X).wdrew
   have E:=hC2.ext.trans eD
   have YH:(r.fields.take k).length=k:=by rw [List.length_take];omega
   have Qu:WR m a b r.fields 0 r.fields=if B9 m x a b (r.fields.take k)≠0 then ((k:Int),B9 m x a b (r.fields.take k)) else WR m a b r.fields (k+1) (r.fields.drop (k+1)):=by rw [hR,hdr,WR]
   refine YU (Zjb (hC2.go eD) _ _ _ _ x a b (r.fields.take k) ⟨_,_,rfl,hB.ext E,hT.ext E⟩ ⟨_,rfl,hFa.ext E⟩ ⟨_,rfl,hFb.ext E⟩ ((Ze.pre hF k K9).ext Py E) (hin x (List.mem_of_getElem? hx)) ba bb) (λ w5 e5 hb=>?_) (λ w5 e5 hb=>?_)
   · have h0:B9 m x a b (r.fields.take k)=0:=by simpa using hb
     rw [if_neg (by simpa using h0)] at Qu
     refine ⟨e5,?_⟩
     have e':=eD.trans e5
     refine Qqk ?_
     exact ⟨⟨k+1,k,rfl,Ym,hC2.go e',e'.obj y3,e'.obj y4,e'.obj y6,Qu⟩,ZQ (kd := .i64) Ym⟩
   · have h0:B9 m x a b (r.fields.take k)≠0:=by simpa using hb
     rw [if_pos h0] at Qu
     exact jB (E.trans e5) (by rw [hq,Qu,if_pos h0]) h0
 · subst hk
   rw [hdr,WR] at hR
   rw [hR,if_neg (by simp)] at hq
   refine Qqg ZK ?_
   exact NY hC r.fields _ hF b fb hFb p3 p6 n3 n6 r.fr r.to x3 x6 Q hq
def Iu (h:CkM a0 w cb m d e ru (-1)) (i:Nat) (hru:ru=i) (rv:Vl) (r:MrD) (hr:UT a0 rv r) (hri:m.rules[i]?=some r) (hin:∀ x∈r.fields,inF x=true)
 (bd:∀ x∈d.msgs,∀ f∈x.fields,(Yr f).length≤1048576) (be:∀ x∈e.msgs,∀ f∈x.fields,(Yr f).length≤1048576) :
 Calls Pg 36 #[Qq4 cb,rv] w (msR a0 cb m d e ru (Dn m d e i r)):=by
 obtain ⟨fv,rfl,hF,o1⟩:=hr.op
 have E0:=h.ext
 refine ZkZ ?_;unfold n25
 rw [Yi]
 have oW:=Zv w (ZT r fv).toArray 60
 have eW:Ext w (w.alloc (.cells (ZT r fv).toArray 60)):=(Ext.refl w).alloc _
 generalize (w.alloc (.cells (ZT r fv).toArray 60))=W at oW eW ⊢
 have lcb0:cb < w.heap.size:=by obtain ⟨_,_,_,z,_⟩:=h.obj;exact (Qqq z).1
 generalize w.heap.size=p3 at oW lcb0 ⊢
 have hC:=h.go eW
 obtain ⟨rv',dv,ev,q,hRv,hdv,hev⟩:=hC.obj
 have d1:=Ze.oneCell hdv
 have d2:=Ze.oneCell hev
 generalize hq:Dn m d e i r=Q
 refine ZB ?_
 unfold AX
 refine Qqh (Za q).1 (Za oW).1 ?_
 obtain ⟨A,hA⟩:∃ A,FY d r.fr=A:=⟨_,rfl⟩
 obtain ⟨B,hB⟩:∃ B,FY e r.to=B:=⟨_,rfl⟩
 have rest2:∀ (w5:Wd) (p4 p6:Nat) (fa fb:Vl),Ext W w5→p4≠cb→p6≠cb→w5.heap[p4]?=some (.cells (ZZ (A.getD Gi) fa).toArray 74 (0,0))→YX a0 fa (A.getD Gi).fields→w5.heap[p6]?=some (.cells (ZZ (B.getD Gi) fb).toArray 74 (0,0))→YX a0 fb (B.getD Gi).fields →
  xO (Qq4 cb) (Qq4 p3) (Qq4 p4) (.bool A.isSome) (Qq4 p6) (.bool B.isSome) (msR a0 cb m d e ru Q) w5:=by
  intro w5 p4 p6 fa fb e5 n4 n6 o4 hFa o6 hFb
  have hC5:=hC.go e5
  unfold xO
  refine Qqk ?_
  refine YU (XH hC5 _ 3) (λ w7 e7 hb=>?_) (λ w7 e7 hb=>?_)
  case refine_2=>
   refine jB (hC5.ext.trans e7) ?_ K7
   rw [← hq]
   unfold Dn
   rw [hA,hB]
   cases A with
   | none=>rfl
   | some a=>cases B with
    | none=>rfl
    | some b=>cases hb
  cases A with
  | none=>cases hb
  | some a=>
  cases B with
  | none=>cases hb
  | some b=>
  replace hq:(if GN m r.fr≠some i then ((-1:Int),(4:Int)) else if (WR m a b r.fields 0 r.fields).2≠0 then WR m a b r.fields 0 r.fields else if (b.fields.any (GG r.fields))=true then (-1,10) else (-1,0))=Q:=by
   rw [← hq];unfold Dn;rw [hA,hB]
  have ham:=List.mem_of_find?_eq_some hA
  have hbm:=List.mem_of_find?_eq_some hB
  have hC7:=hC5.go e7
  have q7:=Za ((e5.trans e7).obj q)
  have r7:=Za ((e5.trans e7).obj oW)
  have rv1:=Ze.oneCell hRv
  refine ZB ?_
  unfold Hb
  refine Qqb q7.1 q7.2 r7.1 ?_
  refine zcr (jP _ _ m r.fr ⟨_,rfl,hRv.ext hC7.ext.wdrew⟩) λ w8 e8=>?_
  refine ⟨e8,?_⟩
  have e78:=(Ext.refl w7).wdrew.trans e8
  have q8:=Za (((e5.trans e7).trans e78).obj q)
  have r8:=Za (((e5.trans e7).trans e78).obj oW)
  have hC8:=hC7.go e78
  unfold Ha
  refine Qqb q8.1 q8.2 r8.1 ?_
  obtain ⟨j,hj⟩:∃ j,GN m r.fr=some j:=by
   rcases LO (λ x:MrD=>decide (x.fr=r.fr)) m.rules with ⟨h1,_⟩ | ⟨k,x,_,_,h2,_⟩
   · have:=List.find?_eq_none.1 h1 r (List.mem_of_getElem? hri)
     simp at this
   · exact ⟨k,h2⟩
  rw [hj] at hq
  rw [hj,Option.getD_some]
  refine YU (XH hC8 _ 4) (λ w9 e9 hb=>?_) (λ w9 e9 hb=>?_)
  case refine_2=>
   refine jB (hC8.ext.trans e9) ?_ K7
   rw [← hq,if_pos]
   rintro h
   injection h with h
   rw [hru,h] at hb
   simp at hb
  rw [if_neg (by rw [hru] at hb;simp only [beq_iff_eq] at hb;intro h;apply h;congr 1;omega)] at hq
  exact Pe (hC8.go e9) r fv hF a b fa fb hFa hFb hin (bd a ham) (be b hbm) p3 p4 p6 K9 n4 n6 ((e5.trans (e7.trans (e78.trans e9))).obj oW) ((e7.trans (e78.trans e9)).obj o4) ((e7.trans (e78.trans e9)).obj o6) Q hq.symm
 have rest1:∀ (w5:Wd) (p4:Nat) (fa:Vl),Ext W w5→p4≠cb→w5.heap[p4]?=some (.cells (ZZ (A.getD Gi) fa).toArray 74 (0,0))→YX a0 fa (A.getD Gi).fields →
  Yg w5 λ C3 w6=>xP (Qq4 cb) (Qq4 p3) (Qq4 p4) (.bool A.isSome) C3 (msR a0 cb m d e ru Q) w6:=by
  intro w5 p4 fa e5 n4 o4 h4
  refine ZB ?_
  unfold xP
  have q5:=Za (e5.obj q)
  have r5:=Za (e5.obj oW)
  have lcb:=(Qqq (e5.obj q)).1
  have E5:=hC.ext.trans e5
  refine Qqh q5.1 r5.1 ?_
  refine ⟨?_,(Ext.refl _).alloc _,?_⟩
  · refine Zs (Uz a0 _ E5.wdrew _ e r.to ⟨_,rfl,hev⟩) ?_
    rintro _ w6 ⟨⟨u,rfl,fb,rfl,hFb⟩,e6⟩
    rw [hB] at hFb ⊢
    have g1:=Ze.oneCell hFb
    refine ⟨e6,?_⟩
    unfold AT
    refine Qqk ?_
    have sz:=e6.size
    exact ⟨e6.alloc _,e6.alloc _,rest2 _ _ _ fa fb (e5.wdrew.trans (e6.alloc _)) n4 (by have:w5.drew.heap.size=w5.heap.size:=rfl;omega) ((((Ext.refl w5).wdrew.trans e6).alloc _).obj o4) h4 (Zv _ _ _) hFb⟩
  · refine Zs (Uz a0 _ (E5.wdrew.alloc _) _ e r.to ⟨_,rfl,hev⟩) ?_
    rintro _ w6 ⟨⟨u,rfl,fb,rfl,hFb⟩,e6⟩
    rw [hB] at hFb ⊢
    have g1:=Ze.oneCell hFb
    have e6':=((Ext.refl w5.drew).alloc _).trans e6
    have o6:w6.heap[w5.heap.size]?=some (.cells #[.string Qqz,.slice none 0 0] 74 (0,0)):=e6.obj (Zv w5.drew _ _)
    unfold AU
    refine Qqh (Za o6).1 (Za o6).2 ?_
    have hz:w5.drew.heap.size≤w5.heap.size:=Nat.le_refl _
    have eZ:=(e6'.setCell (p:=⟨w5.heap.size,0,none⟩) hz (.string (B.getD Gi).name)).setCell (p:=⟨w5.heap.size,1,none⟩) hz fb
    have z:=Zy (o:=1) (Zy (o:=0) o6 (.string (B.getD Gi).name)) fb
    exact ⟨e6',eZ,rest2 _ _ _ fa fb (e5.wdrew.trans eZ) n4 K9 (((Ext.refl w5).wdrew.trans eZ).obj o4) h4 (by simpa using z) hFb⟩
 have lcb:=(Qqq q).1
 refine ⟨?_,(Ext.refl _).alloc _,?_⟩
 · refine Zs (Uz a0 _ hC.ext.wdrew _ d r.fr ⟨_,rfl,hdv⟩) ?_
   rintro _ w6 ⟨⟨u,rfl,fb,rfl,hFb⟩,e6⟩
   rw [hA] at hFb ⊢
   have g1:=Ze.oneCell hFb
   refine ⟨e6,?_⟩
   unfold AV
   refine Qqk ?_
   have sz:=e6.size
   exact ⟨e6.alloc _,e6.alloc _,rest1 _ _ fb ((Ext.refl W).wdrew.trans (e6.alloc _)) (by have:W.drew.heap.size=W.heap.size:=rfl;omega) (Zv _ _ _) hFb⟩
 · refine Zs (Uz a0 _ (hC.ext.wdrew.alloc _) _ d r.fr ⟨_,rfl,hdv⟩) ?_
   rintro _ w6 ⟨⟨u,rfl,fb,rfl,hFb⟩,e6⟩
   rw [hA] at hFb ⊢
   have g1:=Ze.oneCell hFb
   have e6':=((Ext.refl W.drew).alloc _).trans e6
   have o6:w6.heap[W.heap.size]?=some (.cells #[.string Qqz,.slice none 0 0] 74 (0,0)):=e6.obj (Zv W.drew _ _)
   unfold AW
   refine Qqh (Za o6).1 (Za o6).2 ?_
   have hz:W.drew.heap.size≤W.heap.size:=Nat.le_refl _
   have eZ:=(e6'.setCell (p:=⟨W.heap.size,0,none⟩) hz (.string (A.getD Gi).name)).setCell (p:=⟨W.heap.size,1,none⟩) hz fb
   have z:=Zy (o:=1) (Zy (o:=0) o6 (.string (A.getD Gi).name)) fb
   exact ⟨e6',eZ,rest1 _ W.heap.size fb ((Ext.refl W).wdrew.trans eZ) K9 (by simpa using z) hFb⟩
end
def zJ (m:Xd) (d e:Xc):Bool:=match m.rules.find? λ r=>decide (r.fr=d.start) with
 | none=>false
 | some r=>decide (r.to=e.start)
def Ik (m:Xd) (d e:Xc) (q:Int×Int×Int):Option (Int×Int×Int):=if q.2.2≠0 then some q else if zJ m d e=true then none else some (-1,-1,11)
def W7 (m:Xd) (d e:Xc):Option (Int×Int×Int):=
 if (!YI d&&!YI e)=false then some (-1,-1,0) else if YZ m.name=false then some (-1,-1,1) else if ¬ (1≤m.rules.length∧m.rules.length≤60) then some (-1,-1,2) else Ik m d e (zI m d e 0 m.rules)
def AA (o:Option (Int×Int×Int)):Vl := .tuple #[Wj (o.getD (0,0,0)).1 (o.getD (0,0,0)).2.1 (o.getD (0,0,0)).2.2,.bool o.isSome]
def Lr {P:Program} {QP:PEn} {w:Wd} {k:KV} {xt t:TypeId} {d:TypeDesc} (hu:P.underlying t=some d) (hn:(match d with | .interface _=>false | _=>true)=true) (v:Vl):opV P (Instr.typeAssert (.iface t v) xt t false) QP w k=k v w:=by
 refine Yj ?_
 unfold Instr.typeAssert
 simp only [Sem.run_bind,run_underlying hu,Result.andThen_ok]
 cases d<;>simp at hn<;>simp
abbrev WT (p3 p4:Nat):Deferred:={ target := .fn (.func 32) #[Qq4 p3,Qq4 p4],args := #[] }
def Ib {p3 p4:Nat} {w:Wd} {k:FrameMode→Wd→Prop} (h:k .returning w):jv Pg [WT p3 p4] .returning w k:=by
 refine ⟨by simp,.inr ⟨.func 32,_,32,#[Qq4 p3,Qq4 p4],rfl,?_,?_⟩⟩
 · exact QD c32 _ w
 · refine n8s ?_
   unfold n8
   show opV _ (ZP .neq _ true .nilIface .nilIface) _ _ _
   rw [Ui underlying20]
   refine Qqk ?_
   exact h
def Ia {p3 p4:Nat} {w:Wd} {k:FrameMode→Wd→Prop} {a f c:Int} {x0 x1 x2 y:Vl} (o3:w.heap[p3]?=some (.cells #[x0,x1,x2] 34 (0,0))) (o4:w.heap[p4]?=some (.cells #[y] 4 (0,0)))
 (h:k .returning ((((w.setCell ⟨p3,0,none⟩ (.int .i64 a)).setCell ⟨p3,1,none⟩ (.int .i64 f)).setCell ⟨p3,2,none⟩ (.int .i64 c)).setCell ⟨p4,0,none⟩ (.bool true))):jv Pg [WT p3 p4] (.panicking [VS a f c]) w k:=by
 have Y3:p3≠p4:=by rintro rfl;rw [o3] at o4;cases o4
 refine ⟨by simp,.inr ⟨.func 32,_,32,#[Qq4 p3,Qq4 p4],rfl,?_,?_⟩⟩
 · exact QD c32 _ w
 · refine n8s ?_
   rw [show recM (.panicking [VS a f c])=(.iface 82 (Wj a f c),.panicking [{ v := .iface 82 (Wj a f c),recovered:=true }]) from rfl]
   unfold n8
   rw [Uj underlying20]
   refine Qqk ?_
   unfold ZiK
   rw [Lr underlying82 rfl]
   refine Qqm (Za o3).1 (Za o3).2 (Za o4).1 (Za o4).2 ?_
   exact h
section
variable {w0:Wd}
abbrev EP (p3 p4:Nat):List (Option TypeId×Vl):=[(some 34,Qq4 p3),(some 4,Qq4 p4)]
def xA (w0:Wd) (o:Option (Int×Int×Int)) (r:Vl) (w':Wd):Prop:=r=AA o∧Ext w0 w'
def ZaN {w:Wd} {o:Option (Int×Int×Int)} {p3 p4:Nat} {a f c:Int} {x0 x1 x2 y:Vl} (e:Ext w0 w) (h3:w0.heap.size≤p3) (h4:w0.heap.size≤p4) (o3:w.heap[p3]?=some (.cells #[x0,x1,x2] 34 (0,0))) (o4:w.heap[p4]?=some (.cells #[y] 4 (0,0)))
 (h:o=some (a,f,c)):ZI Pg [WT p3 p4] (EP p3 p4) (ZR (xA w0 o)) [VS a f c] w:=by
 have Y3:p3≠p4:=by rintro rfl;rw [o3] at o4;cases o4
 unfold ZI
 refine Ia o3 o4 ?_
 have q3:=Zy (o:=2) (Zy (o:=1) (Zy (o:=0) o3 (.int .i64 a)) (.int .i64 f)) (.int .i64 c)
 have e1:Ext w0 ((((w.setCell ⟨p3,0,none⟩ (.int .i64 a)).setCell ⟨p3,1,none⟩ (.int .i64 f)).setCell ⟨p3,2,none⟩ (.int .i64 c)).setCell ⟨p4,0,none⟩ (.bool true)):=(((e.setCell h3 _).setCell h3 _).setCell h3 _).setCell h4 _
 have q4:=Zy (o:=0) ((YT.setCell ((w.setCell ⟨p3,0,none⟩ (.int .i64 a)).setCell ⟨p3,1,none⟩ (.int .i64 f)) p3 2 (.int .i64 c) p4 K9).trans ((YT.setCell (w.setCell ⟨p3,0,none⟩ (.int .i64 a)) p3 1 (.int .i64 f) p4 K9).trans ((YT.setCell w p3 0 (.int .i64 a) p4 K9).trans o4))) (.bool true)
 have q3':=(YT.setCell _ p4 0 (.bool true) p3 Y3).trans q3
 simp only [List.setIfInBounds_toArray,List.set_cons_zero,List.set_cons_succ] at q3' q4
 generalize ((((w.setCell ⟨p3,0,none⟩ (.int .i64 a)).setCell ⟨p3,1,none⟩ (.int .i64 f)).setCell ⟨p3,2,none⟩ (.int .i64 c)).setCell ⟨p4,0,none⟩ (.bool true))=W at e1 q3' q4 ⊢
 unfold Sw.endM jw Qz EP
 simp only
 refine Qqh (Za q3').1 (Za q4).1 ?_
 exact ⟨by rw [h];rfl,e1⟩
end
def SI a b c (Zx:KW) R w:=
 L0 43 c R w λ d w=>
 opV Pg (buildSlice 58 1 #[(0,d)]) (Zj R) w λ e w=>
 opV Pg (Builtin.append_ #[58,58] 58 #[a,e]) (Zj R) w λ f w=>
 B0 .add 3 true b (QqJ 1) R w λ g w=>
 Zx f g w
def Zdc b c a d e f (Zx:KW) R w:=
 S0 40 f d R w λ w=>
 Vp w λ g w=>
 J0 43 a 6 g λ h=>
 S0 41 h e R w λ w=>
 Vp w λ i w=>
 SI b c a Zx R w
def Zdd c d a e f (b:WPr) (Zx:KW) R w:=
 J0 43 a 5 b λ g=>
 opV Pg (Builtin.append_ #[41,41] 41 #[(Value.slice none 0 0),f]) (Zj R) w λ h w=>
 b w∧(
 Zdc c d a e h g Zx R w)
def SK c d b (a:WPr) (Zx:KW) R w:=
 J0 43 b 5 a λ e=>
 I0 40 e a λ f=>
 J0 43 b 6 a λ g=>
 I0 41 g a λ h=>
 opV Pg (Builtin.append_ #[40,40] 40 #[(Value.slice none 0 0),f]) (Zj R) w λ i w=>
 a w∧(
 Zdd c d b i h a Zx R w)
def MS b c a d (Zu:KW) R w:=
 F0 60 a 2 R w λ e w=>
 S0 58 e d R w λ w=>
 L0 60 a R w λ f w=>
 opV Pg (buildSlice 22 1 #[(0,f)]) (Zj R) w λ g w=>
 opV Pg (Builtin.append_ #[22,22] 22 #[b,g]) (Zj R) w λ h w=>
 B0 .add 3 true c (QqJ 1) R w λ i w=>
 Zu h i w
def Zde c d a (Zx:KW) R w:=
 F0 60 c 2 R w λ e w=>
 L0 58 e R w λ f w=>
 X0 58 f a R w λ g w=>
 L0 43 g R w λ h w=>
 opV Pg (alloc 43 true (.tuple #[])) (Zj R) w λ b w=>
 S0 43 b h R w λ w=>
 Yg w λ i w=>
 SK d a b i Zx R w
def SL d e a b c (Zu Zx:KW) R w:=
 F0 60 a 2 R w λ f w=>
 L0 58 f R w λ g w=>
 G0 58 3 g R w λ h w=>
 B0 .lss 3 false c h R w λ i w=>
 Zo i (
 Zde a b c Zx R w) (
 MS d e a b Zu R w)
def Zdf a b c R w:=
 F0 24 a 1 R w λ d w=>
 S0 22 d c R w λ w=>
 L0 24 a R w λ e w=>
 S0 24 b e R w λ w=>
 qW Pg 24 b w λ r0=>
 R (.returned r0) w
def Zdg c d a (Zu:KW) R w:=
 F0 24 c 1 R w λ e w=>
 L0 22 e R w λ f w=>
 X0 22 f a R w λ g w=>
 L0 60 g R w λ h w=>
 opV Pg (alloc 60 true (.tuple #[])) (Zj R) w λ b w=>
 S0 60 b h R w λ w=>
 Qq (λ i j w Zx=>
 SL d a b i j Zu Zx R w) (Value.slice none 0 0) (QqJ 0) w
def SJ a d b c (Zu:KW) R w:=
 F0 24 a 1 R w λ e w=>
 L0 22 e R w λ f w=>
 G0 22 3 f R w λ g w=>
 B0 .lss 3 false c g R w λ h w=>
 Zo h (
 Zdg a b c Zu R w) (
 Zdf a d b R w)
def n77 a R w:=
 opV Pg (box 24 a) (Zj R) w λ b w=>
 opV Pg (alloc 24 true (.tuple #[])) (Zj R) w λ c w=>
 Qq (λ d e w Zu=>
 SJ b c d e Zu R w) (Value.slice none 0 0) (QqJ 0) w
def ZlP:QqQ1 13 n77:=λ h=>by
 refine yD func13 ?_
 refine zs<|zr<|yv h λ h=>yv h λ h=>zn<|zk<|zs<|zr<|zm<|zn<|zk<|zs<|zs<|zr<|zm ?_
 refine zn<|zk<|Zk<|yl2 [3,4,5,6,7,8,9,10,11,12,13,14,15,16,17,18,19,20,21,22,23,24,25,26,27,28,29,30,31,32,33,34,35,36,37,38,39,40,41,42,43,44,45,46,47,48,49,50] 3 4 h λ σ w next h=>zs<|zs<|zr<|zm<|yv h λ h=>yv h λ h=>yx h λ h=>yb h λ h=>zn<|zk<|yC h (λ h=>?_) λ h=>?_
 · refine Zi<|zk<|zs<|Zk<|zs<|zr<|yv h λ h=>yv h λ h=>zm<|yv h λ h=>yv h λ h=>yv h λ h=>yu h λ h=>zn<|zk ?_
   refine zs<|zr<|zm<|zn<|zk<|zs<|zs<|zr<|zm<|zn<|zk<|Zk<|yl2 [6,7,8,21,22,23,24,25,26,27,28,29,30,31,32,33,34,35,36,37,38,39,40,41,42,43,44] 6 7 h λ σ w next h=>zs<|zs ?_
   refine zr<|zm<|yv h λ h=>yv h λ h=>yx h λ h=>yb h λ h=>zn<|zk<|yC h (λ h=>?_) λ h=>?_
   · refine Zi<|zk<|zs<|Zk<|zs<|zr<|yv h λ h=>yv h λ h=>zm<|yv h λ h=>yv h λ h=>yv h λ h=>yu h λ h=>zn<|zk ?_
     refine zs<|yh [33,34,35,36,37,38,39,40] h λ C hC h=>ye 0 hC h λ h=>?_
     refine ye 1 hC h λ h=>?_
     refine ye 3 hC h λ h=>?_
     refine ye 4 hC h λ h=>?_
     refine yo 2 ?_
     refine yx h λ h=>zn ?_
     obtain ⟨hC,h⟩:=h
     refine ⟨hC,?_⟩
     refine ye 6 hC h λ h=>?_
     refine yo 5 ?_
     refine yx h λ h=>zn ?_
     obtain ⟨hC,h⟩:=h
     refine ⟨hC,?_⟩
     refine yq 7 1 ?_
     refine yu h λ h=>zn ?_
     obtain ⟨C4,hC,h⟩:=h
     refine ⟨C4,hC,?_⟩
     refine ye 8 hC h λ h=>?_
     refine yq 9 1 ?_
     refine yu h λ h=>zn ?_
     obtain ⟨C5,hC,h⟩:=h
     refine ⟨C5,hC,?_⟩
     refine yz<|zk<|zr<|zm<|yv h λ h=>yS h λ h=>yx h λ h=>zm<|zn<|Zg<|zk<|zr<|zm<|yb h λ h=>zm ?_
     exact zn<|zk<|⟨rfl,h⟩
   refine ZD<|Zc<|Zc<|Zp<|zk<|zs<|zr<|zm<|yv h λ h=>yu h λ h=>zn<|zk<|zr<|zm<|yv h λ h=>?_
   exact yS h λ h=>yx h λ h=>zm<|zn<|Zg<|zk<|zr<|zm<|yb h λ h=>zm<|zn<|zk<|⟨rfl,h⟩
 refine ZD<|Zc<|Zc<|Zp<|zk<|zs<|zr<|zm<|yv h λ h=>yu h λ h=>zn<|zk<|zs<|zr<|yv h λ h=>?_
 exact yu h λ h=>zn<|zk<|Zh<|UY rfl rfl h
def Hg a b (ds:LDf) (R:RT) w:=
 opV Pg (build 34 #[]) (ZI Pg ds [(some 34,a),(some 4,b)] R) w λ c w=>
 opU Pg (storeAt 34 a c) (ZI Pg ds [(some 34,a),(some 4,b)] R) w λ w=>
 opU Pg (storeAt 4 b (.bool false)) (ZI Pg ds [(some 34,a),(some 4,b)] R) w λ w=>
 Kz Pg ds [(some 34,a),(some 4,b)] R w
def Hh a b c d e (f:WPr) (ds:LDf) (R:RT) w:=
 Zw d e (.bool false) λ g=>
 Yb Pg 33 #[c,g,(QqJ 11)] (ZI Pg ds [(some 34,a),(some 4,b)] R) w λ h w=>
 f w∧(
 Hg a b ds R w)
def Lb e f g h i j c (a:WPr) (ds:LDf) R w:=
 Zm (λ (b:Vl) (w:Wd)=>
 Hh g h i c b a ds R w) λ d=>
 Zl c true (
 J0 24 e 1 a λ k=>
 I0 22 k a λ l=>
 M0 22 l j a λ m=>
 J0 60 m 1 a λ n=>
 I0 9 n a λ o=>
 J0 27 f 2 a λ p=>
 I0 9 p a λ q=>
 qV Pg a (ZP .eql 9 false o q) λ b=>
 d b w) (
 d undef w)
def Lc d e a b f c (ds:LDf) (R:RT) w:=
 opV Pg (extract c 0) (ZI Pg ds [(some 34,a),(some 4,b)] R) w λ g w=>
 opV Pg (extract c 1) (ZI Pg ds [(some 34,a),(some 4,b)] R) w λ h w=>
 Yg w λ i w=>
 Lb d e a b f g h i ds R w
def Hi c e f a b d (ds:LDf) (R:RT) w:=
 opN Pg (Y6 d) (ZI Pg ds [(some 34,a),(some 4,b)] R) w λ g w=>
 opV Pg (fieldAt 81 g 3) (ZI Pg ds [(some 34,a),(some 4,b)] R) w λ h w=>
 opU Pg (storeAt 3 h (.int .i64 (-1))) (ZI Pg ds [(some 34,a),(some 4,b)] R) w λ w=>
 opV Pg (loadAt 24 c) (ZI Pg ds [(some 34,a),(some 4,b)] R) w λ i w=>
 opV Pg (fieldAt 27 e 2) (ZI Pg ds [(some 34,a),(some 4,b)] R) w λ j w=>
 opV Pg (loadAt 9 j) (ZI Pg ds [(some 34,a),(some 4,b)] R) w λ k w=>
 Yb Pg 20 #[i,k] (ZI Pg ds [(some 34,a),(some 4,b)] R) w λ l w=>
 Lc c f a b d l ds R w
def Ld a b d f c (XQ:KV) (ds:LDf) (R:RT) w:=
 opV Pg (indexAt 22 f c) (ZI Pg ds [(some 34,a),(some 4,b)] R) w λ g w=>
 opV Pg (loadAt 60 g) (ZI Pg ds [(some 34,a),(some 4,b)] R) w λ h w=>
 opV Pg (alloc 60 true (.tuple #[])) (ZI Pg ds [(some 34,a),(some 4,b)] R) w λ e w=>
 opU Pg (storeAt 60 e h) (ZI Pg ds [(some 34,a),(some 4,b)] R) w λ w=>
 opN Pg (Y6 d) (ZI Pg ds [(some 34,a),(some 4,b)] R) w λ i w=>
 opV Pg (fieldAt 81 i 3) (ZI Pg ds [(some 34,a),(some 4,b)] R) w λ j w=>
 opU Pg (storeAt 3 j c) (ZI Pg ds [(some 34,a),(some 4,b)] R) w λ w=>
 opV Pg (loadAt 60 e) (ZI Pg ds [(some 34,a),(some 4,b)] R) w λ k w=>
 Yb Pg 36 #[d,k] (ZI Pg ds [(some 34,a),(some 4,b)] R) w λ m w=>
 opV Pg (ZP .add 3 true c (QqJ 1)) (ZI Pg ds [(some 34,a),(some 4,b)] R) w λ l w=>
 XQ l w
def Le e f g a b c h i d (XQ:KV) (ds:LDf) (R:RT) w:=
 opV Pg (ZP .lss 3 false d i) (ZI Pg ds [(some 34,a),(some 4,b)] R) w λ j w=>
 Zo j (
 Ld a b c h d XQ ds R w) (
 Hi e f g a b c ds R w)
def Ey c e f a b g (ds:LDf) (R:RT) w:=
 opV Pg (fieldAt 24 c 1) (ZI Pg ds [(some 34,a),(some 4,b)] R) w λ h w=>
 opV Pg (loadAt 22 h) (ZI Pg ds [(some 34,a),(some 4,b)] R) w λ d w=>
 opV Pg (Builtin.len_ #[22] 3 #[d]) (ZI Pg ds [(some 34,a),(some 4,b)] R) w λ i w=>
 Yz (λ j w XQ=>
 Le c e f a b g d i j XQ ds R w) (QqJ 0) w
def N2 d e f a b c g h (ds:LDf) (R:RT) w:=
 Zw g h (.bool false) λ i=>
 Yb Pg 33 #[c,i,(QqJ 2)] (ZI Pg ds [(some 34,a),(some 4,b)] R) w λ j w=>
 Ey d e f a b c ds R w
def Bh c g h a b i (ds:LDf) (R:RT) w:=
 opV Pg (fieldAt 24 c 1) (ZI Pg ds [(some 34,a),(some 4,b)] R) w λ j w=>
 opV Pg (loadAt 22 j) (ZI Pg ds [(some 34,a),(some 4,b)] R) w λ k w=>
 opV Pg (Builtin.len_ #[22] 3 #[k]) (ZI Pg ds [(some 34,a),(some 4,b)] R) w λ l w=>
 opV Pg (ZP .geq 3 true l (QqJ 1)) (ZI Pg ds [(some 34,a),(some 4,b)] R) w λ e w=>
 Zm (λ (d:Vl) (w:Wd)=>
 N2 c g h a b i e d ds R w) λ f=>
 Zl e true (
 opV Pg (fieldAt 24 c 1) (ZI Pg ds [(some 34,a),(some 4,b)] R) w λ m w=>
 opV Pg (loadAt 22 m) (ZI Pg ds [(some 34,a),(some 4,b)] R) w λ n w=>
 opV Pg (Builtin.len_ #[22] 3 #[n]) (ZI Pg ds [(some 34,a),(some 4,b)] R) w λ o w=>
 opV Pg (ZP .leq 3 true o (QqJ 60)) (ZI Pg ds [(some 34,a),(some 4,b)] R) w λ d w=>
 f d w) (
 f undef w)
def qO c e f a b d (ds:LDf) (R:RT) w:=
 opV Pg (fieldAt 24 c 0) (ZI Pg ds [(some 34,a),(some 4,b)] R) w λ g w=>
 opV Pg (loadAt 9 g) (ZI Pg ds [(some 34,a),(some 4,b)] R) w λ h w=>
 Yb Pg 35 #[h] (ZI Pg ds [(some 34,a),(some 4,b)] R) w λ i w=>
 Yb Pg 33 #[d,i,(QqJ 1)] (ZI Pg ds [(some 34,a),(some 4,b)] R) w λ j w=>
 Bh c e f a b d ds R w
def CV d e f a b c g h (ds:LDf) (R:RT) w:=
 Zw g h (.bool false) λ i=>
 Yb Pg 33 #[c,i,(QqJ 0)] (ZI Pg ds [(some 34,a),(some 4,b)] R) w λ j w=>
 qO d e f a b c ds R w
def qP g h d a b i e (ds:LDf) R w:=
 Zm (λ (c:Vl) (w:Wd)=>
 CV g h d a b i e c ds R w) λ f=>
 Zl e true (
 opV Pg (loadAt 27 d) (ZI Pg ds [(some 34,a),(some 4,b)] R) w λ j w=>
 Yb Pg 34 #[j] (ZI Pg ds [(some 34,a),(some 4,b)] R) w λ c w=>
 f c w) (
 f undef w)
def n7 f g h (R:RT) w:=
 (λ (ds:LDf)=>
 opV Pg (box 24 f) (ZI Pg ds [(some 34,undef),(some 4,undef)] R) w λ d w=>
 opV Pg (box 27 g) (ZI Pg ds [(some 34,undef),(some 4,undef)] R) w λ c w=>
 opV Pg (box 27 h) (ZI Pg ds [(some 34,undef),(some 4,undef)] R) w λ e w=>
 opV Pg (alloc 34 true (.tuple #[])) (ZI Pg ds [(some 34,undef),(some 4,undef)] R) w λ a w=>
 opV Pg (alloc 4 true (.tuple #[])) (ZI Pg ds [(some 34,a),(some 4,undef)] R) w λ b w=>
 opV Pg (loadAt 24 d) (ZI Pg ds [(some 34,a),(some 4,b)] R) w λ i w=>
 opV Pg (loadAt 27 c) (ZI Pg ds [(some 34,a),(some 4,b)] R) w λ j w=>
 opV Pg (loadAt 27 e) (ZI Pg ds [(some 34,a),(some 4,b)] R) w λ k w=>
 opV Pg (build 81 #[(0,i),(1,j),(2,k),(3,(.int .i64 (-1))),(4,(.int .i64 (-1)))]) (ZI Pg ds [(some 34,a),(some 4,b)] R) w λ l w=>
 opV Pg (box 81 l) (ZI Pg ds [(some 34,a),(some 4,b)] R) w λ m w=>
 opV Pg (makeFunc (.func 32) #[] #[a,b]) (ZI Pg ds [(some 34,a),(some 4,b)] R) w λ n w=>
 ZdY Pg n #[] ds w λ ds w=>
 opV Pg (loadAt 27 c) (ZI Pg ds [(some 34,a),(some 4,b)] R) w λ o w=>
 Yb Pg 34 #[o] (ZI Pg ds [(some 34,a),(some 4,b)] R) w λ p w=>
 qP d c e a b m p ds R w) []
def n7s:QqQ3 14 n7:=λ h=>by
 refine yE func14 ?_
 unfold n7 at h
 dsimp only at h
 refine zs<|zr<|yv h λ h=>yv h λ h=>yv h λ h=>yv h λ h=>yv h λ h=>zn<|zk<|zs<|zr<|yv h λ h=>yv h λ h=>yv h λ h=>yB h λ h=>?_
 refine yv h λ h=>zm<|zn<|zk<|zs<|zr<|yF h λ h=>?_
 refine Dq h rfl rfl ?_;intro ds w h
 refine zn<|zk<|zs<|Zr<|yG 4<|zm<|yv h λ h=>yc h c34 λ h=>zm<|zn<|yg1 2 3 true [23,24] 24 h (λ _ T hT h=>?_) λ σ w h=>?_
 · refine yv h λ h=>yc h c34 λ h=>zn ?_
   exact zt hT h
 refine yG 2<|yp h λ h=>yc h c33 λ h=>zn<|ZG<|zk<|zs<|zr<|zm<|yv h λ h=>yv h λ h=>yc h c35 λ h=>yc h c33 λ h=>zn<|zk ?_
 refine zs<|Zr<|yG 6<|zm<|yv h λ h=>yv h λ h=>yx h λ h=>yb h λ h=>zm<|zn<|yg1 4 5 true [38,39,40,41] 41 h (λ _ T hT h=>?_) λ σ w h=>?_
 · refine yv h λ h=>yv h λ h=>yx h λ h=>yb h λ h=>zn ?_
   exact zt hT h
 refine yG 2<|yp h λ h=>yc h c33 λ h=>zn<|ZG<|zk<|zs<|zs<|zr<|yv h λ h=>yv h λ h=>yx h λ h=>zm<|zn<|zk ?_
 refine Zk<|yl1 [9,10,47,48,49,50,51,52,53,54,55,56,57,58,59] 47 h λ σ w next h=>zs<|zr<|yb h λ h=>zn<|zk<|zs<|yC h (λ h=>?_) λ h=>?_
 · refine Zi<|zk<|zs<|Zk<|zs<|zr<|zm<|yv h λ h=>yv h λ h=>yv h λ h=>zm<|yu h λ h=>zn<|zk<|zs ?_
   refine zr<|zm<|zm<|yN h λ h=>yv h λ h=>yu h λ h=>zn<|zk<|zr<|zm<|yv h λ h=>yc h c36 λ h=>zn<|Zg<|zk ?_
   exact zr<|yb h λ h=>zm<|zn<|zk<|⟨rfl,h⟩
 refine ZD<|Zc<|Zc<|Zp<|zk<|zs<|zr<|zm<|yN h λ h=>yv h λ h=>yu h λ h=>zn<|zk<|zs<|zr ?_
 refine yv h λ h=>yv h λ h=>yv h λ h=>yc h c20 λ h=>zm<|yv h λ h=>yv h λ h=>zm<|zm<|zn<|zk<|zs<|yh [70,71,72,73,74,75,76,77,78,79,80,81,82,83] h λ C hC h=>yw 0 hC ?_
 refine yw 1 hC ?_
 refine yw 2 hC ?_
 refine yj1 2 [11,10,9,8,7,6,5,4,3,2,1,0] [73,74,75,76,77,78,79,80,81] 81 h (λ _ hT hb h=>?_) (λ _ hT hb h=>?_) λ σ w hC h=>?_
 · refine ye 3 hC h λ h=>?_
   refine ye 4 hC h λ h=>?_
   refine yw 5 hC ?_
   refine ye 6 hC h λ h=>?_
   refine ye 7 hC h λ h=>?_
   refine ye 8 hC h λ h=>?_
   refine ye 9 hC h λ h=>?_
   refine ye 10 hC h λ h=>?_
   refine ye 11 hC h λ h=>?_
   exact yt hT hC h
 · refine yi 3 hC ?_
   refine yi 4 hC ?_
   refine yi 5 hC ?_
   refine yi 6 hC ?_
   refine yi 7 hC ?_
   refine yi 8 hC ?_
   refine yi 9 hC ?_
   refine yi 10 hC ?_
   refine yi 11 hC ?_
   exact yt hT hC h
 refine yP 12 hC h λ _ h=>?_
 refine yo 13 ?_
 refine yc h c33 λ h=>zn ?_
 obtain ⟨hC,h⟩:=h
 refine ⟨hC,?_⟩
 exact yz<|zk<|zs<|zr<|yB h λ h=>yu h λ h=>yu h λ h=>zn<|zk<|Zh<|Wi rfl h
def BY {d:Xc} (h:(!YI d)=true):∀ x∈d.msgs,∀ f∈x.fields,(Yr f).length≤1048576:=by
 intro x hx f hf
 have h0:(Xe d).2.2=0:=by
  unfold YI at h
  simpa using h
 obtain ⟨_,_,h3,_⟩:=If h0
 obtain ⟨k,hk⟩:=List.getElem?_of_mem hx
 obtain ⟨_,_,h40,h4,_⟩:=Kw (h3.next hk)
 have h1:=U8 _ _ _ _ h4
 have h2:(Yr f).length≤(Z9 x.fields).length:=by
  unfold Z9
  obtain ⟨l1,l2,hl⟩:=List.append_of_mem hf
  rw [hl,List.flatMap_append,List.flatMap_cons,List.length_append,List.length_append]
  omega
 omega
def PF {w0 w:Wd} {o:Option (Int×Int×Int)} {p3 p4:Nat} (e:Ext w0 w) (o3:w.heap[p3]?=some (.cells #[.int .i64 0,.int .i64 0,.int .i64 0] 34 (0,0))) (o4:w.heap[p4]?=some (.cells #[.bool false] 4 (0,0)))
 (h:o=none):Kz Pg [WT p3 p4] (EP p3 p4) (ZR (xA w0 o)) w:=by
 unfold Kz
 refine Ib ?_
 unfold Sw.endM jw Qz EP
 simp only
 refine Qqh (Za o3).1 (Za o4).1 ?_
 exact ⟨by rw [h];rfl,e⟩
section
variable {w0 A0 w:Wd} {cb p1 p2 p5 p3 p4:Nat} {m:Xd} {d e:Xc} {ru:Int} {rv dv ev:Vl} {O:Option (Int×Int×Int)}
structure jM (w0 A0:Wd) (p1 p2 p5 p3 p4:Nat) (m:Xd) (d e:Xc) (rv dv ev:Vl):Prop where
 ea:Ext w0 A0
 o1:A0.heap[p1]?=some (.cells (ZL m rv).toArray 24 (0,0))
 o2:A0.heap[p2]?=some (.cells (ZO d dv).toArray 27 (0,0))
 o5:A0.heap[p5]?=some (.cells (ZO e ev).toArray 27 (0,0))
 o3:A0.heap[p3]?=some (.cells #[.int .i64 0,.int .i64 0,.int .i64 0] 34 (0,0))
 o4:A0.heap[p4]?=some (.cells #[.bool false] 4 (0,0))
 l3:w0.heap.size≤p3
 l4:w0.heap.size≤p4
 hR:VG A0 rv m.rules
def jM.pan (h:jM w0 A0 p1 p2 p5 p3 p4 m d e rv dv ev) {w':Wd} {a f c:Int} (x:Ext A0 w') (ho:O=some (a,f,c)):ZI Pg [WT p3 p4] (EP p3 p4) (ZR (xA w0 O)) [VS a f c] w':=ZaN (h.ea.trans x) h.l3 h.l4 (x.obj h.o3) (x.obj h.o4) ho
def Zbd (h:jM w0 A0 p1 p2 p5 p3 p4 m d e rv dv ev) (hC:CkM A0 w cb m d e ru (-1)) (hO:(if zJ m d e=true then none else some (-1,-1,11))=O) :
 Hi (Qq4 p1) (Qq4 p2) (Qq4 p5) (Qq4 p3) (Qq4 p4) (Qq4 cb) [WT p3 p4] (ZR (xA w0 O)) w:=by
 obtain ⟨rv',dv',ev',q,_⟩:=hC.obj
 have t1:=Ze.oneCell h.hR
 unfold Hi
 refine Qqm (Za q).1 (Za q).2 (Za (hC.ext.obj h.o1)).1 (Za (hC.ext.obj h.o2)).1 ?_
 have hC2:=hC.setRule (-1)
 generalize (w.setCell ⟨cb,8,none⟩ (.int .i64 (-1)))=X at hC2 ⊢
 refine zcr (jP X _ m d.start ⟨_,rfl,h.hR.ext hC2.ext⟩) λ w1 e1=>?_
 have hC3:=hC2.go e1
 unfold Lc
 refine Qqk ?_
 refine ZB ?_
 have eD:Ext w1 (drew w1):=(Ext.refl w1).drew
 have hC4:=hC3.go eD
 generalize (drew w1)=D at hC4 ⊢
 have fin:∀ b,b=zJ m d e→Yb Pg 33 #[Qq4 cb,.bool b,.int .i64 11] (ZI Pg [WT p3 p4] (EP p3 p4) (ZR (xA w0 O))) D λ _ w=>EC D w∧Hg (Qq4 p3) (Qq4 p4) [WT p3 p4] (ZR (xA w0 O)) w:=by
  rintro b rfl
  refine YU (XH hC4 _ 11) (λ w5 e5 hb=>?_) (λ w5 e5 hb=>?_)
  · refine ⟨e5,?_⟩
    rw [if_pos hb] at hO
    have E5:=hC4.ext.trans e5
    have q3:=E5.obj h.o3
    have q4:=E5.obj h.o4
    have Y3:p3≠p4:=by rintro rfl;rw [q3] at q4;cases q4
    have lA3:w0.heap.size≤p3:=h.l3
    have lA4:w0.heap.size≤p4:=h.l4
    unfold Hg
    refine Qqm (Za q3).1 (Za q3).2 (Za q4).1 (Za q4).2 ?_
    have z3:=Zy (o:=2) (Zy (o:=1) (Zy (o:=0) q3 (.int .i64 0)) (.int .i64 0)) (.int .i64 0)
    have eZ:Ext w0 ((((w5.setCell ⟨p3,0,none⟩ (.int .i64 0)).setCell ⟨p3,1,none⟩ (.int .i64 0)).setCell ⟨p3,2,none⟩ (.int .i64 0)).setCell ⟨p4,0,none⟩ (.bool false)):=((((h.ea.trans E5).setCell lA3 _).setCell lA3 _).setCell lA3 _).setCell lA4 _
    have z4:=Zy (o:=0) ((YT.setCell ((w5.setCell ⟨p3,0,none⟩ (.int .i64 0)).setCell ⟨p3,1,none⟩ (.int .i64 0)) p3 2 (.int .i64 0) p4 K9).trans ((YT.setCell (w5.setCell ⟨p3,0,none⟩ (.int .i64 0)) p3 1 (.int .i64 0) p4 K9).trans ((YT.setCell w5 p3 0 (.int .i64 0) p4 K9).trans q4))) (.bool false)
    have z3':=(YT.setCell _ p4 0 (.bool false) p3 Y3).trans z3
    simp only [List.setIfInBounds_toArray,List.set_cons_zero,List.set_cons_succ] at z3' z4
    exact PF eZ z3' z4 hO.symm
  · rw [if_neg (by rw [hb];simp)] at hO
    exact h.pan (hC4.ext.trans e5) hO.symm
 unfold Lb
 rcases LO (λ r:MrD=>decide (r.fr=d.start)) m.rules with ⟨h1,h2,_,_,_⟩ | ⟨i,x,hxi,h1,h2,_,_,_⟩
 · have hp:GN m d.start=none:=h2
   have hs:zJ m d e=false:=by unfold zJ;rw [h1]
   rw [hp,Option.getD_none,show (none:Option Nat).isSome=false from rfl]
   refine Qqk ?_
   unfold Hh
   refine Qqk ?_
   exact fin false hs.symm
 · have hp:GN m d.start=some i:=h2
   have hs:zJ m d e=decide (x.to=e.start):=by unfold zJ;rw [h1]
   rw [hp,Option.getD_some,show (some i).isSome=true from rfl]
   obtain ⟨br,or',cr,rfl,_,_,_,hil,helr⟩:=UC h.hR hxi
   obtain ⟨csr,_,hAr,hEr⟩:=helr i x hxi
   obtain ⟨fv,rfl,hFr⟩:=hEr
   refine Qqb (Za (hC4.ext.obj h.o1)).1 (Za (hC4.ext.obj h.o5)).1 (hAr.c3 hC4.ext) ?_
   unfold Hh
   refine Qqk ?_
   exact fin _ hs.symm
def Za7 (h:jM w0 A0 p1 p2 p5 p3 p4 m d e rv dv ev) (hC:CkM A0 w cb m d e ru (-1)) (hin:∀ r∈m.rules,∀ x∈r.fields,inF x=true) (bd:∀ x∈d.msgs,∀ f∈x.fields,(Yr f).length≤1048576) (be:∀ x∈e.msgs,∀ f∈x.fields,(Yr f).length≤1048576)
 (hO:Ik m d e (zI m d e 0 m.rules)=O) :
 Ey (Qq4 p1) (Qq4 p2) (Qq4 p5) (Qq4 p3) (Qq4 p4) (Qq4 cb) [WT p3 p4] (ZR (xA w0 O)) w:=by
 obtain ⟨A,c,rfl,hlc,hcm,hlm,YS⟩:=Ze.open h.hR
 unfold Ey
 refine Qqg (Za (hC.ext.obj h.o1)).1 ?_
 refine ZE (λ i w'=>∃ (k:Nat) (r:Int),i = .int .i64 k∧k≤m.rules.length∧CkM A0 w' cb m d e r (-1)∧zI m d e 0 m.rules=zI m d e k (m.rules.drop k)) (λ i _=>m.rules.length - (intOf i).toNat) ⟨0,_,rfl,by omega,hC,rfl⟩ ?_
 rintro _ w1 ⟨k,r0,rfl,hk,hC1,hR⟩
 unfold Le
 rcases ZH hk with ⟨x,hx,hdr,Ym,ZK⟩ | ⟨hk,hdr,ZK⟩
 · obtain ⟨bt,ot,cst,rfl,_,hAt,hE⟩:=YS k x hx
   obtain ⟨fv,rfl,hF,o1⟩:=hE.op
   obtain ⟨rv',dv',ev',q,_⟩:=hC1.obj
   rw [hdr,zI] at hR
   refine Qqg ZK ?_
   unfold Ld
   have lcb:=(Qqq q).1
   have qV:=Za q
   refine Qqb (hAt.c3 hC1.ext) qV.1 qV.2 ?_
   have hC2:=(hC1.setRule (k:Int)).go ((Ext.refl _).alloc (.cells #[.string x.fr,.string x.to,fv] 60))
   refine Uv (Iu hC2 k rfl _ x ⟨_,rfl,hF⟩ hx (hin x (List.mem_of_getElem? hx)) bd be) (λ v w5 hq=>?_) (λ ch w5 hq=>?_) (λ w5 hq=>?_)
   · rcases hq with ⟨E5,⟨h0,hv,hC5⟩ | ⟨_,hv⟩⟩
     · rw [if_neg (by rw [h0];simp)] at hR
       refine Qqk ?_
       exact ⟨⟨k+1,_,rfl,Ym,hC5,hR⟩,ZQ (kd := .i64) Ym⟩
     · cases hv
   · rcases hq with ⟨E5,⟨_,hv,_⟩ | ⟨h0,hv⟩⟩
     · cases hv
     · injection hv with hv
       subst hv
       rw [if_pos h0] at hR
       refine h.pan E5 ?_
       rw [← hO,hR]
       unfold Ik
       rw [if_pos h0]
   · rcases hq with ⟨_,⟨_,hv,_⟩ | ⟨_,hv⟩⟩<;>cases hv
 · subst hk
   rw [hdr,zI] at hR
   refine Qqg ZK ?_
   refine Zbd h hC1 ?_
   rw [← hO,hR]
   rfl
end
def QJ (w0:Wd) (v1 v2 v3:Vl) (m:Xd) (d e:Xc) (hm:YN w0 v1 m) (hd:YM w0 v2 d) (he:YM w0 v3 e) (hin:∀ r∈m.rules,∀ x∈r.fields,inF x=true):Ret Pg 14 #[v1,v2,v3] w0 (xA w0 (W7 m d e)):=by
 obtain ⟨rv,rfl,hR⟩:=hm
 obtain ⟨dv,rfl,hD⟩:=hd
 obtain ⟨ev,rfl,hE⟩:=he
 have t1:=Ze.oneCell hR
 have t2:=Ze.oneCell hD
 have t3:=Ze.oneCell hE
 refine n7s (R:=ZR _) ?_;unfold n7
 refine Qqk ?_
 refine ⟨WT (w0.heap.size+1+1+1) (w0.heap.size+1+1+1+1),_,rfl,?_⟩
 simp only [World.size_alloc]
 generalize hA0:((((w0.alloc (Obj.cells (ZL m rv).toArray 24)).alloc (Obj.cells (ZO d dv).toArray 27)).alloc (Obj.cells (ZO e ev).toArray 27)).alloc (Obj.cells #[.int .i64 0,.int .i64 0,.int .i64 0] 34)).alloc (Obj.cells #[.bool false] 4)=A0
 have ea:Ext w0 A0:=by rw [← hA0];exact ee
 have o1:A0.heap[w0.heap.size]?=some (.cells (ZL m rv).toArray 24 (0,0)):=by rw [← hA0];exact Qqy
 have o2:A0.heap[w0.heap.size+1]?=some (.cells (ZO d dv).toArray 27 (0,0)):=by rw [← hA0];exact Qqy
 have o5:A0.heap[w0.heap.size+1+1]?=some (.cells (ZO e ev).toArray 27 (0,0)):=by rw [← hA0];exact Qqy
 have o3:A0.heap[w0.heap.size+1+1+1]?=some (.cells #[.int .i64 0,.int .i64 0,.int .i64 0] 34 (0,0)):=by rw [← hA0];exact Qqy
 have o4:A0.heap[w0.heap.size+1+1+1+1]?=some (.cells #[.bool false] 4 (0,0)):=by rw [← hA0];exact Qqy
 have Uq:A0.heap.size=w0.heap.size+1+1+1+1+1:=by rw [← hA0];simp only [World.size_alloc]
 clear hA0
 have hC:CkM A0 (A0.alloc (Obj.cells #[.string m.name,rv,.string d.name,dv,.string d.start,.string e.name,ev,.string e.start,.int .i64 (-1),.int .i64 (-1)] 81)) A0.heap.size m d e (-1) (-1):=⟨(Ext.refl _).alloc _,Nat.le_refl _,rv,dv,ev,Zv _ _ _,hR.ext ea,hD.ext ea,hE.ext ea⟩
 generalize (A0.alloc (Obj.cells #[.string m.name,rv,.string d.name,dv,.string d.start,.string e.name,ev,.string e.start,.int .i64 (-1),.int .i64 (-1)] 81))=W at hC ⊢
 generalize hcb:w0.heap.size+1+1+1+1+1=cb at Uq ⊢
 rw [Uq] at hC
 generalize hp4:w0.heap.size+1+1+1+1=p4 at o4 hcb ⊢
 generalize hp3:w0.heap.size+1+1+1=p3 at o3 hp4 ⊢
 generalize hp5:w0.heap.size+1+1=p5 at o5 hp3 ⊢
 generalize hp2:w0.heap.size+1=p2 at o2 hp5 ⊢
 generalize hp1:w0.heap.size=p1 at o1 hp2 ⊢
 refine Qqg (Za (hC.ext.obj o2)).1 ?_
 have l3:w0.heap.size≤p3:=K9
 have l4:w0.heap.size≤p4:=K9
 generalize hO:W7 m d e=O
 have hEnv:jM w0 A0 p1 p2 p5 p3 p4 m d e rv dv ev:=⟨ea,o1,o2,o5,o3,o4,l3,l4,hR.ext ea⟩
 have pan:∀ w' a f c,Ext A0 w'→O=some (a,f,c)→ZI Pg [WT p3 p4] (EP p3 p4) (ZR (xA w0 O)) [VS a f c] w':=λ w' a f c x h=>hEnv.pan x h
 unfold W7 at hO
 refine zcr (xm _ d ⟨_,rfl,hD.ext (ea.trans hC.ext)⟩) λ w1 e1=>?_
 have hC1:=hC.go e1
 have rest:∀ (w2:Wd) (bb:Bool),CkM A0 w2 cb m d e (-1) (-1)→bb=(!YI d&&!YI e)→Yb Pg 33 #[Qq4 cb,.bool bb,.int .i64 0] (ZI Pg [WT p3 p4] (EP p3 p4) (ZR (xA w0 O))) w2 λ _ w3=>qO (Qq4 p1) (Qq4 p2) (Qq4 p5) (Qq4 p3) (Qq4 p4) (Qq4 cb) [WT p3 p4] (ZR (xA w0 O)) w3:=by
  rintro w2 bb hC2 hbb
  refine YU (XH hC2 _ 0) (λ w3 e3 hb=>?_) (λ w3 e3 hb=>?_)
  case refine_2=>
   rw [← hbb,if_pos hb] at hO
   exact pan _ _ _ _ (hC2.ext.trans e3) hO.symm
  have hvv:(!YI d&&!YI e)=true:=hbb.symm.trans hb
  rw [hvv,if_neg (by simp)] at hO
  have hvd:(!YI d)=true:=by cases h:(!YI d)<;>simp_all
  have hve:(!YI e)=true:=by cases h:(!YI e)<;>simp_all
  have hC3:=hC2.go e3
  have x3:=Za (hC3.ext.obj o1)
  unfold qO
  refine Qqg x3.1 ?_
  refine zcr (UU _ m.name) λ w4 e4=>?_
  have hC4:=hC3.go e4
  refine YU (XH hC4 _ 1) (λ w5 e5 hb=>?_) (λ w5 e5 hb=>?_)
  case refine_2=>
   rw [if_pos hb] at hO
   exact pan _ _ _ _ (hC4.ext.trans e5) hO.symm
  rw [hb,if_neg (by simp)] at hO
  have hC5:=hC4.go e5
  have x5:=Za (hC5.ext.obj o1)
  obtain ⟨A,c,hrv,hlc,hcm,hlm,YS⟩:=Ze.open hR
  rw [hrv] at x5
  have last:∀ b,b=decide (1≤m.rules.length∧m.rules.length≤60)→Yb Pg 33 #[Qq4 cb,.bool b,.int .i64 2] (ZI Pg [WT p3 p4] (EP p3 p4) (ZR (xA w0 O))) w5 λ _ w=>Ey (Qq4 p1) (Qq4 p2) (Qq4 p5) (Qq4 p3) (Qq4 p4) (Qq4 cb) [WT p3 p4] (ZR (xA w0 O)) w:=by
   rintro b rfl
   refine YU (XH hC5 _ 2) (λ w6 e6 hb=>?_) (λ w6 e6 hb=>?_)
   · rw [if_neg (by simpa using hb)] at hO
     exact Za7 hEnv (hC5.go e6) hin (BY hvd) (BY hve) hO
   · rw [if_pos (by simpa using hb)] at hO
     exact pan _ _ _ _ (hC5.ext.trans e6) hO.symm
  unfold Bh
  by_cases h1:1≤m.rules.length
  · have d1:decide ((m.rules.length:Int)≥1)=true:=by simp;omega
    by_cases h2:m.rules.length≤60
    · have d2:decide ((m.rules.length:Int)≤60)=true:=by simp;omega
      simp (disch:=try exact DI) only [↓PR,QR,simprocAttr,x5.1,d1,d2,↓Hg,↓Hh,↓Lb,↓Lc,↓Hi,↓Ld,↓Le,↓Ey,↓N2,↓Bh,↓qO,↓CV,↓qP]
      exact last _ (by simp [h1,h2])
    · have d2:decide ((m.rules.length:Int)≤60)=false:=by simp;omega
      simp (disch:=try exact DI) only [↓PR,QR,simprocAttr,x5.1,d1,d2,↓Hg,↓Hh,↓Lb,↓Lc,↓Hi,↓Ld,↓Le,↓Ey,↓N2,↓Bh,↓qO,↓CV,↓qP]
      exact last _ (by simp [h2])
  · have d1:decide ((m.rules.length:Int)≥1)=false:=by simp;omega
    simp (disch:=try exact DI) only [↓PR,QR,simprocAttr,x5.1,d1,↓Hg,↓Hh,↓Lb,↓Lc,↓Hi,↓Ld,↓Le,↓Ey,↓N2,↓Bh,↓qO,↓CV,↓qP]
    exact last _ (by simp [h1])
 obtain ⟨vb,hv⟩:∃ vb,(!YI d)=vb:=⟨_,rfl⟩
 rw [hv] at rest ⊢
 cases vb with
 | false=>
  rw [Bool.false_and] at rest
  unfold qP
  rw [joinK_eq]
  simp (disch:=try exact DI) only [↓PR,QR,simprocAttr,↓Hg,↓Hh,↓Lb,↓Lc,↓Hi,↓Ld,↓Le,↓Ey,↓N2,↓Bh,↓qO,↓CV,↓qP]
  exact rest w1 _ hC1 rfl
 | true=>
  rw [Bool.true_and] at rest
  unfold qP
  simp (disch:=try exact DI) only [↓PR,QR,simprocAttr,↓Hg,↓Hh,↓Lb,↓Lc,↓Hi,↓Ld,↓Le,↓Ey,↓N2,↓Bh,↓qO,↓CV,↓qP,(Za (hC1.ext.obj o5)).1]
  refine zcr (xm _ e ⟨_,rfl,hE.ext (ea.trans hC1.ext)⟩) λ w2 e2=>?_
  exact rest w2 _ (hC1.go e2) rfl
def ZiB a b R w:=
 E0q b 0 R w λ c w=>
 E0q b 1 R w λ d w=>
 S0 34 a c R w λ w=>
 qW Pg 34 a w λ r0=>
 R (.returned (.tuple #[r0,d])) w
def ZiC a b R w:=
 E0q b 0 R w λ c w=>
 E0q b 1 R w λ d w=>
 S0 34 a c R w λ w=>
 qW Pg 34 a w λ r0=>
 R (.returned (.tuple #[r0,d])) w
def ZiD a b R w:=
 E0q b 0 R w λ c w=>
 E0q b 1 R w λ d w=>
 S0 34 a c R w λ w=>
 qW Pg 34 a w λ r0=>
 R (.returned (.tuple #[r0,d])) w
def MR a b R w:=
 E0q b 0 R w λ c w=>
 E0q b 1 R w λ d w=>
 S0 34 a c R w λ w=>
 qW Pg 34 a w λ r0=>
 R (.returned (.tuple #[r0,d])) w
def ZiE d a b (XQ:KV) R w:=
 E0q b 0 R w λ e w=>
 E0q b 1 R w λ c w=>
 B0 .neq 3 true c (QqJ 0) R w λ f w=>
 Zo f (
 C0 38 #[a,e,c] R w λ g w=>
 MR d g R w) (
 B0 .add 3 true a (QqJ 1) R w λ h w=>
 XQ h w)
def ZiF a b R w:=
 E0q b 0 R w λ c w=>
 E0q b 1 R w λ d w=>
 S0 34 a c R w λ w=>
 qW Pg 34 a w λ r0=>
 R (.returned (.tuple #[r0,d])) w
def ZiG a R w:=
 opV Pg (build 34 #[]) (Zj R) w λ b w=>
 S0 34 a b R w λ w=>
 qW Pg 34 a w λ r0=>
 R (.returned (.tuple #[r0,(.bool false)])) w
def ZiH a b c (R:RT) w:=
 Zw b (.bool true) c λ d=>
 Zo d (
 C0 38 #[(.int .i64 (-1)),(.int .i64 (-1)),(QqJ 11)] R w λ e w=>
 ZiF a e R w) (
 ZiG a R w)
def ZiI f g h c (a:WPr) R w:=
 qV Pg a (ZP .lss 3 true c (QqJ 0)) λ d=>
 Zm (λ (b:Vl) (w:Wd)=>
 ZiH h d b R w) λ e=>
 Zl d false (
 J0 24 f 1 a λ i=>
 I0 22 i a λ j=>
 M0 22 j c a λ k=>
 J0 60 k 1 a λ l=>
 I0 9 l a λ m=>
 J0 27 g 2 a λ n=>
 I0 9 n a λ o=>
 qV Pg a (ZP .neq 9 false m o) λ b=>
 e b w) (
 e undef w)
def ZeA a b c d R w:=
 L0 24 a R w λ e w=>
 F0 27 b 2 R w λ f w=>
 L0 9 f R w λ g w=>
 C0 21 #[e,g] R w λ h w=>
 Yg w λ i w=>
 ZiI a c d h i R w
def ZeB b c d e a (XQ:KV) R w:=
 L0 24 b R w λ f w=>
 L0 27 c R w λ g w=>
 L0 27 d R w λ h w=>
 C0 40 #[f,g,h,a] R w λ i w=>
 ZiE e a i XQ R w
def ZeC a b c d e (XQ:KV) R w:=
 F0 24 a 1 R w λ f w=>
 L0 22 f R w λ g w=>
 G0 22 3 g R w λ h w=>
 B0 .lss 3 false e h R w λ i w=>
 Zo i (
 ZeB a b c d e XQ R w) (
 ZeA a b c d R w)
def ZeD b c d a e f (R:RT) w:=
 Zw e (.bool true) f λ g=>
 Zo g (
 C0 38 #[(.int .i64 (-1)),(.int .i64 (-1)),(QqJ 2)] R w λ h w=>
 ZiD a h R w) (
 Yz (λ i w XQ=>
 ZeC b c d a i XQ R w) (QqJ 0) w)
def ZeE a e f g R w:=
 F0 24 a 1 R w λ h w=>
 L0 22 h R w λ i w=>
 G0 22 3 i R w λ j w=>
 B0 .lss 3 true j (QqJ 1) R w λ c w=>
 Zm (λ (b:Vl) (w:Wd)=>
 ZeD a e f g c b R w) λ d=>
 Zl c false (
 F0 24 a 1 R w λ k w=>
 L0 22 k R w λ l w=>
 G0 22 3 l R w λ m w=>
 B0 .gtr 3 true m (QqJ 60) R w λ b w=>
 d b w) (
 d undef w)
def Sx b c d a e R w:=
 N0 e R w λ f w=>
 Zo f (
 C0 38 #[(.int .i64 (-1)),(.int .i64 (-1)),(QqJ 1)] R w λ g w=>
 ZiC a g R w) (
 ZeE b c d a R w)
def Sy a b c d R w:=
 F0 24 a 0 R w λ e w=>
 L0 9 e R w λ f w=>
 C0 39 #[f] R w λ g w=>
 Sx a b c d g R w
def La b c d a e f (R:RT) w:=
 Zw e (.bool true) f λ g=>
 Zo g (
 C0 38 #[(.int .i64 (-1)),(.int .i64 (-1)),(QqJ 0)] R w λ h w=>
 ZiB a h R w) (
 Sy b c d a R w)
def Sz e f b g h R w:=
 N0 h R w λ c w=>
 Zm (λ (a:Vl) (w:Wd)=>
 La e f b g c a R w) λ d=>
 Zl c false (
 L0 27 b R w λ i w=>
 C0 37 #[i] R w λ j w=>
 N0 j R w λ a w=>
 d a w) (
 d undef w)
def n74 b c d R w:=
 opV Pg (box 24 b) (Zj R) w λ e w=>
 opV Pg (box 27 c) (Zj R) w λ a w=>
 opV Pg (box 27 d) (Zj R) w λ f w=>
 opV Pg (alloc 34 true (.tuple #[])) (Zj R) w λ g w=>
 L0 27 a R w λ h w=>
 C0 37 #[h] R w λ i w=>
 Sz e a f g i R w
def ZlM:QqQ3 15 n74:=λ h=>by
 refine yD func15 ?_
 refine zs<|zr<|yv h λ h=>yv h λ h=>yv h λ h=>yv h λ h=>zm<|zn<|zk<|zs<|zs<|Zr<|yG 4<|yv h λ h=>yc h c37 λ h=>?_
 refine yv h λ h=>zm<|zn<|yg1 3 3 false [16,17,18] 18 h (λ _ T hT h=>?_) λ σ w h=>?_
 · refine yv h λ h=>yc h c37 λ h=>yv h λ h=>zn ?_
   exact zt hT h
 refine yG 1<|yp h λ h=>zn<|ZG<|zk<|yC h (λ h=>zs<|zr<|yc h c38 λ h=>yv h λ h=>yv h λ h=>yu h λ h=>zm<|zn<|zk<|Zh<|Zb<|Z7 rfl rfl rfl h) λ h=>Zi<|zk<|zs<|zs<|zr<|yv h λ h=>yv h λ h=>yc h c39 λ h=>?_
 refine yv h λ h=>zn<|zk<|yC h (λ h=>zs<|zr<|yc h c38 λ h=>yv h λ h=>yv h λ h=>yu h λ h=>zm<|zn<|zk<|Zh<|Zb<|Z7 rfl rfl rfl h) λ h=>Zi<|zk<|zs<|zs<|Zr<|yG 5<|yv h λ h=>yv h λ h=>yx h λ h=>yb h λ h=>?_
 refine zm<|zn<|yg1 4 4 false [35,36,37,38] 38 h (λ _ T hT h=>?_) λ σ w h=>?_
 · refine yv h λ h=>yv h λ h=>yx h λ h=>yb h λ h=>zn ?_
   exact zt hT h
 refine yG 1<|yp h λ h=>zn<|ZG<|zk<|yC h (λ h=>zs<|zr<|yc h c38 λ h=>yv h λ h=>yv h λ h=>yu h λ h=>zm<|zn<|zk<|Zh<|Zb<|Z7 rfl rfl rfl h) λ h=>Zi<|zk<|zs<|zs<|zr<|zm<|zn<|zk ?_
 refine Zk<|yl1 [7,8,9,10,43,44,45,46,47,48,49,50,51,52,53,54,55,56,57,58,59,60,61,62,63,64,65] 8 h λ σ w next h=>zs<|zs<|zr<|zm<|yv h λ h=>yv h λ h=>yx h λ h=>yb h λ h=>zn<|zk<|yC h (λ h=>?_) λ h=>?_
 · refine Zi<|zk<|zs<|Zk<|zs<|zr<|yv h λ h=>yv h λ h=>yv h λ h=>zm<|yc h c40 λ h=>zm<|yv h λ h=>yv h λ h=>zm ?_
   refine zm<|zn<|zk<|zs<|zr<|zm<|yb h λ h=>zn<|zk<|yC h (λ h=>?_) λ h=>?_
   · refine zs<|zr<|zm<|zm<|zm<|yc h c38 λ h=>yv h λ h=>yv h λ h=>yu h λ h=>zm<|zn<|zk<|Zh<|Zd<|Zb ?_
     exact Zb<|Zd<|Zb<|Z7 rfl rfl rfl h
   exact Zi<|Zg<|zk<|zr<|zm<|yb h λ h=>zm<|zn<|zk<|⟨rfl,h⟩
 refine ZD<|Zc<|Zc<|Zp<|zk<|zs<|zr<|yv h λ h=>yv h λ h=>yv h λ h=>yc h c21 λ h=>zm<|zn<|zk<|zs ?_
 refine zs<|yh [70,71,72,73,74,75,76,77,78,79,80,81,82] h λ C hC h=>yw 0 hC ?_
 refine ye 1 hC h λ h=>?_
 refine yw 2 hC ?_
 refine yj1 1 [11,10,9,8,7,6,5,4,3,2,1,0] [73,74,75,76,77,78,79,80,81] 81 h (λ _ hT hb h=>?_) (λ _ hT hb h=>?_) λ σ w hC h=>?_
 · refine ye 3 hC h λ h=>?_
   refine ye 4 hC h λ h=>?_
   refine yw 5 hC ?_
   refine ye 6 hC h λ h=>?_
   refine ye 7 hC h λ h=>?_
   refine ye 8 hC h λ h=>?_
   refine ye 9 hC h λ h=>?_
   refine ye 10 hC h λ h=>?_
   refine ye 11 hC h λ h=>?_
   exact yt hT hC h
 · refine yi 3 hC ?_
   refine yi 4 hC ?_
   refine yi 5 hC ?_
   refine yi 6 hC ?_
   refine yi 7 hC ?_
   refine yi 8 hC ?_
   refine yi 9 hC ?_
   refine yi 10 hC ?_
   refine yi 11 hC ?_
   exact yt hT hC h
 refine yP 12 hC h λ _ h=>?_
 exact yz<|zk<|yC h (λ h=>zs<|zr<|yc h c38 λ h=>yv h λ h=>yv h λ h=>yu h λ h=>zm<|zn<|zk<|Zh<|Zb<|Z7 rfl rfl rfl h) λ h=>Zi<|zk<|zs<|zr<|yB h λ h=>yu h λ h=>zm<|zn<|zk<|Zh<|Z7 rfl rfl rfl h
def ZbX a R w:=
 E0q a 0 R w λ b w=>
 E0q a 1 R w λ c w=>
 opV Pg (alloc 34 true (.tuple #[])) (Zj R) w λ d w=>
 S0 34 d b R w λ w=>
 N0 c R w λ e w=>
 R (.returned e) w
def n21 a b c R w:=
 opV Pg (box 24 a) (Zj R) w λ d w=>
 opV Pg (box 27 b) (Zj R) w λ e w=>
 opV Pg (box 27 c) (Zj R) w λ f w=>
 L0 24 d R w λ g w=>
 L0 27 e R w λ h w=>
 L0 27 f R w λ i w=>
 C0 14 #[g,h,i] R w λ j w=>
 ZbX j R w
def ZkX:QqQ3 16 n21:=λ h=>by
 refine yD func16 ?_
 refine zs<|zr<|yv h λ h=>yv h λ h=>yv h λ h=>zm<|zn<|zk<|zs<|zr<|yv h λ h=>yv h λ h=>yv h λ h=>yc h c14 λ h=>zm ?_
 refine yv h λ h=>yv h λ h=>yv h λ h=>yu h λ h=>zm<|zn<|zk<|zs<|zr<|zm<|yv h λ h=>zm<|zn<|zk<|Zh ?_
 exact Zf rfl rfl h
def Zdh b c (a:WPr) (Xf:KV) (R:RT) w:=
 a w∧(
 qV Pg a (Op.unary .not c) λ d=>
 Zo d (
 R (.returned (.bool false)) w) (
 B0 .add 3 true b (QqJ 1) R w λ e w=>
 Xf e w))
def Zdi c d b (a:WPr) (Xf:KV) (R:RT) w:=
 J0 60 c 2 a λ e=>
 I0 58 e a λ f=>
 M0 58 f b a λ g=>
 I0 43 g a λ h=>
 J0 60 d 2 a λ i=>
 I0 58 i a λ j=>
 M0 58 j b a λ k=>
 I0 43 k a λ l=>
 C0 41 #[h,l] R w λ m w=>
 Zdh b m a Xf R w
def Zdj c a d b (Zx Xf:KV) R w:=
 F0 60 a 2 R w λ e w=>
 L0 58 e R w λ f w=>
 G0 58 3 f R w λ g w=>
 B0 .lss 3 false b g R w λ h w=>
 Zo h (
 Yg w λ i w=>
 Zdi a d b i Xf R w) (
 B0 .add 3 true c (QqJ 1) R w λ j w=>
 Zx j w)
def Zdk f b c g h (Zx:KV) (R:RT) w:=
 Zw g (.bool true) h λ d=>
 Zm (λ (a:Vl) (w:Wd)=>
 Zw d (.bool true) a λ i=>
 Zo i (
 R (.returned (.bool false)) w) (
 Yz (λ j w Xf=>
 Zdj f b c j Zx Xf R w) (QqJ 0) w)) λ e=>
 Zl d false (
 F0 60 b 2 R w λ k w=>
 L0 58 k R w λ l w=>
 G0 58 3 l R w λ m w=>
 F0 60 c 2 R w λ n w=>
 L0 58 n R w λ o w=>
 G0 58 3 o R w λ p w=>
 B0 .neq 3 false m p R w λ a w=>
 e a w) (
 e undef w)
def MT f a b (Zx:KV) R w:=
 F0 60 a 0 R w λ g w=>
 L0 9 g R w λ h w=>
 F0 60 b 0 R w λ i w=>
 L0 9 i R w λ j w=>
 B0 .neq 9 false h j R w λ d w=>
 Zm (λ (c:Vl) (w:Wd)=>
 Zdk f a b d c Zx R w) λ e=>
 Zl d false (
 F0 60 a 1 R w λ k w=>
 L0 9 k R w λ l w=>
 F0 60 b 1 R w λ m w=>
 L0 9 m R w λ n w=>
 B0 .neq 9 false l n R w λ c w=>
 e c w) (
 e undef w)
def Zdl a d e (b:WPr) (f:KW) R w:=
 opV Pg (alloc 60 true (.tuple #[])) (Zj R) w λ c w=>
 b w∧(
 S0 60 a d R w λ w=>
 b w∧(
 S0 60 c e R w λ w=>
 Vp w λ g w=>
 f a c w))
def Zdm a d e (b:WPr) (f:KW) R w:=
 opV Pg (alloc 60 true (.tuple #[])) (Zj R) w λ c w=>
 b w∧(
 S0 60 c d R w λ w=>
 b w∧(
 S0 60 a e R w λ w=>
 Vp w λ g w=>
 f c a w))
def Zdn h i b (a:WPr) (Zx:KV) R w:=
 J0 24 h 1 a λ j=>
 I0 22 j a λ k=>
 M0 22 k b a λ l=>
 I0 60 l a λ e=>
 J0 24 i 1 a λ m=>
 I0 22 m a λ n=>
 M0 22 n b a λ o=>
 I0 60 o a λ f=>
 Zm (λ (c:Vl) (d:Vl) (w:Wd)=>
 MT b c d Zx R w) λ g=>
 (
 opV Pg (alloc 60 true (.tuple #[])) (Zj R) w λ c w=>
 a w∧(
 Zdl c e f a g R w))∧(
 opV Pg (alloc 60 true (.tuple #[])) (Zj R) w λ d w=>
 a w∧(
 Zdm d e f a g R w))
def Zdo a c b (Zx:KV) R w:=
 F0 24 a 1 R w λ d w=>
 L0 22 d R w λ e w=>
 G0 22 3 e R w λ f w=>
 B0 .lss 3 false b f R w λ g w=>
 Zo g (
 Yg w λ h w=>
 Zdn a c b h Zx R w) (
 R (.returned (.bool true)) w)
def n78 f g R w:=
 opV Pg (box 24 f) (Zj R) w λ a w=>
 opV Pg (box 24 g) (Zj R) w λ b w=>
 F0 24 a 0 R w λ h w=>
 L0 9 h R w λ i w=>
 F0 24 b 0 R w λ j w=>
 L0 9 j R w λ k w=>
 B0 .neq 9 false i k R w λ d w=>
 Zm (λ (c:Vl) (w:Wd)=>
 Zw d (.bool true) c λ l=>
 Zo l (
 R (.returned (.bool false)) w) (
 Yz (λ m w Zx=>
 Zdo a b m Zx R w) (QqJ 0) w)) λ e=>
 Zl d false (
 F0 24 a 1 R w λ n w=>
 L0 22 n R w λ o w=>
 G0 22 3 o R w λ p w=>
 F0 24 b 1 R w λ q w=>
 L0 22 q R w λ r w=>
 G0 22 3 r R w λ s w=>
 B0 .neq 3 false p s R w λ c w=>
 e c w) (
 e undef w)
def ZlQ:QqQ2 17 n78:=λ h=>by
 refine yD func17 ?_
 refine zs<|zr<|yv h λ h=>yv h λ h=>zm<|zn<|zk<|zs<|zs<|Zr<|yG 6<|yv h λ h=>yv h λ h=>yv h λ h=>yv h λ h=>?_
 refine yb h λ h=>zm<|zn<|yg1 7 5 false [15,16,17,18,19,20,21] 21 h (λ _ T hT h=>?_) λ σ w h=>?_
 · refine yv h λ h=>yv h λ h=>yx h λ h=>yv h λ h=>yv h λ h=>yx h λ h=>yb h λ h=>zn ?_
   exact zt hT h
 refine yG 1<|yp h λ h=>zn<|ZG<|zk<|yC h (λ h=>zs<|zr<|zm<|zn<|zk<|Zh<|Zb<|Zf rfl rfl h) λ h=>Zi<|zk<|zs<|zs<|zr<|zm<|zn<|zk ?_
 refine Zk<|yl1 [4,5,6,7,8,23,24,25,26,27,28,29,30,31,32,33,34,35,36,37,38,39,40,41,42,43,44,45,46,47,48,49,50,51,52,53,54,55,56,57,58,59,60,61,62,63,64,65,66,67,68,69,70,71,72,73,74,75,76,77,78,79] 5 h λ σ w next h=>zs<|zs<|zr<|zm<|yv h λ h=>yv h λ h=>yx h λ h=>yb h λ h=>zn<|zk<|yC h (λ h=>?_) λ h=>?_
 · refine Zi<|zk<|zs<|Zk<|zs<|yh [6,7,30,31,32,33,34,35,36,37,38,39] h λ C hC h=>ye 0 hC h λ h=>?_
   refine ye 1 hC h λ h=>?_
   refine yw 2 hC ?_
   refine ye 3 hC h λ h=>?_
   refine ye 4 hC h λ h=>?_
   refine ye 5 hC h λ h=>?_
   refine ye 6 hC h λ h=>?_
   refine yw 7 hC ?_
   refine ye 8 hC h λ h=>?_
   refine ye 9 hC h λ h=>?_
   refine QI h (λ K4 hK h=>?_)
   refine Wq [6,7] (λ ρ w=>K4 (ρ 6) (ρ 7) w) (λ T hT=>?_) (λ σ w h=>?_)
   · obtain ⟨h0,h1⟩:=h
     refine Xj 10 11 rfl rfl K5 (λ _ _=>rfl) (λ _ _=>rfl) ?_ ?_
     · have h:=h0
       refine yv h λ h=>zn ?_
       obtain ⟨hC,h⟩:=h
       refine ⟨_,λ _ h=>h,hC,?_⟩
       refine yo 11 ?_
       refine yv h λ h=>zn ?_
       obtain ⟨hC,h⟩:=h
       refine ⟨hC,?_⟩
       refine yo 12 ?_
       refine yu h λ h=>zn ?_
       obtain ⟨hC,h⟩:=h
       refine ⟨hC,?_⟩
       refine yq 13 1 ?_
       refine yu h λ h=>zn ?_
       obtain ⟨C9,hC,h⟩:=h
       refine ⟨C9,hC,?_⟩
       refine yz ?_
       exact zt hT h
     have h:=h1
     refine yv h λ h=>zn ?_
     obtain ⟨hC,h⟩:=h
     refine ⟨_,λ _ h=>h,hC,?_⟩
     refine yo 10 ?_
     refine yv h λ h=>zn ?_
     obtain ⟨hC,h⟩:=h
     refine ⟨hC,?_⟩
     refine yo 12 ?_
     refine yu h λ h=>zn ?_
     obtain ⟨hC,h⟩:=h
     refine ⟨hC,?_⟩
     refine yq 13 1 ?_
     refine yu h λ h=>zn ?_
     obtain ⟨C10,hC,h⟩:=h
     refine ⟨C10,hC,?_⟩
     refine yz ?_
     exact zt hT h
   subst hK
   refine zk<|zs<|zs<|Zr<|yG 6<|yv h λ h=>yv h λ h=>yv h λ h=>yv h λ h=>yb h λ h=>zm<|zn<|yg1 5 5 false [46,47,48,49,50] 50 h (λ _ T hT h=>?_) λ σ w h=>?_
   · refine yv h λ h=>yv h λ h=>yv h λ h=>yv h λ h=>yb h λ h=>zn ?_
     exact zt hT h
   refine yG 2<|yp h λ h=>zm<|zn<|yg1 7 12 false [53,54,55,56,57,58,59] 59 h (λ _ T hT h=>?_) λ σ w h=>?_
   · refine yv h λ h=>yv h λ h=>yx h λ h=>yv h λ h=>yv h λ h=>yx h λ h=>yb h λ h=>zn ?_
     exact zt hT h
   refine yG 1<|yp h λ h=>zn<|ZG<|zk<|yC h (λ h=>zs<|zr<|zm<|zn<|zk<|Zh<|Zb<|Zd<|Zb<|Zb<|Zd<|Zb<|Zf rfl rfl h) λ h=>Zi<|zk<|zs<|zr<|zm<|zn<|zk<|Zk ?_
   refine yl1 [4,8,61,62,63,64,65,66,67,68,69,70,71,72,73,74,75,76,77,78,79] 8 h λ σ w next h=>zs<|zs<|zr<|zm<|yv h λ h=>yv h λ h=>yx h λ h=>yb h λ h=>zn<|zk<|yC h (λ h=>?_) λ h=>?_
   · refine Zi<|zk<|zs<|Zk<|zs<|yh [68,69,70,71,72,73,74,75,76,77,78,79] h λ C hC h=>ye 0 hC h λ h=>?_
     refine ye 1 hC h λ h=>?_
     refine yw 2 hC ?_
     refine ye 3 hC h λ h=>?_
     refine ye 4 hC h λ h=>?_
     refine ye 5 hC h λ h=>?_
     refine ye 6 hC h λ h=>?_
     refine yw 7 hC ?_
     refine ye 8 hC h λ h=>?_
     refine ye 9 hC h λ h=>?_
     refine yo 10 ?_
     refine yc h c41 λ h=>zn ?_
     obtain ⟨hC,h⟩:=h
     refine ⟨hC,?_⟩
     refine ye 11 hC h λ h=>?_
     refine yz<|zk<|yC h (λ h=>?_) λ h=>?_
     · refine zs<|zr<|zm<|zn<|zk<|Zh<|Zd<|Zb<|Zb<|Zd<|Zd<|Zb<|Zb<|Zd<|Zb ?_
       exact Zf rfl rfl h
     exact Zi<|Zg<|zk<|zr<|zm<|yb h λ h=>zm<|zn<|zk<|⟨rfl,h⟩
   exact ZD<|Zc<|Zc<|Zp<|Zg<|zk<|zr<|zm<|yb h λ h=>zm<|zn<|zk<|⟨rfl,h⟩
 exact ZD<|Zc<|Zc<|Zp<|zk<|zs<|zr<|zm<|zn<|zk<|Zh<|Zf rfl rfl h
def It (w0:Wd) (v1 v2 v3:Vl) (m:Xd) (d e:Xc) (hm:YN w0 v1 m) (hd:YM w0 v2 d) (he:YM w0 v3 e) (hin:∀ r∈m.rules,∀ x∈r.fields,inF x=true):Ret Pg 16 #[v1,v2,v3] w0 λ r w'=>r = .bool (W7 m d e).isNone∧Ext w0 w':=by
 obtain ⟨rv,rfl,hR⟩:=hm
 obtain ⟨dv,rfl,hD⟩:=hd
 obtain ⟨ev,rfl,hE⟩:=he
 have t1:=Ze.oneCell hR
 have t2:=Ze.oneCell hD
 have t3:=Ze.oneCell hE
 refine ZkX (R:=ZR _) ?_;unfold n21
 refine Qqk ?_
 generalize hA0:(((w0.alloc (Obj.cells (ZL m rv).toArray 24)).alloc (Obj.cells (ZO d dv).toArray 27)).alloc (Obj.cells (ZO e ev).toArray 27))=A0
 have ea:Ext w0 A0:=by rw [← hA0];exact ee
 clear hA0
 refine zcr (QJ A0 _ _ _ m d e ⟨_,rfl,hR.ext ea⟩ ⟨_,rfl,hD.ext ea⟩ ⟨_,rfl,hE.ext ea⟩ hin) λ w1 e1=>?_
 unfold ZbX AA
 refine Qqk ?_
 exact ⟨by cases W7 m d e<;>rfl,(ea.trans e1).alloc _⟩
def yL (r:FrD) (n:Int):Option Int:=if r.kind=1 then some n else if r.kind=2 then (if jT r.add=true then some (n+r.add) else none) else if r.kind=3 then some r.value else if r.kind=5 then (r.table.find? λ x=>decide (x.low≤n)&&decide (n≤x.high)).map (·.to) else none
def Nc:Option Int→Option Int
 | some v=>if Vj v=true then some v else none
 | none=>none
def B8 (r:FrD) (n:Int):Option Int:=if Vj n=false then none else Nc (yL r n)
def Lm (o:Option Int):Vl := .tuple #[.int .i64 (o.getD 0),.bool o.isSome]
def DA (w:Wd) (x:UL) (q:Nat) (n:Int) (hq:w.heap[q]?=some (.cells #[.int .i64 n] 3 (0,0))):Ret Pg 44 #[.agg (Xh x).toArray,Qq4 q] w λ r w'=>r = .bool (decide (x.low≤n)&&decide (n≤x.high))∧Ext w w':=by
 have lq:=(Qqq hq).1
 have hc:=(Za hq).1
 refine ZkS (R:=ZR _) ?_;unfold n16
 by_cases h1:x.low≤n
 · have d1:decide (n≥x.low)=true:=by simpa using h1
   by_cases h2:n≤x.high
   · have d2:decide (n≤x.high)=true:=by simpa using h2
     refine Qqb hc d1 d2 ?_
     exact ⟨by simp [h1],ee⟩
   · have d2:decide (n≤x.high)=false:=by simpa using h2
     refine Qqb hc d1 d2 ?_
     exact ⟨by simp,ee⟩
 · have d1:decide (n≥x.low)=false:=by simpa using h1
   refine Qqh hc d1 ?_
   exact ⟨by simp [h1],ee⟩
def N3 {n:Int} (h:Vj n=true):0≤n∧n < 34359738368:=by
 unfold Vj at h
 simpa only [Bool.and_eq_true,decide_eq_true_eq] using h
def Jt (w0:Wd) (v:Vl) (r:FrD) (n:Int) (hr:Ws w0 v r) (hin:inF r=true):Ret Pg 18 #[v,.int .i64 n] w0 λ u w'=>u=Lm (B8 r n)∧Ext w0 w':=by
 obtain ⟨bv,tv,rfl,hB,hT,b1,b2⟩:=hr.op
 refine ZkR (R:=ZR _) ?_;unfold n15
 rw [Yi]
 have q2:=Zv w0 (ZC r bv tv).toArray 43
 have e2:Ext w0 (w0.alloc (.cells (ZC r bv tv).toArray 43)):=(Ext.refl w0).alloc _
 have s2:(w0.alloc (.cells (ZC r bv tv).toArray 43)).heap.size=w0.heap.size+1:=World.size_alloc ..
 generalize (w0.alloc (.cells (ZC r bv tv).toArray 43))=w2 at q2 e2 s2 ⊢
 generalize hp2:w0.heap.size=p2 at q2 ⊢
 refine Qqk ?_
 have q3:=Zv w2 #[.int .i64 n] 3
 have e3:Ext w2 (w2.alloc (.cells #[.int .i64 n] 3)):=(Ext.refl w2).alloc _
 generalize (w2.alloc (.cells #[.int .i64 n] 3))=w3 at q3 e3 ⊢
 have l3:w0.heap.size≤w2.heap.size:=e2.size
 have n23:p2≠w2.heap.size:=K9
 generalize w2.heap.size=p3 at q3 l3 n23 ⊢
 replace q2:=e3.obj q2
 have E3:=e2.trans e3
 refine Zs (Q9 w3 n) ?_
 rintro _ w' ⟨rfl,hw⟩
 rw [hw]
 clear hw
 have c2:=(Za q2).1
 have c3:=Za q3
 cases hn:Vj n with
 | false=>
  refine Qqk ?_
  exact ⟨by unfold B8;rw [hn];rfl,E3⟩
 | true=>
 have hM:B8 r n=Nc (yL r n):=by unfold B8;rw [hn];rfl
 have rng:=N3 hn
 have none_:yL r n=none→∀ w',Ext w0 w'→(Value.tuple #[.int .i64 0,.bool false]=Lm (B8 r n)∧Ext w0 w'):=λ h w' e=>⟨by rw [hM,h];rfl,e⟩
 have tail:∀ (w1:Wd) (u:Int),Ext w0 w1→w1.heap[p3]?=some (.cells #[.int .i64 u] 3 (0,0))→yL r n=some u→Yb Pg 42 #[.int .i64 u] (Zj (ZR λ u w'=>u=Lm (B8 r n)∧Ext w0 w')) w1 λ t47 w=>PX (Qq4 p3) t47 (ZR λ u w'=>u=Lm (B8 r n)∧Ext w0 w') w:=by
  intro w1 u e1 hq hu
  refine Zs (Q9 w1 u) ?_
  rintro _ w' ⟨rfl,hw⟩
  rw [hw]
  unfold PX
  cases hv:Vj u with
  | true=>
   refine Qqg (Za hq).1 ?_
   exact ⟨by rw [hM,hu];simp only [Nc,hv];rfl,e1⟩
  | false=>
   refine Qqk ?_
   exact ⟨by rw [hM,hu];simp only [Nc,hv];rfl,e1⟩
 have put:∀ (w1:Wd) (a:Vl),Ext w0 w1→w1.heap[p3]?=some (.cells #[.int .i64 n] 3 (0,0))→Ext w0 (w1.setCell ⟨p3,0,none⟩ a)∧(w1.setCell ⟨p3,0,none⟩ a).heap[p3]?=some (.cells #[a] 3 (0,0)):=λ w1 a e1 hq=>⟨e1.setCell l3 _,Zy (o:=0) hq a⟩
 unfold ZbN
 by_cases k1:r.kind=1
 · have hv:yL r n=some n:=by unfold yL;rw [if_pos k1]
   refine Qqb c2 c3.1 k1 ?_
   exact tail w3 n E3 q3 hv
 by_cases k2:r.kind=2
 · simp (disch:=try exact DI) only [↓PR,QR,simprocAttr,c2,c3.1,k2,ZbM]
   refine Zs (Q9 w3 _) ?_
   rintro _ w' ⟨rfl,hw⟩
   rw [hw,OP hin]
   clear hw
   cases ha:jT r.add with
   | false=>
    refine Qqk ?_
    exact none_ (by unfold yL;rw [if_neg k1,if_pos k2,ha];rfl) _ E3
   | true=>
    have hv:yL r n=some (n+r.add):=by unfold yL;rw [if_neg k1,if_pos k2,ha];rfl
    have hb : -34359738368 < r.add∧r.add < 34359738368:=by unfold jT at ha;simpa only [Bool.and_eq_true,decide_eq_true_eq] using ha
    have hw:IntKind.i64.wrap (n+r.add)=n+r.add:=YF K9 K9
    obtain ⟨g1,g2⟩:=put w3 (.int .i64 (n+r.add)) E3 q3
    simp (disch:=try exact DI) only [↓PR,QR,simprocAttr,ZbI,c2,c3.1,c3.2,hw]
    exact tail _ _ g1 g2 hv
 have e1:(r.kind == 1)=false:=by simpa using k1
 have e2':(r.kind == 2)=false:=by simpa using k2
 by_cases k3:r.kind=3
 · have hv:yL r n=some r.value:=by unfold yL;rw [if_neg k1,if_neg k2,if_pos k3]
   obtain ⟨g1,g2⟩:=put w3 (.int .i64 r.value) E3 q3
   simp (disch:=try exact DI) only [↓PR,QR,simprocAttr,c2,c3.1,c3.2,k3,Mu,ZbL]
   exact tail _ _ g1 g2 hv
 have e3':(r.kind == 3)=false:=by simpa using k3
 by_cases k5:r.kind=5
 · have hv:yL r n=(r.table.find? λ x=>decide (x.low≤n)&&decide (n≤x.high)).map (·.to):=by unfold yL;rw [if_neg k1,if_neg k2,if_neg k3,if_pos k5]
   simp (disch:=try exact DI) only [↓PR,QR,simprocAttr,c2,c3.1,k5,Mu,ZbK]
   refine zcr (zM w3 _ r.table _ _ (λ x=>decide (x.low≤n)&&decide (n≤x.high)) (hT.ext E3) c44 λ w' v y _ e' hv=>by subst hv;exact DA w' y _ n (e'.obj q3)) λ w4 e4=>?_
   have E4:=E3.trans e4
   rcases LO (λ x:UL=>decide (x.low≤n)&&decide (n≤x.high)) r.table with ⟨h1,_,_,_,h5⟩ | ⟨i,x,hxi,h1,_,_,_,h5⟩
   · rw [h5]
     refine Qqk ?_
     exact none_ (by rw [hv,h1];rfl) _ E4
   · rw [h5]
     have d0:decide ((i:Int) < 0)=false:=by simp
     obtain ⟨bt,ot,ct,rfl,_,_,_,hil,helr⟩:=UC hT hxi
     obtain ⟨cs,_,hA,rfl⟩:=helr i x hxi
     obtain ⟨g1,g2⟩:=put w4 (.int .i64 x.to) E4 (e4.obj q3)
     simp (disch:=try exact DI) only [↓PR,QR,simprocAttr,d0,ZbJ,(Za (e4.obj q2)).1,(Za (e4.obj q3)).1,(Za (e4.obj q3)).2,hA.c3 E4]
     exact tail _ _ g1 g2 (by rw [hv,h1];rfl)
 · have e5:(r.kind == 5)=false:=by simpa using k5
   simp (disch:=try exact DI) only [↓PR,QR,simprocAttr,c2,c3.1,e1,e2',e3',e5,Mu]
   exact none_ (by unfold yL;rw [if_neg k1,if_neg k2,if_neg k3,if_neg k5]) _ E3
def Zh9 b a R w:=
 G0 9 3 a R w λ c w=>
 C0 85 #[b,a,c,(.int .i64 (-1))] R w λ d w=>
 R (.returned d) w
def Zia:QqQ2 48 Zh9:=λ h=>by
 refine yD func48 ?_
 refine zs<|zr<|zm<|zn<|zk<|zs<|zr<|zm<|zm<|zm<|yx h λ h=>yc h c85 λ h=>zm<|zn<|zk ?_
 exact Zh<|Zf rfl rfl h
structure xg (w:Wd):Prop where
 env:qi w
 tz:w.cell? ⟨7,15,none⟩=some (.int .u8 4)
def xg.ext {w w':Wd} (h:xg w) (e:Ext w w'):xg w':=⟨h.env.ext e,e.cell h.tz⟩
def Dk:∀ (l:List UInt8) (r:BAr),(l.map λ c=>(c.toNat:Int)).foldl (λ r n=>r.push (UInt8.ofNat n.toNat)) r=⟨r.data++l.toArray⟩
 | [],r=>by simp
 | c::l,r=>by
  rw [List.map_cons,List.foldl_cons,Dk l]
  apply ByteArray.ext
  show (r.data.push (UInt8.ofNat ((c.toNat:Int)).toNat))++l.toArray=_
  rw [Int.toNat_natCast,UInt8.ofNat_toNat]
  simp
def qZ {w:Wd} {QP:PEn} {k:KV} {v:Vl} {l:List UInt8} (h:Dv w v l):opV Pg (Go.convert 40 9 v) QP w k=k (.string ⟨l.toArray⟩) w:=by
 refine Yj ?_
 obtain ⟨A,c,rfl,_,_,_,YS⟩:=Ze.open h
 rw [run_convert_bytes_string w _ _ 5 _ _ _ underlying40 underlying5 underlying9]
 cases l with
 | nil=>
  cases A with
  | none=>rfl
  | some a=>
   have:=run_bytesToString (P:=Pg) w a 0 c [] rfl
   exact this
 | cons x l=>
  obtain ⟨b,o,cs,rfl,_,_,_⟩:=YS 0 x rfl
  have hl:=run_loadCells_list (P:=Pg) (w:=w) ⟨b,o,none⟩ ((x::l).map λ c=>Value.int .u8 (c.toNat:Int)) λ j y hy=>by
   rw [List.getElem?_map] at hy
   obtain ⟨z,hz,rfl⟩:=Option.map_eq_some_iff.1 hy
   obtain ⟨b',o',cs',hA,_,hE,rfl⟩:=YS j z hz
   injection hA with hA
   injection hA with h1 h2
   subst h1 h2
   have:=hE 0 (.int .u8 z.toNat) rfl
   rw [Addr.add_lit]
   simpa using this
  have:=run_bytesToString (P:=Pg) w ⟨b,o,none⟩ (x::l).length c ((x::l).map λ c=>(c.toNat:Int)) (by
   rw [List.map_map]
   rw [List.length_map] at hl
   exact hl)
  rw [this,Dk]
  congr 2
  apply ByteArray.ext
  show (#[]:Array UInt8)++_=_
  simp
def Xr {α:Type} {l:List α} {k:Nat} {x:α} (h:l[k]?=some x):l.take (k+1)=l.take k++[x]:=by
 rw [List.take_add_one,h];rfl
structure PsD where
 name:BAr
 done:List MrD
 cur:Option MrD
def FX (l:List UInt8):(mkB l).data.toList=l:=by unfold mkB;exact Ox l
def Q8 (c:UInt8):List (List UInt8)→List (List UInt8)
 | []=>[]
 | [x]=>[x]
 | x::y::r=>(x++[c])::Q8 c (y::r)
def Oq (sep:List UInt8) (sv k:Nat) (s:List UInt8):Go.Lib.splitK sep sv k s≠[]:=by
 cases k with
 | zero=>simp [Go.Lib.splitK]
 | succ k=>unfold Go.Lib.splitK;split<;>simp
def Fq (c:UInt8) (x:List UInt8) {l:List (List UInt8)} (h:l≠[]):Q8 c (x::l)=(x++[c])::Q8 c l:=by
 cases l with
 | nil=>exact absurd rfl h
 | cons y r=>rfl
def H7 {c:UInt8} {L:List (List UInt8)} {x:List UInt8} (h:Q8 c L=[x]) (hL:L≠[]):L=[x]:=by
 cases L with
 | nil=>exact absurd rfl hL
 | cons a l=>
  cases l with
  | nil=>exact h
  | cons b r=>
   cases r<;>simp [Q8] at h
def yZ (c:UInt8):∀ s:List UInt8,Go.Lib.splitK [c] 1 (Go.Lib.count s [c]) s=Q8 c (QE c s)
 | []=>by rw [Go.Lib.count_one];rfl
 | b::l=>by
  have ih:=yZ c l
  by_cases h:b=c
  · subst h
    rw [Go.Lib.count_cons_eq,Nat.add_comm,Go.Lib.splitK,FM,if_neg K7,Cz,Fq _ _ (DP _ _),← ih]
    rfl
  · rw [Go.Lib.count_cons_ne b c l h]
    cases hk:Go.Lib.count l [c] with
    | zero=>
     rw [hk] at ih
     have h1:=H7 ih.symm (DP _ _)
     rw [Ki h h1]
     rfl
    | succ k=>
     rw [hk] at ih
     have hge:=Go.Lib.index_ge l [c]
     have hm:Go.Lib.index l [c] ≠ -1:=λ e=>by rw [Go.Lib.count_miss e] at hk;cases hk
     obtain ⟨i,hi⟩:∃ i:Nat,Go.Lib.index l [c]=i:=⟨(Go.Lib.index l [c]).toNat,by omega⟩
     have n1:¬ (((i:Int) == -1)=true):=λ e=>by have:=beq_iff_eq.1 e;omega
     have n2:¬ ((((i:Int)+1) == -1)=true):=λ e=>by have:=beq_iff_eq.1 e;omega
     have t2:((i:Int)+1).toNat=i+1:=K9
     rw [Go.Lib.splitK,hi,if_neg n1] at ih
     rw [Go.Lib.splitK,FN l h,hi,if_neg n1,if_neg n2,t2]
     cases hL:QE c l with
     | nil=>exact absurd hL (DP _ _)
     | cons x r=>
      cases r with
      | nil=>
       rw [hL] at ih
       injection ih with _ h2
       exact absurd h2 (Oq _ _ _ _)
      | cons y r=>
       rw [hL] at ih
       rw [Ki h hL]
       injection ih with h1 h2
       show _=((b::x)++[c])::Q8 c (y::r)
       rw [← h2,List.cons_append,← h1]
       simp only [Int.toNat_natCast,List.length_singleton,List.take_succ_cons,List.drop_succ_cons]
def HL (c:UInt8) (s:BAr):Go.Lib.splitB ⟨#[c]⟩ 1 (Go.Lib.countB s ⟨#[c]⟩) s=(Q8 c (QE c s.data.toList)).map mkB:=by
 have h:=Go.Lib.splitB_data ⟨#[c]⟩ 1 (Go.Lib.countB s ⟨#[c]⟩) s
 have hs:Go.Lib.splitK [c] 1 (Go.Lib.countB s ⟨#[c]⟩) s.data.toList=Q8 c (QE c s.data.toList):=yZ c s.data.toList
 have h:(Go.Lib.splitB ⟨#[c]⟩ 1 (Go.Lib.countB s ⟨#[c]⟩) s).map (·.data.toList)=Q8 c (QE c s.data.toList):=h.trans hs
 rw [← h,List.map_map]
 have:(mkB ∘ λ x:BAr=>x.data.toList)=id:=by funext x;rfl
 rw [this,List.map_id]
def GX (c:UInt8):∀ L:List (List UInt8),(Q8 c L).length=L.length
 | []=>rfl
 | [_]=>rfl
 | x::y::r=>by
  have:=GX c (y::r)
  show (Q8 c (y::r)).length+1=_
  rw [this]
  rfl
def Bd b d e (R:RT) w:=
 Zm (λ (a:Vl) (w:Wd)=>
 Zw b a (.bool false) λ f=>
 R (.returned f) w) λ c=>
 Zl b true (
 Zw d (.bool true) e λ a=>
 c a w) (
 c undef w)
def CO d e b R w:=
 Zm (λ (a:Vl) (w:Wd)=>
 Bd e b a R w) λ c=>
 Zl b false (
 F0 43 d 2 R w λ f w=>
 L0 9 f R w λ g w=>
 opV Pg (buildSlice 94 1 #[(0,g)]) (Zj R) w λ h w=>
 C0 52 #[h] R w λ a w=>
 c a w) (
 c undef w)
def CP c d e f R w:=
 Zw e f (.bool false) λ a=>
 Zm (λ (g:Vl) (w:Wd)=>
 CO c a g R w) λ b=>
 Zl a true (
 F0 105 d 0 R w λ h w=>
 L0 4 h R w λ i w=>
 N0 i R w λ j w=>
 b j w) (
 b undef w)
def Mx b e f g R w:=
 Zw f g (.bool false) λ c=>
 Zm (λ (a:Vl) (w:Wd)=>
 CP b e c a R w) λ d=>
 Zl c true (
 F0 43 b 0 R w λ h w=>
 L0 9 h R w λ i w=>
 opV Pg (ZP .neq 9 true i (.string { data := #[101,110,100] })) (Zj R) w λ a w=>
 d a w) (
 d undef w)
def Rv b e f g R w:=
 Zw f g (.bool false) λ c=>
 Zm (λ (a:Vl) (w:Wd)=>
 Mx b e c a R w) λ d=>
 Zl c true (
 F0 43 b 0 R w λ h w=>
 L0 9 h R w λ i w=>
 opV Pg (buildSlice 94 1 #[(0,i)]) (Zj R) w λ j w=>
 C0 52 #[j] R w λ a w=>
 d a w) (
 d undef w)
def Rw b c d R w:=
 Zm (λ (a:Vl) (w:Wd)=>
 Rv b c d a R w) λ e=>
 Zl d true (
 L0 43 b R w λ f w=>
 L0 105 c R w λ g w=>
 C0 97 #[f,g] R w λ a w=>
 e a w) (
 e undef w)
def Zb8 d e (a:WPr) (f:KW) R w:=
 qV Pg a (lookup 106 d e true) λ b=>
 qV Pg a (extract b 0) λ g=>
 qV Pg a (extract b 1) λ h=>
 opV Pg (alloc 105 true (.tuple #[])) (Zj R) w λ c w=>
 a w∧(
 S0 105 c g R w λ w=>
 a w∧(
 f c h w))
def Zb9 b d e (a:WPr) (f:KW) R w:=
 qV Pg a (lookup 106 d e true) λ c=>
 qV Pg a (extract c 0) λ g=>
 qV Pg a (extract c 1) λ h=>
 S0 105 b g R w λ w=>
 a w∧(
 f b h w)
def Zca d (a:WPr) R w:=
 J0 43 d 1 a λ g=>
 I0 39 g a λ e=>
 Zm (λ (b:Vl) (h:Vl) (w:Wd)=>
 Rw d b h R w) λ f=>
 (
 C0 57 #[] R w λ c w=>
 Qs a w λ i w=>
 Zb8 c e i f R w)∧(
 opV Pg (alloc 105 true (.tuple #[])) (Zj R) w λ b w=>
 a w∧(
 C0 57 #[] R w λ c w=>
 Qs a w λ j w=>
 Zb9 b c e j f R w))
def n39 a R w:=
 opV Pg (box 43 a) (Zj R) w λ b w=>
 Yg w λ c w=>
 Zca b c R w
def Zld:QqQ1 58 n39:=λ h=>by
 refine yD func58 ?_
 refine zs<|zr<|yv h λ h=>zm<|zn<|zk<|zs<|yh [3,4,5,6,7,8,9,10,11] h λ C hC h=>ye 1 hC h λ h=>?_
 refine ye 2 hC h λ h=>?_
 refine QI h (λ K2 hK h=>?_)
 refine Wq [3,4,5,6,9,10,11] (λ ρ w=>K2 (ρ 3) (ρ 4) w) (λ T hT=>?_) (λ σ w h=>?_)
 · obtain ⟨h0,h1⟩:=h
   refine Xj 0 7 rfl rfl K5 (λ _ _=>rfl) (λ _ _=>rfl) ?_ ?_
   · have h:=h0
     refine yc h c57 λ h=>zn ?_
     obtain ⟨C9,hs,hC,h⟩:=h
     refine ⟨C9,hs,hC,?_⟩
     refine ye 3 hC h λ h=>?_
     refine yw 4 hC ?_
     refine ye 5 hC h λ h=>?_
     refine ye 6 hC h λ h=>?_
     refine yo 7 ?_
     refine yv h λ h=>zn ?_
     obtain ⟨hC,h⟩:=h
     refine ⟨hC,?_⟩
     refine yo 8 ?_
     refine yu h λ h=>zn ?_
     obtain ⟨hC,h⟩:=h
     refine ⟨hC,?_⟩
     refine yw 9 hC ?_
     refine yz ?_
     exact zt hT h
   have h:=h1
   refine yv h λ h=>zn ?_
   obtain ⟨hC,h⟩:=h
   refine ⟨_,λ _ h=>h,hC,?_⟩
   refine yr 0 ?_
   refine yc h c57 λ h=>zn ?_
   obtain ⟨C10,hs,hC,h⟩:=h
   refine ⟨C10,hs,hC,?_⟩
   refine ye 3 hC h λ h=>?_
   refine yw 4 hC ?_
   refine ye 5 hC h λ h=>?_
   refine ye 6 hC h λ h=>?_
   refine yo 8 ?_
   refine yu h λ h=>zn ?_
   obtain ⟨hC,h⟩:=h
   refine ⟨hC,?_⟩
   refine yw 9 hC ?_
   refine yz ?_
   exact zt hT h
 subst hK
 refine zk<|zs<|Zr<|yG 2<|zm<|zm<|zn<|yg1 3 1 true [14,15,16] 16 h (λ _ T hT h=>?_) λ σ w h=>?_
 · refine yv h λ h=>yv h λ h=>yc h c97 λ h=>zn ?_
   exact zt hT h
 refine yG 2<|yp h λ h=>zm<|zn<|yg1 4 6 true [19,20,21,22] 22 h (λ _ T hT h=>?_) λ σ w h=>?_
 · refine yv h λ h=>yv h λ h=>yS h λ h=>yc h c52 λ h=>zn ?_
   exact zt hT h
 refine yG 2<|yp h λ h=>zm<|zn<|yg1 3 12 true [25,26,27] 27 h (λ _ T hT h=>?_) λ σ w h=>?_
 · refine yv h λ h=>yv h λ h=>yb h λ h=>zn ?_
   exact zt hT h
 refine yG 2<|yp h λ h=>zm<|zn<|yg1 4 17 true [30,31,32,33] 33 h (λ _ T hT h=>?_) λ σ w h=>?_
 · refine yv h λ h=>yv h λ h=>yv h λ h=>zm<|zn ?_
   exact zt hT h
 refine yg1 4 21 false [34,35,36,37] 37 h (λ _ T hT h=>?_) λ σ w h=>?_
 · refine yv h λ h=>yv h λ h=>yS h λ h=>yc h c52 λ h=>zn ?_
   exact zt hT h
 refine yg1 1 17 true [38] 38 h (λ _ T hT h=>?_) λ σ w h=>?_
 · refine yp h λ h=>zn ?_
   exact zt hT h
 exact yG 2<|yp h λ h=>zm<|zn<|ZG<|zk<|Zh<|Zf rfl rfl h
def Zij b (a:WPr) (R:RT) w:=
 J0 43 b 0 a λ c=>
 I0 9 c a λ d=>
 J0 43 b 2 a λ e=>
 I0 9 e a λ f=>
 J0 43 b 3 a λ g=>
 I0 3 g a λ h=>
 C0 101 #[h] R w λ i w=>
 a w∧(
 opV Pg (buildSlice 94 4 #[(0,d),(1,(.string { data := #[97,100,100] })),(2,f),(3,i)]) (Zj R) w λ j w=>
 a w∧(
 R (.returned j) w))
def Zik b (a:WPr) (R:RT) w:=
 J0 43 b 0 a λ c=>
 I0 9 c a λ d=>
 J0 43 b 4 a λ e=>
 I0 3 e a λ f=>
 C0 101 #[f] R w λ g w=>
 a w∧(
 opV Pg (buildSlice 94 3 #[(0,d),(1,(.string { data := #[118,97,108,117,101] })),(2,g)]) (Zj R) w λ h w=>
 a w∧(
 R (.returned h) w))
def Zil b (a:WPr) (R:RT) w:=
 J0 43 b 0 a λ c=>
 I0 9 c a λ d=>
 J0 43 b 5 a λ e=>
 I0 40 e a λ f=>
 C0 102 #[f] R w λ g w=>
 a w∧(
 opV Pg (buildSlice 94 3 #[(0,d),(1,(.string { data := #[98,121,116,101,115] })),(2,g)]) (Zj R) w λ h w=>
 a w∧(
 R (.returned h) w))
def Zim b c d e (a:WPr) (Qx:KW) R w:=
 qV Pg a (ZP .add 9 false d e) λ f=>
 opV Pg (buildSlice 94 1 #[(0,f)]) (Zj R) w λ g w=>
 a w∧(
 opV Pg (Builtin.append_ #[94,94] 94 #[b,g]) (Zj R) w λ h w=>
 a w∧(
 B0 .add 3 true c (QqJ 1) R w λ i w=>
 Qx h i w))
def Zin b c d e f (a:WPr) (Qx:KW) (R:RT) w:=
 qV Pg a (ZP .add 9 false d e) λ g=>
 qV Pg a (ZP .add 9 true g (.string { data := #[58] })) λ h=>
 C0 101 #[f] R w λ i w=>
 a w∧(
 Zim b c h i a Qx R w)
def Zio b c d e f (a:WPr) (Qx:KW) (R:RT) w:=
 qV Pg a (ZP .add 9 true d (.string { data := #[45] })) λ g=>
 C0 101 #[e] R w λ h w=>
 a w∧(
 Zin b c g h f a Qx R w)
def Ziq c b d (a:WPr) (Qx:KW) (R:RT) w:=
 J0 78 b 0 a λ e=>
 I0 3 e a λ f=>
 J0 78 b 1 a λ g=>
 I0 3 g a λ h=>
 J0 78 b 2 a λ i=>
 I0 3 i a λ j=>
 C0 101 #[f] R w λ k w=>
 a w∧(
 Zio c d k h j a Qx R w)
def Zir c d a (Qx:KW) R w:=
 X0 41 d a R w λ e w=>
 L0 78 e R w λ f w=>
 opV Pg (alloc 78 true (.tuple #[])) (Zj R) w λ b w=>
 S0 78 b f R w λ w=>
 Yg w λ g w=>
 Ziq c b a g Qx R w
def Zcb a R w:=
 F0 43 a 0 R w λ b w=>
 L0 9 b R w λ c w=>
 opV Pg (buildSlice 94 2 #[(0,c),(1,(.string { data := #[102,105,116] }))]) (Zj R) w λ d w=>
 R (.returned d) w
def Zep a R w:=
 F0 43 a 0 R w λ e w=>
 L0 9 e R w λ f w=>
 F0 43 a 2 R w λ g w=>
 L0 9 g R w λ h w=>
 opV Pg (buildSlice 94 3 #[(0,f),(1,(.string { data := #[116,97,98,108,101] })),(2,h)]) (Zj R) w λ i w=>
 F0 43 a 6 R w λ j w=>
 L0 41 j R w λ b w=>
 G0 41 3 b R w λ k w=>
 Qq (λ c d w Qx=>
 B0 .lss 3 false d k R w λ l w=>
 Zo l (
 Zir c b d Qx R w) (
 R (.returned c) w)) i (QqJ 0) w
def Zeq a R w:=
 F0 43 a 0 R w λ b w=>
 L0 9 b R w λ c w=>
 F0 43 a 2 R w λ d w=>
 L0 9 d R w λ e w=>
 opV Pg (buildSlice 94 3 #[(0,c),(1,(.string { data := #[110,101,115,116,101,100] })),(2,e)]) (Zj R) w λ f w=>
 R (.returned f) w
def Rx a b R w:=
 B0 .eql 39 true b (QqJ 6) R w λ c w=>
 Zo c (
 Zeq a R w) (
 B0 .eql 39 true b (QqJ 7) R w λ d w=>
 Zo d (
 Zcb a R w) (
 Zep a R w))
def Ry a b R w:=
 B0 .eql 39 true b (QqJ 3) R w λ c w=>
 Zo c (
 Yg w λ d w=>
 Zik a d R w) (
 B0 .eql 39 true b (QqJ 4) R w λ e w=>
 Zo e (
 Yg w λ f w=>
 Zil a f R w) (
 Rx a b R w))
def Rz a R w:=
 F0 43 a 0 R w λ b w=>
 L0 9 b R w λ c w=>
 F0 43 a 2 R w λ d w=>
 L0 9 d R w λ e w=>
 opV Pg (buildSlice 94 3 #[(0,c),(1,(.string { data := #[99,111,112,121] })),(2,e)]) (Zj R) w λ f w=>
 R (.returned f) w
def n40 c R w:=
 opV Pg (box 43 c) (Zj R) w λ a w=>
 F0 43 a 1 R w λ d w=>
 L0 39 d R w λ b w=>
 B0 .eql 39 true b (QqJ 1) R w λ e w=>
 Zo e (
 Rz a R w) (
 B0 .eql 39 true b (QqJ 2) R w λ f w=>
 Zo f (
 Yg w λ g w=>
 Zij a g R w) (
 Ry a b R w))
def Zle:QqQ1 60 n40:=λ h=>by
 refine yD func60 ?_
 refine zs<|zr<|yv h λ h=>zm<|zn<|zk<|zs<|zs<|zr<|yv h λ h=>yv h λ h=>zn<|zk<|Zk<|zs ?_
 refine zr<|yb h λ h=>zm<|zn<|zk<|yC h (λ h=>zs<|zr<|yv h λ h=>yv h λ h=>yv h λ h=>yv h λ h=>yS h λ h=>zm<|zn<|zk<|Zh<|Zd<|Zb<|Zf rfl rfl h) λ h=>zs<|zr<|yb h λ h=>zm<|zn<|zk<|yC h (λ h=>?_) λ h=>?_
 · refine zs<|yh [2,17,18,19,20,21,22,23,24] h λ C hC h=>ye 0 hC h λ h=>?_
   refine ye 1 hC h λ h=>?_
   refine ye 2 hC h λ h=>?_
   refine ye 3 hC h λ h=>?_
   refine ye 4 hC h λ h=>?_
   refine ye 5 hC h λ h=>?_
   refine yo 6 ?_
   refine yc h OV λ h=>zn ?_
   obtain ⟨hC,h⟩:=h
   refine ⟨hC,?_⟩
   refine yo 7 ?_
   refine yS h λ h=>zn ?_
   obtain ⟨hC,h⟩:=h
   refine ⟨hC,?_⟩
   refine yw 8 hC ?_
   exact yz<|zk<|Zh<|Zd<|Zb<|Zf rfl rfl h
 refine zs<|zr<|yb h λ h=>zm<|zn<|zk<|yC h (λ h=>?_) λ h=>?_
 · refine zs<|yh [2,27,28,29,30,31,32] h λ C hC h=>ye 0 hC h λ h=>?_
   refine ye 1 hC h λ h=>?_
   refine ye 2 hC h λ h=>?_
   refine ye 3 hC h λ h=>?_
   refine yo 4 ?_
   refine yc h OV λ h=>zn ?_
   obtain ⟨hC,h⟩:=h
   refine ⟨hC,?_⟩
   refine yo 5 ?_
   refine yS h λ h=>zn ?_
   obtain ⟨hC,h⟩:=h
   refine ⟨hC,?_⟩
   refine yw 6 hC ?_
   exact yz<|zk<|Zh<|Zd<|Zb<|Zf rfl rfl h
 refine zs<|zr<|yb h λ h=>zm<|zn<|zk<|yC h (λ h=>?_) λ h=>?_
 · refine zs<|yh [2,35,36,37,38,39,40] h λ C hC h=>ye 0 hC h λ h=>?_
   refine ye 1 hC h λ h=>?_
   refine ye 2 hC h λ h=>?_
   refine ye 3 hC h λ h=>?_
   refine yo 4 ?_
   refine yc h ZjA λ h=>zn ?_
   obtain ⟨hC,h⟩:=h
   refine ⟨hC,?_⟩
   refine yo 5 ?_
   refine yS h λ h=>zn ?_
   obtain ⟨hC,h⟩:=h
   refine ⟨hC,?_⟩
   refine yw 6 hC ?_
   exact yz<|zk<|Zh<|Zd<|Zb<|Zf rfl rfl h
 refine zs<|zr<|yb h λ h=>zm<|zn<|zk<|yC h (λ h=>zs<|zr<|yv h λ h=>yv h λ h=>yv h λ h=>yv h λ h=>yS h λ h=>zm<|zn<|zk<|Zh<|Zd<|Zb<|Zf rfl rfl h) λ h=>zs<|zr<|yb h λ h=>zm<|zn<|zk<|yC h (λ h=>zs<|zr<|yv h λ h=>yv h λ h=>yS h λ h=>zm<|zn<|zk<|Zh<|Zd<|Zb<|Zf rfl rfl h) λ h=>?_
 refine Zi<|Zg<|zk<|zs<|zr<|yv h λ h=>yv h λ h=>yv h λ h=>yv h λ h=>yS h λ h=>zm<|zn<|zk<|zs<|zs ?_
 refine zr<|yv h λ h=>yv h λ h=>yx h λ h=>zm<|zn<|zk<|Zk<|yl2 [3,5,61,62,63,64,65,66,67,68,69,70,71,72,73,74,75,76,77,78,79,80,81] 3 61 h λ σ w next h=>zs<|zr<|yb h λ h=>zn<|zk<|zs ?_
 refine yC h (λ h=>?_) λ h=>?_
 · refine Zi<|zk<|zs<|Zk<|zs<|zr<|yv h λ h=>yv h λ h=>yv h λ h=>yu h λ h=>zn<|zk<|yh [3,65,66,67,68,69,70,71,72,73,74,75,76,77,78,79,80] h λ C hC h=>yw 0 hC ?_
   refine ye 1 hC h λ h=>?_
   refine ye 2 hC h λ h=>?_
   refine ye 5 hC h λ h=>?_
   refine ye 6 hC h λ h=>?_
   refine ye 10 hC h λ h=>?_
   refine ye 11 hC h λ h=>?_
   refine yo 3 ?_
   refine yc h OV λ h=>zn ?_
   obtain ⟨hC,h⟩:=h
   refine ⟨hC,?_⟩
   refine ye 4 hC h λ h=>?_
   refine yo 7 ?_
   refine yc h OV λ h=>zn ?_
   obtain ⟨hC,h⟩:=h
   refine ⟨hC,?_⟩
   refine ye 8 hC h λ h=>?_
   refine ye 9 hC h λ h=>?_
   refine yo 12 ?_
   refine yc h OV λ h=>zn ?_
   obtain ⟨hC,h⟩:=h
   refine ⟨hC,?_⟩
   refine ye 13 hC h λ h=>?_
   refine yo 14 ?_
   refine yS h λ h=>zn ?_
   obtain ⟨hC,h⟩:=h
   refine ⟨hC,?_⟩
   refine yo 15 ?_
   refine yx h λ h=>zn ?_
   obtain ⟨hC,h⟩:=h
   refine ⟨hC,?_⟩
   refine yw 16 hC ?_
   exact yz<|Zg<|zk<|zr<|yb h λ h=>zm<|zn<|zk<|⟨rfl,h⟩
 exact ZD<|Zc<|Zc<|Zp<|zk<|zs<|zr<|zm<|zm<|zn<|zk<|Zh<|Zf rfl rfl h
def Hl (w:Wd) (s:BAr):Ret Pg 91 #[.string s] w λ r w'=>r = .bool (!YZ s)∧Ext w w':=by
 refine Zlc (R:=ZR _) ?_;unfold n38
 refine zcr (UU w s) λ w1 e1=>?_
 refine Qqk ?_
 exact ⟨by trivial,e1⟩
def Dd (w0:Wd) (v:Vl) (l:List BAr) (hs:zO w0 v l):Ret Pg 52 #[v] w0 λ r w'=>r = .bool (l.all YZ)∧Ext w0 w':=by
 refine Zlb (R:=ZR _) ?_;unfold n37
 refine zcr (UQ w0 v l _ _ (λ s=>!YZ s) hs c91 λ w' v y _ e' hv=>by subst hv;exact Hl w' y) λ w1 e1=>?_
 refine Qqk ?_
 refine ⟨?_,e1⟩
 congr 1
 rw [List.all_eq_not_any_not]
def JZ {base:Nat} (w:Wd) (l:List BAr) (hl:l.length≤1000) (hb:base≤w.heap.size):QZ (w.alloc (.cells (l.map Value.string).toArray 9)) base (.slice (some ⟨w.heap.size,0,none⟩) l.length l.length) l:=by
 have:=(Yc.new w 9 1 XU l (λ _=>rfl) K9).base hb
 have hf:l.flatMap XU=l.map Value.string:=by
  clear this hl
  induction l with
  | nil=>rfl
  | cons x l ih=>rw [List.flatMap_cons,ih];rfl
 rw [hf] at this
 exact this
def Bv {w:Wd} {base:Nat} {v:Vl} {l:List BAr} (h:QZ w base v l):zO w v l:=h.slice (λ _=>rfl) (λ _ _=>rfl)
def Kt (w0:Wd) (s:BAr):Ret Pg 52 #[.slice (some ⟨w0.heap.size,0,none⟩) 1 1] (w0.alloc (.cells #[.string s] 9)) λ r w'=>r = .bool (YZ s)∧Ext w0 w':=by
 have h:=Bv (JZ w0 [s] (by simp) (Nat.le_refl _))
 refine (Dd _ _ [s] h).mono ?_
 rintro _ w' ⟨rfl,e⟩
 exact ⟨by simp,((Ext.refl w0).alloc _).trans e⟩
def Lk (w0:Wd) (s t:BAr):Ret Pg 52 #[.slice (some ⟨w0.heap.size,0,none⟩) 2 2] (w0.alloc (.cells #[.string s,.string t] 9)) λ r w'=>r = .bool (YZ s&&YZ t)∧Ext w0 w':=by
 have h:=Bv (JZ w0 [s,t] (by simp) (Nat.le_refl _))
 refine (Dd _ _ [s,t] h).mono ?_
 rintro _ w' ⟨rfl,e⟩
 exact ⟨by simp,((Ext.refl w0).alloc _).trans e⟩
def Tt {D:Wd} {m c:Nat} {L:List (Int×Vl×Nat)} {k:Vl→Prop} (hM:XB D m XG L c) (s:Int):qV Pg (EC D) (lookup 106 (.map (some m)) (.int .i64 s) true) k=k (.tuple #[(Sw.look L s).getD (Co ⟨false,false,false,false,false⟩),.bool (Sw.look L s).isSome]):=J2 λ w' e=>QY λ QP k=>xU (enc:=XG) underlying106 (Q6.int underlying39) Ka (hM.ext e) s
def Cc (w0:Wd) (v:Vl) (r:FrD) (hr:Ws w0 v r):Ret Pg 58 #[v] w0 λ q w'=>q = .bool (J1 r)∧Ext w0 w':=by
 obtain ⟨bv,tv,rfl,hB,hT,b1,b2⟩:=hr.op
 refine Zld (R:=ZR _) ?_;unfold n39
 rw [Yi]
 have q1:=Zv w0 (ZC r bv tv).toArray 43
 have e1:Ext w0 (w0.alloc (.cells (ZC r bv tv).toArray 43)):=(Ext.refl w0).alloc _
 generalize (w0.alloc (.cells (ZC r bv tv).toArray 43))=W at q1 e1 ⊢
 obtain ⟨p1,hp1⟩:∃ p1,w0.heap.size=p1:=⟨_,rfl⟩
 rw [hp1] at q1 ⊢
 refine ZB ?_
 have eD:Ext W (drew W):=(Ext.refl W).drew
 generalize (drew W)=D at eD ⊢
 replace q1:=eD.obj q1
 have E1:=e1.trans eD
 have c1:=(Za q1).1
 unfold Zca
 refine Qqg c1 ?_
 have main:∀ (p3:Nat) (u:DD) (ok:Bool) (w:Wd),Ext w0 w→Ext D w→w.heap[p3]?=some (.cells #[.bool u.fr,.bool u.add,.bool u.value,.bool u.bytes,.bool u.table] 105 (0,0))→ok=(WE r.kind).isSome→(ok=true→WE r.kind=some u) →
  Rw (Qq4 p1) (Qq4 p3) (.bool ok) (ZR λ q w'=>q = .bool (J1 r)∧Ext w0 w') w:=by
  intro p3 u ok w e0 eD hu hok hus
  have k1:=(Za (eD.obj q1)).1
  have k3:=(Za hu).1
  unfold Rw
  cases ok with
  | false=>
   have hp:J1 r=false:=by
    unfold J1
    cases hk:WE r.kind with
    | none=>rfl
    | some u=>rw [hk] at hok;cases hok
   simp (disch:=try exact DI) only [↓PR,QR,simprocAttr,Rv,Mx,CP,CO,Bd]
   exact ⟨by rw [hp],e0⟩
  | true=>
   have hp:J1 r=(Jj r u&&(YZ r.to&&(decide (r.to≠Zd1)&&(!u.fr||YZ r.fr)))):=by unfold J1;rw [hus rfl]
   refine Qqh k1 k3 ?_
   refine zcr (Cy w _ r ⟨_,_,rfl,hB.ext e0,hT.ext e0⟩ u) λ w2 e2=>?_
   have E2:=e0.trans e2
   unfold Rv
   cases hc:Jj r u with
   | false=>
    simp (disch:=try exact DI) only [↓PR,QR,simprocAttr,Mx,CP,CO,Bd]
    exact ⟨by rw [hp,hc];rfl,E2⟩
   | true=>
   have k1:=(Za (((eD.trans e2)).obj q1)).1
   refine Qqg k1 ?_
   refine Zs (Kt w2 r.to) ?_
   rintro _ w3 ⟨rfl,e3⟩
   have E3:=E2.trans e3
   unfold Mx
   cases hn:YZ r.to with
   | false=>
    simp (disch:=try exact DI) only [↓PR,QR,simprocAttr,CP,CO,Bd]
    exact ⟨by rw [hp,hc,hn];rfl,E3⟩
   | true=>
   have k1:=(Za ((eD.trans (e2.trans e3)).obj q1)).1
   have k3:=(Za ((e2.trans e3).obj hu)).1
   by_cases he:r.to=Zd1
   · have d1:decide (r.to=⟨#[101,110,100]⟩)=true:=decide_eq_true he
     simp (disch:=try exact DI) only [↓PR,QR,simprocAttr,k1,d1,CP,CO,Bd]
     exact ⟨by rw [hp,hc,hn];simp [he],E3⟩
   · have d1:decide (r.to=⟨#[101,110,100]⟩)=false:=decide_eq_false he
     simp (disch:=try exact DI) only [↓PR,QR,simprocAttr,k1,d1,CP]
     unfold CO
     cases hf:u.fr with
     | false=>
      simp (disch:=try exact DI) only [↓PR,QR,simprocAttr,k3,hf,Bd]
      exact ⟨by rw [hp,hc,hn,hf];simp [he,d1],E3⟩
     | true=>
      refine Qqb k3 hf k1 ?_
      refine Zs (Kt w3 r.fr) ?_
      rintro _ w4 ⟨rfl,e4⟩
      simp (disch:=try exact DI) only [↓PR,QR,simprocAttr,Bd]
      exact ⟨by rw [hp,hc,hn,hf];simp [he,d1],E3.trans e4⟩
 have lk:∀ (L:List (Int×Vl×Nat)),OI L→∃ u:DD,(Sw.look L r.kind).getD (Co ⟨false,false,false,false,false⟩)=Co u∧(Sw.look L r.kind).isSome=(WE r.kind).isSome∧((WE r.kind).isSome=true→WE r.kind=some u):=by
  intro L hL
  rw [hL]
  cases WE r.kind with
  | none=>exact ⟨_,rfl,rfl,λ h=>by cases h⟩
  | some u=>exact ⟨u,rfl,rfl,λ _=>rfl⟩
 have lD:=(Qqq q1).1
 refine ⟨?_,(Ext.refl D).alloc _,?_⟩
 · refine Zs (Ko D) ?_
   rintro _ w1 ⟨m,L,c,rfl,hm,hM,hL,e2⟩
   refine Ll e2 ?_
   obtain ⟨u,h1,h2,h3⟩:=lk L hL
   unfold Zb8
   rw [Tt hM,h1,h2]
   unfold Co
   refine Qqk ?_
   refine ⟨(Ext.refl w1).alloc _,(Ext.refl w1).alloc _,main _ u _ _ ((E1.trans e2).alloc _) (e2.alloc _) (Zv _ _ _) rfl h3⟩
 · have eV:Ext D (D.alloc (.cells #[.bool false,.bool false,.bool false,.bool false,.bool false] 105)):=(Ext.refl D).alloc _
   have oV:=Zv D #[.bool false,.bool false,.bool false,.bool false,.bool false] 105
   generalize (D.alloc (.cells #[.bool false,.bool false,.bool false,.bool false,.bool false] 105))=V at eV oV ⊢
   obtain ⟨p3,hp3⟩:∃ p3,D.heap.size=p3:=⟨_,rfl⟩
   rw [hp3] at oV ⊢
   refine Zs (Ko V) ?_
   rintro _ w1 ⟨m,L,c,rfl,hm,hM,hL,e2⟩
   have eVw:=eV.trans e2
   refine Ue eVw hM ?_
   obtain ⟨u,h1,h2,h3⟩:=lk L hL
   have o3:=e2.obj oV
   have o3c:=Za o3
   have Y3:∃ x,KM D m XG L c x:=⟨w1,eVw,hM⟩
   haveI:Xb (KM D m XG L c):=⟨Y3⟩
   have l3:D.heap.size≤p3:=K9
   unfold Zb9
   rw [VN (enc:=XG) underlying106 (Q6.int underlying39) Ka Y3 r.kind]
   rw [show ((Sw.look L r.kind).getD (Value.agg #[.bool false,.bool false,.bool false,.bool false,.bool false]))=Co u from h1,h2]
   unfold Co
   refine Qqh o3c.1 o3c.2 ?_
   have eZ:Ext D (((((w1.setCell ⟨p3,0,none⟩ (.bool u.fr)).setCell ⟨p3,1,none⟩ (.bool u.add)).setCell ⟨p3,2,none⟩ (.bool u.value)).setCell ⟨p3,3,none⟩ (.bool u.bytes)).setCell ⟨p3,4,none⟩ (.bool u.table)):=((((eVw.setCell l3 _).setCell l3 _).setCell l3 _).setCell l3 _).setCell l3 _
   have oZ:=Zy (o:=4) (Zy (o:=3) (Zy (o:=2) (Zy (o:=1) (Zy (o:=0) o3 (.bool u.fr)) (.bool u.add)) (.bool u.value)) (.bool u.bytes)) (.bool u.table)
   have hM':=((((hM.setCell ⟨p3,0,none⟩ (.bool u.fr)).setCell ⟨p3,1,none⟩ (.bool u.add)).setCell ⟨p3,2,none⟩ (.bool u.value)).setCell ⟨p3,3,none⟩ (.bool u.bytes)).setCell ⟨p3,4,none⟩ (.bool u.table)
   exact ⟨⟨eZ,hM'⟩,main p3 u _ _ (E1.trans eZ) eZ (by simpa using oZ) rfl h3⟩
section
variable {P:Program} {QP:PEn} {w:Wd} {k:KV}
def JY (t:TypeId) (c:Bool) (a b:BAr) (h:a.size+b.size≤9223372036854775807):opV P (ZP .add t c (.string a) (.string b)) QP w k=k (.string (a++b)) w:=Yj (by
 have h1:¬ (((a.size+b.size:Nat):Int) > IntKind.i64.max):=by
  have:IntKind.i64.max=9223372036854775807:=rfl
  omega
 simp [ZP,binOp,Op.stringOp,h1]
 omega)
end
def VD (r:FrD):List BAr:=(Fi r).map mkB
def ZbP a b c d (XQ:Vl→Vl→Vl→Wd→Prop) R w:=
 opV Pg (buildSlice 94 1 #[(0,c)]) (Zj R) w λ e w=>
 opV Pg (Builtin.append_ #[94,94] 94 #[d,e]) (Zj R) w λ f w=>
 B0 .add 3 true a (QqJ 1) R w λ g w=>
 XQ b f g w
def ZbQ a b c d e (XQ:Vl→Vl→Vl→Wd→Prop) R w:=
 Zw d c (.bool false) λ f=>
 L0 43 a R w λ g w=>
 C0 60 #[g] R w λ h w=>
 Yb Pg 59 #[h,(.string { data := #[32] })] (Zj R) w λ i w=>
 ZbP b f i e XQ R w
def Re a b c (Zu:Vl→Vl→Vl→Wd→Prop) R w:=
 opV Pg (buildSlice 94 1 #[(0,(.string { data := #[101,110,100] }))]) (Zj R) w λ d w=>
 opV Pg (Builtin.append_ #[94,94] 94 #[c,d]) (Zj R) w λ e w=>
 B0 .add 3 true a (QqJ 1) R w λ f w=>
 Zu b e f w
def Rf f c d g (XQ:Vl→Vl→Vl→Wd→Prop) R w:=
 X0 58 f c R w λ h w=>
 L0 43 h R w λ i w=>
 opV Pg (alloc 43 true (.tuple #[])) (Zj R) w λ a w=>
 S0 43 a i R w λ w=>
 Zm (λ (b:Vl) (w:Wd)=>
 ZbQ a c b d g XQ R w) λ e=>
 Zl d true (
 L0 43 a R w λ j w=>
 C0 58 #[j] R w λ b w=>
 e b w) (
 e undef w)
def ZbR f g a h i (Zu:Vl→Vl→Vl→Wd→Prop) R w:=
 Zw f i (.bool false) λ j=>
 F0 60 a 0 R w λ k w=>
 L0 9 k R w λ l w=>
 opV Pg (ZP .add 9 true (.string { data := #[109,97,112,32] }) l) (Zj R) w λ m w=>
 opV Pg (ZP .add 9 true m (.string { data := #[32] })) (Zj R) w λ n w=>
 F0 60 a 1 R w λ o w=>
 L0 9 o R w λ p w=>
 B0 .add 9 false n p R w λ q w=>
 opV Pg (buildSlice 94 1 #[(0,q)]) (Zj R) w λ r w=>
 opV Pg (Builtin.append_ #[94,94] 94 #[g,r]) (Zj R) w λ s w=>
 F0 60 a 2 R w λ t w=>
 L0 58 t R w λ b w=>
 G0 58 3 b R w λ u w=>
 GF (λ c d e w XQ=>
 B0 .lss 3 false e u R w λ v w=>
 Zo v (
 Rf b e c d XQ R w) (
 Re h c d Zu R w)) j s (QqJ 0) w
def ZbS a R w:=
 Yb Pg 59 #[a,(.string { data := #[10] })] (Zj R) w λ b w=>
 opV Pg (ZP .add 9 true b (.string { data := #[10] })) (Zj R) w λ c w=>
 R (.returned (.tuple #[c,(QqJ 0)])) w
def ZbT c f g d (Zu:Vl→Vl→Vl→Wd→Prop) R w:=
 X0 22 g d R w λ h w=>
 L0 60 h R w λ i w=>
 opV Pg (alloc 60 true (.tuple #[])) (Zj R) w λ a w=>
 S0 60 a i R w λ w=>
 Zm (λ (b:Vl) (w:Wd)=>
 ZbR c f a d b Zu R w) λ e=>
 Zl c true (
 F0 60 a 0 R w λ j w=>
 L0 9 j R w λ k w=>
 F0 60 a 1 R w λ l w=>
 L0 9 l R w λ m w=>
 opV Pg (buildSlice 94 2 #[(0,k),(1,m)]) (Zj R) w λ n w=>
 C0 52 #[n] R w λ b w=>
 e b w) (
 e undef w)
def ZbU a b d e c (Zu:Vl→Vl→Vl→Wd→Prop) R w:=
 B0 .lss 3 false c e R w λ f w=>
 Zo f (
 ZbT a b d c Zu R w) (
 N0 a R w λ g w=>
 Zo g (
 R (.returned (.tuple #[(.string { data := #[] }),(QqJ 2)])) w) (
 ZbS b R w))
def ZbV a c R w:=
 F0 24 a 0 R w λ d w=>
 L0 9 d R w λ e w=>
 opV Pg (ZP .add 9 true (.string { data := #[109,97,112,112,105,110,103,32] }) e) (Zj R) w λ f w=>
 opV Pg (buildSlice 94 1 #[(0,f)]) (Zj R) w λ g w=>
 F0 24 a 1 R w λ h w=>
 L0 22 h R w λ b w=>
 G0 22 3 b R w λ i w=>
 GF (λ j k l w Zu=>
 ZbU j k b i l Zu R w) c g (QqJ 0) w
def n18 b R w:=
 opV Pg (box 24 b) (Zj R) w λ a w=>
 F0 24 a 0 R w λ c w=>
 L0 9 c R w λ d w=>
 opV Pg (buildSlice 94 1 #[(0,d)]) (Zj R) w λ e w=>
 C0 52 #[e] R w λ f w=>
 ZbV a f R w
def ZkU:QqQ1 25 n18:=λ h=>by
 refine yD func25 ?_
 refine zs<|zr<|yv h λ h=>zm<|zm<|zn<|zk<|zs<|zr<|yv h λ h=>yv h λ h=>yS h λ h=>yc h c52 λ h=>zm<|zn ?_
 refine zk<|zs<|zr<|yv h λ h=>yv h λ h=>yb h λ h=>yS h λ h=>zm<|zn<|zk<|zs<|zs<|zr<|yv h λ h=>yv h λ h=>?_
 refine yx h λ h=>zm<|zn<|zk<|Zk<|yl3 [4,5,7,9,21,22,23,24,25,26,27,28,29,30,31,32,33,34,35,36,37,38,39,40,41,42,43,44,45,46,47,48,49,50,51,52,53,54,55,56,57,58,59,60,61,62,63,64,65,66] 4 5 21 h λ σ w next h=>zs<|zr<|yb h λ h=>zn<|zk<|zs<|yC h (λ h=>?_) λ h=>?_
 · refine Zi<|zk<|zs<|Zk<|zs<|zr<|yv h λ h=>yv h λ h=>yv h λ h=>yu h λ h=>zn<|zk<|zs<|Zr<|yG 2 ?_
   refine zm<|zm<|zn<|yg1 6 1 true [27,28,29,30,31,32] 32 h (λ _ T hT h=>?_) λ σ w h=>?_
   · refine yv h λ h=>yv h λ h=>yv h λ h=>yv h λ h=>yS h λ h=>yc h c52 λ h=>zn ?_
     exact zt hT h
   refine yG 2<|yp h λ h=>zm<|zn<|ZG<|zk<|zs<|zr<|zm<|yv h λ h=>yv h λ h=>yb h λ h=>yb h λ h=>yv h λ h=>yv h λ h=>?_
   refine yb h λ h=>yS h λ h=>yx h λ h=>zm<|zn<|zk<|zs<|zs<|zr<|yv h λ h=>yv h λ h=>yx h λ h=>zm<|zn<|zk ?_
   refine Zk<|yl3 [4,5,9,47,48,49,50,51,52,53,54,55,56,57,58,59,60,61,62] 4 5 47 h λ σ w next h=>zs<|zr<|yb h λ h=>zn<|zk<|zs<|yC h (λ h=>?_) λ h=>?_
   · refine Zi<|zk<|zs<|Zk<|zs<|zr<|yv h λ h=>yv h λ h=>yv h λ h=>yu h λ h=>zn<|zk<|zs<|Zr<|yG 2 ?_
     refine zm<|zm<|zn<|yg1 2 1 true [53,54] 54 h (λ _ T hT h=>?_) λ σ w h=>?_
     · refine yv h λ h=>yc h c58 λ h=>zn ?_
       exact zt hT h
     refine yG 2<|yp h λ h=>zm<|zn<|ZG<|zk<|zr<|zm<|yv h λ h=>yc h c60 λ h=>yc h c59 λ h=>yS h λ h=>yx h λ h=>zm<|zn ?_
     exact Zg<|zk<|zr<|yb h λ h=>zm<|zn<|zk<|⟨rfl,h⟩
   refine ZD<|Zc<|Zc<|Zp<|zk<|zr<|zm<|yS h λ h=>yx h λ h=>zm<|zn<|Zg<|zk<|zr<|yb h λ h=>?_
   exact zm<|zn<|zk<|⟨rfl,h⟩
 refine ZD<|Zc<|Zc<|Zp<|zk<|zs<|zs<|zr<|zm<|yv h λ h=>zn<|zk<|yC h (λ h=>zs<|zr<|zm<|zm<|zn<|zk<|Zh<|Zb<|Xp rfl rfl rfl h) λ h=>Zi ?_
 exact zk<|zs<|zr<|zm<|yc h c59 λ h=>yb h λ h=>zm<|zm<|zn<|zk<|Zh<|Xp rfl rfl rfl h
def n9 g h R w:=
 opV Pg (box 24 g) (Zj R) w λ b w=>
 opV Pg (box 24 h) (Zj R) w λ c w=>
 opV Pg (alloc 88 true (.tuple #[])) (Zj R) w λ d w=>
 opU Pg (storeAt 88 d (.func (.func 62) #[] #[])) (Zj R) w λ w=>
 opV Pg (makeFunc (.func 65) #[] #[d]) (Zj R) w λ i w=>
 F0 24 b 0 R w λ j w=>
 L0 9 j R w λ k w=>
 F0 24 c 0 R w λ l w=>
 L0 9 l R w λ m w=>
 B0 .eql 9 false k m R w λ e w=>
 Zm (λ (a:Vl) (w:Wd)=>
 Zw e a (.bool false) λ n=>
 R (.returned n) w) λ f=>
 Zl e true (
 F0 24 b 1 R w λ o w=>
 L0 22 o R w λ p w=>
 F0 24 c 1 R w λ q w=>
 L0 22 q R w λ r w=>
 C0 67 #[p,r,i] R w λ a w=>
 f a w) (
 f undef w)
def n9s:QqQ2 27 n9:=λ h=>by
 refine yD func27 ?_
 refine zs<|zr<|yv h λ h=>yv h λ h=>zm<|zn<|zk<|zs<|zr<|yv h λ h=>yu h λ h=>zn<|zk<|zs<|zr ?_
 refine yF h λ h=>zm<|zn<|zk<|zs<|Zr<|yG 6<|yv h λ h=>yv h λ h=>yv h λ h=>yv h λ h=>yb h λ h=>zm<|zn<|yg1 6 5 true [14,15,16,17,18,19] 19 h (λ _ T hT h=>?_) λ σ w h=>?_
 · refine yv h λ h=>yv h λ h=>yv h λ h=>yv h λ h=>zm<|yc h c67 λ h=>zn ?_
   exact zt hT h
 exact yG 2<|yp h λ h=>zm<|zn<|ZG<|zk<|Zh<|Zf rfl rfl h
def PT a b (c:WPr) R w:=
 F0 60 a 2 R w λ d w=>
 L0 58 d R w λ e w=>
 F0 123 b 0 R w λ f w=>
 L0 9 f R w λ g w=>
 F0 123 b 0 R w λ h w=>
 L0 9 h R w λ i w=>
 opV Pg (build 43 #[(0,g),(1,(QqJ 1)),(2,i)]) (Zj R) w λ j w=>
 opV Pg (buildSlice 58 1 #[(0,j)]) (Zj R) w λ k w=>
 opV Pg (Builtin.append_ #[58,58] 58 #[e,k]) (Zj R) w λ l w=>
 F0 60 a 2 R w λ m w=>
 S0 58 m l R w λ w=>
 c w
def PU a b (c:WPr) R w:=
 F0 60 a 2 R w λ d w=>
 L0 58 d R w λ e w=>
 F0 123 b 0 R w λ f w=>
 L0 9 f R w λ g w=>
 F0 123 b 0 R w λ h w=>
 L0 9 h R w λ i w=>
 opV Pg (build 43 #[(0,g),(1,(QqJ 6)),(2,i)]) (Zj R) w λ j w=>
 opV Pg (buildSlice 58 1 #[(0,j)]) (Zj R) w λ k w=>
 opV Pg (Builtin.append_ #[58,58] 58 #[e,k]) (Zj R) w λ l w=>
 F0 60 a 2 R w λ m w=>
 S0 58 m l R w λ w=>
 c w
def PV b c e d (Zx:KV) R w:=
 B0 .geq 124 true d (QqJ 4) R w λ f w=>
 Zm (λ (w:Wd)=>
 B0 .add 3 true e (QqJ 1) R w λ g w=>
 Zx g w) λ a=>
 Zo f (
 PU b c a R w) (
 B0 .neq 124 true d (QqJ 0) R w λ h w=>
 Zo h (
 PT b c a R w) (
 a w))
def PW a b c (Zu:KV) R w:=
 F0 24 a 1 R w λ d w=>
 L0 22 d R w λ e w=>
 L0 60 b R w λ f w=>
 opV Pg (buildSlice 22 1 #[(0,f)]) (Zj R) w λ g w=>
 opV Pg (Builtin.append_ #[22,22] 22 #[e,g]) (Zj R) w λ h w=>
 F0 24 a 1 R w λ i w=>
 S0 22 i h R w λ w=>
 B0 .add 3 true c (QqJ 1) R w λ j w=>
 Zu j w
def ZbD c d b (Zx:KV) R w:=
 X0 72 d b R w λ e w=>
 L0 123 e R w λ f w=>
 opV Pg (alloc 123 true (.tuple #[])) (Zj R) w λ a w=>
 S0 123 a f R w λ w=>
 L0 123 a R w λ g w=>
 C0 68 #[g] R w λ h w=>
 PV c a b h Zx R w
def ZbE a b R w:=
 L0 24 b R w λ c w=>
 S0 24 a c R w λ w=>
 qW Pg 24 a w λ r0=>
 R (.returned (.tuple #[r0,(QqJ 0)])) w
def ZbF f g c (Zu:KV) R w:=
 X0 25 g c R w λ h w=>
 L0 74 h R w λ i w=>
 opV Pg (alloc 74 true (.tuple #[])) (Zj R) w λ a w=>
 S0 74 a i R w λ w=>
 F0 74 a 0 R w λ j w=>
 L0 9 j R w λ k w=>
 F0 74 a 0 R w λ l w=>
 L0 9 l R w λ m w=>
 opV Pg (build 60 #[(0,k),(1,m)]) (Zj R) w λ n w=>
 opV Pg (alloc 60 true (.tuple #[])) (Zj R) w λ b w=>
 S0 60 b n R w λ w=>
 F0 74 a 1 R w λ o w=>
 L0 72 o R w λ d w=>
 G0 72 3 d R w λ p w=>
 Yz (λ e w Zx=>
 B0 .lss 3 false e p R w λ q w=>
 Zo q (
 ZbD b d e Zx R w) (
 PW f b c Zu R w)) (QqJ 0) w
def ZbG a R w:=
 opV Pg (build 24 #[]) (Zj R) w λ b w=>
 S0 24 a b R w λ w=>
 qW Pg 24 a w λ r0=>
 R (.returned (.tuple #[r0,(QqJ 2)])) w
def ZbH b e R w:=
 F0 27 b 0 R w λ f w=>
 L0 9 f R w λ g w=>
 opV Pg (build 24 #[(0,g)]) (Zj R) w λ h w=>
 opV Pg (alloc 24 true (.tuple #[])) (Zj R) w λ a w=>
 S0 24 a h R w λ w=>
 F0 27 b 1 R w λ i w=>
 L0 25 i R w λ c w=>
 G0 25 3 c R w λ j w=>
 Yz (λ d w Zu=>
 B0 .lss 3 false d j R w λ k w=>
 Zo k (
 ZbF a c d Zu R w) (
 ZbE e a R w)) (QqJ 0) w
def n14 c R w:=
 opV Pg (box 27 c) (Zj R) w λ a w=>
 opV Pg (alloc 24 true (.tuple #[])) (Zj R) w λ b w=>
 L0 27 a R w λ d w=>
 C0 34 #[d] R w λ e w=>
 N0 e R w λ f w=>
 Zo f (
 ZbG b R w) (
 ZbH a b R w)
def ZkQ:QqQ1 28 n14:=λ h=>by
 refine yD func28 ?_
 refine zs<|zr<|yv h λ h=>yv h λ h=>zm<|zn<|zk<|zs<|zs<|zr<|yv h λ h=>yc h c34 λ h=>yv h λ h=>zn<|zk ?_
 refine yC h (λ h=>zs<|zr<|yB h λ h=>yu h λ h=>zm<|zn<|zk<|Zh<|Zb<|Z7 rfl rfl rfl h) λ h=>Zi<|zk<|zs<|zr<|yv h λ h=>yv h λ h=>yB h λ h=>yv h λ h=>yu h λ h=>zn<|zk<|zs<|zs ?_
 refine zr<|yv h λ h=>yv h λ h=>yx h λ h=>zm<|zn<|zk<|Zk<|yl1 [6,7,9,10,21,22,23,24,25,26,27,28,29,30,31,32,33,34,35,36,37,38,39,40,41,42,43,44,45,46,47,48,49,50,51,52,53,54,55,56,57,58,59,60,61,62,63,64,65,66,67,68,69,70,71,72] 21 h λ σ w next h=>zs<|zr<|yb h λ h=>zn<|zk<|zs ?_
 refine yC h (λ h=>?_) λ h=>?_
 · refine Zi<|zk<|zs<|Zk<|zs<|zr<|yv h λ h=>yv h λ h=>yv h λ h=>yu h λ h=>zn<|zk<|zs<|zr<|yv h λ h=>?_
   refine yv h λ h=>yv h λ h=>yv h λ h=>yB h λ h=>yv h λ h=>yu h λ h=>zn<|zk<|zs<|zs<|zr<|yv h λ h=>yv h λ h=>yx h λ h=>zm ?_
   refine zn<|zk<|Zk<|yl1 [9,10,33,34,35,36,37,38,39,40,41,42,43,44,45,46,47,48,49,50,51,52,53,54,55,56,57,58,59,60,61,62,63,64,65] 33 h λ σ w next h=>zs<|zr<|yb h λ h=>zn<|zk<|zs<|yC h (λ h=>?_) λ h=>?_
   · refine Zi<|zk<|zs<|Zk<|zs<|zr<|yv h λ h=>yv h λ h=>yv h λ h=>yu h λ h=>zn<|zk<|zs<|zr<|yv h λ h=>?_
     refine yc h c68 λ h=>zm<|zn<|zk<|Zk<|zs<|zr<|zm<|yb h λ h=>zm<|zn<|zk<|yJ0 [42,43,44,45,46,47,48,49,50,51,52,53,54,55,56,57,58,59,60,61,62,63,64] h (λ _ _ hkK3 h=>?_) λ σ w h=>?_
     · refine yC h (λ h=>?_) λ h=>?_
       · refine zr<|yv h λ h=>yv h λ h=>yv h λ h=>yv h λ h=>yv h λ h=>yv h λ h=>yB h λ h=>yS h λ h=>yx h λ h=>yv h λ h=>yu h λ h=>zn<|zk ?_
         exact zt hkK3 h
       refine zs<|zr<|zm<|yb h λ h=>zm<|zn<|zk<|yC h (λ h=>?_) λ h=>?_
       · refine zr<|yv h λ h=>yv h λ h=>yv h λ h=>yv h λ h=>yv h λ h=>yv h λ h=>yB h λ h=>yS h λ h=>yx h λ h=>yv h λ h=>yu h λ h=>zn<|zk ?_
         exact zt hkK3 h
       refine Zi<|zk ?_
       exact zt hkK3 h
     exact Zg<|Zg<|zk<|zr<|yb h λ h=>zm<|zn<|zk<|⟨rfl,h⟩
   refine ZD<|Zc<|Zc<|Zp<|zk<|zr<|yv h λ h=>yv h λ h=>yv h λ h=>yS h λ h=>yx h λ h=>yv h λ h=>yu h λ h=>zn<|Zg ?_
   exact zk<|zr<|yb h λ h=>zm<|zn<|zk<|⟨rfl,h⟩
 exact ZD<|Zc<|Zc<|Zp<|zk<|zs<|zr<|yv h λ h=>yu h λ h=>zm<|zn<|zk<|Zh<|Z7 rfl rfl rfl h
def AE (l:List UInt8):(mkB l).size=l.length:=by unfold mkB ByteArray.size;simp
def Ft {w w0:Wd} {QP:PEn} {k:KV} {base:Nat} {v:Vl} {l:List BAr} (s:BAr) (hO:QZ w base v l) (hb:base≤w.heap.size) (hl:l.length≤1000000) (e:Ext w0 w) (h0:w0.heap.size≤base)
 (hk:∀ v' w',QZ w' base v' (l++[s])→Ext w0 w'→base≤w'.heap.size→k v' w') :
 opV Pg (buildSlice 94 1 #[(0,.string s)]) QP w λ t w=>opV Pg (Builtin.append_ #[94,94] 94 #[v,t]) QP w k:=by
 refine Qqk ?_
 generalize hY:World.alloc w _=Y
 have eY:Ext w Y:=by rw [← hY];exact (Ext.refl w).alloc _
 have oY:Y.cell? ⟨w.heap.size,0,none⟩=some (.string s):=by rw [← hY,(Za (Zv _ _ _)).1];rfl
 clear hY
 have sY:=eY.size
 refine Kg s (hO.ext eY) oY K9 K9 ?_
 intro v' w' hO' hg
 have hlo:∀ b,v.ownBlock=some b→base≤b:=λ b hb=>(World.ownsRow.lt hO b hb).1
 exact hk v' w' hO' ((e.trans eY).grown hg λ b hb=>Nat.le_trans h0 (hlo b hb)) (by have:=hg.size;omega)
def B2 (w:Wd) (l:List UInt8) (c:UInt8) (hl:l.length≤1000000000):Ret Pg 49 #[.string (mkB l),.string ⟨#[c]⟩] w λ r w'=>r = .tuple #[.string (mkB (Go.Lib.trimSuffix l [c])),.bool (Go.Lib.hasSuffix l [c])]∧w'=w:=by
 refine Calls.mono (Gc (mkB l) ⟨#[c]⟩ w (by rw [AE];omega)) ?_
 rintro e w' ⟨rfl,h⟩
 exact ⟨_,rfl,rfl,h⟩
abbrev Gk (c:UInt8):List Vl:=[.int .u8 c.toNat]
def Ly {w:Wd} {base:Nat} {v:Vl} {l:List UInt8} (h:Yc w base 5 1 Gk v l):GT w v l:=h.slice (λ _=>rfl) (λ _ _=>rfl)
def Bw {w:Wd} {base:Nat} {v:Vl} {l:List UL} (h:Yc w base 78 3 Xh v l):Q0 w v l:=h.slice (λ _=>rfl) (λ _ _=>rfl)
def jj {b:Nat}:∀ (vs:List Vl) (w:Wd) (o:Nat),(Xi w b o vs).os=w.os∧(Xi w b o vs).tape=w.tape∧(Xi w b o vs).output=w.output
 | [],_,_=>⟨rfl,rfl,rfl⟩
 | v::vs,w,o=>jj vs (w.setCell ⟨b,o,none⟩ v) (o+1)
def Pc {a w:Wd} {b:Nat} {vs:List Vl} {T:TypeId} (e:Ext a w) (ho:w.heap[b]?=some (.cells vs.toArray T (0,0))):Ext a (Xi w b 0 vs):=by
 obtain ⟨h1,h2,h3⟩:=jj vs w 0 (b:=b)
 refine ⟨h1.trans e.os,h2.trans e.tape,h3.trans e.output,by rw [GO];exact e.size,λ k hk=>?_⟩
 rw [← e.block k hk]
 by_cases hb:k=b
 · subst hb
   rw [VF vs 0 ho,HG (by simp),ho]
 · exact UP vs w 0 k hb
section
variable {w0 w:Wd} {p2:Nat} {s:List UInt8} {x:FrD} {bv tv:Vl}
structure ZdM (w0 w:Wd) (p2:Nat) (x:FrD) (bv tv:Vl):Prop where
 e:Ext w0 w
 lp:w0.heap.size≤p2
 obj:w.heap[p2]?=some (.cells (ZC x bv tv).toArray 43 (0,0))
 ob:Yc w w0.heap.size 5 1 Gk bv x.bytes
 ot:Yc w w0.heap.size 78 3 Xh tv x.table
end
section
variable {P:Program} {QP:PEn} {w:Wd} {k:KV}
def Ht {t e:TypeId} {agg:Bool} {n m:Nat} {z:Vl} (hu:P.underlying t=some (.slice e)) (ht:ZJ P e agg n m z) (b o len cap:Nat) (l h:Nat) (hl:l≤h) (hh:h≤cap) :
 opV P (sliceAt t (.slice (some ⟨b,o,none⟩) len cap) (some (.int .i64 (l:Int))) (some (.int .i64 (h:Int))) (some (.int .i64 (h:Int)))) QP w k=k (.slice (some ⟨b,if h=l then o else o+l*n,none⟩) (h - l) (h - l)) w:=by
 refine Yj ?_
 have h1:(l:Int)≤(h:Int):=K9
 have h2:(h:Int)≤(cap:Int):=K9
 have h3:(0:Int)≤(l:Int):=K9
 have h4:(0:Int)≤(h:Int):=K9
 by_cases h5:h=l
 · subst h5
   simp [sliceAt,run_underlying hu,Instr.slice,Instr.sliceBounds,run_sliceBound,h2,h3,Sw.run_sizeOf ht,Addr.add_lit]
 · simp [sliceAt,run_underlying hu,Instr.slice,Instr.sliceBounds,run_sliceBound,h1,h2,h3,h4,h5,Sw.run_sizeOf ht,Addr.add_lit]
end
def Am (l:List BAr):(l.flatMap XU).length=l.length*1:=by
 induction l with
 | nil=>rfl
 | cons x l ih=>rw [List.flatMap_cons,List.length_append,ih,List.length_cons];simp;omega
def DJ {w:Wd} {QP:PEn} {k:KV} {g o:Nat} {u:Vl} {l l':List BAr} (hs:∀ j x,l[j]?=some x→Z6 w g (o+j*1) (XU x)) (hu:zO w u l') (Y3:l'≠[]) (h1:l.length≤200000) (h2:l'.length≤100000)
 (hk:∀ v' w',QZ w' w.heap.size v' (l++l')→Ext w w'→k v' w') :
 opV Pg (Builtin.append_ #[94,94] 94 #[.slice (some ⟨g,o,none⟩) l.length l.length,u]) QP w k:=by
 obtain ⟨⟨i,hi,Uq,hby,hzz⟩,_⟩:=ty9
 have hb4:=by9
 obtain ⟨A,c,rfl,hlc,hcm,hlm,YS⟩:=Ze.open hu
 obtain ⟨x0,l0,rfl⟩:=List.exists_cons_of_ne_nil Y3
 obtain ⟨b,o',_,rfl,_⟩:=YS 0 x0 rfl
 have hcells:∀ (ll:List BAr) (B O:Nat),(∀ j x,ll[j]?=some x→Z6 w B (O+j*1) (XU x))→∀ j v,(ll.flatMap XU)[j]?=some v→w.cell? ((⟨B,O,none⟩:Addr).add j)=some v:=by
  intro ll B O hh j v hv
  have hfl:(ll.flatMap XU).length=ll.length*1:=Am ll
  have hj:j < ll.length:=by have:=(Qqj hv).1;omega
  obtain ⟨x,hx⟩:=getElem?_lt hj
  have hg:=WZ (enc:=XU) (n:=1) (λ _=>rfl) ll j x 0 _ hx rfl
  rw [show j*1+0=j by omega,hv] at hg
  injection hg with hg
  rw [Addr.add_lit]
  have:=hh _ _ hx 0 _ rfl
  rw [hg,← this]
  congr 2;omega
 obtain ⟨v',w',hr,ho,hg⟩:=run_append_arg_grows (P:=Pg) w 94 94 9 i _ 1 _ underlying94 hi hzz Uq hby rfl K7 ⟨g,o,none⟩ l.length l.length (l.flatMap XU) (Am l) (hcells l g o hs)
  ⟨b,o',none⟩ (x0::l0).length c ((x0::l0).flatMap XU) (Am _) (hcells _ b o' λ j x hx=>by
   obtain ⟨b2,o2,cs,e1,_,hA,e2⟩:=YS j x hx
   injection e1 with e1
   injection e1 with e1 e3
   subst e1 e3 e2
   exact hA) (by simp) (by simp only [maxLen];omega) (Nat.le_trans (Nat.mul_le_mul (Nat.add_le_add h1 h2) hb4) K7)
 rw [Yj hr]
 refine hk v' w' ?_ ((Ext.refl w).grown hg λ k hk=>by cases hk)
 unfold QZ Yc
 rw [List.flatMap_append,List.length_append];exact ho
def ZaR {a b:List UInt8}:decide (mkB a=mkB b)=decide (a=b):=by
 rw [decide_eq_decide]
 constructor
 · intro h
   have:=congrArg (λ b:BAr=>b.data.toList) h
   simpa [mkB] using this
 · rintro rfl;rfl
structure RS (w0 w:Wd) (p2 b0 n:Nat) (ws rs:List BAr) (t27:Vl) (x:FrD) (bv tv:Vl):Prop where
 bld:ZdM w0 w p2 x bv tv
 ws:zO w (.slice (some ⟨b0,0,none⟩) n n) ws
 nb:b0≠p2
 rs:zO w t27 rs
 nr:∀ A m c,t27 = .slice (some A) m c→A.block≠p2
def Du {w:Wd} (hE:qi w) (s:List UInt8) (c:UInt8) (hs:s.length≤100000):Ret Pg 50 #[.string (mkB s),.string ⟨#[c]⟩] w λ r w'=>Ext w w'∧r = .slice (some ⟨w.heap.size,0,none⟩) (QE c s).length (QE c s).length∧zO w' r ((QE c s).map mkB):=by
 refine (Nk hE (mkB s) c (by rw [AE];exact hs)).mono ?_
 rintro _ w' ⟨e,n,rfl,h⟩
 rw [Ot] at h
 unfold ZdX at h
 rw [FX] at h
 obtain ⟨A,cc,hv,_⟩:=Ze.open h
 injection hv with _ hn _
 rw [List.length_map] at hn
 subst hn
 exact ⟨e,rfl,h⟩
def jR {w:Wd} (hE:qi w) (s:List UInt8) (c:UInt8) (hs:s.length≤1000000000):Ret Pg 48 #[.string (mkB s),.string ⟨#[c]⟩] w λ r w'=>Ext w w'∧r = .slice (some ⟨w.heap.size,0,none⟩) (QE c s).length (QE c s).length∧w'.heap[w.heap.size]?=some (.cells (((Q8 c (QE c s)).map mkB).map Value.string).toArray 9 (0,0)):=by
 obtain ⟨m,hm⟩:=hE.len
 have h1:1≤(⟨#[c]⟩:BAr).size:=Nat.le_refl _
 have hle:=Go.Lib.countB_le ⟨#[c]⟩ h1 (mkB s).size (mkB s) (Nat.le_refl _)
 have hl:=Go.Lib.splitB_all ⟨#[c]⟩ h1 1 _ (mkB s) rfl
 have hz:=AE s
 refine Zia (R:=ZR _) ?_;unfold Zh9
 refine Qqk ?_
 refine Zs (Φ:=λ r w'=>Ext w w'∧r = .slice (some ⟨w.heap.size,0,none⟩) (QE c s).length (QE c s).length∧w'.heap[w.heap.size]?=some (.cells (((Q8 c (QE c s)).map mkB).map Value.string).toArray 9 (0,0))) ?_ λ v w' h=>⟨v,rfl,h⟩
 have hk:=Gz (mkB s) ⟨#[c]⟩ 1 (-1) (Go.Lib.countB (mkB s) ⟨#[c]⟩+1) m w K9 hm h1 h1 K7 K7 (by rw [if_pos K7];omega)
 rw [Nat.add_sub_cancel,hl] at hk
 refine Calls.mono hk ?_
 rintro e w' ⟨rfl,rfl⟩
 have hsp:=HL c (mkB s)
 rw [FX] at hsp
 rw [hsp] at hl ⊢
 rw [List.length_map,GX] at hl
 refine ⟨_,rfl,(Ext.refl w).alloc _,by rw [hl],?_⟩
 have e2:Go.Lib.cellsOf ((Q8 c (QE c s)).map mkB) (Go.Lib.countB (mkB s) ⟨#[c]⟩+1)=(((Q8 c (QE c s)).map mkB).map Value.string).toArray:=by
  have:Go.Lib.countB (mkB s) ⟨#[c]⟩+1=((Q8 c (QE c s)).map mkB).length:=by rw [List.length_map,GX,hl]
  rw [this]
  exact Go.Lib.cellsOf_full _
 rw [e2]
 exact Zv _ _ _
structure Chg (g:Nat) (w w':Wd):Prop where
 size:w.heap.size≤w'.heap.size
 block:∀ b,b < w.heap.size→b≠g→w'.heap[b]?=w.heap[b]?
def QN {α:Type} {w w':Wd} {g lo n:Nat} {T:TypeId} {enc:α→List Vl} {v:Vl} {l:List α} (h:Yc w lo T n enc v l) (hc:Chg g w w') (hg:v.ownBlock≠some g):Yc w' lo T n enc v l:=
 Yc.keep h λ b hb=>hc.block b (World.ownsRow.lt h b hb).2 λ e=>hg (by rw [hb,e])
def XD {α:Type} {w:Wd} {g lo n:Nat} {T T':TypeId} {enc:α→List Vl} {v:Vl} {l:List α} {cs:AVl} {f:Nat×Nat} (h:Yc w lo T n enc v l) (ho:w.heap[g]?=some (.cells cs T' f)) (hT:T≠T'):v.ownBlock≠some g:=by
 intro hg
 rcases h.2 with ⟨rfl,_⟩ | ⟨g',cap,cur,rfl,_,hg',_⟩
 · cases hg
 · have:g'=g:=by simpa [Value.ownBlock] using hg
   subst this
   rw [ho] at hg'
   injection hg' with hg'
   injection hg' with _ hg'
   exact hT hg'.symm
def E7 (w:Wd) (b0:Nat) (cs:List Vl) (x:FrD):Prop:=∃ bv tv,cs=ZC x bv tv∧Yc w b0 5 1 Gk bv x.bytes∧Yc w b0 78 3 Xh tv x.table
def Zjm (w:Wd) (b0 lo hi:Nat) (fv:Vl) (fs:List FrD):Prop:=∃ css:List (Cs 7),Yc w lo 43 7 Subtype.val fv css∧(∀ b,fv.ownBlock=some b→b < hi)∧WY 7 (E7 w b0) css fs
def Ze3 (w:Wd) (b0 lo hi:Nat) (cs:List Vl) (r:MrD):Prop:=∃ fv,cs=ZT r fv∧Zjm w b0 lo hi fv r.fields
section
variable {w w':Wd} {b0 lo hi g:Nat} {fv:Vl} {fs:List FrD} {cs:List Vl} {x:FrD} {r:MrD} {T:TypeId} {oc:AVl} {f:Nat×Nat}
def E7.ext (h:E7 w b0 cs x) (e:Ext w w'):E7 w' b0 cs x:=by obtain ⟨bv,tv,h1,h2,h3⟩:=h;exact ⟨bv,tv,h1,h2.ext e,h3.ext e⟩
def E7.chg (h:E7 w b0 cs x) (hc:Chg g w w') (ho:w.heap[g]?=some (.cells oc T f)) (h1:5≠T) (h2:78≠T):E7 w' b0 cs x:=by
 obtain ⟨bv,tv,a1,a2,a3⟩:=h
 exact ⟨bv,tv,a1,QN a2 hc (XD a2 ho h1),QN a3 hc (XD a3 ho h2)⟩
def E7.fr (h:E7 w b0 cs x):EFr w cs x:=by obtain ⟨bv,tv,a1,a2,a3⟩:=h;exact ⟨bv,tv,a1,Ly a2,Bw a3⟩
end
structure PS (b16:Nat) (lcs:AVl) (w0 w:Wd) (p2 B:Nat) (st:PsD) (rv:Vl):Prop where
 ln:w.heap[b16]?=some (.cells lcs 9 (0,0))
 e:Ext w0 w
 lp:w0.heap.size≤p2
 obj:w.heap[p2]?=some (.cells #[.string st.name,rv] 24 (0,0))
 b1:w0.heap.size≤B
 b2:B≤w.heap.size
 row:∃ css dss:List (Cs 3),Yc w w0.heap.size 60 3 Subtype.val rv (css++dss)∧WY 3 (Ze3 w w0.heap.size w0.heap.size B) css st.done∧WY 3 (Ze3 w w0.heap.size B w.heap.size) dss st.cur.toList
section
variable {b16:Nat} {lcs:AVl} {w0 w w':Wd} {p2 B:Nat} {st:PsD} {rv:Vl}
def Gn {n:Nat} {α:Type} {E:List Vl→α→Prop} {c1 c2:List (Cs n)} {l1 l2:List α} (h1:WY n E c1 l1) (h2:WY n E c2 l2):WY n E (c1++c2) (l1++l2):=by
 refine ⟨by rw [List.length_append,List.length_append,h1.1,h2.1],λ k x cs hx hc=>?_⟩
 by_cases hk:k < l1.length
 · rw [List.getElem?_append_left hk] at hx
   rw [List.getElem?_append_left (by rw [h1.1];exact hk)] at hc
   exact h1.2 k x cs hx hc
 · rw [List.getElem?_append_right K9] at hx
   rw [List.getElem?_append_right (by rw [h1.1];omega),h1.1] at hc
   exact h2.2 _ x cs hx hc
end
def ZbO a b R w:=
 opV Pg (build 24 #[]) (Zj R) w λ c w=>
 S0 24 a c R w λ w=>
 qW Pg 24 a w λ r0=>
 R (.returned (.tuple #[r0,b,(QqJ 6)])) w
def Zib b c d e (a:WPr) (f:KW) R w:=
 opV Pg (Builtin.append_ #[22,22] 22 #[d,e]) (Zj R) w λ g w=>
 a w∧(
 J0 24 b 1 a λ h=>
 S0 22 h g R w λ w=>
 Vp w λ i w=>
 f c (.bool true) w)
def Zic b d c (a:WPr) (e:KW) R w:=
 J0 24 b 1 a λ f=>
 I0 22 f a λ g=>
 qV Pg a (indexAt 94 c (QqJ 1)) λ h=>
 I0 9 h a λ i=>
 qV Pg a (indexAt 94 c (QqJ 2)) λ j=>
 I0 9 j a λ k=>
 qV Pg a (build 60 #[(0,i),(1,k)]) λ l=>
 opV Pg (buildSlice 22 1 #[(0,l)]) (Zj R) w λ m w=>
 a w∧(
 Zib b d g m a e R w)
def Zid b c d e (a:WPr) (f:KW) R w:=
 qN Pg a (Y6 d) λ g=>
 J0 60 g 2 a λ h=>
 S0 58 h e R w λ w=>
 Vp w λ i w=>
 f b c w
def Zie c d e b (a:WPr) (f:KW) R w:=
 qN Pg a (Y6 b) λ g=>
 J0 60 g 2 a λ h=>
 I0 58 h a λ i=>
 I0 43 e a λ j=>
 opV Pg (buildSlice 58 1 #[(0,j)]) (Zj R) w λ k w=>
 a w∧(
 opV Pg (Builtin.append_ #[58,58] 58 #[i,k]) (Zj R) w λ l w=>
 a w∧(
 Zid c d b l a f R w))
def Zif a b c d (e:KW) R w:=
 F0 24 a 1 R w λ f w=>
 L0 22 f R w λ g w=>
 F0 24 a 1 R w λ h w=>
 L0 22 h R w λ i w=>
 G0 22 3 i R w λ j w=>
 B0 .sub 3 true j (QqJ 1) R w λ k w=>
 X0 22 g k R w λ l w=>
 Yg w λ m w=>
 Zie b c d l m e R w
def Zig c d a e f g (h:KV) (i:KW) R w:=
 Zm (λ (j:Vl) (w:Wd)=>
 Zw a j (.bool false) λ k=>
 Zo k (
 Zif c d a e i R w) (
 B0 .add 3 true f (QqJ 1) R w λ l w=>
 h l w)) λ b=>
 Zl a true (
 b g w) (
 b undef w)
def Zih f c a g h i j (k:KV) (d:KW) R w:=
 Zm (λ (b:Vl) (w:Wd)=>
 Zw a b (.bool false) λ l=>
 Zo l (
 d c (.bool false) w) (
 Zig f c a g h j k d R w)) λ e=>
 Zl a true (
 opV Pg (ZP .eql 9 true i (.string { data := #[101,110,100] })) (Zj R) w λ b w=>
 e b w) (
 e undef w)
def Zii b c h i j k d l m n (o:KV) (e:KW) R w:=
 Zw m n (.bool false) λ f=>
 Zm (λ (a:Vl) (w:Wd)=>
 Zw f a (.bool false) λ p=>
 Zo p (
 Yg w λ q w=>
 Zic b c d q e R w) (
 Zih b c h i j k l o e R w)) λ g=>
 Zl f true (
 opV Pg (sliceAt 94 d (some (QqJ 1)) none none) (Zj R) w λ r w=>
 C0 52 #[r] R w λ a w=>
 g a w) (
 g undef w)
def Zel e f g h i j b k l m (n:KV) (o:KW) R w:=
 Zw l m (.bool false) λ c=>
 Zm (λ (a:Vl) (w:Wd)=>
 Zii e f g h i j b k c a n o R w) λ d=>
 Zl c true (
 opV Pg (indexAt 94 b (QqJ 0)) (Zj R) w λ p w=>
 L0 9 p R w λ q w=>
 opV Pg (ZP .eql 9 true q (.string { data := #[109,97,112] })) (Zj R) w λ a w=>
 d a w) (
 d undef w)
def Zem e f g h i j b k l m (n:KV) (o:KW) R w:=
 Zw l m (.bool false) λ c=>
 Zm (λ (a:Vl) (w:Wd)=>
 Zel e f g h i j b k c a n o R w) λ d=>
 Zl c true (
 G0 94 3 b R w λ p w=>
 B0 .eql 3 true p (QqJ 3) R w λ a w=>
 d a w) (
 d undef w)
def P6 a b c d (e:KW) R w:=
 opV Pg (indexAt 94 d (QqJ 1)) (Zj R) w λ f w=>
 L0 9 f R w λ g w=>
 F0 24 a 0 R w λ h w=>
 S0 9 h g R w λ w=>
 e b c w
def Zen f g b h c i j k (l:KV) (m:KW) R w:=
 B0 .gtr 3 true c (QqJ 0) R w λ d w=>
 Zm (λ (a:Vl) (w:Wd)=>
 Zem f g b h c i j k d a l m R w) λ e=>
 Zl d true (
 N0 b R w λ a w=>
 e a w) (
 e undef w)
def P7 c a b g d h e i j k (l:KV) (Zx:Vl→Vl→Vl→Wd→Prop) R w:=
 Zw j k (.bool false) λ m=>
 Zm (λ (a:Vl) (b:Vl) (w:Wd)=>
 B0 .add 3 true d (QqJ 1) R w λ n w=>
 Zx a b n w) λ f=>
 Zo m (
 P6 c a b e f R w) (
 Zen c a b g d h e i l f R w)
def P8 e f g h i j b k l m (n:KV) (Zx:Vl→Vl→Vl→Wd→Prop) R w:=
 Zw l m (.bool false) λ c=>
 Zm (λ (a:Vl) (w:Wd)=>
 P7 e f g h i j b k c a n Zx R w) λ d=>
 Zl c true (
 opV Pg (indexAt 94 b (QqJ 1)) (Zj R) w λ o w=>
 L0 9 o R w λ p w=>
 opV Pg (buildSlice 94 1 #[(0,p)]) (Zj R) w λ q w=>
 C0 52 #[q] R w λ a w=>
 d a w) (
 d undef w)
def P9 e f g h i j b k l m (n:KV) (Zx:Vl→Vl→Vl→Wd→Prop) R w:=
 Zw l m (.bool false) λ c=>
 Zm (λ (a:Vl) (w:Wd)=>
 P8 e f g h i j b k c a n Zx R w) λ d=>
 Zl c true (
 opV Pg (indexAt 94 b (QqJ 0)) (Zj R) w λ o w=>
 L0 9 o R w λ p w=>
 opV Pg (ZP .eql 9 true p (.string { data := #[109,97,112,112,105,110,103] })) (Zj R) w λ a w=>
 d a w) (
 d undef w)
def Ra f g h i b j c k (l:KV) (Zx:Vl→Vl→Vl→Wd→Prop) R w:=
 B0 .eql 3 true b (QqJ 0) R w λ d w=>
 Zm (λ (a:Vl) (w:Wd)=>
 P9 f g h i b j c k d a l Zx R w) λ e=>
 Zl d true (
 G0 94 3 c R w λ m w=>
 B0 .eql 3 true m (QqJ 2) R w λ a w=>
 e a w) (
 e undef w)
def Zeo a R w:=
 L0 24 a R w λ b w=>
 S0 24 a b R w λ w=>
 qW Pg 24 a w λ r0=>
 R (.returned (.tuple #[r0,(QqJ 0),(QqJ 0)])) w
def IE c d e f a g h i j (b:KV) (Zx:Vl→Vl→Vl→Wd→Prop) R w:=
 N0 h R w λ k w=>
 Zo k (
 B0 .add 3 true a (QqJ 1) R w λ l w=>
 b l w) (
 Ra c d e f a g i j b Zx R w)
def IF b f c g h i j k l m n (o:KV) (Zx:Vl→Vl→Vl→Wd→Prop) R w:=
 Zw m n (.bool false) λ d=>
 Zm (λ (a:Vl) (w:Wd)=>
 Zw d a (.bool false) λ p=>
 Zo p (
 Zeo b R w) (
 IE b f c g h i j k l o Zx R w)) λ e=>
 Zl d true (
 N0 c R w λ a w=>
 e a w) (
 e undef w)
def Ee e f g h b i j k l m n (o:KV) (Zx:Vl→Vl→Vl→Wd→Prop) R w:=
 Zw m n (.bool false) λ c=>
 Zm (λ (a:Vl) (w:Wd)=>
 IF e f g h b i j k l c a o Zx R w) λ d=>
 Zl c true (
 B0 .gtr 3 true b (QqJ 0) R w λ a w=>
 d a w) (
 d undef w)
def Rb h i j k b c l d (m:KV) (Zx:Vl→Vl→Vl→Wd→Prop) R w:=
 E0q d 0 R w λ n w=>
 E0q d 1 R w λ o w=>
 opV Pg (alloc 43 true (.tuple #[])) (Zj R) w λ e w=>
 S0 43 e n R w λ w=>
 N0 c R w λ f w=>
 Zm (λ (a:Vl) (w:Wd)=>
 Ee h i j e k b c l o f a m Zx R w) λ g=>
 Zl f true (
 opV Pg (ZP .eql 9 true b (.string { data := #[] })) (Zj R) w λ a w=>
 g a w) (
 g undef w)
def Rc c d e f b (g:KV) (Zx:Vl→Vl→Vl→Wd→Prop) R w:=
 E0q b 0 R w λ a w=>
 E0q b 1 R w λ h w=>
 Yb Pg 50 #[a,(.string { data := #[32] })] (Zj R) w λ i w=>
 C0 51 #[a] R w λ j w=>
 Rb c d e f a h i j g Zx R w
def IG b c d e a (f:KV) (Zx:Vl→Vl→Vl→Wd→Prop) R w:=
 X0 94 e a R w λ g w=>
 L0 9 g R w λ h w=>
 Yb Pg 49 #[h,(.string { data := #[10] })] (Zj R) w λ i w=>
 Rc b c d a i f Zx R w
def Rd b c R w:=
 G0 94 3 c R w λ f w=>
 Zm (λ (a:Vl) (w:Wd)=>
 ZbO b a R w) λ d=>
 GF (λ a g e w Zx=>
 B0 .lss 3 false e f R w λ h w=>
 Zo h (
 IG b a g c e d Zx R w) (
 d a w)) (QqJ 0) (.bool false) (QqJ 0) w
def n17 a R w:=
 opV Pg (alloc 24 true (.tuple #[])) (Zj R) w λ b w=>
 Yb Pg 48 #[a,(.string { data := #[10] })] (Zj R) w λ c w=>
 Rd b c R w
def ZkT:QqQ1 22 n17:=λ h=>by
 refine yD func22 ?_
 refine zs<|zr<|yv h λ h=>zm<|zm<|zn<|zk<|Oo<|zs<|zr<|zm<|yc h c48 λ h=>zm<|zn<|zk ?_
 refine zs<|zr<|zm<|zn<|zk<|zs<|On<|zk<|zs<|zs<|zr<|zm<|yx h λ h=>zm<|zn ?_
 refine zk<|yJ1 [3,4,6,7,8,9,10,11,12,13,14,19,20,21,22,23,24,25,26,27,28,29,30,31,32,33,34,35,36,37,38,39,40,41,42,43,44,45,46,47,48,49,50,51,52,53,54,55,56,57,58,59,60,61,62,63,64,65,66,67,68,69,70,71,72,73,74,75,76,77,78,79,80,81,82,83,84,85,86,87,88,89,90,91,92,93,94,95,96,97,98,99,100,101,102,103,104,105,106,107,108,109,110,111,112,113,114,115,116,117,118,119,120,121,122,123,124,125,126,127,128,129,130,131,132,133,134,135,136,137,138,139,140,141,142,143,144,145,146,147] 3 h (λ _ _ hkK1 h=>?_) λ σ w h=>?_
 · refine Zk<|yl3 [3,4,6,7,8,9,10,11,12,13,14,19,20,21,22,23,24,25,26,27,28,29,30,31,32,33,34,35,36,37,38,39,40,41,42,43,44,45,46,47,48,49,50,51,52,53,54,55,56,57,58,59,60,61,62,63,64,65,66,67,68,69,70,71,72,73,74,75,76,77,78,79,80,81,82,83,84,85,86,87,88,89,90,91,92,93,94,95,96,97,98,99,100,101,102,103,104,105,106,107,108,109,110,111,112,113,114,115,116,117,118,119,120,121,122,123,124,125,126,127,128,129,130,131,132,133,134,135,136,137,138,139,140,141,142,143,144,145,146,147] 3 6 19 h λ σ w next h=>zs<|zr<|yb h λ h=>zn<|zk<|zs<|yC h (λ h=>?_) λ h=>?_
   · refine Zi<|zk<|zs<|Zk<|zs<|zr<|zm<|yv h λ h=>yv h λ h=>zm<|zm<|zn<|zk<|zs<|zr ?_
     refine zm<|yc h c49 λ h=>zm<|yv h λ h=>yv h λ h=>zm<|zm<|zn<|zk<|zs<|zr<|zm<|yc h c50 λ h=>zm<|zn ?_
     refine zk<|zs<|zr<|zm<|yc h c51 λ h=>zm<|yv h λ h=>yv h λ h=>yv h λ h=>yu h λ h=>zm<|zn<|zk<|Zk<|zs ?_
     refine Zr<|yG 3<|zm<|yv h λ h=>zm<|zn<|yg1 2 2 true [42,43] 43 h (λ _ T hT h=>?_) λ σ w h=>?_
     · refine zm<|yb h λ h=>zn ?_
       exact zt hT h
     refine yG 2<|yp h λ h=>zm<|zn<|yg1 2 6 true [46,47] 47 h (λ _ T hT h=>?_) λ σ w h=>?_
     · refine zm<|yb h λ h=>zn ?_
       exact zt hT h
     refine yG 2<|yp h λ h=>zm<|zn<|yg1 2 10 true [50,51] 51 h (λ _ T hT h=>?_) λ σ w h=>?_
     · refine zm<|yv h λ h=>zn ?_
       exact zt hT h
     refine yG 2<|yp h λ h=>zm<|zn<|ZG<|zk<|yC h (λ h=>?_) λ h=>?_
     · refine zs<|zr<|yv h λ h=>yu h λ h=>zm<|zm<|zn<|zk<|Zh<|Zd<|Zd<|Zb<|Zb<|Zd<|Zb ?_
       exact Zb<|ql rfl rfl rfl rfl h
     refine zs<|zr<|zm<|yv h λ h=>zm<|zn<|zk<|yC h (λ h=>?_) λ h=>?_
     · refine zs<|zr<|zm<|yb h λ h=>zm<|zn<|zk<|ZD<|Vm rfl<|Vm rfl<|Zc<|Zc<|Zp<|zk ?_
       exact zt hkK1 h
     refine zs<|Zr<|yG 3<|zm<|yb h λ h=>zm<|zn<|yg1 3 2 true [63,64,65] 65 h (λ _ T hT h=>?_) λ σ w h=>?_
     · refine zm<|yx h λ h=>yb h λ h=>zn ?_
       exact zt hT h
     refine yG 2<|yp h λ h=>zm<|zn<|yg1 4 7 true [68,69,70,71] 71 h (λ _ T hT h=>?_) λ σ w h=>?_
     · refine zm<|yv h λ h=>yv h λ h=>yb h λ h=>zn ?_
       exact zt hT h
     refine yG 2<|yp h λ h=>zm<|zn<|yg1 5 13 true [74,75,76,77,78] 78 h (λ _ T hT h=>?_) λ σ w h=>?_
     · refine zm<|yv h λ h=>yv h λ h=>yS h λ h=>yc h c52 λ h=>zn ?_
       exact zt hT h
     refine yG 2<|yp h λ h=>zm<|zn<|ZG<|zk<|yJ2 [3,6,14,36,37,80,81,82,83,84,85,86,87,88,89,90,91,92,93,94,95,96,97,98,99,100,101,102,103,104,105,106,107,108,109,110,111,112,113,114,115,116,117,118,119,120,121,122,123,124,125,126,127,128,129,130,131,132,133,134,135,136,137,138,139,140,141,142,143,144,145,146] 3 6 h (λ _ _ hkK9 h=>?_) λ σ w h=>?_
     · refine yC h (λ h=>?_) λ h=>?_
       · refine zr<|zm<|yv h λ h=>yv h λ h=>yv h λ h=>yu h λ h=>zn<|zk ?_
         exact zt hkK9 h
       refine zs<|Zr<|yG 3<|zm<|yb h λ h=>zm<|zn<|yg1 2 2 true [88,89] 89 h (λ _ T hT h=>?_) λ σ w h=>?_
       · refine zm<|yv h λ h=>zn ?_
         exact zt hT h
       refine yG 2<|yp h λ h=>zm<|zn<|yg1 3 6 true [92,93,94] 94 h (λ _ T hT h=>?_) λ σ w h=>?_
       · refine zm<|yx h λ h=>yb h λ h=>zn ?_
         exact zt hT h
       refine yG 2<|yp h λ h=>zm<|zn<|yg1 4 11 true [97,98,99,100] 100 h (λ _ T hT h=>?_) λ σ w h=>?_
       · refine zm<|yv h λ h=>yv h λ h=>yb h λ h=>zn ?_
         exact zt hT h
       refine yG 2<|yp h λ h=>zm<|zn<|yg1 3 17 true [103,104,105] 105 h (λ _ T hT h=>?_) λ σ w h=>?_
       · refine zm<|yv h λ h=>yc h c52 λ h=>zn ?_
         exact zt hT h
       refine yG 2<|yp h λ h=>zm<|zn<|ZG<|zk<|yC h (λ h=>?_) λ h=>?_
       · refine zs<|yh [107,108,109,110,111,112,113,114,115,116,117,118] h λ C hC h=>ye 0 hC h λ h=>?_
         refine ye 1 hC h λ h=>?_
         refine yw 2 hC ?_
         refine ye 3 hC h λ h=>?_
         refine ye 4 hC h λ h=>?_
         refine yw 5 hC ?_
         refine ye 6 hC h λ h=>?_
         refine ye 7 hC h λ h=>?_
         refine ye 8 hC h λ h=>?_
         refine yo 9 ?_
         refine yS h λ h=>zn ?_
         obtain ⟨hC,h⟩:=h
         refine ⟨hC,?_⟩
         refine yo 10 ?_
         refine yx h λ h=>zn ?_
         obtain ⟨hC,h⟩:=h
         refine ⟨hC,?_⟩
         refine ye 11 hC h λ h=>?_
         refine yq 12 1 ?_
         refine yu h λ h=>zn ?_
         obtain ⟨C15,hC,h⟩:=h
         refine ⟨C15,hC,?_⟩
         refine yz<|zk<|zr<|zm<|zn<|zk ?_
         exact zt hkK9 h
       refine zs<|Zr<|yG 2<|zm<|zm<|zn<|yg1 2 1 true [122,123] 123 h (λ _ T hT h=>?_) λ σ w h=>?_
       · refine zm<|yb h λ h=>zn ?_
         exact zt hT h
       refine yG 2<|yp h λ h=>zm<|zn<|ZG<|zk<|yC h (λ h=>?_) λ h=>?_
       · refine zr<|zm<|zn<|zk ?_
         exact zt hkK9 h
       refine zs<|Zr<|yG 2<|zm<|zm<|zn<|yg1 1 1 true [128] 128 h (λ _ T hT h=>?_) λ σ w h=>?_
       · refine zm<|zn ?_
         exact zt hT h
       refine yG 2<|yp h λ h=>zm<|zn<|ZG<|zk<|yC h (λ h=>?_) λ h=>?_
       · refine zs<|zr<|yv h λ h=>yv h λ h=>yv h λ h=>yv h λ h=>yx h λ h=>yb h λ h=>yv h λ h=>zm<|zn<|zk<|yh [137,138,139,140,141,142,143,144,145,146] h λ C hC h=>yw 0 hC ?_
         refine yw 1 hC ?_
         refine yn 2 hC h λ h=>?_
         refine ye 3 hC h λ h=>?_
         refine ye 4 hC h λ h=>?_
         refine ye 5 hC h λ h=>?_
         refine yo 6 ?_
         refine yS h λ h=>zn ?_
         obtain ⟨hC,h⟩:=h
         refine ⟨hC,?_⟩
         refine yo 7 ?_
         refine yx h λ h=>zn ?_
         obtain ⟨hC,h⟩:=h
         refine ⟨hC,?_⟩
         refine yn 8 hC h λ h=>?_
         refine ye 9 hC h λ h=>?_
         refine yq 10 2 ?_
         refine yu h λ h=>zn ?_
         obtain ⟨C19,hC,h⟩:=h
         refine ⟨C19,hC,?_⟩
         refine yz<|zk ?_
         exact zt hkK9 h
       refine zs<|zr<|zm<|yb h λ h=>zm<|zn<|zk<|ZD<|Zc<|Vm rfl<|Vm rfl<|Zc<|Zc<|Zp<|zk ?_
       exact zt hkK1 h
     exact Zg<|Zg<|zk<|zr<|yb h λ h=>zm<|zn<|zk<|⟨rfl,h⟩
   refine ZD<|Zc<|Zc<|Zp<|zk ?_
   exact zt hkK1 h
 exact zk<|zs<|zr<|yB h λ h=>zm<|yu h λ h=>zm<|zm<|zn<|zk<|Zh<|ql rfl rfl rfl rfl h
def xo {w:Wd} {QP:PEn} {k:KV} {base:Nat} {v:Vl} {l:List (Cs 3)} (x:Cs 3) {b:Nat} (h1:∀ u∈x.1,u.oneCell'=true) (Gx:Yc w base 60 3 Subtype.val v l) (hc:w.heap[b]?=some (.cells x.1.toArray 60 (0,0))) (VX:base≤w.heap.size) (hl:l.length≤1048576)
 (hk:∀ v' w',Yc w' base 60 3 Subtype.val v' (l++[x])→w.grownBy w' v.ownBlock→k v' w') :
 opV Pg (Builtin.append_ #[22,22] 22 #[v,.slice (some ⟨b,0,none⟩) 1 1]) QP w k:=by
 have hby:=Zjy
 refine WV (l':=[x]) underlying22 qe rfl K7 (λ x=>x.2) (λ y hy u hu=>by rw [List.mem_singleton.1 hy] at hu;exact h1 u hu) Gx (λ j y hy=>?_) VX ?_ (by simp;omega) hk
 · cases j with
   | zero=>
    simp at hy;subst hy
    intro j v hv
    rw [(Za hc).1]
    simpa using hv
   | succ j=>simp at hy
 · simp only [List.length_cons,List.length_nil]
   exact Nat.le_trans (Nat.mul_le_mul (Nat.add_le_add_right hl 1) hby) K7
def Nl {w:Wd} {QP:PEn} {k:KV} {base:Nat} {v:Vl} {l:List (Cs 7)} (x:Cs 7) {b:Nat} (h1:∀ u∈x.1,u.oneCell'=true) (Gx:Yc w base 43 7 Subtype.val v l) (hc:w.heap[b]?=some (.cells x.1.toArray 43 (0,0))) (VX:base≤w.heap.size) (hl:l.length≤1048576)
 (hk:∀ v' w',Yc w' base 43 7 Subtype.val v' (l++[x])→w.grownBy w' v.ownBlock→k v' w') :
 opV Pg (Builtin.append_ #[58,58] 58 #[v,.slice (some ⟨b,0,none⟩) 1 1]) QP w k:=by
 have hby:=Zfg
 refine WV (l':=[x]) underlying58 KE rfl K7 (λ x=>x.2) (λ y hy u hu=>by rw [List.mem_singleton.1 hy] at hu;exact h1 u hu) Gx (λ j y hy=>?_) VX ?_ (by simp;omega) hk
 · cases j with
   | zero=>
    simp at hy;subst hy
    intro j v hv
    rw [(Za hc).1]
    simpa using hv
   | succ j=>simp at hy
 · simp only [List.length_cons,List.length_nil]
   exact Nat.le_trans (Nat.mul_le_mul (Nat.add_le_add_right hl 1) hby) K7
section
variable {α:Type} {w w':Wd} {b0 lo hi lo2 n:Nat} {fv v:Vl} {fs:List FrD} {cs:List Vl} {x:FrD} {r:MrD} {T:TypeId} {enc:α→List Vl} {l:List α}
def Bu (hO:Yc w lo2 T n enc v l) (hg:w.grownBy w' v.ownBlock):Ext w w'∨∃ g oc f,v.ownBlock=some g∧w.heap[g]?=some (.cells oc T f)∧Chg g w w':=by
 rcases hO.2 with ⟨rfl,_⟩ | ⟨g',cap,cur,rfl,_,hg',_⟩
 · exact .inl ((Ext.refl w).grown hg λ k hk=>by cases hk)
 · exact .inr ⟨g',_,_,rfl,hg',hg.size,λ b hb Y3=>hg.block b hb λ e=>Y3 (by injection e)⟩
def E7.grow (h:E7 w b0 cs x) (hO:Yc w lo2 T n enc v l) (hg:w.grownBy w' v.ownBlock) (h1:5≠T) (h2:78≠T):E7 w' b0 cs x:=by
 rcases Bu hO hg with e | ⟨g,oc,f,_,ho,hc⟩
 · exact h.ext e
 · exact h.chg hc ho h1 h2
def ZeM {b:Nat} {oc:AVl} {T':TypeId} {f:Nat×Nat} (hO:Yc w lo2 T n enc v l) (hb:w.heap[b]?=some (.cells oc T' f)) (hT:T'≠T):b≠v.ownBlock.getD w.heap.size:=by
 have Ym:=(Qqq hb).1
 rcases hO.2 with ⟨rfl,_⟩ | ⟨g',cap,cur,rfl,_,hg',_⟩
 · show b≠w.heap.size
   omega
 · show b≠g'
   rintro rfl
   rw [hb] at hg'
   injection hg' with hg'
   injection hg' with _ hg'
   exact hT hg'
def Vg {b:Nat} {oc:AVl} {T':TypeId} {f:Nat×Nat} (hO:Yc w lo2 T n enc v l) (hg:w.grownBy w' v.ownBlock) (hb:w.heap[b]?=some (.cells oc T' f)) (hT:T'≠T):w'.heap[b]?=some (.cells oc T' f):=by
 rw [hg.block b (Qqq hb).1 λ e=>ZeM hO hb hT (by rw [← e];rfl)]
 exact hb
end
structure LnS (b16:Nat) (lcs:AVl) (w0 w w1:Wd) (p2 p12 B bw:Nat) (st:PsD) (rv:Vl) (x:List UInt8) (y:FrD) (bv tv:Vl) (ok:Bool):Prop where
 ps:PS b16 lcs w0 w1 p2 B st rv
 e:Ext w1 w
 lb:w1.heap.size≤bw
 wd:zO w (.slice (some ⟨bw,0,none⟩) (QE 32 x).length (QE 32 x).length) ((QE 32 x).map mkB)
 l12:w1.heap.size≤p12
 o12:w.heap[p12]?=some (.cells (ZC y bv tv).toArray 43 (0,0))
 ob:Yc w w0.heap.size 5 1 Gk bv y.bytes
 ot:Yc w w0.heap.size 78 3 Xh tv y.table
 rd:(ok=true∧Zbs x=some y)∨(ok=false∧Zbs x=none)
def xR:FrD:=⟨⟨#[110]⟩,7,⟨#[]⟩,0,0,[],[]⟩
def Ut:FrD:=⟨⟨#[98]⟩,1,⟨#[98]⟩,0,0,[],[]⟩
def yK:FrD:=⟨⟨#[110]⟩,1,⟨#[98]⟩,0,0,[],[]⟩
def EK:Xd:=⟨⟨#[109]⟩,[⟨⟨#[65]⟩,⟨#[65]⟩,[xR,Ut]⟩]⟩
def nF:Zt:=⟨⟨#[110]⟩,1,8,false,false,0,255,0,[],⟨#[]⟩,⟨#[]⟩,⟨#[]⟩,[],0,0⟩
def bF:Zt:=⟨⟨#[98]⟩,4,0,false,false,0,0,0,[⟨⟨#[110]⟩,1⟩],⟨#[]⟩,⟨#[]⟩,⟨#[]⟩,[],0,0⟩
def Ys:Xc:=⟨⟨#[100]⟩,[⟨⟨#[65]⟩,[nF,bF]⟩],⟨#[65]⟩⟩
def heap_alloc (w:Wd) (o:Obj) (k:Nat):(w.alloc o).heap[k]?=if k=w.heap.size then some o else w.heap[k]?:=by
 simp only [World.alloc,Array.getElem?_push]
def U9 {α:Type} {w:Wd} {b n:Nat} {T:TypeId} {E:Wd→List Vl→α→Prop} {cs:AVl} {l:List α} (ho:w.heap[b]?=some (.cells cs T (0,0))) (hl:l.length≤1000) (h:∀ k x,l[k]?=some x→∃ c:List Vl,c.length=n∧(cs.toList.drop (k*n)).take n=c∧E w c x):Ze w n E (.slice (some ⟨b,0,none⟩) l.length l.length) l:=by
 refine ⟨_,_,rfl,Nat.le_refl _,by omega,λ _=>⟨b,0,rfl,λ k x hx=>?_⟩⟩
 obtain ⟨c,h1,h2,h3⟩:=h k x hx
 refine ⟨c,h1,λ j v hv=>?_,h3⟩
 rw [(Za ho).1,Nat.zero_add,← Array.getElem?_toList]
 have hj:j < n:=by rw [← h1];exact (Qqj hv).1
 rw [← h2,List.getElem?_take,if_pos hj,List.getElem?_drop] at hv
 exact hv
abbrev Yv:Vl := .slice none 0 0
structure T5 (w0 w:Wd) (v:Vl) (bF bM:Nat):Prop where
 e:Ext w0 w
 lF:w0.heap.size≤bF
 lM:w0.heap.size≤bM
 ne:bF≠bM
 oF:w.heap[bF]?=some (.cells (ZC xR Yv Yv++ZC Ut Yv Yv).toArray 43 (0,0))
 oM:w.heap[bM]?=some (.cells #[.string ⟨#[65]⟩,.string ⟨#[65]⟩,.slice (some ⟨bF,0,none⟩) 2 2] 60 (0,0))
 v:v = .agg #[.string ⟨#[109]⟩,.slice (some ⟨bM,0,none⟩) 1 1]
def Gs (w0:Wd):Ret Pg 30 #[] w0 λ r w'=>∃ bF bM,T5 w0 w' r bF bM:=by
 refine Zlk (R:=ZR _) ?_;unfold n46
 refine Qqk ?_
 refine ⟨w0.heap.size+1,w0.heap.size+1+1,ee,by omega,by omega,by omega,?_,?_,rfl⟩
 · repeat (first | rw [heap_alloc,if_neg (by simp only [World.size_alloc];omega)] | rw [heap_alloc,if_pos (by simp only [World.size_alloc])])
   rfl
 · repeat (first | rw [heap_alloc,if_neg (by simp only [World.size_alloc];omega)] | rw [heap_alloc,if_pos (by simp only [World.size_alloc])])
def DW (w:Wd) (x:FrD) (hb:x.bytes=[]) (ht:x.table=[]):EFr w (ZC x Yv Yv) x:=⟨_,_,rfl,by rw [hb];exact Ze.nil ..,by rw [ht];exact Ze.nil ..⟩
def DX {w:Wd} {b:Nat} {x y:FrD} (ho:w.heap[b]?=some (.cells (ZC x Yv Yv++ZC y Yv Yv).toArray 43 (0,0))) (hx:x.bytes=[]) (hx':x.table=[]) (hy:y.bytes=[]) (hy':y.table=[]):WK w (.slice (some ⟨b,0,none⟩) 2 2) [x,y]:=by
 refine U9 (l:=[x,y]) ho (by simp) λ k z hz=>?_
 match k,hz with
 | 0,hz=>cases hz;exact ⟨_,rfl,rfl,DW w _ hx hx'⟩
 | 1,hz=>cases hz;exact ⟨_,rfl,rfl,DW w _ hy hy'⟩
 | _+2,hz=>simp at hz
def D6 {w:Wd} {b:Nat} {r:MrD} {fv:Vl} (ho:w.heap[b]?=some (.cells (ZT r fv).toArray 60 (0,0))) (hf:WK w fv r.fields):VG w (.slice (some ⟨b,0,none⟩) 1 1) [r]:=by
 refine U9 (l:=[r]) ho (by simp) λ k z hz=>?_
 match k,hz with
 | 0,hz=>cases hz;exact ⟨_,rfl,rfl,fv,rfl,hf⟩
 | _+1,hz=>simp at hz
def T5.val {w0 w:Wd} {v:Vl} {bF bM:Nat} (h:T5 w0 w v bF bM):YN w v EK:=⟨_,h.v,D6 h.oM (DX h.oF rfl rfl rfl rfl)⟩
def XA (w0:Wd):Ret Pg 31 #[] w0 λ r w'=>YM w' r Ys∧Ext w0 w':=by
 refine Zll (R:=ZR _) ?_;unfold n47
 refine Qqk ?_
 refine ⟨⟨_,rfl,?_⟩,ee⟩
 generalize hW:World.alloc _ _=W
 have o1:W.heap[w0.heap.size+1+1]?=some (.cells #[.string ⟨#[110]⟩,.int .i64 1] 128 (0,0)):=by rw [← hW]; (repeat (first | rw [heap_alloc,if_neg (by simp only [World.size_alloc];omega)] | rw [heap_alloc,if_pos (by simp only [World.size_alloc])]));try rfl
 have o2:W.heap[w0.heap.size+1+1+1+1]?=some (.cells (Zq nF Yv Yv++Zq bF (.slice (some ⟨w0.heap.size+1+1,0,none⟩) 1 1) Yv).toArray 123 (0,0)):=by rw [← hW]; (repeat (first | rw [heap_alloc,if_neg (by simp only [World.size_alloc];omega)] | rw [heap_alloc,if_pos (by simp only [World.size_alloc])]));try rfl
 have o3:W.heap[w0.heap.size+1+1+1+1+1]?=some (.cells (ZZ ⟨⟨#[65]⟩,[nF,bF]⟩ (.slice (some ⟨w0.heap.size+1+1+1+1,0,none⟩) 2 2)).toArray 74 (0,0)):=by rw [← hW]; (repeat (first | rw [heap_alloc,if_neg (by simp only [World.size_alloc];omega)] | rw [heap_alloc,if_pos (by simp only [World.size_alloc])]));try rfl
 refine U9 (l:=Ys.msgs) o3 K7 λ k z hz=>?_
 match k,hz with
 | 0,hz=>
  cases hz
  refine ⟨_,rfl,rfl,_,rfl,U9 (l:=[nF,bF]) o2 (by simp) λ k z hz=>?_⟩
  match k,hz with
  | 0,hz=>cases hz;exact ⟨_,rfl,rfl,_,_,rfl,Ze.nil ..,Ze.nil ..⟩
  | 1,hz=>
   cases hz
   refine ⟨_,rfl,rfl,_,_,rfl,U9 (l:=bF.terms) o1 K7 λ k z hz=>?_,Ze.nil ..⟩
   match k,hz with
   | 0,hz=>cases hz;exact ⟨_,rfl,rfl,rfl⟩
   | _+1,hz=>simp [bF] at hz
  | _+2,hz=>simp at hz
 | _+1,hz=>simp [Ys] at hz
def Fa:Xd:=⟨⟨#[109]⟩,[⟨⟨#[65]⟩,⟨#[65]⟩,[xR]⟩]⟩
def Fk:Xd:=⟨⟨#[109]⟩,[⟨⟨#[65]⟩,⟨#[65]⟩,[yK,Ut]⟩]⟩
def ZaG:W7 EK Ys Ys=none:=by rfl
def Mn:W7 Fa Ys Ys=some (0,-1,10):=by rfl
def Mo:W7 Fk Ys Ys=some (0,0,5):=by rfl
def ZfN:QE 10 [109,97,112,112,105,110,103,32,109,10,109,97,112,32,65]=[[109,97,112,112,105,110,103,32,109],[109,97,112,32,65]]:=by rfl
def ZfL:FrD:=⟨⟨#[]⟩,2,⟨#[]⟩,5,0,[],[]⟩
def xu:FrD:=⟨⟨#[]⟩,5,⟨#[]⟩,0,0,[],[⟨1,2,9⟩]⟩
def ZkL:Lm (B8 ZfL 3) = .tuple #[.int .i64 8,.bool true]:=by rfl
def ZkM:Lm (B8 xu 2) = .tuple #[.int .i64 9,.bool true]:=by rfl
def ZkN:Lm (B8 xu 3) = .tuple #[.int .i64 0,.bool false]:=by rfl
def Zd7:∀ m∈[EK,Fa,Fk],∀ r∈m.rules,∀ x∈r.fields,inF x=true:=K7
def Zci d e f (R:RT) w:=
 Zw e f (.bool false) λ b=>
 Zm (λ (a:Vl) (w:Wd)=>
 Zw b a (.bool false) λ g=>
 R (.returned g) w) λ c=>
 Zl b true (
 B0 .eql 49 true d (QqJ 6) R w λ a w=>
 c a w) (
 c undef w)
def Zcj d e f g R w:=
 Zw f g (.bool false) λ b=>
 Zm (λ (a:Vl) (w:Wd)=>
 Zci e b a R w) λ c=>
 Zl b true (
 B0 .eql 3 true d (QqJ 2) R w λ a w=>
 c a w) (
 c undef w)
def Zck d e f g h R w:=
 Zw g h (.bool false) λ b=>
 Zm (λ (a:Vl) (w:Wd)=>
 Zcj e f b a R w) λ c=>
 Zl b true (
 N0 d R w λ a w=>
 c a w) (
 c undef w)
def Zcl c d e f g h R w:=
 Zw g h (.bool false) λ a=>
 Zm (λ (i:Vl) (w:Wd)=>
 Zck d e f a i R w) λ b=>
 Zl a true (
 b c w) (
 b undef w)
def Zcm d e f g h i j R w:=
 Zw i j (.bool false) λ b=>
 Zm (λ (a:Vl) (w:Wd)=>
 Zcl e f g h b a R w) λ c=>
 Zl b true (
 B0 .eql 3 true d (QqJ 9) R w λ a w=>
 c a w) (
 c undef w)
def Zcn d e f g h a R w:=
 E0q a 0 R w λ i w=>
 E0q a 1 R w λ j w=>
 E0q a 2 R w λ k w=>
 opV Pg (alloc 24 true (.tuple #[])) (Zj R) w λ l w=>
 S0 24 l i R w λ w=>
 B0 .eql 3 true d (QqJ 8) R w λ b w=>
 Zm (λ (m:Vl) (w:Wd)=>
 Zcm f g h j k b m R w) λ c=>
 Zl b true (
 c e w) (
 c undef w)
def Zco b c d e a R w:=
 E0q a 0 R w λ h w=>
 E0q a 1 R w λ f w=>
 Yb Pg 22 #[(.string { data := #[109,97,112,112,105,110,103,32,109,10,109,97,112,32,65] })] (Zj R) w λ g w=>
 Zcn b c d e f g R w
def Zcp b c d a R w:=
 E0q a 0 R w λ e w=>
 E0q a 1 R w λ f w=>
 L0 43 b R w λ g w=>
 C0 18 #[g,(QqJ 3)] R w λ h w=>
 Zco c d e f h R w
def R2 a b R w:=
 E0q b 0 R w λ c w=>
 E0q b 1 R w λ d w=>
 L0 43 a R w λ e w=>
 C0 18 #[e,(QqJ 2)] R w λ f w=>
 Zcp a c d f R w
def RM R w:=
 opV Pg (build 78 #[(0,(QqJ 1)),(1,(QqJ 2)),(2,(QqJ 9))]) (Zj R) w λ b w=>
 opV Pg (buildSlice 41 1 #[(0,b)]) (Zj R) w λ c w=>
 opV Pg (build 43 #[(1,(QqJ 5)),(6,c)]) (Zj R) w λ d w=>
 opV Pg (alloc 43 true (.tuple #[])) (Zj R) w λ a w=>
 S0 43 a d R w λ w=>
 opV Pg (build 43 #[(1,(QqJ 2)),(3,(QqJ 5))]) (Zj R) w λ e w=>
 C0 18 #[e,(QqJ 3)] R w λ f w=>
 R2 a f R w
def RN d e f (R:RT) w:=
 Zw e (.bool true) f λ b=>
 Zm (λ (a:Vl) (w:Wd)=>
 Zw b (.bool true) a λ g=>
 Zo g (
 R (.returned (.bool false)) w) (
 RM R w)) λ c=>
 Zl b false (
 N0 d R w λ a w=>
 c a w) (
 c undef w)
def RO d e f g R w:=
 Zw f (.bool true) g λ b=>
 Zm (λ (a:Vl) (w:Wd)=>
 RN e b a R w) λ c=>
 Zl b false (
 N0 d R w λ a w=>
 c a w) (
 c undef w)
def IJ d e f g R w:=
 L0 34 d R w λ h w=>
 opV Pg (build 34 #[(0,(QqJ 0)),(1,(.int .i64 (-1))),(2,(QqJ 10))]) (Zj R) w λ i w=>
 B0 .neq 34 false h i R w λ b w=>
 Zm (λ (a:Vl) (w:Wd)=>
 RO e g b a R w) λ c=>
 Zl b false (
 L0 34 f R w λ j w=>
 opV Pg (build 34 #[(2,(QqJ 5))]) (Zj R) w λ k w=>
 B0 .neq 34 false j k R w λ a w=>
 c a w) (
 c undef w)
def RQ b (a:WPr) (d:KW) R w:=
 qV Pg a (extract b 0) λ e=>
 qV Pg a (extract b 1) λ f=>
 opV Pg (alloc 34 true (.tuple #[])) (Zj R) w λ c w=>
 a w∧(
 S0 34 c e R w λ w=>
 a w∧(
 d c f w))
def IK b c (a:WPr) (d:KW) R w:=
 a w∧(
 qV Pg a (extract c 0) λ e=>
 qV Pg a (extract c 1) λ f=>
 S0 34 b e R w λ w=>
 a w∧(
 d b f w))
def IL c d e (a:WPr) (f:KW) (R:RT) w:=
 (
 C0 14 #[c,d,e] R w λ b w=>
 a w∧(
 RQ b a f R w))∧(
 opV Pg (alloc 34 true (.tuple #[])) (Zj R) w λ g w=>
 a w∧(
 C0 14 #[c,d,e] R w λ b w=>
 IK g b a f R w))
def IM b c (a:WPr) (d:KW) R w:=
 a w∧(
 qV Pg a (extract c 0) λ e=>
 qV Pg a (extract c 1) λ f=>
 S0 34 b e R w λ w=>
 a w∧(
 d b f w))
def Ef c d (a:WPr) (e:KW) (R:RT) w:=
 (
 C0 31 #[] R w λ b w=>
 a w∧(
 IL c d b a e R w))∧(
 opV Pg (alloc 34 true (.tuple #[])) (Zj R) w λ f w=>
 a w∧(
 C0 31 #[] R w λ b w=>
 a w∧(
 C0 14 #[c,d,b] R w λ g w=>
 IM f g a e R w)))
def IN b c (a:WPr) (d:KW) R w:=
 a w∧(
 qV Pg a (extract c 0) λ e=>
 qV Pg a (extract c 1) λ f=>
 S0 34 b e R w λ w=>
 a w∧(
 d b f w))
def IP b c (a:WPr) (d:KW) (R:RT) w:=
 C0 31 #[] R w λ e w=>
 a w∧(
 C0 31 #[] R w λ f w=>
 a w∧(
 C0 14 #[c,e,f] R w λ g w=>
 IN b g a d R w))
def IQ e f g (a:WPr) R w:=
 I0 24 e a λ c=>
 Zm (λ (b:Vl) (h:Vl) (w:Wd)=>
 IJ f g b h R w) λ d=>
 (
 C0 31 #[] R w λ i w=>
 a w∧(
 Ef c i a d R w))∧(
 opV Pg (alloc 34 true (.tuple #[])) (Zj R) w λ b w=>
 a w∧(
 IP b c a d R w))
def RR b (a:WPr) (d:KW) R w:=
 qV Pg a (extract b 0) λ e=>
 qV Pg a (extract b 1) λ f=>
 opV Pg (alloc 34 true (.tuple #[])) (Zj R) w λ c w=>
 a w∧(
 S0 34 c e R w λ w=>
 a w∧(
 d c f w))
def IR b c (a:WPr) (d:KW) R w:=
 a w∧(
 qV Pg a (extract c 0) λ e=>
 qV Pg a (extract c 1) λ f=>
 S0 34 b e R w λ w=>
 a w∧(
 d b f w))
def IS c d e (a:WPr) (f:KW) (R:RT) w:=
 (
 C0 14 #[c,d,e] R w λ b w=>
 a w∧(
 RR b a f R w))∧(
 opV Pg (alloc 34 true (.tuple #[])) (Zj R) w λ g w=>
 a w∧(
 C0 14 #[c,d,e] R w λ b w=>
 IR g b a f R w))
def IT b c (a:WPr) (d:KW) R w:=
 a w∧(
 qV Pg a (extract c 0) λ e=>
 qV Pg a (extract c 1) λ f=>
 S0 34 b e R w λ w=>
 a w∧(
 d b f w))
def Eg c d (a:WPr) (e:KW) (R:RT) w:=
 (
 C0 31 #[] R w λ b w=>
 a w∧(
 IS c d b a e R w))∧(
 opV Pg (alloc 34 true (.tuple #[])) (Zj R) w λ f w=>
 a w∧(
 C0 31 #[] R w λ b w=>
 a w∧(
 C0 14 #[c,d,b] R w λ g w=>
 IT f g a e R w)))
def IU b c (a:WPr) (d:KW) R w:=
 a w∧(
 qV Pg a (extract c 0) λ e=>
 qV Pg a (extract c 1) λ f=>
 S0 34 b e R w λ w=>
 a w∧(
 d b f w))
def IV b c (a:WPr) (d:KW) (R:RT) w:=
 C0 31 #[] R w λ e w=>
 a w∧(
 C0 31 #[] R w λ f w=>
 a w∧(
 C0 14 #[c,e,f] R w λ g w=>
 IU b g a d R w))
def RU e f (a:WPr) R w:=
 I0 24 e a λ c=>
 Zm (λ (b:Vl) (g:Vl) (w:Wd)=>
 Yg w λ h w=>
 IQ f b g h R w) λ d=>
 (
 C0 31 #[] R w λ i w=>
 a w∧(
 Eg c i a d R w))∧(
 opV Pg (alloc 34 true (.tuple #[])) (Zj R) w λ b w=>
 a w∧(
 IV b c a d R w))
def RV b a R w:=
 F0 24 a 1 R w λ c w=>
 L0 22 c R w λ d w=>
 opV Pg (indexAt 22 d (QqJ 0)) (Zj R) w λ e w=>
 F0 60 e 2 R w λ f w=>
 L0 58 f R w λ g w=>
 opV Pg (build 43 #[(0,(.string { data := #[110] })),(1,(QqJ 1)),(2,(.string { data := #[98] }))]) (Zj R) w λ h w=>
 opV Pg (indexAt 58 g (QqJ 0)) (Zj R) w λ i w=>
 S0 43 i h R w λ w=>
 Yg w λ j w=>
 RU b a j R w
def RW b c (a:WPr) R w:=
 J0 24 b 1 a λ d=>
 I0 22 d a λ e=>
 J0 24 b 1 a λ f=>
 I0 22 f a λ g=>
 qV Pg a (indexAt 22 g (QqJ 0)) λ h=>
 J0 60 h 2 a λ i=>
 I0 58 i a λ j=>
 qV Pg a (sliceAt 58 j none (some (QqJ 1)) none) λ k=>
 qV Pg a (indexAt 22 e (QqJ 0)) λ l=>
 J0 60 l 2 a λ m=>
 S0 58 m k R w λ w=>
 Vp w λ n w=>
 RV b c R w
def RX c d R w:=
 opV Pg (alloc 24 true (.tuple #[])) (Zj R) w λ a w=>
 opV Pg (alloc 24 true (.tuple #[])) (Zj R) w λ b w=>
 S0 24 a c R w λ w=>
 S0 24 b d R w λ w=>
 Yg w λ e w=>
 RW a b e R w
def RY a b (R:RT) w:=
 Zw a (.bool true) b λ c=>
 Zo c (
 R (.returned (.bool false)) w) (
 C0 30 #[] R w λ d w=>
 C0 30 #[] R w λ e w=>
 RX d e R w)
def RZ a (b:KV) (R:RT) w:=
 C0 31 #[] R w λ c w=>
 C0 31 #[] R w λ d w=>
 C0 16 #[a,c,d] R w λ e w=>
 N0 e R w λ f w=>
 b f w
def R0 c d R w:=
 Zw c (.bool true) d λ a=>
 Zm (λ (e:Vl) (w:Wd)=>
 RY a e R w) λ b=>
 Zl a false (
 C0 30 #[] R w λ f w=>
 RZ f b R w) (
 b undef w)
def R1 b R w:=
 E0q b 0 R w λ e w=>
 E0q b 1 R w λ f w=>
 opV Pg (ZP .neq 9 true e (.string { data := #[109,97,112,112,105,110,103,32,109,10,109,97,112,32,65,32,65,10,110,32,102,105,116,10,98,32,99,111,112,121,32,98,10,101,110,100,10] })) (Zj R) w λ c w=>
 Zm (λ (a:Vl) (w:Wd)=>
 R0 c a R w) λ d=>
 Zl c false (
 B0 .neq 49 true f (QqJ 0) R w λ a w=>
 d a w) (
 d undef w)
def n44 (R:RT) w:=
 C0 30 #[] R w λ a w=>
 C0 25 #[a] R w λ b w=>
 R1 b R w
def Zli:QqQ0 12 n44:=λ h=>by
 refine yD func12 ?_
 refine zs<|zr<|zm<|zn<|zk<|zs<|zr<|yc h c30 λ h=>yc h c25 λ h=>zm<|yv h λ h=>yv h λ h=>zm<|zm<|zn ?_
 refine zk<|zs<|zs<|Zr<|yG 3<|zm<|yb h λ h=>zm<|zn<|yg1 2 2 false [27,28] 28 h (λ _ T hT h=>?_) λ σ w h=>?_
 · refine zm<|yb h λ h=>zn ?_
   exact zt hT h
 refine yG 2<|yp h λ h=>zm<|zn<|yg1 5 6 false [31,32,33,34,35] 35 h (λ _ T hT h=>?_) λ σ w h=>?_
 · refine yc h c30 λ h=>yc h c31 λ h=>yc h c31 λ h=>yc h c16 λ h=>yv h λ h=>zn ?_
   exact zt hT h
 refine yG 1<|yp h λ h=>zn<|ZG<|zk<|yC h (λ h=>zs<|zr<|zm<|zn<|zk<|Zh<|Zb<|Zf rfl rfl h) λ h=>Zi<|zk<|zs<|zr<|yc h c30 λ h=>yc h c30 λ h=>yv h λ h=>yv h λ h=>?_
 refine yu h λ h=>yu h λ h=>zn<|zk<|zs<|yh [39,40,41,42,43,44,45,46,47,48] h λ C hC h=>ye 0 hC h λ h=>?_
 refine ye 1 hC h λ h=>?_
 refine ye 2 hC h λ h=>?_
 refine ye 3 hC h λ h=>?_
 refine ye 4 hC h λ h=>?_
 refine ye 5 hC h λ h=>?_
 refine ye 6 hC h λ h=>?_
 refine ye 7 hC h λ h=>?_
 refine ye 8 hC h λ h=>?_
 refine ye 9 hC h λ h=>?_
 refine yq 10 2 ?_
 refine yu h λ h=>zn ?_
 obtain ⟨C4,hC,h⟩:=h
 refine ⟨C4,hC,?_⟩
 refine yz<|zk<|zs<|zr<|yv h λ h=>yv h λ h=>yv h λ h=>yv h λ h=>yv h λ h=>yB h λ h=>yv h λ h=>yu h λ h=>zn<|zk<|zs ?_
 refine yh [5,6,56,57,58,59,60,61,62] h λ C hC h=>ye 0 hC h λ h=>?_
 refine QI h (λ K6 hK h=>?_)
 refine Wq [5,6,56,58,59,60,61,62] (λ ρ w=>K6 (ρ 5) (ρ 6) w) (λ T hT=>?_) (λ σ w h=>?_)
 · obtain ⟨h0,h1⟩:=h
   refine Xj 1 7 rfl rfl K5 (λ _ _=>rfl) (λ _ _=>rfl) ?_ ?_
   · have h:=h0
     refine yc h c31 λ h=>zn ?_
     obtain ⟨hC,h⟩:=h
     refine ⟨_,λ _ h=>h,hC,?_⟩
     obtain ⟨h0,h1⟩:=h
     refine Xj 2 7 rfl rfl K5 (λ _ _=>rfl) (λ _ _=>rfl) ?_ ?_
     · have h:=h0
       refine yc h c31 λ h=>zn ?_
       obtain ⟨hC,h⟩:=h
       refine ⟨_,λ _ h=>h,hC,?_⟩
       obtain ⟨h0,h1⟩:=h
       refine Xj 3 7 rfl rfl K5 (λ _ _=>rfl) (λ _ _=>rfl) ?_ ?_
       · have h:=h0
         refine yc h c14 λ h=>zn ?_
         obtain ⟨hC,h⟩:=h
         refine ⟨_,λ _ h=>h,hC,?_⟩
         refine yw 4 hC ?_
         refine ye 5 hC h λ h=>?_
         refine ye 6 hC h λ h=>?_
         refine yo 7 ?_
         refine yv h λ h=>zn ?_
         obtain ⟨hC,h⟩:=h
         refine ⟨hC,?_⟩
         refine yo 8 ?_
         refine yu h λ h=>zn ?_
         obtain ⟨hC,h⟩:=h
         refine ⟨hC,?_⟩
         refine yw 9 hC ?_
         refine yz ?_
         exact zt hT h
       have h:=h1
       refine yv h λ h=>zn ?_
       obtain ⟨hC,h⟩:=h
       refine ⟨_,λ _ h=>h,hC,?_⟩
       refine yo 3 ?_
       refine yc h c14 λ h=>zn ?_
       obtain ⟨hC,h⟩:=h
       refine ⟨hC,?_⟩
       refine yw 4 hC ?_
       refine ye 5 hC h λ h=>?_
       refine ye 6 hC h λ h=>?_
       refine yo 8 ?_
       refine yu h λ h=>zn ?_
       obtain ⟨hC,h⟩:=h
       refine ⟨hC,?_⟩
       refine yw 9 hC ?_
       refine yz ?_
       exact zt hT h
     have h:=h1
     refine yv h λ h=>zn ?_
     obtain ⟨hC,h⟩:=h
     refine ⟨_,λ _ h=>h,hC,?_⟩
     refine yo 2 ?_
     refine yc h c31 λ h=>zn ?_
     obtain ⟨hC,h⟩:=h
     refine ⟨hC,?_⟩
     refine yo 3 ?_
     refine yc h c14 λ h=>zn ?_
     obtain ⟨hC,h⟩:=h
     refine ⟨hC,?_⟩
     refine yw 4 hC ?_
     refine ye 5 hC h λ h=>?_
     refine ye 6 hC h λ h=>?_
     refine yo 8 ?_
     refine yu h λ h=>zn ?_
     obtain ⟨hC,h⟩:=h
     refine ⟨hC,?_⟩
     refine yw 9 hC ?_
     refine yz ?_
     exact zt hT h
   have h:=h1
   refine yv h λ h=>zn ?_
   obtain ⟨hC,h⟩:=h
   refine ⟨_,λ _ h=>h,hC,?_⟩
   refine yo 1 ?_
   refine yc h c31 λ h=>zn ?_
   obtain ⟨hC,h⟩:=h
   refine ⟨hC,?_⟩
   refine yo 2 ?_
   refine yc h c31 λ h=>zn ?_
   obtain ⟨hC,h⟩:=h
   refine ⟨hC,?_⟩
   refine yo 3 ?_
   refine yc h c14 λ h=>zn ?_
   obtain ⟨hC,h⟩:=h
   refine ⟨hC,?_⟩
   refine yw 4 hC ?_
   refine ye 5 hC h λ h=>?_
   refine ye 6 hC h λ h=>?_
   refine yo 8 ?_
   refine yu h λ h=>zn ?_
   obtain ⟨hC,h⟩:=h
   refine ⟨hC,?_⟩
   refine yw 9 hC ?_
   refine yz ?_
   exact zt hT h
 subst hK
 refine zk<|zs<|yh [7,8,63,64,65,66,67,68,69] h λ C hC h=>ye 0 hC h λ h=>?_
 refine QI h (λ K8 hK h=>?_)
 refine Wq [7,8,63,65,66,67,68,69] (λ ρ w=>K8 (ρ 7) (ρ 8) w) (λ T hT=>?_) (λ σ w h=>?_)
 · obtain ⟨h0,h1⟩:=h
   refine Xj 1 7 rfl rfl K5 (λ _ _=>rfl) (λ _ _=>rfl) ?_ ?_
   · have h:=h0
     refine yc h c31 λ h=>zn ?_
     obtain ⟨hC,h⟩:=h
     refine ⟨_,λ _ h=>h,hC,?_⟩
     obtain ⟨h0,h1⟩:=h
     refine Xj 2 7 rfl rfl K5 (λ _ _=>rfl) (λ _ _=>rfl) ?_ ?_
     · have h:=h0
       refine yc h c31 λ h=>zn ?_
       obtain ⟨hC,h⟩:=h
       refine ⟨_,λ _ h=>h,hC,?_⟩
       obtain ⟨h0,h1⟩:=h
       refine Xj 3 7 rfl rfl K5 (λ _ _=>rfl) (λ _ _=>rfl) ?_ ?_
       · have h:=h0
         refine yc h c14 λ h=>zn ?_
         obtain ⟨hC,h⟩:=h
         refine ⟨_,λ _ h=>h,hC,?_⟩
         refine yw 4 hC ?_
         refine ye 5 hC h λ h=>?_
         refine ye 6 hC h λ h=>?_
         refine yo 7 ?_
         refine yv h λ h=>zn ?_
         obtain ⟨hC,h⟩:=h
         refine ⟨hC,?_⟩
         refine yo 8 ?_
         refine yu h λ h=>zn ?_
         obtain ⟨hC,h⟩:=h
         refine ⟨hC,?_⟩
         refine yw 9 hC ?_
         refine yz ?_
         exact zt hT h
       have h:=h1
       refine yv h λ h=>zn ?_
       obtain ⟨hC,h⟩:=h
       refine ⟨_,λ _ h=>h,hC,?_⟩
       refine yo 3 ?_
       refine yc h c14 λ h=>zn ?_
       obtain ⟨hC,h⟩:=h
       refine ⟨hC,?_⟩
       refine yw 4 hC ?_
       refine ye 5 hC h λ h=>?_
       refine ye 6 hC h λ h=>?_
       refine yo 8 ?_
       refine yu h λ h=>zn ?_
       obtain ⟨hC,h⟩:=h
       refine ⟨hC,?_⟩
       refine yw 9 hC ?_
       refine yz ?_
       exact zt hT h
     have h:=h1
     refine yv h λ h=>zn ?_
     obtain ⟨hC,h⟩:=h
     refine ⟨_,λ _ h=>h,hC,?_⟩
     refine yo 2 ?_
     refine yc h c31 λ h=>zn ?_
     obtain ⟨hC,h⟩:=h
     refine ⟨hC,?_⟩
     refine yo 3 ?_
     refine yc h c14 λ h=>zn ?_
     obtain ⟨hC,h⟩:=h
     refine ⟨hC,?_⟩
     refine yw 4 hC ?_
     refine ye 5 hC h λ h=>?_
     refine ye 6 hC h λ h=>?_
     refine yo 8 ?_
     refine yu h λ h=>zn ?_
     obtain ⟨hC,h⟩:=h
     refine ⟨hC,?_⟩
     refine yw 9 hC ?_
     refine yz ?_
     exact zt hT h
   have h:=h1
   refine yv h λ h=>zn ?_
   obtain ⟨hC,h⟩:=h
   refine ⟨_,λ _ h=>h,hC,?_⟩
   refine yo 1 ?_
   refine yc h c31 λ h=>zn ?_
   obtain ⟨hC,h⟩:=h
   refine ⟨hC,?_⟩
   refine yo 2 ?_
   refine yc h c31 λ h=>zn ?_
   obtain ⟨hC,h⟩:=h
   refine ⟨hC,?_⟩
   refine yo 3 ?_
   refine yc h c14 λ h=>zn ?_
   obtain ⟨hC,h⟩:=h
   refine ⟨hC,?_⟩
   refine yw 4 hC ?_
   refine ye 5 hC h λ h=>?_
   refine ye 6 hC h λ h=>?_
   refine yo 8 ?_
   refine yu h λ h=>zn ?_
   obtain ⟨hC,h⟩:=h
   refine ⟨hC,?_⟩
   refine yw 9 hC ?_
   refine yz ?_
   exact zt hT h
 subst hK
 refine zk<|zs<|zs<|Zr<|yG 4<|yv h λ h=>yB h λ h=>yb h λ h=>zm<|zn<|yg1 3 3 false [74,75,76] 76 h (λ _ T hT h=>?_) λ σ w h=>?_
 · refine yv h λ h=>yB h λ h=>yb h λ h=>zn ?_
   exact zt hT h
 refine yG 2<|yp h λ h=>zm<|zn<|yg1 2 8 false [79,80] 80 h (λ _ T hT h=>?_) λ σ w h=>?_
 · refine zm<|yv h λ h=>zn ?_
   exact zt hT h
 refine yG 2<|yp h λ h=>zm<|zn<|yg1 2 12 false [83,84] 84 h (λ _ T hT h=>?_) λ σ w h=>?_
 · refine zm<|yv h λ h=>zn ?_
   exact zt hT h
 refine yG 1<|yp h λ h=>zn<|ZG<|zk<|yC h (λ h=>zs<|zr<|zm<|zn<|zk<|Zh<|Zb<|Zf rfl rfl h) λ h=>Zi<|zk<|zs<|zr<|yB h λ h=>yS h λ h=>yB h λ h=>yv h λ h=>?_
 refine yu h λ h=>zn<|zk<|zs<|zr<|yB h λ h=>yc h c18 λ h=>zm<|yv h λ h=>yv h λ h=>zm<|zm<|zn<|zk<|zs ?_
 refine zr<|yv h λ h=>yc h c18 λ h=>zm<|yv h λ h=>yv h λ h=>zm<|zm<|zn<|zk<|zs<|zr<|yv h λ h=>yc h c18 λ h=>zm ?_
 refine yv h λ h=>yv h λ h=>zm<|zm<|zn<|zk<|zs<|zr<|yc h c22 λ h=>zm<|yv h λ h=>yv h λ h=>yv h λ h=>yv h λ h=>yu h λ h=>?_
 refine zm<|zm<|zn<|zk<|zs<|Zr<|yG 3<|zm<|yb h λ h=>zm<|zn<|yg1 1 2 true [112] 112 h (λ _ T hT h=>?_) λ σ w h=>?_
 · refine zm<|zn ?_
   exact zt hT h
 refine yG 2<|yp h λ h=>zm<|zn<|yg1 2 5 true [115,116] 116 h (λ _ T hT h=>?_) λ σ w h=>?_
 · refine zm<|yb h λ h=>zn ?_
   exact zt hT h
 refine yG 2<|yp h λ h=>zm<|zn<|yg1 1 9 true [119] 119 h (λ _ T hT h=>?_) λ σ w h=>?_
 · refine zm<|zn ?_
   exact zt hT h
 refine yG 2<|yp h λ h=>zm<|zn<|yg1 2 12 true [122,123] 123 h (λ _ T hT h=>?_) λ σ w h=>?_
 · refine zm<|yv h λ h=>zn ?_
   exact zt hT h
 refine yG 2<|yp h λ h=>zm<|zn<|yg1 2 16 true [126,127] 127 h (λ _ T hT h=>?_) λ σ w h=>?_
 · refine zm<|yb h λ h=>zn ?_
   exact zt hT h
 refine yG 2<|yp h λ h=>zm<|zn<|yg1 2 20 true [130,131] 131 h (λ _ T hT h=>?_) λ σ w h=>?_
 · refine zm<|yb h λ h=>zn ?_
   exact zt hT h
 exact yG 2<|yp h λ h=>zm<|zn<|ZG<|zk<|Zh<|Zf rfl rfl h
def flV (a f c:Int):AA (some (a,f,c)) = .tuple #[.agg #[.int .i64 a,.int .i64 f,.int .i64 c],.bool true]:=rfl
def FlR (D w:Wd) (p:Nat) (a f c:Int):Prop:=Ext D w∧w.heap[p]?=some (.cells #[.int .i64 a,.int .i64 f,.int .i64 c] 34 (0,0))
section
variable {D w:Wd} {a f c:Int} {K:KW} {R:RT}
def Zd9 {w1:Wd} {p:Nat} (e1:Ext D w1) (hp:D.heap.size≤p) (o1:w1.heap[p]?=some (.cells #[.int .i64 0,.int .i64 0,.int .i64 0] 34 (0,0))) (hK:∀ w' p,FlR D w' p a f c→K (Qq4 p) (.bool true) w'):IR (Qq4 p) (AA (some (a,f,c))) (EC D) K R w1:=by
 rw [flV]
 unfold IR
 refine Qqh (Za o1).1 (Za o1).2 ?_
 have e3:Ext D (((w1.setCell ⟨p,0,none⟩ (.int .i64 a)).setCell ⟨p,1,none⟩ (.int .i64 f)).setCell ⟨p,2,none⟩ (.int .i64 c)):=((e1.setCell (p:=⟨p,0,none⟩) hp _).setCell (p:=⟨p,1,none⟩) hp _).setCell (p:=⟨p,2,none⟩) hp _
 exact ⟨e1,e3,hK _ _ ⟨e3,Zy (o:=2) (Zy (o:=1) (Zy (o:=0) o1 (.int .i64 a)) (.int .i64 f)) (.int .i64 c)⟩⟩
def Zea {w1:Wd} {p:Nat} (e1:Ext D w1) (hp:D.heap.size≤p) (o1:w1.heap[p]?=some (.cells #[.int .i64 0,.int .i64 0,.int .i64 0] 34 (0,0))) (hK:∀ w' p,FlR D w' p a f c→K (Qq4 p) (.bool true) w'):IT (Qq4 p) (AA (some (a,f,c))) (EC D) K R w1:=by
 rw [flV]
 unfold IT
 refine Qqh (Za o1).1 (Za o1).2 ?_
 have e3:Ext D (((w1.setCell ⟨p,0,none⟩ (.int .i64 a)).setCell ⟨p,1,none⟩ (.int .i64 f)).setCell ⟨p,2,none⟩ (.int .i64 c)):=((e1.setCell (p:=⟨p,0,none⟩) hp _).setCell (p:=⟨p,1,none⟩) hp _).setCell (p:=⟨p,2,none⟩) hp _
 exact ⟨e1,e3,hK _ _ ⟨e3,Zy (o:=2) (Zy (o:=1) (Zy (o:=0) o1 (.int .i64 a)) (.int .i64 f)) (.int .i64 c)⟩⟩
def Zeb {w1:Wd} {p:Nat} (e1:Ext D w1) (hp:D.heap.size≤p) (o1:w1.heap[p]?=some (.cells #[.int .i64 0,.int .i64 0,.int .i64 0] 34 (0,0))) (hK:∀ w' p,FlR D w' p a f c→K (Qq4 p) (.bool true) w'):IU (Qq4 p) (AA (some (a,f,c))) (EC D) K R w1:=by
 rw [flV]
 unfold IU
 refine Qqh (Za o1).1 (Za o1).2 ?_
 have e3:Ext D (((w1.setCell ⟨p,0,none⟩ (.int .i64 a)).setCell ⟨p,1,none⟩ (.int .i64 f)).setCell ⟨p,2,none⟩ (.int .i64 c)):=((e1.setCell (p:=⟨p,0,none⟩) hp _).setCell (p:=⟨p,1,none⟩) hp _).setCell (p:=⟨p,2,none⟩) hp _
 exact ⟨e1,e3,hK _ _ ⟨e3,Zy (o:=2) (Zy (o:=1) (Zy (o:=0) o1 (.int .i64 a)) (.int .i64 f)) (.int .i64 c)⟩⟩
def ZfB {v1 v2 v3:Vl} {m:Xd} (e:Ext D w) (h1:YN w v1 m) (h2:YM w v2 Ys) (h3:YM w v3 Ys) (hin:∀ r∈m.rules,∀ x∈r.fields,inF x=true) (hm:W7 m Ys Ys=some (a,f,c)) (hK:∀ w' p,FlR D w' p a f c→K (Qq4 p) (.bool true) w') :
 IS v1 v2 v3 (EC D) K R w:=by
 unfold IS
 constructor
 · refine zcr (QJ w _ _ _ m Ys Ys h1 h2 h3 hin) λ w1 e1=>?_
   refine ⟨e.trans e1,?_⟩
   rw [hm,flV]
   unfold RR
   refine Qqk ?_
   have oV:=Zv w1 #[.int .i64 a,.int .i64 f,.int .i64 c] 34
   have e3:=e.trans e1
   exact ⟨e3.alloc _,e3.alloc _,hK _ _ ⟨e3.alloc _,oV⟩⟩
 · 
   refine Qqk ?_
   have oV:=Zv w #[.int .i64 0,.int .i64 0,.int .i64 0] 34
   have eV:Ext w (w.alloc (.cells #[.int .i64 0,.int .i64 0,.int .i64 0] 34)):=(Ext.refl w).alloc _
   generalize (w.alloc (.cells #[.int .i64 0,.int .i64 0,.int .i64 0] 34))=V at oV eV ⊢
   refine ⟨e.trans eV,?_⟩
   refine zcr (QJ V _ _ _ m Ys Ys (h1.ext eV) (h2.ext eV) (h3.ext eV) hin) λ w1 e1=>?_
   rw [hm]
   exact Zd9 (e.trans (eV.trans e1)) e.size (e1.obj oV) hK
def Zn3 {v1 v2:Vl} {m:Xd} (e:Ext D w) (h1:YN w v1 m) (h2:YM w v2 Ys) (hin:∀ r∈m.rules,∀ x∈r.fields,inF x=true) (hm:W7 m Ys Ys=some (a,f,c)) (hK:∀ w' p,FlR D w' p a f c→K (Qq4 p) (.bool true) w') :
 Eg v1 v2 (EC D) K R w:=by
 unfold Eg
 constructor
 · refine Zs (XA w) ?_
   rintro v3 w1 ⟨h3,e1⟩
   exact ⟨e.trans e1,ZfB (e.trans e1) (h1.ext e1) (h2.ext e1) h3 hin hm hK⟩
 · 
   refine Qqk ?_
   have oV:=Zv w #[.int .i64 0,.int .i64 0,.int .i64 0] 34
   have eV:Ext w (w.alloc (.cells #[.int .i64 0,.int .i64 0,.int .i64 0] 34)):=(Ext.refl w).alloc _
   generalize (w.alloc (.cells #[.int .i64 0,.int .i64 0,.int .i64 0] 34))=V at oV eV ⊢
   refine ⟨e.trans eV,?_⟩
   refine Zs (XA V) ?_
   rintro v3 w2 ⟨h3,e2⟩
   refine ⟨e.trans (eV.trans e2),?_⟩
   have e02:=eV.trans e2
   refine zcr (QJ w2 _ _ _ m Ys Ys (h1.ext e02) (h2.ext e02) h3 hin) λ w1 e1=>?_
   rw [hm]
   exact Zea (e.trans (e02.trans e1)) e.size (e1.obj (e2.obj oV)) hK
def Zjf {v1:Vl} {m:Xd} (e:Ext D w) (h1:YN w v1 m) (hin:∀ r∈m.rules,∀ x∈r.fields,inF x=true) (hm:W7 m Ys Ys=some (a,f,c)) (hK:∀ w' p,FlR D w' p a f c→K (Qq4 p) (.bool true) w') :
 Yb Pg 31 #[] (Zj R) w λ t58 w=>EC D w∧Eg v1 t58 (EC D) K R w:=by
 refine Zs (XA w) ?_
 rintro v2 w1 ⟨h2,e1⟩
 exact ⟨e.trans e1,Zn3 (e.trans e1) (h1.ext e1) h2 hin hm hK⟩
def Zjg {v1:Vl} {m:Xd} (e:Ext D w) (h1:YN w v1 m) (hin:∀ r∈m.rules,∀ x∈r.fields,inF x=true) (hm:W7 m Ys Ys=some (a,f,c)) (hK:∀ w' p,FlR D w' p a f c→K (Qq4 p) (.bool true) w') :
 EC D (w.alloc (.cells #[.int .i64 0,.int .i64 0,.int .i64 0] 34))∧IV (Qq4 w.heap.size) v1 (EC D) K R (w.alloc (.cells #[.int .i64 0,.int .i64 0,.int .i64 0] 34)):=by
 have oV:=Zv w #[.int .i64 0,.int .i64 0,.int .i64 0] 34
 have eV:Ext w (w.alloc (.cells #[.int .i64 0,.int .i64 0,.int .i64 0] 34)):=(Ext.refl w).alloc _
 generalize (w.alloc (.cells #[.int .i64 0,.int .i64 0,.int .i64 0] 34))=V at oV eV ⊢
 refine ⟨e.trans eV,?_⟩
 unfold IV
 refine Zs (XA V) ?_
 rintro v2 w2 ⟨h2,e2⟩
 refine ⟨e.trans (eV.trans e2),?_⟩
 refine Zs (XA w2) ?_
 rintro v3 w3 ⟨h3,e3⟩
 have e03:=eV.trans (e2.trans e3)
 refine ⟨e.trans e03,?_⟩
 refine zcr (QJ w3 _ _ _ m Ys Ys (h1.ext e03) (h2.ext e3) h3 hin) λ w1 e1=>?_
 rw [hm]
 exact Zeb (e.trans (e03.trans e1)) e.size (e1.obj (e3.obj (e2.obj oV))) hK
def Zec {w1:Wd} {p:Nat} (e1:Ext D w1) (hp:D.heap.size≤p) (o1:w1.heap[p]?=some (.cells #[.int .i64 0,.int .i64 0,.int .i64 0] 34 (0,0))) (hK:∀ w' p,FlR D w' p a f c→K (Qq4 p) (.bool true) w'):IK (Qq4 p) (AA (some (a,f,c))) (EC D) K R w1:=by
 rw [flV]
 unfold IK
 refine Qqh (Za o1).1 (Za o1).2 ?_
 have e3:Ext D (((w1.setCell ⟨p,0,none⟩ (.int .i64 a)).setCell ⟨p,1,none⟩ (.int .i64 f)).setCell ⟨p,2,none⟩ (.int .i64 c)):=((e1.setCell (p:=⟨p,0,none⟩) hp _).setCell (p:=⟨p,1,none⟩) hp _).setCell (p:=⟨p,2,none⟩) hp _
 exact ⟨e1,e3,hK _ _ ⟨e3,Zy (o:=2) (Zy (o:=1) (Zy (o:=0) o1 (.int .i64 a)) (.int .i64 f)) (.int .i64 c)⟩⟩
def Zed {w1:Wd} {p:Nat} (e1:Ext D w1) (hp:D.heap.size≤p) (o1:w1.heap[p]?=some (.cells #[.int .i64 0,.int .i64 0,.int .i64 0] 34 (0,0))) (hK:∀ w' p,FlR D w' p a f c→K (Qq4 p) (.bool true) w'):IM (Qq4 p) (AA (some (a,f,c))) (EC D) K R w1:=by
 rw [flV]
 unfold IM
 refine Qqh (Za o1).1 (Za o1).2 ?_
 have e3:Ext D (((w1.setCell ⟨p,0,none⟩ (.int .i64 a)).setCell ⟨p,1,none⟩ (.int .i64 f)).setCell ⟨p,2,none⟩ (.int .i64 c)):=((e1.setCell (p:=⟨p,0,none⟩) hp _).setCell (p:=⟨p,1,none⟩) hp _).setCell (p:=⟨p,2,none⟩) hp _
 exact ⟨e1,e3,hK _ _ ⟨e3,Zy (o:=2) (Zy (o:=1) (Zy (o:=0) o1 (.int .i64 a)) (.int .i64 f)) (.int .i64 c)⟩⟩
def Zee {w1:Wd} {p:Nat} (e1:Ext D w1) (hp:D.heap.size≤p) (o1:w1.heap[p]?=some (.cells #[.int .i64 0,.int .i64 0,.int .i64 0] 34 (0,0))) (hK:∀ w' p,FlR D w' p a f c→K (Qq4 p) (.bool true) w'):IN (Qq4 p) (AA (some (a,f,c))) (EC D) K R w1:=by
 rw [flV]
 unfold IN
 refine Qqh (Za o1).1 (Za o1).2 ?_
 have e3:Ext D (((w1.setCell ⟨p,0,none⟩ (.int .i64 a)).setCell ⟨p,1,none⟩ (.int .i64 f)).setCell ⟨p,2,none⟩ (.int .i64 c)):=((e1.setCell (p:=⟨p,0,none⟩) hp _).setCell (p:=⟨p,1,none⟩) hp _).setCell (p:=⟨p,2,none⟩) hp _
 exact ⟨e1,e3,hK _ _ ⟨e3,Zy (o:=2) (Zy (o:=1) (Zy (o:=0) o1 (.int .i64 a)) (.int .i64 f)) (.int .i64 c)⟩⟩
def ZfC {v1 v2 v3:Vl} {m:Xd} (e:Ext D w) (h1:YN w v1 m) (h2:YM w v2 Ys) (h3:YM w v3 Ys) (hin:∀ r∈m.rules,∀ x∈r.fields,inF x=true) (hm:W7 m Ys Ys=some (a,f,c)) (hK:∀ w' p,FlR D w' p a f c→K (Qq4 p) (.bool true) w') :
 IL v1 v2 v3 (EC D) K R w:=by
 unfold IL
 constructor
 · refine zcr (QJ w _ _ _ m Ys Ys h1 h2 h3 hin) λ w1 e1=>?_
   refine ⟨e.trans e1,?_⟩
   rw [hm,flV]
   unfold RQ
   refine Qqk ?_
   have oV:=Zv w1 #[.int .i64 a,.int .i64 f,.int .i64 c] 34
   have e3:=e.trans e1
   exact ⟨e3.alloc _,e3.alloc _,hK _ _ ⟨e3.alloc _,oV⟩⟩
 · 
   refine Qqk ?_
   have oV:=Zv w #[.int .i64 0,.int .i64 0,.int .i64 0] 34
   have eV:Ext w (w.alloc (.cells #[.int .i64 0,.int .i64 0,.int .i64 0] 34)):=(Ext.refl w).alloc _
   generalize (w.alloc (.cells #[.int .i64 0,.int .i64 0,.int .i64 0] 34))=V at oV eV ⊢
   refine ⟨e.trans eV,?_⟩
   refine zcr (QJ V _ _ _ m Ys Ys (h1.ext eV) (h2.ext eV) (h3.ext eV) hin) λ w1 e1=>?_
   rw [hm]
   exact Zec (e.trans (eV.trans e1)) e.size (e1.obj oV) hK
def Zn4 {v1 v2:Vl} {m:Xd} (e:Ext D w) (h1:YN w v1 m) (h2:YM w v2 Ys) (hin:∀ r∈m.rules,∀ x∈r.fields,inF x=true) (hm:W7 m Ys Ys=some (a,f,c)) (hK:∀ w' p,FlR D w' p a f c→K (Qq4 p) (.bool true) w') :
 Ef v1 v2 (EC D) K R w:=by
 unfold Ef
 constructor
 · refine Zs (XA w) ?_
   rintro v3 w1 ⟨h3,e1⟩
   exact ⟨e.trans e1,ZfC (e.trans e1) (h1.ext e1) (h2.ext e1) h3 hin hm hK⟩
 · 
   refine Qqk ?_
   have oV:=Zv w #[.int .i64 0,.int .i64 0,.int .i64 0] 34
   have eV:Ext w (w.alloc (.cells #[.int .i64 0,.int .i64 0,.int .i64 0] 34)):=(Ext.refl w).alloc _
   generalize (w.alloc (.cells #[.int .i64 0,.int .i64 0,.int .i64 0] 34))=V at oV eV ⊢
   refine ⟨e.trans eV,?_⟩
   refine Zs (XA V) ?_
   rintro v3 w2 ⟨h3,e2⟩
   refine ⟨e.trans (eV.trans e2),?_⟩
   have e02:=eV.trans e2
   refine zcr (QJ w2 _ _ _ m Ys Ys (h1.ext e02) (h2.ext e02) h3 hin) λ w1 e1=>?_
   rw [hm]
   exact Zed (e.trans (e02.trans e1)) e.size (e1.obj (e2.obj oV)) hK
def Zjh {v1:Vl} {m:Xd} (e:Ext D w) (h1:YN w v1 m) (hin:∀ r∈m.rules,∀ x∈r.fields,inF x=true) (hm:W7 m Ys Ys=some (a,f,c)) (hK:∀ w' p,FlR D w' p a f c→K (Qq4 p) (.bool true) w') :
 Yb Pg 31 #[] (Zj R) w λ t58 w=>EC D w∧Ef v1 t58 (EC D) K R w:=by
 refine Zs (XA w) ?_
 rintro v2 w1 ⟨h2,e1⟩
 exact ⟨e.trans e1,Zn4 (e.trans e1) (h1.ext e1) h2 hin hm hK⟩
def Zji {v1:Vl} {m:Xd} (e:Ext D w) (h1:YN w v1 m) (hin:∀ r∈m.rules,∀ x∈r.fields,inF x=true) (hm:W7 m Ys Ys=some (a,f,c)) (hK:∀ w' p,FlR D w' p a f c→K (Qq4 p) (.bool true) w') :
 EC D (w.alloc (.cells #[.int .i64 0,.int .i64 0,.int .i64 0] 34))∧IP (Qq4 w.heap.size) v1 (EC D) K R (w.alloc (.cells #[.int .i64 0,.int .i64 0,.int .i64 0] 34)):=by
 have oV:=Zv w #[.int .i64 0,.int .i64 0,.int .i64 0] 34
 have eV:Ext w (w.alloc (.cells #[.int .i64 0,.int .i64 0,.int .i64 0] 34)):=(Ext.refl w).alloc _
 generalize (w.alloc (.cells #[.int .i64 0,.int .i64 0,.int .i64 0] 34))=V at oV eV ⊢
 refine ⟨e.trans eV,?_⟩
 unfold IP
 refine Zs (XA V) ?_
 rintro v2 w2 ⟨h2,e2⟩
 refine ⟨e.trans (eV.trans e2),?_⟩
 refine Zs (XA w2) ?_
 rintro v3 w3 ⟨h3,e3⟩
 have e03:=eV.trans (e2.trans e3)
 refine ⟨e.trans e03,?_⟩
 refine zcr (QJ w3 _ _ _ m Ys Ys (h1.ext e03) (h2.ext e3) h3 hin) λ w1 e1=>?_
 rw [hm]
 exact Zee (e.trans (e03.trans e1)) e.size (e1.obj (e3.obj (e2.obj oV))) hK
end
def Zcq d e f g (Y0:KV) (R:RT) w:=
 Zw f (.bool true) g λ b=>
 Zm (λ (a:Vl) (w:Wd)=>
 Zw b (.bool true) a λ h=>
 Zo h (
 R (.returned (.bool true)) w) (
 B0 .add 3 true d (QqJ 1) R w λ i w=>
 Y0 i w)) λ c=>
 Zl b false (
 F0 43 e 6 R w λ j w=>
 L0 41 j R w λ k w=>
 G0 41 3 k R w λ l w=>
 B0 .gtr 3 true l (QqJ 50) R w λ a w=>
 c a w) (
 c undef w)
def Zcr e b f g (Y0:KV) R w:=
 Zw f (.bool true) g λ c=>
 Zm (λ (a:Vl) (w:Wd)=>
 Zcq e b c a Y0 R w) λ d=>
 Zl c false (
 F0 43 b 5 R w λ h w=>
 L0 40 h R w λ i w=>
 G0 40 3 i R w λ j w=>
 B0 .gtr 3 true j (QqJ 1100) R w λ a w=>
 d a w) (
 d undef w)
def Zcs f c (Y0:KV) R w:=
 F0 60 f 2 R w λ g w=>
 L0 58 g R w λ h w=>
 X0 58 h c R w λ i w=>
 L0 43 i R w λ j w=>
 opV Pg (alloc 43 true (.tuple #[])) (Zj R) w λ a w=>
 S0 43 a j R w λ w=>
 F0 43 a 0 R w λ k w=>
 L0 9 k R w λ l w=>
 G0 9 3 l R w λ m w=>
 B0 .gtr 3 true m (QqJ 1100) R w λ d w=>
 Zm (λ (b:Vl) (w:Wd)=>
 Zcr c a d b Y0 R w) λ e=>
 Zl d false (
 F0 43 a 2 R w λ n w=>
 L0 9 n R w λ o w=>
 G0 9 3 o R w λ p w=>
 B0 .gtr 3 true p (QqJ 1100) R w λ b w=>
 e b w) (
 e undef w)
def Zct c a b (Zx Y0:KV) R w:=
 F0 60 a 2 R w λ d w=>
 L0 58 d R w λ e w=>
 G0 58 3 e R w λ f w=>
 B0 .lss 3 false b f R w λ g w=>
 Zo g (
 Zcs a b Y0 R w) (
 B0 .add 3 true c (QqJ 1) R w λ h w=>
 Zx h w)
def Zcu e b f g (Zx:KV) (R:RT) w:=
 Zw f (.bool true) g λ c=>
 Zm (λ (a:Vl) (w:Wd)=>
 Zw c (.bool true) a λ h=>
 Zo h (
 R (.returned (.bool true)) w) (
 Yz (λ i w Y0=>
 Zct e b i Zx Y0 R w) (QqJ 0) w)) λ d=>
 Zl c false (
 F0 60 b 1 R w λ j w=>
 L0 9 j R w λ k w=>
 G0 9 3 k R w λ l w=>
 B0 .gtr 3 true l (QqJ 1100) R w λ a w=>
 d a w) (
 d undef w)
def Zcv f c (Zx:KV) R w:=
 F0 24 f 1 R w λ g w=>
 L0 22 g R w λ h w=>
 X0 22 h c R w λ i w=>
 L0 60 i R w λ j w=>
 opV Pg (alloc 60 true (.tuple #[])) (Zj R) w λ a w=>
 S0 60 a j R w λ w=>
 F0 60 a 2 R w λ k w=>
 L0 58 k R w λ l w=>
 G0 58 3 l R w λ m w=>
 B0 .gtr 3 true m (QqJ 50) R w λ d w=>
 Zm (λ (b:Vl) (w:Wd)=>
 Zcu c a d b Zx R w) λ e=>
 Zl d false (
 F0 60 a 0 R w λ n w=>
 L0 9 n R w λ o w=>
 G0 9 3 o R w λ p w=>
 B0 .gtr 3 true p (QqJ 1100) R w λ b w=>
 e b w) (
 e undef w)
def Zcw a b (Zx:KV) R w:=
 F0 24 a 1 R w λ c w=>
 L0 22 c R w λ d w=>
 G0 22 3 d R w λ e w=>
 B0 .lss 3 false b e R w λ f w=>
 Zo f (
 Zcv a b Zx R w) (
 R (.returned (.bool false)) w)
def n45 e R w:=
 opV Pg (box 24 e) (Zj R) w λ a w=>
 F0 24 a 1 R w λ f w=>
 L0 22 f R w λ g w=>
 G0 22 3 g R w λ h w=>
 B0 .gtr 3 true h (QqJ 65) R w λ c w=>
 Zm (λ (b:Vl) (w:Wd)=>
 Zw c (.bool true) b λ i=>
 Zo i (
 R (.returned (.bool true)) w) (
 Yz (λ j w Zx=>
 Zcw a j Zx R w) (QqJ 0) w)) λ d=>
 Zl c false (
 F0 24 a 0 R w λ k w=>
 L0 9 k R w λ l w=>
 G0 9 3 l R w λ m w=>
 B0 .gtr 3 true m (QqJ 1100) R w λ b w=>
 d b w) (
 d undef w)
def Zlj:QqQ1 10 n45:=λ h=>by
 refine yD func10 ?_
 refine zs<|zr<|yv h λ h=>zm<|zn<|zk<|zs<|zs<|Zr<|yG 5<|yv h λ h=>yv h λ h=>yx h λ h=>yb h λ h=>zm ?_
 refine zn<|yg1 4 4 false [12,13,14,15] 15 h (λ _ T hT h=>?_) λ σ w h=>?_
 · refine yv h λ h=>yv h λ h=>yx h λ h=>yb h λ h=>zn ?_
   exact zt hT h
 refine yG 1<|yp h λ h=>zn<|ZG<|zk<|yC h (λ h=>zs<|zr<|zm<|zn<|zk<|Zh<|Zb<|Zf rfl rfl h) λ h=>Zi<|zk<|zs<|zs<|zr<|zm<|zn<|zk ?_
 refine Zk<|yl1 [2,3,4,5,6,17,18,19,20,21,22,23,24,25,26,27,28,29,30,31,32,33,34,35,36,37,38,39,40,41,42,43,44,45,46,47,48,49,50,51,52,53,54,55,56,57,58,59,60,61,62,63,64,65,66,67,68,69,70,71,72,73,74,75,76,77,78] 3 h λ σ w next h=>zs<|zs<|zr<|zm<|yv h λ h=>yv h λ h=>yx h λ h=>yb h λ h=>zn<|zk<|yC h (λ h=>?_) λ h=>?_
 · refine Zi<|zk<|zs<|Zk<|zs<|zr<|yv h λ h=>yv h λ h=>zm<|yv h λ h=>yv h λ h=>yv h λ h=>yu h λ h=>zn<|zk ?_
   refine zs<|zs<|Zr<|yG 5<|yv h λ h=>yv h λ h=>yx h λ h=>yb h λ h=>zm<|zn<|yg1 4 4 false [34,35,36,37] 37 h (λ _ T hT h=>?_) λ σ w h=>?_
   · refine yv h λ h=>yv h λ h=>yx h λ h=>yb h λ h=>zn ?_
     exact zt hT h
   refine yG 2<|yp h λ h=>zm<|zn<|yg1 4 10 false [40,41,42,43] 43 h (λ _ T hT h=>?_) λ σ w h=>?_
   · refine yv h λ h=>yv h λ h=>yx h λ h=>yb h λ h=>zn ?_
     exact zt hT h
   refine yG 1<|yp h λ h=>zn<|ZG<|zk<|yC h (λ h=>zs<|zr<|zm<|zn<|zk<|Zh<|Zb<|Zd<|Zb<|Zb<|Zd<|Zb<|Zf rfl rfl h) λ h=>Zi<|zk<|zs<|zr<|zm<|zn<|zk<|Zk ?_
   refine yl1 [2,5,6,45,46,47,48,49,50,51,52,53,54,55,56,57,58,59,60,61,62,63,64,65,66,67,68,69,70,71,72,73,74,75,76,77,78] 5 h λ σ w next h=>zs<|zs<|zr<|zm<|yv h λ h=>yv h λ h=>yx h λ h=>yb h λ h=>zn<|zk<|yC h (λ h=>?_) λ h=>?_
   · refine Zi<|zk<|zs<|Zk<|zs<|zr<|yv h λ h=>yv h λ h=>zm<|yv h λ h=>yv h λ h=>yv h λ h=>yu h λ h=>zn<|zk ?_
     refine zs<|Zr<|yG 5<|yv h λ h=>yv h λ h=>yx h λ h=>yb h λ h=>zm<|zn<|yg1 4 4 false [62,63,64,65] 65 h (λ _ T hT h=>?_) λ σ w h=>?_
     · refine yv h λ h=>yv h λ h=>yx h λ h=>yb h λ h=>zn ?_
       exact zt hT h
     refine yG 2<|yp h λ h=>zm<|zn<|yg1 4 10 false [68,69,70,71] 71 h (λ _ T hT h=>?_) λ σ w h=>?_
     · refine yv h λ h=>yv h λ h=>yx h λ h=>yb h λ h=>zn ?_
       exact zt hT h
     refine yG 2<|yp h λ h=>zm<|zn<|yg1 4 16 false [74,75,76,77] 77 h (λ _ T hT h=>?_) λ σ w h=>?_
     · refine yv h λ h=>yv h λ h=>yx h λ h=>yb h λ h=>zn ?_
       exact zt hT h
     refine yG 1<|yp h λ h=>zn<|ZG<|zk<|yC h (λ h=>?_) λ h=>?_
     · refine zs<|zr<|zm<|zn<|zk<|Zh<|Zd<|Zb<|Zb<|Zd<|Zd<|Zb<|Zb<|Zd<|Zb ?_
       exact Zf rfl rfl h
     exact Zi<|Zg<|zk<|zr<|zm<|yb h λ h=>zm<|zn<|zk<|⟨rfl,h⟩
   exact ZD<|Zc<|Zc<|Zp<|Zg<|zk<|zr<|zm<|yb h λ h=>zm<|zn<|zk<|⟨rfl,h⟩
 exact ZD<|Zc<|Zc<|Zp<|zk<|zs<|zr<|zm<|zn<|zk<|Zh<|Zf rfl rfl h
def Zcx b a (Zu:KV) R w:=
 F0 27 b 1 R w λ c w=>
 L0 25 c R w λ d w=>
 X0 25 d a R w λ e w=>
 F0 74 e 1 R w λ f w=>
 L0 72 f R w λ g w=>
 G0 72 3 g R w λ h w=>
 B0 .gtr 3 true h (QqJ 20) R w λ i w=>
 Zo i (
 R (.returned (.bool true)) w) (
 B0 .add 3 true a (QqJ 1) R w λ j w=>
 Zu j w)
def Zcy a b (Zu:KV) R w:=
 F0 27 a 1 R w λ c w=>
 L0 25 c R w λ d w=>
 G0 25 3 d R w λ e w=>
 B0 .lss 3 false b e R w λ f w=>
 Zo f (
 Zcx a b Zu R w) (
 R (.returned (.bool false)) w)
def n48 b R w:=
 opV Pg (box 27 b) (Zj R) w λ a w=>
 F0 27 a 1 R w λ c w=>
 L0 25 c R w λ d w=>
 G0 25 3 d R w λ e w=>
 B0 .gtr 3 true e (QqJ 12) R w λ f w=>
 Zo f (
 R (.returned (.bool true)) w) (
 Yz (λ g w Zu=>
 Zcy a g Zu R w) (QqJ 0) w)
def Zlm:QqQ1 11 n48:=λ h=>by
 refine yD func11 ?_
 refine zs<|zr<|yv h λ h=>zm<|zn<|zk<|zs<|zs<|zr<|yv h λ h=>yv h λ h=>yx h λ h=>yb h λ h=>zn<|zk ?_
 refine yC h (λ h=>zs<|zr<|zm<|zn<|zk<|Zh<|Zb<|Zf rfl rfl h) λ h=>Zi<|zk<|zs<|zs<|zr<|zm<|zn<|zk<|Zk<|yl1 [2,3,8,9,10,11,12,13,14,15,16,17,18,19,20,21,22] 3 h λ σ w next h=>zs<|zs<|zr ?_
 refine zm<|yv h λ h=>yv h λ h=>yx h λ h=>yb h λ h=>zn<|zk<|yC h (λ h=>?_) λ h=>?_
 · refine Zi<|zk<|zs<|Zk<|zs<|zr<|yv h λ h=>yv h λ h=>zm<|yv h λ h=>yv h λ h=>yv h λ h=>yx h λ h=>yb h λ h=>zn ?_
   exact zk<|yC h (λ h=>zs<|zr<|zm<|zn<|zk<|Zh<|Zd<|Zb<|Zb<|Zd<|Zb<|Zf rfl rfl h) λ h=>Zi<|Zg<|zk<|zr<|zm<|yb h λ h=>zm<|zn<|zk<|⟨rfl,h⟩
 exact ZD<|Zc<|Zc<|Zp<|zk<|zs<|zr<|zm<|zn<|zk<|Zh<|Zf rfl rfl h
def XW (n k:Nat):Bool:=decide ((n:Int) > (k:Int))
def Km (x:FrD):Bool:=XW x.to.size 1100||(XW x.fr.size 1100||(XW x.bytes.length 1100||XW x.table.length 50))
def Jr (r:MrD):Bool:=(XW r.fields.length 50||(XW r.fr.size 1100||XW r.to.size 1100))||r.fields.any Km
def Au (m:Xd):Bool:=(XW m.rules.length 65||XW m.name.size 1100)||m.rules.any Jr
def Q4 {n k:Nat} (h:XW n k=false):n≤k:=by
 unfold XW at h
 simp only [decide_eq_false_iff_not] at h
 omega
def NQ {x:FrD} (h:Km x=false):x.to.size≤1100∧x.fr.size≤1100∧x.bytes.length≤1100∧x.table.length≤50:=by
 unfold Km at h
 simp only [Bool.or_eq_false_iff] at h
 exact ⟨Q4 h.1,Q4 h.2.1,Q4 h.2.2.1,Q4 h.2.2.2⟩
def CJ {r:MrD} (h:Jr r=false):r.fields.length≤50∧r.fr.size≤1100∧r.to.size≤1100∧∀ x∈r.fields,Km x=false:=by
 unfold Jr at h
 simp only [Bool.or_eq_false_iff,List.any_eq_false] at h
 exact ⟨Q4 h.1.1,Q4 h.1.2.1,Q4 h.1.2.2,λ x hx=>by simpa using h.2 x hx⟩
def NP {m:Xd} (h:Au m=false):m.rules.length≤65∧m.name.size≤1100∧∀ r∈m.rules,Jr r=false:=by
 unfold Au at h
 simp only [Bool.or_eq_false_iff,List.any_eq_false] at h
 exact ⟨Q4 h.1.1,Q4 h.1.2,λ x hx=>by simpa using h.2 x hx⟩
def jU {α:Type} {p:α→Bool} {l:List α} {k:Nat} {x:α} (hx:l[k]?=some x) (h:(l.take k).any p=false):(l.take (k+1)).any p=p x:=by
 rw [Xr hx,List.any_append,h]
 simp
def DH {α:Type} {p:α→Bool} {l:List α} {k:Nat} {x:α} (hx:l[k]?=some x) (h:p x=true):l.any p=true:=List.any_eq_true.2 ⟨x,List.mem_of_getElem? hx,h⟩
def NR (w0:Wd) (v:Vl) (m:Xd) (hm:YN w0 v m):Ret Pg 10 #[v] w0 λ r w'=>r = .bool (Au m)∧Ext w0 w':=by
 obtain ⟨rv,rfl,hR,t1⟩:=hm.op
 obtain ⟨A,c,rfl,hlc,hcm,hlm,YS⟩:=Ze.open hR
 refine Zlj (R:=ZR _) ?_;unfold n45
 rw [Yi]
 have o1:=Zv w0 (ZL m (.slice A m.rules.length c)).toArray 24
 have eV:Ext w0 (w0.alloc (.cells (ZL m (.slice A m.rules.length c)).toArray 24)):=(Ext.refl w0).alloc _
 generalize (w0.alloc (.cells (ZL m (.slice A m.rules.length c)).toArray 24))=V at o1 eV ⊢
 generalize w0.heap.size=p1 at o1 ⊢
 have d1:decide ((m.rules.length:Int) > 65)=XW m.rules.length 65:=rfl
 have d2:decide ((m.name.size:Int) > 1100)=XW m.name.size 1100:=rfl
 unfold Zm
 refine Qqb (Za o1).1 d1 d2 ?_
 have hM:Au m=((XW m.rules.length 65||XW m.name.size 1100)||m.rules.any Jr):=rfl
 cases hc0:(XW m.rules.length 65||XW m.name.size 1100) with
 | true=>
  rw [hc0,Bool.true_or] at hM
  rw [hM]
  refine Qqk ?_
  exact ⟨by trivial,eV⟩
 | false=>
  rw [hc0,Bool.false_or] at hM
  rw [hM]
  have hle:m.rules.length≤65:=Q4 (Bool.or_eq_false_iff.1 hc0).1
  refine Qqk ?_
  clear hM
  refine ZE (λ i w=>∃ k:Nat,i = .int .i64 k∧k≤m.rules.length∧(m.rules.take k).any Jr=false∧Ext V w) (λ i _=>m.rules.length - (intOf i).toNat) ⟨0,rfl,by omega,rfl,Ext.refl _⟩ ?_
  rintro _ w1 ⟨k,rfl,hk,ht,e1⟩
  have q1:=Za (e1.obj o1)
  unfold Zcw
  rcases ZH hk with ⟨r,hr,_,Ym,ZK⟩ | ⟨hke,_,ZK⟩
  · have hwk:IntKind.i64.wrap ((k:Int)+1)=(k:Int)+1:=YF K9 K9
    obtain ⟨b,o,cs,rfl,_,hA,fv,rfl,hF⟩:=YS k r hr
    have t2:=Ze.oneCell hF
    obtain ⟨A2,c2,rfl,hlc2,hcm2,hlm2,hel2⟩:=Ze.open hF
    have hq:=hA.c3 (eV.trans e1)
    refine Qqh q1.1 ZK ?_
    have d3:decide ((r.fields.length:Int) > 50)=XW r.fields.length 50:=rfl
    have d4:decide ((r.fr.size:Int) > 1100)=XW r.fr.size 1100:=rfl
    have d5:decide ((r.to.size:Int) > 1100)=XW r.to.size 1100:=rfl
    unfold Zcv Zcu Zm
    refine QqZ q1.1 hq d3 d4 d5 ?_
    generalize hW:World.setCell (World.setCell (World.setCell (World.alloc w1 _) _ _) _ _) _ _=W
    have eW:Ext w1 W:=by rw [← hW];exact ((((Ext.refl w1).alloc _).setCell (Nat.le_refl _) _).setCell (Nat.le_refl _) _).setCell (Nat.le_refl _) _
    have oW:W.heap[w1.heap.size]?=some (.cells (ZT r (.slice A2 r.fields.length c2)).toArray 60 (0,0)):=by rw [← hW];exact Zy (o:=2) (Zy (o:=1) (Zy (o:=0) (Zv w1 _ _) (.string r.fr)) (.string r.to)) (.slice A2 r.fields.length c2)
    clear hW
    generalize w1.heap.size=p4 at oW ⊢
    have hR0:Jr r=((XW r.fields.length 50||XW r.fr.size 1100||XW r.to.size 1100)||r.fields.any Km):=by unfold Jr;simp only [Bool.or_assoc]
    cases hc1:(XW r.fields.length 50||XW r.fr.size 1100||XW r.to.size 1100) with
    | true=>
     rw [hc1,Bool.true_or] at hR0
     rw [DH hr hR0]
     refine Qqk ?_
     exact ⟨by trivial,eV.trans (e1.trans eW)⟩
    | false=>
     rw [hc1,Bool.false_or] at hR0
     have hle2:r.fields.length≤50:=Q4 (Bool.or_eq_false_iff.1 (Bool.or_eq_false_iff.1 hc1).1).1
     refine Qqk ?_
     refine ZE (λ i w=>∃ j:Nat,i = .int .i64 j∧j≤r.fields.length∧(r.fields.take j).any Km=false∧Ext W w) (λ i _=>r.fields.length - (intOf i).toNat) ⟨0,rfl,by omega,rfl,Ext.refl _⟩ ?_
     rintro _ w2 ⟨j,rfl,hj,htj,e2⟩
     have q2:=Za (e2.obj oW)
     unfold Zct
     rcases ZH hj with ⟨x,hx,_,hlt2,Jo⟩ | ⟨hje,_,Jo⟩
     · have hwj:IntKind.i64.wrap ((j:Int)+1)=(j:Int)+1:=YF K9 K9
       obtain ⟨b3,o3,cs,rfl,_,hA3,bv,tv,rfl,hB,hT⟩:=hel2 j x hx
       have u1:=Ze.oneCell hB
       have u2:=Ze.oneCell hT
       obtain ⟨A3,c3,rfl,_,_,_,_⟩:=Ze.open hB
       obtain ⟨A4,c4,rfl,_,_,_,_⟩:=Ze.open hT
       have hq3:=hA3.c7 (eV.trans (e1.trans (eW.trans e2)))
       have f1:decide ((x.to.size:Int) > 1100)=XW x.to.size 1100:=rfl
       have f2:decide ((x.fr.size:Int) > 1100)=XW x.fr.size 1100:=rfl
       have f3:decide ((x.bytes.length:Int) > 1100)=XW x.bytes.length 1100:=rfl
       have f4:decide ((x.table.length:Int) > 50)=XW x.table.length 50:=rfl
       refine Qqh q2.1 Jo ?_
       unfold Zcs Zcr Zcq Zm
       refine QqK q2.1 hq3 f1 f2 f3 f4 ?_
       have hX0:Km x=(XW x.to.size 1100||XW x.fr.size 1100||XW x.bytes.length 1100||XW x.table.length 50):=by unfold Km;simp only [Bool.or_assoc]
       rw [← hX0]
       cases hX:Km x with
       | true=>
        rw [DH hx hX] at hR0
        rw [DH hr hR0]
        refine Qqk ?_
        exact ⟨by trivial,(eV.trans (e1.trans (eW.trans e2))).alloc _⟩
       | false=>
        refine Qqg hwj ?_
        exact ⟨⟨j+1,rfl,hlt2,by rw [jU hx htj,hX],e2.alloc _⟩,ZQ (kd := .i64) hlt2⟩
     · rw [hje,List.take_length] at htj
       rw [htj] at hR0
       refine Qqb q2.1 Jo hwk ?_
       exact ⟨⟨k+1,rfl,Ym,by rw [jU hr ht,hR0],e1.trans (eW.trans e2)⟩,ZQ (kd := .i64) Ym⟩
  · rw [hke,List.take_length] at ht
    refine Qqh q1.1 ZK ?_
    exact ⟨by rw [ht],eV.trans e1⟩
end Go.Proofs.YtgalpdihjbinjaaGreatDoor
