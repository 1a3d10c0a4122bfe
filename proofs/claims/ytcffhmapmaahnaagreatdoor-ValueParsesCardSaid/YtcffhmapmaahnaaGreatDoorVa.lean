/-
  phrasebooklaw13.ValueParses returns true for every text, and leaves its arguments as they were; no condition is asked but that the tables of the library lie as the program lays them (the card ties them).
-/
import Derived.Test.YtcffhmapmaahnaaGreatDoorVa5
set_option linter.all false
set_option maxHeartbeats 4000000
set_option maxRecDepth 100000
namespace Go.Proofs.YtcffhmapmaahnaaGreatDoor
open Sw
open Go.RowKit (intOf Below)
abbrev lf (s:List UInt8):Tr := .mk ⟨mkB s,0,[],[]⟩ []
abbrev ka:Tr := .mk ⟨mkB [97],5,[],[]⟩ []
abbrev kx:Tr := .mk ⟨mkB [120],0,[10],[]⟩ []
abbrev kl:Tr := .mk ⟨mkB [108],0,[],[]⟩ [kx,lf [120]]
abbrev kh:Tr := .mk ⟨mkB [104],0,[],[(mkB [65],mkB [98,99])]⟩ []
abbrev kT:Tr := .mk ⟨mkB [109],0,[],[]⟩ [ka,kl,kh]
abbrev kl2:Tr := .mk ⟨mkB [108],0,[],[]⟩ [lf [121],lf [120]]
abbrev kT2:Tr := .mk ⟨mkB [109],0,[],[]⟩ [ka,kl2,kh]
abbrev kS:List UInt8:=[109,40,97,61,53,32,108,40,120,35,48,97,32,120,41,32,104,91,52,49,58,54,50,54,51,93,41]
abbrev kS2:List UInt8:=[109,40,97,61,53,32,108,40,121,32,120,41,32,104,91,52,49,58,54,50,54,51,93,41]
theorem itoa1 {n:Nat} (h:n < 10):Go.Lib.itoa (n:Int)=[UInt8.ofNat (48+n)]:=by rw [itoa_pos (by omega),Int.toNat_natCast,Go.Lib.decDigits_one h]
theorem intL5:intL 5=[61,53]:=by
 unfold intL
 rw [if_neg (by decide),show (5:Int)=((5:Nat):Int) from rfl,itoa1 (by decide)]
 rfl
theorem t_ka:textT ka=[97,61,53]:=by
 rw [textT_mk]
 unfold nodeL
 simp only [intL5]
 rfl
theorem t_lf (s:List UInt8):textT (lf s)=s:=by
 rw [textT_mk]
 unfold nodeL
 simp [intL,bytL,joinP,mkB_data]
theorem t_kx:textT kx=[120,35,48,97]:=by rw [textT_mk];rfl
theorem t_kl:textT kl=[108,40,120,35,48,97,32,120,41]:=by
 rw [textT_mk]
 simp only [List.map_cons,List.map_nil,t_kx,t_lf]
 rfl
theorem t_kl2:textT kl2=[108,40,121,32,120,41]:=by
 rw [textT_mk]
 simp only [List.map_cons,List.map_nil,t_lf]
 rfl
theorem t_kh:textT kh=[104,91,52,49,58,54,50,54,51,93]:=by rw [textT_mk];rfl
theorem t_kT:textT kT=kS:=by
 rw [textT_mk]
 simp only [List.map_cons,List.map_nil,t_ka,t_kl,t_kh]
 rfl
theorem t_kT2:textT kT2=kS2:=by
 rw [textT_mk]
 simp only [List.map_cons,List.map_nil,t_ka,t_kl2,t_kh]
 rfl
theorem v_of (t:Tr) (h1:nodesT t≤65536) (h2:heightT t≤40) (h3:allT nodeB t=true):validT t=true:=by
 unfold validT
 rw [h3,decide_eq_true h1,decide_eq_true h2]
 rfl
theorem v_kT:validT kT=true:=by
 refine v_of _ ?_ ?_ ?_
 · simp only [nodesT_mk,List.map_cons,List.map_nil];decide
 · simp only [heightT_mk,List.map_cons,List.map_nil];decide
 · simp only [allT_mk,List.all_cons,List.all_nil];decide
theorem v_kT2:validT kT2=true:=by
 refine v_of _ ?_ ?_ ?_
 · simp only [nodesT_mk,List.map_cons,List.map_nil];decide
 · simp only [heightT_mk,List.map_cons,List.map_nil];decide
 · simp only [allT_mk,List.all_cons,List.all_nil];decide
theorem v_lf {s:List UInt8} (h:nodeB ⟨mkB s,0,[],[]⟩=true):validT (lf s)=true:=by
 refine v_of _ ?_ ?_ ?_
 · simp only [nodesT_mk,List.map_nil];decide
 · simp only [heightT_mk,List.map_nil];decide
 · simp only [allT_mk,List.all_nil,h];rfl
theorem nodes_kT:nodesT kT=6:=by simp only [nodesT_mk,List.map_cons,List.map_nil];rfl
theorem p_kT:parseR RP kS=some kT:=(parseR_iff RP_ok _ _).2 ⟨v_kT,t_kT⟩
theorem p_y:parseR RP [121]=some (lf [121]):=(parseR_iff RP_ok _ _).2 ⟨v_lf (by decide),t_lf _⟩
theorem p_a:parseR RP [97]=some (lf [97]):=(parseR_iff RP_ok _ _).2 ⟨v_lf (by decide),t_lf _⟩
abbrev k1:Tr := .mk ⟨mkB [97],1,[],[]⟩ []
abbrev k00:Tr := .mk ⟨mkB [97],0,[0],[]⟩ []
abbrev kb:Tr := .mk ⟨mkB [97],0,[],[]⟩ [lf [98]]
abbrev kbb:Tr := .mk ⟨mkB [97],0,[],[]⟩ [lf [98],lf [98]]
theorem intL1:intL 1=[61,49]:=by
 unfold intL
 rw [if_neg (by decide),show (1:Int)=((1:Nat):Int) from rfl,itoa1 (by decide)]
 rfl
theorem p_a1:parseR RP [97,61,49]=some k1:=by
 refine (parseR_iff RP_ok _ _).2 ⟨?_,?_⟩
 · refine v_of _ ?_ ?_ ?_
   · simp only [nodesT_mk,List.map_cons,List.map_nil];decide
   · simp only [heightT_mk,List.map_cons,List.map_nil];decide
   · simp only [allT_mk,List.all_cons,List.all_nil];decide
 · rw [textT_mk]
   unfold nodeL
   simp only [intL1]
   rfl
theorem p_a00:parseR RP [97,35,48,48]=some k00:=by
 refine (parseR_iff RP_ok _ _).2 ⟨?_,by rw [textT_mk];rfl⟩
 refine v_of _ ?_ ?_ ?_
 · simp only [nodesT_mk,List.map_cons,List.map_nil];decide
 · simp only [heightT_mk,List.map_cons,List.map_nil];decide
 · simp only [allT_mk,List.all_cons,List.all_nil];decide
theorem p_ab:parseR RP [97,40,98,41]=some kb:=by
 refine (parseR_iff RP_ok _ _).2 ⟨?_,by rw [textT_mk];simp only [List.map_cons,List.map_nil,t_lf];rfl⟩
 refine v_of _ ?_ ?_ ?_
 · simp only [nodesT_mk,List.map_cons,List.map_nil];decide
 · simp only [heightT_mk,List.map_cons,List.map_nil];decide
 · simp only [allT_mk,List.all_cons,List.all_nil];decide
theorem p_abb:parseR RP [97,40,98,32,98,41]=some kbb:=by
 refine (parseR_iff RP_ok _ _).2 ⟨?_,by rw [textT_mk];simp only [List.map_cons,List.map_nil,t_lf];rfl⟩
 refine v_of _ ?_ ?_ ?_
 · simp only [nodesT_mk,List.map_cons,List.map_nil];decide
 · simp only [heightT_mk,List.map_cons,List.map_nil];decide
 · simp only [allT_mk,List.all_cons,List.all_nil];decide
theorem r_a0:parseR RP [97,61,48]=none:=by
 unfold parseR
 rw [show readV RP 40 [97,61,48]=some (lf [97],[]) from by kernel_rfl]
 simp only
 rw [if_neg (fun h=>by have:=h.2;rw [t_lf] at this;cases this)]
theorem r_a0A:parseR RP [97,35,48,65]=none:=by
 unfold parseR
 rw [show readV RP 40 [97,35,48,65]=none from by kernel_rfl]
theorem r_abc:parseR RP [97,40,98,32,32,99,41]=none:=by
 unfold parseR
 rw [show readV RP 40 [97,40,98,32,32,99,41]=some (.mk ⟨mkB [97],0,[],[]⟩ [lf [98],lf [],lf [99]],[]) from by kernel_rfl]
 simp only
 rw [if_neg (fun h=>by
  have:=h.1
  unfold validT at this
  simp only [allT_mk,List.all_cons,List.all_nil] at this
  revert this
  simp only [nodesT_mk,heightT_mk,List.map_cons,List.map_nil]
  decide)]
theorem c_1:cmpT (lf [97]) k1 = -1∧cmpT k1 (lf [97])=1:=by constructor<;>rw [cmpT_mk]<;>decide
theorem c_2:cmpT k00 k1 = -1∧cmpT k1 k00=1:=by constructor<;>rw [cmpT_mk]<;>decide
theorem c_lf (s:List UInt8) (h:cmpN ⟨mkB s,0,[],[]⟩ ⟨mkB s,0,[],[]⟩=0):cmpT (lf s) (lf s)=0:=by
 rw [cmpT_mk]
 exact (if_pos h).trans rfl
theorem c_3:cmpT kb kbb = -1∧cmpT kbb kb=1:=by
 have h0:cmpN ⟨mkB [97],0,[],[]⟩ ⟨mkB [97],0,[],[]⟩=0:=by decide
 have h1:=c_lf [98] (by decide)
 constructor
 · rw [cmpT_mk]
   refine (if_pos h0).trans ?_
   show listsC cmpT [lf [98]] [lf [98],lf [98]] = -1
   simp only [listsC,h1,if_true]
 · rw [cmpT_mk]
   refine (if_pos h0).trans ?_
   show listsC cmpT [lf [98],lf [98]] [lf [98]]=1
   simp only [listsC,h1,if_true]
theorem s_lx1:stepsP [108,46,120,58,49]=some [([108],0),([120],1)]:=by kernel_rfl
theorem s_a:stepsP [97]=some [([97],0)]:=by kernel_rfl
theorem s_lx2:stepsP [108,46,120,58,50]=some [([108],0),([120],2)]:=by kernel_rfl
theorem s_llx:stepsP [108,46,46,120]=none:=by kernel_rfl
theorem s_lx0:stepsP [108,46,120,58,48]=none:=by kernel_rfl
theorem s_lx:stepsP [108,46,120]=some [([108],0),([120],0)]:=by kernel_rfl
theorem a_lx1:atT [([108],0),([120],1)] kT=some (lf [120]):=by kernel_rfl
theorem a_a:atT [([97],0)] kT=some ka:=by kernel_rfl
theorem a_lx2:atT [([108],0),([120],2)] kT=none:=by kernel_rfl
theorem u_lx:putT (lf [121]) [([108],0),([120],0)] kT=some kT2:=by kernel_rfl
theorem w_kT:(walkT kT []).map Prod.fst=[[],[97],[108],[108,46,120],[108,46,120,58,49],[104]]:=by
 have h1:cntB ([]++[kx.nd.name]) (lf [120]).nd.name=1:=by decide
 have h2:stepB (lf [120]).nd.name 1=[120,58,49]:=by
  unfold stepB
  rw [if_neg (by decide),Go.Lib.decDigits_one (by decide)]
  rfl
 simp only [walkT_mk,List.map_cons,List.map_nil,partsW,h1,h2]
 rfl
theorem cmp_zero:cmpT tr0 tr0=0:=by
 unfold tr0
 rw [cmpT_mk]
 exact (if_pos (by decide)).trans rfl
def GetsH (path want:List UInt8) (no:Int) (t:Tr):Prop:=(no=0∧∃ l t',stepsP path=some l∧atT l t=some t'∧textT t'=want∧want.length≤100000000)∨(no=6∧stepsP path=none)∨(no=9∧∃ l,stepsP path=some l∧atT l t=none)
theorem gets_ret {w0:World} (hE:EnvOK w0) (v:Value) (t:Tr) (path want:List UInt8) (no:Int) (hpl:path.length≤100000000) (hv:ValAt w0 v t) (hval:validT t=true) (h:GetsH path want no t):Ret Pg 33 #[v,.string (mkB path),.string (mkB want),.int .i64 no] w0 fun r w'=>r = .bool true∧Ext w0 w':=by
 obtain ⟨bv,hv',pv,rfl,hB,hH,hT,o1,o2,o3⟩:=hv.op
 have hn:=valid_nodes hval
 refine n9s (R:=retR _) ?_;unfold n9
 simp (disch:=try exact DI) only [↓PR,QR,simprocAttr]
 have e1:Ext w0 (w0.alloc (.cells (trCells t.nd bv hv' pv).toArray 26)):=(Ext.refl w0).alloc _
 generalize (w0.alloc (.cells (trCells t.nd bv hv' pv).toArray 26))=w1 at *
 have hV:ValAt w1 (.agg (trCells t.nd bv hv' pv).toArray) t:=ValAt.ext ⟨_,_,_,rfl,hB,hH,hT⟩ e1
 refine callK_ret (Get_ret (hE.ext e1) _ t path hpl hV (by omega)) ?_
 rintro r w2 ⟨e2,hr⟩
 rw [if_pos hval] at hr
 unfold n9c4
 have hzero:∀ e:Int,e≠0→r = .tuple #[zeroV,.int .i64 e]→no=e→n9c4 (.string (mkB want)) (.int .i64 no) r (retR fun r w'=>r = .bool true∧Ext w0 w') w2:=by
  intro e he hre hne
  have hre':r = .tuple #[.agg #[.string ByteArray.empty,.int .i64 0,.slice none 0 0,.slice none 0 0,.slice none 0 0],.int .i64 e]:=hre
  have hd:(no != 0)=true:=by rw [hne];simpa using he
  have hd2:(e == no)=true:=by rw [hne];simp
  rw [hre']
  unfold n9c4
  simp (disch:=try exact DI) only [↓PR,QR,simprocAttr,hd,hd2]
  have o3:=heap_new w2 #[.string ByteArray.empty,.int .i64 0,.slice none 0 0,.slice none 0 0,.slice none 0 0] 26
  have e3:Ext w2 (w2.alloc (.cells #[.string ByteArray.empty,.int .i64 0,.slice none 0 0,.slice none 0 0,.slice none 0 0] 26)):=ee
  generalize (w2.alloc (.cells #[.string ByteArray.empty,.int .i64 0,.slice none 0 0,.slice none 0 0,.slice none 0 0] 26))=w3 at *
  unfold n9c3 joinK
  simp (disch:=try exact DI) only [↓PR,QR,simprocAttr,hd2,(cells_of_heap o3).1]
  refine zcr (Equal_ret w3 _ _ tr0 tr0 (ValAt.zero _) (ValAt.zero _)) fun w4 e4=>?_
  rw [cmp_zero]
  simp (disch:=try exact DI) only [↓PR,QR,simprocAttr,hd2]
  exact ⟨trivial,e1.trans (e2.trans (e3.trans e4))⟩
 rcases h with ⟨rfl,l,t',hs,ha,htx,hwl⟩ | ⟨hno,hs⟩ | ⟨hno,l,hs,ha⟩
 · rw [hs] at hr
   simp only [ha] at hr
   obtain ⟨cs,lo,hi,rfl,hO,h1,h2⟩:=hr
   obtain ⟨b3,h3,q3,rfl,g1,g2,g3,g4,g5,g6⟩:=hO.read.op
   clear hzero
   simp (disch:=try exact DI) only [↓PR,QR,simprocAttr]
   have o3:=heap_new w2 #[.string t'.nd.name,.int .i64 t'.nd.int,b3,h3,q3] 26
   have e3:Ext w2 (w2.alloc (.cells #[.string t'.nd.name,.int .i64 t'.nd.int,b3,h3,q3] 26)):=ee
   have hV3:ValAt w2 (.agg #[.string t'.nd.name,.int .i64 t'.nd.int,b3,h3,q3]) t':=⟨b3,h3,q3,rfl,g1,g2,g3⟩
   have hval':=validT_at l t t' hval ha
   have hn':=valid_nodes hval'
   refine zcr (Text_ret _ _ t' (hV3.ext e3) (hE.ext (e1.trans (e2.trans e3))).tab (by omega) (by rw [htx];omega)) fun w4 e4=>?_
   rw [if_pos hval',htx]
   unfold n9c2 joinK
   simp (disch:=try exact DI) only [↓PR,QR,simprocAttr]
   unfold n9c1 joinK
   simp (disch:=try exact DI) only [↓PR,QR,simprocAttr]
   exact ⟨trivial,e1.trans (e2.trans (e3.trans e4))⟩
 · rw [hs] at hr
   exact hzero 6 (by decide) hr hno
 · rw [hs] at hr
   simp only [ha] at hr
   exact hzero 9 (by decide) hr hno
theorem refused_ret {w0:World} (hE:EnvOK w0) (s:List UInt8) (hs:s.length≤100000000) (h:parseR RP s=none):Ret Pg 36 #[.string (mkB s)] w0 fun r w'=>r = .bool true∧Ext w0 w':=by
 refine n11s (R:=retR _) ?_;unfold n11
 refine callK_ret (Parse_ret w0 (mkB s) hE (by rw [mkB_size];omega)) ?_
 rintro r w1 ⟨e1,v,c,rfl,hr⟩
 rw [mkB_data,h] at hr
 obtain ⟨rfl,hv⟩:=hr
 obtain ⟨bv,hv',pv,rfl,_,_,_,o1,o2,o3⟩:=hv.op
 unfold n11c1
 simp (disch:=try exact DI) only [↓PR,QR,simprocAttr]
 exact ⟨trivial,e1.trans ((Ext.refl _).alloc _)⟩
theorem before_ret {w0:World} (hE:EnvOK w0) (a b:List UInt8) (ha:a.length≤100000000) (hb:b.length≤100000000) (t u:Tr) (h1:parseR RP a=some t) (h2:parseR RP b=some u) (h3:cmpT t u = -1∧cmpT u t=1):Ret Pg 35 #[.string (mkB a),.string (mkB b)] w0 fun r w'=>r = .bool true∧Ext w0 w':=by
 refine n8s (R:=retR _) ?_;unfold n8
 refine callK_ret (Parse_ret w0 (mkB a) hE (by rw [mkB_size];omega)) ?_
 rintro r w1 ⟨e1,v,c,rfl,hr⟩
 rw [mkB_data,h1] at hr
 obtain ⟨rfl,hv⟩:=hr
 obtain ⟨bv,hv',pv,rfl,g1,g2,g3,o1,o2,o3⟩:=hv.op
 have hV1:ValAt w1 (.agg #[.string t.nd.name,.int .i64 t.nd.int,bv,hv',pv]) t:=⟨_,_,_,rfl,g1,g2,g3⟩
 unfold n8c4
 simp (disch:=try exact DI) only [↓PR,QR,simprocAttr]
 have c1:=heap_new w1 #[.string t.nd.name,.int .i64 t.nd.int,bv,hv',pv] 26
 have e2:Ext w1 (w1.alloc (.cells #[.string t.nd.name,.int .i64 t.nd.int,bv,hv',pv] 26)):=ee
 generalize (w1.alloc (.cells #[.string t.nd.name,.int .i64 t.nd.int,bv,hv',pv] 26))=w2 at *
 refine callK_ret (Parse_ret w2 (mkB b) (hE.ext (e1.trans e2)) (by rw [mkB_size];omega)) ?_
 rintro r w3 ⟨e3,v2,c2,rfl,hr2⟩
 rw [mkB_data,h2] at hr2
 obtain ⟨rfl,hv2⟩:=hr2
 obtain ⟨bv2,hv2',pv2,rfl,k1,k2,k3,p1,p2,p3⟩:=hv2.op
 have hV2:ValAt w3 (.agg #[.string u.nd.name,.int .i64 u.nd.int,bv2,hv2',pv2]) u:=⟨_,_,_,rfl,k1,k2,k3⟩
 have c1:=e3.obj c1
 unfold n8c3 joinK
 simp (disch:=try exact DI) only [↓PR,QR,simprocAttr]
 have c2:=heap_new w3 #[.string u.nd.name,.int .i64 u.nd.int,bv2,hv2',pv2] 26
 have e4:Ext w3 (w3.alloc (.cells #[.string u.nd.name,.int .i64 u.nd.int,bv2,hv2',pv2] 26)):=ee
 generalize (w3.alloc (.cells #[.string u.nd.name,.int .i64 u.nd.int,bv2,hv2',pv2] 26))=w4 at *
 have c1:=e4.obj c1
 unfold n8c2 joinK
 simp (disch:=try exact DI) only [↓PR,QR,simprocAttr,(cells_of_heap c1).1,(cells_of_heap c2).1]
 refine zcr (Compare_ret t w4 _ _ u (hV1.ext (e2.trans (e3.trans e4))) (hV2.ext e4)) fun w5 e5=>?_
 have c1:=e5.obj c1
 have c2:=e5.obj c2
 rw [h3.1]
 simp (disch:=try exact DI) only [↓PR,QR,simprocAttr]
 unfold n8c1 joinK
 simp (disch:=try exact DI) only [↓PR,QR,simprocAttr,(cells_of_heap c1).1,(cells_of_heap c2).1]
 refine zcr (Compare_ret u w5 _ _ t (hV2.ext (e4.trans e5)) (hV1.ext (e2.trans (e3.trans (e4.trans e5))))) fun w6 e6=>?_
 rw [h3.2]
 simp (disch:=try exact DI) only [↓PR,QR,simprocAttr]
 exact ⟨trivial,e1.trans (e2.trans (e3.trans (e4.trans (e5.trans e6))))⟩
theorem text_ret {w0:World} (hE:EnvOK w0) (s path to want:List UInt8) (hs:s.length≤100000000) (hp:path.length≤100000000) (ht:to.length≤100000000) (t u t3:Tr) (l:List Stp) (h1:parseR RP s=some t) (h2:parseR RP to=some u) (h3:stepsP path=some l) (h4:putT u l t=some t3) (h5:validT t3=true) (h6:textT t3=want) (hw:want.length≤100000000):Ret Pg 34 #[.string (mkB s),.string (mkB path),.string (mkB to)] w0 fun r w'=>r = .string (mkB want)∧Ext w0 w':=by
 have hv1:=((parseR_iff RP_ok _ _).1 h1).1
 have hv2:=((parseR_iff RP_ok _ _).1 h2).1
 have n1:=valid_nodes hv1
 have n2:=valid_nodes hv2
 have n3:=valid_nodes h5
 refine n12s (R:=retR _) ?_;unfold n12
 refine callK_ret (Parse_ret w0 (mkB s) hE (by rw [mkB_size];omega)) ?_
 rintro r w1 ⟨e1,v,c,rfl,hr⟩
 rw [mkB_data,h1] at hr
 obtain ⟨rfl,hv⟩:=hr
 obtain ⟨bv,hv',pv,rfl,g1,g2,g3,o1,o2,o3⟩:=hv.op
 have hV1:ValAt w1 (.agg #[.string t.nd.name,.int .i64 t.nd.int,bv,hv',pv]) t:=⟨_,_,_,rfl,g1,g2,g3⟩
 unfold n12c6
 simp (disch:=try exact DI) only [↓PR,QR,simprocAttr]
 have c1:=heap_new w1 #[.string t.nd.name,.int .i64 t.nd.int,bv,hv',pv] 26
 have e2:Ext w1 (w1.alloc (.cells #[.string t.nd.name,.int .i64 t.nd.int,bv,hv',pv] 26)):=ee
 generalize (w1.alloc (.cells #[.string t.nd.name,.int .i64 t.nd.int,bv,hv',pv] 26))=w2 at *
 refine callK_ret (Parse_ret w2 (mkB to) (hE.ext (e1.trans e2)) (by rw [mkB_size];omega)) ?_
 rintro r w3 ⟨e3,v2,c2,rfl,hr2⟩
 rw [mkB_data,h2] at hr2
 obtain ⟨rfl,hvv⟩:=hr2
 obtain ⟨bv2,hv2',pv2,rfl,k1,k2,k3,p1,p2,p3⟩:=hvv.op
 have hV2:ValAt w3 (.agg #[.string u.nd.name,.int .i64 u.nd.int,bv2,hv2',pv2]) u:=⟨_,_,_,rfl,k1,k2,k3⟩
 have c1:=e3.obj c1
 unfold n12c5
 simp (disch:=try exact DI) only [↓PR,QR,simprocAttr,fun o=>(cells_of_heap (((Ext.refl w3).alloc o).obj c1)).1]
 have c2:=heap_new w3 #[.string u.nd.name,.int .i64 u.nd.int,bv2,hv2',pv2] 26
 have e4:Ext w3 (w3.alloc (.cells #[.string u.nd.name,.int .i64 u.nd.int,bv2,hv2',pv2] 26)):=ee
 generalize (w3.alloc (.cells #[.string u.nd.name,.int .i64 u.nd.int,bv2,hv2',pv2] 26))=w4 at *
 have e04:=e1.trans (e2.trans (e3.trans e4))
 refine callK_ret (Set_ret (hE.ext e04) 1048576 _ _ t u path hp (hV1.ext (e2.trans (e3.trans e4))) (hV2.ext e4) (by omega) (by omega) (valid_hn hv1) (valid_hn hv2)) ?_
 rintro r w5 ⟨e5,hr⟩
 rw [if_pos ⟨hv1,hv2⟩,h3] at hr
 simp only [h4,h5,if_true] at hr
 obtain ⟨cs,lo,hi,rfl,hI,_,_⟩:=hr
 obtain ⟨b3,h3',q3,rfl,m1,m2,m3,m4,m5,m6⟩:=hI.1.all.op
 unfold n12c4
 simp (disch:=try exact DI) only [↓PR,QR,simprocAttr]
 have e6:Ext w5 (w5.alloc (.cells #[.string t3.nd.name,.int .i64 t3.nd.int,b3,h3',q3] 26)):=ee
 have hV3:ValAt w5 (.agg #[.string t3.nd.name,.int .i64 t3.nd.int,b3,h3',q3]) t3:=⟨_,_,_,rfl,m1,m2,m3⟩
 generalize (w5.alloc (.cells #[.string t3.nd.name,.int .i64 t3.nd.int,b3,h3',q3] 26))=w6 at *
 refine zcr (Text_ret w6 _ t3 (hV3.ext e6) (hE.ext (e04.trans (e5.trans e6))).tab (by omega) (by rw [h6];omega)) fun w7 e7=>?_
 rw [if_pos h5,h6]
 unfold n12c3 joinK
 simp (disch:=try exact DI) only [↓PR,QR,simprocAttr]
 unfold n12c2 joinK
 simp (disch:=try exact DI) only [↓PR,QR,simprocAttr]
 unfold n12c1 joinK
 simp (disch:=try exact DI) only [↓PR,QR,simprocAttr]
 exact ⟨trivial,e04.trans (e5.trans (e6.trans e7))⟩
abbrev wantL:List (List UInt8):=[[],[97],[108],[108,46,120],[108,46,120,58,49],[104]]
theorem Lasts7.reg {A:World} {lo hi:Nat}:Lasts7 (fun V u=>(∀ b,lo≤b→b < hi→¬ V b∧u.heap[b]?=A.heap[b]?)∧hi≤u.heap.size):=fun V V' w w' hl ⟨h,hs⟩=>⟨fun b h1 h2=>by
 obtain ⟨g1,g2⟩:=h b h1 h2
 refine ⟨fun hv=>?_,(hl.block b (by omega) g1).trans g2⟩
 rcases hl.new b hv with hv | hv
 · exact g1 hv
 · omega,Nat.le_trans hs hl.size⟩
abbrev wantW:Array Value := #[.string ⟨#[]⟩,.string ⟨#[97]⟩,.string ⟨#[108]⟩,.string ⟨#[108,46,120]⟩,.string ⟨#[108,46,120,58,49]⟩,.string ⟨#[104]⟩]
theorem want_get:∀ (j:Nat) (wl:List UInt8),wantL[j]?=some wl→wantW[j]?=some (.string (mkB wl))
 | 0,_,h=>by cases h;rfl
 | 1,_,h=>by cases h;rfl
 | 2,_,h=>by cases h;rfl
 | 3,_,h=>by cases h;rfl
 | 4,_,h=>by cases h;rfl
 | 5,_,h=>by cases h;rfl
 | _+6,_,h=>by cases h
theorem walk_len:(walkT kT []).length=6:=by
 have:=congrArg List.length w_kT
 rwa [List.length_map] at this
def KnI (w0 A:World) (b0 q lo p2:Nat) (k:Nat) (V:Bks) (u:World):Prop:=(Ext w0 u∧∀ b,V b→w0.heap.size≤b)∧((∀ b,lo≤b→b < p2→¬ V b∧u.heap[b]?=A.heap[b]?)∧p2≤u.heap.size)∧(¬ V b0∧u.heap[b0]?=some (.cells #[.bool false] 4 (0,0)))∧(¬ V q∧u.heap[q]?=some (.cells wantW 9 (0,0)))∧(¬ V (q+1)∧u.heap[q+1]?=some (.cells #[.slice (some ⟨q,0,none⟩) 6 6] 65 (0,0)))∧(¬ V (q+2)∧u.heap[q+2]?=some (.cells #[.int .i64 (k:Int)] 3 (0,0)))
theorem KnI.lasts (w0 A:World) (b0 q lo p2 k:Nat):Lasts7 (KnI w0 A b0 q lo p2 k):=Lasts7.from.and (Lasts7.reg.and (Lasts7.has.and (Lasts7.has.and (Lasts7.has.and Lasts7.has))))
theorem known_ret {w0:World} (hE:EnvOK w0):Ret Pg 11 #[] w0 fun r w'=>r = .bool true∧Ext w0 w':=by
 refine n10s (R:=retR _) ?_;unfold n10
 simp (disch:=try exact DI) only [↓PR,QR,simprocAttr]
 have c0:=heap_new w0 #[.bool false] 4
 have e0:Ext w0 (w0.alloc (.cells #[.bool false] 4)):=ee
 have z0:(w0.alloc (.cells #[.bool false] 4)).heap.size=w0.heap.size+1:=by simp
 generalize (w0.alloc (.cells #[.bool false] 4))=w1 at *
 generalize hb0:w0.heap.size=b0 at *
 refine callK_ret (Parse_ret w1 (mkB kS) (hE.ext e0) (by rw [mkB_size];decide)) ?_
 rintro r w2 ⟨e1,v,c,rfl,hr⟩
 rw [mkB_data,p_kT] at hr
 obtain ⟨rfl,hv⟩:=hr
 obtain ⟨bv,hv',pv,rfl,g1,g2,g3,o1,o2,o3⟩:=hv.op
 have e:=e0.trans e1
 have c0:=e1.obj c0
 unfold n10c23
 simp (disch:=try exact DI) only [↓PR,QR,simprocAttr]
 have c1:=heap_new w2 #[.string kT.nd.name,.int .i64 kT.nd.int,bv,hv',pv] 26
 have e2:Ext w2 (w2.alloc (.cells #[.string kT.nd.name,.int .i64 kT.nd.int,bv,hv',pv] 26)):=ee
 have hV:ValAt w2 (.agg #[.string kT.nd.name,.int .i64 kT.nd.int,bv,hv',pv]) kT:=⟨_,_,_,rfl,g1,g2,g3⟩
 generalize (w2.alloc (.cells #[.string kT.nd.name,.int .i64 kT.nd.int,bv,hv',pv] 26))=w3 at *
 generalize hb1:w2.heap.size=b1 at *
 have hV:=hV.ext e2
 have e:=e.trans e2
 have c0:=e2.obj c0
 refine zcr (Text_ret w3 _ kT hV (hE.ext e).tab (by rw [nodes_kT];decide) (by rw [t_kT];decide)) fun w4 e3=>?_
 rw [if_pos v_kT,t_kT]
 have hV:=hV.ext e3
 have e:=e.trans e3
 have c0:=e3.obj c0
 have c1:=e3.obj c1
 unfold n10c22 joinK
 simp (disch:=try exact DI) only [↓PR,QR,simprocAttr]
 unfold n10c21 joinK
 have hd:(mkB kS)=(⟨#[109,40,97,61,53,32,108,40,120,35,48,97,32,120,41,32,104,91,52,49,58,54,50,54,51,93,41]⟩:ByteArray):=rfl
 simp (disch:=try exact DI) only [↓PR,QR,simprocAttr,hd]
 unfold n10c20 joinK
 simp (disch:=try exact DI) only [↓PR,QR,simprocAttr,(cells_of_heap c1).1]
 refine zcr (Nodes_ret w4 _ kT hV (by rw [nodes_kT];decide)) fun w5 e4=>?_
 rw [nodes_kT]
 have hV:=hV.ext e4
 have e:=e.trans e4
 have c0:=e4.obj c0
 have c1:=e4.obj c1
 simp (disch:=try exact DI) only [↓PR,QR,simprocAttr]
 unfold n10c19 joinK
 simp (disch:=try exact DI) only [↓PR,QR,simprocAttr,(cells_of_heap c1).1]
 refine zcr (gets_ret (hE.ext e) _ kT [108,46,120,58,49] [120] 0 (by decide) hV v_kT (.inl ⟨rfl,_,_,s_lx1,a_lx1,t_lf _,by decide⟩)) fun w6 e5=>?_
 have hV:=hV.ext e5
 have e:=e.trans e5
 have c0:=e5.obj c0
 have c1:=e5.obj c1
 simp (disch:=try exact DI) only [↓PR,QR,simprocAttr]
 unfold n10c18 joinK
 simp (disch:=try exact DI) only [↓PR,QR,simprocAttr,(cells_of_heap c1).1]
 refine zcr (gets_ret (hE.ext e) _ kT [97] [97,61,53] 0 (by decide) hV v_kT (.inl ⟨rfl,_,_,s_a,a_a,t_ka,by decide⟩)) fun w7 e6=>?_
 have hV:=hV.ext e6
 have e:=e.trans e6
 have c0:=e6.obj c0
 have c1:=e6.obj c1
 simp (disch:=try exact DI) only [↓PR,QR,simprocAttr]
 unfold n10c17 joinK
 simp (disch:=try exact DI) only [↓PR,QR,simprocAttr,(cells_of_heap c1).1]
 refine zcr (gets_ret (hE.ext e) _ kT [108,46,120,58,50] [] 9 (by decide) hV v_kT (.inr (.inr ⟨rfl,_,s_lx2,a_lx2⟩))) fun w8 e7=>?_
 have hV:=hV.ext e7
 have e:=e.trans e7
 have c0:=e7.obj c0
 have c1:=e7.obj c1
 simp (disch:=try exact DI) only [↓PR,QR,simprocAttr]
 unfold n10c16 joinK
 simp (disch:=try exact DI) only [↓PR,QR,simprocAttr,(cells_of_heap c1).1]
 refine zcr (gets_ret (hE.ext e) _ kT [108,46,46,120] [] 6 (by decide) hV v_kT (.inr (.inl ⟨rfl,s_llx⟩))) fun w9 e8=>?_
 have hV:=hV.ext e8
 have e:=e.trans e8
 have c0:=e8.obj c0
 have c1:=e8.obj c1
 simp (disch:=try exact DI) only [↓PR,QR,simprocAttr]
 unfold n10c15 joinK
 simp (disch:=try exact DI) only [↓PR,QR,simprocAttr,(cells_of_heap c1).1]
 refine zcr (gets_ret (hE.ext e) _ kT [108,46,120,58,48] [] 6 (by decide) hV v_kT (.inr (.inl ⟨rfl,s_lx0⟩))) fun w10 e9=>?_
 have hV:=hV.ext e9
 have e:=e.trans e9
 have c0:=e9.obj c0
 have c1:=e9.obj c1
 simp (disch:=try exact DI) only [↓PR,QR,simprocAttr]
 unfold n10c14
 simp (disch:=try exact DI) only [↓PR,QR,simprocAttr]
 unfold n10c13
 simp (disch:=try exact DI) only [↓PR,QR,simprocAttr,fun a b c=>(cells_of_heap (((((Ext.refl w10).alloc a).alloc b).alloc c).obj c1)).1]
 have k1:=heap_new w10 #[.string ⟨#[]⟩,.string ⟨#[97]⟩,.string ⟨#[108]⟩,.string ⟨#[108,46,120]⟩,.string ⟨#[108,46,120,58,49]⟩,.string ⟨#[104]⟩] 9
 have a1:Ext w10 (w10.alloc (.cells #[.string ⟨#[]⟩,.string ⟨#[97]⟩,.string ⟨#[108]⟩,.string ⟨#[108,46,120]⟩,.string ⟨#[108,46,120,58,49]⟩,.string ⟨#[104]⟩] 9)):=ee
 have y1:(w10.alloc (.cells #[.string ⟨#[]⟩,.string ⟨#[97]⟩,.string ⟨#[108]⟩,.string ⟨#[108,46,120]⟩,.string ⟨#[108,46,120,58,49]⟩,.string ⟨#[104]⟩] 9)).heap.size=w10.heap.size+1:=by simp
 generalize (w10.alloc (.cells #[.string ⟨#[]⟩,.string ⟨#[97]⟩,.string ⟨#[108]⟩,.string ⟨#[108,46,120]⟩,.string ⟨#[108,46,120,58,49]⟩,.string ⟨#[104]⟩] 9))=w11 at *
 generalize hq:w10.heap.size=q at *
 have k2:=heap_new w11 #[.slice (some ⟨q,0,none⟩) 6 6] 65
 have a2:Ext w11 (w11.alloc (.cells #[.slice (some ⟨q,0,none⟩) 6 6] 65)):=ee
 have y2:(w11.alloc (.cells #[.slice (some ⟨q,0,none⟩) 6 6] 65)).heap.size=w11.heap.size+1:=by simp
 generalize (w11.alloc (.cells #[.slice (some ⟨q,0,none⟩) 6 6] 65))=w12 at *
 have k3:=heap_new w12 #[.int .i64 0] 3
 have a3:Ext w12 (w12.alloc (.cells #[.int .i64 0] 3)):=ee
 have y3:(w12.alloc (.cells #[.int .i64 0] 3)).heap.size=w12.heap.size+1:=by simp
 generalize (w12.alloc (.cells #[.int .i64 0] 3))=w13 at *
 rw [y1] at k2
 rw [y2,y1] at k3
 simp only [y2,y1]
 have a:=a1.trans (a2.trans a3)
 have e:=e.trans a
 have hV:=hV.ext a
 have c0:=a.obj c0
 have k1:=a3.obj (a2.obj k1)
 have k2:=a3.obj k2
 refine callK_ret (Walk_ret _ kT hV (by rw [nodes_kT];decide)) ?_
 rintro r w14 ⟨e14,hr⟩
 rw [if_pos v_kT] at hr
 obtain ⟨xb,xh,xp,lo,p2,rfl,hWP,hO,hlo,hp2⟩:=hr
 have e:=e.trans e14
 have c0:=e14.obj c0
 have k1:=e14.obj k1
 have k2:=e14.obj k2
 have k3:=e14.obj k3
 unfold n10c12
 rw [op_eqNilF Tryz.underlying43]
 simp (disch:=try exact DI) only [↓PR,QR,simprocAttr]
 unfold n10c11
 rw [y1]
 have zlo:w13.heap.size≤lo:=hlo
 have z13:w13.heap.size=q+3:=by rw [y3,y2,y1]
 have hlp:=hO.le
 have hbq:b0 < q:=by
  have h0:=(Array.getElem?_eq_some_iff.1 (show w10.heap[b0]?=_ from by assumption)).1
  omega
 have H0:KnI w0 w14 b0 q lo p2 0 (fun b=>b=p2+1∨b=p2) w14:=⟨⟨e,fun b hb=>by have h0:=e0.size;omega⟩,⟨fun b h1 h2=>⟨by omega,rfl⟩,by omega⟩,⟨by omega,c0⟩,⟨by omega,k1⟩,⟨by omega,k2⟩,⟨by omega,k3⟩⟩
 refine ⟨_,_,_,_,_,_,_,KnI w0 w14 b0 q lo p2,fun _ _ _=>False,fun _ _ _=>False,rfl,c82,walk_at hO v_kT (p2+1) p2 (by omega) (Nat.le_refl _) (by omega),fun w' e'=>⟨e'.obj hWP.1,e'.obj hWP.2⟩,fun b hb=>by omega,H0,fun k V u h=>⟨hE.ext h.1.1,h.2.1.2,fun b h1 h2=>(h.2.1.1 b h1 h2).2⟩,fun k=>KnI.lasts _ _ _ _ _ _ _,fun c=>Lasts7.const _,fun ch=>Lasts7.const _,?_,?_,?_,?_⟩
 · intro Rk V hR hV0 j xx yy u hj hY hI hRu hltu hready
   obtain ⟨qq,cs,lo',hi',hq',rfl,rfl,_⟩:=hY
   have hw:wantL[j]?=some qq.1:=by
    have:=congrArg (fun l=>l[j]?) w_kT
    simp only [List.getElem?_map,hq',Option.map_some] at this
    exact this.symm
   have hwc:=want_get j qq.1 hw
   rw [walk_len] at hj
   refine ⟨hready,fun w5 hbz=>?_⟩
   have hR5:=hR _ _ (KR7.busied hbz) hRu
   have H5:=(KnI.lasts w0 w14 b0 q lo p2 j).busied hbz (show plusB V w14.heap.size (w14.heap.size+1) from .inr (.inr rfl)) hI
   obtain ⟨i1,i2,i3,i4,i5,i6⟩:=H5
   have hdj:¬ ((6:Int)≤(j:Int)):=by omega
   have hdk:(j:Int) < 6:=by omega
   have hdj2:¬ (((6:Nat):Int)≤(j:Int)):=by omega
   have hdk2:(j:Int) < ((6:Nat):Int):=by omega
   have hwj:IntKind.i64.wrap ((j:Int)+1)=((j+1:Nat):Int):=wrap_succ (by omega)
   have hcell:w5.cell? ⟨q,j,none⟩=some (.string (mkB qq.1)):=by rw [(cells_of_heap i4.2).1];exact hwc
   unfold n10c2 joinK
   simp (disch:=try exact DI) only [↓PR,QR,simprocAttr,(cells_of_heap i6.2).1,(cells_of_heap i5.2).1,hdj,hdk,hdj2,hdk2,Nat.mul_one,hcell]
   unfold n10c1
   simp (disch:=try exact DI) only [↓PR,QR,simprocAttr,(cells_of_heap i6.2).1,(cells_of_heap i6.2).2,hwj]
   refine ⟨hR _ _ ((KR7.refl _ w5).setCell _ _ _ (.inl i6.1)) hR5,⟨⟨i1.1.os,i1.1.tape,i1.1.output,by simpa using i1.1.size,fun b hb=>?_⟩,i1.2⟩,⟨fun b h1 h2=>⟨(i2.1 b h1 h2).1,?_⟩,by simpa using i2.2⟩,⟨i3.1,?_⟩,⟨i4.1,?_⟩,⟨i5.1,?_⟩,i6.1,heap_set (o:=0) i6.2 _⟩
   · rw [heap_setE (by omega)];exact i1.1.block b hb
   · rw [heap_setE (by omega)];exact (i2.1 b h1 h2).2
   · rw [heap_setE (by omega)];exact i3.2
   · rw [heap_setE (by omega)];exact i4.2
   · rw [heap_setE (by omega)];exact i5.2
 · intro V u H hmk
   rw [walk_len] at H
   obtain ⟨i1,i2,i3,i4,i5,i6⟩:=H
   unfold n10c10 joinK
   simp (disch:=try exact DI) only [↓PR,QR,simprocAttr,(cells_of_heap i6.2).1,(cells_of_heap i5.2).1]
   have eu:=i1.1
   have cu:=i3.2
   have mu:=hmk
   have h66:((6:Int) == ((6:Nat):Int))=true:=rfl
   refine zcr (text_ret (hE.ext eu) kS [108,46,120] [121] kS2 (by decide) (by decide) (by decide) kT (lf [121]) kT2 _ p_kT p_y s_lx u_lx v_kT2 t_kT2 (by decide)) fun u20 f20=>?_
   have eu:=eu.trans f20
   have cu:=f20.obj cu
   have mu:=MarkAt.ext mu f20
   have hd2:(mkB kS2)=(⟨#[109,40,97,61,53,32,108,40,121,32,120,41,32,104,91,52,49,58,54,50,54,51,93,41]⟩:ByteArray):=rfl
   unfold n10c9
   simp (disch:=try exact DI) only [↓PR,QR,simprocAttr,hd2,h66]
   unfold n10c8 joinK
   simp (disch:=try exact DI) only [↓PR,QR,simprocAttr,h66]
   refine zcr (before_ret (hE.ext eu) [97] [97,61,49] (by decide) (by decide) _ _ p_a p_a1 c_1) fun u21 f21=>?_
   have eu:=eu.trans f21
   have cu:=f21.obj cu
   have mu:=MarkAt.ext mu f21
   unfold n10c7 joinK
   simp (disch:=try exact DI) only [↓PR,QR,simprocAttr,h66]
   refine zcr (before_ret (hE.ext eu) [97,35,48,48] [97,61,49] (by decide) (by decide) _ _ p_a00 p_a1 c_2) fun u22 f22=>?_
   have eu:=eu.trans f22
   have cu:=f22.obj cu
   have mu:=MarkAt.ext mu f22
   unfold n10c6 joinK
   simp (disch:=try exact DI) only [↓PR,QR,simprocAttr,h66]
   refine zcr (before_ret (hE.ext eu) [97,40,98,41] [97,40,98,32,98,41] (by decide) (by decide) _ _ p_ab p_abb c_3) fun u23 f23=>?_
   have eu:=eu.trans f23
   have cu:=f23.obj cu
   have mu:=MarkAt.ext mu f23
   unfold n10c5 joinK
   simp (disch:=try exact DI) only [↓PR,QR,simprocAttr,h66]
   refine zcr (refused_ret (hE.ext eu) [97,61,48] (by decide) r_a0) fun u24 f24=>?_
   have eu:=eu.trans f24
   have cu:=f24.obj cu
   have mu:=MarkAt.ext mu f24
   unfold n10c4 joinK
   simp (disch:=try exact DI) only [↓PR,QR,simprocAttr,h66]
   refine zcr (refused_ret (hE.ext eu) [97,35,48,65] (by decide) r_a0A) fun u25 f25=>?_
   have eu:=eu.trans f25
   have cu:=f25.obj cu
   have mu:=MarkAt.ext mu f25
   unfold n10c3 joinK
   simp (disch:=try exact DI) only [↓PR,QR,simprocAttr,h66]
   refine zcr (refused_ret (hE.ext eu) [97,40,98,32,32,99,41] (by decide) r_abc) fun u26 f26=>?_
   have eu:=eu.trans f26
   have cu:=f26.obj cu
   have mu:=MarkAt.ext mu f26
   simp (disch:=try exact DI) only [↓PR,QR,simprocAttr,(cells_of_heap cu).1,(cells_of_heap cu).2]
   have cv:=heap_set (o:=0) cu (.bool true)
   change _=some (Obj.cells #[.bool true] 4 (0,0)) at cv
   refine outX_mark (MarkAt.setCell mu _ _) ?_
   simp (disch:=try exact DI) only [↓PR,QR,simprocAttr,outX_nil,retV,resOne,cell_putMark (MarkAt.setCell mu ⟨b0,0,none⟩ (.bool true)),(cells_of_heap cv).1]
   refine ⟨trivial,eu.os,eu.tape,eu.output,by simpa using eu.size,fun b hb=>?_⟩
   rw [World.putObj_heap_other (by have:=e.size;have:=hWP.1;omega),heap_setE (by omega)]
   exact eu.block b hb
 · rintro c V u h
   exact h.elim
 · rintro ch V u h
   exact h.elim
def n7c1 (t23 t27:Value) (R:RT) (w:World):Prop :=
 pickK t23 t27 (.bool false) fun t28 =>
 joinK (fun (t30:Value) (w:World) =>
 pickK t28 t30 (.bool false) fun t31 =>
 R (.returned t31) w) fun K2 =>
 guardP t28 true (
 callK Pg 11 #[] (panK R) w fun t30 w =>
 K2 t30 w) (
 K2 undef w)
def n7c2 (t3 t15 t18:Value) (R:RT) (w:World):Prop :=
 opV Pg (Instr.extract t18 0) (panK R) w fun t19 w =>
 opV Pg (Instr.extract t18 1) (panK R) w fun t20 w =>
 opV Pg (Instr.alloc 26 true (.tuple #[])) (panK R) w fun t5 w =>
 opU Pg (Instr.storeAt 26 t5 t19) (panK R) w fun w =>
 opV Pg (binS .eql 3 false t15 t20) (panK R) w fun t23 w =>
 joinK (fun (t27:Value) (w:World) =>
 n7c1 t23 t27 R w) fun K1 =>
 guardP t23 true (
 opV Pg (Instr.loadAt 26 t3) (panK R) w fun t25 w =>
 opV Pg (Instr.loadAt 26 t5) (panK R) w fun t26 w =>
 callK Pg 13 #[t25,t26] (panK R) w fun t27 w =>
 K1 t27 w) (
 K1 undef w)
def n7c3 (t0 t13:Value) (R:RT) (w:World):Prop :=
 opV Pg (Instr.extract t13 0) (panK R) w fun t14 w =>
 opV Pg (Instr.extract t13 1) (panK R) w fun t15 w =>
 opV Pg (Instr.alloc 26 true (.tuple #[])) (panK R) w fun t3 w =>
 opU Pg (Instr.storeAt 26 t3 t14) (panK R) w fun w =>
 callK Pg 19 #[t0] (panK R) w fun t18 w =>
 n7c2 t3 t15 t18 R w
def n7 (t0:Value) (R:RT) (w:World):Prop :=
 opV Pg (Builtin.len_ #[9] 3 #[t0]) (panK R) w fun t8 w =>
 opV Pg (binS .gtr 3 true t8 (.int .i64 500)) (panK R) w fun t9 w =>
 condP t9 (
 callK Pg 11 #[] (panK R) w fun t10 w =>
 R (.returned t10) w) (
 callK Pg 18 #[t0] (panK R) w fun t13 w =>
 n7c3 t0 t13 R w)
theorem n7s {t0:Value} {R:RT} {w:World} (h:n7 t0 R w):Calls Pg 4 #[t0] w R:=by
 refine yD Tryz.func4 ?_
 refine zs<|zr<|zm<|zn<|zk<|zs<|zs<|zr<|zm<|yx h fun _ w h=>yb h fun _ w h=>zn<|zk<|yC h (fun h=>zs<|zr<|yc h c11 fun _ w h=>zm<|zn<|zk<|sim_ret<|sim_then_ret<|body_ret1 rfl rfl h) fun h=>?_
 refine sim_skip<|zk<|zs<|zr<|zm<|yc h c18 fun _ w h=>zm<|yv h fun _ w h=>yv h fun _ w h=>yv h fun _ w h=>yu h fun w h=>zm<|zn<|zk<|zs ?_
 refine zr<|zm<|yc h c19 fun _ w h=>zm<|yv h fun _ w h=>yv h fun _ w h=>yv h fun _ w h=>yu h fun w h=>zm<|zn<|zk<|zs<|sim_regionG<|yG 4<|zm ?_
 refine zm<|yb h fun _ w h=>zm<|zn<|yg1 3 3 true [25,26,27] 27 h (fun _ T hT h=>?_) fun σ w h=>?_
 · refine yv h fun _ w h=>yv h fun _ w h=>yc h c13 fun _ w h=>zn ?_
   exact zt hT h
 refine yG 2<|yp h fun _ h=>zm<|zn<|yg1 1 8 true [30] 30 h (fun _ T hT h=>?_) fun σ w h=>?_
 · refine yc h c11 fun _ w h=>zn ?_
   exact zt hT h
 exact yG 2<|yp h fun _ h=>zm<|zn<|sim_end<|zk<|sim_ret<|body_ret1 rfl rfl h
theorem listsC_refl {α:Type} {f:α→α→Int}:∀ {l:List α},(∀ x∈l,f x x=0)→listsC f l l=0
 | [],_=>rfl
 | x::l,h=>by
  rw [listsC,if_pos (h x (List.mem_cons_self ..))]
  exact listsC_refl fun y hy=>h y (List.mem_cons_of_mem _ hy)
theorem cmpB_refl:∀ l:List UInt8,Go.Lib.compareBytes l l=0
 | []=>rfl
 | a::l=>by
  have h:¬ a < a:=UInt8.lt_irrefl a
  unfold Go.Lib.compareBytes
  rw [if_neg h,if_neg h]
  exact cmpB_refl l
theorem cmpH_refl (h:ByteArray×ByteArray):cmpH h h=0:=by
 unfold cmpH cmpS
 rw [cmpB_refl,cmpB_refl]
 rfl
theorem cmpN_refl (n:Nd):cmpN n n=0:=by
 unfold cmpN cmpS
 rw [cmpB_refl,cmpB_refl,listsC_refl fun x _=>cmpH_refl x,show Go.Lib.compareInt n.int n.int=0 by unfold Go.Lib.compareInt;simp]
 rfl
theorem cmp_refl (t:Tr):cmpT t t=0:=by
 refine Tr.ind (p:=fun t=>cmpT t t=0) ?_ t
 intro n ps ih
 rw [cmpT_mk]
 exact (if_pos (cmpN_refl n)).trans (listsC_refl ih)
theorem valid_short {t:Tr} (h:validT t=true):shortT t=true:=by
 have key:∀ t:Tr,allT nodeB t=true→shortT t=true:=fun t=>by
  refine Tr.ind (p:=fun t=>allT nodeB t=true→shortT t=true) ?_ t
  intro n ps ih h
  rw [allT_mk,Bool.and_eq_true,List.all_eq_true] at h
  refine (shortT_mk n ps).2 ⟨?_,fun x hx=>ih x hx (h.2 x hx)⟩
  have h1:=h.1
  unfold nodeB at h1
  simp only [Bool.and_eq_true,decide_eq_true_eq,List.all_eq_true] at h1
  have hnm:=name_len h1.1
  have e:=Go.Lib.size_eq n.name
  unfold shortN
  rw [Bool.and_eq_true,Bool.and_eq_true,decide_eq_true_eq,decide_eq_true_eq,List.all_eq_true]
  refine ⟨⟨by omega,by omega⟩,fun y hy=>?_⟩
  have h2:=h1.2.2.2.2.2 y hy
  unfold hdrB at h2
  rw [Bool.and_eq_true,decide_eq_true_eq,decide_eq_true_eq] at h2 ⊢
  exact ⟨by omega,by omega⟩
 unfold validT at h
 simp only [Bool.and_eq_true,decide_eq_true_eq] at h
 exact key t h.2
theorem short_zero:shortT tr0=true:=by
 unfold tr0
 rw [shortT_mk]
 exact ⟨by decide,fun p hp=>by cases hp⟩
theorem ValueParses_ret (W:World) (s:ByteArray) (hE:EnvOK W):Ret Pg 4 #[.string s] W fun r w'=>r = .bool true∧Ext W w':=by
 refine n7s (R:=retR _) ?_;unfold n7
 by_cases hl:(500:Int) < (s.size:Int)
 · simp (disch:=try exact DI) only [↓PR,QR,simprocAttr,hl]
   refine zcr (known_ret hE) fun w1 e1=>?_
   simp (disch:=try exact DI) only [↓PR,QR,simprocAttr]
   exact ⟨trivial,e1⟩
 · simp (disch:=try exact DI) only [↓PR,QR,simprocAttr,hl]
   refine callK_ret (Parse_ret W s hE (by omega)) ?_
   rintro r w1 ⟨e1,v,c,rfl,hr⟩
   unfold n7c3
   obtain ⟨t,hv,hsh,ht⟩:∃ t,ValAt w1 v t∧shortT t=true∧(match parseR RP s.data.toList with | some t'=>c=0∧t'=t | none=>c=6∧t=tr0):=by
    cases hp:parseR RP s.data.toList with
    | none=>rw [hp] at hr;exact ⟨tr0,hr.2,short_zero,hr.1,rfl⟩
    | some t=>rw [hp] at hr;exact ⟨t,hr.2,valid_short ((parseR_iff RP_ok _ _).1 hp).1,hr.1,rfl⟩
   obtain ⟨bv,hv',pv,rfl,g1,g2,g3,o1,o2,o3⟩:=hv.op
   have hV1:ValAt w1 (.agg #[.string t.nd.name,.int .i64 t.nd.int,bv,hv',pv]) t:=⟨_,_,_,rfl,g1,g2,g3⟩
   simp (disch:=try exact DI) only [↓PR,QR,simprocAttr]
   have c1:=heap_new w1 #[.string t.nd.name,.int .i64 t.nd.int,bv,hv',pv] 26
   have e2:Ext w1 (w1.alloc (.cells #[.string t.nd.name,.int .i64 t.nd.int,bv,hv',pv] 26)):=ee
   generalize (w1.alloc (.cells #[.string t.nd.name,.int .i64 t.nd.int,bv,hv',pv] 26))=w2 at *
   refine callK_ret (rParse_ret w2 s (by omega)) ?_
   rintro r w3 ⟨e3,v2,c2,rfl,hr2⟩
   have hc2:c2=c∧ValAt w3 v2 t:=by
    rw [← parseR_eq RP_ok RR_ok] at hr2
    cases hp:parseR RP s.data.toList with
    | none =>
     rw [hp] at hr2 ht
     obtain ⟨k1,k2⟩:=ht
     subst k2
     exact ⟨hr2.1.trans k1.symm,hr2.2⟩
    | some t' =>
     rw [hp] at hr2 ht
     obtain ⟨k1,k2⟩:=ht
     subst k2
     exact ⟨hr2.1.trans k1.symm,hr2.2⟩
   obtain ⟨rfl,hv2⟩:=hc2
   obtain ⟨bv2,hv2',pv2,rfl,k1,k2,k3,p1,p2,p3⟩:=hv2.op
   have hV2:ValAt w3 (.agg #[.string t.nd.name,.int .i64 t.nd.int,bv2,hv2',pv2]) t:=⟨_,_,_,rfl,k1,k2,k3⟩
   have c1:=e3.obj c1
   unfold n7c2 joinK
   have hcc:(c2 == c2)=true:=by simp
   simp (disch:=try exact DI) only [↓PR,QR,simprocAttr,hcc,fun o=>(cells_of_heap (((Ext.refl w3).alloc o).obj c1)).1]
   have c2':=heap_new w3 #[.string t.nd.name,.int .i64 t.nd.int,bv2,hv2',pv2] 26
   have e4:Ext w3 (w3.alloc (.cells #[.string t.nd.name,.int .i64 t.nd.int,bv2,hv2',pv2] 26)):=ee
   generalize (w3.alloc (.cells #[.string t.nd.name,.int .i64 t.nd.int,bv2,hv2',pv2] 26))=w4 at *
   refine zcr (rEqual_ret w4 _ _ t t (hV1.ext (e2.trans (e3.trans e4))) (hV2.ext e4) hsh hsh) fun w5 e5=>?_
   rw [cmp_refl]
   unfold n7c1 joinK
   simp (disch:=try exact DI) only [↓PR,QR,simprocAttr,hcc]
   have e:=e1.trans (e2.trans (e3.trans (e4.trans e5)))
   refine zcr (known_ret (hE.ext e)) fun w6 e6=>?_
   simp (disch:=try exact DI) only [↓PR,QR,simprocAttr]
   exact ⟨trivial,e.trans e6⟩
end Go.Proofs.YtcffhmapmaahnaaGreatDoor
namespace Go.Sw
open Go.ChangeShapes Go.WideShapes Go.RowKit Go.ChangeAt Go.Deep
section
variable {H:Type} {enc:TypeId×Value→H} {P:Program} {w:World} {base:Nat} {spare:Nat→Bool} {held:Bool}
theorem open_str {r:Reach} {b0:Nat} {t:TypeId} {v:Value} {d:DataW H} {ps:List MemPlace} (ht:P.underlying t=some .string) (hval:Value.okWide P w r b0 t v) (hd:DataW.Trod enc P w base spare held t v d ps):∃ s:ByteArray,v = .string s∧d = .lit (.string s.data.toList):=by
 obtain ⟨s,rfl⟩:=okWide_string ht hval
 obtain ⟨fuel,hf⟩:=hd
 obtain ⟨s',h,hx,hs⟩:=DataW.trod_string ht hf
 simp [Value.cells] at h
 simp only [Prod.mk.injEq] at hx
 exact ⟨s,rfl,by rw [hx.1,h]⟩
theorem trodAll_stays (hl:laidOutB P=true) {W W':World} (he:Ext W W'):∀ {ts:List TypeId} {vs:List Value} {ds:List (DataW H)} {ps:List MemPlace},(∀ t∈ts,P.readableRec t=true∧t < P.types.size)→(∀ x∈ps,x.block < W.heap.size) →
 DataW.TrodAll enc P W 0 (fun _=>true) true ts vs ds ps→DataW.TrodAll enc P W' 0 (fun b=>decide (b < W.heap.size)) true ts vs ds ps
 | [],_,_,_,_,_,h=>by obtain ⟨rfl,rfl,rfl⟩:=trodAll_nil h;exact trodAll_mk0
 | t::ts,_,_,_,hr,hlt,h=>by
  obtain ⟨v,vs1,d,ds1,a,b,rfl,rfl,rfl,h1,h2⟩:=trodAll_cons h
  refine ⟨a,b,?_,trodAll_stays hl he (fun t ht=>hr t (List.mem_cons_of_mem _ ht)) (fun x hx=>hlt x (List.mem_append_right _ hx)) h2,rfl⟩
  exact Below.trod hl (hr t (List.mem_cons_self ..)).1 (hr t (List.mem_cons_self ..)).2 h1 ⟨he.os,he.tape,he.output,he.size,he.block⟩ (fun x hx=>hlt x (List.mem_append_left _ hx))
theorem law_post {f:Func} {s:ChangeSpec} {W W':World} {args:Array Value} {ds gs:List (DataW H)} {before:List MemPlace} {tb:TypeId} (hl:laidOutB P=true) (hr:∀ t∈f.params.toList,P.readableRec t=true∧t < P.types.size) (hs:s.vars=[])
 (hW:DataW.Whole enc P f.params.toList s.vars false W args.toList ds gs before) (he:Ext W W') (hres:f.resultTypes = #[tb]) (htb:P.underlying tb=some .bool) (hfn:(s.fn H ds).results=[.lit (.bool true)]) (hargs:(s.fn H ds).args=ds) (hvars:(s.fn H ds).vars=[]) :
 s.post enc P f false true false false W args (.bool true) W':=by
 have hW':=hW
 obtain ⟨p,q,hA,hV,rfl,_,_⟩:=hW
 rw [hs] at hV
 obtain ⟨rfl,rfl⟩:=trodVars_none hV
 have hlt:∀ x∈p,x.block < W.heap.size:=fun x hx=>hW'.lt x (by simpa using hx)
 rw [List.append_nil] at hW'
 refine ⟨ds,[],p,[],p,[],hW',?_,?_,?_,Below.frame ⟨he.os,he.tape,he.output,he.size,he.block⟩ _,fun h=>by cases h⟩
 · rw [List.append_nil,hfn,hres]
   exact trodAll_mk1 (shut_bool htb _)
 · rw [List.append_nil,hargs]
   exact trodAll_stays hl he hr hlt hA
 · rw [List.append_nil,hvars,hs]
   exact rfl
end
end Go.Sw
namespace Go.Proofs.YtcffhmapmaahnaaGreatDoor
open Sw
open Go.RowKit Go.Deep
def role_laid:List (String×DataW Unit):=[("math/bits.deBruijn32tab", Rows.laid_math_bits_deBruijn32tab),("math/bits.deBruijn64tab", Rows.laid_math_bits_deBruijn64tab),("internal/strconv.uint64pow10", Rows.laid_internal_strconv_uint64pow10),("unicode/utf8.acceptRanges", Rows.laid_unicode_utf8_acceptRanges),("strconv.ErrRange", Rows.laid_strconv_ErrRange),("strconv.ErrSyntax", Rows.laid_strconv_ErrSyntax),("unicode/utf8.first", Rows.laid_unicode_utf8_first)]
theorem role_own:ownKnob Pg.godebug=none:=by kernel_rfl
theorem role_laidOut:laidOutB Pg=true:=by kernel_rfl
theorem role_met (os:Os) (args:Array Value):laidMetH Pg role_laid ((World.laidAll Pg os role_laid).forCall (fun _ _=>0) ⟨#[],args,[]⟩).memory:=by
 rw [MakeChecks.laidMetH_plain _ _ _ (by kernel_rfl)]
 exact laidMet_laidAll _ (by kernel_rfl) (by kernel_rfl)
theorem role_tab {W:World} (h:laidMetH Pg role_laid W):TabOK W:=by
 rw [MakeChecks.laidMetH_plain _ _ _ (by kernel_rfl)] at h
 have h3:=laidMet.tail (laidMet.tail h)
 have he:(Rows.laid_internal_strconv_uint64pow10:DataW Unit)=Go.Lib.tabData .u64 Go.Lib.pow10Tab:=by kernel_rfl
 rw [he] at h3
 obtain ⟨g,hg⟩:=Option.isSome_iff_exists.1 gPow
 have hty:(Pg.globals[g]?).map (·.type)=some 187:=by
  have h1:(Pg.globalNamed "internal/strconv.uint64pow10").bind (fun g=>(Pg.globals[g]?).map (·.type))=some 187:=by kernel_rfl
  rw [hg] at h1
  exact h1
 exact Go.Lib.tabIs_of_head hg hty Tryz.underlying187 Tryz.underlying163 (by kernel_rfl) (by kernel_rfl) h3
theorem role_star : "*" ++ "errors.errorString" = "*errors.errorString" := by decide
theorem role_rowErr (u:TypeId) (h:Pg.typeName? 3 u=some "*errors.errorString"):u=181 :=
 typeName_ptr_named (nm := "errors.errorString") (by rw [role_star];kernel_rfl) (by kernel_rfl) (by decide) u (by rw [role_star];exact h)
theorem role_env {W:World} (hs:W.ShapedOpen Pg) (h:laidMetH Pg role_laid W):EnvOK W:=by
 refine ⟨role_tab h,Go.Proofs.cell_of_shapedOpen_int (k := .i64) hs (of_decide_eq_true (by kernel_rfl)) (zero := #[.int .i64 0]) (t:=3) (by kernel_rfl) rfl (by kernel_rfl) (by kernel_rfl) Tryz.underlying3,?_,?_⟩
 · rw [MakeChecks.laidMetH_plain _ _ _ (by kernel_rfl)] at h
   have h5:=h.tail.tail.tail.tail.tail
   obtain ⟨a,s,hv,_⟩:=laid_sentinel (g:=1) h5 (by kernel_rfl) (by kernel_rfl) Tryz.underlying113 role_rowErr Tryz.underlying181 Tryz.underlying183 rfl rfl Tryz.underlying9 (by kernel_rfl) (by kernel_rfl)
   refine ⟨_,by rw [World.var?_cell (show Pg.globalNamed "strconv.ErrSyntax" = some 1 by kernel_rfl) hv 0];rfl,.inr ⟨_,_,rfl⟩⟩
 · rw [MakeChecks.laidMetH_plain _ _ _ (by kernel_rfl)] at h
   have h5:=h.tail.tail.tail.tail
   obtain ⟨a,s,hv,_⟩:=laid_sentinel (g:=2) h5 (by kernel_rfl) (by kernel_rfl) Tryz.underlying113 role_rowErr Tryz.underlying181 Tryz.underlying183 rfl rfl Tryz.underlying9 (by kernel_rfl) (by kernel_rfl)
   refine ⟨_,by rw [World.var?_cell (show Pg.globalNamed "strconv.ErrRange" = some 2 by kernel_rfl) hv 0];rfl,.inr ⟨_,_,rfl⟩⟩
theorem handed_and {H:Type} {enc:TypeId×Value→H} {a:Assume} {C:Checked} {os:Os} {f:FuncId} {fn:Func} {s:ChangeSpec} {conds:List PathCond} {apart fresh handsOn again:Bool} {X:World→Array Value→Prop}
 (hX:∀ (w w':World) (args:Array Value),w.heap=w'.heap→X w args→X w' args)
 (own:ownKnob C.prog.godebug=none) (started:os.Started) (noInit:C.prog.inits.idxOf? f=none) (hfn:C.prog.funcs[f]?=some fn)
 (witness:∃ (w:World) (tape:Tape) (i:Input),w.os=os∧(w.forCall tape i).Shaped C.prog∧i.vars=[]∧Input.okWide C.prog (w.forCall tape i) .any w.heap.size f i ∧
  ((s.pre enc C.prog fn conds apart (w.forCall tape i).memory i.args∧X (w.forCall tape i).memory i.args)∧sizedMet enc C.prog fn (OpenSpec.ofChange s) apart (w.forCall tape i).memory i.args)∧a.holds C.prog (lone (Frame.enter C.prog f i.args .normal) [] (w.forCall tape i)))
 (contract:∀ (W:World) (base:Nat) (args:Array Value) (ds gs:List (DataW H)) (before:List MemPlace),
  (∀ (j:Nat) t v,fn.params[j]?=some t→args[j]?=some v→Value.okWide C.prog W .any base t v) →
  DataW.Whole enc C.prog fn.params.toList s.vars apart W args.toList ds gs before →
  conds.all (PathCond.test C.prog ⟨fn.params.toList,ds,s.plain.varTypes C.prog,gs⟩)=true →
  (DataW.weightsEach C.prog (fn.params.toList++s.plain.varTypes C.prog) (ds++gs)).all (· ≤ reachBytes)=true→X W args→W.ShapedOpen C.prog →
  a.holds C.prog (lone (Frame.enter C.prog f args .normal) [] W) →
  Calls C.prog f args W fun e W'=>∃ v,e = .returned v∧s.post enc C.prog fn apart fresh handsOn again W args v W') :
 ReturnsInHanded a C os f .any (fun w args=>(s.pre enc C.prog fn conds apart w args∧X w args)∧sizedMet enc C.prog fn (OpenSpec.ofChange s) apart w args) (s.post enc C.prog fn apart fresh handsOn again):=by
 refine returnsInHanded_of_calls own started noInit witness ?_
 intro w tape i _ hsh _ hok hpre hholds
 obtain ⟨_,_,_,fn',hfn',_,_,_,_,hval⟩:=hok
 have e:fn'=fn:=Option.some.inj (hfn'.symm.trans hfn)
 subst e
 obtain ⟨⟨⟨ds,gs,before,hw,hc⟩,hx⟩,hz⟩:=hpre
 have hw':=DataW.Whole.of_heap (w':=w.forCall tape i) (by rfl) hw
 refine (contract (w.forCall tape i) w.heap.size i.args ds gs before hval hw' hc (hz.weights hw) (hX _ _ _ (by rfl) hx) hsh hholds).mono fun e W' ⟨v,he,hp⟩=>?_
 subst he
 exact ChangeSpec.post_blind hp
theorem ValueParses_at (W:World) (s:ByteArray) (hE:EnvOK W):Ret Pg 4 #[.string s] W fun r w'=>r = .bool true∧Ext W w':=ValueParses_ret W s hE
end Go.Proofs.YtcffhmapmaahnaaGreatDoor
namespace Go.Proofs.YtcffhmapmaahnaaGreatDoor
open Sw
open Go.ChangeShapes Go.WideShapes Go.RowKit Go.ChangeAt Go.Deep
theorem vparses_lifted (os:Os) (started:os.Started) (H:Type) (enc:TypeId×Value→H) :
 ReturnsInHanded {} Tryz.checked os 4 .any (fun w args=>(Rows.valueParsesSpec.pre enc Pg Tryz.f4 Rows.valueParsesRow.domain false w args∧laidMetH Pg role_laid w)∧sizedMet enc Pg Tryz.f4 (OpenSpec.ofChange Rows.valueParsesSpec) false w args) (Rows.valueParsesSpec.post enc Pg Tryz.f4 false true false false):=by
 refine handed_and (C:=Tryz.checked) (X:=fun w _=>laidMetH Pg role_laid w) (fun _ _ _ hh h=>h.of_heap hh) role_own started (by kernel_rfl) Tryz.func4
  (ChangeSpec.witness_shaped (enc:=enc) (C:=Tryz.checked) (os:=os) (X:=fun w _=>laidMetH Pg role_laid w) false (World.laidAll Pg os role_laid) #[.string ByteArray.empty] 8 (World.laidAll_os _ _ _) (World.shaped_of_ZipB (by kernel_rfl) (by kernel_rfl)) (by kernel_rfl) (by kernel_rfl) (by kernel_rfl) (role_met os _)) ?_
 intro W base args ds gs before hval hW _ hsz hL hsh _
 have hW':=hW
 obtain ⟨p,q,hA0,hV,rfl,_,_⟩:=hW
 have hA:DataW.TrodAll enc Pg W 0 (fun _=>true) true Tryz.f4.params.toList args.toList ds p:=hA0
 rw [Tryz.params4] at hA hval hsz
 obtain ⟨v0,vs0,d0,ds0,p0,q0,ha0,rfl,rfl,h0,r0⟩:=trodAll_cons hA
 obtain ⟨rfl,rfl,rfl⟩:=trodAll_nil r0
 obtain rfl:args = #[v0]:=by cases args;simp_all
 obtain ⟨s0,rfl,_⟩:=open_str Tryz.underlying9 (hval 0 _ v0 rfl rfl) h0
 refine Calls.mono (ValueParses_at W s0 (role_env hsh hL)) fun e W' ⟨v,he,hv,hx⟩=>?_
 subst he hv
 exact ⟨_,rfl,law_post role_laidOut (by decide +kernel) rfl hW' hx rfl Tryz.underlying4 rfl rfl rfl⟩
theorem vparses_holds:Rows.ValueParsesSaid :=
 OpenClaim.holds_of_wide 4 Tryz.f4 rfl rfl rfl rfl rfl rfl rfl ⟨rfl,rfl,rfl,rfl,rfl⟩ rfl rfl rfl rfl rfl (by kernel_rfl) Tryz.func4 (by kernel_rfl)
  (of_decide_eq_true (by kernel_rfl)) (by unfold Func.isWrapper;first | (rw [if_pos (by decide +kernel)];kernel_rfl) | (rw [if_neg (by decide +kernel)];exact ⟨rfl,rfl⟩))
  (fun os started H enc _=>vparses_lifted os started H enc)
theorem vparses_card:Rows.ValueParsesCardSaid :=
 Claim7.holds_tied_plain_at .later [] [.data,.data,.data,.data,.sentinel,.sentinel,.pinned] true (true, "890728a3a62857bfa7207560ed87612b9253540bda02dd327723c287671f9d21") true
  vparses_holds (fun _ h=>by cases h) (by kernel_rfl) (fun _ h=>by cases h) valueParses_row_tie rfl ⟨rfl,rfl⟩ (by kernel_rfl) rfl
  (fun f fn hf hfn=>by
   obtain rfl:f=4:=Option.some.inj ((show Pg.funcNamed "phrasebook/phrasebooklaw13.ValueParses" = some 4 by kernel_rfl).symm.trans hf) |>.symm
   obtain rfl:fn=Tryz.f4:=(Option.some.inj (Tryz.func4.symm.trans hfn)).symm
   exact ⟨by kernel_rfl,fun j t ht=>by
    rw [Tryz.params4] at ht
    have hm:t∈[9]:=by simpa using Array.mem_of_getElem? ht
    have hall:([9].all fun u=>!Pg.wantsStandIn u)=true:=by kernel_rfl
    exact (show Pg.wantsStandIn t=false by simpa using List.all_eq_true.1 hall t hm)⟩)
  (by kernel_rfl)
end Go.Proofs.YtcffhmapmaahnaaGreatDoor
