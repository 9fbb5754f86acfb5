/- Contracts and laws, Mh04 -/
import Derived.Test.YtpkpgmnbheenbaaGreatDoorMh01
import Derived.Test.YtpkpgmnbheenbaaGreatDoorMh03
import Derived.StillTailTactics
import Derived.Deep.RegionLaw
import Derived.Deep.DeepCutAuto
import Derived.Outline
import Derived.Deep.CutBlock
namespace Go.Proofs.YtpkpgmnbheenbaaGreatDoor
open Go.RowKit
set_option linter.unusedVariables false
set_option linter.unusedSimpArgs false
set_option maxHeartbeats 8000000
set_option maxRecDepth 100000
theorem wp_delete_run {P:Program} {ops:Array Oper} {rest:List Oper} {o:Oper} {a:Act} {Q:Exit→Act→World→Prop} {w w':World} {t u:TypeId} {m k:Value} (hgd:o.guard=none) (s x:Operand)
  (ho:o.op= .call {callee:=.builtin .delete,args:=#[s,x],argTypes:=#[t,u]}) (hs:a.eval s=m) (hx:a.eval x=k) (hr:(Builtin.delete_ #[t,u] o.type #[m,k]).run P w= .ok (.tuple #[]) w')
  (hres:wpList P ops Q rest (a.put o.dst (.tuple #[])) w'):wpList P ops Q (o::rest) a w:=by
 refine wpList_plain hgd fun K hK=>?_;unfold Oper.wp execOp;simp only[ho,resolve,invoke,builtin,Sem.run_bind,Sem.run_pure,Result.andThen_ok,List.map_toArray,List.map_cons,List.map_nil,hs,hx,hr];exact hK _ _ hres
theorem scaway_any (base b pw ps:Nat) (PV:Value) (w:World) (a:Sc) (bk bg:Nat) (nm:ByteArray) (h:ScAt base b PV w a bk bg) (hw:w.cell? ⟨pw,0,none⟩=some (.pointer (some ⟨b,0,none⟩))) (hn:w.cell? ⟨ps,0,none⟩=some (.string nm)):
  Calls Tryz.prog 116 #[.pointer (some ⟨pw,0,none⟩),.pointer (some ⟨ps,0,none⟩)] w fun e w'=>e= .returned (.tuple #[])∧Fr (fun k=>k=bk) w w'∧ScAt base b PV w' (a.del nm) bk bg:=by
 have b2:=(Zc h.blk).1 2 _ rfl;have H:=Zh h;clear h;go_enter Tryz.func116,Tryz.ntmps116;go_wp2_with fail
 go_still_tail 5,(by kernel_rfl)
 change wpList _ _ _ _ _ w.drew
 have h1:=H.out.stay (Zf w).drew;obtain⟨w2,hr,hm,hf⟩:=h1.kn.del und78 undStr nm 0 9;rw[mdel_uset] at hm;refine wp_delete_run rfl (.tmp 5) (.tmp 6) rfl rfl rfl hr ?_;have hF:=(Zf w).drew.non.trans hf;have hne:=h1.bk_ne;have h2:ScAt base b PV w2 (a.del nm) bk bg:=⟨Zb h1.blk hf (Ne.symm hne.1),hm,h1.gi.fr hf (Ne.symm h1.ne),h1.ne,h1.hb,h1.hk,h1.hg⟩;clear hr hm hf hne;have H2:=Zh h2;clear h2 h1;have HF:=Zh hF;clear hF;go_wp2_with fail
 go_end0
 exact⟨rfl,HF.out,H2.out⟩
def AwayV (b:Nat) (w:World) (v:Value) (nm:ByteArray) (pw ps:Nat):Prop:=
 v= .func (.func 116) #[] #[.pointer (some ⟨pw,0,none⟩),.pointer (some ⟨ps,0,none⟩)]∧w.heap[pw]? =some (.cells #[.pointer (some ⟨b,0,none⟩)] 76 (0,0))∧w.heap[ps]? =some (.cells #[.string nm] 9 (0,0))
def GiveR (base b:Nat) (PV:Value) (w:World) (a:Sc) (bk bg:Nat) (nm:ByteArray) (e:Ending) (w':World):Prop:=match a.give nm with
 | .error x=>e=faultP x∧Fr Non w w'
 | .ok a1=>∃v pw ps,e= .returned v∧AwayV b w' v nm pw ps∧w.heap.size≤pw∧w.heap.size≤ps∧Fr (SS b bk bg) w w'∧ScAt base b PV w' a1 bk bg
theorem scgive_any (base b:Nat) (PV:Value) (w:World) (a:Sc) (bk bg:Nat) (nm:ByteArray) (h:ScAt base b PV w a bk bg):
  Calls Tryz.prog 82 #[.pointer (some ⟨b,0,none⟩),.string nm] w (GiveR base b PV w a bk bg nm):=by
 obtain⟨W1,HW1⟩:∃W1,W1=(w.alloc (.cells #[.pointer (some ⟨b,0,none⟩)] 76)).alloc (.cells #[.string nm] 9):=⟨_,rfl⟩;have hf1:Fr Non w W1:=by rw[HW1];exact((Zf w).alloc _).alloc _
 have hsz:W1.heap.size=w.heap.size+2:=by rw[HW1];simp
 have xb0:W1.heap[w.heap.size]? =some (.cells #[.pointer (some ⟨b,0,none⟩)] 76 (0,0)):=by rw[HW1];exact Zb (blk_new _ _ _) ((Zf _).alloc _) (non _)
 have xb1:W1.heap[w.heap.size+1]? =some (.cells #[.string nm] 9 (0,0)):=by rw[HW1];exact blk_new' (by simp) _ _
 have x0:=(Zc xb0).1 0 _ rfl;have x1:=(Zc xb1).1 0 _ rfl;have XB0:=Zh xb0;clear xb0;have XB1:=Zh xb1;clear xb1;have h1:=h.stay hf1;have b3:=(Zc h1.blk).1 3 _ rfl;have hl1:=((h1.stay (Zf W1).drew).gi.look und78 undStr zeroU nm).1;have hl2:=fun o=>(((h1.stay ((Zf W1).alloc o).drew).gi.look und78 undStr zeroU nm)).1;have lt0:w.heap.size<W1.heap.size:=by omega
 have lt1:w.heap.size+1<W1.heap.size:=by omega
 have lt2:b<W1.heap.size:=blk_lt h1.blk;simp only[mhas_uset,mget_uset,unitV] at hl1 hl2;have H:=Zh h;clear h;have H1:=Zh h1;clear h1;have HF1:=Zh hf1;clear hf1;have HSZ:=Zh hsz;clear hsz;generalize hq:inM a.gi nm=q at*;have HQ:=Zh hq;clear hq;go_enter Tryz.func82,Tryz.ntmps82;go_wp2_with fail;rw[←HW1];clear HW1
 go_region
 obtain⟨W2,HW2⟩:∃W2,W2=(W1.alloc (.cells #[] 158)).drew:=⟨_,rfl⟩;rw[←HW2];have hf2:Fr Non W1 W2:=by rw[HW2];exact((Zf W1).alloc _).drew
 clear HW2;have h2:=H1.out.stay hf2;have y0:=hf2.cell' x0 (non _);have y1:=hf2.cell' x1 (non _);have YB0:=Zh (Zb XB0.out hf2 (non _));have YB1:=Zh (Zb XB1.out hf2 (non _));have HF2:=Zh (HF1.out.trans hf2);have b1:=(Zc h2.blk).1 1 _ rfl;have b2:=(Zc h2.blk).1 2 _ rfl;have b3:=(Zc h2.blk).1 3 _ rfl;have hb0:=blk_lt H.out.blk;have H2:=Zh h2;clear h2;clear hl1 hl2 x0 x1 lt0 lt1 lt2 hf2;cases q with
 |true=>
  go_wp2_with fail;refine(scbad_any base b PV W2 a bk bg 9 b1).mono ?_;rintro e w' ⟨rfl,rfl⟩;unfold Sc.err faultP;go_wp2_with fail;refine⟨rfl,?_⟩;unfold GiveR Sc.give;rw[HQ.out];exact⟨rfl,HF2.out⟩
 |false=>
  have h2d:=H2.out.stay (Zf W2).drew;have hne:=h2d.bk_ne;obtain⟨v0,st0,W3,es0,cl0,hm0,hb0',hfr0,hst0⟩:=h2d.gi.entry und78 undStr zeroU nm;obtain⟨W4,hs0,hgi,hfr0'⟩:=hst0 W3 unitV hb0';have hfg:=hfr0.trans hfr0';have hkn4:=h2d.kn.fr hfg h2d.ne;obtain⟨v1,st1,W5,es1,cl1,hm1,hb1',hfr1,hst1⟩:=hkn4.entry und78 undStr zeroU nm;obtain⟨W6,hs1,hkn,hfr1'⟩:=hst1 W5 unitV hb1';have hfk:=hfr1.trans hfr1';have hB1:w.heap.size≠bg∧w.heap.size+1≠bg∧w.heap.size≠bk∧w.heap.size+1≠bk:=by
   have h1:=(H.out.lt bg (.inr (.inr rfl))).2;have h2:=(H.out.lt bk (.inr (.inl rfl))).2;omega
  have z1:=hfr0.cell' (show W2.drew.cell? ⟨w.heap.size+1,0,none⟩=some (.string nm) from y1) hB1.2.1;have z2:=hfr0'.cell' z1 hB1.2.1;have u0:=Zb (Zb (Zb YB0.out (Zf W2).drew (non _)) hfg hB1.1) hfk hB1.2.2.1;have u1:=Zb (Zb (Zb YB1.out (Zf W2).drew (non _)) hfg hB1.2.1) hfk hB1.2.2.2;have h6:ScAt base b PV W6 ⟨addN a.kn nm,addN a.gi nm,a.n⟩ bk bg:=by
   rw[mput_uset] at hgi hkn;exact⟨Zb (Zb h2d.blk hfg (Ne.symm hne.2)) hfk (Ne.symm hne.1),hkn,hgi.fr hfk (Ne.symm h2d.ne),h2d.ne,h2d.hb,h2d.hk,h2d.hg⟩
  have hF6:Fr (SS b bk bg) w W6:=(((HF2.out.trans (Zf W2).drew).non).trans (hfg.mono fun _ _ h=>.inr (.inr h))).trans (hfk.mono fun _ _ h=>.inr (.inl h));have H6:=Zh h6;clear h6;have HF6:=Zh hF6;clear hF6;have U0:=Zh u0;clear u0;have U1:=Zh u1;clear u1;clear hfg hfk hfr0 hfr0' hfr1 hfr1' hgi hkn hkn4 hst0 hst1 hb0' hb1' hne hB1 h2d;simp only[unitV,goInt] at hs0 hs1 hm0 hm1;go_wp2_with fail
  go_region
  clear hm0 hm1 hs0 hs1 z1 z2 y0 y1 b1 b2 b3;have hmf:∀(fn:Fn) (first cap:Array Value) (w:World),(Instr.makeFunc fn first cap).run Tryz.prog w= .ok (.func fn first cap) w:=fun _ _ _ _=>rfl;go_wp2_with fail;go_ret;unfold GiveR Sc.give;rw[HQ.out];exact⟨_,_,_,rfl,⟨rfl,U0.out,U1.out⟩,Nat.le_refl _,Nat.le_succ _,HF6.out,H6.out⟩
abbrev fuV (f:Fu) (A1 A2 A3:Option Addr) (c1 c2 c3:Nat):Value:=.agg #[.string f.name,.slice A1 f.params.length c1,.slice A2 f.body.length c2,.bool f.sec,.slice A3 f.ret.length c3]
theorem stmtf_any (f:Fu) (A1 A2 A3:Option Addr) (c1 c2 c3 bs:Nat) (fr:ByteArray) (w:World) (h:w.cell? ⟨bs,2,none⟩=some (.string fr)):
  Calls Tryz.prog 118 #[fuV f A1 A2 A3 c1 c2 c3,.pointer (some ⟨bs,0,none⟩)] w fun e w'=>e= .returned (.bool (sq f.name fr))∧Fr Non w w':=by
 have hlt:=World.block_lt_of_cell? w _ h;go_enter Tryz.func118,Tryz.ntmps118;go_wp2_with fail;go_ret;exact⟨ret_bool (tosq _ _),(Zf w).alloc _⟩
theorem funf_any (f:Fu) (A1 A2 A3:Option Addr) (c1 c2 c3 bs:Nat) (fr:ByteArray) (w:World) (h:w.cell? ⟨bs,0,none⟩=some (.string fr)):
  Calls Tryz.prog 80 #[fuV f A1 A2 A3 c1 c2 c3,.pointer (some ⟨bs,0,none⟩)] w fun e w'=>e= .returned (.bool (sq f.name fr))∧Fr Non w w':=by
 have hlt:=World.block_lt_of_cell? w _ h;go_enter Tryz.func80,Tryz.ntmps80;go_wp2_with fail;go_ret;exact⟨ret_bool (tosq _ _),(Zf w).alloc _⟩
theorem ixfn_any (K:FuncId) (hK:∀(args:Array Value) (w:World),(callFunc K args).run Tryz.prog w= .ok (.enter K args) w) (cap:Array Value) (p:Fu→Bool) (l:List Fu) (F:Nat) (hF:F≤l.length) (ok:Nat→Prop) (A:Option Addr) (c:Nat) (w:World) (hr:RdRows ok w 5 A 0 (l.map Fu.d)) (hc:l.length*96≤reach)
  (hcl:∀(f:Fu) (A1 A2 A3:Option Addr) (c1 c2 c3:Nat) (w1:World),Fr Non w w1→Calls Tryz.prog K (#[fuV f A1 A2 A3 c1 c2 c3]++cap) w1 fun e w'=>e= .returned (.bool (p f))∧Fr Non w1 w'):
  Calls Tryz.prog 115 #[.slice A F c,.func (.func K) #[] cap] w fun e w'=>(∃i:Int,e= .returned (.int .i64 i)∧decide (0≤i)=(l.take F).any p)∧Fr Non w w':=by
 have hlen:l.length≤140737488355328:=by unfold reach at hc;omega
 have HR:=Zh hr;clear hr;have HC:=Zh hcl;clear hcl;go_enter Tryz.func115,Tryz.ntmps115;go_wp2_with fail
 go_loopw [8] (fun i wr=>∃k:Nat,i= .int .i64 k∧k≤F∧Fr Non w wr∧∀j,j<k→∀hj:j<l.length,p l[j]=false) (fun i _=>F-(intOf i).toNat)
 case atStart=>exact⟨0,rfl,by omega,Zf w,fun j hj=>by omega⟩
 case round=>
  obtain⟨k,rfl,hk,hfr,hno⟩:=hrel;have HN:=Zh hno;clear hno;have hrr:=HR.out.fr hfr (fun _ _=>non _) (fun _ h=>h);have HF:=Zh hfr;clear hfr;by_cases hlt:k<F
  ·obtain⟨g,o,A1,c1,A2,c2,A3,c3,rfl,hd,e0,e1,e2,e3,e4,_⟩:=at_fu hrr k (by omega);clear hrr;go_wp2_with fail;refine(HC.out l[k] A1 A2 A3 c1 c2 c3 wr HF.out).mono ?_;rintro e w2 ⟨rfl,hf2⟩;generalize hp:p l[k]=q;have HP:=Zh hp;clear hp;cases q with
   |true=>
    go_wp2_with fail;go_ret;refine⟨⟨_,rfl,?_⟩,HF.out.trans hf2⟩;rw[any_true_of (l:=l.take F) k (by rw[List.length_take];omega) (by rw[List.getElem_take];exact HP.out)];simp
   |false=>
    go_wp2_with fail;go_roundw
    case rel=>exact⟨k+1,by go_num,by omega,HF.out.trans hf2,till HN.out fun _=>HP.out⟩
    case measure=>simp[intOf];omega
  ·go_wp2_with fail;go_ret;refine⟨⟨_,rfl,?_⟩,HF.out⟩;rw[any_false_of (l:=l.take F) fun j hj=>by rw[List.length_take] at hj;rw[List.getElem_take];exact HN.out j (by omega) (by omega)];rfl
theorem cofn_any (K:FuncId) (hK:∀(args:Array Value) (w:World),(callFunc K args).run Tryz.prog w= .ok (.enter K args) w) (cap:Array Value) (p:Fu→Bool) (l:List Fu) (F:Nat) (hF:F≤l.length) (ok:Nat→Prop) (A:Option Addr) (c:Nat) (w:World) (hr:RdRows ok w 5 A 0 (l.map Fu.d)) (hc:l.length*96≤reach)
  (hcl:∀(f:Fu) (A1 A2 A3:Option Addr) (c1 c2 c3:Nat) (w1:World),Fr Non w w1→Calls Tryz.prog K (#[fuV f A1 A2 A3 c1 c2 c3]++cap) w1 fun e w'=>e= .returned (.bool (p f))∧Fr Non w1 w'):
  Calls Tryz.prog 79 #[.slice A F c,.func (.func K) #[] cap] w fun e w'=>e= .returned (.bool ((l.take F).any p))∧Fr Non w w':=by
 have h:=ixfn_any K hK cap p l F hF ok A c w hr hc hcl;clear hcl hK;have H:=Zh h;clear h;go_enter Tryz.func79,Tryz.ntmps79;go_wp2_with fail;refine H.out.mono ?_;rintro e w2 ⟨⟨i,rfl,hi⟩,hf2⟩;have HI:=Zh hi;clear hi;go_wp2_with fail;go_ret;exact⟨ret_bool HI.out,hf2⟩
theorem enter128:∀(args:Array Value) (w:World),(callFunc 118 args).run Tryz.prog w= .ok (.enter 118 args) w:=fun _ _=>by kernel_rfl
theorem enter90:∀(args:Array Value) (w:World),(callFunc 80 args).run Tryz.prog w= .ok (.enter 80 args) w:=fun _ _=>by kernel_rfl
theorem called_any (l:List Fu) (F bs:Nat) (hF:F≤l.length) (ok:Nat→Prop) (A:Option Addr) (c:Nat) (fr:ByteArray) (w:World) (hr:RdRows ok w 5 A 0 (l.map Fu.d)) (hc:l.length*96≤reach) (h:w.cell? ⟨bs,2,none⟩=some (.string fr)):
  Calls Tryz.prog 79 #[.slice A F c,.func (.func 118) #[] #[.pointer (some ⟨bs,0,none⟩)]] w fun e w'=>e= .returned (.bool ((l.take F).any fun f=>sq f.name fr))∧Fr Non w w':=
 cofn_any _ enter128 _ (fun f=>sq f.name fr) l F hF ok A c w hr hc fun f A1 A2 A3 c1 c2 c3 w1 hf=>stmtf_any f A1 A2 A3 c1 c2 c3 bs fr w1 (hf.cell' h (non _))
theorem named_ahead_any (l:List Fu) (F bs:Nat) (hF:F≤l.length) (ok:Nat→Prop) (A:Option Addr) (c:Nat) (fr:ByteArray) (w:World) (hr:RdRows ok w 5 A 0 (l.map Fu.d)) (hc:l.length*96≤reach) (h:w.cell? ⟨bs,0,none⟩=some (.string fr)):
  Calls Tryz.prog 79 #[.slice A F c,.func (.func 80) #[] #[.pointer (some ⟨bs,0,none⟩)]] w fun e w'=>e= .returned (.bool ((l.take F).any fun f=>sq f.name fr))∧Fr Non w w':=
 cofn_any _ enter90 _ (fun f=>sq f.name fr) l F hF ok A c w hr hc fun f A1 A2 A3 c1 c2 c3 w1 hf=>funf_any f A1 A2 A3 c1 c2 c3 bs fr w1 (hf.cell' h (non _))
theorem app_fn {ops:Array Oper} {rest:List Oper} {o:Oper} {a:Act} {Q:Exit→Act→World→Prop} {w:World} (hgd:o.guard=none) (s x:Operand)
  (ho:o.op= .call {callee:=.builtin .append,args:=#[s,x],argTypes:=#[125,125]})
  (base:Nat) (v:Value) (xs:List Value) (hs:a.eval s=v) (hown:w.ownsRow base 1 1 v xs.length xs)
  (A:Option Addr) (c:Nat) (ys:List Value) (hx:a.eval x= .slice A ys.length c) (hcell:∀j u,ys[j]? =some u→∃ad,A=some ad∧w.cell? (ad.add j)=some u) (h1:∀u∈ys,u.oneCell'=true)
  (hb1:xs.length≤1099511627776) (hb2:ys.length≤1099511627776) (hbase:base≤w.heap.size)
  (h:∀v' w',w'.ownsRow base 1 1 v' (xs++ys).length (xs++ys)→Fr (fun k=>base≤k∧v.ownBlock=some k) w w'→wpList Tryz.prog ops Q rest (a.put o.dst v') w'):wpList Tryz.prog ops Q (o::rest) a w:=by
 have hi:(Tryz.prog.info? 1).map (fun i=>(i.zero,i.size,i.bytes))=some (some .nilFunc,1,8):=by kernel_rfl
 have ht:Tryz.prog.underlying 125=some (.slice 1):=by kernel_rfl
 obtain⟨i0,h0,hz1,hz2,hz3⟩:=info_parts hi;cases A with
 |none=>
  have hne:ys=[]:=by
   cases ys with
   |nil=>rfl
   |cons y ys=>obtain⟨ad,e,_⟩:=hcell 0 y rfl;cases e
  subst hne;have hr:(Builtin.append_ #[125,125] o.type #[v,.slice none ([]:List Value).length c]).run Tryz.prog w= .ok v w:=by
   rcases hown.2 with⟨rfl,h9⟩|⟨g,cap,cur,rfl,_,_,hnc,_⟩
   ·simp[Builtin.append_,run_underlying ht,sizeOf,typeInfo,h0,Builtin.lenOf,Builtin.firstCells]
   ·simp[Builtin.append_,run_underlying ht,sizeOf,typeInfo,h0,Builtin.lenOf,Builtin.firstCells,hnc,storeCells]
  exact wp_append_run hgd s x ho hs hx hr (h v w (by rw[List.append_nil];exact hown) (Fr.refl _ _))
 |some ad=>
  have hce:∀j u,ys[j]? =some u→w.cell? (ad.add j)=some u:=fun j u hu=>by
   obtain⟨ad',e,hc⟩:=hcell j u hu;cases e;exact hc
  obtain⟨v',w',hr,hrow',hg,hwh⟩:=run_append_where (P:=Tryz.prog) w base 125 o.type 1 i0 .nilFunc 1 8 ht h0 hz1 hz2 hz3 rfl (by decide) v xs.length xs hown ad ys.length c ys (by omega) hce h1 (by unfold maxLen;omega) (by omega) hbase;have hfr:Fr (fun k=>base≤k∧v.ownBlock=some k) w w':=⟨hg.os,hg.tape,hg.output,hg.size,fun k hk hn=>hg.block k hk fun e=>hn ⟨(hown.lt k e.symm).1,e.symm⟩⟩;exact wp_append_run hgd s x ho hs hx hr (h v' w' (by rw[List.length_append];exact hrow') hfr)
def AwL (b B:Nat) (w:World) (v:Value) (aw:List ByteArray):Prop:=
 ∃vs:List Value,w.ownsRow B 1 1 v vs.length vs∧vs.length=aw.length∧∀i (h:i<aw.length),∃x pw ps,vs[i]? =some x∧AwayV b w x aw[i] pw ps∧B≤pw∧B≤ps
theorem AwL.nil (b B:Nat) (w:World):AwL b B w (.slice none 0 0) []:=⟨[],World.ownsRow_nil _ _ _ _,rfl,fun i h=>by simp at h⟩
theorem AwayV.fr {b:Nat} {w w':World} {v:Value} {nm:ByteArray} {pw ps:Nat} {S:Nat→Prop} (h:AwayV b w v nm pw ps) (hf:Fr S w w') (h1:¬S pw) (h2:¬S ps):AwayV b w' v nm pw ps:=
 ⟨h.1,Zb h.2.1 hf h1,Zb h.2.2 hf h2⟩
theorem AwL.fr {b B:Nat} {w w':World} {v:Value} {aw:List ByteArray} {S:Nat→Prop} (h:AwL b B w v aw) (hf:Fr S w w') (hs:∀k,B≤k→¬S k):AwL b B w' v aw:=by
 obtain⟨vs,h1,h2,h3⟩:=h;refine⟨vs,ownsRow_fr h1 hf hs,h2,fun i hi=>?_⟩;obtain⟨x,pw,ps,g1,g2,g3,g4⟩:=h3 i hi;exact⟨x,pw,ps,g1,g2.fr hf (hs _ g3) (hs _ g4),g3,g4⟩
theorem AwL.mono {b B B':Nat} {w:World} {v:Value} {aw:List ByteArray} (h:AwL b B w v aw) (hB:B'≤B):AwL b B' w v aw:=by
 obtain⟨vs,h1,h2,h3⟩:=h;refine⟨vs,?_,h2,fun i hi=>?_⟩
 ·obtain⟨p1,p2⟩:=h1;refine⟨p1,p2.imp id ?_⟩;rintro⟨g,cap,cur,q1,q2,q3⟩;exact⟨g,cap,cur,q1,Nat.le_trans hB q2,q3⟩
 ·obtain⟨x,pw,ps,g1,g2,g3,g4⟩:=h3 i hi;exact⟨x,pw,ps,g1,g2,Nat.le_trans hB g3,Nat.le_trans hB g4⟩
theorem AwL.slice {b B:Nat} {w:World} {v:Value} {aw:List ByteArray} (h:AwL b B w v aw):∃A c,v= .slice A aw.length c∧aw.length≤c:=by
 obtain⟨vs,h1,h2,_⟩:=h;obtain⟨A,c,e,hc⟩:=row_slice h1;rw[h2] at e hc;exact⟨A,c,e,hc⟩
theorem away_ne {b B:Nat} {w:World} {x:Value} {nm:ByteArray} {pw ps:Nat} {v:Value} {n:Nat} {xs:List Value} (h:AwayV b w x nm pw ps) (ho:w.ownsRow B 1 1 v n xs):v.ownBlock≠some pw∧v.ownBlock≠some ps:=by
 rcases ho.2 with⟨rfl,_⟩|⟨g,cap,cur,rfl,_,hg,_⟩
 ·exact⟨fun e=>(by cases e),fun e=>(by cases e)⟩
 ·constructor
  ·intro e;cases e;rw[h.2.1] at hg;cases hg
  ·intro e;cases e;rw[h.2.2] at hg;cases hg
theorem AwL.at {b B:Nat} {w:World} {A:Option Addr} {c n:Nat} {aw:List ByteArray} (h:AwL b B w (.slice A n c) aw) (i:Nat) (hi:i<aw.length):
  ∃g pw ps,A=some ⟨g,0,none⟩∧w.cell? ⟨g,i,none⟩=some (.func (.func 116) #[] #[.pointer (some ⟨pw,0,none⟩),.pointer (some ⟨ps,0,none⟩)])∧
   w.cell? ⟨pw,0,none⟩=some (.pointer (some ⟨b,0,none⟩))∧w.cell? ⟨ps,0,none⟩=some (.string aw[i]):=by
 obtain⟨vs,h1,h2,h3⟩:=h;obtain⟨x,pw,ps,g1,⟨rfl,g2,g3⟩,_⟩:=h3 i hi;obtain⟨A',c',e,_⟩:=row_slice h1;cases e;obtain⟨g,rfl,_,hc⟩:=row_at h1 (by omega);exact⟨g,pw,ps,rfl,(hc i _ g1).1,(Zc g2).1 0 _ rfl,(Zc g3).1 0 _ rfl⟩
mutual
theorem scStmt_n (P:List Fu) (F:Nat):∀(st:St) (a a1:Sc) (aw:List ByteArray),scStmt P F st a= .ok (a1,aw)→a.n≤a1.n∧a1.n+1≤a.n+st.size∧aw.length≤1
 | .mk k nm fr sec mt ex args body els,a,a1,aw,h=>by
   unfold scStmt at h;split at h
   ·cases h
   ·cases hg:a.gives k nm with
    |error x=>rw[hg] at h;cases h
    |ok p=>
     obtain⟨a2,aw2⟩:=p;rw[hg] at h;have hn:a2.n=a.n∧aw2.length≤1:=by
      unfold Sc.gives at hg;split at hg
      ·cases hg;exact⟨rfl,by simp⟩
      ·unfold Sc.give at hg;split at hg
       ·cases hg
       ·rename_i h9;split at h9
        ·cases h9
        ·cases h9;cases hg;exact⟨rfl,by simp⟩
     simp only at h;cases h3:scStmts P F body a2 [] with
     |error x=>rw[h3] at h;cases h
     |ok p=>
      obtain⟨a3,aw3⟩:=p;rw[h3] at h;have g3:=scStmts_n P F body a2 a3 [] aw3 h3;simp only at h;cases h4:scStmts P F els (a3.dels aw3) [] with
      |error x=>rw[h4] at h;cases h
      |ok p=>
       obtain⟨a4,aw4⟩:=p;rw[h4] at h;have g4:=scStmts_n P F els _ a4 [] aw4 h4;rw[(dels_gi aw3 a3).2] at g4;simp only at h;simp only[St.size];split at h
       ·cases h;have:((a4.dels aw4).del nm).n=a4.n:=(dels_gi aw4 a4).2;rw[this];refine⟨by omega,by omega,by simp⟩
       ·cases h;rw[(dels_gi aw4 a4).2];exact⟨by omega,by omega,hn.2⟩
theorem scStmts_n (P:List Fu) (F:Nat):∀(l:List St) (a a1:Sc) (aw aw1:List ByteArray),scStmts P F l a aw= .ok (a1,aw1)→a.n≤a1.n∧a1.n≤a.n+St.sizes l∧aw1.length≤aw.length+St.sizes l
 |[],a,a1,aw,aw1,h=>by cases h;simp[St.sizes]
 |x::l,a,a1,aw,aw1,h=>by
  unfold scStmts at h;cases h2:scStmt P F x ⟨a.kn,a.gi,a.n+1⟩ with
  |error x=>rw[h2] at h;cases h
  |ok p=>
   obtain⟨a2,aw2⟩:=p;rw[h2] at h;have g2:=scStmt_n P F x _ a2 aw2 h2;have g1:=scStmts_n P F l a2 a1 _ aw1 h;simp only at g2;simp only[St.sizes,List.length_append] at g1 ⊢;have:1≤x.size:=by cases x;simp only[St.size];omega
   omega
end
theorem scStmts_snoc (P:List Fu) (F:Nat) (x:St):∀(l:List St) (a:Sc) (aw:List ByteArray),scStmts P F (l++[x]) a aw=match scStmts P F l a aw with
  | .error x=>.error x
  | .ok (a1,aw1)=>match scStmt P F x ⟨a1.kn,a1.gi,a1.n+1⟩ with
    | .error x=>.error x
    | .ok (a2,aw2)=>.ok (a2,aw1++aw2)
 |[],a,aw=>by
  simp only[List.nil_append,scStmts]
  try (cases scStmt P F x ⟨a.kn,a.gi,a.n+1⟩<;>rfl)
 |y::l,a,aw=>by
  simp only[List.cons_append,scStmts];cases scStmt P F y ⟨a.kn,a.gi,a.n+1⟩ with
  |error x=>rfl
  |ok p=>exact scStmts_snoc P F x l p.1 (aw++p.2)
theorem scStmts_err (P:List Fu) (F:Nat) (r:List St):∀(l:List St) (a:Sc) (aw:List ByteArray) (x:Int×Int),scStmts P F l a aw= .error x→scStmts P F (l++r) a aw= .error x
 |[],a,aw,x,h=>by cases h
 |y::l,a,aw,x,h=>by
  simp only[List.cons_append,scStmts] at h ⊢;cases h2:scStmt P F y ⟨a.kn,a.gi,a.n+1⟩ with
  |error z=>rw[h2] at h;exact h
  |ok p=>rw[h2] at h;exact scStmts_err P F r l p.1 (aw++p.2) x h
abbrev stV (s:St) (A1 A2 A3 A4:Option Addr) (c1 c2 c3 c4:Nat):Value:=.agg #[vu8 s.kind,.string s.name,.string s.frm,.bool s.sec,.bool s.mt,.slice A1 s.ex.length c1,.slice A2 s.args.length c2,.slice A3 s.body.length c3,.slice A4 s.els.length c4]
def StR (base b:Nat) (PV:Value) (w:World) (bk bg:Nat) (r:Except (Int×Int) (Sc×List ByteArray)) (e:Ending) (w':World):Prop:=match r with
 | .error x=>e= .panicked [{v:=faultV x.1 x.2,recovered:=false}]∧Fr (SS b bk bg) w w'
 | .ok (a1,aw)=>∃v,e= .returned v∧AwL b w.heap.size w' v aw∧Fr (SS b bk bg) w w'∧ScAt base b PV w' a1 bk bg
def BlR (base b:Nat) (PV:Value) (w:World) (bk bg:Nat) (r:Except (Int×Int) Sc) (e:Ending) (w':World):Prop:=match r with
 | .error x=>e= .panicked [{v:=faultV x.1 x.2,recovered:=false}]∧Fr (SS b bk bg) w w'
 | .ok a1=>e= .returned (.tuple #[])∧Fr (SS b bk bg) w w'∧ScAt base b PV w' a1 bk bg
structure StRd (ok:Nat→Prop) (w:World) (s:St) (A1 A2 A3 A4:Option Addr) (c1 c2 c3 c4:Nat):Prop where
 ex:s.ex.length≤c1∧s.ex.length*64≤reach∧RdRows ok w 5 A1 0 (Ex.ds s.ex)
 args:s.args.length≤c2∧s.args.length*16≤reach∧RdRows ok w 1 A2 0 (s.args.map strD)
 body:s.body.length≤c3∧s.body.length*144≤reach∧RdRows ok w 9 A3 0 (St.ds s.body)
 els:s.els.length≤c4∧s.els.length*144≤reach∧RdRows ok w 9 A4 0 (St.ds s.els)
theorem StRd.fr {ok:Nat→Prop} {w w':World} {s:St} {A1 A2 A3 A4:Option Addr} {c1 c2 c3 c4:Nat} {S:Nat→Prop} (h:StRd ok w s A1 A2 A3 A4 c1 c2 c3 c4) (hf:Fr S w w') (hs:∀q,ok q→¬S q):StRd ok w' s A1 A2 A3 A4 c1 c2 c3 c4:=
 ⟨⟨h.ex.1,h.ex.2.1,h.ex.2.2.fr hf hs fun _ h=>h⟩,⟨h.args.1,h.args.2.1,h.args.2.2.fr hf hs fun _ h=>h⟩,⟨h.body.1,h.body.2.1,h.body.2.2.fr hf hs fun _ h=>h⟩,⟨h.els.1,h.els.2.1,h.els.2.2.fr hf hs fun _ h=>h⟩⟩
structure ScP (base:Nat) (ok:Nat→Prop) (PA:Option Addr) (pc:Nat) (P:List Fu) (F:Nat) (w:World):Prop where
 rows:RdRows ok w 5 PA 0 (P.map Fu.d)
 hc:P.length*96≤reach
 hF:F<P.length
 hpc:P.length≤pc
 hok:∀q,ok q→q<base
theorem ScP.fr {base:Nat} {ok:Nat→Prop} {PA:Option Addr} {pc:Nat} {P:List Fu} {F:Nat} {w w':World} {S:Nat→Prop} (h:ScP base ok PA pc P F w) (hf:Fr S w w') (hs:∀q,ok q→¬S q):ScP base ok PA pc P F w':=
 ⟨h.rows.fr hf hs fun _ h=>h,h.hc,h.hF,h.hpc,h.hok⟩
def BlC (base b bk bg:Nat) (ok:Nat→Prop) (PA:Option Addr) (pc:Nat) (P:List Fu) (F:Nat) (N:Nat):Prop:=
 ∀(l:List St) (d:Nat) (A:Option Addr) (c:Nat) (w:World) (a:Sc),St.sizes l≤N→St.oks l d=true→RdRows ok w 9 A 0 (St.ds l)→l.length*144≤reach→0≤a.n→a.n+St.sizes l≤1099511627776→
  ScAt base b (.slice PA P.length pc) w a bk bg→ScP base ok PA pc P F w→
  Calls Tryz.prog 119 #[.pointer (some ⟨b,0,none⟩),.slice A l.length c,.int .i64 F] w (BlR base b (.slice PA P.length pc) w bk bg (scDels (scStmts P F l a [])))
def StC (base b bk bg:Nat) (ok:Nat→Prop) (PA:Option Addr) (pc:Nat) (P:List Fu) (F:Nat) (N:Nat):Prop:=
 ∀(s:St) (d:Nat) (A1 A2 A3 A4:Option Addr) (c1 c2 c3 c4:Nat) (w:World) (a:Sc),s.size≤N→St.ok s d=true→StRd ok w s A1 A2 A3 A4 c1 c2 c3 c4→0≤a.n→a.n+s.size≤1099511627777→
  ScAt base b (.slice PA P.length pc) w a bk bg→ScP base ok PA pc P F w→
  Calls Tryz.prog 83 #[.pointer (some ⟨b,0,none⟩),stV s A1 A2 A3 A4 c1 c2 c3 c4,.int .i64 F] w (StR base b (.slice PA P.length pc) w bk bg (scStmt P F s a))
theorem sc_form (s:St) (d:Nat) (h:St.ok s d=true):formM (.mk s.kind s.name s.frm s.sec s.mt s.ex s.args s.body s.els)=true:=by
 rw[St.ok_eq] at h;simp only[Bool.and_eq_true] at h;obtain⟨k,nm,fr,sec,mt,ex,args,body,els⟩:=s;exact h.1.1.2
def scRest (P:List Fu) (F:Nat) (k:UInt8) (nm:ByteArray) (body els:List St) (a:Sc):Except (Int×Int) (Sc×List ByteArray):=match a.gives k nm with
 | .error x=>.error x
 | .ok (a1,aw)=>match scDels (scStmts P F body a1 []) with
   | .error x=>.error x
   | .ok a2=>match scDels (scStmts P F els a2 []) with
     | .error x=>.error x
     | .ok a3=>if k.toNat==7||k.toNat==8 then .ok (a3.del nm,[]) else .ok (a3,aw)
theorem sc_mk (P:List Fu) (F:Nat) (k:UInt8) (nm fr:ByteArray) (sec mt:Bool) (ex:List Ex) (args:List ByteArray) (body els:List St) (a:Sc):scStmt P F (.mk k nm fr sec mt ex args body els) a=if !scHead P F (inM a.kn) k nm fr ex args then .error (a.n,3) else scRest P F k nm body els a:=by
 unfold scStmt scRest;cases scHead P F (inM a.kn) k nm fr ex args with
 |false=>rfl
 |true=>
  simp only[Bool.not_true,Bool.false_eq_true,if_false];cases a.gives k nm with
  |error x=>rfl
  |ok p=>
   obtain⟨a1,aw⟩:=p;simp only;cases scStmts P F body a1 [] with
   |error x=>rfl
   |ok p=>
    obtain⟨a2,aw2⟩:=p;simp only[scDels];cases scStmts P F els (a2.dels aw2) [] with
    |error x=>rfl
    |ok p=>rfl
theorem sc_eq (P:List Fu) (F:Nat) (s:St) (a:Sc):scStmt P F s a=if !scHead P F (inM a.kn) s.kind s.name s.frm s.ex s.args then .error (a.n,3) else scRest P F s.kind s.name s.body s.els a:=by
 obtain⟨k,nm,fr,sec,mt,ex,args,body,els⟩:=s;exact sc_mk P F k nm fr sec mt ex args body els a
theorem sc_err1 (P:List Fu) (F:Nat) (s:St) (a:Sc) (h:scHead P F (inM a.kn) s.kind s.name s.frm s.ex s.args=false):scStmt P F s a= .error (a.n,3):=by
 rw[sc_eq,h];rfl
theorem sc_ok1 (P:List Fu) (F:Nat) (s:St) (a:Sc) (h:scHead P F (inM a.kn) s.kind s.name s.frm s.ex s.args=true):scStmt P F s a=scRest P F s.kind s.name s.body s.els a:=by
 rw[sc_eq,h];rfl
theorem rest_24 (P:List Fu) (F:Nat) (k:UInt8) (nm fr:ByteArray) (ex:List Ex) (args:List ByteArray) (body els:List St) (a:Sc) (hff:FormF k nm fr ex args body els) (h:k.toNat=2∨k.toNat=4):scRest P F k nm body els a= .ok (a,[]):=by
 obtain rfl:body=[]:=hff.body.resolve_right (by omega);obtain rfl:els=[]:=hff.els.resolve_right (by omega);have hg:a.gives k nm= .ok (a,[]):=by
  unfold Sc.gives;rw[if_pos];rcases h with h|h<;>simp[h]
 unfold scRest;rw[hg];simp only[scStmts,scDels,Sc.dels,List.foldl];rw[if_neg];rcases h with h|h<;>simp[h]
theorem gives_emp {a:Sc} {k:UInt8} {nm:ByteArray} (h:emp nm=true):a.gives k nm= .ok (a,[]):=by
 unfold Sc.gives;rw[if_pos];simp[h]
theorem gives_err {a:Sc} {k:UInt8} {nm:ByteArray} {x:Int×Int} (h:emp nm=false) (h2:k.toNat≠2) (h4:k.toNat≠4) (hg:a.give nm= .error x):a.gives k nm= .error x:=by
 unfold Sc.gives;rw[if_neg (by simp[h,h2,h4]),hg]
theorem gives_ok {a a1:Sc} {k:UInt8} {nm:ByteArray} (h:emp nm=false) (h2:k.toNat≠2) (h4:k.toNat≠4) (hg:a.give nm= .ok a1):a.gives k nm= .ok (a1,[nm]):=by
 unfold Sc.gives;rw[if_neg (by simp[h,h2,h4]),hg]
theorem rest_e1 {P:List Fu} {F:Nat} {k:UInt8} {nm:ByteArray} {body els:List St} {a:Sc} {x:Int×Int} (h:a.gives k nm= .error x):scRest P F k nm body els a= .error x:=by
 unfold scRest;rw[h]
theorem rest_e2 {P:List Fu} {F:Nat} {k:UInt8} {nm:ByteArray} {body els:List St} {a a1:Sc} {aw:List ByteArray} {x:Int×Int} (h:a.gives k nm= .ok (a1,aw)) (h2:scDels (scStmts P F body a1 [])= .error x):scRest P F k nm body els a= .error x:=by
 unfold scRest;rw[h];simp only;rw[h2]
theorem rest_e3 {P:List Fu} {F:Nat} {k:UInt8} {nm:ByteArray} {body els:List St} {a a1 a2:Sc} {aw:List ByteArray} {x:Int×Int} (h:a.gives k nm= .ok (a1,aw)) (h2:scDels (scStmts P F body a1 [])= .ok a2) (h3:scDels (scStmts P F els a2 [])= .error x):scRest P F k nm body els a= .error x:=by
 unfold scRest;rw[h];simp only;rw[h2];simp only;rw[h3]
theorem rest_ok {P:List Fu} {F:Nat} {k:UInt8} {nm:ByteArray} {body els:List St} {a a1 a2 a3:Sc} {aw:List ByteArray} (h:a.gives k nm= .ok (a1,aw)) (h2:scDels (scStmts P F body a1 [])= .ok a2) (h3:scDels (scStmts P F els a2 [])= .ok a3):
  scRest P F k nm body els a=if k.toNat==7||k.toNat==8 then .ok (a3.del nm,[]) else .ok (a3,aw):=by
 unfold scRest;rw[h];simp only;rw[h2];simp only;rw[h3]
theorem gives_n {a a1:Sc} {k:UInt8} {nm:ByteArray} {aw:List ByteArray} (h:a.gives k nm= .ok (a1,aw)):a1.n=a.n:=by
 unfold Sc.gives at h;split at h
 ·cases h;rfl
 ·unfold Sc.give at h;split at h
  ·cases h
  ·rename_i h9;split at h9
   ·cases h9
   ·cases h9;cases h;rfl
theorem dels_n {P:List Fu} {F:Nat} {l:List St} {a a1:Sc} (h:scDels (scStmts P F l a [])= .ok a1):a.n≤a1.n∧a1.n≤a.n+St.sizes l:=by
 cases h2:scStmts P F l a [] with
 |error x=>rw[h2] at h;cases h
 |ok p=>
  rw[h2] at h;obtain⟨a2,aw2⟩:=p;cases h;have:=scStmts_n P F l a a2 [] aw2 h2;rw[(dels_gi aw2 a2).2];exact⟨this.1,this.2.1⟩
theorem scstmt_of (base b bk bg:Nat) (ok:Nat→Prop) (PA:Option Addr) (pc:Nat) (P:List Fu) (F:Nat) (N:Nat) (IH:BlC base b bk bg ok PA pc P F N):StC base b bk bg ok PA pc P F (N+1):=by
 intro s d A1 A2 A3 A4 c1 c2 c3 c4 w a hN hok hrd hn0 hn1 h hP;obtain⟨W0,HW0⟩:∃W0,W0=w.alloc (.cells #[vu8 s.kind,.string s.name,.string s.frm,.bool s.sec,.bool s.mt,.slice A1 s.ex.length c1,.slice A2 s.args.length c2,.slice A3 s.body.length c3,.slice A4 s.els.length c4] 42):=⟨_,rfl⟩;have hbx:W0.heap[w.heap.size]? =some (.cells #[vu8 s.kind,.string s.name,.string s.frm,.bool s.sec,.bool s.mt,.slice A1 s.ex.length c1,.slice A2 s.args.length c2,.slice A3 s.body.length c3,.slice A4 s.els.length c4] 42 (0,0)):=by rw[HW0];exact blk_new _ _ _
 have hf0:Fr Non w W0:=by rw[HW0];exact(Zf w).alloc _
 have g5:=(Zc hbx).1 5 _ rfl;have HB0:=Zh hbx;clear hbx;have H0:=Zh (h.stay hf0);have H:=Zh h;clear h;have HRD:=Zh hrd;clear hrd;have HP:=Zh hP;clear hP;have HF0:=Zh hf0;clear hf0;go_enter Tryz.func83,Tryz.ntmps83;go_wp2_with fail;rw[←HW0];clear HW0;refine(scexprs_any (Ex.sizes s.ex+1) s.ex ok A1 c1 base b _ W0 a bk bg (by omega) (HRD.out.ex.2.2.fr HF0.out (fun _ _=>non _) fun _ h=>h) HRD.out.ex.2.1 H0.out).mono ?_;rintro e w1 ⟨he1,hf1⟩;cases hx1:Ex.askss (inM a.kn) s.ex with
 |false=>
  rw[hx1] at he1;obtain rfl:=he1.f;clear he1;have hF1:=Zh (HF0.out.trans hf1);clear hf1;have HR:=Zh (sc_err1 P F s a (by rw[scHead,hx1];rfl));clear hx1;go_wp2_with fail;refine⟨rfl,?_⟩;rw[HR.out];exact⟨rfl,hF1.out.non⟩
 |true=>
  rw[hx1] at he1;obtain rfl:=he1.t;clear he1;have HX1:=Zh hx1;clear hx1;have hb1:=Zb HB0.out hf1 (non _);have H1:=Zh (H0.out.stay hf1);have HF1:=Zh (HF0.out.trans hf1);clear hf1 g5;have g0:=(Zc hb1).1 0 _ rfl;have g1:=(Zc hb1).1 1 _ rfl;have g2:=(Zc hb1).1 2 _ rfl;have g6:=(Zc hb1).1 6 _ rfl;have HB1:=Zh hb1;clear hb1;have hbs:∀q,SS b bk bg q→q≠w.heap.size:=fun q hq e=>by have:=(H.out.lt q hq).2;omega
  have HBS:=Zh hbs;clear hbs;have hff:=form_facts (sc_form s d hok);have HFF:=Zh hff;have k1:=hff.k1;have k12:=hff.k12;rw[St.ok_eq] at hok;simp only[Bool.and_eq_true] at hok;have hsz:s.size=1+St.sizes s.body+St.sizes s.els:=St.size_eq s;have HSZ:=Zh hsz;clear hsz;have HOK:=Zh hok;clear hok hff;go_upto_block 0 with fail
  go_cut [6] (fun v6 wx=>v6= .slice none 0 0∧Fr Non w1 wx∧scHead P F (inM a.kn) s.kind s.name s.frm s.ex s.args=true∧s.kind.toNat≠2∧s.kind.toNat≠4)
  case first=>
   by_cases k24:s.kind.toNat=2∨s.kind.toNat=4
   ·have f2:((s.kind.toNat:Int)==2)=decide (s.kind.toNat=2):=by rw[Bool.eq_iff_iff];simp;omega
    have f4:((s.kind.toNat:Int)==4)=decide (s.kind.toNat=4):=by rw[Bool.eq_iff_iff];simp;omega
    have hh:scHead P F (inM a.kn) s.kind s.name s.frm s.ex s.args=inM a.kn s.name:=by
     rw[scHead,HX1.out];rcases k24 with h|h<;>simp[h]
    have HH:=Zh hh;clear hh;have K24:=Zh k24;rcases k24 with k2|k4
    ·rw[decide_eq_true k2] at f2;clear f4 k2;go_wp2_with fail;refine(scask_any base b _ w1 a bk bg s.name H1.out).mono ?_;rintro e w2 ⟨he1,hf2⟩;cases hx2:inM a.kn s.name with
     |false=>
      rw[hx2] at he1;obtain rfl:=he1.f;clear he1;have HR:=Zh (sc_err1 P F s a (by rw[HH.out];exact hx2));clear hx2;have HF2:=Zh (HF1.out.trans hf2);clear hf2;go_wp2_with fail;refine⟨rfl,?_⟩;rw[HR.out];exact⟨rfl,HF2.out.non⟩
     |true=>
      rw[hx2] at he1;obtain rfl:=he1.t;clear he1;have HF2:=Zh (HF1.out.trans hf2);have HS2:=Zh (H1.out.stay hf2);clear hf2;have HHT:=Zh (HH.out.trans hx2);clear hx2;have HR:=Zh ((sc_ok1 P F s a HHT.out).trans (rest_24 P F _ _ s.frm s.ex s.args _ _ a HFF.out K24.out));go_wp2_with fail;go_ret;rw[HR.out];exact⟨_,rfl,AwL.nil _ _ _,HF2.out.non,HS2.out⟩
    ·rw[decide_eq_true k4] at f4;rw[decide_eq_false (by omega)] at f2;clear k4;go_wp2_with fail;refine(scask_any base b _ w1 a bk bg s.name H1.out).mono ?_;rintro e w2 ⟨he1,hf2⟩;cases hx2:inM a.kn s.name with
     |false=>
      rw[hx2] at he1;obtain rfl:=he1.f;clear he1;have HR:=Zh (sc_err1 P F s a (by rw[HH.out];exact hx2));clear hx2;have HF2:=Zh (HF1.out.trans hf2);clear hf2;go_wp2_with fail;refine⟨rfl,?_⟩;rw[HR.out];exact⟨rfl,HF2.out.non⟩
     |true=>
      rw[hx2] at he1;obtain rfl:=he1.t;clear he1;have HF2:=Zh (HF1.out.trans hf2);have HS2:=Zh (H1.out.stay hf2);clear hf2;have HHT:=Zh (HH.out.trans hx2);clear hx2;have HR:=Zh ((sc_ok1 P F s a HHT.out).trans (rest_24 P F _ _ s.frm s.ex s.args _ _ a HFF.out K24.out));go_wp2_with fail;go_ret;rw[HR.out];exact⟨_,rfl,AwL.nil _ _ _,HF2.out.non,HS2.out⟩
   ·have f2:((s.kind.toNat:Int)==2)=false:=by simp;omega
    have f4:((s.kind.toNat:Int)==4)=false:=by simp;omega
    by_cases k89:s.kind.toNat=8∨s.kind.toNat=9
    ·have f8:((s.kind.toNat:Int)==8)=decide (s.kind.toNat=8):=by rw[Bool.eq_iff_iff];simp;omega
     have f9:((s.kind.toNat:Int)==9)=decide (s.kind.toNat=9):=by rw[Bool.eq_iff_iff];simp;omega
     have hh:scHead P F (inM a.kn) s.kind s.name s.frm s.ex s.args=inM a.kn s.frm:=by
      rw[scHead,HX1.out];rcases k89 with h|h<;>simp[h]
     have HH:=Zh hh;clear hh;have K24:=Zh k24;clear k24;rcases k89 with k8|k9
     ·rw[decide_eq_true k8] at f8;clear f9 k8;go_wp2_with fail;refine(scask_any base b _ w1 a bk bg s.frm H1.out).mono ?_;rintro e w2 ⟨he1,hf2⟩;cases hx2:inM a.kn s.frm with
      |false=>
       rw[hx2] at he1;obtain rfl:=he1.f;clear he1;have HR:=Zh (sc_err1 P F s a (by rw[HH.out];exact hx2));clear hx2;have HF2:=Zh (HF1.out.trans hf2);clear hf2;go_wp2_with fail;refine⟨rfl,?_⟩;rw[HR.out];exact⟨rfl,HF2.out.non⟩
      |true=>
       rw[hx2] at he1;obtain rfl:=he1.t;clear he1;have HG2:=Zh hf2;have HF2:=Zh (HF1.out.trans hf2);clear hf2;have HHT:=Zh (HH.out.trans hx2);clear hx2;go_wp2_with fail
       go_meet
       exact⟨rfl,HG2.out,HHT.out,fun h=>K24.out (.inl h),fun h=>K24.out (.inr h)⟩
     ·rw[decide_eq_true k9] at f9;rw[decide_eq_false (by omega)] at f8;clear k9;go_wp2_with fail;refine(scask_any base b _ w1 a bk bg s.frm H1.out).mono ?_;rintro e w2 ⟨he1,hf2⟩;cases hx2:inM a.kn s.frm with
      |false=>
       rw[hx2] at he1;obtain rfl:=he1.f;clear he1;have HR:=Zh (sc_err1 P F s a (by rw[HH.out];exact hx2));clear hx2;have HF2:=Zh (HF1.out.trans hf2);clear hf2;go_wp2_with fail;refine⟨rfl,?_⟩;rw[HR.out];exact⟨rfl,HF2.out.non⟩
      |true=>
       rw[hx2] at he1;obtain rfl:=he1.t;clear he1;have HG2:=Zh hf2;have HF2:=Zh (HF1.out.trans hf2);clear hf2;have HHT:=Zh (HH.out.trans hx2);clear hx2;go_wp2_with fail
       go_meet
       exact⟨rfl,HG2.out,HHT.out,fun h=>K24.out (.inl h),fun h=>K24.out (.inr h)⟩
    ·have f8:((s.kind.toNat:Int)==8)=false:=by simp;omega
     have f9:((s.kind.toNat:Int)==9)=false:=by simp;omega
     have K24:=Zh k24;clear k24;by_cases k11:s.kind.toNat=11
     ·have f11:((s.kind.toNat:Int)==11)=true:=by simp;omega
      have hh:scHead P F (inM a.kn) s.kind s.name s.frm s.ex s.args=(s.args.all (inM a.kn)&&(P.take F).any fun f=>sq f.name s.frm):=by
       rw[scHead,HX1.out];simp[k11]
      have HH:=Zh hh;clear hh k11 k89;have hal:s.args.length≤140737488355328:=by have:=HRD.out.args.2.1;unfold reach at this;omega
      go_wp2_with fail
      go_loopw [34] (fun i wr=>∃k:Nat,i= .int .i64 k∧k≤s.args.length∧Fr Non w1 wr∧∀j,j<k→∀hj:j<s.args.length,inM a.kn s.args[j]=true) (fun i _=>s.args.length-(intOf i).toNat)
      case atStart=>exact⟨0,rfl,by omega,Zf w1,fun j hj=>by omega⟩
      case round=>
       obtain⟨k,rfl,hk,hfr,hno⟩:=hrel;have HN:=Zh hno;clear hno;have HRF:=Zh hfr;clear hfr;have HSR:=Zh (H1.out.stay HRF.out);by_cases hlt:k<s.args.length
       ·obtain⟨g,o,e6,hd,e0⟩:=at_str (HRD.out.args.2.2.fr (HF1.out.trans HRF.out) (fun _ _=>non _) fun _ h=>h) k hlt;rw[e6] at g6;subst e6;generalize hx:s.args[k]=x at*;have HX:=Zh hx;clear hx;go_wp2_with fail;refine(scask_any base b _ wr a bk bg x HSR.out).mono ?_;rintro e w2 ⟨he1,hf2⟩;cases hx2:inM a.kn x with
        |false=>
         rw[hx2] at he1;obtain rfl:=he1.f;clear he1;have HR:=Zh (sc_err1 P F s a (by rw[HH.out,all_false_of k hlt (by rw[HX.out];exact hx2)];rfl));clear hx2;have HF2:=Zh ((HF1.out.trans HRF.out).trans hf2);clear hf2;go_wp2_with fail;refine⟨rfl,?_⟩;rw[HR.out];exact⟨rfl,HF2.out.non⟩
        |true=>
         rw[hx2] at he1;obtain rfl:=he1.t;clear he1;have HX2:=Zh hx2;clear hx2;go_wp2_with fail;go_roundw
         case rel=>exact⟨k+1,by go_num,by omega,HRF.out.trans hf2,till HN.out fun _=>by rw[HX.out];exact HX2.out⟩
         case measure=>simp[intOf];omega
       ·have hall:s.args.all (inM a.kn)=true:=all_true_of fun j hj=>HN.out j (by omega) hj;have HALL:=Zh hall;clear hall;have hPr:=HP.out.fr (HF1.out.trans HRF.out) (fun _ _=>non _);obtain⟨pg,po,A1',c1',A2',c2',A3',c3',hpa,_⟩:=at_fu hPr.rows 0 (by have:=hPr.hF;omega);have b0:=(Zc HSR.out.blk).1 0 _ rfl;have b1:=(Zc HSR.out.blk).1 1 _ rfl;have hF1:=hPr.hF;have hpc1:=hPr.hpc;have hPl:P.length≤140737488355328:=by have:=hPr.hc;unfold reach at this;omega
        have hFn:wr.cell? ⟨w.heap.size,2,none⟩=some (.string s.frm):=HRF.out.cell' g2 (non _);have hcall:=called_any P F w.heap.size (by omega) ok PA pc s.frm wr hPr.rows hPr.hc hFn;have HC:=Zh hcall;clear hcall;subst hpa;have hmf:∀(fn:Fn) (first cap:Array Value) (w:World),(Instr.makeFunc fn first cap).run Tryz.prog w= .ok (.func fn first cap) w:=fun _ _ _ _=>rfl;go_wp2_with fail;refine HC.out.mono ?_;rintro e w2 ⟨rfl,hf2⟩;have b1:=hf2.cell' b1 (non _);have HG2:=Zh (HRF.out.trans hf2);have HF2:=Zh ((HF1.out.trans HRF.out).trans hf2);clear hf2;generalize hq:((P.take F).any fun f=>sq f.name s.frm)=q;have HQ:=Zh hq;clear hq;cases q with
        |true=>
         go_wp2_with fail
         go_meet
         exact⟨rfl,HG2.out,by rw[HH.out,HALL.out,HQ.out];rfl,fun h=>K24.out (.inl h),fun h=>K24.out (.inr h)⟩
        |false=>
         have HR:=Zh (sc_err1 P F s a (by rw[HH.out,HALL.out,HQ.out];rfl));go_wp2_with fail;refine(scbad_any base b (.slice (some ⟨pg,po,none⟩) P.length pc) w2 a bk bg 3 b1).mono ?_;rintro e w' ⟨rfl,rfl⟩;unfold Sc.err faultP;go_wp2_with fail;refine⟨rfl,?_⟩;rw[HR.out];exact⟨rfl,HF2.out.non⟩
     ·have f11:((s.kind.toNat:Int)==11)=false:=by simp;omega
      have hh:scHead P F (inM a.kn) s.kind s.name s.frm s.ex s.args=true:=by
       have e2:s.kind.toNat≠2:=fun h=>K24.out (.inl h);have e4:s.kind.toNat≠4:=fun h=>K24.out (.inr h);rw[scHead,HX1.out];simp[k11,e2,e4];omega
      have HH:=Zh hh;clear hh k89;go_wp2_with fail
      go_meet
      exact⟨rfl,Zf w1,HH.out,fun h=>K24.out (.inl h),fun h=>K24.out (.inr h)⟩
  case rest=>
   obtain⟨rfl,hfc,hh,hk2,hk4⟩:=hcut;have HR1:=Zh (sc_ok1 P F s a hh);clear hh;clear g0 g1 g2 g6;have hb2:=Zb HB1.out hfc (non _);have g1:=(Zc hb2).1 1 _ rfl;have HB2:=Zh hb2;clear hb2;have H2:=Zh (H1.out.stay hfc);have HF2:=Zh (HF1.out.trans hfc);clear hfc;have hlt:=H.out.lt;have hoks:∀q,ok q→¬SS b bk bg q:=fun q hq h=>by have h1:=HP.out.hok q hq;have h2:=(hlt q h).1;omega
   have hfar:∀q,w.heap.size≤q→¬SS b bk bg q:=fun q hq h=>by have h2:=(hlt q h).2;omega
   have HOKS:=Zh hoks;clear hoks;have HFAR:=Zh hfar;clear hfar;have HLT:=Zh hlt;clear hlt;have hwlt:w.heap.size<wc.heap.size:=blk_lt HB2.out
   go_upto_if 56 with fail
   go_cut [6] (fun v6 wx=>∃a1 aw,a.gives s.kind s.name= .ok (a1,aw)∧AwL b w.heap.size wx v6 aw∧Fr (SS b bk bg) wc wx∧ScAt base b (.slice PA P.length pc) wx a1 bk bg)
   case first=>
    cases hem:emp s.name with
    |true=>
     have hem':=hem;rw[←toemp] at hem';have hem2:(!s.name.toList.isEmpty)=false:=by rw[hem'];rfl
     have HEM:=Zh hem;clear hem;rw[hem2];go_wp2_with fail
     go_meet
     exact⟨a,[],gives_emp HEM.out,AwL.nil _ _ _,Fr.refl _ _,H2.out⟩
    |false=>
     have hem':=hem;rw[←toemp] at hem';have hem2:(!s.name.toList.isEmpty)=true:=by rw[hem'];rfl
     have HEM:=Zh hem;clear hem;rw[hem2];go_wp2_with fail;refine(scgive_any base b _ wc a bk bg s.name H2.out).mono ?_;intro e w3 hgr;unfold GiveR at hgr;cases hgv:a.give s.name with
     |error x=>
      rw[hgv] at hgr;obtain⟨rfl,hf3⟩:=hgr;have HR:=Zh (HR1.out.trans (rest_e1 (gives_err HEM.out hk2 hk4 hgv)));clear hgv;have HF3:=Zh (HF2.out.trans hf3);clear hf3;unfold faultP;go_wp2_with fail;refine⟨rfl,?_⟩;rw[HR.out];exact⟨rfl,HF3.out.non⟩
     |ok a1=>
      rw[hgv] at hgr;obtain⟨v,pw,ps,rfl,haw,hp1,hp2,hf3,h3⟩:=hgr;have HG:=Zh (gives_ok HEM.out hk2 hk4 hgv);clear hgv;have hv:=haw.1;subst hv;have HAW:=Zh haw;clear haw;have H3:=Zh h3;clear h3;have hsz3:=hf3.size;have HF3:=Zh hf3;clear hf3;go_wp2_with (at_builtin;refine app_fn rfl _ _ rfl w.heap.size (.slice none 0 0) [] rfl (World.ownsRow_nil _ _ _ _) (some ⟨w3.heap.size,0,none⟩) 1 [.func (.func 116) #[] #[.pointer (some ⟨pw,0,none⟩),.pointer (some ⟨ps,0,none⟩)]] rfl ?qa1 ?qa2 ?qa3 ?qa4 ?qa5 ?qa6)
      case qa1=>exact fun j u hu=>⟨_,rfl,new_cells _ _ _ j u hu⟩
      case qa2=>intro u hu;rw[List.mem_singleton] at hu;subst hu;rfl
      case qa3=>simp
      case qa4=>simp
      case qa5=>simp;omega
      case qa6=>
       intro v6 w4 hown hf4
       try simp only[List.nil_append] at hown
       have hf34:Fr Non w3 w4:=((Zf w3).alloc _).trans (hf4.mono fun k _ h=>by cases h.2);have HAWL:=Zh (show AwL b w.heap.size w4 v6 [s.name] from⟨_,hown,rfl,fun i hi=>⟨_,pw,ps,by simp at hi;subst hi;rfl,by
        have e:([s.name]:List ByteArray)[i]=s.name:=by simp at hi;subst hi;rfl
        rw[e];exact HAW.out.fr hf34 (non _) (non _),by omega,by omega⟩⟩)
       have HF4:=Zh (HF3.out.trans hf34.non);have H4:=Zh (H3.out.stay hf34);clear hown hf4 hf34;go_wp2_with fail
       go_meet
       exact⟨a1,[s.name],HG.out,HAWL.out,HF4.out,H4.out⟩
   case rest=>
    obtain⟨a1,aw,hg,haw,hfr,h3⟩:=hcut;clear g1;have hn1':=gives_n hg;have HN1:=Zh hn1';clear hn1';have HG:=Zh hg;clear hg;have HF3:=Zh (HF2.out.non.trans hfr);have hb3:=Zb HB2.out hfr (HFAR.out _ (Nat.le_refl _));clear hfr;have g7:=(Zc hb3).1 7 _ rfl;have HB3:=Zh hb3;clear hb3;have HAW:=Zh haw;clear haw;have H3:=Zh h3;clear h3;have hna1:0≤a1.n:=by rw[HN1.out];exact hn0
    have hna2:a1.n+St.sizes s.body+St.sizes s.els≤1099511627776:=by rw[HN1.out];have:=HSZ.out;omega
    go_wp2_with fail;refine(IH s.body (d+1) A3 c3 wc a1 (by have:=HSZ.out;omega) HOK.out.1.2 (HRD.out.body.2.2.fr HF3.out HOKS.out fun _ h=>h) HRD.out.body.2.1 (by omega) (by have:=HSZ.out;omega) H3.out (HP.out.fr HF3.out HOKS.out)).mono ?_;intro e w4 hbr;cases hbd:scDels (scStmts P F s.body a1 []) with
    |error x=>
     rw[hbd] at hbr;obtain⟨rfl,hf4⟩:=hbr;have HR:=Zh (HR1.out.trans (rest_e2 HG.out hbd));clear hbd;have HF4:=Zh (HF3.out.trans hf4);clear hf4;go_wp2_with fail;refine⟨rfl,?_⟩;rw[HR.out];exact⟨rfl,HF4.out⟩
    |ok a2=>
     rw[hbd] at hbr;obtain⟨rfl,hf4,h4⟩:=hbr;have hd2:=dels_n hbd;have HBD:=Zh hbd;clear hbd;have hb4:=Zb HB3.out hf4 (HFAR.out _ (Nat.le_refl _));clear g7;have g8:=(Zc hb4).1 8 _ rfl;have HB4:=Zh hb4;clear hb4;have HF4:=Zh (HF3.out.trans hf4);have HAW4:=Zh (HAW.out.fr hf4 HFAR.out);clear hf4;have H4:=Zh h4;clear h4;go_wp2_with fail;refine(IH s.els (d+1) A4 c4 w4 a2 (by have:=HSZ.out;omega) HOK.out.2 (HRD.out.els.2.2.fr HF4.out HOKS.out fun _ h=>h) HRD.out.els.2.1 (by omega) (by have:=HSZ.out;omega) H4.out (HP.out.fr HF4.out HOKS.out)).mono ?_;intro e w5 hbr;cases hbe:scDels (scStmts P F s.els a2 []) with
     |error x=>
      rw[hbe] at hbr;obtain⟨rfl,hf5⟩:=hbr;have HR:=Zh (HR1.out.trans (rest_e3 HG.out HBD.out hbe));clear hbe;have HF5:=Zh (HF4.out.trans hf5);clear hf5;go_wp2_with fail;refine⟨rfl,?_⟩;rw[HR.out];exact⟨rfl,HF5.out⟩
     |ok a3=>
      rw[hbe] at hbr;obtain⟨rfl,hf5,h5⟩:=hbr;have HR:=Zh (HR1.out.trans (rest_ok HG.out HBD.out hbe));clear hbe;have hb5:=Zb HB4.out hf5 (HFAR.out _ (Nat.le_refl _));clear g8;have g0:=(Zc hb5).1 0 _ rfl;have HF5:=Zh (HF4.out.trans hf5);have HAW5:=Zh (HAW4.out.fr hf5 HFAR.out);clear hf5 hb5;have H5:=Zh h5;clear h5;by_cases k78:s.kind.toNat=7∨s.kind.toNat=8
      ·have f7:((s.kind.toNat:Int)==7)=decide (s.kind.toNat=7):=by rw[Bool.eq_iff_iff];simp;omega
       have f8:((s.kind.toNat:Int)==8)=decide (s.kind.toNat=8):=by rw[Bool.eq_iff_iff];simp;omega
       have hem:emp s.name=false:=by
        have:=emp_of_namedX (HFF.out.other (by omega)).2.2;rw[this,nName];rcases k78 with h|h<;>simp[h]
       have haw1:aw=[s.name]:=by
        have hgs:=HG.out;cases hgv:a.give s.name with
        |error x=>rw[gives_err hem hk2 hk4 hgv] at hgs;cases hgs
        |ok a9=>rw[gives_ok hem hk2 hk4 hgv] at hgs;cases hgs;rfl
       have hrr:(s.kind.toNat==7||s.kind.toNat==8)=true:=by rcases k78 with h|h<;>simp[h]
       have HRR:=Zh hrr;clear hrr hem;subst haw1;obtain⟨Aw,cw,hv6,hcw⟩:=HAW5.out.slice;subst hv6;obtain⟨g,pw,ps,rfl,y0,y1,y2⟩:=HAW5.out.at 0 (by simp);have Y1:=Zh y1;clear y1;have Y2:=Zh y2;clear y2;rcases k78 with k7|k8
       ·rw[decide_eq_true k7] at f7;clear f8 k7;go_wp2_with fail;refine(scaway_any base b pw ps _ w5 a3 bk bg s.name H5.out Y1.out (by simpa using Y2.out)).mono ?_;rintro e w6 ⟨rfl,hf6,h6⟩;have HF6:=Zh (HF5.out.trans (hf6.mono fun _ _ h=>.inr (.inl h)));clear hf6;have H6:=Zh h6;clear h6;go_wp2_with fail;go_ret;rw[HR.out,HRR.out];exact⟨_,rfl,AwL.nil _ _ _,HF6.out,H6.out⟩
       ·rw[decide_eq_true k8] at f8;rw[decide_eq_false (by omega)] at f7;clear k8;go_wp2_with fail;refine(scaway_any base b pw ps _ w5 a3 bk bg s.name H5.out Y1.out (by simpa using Y2.out)).mono ?_;rintro e w6 ⟨rfl,hf6,h6⟩;have HF6:=Zh (HF5.out.trans (hf6.mono fun _ _ h=>.inr (.inl h)));clear hf6;have H6:=Zh h6;clear h6;go_wp2_with fail;go_ret;rw[HR.out,HRR.out];exact⟨_,rfl,AwL.nil _ _ _,HF6.out,H6.out⟩
      ·have f7:((s.kind.toNat:Int)==7)=false:=by simp;omega
       have f8:((s.kind.toNat:Int)==8)=false:=by simp;omega
       have hrr:(s.kind.toNat==7||s.kind.toNat==8)=false:=by simp;omega
       have HRR:=Zh hrr;clear hrr k78;go_wp2_with fail;go_ret;rw[HR.out,HRR.out];exact⟨_,rfl,HAW5.out,HF5.out,H5.out⟩
theorem ScAt.setn {base b:Nat} {PV:Value} {w:World} {a:Sc} {bk bg:Nat} (h:ScAt base b PV w a bk bg) (m:Int):ScAt base b PV (w.setCell ⟨b,1,none⟩ (.int .i64 m)) ⟨a.kn,a.gi,m⟩ bk bg:=by
 have hf:Fr (fun k=>k=b) w (w.setCell ⟨b,1,none⟩ (.int .i64 m)):=(Fr.refl (fun k=>k=b) w).setCell _ _ (.inl rfl);have hn:=h.bk_ne;exact⟨blk_set h.blk 1 _,h.kn.fr hf hn.1,h.gi.fr hf hn.2,h.ne,h.hb,h.hk,h.hg⟩
theorem row_src {base:Nat} {e:TypeId} {w:World} {A:Option Addr} {c:Nat} {ys:List Value} (h:w.ownsRow base e 1 (.slice A ys.length c) ys.length ys):∀j u,ys[j]? =some u→∃ad,A=some ad∧w.cell? (ad.add j)=some u:=by
 intro j u hu;have hlt:=(List.getElem?_eq_some_iff.1 hu).1;obtain⟨g,rfl,_,hc⟩:=row_at h (by omega);exact⟨_,rfl,by rw[Addr.add_lit];simpa using(hc j u hu).1⟩
theorem dels_snoc (a:Sc) (l:List ByteArray) (x:ByteArray):a.dels (l++[x])=(a.dels l).del x:=by simp[Sc.dels]
theorem aw_one {b B:Nat} {w:World} {aw:List ByteArray} {vs:List Value} (h2:vs.length=aw.length) (h:∀i (h:i<aw.length),∃x pw ps,vs[i]? =some x∧AwayV b w x aw[i] pw ps∧B≤pw∧B≤ps):∀u∈vs,u.oneCell'=true:=by
 intro u hu;obtain⟨i,hi,rfl⟩:=List.mem_iff_getElem.1 hu;obtain⟨x,pw,ps,g1,g2,_⟩:=h i (by omega);rw[List.getElem?_eq_getElem hi] at g1;cases g1;rw[g2.1];rfl
theorem aw_append {b B B':Nat} {w:World} {aw aw2:List ByteArray} {vs ys:List Value} (hB:B≤B') (h2:vs.length=aw.length) (h3:∀i (h:i<aw.length),∃x pw ps,vs[i]? =some x∧AwayV b w x aw[i] pw ps∧B≤pw∧B≤ps)
  (q2:ys.length=aw2.length) (q3:∀i (h:i<aw2.length),∃x pw ps,ys[i]? =some x∧AwayV b w x aw2[i] pw ps∧B'≤pw∧B'≤ps):∀i (h:i<(aw++aw2).length),∃x pw ps,(vs++ys)[i]? =some x∧AwayV b w x (aw++aw2)[i] pw ps∧B≤pw∧B≤ps:=by
 intro i hi;by_cases hl:i<aw.length
 ·obtain⟨x,pw,ps,g1,g2,g3,g4⟩:=h3 i hl;refine⟨x,pw,ps,?_,?_,g3,g4⟩
  ·rw[List.getElem?_append_left (by omega)];exact g1
  ·rw[List.getElem_append_left hl];exact g2
 ·rw[List.length_append] at hi;obtain⟨x,pw,ps,g1,g2,g3,g4⟩:=q3 (i-aw.length) (by omega);refine⟨x,pw,ps,?_,?_,Nat.le_trans hB g3,Nat.le_trans hB g4⟩
  ·rw[List.getElem?_append_right (by omega),h2];exact g1
  ·rw[List.getElem_append_right (by omega)];exact g2
theorem oks_at {l:List St} {d:Nat} (h:St.oks l d=true) (k:Nat) (hk:k<l.length):St.ok l[k] d=true:=by
 induction l generalizing k with
 |nil=>simp at hk
 |cons x l ih=>
  simp only[St.oks,Bool.and_eq_true] at h;cases k with
  |zero=>exact h.1
  |succ k=>exact ih h.2 k (by simpa using hk)
theorem scblock_of (base b bk bg:Nat) (ok:Nat→Prop) (PA:Option Addr) (pc:Nat) (P:List Fu) (F:Nat) (N:Nat) (ST:StC base b bk bg ok PA pc P F N):BlC base b bk bg ok PA pc P F N:=by
 intro l d A c w a hN hok hr hc hn0 hn1 h hP;have hlen:l.length≤140737488355328:=by unfold reach at hc;omega
 have hlt:=h.lt;have hoks:∀q,ok q→¬SS b bk bg q:=fun q hq hs=>by have h1:=hP.hok q hq;have h2:=(hlt q hs).1;omega
 have hfar:∀q,w.heap.size≤q→¬SS b bk bg q:=fun q hq hs=>by have h2:=(hlt q hs).2;omega
 have HOKS:=Zh hoks;clear hoks;have HFAR:=Zh hfar;clear hfar hlt;have H:=Zh h;clear h;have HR:=Zh hr;clear hr;have HP:=Zh hP;clear hP;have HOK:=Zh hok;clear hok;go_enter Tryz.func119,Tryz.ntmps119;go_wp2_with fail
 go_loopw [6,13] (fun v i wr=>∃k:Nat,∃ak awk,i= .int .i64 k∧k≤l.length∧scStmts P F (l.take k) a []= .ok (ak,awk)∧AwL b w.heap.size wr v awk∧Fr (SS b bk bg) w wr∧ScAt base b (.slice PA P.length pc) wr ak bk bg) (fun _ i _=>l.length-(intOf i).toNat)
 case atStart=>exact⟨0,a,[],rfl,by omega,rfl,AwL.nil _ _ _,Fr.refl _ _,H.out⟩
 case round=>
  obtain⟨k,ak,awk,rfl,hk,hsc,haw,hfr,hs⟩:=hrel;have HSC:=Zh hsc;have hnk:=scStmts_n P F _ a ak [] awk hsc;clear hsc;have hsz1:=sizes_take_le l k;have b1:=(Zc hs.blk).1 1 _ rfl;have bf:=(Zc hs.blk).2;have hblt:=blk_lt hs.blk;have hrr:=HR.out.fr hfr HOKS.out (fun _ h=>h);have HRR:=Zh hrr;clear hrr;have HAW:=Zh haw;clear haw;have HF:=Zh hfr;clear hfr;have HS:=Zh hs;clear hs;by_cases hlt:k<l.length
  ·obtain⟨g,o,A1,c1,A2,c2,A3,c3,A4,c4,rfl,hd,e0,e1,e2,e3,e4,e5,e6,e7,e8,r1,r2,r3,r4⟩:=at_st HRR.out k hlt;have HSR:=Zh (⟨r1,r2,r3,r4⟩:StRd ok wr l[k] A1 A2 A3 A4 c1 c2 c3 c4);clear r1 r2 r3 r4;have hsz2:=sizes_take l k hlt;have hsz3:=sizes_take_le l (k+1);have hbn:ak.n≤1099511627776:=by omega
   have hbn0:0≤ak.n:=by omega
   generalize hx:l[k]=x at*;have hxok:St.ok x d=true:=by rw[←hx];exact oks_at HOK.out k hlt
   have HX:=Zh hx;clear hx;have HXOK:=Zh hxok;clear hxok;have hw2:∀o:Obj,Fr (SS b bk bg) wr ((wr.setCell ⟨b,1,none⟩ (.int .i64 (ak.n+1))).alloc o):=fun o=>((Fr.refl (SS b bk bg) wr).setCell _ _ (.inl (.inl rfl))).alloc _;have HW2:=Zh hw2;clear hw2;have hwsz:w.heap.size≤wr.heap.size:=HF.out.size;go_wp2_with fail;refine(ST x d A1 A2 A3 A4 c1 c2 c3 c4 _ ⟨ak.kn,ak.gi,ak.n+1⟩ (by omega) HXOK.out (HSR.out.fr (HW2.out _) HOKS.out) (by simp only;omega) (by simp only;omega) ((HS.out.setn (ak.n+1)).stay ((Zf _).alloc _)) (HP.out.fr (HF.out.trans (HW2.out _)) HOKS.out)).mono ?_;intro e w3 hst;cases hsx:scStmt P F x ⟨ak.kn,ak.gi,ak.n+1⟩ with
   |error y=>
    rw[hsx] at hst;obtain⟨rfl,hf3⟩:=hst;have herr:scStmts P F l a []= .error y:=by
     have h1:scStmts P F (l.take (k+1)) a []= .error y:=by
      rw[take_snoc l k hlt,HX.out,scStmts_snoc,HSC.out];simp only;rw[hsx]
     have h2:=scStmts_err P F (l.drop (k+1)) _ _ _ _ h1
     rwa [List.take_append_drop] at h2
    have HE:=Zh herr;clear herr hsx;have HF3:=Zh ((HF.out.trans (HW2.out _)).trans hf3);clear hf3;go_wp2_with fail;refine⟨rfl,?_⟩;rw[HE.out];exact⟨rfl,HF3.out⟩
   |ok p=>
    obtain⟨a2,aw2⟩:=p;rw[hsx] at hst;obtain⟨v2,rfl,haw2,hf3,h3⟩:=hst;have haw2:=haw2.mono (B':=w.heap.size) (by simp;omega);have hok1:scStmts P F (l.take (k+1)) a []= .ok (a2,awk++aw2):=by
     rw[take_snoc l k hlt,HX.out,scStmts_snoc,HSC.out];simp only;rw[hsx]
    have hlen2:=scStmt_n P F x _ a2 aw2 hsx;have HO:=Zh hok1;clear hok1 hsx;have hf13:Fr (SS b bk bg) wr w3:=(HW2.out _).trans hf3;obtain⟨vs,p1,p2,p3⟩:=HAW.out.fr hf13 HFAR.out;obtain⟨ys,q1,q2,q3⟩:=haw2;obtain⟨Av,cv,rfl,_⟩:=row_slice p1;obtain⟨Ay,cy,rfl,_⟩:=row_slice q1;have Q1:=Zh (row_src q1);have Q4:=Zh (aw_one q2 q3);have hq1:=fun i hi=>(p3 i hi);have HQ:=Zh (fun(w4:World) (S:Nat→Prop) (hf:Fr S w3 w4) (hS1:∀k,S k→(Value.slice Av vs.length cv).ownBlock=some k)=>aw_append (B:=w.heap.size) (B':=w.heap.size) (w:=w4) (b:=b) (Nat.le_refl _) p2 (fun i hi=>by
     obtain⟨x,pw,ps,g1,g2,g3,g4⟩:=p3 i hi;have hne:=away_ne g2 p1;exact⟨x,pw,ps,g1,g2.fr hf (fun h=>hne.1 (hS1 _ h)) (fun h=>hne.2 (hS1 _ h)),g3,g4⟩) q2 (fun i hi=>by
     obtain⟨x,pw,ps,g1,g2,g3,g4⟩:=q3 i hi;have hne:=away_ne g2 p1;exact⟨x,pw,ps,g1,g2.fr hf (fun h=>hne.1 (hS1 _ h)) (fun h=>hne.2 (hS1 _ h)),g3,g4⟩))
    have hnk3:awk.length≤St.sizes (l.take k):=by simpa using hnk.2.2
    have hvl:vs.length≤1099511627776:=by rw[p2];omega
    have hyl:ys.length≤1099511627776:=by rw[q2];omega
    have hal:(vs++ys).length=(awk++aw2).length:=by rw[List.length_append,List.length_append,p2,q2]
    have hw3:w.heap.size≤w3.heap.size:=by have:=hf13.size;omega
    have P1:=Zh p1;have HF3:=Zh (HF.out.trans hf13);have H3:=Zh h3;have HAL:=Zh hal;clear p1 p2 p3 q1 q2 q3 hf3 hf13 h3 hal hq1;go_wp2_with (at_builtin;refine app_fn rfl _ _ rfl w.heap.size (.slice Av vs.length cv) vs rfl P1.out Ay cy ys rfl Q1.out Q4.out hvl hyl hw3 ?qk)
    case qk=>
     intro v6 w4 hown hf4;have HW4:=Zh (⟨vs++ys,(by first|exact hown|(rw[List.length_append];exact hown)),HAL.out,HQ.out w4 _ hf4 fun k h=>h.2⟩:AwL b w.heap.size w4 v6 (awk++aw2));have hss:∀q,SS b bk bg q→¬(w.heap.size≤q∧(Value.slice Av vs.length cv).ownBlock=some q):=fun q hq h=>HFAR.out q h.1 hq;have H4:=Zh (H3.out.fr hf4 hss);have HF4:=Zh (HF3.out.then hf4 fun q hq h=>by have h1:w.heap.size≤q:=h.1;omega);clear hown hf4 hss;go_wp2_with fail;go_roundw
     case rel=>exact⟨k+1,a2,awk++aw2,by go_num,by omega,HO.out,HW4.out,HF4.out,H4.out⟩
     case measure=>simp[intOf];omega
  ·obtain rfl:k=l.length:=by omega
   rw[List.take_length] at hnk hsz1;have hsc2:scStmts P F l a []= .ok (ak,awk):=by have:=HSC.out;rwa [List.take_length] at this
   have HSC2:=Zh hsc2;clear hsc2;have hnk3:awk.length≤St.sizes l:=by simpa using hnk.2.2
   obtain⟨Av,cv,rfl,hcv⟩:=HAW.out.slice;go_wp2_with fail
   go_loopw [33] (fun i wz=>∃j:Nat,i= .int .i64 j∧j≤awk.length∧AwL b w.heap.size wz (.slice Av awk.length cv) awk∧Fr (SS b bk bg) w wz∧ScAt base b (.slice PA P.length pc) wz (ak.dels (awk.take j)) bk bg) (fun i _=>awk.length-(intOf i).toNat)
   case atStart=>exact⟨0,rfl,by omega,HAW.out,HF.out,HS.out⟩
   case round=>
    obtain⟨j,rfl,hj,haw,hfr,hs⟩:=hrel;have HAW2:=Zh haw;clear haw;have HF2:=Zh hfr;clear hfr;have HS2:=Zh hs;clear hs;by_cases hlt2:j<awk.length
    ·obtain⟨g,pw,ps,hav,y0,y1,y2⟩:=HAW2.out.at j hlt2;have Y1:=Zh y1;clear y1;have Y2:=Zh y2;clear y2;subst hav;go_wp2_with fail;refine(scaway_any base b pw ps _ _ _ bk bg awk[j] HS2.out Y1.out Y2.out).mono ?_;rintro e w6 ⟨rfl,hf6,h6⟩;have hf6':Fr (SS b bk bg) _ w6:=hf6.mono fun _ _ h=>.inr (.inl h);have HAW6:=Zh (HAW2.out.fr hf6' HFAR.out);have HF6:=Zh (HF2.out.trans hf6');clear hf6 hf6';have H6:=Zh h6;clear h6;go_wp2_with fail;go_roundw
     case rel=>exact⟨j+1,by go_num,by omega,HAW6.out,HF6.out,by rw[take_snoc _ _ hlt2,dels_snoc];exact H6.out⟩
     case measure=>simp[intOf];omega
    ·obtain rfl:j=awk.length:=by omega
     go_wp2_with fail
     go_end0
     rw[HSC2.out];have h:=HS2.out;rw[List.take_length] at h;exact⟨rfl,HF2.out,h⟩
end Go.Proofs.YtpkpgmnbheenbaaGreatDoor
