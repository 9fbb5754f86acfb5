/- Contracts and laws, Mh09 -/
import Derived.Test.YtpkpgmnbheenbaaGreatDoorMh01
import Derived.Test.YtpkpgmnbheenbaaGreatDoorMh03
import Derived.Test.YtpkpgmnbheenbaaGreatDoorMh04
import Derived.Test.YtpkpgmnbheenbaaGreatDoorMh08
import Derived.Deep.DeepCutAuto
import Derived.Deep.CutBlock
namespace Go.Proofs.YtpkpgmnbheenbaaGreatDoor
open Go.RowKit
set_option linter.unusedVariables false
set_option linter.unusedSimpArgs false
set_option maxHeartbeats 8000000
set_option maxRecDepth 100000
section
theorem so_num (ru:Int) (g:ByteArray→Nm):Ex.so ru g num0=true:=by unfold num0 Ex.so;rfl
theorem sv_num (g:ByteArray→Nm):Ex.sv g num0=false:=by unfold num0 Ex.sv;rfl
theorem into_num (ru:Int) (a:Ev) (sec:Bool):a.into ru num0 sec=true:=by
 unfold Ev.into;rw[so_num,sv_num];unfold chk;simp
theorem if_no {a:Ev} {ok:Bool} {r:Er Ev} (h:ok=false):a.if ok r= .error a.n:=by unfold Ev.if;rw[h];rfl
theorem if_yes {a:Ev} {ok:Bool} {r:Er Ev} (h:ok=true):a.if ok r=r:=by unfold Ev.if;rw[h];rfl
theorem scStmts_app (P:List Fu) (F:Nat) (r:List St):∀(l:List St) (c:Sc) (aw:List ByteArray),scStmts P F (l++r) c aw=match scStmts P F l c aw with
  | .error x=>.error x
  | .ok (c1,aw1)=>scStmts P F r c1 aw1
 |[],c,aw=>by rw[List.nil_append];conv=>rhs;rw[scStmts]
 |x::l,c,aw=>by
  rw[List.cons_append,scStmts,scStmts];cases scStmt P F x ⟨c.kn,c.gi,c.n+1⟩ with
  |error y=>rfl
  |ok p=>exact scStmts_app P F r l p.1 _
theorem sc_facts {P:List Fu} {F:Nat} {k:UInt8} {nm fr:ByteArray} {sec mt:Bool} {ex:List Ex} {args:List ByteArray} {body els:List St} {c c1:Sc} {aw:List ByteArray} (hw:ScW c) (h:scStmt P F (.mk k nm fr sec mt ex args body els) c= .ok (c1,aw)):
  (k.toNat=8∨k.toNat=9→inM c.gi fr=true)∧∃cg awg c2 aw2,c.gives k nm= .ok (cg,awg)∧scStmts P F body cg []= .ok (c2,aw2):=by
 rw[scStmt] at h;split at h
 ·cases h
 rename_i hh;split at h
 ·cases h
 rename_i cg awg hg;split at h
 ·cases h
 rename_i c2 aw2 hb;refine⟨fun hk=>?_,cg,awg,c2,aw2,hg,hb⟩;have h0:scHead P F (inM c.kn) k nm fr ex args=true:=by simpa using hh
 unfold scHead at h0;simp only[Bool.and_eq_true,Bool.or_eq_true] at h0;rcases h0.1.2 with h1|h1
 ·exfalso;rcases hk with hk|hk<;>simp[hk] at h1
 ·exact hw.kg fr h1
theorem named_of {k:UInt8} {nm fr:ByteArray} {sec mt:Bool} {ex:List Ex} {args:List ByteArray} {body els:List St} {d:Nat} (h:St.ok (.mk k nm fr sec mt ex args body els) d=true) (h1:k.toNat=8∨k.toNat=9):emp nm=false:=by
 simp only[St.ok,Bool.and_eq_true] at h;have ff:=form_facts h.1.1.2;have:=emp_of_namedX (ff.other (by omega)).2.2;rw[this];rcases h1 with h1|h1<;>simp[nName,h1]
theorem callOk_len {f:Fu} {nm:ByteArray} {ex:List Ex} {args:List ByteArray} {a:Ev} (h:a.callOk 1 f nm ex args=true):(numsOf f).length=ex.length:=by
 unfold Ev.callOk at h;simp only[Bool.and_eq_true] at h;have h3:=h.2.2.1;unfold chk at h3;simp at h3;exact h3.1
theorem loc_calls {P Q:List Fu} (h:Q.map Fu.bare=P.map Fu.bare) (x:St) (F:Nat):Loc 1 P Q F ⟨11,x,false,true⟩ (fun _=>true) 0 where
 sees:=sees_of h F
 names:=seesN_of h F
 two:=rfl
 loc:=by
  rintro⟨k,nm,fr,sec,mt,ex,args,body,els⟩ d a a1 cs cs1 aw1 hk hok hev hsc hq hw hE;have hk:k.toNat=11:=hk;refine⟨fun _=>?_,fun h=>by cases h⟩;show evStmts 1 Q F [.mk k nm fr sec mt (ex++[num0]) args body els] a= .error (a.n+1+0)
  rw[evStmts_one,ev_11 _ _ _ _ _ _ _ _ _ _ _ _ _ hk];rw[ev_11 _ _ _ _ _ _ _ _ _ _ _ _ _ hk] at hev;obtain⟨hc,_⟩:=evif_ok hev;have hl:=callOk_len hc;rw[if_no]
  ·show Except.error (a.n+1)=Except.error (a.n+1+0);rw[Int.add_zero]
  ·cases hq2:a.next.callOk 1 (calleeM Q F fr) nm (ex++[num0]) args with
   |false=>rfl
   |true=>
    have hl2:=callOk_len hq2;have hn:numsOf (calleeM Q F fr)=numsOf (calleeM P F fr):=by unfold numsOf;rw[((sees_of h F).cal fr).1]
    rw[hn,hl,List.length_append] at hl2;simp at hl2
theorem loc_moves {P Q:List Fu} (h:Q.map Fu.bare=P.map Fu.bare) (x:St) (F:Nat) (hof:∀(fr:ByteArray) (b:Ev),(b.g fr).gone=true→evStmt 4 Q F (EdC.of ⟨9,x,false,false⟩ fr) b= .error b.n):Loc 4 P Q F ⟨9,x,false,false⟩ (fun _=>true) 0 where
 sees:=sees_of h F
 names:=seesN_of h F
 two:=rfl
 loc:=by
  rintro⟨k,nm,fr,sec,mt,ex,args,body,els⟩ d a a1 cs cs1 aw1 hk hok hev hsc hq hw hE;have hkk:k.toNat=9:=hk;clear hk;refine⟨fun _=>?_,fun h=>by cases h⟩;obtain⟨hb,he⟩:=flat_size hok (by omega);subst hb he;have hw':ScW ⟨cs.kn,cs.gi,cs.n+1⟩:=⟨hw.kg,hw.ne⟩;obtain⟨hf,cg,awg,_,_,hg,_⟩:=sc_facts hw' hsc;have hn:=gives_new hw' (by omega) (named_of hok (.inr hkk)) hg;have hne:sq nm fr=false:=sq_ne (ne_of_gi hn.1 (hf (.inr hkk)));show evStmts 4 Q F [.mk k nm fr sec mt ex args [] [],EdC.of ⟨9,x,false,false⟩ fr] a= .error (a.n+1+St.sizes []+St.sizes []+1+0)
  rw[evStmts,evStmt_PQ (sees_of h F),hev];simp only;rw[evStmts_one];rw[ev_9 _ _ _ _ _ _ _ _ _ _ _ _ _ hkk] at hev;obtain⟨_,hev⟩:=evif_ok hev;cases hev;rw[hof]
  ·show Except.error (a.n+1+1)=_
   simp[St.sizes]
  ·show(nget (nput (nput a.next.nm fr _) nm _) fr).gone=true
   rw[nget_put,hne,if_neg Bool.false_ne_true,nget_put,sq_refl,if_pos rfl]
theorem loc_view {ru:Int} {P Q:List Fu} (h:Q.map Fu.bare=P.map Fu.bare) (x:St) (F:Nat) (o:Bool→Bool) (dl:Int)
  (hof:∀(fr:ByteArray) (mt:Bool) (X:Nm) (b:Ev) (cb:Sc),X.bufOk ru=true→(mt=true→X.turnOk ru=true)→nhas b.nm fr=true→Fix {X with lent:=if mt then 2 else max X.lent 1} (b.g fr)→EnvG b cb→ScW cb→
    (∃r,scStmt Q F (EdC.of ⟨8,x,true,false⟩ fr) ⟨cb.kn,cb.gi,cb.n+1⟩= .ok r)→
    (o mt=true→evStmt ru Q F (EdC.of ⟨8,x,true,false⟩ fr) b.next= .error (b.n+1+dl))∧(o mt=false→evStmt ru Q F (EdC.of ⟨8,x,true,false⟩ fr) b.next= .ok b.sh)):Loc ru P Q F ⟨8,x,true,false⟩ o dl where
 sees:=sees_of h F
 names:=seesN_of h F
 two:=rfl
 loc:=by
  rintro⟨k,nm,fr,sec,mt,ex,args,body,els⟩ d a a1 cs cs1 aw1 hk hok hev hsc hq hw hE;have hkk:k.toNat=8:=hk;clear hk;have hel:=els_nil hok (by omega);subst hel;have hok0:=hok;simp only[St.ok,Bool.and_eq_true] at hok;have hw':ScW ⟨cs.kn,cs.gi,cs.n+1⟩:=⟨hw.kg,hw.ne⟩;obtain⟨hf,cg,awg,c2,aw2,hg,hb⟩:=sc_facts hw' hsc;have hf:=hf (.inl hkk);have hn:=gives_new hw' (by omega) (named_of hok0 (.inl hkk)) hg;have w1:=gives_W hw' hg;have w2:=scStmts_W P F body cg c2 _ _ w1.w hb;have hne:sq nm fr=false:=sq_ne (ne_of_gi hn.1 hf);rw[ev_8 _ _ _ _ _ _ _ _ _ _ _ _ _ hkk] at hev;obtain⟨hin,hev⟩:=evif_ok hev;split at hev
  ·cases hev
  rename_i a2 hbl;cases hev;obtain⟨b2,hb2,rfl⟩:=evKeep_ok hbl;have hA:EnvG (a.next.lendIn nm fr mt) cg:=(give_E (a:=a.next.put fr _) (put_E (a:=a.next) (c:=⟨cs.kn,cs.gi,cs.n+1⟩) ⟨hE.has,hE.nod⟩ hf _) hn.1 hn.2 w1.gi _).1;have e2:=evStmts_E ru P F body (d+1) _ b2 cg c2 _ _ hok.1.2 hb2 hb w1.w hA;have hAf:nhas (a.next.lendIn nm fr mt).nm fr=true:=by
   show nhas (nput (nput a.next.nm fr _) nm _) fr=true
   rw[nhas_put,nhas_put,sq_refl];simp
  have hAg:(a.next.lendIn nm fr mt).g fr={a.next.g fr with lent:=if mt then 2 else max (a.next.g fr).lent 1}:=by
   show nget (nput (nput a.next.nm fr _) nm _) fr=_
   rw[nget_put,hne,if_neg Bool.false_ne_true,nget_put,sq_refl,if_pos rfl]
  obtain⟨k1,k2⟩:=e2.2 fr (w1.gi fr hf) hAf;rw[hAg] at k2;have hin0:=hin;unfold Ev.lendOk at hin;simp only[Bool.and_eq_true,Bool.or_eq_true] at hin;have hsq:∃r,scStmt Q F (EdC.of ⟨8,x,true,false⟩ fr) ⟨c2.kn,c2.gi,c2.n+1⟩= .ok r:=by
   obtain⟨cq,awq,hq1,_⟩:=ScL.cons (l:=[]) hq;have hq1:scStmt Q F (.mk k nm fr sec mt ex args (body++[EdC.of ⟨8,x,true,false⟩ fr]) []) ⟨cs.kn,cs.gi,cs.n+1⟩= .ok (cq,awq):=hq1;obtain⟨_,cg',awg',c2',aw2',hg',hb'⟩:=sc_facts hw' hq1;rw[hg] at hg';cases hg';rw[scStmts_app,scStmts_PQ (seesN_of h F),hb] at hb';simp only at hb';rw[scStmts] at hb';split at hb'
   ·cases hb'
   ·rename_i r hr;exact⟨_,hr⟩
  have g2:=evStmts_nx ru P F body _ _ b2 hok.1.2 hb2;have g2:b2.n=a.n+1+St.sizes body:=g2;have hr:=hof fr mt (a.next.g fr) b2 c2 hin.2.2.1 (fun hm=>by rcases hin.2.2.2 with h1|h1;rw[hm] at h1;cases h1;exact h1) k1 k2 e2.1 w2.w hsq;have run:∀r,evStmt ru Q F (EdC.of ⟨8,x,true,false⟩ fr) b2.next=r→evBlock ru Q F (body++[EdC.of ⟨8,x,true,false⟩ fr]) (a.next.lendIn nm fr mt)=evKeep (a.next.lendIn nm fr mt) r:=fun r hr=>by
   unfold evBlock;rw[evStmts_app,evStmts_PQ (sees_of h F),hb2];simp only;rw[evStmts_one,hr]
  refine⟨fun ho=>?_,fun ho=>?_⟩
  ·show evStmts ru Q F [.mk k nm fr sec mt ex args (body++[EdC.of ⟨8,x,true,false⟩ fr]) []] a= .error (a.n+1+St.sizes body+1+dl)
   rw[evStmts_one,ev_8 _ _ _ _ _ _ _ _ _ _ _ _ _ hkk,hin0,if_yes rfl,run _ (hr.1 ho),←g2];rfl
  ·show evStmts ru Q F [.mk k nm fr sec mt ex args (body++[EdC.of ⟨8,x,true,false⟩ fr]) []] a=_
   rw[evStmts_one,ev_8 _ _ _ _ _ _ _ _ _ _ _ _ _ hkk,hin0,if_yes rfl,run _ (hr.2 ho)];rfl
def zzN:ByteArray:=⟨#[122,122]⟩
def putV (mt:Bool):St:=.mk 8 zzN quest false mt [num0,num0] [] [] []
def putP:St:=.mk 4 quest ⟨#[]⟩ false false [num0,num0] [] [] []
def putM:St:=.mk 9 zzN quest false false [] [] [] []
def putL:St:=.mk 8 zzN quest false false [num0,num0] [] [.mk 4 zzN ⟨#[]⟩ false false [num0,num0] [] [] []] []
theorem of_V (k:UInt8) (i e mt:Bool) (fr:ByteArray):EdC.of ⟨k,putV mt,i,e⟩ fr= .mk 8 zzN fr false mt [num0,num0] [] [] []:=rfl
theorem of_P (k:UInt8) (i e:Bool) (fr:ByteArray):EdC.of ⟨k,putP,i,e⟩ fr= .mk 4 fr ⟨#[]⟩ false false [num0,num0] [] [] []:=rfl
theorem of_M (k:UInt8) (i e:Bool) (fr:ByteArray):EdC.of ⟨k,putM,i,e⟩ fr= .mk 9 zzN fr false false [] [] [] []:=rfl
theorem of_L (k:UInt8) (i e:Bool) (fr:ByteArray):EdC.of ⟨k,putL,i,e⟩ fr= .mk 8 zzN fr false false [num0,num0] [] [.mk 4 zzN ⟨#[]⟩ false false [num0,num0] [] [] []] []:=rfl
theorem exAt0:exAt [num0,num0] 0=num0:=rfl
theorem exAt1:exAt [num0,num0] 1=num0:=rfl
theorem run_V (ru:Int) (Q:List Fu) (F:Nat) (fr:ByteArray) (mt:Bool) (body:List St) (b:Ev):evStmt ru Q F (.mk 8 zzN fr false mt [num0,num0] [] body []) b=b.if ((b.g fr).bufOk ru&&(!mt||(b.g fr).turnOk ru)) (match evBlock ru Q F body (b.lendIn zzN fr mt) with
  | .error x=>.error x
  | .ok a1=>.ok (a1.lendOut zzN fr (b.g fr).lent)):=by
 rw[ev_8 _ _ _ _ _ _ _ _ _ _ _ _ _ (by rfl)];unfold Ev.lendOk;rw[exAt0,exAt1,into_num,Bool.true_and,Bool.true_and];rfl
theorem run_P (ru:Int) (Q:List Fu) (F:Nat) (nm:ByteArray) (b:Ev):evStmt ru Q F (.mk 4 nm ⟨#[]⟩ false false [num0,num0] [] [] []) b=b.if ((b.g nm).turnOk ru) (.ok b):=by
 rw[ev_4 _ _ _ _ _ _ _ _ _ _ _ _ _ (by rfl)];unfold Ev.putOk;rw[exAt0,exAt1,into_num,so_num,sv_num];have:chk ru 2 ((b.g nm).sec|| !false)=true:=by unfold chk;simp
 rw[this,Bool.true_and,Bool.true_and,Bool.and_true]
theorem run_M (ru:Int) (Q:List Fu) (F:Nat) (fr:ByteArray) (b:Ev):evStmt ru Q F (.mk 9 zzN fr false false [] [] [] []) b=b.if (b.moveOk ru fr) (.ok ((b.put fr {b.g fr with gone:=true}).give zzN (Nm.bufv (b.g fr).sec true true))):=ev_9 _ _ _ _ _ _ _ _ _ _ _ _ _ (by rfl)
theorem buf_gone {x:Nm} (h:x.gone=true):x.bufOk 4=false:=by unfold Nm.bufOk chk;simp[h]
theorem turn_gone {x:Nm} (h:x.gone=true):x.turnOk 4=false:=by unfold Nm.turnOk;rw[buf_gone h];rfl
theorem gone_V (Q:List Fu) (F:Nat) (mt:Bool) (fr:ByteArray) (b:Ev) (h:(b.g fr).gone=true):evStmt 4 Q F (EdC.of ⟨9,putV mt,false,false⟩ fr) b= .error b.n:=by
 rw[of_V,run_V,if_no];rw[buf_gone h];rfl
theorem gone_P (Q:List Fu) (F:Nat) (fr:ByteArray) (b:Ev) (h:(b.g fr).gone=true):evStmt 4 Q F (EdC.of ⟨9,putP,false,false⟩ fr) b= .error b.n:=by
 rw[of_P,run_P,if_no (turn_gone h)]
theorem gone_M (Q:List Fu) (F:Nat) (fr:ByteArray) (b:Ev) (h:(b.g fr).gone=true):evStmt 4 Q F (EdC.of ⟨9,putM,false,false⟩ fr) b= .error b.n:=by
 rw[of_M,run_M,if_no];unfold Ev.moveOk;rw[buf_gone h];rfl
theorem lent_ge {x y:Nm} {mt:Bool} (h:Fix {x with lent:=if mt then 2 else max x.lent 1} y):1≤y.lent:=by
 have:=h.lent;simp only at this;rw[this];split
 ·decide
 ·exact Int.le_max_right _ _
theorem turn_lent {x:Nm} (h:1≤x.lent):x.turnOk 3=false:=by
 unfold Nm.turnOk;have:chk 3 3 (x.lent==0)=false:=by
  unfold chk;have:(x.lent==0)=false:=by rw[beq_eq_false_iff_ne];omega
  rw[this];rfl
 rw[this,Bool.and_false,Bool.and_false]
theorem within_E (Q:List Fu) (F:Nat) (fr:ByteArray) (b:Ev) (h:1≤(b.g fr).lent):evStmt 3 Q F (EdC.of ⟨8,putV true,true,false⟩ fr) b.next= .error (b.n+1+0):=by
 rw[of_V,run_V,if_no]
 ·rw[Int.add_zero];rfl
 ·rw[show b.next.g fr=b.g fr from rfl,turn_lent h];simp
theorem within_P (Q:List Fu) (F:Nat) (fr:ByteArray) (b:Ev) (h:1≤(b.g fr).lent):evStmt 3 Q F (EdC.of ⟨8,putP,true,false⟩ fr) b.next= .error (b.n+1+0):=by
 rw[of_P,run_P,if_no]
 ·rw[Int.add_zero];rfl
 ·exact turn_lent h
theorem within_M (Q:List Fu) (F:Nat) (fr:ByteArray) (b:Ev) (h:1≤(b.g fr).lent):evStmt 3 Q F (EdC.of ⟨8,putM,true,false⟩ fr) b.next= .error (b.n+1+0):=by
 rw[of_M,run_M,if_no]
 ·rw[Int.add_zero];rfl
 ·unfold Ev.moveOk;have:chk 3 3 ((b.next.g fr).lent==0)=false:=by
   unfold chk;have:((b.next.g fr).lent==0)=false:=by rw[beq_eq_false_iff_ne];show(b.g fr).lent≠0;omega
   rw[this];rfl
  rw[this];simp
theorem nkeep_self (l:NL):nkeep l l=l:=by
 unfold nkeep;rw[List.filter_eq_self];intro p hp;rw[nhas,List.any_eq_true];exact⟨p,hp,sq_refl _⟩
theorem ndel_new {l:NL} {s:ByteArray} (h:nhas l s=false) (z:Nm):ndel (l++[(s,z)]) s=l:=by
 unfold ndel;rw[List.filter_append,List.filter_eq_self.2]
 ·simp[sq_refl]
 ·intro p hp;cases hs:sq p.1 s with
  |false=>rfl
  |true=>
   have:nhas l s=true:=by rw[nhas,List.any_eq_true];exact⟨p,hp,hs⟩
   rw[this] at h;cases h
theorem within_V (Q:List Fu) (F:Nat) (fr:ByteArray) (mt:Bool) (X:Nm) (b:Ev) (cb:Sc) (hX:X.bufOk 3=true) (hh:nhas b.nm fr=true) (hF:Fix {X with lent:=if mt then 2 else max X.lent 1} (b.g fr)) (hE:EnvG b cb) (hW:ScW cb)
  (hs:∃r,scStmt Q F (EdC.of ⟨8,putV false,true,false⟩ fr) ⟨cb.kn,cb.gi,cb.n+1⟩= .ok r):
  (mt=true→evStmt 3 Q F (EdC.of ⟨8,putV false,true,false⟩ fr) b.next= .error (b.n+1+0))∧(mt=false→evStmt 3 Q F (EdC.of ⟨8,putV false,true,false⟩ fr) b.next= .ok b.sh):=by
 rw[of_V] at hs ⊢;have hl:=hF.lent;simp only at hl;refine⟨fun hm=>?_,fun hm=>?_⟩
 ·rw[run_V,if_no]
  ·rw[Int.add_zero];rfl
  ·have:(b.next.g fr).bufOk 3=false:=by
    show(b.g fr).bufOk 3=false
    unfold Nm.bufOk;rw[hl,hm];simp[chk]
   rw[this];rfl
 ·have hX3:X.lent<2:=by
   unfold Nm.bufOk chk at hX;simp at hX;exact hX
  have h1:(b.g fr).lent=1:=by rw[hl,hm];simp only[Bool.false_eq_true,if_false];omega
  obtain⟨⟨c1,aw1⟩,hs⟩:=hs;have hW':ScW ⟨cb.kn,cb.gi,cb.n+1⟩:=⟨hW.kg,hW.ne⟩;obtain⟨_,cg,awg,_,_,hg,_⟩:=sc_facts hW' hs;have hz:=(gives_new hW' (by decide) (by rfl) hg).1;have hzn:nhas b.nm zzN=false:=by
   cases hx:nhas b.nm zzN with
   |false=>rfl
   |true=>
    have h2:=hE.has _ hx;have hz:inM cb.gi zzN=false:=hz;rw[h2] at hz;cases hz
  have hb:(b.next.g fr).bufOk 3=true:=by
   show(b.g fr).bufOk 3=true
   unfold Nm.bufOk;rw[h1];simp[chk]
  rw[run_V,if_yes (by rw[hb];rfl)];have hlent:({b.next.g fr with lent:=if false then 2 else max (b.next.g fr).lent 1}:Nm)=nget b.nm fr:=by
   show({b.g fr with lent:=max (b.g fr).lent 1}:Nm)=b.g fr
   have:max (b.g fr).lent 1=(b.g fr).lent:=by rw[h1];rfl
   rw[this]
  have hin:b.next.lendIn zzN fr false=⟨b.nm++[(zzN,{Nm.bufv (b.g fr).sec false false with loops:=b.loops})],b.n+1,b.loops⟩:=by
   show Ev.mk (nput (nput b.nm fr {b.next.g fr with lent:=if false then 2 else max (b.next.g fr).lent 1}) zzN _) (b.n+1) b.loops=_
   rw[hlent,nput_same hE.nod hh];unfold nput;rw[if_neg (by rw[hzn];decide)];rfl
  have hbl:evBlock 3 Q F [] (b.next.lendIn zzN fr false)= .ok (b.next.lendIn zzN fr false):=by
   unfold evBlock;rw[evStmts];show Except.ok ((b.next.lendIn zzN fr false).with (nkeep (b.next.lendIn zzN fr false).nm (b.next.lendIn zzN fr false).nm))=_
   rw[nkeep_self];rfl
  rw[hbl];simp only;rw[hin];show Except.ok (Ev.mk (nput (ndel (b.nm++[(zzN,_)]) zzN) fr {nget (ndel (b.nm++[(zzN,_)]) zzN) fr with lent:=(b.g fr).lent}) (b.n+1) b.loops)=_
  rw[ndel_new hzn];show Except.ok (Ev.mk (nput b.nm fr (nget b.nm fr)) (b.n+1) b.loops)=_
  rw[nput_same hE.nod hh];rfl
theorem lent_L (Q:List Fu) (F:Nat) (fr:ByteArray) (X:Nm) (b:Ev) (hX:X.bufOk 1=true) {mt:Bool} (hF:Fix {X with lent:=if mt then 2 else max X.lent 1} (b.g fr)):evStmt 1 Q F (EdC.of ⟨8,putL,true,false⟩ fr) b.next= .error (b.n+1+1):=by
 have hb:(b.g fr).bufOk 1=true:=by
  have h1:X.buf=true:=by unfold Nm.bufOk chk at hX;simpa using hX
  have h2:(b.g fr).buf=true:=hF.buf.trans h1;unfold Nm.bufOk chk;rw[h2];rfl
 rw[of_L,run_V,if_yes (by rw[show b.next.g fr=b.g fr from rfl,hb];rfl)];have hbl:evBlock 1 Q F [.mk 4 zzN ⟨#[]⟩ false false [num0,num0] [] [] []] (b.next.lendIn zzN fr false)= .error (b.n+1+1):=by
  refine keep_err ?_;rw[evStmts_one,run_P,if_no]
  ·rfl
  ·show(nget (nput (nput b.nm fr _) zzN _) zzN).turnOk 1=false
   rw[nget_put,sq_refl,if_pos rfl];rfl
 rw[hbl]
theorem askss_num (k:ByteArray→Bool):∀l:List Ex,Ex.askss k (l++[num0])=Ex.askss k l
 |[]=>by
  rw[List.nil_append,Ex.askss,Ex.askss,num0,Ex.asks,Ex.askss,show emp (⟨#[]⟩:ByteArray)=true from rfl];rfl
 |e::l=>by rw[List.cons_append,Ex.askss,Ex.askss,askss_num k l]
mutual
theorem ed_sc {P Q:List Fu} {F:Nat} (h:SeesN P Q F) (kd:UInt8) (x:St):∀(s:St) (e:EdS),∃s',(s.ed ⟨kd,x,false,true⟩ e).1=[s']∧∀c,scStmt Q F s' c=scStmt P F s c
 | .mk k nm fr sec mt ex args body els,e=>by
   rw[St.ed];simp only[Bool.not_false,Bool.not_true,Bool.and_false,Bool.and_true,Bool.false_eq_true,if_false];refine⟨_,rfl,fun c=>?_⟩;rw[scStmt,scStmt];have hh:∀b:Bool,scHead Q F (inM c.kn) k nm fr (if b then ex++[num0] else ex) args=scHead P F (inM c.kn) k nm fr ex args:=fun b=>by
    rw[head_PQ h];unfold scHead;cases b
    ·rfl
    ·simp only[if_true];rw[askss_num]
   rw[hh];split
   ·rfl
   ·cases c.gives k nm with
    |error y=>rfl
    |ok p=>
     simp only;rw[eds_sc h kd x body];cases scStmts P F body p.1 [] with
     |error y=>rfl
     |ok q=>
      simp only;rw[eds_sc h kd x els]
theorem eds_sc {P Q:List Fu} {F:Nat} (h:SeesN P Q F) (kd:UInt8) (x:St):∀(l:List St) (e:EdS) (c:Sc) (aw:List ByteArray),scStmts Q F (St.eds ⟨kd,x,false,true⟩ l e).1 c aw=scStmts P F l c aw
 |[],e,c,aw=>by rw[St.eds,scStmts,scStmts]
 |s::l,e,c,aw=>by
  obtain⟨s',h1,h2⟩:=ed_sc h kd x s e;rw[St.eds];simp only;rw[h1,List.cons_append,List.nil_append,scStmts,scStmts,h2];cases scStmt P F s ⟨c.kn,c.gi,c.n+1⟩ with
  |error y=>rfl
  |ok p=>exact eds_sc h kd x l _ p.1 _
end
theorem walk_sc (P:List Fu) (kd:UInt8) (x:St) (e0:EdS):∀i,i≤P.length→scWalk (Fu.eds ⟨kd,x,false,true⟩ P e0).1 i=scWalk P i
 |0,_=>by rw[scWalk,scWalk]
 |i+1,hi=>by
  have hi':i<P.length:=hi;have hN:=seesN_of (fueds_bare ⟨kd,x,false,true⟩ P e0) i;rw[scWalk,scWalk,walk_sc P kd x e0 i (by omega)];cases scWalk P i with
  |error y=>rfl
  |ok n=>
   simp only;rw[fueds_getD _ P e0 i hi',List.getD_eq_getElem?_getD,List.getElem?_eq_getElem hi',Option.getD_some];unfold scFun;rw[show(P[i].ed ⟨kd,x,false,true⟩ (Fu.eds ⟨kd,x,false,true⟩ (P.take i) e0).2).1.name=P[i].name from rfl,hN.nam];split
   ·rfl
   ·rw[show(P[i].ed ⟨kd,x,false,true⟩ (Fu.eds ⟨kd,x,false,true⟩ (P.take i) e0).2).1.params=P[i].params from rfl];cases scParams P[i].params ⟨[],[],n⟩ with
    |error y=>rfl
    |ok a=>
     simp only;rw[show(P[i].ed ⟨kd,x,false,true⟩ (Fu.eds ⟨kd,x,false,true⟩ (P.take i) e0).2).1.body=(St.eds ⟨kd,x,false,true⟩ P[i].body (Fu.eds ⟨kd,x,false,true⟩ (P.take i) e0).2).1 from rfl,eds_sc hN kd x];rfl
section
variable {P:List Fu} {e0:EdS} (h0:e0.done=false) (hn0:e0.n=0)
include h0 hn0
theorem law_calls (x:St) (hP:(layM P 1).2=0) (hm:mayM (Fu.eds ⟨11,x,false,true⟩ P e0).1=true) (hd:(Fu.eds ⟨11,x,false,true⟩ P e0).2.done=true):layM (Fu.eds ⟨11,x,false,true⟩ P e0).1 1=((Fu.eds ⟨11,x,false,true⟩ P e0).2.at_,8):=by
 have hQ:(layM (Fu.eds ⟨11,x,false,true⟩ P e0).1 0).2=0:=by
  obtain⟨_,m,hs⟩:=sc_ok (layM_sc 1 hP);rw[layM,scCheck,hm,if_pos rfl,fueds_len,walk_sc P 11 x e0 _ (Nat.le_refl _),hs]
 have:=(lay_edit (k:=0) (fun F=>loc_calls (fueds_bare _ P e0) x F) h0 hn0 hP hQ hd).1 rfl;rw[Int.add_zero] at this;exact this
theorem law_lent (hP:(layM P 1).2=0) (hQ:(layM (Fu.eds ⟨8,putL,true,false⟩ P e0).1 0).2=0) (hd:(Fu.eds ⟨8,putL,true,false⟩ P e0).2.done=true):layM (Fu.eds ⟨8,putL,true,false⟩ P e0).1 1=((Fu.eds ⟨8,putL,true,false⟩ P e0).2.at_+1,8):=
 (lay_edit (k:=0) (fun F=>loc_view (fueds_bare _ P e0) putL F (fun _=>true) 1 fun fr mt X b cb hX _ _ hF _ _ _=>⟨fun _=>lent_L _ F fr X b hX hF,fun h=>by cases h⟩) h0 hn0 hP hQ hd).1 rfl
theorem law_gone (x:St) (hx:∀(Q:List Fu) (F:Nat) (fr:ByteArray) (b:Ev),(b.g fr).gone=true→evStmt 4 Q F (EdC.of ⟨9,x,false,false⟩ fr) b= .error b.n) (hP:(layM P 4).2=0) (hQ:(layM (Fu.eds ⟨9,x,false,false⟩ P e0).1 3).2=0) (hd:(Fu.eds ⟨9,x,false,false⟩ P e0).2.done=true):
  layM (Fu.eds ⟨9,x,false,false⟩ P e0).1 4=((Fu.eds ⟨9,x,false,false⟩ P e0).2.at_,140):=by
 have:=(lay_edit (k:=3) (fun F=>loc_moves (fueds_bare _ P e0) x F (hx _ F)) h0 hn0 hP hQ hd).1 rfl;rw[Int.add_zero] at this;exact this
theorem law_within (x:St) (hx:∀(Q:List Fu) (F:Nat) (fr:ByteArray) (b:Ev),1≤(b.g fr).lent→evStmt 3 Q F (EdC.of ⟨8,x,true,false⟩ fr) b.next= .error (b.n+1+0)) (hP:(layM P 3).2=0) (hQ:(layM (Fu.eds ⟨8,x,true,false⟩ P e0).1 2).2=0) (hd:(Fu.eds ⟨8,x,true,false⟩ P e0).2.done=true):
  layM (Fu.eds ⟨8,x,true,false⟩ P e0).1 3=((Fu.eds ⟨8,x,true,false⟩ P e0).2.at_,130):=by
 have:=(lay_edit (k:=2) (fun F=>loc_view (fueds_bare _ P e0) x F (fun _=>true) 0 fun fr mt X b cb _ _ _ hF _ _ _=>⟨fun _=>hx _ F fr b (lent_ge hF),fun h=>by cases h⟩) h0 hn0 hP hQ hd).1 rfl;rw[Int.add_zero] at this;exact this
theorem law_read (hP:(layM P 3).2=0) (hQ:(layM (Fu.eds ⟨8,putV false,true,false⟩ P e0).1 2).2=0) (hd:(Fu.eds ⟨8,putV false,true,false⟩ P e0).2.done=true):
  layM (Fu.eds ⟨8,putV false,true,false⟩ P e0).1 3=if(Fu.eds ⟨8,putV false,true,false⟩ P e0).2.fl then((Fu.eds ⟨8,putV false,true,false⟩ P e0).2.at_,130) else(0,0):=by
 have:=lay_edit (k:=2) (o:=fun b=>b) (fun F=>loc_view (fueds_bare _ P e0) (putV false) F (fun b=>b) 0 fun fr mt X b cb hX _ hh hF hE hW hs=>within_V _ F fr mt X b cb hX hh hF hE hW hs) h0 hn0 hP hQ hd;cases hf:(Fu.eds ⟨8,putV false,true,false⟩ P e0).2.fl
 ·exact this.2 hf
 ·have h1:=this.1 hf;rw[Int.add_zero] at h1;exact h1
end
end
section
structure Tk where
 kind:UInt8
 text:ByteArray
 num:UInt64
 at_:Nat
def Tk.zero:Tk:=⟨0,⟨#[]⟩,0,0⟩
def bs (l:List UInt8):ByteArray:=⟨l.toArray⟩
def lexSigns:List ByteArray:=[⟨#[62,62,62]⟩,⟨#[46,46]⟩,⟨#[42,94]⟩,⟨#[60,60]⟩,⟨#[62,62]⟩,⟨#[60,36]⟩,⟨#[40]⟩,⟨#[41]⟩,⟨#[123]⟩,⟨#[125]⟩,⟨#[91]⟩,⟨#[93]⟩,⟨#[44]⟩,⟨#[59]⟩,⟨#[61]⟩,⟨#[35]⟩,⟨#[43]⟩,⟨#[45]⟩,⟨#[42]⟩,⟨#[47]⟩,⟨#[37]⟩,⟨#[38]⟩,⟨#[124]⟩,⟨#[94]⟩,⟨#[60]⟩]
def wLet:ByteArray:=⟨#[108,101,116]⟩
def wSecret:ByteArray:=⟨#[115,101,99,114,101,116]⟩
def wBuf:ByteArray:=⟨#[98,117,102]⟩
def wIf:ByteArray:=⟨#[105,102]⟩
def wElse:ByteArray:=⟨#[101,108,115,101]⟩
def wWhile:ByteArray:=⟨#[119,104,105,108,101]⟩
def wFor:ByteArray:=⟨#[102,111,114]⟩
def wView:ByteArray:=⟨#[118,105,101,119]⟩
def wEdit:ByteArray:=⟨#[101,100,105,116]⟩
def wMove:ByteArray:=⟨#[109,111,118,101]⟩
def wOpen:ByteArray:=⟨#[111,112,101,110]⟩
def wCall:ByteArray:=⟨#[99,97,108,108]⟩
def wSeal:ByteArray:=⟨#[115,101,97,108]⟩
def wFn:ByteArray:=⟨#[102,110]⟩
def wNum:ByteArray:=⟨#[110,117,109]⟩
def gBra:ByteArray:=⟨#[123]⟩
def gKet:ByteArray:=⟨#[125]⟩
def gBox:ByteArray:=⟨#[91]⟩
def gUnbox:ByteArray:=⟨#[93]⟩
def gPar:ByteArray:=⟨#[40]⟩
def gUnpar:ByteArray:=⟨#[41]⟩
def gCom:ByteArray:=⟨#[44]⟩
def gSem:ByteArray:=⟨#[59]⟩
def gEq:ByteArray:=⟨#[61]⟩
def gLt:ByteArray:=⟨#[60]⟩
def gDots:ByteArray:=⟨#[46,46]⟩
section
variable (ts:List Tk) (f:Nat)
end
end
def lexSign (s:ByteArray) (at_:Nat):Option ByteArray:=lexSigns.find? fun x=>decide (at_+x.size≤s.size)&&sq (s.extract at_ (at_+x.size)) x
theorem signs_any (w:World):Calls Tryz.prog 186 #[] w fun e w'=>∃b c,e= .returned (.slice (some ⟨b,0,none⟩) 25 c)∧Fr Non w w'∧RdRows (fun _=>True) w' 1 (some ⟨b,0,none⟩) 0 (lexSigns.map strD):=by
 go_enter Tryz.func186,Tryz.ntmps186;go_wp2_with fail;go_ret;exact⟨w.heap.size,25,rfl,(Fr.refl _ _).alloc _,rd_strs _ _ _ rfl⟩
theorem lex_small:∀x∈lexSigns,x.size≤3:=by decide
theorem find_none_at {α:Type} {p:α→Bool} {l:List α} (h:∀j (hj:j<l.length),p l[j]=false):l.find? p=none:=by
 rw[List.find?_eq_none];intro x hx;obtain⟨j,hj,rfl⟩:=List.mem_iff_getElem.1 hx;simp[h j hj]
theorem find_some_at {α:Type} {p:α→Bool}:∀{l:List α} {k:Nat} (hk:k<l.length),p l[k]=true→(∀j,j<k→∀hj:j<l.length,p l[j]=false)→l.find? p=some l[k]
 |x::l,0,_,h,_=>by simp at h;simp[h]
 |x::l,k+1,hk,h,hn=>by
  have h0:=hn 0 (by omega) (by simp);simp at h0;rw[List.find?_cons,h0];simp only;rw[find_some_at (k:=k) (by simpa using hk) (by simpa using h) (fun j hj hjl=>by have:=hn (j+1) (by omega) (by simpa using hjl);simpa using this)];rfl
theorem lexsign_any (s:ByteArray) (at_:Nat) (w:World) (hat:at_≤s.size) (hs:s.size≤1099511627776):
  Calls Tryz.prog 179 #[.string s,.int .i64 at_] w fun e w'=>e= .returned (.string ((lexSign s at_).getD ⟨#[]⟩))∧Fr Non w w':=by
 go_enter Tryz.func179,Tryz.ntmps179;go_wp2_with fail;refine(signs_any _).mono ?_;rintro e w1 ⟨b,c,rfl,hf,hr⟩;have HR:=Zh hr;clear hr;have HF:=Zh hf;clear hf;go_wp2_with fail
 go_loopw [6] (fun i wr=>∃k:Nat,i= .int .i64 k∧k≤25∧Fr Non w1 wr∧∀j,j<k→∀hj:j<lexSigns.length,(decide (at_+lexSigns[j].size≤s.size)&&sq (s.extract at_ (at_+lexSigns[j].size)) lexSigns[j])=false) (fun i _=>25-(intOf i).toNat)
 case atStart=>exact⟨0,rfl,by omega,Zf _,fun j hj=>by omega⟩
 case round=>
  obtain⟨k,rfl,hk,hfr,hno⟩:=hrel;have HN:=Zh hno;clear hno;have hlen:lexSigns.length=25:=rfl;have HLEN:=Zh hlen;clear hlen;by_cases hlt:k<25
  ·have hkl:k<lexSigns.length:=by rw[HLEN.out];exact hlt
   obtain⟨b0,o0,e0,hb,h0⟩:=at_str (HR.out.fr hfr (fun _ _=>non _) fun _ h=>h) k hkl;cases e0;have hx3:=lex_small _ (List.getElem_mem hkl);have HTR:=Zh (find_some_at (p:=fun x=>decide (at_+x.size≤s.size)&&sq (s.extract at_ (at_+x.size)) x) hkl);have hno2:=fun(hq:(decide (at_+lexSigns[k].size≤s.size)&&sq (s.extract at_ (at_+lexSigns[k].size)) lexSigns[k])=false)=>till (P:=fun j=>∀hj:j<lexSigns.length,(decide (at_+lexSigns[j].size≤s.size)&&sq (s.extract at_ (at_+lexSigns[j].size)) lexSigns[j])=false) HN.out (fun _=>hq);have HN2:=Zh hno2;clear hno2;generalize lexSigns[k]=x at*;simp only[Nat.zero_add] at h0;have y0:=ext_cell h0;by_cases hfit:at_+x.size≤s.size
   ·have hd:decide ((at_:Int)+(x.size:Int)≤(s.size:Int))=true:=decide_eq_true (by omega);go_upto_region 5 with fail;refine wp_region_ext (by kernel_rfl) (by kernel_rfl) ?_
    repeat (go_big_quiet_step (fail))
    refine wpQuiet_nil ?_;intro w2 hf2;clear y0;rw[tosq];have h2:=hf2.cell' h0 (non _);have HF2:=Zh (hfr.trans hf2);generalize hq:sq (s.extract at_ (at_+x.size)) x=q at*;have HQ:=Zh hq;clear hq;clear h0 hf2 hfr;cases q with
    |true=>
     have HT:=Zh (HTR.out (by simp[hfit]) HN.out);go_wp2_with fail;go_ret;refine⟨?_,HF.out.trans HF2.out⟩;rw[lexSign,HT.out];rfl
    |false=>
     have HN3:=Zh (HN2.out (by simp));go_wp2_with fail;go_roundw
     case rel=>exact⟨k+1,by go_num,by omega,HF2.out,HN3.out⟩
     case measure=>simp[intOf];omega
   ·have hd:decide ((at_:Int)+(x.size:Int)≤(s.size:Int))=false:=decide_eq_false (by omega);have HN3:=Zh (HN2.out (by simp[hfit]));go_upto_region 5 with fail;refine wp_region_ext (by kernel_rfl) (by kernel_rfl) ?_
    repeat (go_big_quiet_step (fail))
    refine wpQuiet_nil ?_;intro w2 hf2;have HF2:=Zh (hfr.trans hf2);clear y0 h0 hf2 hfr;go_wp2_with fail;go_roundw
    case rel=>exact⟨k+1,by go_num,by omega,HF2.out,HN3.out⟩
    case measure=>simp[intOf];omega
  ·obtain rfl:k=25:=by omega
   have HNO:=Zh (find_none_at (p:=fun x=>decide (at_+x.size≤s.size)&&sq (s.extract at_ (at_+x.size)) x) (l:=lexSigns) fun j hj=>HN.out j (by have:=HLEN.out;omega) hj);go_wp2_with fail;go_ret;refine⟨?_,HF.out.trans hfr⟩;rw[lexSign,HNO.out];rfl
def bt (s:ByteArray) (i:Nat):UInt8:=s.data.getD i 0
theorem bt_get {s:ByteArray} {i:Nat} (h:i<s.size):s[i]=bt s i:=by
 have h':i<s.data.size:=h;rw[bt,Array.getD,dif_pos h'];rfl
theorem ext_one {s:ByteArray} {i:Nat} (h:i<s.size):s.extract i (i+1)=⟨#[bt s i]⟩:=by
 have h':i<s.data.size:=h;apply ByteArray.ext;rw[ByteArray.data_extract];apply Array.ext
 ·simp;omega
 ·intro j h1 h2;simp at h2;subst h2;simp[bt,Array.getD,h'];intro h9;omega
def runD (p:UInt8→Bool) (s:ByteArray):Nat→Nat→Nat
 |0,e=>e
 |f+1,e=>if decide (e<s.size)&&p (bt s e) then runD p s f (e+1) else e
theorem runD_eq (p:UInt8→Bool) (s:ByteArray):∀(f a e:Nat),a≤e→e-a<f→(∀i,a≤i→i<e→i<s.size∧p (bt s i)=true)→¬(e<s.size∧p (bt s e)=true)→runD p s f a=e
 |0,a,e,h1,h2,_,_=>by omega
 |f+1,a,e,h1,h2,h3,h4=>by
  rw[runD];by_cases h:a=e
  ·subst h;rw[if_neg (by simpa using h4)]
  ·have:=h3 a (Nat.le_refl _) (by omega);rw[if_pos (by simpa using this)];exact runD_eq p s f (a+1) e (by omega) (by omega) (fun i hi hj=>h3 i (by omega) hj) h4
theorem number1_any (c:UInt8) (hd:digitM c=true) (w:World):Calls Tryz.prog 178 #[.string ⟨#[c]⟩] w fun e w'=>e= .returned (.tuple #[vu64 (UInt64.ofNat (c.toNat-48)),.bool true])∧w=w':=by
 have hd2:48≤c.toNat∧c.toNat≤57:=by simpa[digitM] using hd
 obtain⟨hd2,hd3⟩:=hd2;go_enter Tryz.func178,Tryz.ntmps178;go_wp2_with fail;refine wp_loop_rounds 2 ?_;rw[rounds_succ];go_wp2_with fail;rw[rounds_succ];go_wp2_with fail;have hv:(((((⟨#[c]⟩:ByteArray)[0]'(show 0<1 by decide)).toNat:Int)-48)%256)=(((UInt64.ofNat (c.toNat-48)).toNat:Nat):Int):=by
  show((c.toNat:Int)-48)%256=_
  rw[UInt64.toNat_ofNat_of_lt' (by show c.toNat-48<2^64;omega)];omega
 rw[hv];refine bodyPost_ret (v:=.tuple #[vu64 (UInt64.ofNat (c.toNat-48)),.bool true]) (by simp[results,Tryz.results178,go_sem]) rfl ⟨rfl,rfl⟩
theorem blk_put4 {w:World} {g:Nat} {a0 a1 a2 a3:Value} {T:TypeId} (h:w.heap[g]? =some (.cells #[a0,a1,a2,a3] T (0,0))) (v0 v1 v2 v3:Value):
  ((((w.setCell ⟨g,0,none⟩ v0).setCell ⟨g,1,none⟩ v1).setCell ⟨g,2,none⟩ v2).setCell ⟨g,3,none⟩ v3).heap[g]? =some (.cells #[v0,v1,v2,v3] T (0,0)):=by
 have h0:(w.setCell ⟨g,0,none⟩ v0).heap[g]? =some (.cells #[v0,a1,a2,a3] T (0,0)):=blk_set h 0 v0;have h1:((w.setCell ⟨g,0,none⟩ v0).setCell ⟨g,1,none⟩ v1).heap[g]? =some (.cells #[v0,v1,a2,a3] T (0,0)):=blk_set h0 1 v1;have h2:(((w.setCell ⟨g,0,none⟩ v0).setCell ⟨g,1,none⟩ v1).setCell ⟨g,2,none⟩ v2).heap[g]? =some (.cells #[v0,v1,v2,a3] T (0,0)):=blk_set h1 2 v2;exact blk_set h2 3 v3
theorem fr_put4 {g:Nat} {w0 w:World} (h:Fr Non w0 w) (hg:w0.heap.size≤g) (v0 v1 v2 v3:Value):Fr Non w0 ((((w.setCell ⟨g,0,none⟩ v0).setCell ⟨g,1,none⟩ v1).setCell ⟨g,2,none⟩ v2).setCell ⟨g,3,none⟩ v3):=
 (((h.setCell ⟨g,0,none⟩ _ (.inr hg)).setCell ⟨g,1,none⟩ _ (.inr hg)).setCell ⟨g,2,none⟩ _ (.inr hg)).setCell ⟨g,3,none⟩ _ (.inr hg)
def Tk.v (t:Tk):Value:=.agg #[vu8 t.kind,.string t.text,vu64 t.num,.int .i64 t.at_]
def oneS (s:ByteArray) (i:Nat):Option (Tk×Nat):=
 let e:=runD digitM s (s.size+1) i
 if i<e then(if e=i+1 then some (⟨3,⟨#[]⟩,UInt64.ofNat ((bt s i).toNat-48),i⟩,1) else none)
 else
  let e2:=runD partM s (s.size+1) i
  if i<e2 then(if e2-i≤16 then some (⟨if wordM (s.extract i e2) then 2 else 1,s.extract i e2,0,i⟩,e2-i) else none)
  else(lexSign s i).map fun x=>(⟨4,x,0,i⟩,x.size)
theorem lex_pos:∀x∈lexSigns,0<x.size:=by decide
theorem one_any (s:ByteArray) (i:Nat) (t:Tk) (n:Nat) (w:World) (hi:i<s.size) (hs:s.size≤1099511627776) (h:oneS s i=some (t,n)):
  Calls Tryz.prog 158 #[.string s,.int .i64 i] w fun e w'=>e= .returned (.tuple #[t.v,.int .i64 n,.int .i64 0])∧Fr Non w w':=by
 obtain⟨W1,HW1⟩:∃W1,W1=w.alloc (.cells #[.int .u8 0,.string ⟨#[]⟩,.int .u64 0,.int .i64 0] 172):=⟨_,rfl⟩;have hf1:Fr Non w W1:=by rw[HW1];exact(Zf w).alloc _
 have hb1:W1.heap[w.heap.size]? =some (.cells #[.int .u8 0,.string ⟨#[]⟩,.int .u64 0,.int .i64 0] 172 (0,0)):=by rw[HW1];exact blk_new _ _ _
 have HF1:=Zh hf1;clear hf1;have HB1:=Zh hb1;clear hb1;have H:=Zh h;clear h;go_enter Tryz.func158,Tryz.ntmps158;go_upto_region 1 with fail;rw[←HW1];clear HW1;go_upto_block 0 with fail
 go_cut [7] (fun v7 wx=>∃e:Nat,v7= .int .i64 e∧wx=W1∧runD digitM s (s.size+1) i=e∧i≤e∧e≤s.size∧(i<e→digitM (bt s i)=true))
 case first=>
  go_wp2_with fail
  go_loop [7] (fun v=>∃e:Nat,v= .int .i64 e∧i≤e∧e≤s.size∧∀j,i≤j→j<e→j<s.size∧digitM (bt s j)=true) (fun v=>s.size-(intOf v).toNat)
  case atStart=>exact⟨i,rfl,by omega,by omega,fun j h1 h2=>by omega⟩
  case round=>
   obtain⟨e,rfl,hie,hes,hall⟩:=hrel;have HA:=Zh hall;clear hall;by_cases hlt:e<s.size
   ·cases hd:digitM s[e] with
    |true=>
     have HD:=Zh hd;go_wp2_with fail;refine(digit_any _ _).mono ?_;rintro r w1 ⟨rfl,rfl⟩;go_wp2_with fail
     go_round
     case rel=>exact⟨e+1,by go_num,by omega,by omega,fun j h1 h2=>by
      rcases Nat.lt_or_eq_of_le (Nat.le_of_lt_succ h2) with h3|rfl
      ·exact HA.out j h1 h3
      ·exact⟨hlt,by rw[←bt_get hlt];exact HD.out⟩⟩
     case measure=>simp[intOf];omega
    |false=>
     have HE:=Zh (runD_eq digitM s (s.size+1) i e hie (by omega) HA.out (fun h9=>by rw[←bt_get h9.1,hd] at h9;cases h9.2));go_wp2_with fail;refine(digit_any _ _).mono ?_;rintro r w1 ⟨rfl,rfl⟩;go_wp2_with fail
     go_meet
     exact⟨e,rfl,rfl,HE.out,hie,hes,fun h9=>(HA.out i (Nat.le_refl _) h9).2⟩
   ·have HE:=Zh (runD_eq digitM s (s.size+1) i e hie (by omega) HA.out (fun h9=>hlt h9.1));go_wp2_with fail
    go_meet
    exact⟨e,rfl,rfl,HE.out,hie,hes,fun h9=>(HA.out i (Nat.le_refl _) h9).2⟩
 case rest=>
  obtain⟨e,rfl,rfl,hre,hie,hes,hdi⟩:=hcut;have HRE:=Zh hre;clear hre;by_cases hlt:i<e
  ·have h:=H.out;have HDI:=Zh (hdi hlt);clear hdi;simp only[oneS,HRE.out,if_pos hlt] at h;have h1:e=i+1:=by
    by_cases h9:e=i+1
    ·exact h9
    ·rw[if_neg h9] at h;cases h
   rw[if_pos h1] at h;simp only[Option.some.injEq,Prod.mk.injEq] at h;obtain⟨h2,h3⟩:=h;have HT:=Zh h2;clear h2;have HN:=Zh h3;clear h3;have HEX:=Zh (show s.extract i e=⟨#[bt s i]⟩ by rw[h1];exact ext_one hi);have HE1:=Zh h1;clear h1;clear H HRE;go_wp2_with fail;rw[HEX.out];refine(number1_any (bt s i) HDI.out wc).mono ?_;rintro r w2 ⟨rfl,rfl⟩;generalize UInt64.ofNat ((bt s i).toNat-48)=un at*;obtain⟨WX,hWX⟩:∃WX,WX=wc:=⟨_,rfl⟩;rw[←hWX];have HBX:=Zh (show WX.heap[w.heap.size]? =some (.cells #[.int .u8 0,.string ⟨#[]⟩,.int .u64 0,.int .i64 0] 172 (0,0)) by rw[hWX];exact HB1.out);have HFX:=Zh (show Fr Non w WX by rw[hWX];exact HF1.out);clear hWX;have f0:=(Zc HBX.out).1 0 _ rfl;have f1:=(Zc HBX.out).1 1 _ rfl;have f2:=(Zc HBX.out).1 2 _ rfl;have f3:=(Zc HBX.out).1 3 _ rfl;have ff:=(Zc HBX.out).2;go_wp2_with fail;clear f0 f1 f2 f3 ff;have HB4:=Zh (blk_put4 HBX.out (.int .u8 3) (.string ⟨#[]⟩) (vu64 un) (.int .i64 i));have HF4:=Zh (fr_put4 HFX.out (Nat.le_refl w.heap.size) (.int .u8 3) (.string ⟨#[]⟩) (vu64 un) (.int .i64 i));generalize (((WX.setCell ⟨w.heap.size,0,none⟩ (.int .u8 3)).setCell ⟨w.heap.size,1,none⟩ (.string ⟨#[]⟩)).setCell ⟨w.heap.size,2,none⟩ (vu64 un)).setCell ⟨w.heap.size,3,none⟩ (.int .i64 i)=w4 at*;have f0:=(Zc HB4.out).1 0 _ rfl;have f1:=(Zc HB4.out).1 1 _ rfl;have f2:=(Zc HB4.out).1 2 _ rfl;have f3:=(Zc HB4.out).1 3 _ rfl;rw[←HT.out,←HN.out];rw[show(e:Int)-(i:Int)=((1:Nat):Int) by have:=HE1.out;omega];refine bodyPost_ret (v:=.tuple #[(⟨3,⟨#[]⟩,un,i⟩:Tk).v,.int .i64 ((1:Nat):Int),.int .i64 0]) (by simp[results,Tryz.results158,go_sem,f0,f1,f2,f3,Tk.v]) rfl ⟨rfl,HF4.out⟩
  ·have h:=H.out;simp only[oneS,HRE.out,if_neg hlt] at h;have H2:=Zh h;clear h H hdi;have h9:i=e:=by omega
   subst h9;clear HRE hie;go_upto_block 2 with fail
   go_cut [7] (fun v7 wx=>∃e:Nat,v7= .int .i64 e∧wx=wc∧runD partM s (s.size+1) i=e∧i≤e∧e≤s.size)
   case first=>
    go_wp2_with fail
    go_loop [7] (fun v=>∃e:Nat,v= .int .i64 e∧i≤e∧e≤s.size∧∀j,i≤j→j<e→j<s.size∧partM (bt s j)=true) (fun v=>s.size-(intOf v).toNat)
    case atStart=>exact⟨i,rfl,by omega,by omega,fun j h1 h2=>by omega⟩
    case round=>
     obtain⟨e,rfl,hie,hes,hall⟩:=hrel;have HA:=Zh hall;clear hall;by_cases hlt:e<s.size
     ·have hstep:=fun(hp:partM s[e]=true)=>(fun j (h1:i≤j) (h2:j<e+1)=>by
       rcases Nat.lt_or_eq_of_le (Nat.le_of_lt_succ h2) with h3|rfl
       ·exact HA.out j h1 h3
       ·exact⟨hlt,by rw[←bt_get hlt];exact hp⟩:∀j,i≤j→j<e+1→j<s.size∧partM (bt s j)=true)
      have HSTEP:=Zh hstep;clear hstep;cases hl:letterM s[e] with
      |true=>
       have HP:=Zh (HSTEP.out (by simp[partM,hl]));go_wp2_with fail;refine(letter_any _ _).mono ?_;rintro r w1 ⟨rfl,rfl⟩;go_wp2_with fail
       go_round
       case rel=>exact⟨e+1,by go_num,by omega,by omega,HP.out⟩
       case measure=>simp[intOf];omega
      |false=>
       cases hd:digitM s[e] with
       |true=>
        have HP:=Zh (HSTEP.out (by simp[partM,hd]));go_wp2_with fail;refine(letter_any _ _).mono ?_;rintro r w1 ⟨rfl,rfl⟩;go_wp2_with fail;refine(digit_any _ _).mono ?_;rintro r w1 ⟨rfl,rfl⟩;go_wp2_with fail
        go_round
        case rel=>exact⟨e+1,by go_num,by omega,by omega,HP.out⟩
        case measure=>simp[intOf];omega
       |false=>
        have HE:=Zh (runD_eq partM s (s.size+1) i e hie (by omega) HA.out (fun h9=>by rw[←bt_get h9.1,partM,hl,hd] at h9;cases h9.2));go_wp2_with fail;refine(letter_any _ _).mono ?_;rintro r w1 ⟨rfl,rfl⟩;go_wp2_with fail;refine(digit_any _ _).mono ?_;rintro r w1 ⟨rfl,rfl⟩;go_wp2_with fail
        go_meet
        exact⟨e,rfl,rfl,HE.out,hie,hes⟩
     ·have HE:=Zh (runD_eq partM s (s.size+1) i e hie (by omega) HA.out (fun h9=>hlt h9.1));go_wp2_with fail
      go_meet
      exact⟨e,rfl,rfl,HE.out,hie,hes⟩
   case rest=>
    obtain⟨e,rfl,rfl,hre,hie,hes⟩:=hcut;have HRE:=Zh hre;clear hre;by_cases hlt2:i<e
    ·have h:=H2.out;simp only[HRE.out,if_pos hlt2] at h;have h16:e-i≤16:=by
      by_cases h9:e-i≤16
      ·exact h9
      ·rw[if_neg h9] at h;cases h
     rw[if_pos h16] at h;simp only[Option.some.injEq,Prod.mk.injEq] at h;obtain⟨h2,h3⟩:=h;have HT:=Zh h2;clear h2;have HN:=Zh h3;clear h3;have hsz:(s.extract i e).size=e-i:=by rw[ByteArray.size_extract];omega
     have HSZ:=Zh hsz;have hlen:((s.extract i e).size:Int)≤16:=by omega
     have hdl:decide ((16:Int)<((s.extract i e).size:Int))=false:=decide_eq_false (by omega);clear H2 HRE hsz;go_wp2_with fail;generalize s.extract i e=x at*;refine(word_any x wc).mono ?_;rintro r w2 ⟨rfl,hf2⟩;have HF2:=Zh hf2;clear hf2;obtain⟨WX,hWX⟩:∃WX,WX=w2:=⟨_,rfl⟩;rw[←hWX];have HBX:=Zh (show WX.heap[w.heap.size]? =some (.cells #[.int .u8 0,.string ⟨#[]⟩,.int .u64 0,.int .i64 0] 172 (0,0)) by rw[hWX];exact Zb HB1.out HF2.out (non _));have HFX:=Zh (show Fr Non w WX by rw[hWX];exact HF1.out.trans HF2.out);clear hWX;have f0:=(Zc HBX.out).1 0 _ rfl;have f1:=(Zc HBX.out).1 1 _ rfl;have f2:=(Zc HBX.out).1 2 _ rfl;have f3:=(Zc HBX.out).1 3 _ rfl;have ff:=(Zc HBX.out).2;cases hw:wordM x with
     |true=>
      rw[hw,if_pos rfl] at HT;have HW:=Zh hw;clear hw;go_wp2_with fail;clear f0 f1 f2 f3 ff;have HB4:=Zh (blk_put4 HBX.out (.int .u8 2) (.string x) (.int .u64 0) (.int .i64 i));have HF4:=Zh (fr_put4 HFX.out (Nat.le_refl w.heap.size) (.int .u8 2) (.string x) (.int .u64 0) (.int .i64 i));generalize (((WX.setCell ⟨w.heap.size,0,none⟩ (.int .u8 2)).setCell ⟨w.heap.size,1,none⟩ (.string x)).setCell ⟨w.heap.size,2,none⟩ (.int .u64 0)).setCell ⟨w.heap.size,3,none⟩ (.int .i64 i)=w4 at*;have f0:=(Zc HB4.out).1 0 _ rfl;have f1:=(Zc HB4.out).1 1 _ rfl;have f2:=(Zc HB4.out).1 2 _ rfl;have f3:=(Zc HB4.out).1 3 _ rfl;rw[←HT.out,←HN.out];rw[show(e:Int)-(i:Int)=((e-i:Nat):Int) by omega];refine bodyPost_ret (v:=.tuple #[(⟨2,x,0,i⟩:Tk).v,.int .i64 ((e-i:Nat):Int),.int .i64 0]) (by simp[results,Tryz.results158,go_sem,f0,f1,f2,f3,Tk.v]) rfl ⟨rfl,HF4.out⟩
     |false=>
      rw[hw,if_neg Bool.false_ne_true] at HT;have HW:=Zh hw;clear hw;go_wp2_with fail;clear f0 f1 f2 f3 ff;have HB4:=Zh (blk_put4 HBX.out (.int .u8 1) (.string x) (.int .u64 0) (.int .i64 i));have HF4:=Zh (fr_put4 HFX.out (Nat.le_refl w.heap.size) (.int .u8 1) (.string x) (.int .u64 0) (.int .i64 i));generalize (((WX.setCell ⟨w.heap.size,0,none⟩ (.int .u8 1)).setCell ⟨w.heap.size,1,none⟩ (.string x)).setCell ⟨w.heap.size,2,none⟩ (.int .u64 0)).setCell ⟨w.heap.size,3,none⟩ (.int .i64 i)=w4 at*;have f0:=(Zc HB4.out).1 0 _ rfl;have f1:=(Zc HB4.out).1 1 _ rfl;have f2:=(Zc HB4.out).1 2 _ rfl;have f3:=(Zc HB4.out).1 3 _ rfl;rw[←HT.out,←HN.out];rw[show(e:Int)-(i:Int)=((e-i:Nat):Int) by omega];refine bodyPost_ret (v:=.tuple #[(⟨1,x,0,i⟩:Tk).v,.int .i64 ((e-i:Nat):Int),.int .i64 0]) (by simp[results,Tryz.results158,go_sem,f0,f1,f2,f3,Tk.v]) rfl ⟨rfl,HF4.out⟩
    ·have h:=H2.out;simp only[HRE.out,if_neg hlt2] at h;have h9:i=e:=by omega
     subst h9;clear H2 HRE;cases hx:lexSign s i with
     |none=>rw[hx] at h;cases h
     |some x=>
      rw[hx] at h;simp only[Option.map_some,Option.some.injEq,Prod.mk.injEq] at h;obtain⟨h2,h3⟩:=h;have HT:=Zh h2;clear h2;have HN:=Zh h3;clear h3;have hpos:=lex_pos x (List.mem_of_find?_eq_some hx);have hem:emp x=false:=by rw[emp];exact beq_eq_false_iff_ne.2 (by omega)
      have hem':x.toList.isEmpty=false:=by rw[toemp];exact hem
      have HX:=Zh hx;clear hx hem;go_wp2_with fail;refine(lexsign_any s i wc (by omega) hs).mono ?_;rintro r w2 ⟨rfl,hf2⟩;rw[HX.out,Option.getD_some];have HF2:=Zh hf2;clear hf2;obtain⟨WX,hWX⟩:∃WX,WX=w2:=⟨_,rfl⟩;rw[←hWX];have HBX:=Zh (show WX.heap[w.heap.size]? =some (.cells #[.int .u8 0,.string ⟨#[]⟩,.int .u64 0,.int .i64 0] 172 (0,0)) by rw[hWX];exact Zb HB1.out HF2.out (non _));have HFX:=Zh (show Fr Non w WX by rw[hWX];exact HF1.out.trans HF2.out);clear hWX;have f0:=(Zc HBX.out).1 0 _ rfl;have f1:=(Zc HBX.out).1 1 _ rfl;have f2:=(Zc HBX.out).1 2 _ rfl;have f3:=(Zc HBX.out).1 3 _ rfl;have ff:=(Zc HBX.out).2;go_wp2_with fail;clear f0 f1 f2 f3 ff;have HB4:=Zh (blk_put4 HBX.out (.int .u8 4) (.string x) (.int .u64 0) (.int .i64 i));have HF4:=Zh (fr_put4 HFX.out (Nat.le_refl w.heap.size) (.int .u8 4) (.string x) (.int .u64 0) (.int .i64 i));generalize (((WX.setCell ⟨w.heap.size,0,none⟩ (.int .u8 4)).setCell ⟨w.heap.size,1,none⟩ (.string x)).setCell ⟨w.heap.size,2,none⟩ (.int .u64 0)).setCell ⟨w.heap.size,3,none⟩ (.int .i64 i)=w4 at*;have f0:=(Zc HB4.out).1 0 _ rfl;have f1:=(Zc HB4.out).1 1 _ rfl;have f2:=(Zc HB4.out).1 2 _ rfl;have f3:=(Zc HB4.out).1 3 _ rfl;rw[←HT.out,←HN.out];refine bodyPost_ret (v:=.tuple #[(⟨4,x,0,i⟩:Tk).v,.int .i64 x.size,.int .i64 0]) (by simp[results,Tryz.results158,go_sem,f0,f1,f2,f3,Tk.v]) rfl ⟨rfl,HF4.out⟩
def Tk.d (t:Tk):List D:=[.v (vu8 t.kind),.v (.string t.text),.v (vu64 t.num),.v (.int .i64 t.at_)]
def blankB (c:UInt8):Bool:=c.toNat==32||c.toNat==10
def cutS (s:ByteArray):Nat→Nat→Option (List Tk)
 |0,_=>none
 |f+1,i=>if s.size≤i then some [] else if blankB (bt s i) then cutS s f (i+1) else(oneS s i).bind fun r=>(cutS s f (i+r.2)).map fun ts=>r.1::ts
def endTk (s:ByteArray):Tk:=⟨5,⟨#[]⟩,0,s.size⟩
theorem runD_le (p:UInt8→Bool) (s:ByteArray):∀f a,a≤s.size→a≤runD p s f a∧runD p s f a≤s.size
 |0,a,h=>⟨Nat.le_refl _,h⟩
 |f+1,a,h=>by
  rw[runD];split
  ·rename_i h1;simp only[Bool.and_eq_true,decide_eq_true_eq] at h1;have:=runD_le p s f (a+1) h1.1;omega
  ·exact⟨Nat.le_refl _,h⟩
theorem oneS_le {s:ByteArray} {i:Nat} {t:Tk} {n:Nat} (hi:i<s.size) (h:oneS s i=some (t,n)):0<n∧i+n≤s.size:=by
 have h1:=runD_le digitM s (s.size+1) i (by omega);have h2:=runD_le partM s (s.size+1) i (by omega);simp only[oneS] at h;split at h
 ·split at h
  ·simp only[Option.some.injEq,Prod.mk.injEq] at h;omega
  ·cases h
 ·split at h
  ·split at h
   ·simp only[Option.some.injEq,Prod.mk.injEq] at h;omega
   ·cases h
  ·cases hx:lexSign s i with
   |none=>rw[hx] at h;cases h
   |some x=>
    rw[hx] at h;simp only[Option.map_some,Option.some.injEq,Prod.mk.injEq] at h;have h3:=lex_pos x (List.mem_of_find?_eq_some hx);have h4:=List.find?_some hx;simp only[Bool.and_eq_true,decide_eq_true_eq] at h4;omega
theorem chunk_tk {ok:Nat→Prop} {w:World} (t:Tk):Chunks ok w 4 [t.d] [vu8 t.kind,.string t.text,vu64 t.num,.int .i64 t.at_]:=
 ⟨_,[],rfl,rfl,rfl,⟨_,_,rfl,rfl,_,_,rfl,rfl,_,_,rfl,rfl,_,_,rfl,rfl,rfl⟩,rfl⟩
theorem one_tk (a:UInt8) (b:UInt64) (s:ByteArray) (i:Int):∀u∈[vu8 a,.string s,vu64 b,.int .i64 i],u.oneCell'=true:=by
 intro u hu;simp at hu;rcases hu with rfl|rfl|rfl|rfl<;>rfl
theorem cut_any (s:ByteArray) (L:List Tk) (w:World) (hs:s.size≤16384) (h:cutS s (s.size+1) 0=some L):
  Calls Tryz.prog 120 #[.string s] w fun e w'=>∃A c,e= .returned (.tuple #[.slice A (L.length+1) c,.agg #[.int .i64 0,.int .i64 0]])∧L.length+1≤c∧Fr Non w w'∧RdRows (New w.heap.size w') w' 4 A 0 ((L++[endTk s]).map Tk.d):=by
 obtain⟨W1,HW1⟩:∃W1,W1=w.alloc (.cells #[.int .i64 0,.int .i64 0] 34):=⟨_,rfl⟩;have hf1:Fr Non w W1:=by rw[HW1];exact(Zf w).alloc _
 have hb1:W1.heap[w.heap.size]? =some (.cells #[.int .i64 0,.int .i64 0] 34 (0,0)):=by rw[HW1];exact blk_new _ _ _
 have HF1:=Zh hf1;have HB1:=Zh hb1;clear hb1;have hz1:w.heap.size+1=W1.heap.size:=by rw[HW1];simp
 have H:=Zh h;clear h hf1;have hgt:decide ((16384:Int)<(s.size:Int))=false:=decide_eq_false (by omega);go_enter Tryz.func120,Tryz.ntmps120;go_upto_region 1 with fail;rw[←HW1];clear HW1;go_wp2_with fail
 go_loopw [4,5] (fun v a wr=>∃(i f:Nat) (l r:List Tk),a= .int .i64 i∧i≤s.size∧l++r=L∧l.length≤i∧cutS s f i=some r∧Fr Non W1 wr∧Own W1.heap.size 172 4 wr v (l.map Tk.d)) (fun _ a _=>s.size-(intOf a).toNat)
 case atStart=>exact⟨0,_,[],L,rfl,by omega,rfl,Nat.le_refl _,H.out,Zf _,Own.nil _ _ _ _⟩
 case round=>
  obtain⟨i,f,l,r,rfl,hi,hlr,hli,hcut,hfr,hown⟩:=hrel;have HLR:=Zh hlr;clear hlr;have HFR:=Zh hfr;clear hfr;obtain⟨A0,c0,rfl,hc0⟩:=hown.slice;have hn:(l.map Tk.d).length=l.length:=List.length_map _;rw[hn] at hc0 hown ⊢;clear hn;have HO:=Zh hown;clear hown;cases f with
  |zero=>cases hcut
  |succ f=>
   rw[cutS] at hcut;by_cases hlt:i<s.size
   ·rw[if_neg (by omega)] at hcut;cases hb:blankB (bt s i) with
    |true=>
     rw[hb,if_pos rfl] at hcut;have HC:=Zh hcut;clear hcut;rw[←bt_get hlt,blankB,Bool.or_eq_true] at hb;have hcase:(((s[i].toNat:Nat):Int)==32)=true∨((((s[i].toNat:Nat):Int)==32)=false∧(((s[i].toNat:Nat):Int)==10)=true):=by
      rcases hb with hb|hb
      ·left;rw[beq_iff_eq] at hb ⊢;omega
      ·right;rw[beq_iff_eq] at hb;exact⟨by rw[beq_eq_false_iff_ne];omega,by rw[beq_iff_eq];omega⟩
     clear hb;rcases hcase with q1|⟨q1,q2⟩;all_goals
      go_wp2_with fail;go_roundw
      case rel=>exact⟨i+1,f,l,r,by go_num,by omega,HLR.out,by omega,HC.out,HFR.out,HO.out⟩
      case measure=>simp[intOf];omega
    |false=>
     rw[hb,if_neg Bool.false_ne_true] at hcut;cases ho:oneS s i with
     |none=>rw[ho] at hcut;cases hcut
     |some p=>
      obtain⟨t,n⟩:=p;rw[ho,Option.bind_some] at hcut;cases hc:cutS s f (i+n) with
      |none=>simp only[hc] at hcut;cases hcut
      |some r2=>
       simp only[hc,Option.map_some,Option.some.injEq] at hcut;have HR:=Zh hcut;clear hcut;have HC:=Zh hc;clear hc;have hle:=oneS_le hlt ho;have HO1:=Zh ho;clear ho;rw[←bt_get hlt,blankB,Bool.or_eq_false_iff] at hb;have q1:(((s[i].toNat:Nat):Int)==32)=false:=by have:=hb.1;rw[beq_eq_false_iff_ne] at this ⊢;omega
       have q2:(((s[i].toNat:Nat):Int)==10)=false:=by have:=hb.2;rw[beq_eq_false_iff_ne] at this ⊢;omega
       clear hb;go_wp2_with fail;refine(one_any s i t n wr hlt (by omega) HO1.out).mono ?_;rintro e w2 ⟨rfl,hf2⟩;have HF2:=Zh (HFR.out.trans hf2);have HO2:=Zh (HO.out.fr hf2 (fun _ _=>non _));clear hf2;unfold Tk.v;clear q1 q2;have HL:=Zh (show(l.map Tk.d).length=l.length from List.length_map _);go_wp2_with (at_builtin;refine app_tk rfl _ _ rfl W1.heap.size (.slice A0 l.length c0) (l.map Tk.d) rfl ?o ⟨w2.heap.size+1,0,none⟩ 1 1 rfl [t.d] [vu8 t.kind,.string t.text,vu64 t.num,.int .i64 t.at_] (chunk_tk t) rfl ?nc (one_tk _ _ _ _) ?b1 ?b2 ?b3 ?k)
       case o=>have h9:=HO2.out.fr (((Zf w2).alloc (.cells #[vu8 t.kind,.string t.text,vu64 t.num,.int .i64 t.at_] 172)).alloc (.cells #[vu8 t.kind,.string t.text,vu64 t.num,.int .i64 t.at_] 172)) (fun _ _=>non _);exact h9
       case nc=>exact new_cells' (by simp)
       case b1=>rw[HL.out];unfold maxLen;omega
       case b2=>rw[HL.out];omega
       case b3=>have:=HF2.out.size;simp;omega
       case k=>
       intro v' w' hown' hfr';have HO':=Zh hown';clear hown';have HF':=Zh ((((HF2.out.alloc (.cells #[vu8 t.kind,.string t.text,vu64 t.num,.int .i64 t.at_] 172)).alloc (.cells #[vu8 t.kind,.string t.text,vu64 t.num,.int .i64 t.at_] 172))).then hfr' (fun k hk ht=>by have:=ht.1;omega));clear hfr';go_wp2_with fail;go_roundw
       case rel=>exact⟨i+n,f,l++[t],r2,by go_num,by omega,by rw[←HLR.out,←HR.out,List.append_assoc];rfl,by simp;omega,HC.out,HF'.out,by rw[List.map_append];exact HO'.out⟩
       case measure=>simp[intOf];omega
   ·have hie:i=s.size:=by omega
    rw[if_pos (by omega)] at hcut;simp only[Option.some.injEq] at hcut;subst hcut;have HIE:=Zh hie;clear hie;rw[List.append_nil] at HLR;have HL:=Zh (show(l.map Tk.d).length=l.length from List.length_map _);have hbf:=Zb HB1.out HFR.out (non _);have f0:=(Zc hbf).1 0 _ rfl;have f1:=(Zc hbf).1 1 _ rfl;have ff:=(Zc hbf).2;have HBF:=Zh hbf;clear hbf;go_wp2_with (at_builtin;refine app_tk rfl _ _ rfl W1.heap.size (.slice A0 l.length c0) (l.map Tk.d) rfl ?o ⟨wr.heap.size,0,none⟩ 1 1 rfl [(endTk s).d] [vu8 5,.string ⟨#[]⟩,vu64 0,.int .i64 s.size] (chunk_tk (endTk s)) rfl ?nc (one_tk _ _ _ _) ?b1 ?b2 ?b3 ?k)
    case o=>have h9:=HO.out.fr ((Zf wr).alloc (.cells #[vu8 5,.string ⟨#[]⟩,vu64 0,.int .i64 s.size] 172)) (fun _ _=>non _);exact h9
    case nc=>exact new_cells' rfl
    case b1=>rw[HL.out];unfold maxLen;omega
    case b2=>rw[HL.out];omega
    case b3=>have:=HFR.out.size;simp;omega
    case k=>
    intro v' w' hown' hfr';obtain⟨A1,c1,rfl,hc1⟩:=hown'.slice;have hln:(l.map Tk.d++[(endTk s).d]).length=l.length+1:=by simp
    rw[hln] at hc1 hown' ⊢;clear hln;have hbf2:=Zb (blk_old HBF.out) hfr' (fun ht=>by have:=ht.1;omega);have HFW:=Zh ((HFR.out.alloc (.cells #[vu8 5,.string ⟨#[]⟩,vu64 0,.int .i64 s.size] 172)).then hfr' (fun k hk ht=>by have:=ht.1;omega));clear hfr' f0 f1 ff;have f0:=(Zc hbf2).1 0 _ rfl;have f1:=(Zc hbf2).1 1 _ rfl;have ff:=(Zc hbf2).2;have HO':=Zh hown';clear hown';go_wp2_with fail;have HFZ:=Zh (show Fr (fun q=>q=w.heap.size) w' ((w'.setCell ⟨w.heap.size,0,none⟩ (.int .i64 0)).setCell ⟨w.heap.size,1,none⟩ (.int .i64 0)) from((Fr.refl (fun q=>q=w.heap.size) w').setCell ⟨w.heap.size,0,none⟩ _ (.inl rfl)).setCell ⟨w.heap.size,1,none⟩ _ (.inl rfl));have HBZ:=Zh (show((w'.setCell ⟨w.heap.size,0,none⟩ (.int .i64 0)).setCell ⟨w.heap.size,1,none⟩ (.int .i64 0)).heap[w.heap.size]? =some (.cells #[.int .i64 0,.int .i64 0] 34 (0,0)) from blk_set (blk_set hbf2 0 _) 1 _);generalize (w'.setCell ⟨w.heap.size,0,none⟩ (.int .i64 0)).setCell ⟨w.heap.size,1,none⟩ (.int .i64 0)=wz at*;clear f0 f1 ff;have f0:=(Zc HBZ.out).1 0 _ rfl;have f1:=(Zc HBZ.out).1 1 _ rfl;have hll:l.length=L.length:=by rw[HLR.out]
    have HRW:=Zh (HO'.out.fr HFZ.out (fun k hk e=>by have e:k=w.heap.size:=e;omega)).rows;rw[hll];refine bodyPost_ret (v:=.tuple #[.slice A1 (L.length+1) c1,.agg #[.int .i64 0,.int .i64 0]]) (by simp[results,Tryz.results120,go_sem,f0,f1]) rfl ⟨A1,c1,rfl,by omega,(HF1.out.trans HFW.out).then HFZ.out (fun k hk e=>by have e:k=w.heap.size:=e;omega),?_⟩;rw[←HLR.out,List.map_append];exact HRW.out.mono (fun _ _ _ _ h=>h) (fun k hk=>⟨by omega,hk.2⟩) _ _ _
end Go.Proofs.YtpkpgmnbheenbaaGreatDoor
