/- Contracts and laws, Mh08 -/
import Derived.Test.YtpkpgmnbheenbaaGreatDoorMh01
import Derived.Test.YtpkpgmnbheenbaaGreatDoorMh07
namespace Go.Proofs.YtpkpgmnbheenbaaGreatDoor
open Go.RowKit
set_option linter.unusedVariables false
set_option linter.unusedSimpArgs false
set_option maxHeartbeats 8000000
set_option maxRecDepth 100000
theorem flat_size {k:UInt8} {nm fr:ByteArray} {sec mt:Bool} {ex:List Ex} {args:List ByteArray} {body els:List St} {d:Nat} (h:St.ok (.mk k nm fr sec mt ex args body els) d=true) (hk:¬(5≤k.toNat∧k.toNat≤8)):body=[]∧els=[]:=by
 simp only[St.ok,Bool.and_eq_true] at h;have ff:=form_facts h.1.1.2;exact⟨ff.body.resolve_right hk,ff.els.resolve_right (by omega)⟩
theorem els_nil {k:UInt8} {nm fr:ByteArray} {sec mt:Bool} {ex:List Ex} {args:List ByteArray} {body els:List St} {d:Nat} (h:St.ok (.mk k nm fr sec mt ex args body els) d=true) (hk:k.toNat≠5):els=[]:=by
 simp only[St.ok,Bool.and_eq_true] at h;exact(form_facts h.1.1.2).els.resolve_right hk
mutual
theorem evStmt_nx (ru:Int) (P:List Fu) (F:Nat):∀(st:St) (d:Nat) (a a1:Ev),st.ok d=true→evStmt ru P F st a= .ok a1→a1.n+1=a.n+st.size
 | .mk k nm fr sec mt ex args body els,d,a,a1,hok,h=>by
   have hsz:(St.mk k nm fr sec mt ex args body els).size=1+St.sizes body+St.sizes els:=by simp only[St.size]
   have hn:=evStmt_n ru P F _ a a1 h;have hok0:=hok;simp only[St.ok,Bool.and_eq_true] at hok;rw[hsz] at hn ⊢;by_cases h58:5≤k.toNat∧k.toNat≤8
   ·by_cases h5:k.toNat=5
    ·rw[ev_5 _ _ _ _ _ _ _ _ _ _ _ _ _ h5] at h;obtain⟨_,h⟩:=evif_ok h;split at h
     ·cases h
     ·rename_i a2 hb;split at h
      ·cases h
      ·rename_i a3 he;cases h;obtain⟨b2,hb2,rfl⟩:=evKeep_ok hb;obtain⟨b3,hb3,rfl⟩:=evKeep_ok he;have g2:=evStmts_nx ru P F body _ a b2 hok.1.2 hb2;have g3:=evStmts_nx ru P F els _ _ b3 hok.2 hb3;simp only[Ev.with] at g2 g3 ⊢;omega
    ·have he:=els_nil hok0 h5;subst he;by_cases h67:k.toNat=6∨k.toNat=7
     ·rw[ev_67 _ _ _ _ _ _ _ _ _ _ _ _ _ h67] at h;obtain⟨_,h⟩:=evif_ok h;split at h
      ·cases h
      ·rename_i a2 hb;cases h;obtain⟨b2,hb2,rfl⟩:=evKeep_ok hb;have g2:=evStmts_nx ru P F body _ _ b2 hok.1.2 hb2;rw[(loopIn_n a nm).1] at g2;simp only[Ev.with,Ev.del,Ev.at,St.sizes] at g2 ⊢;omega
     ·have h8:k.toNat=8:=by omega
      rw[ev_8 _ _ _ _ _ _ _ _ _ _ _ _ _ h8] at h;obtain⟨_,h⟩:=evif_ok h;split at h
      ·cases h
      ·rename_i a2 hb;cases h;obtain⟨b2,hb2,rfl⟩:=evKeep_ok hb;have g2:=evStmts_nx ru P F body _ _ b2 hok.1.2 hb2;simp only[Ev.with,Ev.del,Ev.put,Ev.lendOut,Ev.lendIn,Ev.give,St.sizes] at g2 ⊢;omega
   ·obtain⟨rfl,rfl⟩:=flat_size hok0 h58;simp only[St.sizes] at hn ⊢;omega
theorem evStmts_nx (ru:Int) (P:List Fu) (F:Nat):∀(l:List St) (d:Nat) (a a1:Ev),St.oks l d=true→evStmts ru P F l a= .ok a1→a1.n=a.n+St.sizes l
 |[],d,a,a1,_,h=>by cases h;simp[St.sizes]
 |x::l,d,a,a1,hok,h=>by
  simp only[St.oks,Bool.and_eq_true] at hok;unfold evStmts at h;cases h2:evStmt ru P F x a.next with
  |error y=>rw[h2] at h;cases h
  |ok a2=>
   rw[h2] at h;have g2:=evStmt_nx ru P F x d _ a2 hok.1 h2;have g1:=evStmts_nx ru P F l d a2 a1 hok.2 h;have h0:a.next.n=a.n+1:=rfl;simp only[St.sizes];omega
end
theorem nhas_put (l:NL) (s:ByteArray) (X:Nm) (t:ByteArray):nhas (nput l s X) t=(nhas l t||sq s t):=by
 unfold nput;split
 ·rename_i h;have e:nhas (nset l s X) t=nhas l t:=by
   unfold nhas nset;rw[List.any_map];congr 1;funext p;simp only[Function.comp];split<;>rfl
  rw[e];cases hs:sq s t with
  |false=>simp
  |true=>rw[←sq_iff.1 hs,h];rfl
 ·unfold nhas;simp
theorem nget_put (l:NL) (s:ByteArray) (X:Nm) (t:ByteArray):nget (nput l s X) t=if sq s t then X else nget l t:=by
 unfold nput;split
 ·rename_i h;unfold nget nset;rw[List.find?_map];have e:((fun p:ByteArray×Nm=>sq p.1 t)∘fun p:ByteArray×Nm=>if sq p.1 s then(p.1,X) else p)=fun p=>sq p.1 t:=by
   funext p;simp only[Function.comp];split<;>rfl
  rw[e];cases hf:l.find? (fun p=>sq p.1 t) with
  |none=>
   rw[List.find?_eq_none] at hf;cases hs:sq s t with
   |false=>rfl
   |true=>
    exfalso;rw[nhas,List.any_eq_true] at h;obtain⟨p,hp,hps⟩:=h;exact hf p hp (by rw[←sq_iff.1 hs];exact hps)
  |some p=>
   have hp:=List.find?_some hf;have hpt:p.1=t:=sq_iff.1 hp;simp only[Option.map_some,Option.getD_some];rw[show sq p.1 s=sq s t by rw[hpt];rw[Bool.eq_iff_iff,sq_iff,sq_iff];exact eq_comm];cases sq s t<;>rfl
 ·rename_i h;unfold nget;rw[List.find?_append];cases hs:sq s t with
  |false=>
   cases hf:l.find? (fun p=>sq p.1 t) with
   |none=>simp[hs]
   |some p=>simp
  |true=>
   have:l.find? (fun p=>sq p.1 t)=none:=by
    rw[List.find?_eq_none];intro p hp hpt;apply h;rw[nhas,List.any_eq_true];exact⟨p,hp,by rw[sq_iff.1 hs];exact hpt⟩
   rw[this];simp[hs]
theorem nhas_filter (l:NL) (f:ByteArray→Bool) (t:ByteArray):nhas (l.filter fun p=>f p.1) t=(nhas l t&&f t):=by
 rw[Bool.eq_iff_iff,Bool.and_eq_true];unfold nhas;simp only[List.any_eq_true,List.mem_filter];constructor
 ·rintro⟨p,⟨hp,hf⟩,hs⟩;rw[←sq_iff.1 hs];exact⟨⟨p,hp,by rw[sq_refl]⟩,hf⟩
 ·rintro⟨⟨p,hp,hs⟩,hf⟩;exact⟨p,⟨hp,by rw[sq_iff.1 hs];exact hf⟩,hs⟩
theorem nget_filter (l:NL) (f:ByteArray→Bool) (t:ByteArray) (h:f t=true):nget (l.filter fun p=>f p.1) t=nget l t:=by
 unfold nget;congr 2
 induction l with
 |nil=>rfl
 |cons p l ih=>
  cases hf:f p.1 with
  |true=>
   simp only[List.filter_cons,hf,if_true,List.find?_cons,ih]
  |false=>
   have:sq p.1 t=false:=by
    cases hs:sq p.1 t with
    |false=>rfl
    |true=>rw[sq_iff.1 hs,h] at hf;cases hf
   simp only[List.filter_cons,hf,Bool.false_eq_true,if_false,List.find?_cons,this,ih]
theorem nhas_gone (l m:NL) (t:ByteArray):nhas (ngone l m) t=nhas l t:=by
 unfold nhas ngone;rw[List.any_map];rfl
structure Fix (x y:Nm):Prop where
 buf:y.buf=x.buf
 sec:y.sec=x.sec
 mt:y.mt=x.mt
 own:y.own=x.own
 set:y.set=x.set
 lent:y.lent=x.lent
 loops:y.loops=x.loops
theorem Fix.refl (x:Nm):Fix x x:=⟨rfl,rfl,rfl,rfl,rfl,rfl,rfl⟩
theorem Fix.trans {x y z:Nm} (h:Fix x y) (k:Fix y z):Fix x z:=⟨k.buf.trans h.buf,k.sec.trans h.sec,k.mt.trans h.mt,k.own.trans h.own,k.set.trans h.set,k.lent.trans h.lent,k.loops.trans h.loops⟩
theorem nget_gone (l m:NL) (t:ByteArray):Fix (nget l t) (nget (ngone l m) t):=by
 unfold nget ngone;rw[List.find?_map,show((fun p:ByteArray×Nm=>sq p.1 t)∘fun p:ByteArray×Nm=>(p.1,{p.2 with gone:=p.2.gone||(nget m p.1).gone}))=fun p=>sq p.1 t from rfl];cases l.find? (fun p=>sq p.1 t) with
 |none=>exact Fix.refl _
 |some p=>exact⟨rfl,rfl,rfl,rfl,rfl,rfl,rfl⟩
def keysN (l:NL):List ByteArray:=l.map (·.1)
theorem nod_put {l:NL} (h:(keysN l).Nodup) (s:ByteArray) (X:Nm):(keysN (nput l s X)).Nodup:=by
 unfold nput;split
 ·have:keysN (nset l s X)=keysN l:=by
   unfold keysN nset;rw[List.map_map];apply List.map_congr_left;intro p _;simp only[Function.comp];split<;>rfl
  rw[this];exact h
 ·rename_i hn;unfold keysN;rw[List.map_append,List.nodup_append];refine⟨h,by simp,?_⟩;intro a ha b hb e;simp only[List.map_cons,List.map_nil,List.mem_singleton] at hb;subst hb e;obtain⟨p,hp,rfl⟩:=List.mem_map.1 ha;apply hn;rw[nhas,List.any_eq_true];exact⟨p,hp,sq_refl _⟩
theorem nod_filter {l:NL} (h:(keysN l).Nodup) (f:ByteArray×Nm→Bool):(keysN (l.filter f)).Nodup:=List.Nodup.sublist (List.Sublist.map _ List.filter_sublist) h
theorem nod_gone {l:NL} (h:(keysN l).Nodup) (m:NL):(keysN (ngone l m)).Nodup:=by
 have:keysN (ngone l m)=keysN l:=by unfold keysN ngone;rw[List.map_map];rfl
 rw[this];exact h
theorem nput_same {l:NL} (hn:(keysN l).Nodup) {s:ByteArray} (h:nhas l s=true):nput l s (nget l s)=l:=by
 unfold nput;rw[if_pos h];unfold nset
 conv=>rhs;rw[←List.map_id l]
 apply List.map_congr_left;intro p hp;simp only[id];split
 ·rename_i hs;have he:nget l s=p.2:=by
   unfold nget;cases hf:l.find? (fun q=>sq q.1 s) with
   |none=>rw[List.find?_eq_none] at hf;exact absurd hs (hf p hp)
   |some q=>
    have hq:=List.find?_some hf;have hqm:=List.mem_of_find?_eq_some hf;have:q=p:=nodup_inj hn hqm hp ((sq_iff.1 hq).trans (sq_iff.1 hs).symm);rw[this];rfl
  rw[he]
 ·rfl
theorem addN_in (l:List ByteArray) (s x:ByteArray):inM (addN l s) x=(inM l x||sq s x):=by
 have h1:∀(l:List ByteArray) (s:ByteArray),inM l s=true↔s∈l:=fun l s=>by simp only[inM,List.any_eq_true,sq_iff,exists_eq_right]
 rw[Bool.eq_iff_iff,Bool.or_eq_true,h1,h1,sq_iff,addN];split
 ·rename_i h;rw[h1] at h;constructor
  ·exact .inl
  ·rintro(h'|rfl)
   ·exact h'
   ·exact h
 ·simp[eq_comm]
theorem delN_in (l:List ByteArray) (s x:ByteArray):inM (delN l s) x=(inM l x&& !sq x s):=by
 have h1:∀(l:List ByteArray) (s:ByteArray),inM l s=true↔s∈l:=fun l s=>by simp only[inM,List.any_eq_true,sq_iff,exists_eq_right]
 rw[Bool.eq_iff_iff,Bool.and_eq_true,h1,h1,delN,List.mem_filter]
structure ScW (c:Sc):Prop where
 kg:∀x,inM c.kn x=true→inM c.gi x=true
 ne:∀x,inM c.gi x=true→emp x=false
structure ScG (c c1:Sc):Prop where
 w:ScW c1
 gi:∀x,inM c.gi x=true→inM c1.gi x=true
theorem ScG.refl {c:Sc} (h:ScW c):ScG c c:=⟨h,fun _ h=>h⟩
theorem ScG.trans {a b c:Sc} (h:ScG a b) (k:ScG b c):ScG a c:=⟨k.w,fun x hx=>k.gi x (h.gi x hx)⟩
theorem give_W {c c1:Sc} {s:ByteArray} (h:ScW c) (he:emp s=false) (hg:c.give s= .ok c1):ScG c c1∧inM c.gi s=false∧inM c1.gi s=true:=by
 unfold Sc.give at hg;split at hg
 ·cases hg
 ·rename_i hn;cases hg;refine⟨⟨⟨fun x hx=>?_,fun x hx=>?_⟩,fun x hx=>?_⟩,by simpa using hn,?_⟩
  ·simp only[addN_in,Bool.or_eq_true] at hx ⊢;exact hx.imp (h.kg x) id
  ·simp only[addN_in,Bool.or_eq_true] at hx;rcases hx with hx|hx
   ·exact h.ne x hx
   ·rw[←sq_iff.1 hx];exact he
  ·simp only[addN_in,Bool.or_eq_true];exact .inl hx
  ·simp only[addN_in,sq_refl,Bool.or_true]
theorem gives_W {c c1:Sc} {k:UInt8} {s:ByteArray} {aw:List ByteArray} (h:ScW c) (hg:c.gives k s= .ok (c1,aw)):ScG c c1:=by
 unfold Sc.gives at hg;split at hg
 ·cases hg;exact ScG.refl h
 ·rename_i hc;simp only[Bool.or_eq_true,not_or,Bool.not_eq_true] at hc;split at hg
  ·cases hg
  ·rename_i h2;cases hg;exact(give_W h hc.2 h2).1
theorem gives_new {c c1:Sc} {k:UInt8} {s:ByteArray} {aw:List ByteArray} (h:ScW c) (hk:k.toNat≠2∧k.toNat≠4) (he:emp s=false) (hg:c.gives k s= .ok (c1,aw)):inM c.gi s=false∧inM c1.gi s=true:=by
 unfold Sc.gives at hg;split at hg
 ·rename_i hc;simp[he,hk.1,hk.2] at hc
 ·split at hg
  ·cases hg
  ·rename_i h2;cases hg;exact(give_W h he h2).2
theorem del_W {c:Sc} (h:ScW c) (s:ByteArray):ScG c (c.del s):=⟨⟨fun x hx=>by
 simp only[Sc.del,delN_in,Bool.and_eq_true] at hx;exact h.kg x hx.1,h.ne⟩,fun _ h=>h⟩
theorem dels_W:∀(l:List ByteArray) {c:Sc},ScW c→ScG c (c.dels l)
 |[],_,h=>ScG.refl h
 |s::l,c,h=>(del_W h s).trans (dels_W l (c:=c.del s) (del_W h s).w)
mutual
theorem scStmt_W (P:List Fu) (F:Nat):∀(s:St) (c c1:Sc) (aw:List ByteArray),ScW c→scStmt P F s c= .ok (c1,aw)→ScG c c1
 | .mk k nm fr se mt ex args body els,c,c1,aw,hw,h=>by
   rw[scStmt] at h;split at h
   ·cases h
   ·split at h
    ·cases h
    ·rename_i a1 aw1 hg;have g1:=gives_W hw hg;split at h
     ·cases h
     ·rename_i a2 aw2 hb;have g2:=scStmts_W P F body a1 a2 _ _ g1.w hb;have g2':=dels_W aw2 g2.w;split at h
      ·cases h
      ·rename_i a3 aw3 he;have g3:=scStmts_W P F els _ a3 _ _ g2'.w he;have g3':=dels_W aw3 g3.w;have g:=((g1.trans g2).trans g2').trans (g3.trans g3');split at h
       ·cases h;exact g.trans (del_W g3'.w nm)
       ·cases h;exact g
theorem scStmts_W (P:List Fu) (F:Nat):∀(l:List St) (c c1:Sc) (aw aw1:List ByteArray),ScW c→scStmts P F l c aw= .ok (c1,aw1)→ScG c c1
 |[],c,c1,aw,aw1,hw,h=>by rw[scStmts] at h;cases h;exact ScG.refl hw
 |s::l,c,c1,aw,aw1,hw,h=>by
  rw[scStmts] at h;split at h
  ·cases h
  ·rename_i a1 awx hs;have g1:=scStmt_W P F s ⟨c.kn,c.gi,c.n+1⟩ a1 awx ⟨hw.kg,hw.ne⟩ hs;have g2:=scStmts_W P F l a1 c1 _ _ g1.w h;exact ScG.trans ⟨g1.w,g1.gi⟩ g2
end
structure EnvG (a:Ev) (c:Sc):Prop where
 has:∀x,nhas a.nm x=true→inM c.gi x=true
 nod:(keysN a.nm).Nodup
theorem EnvG.mono {a:Ev} {c c1:Sc} (h:EnvG a c) (hg:∀x,inM c.gi x=true→inM c1.gi x=true):EnvG a c1:=⟨fun x hx=>hg x (h.has x hx),h.nod⟩
def Kept (c:Sc) (a a1:Ev):Prop:=∀x,inM c.gi x=true→nhas a.nm x=true→nhas a1.nm x=true∧Fix (a.g x) (a1.g x)
theorem Kept.refl (c:Sc) (a:Ev):Kept c a a:=fun _ _ h=>⟨h,Fix.refl _⟩
theorem Kept.trans {c c1:Sc} {a a1 a2:Ev} (h:Kept c a a1) (hg:∀x,inM c.gi x=true→inM c1.gi x=true) (k:Kept c1 a1 a2):Kept c a a2:=fun x hx hh=>by
 obtain⟨h1,h2⟩:=h x hx hh;obtain⟨h3,h4⟩:=k x (hg x hx) h1;exact⟨h3,h2.trans h4⟩
theorem sq_ne {a b:ByteArray} (h:a≠b):sq a b=false:=sq_no h
theorem ne_of_gi {c:Sc} {s x:ByteArray} (h:inM c.gi s=false) (hx:inM c.gi x=true):s≠x:=fun e=>by rw[e,hx] at h;cases h
theorem give_E {a:Ev} {c c1:Sc} {s:ByteArray} (h:EnvG a c) (hn:inM c.gi s=false) (hs:inM c1.gi s=true) (hg:∀x,inM c.gi x=true→inM c1.gi x=true) (X:Nm):EnvG (a.give s X) c1∧Kept c a (a.give s X):=by
 refine⟨⟨fun x hx=>?_,nod_put h.nod _ _⟩,fun x hx hh=>⟨?_,?_⟩⟩
 ·rw[Ev.give,nhas_put,Bool.or_eq_true] at hx;rcases hx with hx|hx
  ·exact hg x (h.has x hx)
  ·rw[←sq_iff.1 hx];exact hs
 ·rw[Ev.give,nhas_put,hh];rfl
 ·rw[Ev.g,Ev.g,Ev.give,nget_put,sq_ne (ne_of_gi hn hx)];exact Fix.refl _
theorem put_E {a:Ev} {c:Sc} {s:ByteArray} (h:EnvG a c) (hs:inM c.gi s=true) (X:Nm):EnvG (a.put s X) c:=by
 refine⟨fun x hx=>?_,nod_put h.nod _ _⟩;rw[Ev.put,nhas_put,Bool.or_eq_true] at hx;rcases hx with hx|hx
 ·exact h.has x hx
 ·rw[←sq_iff.1 hx];exact hs
mutual
theorem evStmt_E (ru:Int) (P:List Fu) (F:Nat):∀(s:St) (d:Nat) (a a1:Ev) (c c1:Sc) (aw:List ByteArray),s.ok d=true→evStmt ru P F s a= .ok a1→scStmt P F s c= .ok (c1,aw)→ScW c→EnvG a c→EnvG a1 c1∧Kept c a a1
 | .mk k nm fr sec mt ex args body els,d,a,a1,c,c1,aw,hok,hev,hsc,hw,hE=>by
   have hW:=scStmt_W P F _ c c1 aw hw hsc;have hok0:=hok;simp only[St.ok,Bool.and_eq_true] at hok;have ff:=form_facts hok.1.1.2;rw[scStmt] at hsc;split at hsc
   ·cases hsc
   rename_i hhead;split at hsc
   ·cases hsc
   rename_i cg awg hg;have w1:=gives_W hw hg;split at hsc
   ·cases hsc
   rename_i c2 aw2 hcb;have w2:=scStmts_W P F body cg c2 _ _ w1.w hcb;have w2':=dels_W aw2 w2.w;split at hsc
   ·cases hsc
   rename_i c3 aw3 hce;have w3:=scStmts_W P F els _ c3 _ _ w2'.w hce;have w3':=dels_W aw3 w3.w;have gg:∀x,inM cg.gi x=true→inM c1.gi x=true:=fun x hx=>by
    have h4:=w3'.gi x (w3.gi x (w2'.gi x (w2.gi x hx)));split at hsc
    ·cases hsc;exact h4
    ·cases hsc;exact h4
   have hfr:k.toNat=8∨k.toNat=9→inM c.gi fr=true:=fun h=>by
    have h0:scHead P F (inM c.kn) k nm fr ex args=true:=by simpa using hhead
    unfold scHead at h0;simp only[Bool.and_eq_true,Bool.or_eq_true] at h0;rcases h0.1.2 with h1|h1
    ·exfalso;rcases h with h|h<;>simp[h] at h1
    ·exact hw.kg fr h1
   have new:k.toNat≠2∧k.toNat≠4→emp nm=false→inM c.gi nm=false∧inM c1.gi nm=true:=fun h1 h2=>by
    have:=gives_new hw h1 h2 hg;exact⟨this.1,gg nm this.2⟩
   have stay:EnvG a c1∧Kept c a a:=⟨hE.mono hW.gi,Kept.refl c a⟩;have named:k.toNat≠11→nName k=true→emp nm=false:=fun h1 h2=>by
    have:=emp_of_namedX (ff.other h1).2.2;rw[h2] at this;simpa using this
   by_cases h1:k.toNat=1
   ·rw[ev_1 _ _ _ _ _ _ _ _ _ _ _ _ _ h1] at hev;obtain⟨_,hev⟩:=evif_ok hev;cases hev;have hn:=new (by omega) (named (by omega) (by simp[nName,h1]));exact give_E hE hn.1 hn.2 hW.gi _
   by_cases h2:k.toNat=2
   ·rw[ev_2 _ _ _ _ _ _ _ _ _ _ _ _ _ h2] at hev;obtain⟨_,hev⟩:=evif_ok hev;cases hev;exact stay
   by_cases h3:k.toNat=3
   ·rw[ev_3 _ _ _ _ _ _ _ _ _ _ _ _ _ h3] at hev;obtain⟨_,hev⟩:=evif_ok hev;cases hev;have hn:=new (by omega) (named (by omega) (by simp[nName,h3]));exact give_E hE hn.1 hn.2 hW.gi _
   by_cases h4:k.toNat=4
   ·rw[ev_4 _ _ _ _ _ _ _ _ _ _ _ _ _ h4] at hev;obtain⟨_,hev⟩:=evif_ok hev;cases hev;exact stay
   by_cases h5:k.toNat=5
   ·rw[ev_5 _ _ _ _ _ _ _ _ _ _ _ _ _ h5] at hev;obtain⟨_,hev⟩:=evif_ok hev;split at hev
    ·cases hev
    rename_i a2 hbl;split at hev
    ·cases hev
    rename_i a3 hbe;cases hev;obtain⟨b2,hb2,rfl⟩:=evKeep_ok hbl;obtain⟨b3,hb3,rfl⟩:=evKeep_ok hbe;have e2:=evStmts_E ru P F body (d+1) a b2 cg c2 _ _ hok.1.2 hb2 hcb w1.w (hE.mono w1.gi);have hE2:EnvG ((b2.with (nkeep b2.nm a.nm)).with a.nm) (c2.dels aw2):=⟨fun x hx=>w2'.gi x (w2.gi x (w1.gi x (hE.has x hx))),hE.nod⟩;have e3:=evStmts_E ru P F els (d+1) _ b3 (c2.dels aw2) c3 _ _ hok.2 hb3 hce w2'.w hE2;refine⟨⟨fun x hx=>?_,?_⟩,fun x hx hh=>?_⟩
    ·have hx:nhas (ngone (nkeep b3.nm a.nm) (nkeep b2.nm a.nm)) x=true:=hx;rw[nhas_gone,nkeep,nhas_filter,Bool.and_eq_true] at hx;exact hW.gi x (hE.has x hx.2)
    ·exact nod_gone (nod_filter e3.1.nod _) _
    ·obtain⟨g1,g2⟩:=e3.2 x (w2'.gi x (w2.gi x (w1.gi x hx))) hh;have q1:nhas (ngone (nkeep b3.nm a.nm) (nkeep b2.nm a.nm)) x=true:=by
      rw[nhas_gone,nkeep,nhas_filter,hh,g1];rfl
     refine⟨q1,g2.trans ?_⟩;have q2:=nget_gone (nkeep b3.nm a.nm) (nkeep b2.nm a.nm) x;rw[show nget (nkeep b3.nm a.nm) x=nget b3.nm x from nget_filter b3.nm (nhas a.nm) x hh] at q2;exact q2
   by_cases h67:k.toNat=6∨k.toNat=7
   ·rw[ev_67 _ _ _ _ _ _ _ _ _ _ _ _ _ h67] at hev;obtain⟨_,hev⟩:=evif_ok hev;split at hev
    ·cases hev
    rename_i a2 hbl;cases hev;obtain⟨b2,hb2,rfl⟩:=evKeep_ok hbl;have hin:EnvG (a.loopIn nm) cg∧Kept c a (a.loopIn nm):=by
     unfold Ev.loopIn;split
     ·exact⟨⟨fun x hx=>w1.gi x (hE.has x hx),hE.nod⟩,Kept.refl c a⟩
     ·rename_i he;have he:emp nm=false:=by simpa using he
      have hn:=gives_new hw (by omega) he hg;exact give_E (a:=a.at (a.loops+1)) ⟨hE.has,hE.nod⟩ hn.1 hn.2 w1.gi Nm.zero
    have e2:=evStmts_E ru P F body (d+1) _ b2 cg c2 _ _ hok.1.2 hb2 hcb w1.w hin.1;have hne:∀x,inM c.gi x=true→sq x nm=false:=fun x hx=>by
     cases he:emp nm with
     |true=>exact sq_ne fun e=>by have:=hw.ne x hx;rw[e,he] at this;cases this
     |false=>exact sq_ne (ne_of_gi (gives_new hw (by omega) he hg).1 hx).symm
    refine⟨⟨fun x hx=>?_,?_⟩,fun x hx hh=>?_⟩
    ·have hx:nhas (ndel (nkeep b2.nm (a.loopIn nm).nm) nm) x=true:=hx;rw[ndel,nhas_filter _ (fun q=> !sq q nm),nkeep,nhas_filter,Bool.and_eq_true,Bool.and_eq_true] at hx;exact gg x (hin.1.has x hx.1.2)
    ·exact nod_filter (nod_filter e2.1.nod _) _
    ·obtain⟨g0,g0'⟩:=hin.2 x hx hh;obtain⟨g1,g2⟩:=e2.2 x (w1.gi x hx) g0;have hx':=hne x hx;refine⟨?_,g0'.trans (g2.trans ?_)⟩
     ·show nhas (ndel (nkeep b2.nm (a.loopIn nm).nm) nm) x=true
      rw[ndel,nhas_filter _ (fun q=> !sq q nm),nkeep,nhas_filter,g0,g1,hx'];rfl
     ·show Fix (nget b2.nm x) (nget (ndel (nkeep b2.nm (a.loopIn nm).nm) nm) x)
      rw[ndel,nget_filter _ (fun q=> !sq q nm) x (by rw[hx'];rfl),nkeep,nget_filter _ _ x g0];exact Fix.refl _
   by_cases h8:k.toNat=8
   ·rw[ev_8 _ _ _ _ _ _ _ _ _ _ _ _ _ h8] at hev;obtain⟨_,hev⟩:=evif_ok hev;split at hev
    ·cases hev
    rename_i a2 hbl;cases hev;obtain⟨b2,hb2,rfl⟩:=evKeep_ok hbl;have he:=named (by omega) (by simp[nName,h8]);have hn:=gives_new hw (by omega) he hg;have hf:=hfr (.inl h8);have hin:EnvG (a.lendIn nm fr mt) cg:=(give_E (a:=a.put fr _) (put_E hE hf _) hn.1 hn.2 w1.gi _).1;have e2:=evStmts_E ru P F body (d+1) _ b2 cg c2 _ _ hok.1.2 hb2 hcb w1.w hin;have hnf:sq nm fr=false:=sq_ne (ne_of_gi hn.1 hf);have hin2:∀x,inM c.gi x=true→nhas a.nm x=true→nhas (a.lendIn nm fr mt).nm x=true∧(a.lendIn nm fr mt).g x=if sq fr x then {a.g fr with lent:=if mt then 2 else max (a.g fr).lent 1} else a.g x:=fun x hx hh=>by
     have hnx:=sq_ne (ne_of_gi hn.1 hx);constructor
     ·show nhas (nput (nput a.nm fr _) nm _) x=true
      rw[nhas_put,nhas_put,hh];rfl
     ·show nget (nput (nput a.nm fr _) nm _) x=_
      rw[nget_put,hnx,nget_put];rfl
    refine⟨⟨fun x hx=>?_,?_⟩,fun x hx hh=>?_⟩
    ·have hx:nhas (nput (ndel (nkeep b2.nm (a.lendIn nm fr mt).nm) nm) fr _) x=true:=hx;rw[nhas_put,Bool.or_eq_true] at hx;rcases hx with hx|hx
     ·rw[ndel,nhas_filter _ (fun q=> !sq q nm),nkeep,nhas_filter,Bool.and_eq_true,Bool.and_eq_true] at hx;exact gg x (hin.has x hx.1.2)
     ·rw[←sq_iff.1 hx];exact hW.gi fr hf
    ·exact nod_put (nod_filter (nod_filter e2.1.nod _) _) _ _
    ·obtain⟨g0,g0'⟩:=hin2 x hx hh;obtain⟨g1,g2⟩:=e2.2 x (w1.gi x hx) g0;have hxn:sq x nm=false:=sq_ne (ne_of_gi hn.1 hx).symm;have gx:nget (ndel (nkeep b2.nm (a.lendIn nm fr mt).nm) nm) x=nget b2.nm x:=by
      rw[ndel,nget_filter _ (fun q=> !sq q nm) x (by rw[hxn];rfl),nkeep,nget_filter _ _ x g0]
     constructor
     ·show nhas (nput (ndel (nkeep b2.nm (a.lendIn nm fr mt).nm) nm) fr _) x=true
      rw[nhas_put,ndel,nhas_filter _ (fun q=> !sq q nm),nkeep,nhas_filter,g0,g1,hxn];rfl
     ·show Fix (a.g x) (nget (nput (ndel (nkeep b2.nm (a.lendIn nm fr mt).nm) nm) fr {nget (ndel (nkeep b2.nm (a.lendIn nm fr mt).nm) nm) fr with lent:=(a.g fr).lent}) x)
      rw[nget_put];cases hs:sq fr x with
      |false=>
       rw[hs,if_neg Bool.false_ne_true] at g0';rw[if_neg Bool.false_ne_true,gx,←g0'];exact g2
      |true=>
       have e:=sq_iff.1 hs;subst e;rw[hs,if_pos rfl] at g0';rw[if_pos rfl,gx];rw[g0'] at g2;exact⟨g2.buf,g2.sec,g2.mt,g2.own,g2.set,rfl,g2.loops⟩
   by_cases h9:k.toNat=9
   ·rw[ev_9 _ _ _ _ _ _ _ _ _ _ _ _ _ h9] at hev;obtain⟨_,hev⟩:=evif_ok hev;cases hev;have hn:=new (by omega) (named (by omega) (by simp[nName,h9]));have hf:=hfr (.inr h9);have e1:=give_E (a:=a.put fr {a.g fr with gone:=true}) (put_E hE hf _) hn.1 hn.2 hW.gi (Nm.bufv (a.g fr).sec true true);refine⟨e1.1,fun x hx hh=>?_⟩;have hp:nhas (a.put fr {a.g fr with gone:=true}).nm x=true:=by rw[Ev.put,nhas_put,hh];rfl
    obtain⟨g1,g2⟩:=e1.2 x hx hp;refine⟨g1,Fix.trans ?_ g2⟩;show Fix (a.g x) (nget (nput a.nm fr _) x)
    rw[nget_put];cases hs:sq fr x with
    |false=>exact Fix.refl _
    |true=>rw[←sq_iff.1 hs];exact⟨rfl,rfl,rfl,rfl,rfl,rfl,rfl⟩
   by_cases h10:k.toNat=10
   ·rw[ev_10 _ _ _ _ _ _ _ _ _ _ _ _ _ h10] at hev;obtain⟨_,hev⟩:=evif_ok hev;cases hev;have hn:=new (by omega) (named (by omega) (by simp[nName,h10]));exact give_E hE hn.1 hn.2 hW.gi _
   by_cases h11:k.toNat=11
   ·rw[ev_11 _ _ _ _ _ _ _ _ _ _ _ _ _ h11] at hev;obtain⟨_,hev⟩:=evif_ok hev;cases hev;split
    ·exact stay
    ·rename_i he;have hn:=new (by omega) (by simpa using he);exact give_E hE hn.1 hn.2 hW.gi _
   ·rw[evSt0 _ _ _ _ _ _ _ _ _ _ _ _ _ (by omega)] at hev;obtain⟨_,hev⟩:=evif_ok hev;cases hev;exact stay
theorem evStmts_E (ru:Int) (P:List Fu) (F:Nat):∀(l:List St) (d:Nat) (a a1:Ev) (c c1:Sc) (aw aw1:List ByteArray),St.oks l d=true→evStmts ru P F l a= .ok a1→scStmts P F l c aw= .ok (c1,aw1)→ScW c→EnvG a c→EnvG a1 c1∧Kept c a a1
 |[],d,a,a1,c,c1,aw,aw1,_,hev,hsc,hw,hE=>by
  rw[evStmts] at hev;rw[scStmts] at hsc;cases hev;cases hsc;exact⟨hE,Kept.refl _ _⟩
 |s::l,d,a,a1,c,c1,aw,aw1,hok,hev,hsc,hw,hE=>by
  simp only[St.oks,Bool.and_eq_true] at hok;rw[evStmts] at hev;split at hev
  ·cases hev
  rename_i a2 hs;rw[scStmts] at hsc;split at hsc
  ·cases hsc
  rename_i c2 awx hcs;have w1:=scStmt_W P F s ⟨c.kn,c.gi,c.n+1⟩ c2 awx ⟨hw.kg,hw.ne⟩ hcs;have e1:=evStmt_E ru P F s d a.next a2 ⟨c.kn,c.gi,c.n+1⟩ c2 awx hok.1 hs hcs ⟨hw.kg,hw.ne⟩ ⟨hE.has,hE.nod⟩;have e2:=evStmts_E ru P F l d a2 a1 c2 c1 _ _ hok.2 hev hsc w1.w e1.1;exact⟨e2.1,Kept.trans (a:=a) (a1:=a2) e1.2 w1.gi e2.2⟩
end
def Ev.sh (a:Ev):Ev:=⟨a.nm,a.n+1,a.loops⟩
def erSh (r:Er Ev):Er Ev:=match r with
 | .error x=>.error (x+1)
 | .ok a=>.ok a.sh
theorem if_sh (a:Ev) (ok:Bool) (x:Er Ev):a.sh.if ok (erSh x)=erSh (a.if ok x):=by unfold Ev.if;split<;>rfl
theorem keep_sh (a:Ev) (x:Er Ev):evKeep a.sh (erSh x)=erSh (evKeep a x):=by cases x<;>rfl
mutual
theorem evStmt_sh (ru:Int) (P:List Fu) (F:Nat):∀(s:St) (a:Ev),evStmt ru P F s a.sh=erSh (evStmt ru P F s a)
 | .mk k nm fr sec mt ex args body els,a=>by
   by_cases h1:k.toNat=1
   ·rw[ev_1 _ _ _ _ _ _ _ _ _ _ _ _ _ h1,ev_1 _ _ _ _ _ _ _ _ _ _ _ _ _ h1];exact if_sh a (a.into ru (exAt ex 0) sec) (.ok (a.give nm (Nm.num sec true)))
   by_cases h2:k.toNat=2
   ·rw[ev_2 _ _ _ _ _ _ _ _ _ _ _ _ _ h2,ev_2 _ _ _ _ _ _ _ _ _ _ _ _ _ h2];exact if_sh a _ (.ok _)
   by_cases h3:k.toNat=3
   ·rw[ev_3 _ _ _ _ _ _ _ _ _ _ _ _ _ h3,ev_3 _ _ _ _ _ _ _ _ _ _ _ _ _ h3];exact if_sh a (a.into ru (exAt ex 0) false) (.ok (a.give nm (Nm.bufv sec true true)))
   by_cases h4:k.toNat=4
   ·rw[ev_4 _ _ _ _ _ _ _ _ _ _ _ _ _ h4,ev_4 _ _ _ _ _ _ _ _ _ _ _ _ _ h4];exact if_sh a _ (.ok _)
   by_cases h5:k.toNat=5
   ·rw[ev_5 _ _ _ _ _ _ _ _ _ _ _ _ _ h5,ev_5 _ _ _ _ _ _ _ _ _ _ _ _ _ h5,←if_sh];show a.sh.if (a.into ru (exAt ex 0) false) _=_
    congr 1;unfold evBlock;rw[evStmts_sh ru P F body a,keep_sh];cases hb:evKeep a (evStmts ru P F body a) with
    |error x=>rfl
    |ok a1=>
     show(match evKeep (a1.with a.nm).sh (evStmts ru P F els (a1.with a.nm).sh) with
      | .error x=>Except.error x
      | .ok a2=>.ok (a2.with (ngone a2.nm a1.nm)))=_
     rw[evStmts_sh ru P F els (a1.with a.nm),keep_sh];simp only;cases evKeep (a1.with a.nm) (evStmts ru P F els (a1.with a.nm))<;>rfl
   by_cases h67:k.toNat=6∨k.toNat=7
   ·have hin:a.sh.loopIn nm=(a.loopIn nm).sh:=by unfold Ev.loopIn;split<;>rfl
    rw[ev_67 _ _ _ _ _ _ _ _ _ _ _ _ _ h67,ev_67 _ _ _ _ _ _ _ _ _ _ _ _ _ h67,←if_sh,hin];show a.sh.if (a.into ru (exAt ex 0) false) _=_
    congr 1;unfold evBlock;rw[evStmts_sh ru P F body,keep_sh];cases evKeep (a.loopIn nm) (evStmts ru P F body (a.loopIn nm))<;>rfl
   by_cases h8:k.toNat=8
   ·rw[ev_8 _ _ _ _ _ _ _ _ _ _ _ _ _ h8,ev_8 _ _ _ _ _ _ _ _ _ _ _ _ _ h8,←if_sh];show a.sh.if (a.lendOk ru fr mt ex) _=_
    congr 1;show(match evBlock ru P F body (a.lendIn nm fr mt).sh with
     | .error x=>Except.error x
     | .ok a1=>.ok (a1.lendOut nm fr (a.g fr).lent))=_
    unfold evBlock;rw[evStmts_sh ru P F body,keep_sh];cases evKeep (a.lendIn nm fr mt) (evStmts ru P F body (a.lendIn nm fr mt))<;>rfl
   by_cases h9:k.toNat=9
   ·rw[ev_9 _ _ _ _ _ _ _ _ _ _ _ _ _ h9,ev_9 _ _ _ _ _ _ _ _ _ _ _ _ _ h9];exact if_sh a (a.moveOk ru fr) (.ok ((a.put fr {a.g fr with gone:=true}).give nm (Nm.bufv (a.g fr).sec true true)))
   by_cases h10:k.toNat=10
   ·rw[ev_10 _ _ _ _ _ _ _ _ _ _ _ _ _ h10,ev_10 _ _ _ _ _ _ _ _ _ _ _ _ _ h10];exact if_sh a (Ex.so ru a.g (exAt ex 0)) (.ok (a.give nm Nm.zero))
   by_cases h11:k.toNat=11
   ·rw[ev_11 _ _ _ _ _ _ _ _ _ _ _ _ _ h11,ev_11 _ _ _ _ _ _ _ _ _ _ _ _ _ h11,←if_sh];show a.sh.if (a.callOk ru (calleeM P F fr) nm ex args) _=_
    congr 1;split<;>rfl
   ·rw[evSt0 _ _ _ _ _ _ _ _ _ _ _ _ _ (by omega),evSt0 _ _ _ _ _ _ _ _ _ _ _ _ _ (by omega)];exact if_sh a _ (.ok _)
theorem evStmts_sh (ru:Int) (P:List Fu) (F:Nat):∀(l:List St) (a:Ev),evStmts ru P F l a.sh=erSh (evStmts ru P F l a)
 |[],a=>by rw[evStmts,evStmts];rfl
 |x::l,a=>by
  rw[evStmts,evStmts,show a.sh.next=a.next.sh from rfl,evStmt_sh ru P F x a.next];cases evStmt ru P F x a.next with
  |error y=>rfl
  |ok a1=>exact evStmts_sh ru P F l a1
end
structure Sees (P Q:List Fu) (F:Nat):Prop where
 len:Q.length=P.length
 cal:∀s,(calleeM Q F s).params=(calleeM P F s).params∧(calleeM Q F s).sec=(calleeM P F s).sec∧(calleeM Q F s).ret=(calleeM P F s).ret
mutual
theorem evStmt_PQ {ru:Int} {P Q:List Fu} {F:Nat} (h:Sees P Q F):∀(s:St) (a:Ev),evStmt ru Q F s a=evStmt ru P F s a
 | .mk k nm fr sec mt ex args body els,a=>by
   by_cases h1:k.toNat=1
   ·rw[ev_1 _ _ _ _ _ _ _ _ _ _ _ _ _ h1,ev_1 _ _ _ _ _ _ _ _ _ _ _ _ _ h1]
   by_cases h2:k.toNat=2
   ·rw[ev_2 _ _ _ _ _ _ _ _ _ _ _ _ _ h2,ev_2 _ _ _ _ _ _ _ _ _ _ _ _ _ h2]
   by_cases h3:k.toNat=3
   ·rw[ev_3 _ _ _ _ _ _ _ _ _ _ _ _ _ h3,ev_3 _ _ _ _ _ _ _ _ _ _ _ _ _ h3]
   by_cases h4:k.toNat=4
   ·rw[ev_4 _ _ _ _ _ _ _ _ _ _ _ _ _ h4,ev_4 _ _ _ _ _ _ _ _ _ _ _ _ _ h4]
   by_cases h5:k.toNat=5
   ·rw[ev_5 _ _ _ _ _ _ _ _ _ _ _ _ _ h5,ev_5 _ _ _ _ _ _ _ _ _ _ _ _ _ h5];congr 1;unfold evBlock;rw[evStmts_PQ h body a];cases evKeep a (evStmts ru P F body a) with
    |error x=>rfl
    |ok a1=>simp only;rw[evStmts_PQ h els (a1.with a.nm)]
   by_cases h67:k.toNat=6∨k.toNat=7
   ·rw[ev_67 _ _ _ _ _ _ _ _ _ _ _ _ _ h67,ev_67 _ _ _ _ _ _ _ _ _ _ _ _ _ h67];unfold evBlock;rw[evStmts_PQ h body]
   by_cases h8:k.toNat=8
   ·rw[ev_8 _ _ _ _ _ _ _ _ _ _ _ _ _ h8,ev_8 _ _ _ _ _ _ _ _ _ _ _ _ _ h8];unfold evBlock;rw[evStmts_PQ h body]
   by_cases h9:k.toNat=9
   ·rw[ev_9 _ _ _ _ _ _ _ _ _ _ _ _ _ h9,ev_9 _ _ _ _ _ _ _ _ _ _ _ _ _ h9]
   by_cases h10:k.toNat=10
   ·rw[ev_10 _ _ _ _ _ _ _ _ _ _ _ _ _ h10,ev_10 _ _ _ _ _ _ _ _ _ _ _ _ _ h10]
   by_cases h11:k.toNat=11
   ·have hc:a.callOk ru (calleeM Q F fr) nm ex args=a.callOk ru (calleeM P F fr) nm ex args:=by
     unfold Ev.callOk numsOf bufsOf;rw[(h.cal fr).1,(h.cal fr).2.2]
    rw[ev_11 _ _ _ _ _ _ _ _ _ _ _ _ _ h11,ev_11 _ _ _ _ _ _ _ _ _ _ _ _ _ h11,hc,(h.cal fr).2.1]
   ·rw[evSt0 _ _ _ _ _ _ _ _ _ _ _ _ _ (by omega),evSt0 _ _ _ _ _ _ _ _ _ _ _ _ _ (by omega)];unfold Ev.sealOk;rw[h.len]
theorem evStmts_PQ {ru:Int} {P Q:List Fu} {F:Nat} (h:Sees P Q F):∀(l:List St) (a:Ev),evStmts ru Q F l a=evStmts ru P F l a
 |[],a=>by rw[evStmts,evStmts]
 |x::l,a=>by
  rw[evStmts,evStmts,evStmt_PQ h x a.next];cases evStmt ru P F x a.next with
  |error y=>rfl
  |ok a1=>exact evStmts_PQ h l a1
end
structure SeesN (P Q:List Fu) (F:Nat):Prop where
 nam:∀s,((Q.take F).any fun f=>sq f.name s)=(P.take F).any fun f=>sq f.name s
theorem head_PQ {P Q:List Fu} {F:Nat} (h:SeesN P Q F) (k:ByteArray→Bool) (kind:UInt8) (nm fr:ByteArray) (ex:List Ex) (args:List ByteArray):scHead Q F k kind nm fr ex args=scHead P F k kind nm fr ex args:=by
 unfold scHead;rw[h.nam]
mutual
theorem scStmt_PQ {P Q:List Fu} {F:Nat} (h:SeesN P Q F):∀(s:St) (c:Sc),scStmt Q F s c=scStmt P F s c
 | .mk k nm fr sec mt ex args body els,c=>by
   rw[scStmt,scStmt,head_PQ h];split
   ·rfl
   ·cases c.gives k nm with
    |error x=>rfl
    |ok p=>
     simp only;rw[scStmts_PQ h body];cases scStmts P F body p.1 [] with
     |error x=>rfl
     |ok q=>
      simp only;rw[scStmts_PQ h els]
theorem scStmts_PQ {P Q:List Fu} {F:Nat} (h:SeesN P Q F):∀(l:List St) (c:Sc) (aw:List ByteArray),scStmts Q F l c aw=scStmts P F l c aw
 |[],c,aw=>by rw[scStmts,scStmts]
 |s::l,c,aw=>by
  rw[scStmts,scStmts,scStmt_PQ h s];cases scStmt P F s ⟨c.kn,c.gi,c.n+1⟩ with
  |error x=>rfl
  |ok p=>exact scStmts_PQ h l p.1 _
end
def ScL (P:List Fu) (F:Nat) (l:List St) (c:Sc):Prop:=∃aw c1 aw1,scStmts P F l c aw= .ok (c1,aw1)
theorem scStmts_aw (P:List Fu) (F:Nat):∀(l:List St) (c:Sc) (aw aw':List ByteArray),(∃r,scStmts P F l c aw= .ok r)→∃r,scStmts P F l c aw'= .ok r
 |[],c,aw,aw',_=>⟨_,by rw[scStmts]⟩
 |s::l,c,aw,aw',⟨r,h⟩=>by
  rw[scStmts] at h ⊢;split at h
  ·cases h
  ·exact scStmts_aw P F l _ _ _ ⟨r,h⟩
theorem ScL.any {P:List Fu} {F:Nat} {l:List St} {c:Sc} (h:ScL P F l c) (aw:List ByteArray):∃c1 aw1,scStmts P F l c aw= .ok (c1,aw1):=by
 obtain⟨aw0,c1,aw1,h⟩:=h;obtain⟨⟨c2,aw2⟩,h2⟩:=scStmts_aw P F l c aw0 aw ⟨_,h⟩;exact⟨c2,aw2,h2⟩
theorem ScL.cons {P:List Fu} {F:Nat} {s:St} {l:List St} {c:Sc} (h:ScL P F (s::l) c):∃c1 aw1,scStmt P F s ⟨c.kn,c.gi,c.n+1⟩= .ok (c1,aw1)∧ScL P F l c1:=by
 obtain⟨aw0,c1,aw1,h⟩:=h;rw[scStmts] at h;split at h
 ·cases h
 ·rename_i c2 aw2 h2;exact⟨c2,aw2,h2,_,_,_,h⟩
theorem ScL.app {P:List Fu} {F:Nat} {r:List St}:∀{l:List St} {c:Sc},ScL P F (l++r) c→ScL P F l c
 |[],c,_=>⟨[],c,[],by rw[scStmts]⟩
 |s::l,c,h=>by
  obtain⟨c1,aw1,h1,h2⟩:=ScL.cons (l:=l++r) h;obtain⟨aw,c2,aw2,h3⟩:=ScL.app h2;obtain⟨⟨c3,aw3⟩,h4⟩:=scStmts_aw P F l c1 aw ([]++aw1) ⟨_,h3⟩;exact⟨[],c3,aw3,by rw[scStmts,h1];exact h4⟩
theorem evStmts_app (ru:Int) (P:List Fu) (F:Nat) (r:List St):∀(l:List St) (a:Ev),evStmts ru P F (l++r) a=match evStmts ru P F l a with
  | .error x=>.error x
  | .ok a1=>evStmts ru P F r a1
 |[],a=>by rw[List.nil_append];conv=>rhs;rw[evStmts]
 |x::l,a=>by
  rw[List.cons_append,evStmts,evStmts];cases evStmt ru P F x a.next with
  |error y=>rfl
  |ok a1=>exact evStmts_app ru P F r l a1
theorem evStmts_one (ru:Int) (P:List Fu) (F:Nat) (x:St) (a:Ev):evStmts ru P F [x] a=evStmt ru P F x a.next:=by
 rw[evStmts];cases evStmt ru P F x a.next with
 |error y=>rfl
 |ok a1=>simp only;rw[evStmts]
structure Loc (ru:Int) (P Q:List Fu) (F:Nat) (c:EdC) (o:Bool→Bool) (dl:Int):Prop where
 sees:Sees P Q F
 names:SeesN P Q F
 two:(c.inside&&c.extra)=false
 loc:∀(s:St) (d:Nat) (a a1:Ev) (cs cs1:Sc) (aw1:List ByteArray),s.kind.toNat=c.kd.toNat→s.ok d=true→evStmt ru P F s a.next= .ok a1→scStmt P F s ⟨cs.kn,cs.gi,cs.n+1⟩= .ok (cs1,aw1)→ScL Q F (s.edAt c) cs→ScW cs→EnvG a cs→
  (o s.mt=true→evStmts ru Q F (s.edAt c) a= .error (atOf c s (a.n+1)+dl))∧(o s.mt=false→evStmts ru Q F (s.edAt c) a= .ok a1.sh)
def OutD (o:Bool→Bool) (dl:Int) (e:EdS) (r:Er Ev) (a1:Ev):Prop:=(o e.fl=true→r= .error (e.at_+dl))∧(o e.fl=false→r= .ok a1.sh)
theorem here_kind {e:EdS} {c:EdC} {k:UInt8} (h:e.here c k=true):k.toNat=c.kd.toNat:=by
 unfold EdS.here EdS.hit at h;simp only[Bool.and_eq_true,beq_iff_eq] at h;exact h.1.1
theorem loopIn_E {a:Ev} {cs c1:Sc} {k:UInt8} {nm:ByteArray} {aw:List ByteArray} {m:Int} (hE:EnvG a cs) (hw:ScW ⟨cs.kn,cs.gi,m⟩) (hk:k.toNat≠2∧k.toNat≠4) (hg:Sc.gives ⟨cs.kn,cs.gi,m⟩ k nm= .ok (c1,aw)):EnvG (a.next.loopIn nm) c1:=by
 have w1:=gives_W hw hg;unfold Ev.loopIn;split
 ·exact⟨fun x hx=>w1.gi x (hE.has x hx),hE.nod⟩
 ·rename_i he;have hn:=gives_new hw hk (by simpa using he) hg;exact(give_E (a:=a.next.at (a.next.loops+1)) (c:=⟨cs.kn,cs.gi,m⟩) ⟨hE.has,hE.nod⟩ hn.1 hn.2 w1.gi Nm.zero).1
theorem lendIn_E {P:List Fu} {F d:Nat} {a:Ev} {cs c1:Sc} {k:UInt8} {nm fr:ByteArray} {sec mt:Bool} {ex:List Ex} {args:List ByteArray} {body els:List St} {aw:List ByteArray} {m:Int} (hE:EnvG a cs) (hw:ScW ⟨cs.kn,cs.gi,m⟩) (hok:St.ok (.mk k nm fr sec mt ex args body els) d=true) (h8:k.toNat=8)
  (hh:¬(!scHead P F (inM cs.kn) k nm fr ex args)=true) (hg:Sc.gives ⟨cs.kn,cs.gi,m⟩ k nm= .ok (c1,aw)):EnvG (a.next.lendIn nm fr mt) c1:=by
 simp only[St.ok,Bool.and_eq_true] at hok;have ff:=form_facts hok.1.1.2;have he:emp nm=false:=by
  have:=emp_of_namedX (ff.other (by omega)).2.2;rw[this];simp[nName,h8]
 have w1:=gives_W hw hg;have hn:=gives_new hw (by omega) he hg;have hf:inM cs.gi fr=true:=by
  have h0:scHead P F (inM cs.kn) k nm fr ex args=true:=by simpa using hh
  unfold scHead at h0;simp only[Bool.and_eq_true,Bool.or_eq_true] at h0;rcases h0.1.2 with h1|h1
  ·simp[h8] at h1
  ·exact hw.kg fr h1
 exact(give_E (a:=a.next.put fr _) (c:=⟨cs.kn,cs.gi,m⟩) (put_E (a:=a.next) (c:=⟨cs.kn,cs.gi,m⟩) ⟨hE.has,hE.nod⟩ hf _) hn.1 hn.2 w1.gi _).1
theorem keep_err {a:Ev} {r:Er Ev} {n:Int} (h:r= .error n):evKeep a r= .error n:=by rw[h];rfl
mutual
theorem ed_run {ru:Int} {P Q:List Fu} {F:Nat} {c:EdC} {o:Bool→Bool} {dl:Int} (L:Loc ru P Q F c o dl):∀(s:St) (d:Nat) (e:EdS) (a a1:Ev) (cs cs1:Sc) (aw1:List ByteArray),e.done=false→(s.ed c e).2.done=true→e.n=a.n→s.ok d=true→
  evStmt ru P F s a.next= .ok a1→scStmt P F s ⟨cs.kn,cs.gi,cs.n+1⟩= .ok (cs1,aw1)→ScL Q F (s.ed c e).1 cs→ScW cs→EnvG a cs→OutD o dl (s.ed c e).2 (evStmts ru Q F (s.ed c e).1 a) a1
 | .mk k nm fr sec mt ex args body els,d,e,a,a1,cs,cs1,aw1,he,hd,hn,hok,hev,hsc,hq,hw,hE=>by
   cases hh:e.next.here c k
   ·have hok0:=hok;simp only[St.ok,Bool.and_eq_true] at hok;rw[St.ed] at hd hq ⊢;simp only[hh,Bool.false_and,Bool.false_eq_true,if_false] at hd hq ⊢;have hp:=pass_nd e.next c k;obtain⟨e1,he1⟩:∃e1,e1=e.next.pass c k:=⟨_,rfl⟩;rw[←he1] at hd hp hq ⊢;have hd1:e1.done=false:=by rw[hp.2.2.1];exact he
    have hn1:e1.n=a.next.n:=by rw[hp.1];show e.n+1=a.n+1;rw[hn]
    clear he1 hh;rw[evStmts_one];rw[scStmt] at hsc;split at hsc
    ·cases hsc
    rename_i hhead;split at hsc
    ·cases hsc
    rename_i c1 aw hg;have hw':ScW ⟨cs.kn,cs.gi,cs.n+1⟩:=⟨hw.kg,hw.ne⟩;have w1:=gives_W hw' hg;have hqb:ScL Q F (St.eds c body e1).1 c1∧∀cb awb,scStmts Q F (St.eds c body e1).1 c1 []= .ok (cb,awb)→ScL Q F (St.eds c els (St.eds c body e1).2).1 (cb.dels awb):=by
     obtain⟨cq,awq,hq1,_⟩:=hq.cons;rw[scStmt] at hq1;split at hq1
     ·cases hq1
     rw[hg] at hq1;simp only at hq1;split at hq1
     ·cases hq1
     rename_i cb awb hb1;split at hq1
     ·cases hq1
     rename_i ce awe he1;exact⟨⟨_,_,_,hb1⟩,fun cb' awb' hb2=>by rw[hb1] at hb2;cases hb2;exact⟨_,_,_,he1⟩⟩
    clear hq;split at hsc
    ·cases hsc
    rename_i c2 aw2 hcb;have w2:=scStmts_W P F body c1 c2 _ _ w1.w hcb;have w2':=dels_W aw2 w2.w;split at hsc
    ·cases hsc
    rename_i c3 aw3 hce;clear hsc;have hE1:EnvG a.next c1:=⟨fun x hx=>w1.gi x (hE.has x hx),hE.nod⟩;cases hb:(St.eds c body e1).2.done
    ·obtain⟨K1,e2⟩:=eds_not c body e1 hb;rw[e2] at hd hqb ⊢;simp only at hd hqb ⊢;have hqe:=hqb.2 c2 aw2 (by rw[scStmts_PQ L.names];exact hcb);have h5:k.toNat=5:=by
      by_cases h5:k.toNat=5
      ·exact h5
      ·have:=els_nil hok0 h5;subst this;rw[St.eds] at hd;cases hd
     rw[ev_5 _ _ _ _ _ _ _ _ _ _ _ _ _ h5] at hev;obtain⟨hin,hev⟩:=evif_ok hev;split at hev
     ·cases hev
     rename_i a2 hbl;split at hev
     ·cases hev
     rename_i a3 hbe;cases hev;obtain⟨b2,hb2,rfl⟩:=evKeep_ok hbl;obtain⟨b3,hb3,rfl⟩:=evKeep_ok hbe;have g2:=evStmts_nx ru P F body _ a.next b2 hok.1.2 hb2;have ih:=eds_run L els (d+1) ⟨K1,e1.n+St.sizes body,e1.at_,false,e1.fl⟩ ((b2.with (nkeep b2.nm a.next.nm)).with a.next.nm) b3 (c2.dels aw2) c3 [] aw3 rfl hd (by show e1.n+St.sizes body=b2.n;omega) hok.2 hb3 hce hqe w2'.w ⟨fun x hx=>w2'.gi x (w2.gi x (hE1.has x hx)),hE1.nod⟩;have hq:evBlock ru Q F body a.next= .ok (b2.with (nkeep b2.nm a.next.nm)):=by unfold evBlock;rw[evStmts_PQ L.sees,hb2];rfl
     refine⟨fun ho=>?_,fun ho=>?_⟩
     ·rw[ev_5 _ _ _ _ _ _ _ _ _ _ _ _ _ h5,hin,hq];show(match evBlock ru Q F (St.eds c els _).1 _ with
       | .error x=>Except.error x
       | .ok a2=>.ok (a2.with _))=_
      rw[show evBlock ru Q F (St.eds c els _).1 _=_ from keep_err (ih.1 ho)]
     ·rw[ev_5 _ _ _ _ _ _ _ _ _ _ _ _ _ h5,hin,hq];show(match evBlock ru Q F (St.eds c els _).1 _ with
       | .error x=>Except.error x
       | .ok a2=>.ok (a2.with _))=_
      unfold evBlock;rw[ih.2 ho];rfl
    ·have e2:=eds_done c els (St.eds c body e1).2 hb;rw[e2];simp only;have h58:5≤k.toNat∧k.toNat≤8:=by
      by_cases h58:5≤k.toNat∧k.toNat≤8
      ·exact h58
      ·have:=(flat_size hok0 h58).1;subst this;rw[St.eds,hd1] at hb;cases hb
     by_cases h5:k.toNat=5
     ·rw[ev_5 _ _ _ _ _ _ _ _ _ _ _ _ _ h5] at hev;obtain⟨hin,hev⟩:=evif_ok hev;split at hev
      ·cases hev
      rename_i a2 hbl;split at hev
      ·cases hev
      rename_i a3 hbe;cases hev;obtain⟨b2,hb2,rfl⟩:=evKeep_ok hbl;have ih:=eds_run L body (d+1) e1 a.next b2 c1 c2 [] aw2 hd1 hb hn1 hok.1.2 hb2 hcb hqb.1 w1.w hE1;refine⟨fun ho=>?_,fun ho=>?_⟩
      ·rw[ev_5 _ _ _ _ _ _ _ _ _ _ _ _ _ h5,hin,show evBlock ru Q F (St.eds c body e1).1 _=_ from keep_err (ih.1 ho)];rfl
      ·rw[ev_5 _ _ _ _ _ _ _ _ _ _ _ _ _ h5,hin,show evBlock ru Q F (St.eds c body e1).1 a.next= .ok (b2.with (nkeep b2.nm a.next.nm)).sh by unfold evBlock;rw[ih.2 ho];rfl];show(match evBlock ru Q F els ((b2.with (nkeep b2.nm a.next.nm)).with a.next.nm).sh with
        | .error x=>Except.error x
        | .ok a2=>.ok (a2.with _))=_
       rw[show evBlock ru Q F els ((b2.with (nkeep b2.nm a.next.nm)).with a.next.nm).sh= .ok a3.sh by
        unfold evBlock at hbe ⊢;rw[evStmts_PQ L.sees,evStmts_sh,keep_sh,hbe];rfl]
       rfl
     ·have hen:=els_nil hok0 h5;subst hen;by_cases h67:k.toNat=6∨k.toNat=7
      ·rw[ev_67 _ _ _ _ _ _ _ _ _ _ _ _ _ h67] at hev;obtain⟨hin,hev⟩:=evif_ok hev;split at hev
       ·cases hev
       rename_i a2 hbl;cases hev;obtain⟨b2,hb2,rfl⟩:=evKeep_ok hbl;have ih:=eds_run L body (d+1) e1 (a.next.loopIn nm) b2 c1 c2 [] aw2 hd1 hb (by rw[(loopIn_n _ nm).1];exact hn1) hok.1.2 hb2 hcb hqb.1 w1.w (loopIn_E hE hw' (by omega) hg);refine⟨fun ho=>?_,fun ho=>?_⟩
       ·rw[ev_67 _ _ _ _ _ _ _ _ _ _ _ _ _ h67,hin,show evBlock ru Q F (St.eds c body e1).1 _=_ from keep_err (ih.1 ho)];rfl
       ·rw[ev_67 _ _ _ _ _ _ _ _ _ _ _ _ _ h67,hin];unfold evBlock;rw[ih.2 ho];rfl
      ·have h8:k.toNat=8:=by omega
       rw[ev_8 _ _ _ _ _ _ _ _ _ _ _ _ _ h8] at hev;obtain⟨hin,hev⟩:=evif_ok hev;split at hev
       ·cases hev
       rename_i a2 hbl;cases hev;obtain⟨b2,hb2,rfl⟩:=evKeep_ok hbl;have ih:=eds_run L body (d+1) e1 (a.next.lendIn nm fr mt) b2 c1 c2 [] aw2 hd1 hb (by show e1.n=a.next.n;exact hn1) hok.1.2 hb2 hcb hqb.1 w1.w (lendIn_E hE hw' hok0 h8 hhead hg);refine⟨fun ho=>?_,fun ho=>?_⟩
       ·rw[ev_8 _ _ _ _ _ _ _ _ _ _ _ _ _ h8,hin,show evBlock ru Q F (St.eds c body e1).1 _=_ from keep_err (ih.1 ho)];rfl
       ·rw[ev_8 _ _ _ _ _ _ _ _ _ _ _ _ _ h8,hin];unfold evBlock;rw[ih.2 ho];rfl
   ·obtain⟨r1,r2,r3⟩:=ed_here c L.two k nm fr sec mt ex args body els e hh;rw[r1] at hq ⊢;have:=L.loc _ d a a1 cs cs1 aw1 (here_kind hh) hok hev hsc hq hw hE;refine⟨fun ho=>?_,fun ho=>?_⟩
    ·rw[r3] at ho;rw[r2,hn];exact this.1 ho
    ·rw[r3] at ho;exact this.2 ho
theorem eds_run {ru:Int} {P Q:List Fu} {F:Nat} {c:EdC} {o:Bool→Bool} {dl:Int} (L:Loc ru P Q F c o dl):∀(l:List St) (d:Nat) (e:EdS) (a a1:Ev) (cs cs1:Sc) (aw aw1:List ByteArray),e.done=false→(St.eds c l e).2.done=true→e.n=a.n→St.oks l d=true→
  evStmts ru P F l a= .ok a1→scStmts P F l cs aw= .ok (cs1,aw1)→ScL Q F (St.eds c l e).1 cs→ScW cs→EnvG a cs→OutD o dl (St.eds c l e).2 (evStmts ru Q F (St.eds c l e).1 a) a1
 |[],d,e,a,a1,cs,cs1,aw,aw1,he,hd,_,_,_,_,_,_,_=>by rw[St.eds,he] at hd;cases hd
 |s::l,d,e,a,a1,cs,cs1,aw,aw1,he,hd,hn,hok,hev,hsc,hq,hw,hE=>by
  simp only[St.oks,Bool.and_eq_true] at hok;rw[evStmts] at hev;split at hev
  ·cases hev
  rename_i a2 hs;rw[scStmts] at hsc;split at hsc
  ·cases hsc
  rename_i c2 awx hcs;have w1:=scStmt_W P F s ⟨cs.kn,cs.gi,cs.n+1⟩ c2 awx ⟨hw.kg,hw.ne⟩ hcs;have e1:=evStmt_E ru P F s d a.next a2 ⟨cs.kn,cs.gi,cs.n+1⟩ c2 awx hok.1 hs hcs ⟨hw.kg,hw.ne⟩ ⟨hE.has,hE.nod⟩;have E2:=e1.1;clear e1;rw[St.eds] at hd hq ⊢;simp only at hd hq ⊢;rw[evStmts_app];cases hb:(s.ed c e).2.done
  ·obtain⟨K,e1⟩:=ed_not c s e hb;rw[e1] at hd hq ⊢;simp only at hd hq ⊢;obtain⟨cq,awq,hq1,hq2⟩:=ScL.cons (s:=s) hq;rw[scStmt_PQ L.names,hcs] at hq1;cases hq1;rw[evStmts_one,evStmt_PQ L.sees,hs];have g2:=evStmt_nx ru P F s d a.next a2 hok.1 hs;have h0:a.next.n=a.n+1:=rfl;exact eds_run L l d ⟨K,e.n+s.size,e.at_,false,e.fl⟩ a2 a1 c2 cs1 _ aw1 rfl hd (by show e.n+s.size=a2.n;omega) hok.2 hev hsc hq2 w1.w E2
  ·have ih:=ed_run L s d e a a2 cs c2 awx he hb hn hok.1 hs hcs hq.app hw hE;rw[eds_done c l _ hb];simp only;refine⟨fun ho=>?_,fun ho=>?_⟩
   ·rw[ih.1 ho]
   ·rw[ih.2 ho];simp only;rw[evStmts_PQ L.sees,evStmts_sh,hev];rfl
end
theorem fueds_len (c:EdC):∀(l:List Fu) (e:EdS),(Fu.eds c l e).1.length=l.length
 |[],e=>by rw[Fu.eds]
 |f::l,e=>by rw[Fu.eds];simp only[List.length_cons];rw[fueds_len c l]
theorem fueds_app (c:EdC):∀(l r:List Fu) (e:EdS),Fu.eds c (l++r) e=((Fu.eds c l e).1++(Fu.eds c r (Fu.eds c l e).2).1,(Fu.eds c r (Fu.eds c l e).2).2)
 |[],r,e=>by rw[List.nil_append];rfl
 |f::l,r,e=>by rw[List.cons_append,Fu.eds,fueds_app c l r,Fu.eds];rfl
def Fu.bare (f:Fu):Fu:=⟨f.name,f.params,[],f.sec,f.ret⟩
theorem fueds_bare (c:EdC):∀(l:List Fu) (e:EdS),(Fu.eds c l e).1.map Fu.bare=l.map Fu.bare
 |[],e=>by rw[Fu.eds]
 |f::l,e=>by rw[Fu.eds];simp only[List.map_cons];rw[fueds_bare c l];rfl
theorem callee_bare (P:List Fu) (F:Nat) (s:ByteArray):calleeM (P.map Fu.bare) F s=(calleeM P F s).bare:=by
 unfold calleeM;rw[←List.map_take,←List.map_reverse,List.find?_map,show((fun f:Fu=>sq f.name s)∘Fu.bare)=fun f=>sq f.name s from rfl];cases(P.take F).reverse.find? fun f=>sq f.name s with
 |none=>rfl
 |some f=>rfl
theorem sees_of {P Q:List Fu} (h:Q.map Fu.bare=P.map Fu.bare) (F:Nat):Sees P Q F:=by
 refine⟨?_,fun s=>?_⟩
 ·have:=congrArg List.length h;simpa using this
 ·have e:(calleeM Q F s).bare=(calleeM P F s).bare:=by rw[←callee_bare,←callee_bare,h]
  have e2:(calleeM Q F s).bare.params=(calleeM P F s).bare.params:=by rw[e]
  have e3:(calleeM Q F s).bare.sec=(calleeM P F s).bare.sec:=by rw[e]
  have e4:(calleeM Q F s).bare.ret=(calleeM P F s).bare.ret:=by rw[e]
  exact⟨e2,e3,e4⟩
theorem seesN_of {P Q:List Fu} (h:Q.map Fu.bare=P.map Fu.bare) (F:Nat):SeesN P Q F:=by
 refine⟨fun s=>?_⟩;have e:∀R:List Fu,(R.take F).any (fun f=>sq f.name s)=((R.map Fu.bare).take F).any fun f=>sq f.name s:=fun R=>by
  rw[←List.map_take,List.any_map];rfl
 rw[e Q,e P,h]
theorem fueds_take (c:EdC) (P:List Fu) (e:EdS) (i:Nat) (h:i≤P.length):(Fu.eds c P e).1.take i=(Fu.eds c (P.take i) e).1:=by
 conv=>lhs;rw[←List.take_append_drop i P,fueds_app]
 simp only;rw[List.take_append_of_le_length (by rw[fueds_len,List.length_take];omega)];exact List.take_of_length_le (by rw[fueds_len,List.length_take];omega)
theorem fueds_snoc (c:EdC) (P:List Fu) (e:EdS) (i:Nat) (h:i<P.length):Fu.eds c (P.take (i+1)) e=((Fu.eds c (P.take i) e).1++[(P[i].ed c (Fu.eds c (P.take i) e).2).1],(P[i].ed c (Fu.eds c (P.take i) e).2).2):=by
 rw[List.take_succ_eq_append_getElem h,fueds_app];rfl
theorem fueds_getD (c:EdC) (P:List Fu) (e:EdS) (i:Nat) (h:i<P.length):(Fu.eds c P e).1.getD i Fu.zero=(P[i].ed c (Fu.eds c (P.take i) e).2).1:=by
 have e1:(Fu.eds c P e).1.take (i+1)=(Fu.eds c (P.take i) e).1++[(P[i].ed c (Fu.eds c (P.take i) e).2).1]:=by
  rw[fueds_take c P e (i+1) h,fueds_snoc c P e i h]
 have hl:(Fu.eds c (P.take i) e).1.length=i:=by rw[fueds_len,List.length_take];omega
 have g:∀l:List Fu,l.getD i Fu.zero=(l.take (i+1)).getD i Fu.zero:=fun l=>by
  rw[List.getD_eq_getElem?_getD,List.getD_eq_getElem?_getD,List.getElem?_take,if_pos (Nat.lt_succ_self i)]
 rw[g,e1,List.getD_eq_getElem?_getD,List.getElem?_append_right (by omega),hl];simp
theorem params_E:∀(l:List Pa) (c c1:Sc) (a:Ev),l.all parM=true→scParams l c= .ok c1→ScW c→EnvG a c→ScW c1∧EnvG (evParams l a) c1
 |[],c,c1,a,_,h,hw,hE=>by rw[scParams] at h;cases h;exact⟨hw,hE⟩
 |x::l,c,c1,a,hp,h,hw,hE=>by
  simp only[List.all_cons,Bool.and_eq_true,parM] at hp;rw[scParams] at h;split at h
  ·cases h
  ·rename_i c2 hg;have w:=give_W hw (emp_of_named hp.1.1) hg;exact params_E l c2 c1 (evParam a x) hp.2 h w.1.w (give_E hE w.2.1 w.2.2 w.1.gi _).1
theorem evWalk_pre (ru:Int) (P:List Fu) (i:Nat):∀j,i≤j→∀n,evWalk ru P j= .ok n→∃m,evWalk ru P i= .ok m:=by
 intro j
 induction j with
 |zero=>intro h n hn;obtain rfl:i=0:=(by omega);exact⟨n,hn⟩
 |succ j ih=>
  intro h n hn;by_cases he:i=j+1
  ·subst he;exact⟨n,hn⟩
  ·rw[evWalk] at hn;cases hx:evWalk ru P j with
   |error x=>rw[hx] at hn;cases hn
   |ok m=>exact ih (by omega) m hx
theorem scWalk_pre (P:List Fu) (i:Nat):∀j,i≤j→∀n,scWalk P j= .ok n→∃m,scWalk P i= .ok m:=by
 intro j
 induction j with
 |zero=>intro h n hn;obtain rfl:i=0:=(by omega);exact⟨n,hn⟩
 |succ j ih=>
  intro h n hn;by_cases he:i=j+1
  ·subst he;exact⟨n,hn⟩
  ·rw[scWalk] at hn;cases hx:scWalk P j with
   |error x=>rw[hx] at hn;cases hn
   |ok m=>exact ih (by omega) m hx
theorem scFun_PQ {P Q:List Fu} {F:Nat} (h:SeesN P Q F) (f:Fu) (n:Int):scFun Q F f n=scFun P F f n:=by
 unfold scFun;rw[h.nam];split
 ·rfl
 ·cases scParams f.params ⟨[],[],n⟩ with
  |error x=>rfl
  |ok a=>simp only;rw[scStmts_PQ h]
theorem evFun_PQ {ru:Int} {P Q:List Fu} {F:Nat} (h:Sees P Q F) (f:Fu) (n:Int):evFun ru Q F f n=evFun ru P F f n:=by
 unfold evFun;rw[evStmts_PQ h]
theorem evParams_sh:∀(l:List Pa) (a:Ev),evParams l a.sh=(evParams l a).sh
 |[],a=>rfl
 |x::l,a=>evParams_sh l (evParam a x)
theorem evFun_sh (ru:Int) (P:List Fu) (F:Nat) (f:Fu) (n m:Int) (h:evFun ru P F f n= .ok m):evFun ru P F f (n+1)= .ok (m+1):=by
 unfold evFun at h ⊢;rw[show(⟨[],n+1,0⟩:Ev)=Ev.sh ⟨[],n,0⟩ from rfl,evParams_sh,evStmts_sh];cases hx:evStmts ru P F f.body (evParams f.params ⟨[],n,0⟩) with
 |error x=>rw[hx] at h;cases h
 |ok a=>
  rw[hx] at h;simp only at h;show(if f.ret.all (fun e=>a.into ru e f.sec)=true then Except.ok (a.n+1+1+1) else Except.error (a.n+1+1))=_
  split at h
  ·rename_i hr;rw[if_pos hr];cases h;rfl
  ·cases h
theorem evFun_inv {ru:Int} {P:List Fu} {F:Nat} {f:Fu} {n m:Int} (h:evFun ru P F f n= .ok m):∃a,evStmts ru P F f.body (evParams f.params ⟨[],n,0⟩)= .ok a∧(f.ret.all fun e=>a.into ru e f.sec)=true∧m=a.n+1+1:=by
 unfold evFun at h;cases hx:evStmts ru P F f.body (evParams f.params ⟨[],n,0⟩) with
 |error x=>rw[hx] at h;cases h
 |ok a=>
  rw[hx] at h;simp only at h;split at h
  ·rename_i hr;cases h;exact⟨a,rfl,hr,rfl⟩
  ·cases h
theorem scFun_inv {P:List Fu} {F:Nat} {f:Fu} {n m:Int} (h:scFun P F f n= .ok m):∃c c1 aw,scParams f.params ⟨[],[],n⟩= .ok c∧scStmts P F f.body c []= .ok (c1,aw):=by
 unfold scFun at h;split at h
 ·cases h
 ·split at h
  ·cases h
  ·rename_i c hc;split at h
   ·cases h
   ·rename_i c1 aw hb;exact⟨c,c1,aw,hc,hb⟩
theorem edP_run {ru:Int} {P:List Fu} {c:EdC} {o:Bool→Bool} {dl:Int} {e0:EdS} (L:∀F,Loc ru P (Fu.eds c P e0).1 F c o dl) (hm:mayM P=true) (h0:e0.done=false) (hn0:e0.n=0) {m n mq:Int} (hsc:scWalk P P.length= .ok m) (hev:evWalk ru P P.length= .ok n)
  (hq:scWalk (Fu.eds c P e0).1 P.length= .ok mq):∀i,i≤P.length→∃k,evWalk ru P i= .ok k∧
    (((Fu.eds c (P.take i) e0).2.done=false∧(Fu.eds c (P.take i) e0).2.n=k∧evWalk ru (Fu.eds c P e0).1 i= .ok k∧scWalk (Fu.eds c P e0).1 i=scWalk P i)∨
     ((Fu.eds c (P.take i) e0).2.done=true∧(o (Fu.eds c (P.take i) e0).2.fl=true→evWalk ru (Fu.eds c P e0).1 i= .error ((Fu.eds c (P.take i) e0).2.at_+dl))∧(o (Fu.eds c (P.take i) e0).2.fl=false→evWalk ru (Fu.eds c P e0).1 i= .ok (k+1)))):=by
 have hok:P.all okF=true:=by simp only[mayM,Bool.and_eq_true] at hm;exact hm.1
 intro i
 induction i with
 |zero=>
  intro _;refine⟨0,by rw[evWalk],.inl ⟨h0,hn0,by rw[evWalk],by rw[scWalk,scWalk]⟩⟩
 |succ i ih=>
  intro hi;obtain⟨k,hk,hcase⟩:=ih (by omega);have hi':i<P.length:=hi;obtain⟨k1,hk1⟩:=evWalk_pre ru P (i+1) P.length hi n hev;refine⟨k1,hk1,?_⟩;have hg:P.getD i Fu.zero=P[i]:=by rw[List.getD_eq_getElem?_getD,List.getElem?_eq_getElem hi',Option.getD_some]
  rw[evWalk,hk,hg] at hk1;have hk1:evFun ru P i P[i] k= .ok k1:=hk1;have hokf:=List.all_eq_true.1 hok P[i] (List.getElem_mem hi');simp only[okF,funM,fheadM,Bool.and_eq_true] at hokf;obtain⟨hbody,hrest,hpar⟩:=hokf;rw[fueds_snoc c P e0 i hi'];simp only;obtain⟨e,he⟩:∃e,e=(Fu.eds c (P.take i) e0).2:=⟨_,rfl⟩;have hQ:(Fu.eds c P e0).1.getD i Fu.zero=(P[i].ed c e).1:=by rw[he];exact fueds_getD c P e0 i hi'
  rw[←he] at hcase ⊢;obtain⟨Q,hQd⟩:∃Q,Q=(Fu.eds c P e0).1:=⟨_,rfl⟩;have L':=L i;rw[←hQd] at hcase hQ hq L' ⊢;obtain⟨a1,ha1,hret,hk1e⟩:=evFun_inv hk1;have hpn:=(evParams_n P[i].params ⟨[],k,0⟩).2;have hpn:(evParams P[i].params ⟨[],k,0⟩).n=k:=hpn;have hnx:=evStmts_nx ru P i P[i].body 1 _ a1 hbody ha1;rw[evWalk,hQ];rcases hcase with⟨hd,hen,hwq,hsq⟩|⟨hd,ho1,ho2⟩
  ·obtain⟨ms,hms⟩:=scWalk_pre P (i+1) P.length hi m hsc;obtain⟨mq1,hmq1⟩:=scWalk_pre Q (i+1) P.length hi mq hq;rw[scWalk] at hms hmq1 ⊢;rw[hsq] at hmq1 ⊢;cases hsi:scWalk P i with
   |error x=>rw[hsi] at hms;cases hms
   |ok s0=>
   rw[hsi] at hms hmq1;simp only at hms hmq1;rw[hg] at hms;rw[hQ] at hmq1 ⊢;rw[hwq];simp only;cases hb:(St.eds c P[i].body e).2.done
   ·obtain⟨K,e1⟩:=eds_not c P[i].body e hb;have hf:P[i].ed c e=(P[i],⟨K,e.n+St.sizes P[i].body+2,e.at_,false,e.fl⟩):=by unfold Fu.ed;rw[e1]
    rw[hf];refine .inl ⟨rfl,?_,?_,?_⟩
    ·show e.n+St.sizes P[i].body+2=k1;omega
    ·rw[evFun_PQ L'.sees];exact hk1
    ·show scFun Q i P[i] s0=_
     rw[scFun_PQ L'.names,scWalk,hsi,hg]
   ·refine .inr ⟨hb,?_,?_⟩;all_goals
     intro ho;obtain⟨cs,c1,aw,hps,hss⟩:=scFun_inv hms;obtain⟨csq,cq1,awq,hpsq,hssq⟩:=scFun_inv hmq1;have hpsq:scParams P[i].params ⟨[],[],s0⟩= .ok csq:=hpsq;rw[hps] at hpsq;cases hpsq;have hpe:=params_E P[i].params ⟨[],[],s0⟩ cs ⟨[],k,0⟩ hpar hps ⟨fun x hx=>(by cases hx),fun x hx=>(by cases hx)⟩ ⟨fun x hx=>(by cases hx),(by unfold keysN;exact List.nodup_nil)⟩;have r:=eds_run L' P[i].body 1 e _ a1 cs c1 [] aw hd hb (by rw[hpn,hen]) hbody ha1 hss ⟨_,_,_,hssq⟩ hpe.1 hpe.2;have ho':o (St.eds c P[i].body e).2.fl=_:=ho
    ·have r1:=r.1 ho';show evFun ru Q i ⟨P[i].name,P[i].params,(St.eds c P[i].body e).1,P[i].sec,P[i].ret⟩ k=_
     unfold evFun;simp only;rw[r1];rfl
    ·have r2:=r.2 ho';show evFun ru Q i ⟨P[i].name,P[i].params,(St.eds c P[i].body e).1,P[i].sec,P[i].ret⟩ k=_
     unfold evFun;simp only;rw[r2];show(if P[i].ret.all (fun e=>a1.into ru e P[i].sec)=true then Except.ok (a1.n+1+1+1) else Except.error (a1.n+1+1))=_
     rw[if_pos hret,hk1e]
  ·have e1:=eds_done c P[i].body e hd;have hf:P[i].ed c e=(P[i],⟨e.K,e.n+St.sizes P[i].body+2,e.at_,e.done,e.fl⟩):=by unfold Fu.ed;rw[e1]
   rw[hf];refine .inr ⟨hd,fun ho=>?_,fun ho=>?_⟩
   ·rw[ho1 ho]
   ·rw[ho2 ho];show evFun ru Q i P[i] (k+1)=_
    rw[evFun_PQ L'.sees];exact evFun_sh ru P i P[i] k k1 hk1
theorem code0 (ru:Int):codeOf ru≠0:=by unfold codeOf;split<;>(try split)<;>(try split)<;>decide
theorem lay_inv {P:List Fu} {k:Nat} (h:(layM P (k+1)).2=0):(layM P k).2=0∧∃n,evWalk ((k+1:Nat):Int) P P.length= .ok n:=by
 rw[layM] at h;split at h
 ·rename_i h0;exact absurd h h0
 ·rename_i h0;refine⟨by simpa using h0,?_⟩;unfold evCheck at h;cases hx:evWalk ((k+1:Nat):Int) P P.length with
  |ok n=>exact⟨n,rfl⟩
  |error x=>rw[hx] at h;exact absurd h (code0 _)
theorem lay_edit {k:Nat} {P:List Fu} {c:EdC} {o:Bool→Bool} {dl:Int} {e0:EdS} (L:∀F,Loc ((k+1:Nat):Int) P (Fu.eds c P e0).1 F c o dl) (h0:e0.done=false) (hn0:e0.n=0) (hP:(layM P (k+1)).2=0) (hQ:(layM (Fu.eds c P e0).1 k).2=0) (hd:(Fu.eds c P e0).2.done=true):
  (o (Fu.eds c P e0).2.fl=true→layM (Fu.eds c P e0).1 (k+1)=((Fu.eds c P e0).2.at_+dl,codeOf ((k+1:Nat):Int)))∧(o (Fu.eds c P e0).2.fl=false→layM (Fu.eds c P e0).1 (k+1)=(0,0)):=by
 obtain⟨hP0,n,hev⟩:=lay_inv hP;obtain⟨hm,m,hsc⟩:=sc_ok (layM_sc k hP0);obtain⟨_,mq,hq⟩:=sc_ok (layM_sc k hQ);rw[fueds_len] at hq;obtain⟨k1,hk1,hc⟩:=edP_run L hm h0 hn0 hsc hev hq P.length (Nat.le_refl _);rw[List.take_length] at hc;rcases hc with⟨hf,_⟩|⟨_,h1,h2⟩
 ·rw[hd] at hf;cases hf
 ·rw[layM,if_neg (by simpa using hQ)];unfold evCheck;rw[fueds_len];exact⟨fun ho=>by rw[h1 ho],fun ho=>by rw[h2 ho]⟩
end Go.Proofs.YtpkpgmnbheenbaaGreatDoor
