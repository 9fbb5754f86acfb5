/- Contracts and laws, Mg09 -/
import Derived.Test.YtpkpgmnbheenbaaGreatDoorMg01
import Derived.Test.YtpkpgmnbheenbaaGreatDoorMg08
namespace Go.Proofs.YtpkpgmnbheenbaaGreatDoor
open Go.RowKit
set_option linter.unusedVariables false
set_option linter.unusedSimpArgs false
set_option maxHeartbeats 8000000
set_option maxRecDepth 100000
section
def Va.nmv (v:Va):Nm:=⟨v.buf,v.sec,v.mt,v.own,v.set,v.gone,v.lent,v.loops⟩
def vap (v:Va):ByteArray×Nm:=(v.name,v.nmv)
def Wk.g (s:Wk) (nm:ByteArray):Nm:=nget (s.env.map vap) nm
def Wk.ck (q:Int) (s:Wk) (ok:Bool):Wk:=if !ok&&s.fine then {s with fat:=s.n,ferr:=codeOf q} else s
theorem code_ne (q:Int):codeOf q≠0:=by unfold codeOf;split<;>(try split)<;>(try split)<;>decide
theorem ck_true (q:Int) (s:Wk):s.ck q true=s:=by simp[Wk.ck]
theorem ck_unfine {q:Int} {s:Wk} (h:s.fine=false) (ok:Bool):s.ck q ok=s:=by simp[Wk.ck,h]
theorem ck_fine (q:Int) (s:Wk) (ok:Bool):(s.ck q ok).fine=(s.fine&&ok):=by
 unfold Wk.ck;cases ok<;>cases h:s.fine<;>simp[h];simp[Wk.fine,code_ne q]
theorem ck_ck (q:Int) (s:Wk) (a b:Bool):(s.ck q a).ck q b=s.ck q (a&&b):=by
 cases a with
 |true=>rw[ck_true,Bool.true_and]
 |false=>
  rw[Bool.false_and];cases h:s.fine with
  |false=>rw[ck_unfine h,ck_unfine h]
  |true=>rw[ck_unfine];rw[ck_fine];simp
theorem ck_hit {q:Int} {s:Wk} (h:s.fine=true):Hit (s.ck q false) (s.n,codeOf q):=by
 unfold Wk.ck;rw[h];exact⟨by simp[Wk.fine,code_ne q],rfl,rfl⟩
theorem ck_same (q:Int) (s:Wk) (ok:Bool):(s.ck q ok).env=s.env∧(s.ck q ok).given=s.given∧(s.ck q ok).n=s.n∧(s.ck q ok).loops=s.loops∧(s.ck q ok).f=s.f:=by
 unfold Wk.ck;split<;>exact⟨rfl,rfl,rfl,rfl,rfl⟩
theorem ck_g (q:Int) (s:Wk) (ok:Bool):(s.ck q ok).g=s.g:=by funext nm;simp[Wk.g,(ck_same q s ok).1]
theorem ck_ks (q:Int) (s:Wk) (ok:Bool):ks (s.ck q ok)=ks s:=by simp[ks,(ck_same q s ok).1]
theorem bad_ck {q p:Int} (s:Wk) (is:Bool):s.bad (10+q) (10+p) is (codeOf p)=s.ck q (chk q p (!is)):=by
 unfold Wk.bad Wk.ck chk;by_cases h:q=p
 ·subst h;simp
 ·have h1:(10+p==10+q)=false:=by simp;omega
  have h2:(p==q)=false:=by simp;exact fun e=>h e.symm
  rw[h1,h2];simp
theorem bad_10 {q:Int} (hq:1≤q) (s:Wk) (is:Bool) (e:Int):s.bad (10+q) 10 is e=s:=bad_ne (by omega) s is e
theorem bad_11 {q:Int} (s:Wk) (is:Bool):s.bad (10+q) 11 is 8=s.ck q (chk q 1 (!is)):=bad_ck (p:=1) s is
theorem bad_12 {q:Int} (s:Wk) (is:Bool):s.bad (10+q) 12 is 120=s.ck q (chk q 2 (!is)):=bad_ck (p:=2) s is
theorem bad_13 {q:Int} (s:Wk) (is:Bool):s.bad (10+q) 13 is 130=s.ck q (chk q 3 (!is)):=bad_ck (p:=3) s is
theorem bad_14 {q:Int} (s:Wk) (is:Bool):s.bad (10+q) 14 is 140=s.ck q (chk q 4 (!is)):=bad_ck (p:=4) s is
theorem chk_t (q p:Int):chk q p true=true:=by simp[chk]
def LR (s:Wk):Prop:=∀v∈s.env,0≤v.lent∧v.lent≤2
theorem LR.ck {s:Wk} (h:LR s) (q:Int) (ok:Bool):LR (s.ck q ok):=by unfold LR;rw[(ck_same q s ok).1];exact h
theorem nget_map (l:List Va) (nm:ByteArray):nget (l.map vap) nm=((l.find? fun v=>sq v.name nm).map Va.nmv).getD Nm.zero:=by
 rw[nget,List.find?_map];cases h:l.find? ((fun p=>sq p.1 nm)∘vap) with
 |none=>rw[show(fun v:Va=>sq v.name nm)=((fun p=>sq p.1 nm)∘vap) from rfl,h];rfl
 |some v=>rw[show(fun v:Va=>sq v.name nm)=((fun p=>sq p.1 nm)∘vap) from rfl,h];rfl
theorem find_is {s:Wk} {nm:ByteArray} (h:inM (ks s) nm=true):∃v,s.find nm=some v∧v∈s.env∧v.name=nm∧s.g nm=v.nmv:=by
 rw[←find_ks] at h;obtain⟨v,hv⟩:=Option.isSome_iff_exists.1 h;have hv2:(s.env.find? fun v=>sq v.name nm)=some v:=hv;have hv3:=List.find?_some hv2;refine⟨v,hv,List.mem_of_find?_eq_some hv2,sq_iff.1 hv3,?_⟩;rw[Wk.g,nget_map,hv2];rfl
section
variable {q:Int} (hq:1≤q)
include hq
theorem ask_num {s:Wk} {nm:ByteArray} (h:inM (ks s) nm=true):((s.ask (10+q) nm false).1.nmv=s.g nm)∧(s.ask (10+q) nm false).2=s.ck q ((s.g nm).numOk q):=by
 obtain⟨v,hv,_,_,hg⟩:=find_is h;constructor
 ·simp only[Wk.ask,hv,Option.getD_some];exact hg.symm
 ·simp only[Wk.ask,Wk.askS,hv];rw[bad_10 hq,bad_11,bad_13,bad_14];simp only[Option.isSome_some,Option.getD_some,Bool.true_and,Bool.and_false,Bool.false_and,Bool.not_false,chk_t,ck_true];rw[hg,Nm.numOk];show s.ck q (chk q 1 (!(v.buf !=false)))=s.ck q (chk q 1 (!v.buf))
  cases v.buf<;>rfl
theorem ask_buf {s:Wk} {nm:ByteArray} (hl:LR s) (h:inM (ks s) nm=true):((s.ask (10+q) nm true).1.nmv=s.g nm)∧(s.ask (10+q) nm true).2=s.ck q ((s.g nm).bufOk q):=by
 obtain⟨v,hv,hm,_,hg⟩:=find_is h;have hlv:=hl v hm;constructor
 ·simp only[Wk.ask,hv,Option.getD_some];exact hg.symm
 ·simp only[Wk.ask,Wk.askS,hv];rw[bad_10 hq,bad_11,bad_13,bad_14];simp only[Option.isSome_some,Option.getD_some,Bool.true_and,ck_ck];rw[hg,Nm.bufOk];have e1:(!(v.buf !=true))=v.nmv.buf:=by show _=v.buf;cases v.buf<;>rfl
  have e2:(!(v.lent==2))=decide (v.nmv.lent<2):=by show _=decide (v.lent<2);rw[Bool.eq_iff_iff];simp;omega
  rw[e1,e2,Bool.and_assoc];rfl
theorem turned_ck {s:Wk} {nm:ByteArray} (hl:LR s) (h:inM (ks s) nm=true):((s.turned (10+q) nm).1.nmv=s.g nm)∧(s.turned (10+q) nm).2=s.ck q ((s.g nm).turnOk q):=by
 have ha:=ask_buf hq hl h;obtain⟨v,hv,hm,_,hg⟩:=find_is h;have hlv:=hl v hm;have hv1:(s.ask (10+q) nm true).1=v:=by simp[Wk.ask,hv]
 constructor
 ·exact ha.1
 ·simp only[Wk.turned];rw[bad_11,bad_13,ha.2,ck_ck,ck_ck,hv1,hg,Nm.turnOk];have e:(v.nmv.bufOk q&&(chk q 1 v.nmv.mt&&chk q 3 (v.nmv.lent==0)))=(v.nmv.bufOk q&&(chk q 1 (!!v.mt)&&chk q 3 (!(v.lent==1)))):=by
   cases hb:v.nmv.bufOk q with
   |false=>rfl
   |true=>
    simp only[Nm.bufOk,Bool.and_eq_true] at hb;rw[Bool.not_not];by_cases h3:q=3
    ·have hlt:v.lent<2:=by
      have:=hb.2.1;unfold chk at this;simp only[h3,beq_self_eq_true,Bool.not_true,Bool.false_or,decide_eq_true_eq] at this;exact this
     have e2:(v.nmv.lent==0)=(!(v.lent==1)):=by show(v.lent==0)=_;rw[Bool.eq_iff_iff];simp;omega
     rw[e2];rfl
    ·have h3':((3:Int)==q)=false:=by simp;exact fun e=>h3 e.symm
     simp[chk,h3'];rfl
  rw[e]
end
mutual
theorem sec_ck {q:Int} (hq:1≤q):∀(e:Ex) (d:Nat) (s:Wk),LR s→Ex.may e d=true→Ex.asks (inM (ks s)) e=true→(Wk.sec (10+q) e s).1=Ex.sv s.g e∧(Wk.sec (10+q) e s).2=s.ck q (Ex.so q s.g e)
 | .mk k n nm o l,d,s,hl,h,hk=>by
   simp only[Ex.may,Bool.and_eq_true] at h;have hml:=h.2;have hsh:=h.1.2;rw[shape_mk] at hsh;simp only[Ex.asks,Bool.and_eq_true,Bool.or_eq_true] at hk;unfold Wk.sec Ex.sv Ex.so;by_cases h1:k.toNat=1
   ·have n2:¬k.toNat=2:=by omega
    have n3:¬k.toNat=3:=by omega
    have n4:¬k.toNat=4:=by omega
    have n5:¬k.toNat=5:=by omega
    have n25:¬(k.toNat=2∨k.toNat=5):=by omega
    simp only[if_pos h1,if_neg n2,if_neg n3,if_neg n4,if_neg n5,if_neg n25,ck_true];exact⟨trivial,trivial⟩
   ·rw[if_neg h1] at hsh ⊢;by_cases h2:k.toNat=2
    ·rw[if_pos (.inl h2)] at hsh;have h25:k.toNat=2∨k.toNat=5:=.inl h2;simp only[if_pos h2,if_pos h25];simp at hsh;have hn:inM (ks s) nm=true:=hk.1.resolve_left (by rw[emp_of_named hsh.1.1.2];decide);have ha:=ask_num hq hn;exact⟨congrArg Nm.sec ha.1,ha.2⟩
    ·rw[if_neg h2,if_neg h2];by_cases h4:k.toNat=4
     ·rw[if_pos (.inr h4)] at hsh;have n25:¬(k.toNat=2∨k.toNat=5):=by omega
      have n3:¬k.toNat=3:=by omega
      simp only[if_pos h4,if_neg n25,if_neg n3];simp at hsh;have hn:inM (ks s) nm=true:=hk.1.resolve_left (by rw[emp_of_named hsh.1.1.2];decide);exact⟨trivial,(ask_buf hq hl hn).2⟩
     ·rw[if_neg (by omega)] at hsh;rw[if_neg h4,if_neg h4];by_cases h3:k.toNat=3
      ·have n5:¬k.toNat=5:=by omega
       have n25:¬(k.toNat=2∨k.toNat=5):=by omega
       simp only[if_pos h3,if_neg n25,if_neg n5];have hs:=secs_ck hq l (d+1) s hl hml hk.2;rw[hs.1,hs.2,bad_12,ck_ck];refine⟨rfl,?_⟩;rw[Bool.not_and]
      ·rw[if_neg h3] at hsh;by_cases h5:k.toNat=5
       ·rw[if_pos h5] at hsh;have h25:k.toNat=2∨k.toNat=5:=.inr h5;simp only[if_pos h5,if_pos h25];simp at hsh;have hn:inM (ks s) nm=true:=hk.1.resolve_left (by rw[emp_of_named hsh.1.1.2];decide);have ha:=ask_buf hq hl hn;have hs:=secs_ck hq l (d+1) (s.ask (10+q) nm true).2 (by rw[ha.2];exact hl.ck _ _) hml (by rw[ha.2,ck_ks];exact hk.2);refine⟨congrArg Nm.sec ha.1,?_⟩;rw[hs.1,hs.2,bad_12,ha.2,ck_ck,ck_ck,ck_g]
       ·rw[if_neg h5] at hsh;cases hsh
theorem secs_ck {q:Int} (hq:1≤q):∀(l:List Ex) (d:Nat) (s:Wk),LR s→Ex.mays l d=true→Ex.askss (inM (ks s)) l=true→(Wk.secs (10+q) l s).1=Ex.svs s.g l∧(Wk.secs (10+q) l s).2=s.ck q (Ex.sos q s.g l)
 |[],d,s,hl,h,hk=>by simp[Wk.secs,Ex.svs,Ex.sos,ck_true]
 |e::l,d,s,hl,h,hk=>by
  simp only[Ex.mays,Bool.and_eq_true] at h;simp only[Ex.askss,Bool.and_eq_true] at hk;have h1:=sec_ck hq e d s hl h.1 hk.1;have h2:=secs_ck hq l d (Wk.sec (10+q) e s).2 (by rw[h1.2];exact hl.ck _ _) h.2 (by rw[h1.2,ck_ks];exact hk.2);simp only[Wk.secs,Ex.svs,Ex.sos];rw[h2.1,h2.2,h1.1,h1.2,ck_g,ck_ck];exact⟨rfl,rfl⟩
end
def intoG (q:Int) (g:ByteArray→Nm) (e:Ex) (sec:Bool):Bool:=Ex.so q g e&&chk q 2 (sec|| !Ex.sv g e)
section
variable {q:Int} (hq:1≤q)
include hq
theorem opn_ck {e:Ex} {s:Wk} (hl:LR s) (h:exM e=true) (hk:Ex.asks (inM (ks s)) e=true) (sec:Bool):s.opn (10+q) e sec=s.ck q (intoG q s.g e sec):=by
 have hs:=sec_ck hq e 1 s hl h hk;rw[Wk.opn,hs.1,hs.2,bad_12,ck_ck,intoG,Bool.not_and,Bool.not_not,Bool.or_comm]
theorem pub_ck {e:Ex} {s:Wk} (hl:LR s) (h:exM e=true) (hk:Ex.asks (inM (ks s)) e=true):s.pub (10+q) e=s.ck q (intoG q s.g e false):=by
 have hs:=sec_ck hq e 1 s hl h hk;rw[Wk.pub,hs.1,hs.2,bad_12,ck_ck,intoG,Bool.false_or]
end
end
structure Rel (F:Nat) (c:Sc) (a:Ev) (s:Wk):Prop where
 fine:s.fine=true
 n:s.n=a.n
 loops:s.loops=a.loops
 f:s.f=(F:Int)
 nm:a.nm=s.env.map vap
 nod:(ks s).Nodup
 ne:∀x∈ks s,emp x=false
 kn:∀x,inM c.kn x=inM (ks s) x
 gi:∀x,inM c.kn x=true→inM c.gi x=true
 lr:LR s
theorem Rel.g {F:Nat} {c:Sc} {a:Ev} {s:Wk} (h:Rel F c a s):a.g=s.g:=by funext x;rw[Ev.g,h.nm];rfl
theorem Rel.hit {F:Nat} {c:Sc} {a:Ev} {s:Wk} (h:Rel F c a s) (q:Int):Hit (s.ck q false) (a.n,codeOf q):=by
 have:=ck_hit (q:=q) h.fine;rw[h.n] at this;exact this
theorem Rel.knf {F:Nat} {c:Sc} {a:Ev} {s:Wk} (h:Rel F c a s):inM c.kn=inM (ks s):=funext h.kn
theorem Rel.has {F:Nat} {c:Sc} {a:Ev} {s:Wk} (h:Rel F c a s) (x:ByteArray):nhas a.nm x=inM (ks s) x:=by
 rw[h.nm,nhas,inM,ks,List.any_map,List.any_map];rfl
theorem give_inv {c c1:Sc} {nm:ByteArray} (h:c.give nm= .ok c1):inM c.gi nm=false∧c1=⟨addN c.kn nm,addN c.gi nm,c.n⟩:=by
 unfold Sc.give at h;split at h
 ·cases h
 ·rename_i hg;cases h;exact⟨by simpa using hg,rfl⟩
theorem Wk.give_eq {q:Int} (hq:1≤q) (s:Wk) (v:Va):s.give (10+q) v={s with given:=s.given++[v.name],env:=s.env++[{v with loops:=s.loops}]}:=by
 unfold Wk.give;rw[bad_10 hq]
theorem Rel.give {F:Nat} {c c1:Sc} {a:Ev} {s:Wk} {q:Int} (hq:1≤q) (h:Rel F c a s) {nm:ByteArray} (hg:c.give nm= .ok c1) (he:emp nm=false) (v:Va) (hv:v.name=nm) (x:Nm) (hx:v.nmv=x) (hl:0≤v.lent∧v.lent≤2):
  Rel F c1 (a.give nm x) (s.give (10+q) v)∧ks (s.give (10+q) v)=ks s++[nm]:=by
 obtain⟨h1,rfl⟩:=give_inv hg;subst hv hx;have hk:inM (ks s) v.name=false:=by
  cases hb:inM (ks s) v.name with
  |false=>rfl
  |true=>rw[←h.kn] at hb;rw[h.gi _ hb] at h1;cases h1
 rw[Wk.give_eq hq];have hks:ks {s with given:=s.given++[v.name],env:=s.env++[{v with loops:=s.loops}]}=ks s++[v.name]:=by simp[ks]
 refine⟨⟨h.fine,h.n,h.loops,h.f,?_,?_,?_,?_,?_,?_⟩,hks⟩
 ·rw[Ev.give,nput,h.has,hk,if_neg (by decide),h.nm,List.map_append,←h.loops];rfl
 ·rw[hks,List.nodup_append];refine⟨h.nod,by simp,?_⟩;intro x hx y hy e;rw[List.mem_singleton] at hy;subst hy e;rw[inM_iff.2 hx] at hk;cases hk
 ·intro x hx;rw[hks,List.mem_append,List.mem_singleton] at hx;rcases hx with hx|rfl
  ·exact h.ne x hx
  ·exact he
 ·intro x;rw[hks,inM_append,inM_addN,h.kn];simp[inM]
 ·intro x;simp only[inM_addN,Bool.or_eq_true];exact fun hh=>hh.imp (h.gi x) id
 ·intro u hu;rcases List.mem_append.1 hu with hu|hu
  ·exact h.lr u hu
  ·rw[List.mem_singleton] at hu;subst hu;exact hl
theorem put_map (l:List Va) (x:Va):(l.map fun v=>if sq v.name x.name then x else v).map vap=nset (l.map vap) x.name x.nmv:=by
 simp only[nset,List.map_map];apply List.map_congr_left;intro v _;show vap (if sq v.name x.name=true then x else v)=if sq v.name x.name=true then(v.name,x.nmv) else vap v
 by_cases hs:sq v.name x.name=true
 ·rw[if_pos hs,if_pos hs,sq_iff.1 hs];rfl
 ·rw[if_neg hs,if_neg hs]
theorem Rel.put {F:Nat} {c:Sc} {a:Ev} {s:Wk} (h:Rel F c a s) {nm:ByteArray} (hk:inM (ks s) nm=true) (v:Va) (hv:v.name=nm) (x:Nm) (hx:v.nmv=x) (hl:0≤v.lent∧v.lent≤2):
  Rel F c (a.put nm x) (s.put v)∧ks (s.put v)=ks s:=by
 subst hv hx;have hks:=put_ks s v;refine⟨⟨h.fine,h.n,h.loops,h.f,?_,by rw[hks];exact h.nod,by rw[hks];exact h.ne,by rw[hks];exact h.kn,h.gi,?_⟩,hks⟩
 ·rw[Ev.put,nput,h.has,hk,if_pos rfl,h.nm];exact(put_map _ _).symm
 ·intro u hu;obtain⟨y,hy,rfl⟩:=List.mem_map.1 hu;split
  ·exact hl
  ·exact h.lr y hy
theorem Rel.next {F:Nat} {c:Sc} {a:Ev} {s:Wk} (h:Rel F c a s):Rel F ⟨c.kn,c.gi,c.n+1⟩ a.next s.next:=
 ⟨h.fine,by show s.n+1=a.n+1;rw[h.n],h.loops,h.f,h.nm,h.nod,h.ne,h.kn,h.gi,h.lr⟩
def OutE (q:Int) (F:Nat) (c:Sc) (s t:Wk) (aw:List ByteArray) (r:Er Ev):Prop:=match r with
 | .error n=>Hit t (n,codeOf q)
 | .ok a=>Rel F c a t∧ks t=ks s++aw
theorem OutE.if {q:Int} {F:Nat} {c c1:Sc} {a:Ev} {s t:Wk} {aw:List ByteArray} {r:Er Ev} {ok:Bool} (h:Rel F c a s) (hs:Stk (s.ck q ok) t) (hr:ok=true→OutE q F c1 s t aw r):OutE q F c1 s t aw (a.if ok r):=by
 unfold Ev.if;cases ok with
 |false=>exact(h.hit q).stk hs
 |true=>rw[if_pos rfl];exact hr rfl
theorem take_filter {α:Type} (p:α→Bool) (l r:List α) (hl:∀x∈l,p x=true) (hr:∀x∈r,p x=false):(l++r).filter p=l:=by
 rw[List.filter_append,List.filter_eq_self.2 hl,List.filter_eq_nil_iff.2 (fun x hx=>by rw[hr x hx];decide),List.append_nil]
theorem OutE.block {q:Int} {F:Nat} {c c1:Sc} {a:Ev} {s t:Wk} {aw:List ByteArray} {r:Er Ev} (h:Rel F c a s) (ho:OutE q F c1 s t aw r):match evKeep a r with
  | .error n=>Hit (t.cut s.env.length) (n,codeOf q)
  | .ok a1=>Rel F (c1.dels aw) a1 (t.cut s.env.length)∧ks (t.cut s.env.length)=ks s∧a1.loops=t.loops:=by
 cases r with
 |error n=>exact Hit.stk ho (Stk.cut _ _)
 |ok a1=>
  obtain⟨h1,h2⟩:=ho;have hk:ks (t.cut s.env.length)=ks s:=by rw[ks_cut,h2,←ks_len,List.take_left'];rfl
  have hnod:=h1.nod;rw[h2,List.nodup_append] at hnod;have hdis:∀x∈aw,inM (ks s) x=false:=fun x hx=>by
   cases hb:inM (ks s) x with
   |false=>rfl
   |true=>exact absurd rfl (hnod.2.2 x (inM_iff.1 hb) x hx)
  refine⟨⟨h1.fine,h1.n,h1.loops,h1.f,?_,by rw[hk];exact h.nod,by rw[hk];exact h.ne,?_,?_,?_⟩,hk,h1.loops.symm⟩
  ·show nkeep a1.nm a.nm=(t.env.take s.env.length).map vap
   rw[nkeep,h1.nm];have hp:∀v:Va,nhas a.nm (vap v).1=inM (ks s) v.name:=fun v=>h.has _;have e1:t.env=t.env.take s.env.length++t.env.drop s.env.length:=(List.take_append_drop _ _).symm;have e2:(t.env.take s.env.length).map (·.name)=ks s:=by rw[←hk];rfl
   have e3:(t.env.drop s.env.length).map (·.name)=aw:=by
    have:ks t=(t.env.take s.env.length).map (·.name)++(t.env.drop s.env.length).map (·.name):=by rw[←List.map_append,List.take_append_drop];rfl
    rw[e2,h2] at this;exact(List.append_cancel_left this).symm
   conv=>lhs;rw[e1]
   rw[List.map_append];refine take_filter _ _ _ ?_ ?_
   ·intro p hp1;obtain⟨v,hv,rfl⟩:=List.mem_map.1 hp1;rw[hp v];exact inM_iff.2 (by rw[←e2];exact List.mem_map.2 ⟨v,hv,rfl⟩)
   ·intro p hp1;obtain⟨v,hv,rfl⟩:=List.mem_map.1 hp1;rw[hp v];exact hdis _ (by rw[←e3];exact List.mem_map.2 ⟨v,hv,rfl⟩)
  ·intro x;rw[dels_kn,h1.kn,hk,h2,inM_append];cases hx1:inM (ks s) x with
   |true=>
    have:inM aw x=false:=by
     cases hb:inM aw x with
     |false=>rfl
     |true=>rw[hdis x (inM_iff.1 hb)] at hx1;cases hx1
    rw[this];rfl
   |false=>cases inM aw x<;>rfl
  ·intro x;rw[dels_kn,(dels_gi _ _).1];simp only[Bool.and_eq_true];exact fun hh=>h1.gi x hh.1
  ·intro v hv;exact h1.lr v (List.mem_of_mem_take hv)
structure ScOk (P:List Fu) (F:Nat) (k:UInt8) (nm fr:ByteArray) (ex:List Ex) (args:List ByteArray) (body els:List St) (c c1:Sc) (aw:List ByteArray) (c2 c3 c4:Sc) (aw2:List ByteArray):Prop where
 head:scHead P F (inM c.kn) k nm fr ex args=true
 gives:c.gives k nm= .ok (c2,aw2)
 body:scDels (scStmts P F body c2 [])= .ok c3
 els:scDels (scStmts P F els c3 [])= .ok c4
 fin:if k.toNat==7||k.toNat==8 then c1=c4.del nm∧aw=[] else c1=c4∧aw=aw2
theorem scOk_of {P:List Fu} {F:Nat} {k:UInt8} {nm fr:ByteArray} {sec mt:Bool} {ex:List Ex} {args:List ByteArray} {body els:List St} {c c1:Sc} {aw:List ByteArray} (h:scStmt P F (.mk k nm fr sec mt ex args body els) c= .ok (c1,aw)):
  ∃c2 c3 c4 aw2,ScOk P F k nm fr ex args body els c c1 aw c2 c3 c4 aw2:=by
 unfold scStmt at h;split at h
 ·cases h
 ·rename_i hh;split at h
  ·cases h
  ·rename_i c2 aw2 hg;split at h
   ·cases h
   ·rename_i c3 aw3 hb;split at h
    ·cases h
    ·rename_i c4 aw4 he;refine⟨c2,c3.dels aw3,c4.dels aw4,aw2,⟨by simpa using hh,hg,by rw[hb];rfl,by rw[he];rfl,?_⟩⟩;split at h
     ·rename_i hk;rw[if_pos hk];cases h;exact⟨rfl,rfl⟩
     ·rename_i hk;rw[if_neg hk];cases h;exact⟨rfl,rfl⟩
theorem ScOk.flat {P:List Fu} {F:Nat} {k:UInt8} {nm fr:ByteArray} {ex:List Ex} {args:List ByteArray} {body els:List St} {c c1:Sc} {aw:List ByteArray} {c2 c3 c4:Sc} {aw2:List ByteArray} (h:ScOk P F k nm fr ex args body els c c1 aw c2 c3 c4 aw2)
  (hb:body=[]) (he:els=[]) (h7:k.toNat≠7) (h8:k.toNat≠8):c1=c2∧aw=aw2:=by
 have h1:=h.body;have h2:=h.els;have h3:=h.fin;subst hb he;rw[if_neg (by simp[h7,h8])] at h3;simp only[scStmts,scDels,Except.ok.injEq] at h1 h2;obtain⟨h3,h4⟩:=h3;refine⟨?_,h4⟩;rw[h3,←h2,←h1];rfl
theorem gives_none {c c2:Sc} {k:UInt8} {nm:ByteArray} {aw2:List ByteArray} (h:c.gives k nm= .ok (c2,aw2)) (hk:k.toNat=2∨k.toNat=4∨emp nm=true):c2=c∧aw2=[]:=by
 unfold Sc.gives at h;rw[if_pos (by rcases hk with hk|hk|hk<;>simp[hk])] at h;cases h;exact⟨rfl,rfl⟩
theorem gives_some {c c2:Sc} {k:UInt8} {nm:ByteArray} {aw2:List ByteArray} (h:c.gives k nm= .ok (c2,aw2)) (h2:k.toNat≠2) (h4:k.toNat≠4) (he:emp nm=false):c.give nm= .ok c2∧aw2=[nm]:=by
 unfold Sc.gives at h;rw[if_neg (by simp[h2,h4,he])] at h;split at h
 ·cases h
 ·rename_i hg;cases h;exact⟨hg,rfl⟩
theorem head_ex {P:List Fu} {F:Nat} {c:Sc} {k:UInt8} {nm fr:ByteArray} {ex:List Ex} {args:List ByteArray} (h:scHead P F (inM c.kn) k nm fr ex args=true):
  Ex.askss (inM c.kn) ex=true∧(k.toNat=2∨k.toNat=4→inM c.kn nm=true)∧(k.toNat=8∨k.toNat=9→inM c.kn fr=true)∧(k.toNat=11→args.all (inM c.kn)=true∧((P.take F).any fun f=>sq f.name fr)=true):=by
 simp only[scHead,Bool.and_eq_true,Bool.or_eq_true,Bool.not_eq_true',Bool.or_eq_false_iff,beq_iff_eq,beq_eq_false_iff_ne] at h;obtain⟨⟨⟨h1,h2⟩,h3⟩,h4⟩:=h;refine⟨h1,fun hk=>h2.resolve_left (by omega),fun hk=>h3.resolve_left (by omega),fun hk=>h4.resolve_left (by omega)⟩
theorem asks_at {k:ByteArray→Bool} {ex:List Ex} (h:Ex.askss k ex=true) (i:Nat) (hi:i<ex.length):Ex.asks k (exAt ex i)=true:=by
 rw[askss_all,List.all_eq_true] at h;rw[exAt,List.getD_eq_getElem?_getD,List.getElem?_eq_getElem hi,Option.getD_some];exact h _ (List.getElem_mem hi)
section
theorem callee_eq {P:List Fu} {F:Nat} {fr:ByteArray} (hnd:((P.take F).map Fu.name).Nodup) (h:((P.take F).any fun f=>sq f.name fr)=true):
  ∃f,((P.take F).find? fun f=>sq f.name fr)=some f∧calleeM P F fr=f:=by
 have h1:((P.take F).find? fun f=>sq f.name fr).isSome=true:=by rw[find_any];exact h
 have h2:((P.take F).reverse.find? fun f=>sq f.name fr).isSome=true:=by rw[find_any,List.any_reverse];exact h
 obtain⟨f,hf⟩:=Option.isSome_iff_exists.1 h1;obtain⟨g,hg⟩:=Option.isSome_iff_exists.1 h2;refine⟨f,hf,?_⟩;rw[calleeM,hg,Option.getD_some];have e1:=List.find?_some hf;have e2:=List.find?_some hg;have e1:=sq_iff.1 e1;have e2:=sq_iff.1 e2;exact nodup_inj hnd (List.mem_reverse.1 (List.mem_of_find?_eq_some hg)) (List.mem_of_find?_eq_some hf) (e2.trans e1.symm)
def exG (q:Int) (g:ByteArray→Nm) (nums:List Pa) (ex:List Ex) (j:Nat):Bool:=intoG q g (exAt ex j) (decide (nums.length≤j)||(nums.getD j Pa.zero).sec)
theorem range_all_succ (p:Nat→Bool) (n:Nat):(List.range (n+1)).all p=((List.range n).all p&&p n):=by rw[List.range_succ,List.all_append];simp
theorem filter_at {p:Pa→Bool} {l:List Pa} {i:Nat} (hi:i<l.length) (hp:p l[i]=true):((l.take i).filter p).length<(l.filter p).length∧(l.filter p).getD ((l.take i).filter p).length Pa.zero=l[i]:=by
 have e:l.filter p=(l.take i).filter p++l[i]::(l.drop (i+1)).filter p:=by
  conv=>lhs;rw[←List.take_append_drop i l,List.filter_append,List.drop_eq_getElem_cons hi,List.filter_cons_of_pos hp]
 rw[e,List.getD_eq_getElem?_getD];refine⟨by simp,?_⟩;rw[List.getElem?_append_right (Nat.le_refl _)];simp
section
variable {q:Int} (hq:1≤q)
include hq
theorem callN_ck (ps:List Pa) (ex:List Ex) (s:Wk) (hl:LR s) (hx:ex.all exM=true) (hk:Ex.askss (inM (ks s)) ex=true):∀i,i≤ps.length→
  Wk.callN (10+q) ps ex s i=(((ps.take i).filter fun x=> !x.buf).length,((ps.take i).filter fun x=>x.buf).length,
   s.ck q ((List.range (min ((ps.take i).filter fun x=> !x.buf).length ex.length)).all (exG q s.g (ps.filter fun x=> !x.buf) ex)))
 |0,_=>by simp[Wk.callN,ck_true]
 |i+1,hi=>by
  have ih:=callN_ck ps ex s hl hx hk i (by omega);have hi':i<ps.length:=hi;have hg:ps.getD i Pa.zero=ps[i]:=by rw[List.getD_eq_getElem?_getD,List.getElem?_eq_getElem hi',Option.getD_some]
  simp only[Wk.callN];rw[ih,hg,List.take_succ_eq_append_getElem hi',List.filter_append,List.filter_append];cases hb:ps[i].buf with
  |true=>simp[hb]
  |false=>
   have hf:=filter_at (p:=fun x=> !x.buf) hi' (by simp[hb]);simp only[Bool.false_eq_true,if_false,hb,Bool.not_false,List.filter_cons,List.filter_nil,if_true,List.append_nil,List.length_append,List.length_singleton,List.length_nil,Nat.add_zero];refine Prod.ext rfl (Prod.ext rfl ?_);simp only;generalize hm:((ps.take i).filter fun x=> !x.buf).length=m at*;by_cases hlt:m<ex.length
   ·rw[if_pos hlt,show ex.getD m Ex.zero=exAt ex m from rfl,opn_ck hq (hl.ck _ _) (exAt_all hx hlt) (by rw[ck_ks];exact asks_at hk m hlt),ck_ck,ck_g];rw[Nat.min_eq_left (by omega:m≤ex.length),Nat.min_eq_left (by omega:m+1≤ex.length),range_all_succ];congr 2;rw[exG,hf.2,decide_eq_false (by omega),Bool.false_or]
   ·rw[if_neg hlt,Nat.min_eq_right (by omega:ex.length≤m),Nat.min_eq_right (by omega:ex.length≤m+1)]
theorem secN_ck (nums:List Pa) (ex:List Ex) (n:Nat) (s:Wk) (hl:LR s) (hx:ex.all exM=true) (hk:Ex.askss (inM (ks s)) ex=true) (hn:nums.length≤n):∀i,n+i≤ex.length→
  Wk.secN (10+q) ex n s i=s.ck q ((List.range i).all fun j=>exG q s.g nums ex (n+j))
 |0,_=>by simp[Wk.secN,ck_true]
 |i+1,hi=>by
  have he:exM (exAt ex (n+i))=true:=exAt_all hx (by omega);rw[Wk.secN,secN_ck nums ex n s hl hx hk hn i (by omega),show ex.getD (n+i) Ex.zero=exAt ex (n+i) from rfl,(sec_ck hq _ 1 _ (hl.ck _ _) he (by rw[ck_ks];exact asks_at hk _ (by omega))).2,ck_ck,ck_g,range_all_succ];congr 2;rw[exG,intoG,decide_eq_true (by omega),Bool.true_or,Bool.true_or,chk_t,Bool.and_true]
theorem askN_ck (args:List ByteArray) (s:Wk) (hl:LR s) (hk:args.all (inM (ks s))=true):∀i,i≤args.length→Wk.askN (10+q) args s i=s.ck q ((args.take i).all fun x=>(s.g x).bufOk q)
 |0,_=>by simp[Wk.askN,ck_true]
 |i+1,hi=>by
  have hi':i<args.length:=hi;have hg:args.getD i nob=args[i]:=by rw[List.getD_eq_getElem?_getD,List.getElem?_eq_getElem hi',Option.getD_some]
  rw[Wk.askN,askN_ck args s hl hk i (by omega),hg,(ask_buf hq (hl.ck _ _) (by rw[ck_ks];exact List.all_eq_true.1 hk _ (List.getElem_mem hi'))).2,ck_ck,ck_g,List.take_succ_eq_append_getElem hi',List.all_append];simp
omit hq in
theorem lentN_ck (args:List ByteArray) (k:Nat) (mt:Bool) (s:Wk):∀j,Wk.lentN (10+q) args k mt s j=s.ck q ((List.range j).all fun j=>chk q 3 (!(j !=k&&sq (args.getD j nob) (args.getD k nob)&&mt)))
 |0=>by simp[Wk.lentN,ck_true]
 |j+1=>by rw[Wk.lentN,lentN_ck args k mt s j,bad_13,ck_ck,range_all_succ]
def hG (q:Int) (g:ByteArray→Nm) (bufs:List Pa) (args:List ByteArray) (k:Nat):Bool:=
 chk q 1 (!((bufs.getD k Pa.zero).mt&& !(g (args.getD k nob)).mt))&&(chk q 2 (!((bufs.getD k Pa.zero).sec !=(g (args.getD k nob)).sec))&&(chk q 3 (!((bufs.getD k Pa.zero).mt&&(g (args.getD k nob)).lent==1))&&
  (List.range args.length).all fun j=>chk q 3 (!(j !=k&&sq (args.getD j nob) (args.getD k nob)&&(bufs.getD k Pa.zero).mt))))
omit hq in
theorem find_nmv (s:Wk) (nm:ByteArray):((s.find nm).getD Va.zero).nmv=s.g nm:=by
 rw[Wk.g,nget_map];show((s.env.find? fun v=>sq v.name nm).getD Va.zero).nmv=_
 cases s.env.find? fun v=>sq v.name nm<;>rfl
omit hq in
theorem hand1_ck (args:List ByteArray) (k:Nat) (s:Wk) (bufs:List Pa):Wk.hand1 (10+q) args k s (bufs.getD k Pa.zero)=s.ck q (hG q s.g bufs args k):=by
 have hv:=find_nmv s (args.getD k nob);simp only[Wk.hand1];generalize (s.find (args.getD k nob)).getD Va.zero=v at*;rw[lentN_ck,bad_11,bad_12,bad_13,ck_ck,ck_ck,ck_ck,hG,←hv];rfl
omit hq in
theorem handN_ck (ps:List Pa) (args:List ByteArray) (s:Wk):∀i,i≤ps.length→Wk.handN (10+q) ps args s i=
  (min ((ps.take i).filter fun x=>x.buf).length args.length,s.ck q ((List.range (min ((ps.take i).filter fun x=>x.buf).length args.length)).all (hG q s.g (ps.filter fun x=>x.buf) args)))
 |0,_=>by simp[Wk.handN,ck_true]
 |i+1,hi=>by
  have ih:=handN_ck ps args s i (by omega);have hi':i<ps.length:=hi;have hg:ps.getD i Pa.zero=ps[i]:=by rw[List.getD_eq_getElem?_getD,List.getElem?_eq_getElem hi',Option.getD_some]
  simp only[Wk.handN];rw[ih,hg,List.take_succ_eq_append_getElem hi',List.filter_append];cases hb:ps[i].buf with
  |false=>simp[hb]
  |true=>
   have hf:=filter_at (p:=fun x=>x.buf) hi' hb;simp only[hb,Bool.not_true,Bool.false_or,List.filter_cons,List.filter_nil,if_true,List.length_append,List.length_singleton];generalize hm:((ps.take i).filter fun x=>x.buf).length=m at*;by_cases hlt:m<args.length
   ·rw[Nat.min_eq_left (by omega:m≤args.length),Nat.min_eq_left (by omega:m+1≤args.length),if_neg (by simp;omega),range_all_succ];refine Prod.ext rfl ?_;show Wk.hand1 (10+q) args m _ ps[i]=_
    rw[←hf.2,hand1_ck,ck_g,ck_ck]
   ·rw[Nat.min_eq_right (by omega:args.length≤m),Nat.min_eq_right (by omega:args.length≤m+1),if_pos (by simp)]
omit hq in
theorem times_one (args:List ByteArray) (k:Nat) (hk:k<args.length):(timesM args (args.getD k nob)==1)=(List.range args.length).all fun j=> !(j !=k&&sq (args.getD j nob) (args.getD k nob)):=by
 have hg:∀j (hj:j<args.length),args.getD j nob=args[j]:=fun j hj=>by rw[List.getD_eq_getElem?_getD,List.getElem?_eq_getElem hj,Option.getD_some]
 have e:args=args.take k++args[k]::args.drop (k+1):=by
  conv=>lhs;rw[←List.take_append_drop k args,List.drop_eq_getElem_cons hk]
 rw[hg k hk,Bool.eq_iff_iff,beq_iff_eq,List.all_eq_true];have hc:timesM args args[k]=(args.take k).countP (fun x=>sq x args[k])+((args.drop (k+1)).countP (fun x=>sq x args[k])+1):=by
  have:∀y,timesM args y=(args.take k).countP (fun x=>sq x y)+(args[k]::args.drop (k+1)).countP (fun x=>sq x y):=fun y=>by
   rw[timesM]
   conv=>lhs;rw[e]
   rw[List.countP_append]
  rw[this,List.countP_cons_of_pos (p:=fun x=>sq x args[k]) (a:=args[k]) (sq_refl _)]
 rw[hc];constructor
 ·intro h j hj;rw[List.mem_range] at hj;have h1:(args.take k).countP (fun x=>sq x args[k])=0:=by omega
  have h2:(args.drop (k+1)).countP (fun x=>sq x args[k])=0:=by omega
  rw[List.countP_eq_zero] at h1 h2;rw[hg j hj];by_cases hjk:j=k
  ·subst hjk;simp
  ·have:sq args[j] args[k]=false:=by
    rcases Nat.lt_or_gt_of_ne hjk with hlt|hgt
    ·have:=h1 args[j] (List.mem_take_iff_getElem.2 ⟨j,by omega,rfl⟩);simpa using this
    ·have:=h2 args[j] (List.mem_drop_iff_getElem.2 ⟨j-(k+1),by omega,by congr 1;omega⟩);simpa using this
   simp[this]
 ·intro h;have hz:∀j (hj:j<args.length),j≠k→¬sq args[j] args[k]=true:=fun j hj hjk hs=>by
   have:=h j (List.mem_range.2 hj);rw[hg j hj,hs] at this;simp[hjk] at this
  have h1:(args.take k).countP (fun x=>sq x args[k])=0:=by
   rw[List.countP_eq_zero];intro x hx;obtain⟨j,hj,rfl⟩:=List.mem_take_iff_getElem.1 hx;exact hz j (by omega) (by omega)
  have h2:(args.drop (k+1)).countP (fun x=>sq x args[k])=0:=by
   rw[List.countP_eq_zero];intro x hx;obtain⟨j,hj,rfl⟩:=List.mem_drop_iff_getElem.1 hx;exact hz (k+1+j) (by omega) (by omega)
  omega
theorem hG_bf {a:Ev} {bufs:List Pa} {args:List ByteArray} (hlr:∀x,0≤(a.g x).lent∧(a.g x).lent≤2) {k:Nat} (hk:k<args.length) (hb:(a.g (args.getD k nob)).bufOk q=true):hG q a.g bufs args k=a.bfOk q bufs args k:=by
 rw[hG,Ev.bfOk,decide_eq_false (by omega),Bool.false_or,times_one args k hk];have hlv:=hlr (args.getD k nob);generalize a.g (args.getD k nob)=v at*;generalize bufs.getD k Pa.zero=x at*;have e1:(!(x.mt&& !v.mt))=(v.mt|| !x.mt):=by cases x.mt<;>cases v.mt<;>rfl
 have e2:(!(x.sec !=v.sec))=(v.sec==x.sec):=by cases x.sec<;>cases v.sec<;>rfl
 rw[e1,e2];congr 2;by_cases h3:q=3
 ·subst h3;simp only[Nm.bufOk,Bool.and_eq_true] at hb;have hlt:v.lent<2:=by have:=hb.2.1;simpa[chk] using this
  have e3:(v.lent==1)= !(v.lent==0):=by rw[Bool.eq_iff_iff];simp;omega
  rw[e3];simp only[chk,beq_self_eq_true,Bool.not_true,Bool.false_or];cases x.mt with
  |false=>simp
  |true=>simp
 ·have h3':((3:Int)==q)=false:=by simp;exact fun e=>h3 e.symm
  simp[chk,h3']
theorem call_ck {F:Nat} {c:Sc} {a:Ev} {s:Wk} (h:Rel F c a s) (f:Fu) (nm:ByteArray) (ex:List Ex) (args:List ByteArray) (hx:ex.all exM=true) (hk:Ex.askss (inM (ks s)) ex=true) (ha:args.all (inM (ks s))=true):
  Wk.call2 (10+q) (some f) nm ex args s=s.ck q (a.callOk q f nm ex args):=by
 have hl:=h.lr;simp only[Wk.call2,Option.getD_some,Option.isSome_some,Bool.not_true];rw[callN_ck hq f.params ex s hl hx hk f.params.length (Nat.le_refl _),List.take_length];simp only;have hn:(f.params.filter fun x=> !x.buf)=numsOf f:=rfl;have hb:(f.params.filter fun x=>x.buf)=bufsOf f:=rfl;rw[hn,hb];have hs2:Wk.secN (10+q) ex (numsOf f).length (s.ck q ((List.range (min (numsOf f).length ex.length)).all (exG q s.g (numsOf f) ex))) (ex.length-(numsOf f).length)=s.ck q ((List.range ex.length).all (exG q s.g (numsOf f) ex)):=by
  by_cases hle:(numsOf f).length≤ex.length
  ·rw[secN_ck hq (numsOf f) ex _ _ (hl.ck _ _) hx (by rw[ck_ks];exact hk) (Nat.le_refl _) _ (by omega),ck_ck,ck_g,Nat.min_eq_left hle];have e:ex.length=(numsOf f).length+(ex.length-(numsOf f).length):=by omega
   conv=>rhs;rw[e,List.range_add,List.all_append,List.all_map]
   rfl
  ·rw[show ex.length-(numsOf f).length=0 by omega,Nat.min_eq_right (by omega)];rfl
 rw[hs2,askN_ck hq args _ (hl.ck _ _) (by rw[ck_ks];exact ha) args.length (Nat.le_refl _),List.take_length,ck_ck,ck_g,bad_10 hq,bad_11,ck_ck,Wk.handed,handN_ck (q:=q) f.params args _ f.params.length (Nat.le_refl _),List.take_length,hb];simp only;rw[ck_ck,bad_11,ck_ck,ck_g,Ev.callOk];congr 1;have hgl:a.g=s.g:=h.g;have hE:(List.range ex.length).all (exG q s.g (numsOf f) ex)=(List.range ex.length).all (a.exOk q (numsOf f) ex):=by rw[←hgl];rfl
 rw[hE,hgl];cases(List.range ex.length).all (a.exOk q (numsOf f) ex) with
 |false=>rfl
 |true=>
  cases hA:args.all fun x=>(s.g x).bufOk q with
  |false=>rfl
  |true=>
   have e1:(!((numsOf f).length !=ex.length||(bufsOf f).length !=args.length|| !emp nm&&f.ret.length==0))=(((numsOf f).length==ex.length)&&(((bufsOf f).length==args.length)&&(emp nm||decide (0<f.ret.length)))):=by
    have e0:(f.ret.length==0)= !decide (0<f.ret.length):=by rw[Bool.eq_iff_iff];simp
    rw[e0];simp only[bne];cases(numsOf f).length==ex.length<;>cases(bufsOf f).length==args.length<;>cases emp nm<;>cases decide (0<f.ret.length)<;>rfl
   rw[e1];cases hK:chk q 1 (((numsOf f).length==ex.length)&&(((bufsOf f).length==args.length)&&(emp nm||decide (0<f.ret.length)))) with
   |false=>rfl
   |true=>
    simp only[Bool.true_and];have hK2:chk q 1 (!(min (bufsOf f).length args.length !=args.length))=true:=by
     unfold chk at hK ⊢;by_cases h1:q=1
     ·simp only[h1,beq_self_eq_true,Bool.not_true,Bool.false_or,Bool.and_eq_true,beq_iff_eq] at hK;rw[hK.2.1];simp
     ·have h1':((1:Int)==q)=false:=by simp;exact fun e=>h1 e.symm
      simp[h1']
    rw[hK2,Bool.and_true];have hlr:∀x,0≤(a.g x).lent∧(a.g x).lent≤2:=fun x=>by
     rw[hgl];cases hi:inM (ks s) x with
     |true=>obtain⟨v,_,hm,_,hg⟩:=find_is hi;rw[hg];exact hl v hm
     |false=>
      have:s.find x=none:=by rw[←Option.not_isSome_iff_eq_none,find_ks,hi];decide
      rw[←find_nmv,this];exact⟨Int.le_refl _,by decide⟩
    have hall:∀k,k<args.length→hG q s.g (bufsOf f) args k=a.bfOk q (bufsOf f) args k:=fun k hk=>by
     have hg:args.getD k nob=args[k]:=by rw[List.getD_eq_getElem?_getD,List.getElem?_eq_getElem hk,Option.getD_some]
     rw[←hgl];refine hG_bf hq hlr hk ?_;rw[hgl,hg];exact List.all_eq_true.1 hA _ (List.getElem_mem hk)
    rw[Bool.eq_iff_iff,List.all_eq_true,List.all_eq_true];constructor
    ·intro h1 k hk;rw[List.mem_range] at hk;by_cases hka:k<args.length
     ·rw[←hall k hka];exact h1 k (List.mem_range.2 (by omega))
     ·rw[Ev.bfOk,decide_eq_true (by omega),Bool.true_or]
    ·intro h1 k hk;rw[List.mem_range] at hk;rw[hall k (by omega)];exact h1 k (List.mem_range.2 (by omega))
end
end
theorem lent0:0≤(0:Int)∧(0:Int)≤2:=by decide
theorem block_ok {P:List Fu} {F:Nat} {l:List St} {c c1:Sc} (h:scDels (scStmts P F l c [])= .ok c1):∃c' aw,scStmts P F l c []= .ok (c',aw)∧c1=c'.dels aw:=by
 cases hx:scStmts P F l c [] with
 |error x=>rw[hx] at h;cases h
 |ok p=>rw[hx] at h;cases h;exact⟨_,_,rfl,rfl⟩
theorem into_g {q:Int} {F:Nat} {c:Sc} {a:Ev} {s:Wk} (h:Rel F c a s) (e:Ex) (sec:Bool):a.into q e sec=intoG q s.g e sec:=by rw[←h.g];rfl
theorem kn_asks {F:Nat} {c:Sc} {a:Ev} {s:Wk} (h:Rel F c a s) {ex:List Ex} (hk:Ex.askss (inM c.kn) ex=true):Ex.askss (inM (ks s)) ex=true:=by rw[←h.knf];exact hk
theorem ndel_none {l:NL} {nm:ByteArray} (h:nhas l nm=false):ndel l nm=l:=by
 rw[ndel,List.filter_eq_self];intro p hp;rw[nhas,List.any_eq_false] at h;have:=h p hp;simpa using this
theorem ne_no {l:List ByteArray} {nm:ByteArray} (h:∀x∈l,emp x=false) (he:emp nm=true):inM l nm=false:=by
 cases hb:inM l nm with
 |false=>rfl
 |true=>rw[h nm (inM_iff.1 hb)] at he;cases he
theorem Rel.cutdel {F:Nat} {c:Sc} {a:Ev} {s t:Wk} {nm:ByteArray} (h:Rel F c a t) (hk:ks t=ks s++[nm]):Rel F (c.del nm) (a.del nm) (t.cut s.env.length)∧ks (t.cut s.env.length)=ks s:=by
 have hks:ks (t.cut s.env.length)=ks s:=by rw[ks_cut,hk,←ks_len,List.take_left'];rfl
 have hnod:=h.nod;rw[hk,List.nodup_append] at hnod;have hno:inM (ks s) nm=false:=by
  cases hb:inM (ks s) nm with
  |false=>rfl
  |true=>exact absurd rfl (hnod.2.2 nm (inM_iff.1 hb) nm (by simp))
 have e2:(t.env.take s.env.length).map (·.name)=ks s:=by rw[←hks];rfl
 have e3:(t.env.drop s.env.length).map (·.name)=[nm]:=by
  have:ks t=(t.env.take s.env.length).map (·.name)++(t.env.drop s.env.length).map (·.name):=by rw[←List.map_append,List.take_append_drop];rfl
  rw[e2,hk] at this;exact(List.append_cancel_left this).symm
 refine⟨⟨h.fine,h.n,h.loops,h.f,?_,by rw[hks];exact hnod.1,?_,?_,?_,?_⟩,hks⟩
 ·show ndel a.nm nm=(t.env.take s.env.length).map vap
  rw[ndel,h.nm]
  conv=>lhs;rw[←List.take_append_drop s.env.length t.env]
  rw[List.map_append];refine take_filter _ _ _ ?_ ?_
  ·intro p hp;obtain⟨v,hv,rfl⟩:=List.mem_map.1 hp;rw[sq_no];rfl;intro e;have:v.name∈ks s:=by rw[←e2];exact List.mem_map.2 ⟨v,hv,rfl⟩
   rw[show v.name=nm from e] at this;rw[inM_iff.2 this] at hno;cases hno
  ·intro p hp;obtain⟨v,hv,rfl⟩:=List.mem_map.1 hp;have:v.name∈[nm]:=by rw[←e3];exact List.mem_map.2 ⟨v,hv,rfl⟩
   rw[List.mem_singleton] at this;show(!sq v.name nm)=false
   rw[this,sq_refl];rfl
 ·intro x hx;rw[hks] at hx;exact h.ne x (by rw[hk];exact List.mem_append_left _ hx)
 ·intro x;rw[show(c.del nm).kn=delN c.kn nm from rfl,inM_delN,h.kn,hk,hks,inM_append];cases hx:inM (ks s) x with
  |true=>
   have:sq x nm=false:=sq_no fun e=>by rw[e,hno] at hx;cases hx
   rw[this];rfl
  |false=>
   have:inM [nm] x=sq nm x:=by simp[inM]
   rw[this];cases hs:sq x nm with
   |true=>simp
   |false=>
    have:sq nm x=false:=by cases hb:sq nm x with
     |false=>rfl
     |true=>rw[sq_iff.1 hb,sq_refl] at hs;cases hs
    rw[this];rfl
 ·intro x;rw[show(c.del nm).kn=delN c.kn nm from rfl,inM_delN];simp only[Bool.and_eq_true];exact fun hh=>h.gi x hh.1
 ·intro v hv;exact h.lr v (List.mem_of_mem_take hv)
theorem Rel.cutsame {F:Nat} {c:Sc} {a:Ev} {s t:Wk} (h:Rel F c a t) (hk:ks t=ks s):t.cut s.env.length=t:=by
 have:t.env.length=s.env.length:=by rw[←ks_len,←ks_len,hk]
 show {t with env:=t.env.take s.env.length}=t
 rw[←this,List.take_length]
theorem Rel.at {F:Nat} {c:Sc} {a:Ev} {s:Wk} (h:Rel F c a s) (x y:Int) (e:x=y):Rel F c (a.at x) {s with loops:=y}:=
 ⟨h.fine,h.n,e.symm,h.f,h.nm,h.nod,h.ne,h.kn,h.gi,h.lr⟩
theorem gones_eq:∀(l r:List Va),l.map (·.name)=r.map (·.name)→(l.map (·.name)).Nodup→(gones l r).map vap=ngone (l.map vap) (r.map vap)
 |[],r,h,hn=>by cases r<;>rfl
 |v::l,[],h,hn=>by cases h
 |v::l,x::r,h,hn=>by
  simp only[List.map_cons,List.cons.injEq] at h;rw[List.map_cons,List.nodup_cons] at hn;have ih:=gones_eq l r h.2 hn.2;simp only[gones,List.map_cons,ngone,List.map_map];congr 1
  ·have:nget (vap x::r.map vap) v.name=x.nmv:=by
    rw[nget,List.find?_cons_of_pos (by show sq x.name v.name=true;rw[h.1];exact sq_refl _)];rfl
   show vap {v with gone:=v.gone||x.gone}=_
   rw[show(vap v).1=v.name from rfl,this];rfl
  ·rw[ih,ngone,List.map_map];apply List.map_congr_left;intro u hu;simp only[Function.comp];have hne:sq x.name u.name=false:=sq_no fun e=>hn.1 (by rw[h.1,e];exact List.mem_map.2 ⟨u,hu,rfl⟩);have:nget (vap x::r.map vap) (vap u).1=nget (r.map vap) (vap u).1:=by
    simp only[nget];rw[List.find?_cons_of_neg (by show¬sq x.name u.name=true;rw[hne];decide)]
   rw[this]
theorem gones_lent:∀(l r:List Va),(∀v∈l,0≤v.lent∧v.lent≤2)→∀v∈gones l r,0≤v.lent∧v.lent≤2
 |[],r,h,v,hv=>by cases r<;>(unfold gones at hv;exact h v hv)
 |u::l,[],h,v,hv=>by unfold gones at hv;exact h v hv
 |u::l,x::r,h,v,hv=>by
  simp only[gones,List.mem_cons] at hv;rcases hv with rfl|hv
  ·exact h u (by simp)
  ·exact gones_lent l r (fun y hy=>h y (by simp[hy])) v hv
theorem Rel.join {F:Nat} {c:Sc} {a a1:Ev} {s t:Wk} (h:Rel F c a t) (hk:ks t=ks s) (hnm:a1.nm=s.env.map vap):Rel F c (a.with (ngone a.nm a1.nm)) (t.join s.env)∧ks (t.join s.env)=ks s:=by
 have hks:ks (t.join s.env)=ks s:=by rw[show ks (t.join s.env)=(gones t.env s.env).map (·.name) from rfl,gones_ks];exact hk
 refine⟨⟨h.fine,h.n,h.loops,h.f,?_,by rw[hks,←hk];exact h.nod,by rw[hks,←hk];exact h.ne,by rw[hks,←hk];exact h.kn,h.gi,gones_lent _ _ h.lr⟩,hks⟩;show ngone a.nm a1.nm=(gones t.env s.env).map vap
 rw[gones_eq _ _ hk h.nod,h.nm,hnm]
mutual
theorem stmtE {q:Int} (hq:1≤q) (P:List Fu) (F:Nat) (hF:F<P.length) (hnd:((P.take F).map Fu.name).Nodup):∀(st:St) (d:Nat) (c:Sc) (a:Ev) (s:Wk) (c1:Sc) (aw:List ByteArray),St.ok st d=true→scStmt P F st c= .ok (c1,aw)→Rel F c a s→OutE q F c1 s (Wk.stmt (10+q) P st s) aw (evStmt q P F st a)
 | .mk k nm fr sec mt ex args body els,d,c,a,s,c1,aw,hok,hsc,h=>by
   obtain⟨c2,c3,c4,aw2,S⟩:=scOk_of hsc;simp only[St.ok,Bool.and_eq_true] at hok;obtain⟨⟨⟨_,hfm⟩,hbo⟩,heo⟩:=hok;have FF:=form_facts hfm;obtain⟨hhx,hh2,hh8,hh11⟩:=head_ex S.head;have hkx:=kn_asks h hhx;by_cases k1:k.toNat=1
   ·have hb:body=[]:=FF.body.resolve_right (by omega);have he:els=[]:=FF.els.resolve_right (by omega);obtain⟨_,hlen,hnm⟩:=FF.other (by omega);have hl1:0<ex.length:=by simp[nEx,k1] at hlen;omega
    obtain⟨rfl,rfl⟩:=S.flat hb he (by omega) (by omega);have hne:emp nm=false:=by rw[emp_of_namedX hnm];simp[nName,k1]
    obtain⟨hg,rfl⟩:=gives_some S.gives (by omega) (by omega) hne;rw[stmt_1 _ _ _ _ _ _ _ _ _ _ _ _ k1,ev_1 _ _ _ _ _ _ _ _ _ _ _ _ _ k1,opn_ck hq h.lr (exAt_all FF.exs hl1) (asks_at hkx 0 hl1),into_g h];refine OutE.if h (Stk.give _ _ _) fun hI=>?_;rw[hI,ck_true];exact h.give hq hg hne (Va.num nm sec true) rfl _ rfl lent0
   by_cases k2:k.toNat=2
   ·have hb:body=[]:=FF.body.resolve_right (by omega);have he:els=[]:=FF.els.resolve_right (by omega);obtain⟨_,hlen,hnm⟩:=FF.other (by omega);have hl1:0<ex.length:=by simp[nEx,k2] at hlen;omega
    obtain⟨rfl,rfl⟩:=S.flat hb he (by omega) (by omega);obtain⟨rfl,rfl⟩:=gives_none S.gives (.inl k2);have hkn:inM (ks s) nm=true:=by rw[←h.kn];exact hh2 (.inl k2)
    have hsx:=sec_ck hq (exAt ex 0) 1 s h.lr (exAt_all FF.exs hl1) (asks_at hkx 0 hl1);have hak:=ask_num hq (s:=(Wk.sec (10+q) (exAt ex 0) s).2) (nm:=nm) (by rw[hsx.2,ck_ks];exact hkn);rw[stmt_2 _ _ _ _ _ _ _ _ _ _ _ _ k2,ev_2 _ _ _ _ _ _ _ _ _ _ _ _ _ k2,bad_11,bad_12,hak.2,ck_ck,ck_ck,hsx.1];have e1:=congrArg Nm.set hak.1;have e2:=congrArg Nm.sec hak.1;rw[show(((Wk.sec (10+q) (exAt ex 0) s).2.ask (10+q) nm false).1).set=_ from e1,show(((Wk.sec (10+q) (exAt ex 0) s).2.ask (10+q) nm false).1).sec=_ from e2,hsx.2,ck_g,ck_ck];have e3:(Ex.so q s.g (exAt ex 0)&&((s.g nm).numOk q&&(chk q 1 (!!(s.g nm).set)&&chk q 2 (!(Ex.sv s.g (exAt ex 0)&& !(s.g nm).sec)))))=a.setOk q nm (exAt ex 0):=by
     rw[Ev.setOk,h.g,Bool.not_not,Bool.not_and,Bool.not_not,Bool.or_comm]
    rw[e3];refine OutE.if h (Stk.refl _) fun hI=>?_;rw[hI,ck_true];exact⟨h,by simp⟩
   by_cases k3:k.toNat=3
   ·have hb:body=[]:=FF.body.resolve_right (by omega);have he:els=[]:=FF.els.resolve_right (by omega);obtain⟨_,hlen,hnm⟩:=FF.other (by omega);have hl1:0<ex.length:=by simp[nEx,k3] at hlen;omega
    obtain⟨rfl,rfl⟩:=S.flat hb he (by omega) (by omega);have hne:emp nm=false:=by rw[emp_of_namedX hnm];simp[nName,k3]
    obtain⟨hg,rfl⟩:=gives_some S.gives (by omega) (by omega) hne;rw[stmt_3 _ _ _ _ _ _ _ _ _ _ _ _ k3,ev_3 _ _ _ _ _ _ _ _ _ _ _ _ _ k3,pub_ck hq h.lr (exAt_all FF.exs hl1) (asks_at hkx 0 hl1),into_g h];refine OutE.if h (Stk.give _ _ _) fun hI=>?_;rw[hI,ck_true];exact h.give hq hg hne (Va.bufv nm sec true true) rfl _ rfl lent0
   by_cases k4:k.toNat=4
   ·have hb:body=[]:=FF.body.resolve_right (by omega);have he:els=[]:=FF.els.resolve_right (by omega);obtain⟨_,hlen,hnm⟩:=FF.other (by omega);have hl2:1<ex.length:=by simp[nEx,k4] at hlen;omega
    have hl1:0<ex.length:=by omega
    obtain⟨rfl,rfl⟩:=S.flat hb he (by omega) (by omega);obtain⟨rfl,rfl⟩:=gives_none S.gives (.inr (.inl k4));have hkn:inM (ks s) nm=true:=by rw[←h.kn];exact hh2 (.inr k4)
    rw[stmt_4 _ _ _ _ _ _ _ _ _ _ _ _ k4,ev_4 _ _ _ _ _ _ _ _ _ _ _ _ _ k4,pub_ck hq h.lr (exAt_all FF.exs hl1) (asks_at hkx 0 hl1)];have hsx:=sec_ck hq (exAt ex 1) 1 (s.ck q (intoG q s.g (exAt ex 0) false)) (h.lr.ck _ _) (exAt_all FF.exs hl2) (by rw[ck_ks];exact asks_at hkx 1 hl2);rw[ck_g] at hsx;have htk:=turned_ck hq (s:=(Wk.sec (10+q) (exAt ex 1) (s.ck q (intoG q s.g (exAt ex 0) false))).2) (nm:=nm) (by rw[hsx.2];exact(h.lr.ck _ _).ck _ _) (by rw[hsx.2,ck_ks,ck_ks];exact hkn);have e2:=congrArg Nm.sec htk.1;rw[bad_12,htk.2,ck_ck,hsx.1,show(((Wk.sec (10+q) (exAt ex 1) (s.ck q (intoG q s.g (exAt ex 0) false))).2.turned (10+q) nm).1).sec=_ from e2,hsx.2,ck_g,ck_g,ck_ck,ck_ck];have e3:(intoG q s.g (exAt ex 0) false&&(Ex.so q s.g (exAt ex 1)&&((s.g nm).turnOk q&&chk q 2 (!(Ex.sv s.g (exAt ex 1)&& !(s.g nm).sec)))))=a.putOk q nm (exAt ex 0) (exAt ex 1):=by
     rw[Ev.putOk,into_g h,h.g,Bool.not_and,Bool.not_not,Bool.or_comm]
    rw[e3];refine OutE.if h (Stk.refl _) fun hI=>?_;rw[hI,ck_true];exact⟨h,by simp⟩
   by_cases k5:k.toNat=5
   ·obtain⟨_,hlen,hnm⟩:=FF.other (by omega);have hl1:0<ex.length:=by simp[nEx,k5] at hlen;omega
    have hne:emp nm=true:=by rw[emp_of_namedX hnm];simp[nName,k5]
    obtain⟨rfl,rfl⟩:=gives_none S.gives (.inr (.inr hne));have hfin:=S.fin;rw[if_neg (by simp[k5])] at hfin;obtain⟨rfl,rfl⟩:=hfin;obtain⟨cb,awb,hcb,rfl⟩:=block_ok S.body;obtain⟨ce,awe,hce,hc4⟩:=block_ok S.els;rw[stmt_5 _ _ _ _ _ _ _ _ _ _ _ _ k5,ev_5 _ _ _ _ _ _ _ _ _ _ _ _ _ k5,pub_ck hq h.lr (exAt_all FF.exs hl1) (asks_at hkx 0 hl1),into_g h];refine OutE.if h (((((Stk.stmts _ P body _).trans (Stk.cut _ _)).trans (Stk.back _ _)).trans ((Stk.stmts _ P els _).trans (Stk.cut _ _))).trans (Stk.join _ _)) fun hI=>?_;rw[hI,ck_true];have hB:=OutE.block h (stmtsE hq P F hF hnd body (d+1) c2 a s cb awb hbo hcb h);unfold evBlock;cases hr:evKeep a (evStmts q P F body a) with
    |error n=>
     rw[hr] at hB;exact(((Hit.stk hB (Stk.back _ _)).stk (Stk.stmts _ P els _)).stk (Stk.cut _ _)).stk (Stk.join _ _)
    |ok a1=>
     rw[hr] at hB;obtain⟨hB1,hB2,_⟩:=hB;simp only;generalize hS2:(Wk.stmts (10+q) P body s).cut s.env.length=s2 at*;have hR:Rel F (cb.dels awb) (a1.with a.nm) (s2.back s.env):=⟨hB1.fine,hB1.n,hB1.loops,hB1.f,h.nm,h.nod,h.ne,fun x=>by rw[hB1.kn x,hB2];rfl,hB1.gi,h.lr⟩;have hE:=OutE.block hR (stmtsE hq P F hF hnd els (d+1) _ (a1.with a.nm) (s2.back s.env) ce awe heo hce hR);have hl0:(s2.back s.env).env.length=s.env.length:=rfl;rw[hl0] at hE;cases hr2:evKeep (a1.with a.nm) (evStmts q P F els (a1.with a.nm)) with
     |error n=>
      rw[hr2] at hE;exact Hit.stk hE (Stk.join _ _)
     |ok a2=>
      rw[hr2] at hE;obtain⟨hE1,hE2,_⟩:=hE;simp only;have hj:=Rel.join (s:=s2) (a1:=a1) hE1 (hE2.trans (show ks (s2.back s.env)=ks s2 from hB2.symm)) hB1.nm;rw[hc4];exact⟨hj.1,by rw[hj.2,hB2,List.append_nil]⟩
   by_cases k67:k.toNat=6∨k.toNat=7
   ·have he:els=[]:=FF.els.resolve_right (by omega);obtain⟨_,hlen,hnm⟩:=FF.other (by omega);have hl1:0<ex.length:=by rcases k67 with k6|k7<;>simp[nEx, *] at hlen<;>omega
    have hels:=S.els;subst he;simp only[scStmts,scDels,Except.ok.injEq] at hels;have hc43:c4=c3:=by rw[←hels];rfl
    obtain⟨cb,awb,hcb,hc3⟩:=block_ok S.body;rw[stmt_67 _ _ _ _ _ _ _ _ _ _ _ _ k67,ev_67 _ _ _ _ _ _ _ _ _ _ _ _ _ k67];have hp:=pub_ck hq h.lr (exAt_all FF.exs hl1) (asks_at hkx 0 hl1);rw[Wk.loopIn,hp,into_g h];have hd:Rel F c (a.at (a.loops+1)) s.deeper:=h.at _ _ (by rw[h.loops]);rcases k67 with k6|k7
    ·have hne:emp nm=true:=by rw[emp_of_namedX hnm];simp[nName,k6]
     obtain⟨rfl,rfl⟩:=gives_none S.gives (.inr (.inr hne));have hfin:=S.fin;rw[if_neg (by simp[k6])] at hfin;obtain⟨rfl,rfl⟩:=hfin;rw[if_neg (by omega)];have hli:a.loopIn nm=a.at (a.loops+1):=by rw[Ev.loopIn,if_pos hne]
     rw[hli];refine OutE.if h ((((Stk.deeper _).trans (Stk.stmts _ P body _)).trans (Stk.cut _ _)).trans (Stk.loopOut _ _)) fun hI=>?_;rw[hI,ck_true];have hB:=OutE.block hd (stmtsE hq P F hF hnd body (d+1) c2 _ s.deeper cb awb hbo hcb hd);unfold evBlock;cases hr:evKeep (a.at (a.loops+1)) (evStmts q P F body (a.at (a.loops+1))) with
     |error n=>rw[hr] at hB;exact Hit.stk hB (Stk.loopOut _ _)
     |ok a1=>
      rw[hr] at hB;obtain⟨hB1,hB2,_⟩:=hB;simp only;generalize (Wk.stmts (10+q) P body s.deeper).cut s.deeper.env.length=t at*;have ht:=hB1.at (a1.loops-1) (t.loops-1) (by rw[hB1.loops]);have hk0:ks {t with loops:=t.loops-1}=ks s:=hB2;have e1:t.loopOut s.env.length={t with loops:=t.loops-1}:=ht.cutsame (s:=s) hk0;have e2:(a1.at (a1.loops-1)).del nm=a1.at (a1.loops-1):=by
       show Ev.mk (ndel a1.nm nm) _ _=_
       rw[ndel_none (by rw[hB1.has];exact ne_no hB1.ne hne)];rfl
      rw[e1,e2,hc43,hc3];exact⟨ht,by rw[hk0,List.append_nil]⟩
    ·have hne:emp nm=false:=by rw[emp_of_namedX hnm];simp[nName,k7]
     obtain⟨hg,rfl⟩:=gives_some S.gives (by omega) (by omega) hne;have hfin:=S.fin;rw[if_pos (by simp[k7])] at hfin;obtain⟨rfl,rfl⟩:=hfin;rw[if_pos k7];have hli:a.loopIn nm=(a.at (a.loops+1)).give nm Nm.zero:=by rw[Ev.loopIn,if_neg (by rw[hne];decide)]
     rw[hli];refine OutE.if h (((((Stk.deeper _).trans (Stk.give _ _ _)).trans (Stk.stmts _ P body _)).trans (Stk.cut _ _)).trans (Stk.loopOut _ _)) fun hI=>?_;rw[hI,ck_true];have hgv:=hd.give hq hg hne (Va.num nm false false) rfl Nm.zero rfl lent0;obtain⟨hgv,hgk⟩:=hgv;generalize s.deeper.give (10+q) (Va.num nm false false)=s3 at*;have hB:=OutE.block hgv (stmtsE hq P F hF hnd body (d+1) c2 _ s3 cb awb hbo hcb hgv);unfold evBlock;cases hr:evKeep ((a.at (a.loops+1)).give nm Nm.zero) (evStmts q P F body ((a.at (a.loops+1)).give nm Nm.zero)) with
     |error n=>rw[hr] at hB;exact Hit.stk hB (Stk.loopOut _ _)
     |ok a1=>
      rw[hr] at hB;obtain⟨hB1,hB2,_⟩:=hB;simp only;generalize (Wk.stmts (10+q) P body s3).cut s3.env.length=t at*;have ht:=hB1.at (a1.loops-1) (t.loops-1) (by rw[hB1.loops]);have hk0:ks {t with loops:=t.loops-1}=ks s++[nm]:=hB2.trans hgk;have hcd:=ht.cutdel (s:=s) hk0;rw[hc43,hc3];exact⟨hcd.1,by rw[List.append_nil];exact hcd.2⟩
   by_cases k8:k.toNat=8
   ·have he:els=[]:=FF.els.resolve_right (by omega);obtain⟨_,hlen,hnm⟩:=FF.other (by omega);have hl2:1<ex.length:=by simp[nEx,k8] at hlen;omega
    have hl1:0<ex.length:=by omega
    have hels:=S.els;subst he;simp only[scStmts,scDels,Except.ok.injEq] at hels;have hc43:c4=c3:=by rw[←hels];rfl
    obtain⟨cb,awb,hcb,hc3⟩:=block_ok S.body;have hne:emp nm=false:=by rw[emp_of_namedX hnm];simp[nName,k8]
    obtain⟨hg,rfl⟩:=gives_some S.gives (by omega) (by omega) hne;have hfin:=S.fin;rw[if_pos (by simp[k8])] at hfin;obtain⟨rfl,rfl⟩:=hfin;have hkn:inM (ks s) fr=true:=by rw[←h.kn];exact hh8 (.inl k8)
    obtain⟨v,hv,hvm,hvn,hvg⟩:=find_is hkn;have hlv:=h.lr v hvm;rw[stmt_8 _ _ _ _ _ _ _ _ _ _ _ _ k8,ev_8 _ _ _ _ _ _ _ _ _ _ _ _ _ k8];have hp0:=pub_ck hq h.lr (exAt_all FF.exs hl1) (asks_at hkx 0 hl1);have hp1:=pub_ck hq (s:=s.ck q (intoG q s.g (exAt ex 0) false)) (h.lr.ck _ _) (exAt_all FF.exs hl2) (by rw[ck_ks];exact asks_at hkx 1 hl2);rw[ck_g,ck_ck] at hp1;have hfind:∀ok,(s.ck q ok).find fr=some v:=fun ok=>by unfold Wk.find;rw[(ck_same q s ok).1];exact hv
    have hak:=ask_buf hq (s:=s.ck q (intoG q s.g (exAt ex 0) false&&intoG q s.g (exAt ex 1) false)) (nm:=fr) (h.lr.ck _ _) (by rw[ck_ks];exact hkn);rw[ck_g,ck_ck] at hak;have hlend:s.lend1 (10+q) fr mt ex=(v,(s.ck q (a.lendOk q fr mt ex)).put {v with lent:=if mt then 2 else max v.lent 1}):=by
     simp only[Wk.lend1];rw[hp0,hp1];have hr1:((s.ck q (intoG q s.g (exAt ex 0) false&&intoG q s.g (exAt ex 1) false)).ask (10+q) fr true).1=v:=by simp[Wk.ask,hfind]
     rw[hr1,hak.2];refine Prod.ext rfl ?_;simp only;congr 1;have hL:a.lendOk q fr mt ex=(intoG q s.g (exAt ex 0) false&&(intoG q s.g (exAt ex 1) false&&((s.g fr).bufOk q&&(!mt||(s.g fr).turnOk q)))):=by
      rw[Ev.lendOk,into_g h,into_g h,h.g]
     rw[hL];cases mt with
     |false=>
      simp only[Bool.false_eq_true,if_false,Bool.not_false,Bool.true_or,Bool.and_true];rw[Bool.and_assoc]
     |true=>
      simp only[if_true,Bool.not_true,Bool.false_or];have htk:=turned_ck hq (s:=s.ck q (intoG q s.g (exAt ex 0) false&&intoG q s.g (exAt ex 1) false&&(s.g fr).bufOk q)) (nm:=fr) (h.lr.ck _ _) (by rw[ck_ks];exact hkn);rw[htk.2,ck_g,ck_ck,Bool.and_assoc,Bool.and_assoc]
    rw[hlend];simp only;refine OutE.if h (((((Stk.put _ _).trans (Stk.give _ _ _)).trans (Stk.stmts _ P body _)).trans ((Stk.cut _ _).trans (Stk.cut _ _))).trans (Stk.put _ _)) fun hI=>?_;rw[hI,ck_true];have hag:a.g fr=v.nmv:=by rw[h.g];exact hvg
    have hpt:=h.put hkn {v with lent:=if mt then 2 else max v.lent 1} hvn {a.g fr with lent:=if mt then 2 else max (a.g fr).lent 1} (by rw[hag];rfl) (by show 0≤(if mt=true then(2:Int) else max v.lent 1)∧(if mt=true then(2:Int) else max v.lent 1)≤2;split<;>omega);obtain⟨hpt,hpk⟩:=hpt;generalize s.put {v with lent:=if mt then 2 else max v.lent 1}=s1 at*;have hgv:=hpt.give hq hg hne (Va.bufv nm v.sec mt false) rfl (Nm.bufv (a.g fr).sec mt false) (by rw[hag];rfl) lent0;obtain⟨hgv,hgk⟩:=hgv;rw[show(a.put fr {a.g fr with lent:=if mt then 2 else max (a.g fr).lent 1}).give nm (Nm.bufv (a.g fr).sec mt false)=a.lendIn nm fr mt from rfl] at hgv;generalize s1.give (10+q) (Va.bufv nm v.sec mt false)=s3 at*;have hB:=OutE.block hgv (stmtsE hq P F hF hnd body (d+1) c2 _ s3 cb awb hbo hcb hgv);unfold evBlock;cases hr:evKeep (a.lendIn nm fr mt) (evStmts q P F body (a.lendIn nm fr mt)) with
    |error n=>rw[hr] at hB;exact(Hit.stk hB (Stk.cut _ _)).stk (Stk.put _ _)
    |ok a1=>
     rw[hr] at hB;obtain⟨hB1,hB2,_⟩:=hB;simp only;generalize (Wk.stmts (10+q) P body s3).cut s3.env.length=t at*;have hk0:ks t=ks s1++[nm]:=hB2.trans hgk;have hcd:=hB1.cutdel (s:=s1) hk0;obtain⟨hcd,hck⟩:=hcd;generalize t.cut s1.env.length=t1 at*;have hkt:inM (ks t1) fr=true:=by rw[hck,hpk];exact hkn
     obtain⟨u,hu,hum,hun,hug⟩:=find_is hkt;have hfi:=hcd.put hkt {(t1.find fr).getD Va.zero with lent:=v.lent} (by rw[hu];exact hun) {(a1.del nm).g fr with lent:=(a.g fr).lent} (by rw[hu,hcd.g,hug,hag];rfl) hlv;rw[hc43,hc3];exact⟨hfi.1,by rw[List.append_nil,←hpk,←hck];exact hfi.2⟩
   by_cases k9:k.toNat=9
   ·have hb:body=[]:=FF.body.resolve_right (by omega);have he:els=[]:=FF.els.resolve_right (by omega);obtain⟨_,hlen,hnm⟩:=FF.other (by omega);obtain⟨rfl,rfl⟩:=S.flat hb he (by omega) (by omega);have hne:emp nm=false:=by rw[emp_of_namedX hnm];simp[nName,k9]
    obtain⟨hg,rfl⟩:=gives_some S.gives (by omega) (by omega) hne;have hkn:inM (ks s) fr=true:=by rw[←h.kn];exact hh8 (.inr k9)
    obtain⟨v,hv,hvm,hvn,hvg⟩:=find_is hkn;have hlv:=h.lr v hvm;have hak:=ask_buf hq h.lr hkn;have hr1:(s.ask (10+q) fr true).1=v:=by simp[Wk.ask,hv]
    have hag:a.g fr=v.nmv:=by rw[h.g];exact hvg
    rw[stmt_9 _ _ _ _ _ _ _ _ _ _ _ _ k9,ev_9 _ _ _ _ _ _ _ _ _ _ _ _ _ k9,Wk.move];simp only;rw[hr1,hak.2,bad_11,bad_13,bad_14,ck_ck,ck_ck,ck_ck,(ck_same q s _).2.2.2.1,←hvg.symm.trans rfl];have e3:(v.nmv.bufOk q&&(chk q 1 (!!v.own)&&(chk q 3 (!(v.lent==1))&&chk q 4 (!(v.loops !=s.loops)))))=a.moveOk q fr:=by
     rw[Ev.moveOk,h.g,hvg,Bool.not_not];have e4:(!(v.loops !=s.loops))=(v.nmv.loops==a.loops):=by rw[←h.loops];show(!(v.loops !=s.loops))=(v.loops==s.loops);cases hx:v.loops==s.loops<;>simp[bne,hx]
     rw[e4];cases hbk:v.nmv.bufOk q with
     |false=>rfl
     |true=>
      congr 3;by_cases h3:q=3
      ·subst h3;simp only[Nm.bufOk,Bool.and_eq_true] at hbk;have hlt:v.lent<2:=by have:=hbk.2.1;unfold chk at this;simp only[beq_self_eq_true,Bool.not_true,Bool.false_or] at this;exact of_decide_eq_true this
       have e5:(!(v.lent==1))=(v.nmv.lent==0):=by show _=(v.lent==0);rw[Bool.eq_iff_iff];simp;omega
       rw[e5]
      ·have h3':((3:Int)==q)=false:=by simp;exact fun e=>h3 e.symm
       simp[chk,h3']
    rw[e3];refine OutE.if h ((Stk.put _ _).trans (Stk.give _ _ _)) fun hI=>?_;rw[hI,ck_true];have hpt:=h.put hkn {v with gone:=true} hvn {a.g fr with gone:=true} (by rw[hag];rfl) hlv;obtain⟨hpt,hpk⟩:=hpt;generalize s.put {v with gone:=true}=s1 at*;have hgv:=hpt.give hq hg hne (Va.bufv nm v.sec true true) rfl (Nm.bufv (a.g fr).sec true true) (by rw[hag];rfl) lent0;exact⟨hgv.1,by rw[hgv.2,hpk]⟩
   by_cases k10:k.toNat=10
   ·have hb:body=[]:=FF.body.resolve_right (by omega);have he:els=[]:=FF.els.resolve_right (by omega);obtain⟨_,hlen,hnm⟩:=FF.other (by omega);have hl1:0<ex.length:=by simp[nEx,k10] at hlen;omega
    obtain⟨rfl,rfl⟩:=S.flat hb he (by omega) (by omega);have hne:emp nm=false:=by rw[emp_of_namedX hnm];simp[nName,k10]
    obtain⟨hg,rfl⟩:=gives_some S.gives (by omega) (by omega) hne;rw[stmt_10 _ _ _ _ _ _ _ _ _ _ _ _ k10,ev_10 _ _ _ _ _ _ _ _ _ _ _ _ _ k10,(sec_ck hq (exAt ex 0) 1 s h.lr (exAt_all FF.exs hl1) (asks_at hkx 0 hl1)).2,h.g];refine OutE.if h (Stk.give _ _ _) fun hI=>?_;rw[hI,ck_true];exact h.give hq hg hne (Va.num nm false false) rfl _ rfl lent0
   by_cases k11:k.toNat=11
   ·have hb:body=[]:=FF.body.resolve_right (by omega);have he:els=[]:=FF.els.resolve_right (by omega);obtain⟨rfl,rfl⟩:=S.flat hb he (by omega) (by omega);obtain⟨hha,hhf⟩:=hh11 k11;obtain⟨f,hff,hcf⟩:=callee_eq hnd hhf;have hfu:s.func P fr=some f:=by rw[Wk.func,h.f,Int.toNat_natCast];exact hff
    rw[stmt_11 _ _ _ _ _ _ _ _ _ _ _ _ k11,ev_11 _ _ _ _ _ _ _ _ _ _ _ _ _ k11,Wk.call,hfu,hcf];rw[call_ck hq h f nm ex args FF.exs hkx (by rw[←h.knf];exact hha),Option.getD_some];cases hne:emp nm with
    |true=>
     obtain⟨rfl,rfl⟩:=gives_none S.gives (.inr (.inr hne));simp only[if_true];refine OutE.if h (Stk.refl _) fun hI=>?_;rw[hI,ck_true];exact⟨h,by simp⟩
    |false=>
     obtain⟨hg,rfl⟩:=gives_some S.gives (by omega) (by omega) hne;simp only[Bool.false_eq_true,if_false];refine OutE.if h (Stk.give _ _ _) fun hI=>?_;rw[hI,ck_true];exact h.give hq hg hne (Va.num nm f.sec false) rfl _ rfl lent0
   have k12:11<k.toNat:=by have:=FF.k1;omega
   have hb:body=[]:=FF.body.resolve_right (by omega);have he:els=[]:=FF.els.resolve_right (by omega);obtain⟨_,hlen,hnm⟩:=FF.other (by omega);obtain⟨rfl,rfl⟩:=S.flat hb he (by omega) (by omega);have hne:emp nm=true:=by rw[emp_of_namedX hnm];simp[nName];omega
   obtain⟨rfl,rfl⟩:=gives_none S.gives (.inr (.inr hne));rw[stmt_12 _ _ _ _ _ _ _ _ _ _ _ _ k12,ev_12 _ _ _ _ _ _ _ _ _ _ _ _ _ k12,Wk.sealed,bad_11];have hse:∀(l:List Va) (t:Wk),t.sealE (10+q) l=t.ck q (l.all fun v=>chk q 2 (v.buf|| !v.sec)):=by
    intro l
    induction l with
    |nil=>intro t;simp[Wk.sealE,ck_true]
    |cons v l ih=>
     intro t;show Wk.sealE (10+q) (t.bad (10+q) 12 (!v.buf&&v.sec) 120) l=_
     rw[ih,bad_12,ck_ck,List.all_cons,Bool.not_and,Bool.not_not]
   rw[hse,ck_ck];have e3:(chk q 1 (!(s.f !=(P.length:Int)-1))&&s.env.all fun v=>chk q 2 (v.buf|| !v.sec))=a.sealOk q P F:=by
    rw[Ev.sealOk,h.nm,List.all_map];have e4:(!(s.f !=(P.length:Int)-1))=(F+1==P.length):=by rw[h.f,Bool.eq_iff_iff];simp;omega
    rw[e4];rfl
   rw[e3];refine OutE.if h (Stk.refl _) fun hI=>?_;rw[hI,ck_true];exact⟨h,by simp⟩
theorem stmtsE {q:Int} (hq:1≤q) (P:List Fu) (F:Nat) (hF:F<P.length) (hnd:((P.take F).map Fu.name).Nodup):∀(l:List St) (d:Nat) (c:Sc) (a:Ev) (s:Wk) (c1:Sc) (aw:List ByteArray),St.oks l d=true→scStmts P F l c []= .ok (c1,aw)→Rel F c a s→OutE q F c1 s (Wk.stmts (10+q) P l s) aw (evStmts q P F l a)
 |[],d,c,a,s,c1,aw,hok,hsc,h=>by
  simp only[scStmts,Except.ok.injEq,Prod.mk.injEq] at hsc;obtain⟨rfl,rfl⟩:=hsc;exact⟨h,by simp[Wk.stmts]⟩
 |x::l,d,c,a,s,c1,aw,hok,hsc,h=>by
  simp only[St.oks,Bool.and_eq_true] at hok;simp only[scStmts] at hsc;cases hx:scStmt P F x ⟨c.kn,c.gi,c.n+1⟩ with
  |error y=>rw[hx] at hsc;cases hsc
  |ok p=>
   obtain⟨c2,aw2⟩:=p;rw[hx] at hsc;simp only[List.nil_append] at hsc;rw[sc_acc] at hsc;cases hl:scStmts P F l c2 [] with
   |error y=>rw[hl] at hsc;cases hsc
   |ok p=>
    obtain⟨c3,aw3⟩:=p;rw[hl] at hsc;simp only[scJoin,Except.ok.injEq,Prod.mk.injEq] at hsc;obtain⟨rfl,rfl⟩:=hsc;have h1:=stmtE hq P F hF hnd x d _ a.next s.next c2 aw2 hok.1 hx h.next;simp only[Wk.stmts,evStmts];cases he:evStmt q P F x a.next with
    |error n=>rw[he] at h1;exact Hit.stk h1 (Stk.stmts _ _ _ _)
    |ok a1=>
     rw[he] at h1;obtain⟨h1,h2⟩:=h1;have h3:=stmtsE hq P F hF hnd l d c2 a1 _ c3 aw3 hok.2 hl h1;simp only;cases he2:evStmts q P F l a1 with
     |error n=>rw[he2] at h3;exact h3
     |ok a2=>rw[he2] at h3;exact⟨h3.1,by rw[h3.2,h2,List.append_assoc];rfl⟩
end
theorem scGive_ne {a:Sc} {s:ByteArray} {x:Int×Int} (h:a.give s= .error x):x.2≠0:=by
 unfold Sc.give at h;split at h
 ·cases h;simp
 ·cases h
theorem scGives_ne {a:Sc} {k:UInt8} {s:ByteArray} {x:Int×Int} (h:a.gives k s= .error x):x.2≠0:=by
 unfold Sc.gives at h;split at h
 ·cases h
 ·split at h
  ·rename_i hg;cases h;exact scGive_ne hg
  ·cases h
mutual
theorem scStmt_ne (P:List Fu) (F:Nat):∀(s:St) (a:Sc) (x:Int×Int),scStmt P F s a= .error x→x.2≠0
 | .mk k nm fr se mt ex args body els,a,x,h=>by
   rw[scStmt] at h;split at h
   ·cases h;simp
   ·split at h
    ·rename_i hg;cases h;exact scGives_ne hg
    ·split at h
     ·rename_i hg;cases h;exact scStmts_ne P F body _ _ _ hg
     ·split at h
      ·rename_i hg;cases h;exact scStmts_ne P F els _ _ _ hg
      ·split at h<;>cases h
theorem scStmts_ne (P:List Fu) (F:Nat):∀(l:List St) (a:Sc) (aw:List ByteArray) (x:Int×Int),scStmts P F l a aw= .error x→x.2≠0
 |[],_,_,_,h=>by rw[scStmts] at h;cases h
 |s::l,a,aw,x,h=>by
  rw[scStmts] at h;split at h
  ·rename_i hg;cases h;exact scStmt_ne P F s _ _ hg
  ·exact scStmts_ne P F l _ _ _ h
end
theorem scParams_ne:∀(l:List Pa) (a:Sc) (x:Int×Int),scParams l a= .error x→x.2≠0
 |[],_,_,h=>by rw[scParams] at h;cases h
 |p::l,a,x,h=>by
  rw[scParams] at h;split at h
  ·rename_i hg;cases h;exact scGive_ne hg
  ·exact scParams_ne l _ _ h
theorem scFun_ne {P:List Fu} {F:Nat} {f:Fu} {n:Int} {x:Int×Int} (h:scFun P F f n= .error x):x.2≠0:=by
 unfold scFun at h;split at h
 ·cases h;simp
 ·split at h
  ·rename_i hg;cases h;exact scParams_ne _ _ _ hg
  ·split at h
   ·rename_i hg;cases h;exact scStmts_ne _ _ _ _ _ _ hg
   ·split at h
    ·cases h
    ·cases h;simp
theorem scWalk_ne (P:List Fu):∀(n:Nat) (x:Int×Int),scWalk P n= .error x→x.2≠0
 |0,_,h=>by rw[scWalk] at h;cases h
 |n+1,x,h=>by
  rw[scWalk] at h;split at h
  ·rename_i hg;cases h;exact scWalk_ne P n _ hg
  ·exact scFun_ne h
def layM (P:List Fu):Nat→Int×Int
 |0=>scCheck P
 |k+1=>if(layM P k).2≠0 then layM P k else evCheck (k+1:Nat) P
theorem sc_ok {P:List Fu} (h:(scCheck P).2=0):mayM P=true∧∃m,scWalk P P.length= .ok m:=by
 cases hm:mayM P with
 |false=>
  rw[scCheck,hm] at h;have h:(2:Int)=0:=h;exact absurd h (by decide)
 |true=>
  refine⟨rfl,?_⟩;cases hx:scWalk P P.length with
  |ok m=>exact⟨m,rfl⟩
  |error x=>
   rw[scCheck,hm,hx] at h;simp only[if_true] at h;exact absurd h (scWalk_ne P _ _ hx)
theorem layM_sc {P:List Fu}:∀k,(layM P k).2=0→(scCheck P).2=0
 |0,h=>h
 |k+1,h=>by
  rw[layM] at h;split at h
  ·rename_i hne;exact absurd h hne
  ·rename_i he;exact layM_sc k (by simpa using he)
section
theorem scps_snoc (x:Pa):∀(l:List Pa) (a:Sc),scParams (l++[x]) a=match scParams l a with
  | .error y=>.error y
  | .ok a1=>a1.give x.name
 |[],a=>by simp only[List.nil_append,scParams];cases a.give x.name<;>rfl
 |y::l,a=>by
  simp only[List.cons_append,scParams];cases a.give y.name with
  |error z=>rfl
  |ok a1=>exact scps_snoc x l a1
section
variable {q:Int} (hq:1≤q)
include hq
theorem paramsE (F:Nat) (ps:List Pa) (hp:ps.all parM=true) (c0:Sc) (a0:Ev) (s0:Wk) (h0:Rel F c0 a0 s0):∀i,i≤ps.length→∀c,scParams (ps.take i) c0= .ok c→Rel F c (evParams (ps.take i) a0) (Wk.paramN (10+q) ps s0 i)
 |0,_,c,h=>by cases h;exact h0
 |i+1,hi,c,h=>by
  have hi':i<ps.length:=hi;rw[List.take_succ_eq_append_getElem hi',scps_snoc] at h;cases hx:scParams (ps.take i) c0 with
  |error y=>rw[hx] at h;cases h
  |ok c1=>
   rw[hx] at h;have ih:=paramsE F ps hp c0 a0 s0 h0 i (by omega) c1 hx;have hg:ps.getD i Pa.zero=ps[i]:=by rw[List.getD_eq_getElem?_getD,List.getElem?_eq_getElem hi',Option.getD_some]
   have hpm:=List.all_eq_true.1 hp ps[i] (List.getElem_mem hi');simp only[parM,Bool.and_eq_true] at hpm;rw[List.take_succ_eq_append_getElem hi',Wk.paramN,hg,evParams,List.foldl_append];exact(ih.give hq h (emp_of_named hpm.1) ⟨ps[i].name,ps[i].buf,ps[i].sec,ps[i].mt,false,false,false,0,0⟩ rfl ⟨ps[i].buf,ps[i].sec,ps[i].mt,false,false,false,0,0⟩ rfl lent0).1
theorem headN_ck (P:List Fu) (nm:ByteArray) (s:Wk):∀i,Wk.headN (10+q) P nm s i=s
 |0=>rfl
 |i+1=>by rw[Wk.headN,bad_10 hq,headN_ck P nm s i]
theorem retN_ck (s:Wk) (hl:LR s) (ret:List Ex) (sec:Bool) (hx:ret.all exM=true) (hk:Ex.askss (inM (ks s)) ret=true):∀i,i≤ret.length→Wk.retN (10+q) ret sec s i=s.ck q ((ret.take i).all fun e=>intoG q s.g e sec)
 |0,_=>by simp[Wk.retN,ck_true]
 |i+1,hi=>by
  have hi':i<ret.length:=hi;have hg:exAt ret i=ret[i]:=by rw[exAt,List.getD_eq_getElem?_getD,List.getElem?_eq_getElem hi',Option.getD_some]
  rw[Wk.retN,retN_ck s hl ret sec hx hk i (by omega),show ret.getD i Ex.zero=exAt ret i from rfl,opn_ck hq (hl.ck _ _) (exAt_all hx hi') (by rw[ck_ks];exact asks_at hk i hi'),ck_ck,ck_g,hg,List.take_succ_eq_append_getElem hi',List.all_append];simp
structure At0 (n:Int) (F:Nat) (s:Wk):Prop where
 fine:s.fine=true
 n:s.n=n
 f:s.f=(F:Int)
 loops:s.loops=0
def OutW (q:Int) (F:Nat) (t:Wk) (r:Er Int):Prop:=match r with
 | .error n=>Hit t (n,codeOf q)
 | .ok n=>At0 n F t
theorem funE (P:List Fu) (F:Nat) (hF:F<P.length) (hnd:((P.take F).map Fu.name).Nodup) (f:Fu) (hok:okF f=true) (n0 m n:Int) (hsc:scFun P F f n0= .ok m) (s:Wk) (h:At0 n F s):OutW q F (Wk.fun1 (10+q) P f s) (evFun q P F f n):=by
 simp only[okF,funM,fheadM,Bool.and_eq_true] at hok;obtain⟨hbody,⟨⟨⟨_,_⟩,hret⟩,_⟩,hpar⟩:=hok;unfold scFun at hsc;split at hsc
 ·cases hsc
 split at hsc
 ·cases hsc
 rename_i c hc;split at hsc
 ·cases hsc
 rename_i c1 aw hb;split at hsc
 case isFalse=>cases hsc
 case isTrue hr=>
 unfold Wk.fun1 Wk.head Wk.tail evFun;rw[headN_ck hq];have h0:Rel F ⟨[],[],n0⟩ ⟨[],n,0⟩ s.fresh:=⟨h.fine,h.n,h.loops,h.f,rfl,List.nodup_nil,fun x hx=>(by cases hx),fun x=>rfl,fun x hx=>hx,fun v hv=>(by cases hv)⟩;have hp:=paramsE hq F f.params hpar _ _ _ h0 f.params.length (Nat.le_refl _) c (by rw[List.take_length];exact hc);rw[List.take_length] at hp;generalize Wk.paramN (10+q) f.params s.fresh f.params.length=G at*;have hB:=stmtsE hq P F hF hnd f.body 1 c _ G c1 aw hbody hb hp;generalize Wk.stmts (10+q) P f.body G=T at*;cases he:evStmts q P F f.body (evParams f.params ⟨[],n,0⟩) with
 |error x=>rw[he] at hB;exact(Hit.stk hB (Stk.next _)).stk ((Stk.retN _ _ _ _ _).trans (Stk.next _))
 |ok a=>
  rw[he] at hB;obtain⟨hR,hk⟩:=hB;simp only;have hl:LR T.next:=hR.lr;have hka:Ex.askss (inM (ks T.next)) f.ret=true:=by
   have:inM (ks T.next)=inM c1.kn:=hR.knf.symm;rw[this];exact hr
  rw[retN_ck hq T.next hl f.ret f.sec hret hka f.ret.length (Nat.le_refl _),List.take_length];have e:(f.ret.all fun e=>intoG q T.next.g e f.sec)=f.ret.all fun e=>a.into q e f.sec:=by
   congr 1;funext e;rw[into_g hR];rfl
  rw[e];cases f.ret.all fun e=>a.into q e f.sec with
  |false=>
   have:=ck_hit (q:=q) (s:=T.next) hR.fine;rw[show T.next.n=a.n+1 from by show T.n+1=_;rw[hR.n]] at this;exact Hit.stk this (Stk.next _)
  |true=>
   rw[ck_true];exact⟨hR.fine,by show T.n+1+1=_;rw[hR.n],hR.f,by
    show T.loops=0
    rw[hR.loops,(evStmts_n q P F f.body _ _ he).1,(evParams_n _ _).1]⟩
end
theorem scFun_new {P:List Fu} {F:Nat} {f:Fu} {n m:Int} (h:scFun P F f n= .ok m):((P.take F).any fun g=>sq g.name f.name)=false:=by
 unfold scFun at h;split at h
 ·cases h
 ·rename_i hh;simpa using hh
theorem scWalk_at {P:List Fu} {i:Nat} {m:Int} (hi:i<P.length) (h:scWalk P (i+1)= .ok m):∃n,scWalk P i= .ok n∧scFun P i P[i] n= .ok m:=by
 rw[scWalk] at h;split at h
 ·cases h
 ·rename_i n hn;rw[List.getD_eq_getElem?_getD,List.getElem?_eq_getElem hi,Option.getD_some] at h;exact⟨n,hn,h⟩
theorem names_nodup (P:List Fu):∀(i:Nat) (m:Int),i≤P.length→scWalk P i= .ok m→((P.take i).map Fu.name).Nodup
 |0,_,_,_=>by simp
 |i+1,m,hi,h=>by
  obtain⟨n,hn,hf⟩:=scWalk_at (by omega) h;have ih:=names_nodup P i n (by omega) hn;have hx:=scFun_new hf;rw[List.take_succ_eq_append_getElem (by omega),List.map_append,List.nodup_append];refine⟨ih,by simp,?_⟩;intro x hx1 y hy e;simp only[List.map_cons,List.map_nil,List.mem_singleton] at hy;subst hy e;obtain⟨g,hg,e⟩:=List.mem_map.1 hx1;rw[List.any_eq_false] at hx;exact hx g hg (sq_iff.2 e)
theorem walkE {q:Int} (hq:1≤q) (P:List Fu) (hok:P.all okF=true):∀(i:Nat) (m:Int),i≤P.length→scWalk P i= .ok m→OutW q i (Wk.walkN (10+q) P Wk.zero i) (evWalk q P i)
 |0,_,_,_=>⟨rfl,rfl,rfl,rfl⟩
 |i+1,m,hi,h=>by
  obtain⟨n,hn,hf⟩:=scWalk_at (by omega) h;have ih:=walkE hq P hok i n (by omega) hn;unfold Wk.walkN evWalk;have hg:P.getD i Fu.zero=P[i]:=by simp[List.getD_eq_getElem?_getD,show i<P.length by omega]
  rw[hg];generalize Wk.walkN (10+q) P Wk.zero i=s at*;cases hx:evWalk q P i with
  |error x=>rw[hx] at ih;exact(Hit.stk ih (Stk.fun1 _ _ _ _)).stk (Stk.same rfl rfl)
  |ok n1=>
   rw[hx] at ih;have h1:=funE hq P i (by omega) (names_nodup P i n (by omega) hn) P[i] (by rw[List.all_eq_true] at hok;exact hok _ (List.getElem_mem _)) n m n1 hf s ih;simp only;cases hy:evFun q P i P[i] n1 with
   |error x=>rw[hy] at h1;exact Hit.stk h1 (Stk.same rfl rfl)
   |ok m1=>rw[hy] at h1;exact⟨h1.fine,h1.n,by show(Wk.fun1 (10+q) P P[i] s).f+1=_;rw[h1.f];omega,h1.loops⟩
theorem law_ev {q:Int} (hq:1≤q) (P:List Fu) (hm:mayM P=true) {m:Int} (hs:scWalk P P.length= .ok m):
  evCheck q P=if(Wk.walk (10+q) P).fine then(0,0) else((Wk.walk (10+q) P).fat,(Wk.walk (10+q) P).ferr):=by
 have hok:P.all okF=true:=by simp only[mayM,Bool.and_eq_true] at hm;exact hm.1
 have h:=walkE hq P hok P.length m (Nat.le_refl _) hs;unfold evCheck Wk.walk;cases hx:evWalk q P P.length with
 |error x=>rw[hx] at h;rw[h.1];exact(Prod.ext h.2.1 h.2.2).symm
 |ok n=>rw[hx] at h;rw[h.fine];rfl
theorem law_lay (P:List Fu):∀k,layM P k=refCheck P (10+k)
 |0=>law10 P
 |k+1=>by
  have ih:=law_lay P k;rw[layM,ih];cases hm:mayM P with
  |false=>simp[refCheck,hm]
  |true=>
   have e1:∀j,refCheck P (10+j)=refN P (j+1):=fun j=>by rw[refCheck,hm,if_pos rfl];congr 1;omega
   rw[e1,show 10+(k+1)=10+(k+1) from rfl,e1];by_cases h0:(refN P (k+1)).2=0
   ·rw[if_neg (by simpa using h0)];rw[e1] at ih;obtain⟨_,m,hs⟩:=sc_ok (layM_sc k (by rw[ih];exact h0));rw[law_ev (q:=((k+1:Nat):Int)) (by omega) P hm hs];have ec:((10+(k+1):Nat):Int)=10+((k+1:Nat):Int):=by omega
    have e2:refN P (k+1+1)=if(Wk.walk ((10+(k+1):Nat):Int) P).fine then(0,0) else((Wk.walk ((10+(k+1):Nat):Int) P).fat,(Wk.walk ((10+(k+1):Nat):Int) P).ferr):=by
     show(if(refN P (k+1)).2≠0 then _ else _)=_
     rw[if_neg (by simpa using h0)]
    rw[e2,ec]
   ·rw[if_pos h0];show _=(if(refN P (k+1)).2≠0 then _ else _)
    rw[if_pos h0]
end
end Go.Proofs.YtpkpgmnbheenbaaGreatDoor
