/- Contracts and laws, Mg08 -/
import Derived.Test.YtpkpgmnbheenbaaGreatDoorMg01
import Derived.Test.YtpkpgmnbheenbaaGreatDoorMg03
import Derived.Test.YtpkpgmnbheenbaaGreatDoorMg07
namespace Go.Proofs.YtpkpgmnbheenbaaGreatDoor
open Go.RowKit
set_option linter.unusedVariables false
set_option linter.unusedSimpArgs false
set_option maxHeartbeats 8000000
set_option maxRecDepth 100000
def ks (s:Wk):List ByteArray:=s.env.map (·.name)
theorem find_ks (s:Wk) (nm:ByteArray):(s.find nm).isSome=inM (ks s) nm:=by
 rw[Bool.eq_iff_iff,Wk.find,List.find?_isSome,inM_iff,ks];simp only[sq_iff,List.mem_map]
theorem bad_ne {ru r:Int} (h:r≠ru) (s:Wk) (is:Bool) (e:Int):s.bad ru r is e=s:=by
 unfold Wk.bad;rw[if_neg];simp[h]
theorem bad_false (ru r:Int) (s:Wk) (e:Int):s.bad ru r false e=s:=by unfold Wk.bad;simp
theorem bad_ks (ru r:Int) (s:Wk) (is:Bool) (e:Int):ks (s.bad ru r is e)=ks s:=by unfold ks;rw[(bad_env _ _ _ _ _).1]
theorem bad_unfine {s:Wk} (h:s.fine=false) (ru r:Int) (is:Bool) (e:Int):s.bad ru r is e=s:=by unfold Wk.bad;simp[h]
theorem bad_bad (s:Wk) (ru r:Int) (a b:Bool) (e:Int) (he:e≠0):(s.bad ru r a e).bad ru r b e=s.bad ru r (a||b) e:=by
 unfold Wk.bad;by_cases hr:r=ru
 ·subst hr;cases a<;>cases hf:s.fine<;>simp[Wk.fine,he]<;>simp_all [Wk.fine]
 ·simp[hr]
theorem ask10 (s:Wk) (nm:ByteArray) (b:Bool):(s.ask 10 nm b).2=s.bad 10 10 (!inM (ks s) nm) 3:=by
 simp only[Wk.ask,Wk.askS];rw[bad_ne (by decide),bad_ne (by decide),bad_ne (by decide),find_ks]
theorem may_kids {e:Ex} {d:Nat} (h:Ex.may e d=true):shapeM e=true∧∀x∈e.kids,Ex.may x (d+1)=true:=by
 obtain⟨k,n,nm,o,l⟩:=e;simp only[Ex.may,Bool.and_eq_true] at h;refine⟨h.1.2,fun x hx=>?_⟩;have hm:=h.2;rw[mays_all,List.all_eq_true] at hm;exact hm x hx
theorem shape_mk (k:UInt8) (n:UInt64) (nm:ByteArray) (o:UInt8) (l:List Ex):shapeM (.mk k n nm o l)=
 if k.toNat=1 then emp nm&&o.toNat==0&&l.length==0
 else if k.toNat=2∨k.toNat=4 then n.toNat==0&&namedM nm&&o.toNat==0&&l.length==0
 else if k.toNat=3 then n.toNat==0&&emp nm&& !emp (signM o)&&l.length==2
 else if k.toNat=5 then n.toNat==0&&namedM nm&&o.toNat==0&&l.length==1
 else false:=rfl
mutual
theorem sec10:∀(e:Ex) (d:Nat) (s:Wk),Ex.may e d=true→(Wk.sec 10 e s).2=s.bad 10 10 (!Ex.asks (inM (ks s)) e) 3
 | .mk k n nm o l,d,s,h=>by
   have hk:=may_kids h;simp only[Ex.may,Bool.and_eq_true] at h;have hl:=h.2;have hsh:=h.1.2;rw[shape_mk] at hsh;unfold Wk.sec Ex.asks;by_cases h1:k.toNat=1
   ·rw[if_pos h1] at hsh ⊢;simp at hsh;obtain⟨⟨a,b⟩,c⟩:=hsh;subst c;simp[Ex.askss,a,bad_false]
   ·rw[if_neg h1] at hsh ⊢;by_cases h2:k.toNat=2
    ·rw[if_pos (.inl h2)] at hsh;rw[if_pos h2];simp at hsh;obtain⟨⟨⟨a0,a⟩,b⟩,c⟩:=hsh;subst c;simp[Ex.askss,emp_of_named a,ask10]
    ·rw[if_neg h2];by_cases h4:k.toNat=4
     ·rw[if_pos (.inr h4)] at hsh;rw[if_pos h4];simp at hsh;obtain⟨⟨⟨a0,a⟩,b⟩,c⟩:=hsh;subst c;simp[Ex.askss,emp_of_named a,ask10]
     ·rw[if_neg (by omega)] at hsh;rw[if_neg h4];by_cases h3:k.toNat=3
      ·rw[if_pos h3] at hsh;rw[if_neg (by omega)];simp at hsh;obtain⟨⟨⟨a0,a⟩,b⟩,c⟩:=hsh;simp only[bad_ne (show(12:Int)≠10 by decide)];rw[secs10 l (d+1) s hl,a];simp
      ·rw[if_neg h3] at hsh;by_cases h5:k.toNat=5
       ·rw[if_pos h5] at hsh;rw[if_pos h5];simp at hsh;obtain⟨⟨⟨a0,a⟩,b⟩,c⟩:=hsh;simp only[bad_ne (show(12:Int)≠10 by decide)];rw[secs10 l (d+1) _ hl,ask10,bad_ks,bad_bad _ _ _ _ _ _ (by decide),emp_of_named a];simp[Bool.not_and]
       ·rw[if_neg h5] at hsh;cases hsh
theorem secs10:∀(l:List Ex) (d:Nat) (s:Wk),Ex.mays l d=true→(Wk.secs 10 l s).2=s.bad 10 10 (!Ex.askss (inM (ks s)) l) 3
 |[],d,s,h=>by simp[Wk.secs,Ex.askss,bad_false]
 |e::l,d,s,h=>by
  simp only[Ex.mays,Bool.and_eq_true] at h;simp only[Wk.secs,Ex.askss];rw[secs10 l d _ h.2,sec10 e d s h.1,bad_ks,bad_bad _ _ _ _ _ _ (by decide),Bool.not_and]
end
theorem pub10 (s:Wk) (e:Ex) (h:exM e=true):s.pub 10 e=s.bad 10 10 (!Ex.asks (inM (ks s)) e) 3:=by
 rw[Wk.pub,bad_ne (by decide),sec10 e 1 s h]
theorem opn10 (s:Wk) (e:Ex) (b:Bool) (h:exM e=true):s.opn 10 e b=s.bad 10 10 (!Ex.asks (inM (ks s)) e) 3:=by
 rw[Wk.opn,bad_ne (by decide),sec10 e 1 s h]
theorem turned10 (s:Wk) (nm:ByteArray):(s.turned 10 nm).2=s.bad 10 10 (!inM (ks s) nm) 3:=by
 simp only[Wk.turned];rw[bad_ne (by decide),bad_ne (by decide),ask10]
def Stk (s t:Wk):Prop:=s.fine=false→t.fat=s.fat∧t.ferr=s.ferr
theorem Stk.refl (s:Wk):Stk s s:=fun _=>⟨rfl,rfl⟩
theorem Stk.fine {s t:Wk} (h:Stk s t) (hs:s.fine=false):t.fine=false:=by
 have:=h hs;simp[Wk.fine] at hs ⊢;rw[this.2];exact hs
theorem Stk.trans {s t u:Wk} (h:Stk s t) (g:Stk t u):Stk s u:=fun hs=>
 ⟨(g (h.fine hs)).1.trans (h hs).1,(g (h.fine hs)).2.trans (h hs).2⟩
theorem Stk.bad (s:Wk) (ru r:Int) (is:Bool) (e:Int):Stk s (s.bad ru r is e):=fun hs=>by rw[bad_unfine hs];exact⟨rfl,rfl⟩
theorem Stk.same {s t:Wk} (h1:t.fat=s.fat) (h2:t.ferr=s.ferr):Stk s t:=fun _=>⟨h1,h2⟩
theorem Stk.give (ru:Int) (s:Wk) (v:Va):Stk s (s.give ru v):=(Stk.bad s ru 10 (inM s.given v.name) 9).trans (Stk.same rfl rfl)
theorem Stk.ask (ru:Int) (s:Wk) (nm:ByteArray) (b:Bool):Stk s (s.ask ru nm b).2:=
 (((Stk.bad _ _ _ _ _).trans (Stk.bad _ _ _ _ _)).trans (Stk.bad _ _ _ _ _)).trans (Stk.bad _ _ _ _ _)
mutual
theorem Stk.sec (ru:Int):∀(e:Ex) (s:Wk),Stk s (Wk.sec ru e s).2
 | .mk k n nm o l,s=>by
   unfold Wk.sec;split
   ·exact Stk.refl _
   ·split
    ·exact Stk.ask _ _ _ _
    ·split
     ·exact Stk.ask _ _ _ _
     ·split
      ·exact((Stk.ask _ _ _ _).trans (Stk.secs ru l _)).trans (Stk.bad _ _ _ _ _)
      ·exact(Stk.secs ru l _).trans (Stk.bad _ _ _ _ _)
theorem Stk.secs (ru:Int):∀(l:List Ex) (s:Wk),Stk s (Wk.secs ru l s).2
 |[],s=>Stk.refl _
 |e::l,s=>(Stk.sec ru e s).trans (Stk.secs ru l _)
end
theorem Stk.pub (ru:Int) (s:Wk) (e:Ex):Stk s (s.pub ru e):=(Stk.sec ru e s).trans (Stk.bad _ _ _ _ _)
theorem Stk.opn (ru:Int) (s:Wk) (e:Ex) (b:Bool):Stk s (s.opn ru e b):=(Stk.sec ru e s).trans (Stk.bad _ _ _ _ _)
theorem Stk.turned (ru:Int) (s:Wk) (nm:ByteArray):Stk s (s.turned ru nm).2:=((Stk.ask ru s nm true).trans (Stk.bad _ _ _ _ _)).trans (Stk.bad _ _ _ _ _)
theorem Stk.lentN (ru:Int) (args:List ByteArray) (k:Nat) (mt:Bool) (s:Wk):∀j,Stk s (Wk.lentN ru args k mt s j)
 |0=>Stk.refl _
 |j+1=>(Stk.lentN ru args k mt s j).trans (Stk.bad _ _ _ _ _)
theorem Stk.hand1 (ru:Int) (args:List ByteArray) (k:Nat) (s:Wk) (x:Pa):Stk s (Wk.hand1 ru args k s x):=
 (((Stk.bad _ _ _ _ _).trans (Stk.bad _ _ _ _ _)).trans (Stk.bad _ _ _ _ _)).trans (Stk.lentN _ _ _ _ _ _)
theorem Stk.handN (ru:Int) (ps:List Pa) (args:List ByteArray) (s:Wk):∀i,Stk s (Wk.handN ru ps args s i).2
 |0=>Stk.refl _
 |i+1=>by
  simp only[Wk.handN];split
  ·exact Stk.handN ru ps args s i
  ·exact(Stk.handN ru ps args s i).trans (Stk.hand1 _ _ _ _ _)
theorem Stk.handed (ru:Int) (ps:List Pa) (args:List ByteArray) (s:Wk):Stk s (s.handed ru ps args):=(Stk.handN ru ps args s _).trans (Stk.bad _ _ _ _ _)
theorem Stk.callN (ru:Int) (ps:List Pa) (ex:List Ex) (s:Wk):∀i,Stk s (Wk.callN ru ps ex s i).2.2
 |0=>Stk.refl _
 |i+1=>by
  have:=Stk.callN ru ps ex s i;simp only[Wk.callN];split
  ·exact this
  ·simp only;split
   ·exact this.trans (Stk.opn _ _ _ _)
   ·exact this
theorem Stk.secN (ru:Int) (ex:List Ex) (n:Nat) (s:Wk):∀i,Stk s (Wk.secN ru ex n s i)
 |0=>Stk.refl _
 |i+1=>(Stk.secN ru ex n s i).trans (Stk.sec _ _ _)
theorem Stk.askN (ru:Int) (args:List ByteArray) (s:Wk):∀i,Stk s (Wk.askN ru args s i)
 |0=>Stk.refl _
 |i+1=>(Stk.askN ru args s i).trans (Stk.ask _ _ _ _)
theorem Stk.call2 (ru:Int) (f:Option Fu) (nm:ByteArray) (ex:List Ex) (args:List ByteArray) (s:Wk):Stk s (s.call2 ru f nm ex args):=
 (((((Stk.callN _ _ _ _ _).trans (Stk.secN _ _ _ _ _)).trans (Stk.askN _ _ _ _)).trans (Stk.bad _ _ _ _ _)).trans (Stk.bad _ _ _ _ _)).trans (Stk.handed _ _ _ _)
theorem Stk.call (ru:Int) (P:List Fu) (nm fr:ByteArray) (ex:List Ex) (args:List ByteArray) (s:Wk):Stk s (s.call ru P nm fr ex args):=by
 unfold Wk.call;simp only;split
 ·exact Stk.call2 _ _ _ _ _ _
 ·exact(Stk.call2 _ _ _ _ _ _).trans (Stk.give _ _ _)
theorem Stk.put (s:Wk) (v:Va):Stk s (s.put v):=Stk.same rfl rfl
theorem Stk.lend1 (ru:Int) (fr:ByteArray) (mt:Bool) (ex:List Ex) (s:Wk):Stk s (s.lend1 ru fr mt ex).2:=by
 unfold Wk.lend1;simp only;split
 ·exact((((Stk.pub _ _ _).trans (Stk.pub _ _ _)).trans (Stk.ask _ _ _ _)).trans (Stk.turned _ _ _)).trans (Stk.put _ _)
 ·exact(((Stk.pub _ _ _).trans (Stk.pub _ _ _)).trans (Stk.ask _ _ _ _)).trans (Stk.put _ _)
theorem Stk.move (ru:Int) (nm fr:ByteArray) (s:Wk):Stk s (s.move ru nm fr):=
 (((((Stk.ask _ _ _ _).trans (Stk.bad _ _ _ _ _)).trans (Stk.bad _ _ _ _ _)).trans (Stk.bad _ _ _ _ _)).trans (Stk.put _ _)).trans (Stk.give _ _ _)
theorem Stk.sealE (ru:Int) (l:List Va):∀s:Wk,Stk s (s.sealE ru l):=by
 induction l with
 |nil=>intro s;exact Stk.refl _
 |cons v l ih=>intro s;exact(Stk.bad s ru 12 (!v.buf&&v.sec) 120).trans (ih _)
theorem Stk.sealed (ru:Int) (s:Wk) (n:Int):Stk s (s.sealed ru n):=(Stk.bad _ _ _ _ _).trans (Stk.sealE _ _ _)
theorem Stk.up (s t:Wk) {u:Wk} (h:Stk t u) (h1:t.fat=s.fat) (h2:t.ferr=s.ferr):Stk s u:=(Stk.same h1 h2).trans h
theorem Stk.cut (s:Wk) (m:Nat):Stk s (s.cut m):=Stk.same rfl rfl
theorem Stk.back (s:Wk) (e:List Va):Stk s (s.back e):=Stk.same rfl rfl
theorem Stk.join (s:Wk) (e:List Va):Stk s (s.join e):=Stk.same rfl rfl
theorem Stk.deeper (s:Wk):Stk s s.deeper:=Stk.same rfl rfl
theorem Stk.loopOut (s:Wk) (m:Nat):Stk s (s.loopOut m):=Stk.same rfl rfl
theorem Stk.loopIn (ru:Int) (k:UInt8) (nm:ByteArray) (ex:List Ex) (s:Wk):Stk s (s.loopIn ru k nm ex):=by
 unfold Wk.loopIn;split
 ·exact((Stk.pub _ _ _).trans (Stk.deeper _)).trans (Stk.give _ _ _)
 ·exact(Stk.pub _ _ _).trans (Stk.deeper _)
theorem Stk.next (s:Wk):Stk s s.next:=Stk.same rfl rfl
mutual
theorem Stk.stmt (ru:Int) (P:List Fu):∀(st:St) (s:Wk),Stk s (Wk.stmt ru P st s)
 | .mk k nm fr sec mt ex args body els,s=>by
   unfold Wk.stmt;split
   ·exact(Stk.opn _ _ _ _).trans (Stk.give _ _ _)
   split
   ·exact(((Stk.sec _ _ _).trans (Stk.ask _ _ _ _)).trans (Stk.bad _ _ _ _ _)).trans (Stk.bad _ _ _ _ _)
   split
   ·exact(Stk.pub _ _ _).trans (Stk.give _ _ _)
   split
   ·exact(((Stk.pub _ _ _).trans (Stk.sec _ _ _)).trans (Stk.turned _ _ _)).trans (Stk.bad _ _ _ _ _)
   split
   ·exact((((Stk.pub ru s (exAt ex 0)).trans (Stk.stmts ru P body _)).trans (Stk.cut _ _)).trans ((Stk.back _ _).trans (Stk.stmts ru P els _))).trans ((Stk.cut _ _).trans (Stk.join _ _))
   split
   ·exact((Stk.loopIn ru k nm ex s).trans (Stk.stmts ru P body _)).trans ((Stk.cut _ _).trans (Stk.loopOut _ _))
   split
   ·exact(((Stk.lend1 ru fr mt ex s).trans (Stk.give ru _ _)).trans (Stk.stmts ru P body _)).trans ((Stk.cut _ _).trans ((Stk.cut _ _).trans (Stk.put _ _)))
   split
   ·exact Stk.move _ _ _ _
   split
   ·exact(Stk.sec _ _ _).trans (Stk.give _ _ _)
   split
   ·exact Stk.call _ _ _ _ _ _ _
   ·exact Stk.sealed _ _ _
theorem Stk.stmts (ru:Int) (P:List Fu):∀(l:List St) (s:Wk),Stk s (Wk.stmts ru P l s)
 |[],s=>Stk.refl _
 |x::l,s=>by
  unfold Wk.stmts;exact((Stk.next s).trans (Stk.stmt ru P x _)).trans (Stk.stmts ru P l _)
end
theorem Stk.retN (ru:Int) (ret:List Ex) (sec:Bool) (s:Wk):∀i,Stk s (Wk.retN ru ret sec s i)
 |0=>Stk.refl _
 |i+1=>(Stk.retN ru ret sec s i).trans (Stk.opn _ _ _ _)
theorem Stk.paramN (ru:Int) (ps:List Pa) (s:Wk):∀i,Stk s (Wk.paramN ru ps s i)
 |0=>Stk.refl _
 |i+1=>(Stk.paramN ru ps s i).trans (Stk.give _ _ _)
theorem Stk.headN (ru:Int) (P:List Fu) (nm:ByteArray) (s:Wk):∀i,Stk s (Wk.headN ru P nm s i)
 |0=>Stk.refl _
 |i+1=>(Stk.headN ru P nm s i).trans (Stk.bad _ _ _ _ _)
theorem Stk.fun1 (ru:Int) (P:List Fu) (f:Fu) (s:Wk):Stk s (Wk.fun1 ru P f s):=
 (((Stk.headN _ _ _ _ _).trans (Stk.same rfl rfl:Stk _ (Wk.fresh _))).trans ((Stk.paramN _ _ _ _).trans (Stk.stmts _ _ _ _))).trans ((Stk.next _).trans ((Stk.retN _ _ _ _ _).trans (Stk.next _)))
theorem give10 (s:Wk) (v:Va) (h:s.fine=true):if inM s.given v.name then(s.give 10 v).fine=false∧(s.give 10 v).fat=s.n∧(s.give 10 v).ferr=9
  else(s.give 10 v).fine=true∧ks (s.give 10 v)=ks s++[v.name]∧(s.give 10 v).given=s.given++[v.name]∧(s.give 10 v).n=s.n∧(s.give 10 v).f=s.f:=by
 have h0:s.ferr=0:=by simpa[Wk.fine] using h
 unfold Wk.give Wk.bad;cases hg:inM s.given v.name
 ·simp[h0,ks,Wk.fine]
 ·simp[h0,Wk.fine]
structure Sim (a:Sc) (s:Wk):Prop where
 fine:s.fine=true
 kn:inM a.kn=inM (ks s)
 gi:inM a.gi=inM s.given
 sub:∀x,inM a.kn x=true→inM a.gi x=true
 n:a.n=s.n
def Hit (t:Wk) (x:Int×Int):Prop:=t.fine=false∧t.fat=x.1∧t.ferr=x.2
theorem Hit.stk {s t:Wk} {x:Int×Int} (h:Hit s x) (g:Stk s t):Hit t x:=⟨g.fine h.1,(g h.1).1.trans h.2.1,(g h.1).2.trans h.2.2⟩
theorem Sim.hit {a:Sc} {s:Wk} (h:Sim a s) {b:Bool} (hb:b=false):Hit (s.bad 10 10 (!b) 3) (a.n,3):=by
 have h0:s.ferr=0:=by simpa[Wk.fine] using h.fine
 unfold Wk.bad Hit;simp[hb,h0,Wk.fine,h.n]
theorem Sim.same {a:Sc} {s t:Wk} (h:Sim a s) (h1:t.fine=s.fine) (h2:ks t=ks s) (h3:t.given=s.given) (h4:t.n=s.n):Sim a t:=
 ⟨h1.trans h.fine,by rw[h2];exact h.kn,by rw[h3];exact h.gi,h.sub,by rw[h4];exact h.n⟩
theorem Sim.give {a:Sc} {s:Wk} (h:Sim a s) (v:Va):match a.give v.name with
  | .error x=>Hit (s.give 10 v) x
  | .ok a1=>Sim a1 (s.give 10 v)∧ks (s.give 10 v)=ks s++[v.name]∧inM a.gi v.name=false∧(∀x,inM a.gi x=true→inM a1.gi x=true)∧(s.give 10 v).f=s.f:=by
 have hg:=give10 s v h.fine;unfold Sc.give;rw[show inM a.gi v.name=inM s.given v.name from congrFun h.gi _];cases hx:inM s.given v.name
 ·rw[hx] at hg;simp only[Bool.false_eq_true,if_false] at hg ⊢;refine⟨⟨hg.1,?_,?_,?_,?_⟩,hg.2.1,trivial,?_,hg.2.2.2.2⟩
  ·funext x;simp only[inM_addN,hg.2.1,inM_append,h.kn];simp[inM]
  ·funext x;simp only[inM_addN,hg.2.2.1,inM_append,h.gi];simp[inM]
  ·intro x;simp only[inM_addN,Bool.or_eq_true];exact fun hh=>hh.imp (h.sub x) id
  ·rw[hg.2.2.2.1];exact h.n
  ·intro x hx;simp only[inM_addN,Bool.or_eq_true];exact .inl hx
 ·rw[hx] at hg;simp only[if_true] at hg ⊢;exact⟨hg.1,hg.2.1.trans h.n.symm,hg.2.2⟩
def Out (a:Sc) (s t:Wk) (r:Except (Int×Int) (Sc×List ByteArray)):Prop:=match r with
 | .error x=>Hit t x
 | .ok (a1,aw)=>Sim a1 t∧ks t=ks s++aw∧(∀x∈aw,inM a.gi x=false)∧(∀x,inM a.gi x=true→inM a1.gi x=true)∧t.f=s.f
def OutB (a:Sc) (s t:Wk) (r:Except (Int×Int) Sc):Prop:=match r with
 | .error x=>Hit t x
 | .ok a1=>Sim a1 t∧ks t=ks s∧(∀x,inM a.gi x=true→inM a1.gi x=true)∧t.f=s.f
theorem dels_kn (l:List ByteArray):∀(a:Sc) (x:ByteArray),inM (a.dels l).kn x=(inM a.kn x&& !inM l x):=by
 induction l with
 |nil=>intro a x;simp[Sc.dels,inM]
 |cons y l ih=>
  intro a x;show inM ((a.del y).dels l).kn x=_
  rw[ih,show(a.del y).kn=delN a.kn y from rfl,inM_delN];have:inM (y::l) x=(sq y x||inM l x):=by simp[inM]
  rw[this,show sq y x=sq x y by rw[Bool.eq_iff_iff,sq_iff,sq_iff,eq_comm]];cases inM a.kn x<;>cases sq x y<;>cases inM l x<;>rfl
theorem ks_cut (s:Wk) (m:Nat):ks (s.cut m)=(ks s).take m:=by simp[ks,Wk.cut,List.map_take]
theorem ks_len (s:Wk):(ks s).length=s.env.length:=by simp[ks]
theorem Out.block {a:Sc} {s t:Wk} {r:Except (Int×Int) (Sc×List ByteArray)} (hs:Sim a s) (h:Out a s t r):OutB a s (t.cut s.env.length) (scDels r):=by
 cases r with
 |error x=>exact Hit.stk h (Stk.cut _ _)
 |ok p=>
  obtain⟨a1,aw⟩:=p;obtain⟨h1,h2,h3,h4,h5⟩:=h;have hk:ks (t.cut s.env.length)=ks s:=by rw[ks_cut,h2,←ks_len,List.take_left'];rfl
  refine⟨⟨h1.fine,?_,?_,?_,?_⟩,hk,?_,h5⟩
  ·funext x;rw[dels_kn,h1.kn,hk,h2,inM_append];have hx:inM (ks s) x=true→inM aw x=false:=fun hx=>by
    cases hy:inM aw x
    ·rfl
    ·have:=h3 x (inM_iff.1 hy);rw[hs.sub x (by rw[hs.kn];exact hx)] at this;cases this
   cases hx1:inM (ks s) x
   ·simp
   ·simp[hx hx1]
  ·rw[(dels_gi _ _).1];exact h1.gi
  ·intro x;rw[dels_kn,(dels_gi _ _).1];simp only[Bool.and_eq_true];exact fun hh=>h1.sub x hh.1
  ·rw[(dels_gi _ _).2];exact h1.n
  ·intro x hx;rw[(dels_gi _ _).1];exact h4 x hx
theorem sc_plain (P:List Fu) (F:Nat) (k:UInt8) (nm fr:ByteArray) (sec mt:Bool) (ex:List Ex) (args:List ByteArray) (a:Sc) (h7:k.toNat≠7) (h8:k.toNat≠8):
  scStmt P F (.mk k nm fr sec mt ex args [] []) a=if !scHead P F (inM a.kn) k nm fr ex args then .error (a.n,3) else a.gives k nm:=by
 unfold scStmt;split
 ·rfl
 ·cases hg:a.gives k nm with
  |error x=>rfl
  |ok p=>obtain⟨a1,aw⟩:=p;simp[scStmts,Sc.dels,h7,h8]
theorem out_give {a:Sc} {s t:Wk} {v:Va} {b:Bool} (h:Sim a s) (ht:t=(s.bad 10 10 (!b) 3).give 10 v):Out a s t (if !b then .error (a.n,3) else match a.give v.name with
  | .error x=>.error x
  | .ok a1=>.ok (a1,[v.name])):=by
 subst ht;cases b with
 |false=>exact(h.hit rfl).stk (Stk.give _ _ _)
 |true=>
  have hg:=h.give v;simp only[Bool.not_true,bad_false,Bool.false_eq_true,if_false];cases hx:a.give v.name with
  |error x=>rw[hx] at hg;exact hg
  |ok a1=>
   rw[hx] at hg;exact⟨hg.1,hg.2.1,fun x hx=>by rw[List.mem_singleton] at hx;subst hx;exact hg.2.2.1,hg.2.2.2.1,hg.2.2.2.2⟩
theorem out_none {a:Sc} {s t:Wk} {b:Bool} (h:Sim a s) (ht:t=s.bad 10 10 (!b) 3):Out a s t (if !b then .error (a.n,3) else .ok (a,[])):=by
 subst ht;cases b with
 |false=>exact h.hit rfl
 |true=>
  simp only[Bool.not_true,bad_false,Bool.false_eq_true,if_false];exact⟨h,by simp,fun x hx=>by simp at hx,fun x hx=>hx,rfl⟩
theorem exAt_all {ex:List Ex} {i:Nat} (h:ex.all exM=true) (hi:i<ex.length):exM (exAt ex i)=true:=by
 rw[List.all_eq_true] at h;rw[exAt,List.getD_eq_getElem?_getD,List.getElem?_eq_getElem hi];exact h _ (List.getElem_mem hi)
theorem callN10 (ps:List Pa) (ex:List Ex) (s:Wk) (hx:ex.all exM=true):∀i,(Wk.callN 10 ps ex s i).2.2=s.bad 10 10 (!Ex.askss (inM (ks s)) (ex.take (Wk.callN 10 ps ex s i).1)) 3
 |0=>by simp[Wk.callN,Ex.askss,bad_false]
 |i+1=>by
  have ih:=callN10 ps ex s hx i;simp only[Wk.callN];generalize Wk.callN 10 ps ex s i=r at ih ⊢;split
  ·exact ih
  ·simp only;split
   ·rename_i hn;rw[ih,show ex.getD r.1 Ex.zero=exAt ex r.1 from rfl,opn10 _ _ _ (exAt_all hx hn),bad_ks,bad_bad _ _ _ _ _ _ (by decide),←Bool.not_and,askss_all,askss_all,List.take_succ_eq_append_getElem hn,List.all_append];simp[exAt,List.getD_eq_getElem?_getD,hn]
   ·rename_i hn;rw[ih,List.take_of_length_le (by omega),List.take_of_length_le (by omega)]
theorem secN10 (ex:List Ex) (n:Nat) (s:Wk) (hx:ex.all exM=true):∀i,n+i≤ex.length→Wk.secN 10 ex n s i=s.bad 10 10 (!Ex.askss (inM (ks s)) ((ex.drop n).take i)) 3
 |0,_=>by simp[Wk.secN,Ex.askss,bad_false]
 |i+1,hi=>by
  have hn:i<(ex.drop n).length:=by rw[List.length_drop];omega
  have he:=exAt_all hx (i:=n+i) (by omega);rw[exAt] at he;rw[Wk.secN,secN10 ex n s hx i (by omega),sec10 _ 1 _ he,bad_ks,bad_bad _ _ _ _ _ _ (by decide),←Bool.not_and,askss_all,askss_all,List.take_succ_eq_append_getElem hn,List.all_append];simp[List.getD_eq_getElem?_getD,show n+i<ex.length by omega]
theorem askN10 (args:List ByteArray) (s:Wk):∀i,i≤args.length→Wk.askN 10 args s i=s.bad 10 10 (!(args.take i).all (inM (ks s))) 3
 |0,_=>by simp[Wk.askN,bad_false]
 |i+1,hi=>by
  rw[Wk.askN,askN10 args s i (by omega),ask10,bad_ks,bad_bad _ _ _ _ _ _ (by decide),←Bool.not_and,List.take_succ_eq_append_getElem (by omega),List.all_append];simp[List.getD_eq_getElem?_getD,show i<args.length by omega]
theorem lentN10 (args:List ByteArray) (k:Nat) (mt:Bool) (s:Wk):∀j,Wk.lentN 10 args k mt s j=s
 |0=>rfl
 |j+1=>by rw[Wk.lentN,bad_ne (by decide),lentN10 args k mt s j]
theorem handN10 (ps:List Pa) (args:List ByteArray) (s:Wk):∀i,(Wk.handN 10 ps args s i).2=s
 |0=>rfl
 |i+1=>by
  simp only[Wk.handN];split
  ·exact handN10 ps args s i
  ·simp only[Wk.hand1];rw[lentN10,bad_ne (by decide),bad_ne (by decide),bad_ne (by decide),handN10 ps args s i]
theorem handed10 (ps:List Pa) (args:List ByteArray) (s:Wk):s.handed 10 ps args=s:=by rw[Wk.handed,bad_ne (by decide),handN10]
theorem find_any (l:List Fu) (nm:ByteArray):(l.find? fun f=>sq f.name nm).isSome=l.any fun f=>sq f.name nm:=by
 rw[Bool.eq_iff_iff,List.find?_isSome,List.any_eq_true]
theorem call2_10 (f:Option Fu) (nm:ByteArray) (ex:List Ex) (args:List ByteArray) (s:Wk) (hx:ex.all exM=true):
  s.call2 10 f nm ex args=s.bad 10 10 (!(Ex.askss (inM (ks s)) ex&&(args.all (inM (ks s))&&f.isSome))) 3:=by
 unfold Wk.call2;simp only;generalize hr:Wk.callN 10 (f.getD Fu.zero).params ex s (f.getD Fu.zero).params.length=r;have h1:=callN10 (f.getD Fu.zero).params ex s hx (f.getD Fu.zero).params.length;rw[hr] at h1;have key:Wk.secN 10 ex r.1 r.2.2 (ex.length-r.1)=s.bad 10 10 (!Ex.askss (inM (ks s)) ex) 3:=by
  by_cases hn:r.1≤ex.length
  ·rw[secN10 ex r.1 r.2.2 hx _ (by omega),h1,bad_ks,bad_bad _ _ _ _ _ _ (by decide),←Bool.not_and,List.take_of_length_le (l:=ex.drop r.1) (by rw[List.length_drop];omega),askss_all,askss_all,←List.all_append,List.take_append_drop,askss_all]
  ·rw[show ex.length-r.1=0 by omega,Wk.secN,h1,List.take_of_length_le (by omega)]
 rw[handed10,bad_ne (show(11:Int)≠10 by decide),key,askN10 _ _ _ (Nat.le_refl _),List.take_length,bad_ks,bad_bad _ _ _ _ _ _ (by decide),bad_bad _ _ _ _ _ _ (by decide)];congr 1;simp
theorem put_ks (s:Wk) (v:Va):ks (s.put v)=ks s:=by
 simp only[ks,Wk.put,List.map_map];apply List.map_congr_left;intro x hx;simp only[Function.comp];split
 ·rename_i h;exact(sq_iff.1 h).symm
 ·rfl
theorem Sim.put {a:Sc} {s:Wk} (h:Sim a s) (v:Va):Sim a (s.put v):=h.same rfl (put_ks s v) rfl rfl
theorem sealed10 (s:Wk) (n:Int):s.sealed 10 n=s:=by
 unfold Wk.sealed;rw[bad_ne (by decide)];have:∀l:List Va,s.sealE 10 l=s:=by
  intro l
  induction l with
  |nil=>rfl
  |cons v l ih=>show(s.bad 10 12 (!v.buf&&v.sec) 120).sealE 10 l=s;rw[bad_ne (by decide)];exact ih
 exact this _
theorem ex_one {ex:List Ex} (h:(ex.length:Int)=1):∃e,ex=[e]:=by
 match ex,h with
 |[e],_=>exact⟨e,rfl⟩
theorem ex_two {ex:List Ex} (h:(ex.length:Int)=2):∃e e',ex=[e,e']:=by
 match ex,h with
 |[e,e'],_=>exact⟨e,e',rfl⟩
def scJoin (aw:List ByteArray) (r:Except (Int×Int) (Sc×List ByteArray)):Except (Int×Int) (Sc×List ByteArray):=match r with
 | .error x=>.error x
 | .ok (a2,aw2)=>.ok (a2,aw++aw2)
theorem Out.then {a a1:Sc} {s s1 t:Wk} {aw:List ByteArray} {r:Except (Int×Int) (Sc×List ByteArray)} (h1:ks s1=ks s++aw) (h3:∀x∈aw,inM a.gi x=false) (h4:∀x,inM a.gi x=true→inM a1.gi x=true) (h5:s1.f=s.f)
  (h:Out a1 s1 t r):Out a s t (scJoin aw r):=by
 cases r with
 |error x=>exact h
 |ok p=>
  obtain⟨a2,aw2⟩:=p;obtain⟨g1,g2,g3,g4,g5⟩:=h;refine⟨g1,by rw[g2,h1,List.append_assoc],fun x hx=>?_,fun x hx=>g4 x (h4 x hx),g5.trans h5⟩;rcases List.mem_append.1 hx with hx|hx
  ·exact h3 x hx
  ·have:=g3 x hx;cases hy:inM a.gi x
   ·rfl
   ·rw[h4 x hy] at this;cases this
theorem sc_acc (P:List Fu) (F:Nat):∀(l:List St) (a:Sc) (aw:List ByteArray),scStmts P F l a aw=scJoin aw (scStmts P F l a [])
 |[],a,aw=>by simp[scStmts,scJoin]
 |x::l,a,aw=>by
  simp only[scStmts];cases scStmt P F x ⟨a.kn,a.gi,a.n+1⟩ with
  |error x=>rfl
  |ok p=>
   obtain⟨a1,aw1⟩:=p;simp only[List.nil_append];rw[sc_acc P F l a1 (aw++aw1),sc_acc P F l a1 aw1];cases scStmts P F l a1 [] with
   |error x=>rfl
   |ok p=>simp[scJoin]
theorem Sim.next {a:Sc} {s:Wk} (h:Sim a s):Sim ⟨a.kn,a.gi,a.n+1⟩ s.next:=⟨h.fine,h.kn,h.gi,h.sub,by show a.n+1=s.n+1;rw[h.n]⟩
theorem Out.next {a:Sc} {s t:Wk} {r:Except (Int×Int) (Sc×List ByteArray)} (h:Out ⟨a.kn,a.gi,a.n+1⟩ s.next t r):Out a s t r:=by
 cases r with
 |error x=>exact h
 |ok p=>exact h
theorem OutB.hit {a:Sc} {s t u:Wk} {x:Int×Int} (h:OutB a s t (.error x)) (g:Stk t u):Hit u x:=Hit.stk h g
theorem gones_ks:∀l r:List Va,(gones l r).map (·.name)=l.map (·.name)
 |[],r=>by cases r<;>rfl
 |v::l,[]=>rfl
 |v::l,x::r=>by simp[gones,gones_ks l r]
theorem askss_one (k:ByteArray→Bool) (e:Ex):Ex.askss k [e]=Ex.asks k e:=by simp[Ex.askss]
theorem askss_two (k:ByteArray→Bool) (e e':Ex):Ex.askss k [e,e']=(Ex.asks k e&&Ex.asks k e'):=by simp[Ex.askss]
theorem exAt0 (e:Ex) (l:List Ex):exAt (e::l) 0=e:=rfl
theorem exAt1 (e e':Ex) (l:List Ex):exAt (e::e'::l) 1=e':=rfl
mutual
theorem stmt10 (P:List Fu) (F:Nat):∀(st:St) (d:Nat) (a:Sc) (s:Wk),St.ok st d=true→s.f=(F:Int)→Sim a s→Out a s (Wk.stmt 10 P st s) (scStmt P F st a)
 | .mk k nm fr sec mt ex args body els,d,a,s,hok,hF,h=>by
   simp only[St.ok,Bool.and_eq_true] at hok;obtain⟨⟨⟨hd,hform⟩,hbo⟩,heo⟩:=hok;have ff:=form_facts hform;have hk:=h.kn;by_cases c11:k.toNat=11
   ·obtain rfl:body=[]:=ff.body.resolve_right (by omega);obtain rfl:els=[]:=ff.els.resolve_right (by omega);rw[sc_plain _ _ _ _ _ _ _ _ _ _ (by omega) (by omega)];have hst:Wk.stmt 10 P (.mk k nm fr sec mt ex args [] []) s=s.call 10 P nm fr ex args:=stmt_11 _ _ _ _ _ _ _ _ _ _ _ _ c11;rw[hst];have hh:scHead P F (inM a.kn) k nm fr ex args=(Ex.askss (inM (ks s)) ex&&(args.all (inM (ks s))&&(s.func P fr).isSome)):=by
     rw[scHead,c11,hk,Wk.func,hF,find_any];simp
    have hc:=call2_10 (s.func P fr) nm ex args s ff.exs;rw[←hh] at hc;unfold Wk.call Sc.gives;simp only;rw[c11];cases hn:emp nm
    ·simp only[Bool.false_eq_true,if_false];exact out_give (v:=Va.num nm ((s.func P fr).getD Fu.zero).sec false) h (by rw[hc])
    ·simp only[Bool.or_true,if_true];exact out_none h hc
   ·obtain⟨rfl,hlen,hnm⟩:=ff.other c11;have hnm:=emp_of_namedX hnm;have c1:=ff.k1;have c12:=ff.k12;have hexs:=ff.exs;by_cases k1:k.toNat=1
    ·obtain rfl:body=[]:=ff.body.resolve_right (by omega);obtain rfl:els=[]:=ff.els.resolve_right (by omega);obtain⟨e,rfl⟩:=ex_one (by rw[hlen];simp[nEx,k1]);have hst:Wk.stmt 10 P (.mk k nm fr sec mt [e] [] [] []) s=(s.opn 10 e sec).give 10 (Va.num nm sec true):=stmt_1 _ _ _ _ _ _ _ _ _ _ _ _ k1;rw[sc_plain _ _ _ _ _ _ _ _ _ _ (by omega) (by omega),hst,opn10 _ _ _ (show exM e=true from exAt_all (i:=0) hexs (by simp))];have hh:scHead P F (inM a.kn) k nm fr [e] []=Ex.asks (inM (ks s)) e:=by rw[scHead,k1,hk,askss_one];simp
     rw[hh];unfold Sc.gives;rw[hnm,k1];simp only[nName,k1];exact out_give h rfl
    by_cases k2:k.toNat=2
    ·obtain rfl:body=[]:=ff.body.resolve_right (by omega);obtain rfl:els=[]:=ff.els.resolve_right (by omega);obtain⟨e,rfl⟩:=ex_one (by rw[hlen];simp[nEx,k2]);have hst:Wk.stmt 10 P (.mk k nm fr sec mt [e] [] [] []) s=s.bad 10 10 (!(Ex.asks (inM (ks s)) e&&inM (ks s) nm)) 3:=by
      rw[stmt_2 _ _ _ _ _ _ _ _ _ _ _ _ k2,bad_ne (by decide),bad_ne (by decide),exAt0,ask10,sec10 e 1 s (show exM e=true from exAt_all (i:=0) hexs (by simp)),bad_ks,bad_bad _ _ _ _ _ _ (by decide),Bool.not_and]
     rw[sc_plain _ _ _ _ _ _ _ _ _ _ (by omega) (by omega),hst];have hh:scHead P F (inM a.kn) k nm fr [e] []=(Ex.asks (inM (ks s)) e&&inM (ks s) nm):=by rw[scHead,k2,hk,askss_one];simp
     rw[hh];unfold Sc.gives;rw[k2];exact out_none h rfl
    by_cases k3:k.toNat=3
    ·obtain rfl:body=[]:=ff.body.resolve_right (by omega);obtain rfl:els=[]:=ff.els.resolve_right (by omega);obtain⟨e,rfl⟩:=ex_one (by rw[hlen];simp[nEx,k3]);have hst:Wk.stmt 10 P (.mk k nm fr sec mt [e] [] [] []) s=(s.pub 10 e).give 10 (Va.bufv nm sec true true):=stmt_3 _ _ _ _ _ _ _ _ _ _ _ _ k3;rw[sc_plain _ _ _ _ _ _ _ _ _ _ (by omega) (by omega),hst,pub10 _ _ (show exM e=true from exAt_all (i:=0) hexs (by simp))];have hh:scHead P F (inM a.kn) k nm fr [e] []=Ex.asks (inM (ks s)) e:=by rw[scHead,k3,hk,askss_one];simp
     rw[hh];unfold Sc.gives;rw[hnm,k3];simp only[nName,k3];exact out_give h rfl
    by_cases k4:k.toNat=4
    ·obtain rfl:body=[]:=ff.body.resolve_right (by omega);obtain rfl:els=[]:=ff.els.resolve_right (by omega);obtain⟨e,e',rfl⟩:=ex_two (by rw[hlen];simp[nEx,k4]);have hst:Wk.stmt 10 P (.mk k nm fr sec mt [e,e'] [] [] []) s=s.bad 10 10 (!(Ex.asks (inM (ks s)) e&&Ex.asks (inM (ks s)) e'&&inM (ks s) nm)) 3:=by
      rw[stmt_4 _ _ _ _ _ _ _ _ _ _ _ _ k4,bad_ne (by decide),exAt0,exAt1,turned10,sec10 e' 1 _ (show exM e'=true from exAt_all (i:=1) hexs (by simp)),bad_ks,pub10 _ _ (show exM e=true from exAt_all (i:=0) hexs (by simp)),bad_ks,bad_bad _ _ _ _ _ _ (by decide),bad_bad _ _ _ _ _ _ (by decide)];simp[Bool.or_assoc]
     rw[sc_plain _ _ _ _ _ _ _ _ _ _ (by omega) (by omega),hst];have hh:scHead P F (inM a.kn) k nm fr [e,e'] []=(Ex.asks (inM (ks s)) e&&Ex.asks (inM (ks s)) e'&&inM (ks s) nm):=by rw[scHead,k4,hk,askss_two];simp
     rw[hh];unfold Sc.gives;rw[k4];exact out_none h rfl
    by_cases k9:k.toNat=9
    ·obtain rfl:body=[]:=ff.body.resolve_right (by omega);obtain rfl:els=[]:=ff.els.resolve_right (by omega);obtain rfl:ex=[]:=by rw[nEx] at hlen;simp[k9] at hlen;exact hlen
     rw[sc_plain _ _ _ _ _ _ _ _ _ _ (by omega) (by omega)];have hst:Wk.stmt 10 P (.mk k nm fr sec mt [] [] [] []) s=((s.bad 10 10 (!inM (ks s) fr) 3).put {(s.ask 10 fr true).1 with gone:=true}).give 10 (Va.bufv nm (s.ask 10 fr true).1.sec true true):=by
      rw[stmt_9 _ _ _ _ _ _ _ _ _ _ _ _ k9,Wk.move];simp only;rw[bad_ne (show(11:Int)≠10 by decide),bad_ne (show(13:Int)≠10 by decide),bad_ne (show(14:Int)≠10 by decide),ask10]
     rw[hst];have hh:scHead P F (inM a.kn) k nm fr [] []=inM (ks s) fr:=by rw[scHead,k9,hk];simp[Ex.askss]
     rw[hh];unfold Sc.gives;rw[hnm,k9];simp only[nName,k9];cases hb:inM (ks s) fr
     ·exact((h.hit (b:=false) rfl).stk (Stk.put _ _)).stk (Stk.give _ _ _)
     ·simp only[Bool.not_true,bad_false];have hG:=(h.put {(s.ask 10 fr true).1 with gone:=true}).give (Va.bufv nm (s.ask 10 fr true).1.sec true true);rw[put_ks] at hG;rw[show(Va.bufv nm (s.ask 10 fr true).1.sec true true).name=nm from rfl] at hG;show Out a s _ (match a.give nm with| .error x=>.error x| .ok a1=>.ok (a1,[nm]))
      cases hg:a.give nm with
      |error x=>rw[hg] at hG;exact hG
      |ok a1=>
       rw[hg] at hG;exact⟨hG.1,hG.2.1,fun x hx=>by rw[List.mem_singleton] at hx;subst hx;exact hG.2.2.1,hG.2.2.2.1,hG.2.2.2.2⟩
    by_cases k10:k.toNat=10
    ·obtain rfl:body=[]:=ff.body.resolve_right (by omega);obtain rfl:els=[]:=ff.els.resolve_right (by omega);obtain⟨e,rfl⟩:=ex_one (by rw[hlen];simp[nEx,k10]);have hst:Wk.stmt 10 P (.mk k nm fr sec mt [e] [] [] []) s=(Wk.sec 10 e s).2.give 10 (Va.num nm false false):=stmt_10 _ _ _ _ _ _ _ _ _ _ _ _ k10;rw[sc_plain _ _ _ _ _ _ _ _ _ _ (by omega) (by omega),hst,sec10 e 1 _ (show exM e=true from exAt_all (i:=0) hexs (by simp))];have hh:scHead P F (inM a.kn) k nm fr [e] []=Ex.asks (inM (ks s)) e:=by rw[scHead,k10,hk,askss_one];simp
     rw[hh];unfold Sc.gives;rw[hnm,k10];simp only[nName,k10];exact out_give h rfl
    by_cases k12:k.toNat=12
    ·obtain rfl:body=[]:=ff.body.resolve_right (by omega);obtain rfl:els=[]:=ff.els.resolve_right (by omega);obtain rfl:ex=[]:=by rw[nEx] at hlen;simp[k12] at hlen;exact hlen
     have hst:Wk.stmt 10 P (.mk k nm fr sec mt [] [] [] []) s=s.bad 10 10 (!true) 3:=by
      rw[stmt_12 _ _ _ _ _ _ _ _ _ _ _ _ (by omega),Bool.not_true,bad_false];exact sealed10 _ _
     rw[sc_plain _ _ _ _ _ _ _ _ _ _ (by omega) (by omega),hst];have hh:scHead P F (inM a.kn) k nm fr [] []=true:=by rw[scHead,k12];simp[Ex.askss]
     rw[hh];unfold Sc.gives;rw[hnm,k12];simp only[nName,k12];exact out_none (b:=true) h rfl
    by_cases k5:k.toNat=5
    ·obtain⟨e,rfl⟩:=ex_one (by rw[hlen];simp[nEx,k5]);have hh:scHead P F (inM a.kn) k nm fr [e] []=Ex.asks (inM (ks s)) e:=by rw[scHead,k5,hk,askss_one];simp
     have hst:Wk.stmt 10 P (.mk k nm fr sec mt [e] [] body els) s=((Wk.stmts 10 P els (((Wk.stmts 10 P body (s.pub 10 e)).cut (s.pub 10 e).env.length).back (s.pub 10 e).env)).cut (s.pub 10 e).env.length).join ((Wk.stmts 10 P body (s.pub 10 e)).cut (s.pub 10 e).env.length).env:=stmt_5 _ _ _ _ _ _ _ _ _ _ _ _ k5;rw[hst];unfold scStmt;rw[hh,pub10 _ _ (show exM e=true from exAt_all (i:=0) hexs (by simp))];cases hb:Ex.asks (inM (ks s)) e
     ·exact(((((h.hit (b:=false) rfl).stk (Stk.stmts _ _ _ _)).stk (Stk.cut _ _)).stk ((Stk.back _ _).trans (Stk.stmts _ _ _ _))).stk (Stk.cut _ _)).stk (Stk.join _ _)
     ·simp only[Bool.not_true,bad_false,Bool.false_eq_true,if_false];unfold Sc.gives;rw[hnm,k5];simp only[nName,k5];simp only[Nat.reduceBEq,Nat.reduceEqDiff,or_self,decide_false,Bool.not_false,Bool.or_true,if_true];have hB:=(stmts10 P F body (d+1) a s hbo hF h).block h;generalize hT:(Wk.stmts 10 P body s).cut s.env.length=T at*;cases hx:scStmts P F body a [] with
      |error x=>
       rw[hx] at hB;exact(Hit.stk hB ((Stk.back _ _).trans (Stk.stmts _ _ _ _))).stk ((Stk.cut _ _).trans (Stk.join _ _))
      |ok p=>
       obtain⟨a2,aw2⟩:=p;rw[hx] at hB;obtain⟨g1,g2,g3,g4⟩:=hB;have h2:Sim (a2.dels aw2) (T.back s.env):=⟨g1.fine,by rw[g1.kn,g2];rfl,g1.gi,g1.sub,g1.n⟩;have hE:=(stmts10 P F els (d+1) (a2.dels aw2) (T.back s.env) heo (g4.trans hF) h2).block h2;have hl:(T.back s.env).env.length=s.env.length:=rfl;rw[hl] at hE;simp only;generalize hU:(Wk.stmts 10 P els (T.back s.env)).cut s.env.length=U at*;cases hy:scStmts P F els (a2.dels aw2) [] with
       |error x=>rw[hy] at hE;exact Hit.stk hE (Stk.join _ _)
       |ok q=>
        obtain⟨a3,aw3⟩:=q;rw[hy] at hE;obtain⟨q1,q2,q3,q4⟩:=hE;refine⟨q1.same rfl ?_ rfl rfl,?_,fun x hx=>(by cases hx),fun x hx=>q3 x (g3 x hx),q4.trans g4⟩
        ·exact gones_ks _ _
        ·rw[List.append_nil,show ks (U.join T.env)=ks U from gones_ks _ _,q2];rfl
    by_cases k6:k.toNat=6
    ·obtain rfl:els=[]:=ff.els.resolve_right (by omega);obtain⟨e,rfl⟩:=ex_one (by rw[hlen];simp[nEx,k6]);have hh:scHead P F (inM a.kn) k nm fr [e] []=Ex.asks (inM (ks s)) e:=by rw[scHead,k6,hk,askss_one];simp
     have hst:Wk.stmt 10 P (.mk k nm fr sec mt [e] [] body []) s=((Wk.stmts 10 P body (s.pub 10 e).deeper).cut (s.pub 10 e).env.length).loopOut (s.pub 10 e).env.length:=by
      rw[stmt_67 _ _ _ _ _ _ _ _ _ _ _ _ (.inl k6)];simp only[Wk.loopIn,k6];rfl
     rw[hst];unfold scStmt;rw[hh,pub10 _ _ (show exM e=true from exAt_all (i:=0) hexs (by simp))];cases hb:Ex.asks (inM (ks s)) e
     ·exact((h.hit (b:=false) rfl).stk ((Stk.deeper _).trans (Stk.stmts _ _ _ _))).stk ((Stk.cut _ _).trans (Stk.loopOut _ _))
     ·simp only[Bool.not_true,bad_false,Bool.false_eq_true,if_false];unfold Sc.gives;rw[hnm,k6];simp only[nName,k6];simp only[Nat.reduceBEq,Nat.reduceEqDiff,or_self,decide_false,Bool.not_false,Bool.or_true,if_true];have h0:Sim a s.deeper:=h.same rfl rfl rfl rfl;have hB:=(stmts10 P F body (d+1) a s.deeper hbo hF h0).block h0;have hl:s.deeper.env.length=s.env.length:=rfl;rw[hl] at hB;generalize hT:(Wk.stmts 10 P body s.deeper).cut s.env.length=T at*;cases hx:scStmts P F body a [] with
      |error x=>rw[hx] at hB;exact Hit.stk hB (Stk.loopOut _ _)
      |ok p=>
       obtain⟨a2,aw2⟩:=p;rw[hx] at hB;obtain⟨g1,g2,g3,g4⟩:=hB;have hk2:ks (T.loopOut s.env.length)=ks T:=by
        show ks (T.cut s.env.length)=ks T
        rw[ks_cut,g2,←ks_len];exact List.take_length
       refine⟨g1.same rfl hk2 rfl rfl,?_,fun x hx=>(by cases hx),g3,g4⟩;rw[List.append_nil,hk2,g2];rfl
    by_cases k7:k.toNat=7
    ·obtain rfl:els=[]:=ff.els.resolve_right (by omega);obtain⟨e,rfl⟩:=ex_one (by rw[hlen];simp[nEx,k7]);have hh:scHead P F (inM a.kn) k nm fr [e] []=Ex.asks (inM (ks s)) e:=by rw[scHead,k7,hk,askss_one];simp
     have hst:Wk.stmt 10 P (.mk k nm fr sec mt [e] [] body []) s=((Wk.stmts 10 P body ((s.pub 10 e).deeper.give 10 (Va.num nm false false))).cut ((s.pub 10 e).deeper.give 10 (Va.num nm false false)).env.length).loopOut (s.pub 10 e).env.length:=by
      rw[stmt_67 _ _ _ _ _ _ _ _ _ _ _ _ (.inr k7)];simp only[Wk.loopIn,k7];rfl
     rw[hst];unfold scStmt;rw[hh,pub10 _ _ (show exM e=true from exAt_all (i:=0) hexs (by simp))];cases hb:Ex.asks (inM (ks s)) e
     ·exact((h.hit (b:=false) rfl).stk (((Stk.deeper _).trans (Stk.give _ _ _)).trans (Stk.stmts _ _ _ _))).stk ((Stk.cut _ _).trans (Stk.loopOut _ _))
     ·simp only[Bool.not_true,bad_false,Bool.false_eq_true,if_false];unfold Sc.gives;rw[hnm,k7];simp only[nName,k7];simp only[Nat.reduceBEq,Nat.reduceEqDiff,or_true,true_or,or_self,decide_true,Bool.not_true,Bool.or_false,Bool.or_self,Bool.false_eq_true,if_false];have h0:Sim a s.deeper:=h.same rfl rfl rfl rfl;have hG:=h0.give (Va.num nm false false);generalize s.deeper.give 10 (Va.num nm false false)=G at*;rw[show(Va.num nm false false).name=nm from rfl] at hG;cases hg:a.give nm with
      |error x=>rw[hg] at hG;exact(Hit.stk hG (Stk.stmts _ _ _ _)).stk ((Stk.cut _ _).trans (Stk.loopOut _ _))
      |ok a1=>
       rw[hg] at hG;obtain⟨j1,j2,j3,j4,j5⟩:=hG;have hB:=(stmts10 P F body (d+1) a1 G hbo (j5.trans hF) j1).block j1;generalize hT:(Wk.stmts 10 P body G).cut G.env.length=T at*;simp only;cases hx:scStmts P F body a1 [] with
       |error x=>rw[hx] at hB;exact Hit.stk hB (Stk.loopOut _ _)
       |ok p=>
        obtain⟨a2,aw2⟩:=p;rw[hx] at hB;obtain⟨g1,g2,g3,g4⟩:=hB;have hk2:ks (T.loopOut s.env.length)=ks s:=by
         show ks (T.cut s.env.length)=ks s
         rw[ks_cut,g2,j2,show ks s.deeper=ks s from rfl,←ks_len,List.take_left'];rfl
        have hkk:∀x,inM (((a2.dels aw2).dels []).del nm).kn x=inM (ks s) x:=by
         intro x;show inM (delN (a2.dels aw2).kn nm) x=_
         rw[inM_delN,g1.kn,g2,j2,inM_append,show ks s.deeper=ks s from rfl];have hnk:inM (ks s) nm=false:=by
          cases hz:inM (ks s) nm
          ·rfl
          ·have:=h.sub nm (by rw[hk];exact hz);rw[j3] at this;cases this
         cases hq:sq x nm
         ·have hq':sq nm x=false:=by
           cases hq2:sq nm x
           ·rfl
           ·rw[sq_iff] at hq2;rw[hq2,sq_iff.2 rfl] at hq;cases hq
          simp[inM,hq']
         ·rw[sq_iff] at hq;subst hq;simp[hnk]
        refine⟨⟨g1.fine,?_,g1.gi,?_,g1.n⟩,by rw[hk2,List.append_nil],fun x hx=>(by cases hx),fun x hx=>g3 x (j4 x hx),g4.trans j5⟩
        ·funext x;rw[hk2];exact hkk x
        ·intro x hx;have hx':inM (delN (a2.dels aw2).kn nm) x=true:=hx;rw[inM_delN,Bool.and_eq_true] at hx';exact g1.sub x hx'.1
    ·have k8:k.toNat=8:=by omega
     obtain rfl:els=[]:=ff.els.resolve_right (by omega);obtain⟨e,e',rfl⟩:=ex_two (by rw[hlen];simp[nEx,k8]);have hh:scHead P F (inM a.kn) k nm fr [e,e'] []=(Ex.asks (inM (ks s)) e&&Ex.asks (inM (ks s)) e'&&inM (ks s) fr):=by rw[scHead,k8,hk,askss_two];simp
     have hst:Wk.stmt 10 P (.mk k nm fr sec mt [e,e'] [] body []) s=
      (((Wk.stmts 10 P body ((s.lend1 10 fr mt [e,e']).2.give 10 (Va.bufv nm (s.lend1 10 fr mt [e,e']).1.sec mt false))).cut ((s.lend1 10 fr mt [e,e']).2.give 10 (Va.bufv nm (s.lend1 10 fr mt [e,e']).1.sec mt false)).env.length).cut (s.lend1 10 fr mt [e,e']).2.env.length).lend3 fr (s.lend1 10 fr mt [e,e']).1:=stmt_8 _ _ _ _ _ _ _ _ _ _ _ _ k8
     have hlend:∃v,(s.lend1 10 fr mt [e,e']).2=(s.bad 10 10 (!(Ex.asks (inM (ks s)) e&&Ex.asks (inM (ks s)) e'&&inM (ks s) fr)) 3).put v:=by
      refine⟨{(s.lend1 10 fr mt [e,e']).1 with lent:=if mt then 2 else max (s.lend1 10 fr mt [e,e']).1.lent 1},?_⟩;unfold Wk.lend1;simp only[exAt0,exAt1];rw[show(if mt=true then((((s.pub 10 e).pub 10 e').ask 10 fr true).2.turned 10 fr).2 else(((s.pub 10 e).pub 10 e').ask 10 fr true).2)=s.bad 10 10 (!(Ex.asks (inM (ks s)) e&&Ex.asks (inM (ks s)) e'&&inM (ks s) fr)) 3 from ?_];rw[turned10,ask10,pub10 _ _ (show exM e'=true from exAt_all (i:=1) hexs (by simp)),pub10 _ _ (show exM e=true from exAt_all (i:=0) hexs (by simp))];simp only[bad_ks];cases mt<;>simp[bad_bad,Bool.or_assoc]
     obtain⟨v,hv⟩:=hlend;generalize hL:s.lend1 10 fr mt [e,e']=L at*;rw[hst];unfold scStmt;rw[hh,hv];cases hb:(Ex.asks (inM (ks s)) e&&Ex.asks (inM (ks s)) e'&&inM (ks s) fr)
     ·exact((((h.hit (b:=false) rfl).stk (Stk.put _ _)).stk (Stk.give _ _ _)).stk (Stk.stmts _ _ _ _)).stk ((Stk.cut _ _).trans ((Stk.cut _ _).trans (Stk.put _ _)))
     ·simp only[Bool.not_true,bad_false,Bool.false_eq_true,if_false];unfold Sc.gives;rw[hnm,k8];simp only[nName,k8];simp only[Nat.reduceBEq,Nat.reduceEqDiff,or_true,true_or,or_self,decide_true,Bool.not_true,Bool.or_false,Bool.or_self,Bool.false_eq_true,if_false];have h0:Sim a (s.put v):=h.put v;have hp:=put_ks s v;have hpl:(s.put v).env.length=s.env.length:=by rw[←ks_len,hp,ks_len]
      have hpf:(s.put v).f=s.f:=rfl;have hG:=h0.give (Va.bufv nm L.1.sec mt false);generalize (s.put v).give 10 (Va.bufv nm L.1.sec mt false)=G at*;rw[show(Va.bufv nm L.1.sec mt false).name=nm from rfl] at hG;cases hg:a.give nm with
      |error x=>rw[hg] at hG;exact(Hit.stk hG (Stk.stmts _ _ _ _)).stk ((Stk.cut _ _).trans ((Stk.cut _ _).trans (Stk.put _ _)))
      |ok a1=>
       rw[hg] at hG;obtain⟨j1,j2,j3,j4,j5⟩:=hG;have hB:=(stmts10 P F body (d+1) a1 G hbo (j5.trans (hpf.trans hF)) j1).block j1;generalize hT:(Wk.stmts 10 P body G).cut G.env.length=T at*;simp only;cases hx:scStmts P F body a1 [] with
       |error x=>rw[hx] at hB;exact Hit.stk hB ((Stk.cut _ _).trans (Stk.put _ _))
       |ok p=>
        obtain⟨a2,aw2⟩:=p;rw[hx] at hB;obtain⟨g1,g2,g3,g4⟩:=hB;have hk2:ks ((T.cut (s.put v).env.length).lend3 fr L.1)=ks s:=by
         rw[Wk.lend3,put_ks,ks_cut,g2,j2,hp,hpl,←ks_len,List.take_left'];rfl
        have hkk:∀x,inM (((a2.dels aw2).dels []).del nm).kn x=inM (ks s) x:=by
         intro x;show inM (delN (a2.dels aw2).kn nm) x=_
         rw[inM_delN,g1.kn,g2,j2,inM_append,hp];have hnk:inM (ks s) nm=false:=by
          cases hz:inM (ks s) nm
          ·rfl
          ·have:=h.sub nm (by rw[hk];exact hz);rw[j3] at this;cases this
         cases hq:sq x nm
         ·have hq':sq nm x=false:=by
           cases hq2:sq nm x
           ·rfl
           ·rw[sq_iff] at hq2;rw[hq2,sq_iff.2 rfl] at hq;cases hq
          simp[inM,hq']
         ·rw[sq_iff] at hq;subst hq;simp[hnk]
        refine⟨⟨g1.fine,?_,g1.gi,?_,g1.n⟩,by rw[hk2,List.append_nil],fun x hx=>(by cases hx),fun x hx=>g3 x (j4 x hx),g4.trans (j5.trans hpf)⟩
        ·funext x;rw[hk2];exact hkk x
        ·intro x hx;have hx':inM (delN (a2.dels aw2).kn nm) x=true:=hx;rw[inM_delN,Bool.and_eq_true] at hx';exact g1.sub x hx'.1
theorem stmts10 (P:List Fu) (F:Nat):∀(l:List St) (d:Nat) (a:Sc) (s:Wk),St.oks l d=true→s.f=(F:Int)→Sim a s→Out a s (Wk.stmts 10 P l s) (scStmts P F l a [])
 |[],d,a,s,hok,hF,h=>⟨h,by rw[List.append_nil];rfl,fun x hx=>(by cases hx),fun x hx=>hx,rfl⟩
 |x::l,d,a,s,hok,hF,h=>by
  simp only[St.oks,Bool.and_eq_true] at hok;have h1:=(stmt10 P F x d ⟨a.kn,a.gi,a.n+1⟩ s.next hok.1 hF h.next).next;unfold Wk.stmts scStmts;cases hx:scStmt P F x ⟨a.kn,a.gi,a.n+1⟩ with
  |error x=>rw[hx] at h1;exact Hit.stk h1 (Stk.stmts _ _ _ _)
  |ok p=>
   obtain⟨a1,aw1⟩:=p;rw[hx] at h1;obtain⟨g1,g2,g3,g4,g5⟩:=h1;simp only[List.nil_append];rw[sc_acc];exact Out.then g2 g3 g4 g5 (stmts10 P F l d a1 _ hok.2 (g5.trans hF) g1)
end
theorem params10 (ps:List Pa):∀(i:Nat) (a:Sc) (s:Wk),i≤ps.length→Sim a s→match scParams (ps.take i) a with
  | .error x=>Hit (Wk.paramN 10 ps s i) x
  | .ok a1=>Sim a1 (Wk.paramN 10 ps s i)∧(Wk.paramN 10 ps s i).f=s.f:=by
 have acc:∀(l:List Pa) (x:Pa) (a:Sc),scParams (l++[x]) a=match scParams l a with
   | .error x=>.error x
   | .ok a1=>a1.give x.name:=by
  intro l x
  induction l with
  |nil=>intro a;simp only[List.nil_append,scParams];cases a.give x.name<;>rfl
  |cons y l ih=>
   intro a;simp only[List.cons_append,scParams];cases a.give y.name with
   |error x=>rfl
   |ok a1=>exact ih a1
 intro i
 induction i with
 |zero=>intro a s _ h;exact⟨h,rfl⟩
 |succ i ih=>
  intro a s hi h;have h1:=ih a s (by omega) h;rw[List.take_succ_eq_append_getElem (by omega),acc];have hg:ps.getD i Pa.zero=ps[i]:=by simp[List.getD_eq_getElem?_getD,show i<ps.length by omega]
  cases hx:scParams (ps.take i) a with
  |error x=>rw[hx] at h1;exact Hit.stk h1 (Stk.give _ _ _)
  |ok a1=>
   rw[hx] at h1;have h2:=h1.1.give ⟨(ps.getD i Pa.zero).name,(ps.getD i Pa.zero).buf,(ps.getD i Pa.zero).sec,(ps.getD i Pa.zero).mt,false,false,false,0,0⟩;simp only;unfold Wk.paramN;rw[hg] at h2 ⊢;simp only at h2;cases hy:a1.give ps[i].name with
   |error x=>rw[hy] at h2;exact h2
   |ok a2=>rw[hy] at h2;exact⟨h2.1,h2.2.2.2.2.trans h1.2⟩
theorem head10 (P:List Fu) (nm:ByteArray) (s:Wk) (hs:s.fine=true):∀i,i≤P.length→Wk.headN 10 P nm s i=s.bad 10 10 ((P.take i).any fun g=>sq g.name nm) 9
 |0,_=>by simp[Wk.headN,bad_false]
 |i+1,hi=>by
  rw[Wk.headN,head10 P nm s hs i (by omega),bad_bad _ _ _ _ _ _ (by decide),List.take_succ_eq_append_getElem (by omega),List.any_append];simp[List.getD_eq_getElem?_getD,show i<P.length by omega]
theorem ret10 (s:Wk) (ret:List Ex) (sec:Bool) (h:ret.all exM=true):∀i,i≤ret.length→Wk.retN 10 ret sec s i=s.bad 10 10 (!Ex.askss (inM (ks s)) (ret.take i)) 3
 |0,_=>by simp[Wk.retN,Ex.askss,bad_false]
 |i+1,hi=>by
  have he:=exAt_all (i:=i) h (by omega);rw[Wk.retN,ret10 s ret sec h i (by omega),show ret.getD i Ex.zero=exAt ret i from rfl,opn10 _ _ _ he,bad_ks,bad_bad _ _ _ _ _ _ (by decide),←Bool.not_and,askss_all,askss_all,List.take_succ_eq_append_getElem (by omega),List.all_append];simp[exAt,List.getD_eq_getElem?_getD,show i<ret.length by omega]
def Stands (n:Int) (F:Nat) (s:Wk):Prop:=s.fine=true∧s.n=n∧s.f=(F:Int)
def OutF (F:Nat) (t:Wk) (r:Except (Int×Int) Int):Prop:=match r with
 | .error x=>Hit t x
 | .ok n=>Stands n F t
theorem fun10 (P:List Fu) (F:Nat) (hF:F<P.length) (n:Int) (s:Wk) (hok:okF P[F]=true) (h:Stands n F s):OutF F (Wk.fun1 10 P P[F] s) (scFun P F P[F] n):=by
 obtain⟨h1,h2,h3⟩:=h;generalize P[F]=f at*;simp only[okF,funM,fheadM,Bool.and_eq_true] at hok;obtain⟨hbody,⟨⟨⟨_,_⟩,hret⟩,_⟩,_⟩:=hok;unfold Wk.fun1 scFun Wk.head Wk.tail;rw[h3,Int.toNat_natCast,head10 P f.name s h1 F (by omega)];cases hd:(P.take F).any fun g=>sq g.name f.name
 ·simp only[bad_false,Bool.false_eq_true,if_false];have h0:Sim ⟨[],[],n⟩ s.fresh:=⟨h1,rfl,rfl,fun x hx=>hx,h2.symm⟩;have hp:=params10 f.params f.params.length _ _ (Nat.le_refl _) h0;rw[List.take_length] at hp;generalize Wk.paramN 10 f.params s.fresh f.params.length=G at*;cases hx:scParams f.params ⟨[],[],n⟩ with
  |error x=>rw[hx] at hp;exact((Hit.stk hp (Stk.stmts _ _ _ _)).stk (Stk.next _)).stk ((Stk.retN _ _ _ _ _).trans (Stk.next _))
  |ok a=>
   rw[hx] at hp;have hB:=stmts10 P F f.body 1 a G hbody (hp.2.trans h3) hp.1;simp only;generalize Wk.stmts 10 P f.body G=T at*;cases hy:scStmts P F f.body a [] with
   |error x=>rw[hy] at hB;exact(Hit.stk hB (Stk.next _)).stk ((Stk.retN _ _ _ _ _).trans (Stk.next _))
   |ok q=>
    obtain⟨a1,aw⟩:=q;rw[hy] at hB;obtain⟨g1,g2,g3,g4,g5⟩:=hB;simp only;have hn:=g1.next;rw[ret10 _ _ _ hret _ (Nat.le_refl _),List.take_length,g1.kn];rw[show ks T=ks T.next from rfl];cases hz:Ex.askss (inM (ks T.next)) f.ret
    ·exact(hn.hit (b:=false) rfl).stk (Stk.next _)
    ·simp only[Bool.not_true,bad_false,if_true];exact⟨hn.fine,by show T.next.n+1=a1.n+1+1;rw[←hn.n],g5.trans (hp.2.trans h3)⟩
 ·simp only[if_true];have hh:Hit (s.bad 10 10 true 9) (n,9):=by
   have h0:s.ferr=0:=by simpa[Wk.fine] using h1
   unfold Wk.bad Hit;simp[h0,Wk.fine,h2]
  exact(((hh.stk ((Stk.same rfl rfl:Stk _ (Wk.fresh _)))).stk ((Stk.paramN _ _ _ _).trans (Stk.stmts _ _ _ _))).stk (Stk.next _)).stk ((Stk.retN _ _ _ _ _).trans (Stk.next _))
theorem walk10 (P:List Fu) (hok:P.all okF=true):∀i,i≤P.length→OutF i (Wk.walkN 10 P Wk.zero i) (scWalk P i)
 |0,_=>⟨rfl,rfl,rfl⟩
 |i+1,hi=>by
  have ih:=walk10 P hok i (by omega);unfold Wk.walkN scWalk;have hg:P.getD i Fu.zero=P[i]:=by simp[List.getD_eq_getElem?_getD,show i<P.length by omega]
  rw[hg];generalize Wk.walkN 10 P Wk.zero i=s at*;cases hx:scWalk P i with
  |error x=>rw[hx] at ih;exact(Hit.stk ih (Stk.fun1 _ _ _ _)).stk (Stk.same rfl rfl)
  |ok n=>
   rw[hx] at ih;have h1:=fun10 P i (by omega) n s (by rw[List.all_eq_true] at hok;exact hok _ (List.getElem_mem _)) ih;simp only;cases hy:scFun P i P[i] n with
   |error x=>rw[hy] at h1;exact Hit.stk h1 (Stk.same rfl rfl)
   |ok m=>rw[hy] at h1;exact⟨h1.1,h1.2.1,by show(Wk.fun1 10 P P[i] s).f+1=_;rw[h1.2.2];omega⟩
theorem law10 (P:List Fu):scCheck P=refCheck P 10:=by
 unfold scCheck refCheck;cases hm:mayM P
 ·rfl
 ·simp only[if_true];have hok:P.all okF=true:=by simp only[mayM,Bool.and_eq_true] at hm;exact hm.1
  have h:=walk10 P hok P.length (Nat.le_refl _);show _=(if(0:Int)≠0 then _ else _)
  rw[if_neg (by decide)];show _=(if(Wk.walk 10 P).fine then _ else _)
  unfold Wk.walk;cases hx:scWalk P P.length with
  |error x=>rw[hx] at h;rw[h.1];exact(Prod.ext h.2.1 h.2.2).symm
  |ok n=>rw[hx] at h;rw[h.1];rfl
section
structure Nm where
 buf:Bool
 sec:Bool
 mt:Bool
 own:Bool
 set:Bool
 gone:Bool
 lent:Int
 loops:Int
def Nm.zero:Nm:=⟨false,false,false,false,false,false,0,0⟩
abbrev NL:=List (ByteArray×Nm)
def nhas (l:NL) (s:ByteArray):Bool:=l.any fun p=>sq p.1 s
def nget (l:NL) (s:ByteArray):Nm:=((l.find? fun p=>sq p.1 s).map (·.2)).getD Nm.zero
def nset (l:NL) (s:ByteArray) (x:Nm):NL:=l.map fun p=>if sq p.1 s then(p.1,x) else p
def nput (l:NL) (s:ByteArray) (x:Nm):NL:=if nhas l s then nset l s x else l++[(s,x)]
def ndel (l:NL) (s:ByteArray):NL:=l.filter fun p=> !sq p.1 s
def nkeep (l m:NL):NL:=l.filter fun p=>nhas m p.1
def ngone (l m:NL):NL:=l.map fun p=>(p.1,{p.2 with gone:=p.2.gone||(nget m p.1).gone})
structure Ev where
 nm:NL
 n:Int
 loops:Int
def chk (ru r:Int) (is:Bool):Bool:= !(r==ru)||is
def codeOf (ru:Int):Int:=if ru=1 then 8 else if ru=2 then 120 else if ru=3 then 130 else 140
def Nm.numOk (ru:Int) (x:Nm):Bool:=chk ru 1 (!x.buf)
def Nm.bufOk (ru:Int) (x:Nm):Bool:=chk ru 1 x.buf&&(chk ru 3 (decide (x.lent<2))&&chk ru 4 (!x.gone))
def Nm.turnOk (ru:Int) (x:Nm):Bool:=x.bufOk ru&&(chk ru 1 x.mt&&chk ru 3 (x.lent==0))
mutual
def Ex.sv (g:ByteArray→Nm):Ex→Bool
 | .mk k _ nm _ l=>if k.toNat=2∨k.toNat=5 then(g nm).sec else if k.toNat=3 then(Ex.svs g l).getD 0 false||(Ex.svs g l).getD 1 false else false
def Ex.svs (g:ByteArray→Nm):List Ex→List Bool
 |[]=>[]
 |e::l=>Ex.sv g e::Ex.svs g l
end
mutual
def Ex.so (ru:Int) (g:ByteArray→Nm):Ex→Bool
 | .mk k _ nm o l=>if k.toNat=2 then(g nm).numOk ru else if k.toNat=4 then(g nm).bufOk ru
   else if k.toNat=5 then(g nm).bufOk ru&&(Ex.sos ru g l&&chk ru 2 (!(Ex.svs g l).getD 0 false))
   else if k.toNat=3 then Ex.sos ru g l&&chk ru 2 (!((Ex.svs g l).getD 0 false||(Ex.svs g l).getD 1 false)|| !(o.toNat==13||o.toNat==14)) else true
def Ex.sos (ru:Int) (g:ByteArray→Nm):List Ex→Bool
 |[]=>true
 |e::l=>Ex.so ru g e&&Ex.sos ru g l
end
def Ev.g (a:Ev) (s:ByteArray):Nm:=nget a.nm s
def Ev.into (ru:Int) (a:Ev) (e:Ex) (sec:Bool):Bool:=Ex.so ru a.g e&&chk ru 2 (sec|| !Ex.sv a.g e)
def Ev.give (a:Ev) (s:ByteArray) (x:Nm):Ev:=⟨nput a.nm s {x with loops:=a.loops},a.n,a.loops⟩
def Ev.put (a:Ev) (s:ByteArray) (x:Nm):Ev:=⟨nput a.nm s x,a.n,a.loops⟩
def Ev.del (a:Ev) (s:ByteArray):Ev:=⟨ndel a.nm s,a.n,a.loops⟩
def Ev.with (a:Ev) (l:NL):Ev:=⟨l,a.n,a.loops⟩
def Ev.at (a:Ev) (l:Int):Ev:=⟨a.nm,a.n,l⟩
def Ev.next (a:Ev):Ev:=⟨a.nm,a.n+1,a.loops⟩
def Nm.num (sec set:Bool):Nm:=⟨false,sec,false,false,set,false,0,0⟩
def Nm.bufv (sec mt own:Bool):Nm:=⟨true,sec,mt,own,false,false,0,0⟩
abbrev Er:=Except Int
def Ev.if (a:Ev) (ok:Bool) (r:Er Ev):Er Ev:=if ok then r else .error a.n
def calleeM (P:List Fu) (F:Nat) (s:ByteArray):Fu:=((P.take F).reverse.find? fun f=>sq f.name s).getD Fu.zero
def numsOf (f:Fu):List Pa:=f.params.filter fun x=> !x.buf
def bufsOf (f:Fu):List Pa:=f.params.filter fun x=>x.buf
def Ev.exOk (ru:Int) (a:Ev) (nums:List Pa) (ex:List Ex) (j:Nat):Bool:=a.into ru (exAt ex j) (decide (nums.length≤j)||(nums.getD j Pa.zero).sec)
def timesM (args:List ByteArray) (s:ByteArray):Nat:=args.countP fun x=>sq x s
def Ev.bfOk (ru:Int) (a:Ev) (bufs:List Pa) (args:List ByteArray) (j:Nat):Bool:=
 decide (args.length≤j)||(chk ru 1 ((a.g (args.getD j nob)).mt|| !(bufs.getD j Pa.zero).mt)&&(chk ru 2 ((a.g (args.getD j nob)).sec==(bufs.getD j Pa.zero).sec)&&
  chk ru 3 (!(bufs.getD j Pa.zero).mt||((a.g (args.getD j nob)).lent==0&&timesM args (args.getD j nob)==1))))
def Ev.callOk (ru:Int) (f:Fu) (nm:ByteArray) (ex:List Ex) (args:List ByteArray) (a:Ev):Bool:=
 (List.range ex.length).all (a.exOk ru (numsOf f) ex)&&(args.all (fun s=>(a.g s).bufOk ru)&&
   (chk ru 1 (((numsOf f).length==ex.length)&&(((bufsOf f).length==args.length)&&(emp nm||decide (0<f.ret.length))))&&(List.range (bufsOf f).length).all (a.bfOk ru (bufsOf f) args)))
def Ev.sealOk (ru:Int) (P:List Fu) (F:Nat) (a:Ev):Bool:=chk ru 1 (F+1==P.length)&&a.nm.all fun p=>chk ru 2 (p.2.buf|| !p.2.sec)
def Ev.lendOk (ru:Int) (fr:ByteArray) (mt:Bool) (ex:List Ex) (a:Ev):Bool:=a.into ru (exAt ex 0) false&&(a.into ru (exAt ex 1) false&&((a.g fr).bufOk ru&&(!mt||(a.g fr).turnOk ru)))
def Ev.lendIn (nm fr:ByteArray) (mt:Bool) (a:Ev):Ev:=(a.put fr {a.g fr with lent:=if mt then 2 else max (a.g fr).lent 1}).give nm (Nm.bufv (a.g fr).sec mt false)
def Ev.lendOut (nm fr:ByteArray) (l:Int) (a:Ev):Ev:=(a.del nm).put fr {(a.del nm).g fr with lent:=l}
def Ev.moveOk (ru:Int) (fr:ByteArray) (a:Ev):Bool:=(a.g fr).bufOk ru&&(chk ru 1 (a.g fr).own&&(chk ru 3 ((a.g fr).lent==0)&&chk ru 4 ((a.g fr).loops==a.loops)))
def Ev.loopIn (nm:ByteArray) (a:Ev):Ev:=if emp nm then a.at (a.loops+1) else(a.at (a.loops+1)).give nm Nm.zero
def Ev.setOk (ru:Int) (nm:ByteArray) (e:Ex) (a:Ev):Bool:=Ex.so ru a.g e&&((a.g nm).numOk ru&&(chk ru 1 (a.g nm).set&&chk ru 2 ((a.g nm).sec|| !Ex.sv a.g e)))
def Ev.putOk (ru:Int) (nm:ByteArray) (e e1:Ex) (a:Ev):Bool:=a.into ru e false&&(Ex.so ru a.g e1&&((a.g nm).turnOk ru&&chk ru 2 ((a.g nm).sec|| !Ex.sv a.g e1)))
def evKeep (a:Ev) (r:Er Ev):Er Ev:=match r with
 | .error x=>.error x
 | .ok a1=>.ok (a1.with (nkeep a1.nm a.nm))
mutual
def evStmt (ru:Int) (P:List Fu) (F:Nat):St→Ev→Er Ev
 | .mk k nm fr sec mt ex args body els,a=>
   if k.toNat=1 then a.if (a.into ru (exAt ex 0) sec) (.ok (a.give nm (Nm.num sec true)))
   else if k.toNat=2 then a.if (a.setOk ru nm (exAt ex 0)) (.ok a)
   else if k.toNat=3 then a.if (a.into ru (exAt ex 0) false) (.ok (a.give nm (Nm.bufv sec true true)))
   else if k.toNat=4 then a.if (a.putOk ru nm (exAt ex 0) (exAt ex 1)) (.ok a)
   else if k.toNat=5 then a.if (a.into ru (exAt ex 0) false) (match evKeep a (evStmts ru P F body a) with
    | .error x=>.error x
    | .ok a1=>match evKeep (a1.with a.nm) (evStmts ru P F els (a1.with a.nm)) with
      | .error x=>.error x
      | .ok a2=>.ok (a2.with (ngone a2.nm a1.nm)))
   else if k.toNat=6∨k.toNat=7 then a.if (a.into ru (exAt ex 0) false) (match evKeep (a.loopIn nm) (evStmts ru P F body (a.loopIn nm)) with
    | .error x=>.error x
    | .ok a1=>.ok ((a1.at (a1.loops-1)).del nm))
   else if k.toNat=8 then a.if (a.lendOk ru fr mt ex) (match evKeep (a.lendIn nm fr mt) (evStmts ru P F body (a.lendIn nm fr mt)) with
    | .error x=>.error x
    | .ok a1=>.ok (a1.lendOut nm fr (a.g fr).lent))
   else if k.toNat=9 then a.if (a.moveOk ru fr) (.ok ((a.put fr {a.g fr with gone:=true}).give nm (Nm.bufv (a.g fr).sec true true)))
   else if k.toNat=10 then a.if (Ex.so ru a.g (exAt ex 0)) (.ok (a.give nm Nm.zero))
   else if k.toNat=11 then a.if (a.callOk ru (calleeM P F fr) nm ex args) (.ok (if emp nm then a else a.give nm (Nm.num (calleeM P F fr).sec false)))
   else a.if (a.sealOk ru P F) (.ok a)
def evStmts (ru:Int) (P:List Fu) (F:Nat):List St→Ev→Er Ev
 |[],a=>.ok a
 |x::l,a=>match evStmt ru P F x a.next with
  | .error y=>.error y
  | .ok a1=>evStmts ru P F l a1
end
def evBlock (ru:Int) (P:List Fu) (F:Nat) (l:List St) (a:Ev):Er Ev:=evKeep a (evStmts ru P F l a)
def evParam (a:Ev) (x:Pa):Ev:=a.give x.name ⟨x.buf,x.sec,x.mt,false,false,false,0,0⟩
def evParams (l:List Pa) (a:Ev):Ev:=l.foldl evParam a
def evFun (ru:Int) (P:List Fu) (F:Nat) (f:Fu) (n:Int):Er Int:=match evStmts ru P F f.body (evParams f.params ⟨[],n,0⟩) with
 | .error x=>.error x
 | .ok a=>if f.ret.all (fun e=>a.into ru e f.sec) then .ok (a.n+1+1) else .error (a.n+1)
def evWalk (ru:Int) (P:List Fu):Nat→Er Int
 |0=>.ok 0
 |i+1=>match evWalk ru P i with
  | .error x=>.error x
  | .ok n=>evFun ru P i (P.getD i Fu.zero) n
def evCheck (ru:Int) (P:List Fu):Int×Int:=match evWalk ru P P.length with
 | .error n=>(n,codeOf ru)
 | .ok _=>(0,0)
section
variable (ru:Int) (P:List Fu) (F:Nat) (k:UInt8) (nm fr:ByteArray) (sec mt:Bool) (ex:List Ex) (args:List ByteArray) (body els:List St) (a:Ev)
theorem ev_1 (h:k.toNat=1):evStmt ru P F (.mk k nm fr sec mt ex args body els) a=a.if (a.into ru (exAt ex 0) sec) (.ok (a.give nm (Nm.num sec true))):=by
 conv=>lhs;unfold evStmt
 rw[if_pos h]
theorem ev_2 (h:k.toNat=2):evStmt ru P F (.mk k nm fr sec mt ex args body els) a=a.if (a.setOk ru nm (exAt ex 0)) (.ok a):=by
 conv=>lhs;unfold evStmt
 rw[if_neg (by omega),if_pos h]
theorem ev_3 (h:k.toNat=3):evStmt ru P F (.mk k nm fr sec mt ex args body els) a=a.if (a.into ru (exAt ex 0) false) (.ok (a.give nm (Nm.bufv sec true true))):=by
 conv=>lhs;unfold evStmt
 rw[if_neg (by omega),if_neg (by omega),if_pos h]
theorem ev_4 (h:k.toNat=4):evStmt ru P F (.mk k nm fr sec mt ex args body els) a=a.if (a.putOk ru nm (exAt ex 0) (exAt ex 1)) (.ok a):=by
 conv=>lhs;unfold evStmt
 rw[if_neg (by omega),if_neg (by omega),if_neg (by omega),if_pos h]
theorem ev_5 (h:k.toNat=5):evStmt ru P F (.mk k nm fr sec mt ex args body els) a=a.if (a.into ru (exAt ex 0) false) (match evBlock ru P F body a with
  | .error x=>.error x
  | .ok a1=>match evBlock ru P F els (a1.with a.nm) with
    | .error x=>.error x
    | .ok a2=>.ok (a2.with (ngone a2.nm a1.nm))):=by
 conv=>lhs;unfold evStmt
 rw[if_neg (by omega),if_neg (by omega),if_neg (by omega),if_neg (by omega),if_pos h];rfl
theorem ev_67 (h:k.toNat=6∨k.toNat=7):evStmt ru P F (.mk k nm fr sec mt ex args body els) a=a.if (a.into ru (exAt ex 0) false) (match evBlock ru P F body (a.loopIn nm) with
  | .error x=>.error x
  | .ok a1=>.ok ((a1.at (a1.loops-1)).del nm)):=by
 conv=>lhs;unfold evStmt
 rw[if_neg (by omega),if_neg (by omega),if_neg (by omega),if_neg (by omega),if_neg (by omega),if_pos h];rfl
theorem ev_8 (h:k.toNat=8):evStmt ru P F (.mk k nm fr sec mt ex args body els) a=a.if (a.lendOk ru fr mt ex) (match evBlock ru P F body (a.lendIn nm fr mt) with
  | .error x=>.error x
  | .ok a1=>.ok (a1.lendOut nm fr (a.g fr).lent)):=by
 conv=>lhs;unfold evStmt
 rw[if_neg (by omega),if_neg (by omega),if_neg (by omega),if_neg (by omega),if_neg (by omega),if_neg (by omega),if_pos h];rfl
theorem ev_9 (h:k.toNat=9):evStmt ru P F (.mk k nm fr sec mt ex args body els) a=a.if (a.moveOk ru fr) (.ok ((a.put fr {a.g fr with gone:=true}).give nm (Nm.bufv (a.g fr).sec true true))):=by
 conv=>lhs;unfold evStmt
 rw[if_neg (by omega),if_neg (by omega),if_neg (by omega),if_neg (by omega),if_neg (by omega),if_neg (by omega),if_neg (by omega),if_pos h]
theorem ev_10 (h:k.toNat=10):evStmt ru P F (.mk k nm fr sec mt ex args body els) a=a.if (Ex.so ru a.g (exAt ex 0)) (.ok (a.give nm Nm.zero)):=by
 conv=>lhs;unfold evStmt
 rw[if_neg (by omega),if_neg (by omega),if_neg (by omega),if_neg (by omega),if_neg (by omega),if_neg (by omega),if_neg (by omega),if_neg (by omega),if_pos h]
theorem ev_11 (h:k.toNat=11):evStmt ru P F (.mk k nm fr sec mt ex args body els) a=a.if (a.callOk ru (calleeM P F fr) nm ex args) (.ok (if emp nm then a else a.give nm (Nm.num (calleeM P F fr).sec false))):=by
 conv=>lhs;unfold evStmt
 rw[if_neg (by omega),if_neg (by omega),if_neg (by omega),if_neg (by omega),if_neg (by omega),if_neg (by omega),if_neg (by omega),if_neg (by omega),if_neg (by omega),if_pos h]
theorem ev_12 (h:11<k.toNat):evStmt ru P F (.mk k nm fr sec mt ex args body els) a=a.if (a.sealOk ru P F) (.ok a):=by
 conv=>lhs;unfold evStmt
 rw[if_neg (by omega),if_neg (by omega),if_neg (by omega),if_neg (by omega),if_neg (by omega),if_neg (by omega),if_neg (by omega),if_neg (by omega),if_neg (by omega),if_neg (by omega)]
end
theorem nodup_inj {α β:Type} {f:α→β}:∀{l:List α},(l.map f).Nodup→∀{x y:α},x∈l→y∈l→f x=f y→x=y
 |z::l,h,x,y,hx,hy,e=>by
  rw[List.map_cons,List.nodup_cons] at h;rcases List.mem_cons.1 hx with hxz|hxl<;>rcases List.mem_cons.1 hy with hyz|hyl
  ·exact hxz.trans hyz.symm
  ·exact absurd (List.mem_map.2 ⟨y,hyl,by rw[←e,hxz]⟩) h.1
  ·exact absurd (List.mem_map.2 ⟨x,hxl,by rw[e,hyz]⟩) h.1
  ·exact nodup_inj h.2 hxl hyl e
theorem evif_ok {a a1:Ev} {ok:Bool} {r:Er Ev} (h:a.if ok r= .ok a1):ok=true∧r= .ok a1:=by
 unfold Ev.if at h;cases ok with
 |true=>exact⟨rfl,h⟩
 |false=>cases h
theorem evKeep_ok {a a1:Ev} {r:Er Ev} (h:evKeep a r= .ok a1):∃a2,r= .ok a2∧a1=a2.with (nkeep a2.nm a.nm):=by
 cases r with
 |error x=>cases h
 |ok a2=>cases h;exact⟨a2,rfl,rfl⟩
theorem loopIn_n (a:Ev) (nm:ByteArray):(a.loopIn nm).n=a.n∧(a.loopIn nm).loops=a.loops+1:=by unfold Ev.loopIn;split<;>exact⟨rfl,rfl⟩
mutual
theorem evStmt_n (ru:Int) (P:List Fu) (F:Nat):∀(st:St) (a a1:Ev),evStmt ru P F st a= .ok a1→a1.loops=a.loops∧a.n≤a1.n∧a1.n+1≤a.n+st.size
 | .mk k nm fr sec mt ex args body els,a,a1,h=>by
   have hsz:(St.mk k nm fr sec mt ex args body els).size=1+St.sizes body+St.sizes els:=by simp only[St.size]
   rw[hsz];by_cases h1:k.toNat=1
   ·rw[ev_1 _ _ _ _ _ _ _ _ _ _ _ _ _ h1] at h;obtain⟨_,h⟩:=evif_ok h;cases h;exact⟨rfl,Int.le_refl _,by show a.n+1≤_;omega⟩
   by_cases h2:k.toNat=2
   ·rw[ev_2 _ _ _ _ _ _ _ _ _ _ _ _ _ h2] at h;obtain⟨_,h⟩:=evif_ok h;cases h;exact⟨rfl,Int.le_refl _,by omega⟩
   by_cases h3:k.toNat=3
   ·rw[ev_3 _ _ _ _ _ _ _ _ _ _ _ _ _ h3] at h;obtain⟨_,h⟩:=evif_ok h;cases h;exact⟨rfl,Int.le_refl _,by show a.n+1≤_;omega⟩
   by_cases h4:k.toNat=4
   ·rw[ev_4 _ _ _ _ _ _ _ _ _ _ _ _ _ h4] at h;obtain⟨_,h⟩:=evif_ok h;cases h;exact⟨rfl,Int.le_refl _,by omega⟩
   by_cases h5:k.toNat=5
   ·rw[ev_5 _ _ _ _ _ _ _ _ _ _ _ _ _ h5] at h;obtain⟨_,h⟩:=evif_ok h;split at h
    ·cases h
    ·rename_i a2 hb;split at h
     ·cases h
     ·rename_i a3 he;cases h;obtain⟨b2,hb2,rfl⟩:=evKeep_ok hb;obtain⟨b3,hb3,rfl⟩:=evKeep_ok he;have g2:=evStmts_n ru P F body a b2 hb2;have g3:=evStmts_n ru P F els _ b3 hb3;simp only[Ev.with] at g2 g3 ⊢;omega
   by_cases h67:k.toNat=6∨k.toNat=7
   ·rw[ev_67 _ _ _ _ _ _ _ _ _ _ _ _ _ h67] at h;obtain⟨_,h⟩:=evif_ok h;split at h
    ·cases h
    ·rename_i a2 hb;cases h;obtain⟨b2,hb2,rfl⟩:=evKeep_ok hb;have g2:=evStmts_n ru P F body _ b2 hb2;rw[(loopIn_n a nm).1,(loopIn_n a nm).2] at g2;simp only[Ev.with,Ev.del,Ev.at] at g2 ⊢;omega
   by_cases h8:k.toNat=8
   ·rw[ev_8 _ _ _ _ _ _ _ _ _ _ _ _ _ h8] at h;obtain⟨_,h⟩:=evif_ok h;split at h
    ·cases h
    ·rename_i a2 hb;cases h;obtain⟨b2,hb2,rfl⟩:=evKeep_ok hb;have g2:=evStmts_n ru P F body _ b2 hb2;simp only[Ev.with,Ev.del,Ev.put,Ev.lendOut,Ev.lendIn,Ev.give] at g2 ⊢;omega
   by_cases h9:k.toNat=9
   ·rw[ev_9 _ _ _ _ _ _ _ _ _ _ _ _ _ h9] at h;obtain⟨_,h⟩:=evif_ok h;cases h;exact⟨rfl,Int.le_refl _,by show a.n+1≤_;omega⟩
   by_cases h10:k.toNat=10
   ·rw[ev_10 _ _ _ _ _ _ _ _ _ _ _ _ _ h10] at h;obtain⟨_,h⟩:=evif_ok h;cases h;exact⟨rfl,Int.le_refl _,by show a.n+1≤_;omega⟩
   by_cases h11:k.toNat=11
   ·rw[ev_11 _ _ _ _ _ _ _ _ _ _ _ _ _ h11] at h;obtain⟨_,h⟩:=evif_ok h;cases h;split
    ·exact⟨rfl,Int.le_refl _,by omega⟩
    ·exact⟨rfl,Int.le_refl _,by show a.n+1≤_;omega⟩
   by_cases h12:11<k.toNat
   ·rw[ev_12 _ _ _ _ _ _ _ _ _ _ _ _ _ h12] at h;obtain⟨_,h⟩:=evif_ok h;cases h;exact⟨rfl,Int.le_refl _,by omega⟩
   ·have h0:k.toNat=0:=by omega
    unfold evStmt at h;rw[if_neg h1,if_neg h2,if_neg h3,if_neg h4,if_neg h5,if_neg h67,if_neg h8,if_neg h9,if_neg h10,if_neg h11] at h;obtain⟨_,h⟩:=evif_ok h;cases h;exact⟨rfl,Int.le_refl _,by omega⟩
theorem evStmts_n (ru:Int) (P:List Fu) (F:Nat):∀(l:List St) (a a1:Ev),evStmts ru P F l a= .ok a1→a1.loops=a.loops∧a.n≤a1.n∧a1.n≤a.n+St.sizes l
 |[],a,a1,h=>by cases h;exact⟨rfl,Int.le_refl _,by simp[St.sizes]⟩
 |x::l,a,a1,h=>by
  unfold evStmts at h;cases h2:evStmt ru P F x a.next with
  |error y=>rw[h2] at h;cases h
  |ok a2=>
   rw[h2] at h;have g2:=evStmt_n ru P F x _ a2 h2;have g1:=evStmts_n ru P F l a2 a1 h;have h0:a.next.n=a.n+1∧a.next.loops=a.loops:=⟨rfl,rfl⟩;simp only[St.sizes];omega
end
theorem evParams_n:∀(l:List Pa) (a:Ev),(evParams l a).loops=a.loops∧(evParams l a).n=a.n
 |[],a=>⟨rfl,rfl⟩
 |x::l,a=>evParams_n l (evParam a x)
theorem evStmts_snoc (ru:Int) (P:List Fu) (F:Nat) (x:St):∀(l:List St) (a:Ev),evStmts ru P F (l++[x]) a=match evStmts ru P F l a with
  | .error y=>.error y
  | .ok a1=>evStmt ru P F x a1.next
 |[],a=>by
  simp only[List.nil_append,evStmts];cases evStmt ru P F x a.next<;>rfl
 |y::l,a=>by
  simp only[List.cons_append,evStmts];cases evStmt ru P F y a.next with
  |error z=>rfl
  |ok a1=>exact evStmts_snoc ru P F x l a1
theorem evStmts_err (ru:Int) (P:List Fu) (F:Nat) (r:List St) (n:Int):∀(l:List St) (a:Ev),evStmts ru P F l a= .error n→evStmts ru P F (l++r) a= .error n
 |[],a,h=>by cases h
 |y::l,a,h=>by
  simp only[List.cons_append,evStmts] at h ⊢;cases h2:evStmt ru P F y a.next with
  |error z=>rw[h2] at h;exact h
  |ok a1=>rw[h2] at h;exact evStmts_err ru P F r n l a1 h
end
end Go.Proofs.YtpkpgmnbheenbaaGreatDoor
