/- Contracts and laws, Mg22 -/
import Derived.Test.YtpkpgmnbheenbaaGreatDoorMg01
import Derived.Test.YtpkpgmnbheenbaaGreatDoorMg04
import Derived.Test.YtpkpgmnbheenbaaGreatDoorMg07
import Derived.Test.YtpkpgmnbheenbaaGreatDoorMg18
import Derived.Deep.DeepCutAuto
import Derived.Deep.CutBlock
import Derived.StillTailTactics
namespace Go.Proofs.YtpkpgmnbheenbaaGreatDoor
open Go.RowKit
set_option linter.unusedVariables false
set_option linter.unusedSimpArgs false
set_option maxHeartbeats 8000000
set_option maxRecDepth 100000
structure Kp (s t:Wk):Prop where
 env:t.env.length=s.env.length
 giv:t.given.length=s.given.length
 n:t.n=s.n
 loops:t.loops=s.loops
 f:t.f=s.f
theorem Kp.refl (s:Wk):Kp s s:=⟨rfl,rfl,rfl,rfl,rfl⟩
theorem Kp.trans {s t u:Wk} (h:Kp s t) (g:Kp t u):Kp s u:=⟨g.env.trans h.env,g.giv.trans h.giv,g.n.trans h.n,g.loops.trans h.loops,g.f.trans h.f⟩
theorem Kp.bad (s:Wk) (ru r:Int) (is:Bool) (e:Int):Kp s (s.bad ru r is e):=by
 obtain⟨h1,h2,h3,h4,h5⟩:=bad_env ru s r is e;exact⟨by rw[h1],by rw[h2],h4,h3,h5⟩
theorem Kp.put (s:Wk) (v:Va):Kp s (s.put v):=⟨by simp[Wk.put],rfl,rfl,rfl,rfl⟩
theorem Kp.ask (ru:Int) (s:Wk) (nm:ByteArray) (b:Bool):Kp s (s.ask ru nm b).2:=
 (((Kp.bad _ _ _ _ _).trans (Kp.bad _ _ _ _ _)).trans (Kp.bad _ _ _ _ _)).trans (Kp.bad _ _ _ _ _)
mutual
theorem Kp.sec (ru:Int):∀(e:Ex) (s:Wk),Kp s (Wk.sec ru e s).2
 | .mk k n nm o l,s=>by
   unfold Wk.sec;split
   ·exact Kp.refl _
   ·split
    ·exact Kp.ask _ _ _ _
    ·split
     ·exact Kp.ask _ _ _ _
     ·split
      ·exact((Kp.ask _ _ _ _).trans (Kp.secs ru l _)).trans (Kp.bad _ _ _ _ _)
      ·exact(Kp.secs ru l _).trans (Kp.bad _ _ _ _ _)
theorem Kp.secs (ru:Int):∀(l:List Ex) (s:Wk),Kp s (Wk.secs ru l s).2
 |[],s=>Kp.refl _
 |e::l,s=>(Kp.sec ru e s).trans (Kp.secs ru l _)
end
theorem Kp.pub (ru:Int) (s:Wk) (e:Ex):Kp s (s.pub ru e):=(Kp.sec ru e s).trans (Kp.bad _ _ _ _ _)
theorem Kp.opn (ru:Int) (s:Wk) (e:Ex) (b:Bool):Kp s (s.opn ru e b):=(Kp.sec ru e s).trans (Kp.bad _ _ _ _ _)
theorem Kp.turned (ru:Int) (s:Wk) (nm:ByteArray):Kp s (s.turned ru nm).2:=((Kp.ask ru s nm true).trans (Kp.bad _ _ _ _ _)).trans (Kp.bad _ _ _ _ _)
theorem Kp.lentN (ru:Int) (args:List ByteArray) (k:Nat) (mt:Bool) (s:Wk):∀j,Kp s (Wk.lentN ru args k mt s j)
 |0=>Kp.refl _
 |j+1=>(Kp.lentN ru args k mt s j).trans (Kp.bad _ _ _ _ _)
theorem Kp.hand1 (ru:Int) (args:List ByteArray) (k:Nat) (s:Wk) (x:Pa):Kp s (Wk.hand1 ru args k s x):=
 (((Kp.bad _ _ _ _ _).trans (Kp.bad _ _ _ _ _)).trans (Kp.bad _ _ _ _ _)).trans (Kp.lentN _ _ _ _ _ _)
theorem Kp.handN (ru:Int) (ps:List Pa) (args:List ByteArray) (s:Wk):∀i,Kp s (Wk.handN ru ps args s i).2
 |0=>Kp.refl _
 |i+1=>by
  simp only[Wk.handN];split
  ·exact Kp.handN ru ps args s i
  ·exact(Kp.handN ru ps args s i).trans (Kp.hand1 _ _ _ _ _)
theorem Kp.handed (ru:Int) (ps:List Pa) (args:List ByteArray) (s:Wk):Kp s (s.handed ru ps args):=(Kp.handN ru ps args s _).trans (Kp.bad _ _ _ _ _)
theorem Kp.callN (ru:Int) (ps:List Pa) (ex:List Ex) (s:Wk):∀i,Kp s (Wk.callN ru ps ex s i).2.2
 |0=>Kp.refl _
 |i+1=>by
  have:=Kp.callN ru ps ex s i;simp only[Wk.callN];split
  ·exact this
  ·simp only;split
   ·exact this.trans (Kp.opn _ _ _ _)
   ·exact this
theorem Kp.secN (ru:Int) (ex:List Ex) (n:Nat) (s:Wk):∀i,Kp s (Wk.secN ru ex n s i)
 |0=>Kp.refl _
 |i+1=>(Kp.secN ru ex n s i).trans (Kp.sec _ _ _)
theorem Kp.askN (ru:Int) (args:List ByteArray) (s:Wk):∀i,Kp s (Wk.askN ru args s i)
 |0=>Kp.refl _
 |i+1=>(Kp.askN ru args s i).trans (Kp.ask _ _ _ _)
theorem Kp.call2 (ru:Int) (f:Option Fu) (nm:ByteArray) (ex:List Ex) (args:List ByteArray) (s:Wk):Kp s (s.call2 ru f nm ex args):=
 (((((Kp.callN _ _ _ _ _).trans (Kp.secN _ _ _ _ _)).trans (Kp.askN _ _ _ _)).trans (Kp.bad _ _ _ _ _)).trans (Kp.bad _ _ _ _ _)).trans (Kp.handed _ _ _ _)
theorem Kp.lend1 (ru:Int) (fr:ByteArray) (mt:Bool) (ex:List Ex) (s:Wk):Kp s (s.lend1 ru fr mt ex).2:=by
 unfold Wk.lend1;simp only;split
 ·exact((((Kp.pub _ _ _).trans (Kp.pub _ _ _)).trans (Kp.ask _ _ _ _)).trans (Kp.turned _ _ _)).trans (Kp.put _ _)
 ·exact(((Kp.pub _ _ _).trans (Kp.pub _ _ _)).trans (Kp.ask _ _ _ _)).trans (Kp.put _ _)
theorem Kp.sealE (ru:Int) (l:List Va):∀s:Wk,Kp s (s.sealE ru l):=by
 induction l with
 |nil=>intro s;exact Kp.refl _
 |cons v l ih=>intro s;exact(Kp.bad s ru 12 (!v.buf&&v.sec) 120).trans (ih _)
theorem Kp.sealed (ru:Int) (s:Wk) (n:Int):Kp s (s.sealed ru n):=(Kp.bad _ _ _ _ _).trans (Kp.sealE _ _ _)
structure Gr (a m:Nat) (s t:Wk):Prop where
 e1:s.env.length≤t.env.length
 e2:t.env.length≤s.env.length+a
 g1:s.given.length≤t.given.length
 g2:t.given.length≤s.given.length+a
 n1:s.n≤t.n
 n2:t.n≤s.n+m
 l:t.loops=s.loops
 f:t.f=s.f
theorem Kp.gr {s t:Wk} (h:Kp s t):Gr 0 0 s t:=⟨by rw[h.env];omega,by rw[h.env];omega,by rw[h.giv];omega,by rw[h.giv];omega,by rw[h.n];omega,by rw[h.n];omega,h.loops,h.f⟩
theorem Gr.mono {a m a' m':Nat} {s t:Wk} (h:Gr a m s t) (ha:a≤a') (hm:m≤m'):Gr a' m' s t:=⟨h.e1,by have:=h.e2;omega,h.g1,by have:=h.g2;omega,h.n1,by have:=h.n2;omega,h.l,h.f⟩
theorem Gr.trans {a m a' m':Nat} {s t u:Wk} (h:Gr a m s t) (g:Gr a' m' t u):Gr (a+a') (m+m') s u:=
 ⟨Nat.le_trans h.e1 g.e1,by have:=h.e2;have:=g.e2;omega,Nat.le_trans h.g1 g.g1,by have:=h.g2;have:=g.g2;omega,by have:=h.n1;have:=g.n1;omega,by have:=h.n2;have:=g.n2;omega,g.l.trans h.l,g.f.trans h.f⟩
theorem Gr.kp {a m:Nat} {s t u:Wk} (h:Gr a m s t) (g:Kp t u):Gr a m s u:=h.trans g.gr
theorem Kp.then {a m:Nat} {s t u:Wk} (h:Kp s t) (g:Gr a m t u):Gr a m s u:=(h.gr.trans g).mono (by omega) (by omega)
theorem Gr.give (ru:Int) (s:Wk) (v:Va):Gr 1 0 s (s.give ru v):=by
 obtain⟨h1,h2,h3,h4,h5⟩:=bad_env ru s 10 (inM s.given v.name) 9;refine⟨?_,?_,?_,?_,?_,?_,h3,h5⟩<;>simp only[Wk.give,List.length_append,List.length_singleton,h1,h2,h4]<;>omega
theorem Gr.cut {a m:Nat} {s t:Wk} (h:Gr a m s t) {k:Nat} (hk:k=s.env.length):Gr a m s (t.cut k):=by
 have h1:(t.cut k).env.length=s.env.length:=by show(t.env.take k).length=_;rw[hk,List.length_take,Nat.min_eq_left h.e1]
 exact⟨by rw[h1];omega,by rw[h1];omega,h.g1,h.g2,h.n1,h.n2,h.l,h.f⟩
theorem Gr.back {a m:Nat} {s t:Wk} (h:Gr a m s t) {e:List Va} (he:e.length=s.env.length):Gr a m s (t.back e):=by
 have h1:(t.back e).env.length=s.env.length:=he;exact⟨by rw[h1];omega,by rw[h1];omega,h.g1,h.g2,h.n1,h.n2,h.l,h.f⟩
theorem gones_len:∀l r:List Va,(gones l r).length=l.length
 |[],r=>by cases r<;>rfl
 |v::l,[]=>rfl
 |v::l,x::r=>by simp[gones,gones_len l r]
theorem Kp.join (s:Wk) (e:List Va):Kp s (s.join e):=⟨gones_len _ _,rfl,rfl,rfl,rfl⟩
theorem Gr.move (ru:Int) (nm fr:ByteArray) (s:Wk):Gr 1 0 s (s.move ru nm fr):=
 (((((Kp.ask ru s fr true).trans (Kp.bad _ _ _ _ _)).trans (Kp.bad _ _ _ _ _)).trans (Kp.bad _ _ _ _ _)).trans (Kp.put _ _)).then (Gr.give _ _ _)
theorem Gr.call (ru:Int) (P:List Fu) (nm fr:ByteArray) (ex:List Ex) (args:List ByteArray) (s:Wk):Gr 1 0 s (s.call ru P nm fr ex args):=by
 unfold Wk.call;simp only;split
 ·exact(Kp.call2 _ _ _ _ _ _).gr.mono (by omega) (by omega)
 ·exact(Kp.call2 _ _ _ _ _ _).then (Gr.give _ _ _)
theorem Gr.deep {a m:Nat} {s t:Wk} (h:Gr a m s.deeper t):t.loops-1=s.loops∧s.env.length≤t.env.length∧t.env.length≤s.env.length+a∧s.given.length≤t.given.length∧t.given.length≤s.given.length+a∧s.n≤t.n∧t.n≤s.n+m∧t.f=s.f:=
 ⟨by rw[h.l];show s.loops+1-1=_;omega,h.e1,h.e2,h.g1,h.g2,h.n1,h.n2,h.f⟩
theorem loopIn_gr (ru:Int) (k:UInt8) (nm:ByteArray) (ex:List Ex) (s:Wk):Gr 1 0 (s.pub ru (exAt ex 0)).deeper (s.loopIn ru k nm ex):=by
 unfold Wk.loopIn;split
 ·exact Gr.give _ _ _
 ·exact(Kp.refl _).gr.mono (by omega) (by omega)
mutual
theorem Gr.stmt (ru:Int) (P:List Fu):∀(st:St) (s:Wk),Gr st.size (st.size-1) s (Wk.stmt ru P st s)
 | .mk k nm fr sec mt ex args body els,s=>by
   have hs:St.size (.mk k nm fr sec mt ex args body els)=1+St.sizes body+St.sizes els:=St.size_eq _;rw[hs];unfold Wk.stmt;split
   ·exact((Kp.opn ru s (exAt ex 0) sec).then (Gr.give _ _ _)).mono (by omega) (by omega)
   split
   ·exact((((Kp.sec _ _ _).trans (Kp.ask _ _ _ _)).trans (Kp.bad _ _ _ _ _)).trans (Kp.bad _ _ _ _ _)).gr.mono (by omega) (by omega)
   split
   ·exact((Kp.pub _ _ _).then (Gr.give _ _ _)).mono (by omega) (by omega)
   split
   ·exact((((Kp.pub _ _ _).trans (Kp.sec _ _ _)).trans (Kp.turned _ _ _)).trans (Kp.bad _ _ _ _ _)).gr.mono (by omega) (by omega)
   split
   ·have h1:=Kp.pub ru s (exAt ex 0);have h2:=(Gr.stmts ru P body (s.pub ru (exAt ex 0))).cut rfl;have h3:=h2.back (e:=(s.pub ru (exAt ex 0)).env) rfl;have h4:=(Gr.stmts ru P els _).cut (s:=((Wk.stmts ru P body (s.pub ru (exAt ex 0))).cut (s.pub ru (exAt ex 0)).env.length).back (s.pub ru (exAt ex 0)).env) (k:=(s.pub ru (exAt ex 0)).env.length) rfl;exact(h1.then ((h3.trans h4).kp (Kp.join _ _))).mono (by omega) (by omega)
   split
   ·have h2:=((loopIn_gr ru k nm ex s).trans (Gr.stmts ru P body (s.loopIn ru k nm ex)));have h1:=Kp.pub ru s (exAt ex 0);have h3:=loopIn_gr ru k nm ex s;have h4:=((Gr.stmts ru P body (s.loopIn ru k nm ex)).cut rfl);obtain⟨g1,g2,g3,g4,g5,g6,g7,g8⟩:=(h3.trans h4).deep;have he:(((Wk.stmts ru P body (s.loopIn ru k nm ex)).cut (s.loopIn ru k nm ex).env.length).loopOut (s.pub ru (exAt ex 0)).env.length).env.length=s.env.length:=by
     show(List.take _ _).length=_
     rw[List.length_take,Nat.min_eq_left g2,h1.env]
    refine⟨by rw[he];omega,by rw[he];omega,?_,?_,?_,?_,?_,?_⟩
    ·show s.given.length≤_;have:=h1.giv;exact Nat.le_trans (by omega) g4
    ·have:=h1.giv;exact Nat.le_trans g5 (by omega)
    ·have:=h1.n;exact Int.le_trans (by omega) g6
    ·have:=h1.n;exact Int.le_trans g7 (by omega)
    ·exact g1.trans h1.loops
    ·exact g8.trans h1.f
   split
   ·have h1:=Kp.lend1 ru fr mt ex s;have h2:=Gr.give ru (s.lend1 ru fr mt ex).2 (Va.bufv nm (s.lend1 ru fr mt ex).1.sec mt false);have h3:=(Gr.stmts ru P body ((s.lend1 ru fr mt ex).2.give ru (Va.bufv nm (s.lend1 ru fr mt ex).1.sec mt false))).cut rfl;exact((h1.then ((h2.trans h3).cut rfl)).kp (Kp.put _ _)).mono (by omega) (by omega)
   split
   ·exact(Gr.move _ _ _ _).mono (by omega) (by omega)
   split
   ·exact((Kp.sec _ _ _).then (Gr.give _ _ _)).mono (by omega) (by omega)
   split
   ·exact(Gr.call _ _ _ _ _ _ _).mono (by omega) (by omega)
   ·exact(Kp.sealed _ _ _).gr.mono (by omega) (by omega)
theorem Gr.stmts (ru:Int) (P:List Fu):∀(l:List St) (s:Wk),Gr (St.sizes l) (St.sizes l) s (Wk.stmts ru P l s)
 |[],s=>(Kp.refl _).gr
 |x::l,s=>by
  unfold Wk.stmts;have h0:Gr 0 1 s s.next:=⟨Nat.le_refl _,Nat.le_refl _,Nat.le_refl _,Nat.le_refl _,by show s.n≤s.n+1;omega,by show s.n+1≤s.n+1;omega,rfl,rfl⟩;have hs:=St.size_eq x;have h1:St.sizes (x::l)=x.size+St.sizes l:=rfl;exact((h0.trans (Gr.stmt ru P x s.next)).trans (Gr.stmts ru P l _)).mono (by omega) (by omega)
end
structure Lim (a m:Nat) (s:Wk):Prop where
 env:s.env.length+a≤1099511627776
 giv:s.given.length+a≤1099511627776
 n0:0≤s.n
 n1:s.n+m≤1099511627776
 l0:0≤s.loops
 l1:s.loops+a≤1099511627776
theorem Lim.le {a m a' m':Nat} {s:Wk} (h:Lim a m s) (ha:a'≤a) (hm:m'≤m):Lim a' m' s:=⟨by have:=h.env;omega,by have:=h.giv;omega,h.n0,by have:=h.n1;omega,h.l0,by have:=h.l1;omega⟩
theorem Lim.kp {a m:Nat} {s t:Wk} (h:Lim a m s) (k:Kp s t):Lim a m t:=⟨by rw[k.env];exact h.env,by rw[k.giv];exact h.giv,by rw[k.n];exact h.n0,by rw[k.n];exact h.n1,by rw[k.loops];exact h.l0,by rw[k.loops];exact h.l1⟩
theorem Lim.gr {N M a m:Nat} {s t:Wk} (h:Lim (N+a) (M+m) s) (k:Gr a m s t):Lim N M t:=
 ⟨by have:=h.env;have:=k.e2;omega,by have:=h.giv;have:=k.g2;omega,by have:=h.n0;have:=k.n1;omega,by have:=h.n1;have:=k.n2;omega,by rw[k.l];exact h.l0,by rw[k.l];have:=h.l1;omega⟩
theorem Lim.loopIn {a m:Nat} {s:Wk} (h:Lim (a+1) m s) (ru:Int) (k:UInt8) (nm:ByteArray) (ex:List Ex):Lim a m (s.loopIn ru k nm ex):=by
 have h1:=h.kp (Kp.pub ru s (exAt ex 0));have h2:=loopIn_gr ru k nm ex s;have e2:=h2.e2;have g2:=h2.g2;have n1:=h2.n1;have n2:=h2.n2;have l:=h2.l
 have:=h1.env;have:=h1.giv;have:=h1.n0;have:=h1.n1;have:=h1.l0;have:=h1.l1
 simp only[Wk.deeper] at e2 g2 n1 n2 l;exact⟨by omega,by omega,by omega,by omega,by omega,by omega⟩
theorem Lim.next {a m:Nat} {s:Wk} (h:Lim a (m+1) s):Lim a m s.next:=⟨h.env,h.giv,by have:=h.n0;show 0≤s.n+1;omega,by have:=h.n1;show s.n+1+m≤_;omega,h.l0,h.l1⟩
section
structure Mid (base b:Nat) (PV:Value) (ru:Int) (w0:World) (ve0 vg0:Value) (w:World) (s:Wk) (ve vg:Value):Prop where
 at':WkAt base b PV ru w s ve vg
 fr:Fr (WS b ve0 vg0) w0 w
 new:∀k,WS b ve vg k→WS b ve0 vg0 k∨w0.heap.size≤k
section
variable {base b:Nat} {PV:Value} {ru:Int} {w0 w w':World} {ve0 vg0 ve vg:Value} {s s':Wk}
theorem Mid.start (h:WkAt base b PV ru w s ve vg):Mid base b PV ru w ve vg w s ve vg:=⟨h,Fr.refl _ _,fun _ h=>.inl h⟩
theorem Mid.stay (h:Mid base b PV ru w0 ve0 vg0 w s ve vg) (hf:Fr Non w w'):Mid base b PV ru w0 ve0 vg0 w' s ve vg:=⟨h.at'.stay hf,h.fr.trans hf.non,h.new⟩
theorem Mid.one (h:Mid base b PV ru w0 ve0 vg0 w s ve vg) (hf:Fr (fun k=>k=b) w w') (h':WkAt base b PV ru w' s' ve vg):Mid base b PV ru w0 ve0 vg0 w' s' ve vg:=
 ⟨h',h.fr.trans (hf.mono fun _ _ e=>.inl e),h.new⟩
theorem Mid.stp (h:Mid base b PV ru w0 ve0 vg0 w s ve vg):Stp base b PV ru w0 ve0 vg0 w s:=⟨ve,vg,h.at',h.fr,h.new⟩
theorem Mid.step (h:Mid base b PV ru w0 ve0 vg0 w s ve vg) (k:Stp base b PV ru w ve vg w' s'):∃ve' vg',Mid base b PV ru w0 ve0 vg0 w' s' ve' vg'∧Fr (WS b ve vg) w w'∧∀k,WS b ve' vg' k→WS b ve vg k∨w.heap.size≤k:=by
 obtain⟨ve',vg',h1,h2,h3⟩:=k;refine⟨ve',vg',⟨h1,⟨h2.os.trans h.fr.os,h2.tape.trans h.fr.tape,h2.output.trans h.fr.output,Nat.le_trans h.fr.size h2.size,fun k hk hs=>?_⟩,fun k hk=>?_⟩,h2,h3⟩
 ·rw[h2.block k (Nat.lt_of_lt_of_le hk h.fr.size) fun h9=>?_,h.fr.block k hk hs];rcases h.new k h9 with h9|h9
  ·exact hs h9
  ·omega
 ·rcases h3 k hk with h9|h9
  ·exact h.new k h9
  ·exact .inr (Nat.le_trans h.fr.size h9)
theorem Mid.away {S:Nat→Prop} (h:Mid base b PV ru w0 ve0 vg0 w s ve vg) (hf:Fr S w w') (hs:∀k,WS b ve vg k→¬S k) (h0:∀k,S k→w0.heap.size≤k):Mid base b PV ru w0 ve0 vg0 w' s ve vg:=
 ⟨h.at'.far hf hs,h.fr.then hf fun k hk h9=>by have:=h0 k h9;omega,h.new⟩
theorem far_new (h:WkAt base b PV ru w s ve vg):¬WS b ve vg w.heap.size:=fun hk=>by have:=(h.lt _ hk).2;omega
theorem far_step {ve' vg':Value} {q:Nat} (h:¬WS b ve vg q) (hq:q<w.heap.size) (hn:∀k,WS b ve' vg' k→WS b ve vg k∨w.heap.size≤k):¬WS b ve' vg' q:=fun hk=>by
 rcases hn q hk with h9|h9
 ·exact h h9
 ·omega
theorem far_b {q:Nat} (h:¬WS b ve vg q):¬q=b:=fun e=>h (.inl e)
end
theorem move_any (base b:Nat) (PV:Value) (ru:Int) (w:World) (s:Wk) (ve vg:Value) (k:UInt8) (nm fr:ByteArray) (sec mt:Bool) (A1 A2 A3 A4:Option Addr) (n1 c1 n2 c2 n3 c3 n4 c4:Nat)
  (h:WkAt base b PV ru w s ve vg) (hl:Lim 1 0 s):
  Calls Tryz.prog 145 #[.pointer (some ⟨b,0,none⟩),.agg #[vu8 k,.string nm,.string fr,.bool sec,.bool mt,.slice A1 n1 c1,.slice A2 n2 c2,.slice A3 n3 c3,.slice A4 n4 c4]] w fun e w'=>e= .returned (.tuple #[])∧Stp base b PV ru w ve vg w' (s.move ru nm fr):=by
 have hc:=hl.env;have hc2:=hl.giv;obtain⟨W1,HW1⟩:∃W1,W1=w.alloc (.cells #[vu8 k,.string nm,.string fr,.bool sec,.bool mt,.slice A1 n1 c1,.slice A2 n2 c2,.slice A3 n3 c3,.slice A4 n4 c4] 42):=⟨_,rfl⟩;have hf1:Fr Non w W1:=by rw[HW1];exact(Zf w).alloc _
 have hb1:W1.heap[w.heap.size]? =some (.cells #[vu8 k,.string nm,.string fr,.bool sec,.bool mt,.slice A1 n1 c1,.slice A2 n2 c2,.slice A3 n3 c3,.slice A4 n4 c4] 42 (0,0)):=by rw[HW1];exact blk_new _ _ _
 have hfar:=far_new h;have M1:=Zh ((Mid.start h).stay hf1);clear h hf1;have s2:=(Zc hb1).1 2 _ rfl;have HB1:=Zh hb1;clear hb1;have HS:=Zh (show s.move ru nm fr=((((((s.ask ru fr true).2.bad ru 11 (!(s.ask ru fr true).1.own) 8).bad ru 13 ((s.ask ru fr true).1.lent==1) 130).bad ru 14 ((s.ask ru fr true).1.loops !=(s.ask ru fr true).2.loops) 140).put {(s.ask ru fr true).1 with gone:=true})).give ru (Va.bufv nm (s.ask ru fr true).1.sec true true) from rfl);have HK:=Zh (Kp.ask ru s fr true);go_enter Tryz.func145,Tryz.ntmps145;go_wp2_with fail;rw[←HW1];clear HW1;refine(ask_any base b PV ru W1 s ve vg fr true M1.out.at' (by omega)).mono ?_;rintro e w2 ⟨rfl,hf2,h2⟩;generalize (s.ask ru fr true).1=x at*;generalize (s.ask ru fr true).2=t at*;obtain⟨W3,HW3⟩:∃W3,W3=w2.alloc (.cells #[.string x.name,.bool x.buf,.bool x.sec,.bool x.mt,.bool x.own,.bool x.set,.bool x.gone,.int .i64 x.lent,.int .i64 x.loops] 184):=⟨_,rfl⟩;have hf3:Fr Non w2 W3:=by rw[HW3];exact(Zf _).alloc _
 have hv3:W3.heap[w2.heap.size]? =some (.cells #[.string x.name,.bool x.buf,.bool x.sec,.bool x.mt,.bool x.own,.bool x.set,.bool x.gone,.int .i64 x.lent,.int .i64 x.loops] 184 (0,0)):=by rw[HW3];exact blk_new _ _ _
 have hfv:=far_new h2;have hb2:=Zb HB1.out hf2 (far_b hfar);have hb3:=Zb hb2 hf3 (non _);have hlt2:=blk_lt hb2;have M3:=Zh ((M1.out.one hf2 h2).stay hf3);clear hf2 h2 s2;have HF3:=Zh hf3;clear hf3;have HB3:=Zh hb3;clear hb2 hb3;have v4:=(Zc hv3).1 4 _ rfl;have HV3:=Zh hv3;clear hv3;unfold Va.v;go_upto_region 2 with fail;rw[←HW3];clear HW3;go_wp2_with fail;refine(bad_any base b PV ru W3 t ve vg 11 _ 8 M3.out.at').mono ?_;rintro e w4 ⟨rfl,hf4,h4⟩;have hb4:=Zb HB3.out hf4 (far_b hfar);have hv4:=Zb HV3.out hf4 (far_b hfv);have M4:=Zh (M3.out.one hf4 h4);clear hf4 h4 v4;have v7:=(Zc hv4).1 7 _ rfl;have HB4:=Zh hb4;clear hb4;have HV4:=Zh hv4;clear hv4;go_wp2_with fail;refine(bad_any base b PV ru w4 _ ve vg 13 _ 130 M4.out.at').mono ?_;rintro e w5 ⟨rfl,hf5,h5⟩;have hb5:=Zb HB4.out hf5 (far_b hfar);have hv5:=Zb HV4.out hf5 (far_b hfv);have M5:=Zh (M4.out.one hf5 h5);clear hf5 h5 v7;have v8:=(Zc hv5).1 8 _ rfl;have b8:=(Zc M5.out.at'.blk).1 8 _ rfl;have HLo:=Zh (show((t.bad ru 11 (!x.own) 8).bad ru 13 (x.lent==1) 130).loops=t.loops by rw[(bad_env _ _ _ _ _).2.2.1,(bad_env _ _ _ _ _).2.2.1]);have HB5:=Zh hb5;clear hb5;have HV5:=Zh hv5;clear hv5;go_upto_region 4 with fail
 go_still_tail 8,(by kernel_rfl)
 change wpList _ _ _ _ _ w5.drew
 have M6:=Zh (M5.out.stay (Zf w5).drew);have HB6:=Zh (Zb HB5.out (Zf w5).drew (non _));have HV6:=Zh (Zb HV5.out (Zf w5).drew (non _));clear v8 b8;go_wp2_with fail;refine(bad_any base b PV ru w5.drew _ ve vg 14 _ 140 M6.out.at').mono ?_;rintro e w7 ⟨rfl,hf7,h7⟩;rw[HLo.out] at h7;have hb7:=Zb HB6.out hf7 (far_b hfar);have hv7:=Zb HV6.out hf7 (far_b hfv);have M7:=Zh (M6.out.one hf7 h7);clear hf7 h7;have HB7:=Zh hb7;clear hb7;have HK7:=Zh (show Kp s _ from(((HK.out.trans (Kp.bad t ru 11 (!x.own) 8)).trans (Kp.bad _ ru 13 (x.lent==1) 130)).trans (Kp.bad _ ru 14 (x.loops !=t.loops) 140)));generalize ((t.bad ru 11 (!x.own) 8).bad ru 13 (x.lent==1) 130).bad ru 14 (x.loops !=t.loops) 140=u at*;have l0:=(Zc hv7).1 0 _ rfl;have l1:=(Zc hv7).1 1 _ rfl;have l2:=(Zc hv7).1 2 _ rfl;have l3:=(Zc hv7).1 3 _ rfl;have l4:=(Zc hv7).1 4 _ rfl;have l5:=(Zc hv7).1 5 _ rfl;have l6:=(Zc hv7).1 6 _ rfl;have l7:=(Zc hv7).1 7 _ rfl;have l8:=(Zc hv7).1 8 _ rfl;have HV7:=Zh hv7;clear hv7;go_upto_region 6 with fail;obtain⟨W8,HW8⟩:∃W8,W8=w7.alloc (.cells #[.string x.name,.bool x.buf,.bool x.sec,.bool x.mt,.bool x.own,.bool x.set,.bool x.gone,.int .i64 x.lent,.int .i64 x.loops] 184):=⟨_,rfl⟩;have hf8:Fr Non w7 W8:=by rw[HW8];exact(Zf _).alloc _
 have hx8:W8.heap[w7.heap.size]? =some (.cells #[.string x.name,.bool x.buf,.bool x.sec,.bool x.mt,.bool x.own,.bool x.set,.bool x.gone,.int .i64 x.lent,.int .i64 x.loops] 184 (0,0)):=by rw[HW8];exact blk_new _ _ _
 have hfx:=far_new M7.out.at';have hlt7:=blk_lt HB7.out;have hlv7:=blk_lt HV7.out;have z8:=(Zc hx8).2;have z6:=(Zc hx8).1 6 _ rfl;have HX8:=Zh hx8;clear hx8;have HB8:=Zh (Zb HB7.out hf8 (non _));have HV8:=Zh (Zb HV7.out hf8 (non _));have M8:=Zh (M7.out.stay hf8);clear hf8 l0 l1 l2 l3 l4 l5 l6 l7 l8;rw[←HW8];clear HW8;go_upto_region 7 with fail;obtain⟨W9,HW9⟩:∃W9,W9=W8.setCell ⟨w7.heap.size,6,none⟩ (.bool true):=⟨_,rfl⟩;rw[←HW9];have hx9:W9.heap[w7.heap.size]? =some (.cells #[.string x.name,.bool x.buf,.bool x.sec,.bool x.mt,.bool x.own,.bool x.set,.bool true,.int .i64 x.lent,.int .i64 x.loops] 184 (0,0)):=by rw[HW9];exact blk_set HX8.out 6 _
 have hf9:Fr (fun q=>q=w7.heap.size) W8 W9:=by rw[HW9];exact(Fr.refl _ _).setCell _ _ (.inl rfl)
 clear HW9;have HB9:=Zh (Zb HB8.out hf9 (by omega));have HV9:=Zh (Zb HV8.out hf9 (by omega));have M9:=Zh (M8.out.away hf9 (fun q hq e=>by subst e;exact hfx hq) (fun q e=>by subst e;exact M7.out.fr.size));clear hf9 z8 z6;have l0:=(Zc hx9).1 0 _ rfl;have l1:=(Zc hx9).1 1 _ rfl;have l2:=(Zc hx9).1 2 _ rfl;have l3:=(Zc hx9).1 3 _ rfl;have l4:=(Zc hx9).1 4 _ rfl;have l5:=(Zc hx9).1 5 _ rfl;have l6:=(Zc hx9).1 6 _ rfl;have l7:=(Zc hx9).1 7 _ rfl;have l8:=(Zc hx9).1 8 _ rfl;clear hx9;have hcu:u.env.length≤1099511627776:=by rw[HK7.out.env];omega
 have hgu:u.given.length≤1099511627776:=by rw[HK7.out.giv];omega
 go_wp2_with fail;refine(put_any base b PV ru W9 u ve vg {x with gone:=true} M9.out.at' hcu).mono ?_;rintro e w10 ⟨rfl,h10⟩;obtain⟨ve',vg',m10,hf10,hn10⟩:=M9.out.step h10;have hlB9:=blk_lt HB9.out;have hlV9:=blk_lt HV9.out;have hb10:=Zb HB9.out hf10 hfar;have hv10:=Zb HV9.out hf10 hfv;have M10:=Zh m10;clear h10 hf10 hn10 m10 l0 l1 l2 l3 l4 l5 l6 l7 l8;have s1:=(Zc hb10).1 1 _ rfl;have v2:=(Zc hv10).1 2 _ rfl;clear hb10 hv10;go_wp2_with fail;refine(give_any base b PV ru w10 _ ve' vg' (Va.bufv nm x.sec true true) M10.out.at' (by simpa[Wk.put] using hcu) hgu).mono ?_;rintro e w11 ⟨rfl,h11⟩;obtain⟨ve2,vg2,m11,_,_⟩:=M10.out.step h11;have M11:=Zh m11;clear h11 m11;go_wp2_with fail
 go_end0
 rw[HS.out];exact⟨rfl,M11.out.stp⟩
end
theorem found_any {ok:Nat→Prop} {o:Option Fu} {e:Ending} {w':World} (h:FoundF ok o e w'):∃A1 c1 A2 c2 A3 c3,e= .returned (.tuple #[.agg #[.string (o.getD Fu.zero).name,.slice A1 (o.getD Fu.zero).params.length c1,.slice A2 (o.getD Fu.zero).body.length c2,.bool (o.getD Fu.zero).sec,.slice A3 (o.getD Fu.zero).ret.length c3],.bool o.isSome])∧
  RdRows ok w' 4 A1 0 ((o.getD Fu.zero).params.map Pa.d)∧(o.getD Fu.zero).params.length*24≤reach:=by
 cases o with
 |none=>exact⟨none,0,none,0,none,0,h,trivial,by decide⟩
 |some f=>
  obtain⟨u,rfl,A1,c1,A2,c2,A3,c3,rfl,h1,h2,_⟩:=h;exact⟨A1,c1,A2,c2,A3,c3,rfl,h1,h2⟩
theorem callN_le (ru:Int) (ps:List Pa) (ex:List Ex) (s:Wk):∀i,(Wk.callN ru ps ex s i).1≤i∧(Wk.callN ru ps ex s i).2.1≤i
 |0=>⟨Nat.le_refl _,Nat.le_refl _⟩
 |i+1=>by
  have:=callN_le ru ps ex s i;simp only[Wk.callN];split<;>simp only<;>omega
theorem wk_flag {base b:Nat} {PV:Value} {ru:Int} {w:World} {s:Wk} {ve vg:Value} {r e:Int} {x y:Bool} (hx:x=y) (h:WkAt base b PV ru w (s.bad ru r x e) ve vg):WkAt base b PV ru w (s.bad ru r y e) ve vg:=hx▸h
theorem call_any (base b:Nat) (ok:Nat→Prop) (PA:Option Addr) (pc:Nat) (P:List Fu) (F:Nat) (ru:Int) (w:World) (s:Wk) (ve vg:Value) (k:UInt8) (nm fr:ByteArray) (sec mt:Bool) (ex:List Ex) (args:List ByteArray) (A1 A2 A3 A4:Option Addr) (c1 c2 n3 c3 n4 c4:Nat)
  (h:WkAt base b (.slice PA P.length pc) ru w s ve vg) (hl:Lim 1 0 s) (hP:ScP base ok PA pc P F w) (hF:s.f=(F:Int)) (hex:ex.all exM=true) (q1:ex.length*64≤reach) (r1:RdRows ok w 5 A1 0 (Ex.ds ex)) (q2:args.length*16≤reach) (r2:RdRows ok w 1 A2 0 (args.map strD)):
  Calls Tryz.prog 146 #[.pointer (some ⟨b,0,none⟩),.agg #[vu8 k,.string nm,.string fr,.bool sec,.bool mt,.slice A1 ex.length c1,.slice A2 args.length c2,.slice A3 n3 c3,.slice A4 n4 c4]] w fun e w'=>e= .returned (.tuple #[])∧Stp base b (.slice PA P.length pc) ru w ve vg w' (s.call ru P nm fr ex args):=by
 have hc:s.env.length≤1099511627776:=by have:=hl.env;omega
 have hc2:s.given.length≤1099511627776:=by have:=hl.giv;omega
 have hl1:ex.length≤140737488355328:=by unfold reach at q1;omega
 have hl2:args.length≤140737488355328:=by unfold reach at q2;omega
 obtain⟨W1,HW1⟩:∃W1,W1=w.alloc (.cells #[vu8 k,.string nm,.string fr,.bool sec,.bool mt,.slice A1 ex.length c1,.slice A2 args.length c2,.slice A3 n3 c3,.slice A4 n4 c4] 42):=⟨_,rfl⟩;have hf1:Fr Non w W1:=by rw[HW1];exact(Zf w).alloc _
 have hb1:W1.heap[w.heap.size]? =some (.cells #[vu8 k,.string nm,.string fr,.bool sec,.bool mt,.slice A1 ex.length c1,.slice A2 args.length c2,.slice A3 n3 c3,.slice A4 n4 c4] 42 (0,0)):=by rw[HW1];exact blk_new _ _ _
 have hfar:=far_new h;have hbw:=blk_lt h.blk;have HOK:=Zh (show∀q,ok q→¬q=b by intro q hq e;have h1:=hP.hok q hq;have:=h.hb;omega);have HOKB:=Zh (show∀q,ok q→q<W1.heap.size by intro q hq;have h1:=hP.hok q hq;have:=h.hb;have:=hf1.size;omega);have HP:=Zh (hP.fr hf1 (fun _ _=>non _));clear hP;have R1:=Zh (r1.fr hf1 (fun _ _=>non _) fun _ h=>h);clear r1;have R2:=Zh (r2.fr hf1 (fun _ _=>non _) fun _ h=>h);clear r2;have M1:=Zh ((Mid.start h).stay hf1);clear h hf1;have s2:=(Zc hb1).1 2 _ rfl;have HB1:=Zh hb1;clear hb1;have hFn:s.f.toNat=F:=by omega
 have HS:=Zh (show s.call ru P nm fr ex args=if emp nm then s.call2 ru ((P.take F).find? fun f=>sq f.name fr) nm ex args else(s.call2 ru ((P.take F).find? fun f=>sq f.name fr) nm ex args).give ru (Va.num nm (((P.take F).find? fun f=>sq f.name fr).getD Fu.zero).sec false) by rw[Wk.call,Wk.func,hFn]);have HFH:=Zh hF;clear hF hFn;have HEX:=Zh hex;clear hex;go_enter Tryz.func146,Tryz.ntmps146;go_wp2_with fail;rw[←HW1];clear HW1;refine(func_any base b PA pc ru W1 s ve vg fr P ok F M1.out.at' HFH.out (Nat.le_of_lt HP.out.hF) HP.out.rows HP.out.hc HOKB.out).mono ?_;rintro e w2 ⟨hf2,hfo⟩;obtain⟨B1,d1,B2,d2,B3,d3,rfl,pr,pq⟩:=found_any hfo;clear hfo;generalize ((P.take F).find? fun f=>sq f.name fr)=fo at*;have HC2:=Zh (show s.call2 ru fo nm ex args=((((Wk.askN ru args (Wk.secN ru ex (Wk.callN ru (fo.getD Fu.zero).params ex s (fo.getD Fu.zero).params.length).1 (Wk.callN ru (fo.getD Fu.zero).params ex s (fo.getD Fu.zero).params.length).2.2 (ex.length-(Wk.callN ru (fo.getD Fu.zero).params ex s (fo.getD Fu.zero).params.length).1)) args.length).bad ru 10 (!fo.isSome) 3).bad ru 11 ((Wk.callN ru (fo.getD Fu.zero).params ex s (fo.getD Fu.zero).params.length).1 !=ex.length||(Wk.callN ru (fo.getD Fu.zero).params ex s (fo.getD Fu.zero).params.length).2.1 !=args.length|| !emp nm&&(fo.getD Fu.zero).ret.length==0) 8).handed ru (fo.getD Fu.zero).params args) from rfl);generalize fo.getD Fu.zero=f at*;generalize fo.isSome=is at*;have hl3:f.params.length≤140737488355328:=by unfold reach at pq;omega
 obtain⟨W3,HW3⟩:∃W3,W3=w2.alloc (.cells #[.string f.name,.slice B1 f.params.length d1,.slice B2 f.body.length d2,.bool f.sec,.slice B3 f.ret.length d3] 53):=⟨_,rfl⟩;have hf3:Fr Non w2 W3:=by rw[HW3];exact(Zf _).alloc _
 have hg3:W3.heap[w2.heap.size]? =some (.cells #[.string f.name,.slice B1 f.params.length d1,.slice B2 f.body.length d2,.bool f.sec,.slice B3 f.ret.length d3] 53 (0,0)):=by rw[HW3];exact blk_new _ _ _
 have hf23:=hf2.trans hf3;have hfg:=far_new (M1.out.at'.stay hf2);have hlt2:=blk_lt (Zb HB1.out hf2 (non _));have HB3:=Zh (Zb HB1.out hf23 (non _));have M3:=Zh (M1.out.stay hf23);have HG3:=Zh hg3;clear hg3;have PR:=Zh (pr.fr hf3 (fun _ _=>non _) fun _ h=>h);clear pr;have R13:=Zh (R1.out.fr hf23 (fun _ _=>non _) fun _ h=>h);have R23:=Zh (R2.out.fr hf23 (fun _ _=>non _) fun _ h=>h);clear hf2 hf3 hf23 s2;go_upto_region 2 with fail;rw[←HW3];clear HW3;go_wp2_with fail
 go_loopw [6,7,8] (fun u v i wr=>∃j:Nat,i= .int .i64 j∧u= .int .i64 (Wk.callN ru f.params ex s j).1∧v= .int .i64 (Wk.callN ru f.params ex s j).2.1∧j≤f.params.length∧Fr (fun q=>q=b) W3 wr∧WkAt base b (.slice PA P.length pc) ru wr (Wk.callN ru f.params ex s j).2.2 ve vg) (fun _ _ i _=>f.params.length-(intOf i).toNat)
 case atStart=>exact⟨0,rfl,rfl,rfl,by omega,Fr.refl _ _,M3.out.at'⟩
 case round=>
  rename_i QA KA aA;have HAA:=Zh aA;clear aA;obtain⟨j,rfl,rfl,rfl,hj,hfr,hw⟩:=hrel;have hcl:=callN_le ru f.params ex s j;have HKP:=Zh (Kp.callN ru f.params ex s j);have hbs:=Zb HB3.out hfr (far_b hfar);have hbg:=Zb HG3.out hfr (far_b hfg);have g1:=(Zc hbg).1 1 _ rfl;have s5:=(Zc hbs).1 5 _ rfl;have HBS:=Zh hbs;clear hbs;have HBG:=Zh hbg;clear hbg;have HFR:=Zh hfr;have HST:=Zh (show Wk.callN ru f.params ex s (j+1)=if(f.params.getD j Pa.zero).buf then((Wk.callN ru f.params ex s j).1,(Wk.callN ru f.params ex s j).2.1+1,(Wk.callN ru f.params ex s j).2.2) else((Wk.callN ru f.params ex s j).1+1,(Wk.callN ru f.params ex s j).2.1,if(Wk.callN ru f.params ex s j).1<ex.length then(Wk.callN ru f.params ex s j).2.2.opn ru (ex.getD (Wk.callN ru f.params ex s j).1 Ex.zero) (f.params.getD j Pa.zero).sec else(Wk.callN ru f.params ex s j).2.2) from rfl);by_cases hlt:j<f.params.length
  ·obtain⟨b5,o5,rfl,hb5,y0,y1,y2,y3⟩:=at_pa (PR.out.fr hfr (fun q hq=>HOK.out q hq) fun _ h=>h) j hlt;have hgd:f.params.getD j Pa.zero=f.params[j]:=by rw[List.getD_eq_getElem?_getD,List.getElem?_eq_getElem hlt,Option.getD_some]
   rw[hgd] at HST;clear hgd;generalize f.params[j]=x at*;obtain⟨xn,xb,xs,xm⟩:=x;simp only at y0 y1 y2 y3 HST;have HR9:=Zh (R13.out.fr hfr (fun q hq=>HOK.out q hq) fun _ h=>h);have HWK:=Zh hw;clear hw hfr y0 y3;generalize hcn:Wk.callN ru f.params ex s j=r at*;clear hcn;obtain⟨rn,rb,t⟩:=r;simp only at hcl HKP HST HWK HFR;obtain⟨hcl1,hcl2⟩:=hcl;cases xb with
   |true=>
    have hst:=HST.out;rw[if_pos rfl] at hst;have HST2:=Zh hst;clear hst HST;go_wp2_with fail;have aA:=HAA.out;go_roundw
    case rel=>exact⟨j+1,by go_num,by rw[HST2.out],by rw[HST2.out];go_num,by omega,HFR.out,by rw[HST2.out];exact HWK.out⟩
    case measure=>simp[intOf];omega
   |false=>
    have hst:=HST.out;rw[if_neg Bool.false_ne_true] at hst;have HST2:=Zh hst;clear hst HST;by_cases hn:rn<ex.length
    ·obtain⟨b6,o6,A6,c6,rfl,hb6,x0,x1,x2,x3,x4,p6,q6,r6⟩:=at_ex HR9.out rn hn;have hst:=HST2.out;rw[if_pos hn,List.getD_eq_getElem?_getD,List.getElem?_eq_getElem hn,Option.getD_some] at hst;have hem:exM ex[rn]=true:=by have:=HEX.out;rw[List.all_eq_true] at this;exact this _ (List.getElem_mem hn)
     have HEM:=Zh hem;clear hem;have HST3:=Zh hst;clear hst HST2;generalize ex[rn]=y at*;have HR6:=Zh (r6.fr (Zf wr).drew (fun _ _=>non _) fun _ h=>h);clear r6;have hkd:=Zh (HWK.out.stay (Zf wr).drew);have hct:t.env.length≤1099511627776:=by rw[HKP.out.env];exact hc
     go_upto_region 9 with fail
     go_still_tail 12,(by kernel_rfl)
     change wpList _ _ _ _ _ wr.drew
     clear x0 x1 x2 x3 x4;go_wp2_with fail;refine(open_any y xs 1 ok A6 c6 base b _ ru wr.drew t ve vg HEM.out HR6.out HOK.out hkd.out hct).mono ?_;rintro e w7 ⟨rfl,hf7,h7⟩;have HF7:=Zh (HFR.out.trans ((Zf wr).drew.non.trans hf7));clear hf7;have H7:=Zh h7;clear h7;go_wp2_with fail;have aA:=HAA.out;go_roundw
     case rel=>exact⟨j+1,by go_num,by rw[HST3.out];go_num,by rw[HST3.out],by omega,HF7.out,by rw[HST3.out];exact H7.out⟩
     case measure=>simp[intOf];omega
    ·have hst:=HST2.out;rw[if_neg hn] at hst;have HST3:=Zh hst;clear hst HST2;go_wp2_with fail;have aA:=HAA.out;go_roundw
     case rel=>exact⟨j+1,by go_num,by rw[HST3.out];go_num,by rw[HST3.out],by omega,HFR.out,by rw[HST3.out];exact HWK.out⟩
     case measure=>simp[intOf];omega
  ·obtain rfl:j=f.params.length:=by omega
   have HWK:=Zh hw;clear hw HST;generalize Wk.callN ru f.params ex s f.params.length=r at*;obtain⟨rn,rb,t⟩:=r;simp only at hcl HKP HWK HC2;obtain⟨hcl1,hcl2⟩:=hcl;obtain⟨wp,rfl⟩:∃wp:World,wp=wr:=⟨_,rfl⟩;clear hfr;have aA:=HAA.out;go_wp2_with fail;clear g1
   go_loopw [9] (fun i wr=>∃m z:Nat,i= .int .i64 z∧z=rn+m∧(m=0∨rn+m≤ex.length)∧Fr (fun q=>q=b) W3 wr∧WkAt base b (.slice PA P.length pc) ru wr (Wk.secN ru ex rn t m) ve vg) (fun i _=>ex.length-(intOf i).toNat)
   case atStart=>exact⟨0,rn,rfl,rfl,.inl rfl,HFR.out,HWK.out⟩
   case round=>
    rename_i KB aB;have HAB:=Zh aB;clear aB;obtain⟨m,z,rfl,hz,hm,hfm,hkm⟩:=hrel;have HZ:=Zh hz;clear hz;have hbs:=Zb HB3.out hfm (far_b hfar);have s5:=(Zc hbs).1 5 _ rfl;have HBM:=Zh hbs;clear hbs;have HKM:=Zh (HKP.out.trans (Kp.secN ru ex rn t m));by_cases hn:z<ex.length
    ·obtain⟨b6,o6,A6,c6,rfl,hb6,x0,x1,x2,x3,x4,p6,q6,r6⟩:=at_ex (R13.out.fr hfm (fun q hq=>HOK.out q hq) fun _ h=>h) z hn;have hem:exM ex[z]=true:=by have:=HEX.out;rw[List.all_eq_true] at this;exact this _ (List.getElem_mem hn)
     have HEM:=Zh hem;clear hem;have HST:=Zh (show Wk.secN ru ex rn t (m+1)=(Wk.sec ru ex[z] (Wk.secN ru ex rn t m)).2 by rw[Wk.secN,←HZ.out,List.getD_eq_getElem?_getD,List.getElem?_eq_getElem hn,Option.getD_some]);generalize ex[z]=y at*;have HR6:=Zh r6;clear r6;have HFM:=Zh hfm;clear hfm;have HW:=Zh hkm;clear hkm;have hct:(Wk.secN ru ex rn t m).env.length≤1099511627776:=by rw[HKM.out.env];exact hc
     go_wp2_with fail;refine(sec_any y 1 ok A6 c6 base b _ ru wr _ ve vg HEM.out HR6.out HOK.out HW.out hct).mono ?_;rintro e w7 ⟨rfl,hf7,h7⟩;have HF7:=Zh (HFM.out.trans hf7);clear hf7;have H7:=Zh h7;clear h7 x0 x1 x2 x3 x4;go_wp2_with fail;have aB:=HAB.out;go_roundw
     case rel=>exact⟨m+1,z+1,by go_num,by have:=HZ.out;omega,.inr (by have:=HZ.out;omega),HF7.out,by rw[HST.out];exact H7.out⟩
     case measure=>simp[intOf];omega
    ·obtain rfl:m=ex.length-rn:=by have:=HZ.out;omega
     clear HZ;generalize Wk.secN ru ex rn t (ex.length-rn)=u at*;have HWU:=Zh hkm;clear hkm;have HFU:=Zh hfm;clear hfm;obtain⟨wq,rfl⟩:∃wq:World,wq=wr:=⟨_,rfl⟩;have aB:=HAB.out;go_wp2_with fail;clear s5
     go_loopw [10] (fun i wr=>∃m:Nat,i= .int .i64 m∧m≤args.length∧Fr (fun q=>q=b) W3 wr∧WkAt base b (.slice PA P.length pc) ru wr (Wk.askN ru args u m) ve vg) (fun i _=>args.length-(intOf i).toNat)
     case atStart=>exact⟨0,rfl,by omega,HFU.out,HWU.out⟩
     case round=>
      rename_i KC aC;have HAC:=Zh aC;clear aC;obtain⟨m,rfl,hm2,hfm,hkm⟩:=hrel;have hbs:=Zb HB3.out hfm (far_b hfar);have s6:=(Zc hbs).1 6 _ rfl;have HKA:=Zh (HKM.out.trans (Kp.askN ru args u m));have hct:(Wk.askN ru args u m).env.length≤1099511627776:=by rw[HKA.out.env];exact hc
      by_cases hn2:m<args.length
      ·obtain⟨b6,o6,rfl,hb6,z0⟩:=at_str (R23.out.fr hfm (fun q hq=>HOK.out q hq) fun _ h=>h) m hn2;have HST:=Zh (show Wk.askN ru args u (m+1)=((Wk.askN ru args u m).ask ru args[m] true).2 by rw[Wk.askN,List.getD_eq_getElem?_getD,List.getElem?_eq_getElem hn2,Option.getD_some]);generalize args[m]=an at*;have HFM:=Zh hfm;clear hfm hbs;have HW:=Zh hkm;clear hkm;go_wp2_with fail;refine(ask_any base b _ ru wr _ ve vg an true HW.out hct).mono ?_;rintro e w7 ⟨rfl,hf7,h7⟩;have HF7:=Zh (HFM.out.trans hf7);clear hf7;have H7:=Zh h7;clear h7 z0;go_wp2_with fail;have aC:=HAC.out;go_roundw
       case rel=>exact⟨m+1,by go_num,by omega,HF7.out,by rw[HST.out];exact H7.out⟩
       case measure=>simp[intOf];omega
      ·obtain rfl:m=args.length:=by omega
       generalize Wk.askN ru args u args.length=y at*;have hbg:=Zb HG3.out hfm (far_b hfg);have HBG2:=Zh hbg;clear hbg;have HBS2:=Zh hbs;clear hbs;have HFM:=Zh hfm;clear hfm;have HW:=Zh hkm;clear hkm;obtain⟨wz,rfl⟩:∃wz:World,wz=wr:=⟨_,rfl⟩;have aC:=HAC.out;go_upto_region 19 with fail;go_wp2_with fail;refine(bad_any base b _ ru wz y ve vg 10 _ 3 HW.out).mono ?_;rintro e w8 ⟨rfl,hf8,h8⟩;have hk8:=Kp.bad y ru 10 (!is) 3;have HK8:=Zh (HKA.out.trans hk8);clear hk8;generalize y.bad ru 10 (!is) 3=y8 at*;have hbs8:=Zb HBS2.out hf8 (far_b hfar);have hbg8:=Zb HBG2.out hf8 (far_b hfg);have HF8:=Zh (HFM.out.trans hf8);have H8:=Zh h8;clear hf8 h8 s6;have s5:=(Zc hbs8).1 5 _ rfl;have s6:=(Zc hbs8).1 6 _ rfl;have s1:=(Zc hbs8).1 1 _ rfl;have g4:=(Zc hbg8).1 4 _ rfl;have HBS8:=Zh hbs8;clear hbs8;have HBG8:=Zh hbg8;clear hbg8;go_upto_region 20 with fail
       go_cut [109] (fun v109 wx=>WkAt base b (.slice PA P.length pc) ru wx (y8.bad ru 11 (rn !=ex.length||rb !=args.length|| !emp nm&&f.ret.length==0) 8) ve vg∧Fr (fun q=>q=b) w8 wx)
       case first=>
        by_cases e1:rn=ex.length
        ·have de1:(((rn:Nat):Int)!=((ex.length:Nat):Int))=false:=by rw[e1];simp
         have de1':decide (((rn:Nat):Int)=((ex.length:Nat):Int))=true:=decide_eq_true (by omega);have De1:=Zh e1;clear e1;by_cases e2:rb=args.length
         ·have de2:(((rb:Nat):Int)!=((args.length:Nat):Int))=false:=by rw[e2];simp
          have de2':decide (((rb:Nat):Int)=((args.length:Nat):Int))=true:=decide_eq_true (by omega);have De2:=Zh e2;clear e2;cases em:emp nm with
          |true=>
           have em':nm.toList.isEmpty=true:=by rw[toemp];exact em
           have em2:(!nm.toList.isEmpty)=false:=by rw[em'];rfl
           have DM:=Zh em;clear em;go_wp2_with fail;refine(bad_any base b _ ru w8 y8 ve vg 11 _ 8 H8.out).mono ?_;rintro e w9 ⟨rfl,hf9,h9⟩;go_wp2_with fail
           go_meet
           exact⟨wk_flag (by simp[De1.out,De2.out,DM.out]) h9,hf9⟩
          |false=>
           have em':nm.toList.isEmpty=false:=by rw[toemp];exact em
           have em2:(!nm.toList.isEmpty)=true:=by rw[em'];rfl
           have DM:=Zh em;clear em;by_cases e3:f.ret.length=0
           ·have De3:=Zh e3;have d3:(((f.ret.length:Nat):Int)==0)=true:=by rw[e3];rfl
            have d3':decide (((f.ret.length:Nat):Int)=0)=true:=decide_eq_true (by omega);clear e3;go_wp2_with fail;refine(bad_any base b _ ru w8 y8 ve vg 11 _ 8 H8.out).mono ?_;rintro e w9 ⟨rfl,hf9,h9⟩;go_wp2_with fail
            go_meet
            exact⟨wk_flag (by simp[De1.out,De2.out,DM.out,De3.out]) h9,hf9⟩
           ·have De3:=Zh e3;have d3:(((f.ret.length:Nat):Int)==0)=false:=by rw[beq_eq_false_iff_ne];omega
            have d3':decide (((f.ret.length:Nat):Int)=0)=false:=decide_eq_false (by omega);clear e3;go_wp2_with fail;refine(bad_any base b _ ru w8 y8 ve vg 11 _ 8 H8.out).mono ?_;rintro e w9 ⟨rfl,hf9,h9⟩;go_wp2_with fail
            go_meet
            exact⟨wk_flag (by simp[De1.out,De2.out,DM.out,De3.out]) h9,hf9⟩
         ·have de2:(((rb:Nat):Int)!=((args.length:Nat):Int))=true:=by rw[bne_iff_ne];omega
          have de2':decide (((rb:Nat):Int)=((args.length:Nat):Int))=false:=decide_eq_false (by omega);have De2:=Zh e2;clear e2;go_wp2_with fail;refine(bad_any base b _ ru w8 y8 ve vg 11 _ 8 H8.out).mono ?_;rintro e w9 ⟨rfl,hf9,h9⟩;go_wp2_with fail
          go_meet
          exact⟨wk_flag (by simp[De1.out,De2.out]) h9,hf9⟩
        ·have de1:(((rn:Nat):Int)!=((ex.length:Nat):Int))=true:=by rw[bne_iff_ne];omega
         have de1':decide (((rn:Nat):Int)=((ex.length:Nat):Int))=false:=decide_eq_false (by omega);have De1:=Zh e1;clear e1;go_wp2_with fail;refine(bad_any base b _ ru w8 y8 ve vg 11 _ 8 H8.out).mono ?_;rintro e w9 ⟨rfl,hf9,h9⟩;go_wp2_with fail
         go_meet
         exact⟨wk_flag (by simp[De1.out]) h9,hf9⟩
       case rest=>
        obtain⟨h9,hf9⟩:=hcut;have hk9:=Kp.bad y8 ru 11 (rn !=ex.length||rb !=args.length|| !emp nm&&f.ret.length==0) 8;have HK9:=Zh (HK8.out.trans hk9);clear hk9;generalize y8.bad ru 11 (rn !=ex.length||rb !=args.length|| !emp nm&&f.ret.length==0) 8=y9 at*;obtain⟨wd,rfl⟩:∃wd:World,wd=wc:=⟨_,rfl⟩;have hbs9:=Zb HBS8.out hf9 (far_b hfar);have hbg9:=Zb HBG8.out hf9 (far_b hfg);have HF9:=Zh (HF8.out.trans hf9);have H9:=Zh h9;clear hf9 h9 s5 s6 s1 g4;have g0:=(Zc hbg9).1 0 _ rfl;have g1:=(Zc hbg9).1 1 _ rfl;have g2:=(Zc hbg9).1 2 _ rfl;have g3:=(Zc hbg9).1 3 _ rfl;have g4:=(Zc hbg9).1 4 _ rfl;have s6:=(Zc hbs9).1 6 _ rfl;have HBS9:=Zh hbs9;clear hbs9;have HBG9:=Zh hbg9;clear hbg9;have hct9:y9.env.length≤1099511627776:=by rw[HK9.out.env];exact hc
        have hlt3:=HF9.out.size;go_wp2_with fail;refine(handed_any base b _ ru wd y9 ve vg f.params args ok f.name f.sec B1 B2 B3 A2 d1 d2 d3 c2 f.body.length f.ret.length H9.out hct9 (PR.out.fr HF9.out (fun q hq=>HOK.out q hq) fun _ h=>h) pq (R23.out.fr HF9.out (fun q hq=>HOK.out q hq) fun _ h=>h) q2 HP.out.hok).mono ?_;rintro e w10 ⟨rfl,hf10,h10⟩;have HK10:=Zh (HK9.out.trans (Kp.handed ru f.params args y9));rw[←HC2.out] at h10 HK10;generalize s.call2 ru fo nm ex args=y10 at*;have hbs10:=Zb HBS9.out hf10 (far_b hfar);have hbg10:=Zb HBG9.out hf10 (far_b hfg);have M10:=Zh (M3.out.one (HF9.out.trans hf10) h10);clear hf10 h10 g0 g1 g2 g3 g4 s6;have s1:=(Zc hbs10).1 1 _ rfl;have g3:=(Zc hbg10).1 3 _ rfl;clear hbs10 hbg10;cases em:emp nm with
        |true=>
         have em':nm.toList.isEmpty=true:=by rw[toemp];exact em
         have em2:(!nm.toList.isEmpty)=false:=by rw[em'];rfl
         have hs:=HS.out;rw[em,if_pos rfl] at hs;have HS2:=Zh hs;clear hs HS em;go_wp2_with fail
         go_end0
         rw[HS2.out];exact⟨rfl,M10.out.stp⟩
        |false=>
         have em':nm.toList.isEmpty=false:=by rw[toemp];exact em
         have em2:(!nm.toList.isEmpty)=true:=by rw[em'];rfl
         have hs:=HS.out;rw[em,if_neg Bool.false_ne_true] at hs;have HS2:=Zh hs;clear hs HS em;have hc10:y10.env.length≤1099511627776:=by rw[HK10.out.env];exact hc
         have hg10:y10.given.length≤1099511627776:=by rw[HK10.out.giv];exact hc2
         go_wp2_with fail;refine(give_any base b _ ru w10 y10 ve vg (Va.num nm f.sec false) M10.out.at' hc10 hg10).mono ?_;rintro e w11 ⟨rfl,h11⟩;obtain⟨ve2,vg2,m11,_,_⟩:=M10.out.step h11;have M11:=Zh m11;clear h11 m11;go_wp2_with fail
         go_end0
         rw[HS2.out];exact⟨rfl,M11.out.stp⟩
theorem vas_take:∀(l:List Va) (m:Nat),(vasC l).take (m*9)=vasC (l.take m)
 |[],m=>by simp[vasC]
 |v::l,0=>by simp[vasC]
 |v::l,m+1=>by
  have ih:=vas_take l m;simp only[vasC,List.flatMap_cons,List.take_succ_cons] at ih ⊢;have hl:v.cells.length=9:=rfl;rw[List.take_append,List.take_of_length_le (by omega),hl,show(m+1)*9-9=m*9 by omega,ih]
theorem row_cut {base:Nat} {w:World} {A:Option Addr} {n m c:Nat} {l:List Va} (h:w.ownsRow base 184 9 (.slice A n c) n (vasC l)) (hm:m≤n):w.ownsRow base 184 9 (.slice A m c) m (vasC (l.take m)):=by
 obtain⟨h1,h2⟩:=h;rw[vas_len] at h1;refine⟨by rw[vas_len,List.length_take];congr 1;omega,?_⟩;rcases h2 with⟨h2,h3⟩|⟨g,cap,cur,hv,hb,hh,h3,h4,h5,h6⟩
 ·cases h2;left;have:m=0:=by omega
  subst this;exact⟨rfl,rfl⟩
 ·cases hv;refine .inr ⟨g,c,cur,rfl,hb,hh,by omega,h4,h5,?_⟩;rw[←vas_take,←h6,List.take_take];congr 1;omega
theorem own_slice (A:Option Addr) (n m c:Nat):(Value.slice A n c).ownBlock=(Value.slice A m c).ownBlock:=by cases A<;>rfl
theorem WkAt.cut {base b:Nat} {PV:Value} {ru:Int} {w:World} {s:Wk} {A:Option Addr} {c m:Nat} {vg:Value} (h:WkAt base b PV ru w s (.slice A s.env.length c) vg) (hm:m≤s.env.length):
  WkAt base b PV ru (w.setCell ⟨b,2,none⟩ (.slice A m c)) (s.cut m) (.slice A m c) vg:=by
 have hf:Fr (fun k=>k=b) w (w.setCell ⟨b,2,none⟩ (.slice A m c)):=(Fr.refl _ _).setCell _ _ (.inl rfl);have ho:=own_slice A s.env.length m c;have h1:=row_cut h.env hm;have hlen:(s.cut m).env.length=m:=by show(List.take _ _).length=_;rw[List.length_take];omega
 refine⟨blk_set h.blk 2 _,?_,row_fr h.giv hf (fun k hk e=>h.bg (by rw[hk,e])),by rw[←ho];exact h.be,h.bg,fun k hk=>h.eg k (by rw[ho];exact hk),h.hb⟩;rw[hlen];exact row_fr h1 hf (fun k hk e=>h.be (by rw[ho,hk,e]))
theorem ws_slice {b:Nat} {A:Option Addr} {n m c:Nat} {vg:Value} {k:Nat} (h:WS b (.slice A m c) vg k):WS b (.slice A n c) vg k:=by
 rcases h with h|h|h
 ·exact .inl h
 ·exact .inr (.inl (by rw[own_slice A n m c];exact h))
 ·exact .inr (.inr h)
theorem Mid.cut {base b:Nat} {PV:Value} {ru:Int} {w0 w:World} {ve0 vg0:Value} {s:Wk} {A:Option Addr} {c m:Nat} {vg:Value} (h:Mid base b PV ru w0 ve0 vg0 w s (.slice A s.env.length c) vg) (hm:m≤s.env.length):
  Mid base b PV ru w0 ve0 vg0 (w.setCell ⟨b,2,none⟩ (.slice A m c)) (s.cut m) (.slice A m c) vg:=
 ⟨h.at'.cut hm,h.fr.trans ((Fr.refl _ _).setCell _ _ (.inl (.inl rfl))),fun k hk=>h.new k (ws_slice hk)⟩
theorem Mid.next {base b:Nat} {PV:Value} {ru:Int} {w0 w:World} {ve0 vg0:Value} {s:Wk} {ve vg:Value} (h:Mid base b PV ru w0 ve0 vg0 w s ve vg) {v:Int} (hv:v=s.n+1):Mid base b PV ru w0 ve0 vg0 (w.setCell ⟨b,4,none⟩ (.int .i64 v)) s.next ve vg:=by
 subst hv;have hf:Fr (fun k=>k=b) w (w.setCell ⟨b,4,none⟩ (.int .i64 (s.n+1))):=(Fr.refl _ _).setCell _ _ (.inl rfl);exact h.one hf (h.at'.with hf (blk_set h.at'.blk 4 _) rfl rfl)
theorem stmts_snoc (ru:Int) (P:List Fu) (x:St):∀(l:List St) (s:Wk),Wk.stmts ru P (l++[x]) s=Wk.stmt ru P x (Wk.stmts ru P l s).next
 |[],s=>by simp[Wk.stmts]
 |y::l,s=>by rw[List.cons_append,Wk.stmts,stmts_snoc ru P x l];conv=>rhs;rw[Wk.stmts]
def WkR (base b:Nat) (PV:Value) (ru:Int) (w:World) (ve vg:Value) (t:Wk) (e:Ending) (w':World):Prop:=e= .returned (.tuple #[])∧Stp base b PV ru w ve vg w' t
def BkC (base b:Nat) (ok:Nat→Prop) (PA:Option Addr) (pc:Nat) (P:List Fu) (F:Nat) (ru:Int) (N:Nat):Prop:=
 ∀(l:List St) (d:Nat) (A:Option Addr) (c:Nat) (w:World) (s:Wk) (ve vg:Value),St.sizes l≤N→St.oks l d=true→RdRows ok w 9 A 0 (St.ds l)→l.length*144≤reach→Lim (St.sizes l) (St.sizes l) s→s.f=(F:Int)→
  WkAt base b (.slice PA P.length pc) ru w s ve vg→ScP base ok PA pc P F w→
  Calls Tryz.prog 169 #[.pointer (some ⟨b,0,none⟩),.slice A l.length c] w (WkR base b (.slice PA P.length pc) ru w ve vg (Wk.block ru P l s))
def SmC (base b:Nat) (ok:Nat→Prop) (PA:Option Addr) (pc:Nat) (P:List Fu) (F:Nat) (ru:Int) (N:Nat):Prop:=
 ∀(x:St) (d:Nat) (A1 A2 A3 A4:Option Addr) (c1 c2 c3 c4:Nat) (w:World) (s:Wk) (ve vg:Value),x.size≤N→St.ok x d=true→StRd ok w x A1 A2 A3 A4 c1 c2 c3 c4→Lim x.size (x.size-1) s→s.f=(F:Int)→
  WkAt base b (.slice PA P.length pc) ru w s ve vg→ScP base ok PA pc P F w→
  Calls Tryz.prog 102 #[.pointer (some ⟨b,0,none⟩),stV x A1 A2 A3 A4 c1 c2 c3 c4] w (WkR base b (.slice PA P.length pc) ru w ve vg (Wk.stmt ru P x s))
theorem Mid.f {base b:Nat} {PV:Value} {ru:Int} {w0 w:World} {ve0 vg0:Value} {s:Wk} {ve vg:Value} (h:Mid base b PV ru w0 ve0 vg0 w s ve vg) {S:Nat→Prop} (hs:∀k,WS b ve0 vg0 k→S k):Fr S w0 w:=h.fr.mono fun k _ hk=>hs k hk
theorem wkblock_of (base b:Nat) (ok:Nat→Prop) (PA:Option Addr) (pc:Nat) (P:List Fu) (F:Nat) (ru:Int) (N:Nat) (ST:SmC base b ok PA pc P F ru N):BkC base b ok PA pc P F ru N:=by
 intro l d A c w s ve vg hN hok hr hc hl hF h hP;have hlen:l.length≤140737488355328:=by unfold reach at hc;omega
 have HOKS:=Zh (show∀q,ok q→¬WS b ve vg q from fun q hq hs=>by have h1:=hP.hok q hq;have h2:=(h.lt q hs).1;omega);obtain⟨Ae,ce,rfl,hlce⟩:=row_slice h.env;have b2:=(Zc h.blk).1 2 _ rfl;have M:=Zh (Mid.start h);clear h;have HR:=Zh hr;clear hr;have HP:=Zh hP;clear hP;have HOK:=Zh hok;clear hok;have HL:=Zh hl;clear hl;have HF:=Zh hF;clear hF;go_enter Tryz.func169,Tryz.ntmps169;go_wp2_with fail;clear b2
 go_loopw [5] (fun i wr=>∃j:Nat,∃vej vgj,i= .int .i64 j∧j≤l.length∧Mid base b (.slice PA P.length pc) ru w (.slice Ae s.env.length ce) vg wr (Wk.stmts ru P (l.take j) s) vej vgj) (fun i _=>l.length-(intOf i).toNat)
 case atStart=>exact⟨0,_,_,rfl,by omega,by rw[List.take_zero,Wk.stmts];exact M.out⟩
 case round=>
  obtain⟨j,vej,vgj,rfl,hj,hm⟩:=hrel;have hgr:=Gr.stmts ru P (l.take j) s;have hsz1:=sizes_take_le l j;have hlj:Lim (St.sizes l-St.sizes (l.take j)) (St.sizes l-St.sizes (l.take j)) (Wk.stmts ru P (l.take j) s):=(HL.out.le (by omega) (by omega)).gr hgr;have HGR:=Zh hgr;have HMJ:=Zh hm;by_cases hlt:j<l.length
  ·obtain⟨g,o,A1,c1,A2,c2,A3,c3,A4,c4,rfl,hd,e0,e1,e2,e3,e4,e5,e6,e7,e8,r1,r2,r3,r4⟩:=at_st (HR.out.fr hm.fr HOKS.out (fun _ h=>h)) j hlt;have HSR:=Zh (⟨r1,r2,r3,r4⟩:StRd ok wr l[j] A1 A2 A3 A4 c1 c2 c3 c4);clear r1 r2 r3 r4;have hsz2:=sizes_take l j hlt;have hsz3:=sizes_take_le l (j+1);have HST:=Zh (show Wk.stmts ru P (l.take (j+1)) s=Wk.stmt ru P l[j] (Wk.stmts ru P (l.take j) s).next by rw[take_snoc l j hlt,stmts_snoc]);have hxok:St.ok l[j] d=true:=oks_at HOK.out j hlt;have b4:=(Zc hm.at'.blk).1 4 _ rfl;have bf:=(Zc hm.at'.blk).2;have hblt:=blk_lt hm.at'.blk;generalize l[j]=x at*;have HXOK:=Zh hxok;clear hxok;have hxs:1≤x.size:=by rw[St.size_eq];omega
   have hln:Lim x.size (x.size-1) (Wk.stmts ru P (l.take j) s).next:=(hlj.le (by omega) (by omega)).next;have hfx:(Wk.stmts ru P (l.take j) s).next.f=(F:Int):=hgr.f.trans HF.out;have hn0:=hlj.n0;have hn1:=hlj.n1;generalize Wk.stmts ru P (l.take j) s=t at*;have HLN:=Zh hln;clear hln hlj hgr;have HFX:=Zh hfx;clear hfx hm;obtain⟨W1,HW1⟩:∃W1,W1=wr.setCell ⟨b,4,none⟩ (.int .i64 (t.n+1)):=⟨_,rfl⟩;have M1:=Zh (show Mid base b (.slice PA P.length pc) ru w (.slice Ae s.env.length ce) vg W1 t.next vej vgj by rw[HW1];exact HMJ.out.next rfl);have hf1:Fr (fun k=>k=b) wr W1:=by rw[HW1];exact(Fr.refl _ _).setCell _ _ (.inl rfl)
   have hgb:g≠b:=fun e=>HOKS.out g hd (.inl e);have HF1:=Zh hf1;clear hf1;go_upto_region 5 with fail;rw[←HW1];clear HW1;have e0:=HF1.out.cell' e0 hgb;have e1:=HF1.out.cell' e1 hgb;have e2:=HF1.out.cell' e2 hgb;have e3:=HF1.out.cell' e3 hgb;have e4:=HF1.out.cell' e4 hgb;have e5:=HF1.out.cell' e5 hgb;have e6:=HF1.out.cell' e6 hgb;have e7:=HF1.out.cell' e7 hgb;have e8:=HF1.out.cell' e8 hgb;clear b4 bf;go_wp2_with fail;refine(ST x d A1 A2 A3 A4 c1 c2 c3 c4 W1 t.next vej vgj (by omega) HXOK.out (HSR.out.fr HF1.out fun q hq e=>HOKS.out q hq (.inl e)) HLN.out HFX.out M1.out.at' (HP.out.fr M1.out.fr HOKS.out)).mono ?_;rintro e w2 ⟨rfl,h2⟩;obtain⟨ve2,vg2,m2,_,_⟩:=M1.out.step h2;have M2:=Zh m2;clear h2 m2;go_wp2_with fail;go_roundw
   case rel=>exact⟨j+1,ve2,vg2,by go_num,by omega,by rw[HST.out];exact M2.out⟩
   case measure=>simp[intOf];omega
  ·obtain rfl:j=l.length:=by omega
   rw[List.take_length] at HMJ HGR;clear hlj hgr hm hsz1;have hmk:s.env.length≤(Wk.stmts ru P l s).env.length:=HGR.out.e1;have hmj:=HMJ.out;obtain⟨A3,c3,rfl,hlc3⟩:=row_slice hmj.at'.env;have b2:=(Zc hmj.at'.blk).1 2 _ rfl;have bf:=(Zc hmj.at'.blk).2;have HMC:=Zh (hmj.cut hmk);clear hmj;go_wp2_with fail
   go_end0
   exact⟨rfl,HMC.out.stp⟩
theorem exAt_get {ex:List Ex} {i:Nat} (h:i<ex.length):exAt ex i=ex[i]:=by rw[exAt,List.getD_eq_getElem?_getD,List.getElem?_eq_getElem h,Option.getD_some]
theorem Mid.deeper {base b:Nat} {PV:Value} {ru:Int} {w0 w:World} {ve0 vg0:Value} {s:Wk} {ve vg:Value} (h:Mid base b PV ru w0 ve0 vg0 w s ve vg):Mid base b PV ru w0 ve0 vg0 (w.setCell ⟨b,8,none⟩ (.int .i64 (s.loops+1))) s.deeper ve vg:=by
 have hf:Fr (fun k=>k=b) w (w.setCell ⟨b,8,none⟩ (.int .i64 (s.loops+1))):=(Fr.refl _ _).setCell _ _ (.inl rfl);exact h.one hf (h.at'.with hf (blk_set h.at'.blk 8 _) rfl rfl)
def Wk.up (s:Wk):Wk:={s with loops:=s.loops-1}
theorem Mid.up {base b:Nat} {PV:Value} {ru:Int} {w0 w:World} {ve0 vg0:Value} {s:Wk} {ve vg:Value} (h:Mid base b PV ru w0 ve0 vg0 w s ve vg):Mid base b PV ru w0 ve0 vg0 (w.setCell ⟨b,8,none⟩ (.int .i64 (s.loops-1))) s.up ve vg:=by
 have hf:Fr (fun k=>k=b) w (w.setCell ⟨b,8,none⟩ (.int .i64 (s.loops-1))):=(Fr.refl _ _).setCell _ _ (.inl rfl);exact h.one hf (h.at'.with hf (blk_set h.at'.blk 8 _) rfl rfl)
theorem wkloop_of (base b:Nat) (ok:Nat→Prop) (PA:Option Addr) (pc:Nat) (P:List Fu) (F:Nat) (ru:Int) (N:Nat) (BK:BkC base b ok PA pc P F ru N)
  (w:World) (s:Wk) (ve vg:Value) (k:UInt8) (nm fr:ByteArray) (sec mt:Bool) (ex:List Ex) (body:List St) (d:Nat) (A1 A2 A3 A4:Option Addr) (c1 n2 c2 c3 n4 c4:Nat)
  (hN:St.sizes body≤N) (hok:St.oks body d=true) (hk:k.toNat=6∨k.toNat=7) (hx1:1≤ex.length) (hex:ex.all exM=true) (r1:RdRows ok w 5 A1 0 (Ex.ds ex)) (q1:ex.length*64≤reach) (r3:RdRows ok w 9 A3 0 (St.ds body)) (q3:body.length*144≤reach)
  (hl:Lim (St.sizes body+1) (St.sizes body) s) (hF:s.f=(F:Int)) (h:WkAt base b (.slice PA P.length pc) ru w s ve vg) (hP:ScP base ok PA pc P F w):
  Calls Tryz.prog 143 #[.pointer (some ⟨b,0,none⟩),.agg #[vu8 k,.string nm,.string fr,.bool sec,.bool mt,.slice A1 ex.length c1,.slice A2 n2 c2,.slice A3 body.length c3,.slice A4 n4 c4]] w
   (WkR base b (.slice PA P.length pc) ru w ve vg (((Wk.stmts ru P body (s.loopIn ru k nm ex)).cut (s.loopIn ru k nm ex).env.length).loopOut (s.pub ru (exAt ex 0)).env.length)):=by
 have hl1:ex.length≤140737488355328:=by unfold reach at q1;omega
 have hl3:body.length≤140737488355328:=by unfold reach at q3;omega
 obtain⟨W1,HW1⟩:∃W1,W1=w.alloc (.cells #[vu8 k,.string nm,.string fr,.bool sec,.bool mt,.slice A1 ex.length c1,.slice A2 n2 c2,.slice A3 body.length c3,.slice A4 n4 c4] 42):=⟨_,rfl⟩;have hf1:Fr Non w W1:=by rw[HW1];exact(Zf w).alloc _
 have hb1:W1.heap[w.heap.size]? =some (.cells #[vu8 k,.string nm,.string fr,.bool sec,.bool mt,.slice A1 ex.length c1,.slice A2 n2 c2,.slice A3 body.length c3,.slice A4 n4 c4] 42 (0,0)):=by rw[HW1];exact blk_new _ _ _
 have hfar:=far_new h;have HOKS:=Zh (show∀q,ok q→¬WS b ve vg q from fun q hq hs=>by have h1:=hP.hok q hq;have h2:=(h.lt q hs).1;omega);have HLT:=Zh (show∀q,ok q→q<W1.heap.size by intro q hq;have h1:=hP.hok q hq;have:=h.hb;have:=blk_lt h.blk;have:=hf1.size;omega);have HP:=Zh hP;clear hP;have R1:=Zh (r1.fr hf1 (fun _ _=>non _) fun _ h=>h);clear r1;have R3:=Zh r3;clear r3;have M1:=Zh ((Mid.start h).stay hf1);clear h;have HF1:=Zh hf1;clear hf1;have s5:=(Zc hb1).1 5 _ rfl;have HB1:=Zh hb1;clear hb1;have HK:=Zh (Kp.pub ru s (exAt ex 0));have HLI:=Zh (hl.loopIn ru k nm ex);have HL:=Zh hl;clear hl;have HSF:=Zh hF;clear hF;have HOK:=Zh hok;clear hok;obtain⟨b6,o6,A6,c6,rfl,hb6,x0,x1,x2,x3,x4,p6,q6,r6⟩:=at_ex R1.out 0 hx1;have hem:exM (exAt ex 0)=true:=exAt_all hex hx1;rw[exAt_get hx1] at hem;have HEM:=Zh hem;clear hem;have HX:=Zh (exAt_get hx1);rw[HX.out] at HK;have HLP:=Zh (show s.loopIn ru k nm ex=if k.toNat=7 then(s.pub ru ex[0]).deeper.give ru (Va.num nm false false) else(s.pub ru ex[0]).deeper by rw[Wk.loopIn,HX.out]);rw[HX.out];generalize ex[0]=y at*;have HR6:=Zh r6;clear r6;clear HX;go_enter Tryz.func143,Tryz.ntmps143;go_upto_region 1 with fail;rw[←HW1];clear HW1;simp only[Nat.zero_mul,Nat.add_zero] at x0 x1 x2 x3 x4;go_wp2_with fail;refine(public_any y 1 ok A6 c6 base b _ ru W1 s ve vg HEM.out HR6.out (fun q hq e=>HOKS.out q hq (.inl e)) M1.out.at' (by have:=HL.out.env;omega)).mono ?_;rintro e w2 ⟨rfl,hf2,h2⟩;generalize s.pub ru y=s1 at*;have hb2:=Zb HB1.out hf2 (far_b hfar);have m2:=M1.out.one hf2 h2;obtain⟨A,c,rfl,hAc⟩:=row_slice h2.env;have M2:=Zh m2;clear m2 h2 hf2 x0 x1 x2 x3 x4 s5;have b2:=(Zc M2.out.at'.blk).1 2 _ rfl;have b8:=(Zc M2.out.at'.blk).1 8 _ rfl;have bf:=(Zc M2.out.at'.blk).2;have l0:=HL.out.l0;have l1:=HL.out.l1;rw[←HK.out.loops] at l0 l1;have s0:=(Zc hb2).1 0 _ rfl;have HB2:=Zh hb2;clear hb2;obtain⟨W3,HW3⟩:∃W3,W3=w2.setCell ⟨b,8,none⟩ (.int .i64 (s1.loops+1)):=⟨_,rfl⟩;have M3:=Zh (show Mid base b (.slice PA P.length pc) ru w _ vg W3 s1.deeper _ vg by rw[HW3];exact M2.out.deeper);have hf3:Fr (fun k=>k=b) w2 W3:=by rw[HW3];exact(Fr.refl _ _).setCell _ _ (.inl rfl)
 go_upto_region 4 with fail;rw[←HW3];clear HW3;have hb3:=Zb HB2.out hf3 (far_b hfar);clear b2 b8 bf hf3 s0;have s0:=(Zc hb3).1 0 _ rfl;have s1':=(Zc hb3).1 1 _ rfl;have s7:=(Zc hb3).1 7 _ rfl;have HB3:=Zh hb3;clear hb3;have hlB:=blk_lt HB3.out;have HSF1:=Zh (show s1.f=(F:Int) from HK.out.f.trans HSF.out);by_cases k7:k.toNat=7
 ·have f7:((k.toNat:Int)==7)=true:=by rw[k7];rfl
  have f7':decide ((k.toNat:Int)=7)=true:=decide_eq_true (by omega);have hlp:=HLP.out;rw[if_pos k7] at hlp;rw[hlp] at HLI;have HLE:=Zh hlp;clear HLP hlp;have HK7:=Zh k7;clear k7;go_wp2_with fail;refine(give_any base b _ ru W3 s1.deeper _ vg (Va.num nm false false) M3.out.at' (by have:=HL.out.env;have:=HK.out.env;show s1.env.length≤_;omega) (by have:=HL.out.giv;have:=HK.out.giv;show s1.given.length≤_;omega)).mono ?_;rintro e w4 ⟨rfl,h4⟩;obtain⟨ve4,vg4,m4,hf4,hn4⟩:=M3.out.step h4;have hb4:=Zb HB3.out hf4 hfar;have hfar4:=far_step hfar hlB hn4;have hfg:=Gr.give ru s1.deeper (Va.num nm false false);have HFG:=Zh (hfg.f.trans HSF1.out);have HGG:=Zh (show(s1.deeper.give ru (Va.num nm false false)).loops=s1.loops+1 from hfg.l);have HGE:=Zh (show s1.env.length≤(s1.deeper.give ru (Va.num nm false false)).env.length from hfg.e1);clear hfg;generalize s1.deeper.give ru (Va.num nm false false)=s3 at*;have M4:=Zh m4;clear m4 h4 hf4 hn4 s0 s1' s7;have s7:=(Zc hb4).1 7 _ rfl;have HB4:=Zh hb4;clear hb4;go_wp2_with fail;refine(BK body d A3 c3 w4 s3 ve4 vg4 hN HOK.out (R3.out.fr M4.out.fr (fun q hq hs=>HOKS.out q hq hs) fun _ h=>h) q3 HLI.out HFG.out M4.out.at' (HP.out.fr M4.out.fr fun q hq hs=>HOKS.out q hq hs)).mono ?_;rintro e w5 ⟨rfl,h5⟩;obtain⟨ve5,vg5,m5,hf5,hn5⟩:=M4.out.step h5;obtain⟨A5,c5,rfl,hc5⟩:=row_slice m5.at'.env;have hbl:Wk.block ru P body s3=(Wk.stmts ru P body s3).cut s3.env.length:=rfl;have hgr:=Gr.stmts ru P body s3;have hlo:(Wk.block ru P body s3).loops=s1.loops+1:=by rw[hbl];exact hgr.l.trans HGG.out
  have hel:s1.env.length≤(Wk.block ru P body s3).env.length:=by
   rw[hbl];show _≤(List.take _ _).length
   rw[List.length_take,Nat.min_eq_left hgr.e1];exact HGE.out
  have HBL:=Zh hbl;clear hgr hbl;generalize Wk.block ru P body s3=u at*;have M5:=Zh m5;clear m5 h5 hf5 hn5 s7;have b8:=(Zc M5.out.at'.blk).1 8 _ rfl;have b2:=(Zc M5.out.at'.blk).1 2 _ rfl;have bf:=(Zc M5.out.at'.blk).2;have l2:0≤u.loops:=by omega
  have l3:u.loops≤1099511627777:=by omega
  have HLO:=Zh hlo;clear hlo;obtain⟨W6,HW6⟩:∃W6,W6=w5.setCell ⟨b,8,none⟩ (.int .i64 (u.loops-1)):=⟨_,rfl⟩;have M6:=Zh (show Mid base b (.slice PA P.length pc) ru w _ vg W6 u.up _ vg5 by rw[HW6];exact M5.out.up);go_upto_region 8 with fail;rw[←HW6];clear HW6;clear b8 b2 bf;have b2:=(Zc M6.out.at'.blk).1 2 _ rfl;have bf:=(Zc M6.out.at'.blk).2;have hcut:=M6.out.cut (m:=s1.env.length) hel;have hcc:s1.env.length≤c5:=Nat.le_trans hel hc5;have HC:=Zh hcut;clear hcut;go_wp2_with fail
  go_end0
  refine⟨rfl,?_⟩;rw[HLE.out,←HBL.out];exact HC.out.stp
 ·have f7:((k.toNat:Int)==7)=false:=by rw[beq_eq_false_iff_ne];omega
  have f7':decide ((k.toNat:Int)=7)=false:=decide_eq_false (by omega);have hlp:=HLP.out;rw[if_neg k7] at hlp;rw[hlp] at HLI;have HLE:=Zh hlp;clear HLP hlp k7 hk;have HB4:=HB3;go_wp2_with fail;refine(BK body d A3 c3 W3 s1.deeper (.slice A s1.env.length c) vg hN HOK.out (R3.out.fr M3.out.fr (fun q hq hs=>HOKS.out q hq hs) fun _ h=>h) q3 HLI.out HSF1.out M3.out.at' (HP.out.fr M3.out.fr fun q hq hs=>HOKS.out q hq hs)).mono ?_;rintro e w5 ⟨rfl,h5⟩;obtain⟨ve5,vg5,m5,hf5,hn5⟩:=M3.out.step h5;obtain⟨A5,c5,rfl,hc5⟩:=row_slice m5.at'.env;have hbl:Wk.block ru P body s1.deeper=(Wk.stmts ru P body s1.deeper).cut s1.deeper.env.length:=rfl;have hgr:=Gr.stmts ru P body s1.deeper;have hlo:(Wk.block ru P body s1.deeper).loops=s1.loops+1:=by rw[hbl];exact hgr.l.trans rfl
  have hel:s1.env.length≤(Wk.block ru P body s1.deeper).env.length:=by
   rw[hbl];show _≤(List.take _ _).length
   rw[List.length_take,Nat.min_eq_left hgr.e1];exact(Nat.le_refl _)
  have HBL:=Zh hbl;clear hgr hbl;generalize Wk.block ru P body s1.deeper=u at*;have M5:=Zh m5;clear m5 h5 hf5 hn5 s7;have b8:=(Zc M5.out.at'.blk).1 8 _ rfl;have b2:=(Zc M5.out.at'.blk).1 2 _ rfl;have bf:=(Zc M5.out.at'.blk).2;have l2:0≤u.loops:=by omega
  have l3:u.loops≤1099511627777:=by omega
  have HLO:=Zh hlo;clear hlo;obtain⟨W6,HW6⟩:∃W6,W6=w5.setCell ⟨b,8,none⟩ (.int .i64 (u.loops-1)):=⟨_,rfl⟩;have M6:=Zh (show Mid base b (.slice PA P.length pc) ru w _ vg W6 u.up _ vg5 by rw[HW6];exact M5.out.up);go_upto_region 8 with fail;rw[←HW6];clear HW6;clear b8 b2 bf;have b2:=(Zc M6.out.at'.blk).1 2 _ rfl;have bf:=(Zc M6.out.at'.blk).2;have hcut:=M6.out.cut (m:=s1.env.length) hel;have hcc:s1.env.length≤c5:=Nat.le_trans hel hc5;have HC:=Zh hcut;clear hcut;go_wp2_with fail
  go_end0
  refine⟨rfl,?_⟩;rw[HLE.out,←HBL.out];exact HC.out.stp
end Go.Proofs.YtpkpgmnbheenbaaGreatDoor
