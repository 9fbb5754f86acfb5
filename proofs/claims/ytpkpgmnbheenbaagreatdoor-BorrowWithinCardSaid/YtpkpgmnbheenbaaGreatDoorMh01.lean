/- Contracts and laws, Mh01 -/
import Derived.Test.YtpkpgmnbheenbaaGreatDoorProg
import Derived.WalkKit
import Derived.WalkSpells
import Derived.WalkLawsBesides
import Derived.Lib.Hide
import Derived.Deep.QuietTactic
import Derived.BigQuiet
import Derived.Deep.DeepAppendWide
import Derived.Test.YtpkpgmnbheenbaaGreatDoorRows
import Derived.ChangeSame
import Derived.ReadAgain
import Derived.ChangeArms
import Derived.DataReads
import Derived.OpenShut
namespace Go.Proofs.YtpkpgmnbheenbaaGreatDoor
open Go.RowKit
set_option linter.unusedVariables false
set_option linter.unusedSimpArgs false
set_option maxHeartbeats 8000000
set_option maxRecDepth 100000
theorem Zh {p:Prop} (h:p):Go.RowKit.Hid p:=h
section
structure Fr (S:Nat→Prop) (w w':World):Prop where
 os:w'.os=w.os
 tape:w'.tape=w.tape
 output:w'.output=w.output
 size:w.heap.size≤w'.heap.size
 block:∀k,k<w.heap.size→¬S k→w'.heap[k]? =w.heap[k]?
def Non:Nat→Prop:=fun _=>False
theorem non (k:Nat):¬Non k:=fun h=>h
theorem Fr.refl (S:Nat→Prop) (w:World):Fr S w w:=⟨rfl,rfl,rfl,Nat.le_refl _,fun _ _ _=>rfl⟩
theorem Fr.trans {S:Nat→Prop} {a b c:World} (h:Fr S a b) (k:Fr S b c):Fr S a c:=
 ⟨k.os.trans h.os,k.tape.trans h.tape,k.output.trans h.output,Nat.le_trans h.size k.size,
  fun i hi hs=>(k.block i (Nat.lt_of_lt_of_le hi h.size) hs).trans (h.block i hi hs)⟩
theorem Fr.mono {S T:Nat→Prop} {a b:World} (h:Fr S a b) (hs:∀k,k<a.heap.size→S k→T k):Fr T a b:=
 ⟨h.os,h.tape,h.output,h.size,fun i hi hn=>h.block i hi (fun hx=>hn (hs _ hi hx))⟩
theorem Fr.non {S:Nat→Prop} {a b:World} (h:Fr Non a b):Fr S a b:=h.mono fun _ _ hx=>hx.elim
theorem Fr.drew {S:Nat→Prop} {a b:World} (h:Fr S a b):Fr S a b.drew:=⟨h.os,h.tape,h.output,h.size,h.block⟩
theorem Fr.drewN {S:Nat→Prop} {a b:World} (h:Fr S a b) (n:Nat):Fr S a (b.drewN n):=⟨h.os,h.tape,h.output,h.size,h.block⟩
theorem Fr.alloc {S:Nat→Prop} {a b:World} (h:Fr S a b) (o:Obj):Fr S a (b.alloc o):=
 h.trans ⟨rfl,rfl,rfl,by simp,fun k hk _=>Below.heap_alloc _ _ _ hk⟩
theorem Fr.setCell {S:Nat→Prop} {a b:World} (h:Fr S a b) (p:Addr) (u:Value) (hp:S p.block∨a.heap.size≤p.block):Fr S a (b.setCell p u):=
 ⟨h.os,h.tape,h.output,by simpa[World.setCell] using h.size,fun k hk hn=>by
   rw[Below.heap_setCell _ _ _ _ (by rintro rfl;rcases hp with hp|hp;exact hn hp;omega)];exact h.block k hk hn⟩
theorem Fr.then {S T:Nat→Prop} {a b c:World} (h:Fr S a b) (k:Fr T b c) (hs:∀k,k<a.heap.size→T k→S k):Fr S a c:=
 ⟨k.os.trans h.os,k.tape.trans h.tape,k.output.trans h.output,Nat.le_trans h.size k.size,
  fun i hi hn=>(k.block i (Nat.lt_of_lt_of_le hi h.size) (fun ht=>hn (hs i hi ht))).trans (h.block i hi hn)⟩
theorem Fr.cell {S:Nat→Prop} {w w':World} (h:Fr S w w') {p:Addr} (hp:p.block<w.heap.size) (hn:¬S p.block):w'.cell? p=w.cell? p:=
 World.cell?_of_block (w:=w) (h.block p.block hp hn)
theorem Fr.cell' {S:Nat→Prop} {w w':World} (h:Fr S w w') {p:Addr} {v:Value} (hc:w.cell? p=some v) (hn:¬S p.block):w'.cell? p=some v:=
 (h.cell (World.block_lt_of_cell? w p hc) hn).trans hc
theorem Fr.grownBy {w w':World} (h:Fr Non w w'):w.grownBy w' none:=
 ⟨h.os,h.tape,h.output,h.size,fun k hk _=>h.block k hk (fun x=>x)⟩
inductive D where
 |v (x:Value)
 |row (sz bytes:Nat) (l:List (List D))
def reach:Nat:=140737488351232
mutual
def RdC (ok:Nat→Prop) (w:World):D→Value→Prop
 | .v x,u=>u=x
 | .row sz by_ l,u=>∃A c,u= .slice A l.length c∧l.length≤c∧l.length*by_≤reach∧RdRows ok w sz A 0 l
def RdRows (ok:Nat→Prop) (w:World) (sz:Nat) (A:Option Addr):Nat→List (List D)→Prop
 |_,[]=>True
 |i,ds::l=>(∃b o,A=some ⟨b,o,none⟩∧ok b∧ds.length=sz∧RdAt ok w b (o+i*sz) ds)∧RdRows ok w sz A (i+1) l
def RdAt (ok:Nat→Prop) (w:World) (b:Nat):Nat→List D→Prop
 |_,[]=>True
 |o,d::ds=>(∃u,w.cell? ⟨b,o,none⟩=some u∧RdC ok w d u)∧RdAt ok w b (o+1) ds
end
mutual
theorem RdC.mono {ok ok':Nat→Prop} {w w':World} (hc:∀b o v,ok b→w.cell? ⟨b,o,none⟩=some v→w'.cell? ⟨b,o,none⟩=some v) (hk:∀b,ok b→ok' b):
  ∀(d:D) (u:Value),RdC ok w d u→RdC ok' w' d u
 | .v _,_,h=>h
 | .row sz by_ l,u,⟨A,c,e,h1,h2,h3⟩=>⟨A,c,e,h1,h2,RdRows.mono hc hk sz A 0 l h3⟩
theorem RdRows.mono {ok ok':Nat→Prop} {w w':World} (hc:∀b o v,ok b→w.cell? ⟨b,o,none⟩=some v→w'.cell? ⟨b,o,none⟩=some v) (hk:∀b,ok b→ok' b) (sz:Nat) (A:Option Addr):
  ∀(i:Nat) (l:List (List D)),RdRows ok w sz A i l→RdRows ok' w' sz A i l
 |_,[],_=>trivial
 |i,ds::l,⟨⟨b,o,e,h1,h2,h3⟩,h4⟩=>⟨⟨b,o,e,hk _ h1,h2,RdAt.mono hc hk b h1 (o+i*sz) ds h3⟩,RdRows.mono hc hk sz A (i+1) l h4⟩
theorem RdAt.mono {ok ok':Nat→Prop} {w w':World} (hc:∀b o v,ok b→w.cell? ⟨b,o,none⟩=some v→w'.cell? ⟨b,o,none⟩=some v) (hk:∀b,ok b→ok' b) (b:Nat) (hb:ok b):
  ∀(o:Nat) (l:List D),RdAt ok w b o l→RdAt ok' w' b o l
 |_,[],_=>trivial
 |o,d::ds,⟨⟨u,h1,h2⟩,h3⟩=>⟨⟨u,hc b o u hb h1,RdC.mono hc hk d u h2⟩,RdAt.mono hc hk b hb (o+1) ds h3⟩
end
theorem RdC.fr {S ok ok':Nat→Prop} {w w':World} {d:D} {u:Value} (h:RdC ok w d u) (hf:Fr S w w') (hs:∀b,ok b→¬S b) (hk:∀b,ok b→ok' b):RdC ok' w' d u:=
 RdC.mono (fun b o v hb hcell=>hf.cell' hcell (hs b hb)) hk d u h
theorem RdRows.fr {S ok ok':Nat→Prop} {w w':World} {sz:Nat} {A:Option Addr} {i:Nat} {l:List (List D)} (h:RdRows ok w sz A i l) (hf:Fr S w w') (hs:∀b,ok b→¬S b) (hk:∀b,ok b→ok' b):RdRows ok' w' sz A i l:=
 RdRows.mono (fun b o v hb hcell=>hf.cell' hcell (hs b hb)) hk sz A i l h
theorem RdRows.get {ok:Nat→Prop} {w:World} {sz:Nat} {A:Option Addr}:∀{l:List (List D)} {i:Nat},RdRows ok w sz A i l→∀(k:Nat) (hk:k<l.length),
  ∃b o,A=some ⟨b,o,none⟩∧ok b∧l[k].length=sz∧RdAt ok w b (o+(i+k)*sz) l[k]
 |ds::l,i,⟨h,h'⟩,0,_=>by simpa using h
 |ds::l,i,⟨h,h'⟩,k+1,hk=>by
  have hk':k<l.length:=by simpa using hk
  have:=RdRows.get h' k hk';simpa[Nat.add_assoc,Nat.add_comm 1 k] using this
theorem RdRows.get0 {ok:Nat→Prop} {w:World} {sz:Nat} {A:Option Addr} {l:List (List D)} (h:RdRows ok w sz A 0 l) (k:Nat) (hk:k<l.length):
  ∃b o,A=some ⟨b,o,none⟩∧ok b∧l[k].length=sz∧RdAt ok w b (o+k*sz) l[k]:=by
 simpa using h.get k hk
theorem RdRows.mk {ok:Nat→Prop} {w:World} {sz:Nat} {b o:Nat} (hb:ok b):∀{l:List (List D)} {i:Nat},(∀(k:Nat) (hk:k<l.length),l[k].length=sz∧RdAt ok w b (o+(i+k)*sz) l[k])→
  RdRows ok w sz (some ⟨b,o,none⟩) i l
 |[],_,_=>trivial
 |ds::l,i,h=>⟨⟨b,o,rfl,hb,by have:=h 0 (Nat.zero_lt_succ _);simp only[Nat.add_zero] at this;exact this⟩,RdRows.mk hb fun k hk=>by
   have:=h (k+1) (by simpa using hk);simpa[Nat.add_assoc,Nat.add_comm 1 k] using this⟩
inductive Ex where
 |mk (kind:UInt8) (num:UInt64) (name:ByteArray) (op:UInt8) (kids:List Ex)
def Ex.kind:Ex→UInt8| .mk k _ _ _ _=>k
def Ex.num:Ex→UInt64| .mk _ n _ _ _=>n
def Ex.name:Ex→ByteArray| .mk _ _ s _ _=>s
def Ex.op:Ex→UInt8| .mk _ _ _ o _=>o
def Ex.kids:Ex→List Ex| .mk _ _ _ _ l=>l
inductive St where
 |mk (kind:UInt8) (name frm:ByteArray) (sec mt:Bool) (ex:List Ex) (args:List ByteArray) (body els:List St)
def St.kind:St→UInt8| .mk k _ _ _ _ _ _ _ _=>k
def St.name:St→ByteArray| .mk _ s _ _ _ _ _ _ _=>s
def St.frm:St→ByteArray| .mk _ _ s _ _ _ _ _ _=>s
def St.sec:St→Bool| .mk _ _ _ s _ _ _ _ _=>s
def St.mt:St→Bool| .mk _ _ _ _ s _ _ _ _=>s
def St.ex:St→List Ex| .mk _ _ _ _ _ l _ _ _=>l
def St.args:St→List ByteArray| .mk _ _ _ _ _ _ l _ _=>l
def St.body:St→List St| .mk _ _ _ _ _ _ _ l _=>l
def St.els:St→List St| .mk _ _ _ _ _ _ _ _ l=>l
structure Pa where
 name:ByteArray
 buf:Bool
 sec:Bool
 mt:Bool
structure Fu where
 name:ByteArray
 params:List Pa
 body:List St
 sec:Bool
 ret:List Ex
abbrev vu8 (k:UInt8):Value:=.int .u8 (k.toNat:Int)
abbrev vu64 (k:UInt64):Value:=.int .u64 (k.toNat:Int)
def strD (s:ByteArray):List D:=[.v (.string s)]
mutual
def Ex.d:Ex→List D
 | .mk k n s o kids=>[.v (vu8 k),.v (vu64 n),.v (.string s),.v (vu8 o),.row 5 64 (Ex.ds kids)]
def Ex.ds:List Ex→List (List D)
 |[]=>[]
 |e::l=>e.d::Ex.ds l
end
mutual
def St.d:St→List D
 | .mk k n f s m ex args body els=>[.v (vu8 k),.v (.string n),.v (.string f),.v (.bool s),.v (.bool m),.row 5 64 (Ex.ds ex),.row 1 16 (args.map strD),.row 9 144 (St.ds body),.row 9 144 (St.ds els)]
def St.ds:List St→List (List D)
 |[]=>[]
 |e::l=>e.d::St.ds l
end
def Pa.d (p:Pa):List D:=[.v (.string p.name),.v (.bool p.buf),.v (.bool p.sec),.v (.bool p.mt)]
def Fu.d (f:Fu):List D:=[.v (.string f.name),.row 4 24 (f.params.map Pa.d),.row 9 144 (St.ds f.body),.v (.bool f.sec),.row 5 64 (Ex.ds f.ret)]
theorem Ex.ds_eq:∀l,Ex.ds l=l.map Ex.d
 |[]=>rfl
 |e::l=>by simp[Ex.ds,Ex.ds_eq l]
theorem St.ds_eq:∀l,St.ds l=l.map St.d
 |[]=>rfl
 |e::l=>by simp[St.ds,St.ds_eq l]
@[simp] theorem Ex.ds_length (l:List Ex):(Ex.ds l).length=l.length:=by simp[Ex.ds_eq]
@[simp] theorem St.ds_length (l:List St):(St.ds l).length=l.length:=by simp[St.ds_eq]
theorem at_ex {ok:Nat→Prop} {w:World} {A:Option Addr} {l:List Ex} (h:RdRows ok w 5 A 0 (Ex.ds l)) (k:Nat) (hk:k<l.length):
  ∃b o A' c,A=some ⟨b,o,none⟩∧ok b∧w.cell? ⟨b,o+k*5,none⟩=some (vu8 l[k].kind)∧w.cell? ⟨b,o+k*5+1,none⟩=some (vu64 l[k].num)∧
   w.cell? ⟨b,o+k*5+2,none⟩=some (.string l[k].name)∧w.cell? ⟨b,o+k*5+3,none⟩=some (vu8 l[k].op)∧
   w.cell? ⟨b,o+k*5+4,none⟩=some (.slice A' l[k].kids.length c)∧l[k].kids.length≤c∧l[k].kids.length*64≤reach∧RdRows ok w 5 A' 0 (Ex.ds l[k].kids):=by
 obtain⟨b,o,e,hb,hl,hr⟩:=h.get0 k (by simpa using hk);have hd:(Ex.ds l)[k]'(by simpa using hk)=l[k].d:=by simp[Ex.ds_eq]
 rw[hd] at hr;cases hx:l[k] with
 |mk kd n s op kids=>
  rw[hx] at hr;simp only[Ex.d,RdAt,RdC] at hr;obtain⟨⟨_,h0,rfl⟩,⟨_,h1,rfl⟩,⟨_,h2,rfl⟩,⟨_,h3,rfl⟩,⟨_,h4,A',c,rfl,hc1,hc2,hk'⟩,_⟩:=hr;rw[Ex.ds_length] at h4 hc1 hc2;exact⟨b,o,A',c,e,hb,h0,h1,h2,h3,h4,hc1,hc2,hk'⟩
theorem at_str {ok:Nat→Prop} {w:World} {A:Option Addr} {l:List ByteArray} (h:RdRows ok w 1 A 0 (l.map strD)) (k:Nat) (hk:k<l.length):
  ∃b o,A=some ⟨b,o,none⟩∧ok b∧w.cell? ⟨b,o+k,none⟩=some (.string l[k]):=by
 obtain⟨b,o,e,hb,hl,hr⟩:=h.get0 k (by simpa using hk);simp only[List.getElem_map,strD,RdAt,RdC,Nat.mul_one] at hr;obtain⟨⟨_,h0,rfl⟩,_⟩:=hr;exact⟨b,o,e,hb,h0⟩
theorem at_pa {ok:Nat→Prop} {w:World} {A:Option Addr} {l:List Pa} (h:RdRows ok w 4 A 0 (l.map Pa.d)) (k:Nat) (hk:k<l.length):
  ∃b o,A=some ⟨b,o,none⟩∧ok b∧w.cell? ⟨b,o+k*4,none⟩=some (.string l[k].name)∧w.cell? ⟨b,o+k*4+1,none⟩=some (.bool l[k].buf)∧
   w.cell? ⟨b,o+k*4+2,none⟩=some (.bool l[k].sec)∧w.cell? ⟨b,o+k*4+3,none⟩=some (.bool l[k].mt):=by
 obtain⟨b,o,e,hb,hl,hr⟩:=h.get0 k (by simpa using hk);simp only[List.getElem_map,Pa.d,RdAt,RdC] at hr;obtain⟨⟨_,h0,rfl⟩,⟨_,h1,rfl⟩,⟨_,h2,rfl⟩,⟨_,h3,rfl⟩,_⟩:=hr;exact⟨b,o,e,hb,h0,h1,h2,h3⟩
theorem at_st {ok:Nat→Prop} {w:World} {A:Option Addr} {l:List St} (h:RdRows ok w 9 A 0 (St.ds l)) (k:Nat) (hk:k<l.length):
  ∃b o A1 c1 A2 c2 A3 c3 A4 c4,A=some ⟨b,o,none⟩∧ok b∧w.cell? ⟨b,o+k*9,none⟩=some (vu8 l[k].kind)∧w.cell? ⟨b,o+k*9+1,none⟩=some (.string l[k].name)∧
   w.cell? ⟨b,o+k*9+2,none⟩=some (.string l[k].frm)∧w.cell? ⟨b,o+k*9+3,none⟩=some (.bool l[k].sec)∧w.cell? ⟨b,o+k*9+4,none⟩=some (.bool l[k].mt)∧
   w.cell? ⟨b,o+k*9+5,none⟩=some (.slice A1 l[k].ex.length c1)∧w.cell? ⟨b,o+k*9+6,none⟩=some (.slice A2 l[k].args.length c2)∧
   w.cell? ⟨b,o+k*9+7,none⟩=some (.slice A3 l[k].body.length c3)∧w.cell? ⟨b,o+k*9+8,none⟩=some (.slice A4 l[k].els.length c4)∧
   (l[k].ex.length≤c1∧l[k].ex.length*64≤reach∧RdRows ok w 5 A1 0 (Ex.ds l[k].ex))∧(l[k].args.length≤c2∧l[k].args.length*16≤reach∧RdRows ok w 1 A2 0 (l[k].args.map strD))∧
   (l[k].body.length≤c3∧l[k].body.length*144≤reach∧RdRows ok w 9 A3 0 (St.ds l[k].body))∧(l[k].els.length≤c4∧l[k].els.length*144≤reach∧RdRows ok w 9 A4 0 (St.ds l[k].els)):=by
 obtain⟨b,o,e,hb,hl,hr⟩:=h.get0 k (by simpa using hk);have hd:(St.ds l)[k]'(by simpa using hk)=l[k].d:=by simp[St.ds_eq]
 rw[hd] at hr;cases hx:l[k] with
 |mk kd n f s m ex args body els=>
  rw[hx] at hr;simp only[St.d,RdAt,RdC] at hr;obtain⟨⟨_,h0,rfl⟩,⟨_,h1,rfl⟩,⟨_,h2,rfl⟩,⟨_,h3,rfl⟩,⟨_,h4,rfl⟩,⟨_,h5,A1,c1,rfl,p1,q1,r1⟩,⟨_,h6,A2,c2,rfl,p2,q2,r2⟩,⟨_,h7,A3,c3,rfl,p3,q3,r3⟩,⟨_,h8,A4,c4,rfl,p4,q4,r4⟩,_⟩:=hr;rw[Ex.ds_length] at h5 p1 q1;rw[List.length_map] at h6 p2 q2;rw[St.ds_length] at h7 p3 q3 h8 p4 q4;exact⟨b,o,A1,c1,A2,c2,A3,c3,A4,c4,e,hb,h0,h1,h2,h3,h4,h5,h6,h7,h8,⟨p1,q1,r1⟩,⟨p2,q2,r2⟩,⟨p3,q3,r3⟩,⟨p4,q4,r4⟩⟩
theorem at_fu {ok:Nat→Prop} {w:World} {A:Option Addr} {l:List Fu} (h:RdRows ok w 5 A 0 (l.map Fu.d)) (k:Nat) (hk:k<l.length):
  ∃b o A1 c1 A2 c2 A3 c3,A=some ⟨b,o,none⟩∧ok b∧w.cell? ⟨b,o+k*5,none⟩=some (.string l[k].name)∧w.cell? ⟨b,o+k*5+1,none⟩=some (.slice A1 l[k].params.length c1)∧
   w.cell? ⟨b,o+k*5+2,none⟩=some (.slice A2 l[k].body.length c2)∧w.cell? ⟨b,o+k*5+3,none⟩=some (.bool l[k].sec)∧w.cell? ⟨b,o+k*5+4,none⟩=some (.slice A3 l[k].ret.length c3)∧
   (l[k].params.length≤c1∧l[k].params.length*24≤reach∧RdRows ok w 4 A1 0 (l[k].params.map Pa.d))∧(l[k].body.length≤c2∧l[k].body.length*144≤reach∧RdRows ok w 9 A2 0 (St.ds l[k].body))∧
   (l[k].ret.length≤c3∧l[k].ret.length*64≤reach∧RdRows ok w 5 A3 0 (Ex.ds l[k].ret)):=by
 obtain⟨b,o,e,hb,hl,hr⟩:=h.get0 k (by simpa using hk);simp only[List.getElem_map,Fu.d,RdAt,RdC] at hr;obtain⟨⟨_,h0,rfl⟩,⟨_,h1,A1,c1,rfl,p1,q1,r1⟩,⟨_,h2,A2,c2,rfl,p2,q2,r2⟩,⟨_,h3,rfl⟩,⟨_,h4,A3,c3,rfl,p3,q3,r3⟩,_⟩:=hr;rw[List.length_map] at h1 p1 q1;rw[St.ds_length] at h2 p2 q2;rw[Ex.ds_length] at h4 p3 q3;exact⟨b,o,A1,c1,A2,c2,A3,c3,e,hb,h0,h1,h2,h3,h4,⟨p1,q1,r1⟩,⟨p2,q2,r2⟩,⟨p3,q3,r3⟩⟩
theorem all_true_of {α:Type} {p:α→Bool} {l:List α} (h:∀j (hj:j<l.length),p l[j]=true):l.all p=true:=by
 rw[List.all_eq_true];intro x hx;obtain⟨j,hj,rfl⟩:=List.mem_iff_getElem.1 hx;exact h j hj
theorem all_false_of {α:Type} {p:α→Bool} {l:List α} (k:Nat) (hk:k<l.length) (h:p l[k]=false):l.all p=false:=by
 rw[List.all_eq_false];exact⟨l[k],List.getElem_mem hk,by simp[h]⟩
theorem any_false_of {α:Type} {p:α→Bool} {l:List α} (h:∀j (hj:j<l.length),p l[j]=false):l.any p=false:=by
 rw[List.any_eq_false];intro x hx;obtain⟨j,hj,rfl⟩:=List.mem_iff_getElem.1 hx;simp[h j hj]
theorem any_true_of {α:Type} {p:α→Bool} {l:List α} (k:Nat) (hk:k<l.length) (h:p l[k]=true):l.any p=true:=by
 rw[List.any_eq_true];exact⟨l[k],List.getElem_mem hk,h⟩
theorem till {P:Nat→Prop} {k:Nat} (h:∀j,j<k→P j) (hk:P k):∀j,j<k+1→P j:=fun j hj=>by
 rcases Nat.lt_or_eq_of_le (Nat.le_of_lt_succ hj) with h'|rfl
 ·exact h j h'
 ·exact hk
def sq (a b:ByteArray):Bool:=a.data.toList==b.data.toList
theorem tosq (a b:ByteArray):(a.toList==b.toList)=sq a b:=by rw[sq,ByteArray.toList_eq,ByteArray.toList_eq]
theorem sq_iff {a b:ByteArray}:sq a b=true↔a=b:=by
 obtain⟨⟨a⟩⟩:=a;obtain⟨⟨b⟩⟩:=b;simp[sq]
theorem sq_no {a b:ByteArray} (h:a≠b):sq a b=false:=by
 cases hx:sq a b with
 |true=>exact absurd (sq_iff.1 hx) h
 |false=>rfl
theorem sq_refl (a:ByteArray):sq a a=true:=sq_iff.2 rfl
def emp (s:ByteArray):Bool:=s.size==0
theorem toemp (s:ByteArray):s.toList.isEmpty=emp s:=by
 rw[ByteArray.toList_eq];obtain⟨⟨a⟩⟩:=s;cases a<;>simp[emp,ByteArray.size]
theorem ret_bool {a b:Bool} (h:a=b):Ending.returned (.bool a)=Ending.returned (.bool b):=by rw[h]
theorem ret_int {k:IntKind} {a b:Int} (h:a=b):Ending.returned (.int k a)=Ending.returned (.int k b):=by rw[h]
theorem Zf (w:World):Fr Non w w:=Fr.refl _ w
theorem rd_strs {w:World} (cs:List Value) (l:List ByteArray) (t:TypeId) (h:cs=l.map Value.string):RdRows (fun _=>True) (w.alloc (.cells cs.toArray t)) 1 (some ⟨w.heap.size,0,none⟩) 0 (l.map strD):=by
 refine RdRows.mk trivial fun k hk=>?_;have hk':k<l.length:=by simpa using hk
 simp only[List.getElem_map,strD,RdAt,RdC];refine⟨rfl,⟨_,?_,rfl⟩,trivial⟩;rw[World.cell?_alloc_at _ _ _ _ rfl];simp[h,hk']
theorem box_cells {S:Nat→Prop} {w w1:World} {cs:Array Value} {T:TypeId} (hf:Fr S (w.alloc (.cells cs T)) w1) (hS:¬S w.heap.size) (i:Nat) (v:Value) (h:cs[i]? =some v):w1.cell? ⟨w.heap.size,i,none⟩=some v:=
 hf.cell' (by rw[World.cell?_alloc_at _ _ _ _ rfl];exact h) hS
theorem box_fr {S:Nat→Prop} {w w1:World} {o:Obj} (hf:Fr S (w.alloc o) w1):Fr S w w1:=((Fr.refl _ _).alloc o).trans hf
theorem i0 (n:Nat):((n:Int)=0)=(n=0):=by simp
theorem i1 (n:Nat):((n:Int)=1)=(n=1):=propext (by omega)
theorem i2 (n:Nat):((n:Int)=2)=(n=2):=propext (by omega)
theorem i3 (n:Nat):((n:Int)=3)=(n=3):=propext (by omega)
theorem i4 (n:Nat):((n:Int)=4)=(n=4):=propext (by omega)
theorem i5 (n:Nat):((n:Int)=5)=(n=5):=propext (by omega)
theorem i6 (n:Nat):((n:Int)=6)=(n=6):=propext (by omega)
open Classical in
noncomputable def ext (w x:World):World:=if Fr Non w x then x else w
theorem ext_fr (w x:World):Fr Non w (ext w x):=by
 unfold ext;split
 ·assumption
 ·exact Fr.refl _ _
theorem ext_of {w x:World} (h:Fr Non w x):x=ext w x:=by unfold ext;rw[if_pos h]
theorem ext_cell {w:World} {p:Addr} {v:Value} (h:w.cell? p=some v):∀x,(ext w x).cell? p=some v:=fun x=>(ext_fr w x).cell' h (non _)
theorem wp_region_ext {P:Program} {id:Nat} {Q:Exit→Act→World→Prop} {a:Act} {w:World} {l:List Oper} (hm:P.follows .mixedOrders=true) (hB:Region.lexB .any l.toArray=true)
  (h:wpQuiet P l.toArray (fun w'=>∃x,w'=ext w x) (fun a'=>∀w',Fr Non w w'→Q .normal a' w') l a):(Code.region id l.toArray true).wp P Q a w:=
 wp_region_quiet (C:=fun w'=>∃x,w'=ext w x) hm hB ⟨_,ext_of (Fr.refl _ _).drew⟩ (by
  have:∀(l':List Oper) (a:Act) (R R':Act→Prop),(∀a,R a→R' a)→wpQuiet P l.toArray (fun w'=>∃x,w'=ext w x) R l' a→wpQuiet P l.toArray (fun w'=>∃x,w'=ext w x) R' l' a:=by
   intro l'
   induction l' with
   |nil=>intro a R R' hr h;exact hr _ h
   |cons o rest ih=>
    intro a R R' hr h;simp only[wpQuiet] at h ⊢;split
    ·rename_i hw;rw[if_pos hw] at h;obtain⟨v,h1,h2⟩:=h;exact⟨v,h1,ih _ _ _ hr h2⟩
    ·rename_i hw;rw[if_neg hw] at h;exact ih _ _ _ hr h
  refine this l a _ _ (fun a ha w' hw'=>?_) h;obtain⟨x,rfl⟩:=hw';exact ha _ (ext_fr _ _))
theorem calls_ext {P:Program} {f:FuncId} {args:Array Value} {w x:World} {v:Value} (h:Calls P f args (ext w x) fun e w'=>e= .returned v∧Fr Non (ext w x) w'):
  Calls P f args (ext w x) fun e w''=>e= .returned v∧∃y,w''=ext w y:=
 h.mono fun _ w' ⟨he,hf⟩=>⟨he,w',ext_of ((ext_fr w x).trans hf)⟩
end
def RdL (ok:Nat→Prop) (w:World):List D→List Value→Prop
 |[],us=>us=[]
 |d::ds,us=>∃u r,us=u::r∧RdC ok w d u∧RdL ok w ds r
def Chunks (ok:Nat→Prop) (w:World) (sz:Nat):List (List D)→List Value→Prop
 |[],xs=>xs=[]
 |ds::l,xs=>∃us r,xs=us++r∧us.length=sz∧ds.length=sz∧RdL ok w ds us∧Chunks ok w sz l r
theorem RdL.mono {ok ok':Nat→Prop} {w w':World} (hc:∀b o v,ok b→w.cell? ⟨b,o,none⟩=some v→w'.cell? ⟨b,o,none⟩=some v) (hk:∀b,ok b→ok' b):
  ∀(ds:List D) (us:List Value),RdL ok w ds us→RdL ok' w' ds us
 |[],_,h=>h
 |d::ds,_,⟨u,r,e,h1,h2⟩=>⟨u,r,e,RdC.mono hc hk d u h1,RdL.mono hc hk ds r h2⟩
theorem Chunks.mono {ok ok':Nat→Prop} {w w':World} {sz:Nat} (hc:∀b o v,ok b→w.cell? ⟨b,o,none⟩=some v→w'.cell? ⟨b,o,none⟩=some v) (hk:∀b,ok b→ok' b):
  ∀(l:List (List D)) (xs:List Value),Chunks ok w sz l xs→Chunks ok' w' sz l xs
 |[],_,h=>h
 |ds::l,_,⟨us,r,e,h1,h2,h3,h4⟩=>⟨us,r,e,h1,h2,RdL.mono hc hk ds us h3,Chunks.mono hc hk l r h4⟩
theorem Chunks.append {ok:Nat→Prop} {w:World} {sz:Nat} {l':List (List D)} {ys:List Value} (h':Chunks ok w sz l' ys):∀{l:List (List D)} {xs:List Value},Chunks ok w sz l xs→Chunks ok w sz (l++l') (xs++ys)
 |[],_,h=>by cases h;exact h'
 |ds::l,_,⟨us',r,e,g1,g2,g3,g4⟩=>⟨us',r++ys,by rw[e,List.append_assoc],g1,g2,g3,Chunks.append h' g4⟩
theorem Chunks.length {ok:Nat→Prop} {w:World} {sz:Nat}:∀{l:List (List D)} {xs:List Value},Chunks ok w sz l xs→xs.length=l.length*sz
 |[],_,h=>by cases h;simp
 |ds::l,_,⟨us',r,e,g1,g2,g3,g4⟩=>by rw[e,List.length_append,g1,Chunks.length g4,List.length_cons,Nat.succ_mul,Nat.add_comm]
theorem RdAt.of {ok:Nat→Prop} {w:World} {b:Nat}:∀{ds:List D} {us:List Value} {o:Nat},RdL ok w ds us→(∀j u,us[j]? =some u→w.cell? ⟨b,o+j,none⟩=some u)→RdAt ok w b o ds
 |[],_,_,_,_=>trivial
 |d::ds,_,o,⟨u,r,e,h1,h2⟩,h=>by
  subst e;refine⟨⟨u,h 0 u rfl,h1⟩,RdAt.of h2 fun j v hv=>?_⟩;have:=h (j+1) v (by simpa using hv)
  rwa [←Nat.add_assoc,Nat.add_right_comm] at this
theorem RdRows.of_chunks {ok:Nat→Prop} {w:World} {b sz:Nat} (hb:ok b):∀{l:List (List D)} {xs:List Value} {i:Nat},Chunks ok w sz l xs→(∀j u,xs[j]? =some u→w.cell? ⟨b,0+i*sz+j,none⟩=some u)→
  RdRows ok w sz (some ⟨b,0,none⟩) i l
 |[],_,_,_,_=>trivial
 |ds::l,_,i,⟨us,r,e,g1,g2,g3,g4⟩,h=>by
  subst e;refine⟨⟨b,0,rfl,hb,g2,RdAt.of g3 fun j u hu=>h j u ?_⟩,RdRows.of_chunks hb g4 fun j u hu=>?_⟩
  ·rw[List.getElem?_append_left (List.getElem?_eq_some_iff.1 hu).1];exact hu
  ·have:=h (sz+j) u (by rw[List.getElem?_append_right (by omega),g1];simpa using hu);rw[show 0+(i+1)*sz+j=0+i*sz+(sz+j) by rw[Nat.succ_mul];omega];exact this
def okOwn (base:Nat) (w:World) (v:Value) (k:Nat):Prop:=base≤k∧k<w.heap.size∧v.ownBlock≠some k
def Own (base:Nat) (e:TypeId) (sz:Nat) (w:World) (v:Value) (l:List (List D)):Prop:=
 ∃xs,w.ownsRow base e sz v l.length xs∧Chunks (okOwn base w v) w sz l xs
theorem Own.nil (base:Nat) (e:TypeId) (sz:Nat) (w:World):Own base e sz w (.slice none 0 0) []:=⟨[],World.ownsRow_nil _ _ _ _,rfl⟩
theorem ownsRow_fr {base:Nat} {e:TypeId} {sz:Nat} {w w':World} {v:Value} {n:Nat} {xs:List Value} {S:Nat→Prop} (h:w.ownsRow base e sz v n xs) (hf:Fr S w w') (hs:∀k,base≤k→¬S k):w'.ownsRow base e sz v n xs:=by
 obtain⟨h1,h2⟩:=h;refine⟨h1,?_⟩;rcases h2 with h2|⟨g,cap,cur,hv,hb,hh,r⟩
 ·exact .inl h2
 ·exact .inr ⟨g,cap,cur,hv,hb,by rw[hf.block g (Array.getElem?_eq_some_iff.1 hh).1 (hs g hb)];exact hh,r⟩
theorem Own.fr {base:Nat} {e:TypeId} {sz:Nat} {w w':World} {v:Value} {l:List (List D)} {S:Nat→Prop} (h:Own base e sz w v l) (hf:Fr S w w') (hs:∀k,base≤k→¬S k):Own base e sz w' v l:=by
 obtain⟨xs,h1,h2⟩:=h;exact⟨xs,ownsRow_fr h1 hf hs,h2.mono (fun b o u hb hc=>hf.cell' hc (hs b hb.1)) fun b hb=>⟨hb.1,Nat.lt_of_lt_of_le hb.2.1 hf.size,hb.2.2⟩⟩
theorem Own.slice {base:Nat} {e:TypeId} {sz:Nat} {w:World} {v:Value} {l:List (List D)} (h:Own base e sz w v l):∃A c,v= .slice A l.length c∧l.length≤c:=by
 obtain⟨xs,⟨_,h2⟩,_⟩:=h;rcases h2 with⟨rfl,h2⟩|⟨g,cap,cur,hv,hb,hh,h3,_⟩
 ·exact⟨none,0,by rw[h2],by omega⟩
 ·exact⟨_,cap,hv,h3⟩
theorem Own.lt {base:Nat} {e:TypeId} {sz:Nat} {w:World} {v:Value} {l:List (List D)} (h:Own base e sz w v l):∀k,v.ownBlock=some k→base≤k∧k<w.heap.size:=by
 obtain⟨xs,h,_⟩:=h;exact h.lt
theorem Own.rows {base:Nat} {e:TypeId} {sz:Nat} {w:World} {A:Option Addr} {c n:Nat} {l:List (List D)} (h:Own base e sz w (.slice A n c) l):RdRows (fun k=>base≤k∧k<w.heap.size) w sz A 0 l:=by
 obtain⟨xs,h1,h2⟩:=h;have h1':=h1;obtain⟨_,h3⟩:=h1;rcases h3 with⟨hv,h3⟩|⟨g,cap,cur,hv,hb,hh,_⟩
 ·obtain rfl:l=[]:=List.eq_nil_of_length_eq_zero h3;trivial
 ·obtain⟨rfl,rfl,rfl⟩:A=some ⟨g,0,none⟩∧n=l.length∧c=cap:=by cases hv;exact⟨rfl,rfl,rfl⟩
  refine RdRows.of_chunks ⟨hb,(Array.getElem?_eq_some_iff.1 hh).1⟩ (h2.mono (fun _ _ _ _ h=>h) fun b hb=>⟨hb.1,hb.2.1⟩) fun j u hu=>?_;have:=h1'.cells (g:=g) rfl j u hu;simpa[Addr.add_lit] using this
theorem run_append_where {P:Program} (w:World) (base:Nat) (t ty e:TypeId) (i:TypeInfo) (z:Value) (size bytes:Nat) (ht:P.underlying t=some (.slice e)) (hi:P.info? e=some i) (hz:i.zero=some z)
  (hsize:i.size=size) (hby:i.bytes=bytes) (hzs:z.cells.size=size) (hsz:0<size) (v:Value) (n:Nat) (xs:List Value) (hown:w.ownsRow base e size v n xs)
  (a:Addr) (m c:Nat) (news:List Value) (hl:news.length=m*size) (hnews:∀j u,news[j]? =some u→w.cell? (a.add j)=some u) (h1:∀u∈news,u.oneCell'=true)
  (h63:n+m≤maxLen) (hbytes:((n+m)+(n+m) / 4+192)*bytes≤281474976710656) (hbase:base≤w.heap.size):
  ∃v' w',(Builtin.append_ #[t,t] ty #[v,.slice (some a) m c]).run P w= .ok v' w'∧w'.ownsRow base e size v' (n+m) (xs++news)∧w.grownBy w' v.ownBlock∧
   (∀k,v'.ownBlock=some k→v.ownBlock=some k∨k=w.heap.size):=by
 obtain⟨v',w',hr,h2,h3,h4⟩:=run_append_own_wide (P:=P) w base t ty e i z size bytes ht hi hz hsize hby hzs hsz v n xs hown a m c news hl hnews h1 h63 hbytes hbase;refine⟨v',w',hr,h2,h3,fun k hk=>?_⟩;have hsmall:n+m≤9223372036854775807:=by simp only[maxLen] at h63;omega
 rcases hown.2 with⟨rfl,rfl⟩|⟨g,cap,cur,rfl,hbg,hg,hnc,hcm,hcs,htake⟩
 ·have hx:xs=[]:=List.eq_nil_of_length_eq_zero (by simpa using hown.1);subst hx;by_cases hm:m=0
  ·have:=h4.2 ⟨rfl,hm⟩;subst this;simp[Value.ownBlock] at hk
  ·have hr':=run_append_nil (P:=P) w t ty e i z ht hi hz a m c news (by rw[hsize];exact hl) hnews (by omega) (by omega) (by have hb:=hbytes;simp only[Nat.zero_add] at hb;rw[hby];exact Nat.le_trans (Nat.mul_le_mul_right _ (by omega)) hb);rw[hr] at hr';injection hr' with hv _;subst hv;right;simp[Value.ownBlock] at hk;exact hk.symm
 ·by_cases hroom:n+m≤cap
  ·have hr':=run_append_room (P:=P) w t ty e i ht hi g n cap cur hg a m c news (by rw[hsize];exact hl) hnews h1 hroom (by rw[hl,hcs,hsize,←Nat.add_mul];exact Nat.mul_le_mul_right _ hroom);rw[hr] at hr';injection hr' with hv _;subst hv;left;simpa[Value.ownBlock] using hk
  ·have holds:∀j u,xs[j]? =some u→w.cell? ((⟨g,0,none⟩:Addr).add j)=some u:=hown.cells (g:=g) rfl;have hr':=run_append_grow (P:=P) w t ty e i z ht hi hz ⟨g,0,none⟩ n cap xs (by rw[hsize];exact hown.1) holds a m c news (by rw[hsize];exact hl) hnews (by omega) (by omega) (by rw[hby];exact growslice_fits_wide (by omega) hbytes);rw[hr] at hr';injection hr' with hv _;subst hv;right;simp[Value.ownBlock] at hk;exact hk.symm
theorem own_append {P:Program} {ops:Array Oper} {rest:List Oper} {o:Oper} {a:Act} {Q:Exit→Act→World→Prop} {w:World} (hgd:o.guard=none) (s x:Operand) (t:TypeId)
  (ho:o.op= .call {callee:=.builtin .append,args:=#[s,x],argTypes:=#[t,t]})
  (base:Nat) (e:TypeId) (i:TypeInfo) (z:Value) (size bytes:Nat) (ht:P.underlying t=some (.slice e)) (hi:P.info? e=some i) (hz:i.zero=some z)
  (hsize:i.size=size) (hby:i.bytes=bytes) (hzs:z.cells.size=size) (hsz:0<size)
  (v:Value) (l:List (List D)) (hs:a.eval s=v) (hown:Own base e size w v l)
  (ad:Addr) (m c:Nat) (hx:a.eval x= .slice (some ad) m c) (l':List (List D)) (us:List Value) (hch:Chunks (okOwn base w v) w size l' us) (hm:l'.length=m) (hnews:∀j u,us[j]? =some u→w.cell? (ad.add j)=some u) (h1:∀u∈us,u.oneCell'=true)
  (h63:l.length+m≤maxLen) (hbytes:((l.length+m)+(l.length+m) / 4+192)*bytes≤281474976710656) (hbase:base≤w.heap.size)
  (h:∀v' w',Own base e size w' v' (l++l')→Fr (fun k=>base≤k∧v.ownBlock=some k) w w'→wpList P ops Q rest (a.put o.dst v') w'):wpList P ops Q (o::rest) a w:=by
 obtain⟨xs,hrow,hcs⟩:=hown;obtain⟨v',w',hr,hrow',hg,hwh⟩:=run_append_where (P:=P) w base t o.type e i z size bytes ht hi hz hsize hby hzs hsz v l.length xs hrow ad m c us (by rw[hch.length,hm]) hnews h1 h63 hbytes hbase;have hfr:Fr (fun k=>base≤k∧v.ownBlock=some k) w w':=⟨hg.os,hg.tape,hg.output,hg.size,fun k hk hn=>hg.block k hk fun e=>hn ⟨(hrow.lt k e.symm).1,e.symm⟩⟩;have key:∀b o u,okOwn base w v b→w.cell? ⟨b,o,none⟩=some u→w'.cell? ⟨b,o,none⟩=some u:=fun b o u hb hc=>hfr.cell' hc fun hx=>hb.2.2 hx.2;have hnew:∀b,okOwn base w v b→okOwn base w' v' b:=fun b hb=>⟨hb.1,Nat.lt_of_lt_of_le hb.2.1 hg.size,fun hv=>by
  rcases hwh b hv with h|h
  ·exact hb.2.2 h
  ·have:=hb.2.1;omega⟩
 have hres:=h v' w' ⟨xs++us,by rw[List.length_append,hm];exact hrow',Chunks.append (hch.mono key hnew) (hcs.mono key hnew)⟩ hfr;refine wpList_plain hgd fun K hK=>?_;unfold Oper.wp execOp;simp only[ho,resolve,invoke,builtin,Sem.run_bind,Sem.run_pure,Result.andThen_ok,List.map_toArray,List.map_cons,List.map_nil,hs,hx,hr];exact hK _ _ hres
def exZ:Value:=.agg #[.int .u8 0,.int .u64 0,.string ⟨#[]⟩,.int .u8 0,.slice none 0 0]
def stZ:Value:=.agg #[.int .u8 0,.string ⟨#[]⟩,.string ⟨#[]⟩,.bool false,.bool false,.slice none 0 0,.slice none 0 0,.slice none 0 0,.slice none 0 0]
def paZ:Value:=.agg #[.string ⟨#[]⟩,.bool false,.bool false,.bool false]
def fuZ:Value:=.agg #[.string ⟨#[]⟩,.slice none 0 0,.slice none 0 0,.bool false,.slice none 0 0]
def tkZ:Value:=.agg #[.int .u8 0,.string ⟨#[]⟩,.int .u64 0,.int .i64 0]
def AppLaw (t e:TypeId) (size bytes:Nat):Prop:=
 ∀{ops:Array Oper} {rest:List Oper} {o:Oper} {a:Act} {Q:Exit→Act→World→Prop} {w:World} (_:o.guard=none) (s x:Operand)
  (_:o.op= .call {callee:=.builtin .append,args:=#[s,x],argTypes:=#[t,t]})
  (base:Nat) (v:Value) (l:List (List D)) (_:a.eval s=v) (_:Own base e size w v l)
  (ad:Addr) (m c:Nat) (_:a.eval x= .slice (some ad) m c) (l':List (List D)) (us:List Value) (_:Chunks (okOwn base w v) w size l' us) (_:l'.length=m) (_:∀j u,us[j]? =some u→w.cell? (ad.add j)=some u) (_:∀u∈us,u.oneCell'=true)
  (_:l.length+m≤maxLen) (_:((l.length+m)+(l.length+m) / 4+192)*bytes≤281474976710656) (_:base≤w.heap.size)
  (_:∀v' w',Own base e size w' v' (l++l')→Fr (fun k=>base≤k∧v.ownBlock=some k) w w'→wpList Tryz.prog ops Q rest (a.put o.dst v') w'),wpList Tryz.prog ops Q (o::rest) a w
theorem app_of {t e:TypeId} {z:Value} {size bytes:Nat} (ht:Tryz.prog.underlying t=some (.slice e)) (hi:(Tryz.prog.info? e).map (fun i=>(i.zero,i.size,i.bytes))=some (some z,size,bytes)) (hzs:z.cells.size=size) (hsz:0<size):AppLaw t e size bytes:=by
 obtain⟨i0,h0,h1,h2,h3⟩:=info_parts hi;intro ops rest o a Q w hgd s x ho base v l hs hown ad m c hx l' us hch hm hnews h1' h63 hbytes hbase h;exact own_append hgd s x t ho base e i0 z size bytes ht h0 h1 h2 h3 hzs hsz v l hs hown ad m c hx l' us hch hm hnews h1' h63 hbytes hbase h
theorem app_ex:AppLaw 38 48 5 64:=app_of (z:=exZ) (by kernel_rfl) (by kernel_rfl) rfl (by decide)
theorem app_st:AppLaw 40 42 9 144:=app_of (z:=stZ) (by kernel_rfl) (by kernel_rfl) rfl (by decide)
theorem app_fu:AppLaw 22 53 5 96:=app_of (z:=fuZ) (by kernel_rfl) (by kernel_rfl) rfl (by decide)
theorem app_tk:AppLaw 162 172 4 40:=app_of (z:=tkZ) (by kernel_rfl) (by kernel_rfl) rfl (by decide)
def New (B:Nat) (w:World) (k:Nat):Prop:=B≤k∧k<w.heap.size
theorem New.mono {B B':Nat} {w w':World} (hB:B'≤B) (hs:w.heap.size≤w'.heap.size):∀k,New B w k→New B' w' k:=fun k h=>⟨Nat.le_trans hB h.1,Nat.lt_of_lt_of_le h.2 hs⟩
theorem take_snoc {α:Type} (l:List α) (j:Nat) (h:j<l.length):l.take (j+1)=l.take j++[l[j]]:=List.take_succ_eq_append_getElem h
theorem new_own {base:Nat} {w w1 w2:World} {v:Value} (hv:∀k,v.ownBlock=some k→base≤k∧k<w1.heap.size) (hB:base≤w1.heap.size) (hs:w2.heap.size≤w.heap.size):∀k,New w1.heap.size w2 k→okOwn base w v k:=
 fun k h=>⟨Nat.le_trans hB h.1,Nat.lt_of_lt_of_le h.2 hs,fun e=>by have:=(hv k e).2;have:=h.1;omega⟩
theorem new_cells (w:World) (cs:List Value) (T:TypeId):∀q u,cs[q]? =some u→(w.alloc (.cells cs.toArray T)).cell? ((⟨w.heap.size,0,none⟩:Addr).add q)=some u:=fun q u h=>by
 rw[Addr.add_lit,Nat.zero_add,World.cell?_alloc_at _ _ _ _ rfl];simpa using h
theorem new_cells' {w:World} {cs:List Value} {T:TypeId} {n:Nat} (hn:w.heap.size=n):∀q u,cs[q]? =some u→(w.alloc (.cells cs.toArray T)).cell? ((⟨n,0,none⟩:Addr).add q)=some u:=hn▸new_cells w cs T
theorem chunk_ex {ok:Nat→Prop} {w:World} (e:Ex) {A:Option Addr} {c:Nat} (h1:e.kids.length≤c) (h2:e.kids.length*64≤reach) (hr:RdRows ok w 5 A 0 (Ex.ds e.kids)):
  Chunks ok w 5 [e.d] [vu8 e.kind,vu64 e.num,.string e.name,vu8 e.op,.slice A e.kids.length c]:=by
 obtain⟨kd,n,s,o,l⟩:=e;exact⟨_,[],rfl,rfl,rfl,⟨_,_,rfl,rfl,_,_,rfl,rfl,_,_,rfl,rfl,_,_,rfl,rfl,_,_,rfl,⟨A,c,by rw[Ex.ds_length];rfl,by rw[Ex.ds_length];exact h1,by rw[Ex.ds_length];exact h2,hr⟩,rfl⟩,rfl⟩
theorem one_ex (a:UInt8) (b:UInt64) (s:ByteArray) (o:UInt8) (A:Option Addr) (n c:Nat):∀u∈[vu8 a,vu64 b,.string s,vu8 o,.slice A n c],u.oneCell'=true:=by
 intro u hu;simp at hu;rcases hu with rfl|rfl|rfl|rfl|rfl<;>rfl
theorem room64 {n:Nat} (h:n*64≤reach):n≤maxLen∧(n+n / 4+192)*64≤281474976710656:=by unfold reach at h;unfold maxLen;omega
theorem room144 {n:Nat} (h:n*144≤reach):n≤maxLen∧(n+n / 4+192)*144≤281474976710656:=by unfold reach at h;unfold maxLen;omega
theorem room24 {n:Nat} (h:n*24≤reach):n≤maxLen∧(n+n / 4+192)*24≤281474976710656:=by unfold reach at h;unfold maxLen;omega
theorem room96 {n:Nat} (h:n*96≤reach):n≤maxLen∧(n+n / 4+192)*96≤281474976710656:=by unfold reach at h;unfold maxLen;omega
theorem room16 {n:Nat} (h:n*16≤reach):n≤maxLen∧(n+n / 4+192)*16≤281474976710656:=by unfold reach at h;unfold maxLen;omega
theorem Zc {w:World} {b:Nat} {cs:Array Value} {T:TypeId} (h:w.heap[b]? =some (.cells cs T (0,0))):(∀i v,cs[i]? =some v→w.cell? ⟨b,i,none⟩=some v)∧(∀i,w.frozen? ⟨b,i,none⟩=false):=by
 constructor
 ·intro i v hv;simp[World.cell?,h,hv]
 ·intro i;simp[World.frozen?,h]
theorem blk_new (w:World) (cs:Array Value) (T:TypeId):(w.alloc (.cells cs T)).heap[w.heap.size]? =some (.cells cs T (0,0)):=by
 show(w.heap.push _)[w.heap.size]? =_
 rw[Array.getElem?_push,if_pos rfl]
theorem blk_new' {w:World} {b:Nat} (h:w.heap.size=b) (cs:Array Value) (T:TypeId):(w.alloc (.cells cs T)).heap[b]? =some (.cells cs T (0,0)):=h▸blk_new w cs T
theorem blk_old {w:World} {b:Nat} {o o':Obj} (h:w.heap[b]? =some o):(w.alloc o').heap[b]? =some o:=by
 rw[Below.heap_alloc _ _ _ (Array.getElem?_eq_some_iff.1 h).1];exact h
theorem Zb {S:Nat→Prop} {w w':World} {b:Nat} {o:Obj} (h:w.heap[b]? =some o) (hf:Fr S w w') (hs:¬S b):w'.heap[b]? =some o:=by
 rw[hf.block b (Array.getElem?_eq_some_iff.1 h).1 hs];exact h
theorem blk_lt {w:World} {b:Nat} {o:Obj} (h:w.heap[b]? =some o):b<w.heap.size:=(Array.getElem?_eq_some_iff.1 h).1
def D.one:D→Prop
 | .v x=>x.oneCell'=true
 | .row _ _ _=>True
theorem Chunks.ones {ok:Nat→Prop} {w:World} {sz:Nat}:∀{l:List (List D)} {xs:List Value},Chunks ok w sz l xs→(∀ds∈l,∀d∈ds,d.one)→∀u∈xs,u.oneCell'=true
 |[],_,h,_,u,hu=>by cases h;cases hu
 |ds::l,_,⟨us,r,e,g1,g2,g3,g4⟩,ho,u,hu=>by
  subst e;rcases List.mem_append.1 hu with hu|hu
  ·have:∀{ds:List D} {us:List Value},RdL ok w ds us→(∀d∈ds,d.one)→∀u∈us,u.oneCell'=true:=by
    intro ds
    induction ds with
    |nil=>intro us h _ u hu;cases h;cases hu
    |cons d ds ih=>
     intro us h ho u hu;obtain⟨u',r,rfl,h1,h2⟩:=h;rcases List.mem_cons.1 hu with rfl|hu
     ·have hd:=ho d (by simp);cases d with
      |v x=>rw[show u=x from h1];exact hd
      |row sz b l=>obtain⟨A,c,rfl,_⟩:=h1;rfl
     ·exact ih h2 (fun d hd=>ho d (by simp[hd])) u hu
   exact this g3 (ho ds (by simp)) u hu
  ·exact g4.ones (fun ds hds=>ho ds (by simp[hds])) u hu
theorem RdAt.cells {ok:Nat→Prop} {w:World} {b:Nat}:∀{ds:List D} {o:Nat},RdAt ok w b o ds→∃us,us.length=ds.length∧RdL ok w ds us∧∀j u,us[j]? =some u→w.cell? ⟨b,o+j,none⟩=some u
 |[],_,_=>⟨[],rfl,rfl,fun j u h=>by simp at h⟩
 |d::ds,o,⟨⟨u,h1,h2⟩,h3⟩=>by
  obtain⟨us,g1,g2,g3⟩:=RdAt.cells h3;refine⟨u::us,by simp[g1],⟨u,us,rfl,h2,g2⟩,fun j v hv=>?_⟩;cases j with
  |zero=>cases hv;exact h1
  |succ j=>have:=g3 j v (by simpa using hv);rwa [show o+(j+1)=o+1+j by omega]
theorem RdRows.cells {ok:Nat→Prop} {w:World} {sz b o:Nat}:∀{l:List (List D)} {i:Nat},RdRows ok w sz (some ⟨b,o,none⟩) i l→∃us,Chunks ok w sz l us∧∀j u,us[j]? =some u→w.cell? ⟨b,o+i*sz+j,none⟩=some u
 |[],_,_=>⟨[],rfl,fun j u h=>by simp at h⟩
 |ds::l,i,⟨⟨b',o',e,hb,hl,hr⟩,h'⟩=>by
  cases e;obtain⟨us,g1,g2,g3⟩:=hr.cells;obtain⟨vs,q1,q2⟩:=RdRows.cells h';refine⟨us++vs,⟨us,vs,rfl,by rw[g1,hl],hl,g2,q1⟩,fun j u hu=>?_⟩;by_cases hj:j<us.length
  ·exact g3 j u (by rwa [List.getElem?_append_left hj] at hu)
  ·rw[List.getElem?_append_right (by omega)] at hu;have:=q2 _ u hu
   rwa [show o+(i+1)*sz+(j-us.length)=o+i*sz+j by rw[Nat.succ_mul,g1,hl] at*;omega] at this
theorem RdRows.src {ok:Nat→Prop} {w:World} {sz:Nat} {A:Option Addr} {l:List (List D)} (h:RdRows ok w sz A 0 l) (hne:l≠[]):
  ∃ad us,A=some ad∧Chunks ok w sz l us∧∀j u,us[j]? =some u→w.cell? (ad.add j)=some u:=by
 cases l with
 |nil=>exact absurd rfl hne
 |cons ds l=>
  have h0:=h;obtain⟨⟨b,o,rfl,_⟩,_⟩:=h0;obtain⟨us,h1,h2⟩:=h.cells;exact⟨_,us,rfl,h1,fun j u hu=>by rw[Addr.add_lit];simpa using h2 j u hu⟩
def OwnX (ok:Nat→Prop) (base:Nat) (e:TypeId) (sz:Nat) (w:World) (v:Value) (l:List (List D)):Prop:=
 ∃xs,w.ownsRow base e sz v l.length xs∧Chunks ok w sz l xs
theorem OwnX.nil (ok:Nat→Prop) (base:Nat) (e:TypeId) (sz:Nat) (w:World):OwnX ok base e sz w (.slice none 0 0) []:=⟨[],World.ownsRow_nil _ _ _ _,rfl⟩
theorem OwnX.fr {ok:Nat→Prop} {base:Nat} {e:TypeId} {sz:Nat} {w w':World} {v:Value} {l:List (List D)} {S:Nat→Prop} (h:OwnX ok base e sz w v l) (hf:Fr S w w') (hs:∀k,base≤k→¬S k) (hk:∀k,ok k→¬S k):OwnX ok base e sz w' v l:=by
 obtain⟨xs,h1,h2⟩:=h;exact⟨xs,ownsRow_fr h1 hf hs,h2.mono (fun b o u hb hc=>hf.cell' hc (hk b hb)) fun b hb=>hb⟩
theorem OwnX.slice {ok:Nat→Prop} {base:Nat} {e:TypeId} {sz:Nat} {w:World} {v:Value} {l:List (List D)} (h:OwnX ok base e sz w v l):∃A c,v= .slice A l.length c∧l.length≤c:=by
 obtain⟨xs,⟨_,h2⟩,_⟩:=h;rcases h2 with⟨rfl,h2⟩|⟨g,cap,cur,hv,hb,hh,h3,_⟩
 ·exact⟨none,0,by rw[h2],by omega⟩
 ·exact⟨_,cap,hv,h3⟩
theorem OwnX.rows {ok:Nat→Prop} {base:Nat} {e:TypeId} {sz:Nat} {w:World} {A:Option Addr} {c n:Nat} {l:List (List D)} (h:OwnX ok base e sz w (.slice A n c) l):RdRows (fun k=>ok k∨base≤k∧k<w.heap.size) w sz A 0 l:=by
 obtain⟨xs,h1,h2⟩:=h;have h1':=h1;obtain⟨_,h3⟩:=h1;rcases h3 with⟨hv,h3⟩|⟨g,cap,cur,hv,hb,hh,_⟩
 ·obtain rfl:l=[]:=List.eq_nil_of_length_eq_zero h3;trivial
 ·obtain⟨rfl,rfl,rfl⟩:A=some ⟨g,0,none⟩∧n=l.length∧c=cap:=by cases hv;exact⟨rfl,rfl,rfl⟩
  refine RdRows.of_chunks (.inr ⟨hb,(Array.getElem?_eq_some_iff.1 hh).1⟩) (h2.mono (fun _ _ _ _ h=>h) fun b hb=>.inl hb) fun j u hu=>?_;have:=h1'.cells (g:=g) rfl j u hu;simpa[Addr.add_lit] using this
theorem wp_append_run {P:Program} {ops:Array Oper} {rest:List Oper} {o:Oper} {a:Act} {Q:Exit→Act→World→Prop} {w w':World} {t:TypeId} {v u v':Value} (hgd:o.guard=none) (s x:Operand)
  (ho:o.op= .call {callee:=.builtin .append,args:=#[s,x],argTypes:=#[t,t]}) (hs:a.eval s=v) (hx:a.eval x=u) (hr:(Builtin.append_ #[t,t] o.type #[v,u]).run P w= .ok v' w')
  (hres:wpList P ops Q rest (a.put o.dst v') w'):wpList P ops Q (o::rest) a w:=by
 refine wpList_plain hgd fun K hK=>?_;unfold Oper.wp execOp;simp only[ho,resolve,invoke,builtin,Sem.run_bind,Sem.run_pure,Result.andThen_ok,List.map_toArray,List.map_cons,List.map_nil,hs,hx,hr];exact hK _ _ hres
def AppX (t e:TypeId) (size bytes:Nat):Prop:=
 ∀{ops:Array Oper} {rest:List Oper} {o:Oper} {a:Act} {Q:Exit→Act→World→Prop} {w:World} (_:o.guard=none) (s x:Operand)
  (_:o.op= .call {callee:=.builtin .append,args:=#[s,x],argTypes:=#[t,t]})
  (ok:Nat→Prop) (base:Nat) (v:Value) (l:List (List D)) (_:a.eval s=v) (_:OwnX ok base e size w v l) (_:∀k,ok k→k<base)
  (A:Option Addr) (c:Nat) (l':List (List D)) (_:a.eval x= .slice A l'.length c) (_:RdRows ok w size A 0 l') (_:∀ds∈l',∀d∈ds,d.one)
  (_:l.length+l'.length≤maxLen) (_:((l.length+l'.length)+(l.length+l'.length) / 4+192)*bytes≤281474976710656) (_:base≤w.heap.size)
  (_:∀v' w',OwnX ok base e size w' v' (l++l')→Fr (fun k=>base≤k∧v.ownBlock=some k) w w'→wpList Tryz.prog ops Q rest (a.put o.dst v') w'),wpList Tryz.prog ops Q (o::rest) a w
theorem appX_of {t e:TypeId} {z:Value} {size bytes:Nat} (ht:Tryz.prog.underlying t=some (.slice e)) (hi:(Tryz.prog.info? e).map (fun i=>(i.zero,i.size,i.bytes))=some (some z,size,bytes)) (hzs:z.cells.size=size) (hsz:0<size):AppX t e size bytes:=by
 obtain⟨i0,h0,h1,h2,h3⟩:=info_parts hi;intro ops rest o a Q w hgd s x ho ok base v l hs hown hokb A c l' hx hrd hone h63 hbytes hbase h;obtain⟨xs,hrow,hcs⟩:=hown;cases A with
 |some ad=>
  obtain⟨us,hch,hce⟩:∃us,Chunks ok w size l' us∧∀j u,us[j]? =some u→w.cell? (ad.add j)=some u:=by
   by_cases hne:l'=[]
   ·subst hne;exact⟨[],rfl,fun j u hu=>by simp at hu⟩
   ·obtain⟨ad',us,e,g1,g2⟩:=hrd.src hne;cases e;exact⟨us,g1,g2⟩
  obtain⟨v',w',hr,hrow',hg,hwh⟩:=run_append_where (P:=Tryz.prog) w base t o.type e i0 z size bytes ht h0 h1 h2 h3 hzs hsz v l.length xs hrow ad l'.length c us hch.length hce (hch.ones hone) h63 hbytes hbase;have hfr:Fr (fun k=>base≤k∧v.ownBlock=some k) w w':=⟨hg.os,hg.tape,hg.output,hg.size,fun k hk hn=>hg.block k hk fun e=>hn ⟨(hrow.lt k e.symm).1,e.symm⟩⟩;have key:∀b o u,ok b→w.cell? ⟨b,o,none⟩=some u→w'.cell? ⟨b,o,none⟩=some u:=fun b o u hb hc=>hfr.cell' hc fun hx=>by have h8:=hokb b hb;have h9:base≤b:=hx.1;omega
  exact wp_append_run hgd s x ho hs hx hr (h v' w' ⟨xs++us,by rw[List.length_append];exact hrow',Chunks.append (hch.mono key fun _ h=>h) (hcs.mono key fun _ h=>h)⟩ hfr)
 |none=>
  have hne:l'=[]:=by
   cases l' with
   |nil=>rfl
   |cons ds l'=>obtain⟨⟨b,o,e,_⟩,_⟩:=hrd;cases e
  subst hne;have hr:(Builtin.append_ #[t,t] o.type #[v,.slice none ([]:List (List D)).length c]).run Tryz.prog w= .ok v w:=by
   rcases hrow.2 with⟨rfl,h9⟩|⟨g,cap,cur,rfl,_,_,hnc,_⟩
   ·simp[Builtin.append_,run_underlying ht,sizeOf,typeInfo,h0,Builtin.lenOf,Builtin.firstCells]
   ·simp[Builtin.append_,run_underlying ht,sizeOf,typeInfo,h0,Builtin.lenOf,Builtin.firstCells,hnc,storeCells]
  exact wp_append_run hgd s x ho hs hx hr (h v w (by rw[List.append_nil];exact⟨xs,hrow,hcs⟩) (Fr.refl _ _))
theorem one_strs (l:List ByteArray):∀ds∈l.map strD,∀d∈ds,d.one:=by
 intro ds hds d hd;obtain⟨s,_,rfl⟩:=List.mem_map.1 hds;simp[strD] at hd;subst hd;rfl
theorem one_exs (l:List Ex):∀ds∈Ex.ds l,∀d∈ds,d.one:=by
 intro ds hds d hd;rw[Ex.ds_eq] at hds;obtain⟨⟨k,n,s,o,l⟩,_,rfl⟩:=List.mem_map.1 hds;simp[Ex.d] at hd;rcases hd with rfl|rfl|rfl|rfl|rfl<;>first|rfl|trivial
theorem one_sts (l:List St):∀ds∈St.ds l,∀d∈ds,d.one:=by
 intro ds hds d hd;rw[St.ds_eq] at hds;obtain⟨⟨k,n,f,s,m,ex,args,body,els⟩,_,rfl⟩:=List.mem_map.1 hds;simp[St.d] at hd;rcases hd with rfl|rfl|rfl|rfl|rfl|rfl|rfl|rfl|rfl<;>first|rfl|trivial
theorem one_pas (l:List Pa):∀ds∈l.map Pa.d,∀d∈ds,d.one:=by
 intro ds hds d hd;obtain⟨⟨n,b,s,m⟩,_,rfl⟩:=List.mem_map.1 hds;simp[Pa.d] at hd;rcases hd with rfl|rfl|rfl|rfl<;>rfl
theorem appX_ex:AppX 38 48 5 64:=appX_of (z:=exZ) (by kernel_rfl) (by kernel_rfl) rfl (by decide)
theorem appX_st:AppX 40 42 9 144:=appX_of (z:=stZ) (by kernel_rfl) (by kernel_rfl) rfl (by decide)
theorem appX_pa:AppX 51 56 4 24:=appX_of (z:=paZ) (by kernel_rfl) (by kernel_rfl) rfl (by decide)
theorem appX_str:AppX 39 9 1 16:=appX_of (z:=.string ⟨#[]⟩) (by kernel_rfl) (by kernel_rfl) rfl (by decide)
theorem chunk_st {ok:Nat→Prop} {w:World} (e:St) {A1 A2 A3 A4:Option Addr} {c1 c2 c3 c4:Nat} (h1:e.ex.length≤c1) (q1:e.ex.length*64≤reach) (r1:RdRows ok w 5 A1 0 (Ex.ds e.ex))
  (h2:e.args.length≤c2) (q2:e.args.length*16≤reach) (r2:RdRows ok w 1 A2 0 (e.args.map strD)) (h3:e.body.length≤c3) (q3:e.body.length*144≤reach) (r3:RdRows ok w 9 A3 0 (St.ds e.body))
  (h4:e.els.length≤c4) (q4:e.els.length*144≤reach) (r4:RdRows ok w 9 A4 0 (St.ds e.els)):
  Chunks ok w 9 [e.d] [vu8 e.kind,.string e.name,.string e.frm,.bool e.sec,.bool e.mt,.slice A1 e.ex.length c1,.slice A2 e.args.length c2,.slice A3 e.body.length c3,.slice A4 e.els.length c4]:=by
 obtain⟨k,n,f,s,m,ex,args,body,els⟩:=e;exact⟨_,[],rfl,rfl,rfl,⟨_,_,rfl,rfl,_,_,rfl,rfl,_,_,rfl,rfl,_,_,rfl,rfl,_,_,rfl,rfl,_,_,rfl,⟨A1,c1,by rw[Ex.ds_length];rfl,by rw[Ex.ds_length];exact h1,by rw[Ex.ds_length];exact q1,r1⟩,
  _,_,rfl,⟨A2,c2,by rw[List.length_map];rfl,by rw[List.length_map];exact h2,by rw[List.length_map];exact q2,r2⟩,
  _,_,rfl,⟨A3,c3,by rw[St.ds_length];rfl,by rw[St.ds_length];exact h3,by rw[St.ds_length];exact q3,r3⟩,
  _,_,rfl,⟨A4,c4,by rw[St.ds_length];rfl,by rw[St.ds_length];exact h4,by rw[St.ds_length];exact q4,r4⟩,rfl⟩,rfl⟩
theorem one_st (a:UInt8) (n f:ByteArray) (b c:Bool) (A1 A2 A3 A4:Option Addr) (n1 n2 n3 n4 c1 c2 c3 c4:Nat):∀u∈[vu8 a,.string n,.string f,.bool b,.bool c,.slice A1 n1 c1,.slice A2 n2 c2,.slice A3 n3 c3,.slice A4 n4 c4],u.oneCell'=true:=by
 intro u hu;simp at hu;rcases hu with rfl|rfl|rfl|rfl|rfl|rfl|rfl|rfl|rfl<;>rfl
theorem Chunks.strs {ok ok':Nat→Prop} {w w':World}:∀{l:List ByteArray} {xs:List Value},Chunks ok w 1 (l.map strD) xs→Chunks ok' w' 1 (l.map strD) xs
 |[],_,h=>h
 |s::l,_,⟨us,r,e,g1,g2,⟨u,q,e1,e2,e3⟩,g4⟩=>⟨us,r,e,g1,g2,⟨u,q,e1,e2,e3⟩,Chunks.strs g4⟩
theorem Chunks.pas {ok ok':Nat→Prop} {w w':World}:∀{l:List Pa} {xs:List Value},Chunks ok w 4 (l.map Pa.d) xs→Chunks ok' w' 4 (l.map Pa.d) xs
 |[],_,h=>h
 |s::l,_,⟨us,r,e,g1,g2,⟨u1,q1,e1,f1,u2,q2,e2,f2,u3,q3,e3,f3,u4,q4,e4,f4,f5⟩,g4⟩=>⟨us,r,e,g1,g2,⟨u1,q1,e1,f1,u2,q2,e2,f2,u3,q3,e3,f3,u4,q4,e4,f4,f5⟩,Chunks.pas g4⟩
theorem rows_of_own {ok:Nat→Prop} {base e sz:Nat} {w:World} {A:Option Addr} {c n:Nat} {l:List (List D)} {xs:List Value} (h1:w.ownsRow base e sz (.slice A n c) l.length xs) (hch:Chunks (New base w) w sz l xs):RdRows (New base w) w sz A 0 l:=by
 have h1':=h1;obtain⟨_,h3⟩:=h1;rcases h3 with⟨hv,h3⟩|⟨g,cap,cur,hv,hb,hh,_⟩
 ·obtain rfl:l=[]:=List.eq_nil_of_length_eq_zero h3;trivial
 ·obtain⟨rfl,rfl,rfl⟩:A=some ⟨g,0,none⟩∧n=l.length∧c=cap:=by cases hv;exact⟨rfl,rfl,rfl⟩
  refine RdRows.of_chunks ⟨hb,(Array.getElem?_eq_some_iff.1 hh).1⟩ hch fun j u hu=>?_;have:=h1'.cells (g:=g) rfl j u hu;simpa[Addr.add_lit] using this
theorem OwnX.rows_strs {ok:Nat→Prop} {base:Nat} {e:TypeId} {w:World} {A:Option Addr} {c n:Nat} {l:List ByteArray} (h:OwnX ok base e 1 w (.slice A n c) (l.map strD)):RdRows (New base w) w 1 A 0 (l.map strD):=by
 obtain⟨xs,h1,h2⟩:=h;exact rows_of_own (ok:=ok) h1 h2.strs
theorem OwnX.rows_pas {ok:Nat→Prop} {base:Nat} {e:TypeId} {w:World} {A:Option Addr} {c n:Nat} {l:List Pa} (h:OwnX ok base e 4 w (.slice A n c) (l.map Pa.d)):RdRows (New base w) w 4 A 0 (l.map Pa.d):=by
 obtain⟨xs,h1,h2⟩:=h;exact rows_of_own (ok:=ok) h1 h2.pas
theorem blk_set {w:World} {b:Nat} {cs:Array Value} {T:TypeId} (h:w.heap[b]? =some (.cells cs T (0,0))) (i:Nat) (v:Value):(w.setCell ⟨b,i,none⟩ v).heap[b]? =some (.cells (cs.setIfInBounds i v) T (0,0)):=by
 simp[World.setCell,Array.getElem?_modify,h]
theorem setCell_size (w:World) (p:Addr) (v:Value):(w.setCell p v).heap.size=w.heap.size:=by simp
theorem chunk_fu {ok:Nat→Prop} {w:World} (e:Fu) {A1 A2 A3:Option Addr} {c1 c2 c3:Nat} (h1:e.params.length≤c1) (q1:e.params.length*24≤reach) (r1:RdRows ok w 4 A1 0 (e.params.map Pa.d))
  (h2:e.body.length≤c2) (q2:e.body.length*144≤reach) (r2:RdRows ok w 9 A2 0 (St.ds e.body)) (h3:e.ret.length≤c3) (q3:e.ret.length*64≤reach) (r3:RdRows ok w 5 A3 0 (Ex.ds e.ret)):
  Chunks ok w 5 [e.d] [.string e.name,.slice A1 e.params.length c1,.slice A2 e.body.length c2,.bool e.sec,.slice A3 e.ret.length c3]:=by
 exact⟨_,[],rfl,rfl,rfl,⟨_,_,rfl,rfl,_,_,rfl,⟨A1,c1,by rw[List.length_map],by rw[List.length_map];exact h1,by rw[List.length_map];exact q1,r1⟩,
  _,_,rfl,⟨A2,c2,by rw[St.ds_length],by rw[St.ds_length];exact h2,by rw[St.ds_length];exact q2,r2⟩,_,_,rfl,rfl,
  _,_,rfl,⟨A3,c3,by rw[Ex.ds_length],by rw[Ex.ds_length];exact h3,by rw[Ex.ds_length];exact q3,r3⟩,rfl⟩,rfl⟩
theorem one_fu (n:ByteArray) (b:Bool) (A1 A2 A3:Option Addr) (n1 n2 n3 c1 c2 c3:Nat):∀u∈[Value.string n,.slice A1 n1 c1,.slice A2 n2 c2,.bool b,.slice A3 n3 c3],u.oneCell'=true:=by
 intro u hu;simp at hu;rcases hu with rfl|rfl|rfl|rfl|rfl<;>rfl
section
def RdCs (ok:Nat→Prop) (w:World):List D→List Value→Prop
 |[],[]=>True
 |d::ds,u::us=>RdC ok w d u∧RdCs ok w ds us
 |_,_=>False
theorem RdCs.at {ok:Nat→Prop} {w:World} {b:Nat}:∀{ds:List D} {cs:List Value} {o:Nat},RdCs ok w ds cs→(∀i v,cs[i]? =some v→w.cell? ⟨b,o+i,none⟩=some v)→RdAt ok w b o ds
 |[],[],_,_,_=>trivial
 |d::ds,u::us,o,⟨h,h'⟩,hc=>⟨⟨u,hc 0 u rfl,h⟩,h'.at fun i v hi=>by have:=hc (i+1) v hi;rwa [Nat.add_assoc,Nat.add_comm 1 i]⟩
 |[],_::_,_,h,_=>h.elim
 |_::_,[],_,h,_=>h.elim
theorem RdCs.len {ok:Nat→Prop} {w:World}:∀{ds:List D} {cs:List Value},RdCs ok w ds cs→ds.length=cs.length
 |[],[],_=>rfl
 |d::ds,u::us,⟨_,h'⟩=>by simp[h'.len]
 |[],_::_,h=>h.elim
 |_::_,[],h=>h.elim
def InW (w:World):Nat→Prop:=fun b=>b<w.heap.size
def Light (l:List Nat):Prop:=l.all (· ≤reachBytes)=true
theorem Light.left {a b:List Nat} (h:Light (a++b)):Light a:=by unfold Light at*;rw[List.all_append,Bool.and_eq_true] at h;exact h.1
theorem Light.right {a b:List Nat} (h:Light (a++b)):Light b:=by unfold Light at*;rw[List.all_append,Bool.and_eq_true] at h;exact h.2
section
variable {H:Type} {enc:TypeId×Value→H} {w:World} {fuel:Nat} {t:TypeId} {cs:List Value} {x:DataW H×List MemPlace}
noncomputable abbrev Trd (enc:TypeId×Value→H) (w:World):=DataW.trod enc Tryz.prog w 0 (fun _=>true) true
theorem op_u8 (ht:Program.underlying Tryz.prog t=some (.int .u8)) (h:Trd enc w fuel t cs=some x):∃k:UInt8,cs=[vu8 k]:=by
 obtain⟨n,rfl,_,hw⟩:=DataW.trod_int ht h;have hb:=bounds_u8 hw;have e1:((UInt8.ofNat n.toNat).toNat:Int)=n:=by simp only[UInt8.toNat_ofNat'];omega
 exact⟨UInt8.ofNat n.toNat,by rw[vu8,e1]⟩
theorem op_u64 (ht:Program.underlying Tryz.prog t=some (.int .u64)) (h:Trd enc w fuel t cs=some x):∃k:UInt64,cs=[vu64 k]:=by
 obtain⟨n,rfl,_,hw⟩:=DataW.trod_int ht h;have hb:=bounds_u64 hw;have e1:((UInt64.ofNat n.toNat).toNat:Int)=n:=by simp only[UInt64.toNat_ofNat'];omega
 exact⟨UInt64.ofNat n.toNat,by rw[vu64,e1]⟩
theorem op_bool (ht:Program.underlying Tryz.prog t=some .bool) (h:Trd enc w fuel t cs=some x):∃b,cs=[.bool b]:=by
 obtain⟨b,rfl,_⟩:=DataW.trod_bool ht h;exact⟨b,rfl⟩
theorem op_str (ht:Program.underlying Tryz.prog t=some .string) (h:Trd enc w fuel t cs=some x):∃s,cs=[.string s]:=by
 obtain⟨s,rfl,_⟩:=DataW.trod_string ht h;exact⟨s,rfl⟩
theorem Light.each {e:TypeId}:∀{l:List (DataW H)},Light (DataW.weightsAll Tryz.prog e l)→∀(i:Nat) (d:DataW H),l[i]? =some d→Light (d.weights Tryz.prog e)
 |[],_,_,_,hd=>by simp at hd
 |d0::l,h,0,d,hd=>by
  simp only[List.getElem?_cons_zero,Option.some.injEq] at hd;subst hd;simp only[DataW.weightsAll] at h;exact h.left
 |d0::l,h,i+1,d,hd=>by
  simp only[List.getElem?_cons_succ] at hd;simp only[DataW.weightsAll] at h;exact Light.each h.right i d hd
theorem op_rows {α:Type} (da:α→List D) {e:TypeId} {sz by_:Nat} (ht:Program.underlying Tryz.prog t=some (.slice e)) (hsz:Program.cellsOf Tryz.prog e=sz) (hpos:0<sz) (hby:Program.bytesOf Tryz.prog e=by_)
  (h:Trd enc w fuel t cs=some x) (hw:Light (x.1.weights Tryz.prog t)) (ih:∀m y cs',m<fuel→Trd enc w m e cs'=some y→Light (y.1.weights Tryz.prog e)→∃a,RdCs (InW w) w (da a) cs'):
  ∃(l:List α) (A:Option Addr) (c:Nat),cs=[.slice A l.length c]∧l.length≤c∧l.length*by_≤reach∧RdRows (InW w) w sz A 0 (l.map da):=by
 rcases DataW.trod_slice ht h with⟨rfl,_⟩|⟨a,len,cap,elems,rest,n,rfl,rfl,hx,_,hl,_,hel,hat,hrest,_⟩
 ·exact⟨[],none,0,rfl,Nat.le_refl _,by simp,trivial⟩
 have hr:=(hrest rfl).1;rw[hx] at hw;simp only[DataW.weights,ht,hby] at hw;have hw1:(elems.length+rest.length)*by_≤reachBytes:=by
  have h0:=List.all_eq_true.1 hw _ List.mem_cons_self;simpa using h0
 have hw2:Light (DataW.weightsAll Tryz.prog e (elems.map (·.1))):=by
  have:Light (DataW.weightsAll Tryz.prog e (elems.map (·.1))++DataW.weightsAll Tryz.prog e (rest.map (·.1))):=List.all_eq_true.2 fun y hy=>List.all_eq_true.1 hw y (List.mem_cons_of_mem _ hy);exact this.left
 have hcells:∀i,i<len→∃cs' y,w.cells? 0 (a.add (i*sz)) sz=some cs'∧Trd enc w n e cs'=some y∧Light (y.1.weights Tryz.prog e):=fun i hi=>by
  have h1:=hat i hi;rw[hsz] at h1;have h2:elems[i]? =some (elems[i]'(by omega)):=List.getElem?_eq_getElem _;rw[h2,Option.bind_eq_some_iff] at h1;obtain⟨cs',h3,h4⟩:=h1;exact⟨cs',_,h3,h4,hw2.each i _ (by rw[List.getElem?_map,h2];rfl)⟩
 by_cases h0:len=0
 ·subst h0;exact⟨[],some a,cap,rfl,hl,by simp,trivial⟩
 have hspot:a.spot=none:=by
  obtain⟨cs',y,h1,_,_⟩:=hcells 0 (by omega);obtain⟨h2,h3,h4⟩:=World.cells?_some h1;have h5:=h4 0 (by omega);have h6:w.cell? ((a.add (0*sz)).add 0)=some (cs'[0]'(by omega)):=by rw[h5];exact List.getElem?_eq_getElem _
  have:=World.cell?_spot h6;simpa[Addr.add] using this
 obtain⟨b,o,sp⟩:=a;subst hspot;have hall:∀n',n'≤len→∃l:List α,l.length=n'∧∀(i:Nat) (hi:i<l.length),InW w b∧(da l[i]).length=sz∧RdAt (InW w) w b (o+i*sz) (da l[i]):=by
  intro n' hn'
  induction n' with
  |zero=>exact⟨[],rfl,fun i hi=>by simp at hi⟩
  |succ k ihk=>
   obtain⟨l,hll,hlr⟩:=ihk (by omega);obtain⟨cs',y,h1,h2,h3⟩:=hcells k (by omega);obtain⟨a',h4⟩:=ih n y cs' (by omega) h2 h3;rw[WideShapes.add_plain] at h1;have hblk:b<w.heap.size:=World.cells?_block h1 hpos;obtain⟨_,h5,h6⟩:=World.cells?_some h1;refine⟨l++[a'],by simp[hll],fun i hi=>?_⟩;by_cases hik:i<l.length
   ·rw[List.getElem_append_left hik];exact hlr i hik
   ·have e1:i=l.length:=by simp at hi;omega
    subst e1;rw[List.getElem_append_right (Nat.le_refl _)];simp only[Nat.sub_self,List.getElem_cons_zero];refine⟨hblk,by rw[h4.len];omega,?_⟩;rw[hll];refine h4.at fun i v hv=>?_;have hi':i<sz:=by
     have:=(List.getElem?_eq_some_iff.1 hv).1;omega
    have:=h6 i hi';rw[WideShapes.add_plain] at this;rw[this,hv]
 obtain⟨l,hll,hlr⟩:=hall len (Nat.le_refl _);refine⟨l,some ⟨b,o,none⟩,cap,by rw[hll],by omega,?_,?_⟩
 ·have:len*by_≤(elems.length+rest.length)*by_:=Nat.mul_le_mul_right _ (by omega);have e1:reachBytes=reach:=rfl;rw[hll];omega
 ·refine RdRows.mk (hlr 0 (by omega)).1 fun k hk=>?_;have hk':k<l.length:=by simpa using hk
  have:=hlr k hk';simp only[List.getElem_map,Nat.zero_add];exact⟨this.2.1,this.2.2⟩
end
end
end Go.Proofs.YtpkpgmnbheenbaaGreatDoor
