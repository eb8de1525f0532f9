import PyProof.Rows.All
import Wide.All
import OpenK.AllK
import Wide.FinOn
import KE.KDictList
import KE.KSuper
import PySem.Challenge.RW_pc0038_01
open PySem PySem.Calls PySem.W PyProof.Rows
set_option Elab.async false
set_option maxRecDepth 100000
set_option linter.unusedVariables false
set_option linter.unusedSimpArgs false
set_option compiler.extract_closed false
set_option maxHeartbeats 8000000
section
namespace Mine.Internal
theorem KG{n i k:Nat}(h:n-i=k+1):n-(i+1)=k:=by rw[Nat.sub_add_eq,h];rfl
theorem qL{n i:Nat}(h:n-i=0)(h2:i<=n):i=n:=Nat.le_antisymm h2 (Nat.le_of_sub_eq_zero h)
theorem nN{α:Type _}{a:α}:¬a∈([]:List α):=List.not_mem_nil
theorem nA{α:Type _}{P:α->Prop}:∀i,i∈([]:List α)->P i:=λ_ h=>absurd h List.not_mem_nil
theorem nB{α:Type _}{l:List α}:∀i,i∈l->¬i∈([]:List α):=λ_ _=>List.not_mem_nil
theorem nC{α:Type _}{x:α}{l:List α}:∀i,i∈[x]->i∈x::l:=λ_ h=>List.mem_singleton.mp h▸.head _
theorem nD{α:Type _}{x y:α}{l:List α}:∀i,i∈[x]->i∈y::x::l:=λ_ h=>List.mem_singleton.mp h▸.tail _ (.head _)
theorem nE{α:Type _}{x:α}{l:List α}:∀i,i∈l->i∈x::l:=λ_ h=>.tail _ h
theorem nG{x n:Nat}{S:List Nat}(h:n<=x):∀i,i∈[x]->i∈S\/n<=i:=λ_ e=>List.mem_singleton.mp e▸.inr h
theorem nH{x y n:Nat}{S:List Nat}(h:n<=x)(h2:n<=y):∀i,i∈[x,y]->i∈S\/n<=i:=λ_ e=>(List.mem_cons.mp e).elim (λe=>e▸.inr h) λe=>List.mem_singleton.mp e▸.inr h2
theorem ltk{a b c:Nat}(h:a<=b:=by assumption)(h2:b<=c:=by decide):a<=c:=Nat.le_trans h h2
theorem nlt{a b m:Nat}(h:a<=m)(h1:b<a):b≠m:=Nat.ne_of_lt (Nat.lt_of_lt_of_le h1 h)
theorem mid{a b:Nat}(h:a<b):a<=(a+b) / 2/\(a+b) / 2<b:=
 ⟨(Nat.le_div_iff_mul_le Nat.two_pos).mpr (by rw[Nat.mul_two];exact Nat.add_le_add_left (Nat.le_of_lt h) a),(Nat.div_lt_iff_lt_mul Nat.two_pos).mpr (by rw[Nat.mul_two];exact Nat.add_lt_add_right h b)⟩
theorem rmu{u k d n c m:Nat}(h:k<=n)(x:u+n * (d+1)+m<c):u+k+n * d+m<c:=by
 rw[Nat.mul_succ,<-Nat.add_assoc] at x
 rw[Nat.add_right_comm u]
 exact Nat.lt_of_le_of_lt (Nat.add_le_add_right (Nat.add_le_add_left h _) _) x
inductive X2{A B:Type}(P:A->B->Prop):Prop|mk (a:A) (b:B) (h:P a b):X2 P
inductive X3{A B C:Type}(P:A->B->C->Prop):Prop|mk (a:A) (b:B) (c:C) (h:P a b c):X3 P
inductive X4{A B C D:Type}(P:A->B->C->D->Prop):Prop|mk (a:A) (b:B) (c:C) (d:D) (h:P a b c d):X4 P
inductive X5{A B C D E:Type}(P:A->B->C->D->E->Prop):Prop|mk (a:A) (b:B) (c:C) (d:D) (e:E) (h:P a b c d e):X5 P
inductive X6{A B C D E F:Type}(P:A->B->C->D->E->F->Prop):Prop|mk (a:A) (b:B) (c:C) (d:D) (e:E) (f:F) (h:P a b c d e f):X6 P
inductive X7{A B C D E F G:Type}(P:A->B->C->D->E->F->G->Prop):Prop|mk (a:A) (b:B) (c:C) (d:D) (e:E) (f:F) (g:G) (h:P a b c d e f g):X7 P
inductive X8{A B C D E F G H:Type}(P:A->B->C->D->E->F->G->H->Prop):Prop|mk (a:A) (b:B) (c:C) (d:D) (e:E) (f:F) (g:G) (h:H) (h:P a b c d e f g h):X8 P
inductive X9{A B C D E F G H I:Type}(P:A->B->C->D->E->F->G->H->I->Prop):Prop|mk (a:A) (b:B) (c:C) (d:D) (e:E) (f:F) (g:G) (h:H) (i:I) (h:P a b c d e f g h i):X9 P
inductive X10{A B C D E F G H I J:Type}(P:A->B->C->D->E->F->G->H->I->J->Prop):Prop|mk (a:A) (b:B) (c:C) (d:D) (e:E) (f:F) (g:G) (h:H) (i:I) (j:J) (h:P a b c d e f g h i j):X10 P
inductive X12{A B C D E F G H I J K L:Type}(P:A->B->C->D->E->F->G->H->I->J->K->L->Prop):Prop|mk (a:A) (b:B) (c:C) (d:D) (e:E) (f:F) (g:G) (h:H) (i:I) (j:J) (k:K) (l:L) (h:P a b c d e f g h i j k l):X12 P
inductive X13{A B C D E F G H I J K L M:Type}(P:A->B->C->D->E->F->G->H->I->J->K->L->M->Prop):Prop|mk (a:A) (b:B) (c:C) (d:D) (e:E) (f:F) (g:G) (h:H) (i:I) (j:J) (k:K) (l:L) (m:M) (h:P a b c d e f g h i j k l m):X13 P
inductive X15{A B C D E F G H I J K L M N O:Type}(P:A->B->C->D->E->F->G->H->I->J->K->L->M->N->O->Prop):Prop|mk (a:A) (b:B) (c:C) (d:D) (e:E) (f:F) (g:G) (h:H) (i:I) (j:J) (k:K) (l:L) (m:M) (n:N) (o:O) (h:P a b c d e f g h i j k l m n o):X15 P
inductive N3(a b c:Prop):Prop|mk (h0:a) (h1:b) (h2:c):N3 a b c
inductive N4(a b c d:Prop):Prop|mk (h0:a) (h1:b) (h2:c) (h3:d):N4 a b c d
inductive N5(a b c d e:Prop):Prop|mk (h0:a) (h1:b) (h2:c) (h3:d) (h4:e):N5 a b c d e
inductive N6(a b c d e f:Prop):Prop|mk (h0:a) (h1:b) (h2:c) (h3:d) (h4:e) (h5:f):N6 a b c d e f
inductive N7(a b c d e f g:Prop):Prop|mk (h0:a) (h1:b) (h2:c) (h3:d) (h4:e) (h5:f) (h6:g):N7 a b c d e f g
inductive N8(a b c d e f g h:Prop):Prop|mk (h0:a) (h1:b) (h2:c) (h3:d) (h4:e) (h5:f) (h6:g) (h7:h):N8 a b c d e f g h
inductive N9(a b c d e f g h i:Prop):Prop|mk (h0:a) (h1:b) (h2:c) (h3:d) (h4:e) (h5:f) (h6:g) (h7:h) (h8:i):N9 a b c d e f g h i
inductive N10(a b c d e f g h i j:Prop):Prop|mk (h0:a) (h1:b) (h2:c) (h3:d) (h4:e) (h5:f) (h6:g) (h7:h) (h8:i) (h9:j):N10 a b c d e f g h i j
inductive N11(a b c d e f g h i j k:Prop):Prop|mk (h0:a) (h1:b) (h2:c) (h3:d) (h4:e) (h5:f) (h6:g) (h7:h) (h8:i) (h9:j) (h10:k):N11 a b c d e f g h i j k
inductive MV where
 |none
 |bool (b:Bool)
 |int (i:Int)
 |str (s:Str)
 |tuple (vs:List MV)
 |range (a b:Int)
 |ref (r:Nat)
 |frozen (a:Addr)
inductive MO where
 |list (vs:List MV)
 |idict (kvs:List (Int×MV))
 |sdict (kvs:List (Str×MV))
 |set (is:List Int)
 |inst (c:Str) (fs:List (Str×MV))
noncomputable abbrev MH:=List MO
noncomputable abbrev Loc:=Str->Option MV
noncomputable abbrev Phi:=List (Addr×Option Addr)
noncomputable def ui(vs:List Value)(n:Nat):Obj:={ cls:=.type "tuple",data:=.seq vs.toArray n }
noncomputable def zy(vs:List Value)(n:Nat):Obj:={ cls:=.type "list",data:=.seq vs.toArray n }
noncomputable def ta(a b:Int)(t u v:Tok):Obj:={ cls:=.type "range",data:=.fields #[.int a t,.int b u,.int 1 v] }
mutual
inductive VR(h:Heap)(φ:Phi):Value->MV->Prop
 |none:VR h φ Value.none MV.none
 |bool (b:Bool):VR h φ (Value.bool b) (MV.bool b)
 |int (i:Int) (t:Tok):VR h φ (Value.int i t) (MV.int i)
 |str (x:Str) (t:Tok):VR h φ (Value.str x t) (MV.str x)
 |tuple {a:Addr}{vs:List Value}{n:Nat}{ms:List MV}:h.get? a=some (ui vs n)->VRs h φ vs ms->VR h φ (Value.ref a) (MV.tuple ms)
 |range {a:Addr}{x y:Int}{t u v:Tok}:h.get? a=some (ta x y t u v)->VR h φ (Value.ref a) (MV.range x y)
 |ref {a:Addr}{d:Option Addr}{r:Nat}:φ[r]?=some (a,d)->VR h φ (Value.ref a) (MV.ref r)
 |frozen (a:Addr):VR h φ (Value.ref a) (MV.frozen a)
inductive VRs(h:Heap)(φ:Phi):List Value->List MV->Prop
 |nil:VRs h φ [] []
 |cons {v:Value}{vs:List Value}{m:MV}{ms:List MV}:VR h φ v m->VRs h φ vs ms->VRs h φ (v::vs) (m::ms)
end
noncomputable def VRv(h:Heap)(φ:Phi)(v:Value):MV->Prop
 |.none=>v=.none
 |.bool b=>v=.bool b
 |.int i=>∃t,v=.int i t
 |.str i=>∃t,v=.str i t
 |.tuple ms=>∃a vs n,v=.ref a/\h.get? a=some (ui vs n)/\VRs h φ vs ms
 |.range i j=>∃a t u w,v=.ref a/\h.get? a=some (ta i j t u w)
 |.ref r=>∃a d,v=.ref a/\φ[r]?=some (a,d)
 |.frozen a=>v=.ref a
theorem VR.view{h:Heap}{φ:Phi}{v:Value}{m:MV}(x:VR h φ v m):VRv h φ v m:=
 @VR.casesOn h φ (λv m _=>VRv h φ v m) v m x rfl (λ_=>rfl) (λ_ t=>⟨t,rfl⟩) (λ_ t=>⟨t,rfl⟩) (λe r=>⟨_,_,_,rfl,e,r⟩) (λe=>⟨_,_,_,_,rfl,e⟩) (λe=>⟨_,_,rfl,e⟩) (λ_=>rfl)
theorem VR.inv_none{h:Heap}{φ:Phi}{v:Value}(x:VR h φ v .none):v=.none:=x.view
theorem VR.inv_bool{h:Heap}{φ:Phi}{v:Value}{b:Bool}(x:VR h φ v (.bool b)):v=.bool b:=x.view
theorem VR.inv_int{h:Heap}{φ:Phi}{v:Value}{i:Int}(x:VR h φ v (.int i)):∃t,v=.int i t:=x.view
theorem VR.inv_str{h:Heap}{φ:Phi}{v:Value}{i:Str}(x:VR h φ v (.str i)):∃t,v=.str i t:=x.view
theorem VR.inv_tuple{h:Heap}{φ:Phi}{v:Value}{ms:List MV}(x:VR h φ v (.tuple ms)):∃a vs n,v=.ref a/\h.get? a=some (ui vs n)/\VRs h φ vs ms:=x.view
theorem VR.inv_range{h:Heap}{φ:Phi}{v:Value}{i j:Int}(x:VR h φ v (.range i j)):∃a t u w,v=.ref a/\h.get? a=some (ta i j t u w):=x.view
theorem VR.inv_ref{h:Heap}{φ:Phi}{v:Value}{r:Nat}(x:VR h φ v (.ref r)):∃a d,v=.ref a/\φ[r]?=some (a,d):=x.view
noncomputable def zns(h:Heap)(φ:Phi)(ws:List Value):List MV->Prop
 |[]=>ws=[]
 |m::ms=>∃v vs,ws=v::vs/\VR h φ v m/\VRs h φ vs ms
theorem VRs.view{h:Heap}{φ:Phi}{ws:List Value}{ms:List MV}(x:VRs h φ ws ms):zns h φ ws ms:=
 @VRs.casesOn h φ (λws ms _=>zns h φ ws ms) ws ms x rfl (λa b=>⟨_,_,rfl,a,b⟩)
theorem VRs.inv_nil{h:Heap}{φ:Phi}{vs:List Value}(x:VRs h φ vs []):vs=[]:=x.view
theorem VRs.inv_cons{h:Heap}{φ:Phi}{ws:List Value}{m:MV}{ms:List MV}(x:VRs h φ ws (m::ms)):∃v vs,ws=v::vs/\VR h φ v m/\VRs h φ vs ms:=x.view
theorem VRs.inv_vcons{h:Heap}{φ:Phi}{v:Value}{vs:List Value}{ms:List MV}(x:VRs h φ (v::vs) ms):∃m ns,ms=m::ns/\VR h φ v m/\VRs h φ vs ns:=
 @VRs.casesOn h φ (λws ms _=>∀v vs,ws=v::vs->∃m ns,ms=m::ns/\VR h φ v m/\VRs h φ vs ns) (v::vs) ms x (λ_ _ e=>nomatch e) (λa b v vs e=>by cases e;exact⟨_,_,rfl,a,b⟩) v vs rfl
theorem VRs.inv_vnil{h:Heap}{φ:Phi}{ms:List MV}(x:VRs h φ [] ms):ms=[]:=by
 cases ms with
 |nil=>rfl
 |cons m ms=>obtain⟨_,_,e,_⟩:=x.inv_cons;cases e
noncomputable def z8(φ:Phi):List Addr:=φ.flatMap λp=>p.1::p.2.toList
theorem wS(a b:Phi):z8 (a++b)=z8 a++z8 b:=by simp[z8]
structure Ext(φ φ':Phi)(h h':Heap):Prop where
 pre:φ <+: φ'
 new:∀a∈z8 φ',a∈z8 φ\/h.get? a=none
 keep:∀b o,b∉z8 φ->h.get? b=some o->h'.get? b=some o
theorem Ext.refl(φ:Phi)(h:Heap):Ext φ φ h h:=⟨List.prefix_rfl,λ_ h=>.inl h,λ_ _ _ e=>e⟩
theorem Ext.trans{φ φ' φ'':Phi}{h h' h'':Heap}(x:Ext φ φ' h h')(y:Ext φ' φ'' h' h''):Ext φ φ'' h h'' where
 pre:=x.pre.trans y.pre
 new:=λa ha=>by
  rcases y.new a ha with h1|h1
  ·exact x.new a h1
  ·by_cases hb:a∈z8 φ
   ·exact .inl hb
   ·refine .inr ?_
    cases e:h.get? a with
    |none=>rfl
    |some o=>rw[x.keep a o hb e] at h1;cases h1
 keep:=λb o hb e=>by
  refine y.keep b o (λhc=>?_) (x.keep b o hb e)
  rcases x.new b hc with h1|h1
  ·exact hb h1
  ·rw[h1] at e;cases e
theorem Ext.of_keep{φ:Phi}{h h':Heap}(k:∀b o,h.get? b=some o->h'.get? b=some o):Ext φ φ h h':=
 ⟨List.prefix_rfl,λ_ h=>.inl h,λb o _ e=>k b o e⟩
theorem q8{α:Type}{a b:List α}(h:a <+: b){i:Nat}{x:α}(e:a[i]?=some x):b[i]?=some x:=by
 obtain⟨t,rfl⟩:=h
 have:=(List.getElem?_eq_some_iff.mp e).1
 rw[List.getElem?_append_left this];exact e
noncomputable def yP(o:Obj):Prop:=∀vs n a b t u v,o≠ui vs n/\o≠ta a b t u v
structure sq(φ φ':Phi)(h h':Heap):Prop where
 pre:φ <+: φ'
 keep:∀b o,¬yP o->h.get? b=some o->h'.get? b=some o
theorem qC{vs:List Value}{n:Nat}:¬yP (ui vs n):=λh=>(h vs n 0 0 0 0 0).1 rfl
theorem UY{a b:Int}{t u v:Tok}:¬yP (ta a b t u v):=λh=>(h [] 0 a b t u v).2 rfl
theorem VR.keepI{φ φ':Phi}{h h':Heap}(x:sq φ φ' h h'){v:Value}{m:MV}(r:VR h φ v m):VR h' φ' v m:=
 @VR.rec h φ (λv m _=>VR h' φ' v m) (λvs ms _=>VRs h' φ' vs ms) .none (λb=>.bool b) (λi t=>.int i t) (λs t=>.str s t) (λe _ r=>.tuple (x.keep _ _ qC e) r)
  (λe=>.range (x.keep _ _ UY e)) (λe=>.ref (q8 x.pre e)) (λa=>.frozen a) .nil (λ_ _ a b=>.cons a b) v m r
theorem VRs.walk{φ φ':Phi}{h h':Heap}(hv:∀v m,VR h φ v m->VR h' φ' v m){vs:List Value}{ms:List MV}(r:VRs h φ vs ms):VRs h' φ' vs ms:=
 @VRs.rec h φ (λ_ _ _=>True) (λvs ms _=>VRs h' φ' vs ms) trivial (λ_=>trivial) (λ_ _=>trivial) (λ_ _=>trivial) (λ_ _ _=>trivial) (λ_=>trivial) (λ_=>trivial) (λ_=>trivial)
  .nil (λa _ _ b=>.cons (hv _ _ a) b) vs ms r
theorem VRs.keepI{φ φ':Phi}{h h':Heap}(x:sq φ φ' h h'){vs:List Value}{ms:List MV}(r:VRs h φ vs ms):VRs h' φ' vs ms:=r.walk λ_ _=>VR.keepI x
theorem Ext.keepI{φ φ':Phi}{h h':Heap}(x:Ext φ φ' h h')(hm:∀a∈z8 φ,∀o,h.get? a=some o->yP o):sq φ φ' h h':=⟨x.pre,λb o n e=>x.keep b o (λha=>n (hm b ha o e)) e⟩
theorem VR.keep{φ φ':Phi}{h h':Heap}(x:Ext φ φ' h h')(hm:∀a∈z8 φ,∀o,h.get? a=some o->yP o){v:Value}{m:MV}(r:VR h φ v m):VR h' φ' v m:=r.keepI (x.keepI hm)
theorem VRs.keep{φ φ':Phi}{h h':Heap}(x:Ext φ φ' h h')(hm:∀a∈z8 φ,∀o,h.get? a=some o->yP o){vs:List Value}{ms:List MV}(r:VRs h φ vs ms):VRs h' φ' vs ms:=r.keepI (x.keepI hm)
section
variable {h:Heap}{φ:Phi}{v:Value}{m:MV}{vs ws:List Value}{ms ns:List MV}
theorem VRs.length(x:VRs h φ vs ms):vs.length=ms.length:=by
 induction vs generalizing ms with
 |nil=>cases x;rfl
 |cons v vs ih=>cases x with|cons _ r=>simp[ih r]
theorem VRs.append(x:VRs h φ vs ms)(y:VRs h φ ws ns):VRs h φ (vs++ws) (ms++ns):=by
 induction vs generalizing ms with
 |nil=>cases x;exact y
 |cons v vs ih=>cases x with|cons a r=>exact .cons a (ih r)
theorem VRs.get(x:VRs h φ vs ms){k:Nat}(e:ms[k]?=some m):∃v,vs[k]?=some v/\VR h φ v m:=by
 induction vs generalizing ms k with
 |nil=>cases x;simp at e
 |cons v vs ih=>
  cases x with
  |cons a r=>
   cases k with
   |zero=>simp at e;subst e;exact⟨v,rfl,a⟩
   |succ k=>exact ih r (by simpa using e)
theorem VRs.get'(x:VRs h φ vs ms){k:Nat}(e:vs[k]?=some v):∃m,ms[k]?=some m/\VR h φ v m:=by
 induction vs generalizing ms k with
 |nil=>simp at e
 |cons w vs ih=>
  cases x with
  |cons a r=>
   cases k with
   |zero=>simp at e;subst e;exact⟨_,rfl,a⟩
   |succ k=>exact ih r (by simpa using e)
theorem VRs.set(x:VRs h φ vs ms)(y:VR h φ v m)(k:Nat):VRs h φ (vs.set k v) (ms.set k m):=by
 induction vs generalizing ms k with
 |nil=>cases x;exact .nil
 |cons w vs ih=>
  cases x with
  |cons a r=>
   cases k with
   |zero=>exact .cons y r
   |succ k=>exact .cons a (ih r k)
theorem VRs.take(x:VRs h φ vs ms)(k:Nat):VRs h φ (vs.take k) (ms.take k):=by
 induction vs generalizing ms k with
 |nil=>cases x;simp;exact .nil
 |cons w vs ih=>
  cases x with
  |cons a r=>
   cases k with
   |zero=>exact .nil
   |succ k=>exact .cons a (ih r k)
theorem VRs.drop(x:VRs h φ vs ms)(k:Nat):VRs h φ (vs.drop k) (ms.drop k):=by
 induction vs generalizing ms k with
 |nil=>cases x;simp;exact .nil
 |cons w vs ih=>
  cases x with
  |cons a r=>
   cases k with
   |zero=>exact .cons a r
   |succ k=>exact ih r k
theorem VRs.replicate(y:VR h φ v m)(k:Nat):VRs h φ (List.replicate k v) (List.replicate k m):=by
 induction k with
 |zero=>exact .nil
 |succ k ih=>exact .cons y ih
theorem VRs.one(y:VR h φ v m):VRs h φ [v] [m]:=.cons y .nil
theorem VRs.ints{is:List Int}(x:VRs h φ vs (is.map MV.int)):IntsAre vs is:=by
 induction vs generalizing is with
 |nil=>cases is with
  |nil=>exact .nil
  |cons i is=>cases x
 |cons v vs ih=>cases is with
  |nil=>cases x
  |cons i is=>
   cases x with
   |cons a r=>cases a with|int i t=>exact .cons i t (ih r)
theorem VRs.of_ints{is:List Int}(x:IntsAre vs is):VRs h φ vs (is.map MV.int):=by
 induction x with
 |nil=>exact .nil
 |cons i t _ ih=>exact .cons (.int i t) ih
end
section
variable (prog:Program) (w:World) (K:Frag)
noncomputable def qv(c:Str):Option Addr:=match nsIn K mainGlobals c with
 |some (some (.ref a))=>some a
 |_=>none
inductive EsR(h:Heap)(φ:Phi):List DictEntry->List (Str×MV)->Prop
 |nil:EsR h φ [] []
 |cons {hs:Int}{n:Str}{t:Tok}{v:Value}{m:MV}{es:List DictEntry}{fs:List (Str×MV)}:VR h φ v m->EsR h φ es fs->EsR h φ (⟨hs,.str n t,v⟩::es) ((n,m)::fs)
inductive KvR{α:Type}(h:Heap)(φ:Phi):List (α×Value)->List (α×MV)->Prop
 |nil:KvR h φ [] []
 |cons {k:α}{v:Value}{m:MV}{ks:List (α×Value)}{ms:List (α×MV)}:VR h φ v m->KvR h φ ks ms->KvR h φ ((k,v)::ks) ((k,m)::ms)
inductive OR(h:Heap)(φ:Phi):Addr×Option Addr->MO->Prop
 |list {a:Addr}{vs:List Value}{n:Nat}{ms:List MV}:h.get? a=some (zy vs n)->VRs h φ vs ms->OR h φ (a,none) (.list ms)
 |idict {a:Addr}{ks:List (Int×Value)}{ms:List (Int×MV)}:h.DictOf (intKind prog w) a ks->KvR h φ ks ms->OR h φ (a,none) (.idict ms)
 |sdict {a:Addr}{ks:List (Str×Value)}{ms:List (Str×MV)}:h.DictOf (strKind prog w) a ks->KvR h φ ks ms->OR h φ (a,none) (.sdict ms)
 |set {a:Addr}{is:List Int}:is.Nodup->h.SetOf (intKind prog w) a (λk=>decide (k∈is)) is.length->OR h φ (a,none) (.set is)
 |inst {a d C:Addr}{c:Str}{es:List DictEntry}{n:Nat}{fs:List (Str×MV)}:qv K c=some C->h.get? a=some (instObj C d)->h.get? d=some (dictOf es n)->EsR h φ es fs->OR h φ (a,some d) (.inst c fs)
structure Hp(hB:Heap)(φ:Phi)(mh:MH)(h:Heap):Prop where
 base:∀b o,hB.get? b=some o->h.get? b=some o
 len:φ.length=mh.length
 objs:∀(i:Nat) (o:MO) (p:Addr×Option Addr),mh[i]?=some o->φ[i]?=some p->OR prog w K h φ p o
 nodup:(z8 φ).Nodup
 off:∀a∈z8 φ,hB.get? a=none/\mainGlobals<a
end
section
variable {prog:Program}{w:World}{K:Frag}{hB h h':Heap}{φ φ':Phi}{mh:MH}
noncomputable def inP(p:Addr×Option Addr)(b:Addr):Prop:=b=p.1\/p.2=some b
theorem wf{φ:Phi}{b:Addr}:b∈z8 φ↔∃p∈φ,inP p b:=by
 simp only[z8,List.mem_flatMap,List.mem_cons,Option.mem_toList,inP]
theorem KvR.map{α:Type}{ks:List (α×Value)}{ms:List (α×MV)}(hv:∀v m,VR h φ v m->VR h' φ' v m)(x:KvR h φ ks ms):KvR h' φ' ks ms:=by
 induction x with
 |nil=>exact .nil
 |cons a _ ih=>exact .cons (hv _ _ a) ih
theorem EsR.map{es:List DictEntry}{fs:List (Str×MV)}(hv:∀v m,VR h φ v m->VR h' φ' v m)(x:EsR h φ es fs):EsR h' φ' es fs:=by
 induction x with
 |nil=>exact .nil
 |cons a _ ih=>exact .cons (hv _ _ a) ih
theorem VRs.map(hv:∀v m,VR h φ v m->VR h' φ' v m){vs:List Value}{ms:List MV}(r:VRs h φ vs ms):VRs h' φ' vs ms:=r.walk hv
theorem OR.keep{p:Addr×Option Addr}{o:MO}(x:OR prog w K h φ p o)(hk:∀b ob,inP p b->h.get? b=some ob->h'.get? b=some ob)
  (hv:∀v m,VR h φ v m->VR h' φ' v m):OR prog w K h' φ' p o:=by
 cases x with
 |list e r=>exact .list (hk _ _ (.inl rfl) e) (r.map hv)
 |idict e r=>exact .idict (e.at λo eo=>hk _ _ (.inl rfl) eo) (r.map hv)
 |sdict e r=>exact .sdict (e.at λo eo=>hk _ _ (.inl rfl) eo) (r.map hv)
 |set hn e=>obtain⟨o,es,ep,t,ho,r⟩:=e;exact .set hn ⟨o,es,ep,t,hk _ _ (.inl rfl) ho,r⟩
 |inst hc e1 e2 r=>exact .inst hc (hk _ _ (.inl rfl) e1) (hk _ _ (.inr rfl) e2) (r.map hv)
theorem th{o:Obj}(h1:o.cls≠.type "tuple")(h2:o.cls≠.type "range"):yP o:=by
 intro vs n a b t u v
 exact⟨λe=>h1 (by rw[e];rfl),λe=>h2 (by rw[e];rfl)⟩
noncomputable def ORv(prog:Program)(w:World)(K:Frag)(h:Heap)(φ:Phi)(p:Addr×Option Addr):MO->Prop
 |.list ms=>X2 λvs n=>N3 (p.2=none) (h.get? p.1=some (zy vs n)) (VRs h φ vs ms)
 |.idict ms=>∃ks,N3 (p.2=none) (h.DictOf (intKind prog w) p.1 ks) (KvR h φ ks ms)
 |.sdict ms=>∃ks,N3 (p.2=none) (h.DictOf (strKind prog w) p.1 ks) (KvR h φ ks ms)
 |.set is=>N3 (p.2=none) is.Nodup (h.SetOf (intKind prog w) p.1 (λk=>decide (k∈is)) is.length)
 |.inst cl fs=>X4 λd' C es n=>N5 (p.2=some d') (qv K cl=some C) (h.get? p.1=some (instObj C d')) (h.get? d'=some (dictOf es n)) (EsR h φ es fs)
theorem OR.view{p:Addr×Option Addr}{o:MO}(x:OR prog w K h φ p o):ORv prog w K h φ p o:=
 @OR.casesOn prog w K h φ (λp o _=>ORv prog w K h φ p o) p o x (λe r=>⟨_,_,rfl,e,r⟩) (λe r=>⟨_,rfl,e,r⟩) (λe r=>⟨_,rfl,e,r⟩) (λe r=>⟨rfl,e,r⟩) (λa b c r=>⟨_,_,_,_,rfl,a,b,c,r⟩)
theorem OR.inv_list{a:Addr}{d:Option Addr}{ms:List MV}(x:OR prog w K h φ (a,d) (.list ms)):X2 λvs n=>N3 (d=none) (h.get? a=some (zy vs n)) (VRs h φ vs ms):=x.view
theorem OR.inv_idict{a:Addr}{d:Option Addr}{ms:List (Int×MV)}(x:OR prog w K h φ (a,d) (.idict ms)):∃ks,N3 (d=none) (h.DictOf (intKind prog w) a ks) (KvR h φ ks ms):=x.view
theorem OR.inv_sdict{a:Addr}{d:Option Addr}{ms:List (Str×MV)}(x:OR prog w K h φ (a,d) (.sdict ms)):∃ks,N3 (d=none) (h.DictOf (strKind prog w) a ks) (KvR h φ ks ms):=x.view
theorem OR.inv_inst{a:Addr}{d:Option Addr}{cl:Str}{fs:List (Str×MV)}(x:OR prog w K h φ (a,d) (.inst cl fs)) :
  X4 λd' C es n=>N5 (d=some d') (qv K cl=some C) (h.get? a=some (instObj C d')) (h.get? d'=some (dictOf es n)) (EsR h φ es fs):=x.view
theorem x9{o:Obj}{T:String}(h:o.cls=.type T)(h1:T≠"tuple")(h2:T≠"range"):yP o:=th (λe=>h1 (by rw[h] at e;exact Value.type.inj e)) λe=>h2 (by rw[h] at e;exact Value.type.inj e)
theorem OR.mutD{p:Addr×Option Addr}{o:MO}(x:OR prog w K h φ p o):∃ob,h.get? p.1=some ob/\yP ob:=by
 cases x with
 |list e1 r=>exact⟨_,e1,x9 rfl (by decide) (by decide)⟩
 |idict e1 r=>obtain⟨o,es,ep,ho,hx,_⟩:=e1;exact⟨_,ho,x9 hx.1 (by decide) (by decide)⟩
 |sdict e1 r=>obtain⟨o,es,ep,ho,hx,_⟩:=e1;exact⟨_,ho,x9 hx.1 (by decide) (by decide)⟩
 |set hn e1=>obtain⟨o,es,ep,t,ho,hx,_⟩:=e1;exact⟨_,ho,x9 hx.1 (by decide) (by decide)⟩
 |inst hc e1 e2 r=>exact⟨_,e1,th (λz=>nomatch z) (λz=>nomatch z)⟩
theorem OR.mut2{p:Addr×Option Addr}{o:MO}(x:OR prog w K h φ p o){b:Addr}(hb:p.2=some b):∃ob,h.get? b=some ob/\yP ob:=by
 cases o with
 |inst cl fs=>obtain⟨d,C,es,n,e1,e2,e3,e4,r⟩:=x.view;rw[hb] at e1;cases e1;exact⟨_,e4,x9 rfl (by decide) (by decide)⟩
 |list=>obtain⟨_,_,e,_⟩:=x.view;rw[hb] at e;cases e
 |idict=>obtain⟨_,e,_⟩:=x.view;rw[hb] at e;cases e
 |sdict=>obtain⟨_,e,_⟩:=x.view;rw[hb] at e;cases e
 |set=>obtain⟨e,_⟩:=x.view;rw[hb] at e;cases e
theorem OR.has{p:Addr×Option Addr}{o:MO}(x:OR prog w K h φ p o){b:Addr}(hb:inP p b):∃ob,h.get? b=some ob/\yP ob:=by
 rcases hb with rfl|hb
 ·exact x.mutD
 ·exact x.mut2 hb
theorem Hp.has(x:Hp prog w K hB φ mh h){a:Addr}(ha:a∈z8 φ):∃o,h.get? a=some o/\yP o:=by
 obtain⟨p,hp,hb⟩:=wf.mp ha
 obtain⟨i,hi,rfl⟩:=List.mem_iff_getElem.mp hp
 have hi':i<mh.length:=by rw[<-x.len];exact hi
 exact OR.has (x.objs i mh[i] φ[i] (by simp[hi']) (by simp[hi])) hb
theorem Hp.mut(x:Hp prog w K hB φ mh h):∀a∈z8 φ,∀o,h.get? a=some o->yP o:=by
 intro a ha o e
 obtain⟨o',h1,h2⟩:=x.has ha
 rw[h1] at e;cases e;exact h2
theorem Hp.lt(x:Hp prog w K hB φ mh h):∀a∈z8 φ,a<h.objs.size:=by
 intro a ha
 obtain⟨o,e,_⟩:=x.has ha
 exact Heap.lt_size e
theorem Hp.keep(x:Hp prog w K hB φ mh h)(k:∀b o,h.get? b=some o->h'.get? b=some o):Hp prog w K hB φ mh h' where
 base:=λb o e=>k b o (x.base b o e)
 len:=x.len
 objs:=λi o p e1 e2=>(x.objs i o p e1 e2).keep (λb ob _ e=>k b ob e) λ_ _ r=>r.keep (.of_keep k) x.mut
 nodup:=x.nodup
 off:=x.off
theorem Hp.vr(x:Hp prog w K hB φ mh h)(y:Ext φ φ' h h'){v:Value}{m:MV}(r:VR h φ v m):VR h' φ' v m:=r.keep y x.mut
theorem Hp.vrs(x:Hp prog w K hB φ mh h)(y:Ext φ φ' h h'){v:List Value}{m:List MV}(r:VRs h φ v m):VRs h' φ' v m:=r.keep y x.mut
theorem fresh_none{h:Heap}{a:Addr}(ha:h.objs.size<=a):h.get? a=none:=by
 cases e:h.get? a with
 |none=>rfl
 |some o=>exact absurd (Heap.lt_size e) (Nat.not_lt.mpr ha)
theorem Hp.push(x:Hp prog w K hB φ mh h){p:Addr×Option Addr}{o:MO}(hG:mainGlobals<h.objs.size)(k:∀b o,h.get? b=some o->h'.get? b=some o)
  (hnew:∀b,inP p b->h.objs.size<=b) (hpn:p.2≠some p.1) (ho:∀φ',φ'=φ++[p]->OR prog w K h' φ' p o) :
  Hp prog w K hB (φ++[p]) (mh++[o]) h'/\Ext φ (φ++[p]) h h':=by
 have hadr:z8 (φ++[p])=z8 φ++(p.1::p.2.toList):=by simp[z8]
 have hE:Ext φ (φ++[p]) h h':=by
  refine⟨List.prefix_append _ _,λa ha=>?_,λb o _ e=>k b o e⟩
  rw[hadr] at ha
  rcases List.mem_append.mp ha with h1|h1
  ·exact .inl h1
  ·refine .inr (fresh_none (hnew a ?_))
   rcases List.mem_cons.mp h1 with h2|h2
   ·exact .inl h2
   ·exact .inr (by simpa using h2)
 refine⟨⟨λb o e=>k b o (x.base b o e),by simp[x.len],λi o' p' e1 e2=>?_,?_,λa ha=>?_⟩,hE⟩
 ·by_cases hi:i<mh.length
  ·rw[List.getElem?_append_left hi] at e1
   rw[List.getElem?_append_left (by rw[x.len];exact hi)] at e2
   exact(x.objs i o' p' e1 e2).keep (λb ob _ e=>k b ob e) λ_ _ r=>r.keep hE x.mut
  ·have hi':i=mh.length:=by
    have:=(List.getElem?_eq_some_iff.mp e1).1
    simp at this;exact Nat.eq_of_lt_succ_of_not_lt this hi
   subst hi'
   simp at e1
   rw[<-x.len] at e2
   simp at e2
   subst e1 e2
   exact ho _ rfl
 ·rw[hadr,List.nodup_append]
  refine⟨x.nodup,?_,?_⟩
  ·obtain⟨a,d⟩:=p
   cases d with
   |none=>simp
   |some d=>simp at hpn;simp;exact λe=>hpn e.symm
  ·intro a ha b hb e
   subst e
   have h1:=x.lt a ha
   have h3:h.objs.size<=a:=hnew a (by
    rcases List.mem_cons.mp hb with h2|h2
    ·exact .inl h2
    ·exact .inr (by simpa using h2))
   exact absurd h1 (Nat.not_lt.mpr h3)
 ·rw[hadr] at ha
  rcases List.mem_append.mp ha with h1|h1
  ·exact x.off a h1
  ·have h3:h.objs.size<=a:=hnew a (by
    rcases List.mem_cons.mp h1 with h2|h2
    ·exact .inl h2
    ·exact .inr (by simpa using h2))
   refine⟨?_,Nat.lt_of_lt_of_le hG h3⟩
   cases e:hB.get? a with
   |none=>rfl
   |some o=>exact absurd (Heap.lt_size (x.base a o e)) (Nat.not_lt.mpr h3)
theorem JN{φ:Phi}(hn:(z8 φ).Nodup){i j:Nat}{p q:Addr×Option Addr}(hi:φ[i]?=some p)(hj:φ[j]?=some q){b:Addr}(hp:inP p b)(hq:inP q b):i=j:=by
 induction φ generalizing i j with
 |nil=>simp at hi
 |cons x φ ih=>
  have hadr:z8 (x::φ)=(x.1::x.2.toList)++z8 φ:=by simp[z8]
  rw[hadr,List.nodup_append] at hn
  have memx:∀{y},inP x y->y∈x.1::x.2.toList:=λhy=>by
   rcases hy with h2|h2
   ·subst h2;exact .head _
   ·exact List.mem_cons_of_mem _ (by simpa using h2)
  cases i with
  |zero=>
   cases j with
   |zero=>rfl
   |succ j=>
    simp at hi hj;subst hi
    exact absurd rfl (hn.2.2 b (memx hp) b (wf.mpr ⟨q,List.mem_of_getElem? hj,hq⟩))
  |succ i=>
   cases j with
   |zero=>
    simp at hi hj;subst hj
    exact absurd rfl (hn.2.2 b (memx hq) b (wf.mpr ⟨p,List.mem_of_getElem? hi,hp⟩))
   |succ j=>exact congrArg (· + 1) (ih hn.2.1 (i:=i) (j:=j) (by simpa using hi) (by simpa using hj))
theorem Hp.update(x:Hp prog w K hB φ mh h){r:Nat}{p:Addr×Option Addr}{o:MO}(hp:φ[r]?=some p)
  (k:∀b ob,¬inP p b->h.get? b=some ob->h'.get? b=some ob) (ho:(∀v m,VR h φ v m->VR h' φ v m)->OR prog w K h' φ p o) :
  Hp prog w K hB φ (mh.set r o) h'/\Ext φ φ h h':=by
 have hin:∀b,inP p b->b∈z8 φ:=λb hb=>wf.mpr ⟨p,List.mem_of_getElem? hp,hb⟩
 have hE:Ext φ φ h h':=⟨List.prefix_rfl,λ_ h=>.inl h,λb ob hb e=>k b ob (λq=>hb (hin b q)) e⟩
 have hv:∀v m,VR h φ v m->VR h' φ v m:=λv m r=>r.keep hE x.mut
 refine⟨⟨λb ob e=>k b ob (λq=>?_) (x.base b ob e),by simp[x.len],λi o' p' e1 e2=>?_,x.nodup,x.off⟩,hE⟩
 ·have:=(x.off b (hin b q)).1;rw[e] at this;cases this
 ·by_cases hi:r=i
  ·subst hi
   rw[hp] at e2;cases e2
   have hr:r<mh.length:=by rw[<-x.len];exact(List.getElem?_eq_some_iff.mp hp).1
   rw[List.getElem?_set_self hr] at e1
   cases e1;exact ho hv
  ·rw[List.getElem?_set_ne hi] at e1
   exact(x.objs i o' p' e1 e2).keep (λb ob hb e=>k b ob (λq=>hi (JN x.nodup hp e2 q hb)) e) hv
theorem Hp.deref(x:Hp prog w K hB φ mh h){a:Addr}{r:Nat}{o:MO}(hv:VR h φ (.ref a) (.ref r))(e:mh[r]?=some o):∃d,φ[r]?=some (a,d)/\OR prog w K h φ (a,d) o:=by
 cases hv with
 |@ref _ d _ hr=>exact⟨d,hr,x.objs r o _ e hr⟩
theorem Hp.ref_at(x:Hp prog w K hB φ mh h){v:Value}{r:Nat}{o:MO}(hv:VR h φ v (.ref r))(e:mh[r]?=some o):X2 λa d=>N3 (v=.ref a) (φ[r]?=some (a,d)) (OR prog w K h φ (a,d) o):=by
 obtain⟨a,d,rfl,f⟩:=hv.inv_ref
 exact⟨a,d,rfl,f,x.objs r o _ e f⟩
theorem Hp.list_at(x:Hp prog w K hB φ mh h){v:Value}{r:Nat}{ms:List MV}(hv:VR h φ v (.ref r))(e:mh[r]?=some (.list ms)):X3 λa vs n=>N4 (v=.ref a) (φ[r]?=some (a,none)) (h.get? a=some (zy vs n)) (VRs h φ vs ms):=by
 obtain⟨a,d,rfl,f,o⟩:=x.ref_at hv e
 obtain⟨vs,n,rfl,g,R⟩:=o.inv_list
 exact⟨a,vs,n,rfl,f,g,R⟩
theorem Hp.idict_at(x:Hp prog w K hB φ mh h){v:Value}{r:Nat}{ms:List (Int×MV)}(hv:VR h φ v (.ref r))(e:mh[r]?=some (.idict ms)):X2 λa ks=>N4 (v=.ref a) (φ[r]?=some (a,none)) (h.DictOf (intKind prog w) a ks) (KvR h φ ks ms):=by
 obtain⟨a,d,rfl,f,o⟩:=x.ref_at hv e
 obtain⟨ks,rfl,g,R⟩:=o.inv_idict
 exact⟨a,ks,rfl,f,g,R⟩
theorem Hp.sdict_at(x:Hp prog w K hB φ mh h){v:Value}{r:Nat}{ms:List (Str×MV)}(hv:VR h φ v (.ref r))(e:mh[r]?=some (.sdict ms)):X2 λa ks=>N4 (v=.ref a) (φ[r]?=some (a,none)) (h.DictOf (strKind prog w) a ks) (KvR h φ ks ms):=by
 obtain⟨a,d,rfl,f,o⟩:=x.ref_at hv e
 obtain⟨ks,rfl,g,R⟩:=o.inv_sdict
 exact⟨a,ks,rfl,f,g,R⟩
end
theorem xW{P:List MV->Prop}{l:List MV}(q:P l)(h:∀a r,P (a::r)->False):l=[]:=by
 cases l with
 |nil=>rfl
 |cons a r=>exact(h a r q).elim
theorem MV.is_int{P:MV->Prop}{v:MV}(q:P v)(hnone:P .none->False)(hbool:∀b,P (.bool b)->False)(hstr:∀b,P (.str b)->False)(htuple:∀b,P (.tuple b)->False)(hrange:∀a b,P (.range a b)->False)(href:∀b,P (.ref b)->False)(hfrozen:∀b,P (.frozen b)->False):∃i,v=.int i:=by
 cases v with
 |none=>exact(hnone q).elim
 |bool b=>exact(hbool b q).elim
 |int b=>exact⟨b,rfl⟩
 |str b=>exact(hstr b q).elim
 |tuple b=>exact(htuple b q).elim
 |range a b=>exact(hrange a b q).elim
 |ref b=>exact(href b q).elim
 |frozen b=>exact(hfrozen b q).elim
theorem MV.is_ref{P:MV->Prop}{v:MV}(q:P v)(hnone:P .none->False)(hbool:∀b,P (.bool b)->False)(hint:∀b,P (.int b)->False)(hstr:∀b,P (.str b)->False)(htuple:∀b,P (.tuple b)->False)(hrange:∀a b,P (.range a b)->False)(hfrozen:∀b,P (.frozen b)->False):∃i,v=.ref i:=by
 cases v with
 |none=>exact(hnone q).elim
 |bool b=>exact(hbool b q).elim
 |int b=>exact(hint b q).elim
 |str b=>exact(hstr b q).elim
 |tuple b=>exact(htuple b q).elim
 |range a b=>exact(hrange a b q).elim
 |ref b=>exact⟨b,rfl⟩
 |frozen b=>exact(hfrozen b q).elim
theorem MV.is_src{P:MV->Prop}{v:MV}(q:P v)(hnone:P .none->False)(hbool:∀b,P (.bool b)->False)(hint:∀b,P (.int b)->False)(hstr:∀b,P (.str b)->False)(hfrozen:∀b,P (.frozen b)->False):(∃vs,v=.tuple vs)\/(∃x y,v=.range x y)\/∃i,v=.ref i:=by
 cases v with
 |none=>exact(hnone q).elim
 |bool b=>exact(hbool b q).elim
 |int b=>exact(hint b q).elim
 |str b=>exact(hstr b q).elim
 |tuple b=>exact .inl ⟨b,rfl⟩
 |range a b=>exact .inr (.inl ⟨a,b,rfl⟩)
 |ref b=>exact .inr (.inr ⟨b,rfl⟩)
 |frozen b=>exact(hfrozen b q).elim
theorem zc1{P:List MV->Prop}{l:List MV}(q:P l)(h:P []->False):∃v r,l=v::r:=by
 cases l with
 |nil=>exact(h q).elim
 |cons a r=>exact⟨a,r,rfl⟩
theorem MO.is_seq{P:Option MO->Prop}{o:Option MO}(q:P o)(h0:P none->False)(h2:∀x,P (some (.sdict x))->False)(h3:∀x,P (some (.set x))->False)(h4:∀a x,P (some (.inst a x))->False):(∃ws,o=some (.list ws))\/∃ks,o=some (.idict ks):=by
 cases o with
 |none=>exact(h0 q).elim
 |some x=>cases x with
  |list ws=>exact .inl ⟨ws,rfl⟩
  |idict x=>exact .inr ⟨x,rfl⟩
  |sdict x=>exact(h2 x q).elim
  |set x=>exact(h3 x q).elim
  |inst a x=>exact(h4 a x q).elim
theorem uS{P:List MV->Prop}{l:List MV}(q:P l)(h0:P []->False)(hnone:∀r,P (.none::r)->False)(hbool:∀b r,P (.bool b::r)->False)(hstr:∀b r,P (.str b::r)->False)(htuple:∀b r,P (.tuple b::r)->False)(hrange:∀a b r,P (.range a b::r)->False)(href:∀b r,P (.ref b::r)->False)(hfrozen:∀b r,P (.frozen b::r)->False):∃i r,l=.int i::r:=by
 cases l with
 |nil=>exact(h0 q).elim
 |cons v r=>cases v with
  |none=>exact(hnone  r q).elim
  |bool b=>exact(hbool b r q).elim
  |int b=>exact⟨b,r,rfl⟩
  |str b=>exact(hstr b r q).elim
  |tuple b=>exact(htuple b r q).elim
  |range a b=>exact(hrange a b r q).elim
  |ref b=>exact(href b r q).elim
  |frozen b=>exact(hfrozen b r q).elim
theorem se{P:List MV->Prop}{l:List MV}(q:P l)(h0:P []->False)(hnone:∀r,P (.none::r)->False)(hbool:∀b r,P (.bool b::r)->False)(hint:∀b r,P (.int b::r)->False)(hstr:∀b r,P (.str b::r)->False)(htuple:∀b r,P (.tuple b::r)->False)(hrange:∀a b r,P (.range a b::r)->False)(hfrozen:∀b r,P (.frozen b::r)->False):∃i r,l=.ref i::r:=by
 cases l with
 |nil=>exact(h0 q).elim
 |cons v r=>cases v with
  |none=>exact(hnone  r q).elim
  |bool b=>exact(hbool b r q).elim
  |int b=>exact(hint b r q).elim
  |str b=>exact(hstr b r q).elim
  |tuple b=>exact(htuple b r q).elim
  |range a b=>exact(hrange a b r q).elim
  |ref b=>exact⟨b,r,rfl⟩
  |frozen b=>exact(hfrozen b r q).elim
theorem zh6{P:List MV->Prop}{l:List MV}(q:P l)(h0:P []->False)(hnone:∀r,P (.none::r)->False)(hbool:∀b r,P (.bool b::r)->False)(hint:∀b r,P (.int b::r)->False)(hstr:∀b r,P (.str b::r)->False)(hrange:∀a b r,P (.range a b::r)->False)(hfrozen:∀b r,P (.frozen b::r)->False):(∃vs r,l=.tuple vs::r)\/∃i r,l=.ref i::r:=by
 cases l with
 |nil=>exact(h0 q).elim
 |cons v r=>cases v with
  |none=>exact(hnone  r q).elim
  |bool b=>exact(hbool b r q).elim
  |int b=>exact(hint b r q).elim
  |str b=>exact(hstr b r q).elim
  |tuple b=>exact .inl ⟨b,r,rfl⟩
  |range a b=>exact(hrange a b r q).elim
  |ref b=>exact .inr ⟨b,r,rfl⟩
  |frozen b=>exact(hfrozen b r q).elim
theorem zh7{P:List MV->Prop}{l:List MV}(q:P l)(h0:P []->False)(hnone:∀r,P (.none::r)->False)(hbool:∀b r,P (.bool b::r)->False)(hint:∀b r,P (.int b::r)->False)(hstr:∀b r,P (.str b::r)->False)(htuple:∀b r,P (.tuple b::r)->False)(hfrozen:∀b r,P (.frozen b::r)->False):(∃a b r,l=.range a b::r)\/∃i r,l=.ref i::r:=by
 cases l with
 |nil=>exact(h0 q).elim
 |cons v r=>cases v with
  |none=>exact(hnone  r q).elim
  |bool b=>exact(hbool b r q).elim
  |int b=>exact(hint b r q).elim
  |str b=>exact(hstr b r q).elim
  |tuple b=>exact(htuple b r q).elim
  |range a b=>exact .inl ⟨a,b,r,rfl⟩
  |ref b=>exact .inr ⟨b,r,rfl⟩
  |frozen b=>exact(hfrozen b r q).elim
theorem ze3{P:List MV->Prop}{l:List MV}(q:P l)(h0:P []->False)(hnone:∀r,P (.none::r)->False)(hbool:∀b r,P (.bool b::r)->False)(hint:∀b r,P (.int b::r)->False)(hstr:∀b r,P (.str b::r)->False)(hfrozen:∀b r,P (.frozen b::r)->False):(∃vs r,l=.tuple vs::r)\/(∃a b r,l=.range a b::r)\/∃i r,l=.ref i::r:=by
 cases l with
 |nil=>exact(h0 q).elim
 |cons v r=>cases v with
  |none=>exact(hnone  r q).elim
  |bool b=>exact(hbool b r q).elim
  |int b=>exact(hint b r q).elim
  |str b=>exact(hstr b r q).elim
  |tuple b=>exact .inl ⟨b,r,rfl⟩
  |range a b=>exact .inr (.inl ⟨a,b,r,rfl⟩)
  |ref b=>exact .inr (.inr ⟨b,r,rfl⟩)
  |frozen b=>exact(hfrozen b r q).elim
end Mine.Internal
end
section
namespace Mine.Internal
set_option genInjectivity false in
structure Cx where
 prog:Program
 w:World
 K:Frag
 hB:Heap
 kin:K.In hB
 mg:Str->Option Value
 mb:Str->Option Value
 g:hB.Ns mainGlobals mg
 b:hB.Ns builtinsNs mb
 nolimit:hB.NoLimit
 builtins:∀x:Str,x≠"__name__"->mb x=bootBuiltins x
noncomputable abbrev Cx.Hp(c:Cx):Phi->MH->Heap->Prop:=Internal.Hp c.prog c.w c.K c.hB
noncomputable abbrev Cx.M(c:Cx):Model:=model c.prog c.w
structure xS(A:Around)(d:Nat):Prop where
 handled:A.handled=none
 depth:A.depth+4 * d+4<recursionLimit
 units:A.units+16 * d+400<cLine
theorem xS.in1{A:Around}{d:Nat}(x:xS A (d+1)):xS A.in1 d:=⟨x.handled,by have:=x.depth;show A.depth+4 * d+4<_;exact Nat.lt_of_add_right_lt this,by have:=x.units;show A.units+1+16 * d+400<_;exact rmu (by decide) this⟩
theorem xS.le{A:Around}{d e:Nat}(x:xS A d)(h:e<=d):xS A e:=⟨x.handled,Nat.lt_of_le_of_lt (Nat.add_le_add_right (Nat.add_le_add_left (Nat.mul_le_mul_left _ h) _) _) x.depth,Nat.lt_of_le_of_lt (Nat.add_le_add_right (Nat.add_le_add_left (Nat.mul_le_mul_left _ h) _) _) x.units⟩
theorem xS.deeper{A:Around}{d:Nat}{env:Env}(x:xS A (d+1)):xS (A.deeper env) d:=
 ⟨x.handled,by have:=x.depth;show A.depth+1+4 * d+4<_;exact rmu (by decide) this,by have:=x.units;show A.units+3+16 * d+400<_;exact rmu (by decide) this⟩
structure yz(env:Env)(sc:Scope):Prop where
 scope:env.scope=sc
 kind:sc.kind=.function
 globals:env.globals=mainGlobals
 builtins:env.builtins=builtinsNs
noncomputable def zfu(env:Env)(b:Addr):Prop:=∃x,env.kindOf x=some .cell/\env.cells.lookup x=some b
noncomputable def vF(env:Env)(b:Addr):Prop:=b=env.locals\/zfu env b
structure FrR(c:Cx)(env:Env)(loc:Loc)(φ:Phi)(h:Heap):Prop where
 ns:∃m,h.Ns env.locals m/\∀x v,loc x=some v->env.kindOf x=some .local->∃a,m x=some a/\VR h φ a v
 cells:∀x v,loc x=some v->(env.kindOf x=some .cell\/env.kindOf x=some .free)->∃b a,env.cells.lookup x=some b/\h.IsCell b (some a)/\VR h φ a v
 own:∀x,(env.kindOf x=some .cell\/env.kindOf x=some .free)->(env.cells.lookup x).isSome=true
 are:∀x b,env.cells.lookup x=some b->∃o,h.IsCell b o
 offL:env.locals∉z8 φ
 offC:∀x b,env.cells.lookup x=some b->b∉z8 φ
 inj:∀x y b,env.cells.lookup x=some b->env.cells.lookup y=some b->x=y
 baseL:c.hB.get? env.locals=none
 baseC:∀x b,env.kindOf x=some .cell->env.cells.lookup x=some b->c.hB.get? b=none
theorem qo{h h':Heap}{a:Addr}{m:Str->Option Value}(hn:h.Ns a m)(e:∀o,h.get? a=some o->h'.get? a=some o):h'.Ns a m:=
 let ⟨o,es,ep,x,r⟩:=hn;⟨o,es,ep,e _ x,r⟩
section
variable {c:Cx}{env:Env}{loc:Loc}{φ φ':Phi}{mh:MH}{h h':Heap}
theorem FrR.ext(F:FrR c env loc φ h)(H:c.Hp φ mh h)(x:Ext φ φ' h h'):FrR c env loc φ' h':=by
 obtain⟨⟨m,hn,hl⟩,hc,ho,ha,f1,f2,f3,f4,f5⟩:=F
 have hlt:env.locals<h.objs.size:=hn.lt
 refine⟨⟨m,qo hn λo e=>x.keep _ o f1 e,λy v e k=>?_⟩,λy v e k=>?_,ho,λy b e=>?_,λhq=>?_,λy b e hq=>?_,f3,f4,f5⟩
 ·obtain⟨a,e1,r⟩:=hl y v e k
  exact⟨a,e1,H.vr x r⟩
 ·obtain⟨b,a,e1,⟨o,eo,ed⟩,r⟩:=hc y v e k
  exact⟨b,a,e1,⟨o,x.keep _ o (f2 y b e1) eo,ed⟩,H.vr x r⟩
 ·obtain⟨o,ob,eo,ed⟩:=ha y b e
  exact⟨o,ob,x.keep _ ob (f2 y b e) eo,ed⟩
 ·rcases x.new _ hq with h1|h1
  ·exact f1 h1
  ·obtain⟨oo,_,_,e,_⟩:=hn;rw[h1] at e;cases e
 ·rcases x.new _ hq with h1|h1
  ·exact f2 y b e h1
  ·obtain⟨o,ob,eo,ed⟩:=ha y b e
   rw[h1] at eo;cases eo
end
noncomputable def Out(c:Cx)(φ:Phi)(s:Shared)(Q:MV->MH->Prop)(P:Value->Shared->Prop):Prop:=
 ∀v mv φ' mh' h' tk,Q mv mh'->Ext φ φ' s.heap h'->c.Hp φ' mh' h'->VR h' φ' v mv->P v { s with heap:=h',toks:=tk }
noncomputable abbrev ME:=Loc->(MV->MH->Prop)->MH->Prop
noncomputable def SE(c:Cx)(sc:Scope)(d:Nat)(e:Expr)(m:ME):Prop:=
 ∀(A:Around) (env:Env) (loc:Loc) (φ:Phi) (mh:MH) (s:Shared) (Q:MV->MH->Prop) (P:Value->Shared->Prop) (E:Value->Shared->Prop),
  xS A d->yz env sc->c.Hp φ mh s.heap->FrR c env loc φ s.heap->m loc Q mh->Out c φ s Q P->wpAny c.M A (eval e env) P E s
theorem Out.trans{c:Cx}{φ φ':Phi}{s:Shared}{h':Heap}{tk:Nat}{Q:MV->MH->Prop}{P:Value->Shared->Prop}(o:Out c φ s Q P)(x:Ext φ φ' s.heap h') :
  Out c φ' { s with heap:=h',toks:=tk } Q P:=λv mv φ'' mh'' h'' tk' q e H r=>o v mv φ'' mh'' h'' tk' q (x.trans e) H r
theorem Out.same{c:Cx}{φ:Phi}{mh:MH}{s:Shared}{Q:MV->MH->Prop}{P:Value->Shared->Prop}(o:Out c φ s Q P)(H:c.Hp φ mh s.heap){v:Value}{mv:MV}{tk:Nat}(q:Q mv mh)
  (r:VR s.heap φ v mv):P v { s with toks:=tk }:=o v mv φ mh s.heap tk q (.refl _ _) H r
theorem Out.same'{c:Cx}{φ:Phi}{mh:MH}{s:Shared}{Q:MV->MH->Prop}{P:Value->Shared->Prop}(o:Out c φ s Q P)(H:c.Hp φ mh s.heap){v:Value}{mv:MV}(q:Q mv mh)
  (r:VR s.heap φ v mv):P v s:=o v mv φ mh s.heap s.toks q (.refl _ _) H r
section
variable {c:Cx}{sc:Scope}{d:Nat}
noncomputable abbrev zc(v:MV):ME:=λ_ Q mh=>Q v mh
theorem zs{i:Int}{k:Nat}{pos:Pos}:SE c sc d (.Constant (.int i) k pos) (zc (.int i)):=
 λA env loc φ mh s Q P E hr he H F q o=>wpAny_Constant_int (o.same H q (.int _ _))
theorem yv{x:Str}{k:Nat}{pos:Pos}:SE c sc d (.Constant (.str x) k pos) (zc (.str x)):=
 λA env loc φ mh s Q P E hr he H F q o=>Constant_str (o.same H q (.str _ _))
theorem uz{k:Nat}{pos:Pos}:SE c sc d (.Constant .none k pos) (zc .none):=
 λA env loc φ mh s Q P E hr he H F q o=>wpAny_pure (o.same' H q .none)
theorem ye{b:Bool}{k:Nat}{pos:Pos}:SE c sc d (.Constant (.bool b) k pos) (zc (.bool b)):=
 λA env loc φ mh s Q P E hr he H F q o=>wpAny_pure (o.same' H q (.bool _))
noncomputable def za(x:Str):ME:=λloc Q mh=>∃v,loc x=some v/\Q v mh
theorem ql{x:Str}{pos:Pos}(hk:sc.names.lookup x=some .local)(hd:(x == ("__debug__" : Str))=false):SE c sc d (.Name x pos) (za x):=
 λA env loc φ mh s Q P E hr he H F q o=>by
  obtain⟨v,hv,q⟩:=q
  obtain⟨m,hn,hl⟩:=F.ns
  have hk':env.kindOf x=some .local:=by unfold Env.kindOf;rw[he.scope];exact hk
  obtain⟨a,e1,r⟩:=hl x v hv hk'
  exact wpAny_Name (wpAny_loadName_local (by rw[he.scope];exact he.kind) hk' hn e1 (o.same' H q r)) hd
theorem XZ{x:Str}{pos:Pos}(hk:sc.names.lookup x=some .cell)(hd:(x == ("__debug__" : Str))=false):SE c sc d (.Name x pos) (za x):=
 λA env loc φ mh s Q P E hr he H F q o=>by
  obtain⟨v,hv,q⟩:=q
  have hk':env.kindOf x=some .cell:=by unfold Env.kindOf;rw[he.scope];exact hk
  obtain⟨b,a,e1,e2,r⟩:=F.cells x v hv (.inl hk')
  exact wpAny_Name (wpAny_loadName_cell (by rw[he.scope];exact he.kind) hk' e1 e2 (o.same' H q r)) hd
theorem two{l r:Expr}{ml mr:ME}(hl:SE c sc d l ml)(hr:SE c sc d r mr){A:Around}{env:Env}{loc:Loc}{φ:Phi}{mh:MH}{s:Shared}{Q2:MV->MV->MH->Prop}{P:Value->Value->Shared->Prop}{E:Value->Shared->Prop}
  (hroom:xS A d) (he:yz env sc) (H:c.Hp φ mh s.heap) (F:FrR c env loc φ s.heap) (q:ml loc (λa mh=>mr loc (λb mh=>Q2 a b mh) mh) mh)
  (o:∀a b ma mb φ' mh' h' tk,Q2 ma mb mh'->Ext φ φ' s.heap h'->c.Hp φ' mh' h'->VR h' φ' a ma->VR h' φ' b mb->P a b { s with heap:=h',toks:=tk }) :
  wpAny c.M A (eval l env) (λa s₁=>wpAny c.M A (eval r env) (λb s₂=>P a b s₂) E s₁) E s:=by
 refine hl A env loc φ mh s _ _ E hroom he H F q λa ma φ1 mh1 h1 tk1 q1 x1 H1 r1=>?_
 refine hr A env loc φ1 mh1 _ _ _ E hroom he H1 (F.ext H x1) q1 λb mb φ2 mh2 h2 tk2 q2 x2 H2 r2=>?_
 exact o a b ma mb φ2 mh2 h2 tk2 q2 (x1.trans x2) H2 (H1.vr x2 r1) r2
noncomputable abbrev MOp:=MV->MV->(MV->MH->Prop)->MH->Prop
noncomputable def OpS(c:Cx)(d:Nat)(op:Operator)(f:MOp):Prop:=
 ∀(A:Around) (φ:Phi) (mh:MH) (s:Shared) (Q:MV->MH->Prop) (P:Value->Shared->Prop) (E:Value->Shared->Prop) (a b:Value) (ma mb:MV),
  xS A d->c.Hp φ mh s.heap->VR s.heap φ a ma->VR s.heap φ b mb->f ma mb Q mh->Out c φ s Q P->wpAny c.M A (binaryOp op a b) P E s
noncomputable abbrev xZ(f:MOp)(ml mr:ME):ME:=λloc Q mh=>ml loc (λa mh=>mr loc (λb mh=>f a b Q mh) mh) mh
theorem yf{l r:Expr}{op:Operator}{pos:Pos}{ml mr:ME}{f:MOp}(hf:OpS c d op f)(hl:SE c sc d l ml)(hr:SE c sc d r mr):SE c sc d (.BinOp l op r pos) (xZ f ml mr):=
 λA env loc φ mh s Q P E hroom he H F q o=>wpAny_BinOp (two hl hr hroom he H F q λa b ma mb φ' mh' h' tk q' x H' ra rb=>hf A φ' mh' _ Q P E a b ma mb hroom H' ra rb q' (o.trans x))
noncomputable def BIG:Nat:=100000
theorem yj{n:Nat}(h:n<=BIG):n<=sizeLine:=by rw[sizeLine_eq];unfold BIG at h;exact ltk
noncomputable abbrev uo:MOp:=λa b Q mh=>match a,b with
 |.int x,.int y=>Q (.int (x+y)) mh
 |.tuple x,.tuple y=>x.length+y.length<=BIG/\Q (.tuple (x++y)) mh
 |.ref r,.ref t=>∃x y,mh[r]?=some (.list x)/\mh[t]?=some (.list y)/\x.length+y.length<=BIG/\Q (.ref mh.length) (mh++[.list (x++y)])
 |_,_=>False
noncomputable abbrev YS:MOp:=λa b Q mh=>match a,b with
 |.int x,.int y=>Q (.int (x-y)) mh
 |_,_=>False
noncomputable def z7(x:Int):Prop:=-1000000000<=x/\x<=1000000000
noncomputable def JS:MOp:=λa b Q mh=>match a,b with
 |.int x,.int y=>z7 x/\z7 y/\Q (.int (x * y)) mh
 |.ref r,.int y=>∃v,mh[r]?=some (.list [v])/\0<=y/\y<=BIG/\Q (.ref mh.length) (mh++[.list (List.replicate y.toNat v)])
 |_,_=>False
noncomputable def Wt:MOp:=λa b Q mh=>match a,b with
 |.int x,.int y=>0<y/\Q (.int (x % y)) mh
 |_,_=>False
noncomputable def zca:MOp:=λa b Q mh=>match a,b with
 |.int x,.int y=>0<y/\z7 x/\z7 y/\Q (.int (x / y)) mh
 |_,_=>False
theorem Hp.glob{φ:Phi}{mh:MH}{h:Heap}(H:c.Hp φ mh h):mainGlobals<h.objs.size:=by
 obtain⟨o,_,_,e,_⟩:=c.g
 exact Heap.lt_size (H.base _ _ e)
theorem Hp.pushList{φ:Phi}{mh:MH}{h h':Heap}{a:Addr}{vs:List Value}{n:Nat}{ms:List MV}(H:c.Hp φ mh h)(k:∀b o,h.get? b=some o->h'.get? b=some o)
  (ha:h.objs.size<=a) (e:h'.get? a=some (zy vs n)) (r:VRs h φ vs ms) :
  c.Hp (φ++[(a,none)]) (mh++[.list ms]) h'/\Ext φ (φ++[(a,none)]) h h'/\VR h' (φ++[(a,none)]) (.ref a) (.ref mh.length):=by
 have hE:Ext φ (φ++[(a,none)]) h h':=⟨List.prefix_append _ _,λb hb=>by
  rw[wS] at hb
  rcases List.mem_append.mp hb with h1|h1
  ·exact .inl h1
  ·simp[z8] at h1;subst h1;exact .inr (fresh_none ha),λb o _ e=>k b o e⟩
 obtain⟨h1,h2⟩:=H.push (p:=(a,none)) (o:=.list ms) H.glob k (λb hb=>by
  rcases hb with rfl|hb
  ·exact ha
  ·cases hb) (by simp) (λφ' e'=>by subst e';exact .list e (H.vrs hE r))
 exact⟨h1,h2,.ref (d:=none) (by rw[<-H.len];simp)⟩
end
section
variable {c:Cx}{sc:Scope}{d:Nat}
theorem z4{h:Heap}(o:Obj):∀b ob,h.get? b=some ob->(h.push o).get? b=some ob:=λb ob=>Heap.get?_push_of_some _
theorem Out.newList{φ:Phi}{mh:MH}{s:Shared}{Q:MV->MH->Prop}{P:Value->Shared->Prop}{vs:List Value}{ms:List MV}{tk:Nat}(o:Out c φ s Q P)(H:c.Hp φ mh s.heap)(r:VRs s.heap φ vs ms)
  (q:Q (.ref mh.length) (mh++[.list ms])):P (.ref s.heap.objs.size) { s with heap:=s.heap.push { cls:=.type "list",data:=.seq vs.toArray },toks:=tk }:=by
 obtain⟨h1,h2,h3⟩:=Hp.pushList (h':=s.heap.push { cls:=.type "list",data:=.seq vs.toArray }) (n:=0) H (z4 _) (Nat.le_refl _) (Heap.get?_push_size _ rfl) r
 exact o _ _ _ _ _ tk q h2 h1 h3
theorem Out.newTuple{φ:Phi}{mh:MH}{s:Shared}{Q:MV->MH->Prop}{P:Value->Shared->Prop}{vs:List Value}{ms:List MV}{tk:Nat}(o:Out c φ s Q P)(H:c.Hp φ mh s.heap)(r:VRs s.heap φ vs ms)
  (q:Q (.tuple ms) mh):P (.ref s.heap.objs.size) { s with heap:=s.heap.push { cls:=.type "tuple",data:=.seq vs.toArray },toks:=tk }:=by
 have hE:=Ext.of_keep (φ:=φ) (z4 (h:=s.heap) (ui vs 0))
 exact o _ _ φ mh _ tk q hE (H.keep (z4 _)) (.tuple (Heap.get?_push_size _ rfl) (H.vrs hE r))
theorem q9:OpS c d .Sub YS:=λA φ mh s Q P E a b ma mb hroom H ra rb q o=>by
 obtain⟨x,rfl⟩:=MV.is_int (P:=λv=>YS v mb Q mh) q id (λ_=>id) (λ_=>id) (λ_=>id) (λ_ _=>id) (λ_=>id) (λ_=>id)
 obtain⟨y,rfl⟩:=MV.is_int (P:=λv=>YS (.int x) v Q mh) q id (λ_=>id) (λ_=>id) (λ_=>id) (λ_ _=>id) (λ_=>id) (λ_=>id)
 obtain⟨t,rfl⟩:=ra.inv_int
 obtain⟨u,rfl⟩:=rb.inv_int
 exact sub_int (o.same H q (.int _ _))
theorem Ye:OpS c d .Mod Wt:=λA φ mh s Q P E a b ma mb hroom H ra rb q o=>by
 obtain⟨x,rfl⟩:=MV.is_int (P:=λv=>Wt v mb Q mh) q id (λ_=>id) (λ_=>id) (λ_=>id) (λ_ _=>id) (λ_=>id) (λ_=>id)
 obtain⟨y,rfl⟩:=MV.is_int (P:=λv=>Wt (.int x) v Q mh) q id (λ_=>id) (λ_=>id) (λ_=>id) (λ_ _=>id) (λ_=>id) (λ_=>id)
 obtain⟨t,rfl⟩:=ra.inv_int
 obtain⟨u,rfl⟩:=rb.inv_int
 obtain⟨hb,q⟩:=q
 refine mod_int' (Ne.symm (Int.ne_of_lt hb)) ?_
 rw[Int.fmod_eq_emod_of_nonneg _ (Int.le_of_lt hb)]
 exact o.same H q (.int _ _)
theorem zi3:OpS c d .FloorDiv zca:=λA φ mh s Q P E a b ma mb hroom H ra rb q o=>by
 obtain⟨x,rfl⟩:=MV.is_int (P:=λv=>zca v mb Q mh) q id (λ_=>id) (λ_=>id) (λ_=>id) (λ_ _=>id) (λ_=>id) (λ_=>id)
 obtain⟨y,rfl⟩:=MV.is_int (P:=λv=>zca (.int x) v Q mh) q id (λ_=>id) (λ_=>id) (λ_=>id) (λ_ _=>id) (λ_=>id) (λ_=>id)
 obtain⟨t,rfl⟩:=ra.inv_int
 obtain⟨u,rfl⟩:=rb.inv_int
 obtain⟨hb,⟨h1,h2⟩,⟨h3,h4⟩,q⟩:=q
 refine floordiv_int (Ne.symm (Int.ne_of_lt hb)) ?_ (Or.inl (PyProof.noPylong_small (by omega)))
 rw[Int.fdiv_eq_ediv_of_nonneg _ (Int.le_of_lt hb)]
 exact o.same H q (.int _ _)
theorem zcb{a b:MV}{Q:MV->MH->Prop}{mh:MH}(q:uo a b Q mh):(∃x y,a=.int x/\b=.int y)\/(∃x y,a=.tuple x/\b=.tuple y)\/∃x y,a=.ref x/\b=.ref y:=by
 cases a with
 |int x=>cases b with
  |int y=>exact .inl ⟨x,y,rfl,rfl⟩
  |_=>exact False.elim q
 |tuple x=>cases b with
  |tuple y=>exact .inr (.inl ⟨x,y,rfl,rfl⟩)
  |_=>exact False.elim q
 |ref x=>cases b with
  |ref y=>exact .inr (.inr ⟨x,y,rfl,rfl⟩)
  |_=>exact False.elim q
 |_=>exact False.elim q
theorem xr:OpS c d .Add uo:=λA φ mh s Q P E a b ma mb hroom H ra rb q o=>by
 rcases zcb q with⟨_,_,rfl,rfl⟩|⟨ms,ms2,rfl,rfl⟩|⟨_,_,rfl,rfl⟩
 ·obtain⟨t,rfl⟩:=ra.inv_int
  obtain⟨u,rfl⟩:=rb.inv_int
  exact add_int (o.same H q (.int _ _))
 ·obtain⟨a,vs,n,rfl,e,r⟩:=ra.inv_tuple
  obtain⟨a2,vs2,n2,rfl,e2,r2⟩:=rb.inv_tuple
  obtain⟨hl,q⟩:=q
  have hsz:vs.length+vs2.length<=sizeLine:=yj (by rw[r.length,r2.length];exact hl)
  by_cases hv:vs=[]
  ·have hm:ms=[]:=by subst hv;exact List.eq_nil_of_length_eq_zero r.length.symm
   subst hm
   exact concat_meets ⟨_,e,rfl⟩ ⟨_,e2,rfl⟩ noFill_tuple_add seq_tuple_add PySem.F.slot_tuple_add PySem.F.entry_tuple_add (PySem.F.args_tuple_add_2 _ _)
    (tuple_addW0 a a2 vs.toArray vs2.toArray n n2 none none #[] #[] (by simp[hv])) ⟨e,e2,o.same' H q (.tuple e2 r2)⟩
  ·by_cases hw:vs2=[]
   ·have hm:ms2=[]:=by subst hw;exact List.eq_nil_of_length_eq_zero r2.length.symm
    subst hm
    rw[List.append_nil] at q
    exact concat_meets ⟨_,e,rfl⟩ ⟨_,e2,rfl⟩ noFill_tuple_add seq_tuple_add PySem.F.slot_tuple_add PySem.F.entry_tuple_add (PySem.F.args_tuple_add_2 _ _)
     (tuple_addW1 a a2 vs.toArray vs2.toArray n n2 none none #[] #[] (by simpa using hv) (by simp[hw])) ⟨e,e2,o.same' H q (.tuple e r)⟩
   ·refine concat_meets ⟨_,e,rfl⟩ ⟨_,e2,rfl⟩ noFill_tuple_add seq_tuple_add PySem.F.slot_tuple_add PySem.F.entry_tuple_add (PySem.F.args_tuple_add_2 _ _)
     (tuple_addW2 a a2 vs.toArray vs2.toArray n n2 none none #[] #[] (by simpa using hv) (by simpa using hw) (by rw[List.size_toArray,List.size_toArray];exact hsz)) ⟨e,e2,?_⟩
    rw[show vs.toArray++vs2.toArray=(vs++vs2).toArray by simp]
    exact o.newTuple H (r.append r2) q
 ·obtain⟨x,y,m1,m2,hl,q⟩:=q
  obtain⟨a1,vs,n,rfl,f1,g1,s1⟩:=H.list_at ra m1
  obtain⟨a2,ws,n2,rfl,f2,g2,s2⟩:=H.list_at rb m2
  refine concat_meets ⟨_,g1,rfl⟩ ⟨_,g2,rfl⟩ noFill_list_add seq_list_add PySem.F.slot_list_add PySem.F.entry_list_add (PySem.F.args_list_add_2 _ _) (list_addW a1 a2 vs.toArray ws.toArray n n2 none none #[] #[] (by
   rw[List.size_toArray,List.size_toArray,s1.length,s2.length];exact yj hl)) ⟨g1,g2,?_⟩
  rw[show vs.toArray++ws.toArray=(vs++ws).toArray by simp]
  exact o.newList H (s1.append s2) q
theorem zfp(x:Value)(k:Nat):List.foldl (λx1 x2=>x1++x2) #[] (List.replicate (if ([x].toArray.isEmpty=true) then 0 else k) [x].toArray)=(List.replicate k x).toArray:=by
 have:∀(k:Nat) (acc:Array Value),List.foldl (λx1 x2=>x1++x2) acc (List.replicate k [x].toArray)=acc++(List.replicate k x).toArray:=by
  intro k
  induction k with
  |zero=>intro acc;simp
  |succ k ih=>intro acc;rw[List.replicate_succ,List.foldl_cons,ih,List.replicate_succ];apply Array.toList_inj.mp;simp
 simp only[List.isEmpty_toArray,List.isEmpty_cons,Bool.false_eq_true,if_false]
 rw[this];simp
theorem zb7{a b:MV}{Q:MV->MH->Prop}{mh:MH}(q:JS a b Q mh):∃y,b=.int y/\((∃x,a=.int x)\/∃x,a=.ref x):=by
 cases a with
 |int x=>cases b with
  |int y=>exact⟨y,rfl,.inl ⟨x,rfl⟩⟩
  |_=>exact False.elim q
 |ref x=>cases b with
  |int y=>exact⟨y,rfl,.inr ⟨x,rfl⟩⟩
  |_=>exact False.elim q
 |_=>exact False.elim q
theorem zbx:OpS c d .Mult JS:=λA φ mh s Q P E a b ma mb hroom H ra rb q o=>by
 obtain⟨i,rfl,⟨x,rfl⟩|⟨x,rfl⟩⟩:=zb7 q
 ·obtain⟨t,rfl⟩:=ra.inv_int
  obtain⟨u,rfl⟩:=rb.inv_int
  obtain⟨⟨a1,a2⟩,⟨a3,a4⟩,q⟩:=q
  exact mul_int (o.same H q (.int _ _)) (by mul_fits)
 ·obtain⟨v,m1,h0,h1,q⟩:=q
  obtain⟨t,rfl⟩:=rb.inv_int
  obtain⟨a1,vs,n,rfl,e1,g1,s1⟩:=H.list_at ra m1
  obtain⟨x,ws,rfl,rx,s1⟩:=s1.inv_cons
  cases s1.inv_nil
  have hb:i.toNat<=BIG:=(λ{m}{n}=>Int.toNat_le.mpr) h1
  have hb2:=yj hb
  rw[sizeLine_eq] at hb2
  unfold BIG at h1 hb
  refine wpAny_binaryOp_repeat_ref (T:="list") (U:="int") (by decide) ⟨_,g1,rfl⟩ (λs'=>typeIs_int s' i t) noFill_list_mul PySem.F.fills_int_mul PySem.F.slot_int_rmul repeat_list PySem.F.slot_int_index.lookup
   (call_meets PySem.F.slot_int_rmul (typeIs_int s i t) PySem.F.entry_int_rmul (PySem.F.args_int_rmul_2 _ _) (int___rmul___int_list i t a1 [x].toArray n)
    ⟨g1,rfl,⟨_,g1,rfl⟩,call_meets PySem.F.slot_list_mul ⟨_,g1,rfl⟩ PySem.F.entry_list_mul (PySem.F.args_list_mul_2 _ _)
     (AutoListH.list___mul___list_int_3 a1 [x].toArray n i t (by simp[Builtin.List.listFitsIndex];lia) (by simp;exact Int.le_trans (by assumption) (by decide)) (by simp[Builtin.List.listTooLong,sizeLine];exact Int.le_trans (by assumption) (by decide)))
     ⟨g1,?_⟩⟩)
  rw[zfp]
  exact o.newList H (VRs.replicate rx _) q
end
mutual
inductive DR(mh:MH):MV->Dat->Prop
 |none:DR mh .none .none
 |int (i:Int):DR mh (.int i) (.int i)
 |str (x:Str):DR mh (.str x) (.str x)
 |tuple {vs:List MV}{ds:List Dat}:DRs mh vs ds->DR mh (.tuple vs) (.tuple ds)
 |list {r:Nat}{vs:List MV}{ds:List Dat}:mh[r]?=some (.list vs)->DRs mh vs ds->DR mh (.ref r) (.list ds)
inductive DRs(mh:MH):List MV->List Dat->Prop
 |nil:DRs mh [] []
 |cons {v:MV}{vs:List MV}{d:Dat}{ds:List Dat}:DR mh v d->DRs mh vs ds->DRs mh (v::vs) (d::ds)
end
section
variable {c:Cx}{sc:Scope}{d:Nat}{φ:Phi}{mh:MH}{h:Heap}
noncomputable def RdP(h:Heap)(φ:Phi)(m:MV)(e:Dat):Prop:=∀n,kqdOk n e=true->∀v,VR h φ v m->∃as,Reads h v (kqdP e) as
noncomputable def K9(h:Heap)(φ:Phi)(ms:List MV)(es:List Dat):Prop:=∀n,(∀e∈es,kqdOk n e=true)->∀vs,VRs h φ vs ms->∃as,ReadsAll h vs (kqdPs es) as
theorem zbu:K9 h φ [] []:=λn _ vs r=>by rw[r.inv_nil];exact⟨_,ReadsAll.nil⟩
theorem KS{m:MV}{e:Dat}{ms:List MV}{es:List Dat}(x:RdP h φ m e)(y:K9 h φ ms es):K9 h φ (m::ms) (e::es):=λn hk vs r=>by
 obtain⟨v,ws,rfl,rv,rs⟩:=r.inv_cons
 obtain⟨as,q⟩:=x n (hk _ (.head _)) _ rv
 obtain⟨bs,p⟩:=y n (λd hm=>hk d (.tail _ hm)) _ rs
 rw[kqdPs]
 exact⟨_,ReadsAll.cons q p⟩
theorem zjf{n:Nat}{ds:List Dat}(hk:kqdOk n (.tuple ds)=true):∃k,∀e∈ds,kqdOk k e=true:=by
 cases n with
 |zero=>simp[kqdOk] at hk
 |succ k=>exact⟨k,by simpa[kqdOk] using hk⟩
theorem zf8{n:Nat}{ds:List Dat}(hk:kqdOk n (.list ds)=true):∃k,∀e∈ds,kqdOk k e=true:=by
 cases n with
 |zero=>simp[kqdOk] at hk
 |succ k=>exact⟨k,by simpa[kqdOk] using hk⟩
theorem V6{ms:List MV}{es:List Dat}(y:K9 h φ ms es):RdP h φ (.tuple ms) (.tuple es):=λn hk v r=>by
 obtain⟨k,hk⟩:=zjf hk
 obtain⟨a,vs,l,rfl,e,rs⟩:=r.inv_tuple
 obtain⟨as,q⟩:=y k hk _ rs
 rw[kqdP]
 exact⟨as,reads_tuple_at e rfl rfl (by simpa using q)⟩
theorem KR(H:c.Hp φ mh h){r:Nat}{ms:List MV}{es:List Dat}(e:mh[r]?=some (.list ms))(y:K9 h φ ms es):RdP h φ (.ref r) (.list es):=λn hk v x=>by
 obtain⟨k,hk⟩:=zf8 hk
 obtain⟨a,d,rfl,f⟩:=x.inv_ref
 obtain⟨ws,n,rfl,e',r⟩:=(H.objs _ _ _ e f).inv_list
 obtain⟨as,q⟩:=y k hk _ r
 rw[kqdP]
 exact⟨_,reads_list_at e' rfl rfl (by simpa[zy] using q)⟩
theorem KQ:RdP h φ .none .none:=λn _ v r=>by rw[r.inv_none];exact⟨_,Reads.none⟩
theorem zbv(i:Int):RdP h φ (.int i) (.int i):=λn _ v r=>by obtain⟨t,rfl⟩:=r.inv_int;exact⟨_,Reads.int i t⟩
theorem zbt(i:Str):RdP h φ (.str i) (.str i):=λn _ v r=>by obtain⟨t,rfl⟩:=r.inv_str;exact⟨_,Reads.str i t⟩
theorem Yb(H:c.Hp φ mh h)(n:Nat){m:MV}{e:Dat}(D:DR mh m e)(hk:kqdOk n e=true){v:Value}(r:VR h φ v m):∃as,Reads h v (kqdP e) as:=
 DR.rec (motive_1:=λm e _=>RdP h φ m e) (motive_2:=λms es _=>K9 h φ ms es) KQ zbv zbt (λ_ y=>V6 y) (λe _ y=>KR H e y) zbu (λ_ _ x y=>KS x y) D n hk v r
theorem V5(H:c.Hp φ mh h)(n:Nat){ms:List MV}{es:List Dat}(D:DRs mh ms es)(hk:∀e∈es,kqdOk n e=true){vs:List Value}(r:VRs h φ vs ms):∃as,ReadsAll h vs (kqdPs es) as:=
 DRs.rec (motive_1:=λm e _=>RdP h φ m e) (motive_2:=λms es _=>K9 h φ ms es) KQ zbv zbt (λ_ y=>V6 y) (λe _ y=>KR H e y) zbu (λ_ _ x y=>KS x y) D n hk vs r
end
open Classical in
noncomputable def eqM(a b:MV)(Q:Bool->Prop)(mh:MH):Prop:=match a,b with
 |.int x,.int y=>Q (decide (x=y))
 |.str x,.str y=>Q (decide (x=y))
 |.bool x,.bool y=>Q (x == y)
 |a,b=>∃da db,DR mh a da/\DR mh b db/\kqdOk 8 da=true/\kqdOk 8 db=true/\Q (decide (da=db))
noncomputable abbrev ZA:MV->Bool
 |.none=>true
 |_=>false
noncomputable def isM(a b:MV)(Q:Bool->Prop):Prop:=match b with
 |.none=>Q (ZA a)
 |.bool y=>(match a with|.bool x=>Q (x == y)|_=>False)
 |_=>False
open Classical in
noncomputable def Ua(o:Option MO)(a:MV)(Q:Bool->Prop)(mh:MH):Prop:=match o with
 |some (.list vs)=>(match a with
   |.int k=>∃is:List Int,vs=is.map .int/\Q (decide (k∈is))
   |a=>∃da ds,DR mh a da/\DRs mh vs ds/\kqdOk 8 da=true/\(∀e∈ds,kqdOk 8 e=true)/\Q (decide (da∈ds)))
 |some (.idict kvs)=>(match a with
   |.int k=>Q (kvs.any λkv=>kv.1=k)
   |_=>False)
 |_=>False
noncomputable def inM(a b:MV)(Q:Bool->Prop)(mh:MH):Prop:=match b with
 |.ref r=>Ua mh[r]? a Q mh
 |_=>False
noncomputable abbrev UR(f:Int->Int->Bool)(a b:MV)(Q:Bool->Prop):Prop:=match a,b with
 |.int x,.int y=>Q (f x y)
 |_,_=>False
noncomputable abbrev zdr(op:CmpOp)(a b:MV)(Q:Bool->Prop)(mh:MH):Prop:=match op with
 |.Eq=>eqM a b Q mh
 |.NotEq=>eqM a b (λx=>Q (!x)) mh
 |.Lt=>UR (λx y=>decide (x<y)) a b Q
 |.LtE=>UR (λx y=>decide (x<=y)) a b Q
 |.Gt=>UR (λx y=>decide (y<x)) a b Q
 |.GtE=>UR (λx y=>decide (y<=x)) a b Q
 |.Is=>isM a b Q
 |.IsNot=>isM a b (λx=>Q (!x))
 |.In=>inM a b Q mh
 |.NotIn=>inM a b (λx=>Q (!x)) mh
section
variable {c:Cx}{sc:Scope}{d:Nat}{φ:Phi}{mh:MH}{h:Heap}{A:Around}{s:Shared}{P:Value->Shared->Prop}{E:Value->Shared->Prop}{a b:Value}{ma mb:MV}
theorem tg{e:Dat}(hk:kqdOk 8 e=true):SeqAt.shaped (kqdP e)=true:=by
 have l:=kqd_lay 8 e hk
 unfold SeqAt.shaped;rw[l.1,Bool.true_and];exact decide_eq_true (Nat.le_trans l.2 (by decide))
open Classical in
theorem Ja{e f:Dat}(he:kqdOk 8 e=true)(hf:kqdOk 8 f=true):PyData.eqv (kqdP e) (kqdP f)=decide (e=f):=by
 have q:=kqd_eqv 8 e f 8 he hf
 by_cases hq:e=f
 ·rw[decide_eq_true hq];exact q.mpr hq
 ·rw[decide_eq_false hq];exact Bool.eq_false_iff.mpr λx=>hq (q.mp x)
open Classical in
theorem U0{op:CmpOp}{neg:Bool}(hop:(op=.Eq/\neg=false)\/(op=.NotEq/\neg=true))(hu:A.units+400<cLine)(H:c.Hp φ mh s.heap)(ra:VR s.heap φ a ma)(rb:VR s.heap φ b mb)
  {da db:Dat}(Da:DR mh ma da) (Db:DR mh mb db) (ka:kqdOk 8 da=true) (kb:kqdOk 8 db=true) (q:P (.bool (neg ^^ decide (da=db))) s):wpAny c.M A (compareOp op a b) P E s:=by
 obtain⟨as,xa⟩:=Yb H 8 Da ka ra
 obtain⟨bs,xb⟩:=Yb H 8 Db kb rb
 rcases hop with⟨rfl,rfl⟩|⟨rfl,rfl⟩
 ·refine eq_dataH xa xb (tg ka) (tg kb) (by lia) ?_
  rw[Ja ka kb];simpa using q
 ·refine ne_dataH xa xb (tg ka) (tg kb) (by lia) ?_
  rw[Ja ka kb];simpa using q
theorem Wm{r:Addr}(H:c.Hp φ mh h)(hr:r∈z8 φ):(r == sysModules)=false:=by
 have h1:=(H.off r hr).2
 by_cases e:r=sysModules
 ·exfalso
  rw[e] at h1
  exact absurd h1 (by decide)
 ·simpa using e
theorem ZG{α:Type}[BEq α][LawfulBEq α][DecidableEq α](x y:α):(x == y)=decide (x=y):=by by_cases h:x=y<;>simp[h]
theorem VF(h:wpAny c.M A (compareOp .In a b) (λv s'=>∀x,v=.bool x->P (.bool (!x)) s') E s):wpAny c.M A (compareOp .NotIn a b) P E s:=by
 intro Γ p hΓ
 have h1:=h Γ p hΓ
 have h2:Sem.wp c.M Γ (contains b a >>= λx=>pure (Value.bool x)) (λv _ s'=>∀x,v=.bool x->P (.bool (!x)) s') (λe _ s'=>E e s') p s:=h1
 show Sem.wp c.M Γ (contains b a >>= λx=>pure (Value.bool (!x))) _ _ p s
 rw[Sem.wp_bind'] at h2 ⊢
 exact Sem.wp_mono c.M Γ _ (λx p' s' z=>z x rfl) (λ_ _ _ z=>z) p s h2
theorem VV(h:wpAny c.M A (compareOp .Is a b) (λv s'=>∀x,v=.bool x->P (.bool (!x)) s') E s):wpAny c.M A (compareOp .IsNot a b) P E s:=by
 intro Γ p hΓ
 have h1:=h Γ p hΓ
 have h2:Sem.wp c.M Γ (isSame a b >>= λx=>pure (Value.bool x)) (λv _ s'=>∀x,v=.bool x->P (.bool (!x)) s') (λe _ s'=>E e s') p s:=h1
 show Sem.wp c.M Γ (isSame a b >>= λx=>pure (Value.bool (!x))) _ _ p s
 rw[Sem.wp_bind'] at h2 ⊢
 exact Sem.wp_mono c.M Γ _ (λx p' s' z=>z x rfl) (λ_ _ _ z=>z) p s h2
theorem KvR.keys{α:Type}{ks:List (α×Value)}{ms:List (α×MV)}(x:KvR h φ ks ms):ks.map (·.1)=ms.map (·.1):=by
 induction x with
 |nil=>rfl
 |cons _ _ ih=>simp[ih]
theorem ZN{α:Type}[DecidableEq α](ks:List (α×Value))(k:α):(valueAt ks k).isSome=ks.any λkv=>kv.1=k:=by
 unfold valueAt
 rw[Option.isSome_map]
 induction ks with
 |nil=>rfl
 |cons x ks ih=>by_cases h:x.1=k<;>simp[List.find?_cons,h,ih]
open Classical in
theorem zl3(is:List Int)(k:Int):(is.any (· == k))=decide (k∈is):=by
 by_cases hk:k∈is
 ·rw[decide_eq_true hk];exact List.any_eq_true.mpr ⟨k,hk,by simp⟩
 ·rw[decide_eq_false hk];exact Bool.eq_false_iff.mpr λz=>by
   obtain⟨x,hx,hx'⟩:=List.any_eq_true.mp z
   simp at hx';subst hx';exact hk hx
open Classical in
theorem zgf{r:Nat}{vs:List MV}{da:Dat}{ds:List Dat}(hu:A.units+400<cLine)(H:c.Hp φ mh s.heap)(ra:VR s.heap φ a ma)(rb:VR s.heap φ b (.ref r))(e1:mh[r]?=some (.list vs))
  (D1:DR mh ma da) (D2:DRs mh vs ds) (k1:kqdOk 8 da=true) (k2:∀e∈ds,kqdOk 8 e=true) (q:P (.bool (decide (da∈ds))) s):wpAny c.M A (compareOp .In a b) P E s:=by
 obtain⟨a1,ws,n,rfl,f1,g2,r2⟩:=H.list_at rb e1
 obtain⟨as,xa⟩:=Yb H 8 D1 k1 ra
 obtain⟨bs,xb⟩:=V5 H 8 D2 k2 r2
 have l:=kqd_layL k2
 have ld:=kqd_lay 8 da k1
 have e:((kqdPs ds).any λy=>PyData.eqv y (kqdP da))=decide (da∈ds):=by
  by_cases hq:da∈ds
  ·rw[decide_eq_true hq];exact(kqd_any ds da k2 k1).mpr hq
  ·rw[decide_eq_false hq];exact Bool.eq_false_iff.mpr λz=>hq ((kqd_any ds da k2 k1).mp z)
 refine SeqAt.in_list_reads (reads_list_at g2 rfl rfl (by simpa[zy] using xb)) xa l.1 ld.1 ?_ (by rw[e];exact q)
 have:=Nat.min_le_right (PyData.depthAll (kqdPs ds)) (kqdP da).depth
 rw[Nat.add_assoc];exact Nat.lt_of_le_of_lt (Nat.add_le_add_left (Nat.le_trans (Nat.add_le_add_left (Nat.le_trans this ld.2) 1) (by decide)) _) hu
theorem zgd{r:Nat}{is:List Int}{k:Int}(H:c.Hp φ mh s.heap)(ra:VR s.heap φ a (.int k))(rb:VR s.heap φ b (.ref r))(e1:mh[r]?=some (.list (is.map .int)))
  (q:P (.bool (decide (k∈is))) s):wpAny c.M A (compareOp .In a b) P E s:=by
 obtain⟨a1,ws,n,rfl,f1,g2,r2⟩:=H.list_at rb e1
 obtain⟨t,rfl⟩:=ra.inv_int
 refine in_list_ints (vs:=ws) (ns:=is) ⟨_,g2,rfl,n,rfl⟩ r2.ints ?_
 rw[zl3];exact q
theorem zge{r:Nat}{kvs:List (Int×MV)}{k:Int}(H:c.Hp φ mh s.heap)(ra:VR s.heap φ a (.int k))(rb:VR s.heap φ b (.ref r))(e1:mh[r]?=some (.idict kvs))
  (q:∀tk,P (.bool (kvs.any λkv=>kv.1=k)) { s with toks:=tk }):wpAny c.M A (compareOp .In a b) P E s:=by
 obtain⟨a1,ks,rfl,f1,D,R⟩:=H.idict_at rb e1
 obtain⟨t,rfl⟩:=ra.inv_int
 have hin:a1∈z8 φ:=wf.mpr ⟨_,List.mem_of_getElem? f1,.inl rfl⟩
 refine wpAny_in_of (knd:=intKind c.prog c.w) (k:=k) (by simp[intKind,Value.isInt]) (Wm H hin) D.mapOf ?_
 rw[ZN]
 have e:(ks.any λkv=>decide (kv.1=k))=kvs.any λkv=>decide (kv.1=k):=by
  have h1:∀{β:Type}(l:List (Int×β)),(l.any λkv=>decide (kv.1=k))=(l.map (·.1)).any λy=>decide (y=k):=λl=>by simp[List.any_map,Function.comp_def]
  rw[h1,h1,R.keys]
 rw[e];exact q _
open Classical in
theorem zgg{vs:List MV}{Q:Bool->Prop}(q:Ua (some (.list vs)) ma Q mh):(∃k,ma=.int k)\/∃da ds,N5 (DR mh ma da) (DRs mh vs ds) (kqdOk 8 da=true) (∀e∈ds,kqdOk 8 e=true) (Q (decide (da∈ds))):=by
 by_cases h:∃k,ma=.int k
 ·exact .inl h
 ·have z:∃da ds,DR mh ma da/\DRs mh vs ds/\kqdOk 8 da=true/\(∀e∈ds,kqdOk 8 e=true)/\Q (decide (da∈ds)):=by
   cases ma with
   |int k=>exact(h ⟨k,rfl⟩).elim
   |_=>exact q
  obtain⟨da,ds,D1,D2,k1,k2,q⟩:=z
  exact .inr ⟨da,ds,D1,D2,k1,k2,q⟩
theorem VZ{Q:Bool->Prop}(hu:A.units+400<cLine)(H:c.Hp φ mh s.heap)(ra:VR s.heap φ a ma)(rb:VR s.heap φ b mb)(q:inM ma mb Q mh)
  (o:∀x tk,Q x->P (.bool x) { s with toks:=tk }):wpAny c.M A (compareOp .In a b) P E s:=by
 obtain⟨r,rfl⟩:=MV.is_ref (P:=λv=>inM ma v Q mh) q id (λ_=>id) (λ_=>id) (λ_=>id) (λ_=>id) (λ_ _=>id) (λ_=>id)
 rcases MO.is_seq (P:=λo=>Ua o ma Q mh) q id (λ_=>id) (λ_=>id) (λ_ _=>id) with⟨vs,e1⟩|⟨kvs,e1⟩
 ·have q':Ua mh[r]? ma Q mh:=q
  rw[e1] at q'
  rcases zgg q' with⟨k,rfl⟩|⟨da,ds,D1,D2,k1,k2,q'⟩
  ·obtain⟨is,rfl,q'⟩:=q'
   exact zgd H ra rb e1 (o _ s.toks q')
  ·exact zgf hu H ra rb e1 D1 D2 k1 k2 (o _ s.toks q')
 ·have q':Ua mh[r]? ma Q mh:=q
  rw[e1] at q'
  obtain⟨k,rfl⟩:=MV.is_int (P:=λv=>Ua (some (.idict kvs)) v Q mh) q' id (λ_=>id) (λ_=>id) (λ_=>id) (λ_ _=>id) (λ_=>id) (λ_=>id)
  exact zge H ra rb e1 λtk=>o _ tk q'
theorem zct(ra:VR h φ a ma):(a == Value.none)=ZA ma:=
 @VR.casesOn h φ (λv m _=>(v == Value.none)=ZA m) a ma ra rfl (λ_=>rfl) (λ_ _=>rfl) (λ_ _=>rfl) (λ_ _=>rfl) (λ_=>rfl) (λ_=>rfl) (λ_=>rfl)
theorem zgc{Q:Bool->Prop}(q:isM ma mb Q):(mb=.none/\Q (ZA ma))\/∃x y,ma=.bool x/\mb=.bool y/\Q (x == y):=by
 cases mb with
 |none=>exact .inl ⟨rfl,q⟩
 |bool y=>cases ma with
  |bool x=>exact .inr ⟨_,_,rfl,rfl,q⟩
  |_=>exact False.elim q
 |_=>exact False.elim q
theorem VW{Q:Bool->Prop}(ra:VR s.heap φ a ma)(rb:VR s.heap φ b mb)(q:isM ma mb Q)(o:∀x tk,Q x->P (.bool x) { s with toks:=tk }):wpAny c.M A (compareOp .Is a b) P E s:=by
 rcases zgc q with⟨rfl,z⟩|⟨x,y,rfl,rfl,z⟩
 ·rw[rb.inv_none]
  refine PySem.is_none ?_
  rw[zct ra];exact o _ s.toks z
 ·rw[ra.inv_bool,rb.inv_bool]
  exact is_bool (o _ s.toks z)
theorem je{f:Int->Int->Bool}{Q:Bool->Prop}(ra:VR h φ a ma)(rb:VR h φ b mb)(q:UR f ma mb Q):∃x y t u,a=.int x t/\b=.int y u/\Q (f x y):=by
 obtain⟨x,rfl⟩:=MV.is_int (P:=λv=>UR f v mb Q) q id (λ_=>id) (λ_=>id) (λ_=>id) (λ_ _=>id) (λ_=>id) (λ_=>id)
 obtain⟨y,rfl⟩:=MV.is_int (P:=λv=>UR f (.int x) v Q) q id (λ_=>id) (λ_=>id) (λ_=>id) (λ_ _=>id) (λ_=>id) (λ_=>id)
 obtain⟨t,rfl⟩:=ra.inv_int
 obtain⟨u,rfl⟩:=rb.inv_int
 exact⟨_,_,t,u,rfl,rfl,q⟩
open Classical in
noncomputable def eqD(ma mb:MV)(Q:Bool->Prop)(mh:MH):Prop:=∃da db,DR mh ma da/\DR mh mb db/\kqdOk 8 da=true/\kqdOk 8 db=true/\Q (decide (da=db))
inductive Jy:MV->MV->Prop
 |int (x y:Int):Jy (.int x) (.int y)
 |str (x y:Str):Jy (.str x) (.str y)
 |bool (x y:Bool):Jy (.bool x) (.bool y)
theorem zde(ma mb:MV):Jy ma mb\/∀(Q:Bool->Prop) mh,eqM ma mb Q mh=eqD ma mb Q mh:=by
 cases ma with
 |int x=>cases mb with
  |int y=>exact .inl (.int x y)
  |_=>exact .inr λ_ _=>rfl
 |str x=>cases mb with
  |str y=>exact .inl (.str x y)
  |_=>exact .inr λ_ _=>rfl
 |bool x=>cases mb with
  |bool y=>exact .inl (.bool x y)
  |_=>exact .inr λ_ _=>rfl
 |_=>exact .inr λ_ _=>rfl
theorem Up{op:CmpOp}{neg:Bool}(hop:(op=.Eq/\neg=false)\/(op=.NotEq/\neg=true))(hu:A.units+400<cLine)(H:c.Hp φ mh s.heap)(ra:VR s.heap φ a ma)(rb:VR s.heap φ b mb)
  (q:eqM ma mb (λx=>P (.bool (neg ^^ x)) s) mh):wpAny c.M A (compareOp op a b) P E s:=by
 rcases zde ma mb with z|z
 ·cases z with
  |int x y=>
   obtain⟨t,rfl⟩:=ra.inv_int
   obtain⟨u,rfl⟩:=rb.inv_int
   replace q:P (.bool (neg ^^ decide (x=y))) s:=q
   rcases hop with⟨rfl,rfl⟩|⟨rfl,rfl⟩
   ·exact PyProof.Rows.eq_int (by simpa[ZG] using q)
   ·exact PyProof.Rows.ne_int (by simpa[bne,ZG] using q)
  |str x y=>
   obtain⟨t,rfl⟩:=ra.inv_str
   obtain⟨u,rfl⟩:=rb.inv_str
   replace q:P (.bool (neg ^^ decide (x=y))) s:=q
   rcases hop with⟨rfl,rfl⟩|⟨rfl,rfl⟩
   ·exact PyProof.Rows.eq_str (by simpa[ZG] using q)
   ·exact PyProof.Rows.ne_str (by simpa[bne,ZG] using q)
  |bool x y=>
   rw[ra.inv_bool,rb.inv_bool]
   replace q:P (.bool (neg ^^ (x == y))) s:=q
   rcases hop with⟨rfl,rfl⟩|⟨rfl,rfl⟩
   ·exact PyProof.Rows.eq_bool (by simpa using q)
   ·exact ne_bool (by simpa[bne] using q)
 ·rw[z] at q
  obtain⟨da,db,Da,Db,ka,kb,q⟩:=q
  exact U0 hop hu H ra rb Da Db ka kb q
theorem Uq{Q Q':Bool->Prop}(f:∀x,Q x->Q' x)(q:eqM ma mb Q mh):eqM ma mb Q' mh:=by
 rcases zde ma mb with z|z
 ·cases z<;>exact f _ q
 ·rw[z] at q ⊢
  obtain⟨da,db,Da,Db,ka,kb,q⟩:=q
  exact⟨da,db,Da,Db,ka,kb,f _ q⟩
theorem sG{op:CmpOp}{Q:Bool->Prop}(hu:A.units+400<cLine)(H:c.Hp φ mh s.heap)(ra:VR s.heap φ a ma)(rb:VR s.heap φ b mb)(q:zdr op ma mb Q mh)
  (o:∀x tk,Q x->P (.bool x) { s with toks:=tk }):wpAny c.M A (compareOp op a b) P E s:=by
 have o':∀x,Q x->P (.bool x) s:=λx hx=>o x s.toks hx
 cases op with
 |Eq=>exact Up (.inl ⟨rfl,rfl⟩) hu H ra rb (Uq (λx z=>by simpa using o' _ z) q)
 |NotEq=>exact Up (.inr ⟨rfl,rfl⟩) hu H ra rb (Uq (λx z=>by simpa using o' _ z) q)
 |Lt=>obtain⟨x,y,t,u,rfl,rfl,q⟩:=je ra rb q;exact PyProof.Rows.lt_int (o' _ q)
 |LtE=>obtain⟨x,y,t,u,rfl,rfl,q⟩:=je ra rb q;exact PyProof.Rows.le_int (o' _ q)
 |Gt=>obtain⟨x,y,t,u,rfl,rfl,q⟩:=je ra rb q;exact PyProof.Rows.gt_int (o' _ q)
 |GtE=>obtain⟨x,y,t,u,rfl,rfl,q⟩:=je ra rb q;exact PyProof.Rows.ge_int (o' _ q)
 |Is=>exact VW ra rb q o
 |IsNot=>exact VV (VW ra rb q λx tk hx y hy=>by cases hy;exact o _ tk hx)
 |In=>exact VZ hu H ra rb q o
 |NotIn=>exact VF (VZ hu H ra rb q λx tk hx y hy=>by cases hy;exact o _ tk hx)
end
end Mine.Internal
end
section
namespace Mine.Internal
noncomputable abbrev MT:=Loc->(Bool->MH->Prop)->MH->Prop
noncomputable def KA(c:Cx)(φ:Phi)(s:Shared)(Q:Bool->MH->Prop)(P:Bool->Shared->Prop):Prop:=
 ∀b φ' mh' h' tk,Q b mh'->Ext φ φ' s.heap h'->c.Hp φ' mh' h'->P b { s with heap:=h',toks:=tk }
noncomputable def ST(c:Cx)(sc:Scope)(d:Nat)(e:Expr)(m:MT):Prop:=
 ∀(A:Around) (env:Env) (loc:Loc) (φ:Phi) (mh:MH) (s:Shared) (Q:Bool->MH->Prop) (P:Bool->Shared->Prop) (E:Value->Shared->Prop),
  xS A d->yz env sc->c.Hp φ mh s.heap->FrR c env loc φ s.heap->m loc Q mh->KA c φ s Q P->wpAny c.M A (isTrue e env (eval e env)) P E s
theorem KA.trans{c:Cx}{φ φ':Phi}{s:Shared}{h':Heap}{tk:Nat}{Q:Bool->MH->Prop}{P:Bool->Shared->Prop}(o:KA c φ s Q P)(x:Ext φ φ' s.heap h') :
  KA c φ' { s with heap:=h',toks:=tk } Q P:=λv φ'' mh'' h'' tk' q e H=>o v φ'' mh'' h'' tk' q (x.trans e) H
section
variable {c:Cx}{sc:Scope}{d:Nat}
noncomputable abbrev Jr(Q:Bool->MH->Prop):MV->MH->Prop:=λv mh=>match v with
 |.bool b=>Q b mh
 |_=>False
noncomputable abbrev sZ(m:ME):MT:=λloc Q mh=>m loc (Jr Q) mh
theorem wx{e:Expr}{m:ME}(hm:SE c sc d e m)(he':∀env whole,isTrue e env whole=(do let v <-whole;standAt e.pos;holding [v] (truthy v))):ST c sc d e (sZ m):=
 λA env loc φ mh s Q P E hr he H F q o=>by
  refine wpAny_isTrue_value ?_ (he' _ _)
  refine hm A env loc φ mh s _ _ E hr he H F q λv mv φ' mh' h' tk q' x H' r=>?_
  cases r<;>try exact q'.elim
  exact wpAny_truthy_bool (o _ φ' mh' h' tk q' x H')
noncomputable abbrev Zu(m:MT):MT:=λloc Q mh=>m loc (λb=>Q (!b)) mh
theorem uA{e:Expr}{m:MT}{pos:Pos}(hm:ST c sc d e m):ST c sc d (.UnaryOp .Not e pos) (Zu m):=
 λA env loc φ mh s Q P E hr he H F q o=>wpAny_isTrue_Not (hm A env loc φ mh s _ _ E hr he H F q λv φ' mh' h' tk q' x H'=>o _ φ' mh' h' tk q' x H')
inductive STs(c:Cx)(sc:Scope)(d:Nat):List Expr->List MT->Prop
 |nil:STs c sc d [] []
 |cons {e:Expr}{m:MT}{es:List Expr}{ms:List MT}:ST c sc d e m->STs c sc d es ms->STs c sc d (e::es) (m::ms)
noncomputable def j1:List MT->MT
 |[]=>λ_ Q mh=>Q true mh
 |m::ms=>λloc Q mh=>m loc (λb mh=>if b=true then j1 ms loc Q mh else Q false mh) mh
noncomputable def tOr:List MT->MT
 |[]=>λ_ Q mh=>Q false mh
 |m::ms=>λloc Q mh=>m loc (λb mh=>if b=true then Q true mh else tOr ms loc Q mh) mh
theorem zh9{es:List Expr}{ms:List MT}(hm:STs c sc d es ms):∀{A:Around}{env:Env}{loc:Loc}{φ:Phi}{mh:MH}{s:Shared}{Q:Bool->MH->Prop}{P:Bool->Shared->Prop}{E:Value->Shared->Prop},
  xS A d->yz env sc->c.Hp φ mh s.heap->FrR c env loc φ s.heap->j1 ms loc Q mh->KA c φ s Q P->wpAny c.M A (allTrue .And es env) P E s:=by
 induction hm with
 |nil=>intro A env loc φ mh s Q P E hr he H F q o;exact wpAny_allTrue_And_nil (o true φ mh s.heap s.toks q (.refl _ _) H)
 |cons h1 _ ih=>
  intro A env loc φ mh s Q P E hr he H F q o
  refine wpAny_allTrue_And_cons (h1 A env loc φ mh s _ _ E hr he H F q λb φ' mh' h' tk q' x H'=>?_)
  cases b with
  |true=>simp only[if_true] at q' ⊢;exact ih hr he H' (F.ext H x) q' (o.trans x)
  |false=>simp only[Bool.false_eq_true,if_false] at q' ⊢;exact o _ φ' mh' h' tk q' x H'
theorem zl4{es:List Expr}{ms:List MT}(hm:STs c sc d es ms):∀{A:Around}{env:Env}{loc:Loc}{φ:Phi}{mh:MH}{s:Shared}{Q:Bool->MH->Prop}{P:Bool->Shared->Prop}{E:Value->Shared->Prop},
  xS A d->yz env sc->c.Hp φ mh s.heap->FrR c env loc φ s.heap->tOr ms loc Q mh->KA c φ s Q P->wpAny c.M A (allTrue .Or es env) P E s:=by
 induction hm with
 |nil=>intro A env loc φ mh s Q P E hr he H F q o;exact wpAny_allTrue_Or_nil (o false φ mh s.heap s.toks q (.refl _ _) H)
 |cons h1 _ ih=>
  intro A env loc φ mh s Q P E hr he H F q o
  refine wpAny_allTrue_Or_cons (h1 A env loc φ mh s _ _ E hr he H F q λb φ' mh' h' tk q' x H'=>?_)
  cases b with
  |false=>simp only[Bool.false_eq_true,if_false] at q' ⊢;exact ih hr he H' (F.ext H x) q' (o.trans x)
  |true=>simp only[if_true] at q' ⊢;exact o _ φ' mh' h' tk q' x H'
theorem ZS{es:List Expr}{ms:List MT}{pos:Pos}(hm:STs c sc d es ms):ST c sc d (.BoolOp .And es pos) (j1 ms):=
 λA env loc φ mh s Q P E hr he H F q o=>wpAny_isTrue_BoolOp (zh9 hm hr he H F q o)
theorem Xk{es:List Expr}{ms:List MT}{pos:Pos}(hm:STs c sc d es ms):ST c sc d (.BoolOp .Or es pos) (tOr ms):=
 λA env loc φ mh s Q P E hr he H F q o=>wpAny_isTrue_BoolOp (zl4 hm hr he H F q o)
noncomputable abbrev yC(op:CmpOp)(ml mr:ME):MT:=λloc Q mh=>ml loc (λa mh=>mr loc (λb mh=>zdr op a b (λx=>Q x mh) mh) mh) mh
theorem zF{l r:Expr}{op:CmpOp}{pos:Pos}{ml mr:ME}(hm:behindInMarks op r=false)(hl:SE c sc d l ml)(hr:SE c sc d r mr):ST c sc d (.Compare l [op] [r] pos) (yC op ml mr):=
 λA env loc φ mh s Q P E hroom he H F q o=>wpAny_isTrue_Compare1 (two hl hr hroom he H F q λa b ma mb φ' mh' h' tk q' x H' ra rb=>by
  refine sG (by have:=hroom.units;omega) H' ra rb q' λy tk2 hy=>?_
  exact wpAny_truthy_bool (o _ φ' mh' h' tk2 hy x H')) hm
noncomputable abbrev qc(op:CmpOp)(ml mr:ME):ME:=λloc Q mh=>ml loc (λa mh=>mr loc (λb mh=>zdr op a b (λx=>Q (.bool x) mh) mh) mh) mh
theorem wC{l r:Expr}{op:CmpOp}{pos:Pos}{ml mr:ME}(hm:behindInMarks op r=false)(hl:SE c sc d l ml)(hr:SE c sc d r mr):SE c sc d (.Compare l [op] [r] pos) (qc op ml mr):=
 λA env loc φ mh s Q P E hroom he H F q o=>wpAny_Compare1 (two hl hr hroom he H F q λa b ma mb φ' mh' h' tk q' x H' ra rb=>by
  refine sG (by have:=hroom.units;omega) H' ra rb q' λy tk2 hy=>?_
  exact o _ _ φ' mh' h' tk2 hy x H' (.bool _)) hm
noncomputable abbrev zie(op1 op2:CmpOp)(ml m1 m2:ME):MT:=λloc Q mh=>ml loc (λa mh=>m1 loc (λb mh=>zdr op1 a b (λx=>if x=true then m2 loc (λe mh=>zdr op2 b e (λy=>Q y mh) mh) mh else Q false mh) mh) mh) mh
theorem zfc{l r1 r2:Expr}{op1 op2:CmpOp}{pos:Pos}{ml m1 m2:ME}(hm2:behindInMarks op2 r2=false)(hl:SE c sc d l ml)(h1:SE c sc d r1 m1)(h2:SE c sc d r2 m2) :
  ST c sc d (.Compare l [op1,op2] [r1,r2] pos) (zie op1 op2 ml m1 m2):=
 λA env loc φ mh s Q P E hroom he H F q o=>by
  show wpAny c.M A (do testChain pos (<-eval l env) [op1,op2] (markedEach [op1,op2] [r1,r2] (evalEach [r1,r2] env))) P E s
  have em:markedEach [op1,op2] [r1,r2] (evalEach [r1,r2] env)=[eval r1 env,eval r2 env]:=by
   show[eval r1 env,markedBehindIn op2 r2 (eval r2 env)]=_
   rw[markedBehindIn_of_false hm2]
  rw[em]
  refine wpAny_bind (hl A env loc φ mh s _ _ E hroom he H F q λa ma φ1 mh1 g1 tk1 q1 x1 H1 ra=>?_)
  refine test_link (h1 A env loc φ1 mh1 _ _ _ E hroom he H1 (F.ext H x1) q1 λb mb φ2 mh2 g2 tk2 q2 x2 H2 rb=>?_)
  refine sG (by have:=hroom.units;omega) H2 (H1.vr x2 ra) rb q2 λy tk3 hy=>?_
  refine wpAny_truthy_bool ?_
  cases y with
  |false=>simp only[Bool.false_eq_true,if_false] at hy ⊢;exact o _ φ2 mh2 g2 tk3 hy (x1.trans x2) H2
  |true=>
   simp only[if_true] at hy ⊢
   refine test_last (h2 A env loc φ2 mh2 _ _ _ E hroom he H2 ((F.ext H x1).ext H1 x2) hy λe me φ3 mh3 g3 tk4 q3 x3 H3 re=>?_)
   refine sG (by have:=hroom.units;omega) H3 (H2.vr x3 rb) re q3 λy tk5 hy=>?_
   exact wpAny_truthy_bool (o _ φ3 mh3 g3 tk5 hy ((x1.trans x2).trans x3) H3)
noncomputable abbrev mIf(t:MT)(m1 m2:ME):ME:=λloc Q mh=>t loc (λb mh=>if b=true then m1 loc Q mh else m2 loc Q mh) mh
theorem KL{t a b:Expr}{pos:Pos}{mt:MT}{m1 m2:ME}(ht:ST c sc d t mt)(ha:SE c sc d a m1)(hb:SE c sc d b m2):SE c sc d (.IfExp t a b pos) (mIf mt m1 m2):=
 λA env loc φ mh s Q P E hr he H F q o=>wpAny_IfExp (ht A env loc φ mh s _ _ E hr he H F q λy φ' mh' h' tk q' x H'=>by
  cases y with
  |true=>simp only[if_true] at q' ⊢;exact ha A env loc φ' mh' _ _ _ E hr he H' (F.ext H x) q' (o.trans x)
  |false=>simp only[Bool.false_eq_true,if_false] at q' ⊢;exact hb A env loc φ' mh' _ _ _ E hr he H' (F.ext H x) q' (o.trans x))
noncomputable abbrev Ws(m:ME):ME:=λloc Q mh=>m loc (λv mh=>match v with|.int b=>Q (.int (-b)) mh|_=>False) mh
theorem tD{e:Expr}{m:ME}{pos:Pos}(hm:SE c sc d e m):SE c sc d (.UnaryOp .USub e pos) (Ws m):=
 λA env loc φ mh s Q P E hr he H F q o=>wpAny_UnaryOp (hm A env loc φ mh s _ _ E hr he H F q λv mv φ' mh' h' tk q' x H' r=>by
  cases r<;>try exact q'.elim
  exact PyProof.Rows.neg_int (o _ _ φ' mh' h' (tk+1) q' x H' (.int _ _)))
inductive SEs(c:Cx)(sc:Scope)(d:Nat):List Expr->List ME->Prop
 |nil:SEs c sc d [] []
 |cons {e:Expr}{m:ME}{es:List Expr}{ms:List ME}:SE c sc d e m->SEs c sc d es ms->(∀env,starEach (e::es) env=(false,eval e env)::starEach es env)->SEs c sc d (e::es) (m::ms)
noncomputable def wJ:List ME->Loc->(List MV->MH->Prop)->MH->Prop
 |[],_,Q,mh=>Q [] mh
 |m::ms,loc,Q,mh=>m loc (λv mh=>wJ ms loc (λvs mh=>Q (v::vs) mh) mh) mh
theorem uy{es:List Expr}{ms:List ME}{pos:Pos}(hm:SEs c sc d es ms):∀{A:Around}{env:Env}{loc:Loc}{φ:Phi}{mh:MH}{s:Shared}{Q:List MV->MH->Prop}{P:List Value->Shared->Prop}{E:Value->Shared->Prop},
  xS A d->yz env sc->c.Hp φ mh s.heap->FrR c env loc φ s.heap->wJ ms loc Q mh->
  (∀vs mvs φ' mh' h' tk,Q mvs mh'->Ext φ φ' s.heap h'->c.Hp φ' mh' h'->VRs h' φ' vs mvs->P vs { s with heap:=h',toks:=tk })->
  wpAny c.M A (spliced (backTo pos (starEach es env))) P E s:=by
 induction hm with
 |nil=>intro A env loc φ mh s Q P E hr he H F q o;exact wpAny_items_nil (o [] [] φ mh s.heap s.toks q (.refl _ _) H .nil)
 |cons h1 _ hs ih=>
  intro A env loc φ mh s Q P E hr he H F q o
  refine wpAny_items_cons (h1 A env loc φ mh s _ _ E hr he H F q λv mv φ1 mh1 g1 tk1 q1 x1 H1 r1=>?_) (hs env)
  refine ih hr he H1 (F.ext H x1) q1 λvs mvs φ2 mh2 g2 tk2 q2 x2 H2 r2=>?_
  exact o _ _ φ2 mh2 g2 tk2 q2 (x1.trans x2) H2 (.cons (H1.vr x2 r1) r2)
noncomputable def zG(ms:List ME):ME:=λloc Q mh=>wJ ms loc (λvs mh=>vs.length<=BIG/\Q (.tuple vs) mh) mh
theorem z9{es:List Expr}{ms:List ME}{k:Nat}{pos:Pos}(hm:SEs c sc d es ms):SE c sc d (.Tuple es k pos) (zG ms):=
 λA env loc φ mh s Q P E hr he H F q o=>PySem.wpAny_Tuple (uy hm hr he H F q λvs mvs φ' mh' h' tk q' x H' r=>
  ⟨yj (by rw[r.length];exact q'.1),(o.trans (tk:=tk) x).newTuple (s:={ s with heap:=h',toks:=tk }) H' r q'.2⟩)
noncomputable def vy(ms:List ME):ME:=λloc Q mh=>wJ ms loc (λvs mh=>vs.length<=BIG/\Q (.ref mh.length) (mh++[.list vs])) mh
theorem y2{es:List Expr}{ms:List ME}{pos:Pos}(hm:SEs c sc d es ms):SE c sc d (.List es pos) (vy ms):=
 λA env loc φ mh s Q P E hr he H F q o=>PySem.wpAny_List (uy hm hr he H F q λvs mvs φ' mh' h' tk q' x H' r=>
  ⟨yj (by rw[r.length];exact q'.1),(o.trans (tk:=tk) x).newList (s:={ s with heap:=h',toks:=tk }) H' r q'.2⟩)
end
section
variable {c:Cx}{sc:Scope}{d:Nat}
noncomputable def Yp:List ME->ME
 |[]=>λ_ _ _=>False
 |[m]=>m
 |m::ms=>λloc Q mh=>m loc (Jr λb mh=>if b=true then Yp ms loc Q mh else Q (.bool false) mh) mh
theorem zay{k:Bool->MH->Prop}{v:MV}{mh:MH}(q:Jr k v mh):∃b,v=.bool b/\k b mh:=by
 cases v with
 |bool b=>exact⟨b,rfl,q⟩
 |_=>exact False.elim q
theorem KM{es:List Expr}{ms:List ME}{pos:Pos}(hm:SEs c sc d es ms):SE c sc d (.BoolOp .And es pos) (Yp ms):=by
 induction hm with
 |nil=>exact λA env loc φ mh s Q P E hr he H F q o=>q.elim
 |cons h1 h2 hs ih=>
  cases h2 with
  |nil=>exact λA env loc φ mh s Q P E hr he H F q o=>BoolOp_one (h1 A env loc φ mh s Q P E hr he H F q o)
  |cons h3 h4 hs'=>
   exact λA env loc φ mh s Q P E hr he H F q o=>BoolOp_and (h1 A env loc φ mh s _ _ E hr he H F q λv mv φ' mh' h' tk q' x H' r=>by
    obtain⟨b,rfl,q'⟩:=zay q'
    obtain rfl:=r.inv_bool
    refine wpAny_truthy_bool ?_
    cases b with
    |true=>exact ih A env loc φ' mh' _ Q P E hr he H' (F.ext H x) q' (o.trans x)
    |false=>exact o _ _ φ' mh' h' tk q' x H' (.bool _))
noncomputable def jc(vs:List MV)(k:Int):Option MV:=if 0<=k then vs[k.toNat]? else if 0<=k+vs.length then vs[(k+vs.length).toNat]? else none
noncomputable def wR{α:Type}[DecidableEq α](ks:List (α×MV))(k:α):Option MV:=(ks.find? λkv=>kv.1=k).map (·.2)
noncomputable def Zj(o:Option MO)(i:MV)(Q:MV->Prop):Prop:=match o,i with
 |some (.list vs),.int k=>z7 k/\∃v,jc vs k=some v/\Q v
 |some (.idict ks),.int k=>∃v,wR ks k=some v/\Q v
 |some (.sdict ks),.str x=>∃v,wR ks x=some v/\Q v
 |_,_=>False
noncomputable def W5(a i:MV)(Q:MV->Prop)(mh:MH):Prop:=match a,i with
 |.tuple vs,.int k=>z7 k/\∃v,jc vs k=some v/\Q v
 |.ref r,i=>Zj mh[r]? i Q
 |_,_=>False
theorem vh(slice:Expr)(o i:Value):∃ops,subscripted slice false o i=operate ops (getItem o i):=by
 cases slice with
 |Slice a b c p=>cases c<;>exact⟨_,rfl⟩
 |_=>exact⟨_,rfl⟩
theorem KvR.value{α:Type}[DecidableEq α]{h:Heap}{φ:Phi}{ks:List (α×Value)}{ms:List (α×MV)}(x:KvR h φ ks ms){k:α}{m:MV}(e:wR ms k=some m):∃v,valueAt ks k=some v/\VR h φ v m:=by
 induction x with
 |nil=>simp[wR] at e
 |@cons k' v m' ks ms a r ih=>
  unfold wR at e
  unfold valueAt
  rw[List.find?_cons] at e ⊢
  by_cases hk:k'=k
  ·simp[hk] at e ⊢;subst e;exact a
  ·simp only[hk,decide_false,Bool.false_eq_true,if_false] at e ⊢;exact ih e
theorem Xu{vs:List MV}{k:Int}{v:MV}(e:jc vs k=some v):(0<=k/\vs[k.toNat]?=some v)\/(k<0/\0<=k+vs.length/\vs[(k+vs.length).toNat]?=some v):=by
 unfold jc at e
 split at e
 ·exact .inl ⟨by assumption,e⟩
 ·split at e
  ·exact .inr ⟨by lia,by assumption,e⟩
  ·cases e
theorem UI{k:Int}{n:Nat}(h0:0<=k)(h1:k.toNat<n):seqIndex? k n=some k.toNat:=by
 have h2:¬k<0:=Int.not_lt_of_ge h0
 have h3:k<n:=by lia
 simp[seqIndex?,h2,h0,h3]
theorem UJ{k:Int}{n:Nat}(h0:k<0)(h1:0<=k+n):seqIndex? k n=some (k+n).toNat:=by
 have h3:k+n<n:=by lia
 simp[seqIndex?,h0,h1,h3]
theorem JW{A:Around}{φ:Phi}{s:Shared}{a b:Value}{vs:List MV}{k:Int}{m:MV}{value slice:Expr}{P:Value->Shared->Prop}{E:Value->Shared->Prop}
  (ra:VR s.heap φ a (.tuple vs)) (rb:VR s.heap φ b (.int k)) (k1:z7 k) (e:jc vs k=some m) (q:∀v tk,VR s.heap φ v m->P v { s with toks:=tk }):wpAny c.M A (subscriptTail value slice a b) P E s:=by
 obtain⟨ops,hs⟩:=vh slice a b
 obtain⟨k1,k2⟩:=k1
 obtain⟨t,rfl⟩:=rb.inv_int
 obtain⟨a1,xs,n,rfl,g,r⟩:=ra.inv_tuple
 have hl:=r.length
 refine tail_any (show s.TypeIs (.ref a1) "tuple" from⟨_,g,rfl⟩) slot_tuple_getitem.lookup ?_ hs
 rcases Xu e with⟨h0,e⟩|⟨h0,h1,e⟩
 ·obtain⟨v,ev,rv⟩:=r.get e
  have hlt:=(List.getElem?_eq_some_iff.mp ev).1
  exact PyProof.Rows.getItem_tuple (items:=xs.toArray) (j:=k.toNat) (x:=v) ⟨_,g,rfl,n,rfl⟩ (by lia) (Int.lt_of_le_of_lt (by assumption) (by decide)) (UI h0 (by simpa using hlt)) (by simpa using ev) (q v s.toks rv)
 ·obtain⟨v,ev,rv⟩:=r.get e
  have hlt:=(List.getElem?_eq_some_iff.mp ev).1
  exact PyProof.Rows.getItem_tuple (items:=xs.toArray) (j:=(k+vs.length).toNat) (x:=v) ⟨_,g,rfl,n,rfl⟩ (by lia) (Int.lt_of_le_of_lt (by assumption) (by decide)) (by rw[<-hl];exact UJ (n:=xs.toArray.size) h0 (by simpa[hl] using h1)) (by simpa using ev) (q v s.toks rv)
theorem zcy{A:Around}{φ:Phi}{mh:MH}{s:Shared}{a b:Value}{r:Nat}{vs:List MV}{k:Int}{m:MV}{value slice:Expr}{P:Value->Shared->Prop}{E:Value->Shared->Prop}
  (H:c.Hp φ mh s.heap) (ra:VR s.heap φ a (.ref r)) (rb:VR s.heap φ b (.int k)) (e1:mh[r]?=some (.list vs)) (k1:z7 k) (e:jc vs k=some m) (q:∀v tk,VR s.heap φ v m->P v { s with toks:=tk }):wpAny c.M A (subscriptTail value slice a b) P E s:=by
 obtain⟨ops,hs⟩:=vh slice a b
 obtain⟨k1,k2⟩:=k1
 obtain⟨t,rfl⟩:=rb.inv_int
 obtain⟨a1,xs,n,rfl,_,g,r⟩:=H.list_at ra e1
 have hl:=r.length
 refine tail_any (show s.TypeIs (.ref a1) "list" from⟨_,g,rfl⟩) slot_list_getitem.lookup ?_ hs
 rcases Xu e with⟨h0,e⟩|⟨h0,h1,e⟩
 ·obtain⟨v,ev,rv⟩:=r.get e
  exact wpAny_getItem_list (items:=xs.toArray) ⟨_,g,rfl,n,rfl⟩ h0 (Int.lt_of_le_of_lt (by assumption) (by decide)) (by simpa using ev) (q v s.toks rv)
 ·obtain⟨v,ev,rv⟩:=r.get e
  exact wpAny_getItem_list_neg (items:=xs.toArray) ⟨_,g,rfl,n,rfl⟩ h0 (by simp;lia) (by lia) (by simpa[hl] using ev) (q v s.toks rv)
theorem JZ{A:Around}{φ:Phi}{mh:MH}{s:Shared}{a b:Value}{r:Nat}{ks:List (Int×MV)}{k:Int}{m:MV}{value slice:Expr}{P:Value->Shared->Prop}{E:Value->Shared->Prop}
  (H:c.Hp φ mh s.heap) (ra:VR s.heap φ a (.ref r)) (rb:VR s.heap φ b (.int k)) (e1:mh[r]?=some (.idict ks)) (e:wR ks k=some m) (q:∀v tk,VR s.heap φ v m->P v { s with toks:=tk }):wpAny c.M A (subscriptTail value slice a b) P E s:=by
 obtain⟨ops,hs⟩:=vh slice a b
 obtain⟨t,rfl⟩:=rb.inv_int
 obtain⟨a1,kv,rfl,_,D,R⟩:=H.idict_at ra e1
 obtain⟨v,ev,rv⟩:=R.value e
 exact tail_any D.typeIs slot_dict_getitem.lookup (wpAny_getItem_of (knd:=intKind c.prog c.w) (k:=k) (by simp[intKind,Value.isInt]) D.mapOf ev (q v _ rv)) hs
theorem JY{A:Around}{φ:Phi}{mh:MH}{s:Shared}{a b:Value}{r:Nat}{ks:List (Str×MV)}{k:Str}{m:MV}{value slice:Expr}{P:Value->Shared->Prop}{E:Value->Shared->Prop}
  (H:c.Hp φ mh s.heap) (ra:VR s.heap φ a (.ref r)) (rb:VR s.heap φ b (.str k)) (e1:mh[r]?=some (.sdict ks)) (e:wR ks k=some m) (q:∀v tk,VR s.heap φ v m->P v { s with toks:=tk }):wpAny c.M A (subscriptTail value slice a b) P E s:=by
 obtain⟨ops,hs⟩:=vh slice a b
 obtain⟨t,rfl⟩:=rb.inv_str
 obtain⟨a1,kv,rfl,_,D,R⟩:=H.sdict_at ra e1
 obtain⟨v,ev,rv⟩:=R.value e
 exact tail_any D.typeIs slot_dict_getitem.lookup (wpAny_getItem_of (knd:=PySem.strKind c.prog c.w) (k:=k) (by simp[PySem.strKind,Value.isStrOf]) D.mapOf ev (q v _ rv)) hs
theorem zcz{ma mb:MV}{Q:MV->Prop}{mh:MH}(q:W5 ma mb Q mh):(∃vs k,ma=.tuple vs/\mb=.int k)\/∃r o,ma=.ref r/\mh[r]?=some o/\Zj (some o) mb Q:=by
 cases ma with
 |tuple vs=>
  obtain⟨k,rfl⟩:=MV.is_int (P:=λv=>W5 (.tuple vs) v Q mh) q id (λ_=>id) (λ_=>id) (λ_=>id) (λ_ _=>id) (λ_=>id) (λ_=>id)
  exact .inl ⟨vs,k,rfl,rfl⟩
 |ref r=>
  have q':Zj mh[r]? mb Q:=q
  cases e:mh[r]? with
  |none=>rw[e] at q';exact False.elim q'
  |some o=>rw[e] at q';exact .inr ⟨r,o,rfl,e,q'⟩
 |_=>exact False.elim q
theorem zab{o:MO}{mb:MV}{Q:MV->Prop}(q:Zj (some o) mb Q):(∃vs k,o=.list vs/\mb=.int k)\/(∃ks k,o=.idict ks/\mb=.int k)\/∃ks k,o=.sdict ks/\mb=.str k:=by
 cases o with
 |list vs=>
  obtain⟨k,rfl⟩:=MV.is_int (P:=λv=>Zj (some (.list vs)) v Q) q id (λ_=>id) (λ_=>id) (λ_=>id) (λ_ _=>id) (λ_=>id) (λ_=>id)
  exact .inl ⟨vs,k,rfl,rfl⟩
 |idict vs=>
  obtain⟨k,rfl⟩:=MV.is_int (P:=λv=>Zj (some (.idict vs)) v Q) q id (λ_=>id) (λ_=>id) (λ_=>id) (λ_ _=>id) (λ_=>id) (λ_=>id)
  exact .inr (.inl ⟨vs,k,rfl,rfl⟩)
 |sdict ks=>cases mb with
  |str k=>exact .inr (.inr ⟨ks,k,rfl,rfl⟩)
  |_=>exact False.elim q
 |_=>exact False.elim q
theorem JX{A:Around}{φ:Phi}{mh:MH}{s:Shared}{a b:Value}{ma mb:MV}{value slice:Expr}{P:Value->Shared->Prop}{E:Value->Shared->Prop}{Q:MV->Prop}
  (H:c.Hp φ mh s.heap) (ra:VR s.heap φ a ma) (rb:VR s.heap φ b mb) (q:W5 ma mb Q mh) (o:∀v m tk,Q m->VR s.heap φ v m->P v { s with toks:=tk }):wpAny c.M A (subscriptTail value slice a b) P E s:=by
 rcases zcz q with⟨vs,k,rfl,rfl⟩|⟨r,o',rfl,e1,q⟩
 ·obtain⟨k1,m,e,q⟩:=q
  exact JW ra rb k1 e λv tk rv=>o v m tk q rv
 ·rcases zab q with⟨vs,k,rfl,rfl⟩|⟨ks,k,rfl,rfl⟩|⟨ks,k,rfl,rfl⟩
  ·obtain⟨k1,m,e,q⟩:=q
   exact zcy H ra rb e1 k1 e λv tk rv=>o v m tk q rv
  ·obtain⟨m,e,q⟩:=q
   exact JZ H ra rb e1 e λv tk rv=>o v m tk q rv
  ·obtain⟨m,e,q⟩:=q
   exact JY H ra rb e1 e λv tk rv=>o v m tk q rv
noncomputable abbrev zC(ma mi:ME):ME:=λloc Q mh=>ma loc (λa mh=>mi loc (λi mh=>W5 a i (λv=>Q v mh) mh) mh) mh
theorem zt{value slice:Expr}{pos:Pos}{ma mi:ME}(ha:SE c sc d value ma)(hi:SE c sc d slice mi):SE c sc d (.Subscript value slice pos) (zC ma mi):=
 λA env loc φ mh s Q P E hr he H F q o=>Subscript_ (two ha hi hr he H F q λa b ma mb φ' mh' h' tk q' x H' ra rb=>
  JX (s:={ s with heap:=h',toks:=tk }) H' ra rb q' λv m tk2 hq rv=>o v m φ' mh' h' tk2 hq x H' rv)
noncomputable def w8(K:Frag)(cl name:Str):Bool:=match qv K cl with
 |some C=>plainGet K C name && hasDictIn K C && (match findIn K (.ref C) name with|some attr=>noGet K attr|none=>false) &&
   findIn K (.ref C) "__setattr__" == some (some (.builtin "object.__setattr__")) && plainOver K C && takerIn K C name == some none
 |none=>false
noncomputable def uN(fs:List (Str×MV))(x:Str):Option MV:=(fs.find? λkv=>kv.1 == x).map (·.2)
theorem zc8{hs:Int}{k:Str}{t:Tok}{v:Value}{es:List DictEntry}:getL k (⟨hs,.str k t,v⟩::es)=some (some v):=by
 have:(Value.str k t).isStr k=true:=by simp[Value.isStr]
 unfold getL
 rw[List.find?_cons]
 simp only[this]
theorem XF{hs:Int}{k n:Str}{t:Tok}{v:Value}{es:List DictEntry}(hk:k≠n):getL n (⟨hs,.str k t,v⟩::es)=getL n es:=by
 have:(Value.str k t).isStr n=false:=by simp[Value.isStr,hk]
 have h2:(⟨hs,.str k t,v⟩:DictEntry).refKey=false:=rfl
 unfold getL
 rw[List.find?_cons,List.any_cons,h2,Bool.false_or]
 simp only[this]
theorem Ul{k:Str}{m:MV}{fs:List (Str×MV)}:uN ((k,m)::fs) k=some m:=by simp[uN]
theorem XJ{k n:Str}{m:MV}{fs:List (Str×MV)}(hk:k≠n):uN ((k,m)::fs) n=uN fs n:=by simp[uN,List.find?_cons,hk]
theorem EsR.get{h:Heap}{φ:Phi}{es:List DictEntry}{fs:List (Str×MV)}(x:EsR h φ es fs){n:Str}{m:MV}(e:uN fs n=some m):∃v,getL n es=some (some v)/\VR h φ v m:=by
 induction x with
 |nil=>simp[uN] at e
 |@cons hs k t v m' es fs a r ih=>
  by_cases hk:k=n
  ·subst hk
   rw[Ul] at e;cases e
   exact⟨v,zc8,a⟩
  ·rw[XJ hk] at e
   rw[XF hk]
   exact ih e
theorem EsR.miss{h:Heap}{φ:Phi}{es:List DictEntry}{fs:List (Str×MV)}(x:EsR h φ es fs){n:Str}(e:uN fs n=none):getL n es=some none:=by
 induction x with
 |nil=>rfl
 |@cons hs k t v m' es fs a r ih=>
  by_cases hk:k=n
  ·subst hk
   rw[Ul] at e;cases e
  ·rw[XJ hk] at e
   rw[XF hk]
   exact ih e
theorem EsR.handed{h:Heap}{φ:Phi}{v:Value}{m:MV}(x:VR h φ v m):handedIn v=true:=
 @VR.casesOn h φ (λv _ _=>handedIn v=true) v m x rfl (λ_=>rfl) (λ_ _=>rfl) (λ_ _=>rfl) (λ_ _=>rfl) (λ_=>rfl) (λ_=>rfl) (λ_=>rfl)
structure znu(K:Frag)(C:Addr)(name:Str):Prop where
 plain:plainGet K C name=true
 dict:hasDictIn K C=true
 find:∃attr,findIn K (.ref C) name=some attr/\noGet K attr=true
 set:findIn K (.ref C) "__setattr__" = some (some (.builtin "object.__setattr__"))
 over:plainOver K C=true
 taker:takerIn K C name=some none
theorem XI{K:Frag}{cl name:Str}{C:Addr}(e:w8 K cl name=true)(hc:qv K cl=some C):znu K C name:=by
 unfold w8 at e
 rw[hc] at e
 simp only[Bool.and_eq_true,beq_iff_eq] at e
 obtain⟨⟨⟨⟨⟨a,b⟩,f⟩,g⟩,h⟩,i⟩:=e
 refine⟨a,b,?_,g,h,i⟩
 split at f
 ·exact⟨_,by assumption,f⟩
 ·cases f
theorem YT{A:Around}{φ:Phi}{mh:MH}{s:Shared}{a:Value}{name cl:Str}{r:Nat}{fs:List (Str×MV)}{m:MV}{ex:Bool}{P:Value->Shared->Prop}{E:Value->Shared->Prop}
  (H:c.Hp φ mh s.heap) (ra:VR s.heap φ a (.ref r)) (e:mh[r]?=some (.inst cl fs)) (g:uN fs name=some m) (ok:w8 c.K cl name=true) (o:∀v tk,VR s.heap φ v m->P v { s with toks:=tk }) :
  wpAny c.M A (getAttr a name ex) P E s:=by
 obtain⟨a1,d1,rfl,_,o1⟩:=H.ref_at ra e
 obtain⟨dx,C,es,n,rfl,hc,h1,h2,R⟩:=o1.inv_inst
 obtain⟨v,e1,rv⟩:=R.get g
 have ok':=XI ok hc
 obtain⟨attr,fa,na⟩:=ok'.find
 exact get_value (c.kin.keeps H.base) ⟨h1,rfl,rfl,h2⟩ (plainGet_of ok'.plain).1 (findObj_own (od:=dictOf es n) ok'.dict fa na (by rw[lookIn_dict];exact e1)) (EsR.handed rv) (o v _ rv)
end
inductive Fl where
 |next
 |ret (v:MV)
inductive FlR(h:Heap)(φ:Phi):Flow->Fl->Prop
 |next:FlR h φ .next .next
 |ret {v:Value}{m:MV}:VR h φ v m->FlR h φ (.ret v) (.ret m)
structure wk(env:Env)(φ φ':Phi)(h h':Heap):Prop where
 pre:φ <+: φ'
 new:∀a∈z8 φ',a∈z8 φ\/h.get? a=none
 keep:∀b o,b∉z8 φ->¬vF env b->h.get? b=some o->h'.get? b=some o
 own:∀b,vF env b->b∉z8 φ->b∉z8 φ'
theorem Ext.toF{env:Env}{φ φ':Phi}{h h':Heap}(x:Ext φ φ' h h')(ho:∀b,vF env b->(h.get? b).isSome):wk env φ φ' h h':=⟨x.pre,x.new,λb o h1 _ e=>x.keep b o h1 e,λb hb h1 h2=>by
 rcases x.new b h2 with h3|h3
 ·exact h1 h3
 ·have:=ho b hb;rw[h3] at this;cases this⟩
theorem wk.trans{env:Env}{φ φ' φ'':Phi}{h h' h'':Heap}(x:wk env φ φ' h h')(y:wk env φ' φ'' h' h''):wk env φ φ'' h h'' where
 pre:=x.pre.trans y.pre
 new:=λa ha=>by
  rcases y.new a ha with h1|h1
  ·exact x.new a h1
  ·by_cases hb:a∈z8 φ
   ·exact .inl hb
   ·by_cases ho:vF env a
    ·exact absurd ha (y.own a ho (x.own a ho hb))
    ·refine .inr ?_
     cases e:h.get? a with
     |none=>rfl
     |some o=>rw[x.keep a o hb ho e] at h1;cases h1
 keep:=λb o hb hn e=>by
  refine y.keep b o (λhc=>?_) hn (x.keep b o hb hn e)
  rcases x.new b hc with h1|h1
  ·exact hb h1
  ·rw[h1] at e;cases e
 own:=λb hb h1=>y.own b hb (x.own b hb h1)
noncomputable def upd(loc:Loc)(x:Str)(v:MV):Loc:=λy=>if y=x then some v else loc y
section
variable {c:Cx}{sc:Scope}{d:Nat}{env:Env}{loc:Loc}{φ φ':Phi}{mh:MH}{h h':Heap}
theorem KT(F:FrR c env loc φ h){b:Addr}(hb:vF env b){o:Obj}(e:h.get? b=some o):yP o:=by
 rcases hb with rfl|⟨x,hk,hl⟩
 ·obtain⟨m,⟨o',es,ep,ho,hd,_⟩,_⟩:=F.ns
  rw[ho] at e;cases e
  intro vs n a b t u v
  exact⟨(λq=>by subst q;cases hd),(λq=>by subst q;cases hd)⟩
 ·obtain⟨v,o',ho,hd⟩:=F.are x b hl
  rw[ho] at e;cases e
  intro vs n a b t u v
  exact⟨(λq=>by subst q;cases hd),(λq=>by subst q;cases hd)⟩
theorem zI(F:FrR c env loc φ h):∀b,vF env b->(h.get? b).isSome:=by
 intro b hb
 rcases hb with rfl|⟨x,hk,hl⟩
 ·obtain⟨m,⟨o',es,ep,ho,hd,_⟩,_⟩:=F.ns;rw[ho];rfl
 ·obtain⟨v,o',ho,hd⟩:=F.are x b hl;rw[ho];rfl
theorem wk.keepM(x:wk env φ φ' h h')(hm:∀a,(a∈z8 φ\/vF env a)->∀o,h.get? a=some o->yP o):sq φ φ' h h':=
 ⟨x.pre,λb o n e=>x.keep b o (λha=>n (hm b (.inl ha) o e)) (λha=>n (hm b (.inr ha) o e)) e⟩
theorem VR.keepF(x:wk env φ φ' h h')(hm:∀a,(a∈z8 φ\/vF env a)->∀o,h.get? a=some o->yP o){v:Value}{m:MV}(r:VR h φ v m):VR h' φ' v m:=r.keepI (x.keepM hm)
theorem VRs.keepF(x:wk env φ φ' h h')(hm:∀a,(a∈z8 φ\/vF env a)->∀o,h.get? a=some o->yP o){vs:List Value}{ms:List MV}(r:VRs h φ vs ms):VRs h' φ' vs ms:=r.keepI (x.keepM hm)
theorem Zz(H:c.Hp φ mh h)(F:FrR c env loc φ h):∀a,(a∈z8 φ\/vF env a)->∀o,h.get? a=some o->yP o:=λa ha o e=>ha.elim (λh1=>H.mut a h1 o e) λh1=>KT F h1 e
theorem Zn(H:c.Hp φ mh h)(F:FrR c env loc φ h){X:Addr}(hX:vF env X)(k:∀b,b≠X->h'.get? b=h.get? b) :
  c.Hp φ mh h'/\wk env φ φ h h':=by
 have hoff:X∉z8 φ:=by
  rcases hX with rfl|⟨x,_,hl⟩
  ·exact F.offL
  ·exact F.offC x X hl
 have hB:c.hB.get? X=none:=by
  rcases hX with rfl|⟨x,hk,hl⟩
  ·exact F.baseL
  ·exact F.baseC x X hk hl
 have hE:wk env φ φ h h':=⟨List.prefix_rfl,λ_ h=>.inl h,λb o _ hn e=>(k b (λq=>hn (q▸hX))).trans e,λ_ _ h=>h⟩
 refine⟨⟨λb o e=>(k b (λq=>?_)).trans (H.base b o e),H.len,λi o p e1 e2=>?_,H.nodup,H.off⟩,hE⟩
 ·subst q;rw[hB] at e;cases e
 ·exact(H.objs i o p e1 e2).keep (λb ob hb e=>(k b (λq=>hoff (q▸wf.mpr ⟨p,List.mem_of_getElem? e2,hb⟩))).trans e) λv m r=>r.keepF hE (Zz H F)
end
noncomputable def U9(c:Cx)(env:Env)(φ:Phi)(s:Shared)(Q:Loc->MH->Prop)(P:Unit->Shared->Prop):Prop:=
 ∀loc' φ' mh' h' tk,Q loc' mh'->wk env φ φ' s.heap h'->c.Hp φ' mh' h'->FrR c env loc' φ' h'->P () { s with heap:=h',toks:=tk }
noncomputable abbrev MA:=MV->(Loc->MH->Prop)->Loc->MH->Prop
section
variable {c:Cx}{sc:Scope}{d:Nat}
noncomputable def wb(env:Env)(xs:List Str)(b:Addr):Prop:=b=env.locals\/∃x∈xs,env.kindOf x=some .cell/\env.cells.lookup x=some b
theorem Xj{A:Around}{env:Env}{loc:Loc}{φ:Phi}{mh:MH}{s:Shared}{x:Str}{v:Value}{m:MV}{P:Unit->Shared->Prop}{E:Value->Shared->Prop}
  (he:yz env sc) (hk:sc.names.lookup x=some .local\/sc.names.lookup x=some .cell) (H:c.Hp φ mh s.heap) (F:FrR c env loc φ s.heap) (r:VR s.heap φ v m)
  (o:∀X h' tk,wb env [x] X->(∀b,b≠X->h'.get? b=s.heap.get? b)->wk env φ φ s.heap h'->c.Hp φ mh h'->FrR c env (upd loc x m) φ h'->P () { s with heap:=h',toks:=tk }):wpAny c.M A (storeName env x v) P E s:=by
 have hkind:env.scope.kind=.function:=by rw[he.scope];exact he.kind
 rcases hk with hk|hk
 ·have hk':env.kindOf x=some .local:=by unfold Env.kindOf;rw[he.scope];exact hk
  obtain⟨mm,hn,hl⟩:=F.ns
  refine wpAny_storeName_local hk' hn (λh' hn' hs=>?_) (by rw[hkind];rfl)
  obtain⟨H',X⟩:=Zn H F (h':=h') (.inl rfl) (λb hb=>hs.2 b hb)
  refine o env.locals h' _ (.inl rfl) (λb hb=>hs.2 b hb) X H' ⟨⟨_,hn',λy w e ky=>?_⟩,λy w e ky=>?_,F.own,λy b e=>?_,F.offL,F.offC,F.inj,F.baseL,F.baseC⟩
  ·unfold upd at e
   by_cases hy:y=x
   ·subst hy;simp at e;subst e;exact⟨v,by simp,r.keepF X (Zz H F)⟩
   ·rw[if_neg hy] at e
    obtain⟨a,e1,e2⟩:=hl y w e ky
    exact⟨a,by rw[if_neg hy];exact e1,e2.keepF X (Zz H F)⟩
  ·unfold upd at e
   have hy:y≠x:=by rintro rfl;rw[hk'] at ky;rcases ky with ky|ky<;>cases ky
   rw[if_neg hy] at e
   obtain⟨b,a,e1,⟨ob,e2,e3⟩,e4⟩:=F.cells y w e ky
   refine⟨b,a,e1,⟨ob,(hs.2 b ?_).trans e2,e3⟩,e4.keepF X (Zz H F)⟩
   rintro rfl
   obtain⟨o',es,ep,ho,hd,_⟩:=hn
   rw[ho] at e2;cases e2;rw[hd] at e3;cases e3
  ·obtain⟨w,ob,e2,e3⟩:=F.are y b e
   refine⟨w,ob,(hs.2 b ?_).trans e2,e3⟩
   rintro rfl
   obtain⟨o',es,ep,ho,hd,_⟩:=hn
   rw[ho] at e2;cases e2;rw[hd] at e3;cases e3
 ·have hk':env.kindOf x=some .cell:=by unfold Env.kindOf;rw[he.scope];exact hk
  obtain⟨b,hb⟩:=Option.isSome_iff_exists.mp (F.own x (.inl hk'))
  obtain⟨w,hc⟩:=F.are x b hb
  refine wpAny_storeName_cell hkind hk' hb hc λh' hc' hs=>?_
  obtain⟨H',X⟩:=Zn H F (h':=h') (.inr ⟨x,hk',hb⟩) (λb hb=>hs.2 b hb)
  obtain⟨mm,hn,hl⟩:=F.ns
  have hbl:env.locals≠b:=by
   rintro rfl
   obtain⟨ob,e2,e3⟩:=hc
   obtain⟨o',es,ep,ho,hd,_⟩:=hn
   rw[ho] at e2;cases e2;rw[hd] at e3;cases e3
  refine o b h' s.toks (.inr ⟨x,List.mem_singleton_self _,hk',hb⟩) (λb hb=>hs.2 b hb) X H' ⟨⟨mm,hn.sameBut hs hbl,λy w e ky=>?_⟩,λy w e ky=>?_,F.own,λy b' e=>?_,F.offL,F.offC,F.inj,F.baseL,F.baseC⟩
  ·unfold upd at e
   have hy:y≠x:=by rintro rfl;rw[hk'] at ky;cases ky
   rw[if_neg hy] at e
   obtain⟨a,e1,e2⟩:=hl y w e ky
   exact⟨a,e1,e2.keepF X (Zz H F)⟩
  ·unfold upd at e
   by_cases hy:y=x
   ·subst hy;simp at e;subst e;exact⟨b,v,hb,hc',r.keepF X (Zz H F)⟩
   ·rw[if_neg hy] at e
    obtain⟨b',a,e1,hcb,e4⟩:=F.cells y w e ky
    exact⟨b',a,e1,hcb.sameBut hs (λq=>hy (F.inj y x b' e1 (q▸hb))),e4.keepF X (Zz H F)⟩
  ·by_cases hbb:b'=b
   ·subst hbb;exact⟨_,hc'⟩
   ·obtain⟨w',hcb⟩:=F.are y b' e
    exact⟨w',hcb.sameBut hs hbb⟩
theorem ZR{A:Around}{env:Env}{loc:Loc}{φ:Phi}{mh:MH}{s:Shared}{x:Str}{v:Value}{m:MV}{P:Unit->Shared->Prop}{E:Value->Shared->Prop}
  (he:yz env sc) (hk:sc.names.lookup x=some .local\/sc.names.lookup x=some .cell) (H:c.Hp φ mh s.heap) (F:FrR c env loc φ s.heap) (r:VR s.heap φ v m)
  (o:∀X h' tk,wb env [x] X->(∀b,b≠X->h'.get? b=s.heap.get? b)->wk env φ φ s.heap h'->c.Hp φ mh h'->FrR c env (upd loc x m) φ h'->P () { s with heap:=h',toks:=tk }):wpAny c.M A (bindName env x v) P E s:=
 wpAny_bindName (Xj he hk H F r o)
theorem jW{A:Around}{env:Env}{loc:Loc}{φ:Phi}{mh:MH}{s:Shared}{x:Str}{v:Value}{m:MV}{Q:Loc->MH->Prop}{P:Unit->Shared->Prop}{E:Value->Shared->Prop}
  (he:yz env sc) (hk:sc.names.lookup x=some .local\/sc.names.lookup x=some .cell) (H:c.Hp φ mh s.heap) (F:FrR c env loc φ s.heap) (r:VR s.heap φ v m) (q:Q (upd loc x m) mh)
  (o:U9 c env φ s Q P):wpAny c.M A (bindName env x v) P E s:=
 ZR he hk H F r λX h' tk _ _ x H' F'=>o _ φ mh h' tk q x H' F'
noncomputable def SA(c:Cx)(sc:Scope)(d:Nat)(t:Expr)(m:MA):Prop:=
 ∀(A:Around) (env:Env) (loc:Loc) (φ:Phi) (mh:MH) (s:Shared) (v:Value) (mv:MV) (Q:Loc->MH->Prop) (P:Unit->Shared->Prop) (E:Value->Shared->Prop),
  xS A d->yz env sc->c.Hp φ mh s.heap->FrR c env loc φ s.heap->VR s.heap φ v mv->m mv Q loc mh->U9 c env φ s Q P->wpAny c.M A (assign t env v) P E s
noncomputable abbrev zP(x:Str):MA:=λv Q loc mh=>Q (upd loc x v) mh
theorem s6{x:Str}{pos:Pos}(hk:sc.names.lookup x=some .local\/sc.names.lookup x=some .cell):SA c sc d (.Name x pos) (zP x):=
 λA env loc φ mh s v mv Q P E hr he H F r q o=>by
  show wpAny c.M A (do standAt pos;bindName env x v) P E s
  exact wpAny_bind (wpAny_standAt (jW he hk H F r q o))
theorem U9.trans{env:Env}{φ φ':Phi}{s:Shared}{h':Heap}{tk:Nat}{Q:Loc->MH->Prop}{P:Unit->Shared->Prop}(o:U9 c env φ s Q P)(x:wk env φ φ' s.heap h') :
  U9 c env φ' { s with heap:=h',toks:=tk } Q P:=λloc' φ'' mh'' h'' tk' q e H F=>o loc' φ'' mh'' h'' tk' q (x.trans e) H F
noncomputable def xU:List Str->List MV->Loc->Loc
 |x::xs,v::vs,loc=>xU xs vs (upd loc x v)
 |_,_,loc=>loc
noncomputable def wG:List Expr->Option (List Str)
 |[]=>some []
 |.Name x _::es=>(wG es).map (x::·)
 |_=>none
theorem jf{e:Expr}{es:List Expr}{xs:List Str}(hx:wG (e::es)=some xs):∃x pos ys,e=.Name x pos/\wG es=some ys/\xs=x::ys:=by
 cases e with
 |Name x pos=>
  obtain⟨ys,h1,h2⟩:=Option.map_eq_some_iff.mp (show(wG es).map (x::·)=some xs from hx)
  exact⟨x,pos,ys,rfl,h1,h2.symm⟩
 |_=>exact nomatch (show none=some xs from hx)
theorem qU{env:Env}{xs ys:List Str}(h:∀x∈xs,x∈ys){b:Addr}(ht:wb env xs b):wb env ys b:=by
 rcases ht with h1|⟨x,hx,h2⟩
 ·exact .inl h1
 ·exact .inr ⟨x,h x hx,h2⟩
theorem za8{env:Env}{x:Str}{xs:List Str}{b:Addr}(h:wb env [x] b):wb env (x::xs) b:=qU (λz hz=>by cases hz with|head=>exact .head _|tail _ h=>cases h) h
theorem Zb{es:List Expr}{xs:List Str}(hx:wG es=some xs)(hk:∀x∈xs,sc.names.lookup x=some .local\/sc.names.lookup x=some .cell) :
  ∀{A:Around}{env:Env}{loc:Loc}{φ:Phi}{mh:MH}{s:Shared}{vs:List Value}{ms:List MV}{P:Unit->Shared->Prop}{E:Value->Shared->Prop},
  yz env sc->c.Hp φ mh s.heap->FrR c env loc φ s.heap->VRs s.heap φ vs ms->
  (∀h' tk,(∀b o,¬wb env xs b->s.heap.get? b=some o->h'.get? b=some o)->c.Hp φ mh h'->FrR c env (xU xs ms loc) φ h'->wk env φ φ s.heap h'->P () { s with heap:=h',toks:=tk })->
  wpAny c.M A (assignInOrder ((assignEach es env).map (·.2)) vs) P E s:=by
 induction es generalizing xs with
 |nil=>
  intro A env loc φ mh s vs ms P E he H F r o
  cases hx
  have:assignInOrder ((assignEach [] env).map (·.2)) vs=pure ():=by show assignInOrder [] vs=_;cases vs<;>rfl
  rw[this]
  exact wpAny_pure (o s.heap s.toks (λ_ _ _ e=>e) H F ((Ext.refl _ _).toF (zI F)))
 |cons e es ih=>
  intro A env loc φ mh s vs ms P E he H F r o
  obtain⟨x,pos,ys,rfl,hy,rfl⟩:=jf hx
  cases vs with
  |nil=>
   cases r.inv_vnil
   exact wpAny_pure (o s.heap s.toks (λ_ _ _ e=>e) H F ((Ext.refl _ _).toF (zI F)))
  |cons v vs=>
   obtain⟨m,ms,rfl,r,rs⟩:=r.inv_vcons
   show wpAny c.M A (do holding vs (do standAt pos;bindName env x v);assignInOrder ((assignEach es env).map (·.2)) vs) P E s
   refine wpAny_bind (wpAny_holding (wpAny_bind (wpAny_standAt (ZR he (hk x (.head _)) H F r λX h1 tk1 hX k1 x1 H1 F1=>?_))))
   refine ih hy (λz hz=>hk z (.tail _ hz)) he H1 F1 (rs.keepF x1 (Zz H F)) λh2 tk2 k2 H2 F2 x2=>?_
   exact o h2 tk2 (λb ob hb e=>k2 b ob (λhq=>hb (qU (λz hz=>.tail _ hz) hq)) ((k1 b (λhq=>hb (hq▸za8 hX))).trans e)) H2 F2 (x1.trans x2)
theorem Ve{es:List Expr}{xs:List Str}(hx:wG es=some xs)(hk:∀x∈xs,sc.names.lookup x=some .local\/sc.names.lookup x=some .cell)
  {A:Around}{env:Env}{loc:Loc}{φ:Phi}{mh:MH}{s:Shared}{vs:List Value}{ms:List MV}{Q:Loc->MH->Prop}{P:Unit->Shared->Prop}{E:Value->Shared->Prop}
  (hr:xS A d) (he:yz env sc) (H:c.Hp φ mh s.heap) (F:FrR c env loc φ s.heap) (r:VRs s.heap φ vs ms) (q:Q (xU xs ms loc) mh) (o:U9 c env φ s Q P) :
  wpAny c.M A (assignInOrder ((assignEach es env).map (·.2)) vs) P E s:=
 Zb hx hk he H F r λh' tk _ H' F' x=>o _ φ mh h' tk q x H' F'
theorem qw{es:List Expr}{xs:List Str}{env:Env}(hx:wG es=some xs):(assignEach es env).length=xs.length/\((assignEach es env).findIdx? (·.1))=none:=by
 induction es generalizing xs with
 |nil=>cases hx;exact⟨rfl,rfl⟩
 |cons e es ih=>
  obtain⟨x,pos,ys,rfl,hy,rfl⟩:=jf hx
  obtain⟨h1,h2⟩:=ih hy
  have e1:assignEach (.Name x pos::es) env=(false,assign (.Name x pos) env)::assignEach es env:=rfl
  rw[e1]
  exact⟨congrArg Nat.succ h1,by simp[List.findIdx?_cons,h2]⟩
noncomputable def tu(xs:List Str):MA:=λv Q loc mh=>∃vs,v=.tuple vs/\vs.length=xs.length/\Q (xU xs vs loc) mh
theorem tH{es:List Expr}{xs:List Str}{k:Nat}{pos:Pos}(hx:wG es=some xs)(hk:∀x∈xs,sc.names.lookup x=some .local\/sc.names.lookup x=some .cell):SA c sc d (.Tuple es k pos) (tu xs):=
 λA env loc φ mh s v mv Q P E hr he H F r q o=>by
  obtain⟨vs,rfl,hl,q⟩:=q
  obtain⟨a,ws,n,rfl,g,rs⟩:=r.inv_tuple
  rw[assign_Tuple]
  have hsz:ws.toArray.size=xs.length:=by simp[rs.length,hl]
  obtain⟨hl1,hl2⟩:=qw (env:=env) hx
  refine wpAny_bind (wpAny_standAt (PyProof.Rows.unpack_tuple (items:=ws.toArray) hr.handled ⟨_,g,rfl,n,rfl⟩ (by rw[hl1,hsz]) hl2 λh' hext=>?_))
  have hk':∀b o,s.heap.get? b=some o->h'.get? b=some o:=λb o e=>hext b o (Nat.ne_of_lt (Heap.lt_size e)) e
  have hE:=Ext.of_keep (φ:=φ) hk'
  have hEF:=hE.toF (zI F)
  exact Ve hx hk hr he (H.keep hk') (F.ext H hE) (H.vrs hE rs) q (o.trans hEF)
end
noncomputable def xi{α:Type}[DecidableEq α]:List (α×MV)->α->MV->List (α×MV)
 |[],x,v=>[(x,v)]
 |(y,w)::fs,x,v=>if y=x then (y,v)::fs else (y,w)::xi fs x v
theorem s9{α:Type}[DecidableEq α]{k x:α}{v w:MV}{fs:List (α×MV)}:xi ((k,v)::fs) x w=if k=x then (k,w)::fs else (k,v)::xi fs x w:=rfl
theorem zci{α:Type}[DecidableEq α]{x:α}{w:MV}:xi [] x w=[(x,w)]:=rfl
section
variable {c:Cx}{sc:Scope}{d:Nat}
theorem EsR.set{h:Heap}{φ:Phi}{es:List DictEntry}{fs:List (Str×MV)}(x:EsR h φ es fs)(n:Str)(hs:Int)(t:Tok){v:Value}{m:MV}(r:VR h φ v m) :
  EsR h φ (putL n hs (.str n t) v es) (xi fs n m):=by
 induction x with
 |nil=>exact .cons r .nil
 |@cons hs' k t' v' m' es fs a q ih=>
  have e1:putL n hs (.str n t) v (⟨hs',.str k t',v'⟩::es)=if (Value.str k t').isStr n then ⟨hs',.str k t',v⟩::es else ⟨hs',.str k t',v'⟩::putL n hs (.str n t) v es:=rfl
  have e2:xi ((k,m')::fs) n m=if k=n then (k,m)::fs else (k,m')::xi fs n m:=rfl
  rw[e1,e2]
  by_cases hk:k=n
  ·subst hk
   have:(Value.str k t').isStr k=true:=by simp[Value.isStr]
   rw[if_pos this,if_pos rfl]
   exact .cons r q
  ·have:¬((Value.str k t').isStr n=true):=by simp[Value.isStr,hk]
   rw[if_neg this,if_neg hk]
   exact .cons a ih
theorem EsR.noref{h:Heap}{φ:Phi}{es:List DictEntry}{fs:List (Str×MV)}(x:EsR h φ es fs):es.any (·.refKey)=false:=by
 induction x with
 |nil=>rfl
 |cons a q ih=>rw[List.any_cons,ih];rfl
theorem EsR.length{h:Heap}{φ:Phi}{es:List DictEntry}{fs:List (Str×MV)}(x:EsR h φ es fs):es.length=fs.length:=by
 induction x with
 |nil=>rfl
 |cons a q ih=>simp[ih]
theorem jY(n:Str)(hs:Int)(k v:Value):∀es:List DictEntry,(putL n hs k v es).length<=es.length+1
 |[]=>Nat.le_refl _
 |e::r=>by
  unfold putL
  split
  ·simp
  ·have:=jY n hs k v r;simp;omega
theorem UZ{h:Heap}{φ:Phi}{es:List DictEntry}{fs:List (Str×MV)}(x:EsR h φ es fs){name:Str}:aRefKeyMayBeTheName name es.toArray=false:=by
 rw[aRefKeyMayBeTheName_at]
 have:=x.noref
 simp only[List.any_toArray]
 rw[show es.any (λx=>x.refKey)=false from this,Bool.and_false]
theorem zcv{φ:Phi}{mh:MH}{h:Heap}{v:Value}{m:MV}{name cl:Str}{r:Nat}{fs:List (Str×MV)}{a1 dx C:Addr}{es:List DictEntry}{n:Nat}{hs:Int}{tk:Tok}
  (H:c.Hp φ mh h) (rv:VR h φ v m) (f:φ[r]?=some (a1,some dx)) (hc:qv c.K cl=some C) (h1:h.get? a1=some (instObj C dx)) (h2:h.get? dx=some (dictOf es n)) (R:EsR h φ es fs) :
  N3 (Ext φ φ h (h.update dx (Obj.putName name hs (.str name tk) v))) (c.Hp φ (mh.set r (.inst cl (xi fs name m))) (h.update dx (Obj.putName name hs (.str name tk) v)))
   ((h.update dx (Obj.putName name hs (.str name tk) v)).get? dx=some (dictOf (putL name hs (.str name tk) v es) (putN name es n))):=by
 have D':(h.update dx (Obj.putName name hs (.str name tk) v)).get? dx=some (dictOf (putL name hs (.str name tk) v es) (putN name es n)):=by
  rw[<-putName_dict]
  exact Heap.get?_update_self _ h2 (by rw[putName_dict];rfl)
 have hne:a1≠dx:=by
  rintro rfl
  rw[h1] at h2;cases h2
 have e1:(h.update dx (Obj.putName name hs (.str name tk) v)).get? a1=some (instObj C dx):=(Heap.get?_update_ne _ _ _ _ hne).trans h1
 have kk:∀b ob,¬inP (a1,some dx) b->h.get? b=some ob->(h.update dx (Obj.putName name hs (.str name tk) v)).get? b=some ob:=λb ob hb eb=>(Heap.get?_update_ne _ _ _ _ (λq=>hb (.inr (by rw[q])))).trans eb
 generalize h.update dx (Obj.putName name hs (.str name tk) v)=h' at *
 have hU:=H.update (h':=h') (o:=.inst cl (xi fs name m)) f kk λhv=>.inst hc e1 D' ((R.map hv).set name _ _ (hv _ _ rv))
 exact⟨hU.2,hU.1,D'⟩
theorem YE{A:Around}{φ:Phi}{mh:MH}{s:Shared}{a v:Value}{name cl:Str}{r:Nat}{fs:List (Str×MV)}{m:MV}{P:Unit->Shared->Prop}{E:Value->Shared->Prop}
  (H:c.Hp φ mh s.heap) (ra:VR s.heap φ a (.ref r)) (rv:VR s.heap φ v m) (e:mh[r]?=some (.inst cl fs)) (ok:w8 c.K cl name=true) (hl:fs.length<=900)
  (o:∀h' tk,Ext φ φ s.heap h'->c.Hp φ (mh.set r (.inst cl (xi fs name m))) h'->P () { s with heap:=h',toks:=tk }) :
  wpAny c.M A (setAttr a name v) P E s:=by
 obtain⟨a1,d1,rfl,f1,o1⟩:=H.ref_at ra e
 obtain⟨dx,C,es,n,rfl,hc,h1,h2,R⟩:=o1.inv_inst
 have ok':=XI ok hc
 have X:=c.kin.keeps H.base
 obtain⟨E1,H1,D'⟩:=zcv (name:=name) (hs:=PyData.keyHash c.w.params name) (tk:=s.toks+1) H rv f1 hc h1 h2 R
 have hlen:=Nat.le_trans (jY name (PyData.keyHash c.w.params name) (.str name (s.toks+1)) v es) (Nat.succ_le_succ (Nat.le_trans (Nat.le_of_eq R.length) hl))
 have I:InstAt s.heap a1 (instObj C dx) C (some (dictOf es n)):=⟨h1,rfl,rfl,h2⟩
 refine set_plain X I ok'.set ?_
 refine osa_open (s:={ s with toks:=s.toks+1 }) X I ok'.over ok'.taker λb=>?_
 obtain⟨cd,hcd,hd'⟩:=any_some (show(clsIn c.K C).any (·.hasDict)=true from ok'.dict)
 refine wpAny_bind (wpAny_pure (wpAny_bind (wpAny_bind (wpAny_loadPart h1 (wpAny_bind ((looks_clsIn X hcd).at ?_))))))
 rw[hd']
 refine wpAny_pure (a:=some dx) (wpAny_bind (wpAny_pure (wpAny_bind ?_)))
 unfold nsSet
 refine wpAny_bind (wpAny_bind (wpAny_askSetting (wpAny_pure (wpAny_bind (wpAny_mkText (wpAny_bind (wpAny_loadPart h2 ?_)))))))
 dsimp only
 rw[UZ R]
 refine wpAny_updatePart h2 ?_
 refine wpAny_bind (wpAny_lookBehind D' (pastItsLine_dict (es:=(putL name (PyData.keyHash c.w.params name) (.str name (s.toks+1)) v es).toArray) (by
  rw[List.size_toArray,sizeLine_eq];exact ltk)) ?_)
 exact wpAny_pure (o _ _ E1 H1)
end
theorem jC(its:Array Value)(n j:Nat)(x:Value) :
  ∃n',Obj.mapSeq (·.setIfInBounds j x) { cls:=.type "list",data:=.seq its n }={ cls:=.type "list",data:=.seq (its.setIfInBounds j x) n' }:=by
 simp[Obj.mapSeq]
section
variable {prog:Program}{w:World}{A:Around}{E:Value->Shared->Prop}{s:Shared}
theorem YG{l:Addr}{items:Array Value}{k:Int}{t:Tok}{v:Value}{Q:Unit->Shared->Prop}(hl:s.heap.PlainList l items){j:Nat}
  (hk:(0<=k/\k=j)\/(k<0/\k+items.size=j)) (hfit : -(2 ^ 62)<=k/\k<2 ^ 62) (hn:j<items.size)
  (hQ:∀h',h'.PlainList l (items.setIfInBounds j v)->Heap.SameBut l s.heap h'->Q () { s with heap:=h' }) :
  wpAny (model prog w) A (setItem (.ref l) (.int k t) v) Q E s:=by
 obtain⟨n,ho⟩:=id hl
 have hd:({ cls:=.type "list",data:=.seq items n }:Obj).data=.seq items n:=rfl
 unfold setItem
 try with_reducible refine wpAny_holding ?_
 first|refine wpAny_bind (wpAny_pure ?_)|skip
 refine wpAny_bind (wpAny_sequenceKey hl.isList.typeIs (by decide) ?_)
 refine wpAny_bind (wpAny_callSpecial?_slot (name:=Str.ofString "__setitem__") hl.isList.typeIs slot_list_setitem
  (wpAny_call_entry slot_list_setitem hl.isList.typeIs entry_list_setitem ?_ (args_list_setitem _ _ _)))
 show wpAny _ _ (Builtin.List.listSubscript? (.int k t) >>= _) _ _ s
 have hx':items[j]?=some items[j]:=Array.getElem?_eq_getElem hn
 obtain⟨n',hd'⟩:=jC items n j v
 have hfin:(s.heap.update l (Obj.mapSeq (·.setIfInBounds j v))).PlainList l (items.setIfInBounds j v):=
  ⟨n',by rw[Heap.get?_update_self _ ho (by rw[hd'];rfl),hd']⟩
 have hf:Builtin.List.listFitsIndex k=true:=by
  rcases hk with⟨h0,hj⟩|⟨h0,h1⟩
  ·exact fitsIndex_of (k:=k) h0 (by lia)
  ·exact fitsIndex_neg (k:=k) h0 (by lia)
 refine wpAny_bind (wpAny_listSubscript_int hf ?_)
 clear hf hfit
 rcases hk with⟨h0,hj⟩|⟨h0,h1⟩
 ·subst hj
  show wpAny _ _ ((seqItemAt l j >>= λr=>pure (r.map (j,·))) >>= _) _ _ s
  refine wpAny_bind (wpAny_bind (wpAny_seqItemAt ho hd (wpAny_pure ?_)))
  rw[hx']
  show wpAny _ _ (setSeqItemAt l j v >>= _) _ _ s
  exact wpAny_bind (wpAny_setSeqItemAt ho hd (wpAny_pure ⟨.none,rfl,wpAny_pure (hQ _ hfin (Heap.SameBut.update ..))⟩))
 ·have hidx:=seqIndex_neg (n:=items.size) h0 (by lia)
  obtain⟨i,rfl⟩:∃j:Nat,k=Int.negSucc j:=by
   cases k with
   |ofNat n=>exact absurd h0 (Int.not_lt.mpr (Int.natCast_nonneg n))
   |negSucc n=>exact⟨n,rfl⟩
  show wpAny _ _ ((Builtin.List.listItems (.ref l) >>= λxs=>pure ((seqIndex? (Int.negSucc i) xs.size).bind λi=>xs[i]?.map (i,·))) >>= _) _ _ s
  refine wpAny_bind (wpAny_bind ?_)
  show wpAny _ _ (seqItems? (.ref l) >>= _) _ _ s
  refine wpAny_bind (wpAny_seqItems ho hd (wpAny_pure (wpAny_pure ?_)))
  have ee:((seqIndex? (Int.negSucc i) items.size).bind λi=>items[i]?.map (i,·))=some (j,items[j]):=by
   rw[hidx,show(Int.negSucc i+(items.size:Int)).toNat=j by rw[h1];rfl,Option.bind_some,hx',Option.map_some]
  rw[ee]
  show wpAny _ _ (setSeqItemAt l j v >>= _) _ _ s
  exact wpAny_bind (wpAny_setSeqItemAt ho hd (wpAny_pure ⟨.none,rfl,wpAny_pure (hQ _ hfin (Heap.SameBut.update ..))⟩))
end
section
variable {c:Cx}{sc:Scope}{d:Nat}
theorem KvR.set{α:Type}[DecidableEq α]{h:Heap}{φ:Phi}{ks:List (α×Value)}{ms:List (α×MV)}(x:KvR h φ ks ms)(k:α){v:Value}{m:MV}(r:VR h φ v m)(hn:(ks.map (·.1)).Nodup) :
  KvR h φ (stored ks k v) (xi ms k m):=by
 induction x with
 |nil=>exact .cons r .nil
 |@cons k' v' m' ks ms a q ih=>
  rw[List.map_cons,List.nodup_cons] at hn
  have e2:xi ((k',m')::ms) k m=if k'=k then (k',m)::ms else (k',m')::xi ms k m:=rfl
  rw[e2]
  by_cases hk:k'=k
  ·subst hk
   unfold stored
   simp only[List.any_cons,decide_true,Bool.true_or,if_true,List.map_cons]
   rw[map_store_of_not_mem ks _ v hn.1]
   exact .cons r q
  ·rw[if_neg hk]
   have:stored ((k',v')::ks) k v=(k',v')::stored ks k v:=by
    unfold stored
    simp only[List.any_cons,hk,decide_false,Bool.false_or,List.map_cons,if_false]
    split<;>rfl
   rw[this]
   exact .cons a (ih hn.2)
theorem KvR.length{α:Type}{h:Heap}{φ:Phi}{ks:List (α×Value)}{ms:List (α×MV)}(x:KvR h φ ks ms):ks.length=ms.length:=by
 induction x with
 |nil=>rfl
 |cons _ _ ih=>simp[ih]
theorem DictOf.nodup{K:Type}[DecidableEq K]{prog:Program}{w:World}{knd:KeyKind prog w K}{h:Heap}{a:Addr}{kvs:List (K×Value)}(x:h.DictOf knd a kvs):(kvs.map (·.1)).Nodup:=by
 obtain⟨_,_,_,_,h⟩:=x
 exact h.2.2.2.2
noncomputable def ZW(r:Nat)(o:Option MO)(i v:MV)(Q:MH->Prop)(mh:MH):Prop:=match o,i with
 |some (.list vs),.int k=>z7 k/\∃j:Nat,j<vs.length/\(k=j\/(k<0/\k+vs.length=j))/\Q (mh.set r (.list (vs.set j v)))
 |some (.idict ks),.int k=>ks.length<=BIG/\Q (mh.set r (.idict (xi ks k v)))
 |some (.sdict ks),.str x=>ks.length<=BIG/\Q (mh.set r (.sdict (xi ks x v)))
 |_,_=>False
noncomputable def zfj(a i v:MV)(Q:MH->Prop)(mh:MH):Prop:=match a with
 |.ref r=>ZW r mh[r]? i v Q mh
 |_=>False
theorem JB{r:Nat}{o:Option MO}{mi v:MV}{Q:MH->Prop}{mh:MH}(q:ZW r o mi v Q mh):(∃vs k,o=some (.list vs)/\mi=.int k)\/(∃ks k,o=some (.idict ks)/\mi=.int k)\/∃ks k,o=some (.sdict ks)/\mi=.str k:=by
 cases o with
 |none=>exact False.elim q
 |some o=>cases o with
  |list vs=>
   obtain⟨k,rfl⟩:=MV.is_int (P:=λi=>ZW r (some (.list vs)) i v Q mh) q id (λ_=>id) (λ_=>id) (λ_=>id) (λ_ _=>id) (λ_=>id) (λ_=>id)
   exact .inl ⟨vs,k,rfl,rfl⟩
  |idict vs=>
   obtain⟨k,rfl⟩:=MV.is_int (P:=λi=>ZW r (some (.idict vs)) i v Q mh) q id (λ_=>id) (λ_=>id) (λ_=>id) (λ_ _=>id) (λ_=>id) (λ_=>id)
   exact .inr (.inl ⟨vs,k,rfl,rfl⟩)
  |sdict ks=>cases mi with
   |str k=>exact .inr (.inr ⟨ks,k,rfl,rfl⟩)
   |_=>exact False.elim q
  |_=>exact False.elim q
theorem s5{h h':Heap}{a:Addr}{d:Option Addr}(x:Heap.SameBut a h h'):∀b ob,¬inP (a,d) b->h.get? b=some ob->h'.get? b=some ob:=
 λb ob hb e=>(x.2 b (λq=>hb (.inl q))).trans e
theorem zbi{A:Around}{φ:Phi}{mh:MH}{s:Shared}{a i v:Value}{mv:MV}{P:Unit->Shared->Prop}{E:Value->Shared->Prop}{r:Nat}{vs:List MV}{k:Int}{j:Nat}(H:c.Hp φ mh s.heap)(ra:VR s.heap φ a (.ref r))(ri:VR s.heap φ i (.int k))(rv:VR s.heap φ v mv)(e1:mh[r]?=some (.list vs))
  (k1:z7 k) (hj:j<vs.length) (hk:k=j\/(k<0/\k+vs.length=j))
  (o:∀h' tk,Ext φ φ s.heap h'->c.Hp φ (mh.set r (.list (vs.set j mv))) h'->P () { s with heap:=h',toks:=tk }):wpAny c.M A (setItem a i v) P E s:=by
 obtain⟨k1,k2⟩:=k1
 obtain⟨t,rfl⟩:=ri.inv_int
 obtain⟨a1,xs,n,rfl,g1,g,R⟩:=H.list_at ra e1
 have hl:=R.length
 refine YG (items:=xs.toArray) (j:=j) ⟨n,g⟩ ?_ (by lia) (by simp[hl];exact hj) λh' hp hs=>?_
 ·rcases hk with rfl|⟨h1,h2⟩
  ·exact .inl ⟨Int.natCast_nonneg _,rfl⟩
  ·exact .inr ⟨h1,by simp[hl];exact h2⟩
 ·obtain⟨n',g'⟩:=hp
  have hU:=H.update (h':=h') (o:=.list (vs.set j mv)) g1 (s5 hs) (λhv=>.list (n:=n') (vs:=xs.set j v) (by rw[g'];simp[zy]) ((VRs.map hv R).set (hv _ _ rv) j))
  exact o _ s.toks hU.2 hU.1
theorem JA{A:Around}{φ:Phi}{mh:MH}{s:Shared}{a i v:Value}{mv:MV}{P:Unit->Shared->Prop}{E:Value->Shared->Prop}{r:Nat}{ks:List (Int×MV)}{k:Int}(H:c.Hp φ mh s.heap)(ra:VR s.heap φ a (.ref r))(ri:VR s.heap φ i (.int k))(rv:VR s.heap φ v mv)(e1:mh[r]?=some (.idict ks))
  (hb:ks.length<=BIG)
  (o:∀h' tk,Ext φ φ s.heap h'->c.Hp φ (mh.set r (.idict (xi ks k mv))) h'->P () { s with heap:=h',toks:=tk }):wpAny c.M A (setItem a i v) P E s:=by
 obtain⟨t,rfl⟩:=ri.inv_int
 obtain⟨a1,kv,rfl,g1,D,R⟩:=H.idict_at ra e1
 refine wpAny_setItem_pairs (knd:=intKind c.prog c.w) (k:=k) (by simp[intKind,Value.isInt]) D (λh' hp hs=>?_) (by have:=R.length;exact yj (by lia))
 have hU:=H.update (h':=h') (o:=.idict (xi ks k mv)) g1 (s5 hs) (λhv=>.idict hp ((R.map hv).set k (hv _ _ rv) (DictOf.nodup D)))
 exact o _ _ hU.2 hU.1
theorem J9{A:Around}{φ:Phi}{mh:MH}{s:Shared}{a i v:Value}{mv:MV}{P:Unit->Shared->Prop}{E:Value->Shared->Prop}{r:Nat}{ks:List (Str×MV)}{k:Str}(H:c.Hp φ mh s.heap)(ra:VR s.heap φ a (.ref r))(ri:VR s.heap φ i (.str k))(rv:VR s.heap φ v mv)(e1:mh[r]?=some (.sdict ks))
  (hb:ks.length<=BIG)
  (o:∀h' tk,Ext φ φ s.heap h'->c.Hp φ (mh.set r (.sdict (xi ks k mv))) h'->P () { s with heap:=h',toks:=tk }):wpAny c.M A (setItem a i v) P E s:=by
 obtain⟨t,rfl⟩:=ri.inv_str
 obtain⟨a1,kv,rfl,g1,D,R⟩:=H.sdict_at ra e1
 refine wpAny_setItem_pairs (knd:=PySem.strKind c.prog c.w) (k:=k) (by simp[PySem.strKind,Value.isStrOf]) D (λh' hp hs=>?_) (by have:=R.length;exact yj (by lia))
 have hU:=H.update (h':=h') (o:=.sdict (xi ks k mv)) g1 (s5 hs) (λhv=>.sdict hp ((R.map hv).set k (hv _ _ rv) (DictOf.nodup D)))
 exact o _ _ hU.2 hU.1
theorem J8{A:Around}{φ:Phi}{mh:MH}{s:Shared}{a i v:Value}{ma mi mv:MV}{P:Unit->Shared->Prop}{E:Value->Shared->Prop}{Q:MH->Prop}
  (H:c.Hp φ mh s.heap) (ra:VR s.heap φ a ma) (ri:VR s.heap φ i mi) (rv:VR s.heap φ v mv) (q:zfj ma mi mv Q mh)
  (o:∀mh' h' tk,Q mh'->Ext φ φ s.heap h'->c.Hp φ mh' h'->P () { s with heap:=h',toks:=tk }):wpAny c.M A (setItem a i v) P E s:=by
 obtain⟨r,rfl⟩:=MV.is_ref (P:=λa=>zfj a mi mv Q mh) q id (λ_=>id) (λ_=>id) (λ_=>id) (λ_=>id) (λ_ _=>id) (λ_=>id)
 replace q:ZW r mh[r]? mi mv Q mh:=q
 rcases JB q with⟨vs,k,e1,rfl⟩|⟨ks,k,e1,rfl⟩|⟨ks,k,e1,rfl⟩
 ·rw[e1] at q
  obtain⟨k1,j,hj,hk,q⟩:=q
  exact zbi H ra ri rv e1 k1 hj hk λh' tk x H'=>o _ _ tk q x H'
 ·rw[e1] at q
  obtain⟨hb,q⟩:=q
  exact JA H ra ri rv e1 hb λh' tk x H'=>o _ _ tk q x H'
 ·rw[e1] at q
  obtain⟨hb,q⟩:=q
  exact J9 H ra ri rv e1 hb λh' tk x H'=>o _ _ tk q x H'
theorem Ext.outA{env:Env}{loc:Loc}{φ φ':Phi}{mh mh':MH}{s:Shared}{h':Heap}{tk:Nat}{Q:Loc->MH->Prop}{P:Unit->Shared->Prop}(o:U9 c env φ s Q P)(H:c.Hp φ mh s.heap)(F:FrR c env loc φ s.heap)
  (x:Ext φ φ' s.heap h') (H':c.Hp φ' mh' h') (q:Q loc mh'):P () { s with heap:=h',toks:=tk }:=
 o loc φ' mh' h' tk q (x.toF (zI F)) H' (F.ext H x)
noncomputable abbrev jS(ma mi:ME):MA:=λv Q loc mh=>ma loc (λa mh=>mi loc (λi mh=>zfj a i v (λmh=>Q loc mh) mh) mh) mh
theorem um{value slice:Expr}{pos:Pos}{ma mi:ME}(ha:SE c sc d value ma)(hi:SE c sc d slice mi):SA c sc d (.Subscript value slice pos) (jS ma mi):=
 λA env loc φ mh s v mv Q P E hr he H F r q o=>by
  rw[arm_assign_Subscript]
  refine wpAny_bind (wpAny_holding (wpAny_mono (ha A env loc φ mh s _ (λov s₁=>wpAny c.M A (eval slice env) (λiv s₂=>wpAny c.M A (setItem ov iv v) P E s₂) E s₁) E hr he H F q λa m1 φ1 mh1 h1 tk1 q1 x1 H1 r1=>?_) (λov s₁ hh=>?_) λ_ _ z=>z))
  ·refine hi A env loc φ1 mh1 _ _ _ E hr he H1 (F.ext H x1) q1 λb m2 φ2 mh2 h2 tk2 q2 x2 H2 r2=>?_
   refine J8 (s:={ s with heap:=h2,toks:=tk2 }) H2 (H1.vr x2 r1) r2 (H1.vr x2 (H.vr x1 r)) q2 λmh3 h3 tk3 q3 x3 H3=>?_
   exact Ext.outA (s:=s) o H F ((x1.trans x2).trans x3) H3 q3
  ·refine wpAny_bind (wpAny_holding (wpAny_mono hh (λiv s₂ h2=>?_) λ_ _ z=>z))
   exact wpAny_bind (wpAny_standAt (wpAny_bind (wpAny_holding (wpAny_mono h2 (λ_ _ z=>wpAny_release z) λ_ _ z=>z))))
end
noncomputable abbrev MS:=Loc->(Fl->Loc->MH->Prop)->MH->Prop
noncomputable def ze9(c:Cx)(env:Env)(φ:Phi)(s:Shared)(Q:Fl->Loc->MH->Prop)(P:Flow->Shared->Prop):Prop:=
 ∀fl m loc' φ' mh' h' tk,Q m loc' mh'->FlR h' φ' fl m->wk env φ φ' s.heap h'->c.Hp φ' mh' h'->FrR c env loc' φ' h'->P fl { s with heap:=h',toks:=tk }
noncomputable def SS(c:Cx)(sc:Scope)(d:Nat)(st:Stmt)(m:MS):Prop:=
 ∀(A:Around) (env:Env) (loc:Loc) (φ:Phi) (mh:MH) (s:Shared) (Q:Fl->Loc->MH->Prop) (P:Flow->Shared->Prop) (E:Value->Shared->Prop),
  xS A d->yz env sc->c.Hp φ mh s.heap->FrR c env loc φ s.heap->m loc Q mh->ze9 c env φ s Q P->wpAny c.M A (exec st env) P E s
noncomputable def SB(c:Cx)(sc:Scope)(d:Nat)(st:List Stmt)(m:MS):Prop:=
 ∀(A:Around) (env:Env) (loc:Loc) (φ:Phi) (mh:MH) (s:Shared) (Q:Fl->Loc->MH->Prop) (P:Flow->Shared->Prop) (E:Value->Shared->Prop),
  xS A d->yz env sc->c.Hp φ mh s.heap->FrR c env loc φ s.heap->m loc Q mh->ze9 c env φ s Q P->wpAny c.M A (execs st env) P E s
noncomputable def vE(sc:Scope):Env:={ scope:=sc,locals:=0,globals:=0,cells:=[] }
section
variable {c:Cx}{sc:Scope}{d:Nat}
theorem ze9.trans{env:Env}{φ φ':Phi}{s:Shared}{h':Heap}{tk:Nat}{Q:Fl->Loc->MH->Prop}{P:Flow->Shared->Prop}(o:ze9 c env φ s Q P)(x:wk env φ φ' s.heap h') :
  ze9 c env φ' { s with heap:=h',toks:=tk } Q P:=λfl m loc' φ'' mh'' h'' tk' q r e H F=>o fl m loc' φ'' mh'' h'' tk' q r (x.trans e) H F
theorem ZP{env:Env}(he:yz env sc)(value:Expr)(t:Option Expr)(line:Nat):swapsWith value t line env=swapsWith value t line (vE sc):=by
 unfold swapsWith Env.blockKind Env.kindOf vE
 rw[he.scope]
theorem qW{env:Env}(he:yz env sc)(ts:List Expr)(value:Expr)(line:Nat):swapsWithSole ts value line env=swapsWithSole ts value line (vE sc):=by
 cases ts with
 |nil=>rfl
 |cons t r=>cases r with
  |nil=>exact ZP he _ _ _
  |cons _ _=>rfl
theorem ZQ{env:Env}(he:yz env sc)(ts:List Expr)(value:Expr):swappedStores ts value env=swappedStores ts value (vE sc):=by
 unfold swappedStores Env.blockKind Env.kindOf vE
 rw[he.scope]
noncomputable abbrev wD(m:ME):MS:=λloc Q mh=>m loc (λ_ mh=>Q .next loc mh) mh
theorem yN{e:Expr}{pos:Pos}{m:ME}(hm:SE c sc d e m)(hs:swapsWith e none pos.line (vE sc)=pure false):SS c sc d (.Expr e pos) (wD m):=
 λA env loc φ mh s Q P E hr he H F q o=>by
  refine wpAny_Expr_any (hm A env loc φ mh s _ _ E hr he H F q λv mv φ' mh' h' tk q' x H' r=>?_) ?_ ((ZP he _ _ _).trans hs)
  ·exact o _ _ loc φ' mh' h' tk q' .next (x.toF (zI F)) H' (F.ext H x)
  ·unfold interactive;rw[he.scope,he.kind];rfl
noncomputable abbrev y4(m:ME):MS:=λloc Q mh=>m loc (λv mh=>Q (.ret v) loc mh) mh
theorem zj{e:Expr}{pos:Pos}{m:ME}(hm:SE c sc d e m):SS c sc d (.Return (some e) pos) (y4 m):=
 λA env loc φ mh s Q P E hr he H F q o=>wpAny_Return_some (hm A env loc φ mh s _ _ E hr he H F q λv mv φ' mh' h' tk q' x H' r=>
  o _ _ loc φ' mh' h' tk q' (.ret r) (x.toF (zI F)) H' (F.ext H x))
noncomputable abbrev zii:MS:=λloc Q mh=>Q (.ret .none) loc mh
theorem UE{pos:Pos}:SS c sc d (.Return none pos) zii:=
 λA env loc φ mh s Q P E hr he H F q o=>wpAny_Return_none (o _ _ loc φ mh s.heap s.toks q (.ret .none) ((Ext.refl _ _).toF (zI F)) H F)
noncomputable abbrev yG:MS:=λloc Q mh=>Q .next loc mh
noncomputable abbrev zk(m:ME)(a:MA):MS:=λloc Q mh=>m loc (λv mh=>a v (Q .next) loc mh) mh
theorem J5{t value:Expr}{pos:Pos}{m:ME}{a:MA}(hm:SE c sc d value m)(ha:SA c sc d t a)(hst:∀env,(assignEach [t] env).map (·.2)=[assign t env])
  (hs:swapsWith value (some t) pos.line (vE sc)=pure false) (hw:swappedStores [t] value (vE sc)=pure none):SS c sc d (.Assign [t] value pos) (zk m a):=
 λA env loc φ mh s Q P E hr he H F q o=>by
  refine wpAny_Assign_stores (hm A env loc φ mh s _ _ E hr he H F q λv mv φ' mh' h' tk q' x H' r=>?_) ((qW he _ _ _).trans hs) ((ZQ he _ _).trans hw)
  rw[hst]
  show wpAny _ _ (assign t env v) _ _ _
  refine ha A env loc φ' mh' { s with heap:=h',toks:=tk } v mv _ _ E hr he H' (F.ext H x) r q' λloc'' φ'' mh'' h'' tk' q'' x'' H'' F''=>?_
  exact o _ _ loc'' φ'' mh'' h'' tk' q'' .next ((x.toF (zI F)).trans x'') H'' F''
theorem K3{xs:List Str}(hk:∀x∈xs,sc.names.lookup x=some .local\/sc.names.lookup x=some .cell) :
  ∀{A:Around}{env:Env}{loc:Loc}{φ:Phi}{mh:MH}{s:Shared}{vs:List Value}{ms:List MV}{Q:Loc->MH->Prop}{P:Unit->Shared->Prop}{E:Value->Shared->Prop},
  yz env sc->c.Hp φ mh s.heap->FrR c env loc φ s.heap->VRs s.heap φ vs ms->Q (xU xs ms loc) mh->U9 c env φ s Q P->
  wpAny c.M A (assignInOrder (xs.map λn=>bindName env n) vs) P E s:=by
 induction xs with
 |nil=>
  intro A env loc φ mh s vs ms Q P E he H F r q o
  have:assignInOrder (([]:List Str).map λn=>bindName env n) vs=pure ():=by show assignInOrder [] vs=_;cases vs<;>rfl
  rw[this]
  exact wpAny_pure (o loc φ mh s.heap s.toks q ((Ext.refl _ _).toF (zI F)) H F)
 |cons x xs ih=>
  intro A env loc φ mh s vs ms Q P E he H F r q o
  cases vs with
  |nil=>
   cases r.inv_vnil
   exact wpAny_pure (o loc φ mh s.heap s.toks q ((Ext.refl _ _).toF (zI F)) H F)
  |cons v vs=>
   obtain⟨m,ms,rfl,r,rs⟩:=r.inv_vcons
   show wpAny c.M A (do holding vs (bindName env x v);assignInOrder (xs.map λn=>bindName env n) vs) P E s
   refine wpAny_bind (wpAny_holding (jW (Q:=λloc' mh'=>loc'=upd loc x m/\mh'=mh) he (hk x (.head _)) H F r ⟨rfl,rfl⟩ λloc' φ' mh' h' tk q1 x1 H1 F1=>?_))
   obtain⟨rfl,rfl⟩:=q1
   exact ih (λz hz=>hk z (.tail _ hz)) he H1 F1 (rs.keepF x1 (Zz H F)) q (o.trans x1)
theorem VRs.reverse{h:Heap}{φ:Phi}{vs:List Value}{ms:List MV}(x:VRs h φ vs ms):VRs h φ vs.reverse ms.reverse:=by
 induction vs generalizing ms with
 |nil=>cases x;exact .nil
 |cons v vs ih=>
  cases x with
  |cons a r=>simp only[List.reverse_cons];exact(ih r).append (.one a)
noncomputable def qm(m:ME)(xs:List Str):MS:=λloc Q mh=>m loc (λv mh=>∃vs,v=.tuple vs/\vs.length=xs.length/\Q .next (xU xs.reverse vs.reverse loc) mh) mh
theorem uZ{ts:List Expr}{value:Expr}{pos:Pos}{m:ME}{xs:List Str}(hm:SE c sc d value m)
  (hs:swapsWithSole ts value pos.line (vE sc)=pure false) (hw:swappedStores ts value (vE sc)=pure (some xs)) (hk:∀x∈xs,sc.names.lookup x=some .local\/sc.names.lookup x=some .cell) :
  SS c sc d (.Assign ts value pos) (qm m xs):=
 λA env loc φ mh s Q P E hr he H F q o=>by
  rw[exec_Assign_arm]
  refine wpAny_bind (wpAny_standAt ?_)
  rw[(qW he _ _ _).trans hs]
  refine wpAny_bind (wpAny_pure ?_)
  rw[if_neg (by decide)]
  refine wpAny_bind (hm A env loc φ mh s _ _ E hr he H F q λv mv φ' mh' h' tk q' x H' r=>?_)
  rw[(ZQ he _ _).trans hw]
  refine wpAny_bind (wpAny_pure ?_)
  obtain⟨vs,rfl,hl,q'⟩:=q'
  cases r with
  |@tuple a ws n _ g rs=>
   have hl':=rs.length
   show wpAny _ _ (do rule "assign.swapped-stores";let items <-unpackItems (.ref a) xs.length none;assignInOrder (xs.reverse.map λn=>bindName env n) items.reverse;pure Flow.next) _ _ _
   refine wpAny_bind (wpAny_rule (wpAny_bind ?_))
   rw[show xs.length=ws.toArray.size by simp;lia]
   refine wpAny_unpackItems_tuple (items:=ws.toArray) hr.handled ⟨_,g,rfl,n,rfl⟩ λh2 hext=>?_
   have hk':∀b o,h'.get? b=some o->h2.get? b=some o:=λb o e=>hext b o (Nat.ne_of_lt (Heap.lt_size e)) e
   have hE:=Ext.of_keep (φ:=φ') hk'
   have F1:=F.ext H x
   refine wpAny_bind (K3 (Q:=λloc' mh'=>Q .next loc' mh') (loc:=loc) (xs:=xs.reverse) (λz hz=>hk z (by simpa using hz)) he (H'.keep hk') (F1.ext H' hE) (ms:=vs.reverse) ?_ q' ?_)
   ·simp only
    exact(H'.vrs hE rs).reverse
   ·intro loc3 φ3 mh3 h3 tk3 q3 x3 H3 F3
    exact wpAny_pure (o _ _ loc3 φ3 mh3 h3 tk3 q3 .next (((x.toF (zI F)).trans (hE.toF (zI F1))).trans x3) H3 F3)
noncomputable def zA(m:MS)(n:MS):MS:=λloc Q mh=>m loc (λfl loc mh=>match fl with|.next=>n loc Q mh|.ret v=>Q (.ret v) loc mh) mh
theorem yk:SB c sc d [] yG:=
 λA env loc φ mh s Q P E hr he H F q o=>wpAny_execs_nil (o _ _ loc φ mh s.heap s.toks q .next ((Ext.refl _ _).toF (zI F)) H F)
theorem ze{st:Stmt}{rest:List Stmt}{m n:MS}(h1:SS c sc d st m)(h2:SB c sc d rest n):SB c sc d (st::rest) (zA m n):=
 λA env loc φ mh s Q P E hr he H F q o=>by
  refine wpAny_execs_cons (h1 A env loc φ mh s _ _ E hr he H F q λfl m loc' φ' mh' h' tk q' r x H' F'=>?_)
  cases r with
  |next=>exact h2 A env loc' φ' mh' _ Q P E hr he H' F' q' (o.trans x)
  |ret r=>exact o _ _ loc' φ' mh' h' tk q' (.ret r) x H' F'
theorem zl{st:Stmt}{m:MS}(h1:SS c sc d st m):SB c sc d [st] m:=
 λA env loc φ mh s Q P E hr he H F q o=>by
  refine wpAny_execs_cons (h1 A env loc φ mh s _ _ E hr he H F q λfl m loc' φ' mh' h' tk q' r x H' F'=>?_)
  cases r with
  |next=>exact wpAny_execs_nil (o _ _ loc' φ' mh' h' tk q' .next x H' F')
  |ret r=>exact o _ _ loc' φ' mh' h' tk q' (.ret r) x H' F'
noncomputable abbrev sIf(t:MT)(m n:MS):MS:=λloc Q mh=>t loc (λb mh=>if b=true then m loc Q mh else n loc Q mh) mh
theorem yF{test:Expr}{body orelse:List Stmt}{pos:Pos}{t:MT}{m n:MS}(ht:ST c sc d test t)(hb:SB c sc d body m)(ho:SB c sc d orelse n):SS c sc d (.If test body orelse pos) (sIf t m n):=
 λA env loc φ mh s Q P E hr he H F q o=>by
  refine wpAny_If (ht A env loc φ mh s _ _ E hr he H F q λb φ' mh' h' tk q' x H'=>?_)
  cases b with
  |true=>simp only[if_true] at q' ⊢;exact hb A env loc φ' mh' _ Q P E hr he H' (F.ext H x) q' (o.trans (x.toF (zI F)))
  |false=>simp only[Bool.false_eq_true,if_false] at q' ⊢;exact ho A env loc φ' mh' _ Q P E hr he H' (F.ext H x) q' (o.trans (x.toF (zI F)))
end
inductive MIt where
 |val (x:MV)
 |enum (r:Nat)
noncomputable def wd(a b:Int):List MV:=(List.range (b-a).toNat).map λ(i:Nat)=>.int (a+i)
noncomputable def wN(ws:List MV):List MV:=ws.zipIdx.map λp=>.tuple [.int (p.2:Nat),p.1]
noncomputable def xc(x:MIt)(vs:List MV)(mh:MH):Prop:=match x with
 |.val (.tuple ws)=>vs=ws
 |.val (.range a b)=>z7 a/\z7 b/\vs=wd a b
 |.val (.ref r)=>mh[r]?=some (.list vs)
 |.enum r=>∃ws,mh[r]?=some (.list ws)/\vs=wN ws
 |_=>False
structure yA(c:Cx)(env:Env)(φ:Phi)(h:Heap)(own:List Addr):Prop where
 phi:∀a∈own,a∉z8 φ
 base:∀a∈own,c.hB.get? a=none
 loc:∀a∈own,a≠env.locals
 cell:∀a∈own,∀x b,env.cells.lookup x=some b->a≠b
 muts:∀a∈own,∃o,h.get? a=some o/\yP o
section
variable {c:Cx}{sc:Scope}{d:Nat}{env:Env}{loc:Loc}{φ φ':Phi}{mh:MH}{h h':Heap}{own:List Addr}
theorem xH(ap:yA c env φ h own)(k:∀b o,b∉own->h.get? b=some o->h'.get? b=some o):sq φ φ h h':=
 ⟨List.prefix_rfl,λb o hm e=>k b o (λhb=>by obtain⟨o',e',hm'⟩:=ap.muts b hb;rw[e'] at e;cases e;exact hm hm') e⟩
theorem wE(H:c.Hp φ mh h)(F:FrR c env loc φ h)(ap:yA c env φ h own)(k:∀b o,b∉own->h.get? b=some o->h'.get? b=some o) :
  c.Hp φ mh h'/\FrR c env loc φ h':=by
 have KI:=xH ap k
 obtain⟨⟨m,hn,hl⟩,hc,ho,ha,f1,f2,f3,f4,f5⟩:=F
 refine⟨⟨λb o e=>k b o (λhb=>by have:=ap.base b hb;rw[e] at this;cases this) (H.base b o e),H.len,λi o p e1 e2=>?_,H.nodup,H.off⟩,
  ⟨⟨m,qo hn λo e=>k _ o (λhb=>ap.loc _ hb rfl) e,λy v e ky=>?_⟩,λy v e ky=>?_,ho,λy b e=>?_,f1,f2,f3,f4,f5⟩⟩
 ·exact(H.objs i o p e1 e2).keep (λb ob hb e=>k b ob (λhq=>ap.phi b hq (wf.mpr ⟨p,List.mem_of_getElem? e2,hb⟩)) e) λv m r=>r.keepI KI
 ·obtain⟨a,e1,r⟩:=hl y v e ky
  exact⟨a,e1,r.keepI KI⟩
 ·obtain⟨b,a,e1,⟨o,eo,ed⟩,r⟩:=hc y v e ky
  exact⟨b,a,e1,⟨o,k _ o (λhb=>ap.cell _ hb y b e1 rfl) eo,ed⟩,r.keepI KI⟩
 ·obtain⟨o,ob,eo,ed⟩:=ha y b e
  exact⟨o,ob,k _ ob (λhb=>ap.cell _ hb y b e rfl) eo,ed⟩
inductive ItR(h:Heap)(φ:Phi):List Addr->Addr->MIt->Nat->Prop
 |tuple {I t:Addr}{i:Nat}{vs:List Value}{n:Nat}{ws:List MV}:h.IsTupleIter I t i->h.get? t=some (ui vs n)->VRs h φ vs ws->ItR h φ [I] I (.val (.tuple ws)) i
 |range {I:Addr}{i:Nat}{a b:Int}:IsRangeIter h I (a+i) ((b-a).toNat-i) 1->ItR h φ [I] I (.val (.range a b)) i
 |list {I l:Addr}{i r:Nat}:φ[r]?=some (l,none)->h.IsListIter I l i->ItR h φ [I] I (.val (.ref r)) i
 |enum {I J l:Addr}{i r:Nat}{old:Value}:I≠J->φ[r]?=some (l,none)->IsEnum h I J i old->h.IsListIter J l i->ItR h φ [I,J] I (.enum r) i
theorem Vm{h:Heap}{I t:Addr}{i:Nat}(x:h.IsTupleIter I t i):∃o,h.get? I=some o/\yP o:=by
 obtain⟨o,e,hc,_⟩:=x;exact⟨o,e,x9 hc (by decide) (by decide)⟩
theorem Zg{h:Heap}{I t:Addr}{i:Nat}(x:h.IsListIter I t i):∃o,h.get? I=some o/\yP o:=by
 obtain⟨o,e,hc,_⟩:=x;exact⟨o,e,x9 hc (by decide) (by decide)⟩
theorem ItR.get{h:Heap}{φ:Phi}{own:List Addr}{I:Addr}{x:MIt}{i:Nat}(r:ItR h φ own I x i):∀a∈own,∃o,h.get? a=some o/\yP o:=by
 intro a ha
 cases r with
 |tuple t _ _=>obtain rfl:=List.mem_singleton.mp ha;exact Vm t
 |range t=>obtain rfl:=List.mem_singleton.mp ha;exact⟨_,t,x9 rfl (by decide) (by decide)⟩
 |list _ t=>obtain rfl:=List.mem_singleton.mp ha;exact Zg t
 |enum _ _ t u=>
  rcases List.mem_cons.mp ha with rfl|ha
  ·exact⟨_,t,x9 rfl (by decide) (by decide)⟩
  ·obtain rfl:=List.mem_singleton.mp ha
   exact Zg u
theorem ItR.keep{I:Addr}{x:MIt}{i:Nat}(x1:ItR h φ own I x i)(KI:sq φ φ' h h')(ho:∀a∈own,∀o,h.get? a=some o->h'.get? a=some o):ItR h' φ' own I x i:=by
 cases x1 with
 |tuple a b r=>exact .tuple (a.at λo e=>ho _ (.head _) o e) (KI.keep _ _ qC b) (r.keepI KI)
 |range a=>exact .range (ho _ (.head _) _ a)
 |list a b=>exact .list (q8 KI.pre a) (b.at λo e=>ho _ (.head _) o e)
 |enum n a b e=>exact .enum n (q8 KI.pre a) (ho _ (.head _) _ b) (e.at λo e=>ho _ (.tail _ (.head _)) o e)
noncomputable def znt(h:Heap)(φ:Phi)(own:List Addr)(I:Addr)(i:Nat):MIt->Prop
 |.val (.tuple ws)=>∃t vs n,N4 (own=[I]) (h.IsTupleIter I t i) (h.get? t=some (ui vs n)) (VRs h φ vs ws)
 |.val (.range a b)=>own=[I]/\IsRangeIter h I (a+i) ((b-a).toNat-i) 1
 |.val (.ref r)=>∃l,N3 (own=[I]) (φ[r]?=some (l,none)) (h.IsListIter I l i)
 |.enum r=>X3 λJ l old=>N5 (own=[I,J]) (I≠J) (φ[r]?=some (l,none)) (IsEnum h I J i old) (h.IsListIter J l i)
 |_=>False
theorem ItR.view{I:Addr}{x:MIt}{i:Nat}(x1:ItR h φ own I x i):znt h φ own I i x:=
 @ItR.casesOn h φ (λown I x i _=>znt h φ own I i x) own I x i x1 (λa b r=>⟨_,_,_,rfl,a,b,r⟩) (λa=>⟨rfl,a⟩) (λa b=>⟨_,rfl,a,b⟩) (λn a b e=>⟨_,_,_,rfl,n,a,b,e⟩)
theorem XE{x:MIt}{vs:List MV}{mh:MH}(ok:xc x vs mh){G:Prop}(g1:x=.val (.tuple vs)->G)(g2:∀a b,x=.val (.range a b)->vs=wd a b->G)(g3:∀r,x=.val (.ref r)->mh[r]?=some (.list vs)->G)
  (g4:∀r ms,x=.enum r->mh[r]?=some (.list ms)->vs=wN ms->G):G:=by
 cases x with
 |val mv=>
  rcases MV.is_src (P:=λv=>xc (.val v) vs mh) ok id (λ_=>id) (λ_=>id) (λ_=>id) (λ_=>id) with⟨ms,rfl⟩|⟨x,y,rfl⟩|⟨i,rfl⟩
  ·exact g1 (by rw[show vs=ms from ok])
  ·exact g2 x y rfl ok.2.2
  ·exact g3 i rfl ok
 |enum r=>obtain⟨ms,e,h⟩:=(ok:∃ws,mh[r]?=some (.list ws)/\vs=wN ws);exact g4 r ms rfl e h
theorem Va{h h':Heap}{I:Addr}(hs:Heap.SameBut I h h'):∀b ob,b∉[I]->h.get? b=some ob->h'.get? b=some ob:=λb ob hb e=>(hs.2 b (λq=>hb (List.mem_singleton.mpr q))).trans e
theorem V1{a b:Int}{i:Nat}{m:MV}(e:(wd a b)[i]?=some m):i<(b-a).toNat/\m=.int (a+i):=by
 unfold wd at e
 rw[List.getElem?_map] at e
 obtain⟨x,e1,rfl⟩:=Option.map_eq_some_iff.mp e
 have h1:=List.getElem?_range (n:=(b-a).toNat) (i:=i)
 by_cases hi:i<(b-a).toNat
 ·rw[List.getElem?_range hi] at e1;cases e1;exact⟨hi,rfl⟩
 ·rw[List.getElem?_eq_none (by simpa using hi)] at e1;cases e1
theorem tJ(a b:Int):(wd a b).length=(b-a).toNat:=by simp[wd]
theorem zal{ws:List MV}{i:Nat}{m:MV}(e:(wN ws)[i]?=some m):∃w,ws[i]?=some w/\m=.tuple [.int (i:Nat),w]:=by
 unfold wN at e
 rw[List.getElem?_map,List.getElem?_zipIdx] at e
 obtain⟨x,e1,rfl⟩:=Option.map_eq_some_iff.mp e
 obtain⟨w,e2,rfl⟩:=Option.map_eq_some_iff.mp e1
 exact⟨w,e2,by simp⟩
theorem WD(ws:List MV):(wN ws).length=ws.length:=by simp[wN]
theorem zc2{A:Around}{s:Shared}{tgt:Expr}{I:Addr}{v:Value}{o:Obj}{P:Unit->Shared->Prop}{E:Value->Shared->Prop}(e:s.heap.get? I=some o)(T:String)(hc:o.cls=.type T)
  (hT:(["enumerate","zip","dict_itemiterator","dict_reverseitemiterator","odict_iterator","itertools.zip_longest","itertools.pairwise"].contains T)=false) (q:P () s) :
  wpAny c.M A (letOwnedTupleGo tgt (.ref I) v) P E s:=by
 have main:wpAny c.M A (do
   let (.ref r,.ref a):=((.ref I:Value),v)|return
   let o <-load r
   match o.cls,o.data with
   |.type n,.fields vs=>
    if ["enumerate","zip","dict_itemiterator","dict_reverseitemiterator","odict_iterator","itertools.zip_longest","itertools.pairwise"].contains n && vs[0]? == some (rawInt a) then
     rule "for.unpacks-the-owned-tuple"
     updateField r 0 .none
   |_,_=>pure ()) P E s:=by
  cases v<;>try exact wpAny_pure q
  refine wpAny_bind (wpAny_load e ?_)
  rw[hc]
  cases o.data<;>try exact wpAny_pure q
  dsimp only
  rw[hT]
  simp only[Bool.false_and,Bool.false_eq_true,if_false]
  exact wpAny_pure q
 unfold letOwnedTupleGo
 cases tgt<;>first|exact wpAny_pure q|exact main
theorem Vn{h:Heap}{I t:Addr}{i:Nat}(x:h.IsTupleIter I t i):∃o,h.get? I=some o/\o.cls=.type "tuple_iterator":=by obtain⟨o,e,hc,_⟩:=x;exact⟨o,e,hc⟩
theorem VQ{h:Heap}{I t:Addr}{i:Nat}(x:h.IsListIter I t i):∃o,h.get? I=some o/\o.cls=.type "list_iterator":=by obtain⟨o,e,hc,_⟩:=x;exact⟨o,e,hc⟩
theorem W6{A:Around}{s:Shared}{tgt:Expr}{I:Addr}{v:Value}{P:Unit->Shared->Prop}{E:Value->Shared->Prop}{T:String}(e:∃o,s.heap.get? I=some o/\o.cls=.type T)
  (hT:(["enumerate","zip","dict_itemiterator","dict_reverseitemiterator","odict_iterator","itertools.zip_longest","itertools.pairwise"].contains T)=false) (q:P () s) :
  wpAny c.M A (letOwnedTupleGo tgt (.ref I) v) P E s:=by obtain⟨o,e,hc⟩:=e;exact zc2 e T hc hT q
theorem zcq{A:Around}{s:Shared}{I:Addr}{i:Nat}{mv:MV}{tgt:Expr}{P:Value->Shared->Prop}{E:Value->Shared->Prop}{vs:List MV}  (ap:yA c env φ s.heap own) (x1:ItR s.heap φ own I (.val (.tuple vs)) i) (e:vs[i]?=some mv)
  (o:∀v h' tk,VR h' φ v mv->ItR h' φ own I (.val (.tuple vs)) (i+1)->(∀b ob,b∉own->s.heap.get? b=some ob->h'.get? b=some ob)->P v { s with heap:=h',toks:=tk }):wpAny c.M A (pyNext (.ref I)) (λr s1=>∃v,r=some v/\wpAny c.M A (letOwnedTupleGo tgt (.ref I) v) (λ_ s2=>P v s2) E s1) E s:=by
 obtain⟨t,ws,n,rfl,a,b,r⟩:=x1.view
 obtain⟨v,ev,rv⟩:=r.get e
 refine wpAny_pyNext_tuple_item (items:=ws.toArray) a ⟨_,b,rfl,n,rfl⟩ (x:=v) (by simpa using ev) λh' hi hs=>⟨v,rfl,?_⟩
 have k:=Va hs
 have KI:=xH ap k
 refine W6 (Vn hi) (by decide) ?_
 exact o v h' s.toks (rv.keepI KI) (.tuple hi (KI.keep _ _ qC b) (r.keepI KI)) k
theorem zcr{A:Around}{s:Shared}{I:Addr}{i:Nat}{mv:MV}{tgt:Expr}{P:Value->Shared->Prop}{E:Value->Shared->Prop}{x y:Int}  (ap:yA c env φ s.heap own) (x1:ItR s.heap φ own I (.val (.range x y)) i) (e:(wd x y)[i]?=some mv)
  (o:∀v h' tk,VR h' φ v mv->ItR h' φ own I (.val (.range x y)) (i+1)->(∀b ob,b∉own->s.heap.get? b=some ob->h'.get? b=some ob)->P v { s with heap:=h',toks:=tk }):wpAny c.M A (pyNext (.ref I)) (λr s1=>∃v,r=some v/\wpAny c.M A (letOwnedTupleGo tgt (.ref I) v) (λ_ s2=>P v s2) E s1) E s:=by
 obtain⟨rfl,ra⟩:=x1.view
 obtain⟨hi,rfl⟩:=V1 e
 refine wpAny_pyNext_range_item ra (by lia) λh' hi' hs=>⟨_,rfl,?_⟩
 refine W6 ⟨_,hi',rfl⟩ (T:="range_iterator") (by decide) ?_
 refine o _ h' _ (.int _ _) (.range ?_) (Va hs)
 rw[show x+((i+1:Nat):Int)=x+i+1 by lia,show((y-x).toNat:Int)-((i+1:Nat):Int)=(y-x).toNat-i-1 by lia]
 exact hi'
theorem zga{A:Around}{s:Shared}{I:Addr}{i:Nat}{mv:MV}{tgt:Expr}{P:Value->Shared->Prop}{E:Value->Shared->Prop}{r:Nat}{vs:List MV}(H:c.Hp φ mh s.heap)(e1:mh[r]?=some (.list vs))(ap:yA c env φ s.heap own)(x1:ItR s.heap φ own I (.val (.ref r)) i)(e:vs[i]?=some mv)
  (o:∀v h' tk,VR h' φ v mv->ItR h' φ own I (.val (.ref r)) (i+1)->(∀b ob,b∉own->s.heap.get? b=some ob->h'.get? b=some ob)->P v { s with heap:=h',toks:=tk }):wpAny c.M A (pyNext (.ref I)) (λr s1=>∃v,r=some v/\wpAny c.M A (letOwnedTupleGo tgt (.ref I) v) (λ_ s2=>P v s2) E s1) E s:=by
 obtain⟨l,rfl,hr,hi⟩:=x1.view
 obtain⟨ws,n,_,g,rs⟩:=(H.objs _ _ _ e1 hr).inv_list
 obtain⟨v,ev,rv⟩:=rs.get e
 refine wpAny_pyNext_list_item (items:=ws.toArray) hi ⟨_,g,rfl,n,rfl⟩ (x:=v) (by simpa using ev) λh' hi hs=>⟨v,rfl,?_⟩
 have k:=Va hs
 refine W6 (VQ hi) (by decide) ?_
 exact o v h' s.toks (rv.keepI (xH ap k)) (.list hr hi) k
theorem zgb{A:Around}{s:Shared}{I:Addr}{i:Nat}{mv:MV}{tgt:Expr}{P:Value->Shared->Prop}{E:Value->Shared->Prop}{r:Nat}{ms:List MV}(H:c.Hp φ mh s.heap)(e1:mh[r]?=some (.list ms))(hen:∃es k p,tgt=.Tuple es k p)(ap:yA c env φ s.heap own)(x1:ItR s.heap φ own I (.enum r) i)(e:(wN ms)[i]?=some mv)
  (o:∀v h' tk,VR h' φ v mv->ItR h' φ own I (.enum r) (i+1)->(∀b ob,b∉own->s.heap.get? b=some ob->h'.get? b=some ob)->P v { s with heap:=h',toks:=tk }):wpAny c.M A (pyNext (.ref I)) (λr s1=>∃v,r=some v/\wpAny c.M A (letOwnedTupleGo tgt (.ref I) v) (λ_ s2=>P v s2) E s1) E s:=by
 obtain⟨J,l,old,rfl,hne,hr,he,hi⟩:=x1.view
 obtain⟨es,kk,pp,rfl⟩:=hen
 obtain⟨ws,n,_,g,rs⟩:=(H.objs _ _ _ e1 hr).inv_list
 obtain⟨w,ew,rfl⟩:=zal e
 obtain⟨v,ev,rv⟩:=rs.get ew
 refine wpAny_pyNext_enum_item (items:=ws.toArray) he hi ⟨_,g,rfl,n,rfl⟩ (x:=v) (by simpa using ev) hne λh' ho' hit' hT hsz hk=>⟨_,rfl,?_⟩
 refine wpAny_letOwnedTupleGo_enum ho' λh2 he2 hs2=>?_
 have k:∀b ob,b∉[I,J]->s.heap.get? b=some ob->h2.get? b=some ob:=λb ob hb e=>by
  simp at hb
  exact(hs2.2 b hb.1).trans (hk b ob hb.1 hb.2 e)
 have KI:=xH ap k
 have hlt:I<s.heap.objs.size:=Heap.lt_size he
 exact o _ h2 _ (.tuple (n:=0) (vs:=[.int i s.toks,v]) ((hs2.2 _ (Nat.ne_of_gt hlt)).trans (by simpa[ui] using hT)) (.cons (.int _ _) (.one (rv.keepI KI)))) (.enum hne hr (by simpa using he2) (hit'.at λo e=>(hs2.2 _ hne.symm).trans e)) k
theorem Jd{A:Around}{s:Shared}{I:Addr}{x:MIt}{i:Nat}{vs:List MV}{mv:MV}{tgt:Expr}{P:Value->Shared->Prop}{E:Value->Shared->Prop}{t1:Bool}
  (hen:(∃es k p,tgt=.Tuple es k p)\/∀r,x≠.enum r) (H:c.Hp φ mh s.heap) (ap:yA c env φ s.heap own) (x1:ItR s.heap φ own I x i) (ok:xc x vs mh) (e:vs[i]?=some mv)
  (o:∀v h' tk,VR h' φ v mv->ItR h' φ own I x (i+1)->(∀b ob,b∉own->s.heap.get? b=some ob->h'.get? b=some ob)->P v { s with heap:=h',toks:=tk }) :
  wpAny c.M A (pyNext (.ref I)) (λr s1=>∃v,r=some v/\wpAny c.M A (letOwnedTupleGo tgt (.ref I) v) (λ_ s2=>P v s2) E s1) E s:=
 XE ok (λhx=>zcq ap (hx▸x1) e λv h' tk r it k=>o v h' tk r (hx▸it) k) (λa b hx hv=>zcr ap (hx▸x1) (hv▸e) λv h' tk r it k=>o v h' tk r (hx▸it) k)
  (λr hx e1=>zga H e1 ap (hx▸x1) e λv h' tk r it k=>o v h' tk r (hx▸it) k)
  (λr ms hx e1 hv=>zgb H e1 (hen.resolve_right λhh=>hh r hx) ap (hx▸x1) (hv▸e) λv h' tk r it k=>o v h' tk r (hx▸it) k)
theorem zam{A:Around}{s:Shared}{I:Addr}{i:Nat}{P:Option Value->Shared->Prop}{E:Value->Shared->Prop}{vs:List MV}(hh:A.handled=none)  (x1:ItR s.heap φ own I (.val (.tuple vs)) i) (e:i=vs.length)
  (o:∀h' tk,(∀b ob,b∉own->s.heap.get? b=some ob->h'.get? b=some ob)->P none { s with heap:=h',toks:=tk }):wpAny c.M A (pyNext (.ref I)) P E s:=by
 obtain⟨t,ws,n,rfl,a,b,r⟩:=x1.view
 exact wpAny_pyNext_tuple_end (items:=ws.toArray) hh a ⟨_,b,rfl,n,rfl⟩ (by simp[r.length,e]) λh' hs=>o h' s.toks λb ob hb e=>hs b ob (by simpa using hb) e
theorem zan{A:Around}{s:Shared}{I:Addr}{i:Nat}{P:Option Value->Shared->Prop}{E:Value->Shared->Prop}{x y:Int}(hh:A.handled=none)  (x1:ItR s.heap φ own I (.val (.range x y)) i) (e:i=(wd x y).length)
  (o:∀h' tk,(∀b ob,b∉own->s.heap.get? b=some ob->h'.get? b=some ob)->P none { s with heap:=h',toks:=tk }):wpAny c.M A (pyNext (.ref I)) P E s:=by
 obtain⟨rfl,ra⟩:=x1.view
 rw[tJ] at e
 exact wpAny_pyNext_range_end hh ra (by lia) λh' hs=>o h' s.toks λb ob hb e=>hs b ob (by simpa using hb) e
theorem zdf{A:Around}{s:Shared}{I:Addr}{i:Nat}{P:Option Value->Shared->Prop}{E:Value->Shared->Prop}{r:Nat}{vs:List MV}(hh:A.handled=none)(H:c.Hp φ mh s.heap)(e1:mh[r]?=some (.list vs))(x1:ItR s.heap φ own I (.val (.ref r)) i)(e:i=vs.length)
  (o:∀h' tk,(∀b ob,b∉own->s.heap.get? b=some ob->h'.get? b=some ob)->P none { s with heap:=h',toks:=tk }):wpAny c.M A (pyNext (.ref I)) P E s:=by
 obtain⟨l,rfl,hr,hi⟩:=x1.view
 obtain⟨ws,n,_,g,rs⟩:=(H.objs _ _ _ e1 hr).inv_list
 exact wpAny_pyNext_list_end (items:=ws.toArray) hh hi ⟨_,g,rfl,n,rfl⟩ (by simp[rs.length,e]) λh' hs=>o h' s.toks λb ob hb e=>hs b ob (by simpa using hb) e
theorem zdg{A:Around}{s:Shared}{I:Addr}{i:Nat}{P:Option Value->Shared->Prop}{E:Value->Shared->Prop}{r:Nat}{ms:List MV}(hh:A.handled=none)(H:c.Hp φ mh s.heap)(e1:mh[r]?=some (.list ms))(x1:ItR s.heap φ own I (.enum r) i)(e:i=(wN ms).length)
  (o:∀h' tk,(∀b ob,b∉own->s.heap.get? b=some ob->h'.get? b=some ob)->P none { s with heap:=h',toks:=tk }):wpAny c.M A (pyNext (.ref I)) P E s:=by
 obtain⟨J,l,old,rfl,hne,hr,he,hi⟩:=x1.view
 rw[WD] at e
 obtain⟨ws,n,_,g,rs⟩:=(H.objs _ _ _ e1 hr).inv_list
 exact wpAny_pyNext_enum_end (items:=ws.toArray) hh he hi ⟨_,g,rfl,n,rfl⟩ (by simp[rs.length,e]) λh' hs=>o h' s.toks λb ob hb e=>hs b ob (by simp at hb;exact hb.2) e
theorem zcs{A:Around}{s:Shared}{I:Addr}{x:MIt}{i:Nat}{vs:List MV}{P:Option Value->Shared->Prop}{E:Value->Shared->Prop}(hh:A.handled=none)
  (H:c.Hp φ mh s.heap) (ap:yA c env φ s.heap own) (x1:ItR s.heap φ own I x i) (ok:xc x vs mh) (e:i=vs.length)
  (o:∀h' tk,(∀b ob,b∉own->s.heap.get? b=some ob->h'.get? b=some ob)->P none { s with heap:=h',toks:=tk }) :
  wpAny c.M A (pyNext (.ref I)) P E s:=
 XE ok (λhx=>zam hh (hx▸x1) e o) (λa b hx hv=>zan hh (hx▸x1) (hv▸e) o) (λr hx e1=>zdf hh H e1 (hx▸x1) e o) (λr ms hx e1 hv=>zdg hh H e1 (hx▸x1) (hv▸e) o)
end
noncomputable abbrev MI:=Loc->(MIt->MH->Prop)->MH->Prop
noncomputable def SI(c:Cx)(sc:Scope)(d:Nat)(e:Expr)(en:Bool)(m:MI):Prop:=
 ∀(A:Around) (env:Env) (loc:Loc) (φ:Phi) (mh:MH) (s:Shared) (Q:MIt->MH->Prop) (P:Value->Shared->Prop) (E:Value->Shared->Prop),
  xS A d->yz env sc->c.Hp φ mh s.heap->FrR c env loc φ s.heap->m loc Q mh->
  (∀I own x φ' mh' h' tk,Q x mh'->Ext φ φ' s.heap h'->c.Hp φ' mh' h'->ItR h' φ' own I x 0->(∀a∈own,s.heap.get? a=none/\a∉z8 φ'/\∃o,h'.get? a=some o/\yP o)->(en=false->∀r,x≠.enum r)->
   P (.ref I) { s with heap:=h',toks:=tk })->
  wpAny c.M A (eval e env) (λx s₁=>wpAny c.M A (pyIter x) P E s₁) E s
noncomputable def itI(Q:MIt->MH->Prop)(v:MV)(mh:MH):Prop:=(∃vs,xc (.val v) vs mh)/\Q (.val v) mh
noncomputable abbrev zU(m:ME):MI:=λloc Q mh=>m loc (itI Q) mh
section
variable {c:Cx}{sc:Scope}{d:Nat}
theorem uf(T:String)(o:Obj)(h:o.cls=.type T)(h1:T≠"tuple")(h2:T≠"range"):yP o:=
 th (by rw[h];simpa using h1) (by rw[h];simpa using h2)
theorem xI{φ:Phi}{mh:MH}{h:Heap}(H:c.Hp φ mh h){a:Addr}(ha:h.objs.size<=a):a∉z8 φ:=
 λq=>absurd (H.lt a q) (Nat.not_lt.mpr ha)
theorem jK{x:Int}(hx : -3000000000<=x)(hy:x<=3000000000):Builtin.Range.rangeFitsLong x=true:=by
 unfold Builtin.Range.rangeFitsLong
 rw[Bool.and_eq_true,decide_eq_true_eq,decide_eq_true_eq]
 exact⟨Int.le_trans (by decide) hx,Int.lt_of_le_of_lt hy (by decide)⟩
theorem V7(a b:Int):Builtin.Range.rangeSize a b 1=((b-a).toNat:Int):=by
 unfold Builtin.Range.rangeSize
 rw[if_pos (by decide),Int.ediv_one]
 by_cases h:a<b
 ·rw[if_pos h,Int.toNat_of_nonneg (Int.sub_nonneg_of_le (Int.le_of_lt h)),Int.sub_add_cancel]
 ·rw[if_neg h,Int.toNat_of_nonpos (Int.sub_nonpos_of_le (Int.not_lt.mp h))];rfl
theorem J7{a b:Int}(ha:z7 a)(hb:z7 b):(b-a).toNat<=2000000000:=by
 exact Int.toNat_le.mpr (Int.le_trans (Int.sub_le_sub hb.2 ha.1) (by decide))
theorem tB{a b:Int}(ha:z7 a)(hb:z7 b):Builtin.Range.small a b 1=true/\Builtin.Range.rangeSize a b 1=(b-a).toNat:=by
 have hs:=V7 a b
 have hd:=J7 ha hb
 refine⟨?_,hs⟩
 unfold Builtin.Range.small
 rw[hs]
 have f:∀{x:Int},z7 x->Builtin.Range.rangeFitsLong x=true:=λh=>jK (Int.le_trans (by decide) h.1) (Int.le_trans h.2 (by decide))
 have g:∀{x:Int},0<=x->x<=3000000000->Builtin.Range.rangeFitsLong x=true:=λh=>jK (Int.le_trans (by decide) h)
 have n0:(0:Int)<=((b-a).toNat:Int):=Int.natCast_nonneg _
 have n1:((b-a).toNat:Int)<=2000000000:=Int.ofNat_le.mpr hd
 rw[f ha,f hb,g (x:=1) (by decide) (by decide),g n0 (Int.le_trans n1 (by decide))]
 simp only[Bool.and_self,Bool.true_and,Bool.or_eq_true]
 right
 obtain⟨h1,h2⟩:=ha
 obtain⟨h3,h4⟩:=hb
 clear f g hs n0 n1 hd
 rw[if_pos Int.one_pos]
 exact jK (by lia) (by lia)
theorem zcp{A:Around}{φ:Phi}{mh:MH}{s:Shared}{v:Value}{mv:MV}{vs:List MV}{P:Value->Shared->Prop}{E:Value->Shared->Prop}
  (H:c.Hp φ mh s.heap) (r:VR s.heap φ v mv) (ok:xc (.val mv) vs mh)
  (o:∀I h',ItR h' φ [I] I (.val mv) 0->s.heap.objs.size<=I->(∀b ob,s.heap.get? b=some ob->h'.get? b=some ob)->(∃ob,h'.get? I=some ob/\yP ob)->P (.ref I) { s with heap:=h' }) :
  wpAny c.M A (pyIter v) P E s:=by
 rcases MV.is_src (P:=λv=>xc (.val v) vs mh) ok id (λ_=>id) (λ_=>id) (λ_=>id) (λ_=>id) with⟨ms,rfl⟩|⟨x,y,rfl⟩|⟨i,rfl⟩
 ·obtain⟨a,ws,n,rfl,g,rs⟩:=r.inv_tuple
  refine wpAny_pyIter_tuple (items:=ws.toArray) ⟨_,g,rfl,n,rfl⟩ ?_
  have k:=z4 (h:=s.heap) { cls:=.type "tuple_iterator",data:=.fields #[.ref a,.int 0 0] }
  have e:=Heap.get?_push_size s.heap (o:={ cls:=.type "tuple_iterator",data:=.fields #[.ref a,.int 0 0] }) rfl
  exact o _ _ (.tuple ⟨_,e,rfl,rfl⟩ (k _ _ g) (H.vrs (.of_keep k) rs)) (Nat.le_refl _) k ⟨_,e,uf "tuple_iterator" _ rfl (by decide) (by decide)⟩
 ·obtain⟨a,t,u,w,rfl,g⟩:=r.inv_range
  obtain⟨h1,h2,_⟩:=(ok:z7 x/\z7 y/\vs=wd x y)
  obtain⟨h3,h4⟩:=tB h1 h2
  refine wpAny_pyIter_range (a:=x) (b:=y) (c:=1) (t:=t) (u:=u) (v:=w) g h3 ?_
  rw[h4]
  have e:=Heap.get?_push_size s.heap (o:={ cls:=.type "range_iterator",data:=.fields #[rawInt x,rawInt ((y-x).toNat:Int),rawInt 1] }) rfl
  have k:=z4 (h:=s.heap) { cls:=.type "range_iterator",data:=.fields #[rawInt x,rawInt ((y-x).toNat:Int),rawInt 1] }
  exact o _ _ (.range (by simpa using e)) (Nat.le_refl _) k ⟨_,e,uf "range_iterator" _ rfl (by decide) (by decide)⟩
 ·obtain⟨a,ws,n,rfl,f2,g,rs⟩:=H.list_at r (show mh[i]?=some (.list vs) from ok)
  refine wpAny_pyIter_list (items:=ws.toArray) ⟨_,g,rfl,n,rfl⟩ ?_
  have e:=Heap.get?_push_size s.heap (o:={ cls:=.type "list_iterator",data:=.fields #[.ref a,.int 0 0] }) rfl
  have k:=z4 (h:=s.heap) { cls:=.type "list_iterator",data:=.fields #[.ref a,.int 0 0] }
  exact o _ _ (.list f2 ⟨_,e,rfl,rfl⟩) (Nat.le_refl _) k ⟨_,e,uf "list_iterator" _ rfl (by decide) (by decide)⟩
theorem Hp.some_of{φ:Phi}{mh:MH}{h:Heap}(H:c.Hp φ mh h){a:Addr}(ha:a∈z8 φ):∃o,h.get? a=some o:=let ⟨o,e,_⟩:=H.has ha;⟨o,e⟩
theorem Ext.old_none{φ φ':Phi}{h h':Heap}{mh mh':MH}(x:Ext φ φ' h h')(H':c.Hp φ' mh' h'){a:Addr}(ha:h'.get? a=none):h.get? a=none:=by
 cases e:h.get? a with
 |none=>rfl
 |some o=>
  by_cases hb:a∈z8 φ
  ·have hb':a∈z8 φ':=by
    obtain⟨t,rfl⟩:=x.pre
    rw[wS];exact List.mem_append_left _ hb
   obtain⟨o',e'⟩:=H'.some_of hb'
   rw[ha] at e';cases e'
  ·rw[x.keep a o hb e] at ha;cases ha
theorem zX{e:Expr}{m:ME}(hm:SE c sc d e m):SI c sc d e false (zU m):=
 λA env loc φ mh s Q P E hr he H F q o=>by
  refine hm A env loc φ mh s _ _ E hr he H F q λv mv φ' mh' h' tk q' x H' r=>?_
  obtain⟨⟨vs,ok⟩,q'⟩:=q'
  refine zcp (s:={ s with heap:=h',toks:=tk }) H' r ok λI h2 hi hI k hm=>?_
  have xx:=Ext.of_keep (φ:=φ') k
  refine o I [I] _ φ' mh' h2 tk q' (x.trans xx) (H'.keep k) hi (λa ha=>?_) (λ_ r=>by simp)
  simp at ha;subst ha
  exact⟨x.old_none (c:=c) (mh:=mh) H' (Internal.fresh_none hI),xI H' hI,hm⟩
noncomputable def Yx(x:MIt)(all:List MV)(bind:MA)(body:MS):List MV->MS
 |[]=>λloc Q mh=>xc x all mh/\Q .next loc mh
 |v::rest=>λloc Q mh=>xc x all mh/\bind v (λloc mh=>body loc (λfl loc mh=>match fl with|.next=>Yx x all bind body rest loc Q mh|.ret r=>Q (.ret r) loc mh) mh) loc mh
noncomputable abbrev tI(mi:MI)(bind:MA)(body:MS):MS:=λloc Q mh=>mi loc (λx mh=>∃vs,Yx x vs bind body vs loc Q mh) mh
theorem wk.keepI{env:Env}{loc:Loc}{φ φ':Phi}{mh:MH}{h h':Heap}(x:wk env φ φ' h h')(H:c.Hp φ mh h)(F:FrR c env loc φ h):sq φ φ' h h':=
 ⟨x.pre,λb o hm e=>x.keep b o (λhb=>hm (Zz H F b (.inl hb) o e)) (λhb=>hm (Zz H F b (.inr hb) o e)) e⟩
theorem Xe{M:Model}{A:Around}{prog:Program}{w:World}{s:Shared}{R:Result->Shared->Prop}{target it body orelse env}(I:Nat->Shared->Prop)
  (turn:∀n s,I n s->wpAny (model prog w) A (pyNext it) (λr s₁=>match r with
   |none=>wpAny (model prog w) A (execs orelse env) (λf s₃=>R (.ok f) s₃) (notedBy (model prog w) A env λe s'=>R (.error e) s') s₁
   |some v=>wpAny (model prog w) A (letOwnedTupleGo target it v) (λ_ s₁=>wpAny (model prog w) A (assign target env v) (λ_ s₂=>wpAny (model prog w) A (execs body env) (λf s₃=>match f with
     |.next|.cont=>∃m,m<n/\I m s₃
     |.brk=>R (.ok .next) s₃
     |.ret v=>R (.ok (.ret v)) s₃) (notedBy (model prog w) A env λe s'=>R (.error e) s') s₂) (notedBy (model prog w) A env λe s'=>R (.error e) s') s₁) (notedBy (model prog w) A env λe s'=>R (.error e) s') s₁)
    (notedBy (model prog w) A env λe s'=>R (.error e) s') s)
  (n:Nat) (h:I n s):codeAny (model prog w) A (.forLoop target it body orelse env) R s:=by
 refine codeAny_loop' rfl I (λn s hI=>?_) n h
 show wpAny _ _ ((forTurn target it body orelse env).onRaise (λx=>do noteFrame x env;theTreesLotGoes x)) _ _ s
 refine wpAny_noted ?_
 simp only[forTurn]
 refine wpAny_bind (wpAny_standAt (wpAny_bind (wpAny_onRaise (wpAny_mono (turn n s hI) (λr s₁ h₁=>?_) λ_ _ h'=>wpAny_standAt h'))))
 cases r with
 |none=>exact wpAny_pure (.inr ⟨rfl,codeAny_block h₁⟩)
 |some v=>
  refine wpAny_bind (wpAny_mono h₁ (λ_ s₁ h₁=>?_) λ_ _ h'=>h')
  refine wpAny_bind (wpAny_mono h₁ (λ_ s₂ h₂=>wpAny_bind (wpAny_mono h₂ (λf s₃ h₃=>?_) λ_ _ h'=>h')) λ_ _ h'=>h')
  cases f with
  |next=>exact wpAny_pure (.inl ⟨rfl,h₃⟩)
  |cont=>exact wpAny_pure (.inl ⟨rfl,h₃⟩)
  |brk=>exact wpAny_pure h₃
  |ret v=>exact wpAny_pure h₃
theorem yA.of{env:Env}{loc:Loc}{φ φ1:Phi}{mh:MH}{h h1:Heap}{own:List Addr}(H:c.Hp φ mh h)(F:FrR c env loc φ h)
  (hown:∀a∈own,h.get? a=none/\a∉z8 φ1/\∃o,h1.get? a=some o/\yP o):yA c env φ1 h1 own:=by
 refine⟨λa ha=>(hown a ha).2.1,λa ha=>?_,λa ha e=>?_,λa ha y b eb e=>?_,λa ha=>(hown a ha).2.2⟩
 ·cases e:c.hB.get? a with
  |none=>rfl
  |some ob=>have:=H.base a ob e;rw[(hown a ha).1] at this;cases this
 ·subst e
  obtain⟨⟨mm,⟨oo,_,_,eo,_⟩,_⟩,_⟩:=F
  rw[(hown _ ha).1] at eo;cases eo
 ·subst e
  obtain⟨w,oo,eo,_⟩:=F.are y a eb
  rw[(hown _ ha).1] at eo;cases eo
theorem yA.notOwn{env:Env}{φ:Phi}{h:Heap}{own:List Addr}(ap:yA c env φ h own):∀a∈own,¬vF env a:=by
 intro a ha ho
 rcases ho with rfl|⟨x,_,e⟩
 ·exact ap.loc _ ha rfl
 ·exact ap.cell a ha x a e rfl
theorem yA.stepF{env:Env}{loc:Loc}{φ φ':Phi}{mh:MH}{h h':Heap}{own:List Addr}(ap:yA c env φ h own)(x:wk env φ φ' h h'):yA c env φ' h' own/\∀a∈own,∀o,h.get? a=some o->h'.get? a=some o:=by
 have hk:∀a∈own,∀o,h.get? a=some o->h'.get? a=some o:=λa ha o e=>x.keep a o (ap.phi a ha) (ap.notOwn a ha) e
 refine⟨⟨λa ha hq=>?_,ap.base,ap.loc,ap.cell,λa ha=>?_⟩,hk⟩
 ·rcases x.new a hq with h1|h1
  ·exact ap.phi a ha h1
  ·obtain⟨o,e,_⟩:=ap.muts a ha;rw[h1] at e;cases e
 ·obtain⟨o,e,hm⟩:=ap.muts a ha
  exact⟨o,hk a ha o e,hm⟩
theorem yA.stepI{env:Env}{φ:Phi}{h h':Heap}{own:List Addr}{I:Addr}{x:MIt}{i:Nat}(ap:yA c env φ h own)(r:ItR h' φ own I x i):yA c env φ h' own:=
 ⟨ap.phi,ap.base,ap.loc,ap.cell,λa ha=>r.get a ha⟩
theorem wk.its{env:Env}{φ φ':Phi}{h0 h h':Heap}{own:List Addr}(x:wk env φ φ' h0 h)(hown:∀a∈own,h0.get? a=none)(k:∀b ob,b∉own->h.get? b=some ob->h'.get? b=some ob):wk env φ φ' h0 h':=
 ⟨x.pre,x.new,λb o hb hn e=>k b o (λhq=>by rw[hown b hq] at e;cases e) (x.keep b o hb hn e),x.own⟩
theorem Ext.own{φ φ':Phi}{h0 h h':Heap}{own:List Addr}(x:Ext φ φ' h0 h)(hown:∀a∈own,h0.get? a=none)(k:∀b ob,b∉own->h.get? b=some ob->h'.get? b=some ob):Ext φ φ' h0 h':=
 ⟨x.pre,x.new,λb o hb e=>k b o (λhq=>by rw[hown b hq] at e;cases e) (x.keep b o hb e)⟩
theorem wj{target iter:Expr}{body:List Stmt}{pos:Pos}{mi:MI}{bind:MA}{m:MS}(hi:SI c sc d iter false mi)(ha:SA c sc d target bind)(hb:SB c sc d body m)
  (hs:∀env x,foldedSetIterable iter env x=pure x):SS c sc d (.For target iter body [] pos) (tI mi bind m):=
 λA env loc φ mh s Q P E hr he H F q o=>by
  refine wpAny_For (hi A env loc φ mh s _ _ E hr he H F q λI own x φ1 mh1 h1 tk1 q1 x1 H1 it1 hown hne=>?_) (hs env)
  obtain⟨vs,q1⟩:=q1
  have hne:=hne rfl
  have hnone:∀a∈own,s.heap.get? a=none:=λa ha=>(hown a ha).1
  have ap0:yA c env φ1 h1 own:=yA.of H F hown
  let Inv:Nat->Shared->Prop:=λn s'=>X6 λ(loc':Loc) (φ':Phi) (mh':MH) (h':Heap) (tk:Nat) (i:Nat)=>N9 (s'={ s with heap:=h',toks:=tk }) (wk env φ φ' s.heap h') (c.Hp φ' mh' h') (FrR c env loc' φ' h') (yA c env φ' h' own) (ItR h' φ' own I x i) (Yx x vs bind m (vs.drop i) loc' Q mh') (i<=vs.length) (n=vs.length+1-i)
  refine Xe (M:=c.M) Inv ?_ (vs.length+1) ⟨loc,φ1,mh1,h1,tk1,0,rfl,x1.toF (zI F),H1,F.ext H x1,ap0,it1,by simpa using q1,Nat.zero_le _,by exact Nat.add_succ vs.length 0⟩
  rintro n s' ⟨loc',φ',mh',h',tk,i,rfl,xx,H',F',ap,it,qq,hi',rfl⟩
  by_cases hlt:i<vs.length
  ·have hd:vs.drop i=vs[i]::vs.drop (i+1):=(List.drop_eq_getElem_cons hlt)
   rw[hd] at qq
   obtain⟨ok,qq⟩:=qq
   refine wpAny_mono (Jd (s:={ s with heap:=h',toks:=tk }) (tgt:=target) (t1:=true) (mv:=vs[i]) (.inr hne) H' ap it ok (List.getElem?_eq_getElem _) (E:=notedBy c.M A env λe s'=>cameBackBy c.M A env E e s')
    (P:=λv s2=>wpAny c.M A (assign target env v) (λ_ s₂=>wpAny c.M A (execs body env) (λf s₃=>match f with
     |.next|.cont=>∃m,m<vs.length+1-i/\Inv m s₃
     |.brk=>P .next s₃
     |.ret v=>P (.ret v) s₃) (notedBy c.M A env λe s'=>cameBackBy c.M A env E e s') s₂) (notedBy c.M A env λe s'=>cameBackBy c.M A env E e s') s2) ?_) ?_ λ_ _ z=>z
   ·intro v h2 tk2 rv it2 k
    obtain⟨H2,F2⟩:=wE H' F' ap k
    have xx2:=xx.its hnone k
    have ap2:=ap.stepI it2
    refine ha A env loc' φ' mh' { s with heap:=h2,toks:=tk2 } v vs[i] _ _ _ hr he H2 F2 rv qq λloc3 φ3 mh3 h3 tk3 q3 x3 H3 F3=>?_
    refine hb A env loc3 φ3 mh3 { s with heap:=h3,toks:=tk3 } _ _ _ hr he H3 F3 q3 λfl ml loc4 φ4 mh4 h4 tk4 q4 r4 x4 H4 F4=>?_
    have xe:wk env φ' φ4 h2 h4:=x3.trans x4
    obtain⟨ap4,ho⟩:=ap2.stepF (loc:=loc') (mh:=mh') xe
    cases r4 with
    |next=>
     exact⟨vs.length+1-(i+1),Nat.sub_lt_sub_left (Nat.lt_succ_of_lt hlt) (Nat.lt_succ_self i),loc4,φ4,mh4,h4,tk4,i+1,rfl,xx2.trans xe,H4,F4,ap4,it2.keep (xe.keepI H2 F2) ho,q4,hlt,rfl⟩
    |ret r=>exact o _ _ loc4 φ4 mh4 h4 tk4 q4 (.ret r) (xx2.trans xe) H4 F4
   ·rintro r s1 ⟨v,rfl,hh⟩
    exact hh
  ·have hd:vs.drop i=[]:=List.drop_eq_nil_of_le (Nat.le_of_not_lt hlt)
   rw[hd] at qq
   obtain⟨ok,qq⟩:=qq
   refine zcs (s:={ s with heap:=h',toks:=tk }) hr.handled H' ap it ok (by lia) λh2 tk2 k=>?_
   obtain⟨H2,F2⟩:=wE H' F' ap k
   exact wpAny_execs_nil (o _ _ loc' φ' mh' h2 tk2 qq .next (xx.its hnone k) H2 F2)
noncomputable def ZI(t:MT)(body:MS):Nat->MS
 |0=>λ_ _ _=>False
 |n+1=>λloc Q mh=>t loc (λb mh=>if b=true then body loc (λfl loc mh=>match fl with|.next=>ZI t body n loc Q mh|.ret v=>Q (.ret v) loc mh) mh else Q .next loc mh) mh
noncomputable def ZZ(t:MT)(body:MS):MS:=λloc Q mh=>∃n,ZI t body n loc Q mh
theorem qZ{test:Expr}{body:List Stmt}{pos:Pos}{t:MT}{m:MS}(ht:ST c sc d test t)(hb:SB c sc d body m):SS c sc d (.While test body [] pos) (ZZ t m):=
 λA env loc φ mh s Q P E hr he H F q o=>by
  obtain⟨n,q⟩:=q
  let Inv:Nat->Shared->Prop:=λn s'=>X5 λ(loc':Loc) (φ':Phi) (mh':MH) (h':Heap) (tk:Nat)=>N5 (s'={ s with heap:=h',toks:=tk }) (wk env φ φ' s.heap h') (c.Hp φ' mh' h') (FrR c env loc' φ' h') (ZI t m n loc' Q mh')
  refine wpAny_While (codeAny_whileLoop Inv ?_ n ⟨loc,φ,mh,s.heap,s.toks,rfl,(Ext.refl _ _).toF (zI F),H,F,q⟩)
  rintro n s' ⟨loc',φ',mh',h',tk,rfl,xx,H',F',qq⟩
  cases n with
  |zero=>exact qq.elim
  |succ n=>
   refine ht A env loc' φ' mh' { s with heap:=h',toks:=tk } _ _ _ hr he H' F' qq λb φ2 mh2 h2 tk2 q2 x2 H2=>?_
   have F2:=F'.ext H' x2
   have xx2:=xx.trans (x2.toF (zI F'))
   cases b with
   |false=>
    simp only[Bool.false_eq_true,if_false] at q2 ⊢
    exact wpAny_execs_nil (o _ _ loc' φ2 mh2 h2 tk2 q2 .next xx2 H2 F2)
   |true=>
    simp only[if_true] at q2 ⊢
    refine hb A env loc' φ2 mh2 { s with heap:=h2,toks:=tk2 } _ _ _ hr he H2 F2 q2 λfl ml loc4 φ4 mh4 h4 tk4 q4 r4 x4 H4 F4=>?_
    cases r4 with
    |next=>exact⟨n,Nat.lt_succ_self _,loc4,φ4,mh4,h4,tk4,rfl,xx2.trans x4,H4,F4,q4⟩
    |ret r=>exact o _ _ loc4 φ4 mh4 h4 tk4 q4 (.ret r) (xx2.trans x4) H4 F4
end
inductive Tgt where
 |one (x:Str)
 |many (xs:List Str)
noncomputable def Tgt.names:Tgt->List Str
 |.one x=>[x]
 |.many xs=>xs
noncomputable def Y8:Tgt->MV->Loc->Option Loc
 |.one x,v,loc=>some (upd loc x v)
 |.many xs,.tuple vs,loc=>if vs.length=xs.length then some (xU xs vs loc) else none
 |.many _,_,_=>none
noncomputable def uG:Expr->Option Tgt
 |.Name x _=>some (.one x)
 |.Tuple es _ _=>(wG es).map .many
 |_=>none
structure ud(W:Addr->Prop)(φ φ':Phi)(h h':Heap):Prop where
 pre:φ <+: φ'
 new:∀a∈z8 φ',a∈z8 φ\/h.get? a=none
 keep:∀b o,b∉z8 φ->¬W b->h.get? b=some o->h'.get? b=some o
 off:∀b,W b->b∉z8 φ->b∉z8 φ'
theorem Ext.toW{W:Addr->Prop}{φ φ':Phi}{h h':Heap}(x:Ext φ φ' h h')(ho:∀b,W b->(h.get? b).isSome):ud W φ φ' h h':=⟨x.pre,x.new,λb o h1 _ e=>x.keep b o h1 e,λb hb h1 h2=>by
 rcases x.new b h2 with h3|h3
 ·exact h1 h3
 ·have:=ho b hb;rw[h3] at this;cases this⟩
theorem ud.trans{W:Addr->Prop}{φ φ' φ'':Phi}{h h' h'':Heap}(x:ud W φ φ' h h')(y:ud W φ' φ'' h' h''):ud W φ φ'' h h'' where
 pre:=x.pre.trans y.pre
 new:=λa ha=>by
  rcases y.new a ha with h1|h1
  ·exact x.new a h1
  ·by_cases hb:a∈z8 φ
   ·exact .inl hb
   ·by_cases ho:W a
    ·exact absurd ha (y.off a ho (x.off a ho hb))
    ·refine .inr ?_
     cases e:h.get? a with
     |none=>rfl
     |some o=>rw[x.keep a o hb ho e] at h1;cases h1
 keep:=λb o hb hn e=>by
  refine y.keep b o (λhc=>?_) hn (x.keep b o hb hn e)
  rcases x.new b hc with h1|h1
  ·exact hb h1
  ·rw[h1] at e;cases e
 off:=λb hb h1=>y.off b hb (x.off b hb h1)
theorem ud.of_keep{W:Addr->Prop}{φ:Phi}{h h':Heap}(k:∀b o,¬W b->h.get? b=some o->h'.get? b=some o):ud W φ φ h h':=
 ⟨List.prefix_rfl,λ_ h=>.inl h,λb o _ hn e=>k b o hn e,λ_ _ h=>h⟩
theorem ud.refl{W:Addr->Prop}{φ:Phi}{h:Heap}:ud W φ φ h h:=.of_keep λ_ _ _ e=>e
theorem Ext.thenW{W:Addr->Prop}{φ φ' φ'':Phi}{h h' h'':Heap}(x:Ext φ φ' h h')(y:ud W φ' φ'' h' h'')(hw:∀b,W b->h.get? b=none):Ext φ φ'' h h'' where
 pre:=x.pre.trans y.pre
 new:=λa ha=>by
  rcases y.new a ha with h1|h1
  ·exact x.new a h1
  ·by_cases hb:a∈z8 φ
   ·exact .inl hb
   ·refine .inr ?_
    cases e:h.get? a with
    |none=>rfl
    |some o=>rw[x.keep a o hb e] at h1;cases h1
 keep:=λb o hb e=>by
  refine y.keep b o (λhc=>?_) (λhq=>by rw[hw b hq] at e;cases e) (x.keep b o hb e)
  rcases x.new b hc with h1|h1
  ·exact hb h1
  ·rw[h1] at e;cases e
section
variable {c:Cx}{sc:Scope}{d:Nat}
theorem J3{e:Expr}{t:Tgt}(ht:uG e=some t):(∃x p,e=.Name x p/\t=.one x)\/∃es k p xs,e=.Tuple es k p/\wG es=some xs/\t=.many xs:=by
 cases e with
 |Name x p=>exact .inl ⟨x,p,rfl,(Option.some.inj ht).symm⟩
 |Tuple es k p=>
  obtain⟨xs,h1,h2⟩:=Option.map_eq_some_iff.mp (show(wG es).map Tgt.many=some t from ht)
  exact .inr ⟨es,k,p,xs,rfl,h1,h2.symm⟩
 |_=>exact nomatch (show none=some t from ht)
theorem K4{xs:List Str}{mv:MV}{loc loc':Loc}(hb:Y8 (.many xs) mv loc=some loc'):∃vs,mv=.tuple vs/\vs.length=xs.length/\loc'=xU xs vs loc:=by
 cases mv with
 |tuple vs=>
  by_cases h:vs.length=xs.length
  ·have e:Y8 (.many xs) (.tuple vs) loc=some (xU xs vs loc):=if_pos h
   exact⟨vs,rfl,h,(Option.some.inj (e.symm.trans hb)).symm⟩
  ·have e:Y8 (.many xs) (.tuple vs) loc=none:=if_neg h
   exact nomatch e.symm.trans hb
 |_=>exact nomatch (show none=some loc' from hb)
theorem VI{e:Expr}{t:Tgt}(ht:uG e=some t)(hk:∀x∈t.names,sc.names.lookup x=some .local\/sc.names.lookup x=some .cell)
  {A:Around}{env:Env}{loc loc':Loc}{φ:Phi}{mh:MH}{s:Shared}{v:Value}{mv:MV}{P:Unit->Shared->Prop}{E:Value->Shared->Prop}
  (hh:A.handled=none) (he:yz env sc) (H:c.Hp φ mh s.heap) (F:FrR c env loc φ s.heap) (r:VR s.heap φ v mv) (hb:Y8 t mv loc=some loc')
  (o:∀h' tk,(∀b o,¬wb env t.names b->s.heap.get? b=some o->h'.get? b=some o)->c.Hp φ mh h'->FrR c env loc' φ h'->wk env φ φ s.heap h'->P () { s with heap:=h',toks:=tk }) :
  wpAny c.M A (assign e env v) P E s:=by
 rcases J3 ht with⟨x,pos,rfl,rfl⟩|⟨es,k,pos,xs,rfl,hx,rfl⟩
 ·obtain rfl:=Option.some.inj (show some (upd loc x mv)=some loc' from hb)
  show wpAny c.M A (do standAt pos;bindName env x v) P E s
  refine wpAny_bind (wpAny_standAt (ZR he (hk x (.head _)) H F r λX h1 tk1 hX k1 x1 H1 F1=>?_))
  exact o h1 tk1 (λb ob hb e=>(k1 b (λhq=>hb (hq▸hX))).trans e) H1 F1 x1
 ·obtain⟨vs,rfl,hl,rfl⟩:=K4 hb
  obtain⟨a,ws,n,rfl,g,rs⟩:=r.inv_tuple
  rw[assign_Tuple]
  have hsz:ws.toArray.size=xs.length:=by rw[List.size_toArray,rs.length,hl]
  obtain⟨hl1,hl2⟩:=qw (env:=env) hx
  refine wpAny_bind (wpAny_standAt (PyProof.Rows.unpack_tuple (items:=ws.toArray) hh ⟨_,g,rfl,n,rfl⟩ (by rw[hl1,hsz]) hl2 λh1 hext=>?_))
  have hk':∀b o,s.heap.get? b=some o->h1.get? b=some o:=λb o e=>hext b o (Nat.ne_of_lt (Heap.lt_size e)) e
  have hE:=Ext.of_keep (φ:=φ) hk'
  refine Zb hx hk he (H.keep hk') (F.ext H hE) (H.vrs hE rs) λh2 tk2 k2 H2 F2 x2=>?_
  exact o h2 tk2 (λb ob hb e=>k2 b ob hb (hk' b ob e)) H2 F2 ((hE.toF (zI F)).trans x2)
noncomputable def yL(scope sc:Scope):Scope:=relabel scope (vE sc)
theorem JI{env:Env}(he:yz env sc)(scope:Scope):relabel scope env=yL scope sc:=by
 unfold yL relabel vE Env.kindOf;rw[he.scope]
noncomputable def Xs(scope:Scope)(loc:Loc):Loc:=λx=>if scope.names.lookup x=some .free then loc x else none
theorem Wn{M:Model}{A:Around}{s:Shared}{E:Value->Shared->Prop}{scope:Scope}{globals:Addr}{cl:List (Str×Addr)}{qual:Str}{outer:Env}{Q:Env->Shared->Prop}
  (hQ:Q { scope,locals:=s.heap.objs.size,globals,cells:=cellsFrom (s.heap.objs.size+1) scope.names cl,qual,func:=none,code:=outer.code,frame:=outer.frame,builtins:=outer.builtins }
   { s with heap:=pushCells (s.heap.push { cls:=.type "dict",data:=.dict #[] }) scope.names }) :
  wpAny M A (newFunctionEnv scope globals cl [] qual none .none (some outer)) Q E s:=by
 unfold newFunctionEnv
 refine wpAny_bind (wpAny_alloc ?_)
 refine wpAny_bind (wpAny_layCells _ (λname kind cells=>?_) scope.names cl _ _ ?_)
 ·rfl
 ·refine wpAny_bind ?_
  show wpAny M A (forIn ([]:List (Str×Value)) PUnit.unit _) _ E _
  rw[List.forIn_nil]
  refine wpAny_pure (wpAny_pure ?_)
  dsimp only
  rw[Heap.size_push]
  exact hQ
noncomputable def frees(scope:Scope):List (Str×NameKind):=scope.names.filter λp=>p.2 == .free
noncomputable def vm(cells:List (Str×Addr)):List (Str×NameKind)->List (Str×Addr)->List (Str×Addr)
 |[],acc=>acc
 |(n,k)::r,acc=>if k == .free then vm cells r ((n,(cells.lookup n).getD 0)::acc) else vm cells r acc
theorem WQ{env:Env}{scope:Scope}(h:∀x∈scope.names,x.2=.free->(env.cells.lookup x.1).isSome=true):closureFor scope env=pure (vm env.cells scope.names []):=by
 unfold closureFor
 have main:∀(names:List (Str×NameKind)) (acc:List (Str×Addr)),(∀x∈names,x.2=.free->(env.cells.lookup x.1).isSome=true)->
   (forIn names acc (λ(x:Str×NameKind) (r:List (Str×Addr))=>(match x with
    |(name,kind)=>if (kind == .free)=true then (do let a <-cellOf env name;pure (ForInStep.yield ((name,a)::r))) else pure (ForInStep.yield r):Sem (ForInStep (List (Str×Addr))))))=pure (vm env.cells names acc):=by
  intro names
  induction names with
  |nil=>intro acc _;rfl
  |cons x r ih=>
   intro acc hx
   obtain⟨n,k⟩:=x
   rw[List.forIn_cons]
   show _=pure (if k == .free then vm env.cells r ((n,(env.cells.lookup n).getD 0)::acc) else vm env.cells r acc)
   by_cases hk:(k == NameKind.free)=true
   ·have h1:=hx (n,k) (.head _) (by simpa using hk)
    obtain⟨a,ha⟩:=Option.isSome_iff_exists.mp h1
    have e1:cellOf env n=pure a:=by unfold cellOf;simp only at ha;rw[ha]
    simp only[hk,if_true,e1]
    simp only at ha
    rw[ha]
    exact ih _ λy hy=>hx y (.tail _ (by assumption))
   ·simp only[hk,if_false]
    exact ih _ λy hy=>hx y (.tail _ (by assumption))
 exact congrArg (λ(m:Sem (List (Str×Addr)))=>m >>= λx=>pure x) (main scope.names [] h)
theorem wn{cells:List (Str×Addr)}:∀{names:List (Str×NameKind)}{acc:List (Str×Addr)}{x:Str},(names.map (·.1)).Nodup->
  (vm cells names acc).lookup x=if names.lookup x=some .free then some ((cells.lookup x).getD 0) else acc.lookup x
 |[],acc,x,_=>by show acc.lookup x=_;simp
 |(n,k)::r,acc,x,hn=>by
  rw[List.map_cons,List.nodup_cons] at hn
  have hnot:n∉r.map (·.1):=hn.1
  have hl:r.lookup n=none:=by
   cases e:r.lookup n with
   |none=>rfl
   |some k'=>exact absurd (List.mem_map_of_mem (f:=(·.1)) (mem_of_lookup e)) hnot
  show(if k == .free then vm cells r ((n,(cells.lookup n).getD 0)::acc) else vm cells r acc).lookup x=_
  by_cases hx:x=n
  ·subst hx
   by_cases hk:(k == NameKind.free)=true
   ·rw[if_pos hk,wn hn.2,hl]
    simp at hk;subst hk
    simp
   ·rw[if_neg hk,wn hn.2,hl]
    simp at hk
    simp[hk]
  ·have hx':(x == n)=false:=by simpa using hx
   by_cases hk:(k == NameKind.free)=true
   ·rw[if_pos hk,wn hn.2]
    simp[List.lookup_cons,hx']
   ·rw[if_neg hk,wn hn.2]
    simp[List.lookup_cons,hx']
end
structure uh(scope sc:Scope):Prop where
 kind:scope.kind=.function
 nodup:(scope.names.map (·.1)).Nodup
 free:∀p∈scope.names,p.2=.free->sc.names.lookup p.1=some .cell\/sc.names.lookup p.1=some .free
 locals:∀x∈scope.names,x.2=.local->scope.names.lookup x.1=some .local
noncomputable def yJ(scope sc:Scope):Bool:=
 scope.kind == .function && decide (scope.names.map (·.1)).Nodup && (scope.names.all λp=>p.2 != .free || sc.names.lookup p.1 == some .cell || sc.names.lookup p.1 == some .free) &&
  (scope.names.all λx=>x.2 != .local || scope.names.lookup x.1 == some .local)
theorem uh.of{scope sc:Scope}(h:yJ scope sc=true):uh scope sc:=by
 unfold yJ at h
 simp only[Bool.and_eq_true,List.all_eq_true,decide_eq_true_eq,Bool.or_eq_true,bne_iff_ne,beq_iff_eq] at h
 obtain⟨⟨⟨h1,h2⟩,h3⟩,h4⟩:=h
 refine⟨h1,h2,λp hp hf=>?_,λx hx hl=>?_⟩
 ·rcases h3 p hp with(h5|h5)|h5
  ·exact absurd hf h5
  ·exact .inl h5
  ·exact .inr h5
 ·rcases h4 x hx with h5|h5
  ·exact absurd hl h5
  ·exact h5
theorem wK{α:Type}:∀{l:List (Str×α)}{x:Str}{a:α},(l.map (·.1)).Nodup->(x,a)∈l->l.lookup x=some a
 |(n,k)::r,x,a,hn,hm=>by
  rw[List.map_cons,List.nodup_cons] at hn
  rcases List.mem_cons.mp hm with e|h2
  ·cases e;simp
  ·have:x≠n:=λe=>hn.1 (e▸List.mem_map_of_mem (f:=(·.1)) h2)
   have hx':(x == n)=false:=by simpa using this
   simp only[List.lookup_cons,hx']
   exact wK hn.2 h2
theorem jl{scope sc:Scope}(hk:sc.kind=.function)(x:Str):(yL scope sc).names.lookup x=match scope.names.lookup x with
  |some .free=>if sc.names.lookup x=some .cell then some .cell else some .free
  |o=>o:=by
 unfold yL relabel vE Env.kindOf
 dsimp only
 generalize scope.names=l
 induction l with
 |nil=>rfl
 |cons p r ih=>
  obtain⟨n,k⟩:=p
  rw[List.map_cons]
  by_cases hx:x=n
  ·subst hx
   by_cases hc:(k == NameKind.free && sc.kind == .function && sc.names.lookup x == some .cell)=true
   ·rw[if_pos hc]
    simp only[Bool.and_eq_true,beq_iff_eq] at hc
    obtain⟨⟨rfl,_⟩,h⟩:=hc
    simp[h]
   ·rw[if_neg hc]
    simp only[Bool.and_eq_true,beq_iff_eq,hk,and_true,not_and] at hc
    simp only[List.lookup_cons,beq_self_eq_true]
    cases k
    case free=>simp[hc rfl]
    all_goals rfl
  ·have hx':(x == n)=false:=by simpa using hx
   have:∀k',List.lookup x ((n,k')::List.map (λx=>if (x.snd == NameKind.free && sc.kind == ScopeKind.function && List.lookup x.fst sc.names == some NameKind.cell)=true then (x.fst,NameKind.cell) else (x.fst,x.snd)) r)=List.lookup x (List.map (λx=>if (x.snd == NameKind.free && sc.kind == ScopeKind.function && List.lookup x.fst sc.names == some NameKind.cell)=true then (x.fst,NameKind.cell) else (x.fst,x.snd)) r):=by
    intro k';simp[List.lookup_cons,hx']
   simp only[List.lookup_cons,hx']
   split<;>simp only[List.lookup_cons,hx']<;>exact ih
theorem y6:∀(names:List (Str×NameKind)) (n:Nat) (acc:List (Str×Addr)),cellsFrom n names acc=cellsFrom n names []++acc
 |[],_,_=>rfl
 |(x,k)::r,n,acc=>by
  unfold cellsFrom
  split
  ·rw[y6 r (n+1) ((x,n)::acc),y6 r (n+1) [(x,n)]];simp
  ·exact y6 r n acc
theorem wo:∀{names:List (Str×NameKind)}{n:Nat}{x:Str}{a:Addr},(x,a)∈cellsFrom n names []->(x,NameKind.cell)∈names
 |[],_,_,_,h=>by simp[cellsFrom] at h
 |(y,k)::r,n,x,a,h=>by
  unfold cellsFrom at h
  split at h
  ·rename_i hk
   rw[y6] at h
   rcases List.mem_append.mp h with h|h
   ·exact List.mem_cons_of_mem _ (wo h)
   ·simp at h
    simp at hk
    subst hk
    rw[h.1];exact List.mem_cons_self
  ·exact List.mem_cons_of_mem _ (wo h)
section
variable {c:Cx}{sc:Scope}{d:Nat}
noncomputable def xn(scope sc:Scope)(L:Addr)(env:Env):Env:=
 { scope:=yL scope sc,locals:=L,globals:=env.globals,cells:=cellsFrom (L+1) scope.names (vm env.cells scope.names []),qual:=env.qual,func:=none,code:=env.code,frame:=env.frame,builtins:=env.builtins }
theorem Uz{env:Env}{scope:Scope}{loc:Loc}{φ:Phi}{h:Heap}(he:yz env sc)(hs:uh scope sc)(F:FrR c env loc φ h) :
  closureFor scope env=pure (vm env.cells scope.names []):=WQ λx hx hf=>F.own x.1 (by
 have:=hs.free x hx hf
 unfold Env.kindOf;rw[he.scope];exact this)
theorem Ky{env:Env}{scope:Scope}{loc:Loc}{φ:Phi}{mh:MH}{h:Heap}(he:yz env sc)(hs:uh scope sc)(H:c.Hp φ mh h)(F:FrR c env loc φ h) :
  FrR c (xn scope sc h.objs.size env) (Xs scope loc) φ (pushCells (h.push { cls:=.type "dict",data:=.dict #[] }) scope.names)/\
  yz (xn scope sc h.objs.size env) (yL scope sc)/\
  (∀b o,h.get? b=some o->(pushCells (h.push { cls:=.type "dict",data:=.dict #[] }) scope.names).get? b=some o)/\
  (∀xs,(∀x∈xs,scope.names.lookup x≠some .free)->∀b,wb (xn scope sc h.objs.size env) xs b->h.get? b=none/\((pushCells (h.push { cls:=.type "dict",data:=.dict #[] }) scope.names).get? b).isSome)/\
  (∀y b,(xn scope sc h.objs.size env).cells.lookup y=some b->h.get? b=none\/env.cells.lookup y=some b):=by
 have hL:=Heap.size_push h { cls:=.type "dict",data:=.dict #[] }
 have k1:∀b o,h.get? b=some o->(pushCells (h.push { cls:=.type "dict",data:=.dict #[] }) scope.names).get? b=some o:=λb o e=>pushCells_keeps _ _ b o (Heap.get?_push_of_some _ e)
 have hdict:(pushCells (h.push { cls:=.type "dict",data:=.dict #[] }) scope.names).Ns h.objs.size (λ_=>none):=qo (Heap.Ns.new ..) λo e=>pushCells_keeps _ _ _ o e
 have ok:=cellsFrom_ok scope.names (h.push { cls:=.type "dict",data:=.dict #[] }) (h.objs.size+1) [] ⟨λ_ _ hm=>by simp at hm,List.Pairwise.nil⟩ (by rw[hL];exact Nat.le_refl _)
 rw[hL] at ok
 have hcells:(xn scope sc h.objs.size env).cells=cellsFrom (h.objs.size+1) scope.names []++vm env.cells scope.names []:=y6 _ _ _
 -- a name's cell
 have look:∀x,(xn scope sc h.objs.size env).cells.lookup x=(match (cellsFrom (h.objs.size+1) scope.names []).lookup x with
   |some a=>some a
   |none=>if scope.names.lookup x=some .free then some ((env.cells.lookup x).getD 0) else none):=by
  intro x
  rw[hcells,List.lookup_append,wn hs.nodup]
  cases(cellsFrom (h.objs.size+1) scope.names []).lookup x<;>simp
 have ownc:∀x a,(cellsFrom (h.objs.size+1) scope.names []).lookup x=some a->scope.names.lookup x=some .cell/\h.objs.size+1<=a/\(pushCells (h.push { cls:=.type "dict",data:=.dict #[] }) scope.names).IsCell a none:=λx a e=>by
  have hm:=mem_of_lookup e
  exact⟨wK hs.nodup (wo hm),(ok.empty x a hm).2,(ok.empty x a hm).1⟩
 have kindR:∀x,(xn scope sc h.objs.size env).kindOf x=(match scope.names.lookup x with
  |some .free=>if sc.names.lookup x=some .cell then some .cell else some .free
  |o=>o):=λx=>jl he.kind x
 have frees:∀x,scope.names.lookup x=some .free->(env.kindOf x=some .cell\/env.kindOf x=some .free):=λx e=>by
  have:=hs.free (x,.free) (mem_of_lookup e) rfl
  unfold Env.kindOf;rw[he.scope];exact this
 have nocell:∀x,scope.names.lookup x=some .free->(cellsFrom (h.objs.size+1) scope.names []).lookup x=none:=λx e=>by
  cases q:(cellsFrom (h.objs.size+1) scope.names []).lookup x with
  |none=>rfl
  |some a=>rw[(ownc x a q).1] at e;cases e
 have lookF:∀x b,scope.names.lookup x=some .free->(xn scope sc h.objs.size env).cells.lookup x=some b->env.cells.lookup x=some b:=λx b e q=>by
  rw[look,nocell x e] at q
  simp only[e,if_true] at q
  obtain⟨a,ha⟩:=Option.isSome_iff_exists.mp (F.own x (frees x e))
  rw[ha] at q ⊢;simpa using q
 have lookG:∀x b,scope.names.lookup x=some .free->env.cells.lookup x=some b->(xn scope sc h.objs.size env).cells.lookup x=some b:=λx b e q=>by
  rw[look,nocell x e]
  simp only[e,if_true]
  rw[q];rfl
 -- what a found cell is
 have found:∀x b,(xn scope sc h.objs.size env).cells.lookup x=some b->((scope.names.lookup x=some .cell/\h.objs.size+1<=b/\(cellsFrom (h.objs.size+1) scope.names []).lookup x=some b)\/(scope.names.lookup x=some .free/\env.cells.lookup x=some b)):=λx b e=>by
  have e':=e
  rw[look] at e
  split at e
  ·rename_i a q
   cases e
   exact .inl ⟨(ownc x _ q).1,(ownc x _ q).2.1,q⟩
  ·split at e
   ·rename_i hf
    exact .inr ⟨hf,lookF x b hf e'⟩
   ·cases e
 have lt_old:∀x b,env.cells.lookup x=some b->b<h.objs.size:=λx b e=>by
  obtain⟨w,o,eo,_⟩:=F.are x b e
  exact Heap.lt_size eo
 have noneB:∀b,h.objs.size<=b->c.hB.get? b=none:=λb hb=>by
  cases e:c.hB.get? b with
  |none=>rfl
  |some o=>exact absurd (Heap.lt_size (H.base b o e)) (Nat.not_lt.mpr hb)
 refine⟨⟨⟨_,hdict,λx v e ky=>?_⟩,λx v e ky=>?_,λx ky=>?_,λx b e=>?_,xI H (Nat.le_refl _),λx b e=>?_,λx y b e1 e2=>?_,noneB _ (Nat.le_refl _),λx b ky e=>?_⟩,⟨rfl,hs.kind,he.globals,he.builtins⟩,k1,λxs hx b hb=>?_,λy b e=>?_⟩
 ·unfold Xs at e
  split at e
  ·rename_i hf
   rw[kindR,hf] at ky
   simp only at ky
   split at ky<;>cases ky
  ·cases e
 ·unfold Xs at e
  split at e
  ·rename_i hf
   obtain⟨b,a,e1,e2,r⟩:=F.cells x v e (frees x hf)
   exact⟨b,a,lookG x b hf e1,e2.keeps k1,H.vr (.of_keep k1) r⟩
  ·cases e
 ·rw[kindR] at ky
  cases q:scope.names.lookup x with
  |none=>rw[q] at ky;simp at ky
  |some k=>
   rw[q] at ky
   cases k<;>simp at ky
   ·have:=cellsFrom_some (x:=x) scope.names (h.objs.size+1) [] (.inl q)
    obtain⟨a,ha⟩:=Option.isSome_iff_exists.mp this
    rw[look,ha];rfl
   ·obtain⟨a,ha⟩:=Option.isSome_iff_exists.mp (F.own x (frees x q))
    rw[lookG x a q ha];rfl
 ·rcases found x b e with⟨_,_,q⟩|⟨_,q⟩
  ·exact⟨none,(ownc x b q).2.2⟩
  ·obtain⟨o,hc⟩:=F.are x b q
   exact⟨o,hc.keeps k1⟩
 ·rcases found x b e with⟨_,q,_⟩|⟨_,q⟩
  ·exact xI H (Nat.le_of_succ_le q)
  ·exact F.offC x b q
 ·rcases found x b e1 with⟨a1,a2,q1⟩|⟨a1,q1⟩<;>rcases found y b e2 with⟨b1,b2,q2⟩|⟨b1,q2⟩
  ·exact name_of_addr ok.apart (mem_of_lookup q1) (mem_of_lookup q2)
  ·exact absurd (lt_old y b q2) (Nat.not_lt.mpr (Nat.le_of_succ_le a2))
  ·exact absurd (lt_old x b q1) (Nat.not_lt.mpr (Nat.le_of_succ_le b2))
  ·exact F.inj x y b q1 q2
 ·rcases found x b e with⟨_,q,_⟩|⟨hf,q⟩
  ·exact noneB _ (Nat.le_of_succ_le q)
  ·refine F.baseC x b ?_ q
   rw[kindR,hf] at ky
   simp only at ky
   split at ky
   ·unfold Env.kindOf;rw[he.scope];assumption
   ·cases ky
 ·rcases hb with rfl|⟨x,hxm,ky,e⟩
  ·refine⟨fresh_none (Nat.le_refl _),?_⟩
   obtain⟨o,_,_,eo,_⟩:=hdict
   show((pushCells (h.push { cls:=.type "dict",data:=.dict #[] }) scope.names).get? h.objs.size).isSome
   rw[eo];rfl
  ·rcases found x b e with⟨_,q,q2⟩|⟨hf,q⟩
   ·refine⟨fresh_none (Nat.le_of_succ_le q),?_⟩
    obtain⟨o,eo,_⟩:=(ownc x b q2).2.2
    rw[eo];rfl
   ·exact absurd hf (hx x hxm)
 ·rcases found y b e with⟨_,q,_⟩|⟨_,q⟩
  ·exact .inl (fresh_none (Nat.le_of_succ_le q))
  ·exact .inr q
end
noncomputable abbrev CI:=Loc->MO->(Loc->MO->MH->Prop)->MH->Prop
noncomputable def vf(x:MIt)(all:List MV)(t:Tgt)(test:MT)(inner:CI):List MV->CI
 |[]=>λloc acc Q mh=>xc x all mh/\Q loc acc mh
 |v::rest=>λloc acc Q mh=>xc x all mh/\∃loc',Y8 t v loc=some loc'/\
   test loc' (λb mh=>if b=true then inner loc' acc (λloc acc mh=>vf x all t test inner rest loc acc Q mh) mh else vf x all t test inner rest loc' acc Q mh) mh
noncomputable abbrev xD(m:ME):CI:=λloc acc Q mh=>match acc with
 |.list vs=>m loc (λv mh=>vs.length<=BIG/\Q loc (.list (vs++[v])) mh) mh
 |_=>False
noncomputable def U2(mk mv:ME):CI:=λloc acc Q mh=>match acc with
 |.idict ks=>mk loc (λk mh=>mv loc (λv mh=>match k with|.int i=>ks.length<=BIG/\Q loc (.idict (xi ks i v)) mh|_=>False) mh) mh
 |_=>False
noncomputable def jP(mi:MI)(t:Tgt)(test:MT)(inner:CI):CI:=λloc acc Q mh=>mi loc (λx mh=>∃vs,vf x vs t test inner vs loc acc Q mh) mh
noncomputable abbrev vP(ifs:List Expr)(env:Env):Sem Bool:=forIn ifs true λc r=>if r=true then do let ok <-isTrue c env (eval c env);pure (ForInStep.yield ok) else pure (ForInStep.yield r)
noncomputable def Wr(env:Env)(xs:List Str)(D:Addr)(own:List Addr)(b:Addr):Prop:=wb env xs b\/b=D\/b∈own
section
variable {c:Cx}{sc:Scope}{d:Nat}{env:Env}{loc:Loc}{φ φ' φ'':Phi}{mh:MH}{h h' h'':Heap}{own:List Addr}{D:Addr}{xs:List Str}
theorem su(b:Addr)(hb:wb env xs b):vF env b:=by
 rcases hb with h1|⟨x,_,h2,h3⟩
 ·exact .inl h1
 ·exact .inr ⟨x,h2,h3⟩
theorem OR.keepD{acc:MO}(x:OR c.prog c.w c.K h φ (D,none) acc)(KI:sq φ φ' h h')(ho:∀o,h.get? D=some o->h'.get? D=some o):OR c.prog c.w c.K h' φ' (D,none) acc:=
 x.keep (λb ob hb e=>by
  rcases hb with rfl|hb
  ·exact ho _ e
  ·cases hb) λv m r=>r.keepI KI
theorem Wr.mono{ys:List Str}{own':List Addr}(h1:∀x∈xs,x∈ys)(h2:∀a∈own,a∈own'){b:Addr}(hb:Wr env xs D own b):Wr env ys D own' b:=by
 rcases hb with h|h|h
 ·exact .inl (qU h1 h)
 ·exact .inr (.inl h)
 ·exact .inr (.inr (h2 b h))
theorem ud.weaken{W W':Addr->Prop}(x:ud W φ φ' h h')(hs:∀b,W b->W' b)(ha:∀b,W' b->(h.get? b).isSome):ud W' φ φ' h h':=
 ⟨x.pre,x.new,λb o hb hn e=>x.keep b o hb (λhq=>hn (hs b hq)) e,λb hb h1 h2=>by
  rcases x.new b h2 with h3|h3
  ·exact h1 h3
  ·have:=ha b hb;rw[h3] at this;cases this⟩
theorem ud.more{W W':Addr->Prop}(x:ud W φ φ' h h')(y:ud W' φ' φ'' h' h'')(hs:∀b,W b->W' b)(hn:∀b,W' b->W b\/h.get? b=none):ud W φ φ'' h h'' where
 pre:=x.pre.trans y.pre
 new:=λa ha=>by
  rcases y.new a ha with h1|h1
  ·exact x.new a h1
  ·by_cases hb:a∈z8 φ
   ·exact .inl hb
   ·by_cases hw:W a
    ·exact absurd ha (y.off a (hs a hw) (x.off a hw hb))
    ·refine .inr ?_
     cases e:h.get? a with
     |none=>rfl
     |some o=>rw[x.keep a o hb hw e] at h1;cases h1
 keep:=λb o hb hw e=>by
  refine y.keep b o (λhc=>?_) (λhq=>?_) (x.keep b o hb hw e)
  ·rcases x.new b hc with h1|h1
   ·exact hb h1
   ·rw[h1] at e;cases e
  ·rcases hn b hq with h1|h1
   ·exact hw h1
   ·rw[h1] at e;cases e
 off:=λb hb h1=>y.off b (hs b hb) (x.off b hb h1)
theorem ud.keepI{W:Addr->Prop}(x:ud W φ φ' h h')(H:c.Hp φ mh h)(hw:∀b,W b->∀o,h.get? b=some o->yP o):sq φ φ' h h':=
 ⟨x.pre,λb o hm e=>x.keep b o (λhb=>hm (H.mut b hb o e)) (λhb=>hm (hw b hb o e)) e⟩
noncomputable def XR(c:Cx)(sc:Scope)(d:Nat)(xs:List Str)(emit:Value->Env->Sem Unit)(inner:CI):Prop:=
 ∀(A:Around) (env:Env) (loc:Loc) (φ:Phi) (mh:MH) (s:Shared) (D:Addr) (acc:MO) (Q:Loc->MO->MH->Prop) (P:Unit->Shared->Prop) (E:Value->Shared->Prop),
  xS A d->yz env sc->c.Hp φ mh s.heap->FrR c env loc φ s.heap->yA c env φ s.heap [D]->OR c.prog c.w c.K s.heap φ (D,none) acc->inner loc acc Q mh->
  (∀loc' acc' φ' mh' h' tk,Q loc' acc' mh'->ud (Wr env xs D []) φ φ' s.heap h'->c.Hp φ' mh' h'->FrR c env loc' φ' h'->OR c.prog c.w c.K h' φ' (D,none) acc'->P () { s with heap:=h',toks:=tk })->
  wpAny c.M A (emit (.ref D) env) P E s
noncomputable def uT(c:Cx)(sc:Scope)(d:Nat)(ifs:List Expr)(test:MT):Prop:=
 ∀(A:Around) (env:Env) (loc:Loc) (φ:Phi) (mh:MH) (s:Shared) (Q:Bool->MH->Prop) (P:Bool->Shared->Prop) (E:Value->Shared->Prop),
  xS A d->yz env sc->c.Hp φ mh s.heap->FrR c env loc φ s.heap->test loc Q mh->KA c φ s Q P->wpAny c.M A (vP ifs env) P E s
noncomputable abbrev vq:MT:=λ_ Q mh=>Q true mh
theorem xk:uT c sc d [] vq:=λA env loc φ mh s Q P E hr he H F q o=>wpAny_tests_nil (o true φ mh s.heap s.toks q (.refl _ _) H)
theorem xG{e:Expr}{t:MT}(h:ST c sc d e t):uT c sc d [e] t:=λA env loc φ mh s Q P E hr he H F q o=>wpAny_tests_one (h A env loc φ mh s Q P E hr he H F q o)
structure CT(c:Cx)(env:Env)(xs:List Str)(D:Addr)(own:List Addr)(I:Addr)(x:MIt)(φ0:Phi)(h0:Heap)(loc:Loc)(φ:Phi)(mh:MH)(h:Heap)(acc:MO)(i:Nat):Prop where
 xx:ud (Wr env xs D own) φ0 φ h0 h
 H:c.Hp φ mh h
 F:FrR c env loc φ h
 ap:yA c env φ h own
 apD:yA c env φ h [D]
 hD:OR c.prog c.w c.K h φ (D,none) acc
 it:ItR h φ own I x i
section
variable {I:Addr}{x:MIt}{φ0:Phi}{h0 h2:Heap}{acc acc2:MO}{i:Nat}{loc2:Loc}{φ2:Phi}{mh2:MH}
theorem CT.alive(S:CT c env xs D own I x φ0 h0 loc φ mh h acc i):∀b,Wr env xs D own b->(h.get? b).isSome:=λb hb=>by
 rcases hb with hb|rfl|hb
 ·exact zI S.F b (su b hb)
 ·obtain⟨o,e,_⟩:=S.apD.muts b (List.mem_singleton_self _);rw[e];rfl
 ·obtain⟨o,e,_⟩:=S.ap.muts b hb;rw[e];rfl
theorem CT.stepOwn(S:CT c env xs D own I x φ0 h0 loc φ mh h acc i)(hDo:D∉own)(k:∀b ob,b∉own->h.get? b=some ob->h2.get? b=some ob)(it2:ItR h2 φ own I x (i+1)) :
  CT c env xs D own I x φ0 h0 loc φ mh h2 acc (i+1):=by
 obtain⟨H2,F2⟩:=wE S.H S.F S.ap k
 have kD:∀ob,h.get? D=some ob->h2.get? D=some ob:=λob e=>k D ob hDo e
 refine⟨S.xx.trans (.of_keep λb o hn e=>k b o (λhq=>hn (.inr (.inr hq))) e),H2,F2,S.ap.stepI it2,⟨S.apD.phi,S.apD.base,S.apD.loc,S.apD.cell,λa ha=>?_⟩,S.hD.keepD (xH S.ap k) kD,it2⟩
 simp at ha;subst ha
 obtain⟨o,e,hm⟩:=S.apD.muts a (List.mem_singleton_self _)
 exact⟨o,kD o e,hm⟩
theorem CT.named{ys:List Str}(S:CT c env xs D own I x φ0 h0 loc φ mh h acc i)(hxs:∀y∈ys,y∈xs)(k:∀b o,¬wb env ys b->h.get? b=some o->h2.get? b=some o)(H2:c.Hp φ mh h2)(F2:FrR c env loc2 φ h2)(x2:wk env φ φ h h2) :
  CT c env xs D own I x φ0 h0 loc2 φ mh h2 acc i:=by
 have a:=S.ap.stepF (loc:=loc) (mh:=mh) x2
 have b:=S.apD.stepF (loc:=loc) (mh:=mh) x2
 have KI:=x2.keepI S.H S.F
 exact⟨S.xx.trans (.of_keep λb o hn e=>k b o (λhq=>hn (.inl (qU hxs hq))) e),H2,F2,a.1,b.1,S.hD.keepD KI (λo e=>b.2 D (List.mem_singleton_self _) o e),S.it.keep KI a.2⟩
theorem CT.ext(S:CT c env xs D own I x φ0 h0 loc φ mh h acc i)(x2:Ext φ φ2 h h2)(H2:c.Hp φ2 mh2 h2):CT c env xs D own I x φ0 h0 loc φ2 mh2 h2 acc i:=by
 have xF:=x2.toF (zI S.F)
 have a:=S.ap.stepF (loc:=loc) (mh:=mh) xF
 have b:=S.apD.stepF (loc:=loc) (mh:=mh) xF
 have KI:=xF.keepI S.H S.F
 exact⟨S.xx.trans (x2.toW S.alive),H2,S.F.ext S.H x2,a.1,b.1,S.hD.keepD KI (λo e=>b.2 D (List.mem_singleton_self _) o e),S.it.keep KI a.2⟩
theorem CT.emit(S:CT c env xs D own I x φ0 h0 loc φ mh h acc i)(hDo:D∉own)(x2:ud (Wr env xs D []) φ φ2 h h2)(H2:c.Hp φ2 mh2 h2)(F2:FrR c env loc2 φ2 h2)(hD2:OR c.prog c.w c.K h2 φ2 (D,none) acc2) :
  CT c env xs D own I x φ0 h0 loc2 φ2 mh2 h2 acc2 i:=by
 have nW:∀a∈own,¬Wr env xs D [] a:=λa ha hw=>by
  rcases hw with hw|hw|hw
  ·exact S.ap.notOwn a ha (su a hw)
  ·subst hw;exact hDo ha
  ·simp at hw
 have ho5:∀a∈own,∀o,h.get? a=some o->h2.get? a=some o:=λa ha o e=>x2.keep a o (S.ap.phi a ha) (nW a ha) e
 have KI5:sq φ φ2 h h2:=x2.keepI S.H (λb hb o e=>by
  rcases hb with hb|rfl|hb
  ·exact KT S.F (su b hb) e
  ·obtain⟨o',e',hm⟩:=S.apD.muts b (List.mem_singleton_self _);rw[e'] at e;cases e;exact hm
  ·simp at hb)
 refine⟨S.xx.trans (x2.weaken (λb hb=>Wr.mono (λ_ h=>h) nA hb) S.alive),H2,F2,⟨λa ha hq=>?_,S.ap.base,S.ap.loc,S.ap.cell,λa ha=>?_⟩,⟨λa ha=>?_,S.apD.base,S.apD.loc,S.apD.cell,λa ha=>?_⟩,hD2,S.it.keep KI5 ho5⟩
 ·rcases x2.new a hq with h1|h1
  ·exact S.ap.phi a ha h1
  ·obtain⟨o,e,_⟩:=S.ap.muts a ha
   rw[h1] at e;cases e
 ·obtain⟨o,e,hm⟩:=S.ap.muts a ha
  exact⟨o,ho5 a ha o e,hm⟩
 ·simp at ha;subst ha
  exact x2.off a (.inr (.inl rfl)) (S.apD.phi a (List.mem_singleton_self _))
 ·simp at ha;subst ha
  exact hD2.mutD
end
theorem Zi{A:Around}{s:Shared}{e tgt:Expr}{t:Tgt}{ifs:List Expr}{test:MT}{depth:Nat}{pos:Pos}{emit:Value->Env->Sem Unit}{inner:CI}{I:Addr}{x:MIt}{all:List MV}{acc:MO}
  {Q:Loc->MO->MH->Prop}{R:Result->Shared->Prop}
  (hq:(Code.compLoop e depth (.ref I) (.ref D) env).quiet=true)
  (hu:A.under (Code.compLoop e depth (.ref I) (.ref D) env)=A)
  (hden:denote table (.compLoop e depth (.ref I) (.ref D) env)=(compTurn e depth (.ref I) (.ref D) env).onRaise (λx=>do noteFrame x env;theTreesLotGoes x))
  (hturn:compTurn e depth (.ref I) (.ref D) env=(do
   standAt pos
   match <-pyNext (.ref I) with
   |none=>pure (.done .next)
   |some v=>
    letOwnedTupleGo tgt (.ref I) v
    assign tgt env v
    let ok <-vP ifs env
    if ok=true then emit (.ref D) env
    again (.compLoop e depth (.ref I) (.ref D) env)))
  (htg:uG tgt=some t) (hk:∀y∈t.names,sc.names.lookup y=some .local\/sc.names.lookup y=some .cell) (hxs:∀y∈t.names,y∈xs)
  (hT:uT c sc d ifs test) (hE:XR c sc d xs emit inner)
  (hr:xS A d) (he:yz env sc) (hen:(∃es k p,tgt=.Tuple es k p)\/∀r,x≠.enum r) (hDo:D∉own)
  (H:c.Hp φ mh s.heap) (F:FrR c env loc φ s.heap) (ap:yA c env φ s.heap own) (apD:yA c env φ s.heap [D]) (hD:OR c.prog c.w c.K s.heap φ (D,none) acc) (it:ItR s.heap φ own I x 0)
  (q:vf x all t test inner all loc acc Q mh)
  (o:∀loc' acc' φ' mh' h' tk,Q loc' acc' mh'->ud (Wr env xs D own) φ φ' s.heap h'->c.Hp φ' mh' h'->FrR c env loc' φ' h'->OR c.prog c.w c.K h' φ' (D,none) acc'->R (.ok .next) { s with heap:=h',toks:=tk }) :
  codeAny c.M A (.compLoop e depth (.ref I) (.ref D) env) R s:=by
 let Inv:Nat->Shared->Prop:=λn s'=>X7 λ(loc':Loc) (φ':Phi) (mh':MH) (h':Heap) (tk:Nat) (acc':MO) (i:Nat)=>N5 (s'={ s with heap:=h',toks:=tk }) (CT c env xs D own I x φ s.heap loc' φ' mh' h' acc' i) (vf x all t test inner (all.drop i) loc' acc' Q mh') (i<=all.length) (n=all.length+1-i)
 refine codeAny_loop hq Inv ?_ (all.length+1) ⟨loc,φ,mh,s.heap,s.toks,acc,0,rfl,⟨.refl,H,F,ap,apD,hD,it⟩,by simpa using q,Nat.zero_le _,by exact Nat.add_succ all.length 0⟩
 rintro n s' ⟨loc',φ',mh',h',tk,acc',i,rfl,S,qq,hi',rfl⟩
 rw[hu]
 show wpAny c.M A (denote table (.compLoop e depth (.ref I) (.ref D) env)) _ _ _
 rw[hden,hturn]
 refine wpAny_noted (wpAny_bind (wpAny_standAt (wpAny_bind ?_)))
 by_cases hlt:i<all.length
 ·have hd:all.drop i=all[i]::all.drop (i+1):=(List.drop_eq_getElem_cons hlt)
  rw[hd] at qq
  obtain⟨ok,loc2,hbt,qq⟩:=qq
  refine wpAny_mono (Jd (t1:=true) hen S.H S.ap S.it ok (List.getElem?_eq_getElem hlt) (P:=λv s2=>wpAny c.M A (do
    assign tgt env v
    let ok <-vP ifs env
    if ok=true then emit (.ref D) env
    again (.compLoop e depth (.ref I) (.ref D) env))
    (λfin s'=>match fin with|.done f=>R (.ok f) s'|.again c'=>c'=Code.compLoop e depth (.ref I) (.ref D) env/\∃m,m<all.length+1-i/\Inv m s') (notedBy c.M A env λe s'=>R (.error e) s') s2) ?_) ?_ λ_ _ z=>z
  ·intro v h2 tk2 rv it2 k
   have S2:=S.stepOwn hDo k it2
   refine wpAny_bind (VI htg hk hr.handled he S2.H S2.F rv hbt λh3 tk3 k3 H3 F3 x3=>?_)
   have S3:=S2.named hxs k3 H3 F3 x3
   refine wpAny_bind (hT A env loc2 φ' mh' _ _ _ _ hr he H3 F3 qq λb φ4 mh4 h4 tk4 q4 x4 H4=>?_)
   have S4:=S3.ext x4 H4
   cases b with
   |false=>
    simp only[Bool.false_eq_true,if_false] at q4 ⊢
    exact wpAny_bind (wpAny_pure (wpAny_pure ⟨rfl,all.length+1-(i+1),Nat.sub_lt_sub_left (Nat.lt_succ_of_lt hlt) (Nat.lt_succ_self i),loc2,φ4,mh4,h4,tk4,acc',i+1,rfl,S4,q4,hlt,rfl⟩))
   |true=>
    simp only[if_true] at q4 ⊢
    refine wpAny_bind (hE A env loc2 φ4 mh4 _ D acc' _ _ _ hr he H4 S4.F S4.apD S4.hD q4 λloc5 acc5 φ5 mh5 h5 tk5 q5 x5 H5 F5 hD5=>?_)
    exact wpAny_pure ⟨rfl,all.length+1-(i+1),Nat.sub_lt_sub_left (Nat.lt_succ_of_lt hlt) (Nat.lt_succ_self i),loc5,φ5,mh5,h5,tk5,acc5,i+1,rfl,S4.emit hDo x5 H5 F5 hD5,q5,hlt,rfl⟩
  ·rintro r s1 ⟨v,rfl,hh⟩
   exact wpAny_bind hh
 ·have hd:all.drop i=[]:=List.drop_eq_nil_of_le (Nat.le_of_not_lt hlt)
  rw[hd] at qq
  obtain⟨ok,qq⟩:=qq
  refine zcs hr.handled S.H S.ap S.it ok (by lia) λh2 tk2 k=>?_
  obtain⟨H2,F2⟩:=wE S.H S.F S.ap k
  exact wpAny_pure (o loc' acc' φ' mh' h2 tk2 qq (S.xx.trans (.of_keep λb o hn e=>k b o (λhq=>hn (.inr (.inr hq))) e)) H2 F2 (S.hD.keepD (xH S.ap k) (λob e=>k D ob hDo e)))
end
section
variable {c:Cx}{sc:Scope}{d:Nat}{env:Env}{loc:Loc}{φ φ' φ'':Phi}{mh:MH}{h h' h'':Heap}{own:List Addr}{D:Addr}{xs:List Str}
theorem XD{A:Around}{s:Shared}{I:Addr}{x:MIt}{i:Nat}{Q:Value->Shared->Prop}{E:Value->Shared->Prop}(it:ItR s.heap φ own I x i)(q:Q (.ref I) s):wpAny c.M A (pyIter (.ref I)) Q E s:=by
 cases it with
 |tuple a _ _=>exact wpAny_pyIter_tupleiter a q
 |range a=>exact wpAny_pyIter_rangeiter a q
 |list _ a=>exact wpAny_pyIter_listiter a q
 |enum _ _ a _=>exact wpAny_pyIter_enum a q
theorem Hp.pushAt{acc:MO}(H:c.Hp φ mh h)(h1:D∉z8 φ)(h2:c.hB.get? D=none)(h3:mainGlobals<D)(ho:OR c.prog c.w c.K h φ (D,none) acc) :
  c.Hp (φ++[(D,none)]) (mh++[acc]) h/\VR h (φ++[(D,none)]) (.ref D) (.ref mh.length):=by
 have KI:sq φ (φ++[(D,none)]) h h:=⟨List.prefix_append _ _,λ_ _ _ e=>e⟩
 have hv:∀v m,VR h φ v m->VR h (φ++[(D,none)]) v m:=λv m r=>r.keepI KI
 have hadr:z8 (φ++[(D,none)])=z8 φ++[D]:=by simp[z8]
 refine⟨⟨H.base,by simp[H.len],λi o p e1 e2=>?_,?_,λa ha=>?_⟩,.ref (d:=none) (by rw[<-H.len];simp)⟩
 ·by_cases hi:i<mh.length
  ·rw[List.getElem?_append_left hi] at e1
   rw[List.getElem?_append_left (by rw[H.len];exact hi)] at e2
   exact(H.objs i o p e1 e2).keep (λb ob _ e=>e) hv
  ·have hi':i=mh.length:=by
    have:=(List.getElem?_eq_some_iff.mp e1).1
    simp at this;omega
   subst hi'
   simp at e1
   rw[<-H.len] at e2
   simp at e2
   subst e1 e2
   exact ho.keep (λb ob _ e=>e) hv
 ·rw[hadr,List.nodup_append]
  refine⟨H.nodup,by simp,λa ha b hb e=>?_⟩
  simp at hb;subst hb;subst e;exact h1 ha
 ·rw[hadr] at ha
  rcases List.mem_append.mp ha with h4|h4
  ·exact H.off a h4
  ·simp at h4;subst h4;exact⟨h2,h3⟩
theorem Ext.pushAt{h0:Heap}(x:Ext φ φ' h0 h)(hn:h0.get? D=none):Ext φ (φ'++[(D,none)]) h0 h:=
 ⟨x.pre.trans (List.prefix_append _ _),λa ha=>by
  rw[wS] at ha
  rcases List.mem_append.mp ha with h1|h1
  ·exact x.new a h1
  ·simp[z8] at h1;subst h1;exact .inr hn,x.keep⟩
noncomputable def jp(elt:Expr):Value->Env->Sem Unit:=λacc env=>do let _ <-call (.builtin "list.append") [acc,<-eval elt env]
theorem Ur{elt:Expr}{m:ME}(hm:SE c sc d elt m):XR c sc d xs (jp elt) (xD m):=
 λA env loc φ mh s D acc Q P E hr he H F apD hD q o=>by
  unfold xD at q
  cases acc<;>try exact q.elim
  rename_i vs
  refine wpAny_bind (hm A env loc φ mh s _ _ E hr he H F q λv mv φ1 mh1 h1 tk1 q1 x1 H1 r1=>?_)
  obtain⟨hb,q1⟩:=q1
  have F1:=F.ext H x1
  have x1F:=x1.toF (zI F)
  have apD1:=apD.stepF (loc:=loc) (mh:=mh) x1F
  have hD1:=hD.keepD (x1F.keepI H F) (λo e=>apD1.2 D (List.mem_singleton_self _) o e)
  obtain⟨ws,n,_,g,r⟩:=hD1.inv_list
  refine wpAny_bind (wpAny_list_append_plain (s:={ s with heap:=h1,toks:=tk1 }) (items:=ws.toArray) ⟨n,g⟩ (λh2 hp hs=>?_) (by rw[List.size_toArray,r.length];exact yj hb))
  obtain⟨n',g'⟩:=hp
  have k:∀b o,b∉[D]->h1.get? b=some o->h2.get? b=some o:=λb o hb e=>(hs.2 b (by simpa using hb)).trans e
  obtain⟨H2,F2⟩:=wE H1 F1 apD1.1 k
  have KI:=xH apD1.1 k
  have al:∀b,Wr env xs D [] b->(s.heap.get? b).isSome:=λb hb=>by
   rcases hb with hb|rfl|hb
   ·exact zI F b (su b hb)
   ·obtain⟨o,e,_⟩:=apD.muts b (List.mem_singleton_self _);rw[e];rfl
   ·simp at hb
  refine wpAny_pure (o _ _ φ1 mh1 h2 tk1 q1 ((x1.toW al).trans (.of_keep λb o hn e=>k b o (λhq=>hn (.inr (.inl (by simpa using hq)))) e)) H2 F2 (.list (n:=n') (vs:=ws++[v]) (by rw[g'];simp[zy]) ((r.keepI KI).append (.one (r1.keepI KI)))))
noncomputable def Jj(kx vx:Expr):Value->Env->Sem Unit:=λacc env=>match acc with
 |.ref D=>(do
   let kv <-eval kx env
   let vv <-holding [kv] (eval vx env)
   standAt { kx.pos with endLine:=vx.pos.endLine,endCol:=vx.pos.endCol }
   holding [kv,vv] (dictSet D kv vv))
 |_=>pure ()
theorem zdi{kx vx:Expr}{mk mv:ME}(hk:SE c sc d kx mk)(hv:SE c sc d vx mv):XR c sc d xs (Jj kx vx) (U2 mk mv):=
 λA env loc φ mh s D acc Q P E hr he H F apD hD q o=>by
  unfold U2 at q
  cases acc<;>try exact q.elim
  rename_i ks
  show wpAny c.M A (do
   let kv <-eval kx env
   let vv <-holding [kv] (eval vx env)
   standAt { kx.pos with endLine:=vx.pos.endLine,endCol:=vx.pos.endCol }
   holding [kv,vv] (dictSet D kv vv)) P E s
  refine wpAny_bind (hk A env loc φ mh s _ _ E hr he H F q λk m1 φ1 mh1 h1 tk1 q1 x1 H1 r1=>?_)
  refine wpAny_bind (wpAny_holding (hv A env loc φ1 mh1 { s with heap:=h1,toks:=tk1 } _ _ E hr he H1 (F.ext H x1) q1 λv m2 φ2 mh2 h2 tk2 q2 x2 H2 r2=>?_))
  cases r1<;>try exact q2.elim
  rename_i i t
  obtain⟨hb,q2⟩:=q2
  have xx:=x1.trans x2
  have F2:=F.ext H xx
  have xF:=xx.toF (zI F)
  have apD1:=apD.stepF (loc:=loc) (mh:=mh) xF
  have hD1:=hD.keepD (xF.keepI H F) (λo e=>apD1.2 D (List.mem_singleton_self _) o e)
  obtain⟨kv,_,g,r⟩:=hD1.inv_idict
  refine wpAny_bind (wpAny_standAt (wpAny_holding ?_))
  refine wpAny_dictSet_pairs (s:={ s with heap:=h2,toks:=tk2 }) (knd:=intKind c.prog c.w) (k:=i) (by simp[intKind,Value.isInt]) g (λh3 hp hs=>?_) (by have:=r.length;exact yj (by omega))
  have k:∀b o,b∉[D]->h2.get? b=some o->h3.get? b=some o:=λb o hb e=>(hs.2 b (by simpa using hb)).trans e
  obtain⟨H3,F3⟩:=wE H2 F2 apD1.1 k
  have KI:=xH apD1.1 k
  have al:∀b,Wr env xs D [] b->(s.heap.get? b).isSome:=λb hb=>by
   rcases hb with hb|rfl|hb
   ·exact zI F b (su b hb)
   ·obtain⟨o,e,_⟩:=apD.muts b (List.mem_singleton_self _);rw[e];rfl
   ·simp at hb
  exact o _ _ φ2 mh2 h3 _ q2 ((xx.toW al).trans (.of_keep λb o hn e=>k b o (λhq=>hn (.inr (.inl (by simpa using hq)))) e)) H3 F3 (.idict hp ((r.map λv m q=>q.keepI KI).set i (r2.keepI KI) (DictOf.nodup g)))
noncomputable def jo(e:Expr)(iter:Expr):Value->Env->Sem Unit:=λacc env=>do
 let x <-eval iter env
 standAt iter.pos
 let x <-foldedSetIterable iter env x
 let _ <-runOwn (.compStart e 1 (<-holding [x] (pyIter x)) acc env) env
theorem Y5(elt t1 i1 t2 i2:Expr)(ifs1 ifs2:List Expr)(scope:Scope)(pos:Pos)(it acc:Value)(env:Env) :
  compTurn (.ListComp elt [⟨t1,i1,ifs1,0⟩,⟨t2,i2,ifs2,0⟩] scope pos) 0 it acc env=(do
   standAt i1.pos
   match <-pyNext it with
   |none=>pure (.done .next)
   |some v=>
    letOwnedTupleGo t1 it v
    assign t1 env v
    let ok <-vP ifs1 env
    if ok=true then do
     let x <-eval i2 env
     standAt i2.pos
     let x <-foldedSetIterable i2 env x
     let it' <-holding [x] (pyIter x)
     let _ <-runOwn (.compStart (.ListComp elt [⟨t1,i1,ifs1,0⟩,⟨t2,i2,ifs2,0⟩] scope pos) 1 it' acc env) env
     again (.compLoop (.ListComp elt [⟨t1,i1,ifs1,0⟩,⟨t2,i2,ifs2,0⟩] scope pos) 0 it acc env)
    else again (.compLoop (.ListComp elt [⟨t1,i1,ifs1,0⟩,⟨t2,i2,ifs2,0⟩] scope pos) 0 it acc env)):=by rfl
theorem Xd(elt t1 i1 t2 i2:Expr)(ifs1 ifs2:List Expr)(scope:Scope)(pos:Pos)(it acc:Value)(env:Env) :
  compTurn (.ListComp elt [⟨t1,i1,ifs1,0⟩,⟨t2,i2,ifs2,0⟩] scope pos) 0 it acc env=(do
   standAt i1.pos
   match <-pyNext it with
   |none=>pure (.done .next)
   |some v=>
    letOwnedTupleGo t1 it v
    assign t1 env v
    let ok <-vP ifs1 env
    if ok=true then jo (.ListComp elt [⟨t1,i1,ifs1,0⟩,⟨t2,i2,ifs2,0⟩] scope pos) i2 acc env
    again (.compLoop (.ListComp elt [⟨t1,i1,ifs1,0⟩,⟨t2,i2,ifs2,0⟩] scope pos) 0 it acc env)):=by
 rw[Y5]
 unfold jo
 simp only[bind_assoc,pure_bind]
theorem Xc(elt t1 i1 t2 i2:Expr)(ifs1 ifs2:List Expr)(scope:Scope)(pos:Pos)(it acc:Value)(env:Env) :
  compTurn (.ListComp elt [⟨t1,i1,ifs1,0⟩,⟨t2,i2,ifs2,0⟩] scope pos) 1 it acc env=(do
   standAt i2.pos
   match <-pyNext it with
   |none=>pure (.done .next)
   |some v=>
    letOwnedTupleGo t2 it v
    assign t2 env v
    let ok <-vP ifs2 env
    if ok=true then jp elt acc env
    again (.compLoop (.ListComp elt [⟨t1,i1,ifs1,0⟩,⟨t2,i2,ifs2,0⟩] scope pos) 1 it acc env)):=by rfl
theorem WL(elt t1 i1:Expr)(ifs1:List Expr)(scope:Scope)(pos:Pos)(it acc:Value)(env:Env) :
  compTurn (.ListComp elt [⟨t1,i1,ifs1,0⟩] scope pos) 0 it acc env=(do
   standAt i1.pos
   match <-pyNext it with
   |none=>pure (.done .next)
   |some v=>
    letOwnedTupleGo t1 it v
    assign t1 env v
    let ok <-vP ifs1 env
    if ok=true then jp elt acc env
    again (.compLoop (.ListComp elt [⟨t1,i1,ifs1,0⟩] scope pos) 0 it acc env)):=by rfl
theorem WM(kx vx t1 i1:Expr)(ifs1:List Expr)(scope:Scope)(pos:Pos)(it:Value)(D:Addr)(env:Env) :
  compTurn (.DictComp kx vx [⟨t1,i1,ifs1,0⟩] scope pos) 0 it (.ref D) env=(do
   standAt i1.pos
   match <-pyNext it with
   |none=>pure (.done .next)
   |some v=>
    letOwnedTupleGo t1 it v
    assign t1 env v
    let ok <-vP ifs1 env
    if ok=true then Jj kx vx (.ref D) env
    again (.compLoop (.DictComp kx vx [⟨t1,i1,ifs1,0⟩] scope pos) 0 it (.ref D) env)):=by rfl
theorem UD{A:Around}{s:Shared}{R:Result->Shared->Prop}{elt t1 i1 t2 i2:Expr}{ifs1 ifs2:List Expr}{scope:Scope}{pos:Pos}{it acc:Value}{env:Env}
  (h0:codeAny c.M A (.compLoop (.ListComp elt [⟨t1,i1,ifs1,0⟩,⟨t2,i2,ifs2,0⟩] scope pos) 1 it acc env) R s)
  (h:wpAny c.M A (pyIter it) (λit' s'=>codeAny c.M A (.compLoop (.ListComp elt [⟨t1,i1,ifs1,0⟩,⟨t2,i2,ifs2,0⟩] scope pos) 1 it' acc env) R s')
   (notedBy c.M A env λx s'=>R (.error x) s') s) :
  codeAny c.M A (.compStart (.ListComp elt [⟨t1,i1,ifs1,0⟩,⟨t2,i2,ifs2,0⟩] scope pos) 1 it acc env) R s:=by
 refine codeAny_of_tree ?_
 show wpAny _ A ((compStart (.ListComp elt [⟨t1,i1,ifs1,0⟩,⟨t2,i2,ifs2,0⟩] scope pos) 1 it acc env).onRaise (λx=>do noteFrame x env;standAt theWindowsPlace)) _ _ s
 refine wpAny_notedAt ?_
 unfold compStart
 show wpAny _ A (ask >>= _) _ _ s
 refine wpAny_bind (wpAny_askSetting (wpAny_ite ?_))
 split
 ·first
   |exact wpAny_bind (wpAny_pure (wpAny_pure (And.intro rfl h0)))
   |exact wpAny_pure (And.intro rfl h0)
 ·first
   |exact wpAny_bind (wpAny_rule (wpAny_bind (wpAny_standAt (wpAny_bind (wpAny_mono h (λit' s' h'=>wpAny_pure (And.intro rfl h')) λ_ _ x=>x)))))
   |(refine wpAny_bind (wpAny_rule ?_);show wpAny _ _ (standAt i2.pos >>= _) _ _ s;exact wpAny_bind (wpAny_standAt (wpAny_bind (wpAny_mono h (λit' s' h'=>wpAny_pure (And.intro rfl h')) λ_ _ x=>x))))
theorem zao{elt t1 i1 t2 i2:Expr}{ifs1 ifs2:List Expr}{scope:Scope}{pos:Pos}{mi:MI}{t:Tgt}{test:MT}{inner:CI}{en:Bool}
  (hi:SI c sc d i2 en mi) (hs:∀env x,foldedSetIterable i2 env x=pure x) (htg:uG t2=some t) (hk:∀y∈t.names,sc.names.lookup y=some .local\/sc.names.lookup y=some .cell) (hxs:∀y∈t.names,y∈xs)
  (hen:en=false\/∃es k p,t2=.Tuple es k p) (hT:uT c sc d ifs2 test) (hE:XR c sc d xs (jp elt) inner) :
  XR c sc d xs (jo (.ListComp elt [⟨t1,i1,ifs1,0⟩,⟨t2,i2,ifs2,0⟩] scope pos) i2) (jP mi t test inner):=
 λA env loc φ mh s D acc Q P E hr he H F apD hD q o=>by
  have al:∀b,Wr env xs D [] b->(s.heap.get? b).isSome:=λb hb=>by
   rcases hb with hb|rfl|hb
   ·exact zI F b (su b hb)
   ·obtain⟨o,e,_⟩:=apD.muts b (List.mem_singleton_self _);rw[e];rfl
   ·simp at hb
  unfold jo
  refine wpAny_bind (wpAny_mono (hi A env loc φ mh s _ (λit s2=>wpAny c.M A (do let _ <-runOwn (.compStart (.ListComp elt [⟨t1,i1,ifs1,0⟩,⟨t2,i2,ifs2,0⟩] scope pos) 1 it (.ref D) env) env) P E s2) E hr he H F q
   λI own x φ1 mh1 h1 tk1 q1 x1 H1 it1 hown hne=>?_) (λx s1 hh=>?_) λ_ _ z=>z)
  ·obtain⟨vs,q1⟩:=q1
   have hnone:∀a∈own,s.heap.get? a=none:=λa ha=>(hown a ha).1
   have F1:=F.ext H x1
   have x1F:=x1.toF (zI F)
   have ap1:yA c env φ1 h1 own:=yA.of H F hown
   have apD1:=apD.stepF (loc:=loc) (mh:=mh) x1F
   have hD1:=hD.keepD (x1F.keepI H F) (λo e=>apD1.2 D (List.mem_singleton_self _) o e)
   have hDo:D∉own:=λhq=>by
    obtain⟨o,e,_⟩:=apD.muts D (List.mem_singleton_self _)
    rw[hnone D hq] at e;cases e
   have main:codeAny c.M A (.compLoop (.ListComp elt [⟨t1,i1,ifs1,0⟩,⟨t2,i2,ifs2,0⟩] scope pos) 1 (.ref I) (.ref D) env)
     (λr s'=>match r with|.ok f=>wpAny c.M A (pure ()) P E s'|.error e=>cameBackBy c.M A env E e s') { s with heap:=h1,toks:=tk1 }:=by
    refine Zi (xs:=xs) (t:=t) (emit:=jp elt) rfl rfl rfl (Xc elt t1 i1 t2 i2 ifs1 ifs2 scope pos (.ref I) (.ref D) env) htg hk hxs hT hE hr he
     (hen.elim (λh=>.inr (hne h)) .inl) hDo H1 F1 ap1 apD1.1 hD1 it1 q1 λloc2 acc2 φ2 mh2 h2 tk2 q2 x2 H2 F2 hD2=>?_
    refine wpAny_pure (o loc2 acc2 φ2 mh2 h2 tk2 q2 ((x1.toW al).more x2 (λb hb=>Wr.mono (λ_ h=>h) nA hb) λb hb=>?_) H2 F2 hD2)
    rcases hb with hb|hb|hb
    ·exact .inl (.inl hb)
    ·exact .inl (.inr (.inl hb))
    ·exact .inr (hnone b hb)
   refine wpAny_bind (wpAny_runOwn (h:=none) (UD main (XD (s:={ s with heap:=h1,toks:=tk1 }) it1 main)))
  ·exact wpAny_bind (wpAny_standAt (wpAny_bind (wpAny_of_eq (hs env x) (wpAny_bind (wpAny_holding hh)))))
end
noncomputable def KB(c:Cx)(newAcc:Sem Value)(acc0:MO):Prop:=
 ∀(A:Around) (s:Shared) (P:Value->Shared->Prop) (E:Value->Shared->Prop),
  (∀h',s.heap.objs.size<h'.objs.size->(∀b o,s.heap.get? b=some o->h'.get? b=some o)->(∀φ,OR c.prog c.w c.K h' φ (s.heap.objs.size,none) acc0)->P (.ref s.heap.objs.size) { s with heap:=h' })->wpAny c.M A newAcc P E s
section
variable {c:Cx}{sc:Scope}{d:Nat}
theorem Za:KB c (newList []) (.list []):=λA s P E o=>
 wpAny_newObj_type (o _ (by rw[Heap.size_push];exact Nat.lt_succ_self _) (z4 _) λφ=>.list (n:=0) (Heap.get?_push_size _ rfl) .nil)
theorem VH:KB c newDict (.idict []):=λA s P E o=>by
 unfold newDict
 exact wpAny_newObj_type (o _ (by rw[Heap.size_push];exact Nat.lt_succ_self _) (z4 _) λφ=>.idict (Heap.DictOf.new _) .nil)
noncomputable def Xz(scope:Scope)(mi:MI)(t:Tgt)(test:MT)(inner:CI)(acc0:MO):ME:=λloc Q mh=>
 mi loc (λx mh=>∃vs,vf x vs t test inner vs (Xs scope loc) acc0 (λ_ acc mh=>Q (.ref mh.length) (mh++[acc])) mh) mh
theorem J4{A:Around}{s:Shared}{R:Result->Shared->Prop}{e:Expr}{it acc:Value}{env:Env}(he:(∃a t i f r sc p,e=.ListComp a (⟨t,i,f,0⟩::r) sc p)\/∃a b t i f r sc p,e=.DictComp a b (⟨t,i,f,0⟩::r) sc p)
  (h0:codeAny c.M A (.compLoop e 0 it acc env) R s) (h:wpAny c.M A (pyIter it) (λit' s'=>codeAny c.M A (.compLoop e 0 it' acc env) R s') (notedBy c.M A env λx s'=>R (.error x) s') s) :
  codeAny c.M A (.compStart e 0 it acc env) R s:=by
 rcases he with⟨a,t,i,f,r,sc,p,rfl⟩|⟨a,b,t,i,f,r,sc,p,rfl⟩
 ·exact codeAny_compStart_list h0 h
 ·exact codeAny_compStart_dict h0 h
theorem jN{A:Around}{env:Env}{loc:Loc}{φ:Phi}{mh:MH}{s:Shared}{e tgt iter:Expr}{ifs:List Expr}{rest:List Comprehension}{scope:Scope}{pos:Pos}{newAcc:Sem Value}{acc0:MO}{use:Option (Value->Sem Unit)}
  {mi:MI}{t:Tgt}{test:MT}{inner:CI}{en:Bool}{emit:Value->Env->Sem Unit}{xs:List Str}{Q:MV->MH->Prop}{P:Value->Shared->Prop}{E:Value->Shared->Prop}
  (hcl:clausesOf e=⟨tgt,iter,ifs,0⟩::rest)
  (hform:(∃a t i f r sc p,e=.ListComp a (⟨t,i,f,0⟩::r) sc p)\/∃a b t i f r sc p,e=.DictComp a b (⟨t,i,f,0⟩::r) sc p)
  (hs:∀env x,foldedSetIterable iter env x=pure x) (hnew:KB c newAcc acc0) (hsc:uh scope sc)
  (hi:SI c sc d iter en mi) (hen:en=false\/∃es k p,tgt=.Tuple es k p) (htg:uG tgt=some t)
  (hk:∀y∈t.names,(yL scope sc).names.lookup y=some .local\/(yL scope sc).names.lookup y=some .cell) (hxs:∀y∈t.names,y∈xs) (hfree:∀x∈xs,scope.names.lookup x≠some .free)
  (hT:uT c (yL scope sc) d ifs test) (hE:XR c (yL scope sc) d xs emit inner)
  (hq:∀I D env,(Code.compLoop e 0 (.ref I) (.ref D) env).quiet=true) (hu:∀I D env,A.under (Code.compLoop e 0 (.ref I) (.ref D) env)=A)
  (hden:∀I D env,denote table (.compLoop e 0 (.ref I) (.ref D) env)=(compTurn e 0 (.ref I) (.ref D) env).onRaise (λx=>do noteFrame x env;theTreesLotGoes x))
  (hturn:∀I D env,compTurn e 0 (.ref I) (.ref D) env=(do
   standAt iter.pos
   match <-pyNext (.ref I) with
   |none=>pure (.done .next)
   |some v=>
    letOwnedTupleGo tgt (.ref I) v
    assign tgt env v
    let ok <-vP ifs env
    if ok=true then emit (.ref D) env
    again (.compLoop e 0 (.ref I) (.ref D) env)))
  (hr:xS A d) (he:yz env sc) (H:c.Hp φ mh s.heap) (F:FrR c env loc φ s.heap) (q:Xz scope mi t test inner acc0 loc Q mh)
  (oN:use=none->Out c φ s Q P)
  (oU:∀u,use=some u->∀D C mv φ' mh' h' tk,Q mv mh'->Ext φ φ' s.heap h'->c.Hp φ' mh' h'->VR h' φ' (.ref D) mv->s.heap.get? C=none->C∉z8 φ'->(∃m,h'.Ns C m)->
   wpAny c.M A (u (.ref D)) (λ_ s''=>∃m,s''.heap.Ns C m/\∀h',Heap.SameBut C s''.heap h'->P .none { s'' with heap:=h' }) E { s with heap:=h',toks:=tk }) :
  wpAny c.M A (comprehension e scope env pos newAcc false (eval iter env) use) P E s:=by
 refine wpAny_comprehension_free hcl (hs env) (Uz he hsc F) hsc.kind hsc.locals ?_
 refine hi A env loc φ mh s _ _ E hr he H F q λI own x φ1 mh1 h1 tk1 q1 x1 H1 it1 hown hne=>?_
 obtain⟨vs,q1⟩:=q1
 have hnone:∀a∈own,s.heap.get? a=none:=λa ha=>(hown a ha).1
 have F1:=F.ext H x1
 refine hnew A { s with heap:=h1,toks:=tk1 } _ _ λh2 hsz2 k2 hacc=>?_
 have x2:Ext φ1 φ1 h1 h2:=.of_keep k2
 have H2:=H1.keep k2
 have F2:=F1.ext H1 x2
 refine Wn (s:={ s with heap:=h2,toks:=tk1 }) ?_
 obtain⟨F3,he3,k3,hfr,hcl3⟩:=Ky (h:=h2) he hsc H2 F2
 rw[JI he]
 have eqv:({ ({ scope,locals:=h2.objs.size,globals:=env.globals,cells:=cellsFrom (h2.objs.size+1) scope.names (vm env.cells scope.names []),qual:=env.qual,func:=none,code:=env.code,frame:=env.frame,builtins:=env.builtins }:Env) with scope:=yL scope sc }:Env)=xn scope sc h2.objs.size env:=rfl
 show codeAny c.M A (.compStart e 0 (.ref I) (.ref h1.objs.size) (xn scope sc h2.objs.size env)) (compPost c.M A E use P (.ref h1.objs.size) h2.objs.size) { s with heap:=pushCells (h2.push { cls:=.type "dict",data:=.dict #[] }) scope.names,toks:=tk1 }
 generalize hD:h1.objs.size=D at hsz2 hacc ⊢
 generalize hC:h2.objs.size=C at F3 he3 k3 hfr hcl3 hsz2 ⊢
 generalize hcenv:xn scope sc C env=cenv at F3 he3 hfr hcl3 ⊢
 have hCl:cenv.locals=C:=by subst hcenv;rfl
 generalize hh3:pushCells (h2.push { cls:=.type "dict",data:=.dict #[] }) scope.names=h3 at F3 k3 hfr ⊢
 have x3:Ext φ1 φ1 h2 h3:=.of_keep k3
 have x13:Ext φ1 φ1 h1 h3:=x2.trans x3
 have H3:=H2.keep k3
 have xs3:Ext φ φ1 s.heap h3:=x1.trans x13
 have lt1:∀b o,s.heap.get? b=some o->b<h1.objs.size:=λb o e=>by
  by_cases hb:b∈z8 φ
  ·have hb':b∈z8 φ1:=by
    obtain⟨t,rfl⟩:=x1.pre
    rw[wS];exact List.mem_append_left _ hb
   exact H1.lt b hb'
  ·exact Heap.lt_size (x1.keep b o hb e)
 have noneS:∀b,h1.objs.size<=b->s.heap.get? b=none:=λb hb=>by
  cases e:s.heap.get? b with
  |none=>rfl
  |some o=>exact absurd (lt1 b o e) (Nat.not_lt.mpr hb)
 have hDn:s.heap.get? D=none:=noneS D (by rw[hD];exact Nat.le_refl _)
 have hCn:s.heap.get? C=none:=noneS C (by rw[hD];exact Nat.le_of_lt hsz2)
 have hG:=Hp.glob H1
 -- the own addresses in the comprehension's frame
 have it3:ItR h3 φ1 own I x 0:=it1.keep ⟨List.prefix_rfl,λb o _ e=>k3 b o (k2 b o e)⟩ (λa _ o e=>k3 a o (k2 a o e))
 have mem_own:∀a∈own,∃ob,h1.get? a=some ob/\yP ob:=λa ha=>(hown a ha).2.2
 have tgtN:∀b,wb cenv xs b->h2.get? b=none:=λb hb=>(hfr xs hfree b hb).1
 have mkAp:∀a,s.heap.get? a=none->(∃ob,h2.get? a=some ob/\yP ob)->a∉z8 φ1->∀l:List Addr,a∈l->a∉z8 φ1/\c.hB.get? a=none/\a≠cenv.locals/\(∀y b,cenv.cells.lookup y=some b->a≠b)/\∃ob,h3.get? a=some ob/\yP ob:=by
  intro a hn hm hoff l _
  obtain⟨ob,eo,hmo⟩:=hm
  refine⟨hoff,?_,?_,λy b e hab=>?_,ob,k3 a ob eo,hmo⟩
  ·cases e:c.hB.get? a with
   |none=>rfl
   |some o=>have:=H.base a o e;rw[hn] at this;cases this
  ·rintro rfl
   have:=Heap.lt_size eo
   rw[hCl,<-hC] at this
   exact absurd this (Nat.lt_irrefl _)
  ·subst hab
   rcases hcl3 y a e with h4|h4
   ·rw[h4] at eo;cases eo
   ·obtain⟨w,o2,e2,_⟩:=F.are y a h4
    rw[hn] at e2;cases e2
 have ap3:yA c cenv φ1 h3 own:=by
  have main:=λa (ha:a∈own)=>mkAp a (hnone a ha) (by obtain⟨ob,eo,hm⟩:=mem_own a ha;exact⟨ob,k2 a ob eo,hm⟩) (hown a ha).2.1 own ha
  exact⟨λa ha=>(main a ha).1,λa ha=>(main a ha).2.1,λa ha=>(main a ha).2.2.1,λa ha=>(main a ha).2.2.2.1,λa ha=>(main a ha).2.2.2.2⟩
 have hDoff:D∉z8 φ1:=xI H1 (by rw[hD];exact Nat.le_refl _)
 have apD3:yA c cenv φ1 h3 [D]:=by
  have main:=mkAp D hDn ((hacc φ1).mutD) hDoff [D] (List.mem_singleton_self _)
  exact⟨λa ha=>by simp at ha;subst ha;exact main.1,λa ha=>by simp at ha;subst ha;exact main.2.1,λa ha=>by simp at ha;subst ha;exact main.2.2.1,λa ha=>by simp at ha;subst ha;exact main.2.2.2.1,
   λa ha=>by simp at ha;subst ha;exact main.2.2.2.2⟩
 have hD3:OR c.prog c.w c.K h3 φ1 (D,none) acc0:=(hacc φ1).keepD ⟨List.prefix_rfl,λb o _ e=>k3 b o e⟩ (λo e=>k3 D o e)
 have hDo:D∉own:=λhq=>by
  obtain⟨ob,eo,_⟩:=mem_own D hq
  have:=Heap.lt_size eo
  rw[hD] at this
  exact absurd this (Nat.lt_irrefl _)
 have main:codeAny c.M A (.compLoop e 0 (.ref I) (.ref D) cenv) (compPost c.M A E use P (.ref D) C) { s with heap:=h3,toks:=tk1 }:=by
  refine Zi (xs:=xs) (t:=t) (emit:=emit) (env:=cenv) (hq I D cenv) (hu I D cenv) (hden I D cenv) (hturn I D cenv) htg hk hxs hT hE hr he3 (hen.elim (λh=>.inr (hne h)) .inl) hDo H3 F3 ap3 apD3 hD3 it3 q1
   λloc5 acc5 φ5 mh5 h5 tk5 q5 x5 H5 F5 hD5=>?_
  have hwn:∀b,Wr cenv xs D own b->s.heap.get? b=none:=λb hb=>by
   rcases hb with hb|rfl|hb
   ·exact(x1.trans x2).old_none (c:=c) (mh:=mh) H2 (tgtN b hb)
   ·exact hDn
   ·exact hnone b hb
  have xs5:Ext φ φ5 s.heap h5:=xs3.thenW x5 hwn
  have hD5off:D∉z8 φ5:=x5.off D (.inr (.inl rfl)) hDoff
  have hDB:c.hB.get? D=none:=apD3.base D (List.mem_singleton_self _)
  obtain⟨H6,r6⟩:=Hp.pushAt H5 hD5off hDB (by rw[<-hD];exact hG) hD5
  have xs6:Ext φ (φ5++[(D,none)]) s.heap h5:=xs5.pushAt hDn
  obtain⟨m5,hn5,_⟩:=F5.ns
  have hC6:C∉z8 (φ5++[(D,none)]):=λhq=>by
   rw[wS] at hq
   rcases List.mem_append.mp hq with h4|h4
   ·exact F5.offL (hCl▸h4)
   ·simp[z8] at h4
    rw[h4] at hsz2
    exact absurd hsz2 (Nat.lt_irrefl _)
  rw[hCl] at hn5
  cases use with
  |some u=>exact oU u rfl D C _ _ _ h5 tk5 q5 xs6 H6 r6 hCn hC6 ⟨m5,hn5⟩
  |none=>
   refine⟨m5,hn5,λh6 hs6=>?_⟩
   have F6:=F.ext H xs6
   have apC:yA c env (φ5++[(D,none)]) h5 [C]:=by
    refine⟨λa ha=>by simp at ha;subst ha;exact hC6,λa ha=>?_,λa ha e=>?_,λa ha y b e hab=>?_,λa ha=>?_⟩
    ·simp at ha;subst ha
     exact hCl▸F5.baseL
    ·simp at ha;subst ha;subst e
     obtain⟨mm,⟨o1,_,_,e1,_⟩,_⟩:=F.ns
     rw[hCn] at e1;cases e1
    ·simp at ha;subst ha;subst hab
     obtain⟨w,o2,e2,_⟩:=F.are y a e
     rw[hCn] at e2;cases e2
    ·simp at ha;subst ha
     obtain⟨o1,es,ep,e1,e2,_⟩:=hn5
     exact⟨o1,e1,λvs n a b t u v=>⟨(λq=>by subst q;cases e2),(λq=>by subst q;cases e2)⟩⟩
   have k6:∀b o,b∉[C]->h5.get? b=some o->h6.get? b=some o:=λb o hb e=>(hs6.2 b (by simpa using hb)).trans e
   obtain⟨H7,F7⟩:=wE H6 F6 apC k6
   exact oN rfl _ _ _ _ h6 tk5 q5 (xs6.own (own:=[C]) (λa ha=>by simp at ha;subst ha;exact hCn) k6) H7 (r6.keepI (xH apC k6))
 exact J4 hform main (XD (s:={ s with heap:=h3,toks:=tk1 }) it3 main)
end
section
variable {c:Cx}{sc:Scope}{d:Nat}
theorem wz{scope:Scope}(hkind:sc.kind=.function){xs:List Str}(hk:∀y∈xs,scope.names.lookup y=some .local\/scope.names.lookup y=some .cell) :
  (∀y∈xs,(yL scope sc).names.lookup y=some .local\/(yL scope sc).names.lookup y=some .cell)/\∀x∈xs,scope.names.lookup x≠some .free:=
 ⟨λy hy=>by
  rw[jl hkind]
  rcases hk y hy with h|h<;>rw[h]<;>simp,λx hx=>by rcases hk x hx with h|h<;>rw[h]<;>simp⟩
structure v8(c:Cx)(sc:Scope)(d:Nat)(e:Expr)(scope:Scope)(newAcc:Sem Value)(iter:Expr)(m:ME):Prop where
 run:∀{A:Around}{env:Env}{loc:Loc}{φ:Phi}{mh:MH}{s:Shared}{pos:Pos}{use:Option (Value->Sem Unit)}{Q:MV->MH->Prop}{P:Value->Shared->Prop}{E:Value->Shared->Prop},
  xS A d->yz env sc->c.Hp φ mh s.heap->FrR c env loc φ s.heap->m loc Q mh->
  (use=none->Out c φ s Q P)->
  (∀u,use=some u->∀D C mv φ' mh' h' tk,Q mv mh'->Ext φ φ' s.heap h'->c.Hp φ' mh' h'->VR h' φ' (.ref D) mv->s.heap.get? C=none->C∉z8 φ'->(∃m,h'.Ns C m)->
   wpAny c.M A (u (.ref D)) (λ_ s''=>∃m,s''.heap.Ns C m/\∀h',Heap.SameBut C s''.heap h'->P .none { s'' with heap:=h' }) E { s with heap:=h',toks:=tk })->
  wpAny c.M A (comprehension e scope env pos newAcc false (eval iter env) use) P E s
theorem Km{elt tgt iter:Expr}{ifs:List Expr}{scope:Scope}{pos:Pos}{mi:MI}{t:Tgt}{test:MT}{m:ME}{en:Bool}
  (hsc:yJ scope sc=true) (hkind:sc.kind=.function) (hi:SI c sc d iter en mi) (hen:en=false\/∃es k p,tgt=.Tuple es k p) (htg:uG tgt=some t)
  (hk:∀y∈t.names,scope.names.lookup y=some .local\/scope.names.lookup y=some .cell)
  (hT:uT c (yL scope sc) d ifs test) (hm:SE c (yL scope sc) d elt m) (hs:∀env x,foldedSetIterable iter env x=pure x) :
  v8 c sc d (.ListComp elt [⟨tgt,iter,ifs,0⟩] scope pos) scope (newList []) iter (Xz scope mi t test (xD m) (.list [])) where
 run:=λhr he H F q oN oU=>jN (xs:=t.names) rfl (.inl ⟨_,_,_,_,_,_,_,rfl⟩) hs Za (.of hsc) hi hen htg (wz hkind hk).1 (λ_ h=>h) (wz hkind hk).2 hT (Ur hm)
   (λ_ _ _=>rfl) (λ_ _ _=>rfl) (λ_ _ _=>rfl) (λI D env=>WL elt tgt iter ifs scope pos (.ref I) (.ref D) env) hr he H F q oN oU
theorem Kl{elt t1 i1 t2 i2:Expr}{ifs1 ifs2:List Expr}{scope:Scope}{pos:Pos}{mi1 mi2:MI}{g1 g2:Tgt}{test1 test2:MT}{m:ME}{en1 en2:Bool}
  (hsc:yJ scope sc=true) (hkind:sc.kind=.function) (hi1:SI c sc d i1 en1 mi1) (hen1:en1=false\/∃es k p,t1=.Tuple es k p) (htg1:uG t1=some g1)
  (hk1:∀y∈g1.names,scope.names.lookup y=some .local\/scope.names.lookup y=some .cell)
  (hi2:SI c (yL scope sc) d i2 en2 mi2) (hen2:en2=false\/∃es k p,t2=.Tuple es k p) (htg2:uG t2=some g2)
  (hk2:∀y∈g2.names,scope.names.lookup y=some .local\/scope.names.lookup y=some .cell)
  (hT1:uT c (yL scope sc) d ifs1 test1) (hT2:uT c (yL scope sc) d ifs2 test2) (hm:SE c (yL scope sc) d elt m) (hs1:∀env x,foldedSetIterable i1 env x=pure x) (hs2:∀env x,foldedSetIterable i2 env x=pure x) :
  v8 c sc d (.ListComp elt [⟨t1,i1,ifs1,0⟩,⟨t2,i2,ifs2,0⟩] scope pos) scope (newList []) i1 (Xz scope mi1 g1 test1 (jP mi2 g2 test2 (xD m)) (.list [])) where
 run:=λhr he H F q oN oU=>by
  have hk:∀y∈g1.names++g2.names,scope.names.lookup y=some .local\/scope.names.lookup y=some .cell:=λy hy=>(List.mem_append.mp hy).elim (hk1 y) (hk2 y)
  exact jN (xs:=g1.names++g2.names) rfl (.inl ⟨_,_,_,_,_,_,_,rfl⟩) hs1 Za (.of hsc) hi1 hen1 htg1 (wz hkind hk1).1 (λy h=>List.mem_append_left _ h) (wz hkind hk).2 hT1
   (zao (elt:=elt) (t1:=t1) (i1:=i1) (ifs1:=ifs1) (scope:=scope) (pos:=pos) hi2 hs2 htg2 (wz hkind hk2).1 (λy h=>List.mem_append_right _ h) hen2 hT2 (Ur hm))
   (λ_ _ _=>rfl) (λ_ _ _=>rfl) (λ_ _ _=>rfl) (λI D env=>Xd elt t1 i1 t2 i2 ifs1 ifs2 scope pos (.ref I) (.ref D) env) hr he H F q oN oU
theorem zah{kx vx tgt iter:Expr}{ifs:List Expr}{scope:Scope}{pos:Pos}{mi:MI}{t:Tgt}{test:MT}{mk mv:ME}{en:Bool}
  (hsc:yJ scope sc=true) (hkind:sc.kind=.function) (hi:SI c sc d iter en mi) (hen:en=false\/∃es k p,tgt=.Tuple es k p) (htg:uG tgt=some t)
  (hk:∀y∈t.names,scope.names.lookup y=some .local\/scope.names.lookup y=some .cell)
  (hT:uT c (yL scope sc) d ifs test) (hmk:SE c (yL scope sc) d kx mk) (hmv:SE c (yL scope sc) d vx mv) (hs:∀env x,foldedSetIterable iter env x=pure x) :
  v8 c sc d (.DictComp kx vx [⟨tgt,iter,ifs,0⟩] scope pos) scope newDict iter (Xz scope mi t test (U2 mk mv) (.idict [])) where
 run:=λhr he H F q oN oU=>jN (xs:=t.names) rfl (.inr ⟨_,_,_,_,_,_,_,_,rfl⟩) hs VH (.of hsc) hi hen htg (wz hkind hk).1 (λ_ h=>h) (wz hkind hk).2 hT (zdi hmk hmv)
   (λ_ _ _=>rfl) (λ_ _ _=>rfl) (λ_ _ _=>rfl) (λI D env=>WM kx vx tgt iter ifs scope pos (.ref I) D env) hr he H F q oN oU
theorem yV{e:Expr}{scope:Scope}{newAcc:Sem Value}{iter:Expr}{m:ME}(hf:v8 c sc d e scope newAcc iter m){pos:Env->Pos}
  (he':∀env,eval e env=comprehension e scope env (pos env) newAcc false (eval iter env)):SE c sc d e m:=
 λA env loc φ mh s Q P E hr he H F q o=>by
  rw[he']
  exact hf.run hr he H F q (λ_=>o) (λu hu=>by cases hu)
theorem t9{e:Expr}{scope:Scope}{newAcc:Sem Value}{iter:Expr}{m:ME}{y:Str}{py pos:Pos}(hf:v8 c sc d e scope newAcc iter m){ps:Env->Pos}
  (hsw:swapsWith e (some (.Name y py)) pos.line (vE sc)=pure true) (hy:sc.names.lookup y=some .local\/sc.names.lookup y=some .cell)
  (he':∀env use,evalThenUse e env use=(do let _ <-comprehension e scope env (ps env) newAcc false (eval iter env) (some use);pure ())) :
  SS c sc d (.Assign [.Name y py] e pos) (zk m (zP y)):=
 λA env loc φ mh s Q P E hr he H F q o=>by
  rw[exec_Assign_Name_used _ _ _ _ ((ZP he _ _ _).trans hsw),he']
  refine wpAny_bind (wpAny_standAt (wpAny_bind (wpAny_bind (hf.run (use:=some (assign (.Name y py) env)) hr he H F q (λh=>by cases h) ?_))))
  rintro u hu D C mv φ' mh' h' tk q1 x1 H1 r1 hC hC1 ⟨m1,hn1⟩
  cases hu
  have F1:=F.ext H x1
  refine s6 hy A env loc φ' mh' { s with heap:=h',toks:=tk } (.ref D) mv _ _ _ hr he H1 F1 r1 q1 λloc2 φ2 mh2 h2 tk2 q2 x2 H2 F2=>?_
  have hnotOwn:¬vF env C:=λho=>by
   have:=zI F C ho
   rw[hC] at this;cases this
  have hn2:h2.Ns C m1:=qo hn1 λo e=>x2.keep C o hC1 hnotOwn e
  refine⟨m1,hn2,λh3 hs3=>?_⟩
  have xx:wk env φ φ2 s.heap h2:=(x1.toF (zI F)).trans x2
  have hC2:C∉z8 φ2:=λhq=>by
   rcases x2.new C hq with h4|h4
   ·exact hC1 h4
   ·obtain⟨o1,_,_,e1,_⟩:=hn1
    rw[h4] at e1;cases e1
  have apC:yA c env φ2 h2 [C]:=by
   refine⟨λa ha=>by simp at ha;subst ha;exact hC2,λa ha=>?_,λa ha e=>?_,λa ha y b e hab=>?_,λa ha=>?_⟩
   ·simp at ha;subst ha
    cases e:c.hB.get? a with
    |none=>rfl
    |some o=>have:=H.base a o e;rw[hC] at this;cases this
   ·simp at ha;subst ha;subst e
    obtain⟨mm,⟨o1,_,_,e1,_⟩,_⟩:=F.ns
    rw[hC] at e1;cases e1
   ·simp at ha;subst ha;subst hab
    obtain⟨w,o2,e2,_⟩:=F.are y a e
    rw[hC] at e2;cases e2
   ·simp at ha;subst ha
    obtain⟨o1,es,ep,e1,e2,_⟩:=hn2
    exact⟨o1,e1,λvs n a b t u v=>⟨(λq=>by subst q;cases e2),(λq=>by subst q;cases e2)⟩⟩
  have k3:∀b o,b∉[C]->h2.get? b=some o->h3.get? b=some o:=λb o hb e=>(hs3.2 b (by simpa using hb)).trans e
  obtain⟨H3,F3⟩:=wE H2 F2 apC k3
  exact wpAny_pure (wpAny_pure (o _ _ loc2 φ2 mh2 h3 tk2 q2 .next (xx.its (own:=[C]) (λa ha=>by simp at ha;subst ha;exact hC) k3) H3 F3))
end
noncomputable abbrev MF:=List MV->(MV->MH->Prop)->MH->Prop
noncomputable def yo(c:Cx)(f:Value):Prop:=∀h,c.K.In h->∃k,(k=Keeper.frame\/k=Keeper.machine\/k=Keeper.boundFrame)/\Looks c.M h (keeperOf f) k
noncomputable def z6(c:Cx)(d:Nat)(f:Value)(t:MF):Prop:=
 ∀(A:Around) (φ:Phi) (mh:MH) (s:Shared) (args:List Value) (margs:List MV) (Q:MV->MH->Prop) (P:Value->Shared->Prop) (E:Value->Shared->Prop),
  xS A d->c.Hp φ mh s.heap->VRs s.heap φ args margs->t margs Q mh->Out c φ s Q P->wpAny c.M A (call f args) P E s
noncomputable def zQ(c:Cx)(d:Nat)(f:Value)(t:MF):Prop:=
 ∀(A:Around) (φ:Phi) (mh:MH) (s:Shared) (args:List Value) (margs:List MV) (Q:MV->MH->Prop) (P:Value->Shared->Prop) (E:Value->Shared->Prop),
  xS A d->c.Hp φ mh s.heap->VRs s.heap φ args margs->t margs Q mh->Out c φ s Q P->codeAny c.M A (.call f ⟨args,[]⟩) (λr s'=>match r with|.ok (.ret v)=>P v s'|.ok _=>False|.error e=>E e s') s
theorem zQ.call{c:Cx}{d:Nat}{f:Value}{t:MF}(h:zQ c d f t):z6 c d f t:=λA φ mh s args margs Q P E hr H ra q o=>wpAny_call (h A φ mh s args margs Q P E hr H ra q o)
theorem zQ.le{c:Cx}{d e:Nat}{f:Value}{t:MF}(h:zQ c d f t)(hl:d<=e):zQ c e f t:=λA φ mh s args margs Q P E hr H ra q o=>h A φ mh s args margs Q P E (hr.le hl) H ra q o
theorem zQ.mono{c:Cx}{d:Nat}{f:Value}{t t':MF}(h:zQ c d f t)(ht:∀a Q mh,t' a Q mh->t a Q mh):zQ c d f t':=λA φ mh s args margs Q P E hr H ra q o=>h A φ mh s args margs Q P E hr H ra (ht _ _ _ q) o
theorem wk.asW{env:Env}{φ φ':Phi}{h h':Heap}(x:wk env φ φ' h h'):ud (vF env) φ φ' h h':=⟨x.pre,x.new,x.keep,x.own⟩
section
variable {c:Cx}{sc:Scope}{d:Nat}
theorem zK{f:Addr}(h:keepIn c.K (.ref f)=true):yo c (.ref f):=λhp X=>keeps_K h hp X
theorem zg{id:String}:yo c (.builtin id):=λ_ _=>⟨.machine,.inr (.inl rfl),Looks.of_pure rfl⟩
theorem z5{T:String}:yo c (.type T):=λ_ _=>⟨.machine,.inr (.inl rfl),Looks.of_pure rfl⟩
theorem Xp{es:List Expr}{ms:List ME}(hm:SEs c sc d es ms)(pos:Pos)(env:Env):(backTo pos (starEach es env)).any (·.1)=false/\∀e rest,es=e::rest->∃x r,backTo pos (starEach es env)=(false,x)::r:=by
 induction hm with
 |nil=>exact⟨rfl,λe rest h=>by cases h⟩
 |@cons e m es ms h1 h2 h3 ih=>
  rw[h3 env]
  refine⟨?_,λe' rest h=>⟨_,_,rfl⟩⟩
  show((false || (backTo pos (starEach es env)).any (·.1)))=false
  rw[ih.1];rfl
theorem uP{f:Value}{first:List Value}{es:List Expr}{ms:List ME}{pos pos':Pos}(hk:yo c f)(hm:SEs c sc d es ms)
  {A:Around}{env:Env}{loc:Loc}{φ:Phi}{mh:MH}{s:Shared}{Q:List MV->MH->Prop}{P:Value->Shared->Prop}{E:Value->Shared->Prop}
  (hr:xS A d) (he:yz env sc) (H:c.Hp φ mh s.heap) (F:FrR c env loc φ s.heap) (q:wJ ms loc Q mh)
  (o:∀vs mvs φ' mh' h' tk,Q mvs mh'->Ext φ φ' s.heap h'->c.Hp φ' mh' h'->VRs h' φ' vs mvs->wpAny c.M A (call f (first++vs)) P E { s with heap:=h',toks:=tk }) :
  wpAny c.M A (callWith pos f first (backTo pos' (starEach es env)) []) P E s:=by
 obtain⟨h1,h2⟩:=Xp hm pos' env
 refine callWith_of (P:=λh=>c.K.In h) (M:=c.M) (by rw[h1];rfl) hk ?_
 have sp:wpAny c.M A (spliced (backTo pos' (starEach es env))) (λvs s₁=>c.K.In s₁.heap/\wpAny c.M A (call f (first++vs)) P E s₁) E s:=
  uy hm hr he H F q λvs mvs φ' mh' h' tk q' x H' r=>⟨c.kin.keeps H'.base,o vs mvs φ' mh' h' tk q' x H' r⟩
 cases es with
 |nil=>
  cases hm
  exact evalArgs_nil3 ⟨c.kin.keeps H.base,by simpa using o [] [] φ mh s.heap s.toks q (.refl _ _) H .nil⟩
 |cons e rest=>
  obtain⟨x,r,hx⟩:=h2 e rest rfl
  rw[hx] at sp ⊢
  exact evalArgs_plain sp
theorem zac{A:Around}{env:Env}{φ:Phi}{mh:MH}{s:Shared}{x:Str}{pos:Pos}{v:Value}{P:Value->Shared->Prop}{E:Value->Shared->Prop}(he:yz env sc)(H:c.Hp φ mh s.heap)
  (hk:sc.names.lookup x=some .globalImplicit) (hx:nsIn c.K mainGlobals x=some (some v)) (hd:(x == ("__debug__" : Str))=false) (o:P v s):wpAny c.M A (eval (.Name x pos) env) P E s:=by
 refine Name_function_global (by rw[he.scope];exact he.kind) (by unfold Env.kindOf;rw[he.scope];exact hk) (loadGlobal_global (mg:=c.mg) ?_ (mg_of c.kin c.g hx) o) hd
 rw[he.globals];exact qo c.g λo e=>H.base _ o e
theorem vZ{A:Around}{env:Env}{φ:Phi}{mh:MH}{s:Shared}{x:Str}{pos:Pos}{v:Value}{P:Value->Shared->Prop}{E:Value->Shared->Prop}(he:yz env sc)(H:c.Hp φ mh s.heap)
  (hk:sc.names.lookup x=some .globalImplicit) (hx:nsIn c.K mainGlobals x=some none) (hv:bootBuiltins x=some v) (hn:x≠"__name__") (hd:(x == ("__debug__" : Str))=false) (o:P v s) :
  wpAny c.M A (eval (.Name x pos) env) P E s:=by
 refine Name_function_global (by rw[he.scope];exact he.kind) (by unfold Env.kindOf;rw[he.scope];exact hk) (loadGlobal_builtin (mg:=c.mg) (mb:=c.mb) ?_ (mg_none_of c.kin c.g hx) ?_ ((c.builtins x hn).trans hv) o) hd
 ·rw[he.globals];exact qo c.g λo e=>H.base _ o e
 ·rw[he.builtins];exact qo c.b λo e=>H.base _ o e
noncomputable abbrev zo(t:MF)(ms:List ME):ME:=λloc Q mh=>wJ ms loc (λvs mh=>t vs Q mh) mh
theorem zfl{x:Str}{np pos:Pos}{es:List Expr}{ms:List ME}{t:MF}{f:Value}(hk:sc.names.lookup x=some .globalImplicit)(hx:nsIn c.K mainGlobals x=some (some f))(hd:(x == ("__debug__" : Str))=false)
  (hf:yo c f) (ht:z6 c d f t) (hm:SEs c sc d es ms):SE c sc d (.Call (.Name x np) es [] pos) (zo t ms):=
 λA env loc φ mh s Q P E hr he H F q o=>wpAny_Call_ofName (zac he H hk hx hd (uP hf hm hr he H F q λvs mvs φ' mh' h' tk q' x H' r=>ht A φ' mh' _ _ _ Q P E hr H' r q' (o.trans x)))
theorem zbo{x:Str}{np pos:Pos}{es:List Expr}{ms:List ME}{t:MF}{f:Value}(hk:sc.names.lookup x=some .globalImplicit)(hx:nsIn c.K mainGlobals x=some none)(hv:bootBuiltins x=some f)(hn:x≠"__name__")(hd:(x == ("__debug__" : Str))=false)
  (hf:yo c f) (ht:z6 c d f t) (hm:SEs c sc d es ms):SE c sc d (.Call (.Name x np) es [] pos) (zo t ms):=
 λA env loc φ mh s Q P E hr he H F q o=>wpAny_Call_ofName (vZ he H hk hx hv hn hd (uP hf hm hr he H F q λvs mvs φ' mh' h' tk q' x H' r=>ht A φ' mh' _ _ _ Q P E hr H' r q' (o.trans x)))
noncomputable def xu(K:Frag)(cl name:Str):Option Addr:=match qv K cl with
 |some C=>if plainGet K C name then (match findIn K (.ref C) name with
   |some (some (.ref f))=>if isFn K (.ref f) && keepIn K (.ref f) then some f else none
   |_=>none) else none
 |none=>none
noncomputable def zmh(K:Frag)(cl name:Str)(mo:ME)(t:MF)(ms:List ME):ME:=λloc Q mh=>mo loc (λo mh=>∃r fs,o=.ref r/\mh[r]?=some (.inst cl fs)/\uN fs name=none/\wJ ms loc (λvs mh=>t (o::vs) Q mh) mh) mh
theorem zfk{o:Expr}{name cl:Str}{apos pos:Pos}{es:List Expr}{mo:ME}{ms:List ME}{t:MF}{f:Addr}{pl:Env->Sem Bool}(hmo:SE c sc d o mo)(hf:xu c.K cl name=some f)(ht:z6 c d (.ref f) t)(hm:SEs c sc d es ms)
  (he':∀env,eval (.Call (.Attribute o name apos) es [] pos) env=(do
   let ov <-eval o env
   standAt apos.atName
   let (f,first) <-holding [ov] (getMethod ov name (pl env))
   callWith pos f first (backTo pos (starEach es env)) [])):SE c sc d (.Call (.Attribute o name apos) es [] pos) (zmh c.K cl name mo t ms):=
 λA env loc φ mh s Q P E hr he H F q ou=>by
  rw[he']
  refine wpAny_bind (hmo A env loc φ mh s _ _ E hr he H F q λov mv φ1 mh1 h1 tk1 q1 x1 H1 r1=>wpAny_bind (wpAny_standAt (wpAny_bind (wpAny_holding ?_))))
  obtain⟨r,fs,rfl,em,hsh,q1⟩:=q1
  have r1':=r1
  cases r1 with
  |@ref a1 d1 _ f1=>
   obtain⟨d',g1,o1⟩:=H1.deref (.ref f1) em
   cases o1 with
   |@inst _ dx C _ es' n _ hc g2 g3 R=>
    unfold xu at hf
    rw[hc] at hf
    simp only at hf
    split at hf
    ·rename_i hp
     split at hf
     ·rename_i f' hfi
      split at hf
      ·rename_i hfn
       cases hf
       simp only[Bool.and_eq_true] at hfn
       have X:c.K.In h1:=c.kin.keeps H1.base
       have I:InstAt h1 a1 (instObj C dx) C (some (dictOf es' n)):=⟨g2,rfl,rfl,g3⟩
       refine method_fn (s:={ s with heap:=h1,toks:=tk1 }) X I (plainGet_of hp).1 (plainGet_of hp).2 hfi (beq_iff_eq.mp hfn.1) (by show(lookIn name (dictOf es' n)).map (·.isSome)=some false;rw[lookIn_dict,R.miss hsh];rfl) ?_
       refine uP (s:={ s with heap:=h1,toks:=tk1 }) (first:=[.ref a1]) (zK hfn.2) hm hr he H1 (F.ext H x1) q1 λvs mvs φ2 mh2 h2 tk2 q2 x2 H2 r2=>?_
       exact ht A φ2 mh2 { s with heap:=h2,toks:=tk2 } _ _ Q P E hr H2 (.cons (H1.vr x2 r1') r2) q2 (ou.trans (x1.trans x2))
      ·cases hf
     ·cases hf
    ·cases hf
noncomputable def zmi(k:MV->MH->Prop)(o:MV)(mh:MH):Prop:=∃r vs,o=.ref r/\mh[r]?=some (.list vs)/\k o mh
noncomputable abbrev w3(mo:ME)(t:MF)(ms:List ME):ME:=λloc Q mh=>mo loc (zmi λo mh=>wJ ms loc (λvs mh=>t (o::vs) Q mh) mh) mh
theorem yU{o:Expr}{name:Str}{id:String}{apos pos:Pos}{es:List Expr}{mo:ME}{ms:List ME}{t:MF}{pl:Env->Sem Bool}(hmo:SE c sc d o mo)(slot:Slot "list" name id)(hty:typeOf (.builtin id)=pure (.type "method_descriptor"))
  (ht:z6 c d (.builtin id) t) (hm:SEs c sc d es ms)
  (he':∀env,eval (.Call (.Attribute o name apos) es [] pos) env=(do
   let ov <-eval o env
   standAt apos.atName
   let (f,first) <-holding [ov] (getMethod ov name (pl env))
   callWith pos f first (backTo pos (starEach es env)) [])):SE c sc d (.Call (.Attribute o name apos) es [] pos) (w3 mo t ms):=
 λA env loc φ mh s Q P E hr he H F q ou=>by
  rw[he']
  refine wpAny_bind (hmo A env loc φ mh s _ _ E hr he H F q λov mv φ1 mh1 h1 tk1 q1 x1 H1 r1=>wpAny_bind (wpAny_standAt (wpAny_bind (wpAny_holding ?_))))
  obtain⟨r,vs,rfl,em,q1⟩:=q1
  have r1':=r1
  cases r1 with
  |@ref a1 d1 _ f1=>
   obtain⟨d',g1,o1⟩:=H1.deref (.ref f1) em
   obtain⟨ws,n,_,g,R⟩:=o1.inv_list
   refine getMethod_builtin (s:={ s with heap:=h1,toks:=tk1 }) ⟨_,g,rfl⟩ PySem.F.plainAttrs_list slot hty (λa e=>by cases e;exact⟨_,g,rfl⟩) ?_
   refine uP (s:={ s with heap:=h1,toks:=tk1 }) (first:=[.ref a1]) zg hm hr he H1 (F.ext H x1) q1 λvs mvs φ2 mh2 h2 tk2 q2 x2 H2 r2=>?_
   exact ht A φ2 mh2 { s with heap:=h2,toks:=tk2 } _ _ Q P E hr H2 (.cons (H1.vr x2 r1') r2) q2 (ou.trans (x1.trans x2))
end
theorem VRs.inv_one{h:Heap}{φ:Phi}{ws:List Value}{m:MV}(x:VRs h φ ws [m]):∃v,ws=[v]/\VR h φ v m:=by
 obtain⟨v,vs,rfl,a,b⟩:=x.inv_cons
 rw[b.inv_nil]
 exact⟨v,rfl,a⟩
theorem VRs.inv_two{h:Heap}{φ:Phi}{ws:List Value}{m n:MV}(x:VRs h φ ws [m,n]):X2 λv w=>N3 (ws=[v,w]) (VR h φ v m) (VR h φ w n):=by
 obtain⟨v,vs,rfl,a,b⟩:=x.inv_cons
 obtain⟨w,rfl,z⟩:=b.inv_one
 exact⟨v,w,rfl,a,z⟩
section
variable {c:Cx}{sc:Scope}{d:Nat}
structure znv(c:Cx)(scope:Scope)(cl:List (Str×Addr)):Prop where
 kind:scope.kind=.function
 nodup:(scope.names.map (·.1)).Nodup
 cells:∀x b,cl.lookup x=some b->∃o,c.hB.IsCell b o
 inj:∀x y b,cl.lookup x=some b->cl.lookup y=some b->x=y
 free:∀x,scope.names.lookup x=some .free->(cl.lookup x).isSome=true
noncomputable def tY(scope:Scope)(L:Addr)(cl:List (Str×Addr))(qual:Str)(f:Addr)(cd:Value):Env:=
 { scope,locals:=L,globals:=mainGlobals,cells:=cellsFrom (L+1) scope.names cl,qual,func:=some f,code:=cd,frame:=some L,builtins:=builtinsNs }
theorem Uk{scope:Scope}{cl:List (Str×Addr)}{qual:Str}{f:Addr}{cd:Value}{φ:Phi}{mh:MH}{h:Heap}(hs:znv c scope cl)(H:c.Hp φ mh h) :
  FrR c (tY scope h.objs.size cl qual f cd) (λ_=>none) φ (pushCells (h.push { cls:=.type "frame",data:=.dict #[] }) scope.names)/\
  yz (tY scope h.objs.size cl qual f cd) scope/\
  (∀b o,h.get? b=some o->(pushCells (h.push { cls:=.type "frame",data:=.dict #[] }) scope.names).get? b=some o)/\
  (∀b,vF (tY scope h.objs.size cl qual f cd) b->h.get? b=none):=by
 have hL:=Heap.size_push h { cls:=.type "frame",data:=.dict #[] }
 have k1:∀b o,h.get? b=some o->(pushCells (h.push { cls:=.type "frame",data:=.dict #[] }) scope.names).get? b=some o:=λb o e=>pushCells_keeps _ _ b o (Heap.get?_push_of_some _ e)
 have hdict:(pushCells (h.push { cls:=.type "frame",data:=.dict #[] }) scope.names).Ns h.objs.size (λ_=>none):=qo (Heap.Ns.new ..) λo e=>pushCells_keeps _ _ _ o e
 have ok:=cellsFrom_ok scope.names (h.push { cls:=.type "frame",data:=.dict #[] }) (h.objs.size+1) [] ⟨λ_ _ hm=>by simp at hm,List.Pairwise.nil⟩ (by rw[hL];exact Nat.le_refl _)
 rw[hL] at ok
 have hcells:(tY scope h.objs.size cl qual f cd).cells=cellsFrom (h.objs.size+1) scope.names []++cl:=y6 _ _ _
 have look:∀x,(tY scope h.objs.size cl qual f cd).cells.lookup x=(match (cellsFrom (h.objs.size+1) scope.names []).lookup x with
   |some a=>some a
   |none=>cl.lookup x):=by
  intro x
  rw[hcells,List.lookup_append]
  cases(cellsFrom (h.objs.size+1) scope.names []).lookup x<;>simp
 have ownc:∀x a,(cellsFrom (h.objs.size+1) scope.names []).lookup x=some a->scope.names.lookup x=some .cell/\h.objs.size+1<=a/\(pushCells (h.push { cls:=.type "frame",data:=.dict #[] }) scope.names).IsCell a none:=λx a e=>by
  have hm:=mem_of_lookup e
  exact⟨wK hs.nodup (wo hm),(ok.empty x a hm).2,(ok.empty x a hm).1⟩
 have found:∀x b,(tY scope h.objs.size cl qual f cd).cells.lookup x=some b->((scope.names.lookup x=some .cell/\h.objs.size+1<=b/\(cellsFrom (h.objs.size+1) scope.names []).lookup x=some b)\/
   ((cellsFrom (h.objs.size+1) scope.names []).lookup x=none/\cl.lookup x=some b)):=λx b e=>by
  rw[look] at e
  split at e
  ·rename_i a q
   cases e
   exact .inl ⟨(ownc x _ q).1,(ownc x _ q).2.1,q⟩
  ·rename_i q
   exact .inr ⟨q,e⟩
 have lt_old:∀x b,cl.lookup x=some b->b<h.objs.size:=λx b e=>by
  obtain⟨w,o,eo,_⟩:=hs.cells x b e
  exact Heap.lt_size (H.base b o eo)
 have noneB:∀b,h.objs.size<=b->c.hB.get? b=none:=λb hb=>by
  cases e:c.hB.get? b with
  |none=>rfl
  |some o=>exact absurd (Heap.lt_size (H.base b o e)) (Nat.not_lt.mpr hb)
 refine⟨⟨⟨_,hdict,λx v e ky=>(by cases e)⟩,λx v e ky=>(by cases e),λx ky=>?_,λx b e=>?_,xI H (Nat.le_refl _),λx b e=>?_,λx y b e1 e2=>?_,noneB _ (Nat.le_refl _),λx b ky e=>?_⟩,⟨rfl,hs.kind,rfl,rfl⟩,k1,λb hb=>?_⟩
 ·rcases ky with ky|ky
  ·have:=cellsFrom_some (x:=x) scope.names (h.objs.size+1) [] (.inl ky)
   obtain⟨a,ha⟩:=Option.isSome_iff_exists.mp this
   rw[look,ha];rfl
  ·rw[look]
   split
   ·rfl
   ·exact hs.free x ky
 ·rcases found x b e with⟨_,_,q⟩|⟨_,q⟩
  ·exact⟨none,(ownc x b q).2.2⟩
  ·obtain⟨o,ob,eo,ed⟩:=hs.cells x b q
   exact⟨o,ob,k1 _ _ (H.base _ _ eo),ed⟩
 ·rcases found x b e with⟨_,q,_⟩|⟨_,q⟩
  ·exact xI H (Nat.le_of_succ_le q)
  ·intro hq
   obtain⟨o,ob,eo,_⟩:=hs.cells x b q
   have:=(H.off b hq).1
   rw[eo] at this;cases this
 ·rcases found x b e1 with⟨a1,a2,q1⟩|⟨a1,q1⟩<;>rcases found y b e2 with⟨b1,b2,q2⟩|⟨b1,q2⟩
  ·exact name_of_addr ok.apart (mem_of_lookup q1) (mem_of_lookup q2)
  ·exact absurd (lt_old y b q2) (Nat.not_lt.mpr (Nat.le_of_succ_le a2))
  ·exact absurd (lt_old x b q1) (Nat.not_lt.mpr (Nat.le_of_succ_le b2))
  ·exact hs.inj x y b q1 q2
 ·rcases found x b e with⟨_,q,_⟩|⟨q,_⟩
  ·exact noneB _ (Nat.le_of_succ_le q)
  ·exfalso
   have:=cellsFrom_some (x:=x) scope.names (h.objs.size+1) [] (.inl ky)
   rw[q] at this;cases this
 ·rcases hb with rfl|⟨x,ky,e⟩
  ·exact fresh_none (Nat.le_refl _)
  ·rcases found x b e with⟨_,q,_⟩|⟨q,_⟩
   ·exact fresh_none (Nat.le_of_succ_le q)
   ·exfalso
    have:=cellsFrom_some (x:=x) scope.names (h.objs.size+1) [] (.inl ky)
    rw[q] at this;cases this
theorem Zq{env:Env}(he:yz env sc){A:Around}{E:Value->Shared->Prop}{φ:Phi}{mh:MH}(ps:List Str):∀{loc:Loc}{s:Shared}{vs:List Value}{ms:List MV}{P:PUnit->Shared->Prop},
  (∀x∈ps,sc.names.lookup x=some .local\/sc.names.lookup x=some .cell)->c.Hp φ mh s.heap->FrR c env loc φ s.heap->VRs s.heap φ vs ms->
  (∀h' tk,wk env φ φ s.heap h'->c.Hp φ mh h'->FrR c env (xU ps ms loc) φ h'->P PUnit.unit { s with heap:=h',toks:=tk })->
  wpAny c.M A (forIn (ps.zip vs) PUnit.unit λ(x:Str×Value) (_:PUnit)=>(storeName env x.1 x.2 >>= λ_=>pure (ForInStep.yield PUnit.unit):Sem (ForInStep PUnit))) P E s:=by
 induction ps with
 |nil=>
  intro loc s vs ms P hk H F r o
  rw[List.zip_nil_left,List.forIn_nil]
  exact wpAny_pure (o s.heap s.toks ((Ext.refl _ _).toF (zI F)) H F)
 |cons x ps ih=>
  intro loc s vs ms P hk H F r o
  cases vs with
  |nil=>
   cases r.inv_vnil
   rw[List.zip_nil_right,List.forIn_nil]
   exact wpAny_pure (o s.heap s.toks ((Ext.refl _ _).toF (zI F)) H F)
  |cons v vs=>
   obtain⟨m,ms,rfl,r,rs⟩:=r.inv_vcons
   rw[List.zip_cons_cons,List.forIn_cons]
   refine wpAny_bind (wpAny_bind (Xj he (hk x (.head _)) H F r λX h1 tk1 hX k1 x1 H1 F1=>wpAny_pure ?_))
   exact ih (λy hy=>hk y (.tail _ hy)) H1 F1 (rs.keepF x1 (Zz H F)) λh2 tk2 x2 H2 F2=>o h2 tk2 (x1.trans x2) H2 F2
noncomputable def yQ(ps:List Str)(m:MS):MF:=λms Q mh=>ms.length=ps.length/\m (xU ps ms λ_=>none) (λfl _ mh=>match fl with|.next=>Q .none mh|.ret v=>Q v mh) mh
structure xf(c:Cx)(f:Addr)(qual:Str)(params:Arguments)(body:List Stmt)(scope:Scope)(ps:List Str)(cl:List (Str×Addr)):Prop where
 obj:∃oc od osl fd,c.K.lookup f=some ⟨oc,od,.func fd,osl⟩/\fd.qualname=qual/\fd.body=.stmts body/\fd.scope=scope/\fd.globals=mainGlobals/\fd.closure=cl/\fd.builtins=builtinsNs/\codeIn c.K fd.code fd.qualname=true/\
  (∀vs:List Value,vs.length=ps.length->bindArgs fd ⟨vs,[]⟩=pure (ps.zip vs))
 co:scope.isCoroutine=false
 gen:scope.isGenerator=false
 cl:znv c scope cl
 ps:∀x∈ps,scope.names.lookup x=some .local\/scope.names.lookup x=some .cell
theorem zgt{f:Addr}{qual:Str}{params:Arguments}{body:List Stmt}{scope:Scope}{ps:List Str}{cl:List (Str×Addr)}{m:MS}(hf:xf c f qual params body scope ps cl)(hb:SB c scope d body m) :
  zQ c (d+1) (.ref f) (yQ ps m):=
 λA φ mh s args margs Q P E hr H ra q o=>by
  obtain⟨hlen,q⟩:=q
  obtain⟨oc,od,osl,fd,ho,e1,e2,e3,e4,e5,e6,hcd,hbind⟩:=hf.obj
  have X:c.K.In s.heap:=c.kin.keeps H.base
  refine codeAny_call_function (by have:=hr.depth;lia) (X _ _ ho) rfl (by rw[e3];exact hf.co) (by rw[e3];exact hf.gen) e2 (codeRec_of X hcd) ?_
  rw[hbind args (by rw[ra.length];exact hlen)]
  refine wpAny_pure ?_
  rw[e3,e4,e5,e6]
  unfold newFunctionEnv
  refine wpAny_bind (wpAny_alloc ?_)
  refine wpAny_bind (wpAny_layCells _ (λname kind cells=>?_) scope.names cl _ _ ?_)
  ·rfl
  ·dsimp only
   rw[Heap.size_push]
   obtain⟨F1,he1,k1,hown⟩:=Uk (qual:=fd.qualname++".<locals>.") (f:=f) (cd:=fd.code) hf.cl H
   have x1:Ext φ φ s.heap (pushCells (s.heap.push { cls:=.type "frame",data:=.dict #[] }) scope.names):=.of_keep k1
   have H1:=H.keep k1
   refine wpAny_bind ?_
   refine Zq (s:={ s with heap:=pushCells (s.heap.push { cls:=.type "frame",data:=.dict #[] }) scope.names }) (env:=tY scope s.heap.objs.size cl (fd.qualname++".<locals>.") f fd.code) he1 ps hf.ps H1 F1 (H.vrs x1 ra) λh2 tk2 x2 H2 F2=>?_
   refine wpAny_pure ⟨c.nolimit.keeps H2.base,codeAny_func ?_⟩
   refine hb (A.deeper (tY scope s.heap.objs.size cl (fd.qualname++".<locals>.") f fd.code)) (tY scope s.heap.objs.size cl (fd.qualname++".<locals>.") f fd.code) _ φ mh { s with heap:=h2,toks:=tk2 } _ _ _ hr.deeper he1 H2 F2 q
    λfl ml loc' φ' mh' h' tk' q' r' x' H' F'=>?_
   have xx:Ext φ φ' s.heap h':=x1.thenW ((x2.trans x').asW) hown
   cases r' with
   |next=>exact o _ _ φ' mh' h' tk' q' xx H' .none
   |ret r=>exact o _ _ φ' mh' h' tk' q' xx H' r
end
section
variable {c:Cx}{sc:Scope}{d:Nat}
structure Jx(c:Cx)(cl:Str)(C fI:Addr):Prop where
 at_:qv c.K cl=some C
 makes:makesIn c.K C=true
 init:findIn c.K (.ref C) "__init__" = some (some (.ref fI))
 fn:typeIn c.K (.ref fI)=some (.type "function")
 keep:keepIn c.K (.ref C)=true
noncomputable def zf4(cl:Str)(t:MF):MF:=λargs Q mh=>t (.ref mh.length::args) (λv mh'=>v=.none/\Q (.ref mh.length) mh') (mh++[.inst cl []])
theorem xS.make{A:Around}{C:Addr}{rest:List Value}{kw:List (Str×Value)}(x:xS A (d+1)):xS (A.under (.builtin "type.__call__" ⟨.ref C::rest,kw⟩)) d:=
 ⟨x.handled,by have:=x.depth;show A.depth+1+4 * d+4<_;exact rmu (by decide) this,by have:=x.units;show A.units+1+16 * d+400<_;exact rmu (by decide) this⟩
theorem Y6{cl:Str}{C fI:Addr}{t:MF}(hc:Jx c cl C fI)(ht:zQ c d (.ref fI) t):zQ c (d+1) (.ref C) (zf4 cl t):=
 λA φ mh s args margs Q P E hr H ra q o=>by
  have X:c.K.In s.heap:=c.kin.keeps H.base
  obtain⟨h,g,dr,tk,os⟩:=s
  refine make_core (makes_of X hc.makes) (looks_findIn X hc.init) (λself=>bind_fn X self hc.fn) (.inl rfl) ?_
  have k:∀b o,h.get? b=some o->((h.push emptyDict).push (instObj C h.objs.size)).get? b=some o:=λb o e=>Heap.get?_push_of_some _ (Heap.get?_push_of_some _ e)
  have hx:((h.push emptyDict).push (instObj C h.objs.size)).get? (h.objs.size+1)=some (instObj C h.objs.size):=by heap_get
  have hd:((h.push emptyDict).push (instObj C h.objs.size)).get? h.objs.size=some emptyDict:=by heap_get
  obtain⟨H1,x1⟩:=H.push (p:=(h.objs.size+1,some h.objs.size)) (o:=.inst cl []) H.glob k (λb hb=>by
   rcases hb with rfl|hb
   ·exact Nat.le_succ _
   ·cases hb;exact Nat.le_refl _) (by simp) (λφ' e'=>.inst (es:=[]) (n:=0) hc.at_ hx hd .nil)
  have rx:VR ((h.push emptyDict).push (instObj C h.objs.size)) (φ++[(h.objs.size+1,some h.objs.size)]) (.ref (h.objs.size+1)) (.ref mh.length):=.ref (d:=some h.objs.size) (by rw[<-H.len];simp)
  refine codeAny_mono (ht _ _ _ ⟨(h.push emptyDict).push (instObj C h.objs.size),g,dr,tk,os⟩ (.ref (h.objs.size+1)::args) (.ref mh.length::margs) (λv mh'=>v=.none/\Q (.ref mh.length) mh')
   (λv s'=>v=.none/\P (.ref (h.objs.size+1)) s') E hr.make H1 (.cons rx (H.vrs x1 ra)) q ?_) ?_
  ·rintro v mv φ' mh' h' tk' ⟨rfl,q'⟩ x2 H2 r2
   cases r2
   exact⟨rfl,o _ _ φ' mh' h' tk' q' (x1.trans x2) H2 (H1.vr x2 rx)⟩
  ·intro r s' hh
   rcases r with e|(v|_|_|_)
   ·exact hh
   all_goals exact hh
end
section
variable {c:Cx}{sc:Scope}{d:Nat}
theorem zdz{n:Nat}(h:n<=BIG):(n:Int)<2 ^ 63:=by unfold BIG at h;lia
noncomputable def VU(o:Option MO)(Q:MV->MH->Prop)(mh:MH):Prop:=match o with
 |some (.list vs)=>vs.length<=BIG/\Q (.int vs.length) mh
 |some (.idict vs)=>vs.length<=BIG/\Q (.int vs.length) mh
 |_=>False
noncomputable def xR:MF:=λargs Q mh=>match args with
 |[.tuple vs]=>vs.length<=BIG/\Q (.int vs.length) mh
 |[.ref r]=>VU mh[r]? Q mh
 |_=>False
theorem zN:z6 c d (.builtin "len") xR:=λA φ mh s args margs Q P E hr H ra q o=>by
 rcases zh6 (P:=λl=>xR l Q mh) q id (λ_=>id) (λ_ _=>id) (λ_ _=>id) (λ_ _=>id) (λ_ _ _=>id) (λ_ _=>id) with⟨vs,r,rfl⟩|⟨i,r,rfl⟩
 ·obtain rfl:=xW (P:=λl=>xR (.tuple vs::l) Q mh) q λ_ _=>id
  obtain⟨hb,q⟩:=q
  obtain⟨v,rfl,r⟩:=ra.inv_one
  obtain⟨a,ws,n,rfl,g,rr⟩:=r.inv_tuple
  refine len_tuple (items:=ws.toArray) ⟨_,g,rfl,n,rfl⟩ (by rw[List.size_toArray,rr.length];exact zdz hb) ?_
  rw[List.size_toArray,rr.length]
  exact o _ _ φ mh s.heap _ q (.refl _ _) H (.int _ _)
 ·obtain rfl:=xW (P:=λl=>xR (.ref i::l) Q mh) q λ_ _=>id
  obtain⟨v,rfl,r⟩:=ra.inv_one
  replace q:VU mh[i]? Q mh:=q
  rcases MO.is_seq (P:=λo=>VU o Q mh) q id (λ_=>id) (λ_=>id) (λ_ _=>id) with⟨vs,e⟩|⟨ks,e⟩
  ·rw[e] at q
   obtain⟨hb,q⟩:=q
   obtain⟨a,ws,n,rfl,f2,g,rr⟩:=H.list_at r e
   refine call_len_list (items:=ws.toArray) ⟨_,g,rfl,n,rfl⟩ (by rw[List.size_toArray,rr.length];exact zdz hb) ?_
   rw[List.size_toArray,rr.length]
   exact o _ _ φ mh s.heap _ q (.refl _ _) H (.int _ _)
  ·rw[e] at q
   obtain⟨hb,q⟩:=q
   obtain⟨a,ks,rfl,f2,g,rr⟩:=H.idict_at r e
   refine call_len_dict (Wm H (wf.mpr ⟨_,List.mem_of_getElem? f2,.inl rfl⟩)) g (by rw[rr.length];exact zdz hb) ?_
   rw[rr.length]
   exact o _ _ φ mh s.heap _ q (.refl _ _) H (.int _ _)
noncomputable abbrev zb9:MF:=λargs Q mh=>match args with
 |[.int a,.int b]=>Q (.int (max a b)) mh
 |_=>False
theorem zdv:z6 c d (.builtin "max") zb9:=λA φ mh s args margs Q P E hr H ra q o=>by
 obtain⟨x,r,rfl⟩:=uS (P:=λl=>zb9 l Q mh) q id (λ_=>id) (λ_ _=>id) (λ_ _=>id) (λ_ _=>id) (λ_ _ _=>id) (λ_ _=>id) (λ_ _=>id)
 obtain⟨y,r,rfl⟩:=uS (P:=λl=>zb9 (.int x::l) Q mh) q id (λ_=>id) (λ_ _=>id) (λ_ _=>id) (λ_ _=>id) (λ_ _ _=>id) (λ_ _=>id) (λ_ _=>id)
 obtain rfl:=xW (P:=λl=>zb9 (.int x::.int y::l) Q mh) q λ_ _=>id
 obtain⟨v1,v2,rfl,r1,r2⟩:=ra.inv_two
 obtain⟨t,rfl⟩:=r1.inv_int
 obtain⟨u,rfl⟩:=r2.inv_int
 refine max_two_ints hr.handled λh' tk k=>?_
 have e:(if y > x then Value.int y u else Value.int x t)=.int (max x y) (if y > x then u else t):=by
  by_cases h:y > x
  ·rw[if_pos h,if_pos h];congr 1;exact(Int.max_eq_right (Int.le_of_lt h)).symm
  ·rw[if_neg h,if_neg h];congr 1;exact(Int.max_eq_left (Int.not_lt.mp h)).symm
 rw[e]
 exact o _ _ φ mh h' tk q (.of_keep k) (H.keep k) (.int _ _)
noncomputable abbrev zb8:MF:=λargs Q mh=>match args with
 |[.int a,.int b]=>Q (.int (min a b)) mh
 |_=>False
theorem zdu:z6 c d (.builtin "min") zb8:=λA φ mh s args margs Q P E hr H ra q o=>by
 obtain⟨x,r,rfl⟩:=uS (P:=λl=>zb8 l Q mh) q id (λ_=>id) (λ_ _=>id) (λ_ _=>id) (λ_ _=>id) (λ_ _ _=>id) (λ_ _=>id) (λ_ _=>id)
 obtain⟨y,r,rfl⟩:=uS (P:=λl=>zb8 (.int x::l) Q mh) q id (λ_=>id) (λ_ _=>id) (λ_ _=>id) (λ_ _=>id) (λ_ _ _=>id) (λ_ _=>id) (λ_ _=>id)
 obtain rfl:=xW (P:=λl=>zb8 (.int x::.int y::l) Q mh) q λ_ _=>id
 obtain⟨v1,v2,rfl,r1,r2⟩:=ra.inv_two
 obtain⟨t,rfl⟩:=r1.inv_int
 obtain⟨u,rfl⟩:=r2.inv_int
 refine min_two_ints hr.handled λh' tk k=>?_
 have e:(if y<x then Value.int y u else Value.int x t)=.int (min x y) (if y<x then u else t):=by
  by_cases h:y<x
  ·rw[if_pos h,if_pos h];congr 1;exact(Int.min_eq_right (Int.le_of_lt h)).symm
  ·rw[if_neg h,if_neg h];congr 1;exact(Int.min_eq_left (Int.not_lt.mp h)).symm
 rw[e]
 exact o _ _ φ mh h' tk q (.of_keep k) (H.keep k) (.int _ _)
noncomputable abbrev zf5:MF:=λargs Q mh=>match args with
 |[.int a]=>Q (.int (if a<0 then -a else a)) mh
 |_=>False
theorem zdw:z6 c d (.builtin "abs") zf5:=λA φ mh s args margs Q P E hr H ra q o=>by
 obtain⟨x,r,rfl⟩:=uS (P:=λl=>zf5 l Q mh) q id (λ_=>id) (λ_ _=>id) (λ_ _=>id) (λ_ _=>id) (λ_ _ _=>id) (λ_ _=>id) (λ_ _=>id)
 obtain rfl:=xW (P:=λl=>zf5 (.int x::l) Q mh) q λ_ _=>id
 obtain⟨_,rfl,r1⟩:=ra.inv_one
 obtain⟨_,rfl⟩:=r1.inv_int
 exact call_abs_int λu tk=>o _ _ φ mh s.heap tk q (.refl _ _) H (.int _ _)
noncomputable abbrev xy:MF:=λargs Q mh=>match args with
 |[.int b]=>Q (.range 0 b) mh
 |[.int a,.int b]=>Q (.range a b) mh
 |_=>False
theorem yn:z6 c d (.type "range") xy:=λA φ mh s args margs Q P E hr H ra q o=>by
 obtain⟨x,r,rfl⟩:=uS (P:=λl=>xy l Q mh) q id (λ_=>id) (λ_ _=>id) (λ_ _=>id) (λ_ _=>id) (λ_ _ _=>id) (λ_ _=>id) (λ_ _=>id)
 cases r with
 |nil=>
  obtain⟨_,rfl,r1⟩:=ra.inv_one
  obtain⟨t,rfl⟩:=r1.inv_int
  refine call_range_1 ?_
  exact o _ _ φ mh _ _ q (.of_keep (z4 _)) (H.keep (z4 _)) (.range (Heap.get?_push_size _ rfl))
 |cons y r=>
  obtain⟨y,rfl⟩:=MV.is_int (P:=λv=>xy (.int x::v::r) Q mh) q id (λ_=>id) (λ_=>id) (λ_=>id) (λ_ _=>id) (λ_=>id) (λ_=>id)
  obtain rfl:=xW (P:=λl=>xy (.int x::.int y::l) Q mh) q λ_ _=>id
  obtain⟨_,_,rfl,r1,r2⟩:=ra.inv_two
  obtain⟨t,rfl⟩:=r1.inv_int
  obtain⟨u,rfl⟩:=r2.inv_int
  refine call_range_2 ?_
  exact o _ _ φ mh _ _ q (.of_keep (z4 _)) (H.keep (z4 _)) (.range (Heap.get?_push_size _ rfl))
noncomputable def zb5:MF:=λargs Q mh=>match args with
 |[.ref r]=>∃is:List Int,mh[r]?=some (.list (is.map .int))/\Q (.int is.sum) mh
 |_=>False
theorem zds:z6 c d (.builtin "sum") zb5:=λA φ mh s args margs Q P E hr H ra q o=>by
 obtain⟨rn,r,rfl⟩:=se (P:=λl=>zb5 l Q mh) q id (λ_=>id) (λ_ _=>id) (λ_ _=>id) (λ_ _=>id) (λ_ _=>id) (λ_ _ _=>id) (λ_ _=>id)
 obtain rfl:=xW (P:=λl=>zb5 (.ref rn::l) Q mh) q λ_ _=>id
 obtain⟨is,e,q⟩:=q
 cases ra with|cons r rs=>cases rs;cases r with
 |@ref a d' r f=>
  obtain⟨d2,f2,oo⟩:=H.deref (.ref f) e
  obtain⟨ws,n,_,g,rr⟩:=oo.inv_list
  have hi:=rr.ints
  obtain⟨xs,hx⟩:=hi.allInts.items
  have hl:s.heap.IsList a (intItems xs):=⟨_,g,by rw[<-hx];exact⟨rfl,n,rfl⟩⟩
  refine sum_intListG hr.handled hl λh' tk t' k=>?_
  have e1:preSum (numAt xs) xs.size=is.sum:=by
   have h1:=nums_intItems xs
   rw[<-hx] at h1
   have h2:numsOf ws.toArray.toList=is:=hi.numsOf
   rw[preSum_eq,List.take_of_length_le (by simp),<-h1,h2]
  rw[e1]
  exact o _ _ φ mh h' tk q (.of_keep k) (H.keep k) (.int _ _)
noncomputable def xz:MF:=λargs Q mh=>match args with
 |[.ref r,v]=>∃vs,mh[r]?=some (.list vs)/\vs.length<=BIG/\Q .none (mh.set r (.list (vs++[v])))
 |_=>False
theorem yK:z6 c d (.builtin "list.append") xz:=λA φ mh s args margs Q P E hr H ra q o=>by
 obtain⟨rn,r,rfl⟩:=se (P:=λl=>xz l Q mh) q id (λ_=>id) (λ_ _=>id) (λ_ _=>id) (λ_ _=>id) (λ_ _=>id) (λ_ _ _=>id) (λ_ _=>id)
 obtain⟨mv,r,rfl⟩:=zc1 (P:=λl=>xz (.ref rn::l) Q mh) q id
 obtain rfl:=xW (P:=λl=>xz (.ref rn::mv::l) Q mh) q λ_ _=>id
 obtain⟨vs,e,hb,q⟩:=q
 obtain⟨v0,v,rfl,r,r2⟩:=ra.inv_two
 obtain⟨a,ws,n,rfl,f2,g,rr⟩:=H.list_at r e
 refine wpAny_list_append_plain (items:=ws.toArray) ⟨n,g⟩ (λh' hp hs=>?_) (by rw[List.size_toArray,rr.length];exact yj hb)
 obtain⟨n',g'⟩:=hp
 obtain⟨H2,x2⟩:=H.update (h':=h') (o:=.list (vs++[mv])) f2 (s5 hs) (λhv=>.list (n:=n') (vs:=ws++[v]) (by rw[g'];simp[zy]) ((VRs.map hv rr).append (.one (hv _ _ r2))))
 exact o _ _ φ _ h' s.toks q x2 H2 .none
theorem wH(its:Array Value)(n:Nat)(f:Array Value->Array Value):∃n',Obj.mapSeq f { cls:=.type "list",data:=.seq its n }={ cls:=.type "list",data:=.seq (f its) n' }:=by
 simp[Obj.mapSeq]
noncomputable def JR:MF:=λargs Q mh=>match args with
 |[.ref r]=>∃vs v,mh[r]?=some (.list (vs++[v]))/\vs.length<=BIG/\Q v (mh.set r (.list vs))
 |_=>False
theorem U4:z6 c d (.builtin "list.pop") JR:=λA φ mh s args margs Q P E hr H ra q o=>by
 obtain⟨rn,r,rfl⟩:=se (P:=λl=>JR l Q mh) q id (λ_=>id) (λ_ _=>id) (λ_ _=>id) (λ_ _=>id) (λ_ _=>id) (λ_ _ _=>id) (λ_ _=>id)
 obtain rfl:=xW (P:=λl=>JR (.ref rn::l) Q mh) q λ_ _=>id
 obtain⟨vs,v,e,hb,q⟩:=q
 obtain⟨v0,rfl,r⟩:=ra.inv_one
 obtain⟨a,ws,n,rfl,f2,g,rr⟩:=H.list_at r e
 have hl:=rr.length
 rw[List.length_append,List.length_singleton] at hl
 obtain⟨y,ey,ry⟩:=rr.get (k:=vs.length) (m:=v) (List.getElem?_concat_length)
 have hsz:ws.toArray.size-1=vs.length:=by simp[hl]
 refine call_meets PySem.F.slot_list_pop ⟨_,g,rfl⟩ PySem.F.entry_list_pop (PySem.F.args_list_pop_1 _) (MeetsSeq.list_pop_last a ws.toArray n y (by rw[hsz];simpa using ey) (by rw[List.size_toArray,hl];have:=yj hb;rw[sizeLine_eq] at *;unfold BIG at hb;lia)) ⟨g,?_⟩
 obtain⟨n',hn'⟩:=wH ws.toArray n (λxs=>xs.eraseIdxIfInBounds (ws.toArray.size-1))
 have ge:(s.heap.update a (Obj.mapSeq λxs=>xs.eraseIdxIfInBounds (ws.toArray.size-1))).get? a=some (zy (ws.take vs.length) n'):=by
  rw[Heap.get?_update_self _ g (by unfold zy;rw[hn'];rfl)]
  unfold zy;rw[hn',hsz]
  congr 3
  have:ws.toArray.eraseIdxIfInBounds vs.length=(ws.eraseIdx vs.length).toArray:=by simp
  rw[this]
  congr 1
  have h3:vs.length+1=ws.length:=Nat.add_right_cancel (congrFun (congrArg HAdd.hAdd hl.symm) d)
  rw[List.eraseIdx_eq_take_drop_succ,h3]
  simp
 have rr':VRs s.heap φ (ws.take vs.length) vs:=by
  have:=rr.take vs.length
  simpa using this
 obtain⟨H2,x2⟩:=H.update (h':=s.heap.update a (Obj.mapSeq λxs=>xs.eraseIdxIfInBounds (ws.toArray.size-1))) (o:=.list vs) f2
  (λb ob hb e=>(Heap.get?_update_ne _ _ _ _ (λq=>hb (.inl q))).trans e) (λhv=>.list ge (VRs.map hv rr'))
 exact o _ _ φ _ _ s.toks q x2 H2 (H.vr x2 ry)
end
structure Vf(prog:Program)(w:World)(A:Around)(I S:Addr)(fp wr:List Addr)(n:Nat)(P:Nat->Value->Heap->Prop)(St:Nat->Heap->Prop):Prop where
 sub:∀b∈wr,b∈fp
 frame:∀i h h',St i h->(∀b∈fp,∀o,h.get? b=some o->h'.get? b=some o)->h.objs.size<=h'.objs.size->St i h'
 pk:∀i v h h',P i v h->(∀b o,b≠S->b∉wr->h.get? b=some o->h'.get? b=some o)->P i v h'
 item:∀i (s:Shared) (Q:Option Value->Shared->Prop) (E:Value->Shared->Prop),i<n->St i s.heap->
  (∀v h' tk,P i v h'->St (i+1) h'->(∀b o,b∉wr->s.heap.get? b=some o->h'.get? b=some o)->Q (some v) { s with heap:=h',toks:=tk })->wpAny (model prog w) A (pyNext (.ref I)) Q E s
 done:∀(s:Shared) (Q:Option Value->Shared->Prop) (E:Value->Shared->Prop),St n s.heap->
  (∀h' tk,(∀b o,b∉wr->s.heap.get? b=some o->h'.get? b=some o)->Q none { s with heap:=h',toks:=tk })->wpAny (model prog w) A (pyNext (.ref I)) Q E s
theorem Z7{prog:Program}{w:World}{A:Around}{I S:Addr}{fp wr:List Addr}{n:Nat}{P:Nat->Value->Prop}{St:Nat->Heap->Prop}(W:Walks prog w A I fp wr n P St):Vf prog w A I S fp wr n (λi v _=>P i v) St:=
 ⟨W.sub,λi h h' a b _=>W.frame i h h' a b,λ_ _ _ _ p _=>p,W.item,W.done⟩
section
variable {prog:Program}{w:World}{A:Around}{R:Result->Shared->Prop}
theorem zdd{I S:Addr}{fp wr:List Addr}{n:Nat}{P:Nat->Value->Heap->Prop}{St:Nat->Heap->Prop}(W:Vf prog w A.in1 I S fp wr n P St)(hSf:S∉fp)(res:Value)(acc0:List Value)(hn:acc0.length+n<=sizeLine) :
  ∀(k i:Nat) (s:Shared) (vs:List Value) (c:Nat),n-i=k->i<=n->St i s.heap->s.heap.get? S=some (zy (acc0++vs) c)->vs.length=i->(∀j v,vs[j]?=some v->P j v s.heap)->
  (∀h' tk vs' c',(∀b o,b≠S->b∉wr->s.heap.get? b=some o->h'.get? b=some o)->h'.get? S=some (zy (acc0++vs') c')->vs'.length=n->(∀j v,vs'[j]?=some v->P j v h')->R (.ok (.ret res)) { s with heap:=h',toks:=tk })->
  codeAny (model prog w) A (.builtin "list.extend.loop" ⟨[.ref S,.ref I,res],[]⟩) R s:=by
 have hSw:S∉wr:=λh=>hSf (W.sub _ h)
 intro k
 induction k with
 |zero=>
  intro i s vs c hk hi hst hS hl hP hR
  have hin:i=n:=qL hk hi
  subst hin
  refine codeAny_builtin F.entry_extend_loop ?_
  rw[Around.under_plainId F.plain_extend_loop _]
  show wpAny _ A.in1 (pyNext (.ref I) >>= _) _ _ s
  refine wpAny_bind (W.done s _ _ hst λh' tk hm=>?_)
  exact wpAny_pure (hR h' tk vs c (λb o _ hb e=>hm b o hb e) (hm S _ hSw hS) hl λj v e=>W.pk j v _ _ (hP j v e) λb o _ hb e=>hm b o hb e)
 |succ k ih=>
  intro i s vs c hk hi hst hS hl hP hR
  have hlt:i<n:=Nat.lt_of_sub_eq_succ hk
  refine codeAny_builtin F.entry_extend_loop ?_
  rw[Around.under_plainId F.plain_extend_loop _]
  show wpAny _ A.in1 (pyNext (.ref I) >>= _) _ _ s
  refine wpAny_bind (W.item i s _ _ hlt hst λv h1 tk1 hPv hst' hm=>?_)
  have hS':=hm S _ hSw hS
  show wpAny _ A.in1 (updateSeq S (·.push v) >>= _) _ _ _
  obtain⟨c2,hc2⟩:=wH (acc0++vs).toArray c (·.push v)
  refine wpAny_bind (wpAny_updateSeq (hz:=by simp;lia) hS' rfl (wpAny_pure ⟨plainId_quiet F.plain_extend_loop _,?_⟩))
  have hS2:(h1.update S (Obj.mapSeq (·.push v))).get? S=some (zy (acc0++(vs++[v])) c2):=by
   rw[Heap.get?_update_self _ hS' (by unfold zy;rw[hc2];rfl)]
   unfold zy;rw[hc2]
   simp
  have hup:=Heap.SameBut.update h1 S (Obj.mapSeq (·.push v))
  have hk2:∀b o,b≠S->h1.get? b=some o->(h1.update S (Obj.mapSeq (·.push v))).get? b=some o:=λb o hb e=>(Heap.get?_update_ne _ _ _ _ hb).trans e
  refine ih (i+1) _ (vs++[v]) c2 (KG hk) hlt (W.frame _ _ _ hst' (λb hb o e=>hk2 b o (λq=>hSf (by rw[<-q];exact hb)) e) (Nat.le_of_eq hup.1.symm)) hS2 (by simp[hl]) (λj u hj=>?_) λh' tk vs' c' hk' hS3 hl' hP'=>?_
  ·rcases Nat.lt_trichotomy j vs.length with h|h|h
   ·exact W.pk _ _ _ _ (W.pk _ _ _ _ (hP j u (by rwa [List.getElem?_append_left h] at hj)) λb o _ hb e=>hm b o hb e) λb o hb _ e=>hk2 b o hb e
   ·subst h;simp at hj;subst hj;rw[hl];exact W.pk _ _ _ _ hPv λb o hb _ e=>hk2 b o hb e
   ·have hnone:(vs++[v])[j]?=none:=List.getElem?_eq_none (by rw[List.length_append,List.length_singleton];assumption)
    rw[hnone] at hj;cases hj
  ·exact hR h' tk vs' c' (λb o hb hw e=>hk' b o hb hw (hk2 b o hb (hm b o hw e))) hS3 hl' hP'
noncomputable abbrev UA(prog:Program)(w:World)(A:Around)(R:Result->Shared->Prop)(S:Addr)(acc0:List Value)(res it:Value)(s2:Shared):Prop:=
 X7 λI fp wr n P St c0=>N7 (it=.ref I) (Vf prog w A.in1 I S fp wr n P St) (St 0 s2.heap) (S∉fp) (s2.heap.get? S=some (zy acc0 c0)) (acc0.length+n<sizeLine)
  (∀h' tk vs' c',(∀b o,b≠S->b∉wr->s2.heap.get? b=some o->h'.get? b=some o)->h'.get? S=some (zy (acc0++vs') c')->vs'.length=n->(∀j v,vs'[j]?=some v->P j v h')->R (.ok (.ret res)) { s2 with heap:=h',toks:=tk })
noncomputable abbrev za2(prog:Program)(w:World)(A:Around)(Q:List Value->Shared->Prop)(S:Addr)(it:Value)(s2:Shared):Prop:=
 X6 λI fp wr n P St=>N7 (it=.ref I) (Vf prog w A.in1 I S fp wr n P St) (St 0 s2.heap) (S∉fp) (s2.heap.get? S=some (zy [] 0)) (n<sizeLine)
  (∀h' tk vs',(∀b o,b≠S->b∉wr->s2.heap.get? b=some o->h'.get? b=some o)->vs'.length=n->(∀j v,vs'[j]?=some v->P j v h')->Q vs' { s2 with heap:=h',toks:=tk })
theorem Un{s:Shared}{v:Value}{T:String}{S:Addr}{acc0:List Value}{res:Value}(hT:s.TypeIs v T)(hTl:(Value.type T == Value.type "list")=false)(hTt:(Value.type T == Value.type "tuple")=false)
  (hne:Builtin.List.listSameRef (.ref S) v=false)
  (h:wpAny (model prog w) A.in1 (pyIter v) (λit s1=>wpAny (model prog w) A.in1 (Builtin.List.listLengthHint v) (λ_ s2=>UA prog w A R S acc0 res it s2) (λe s'=>R (.error e) s') s1) (λe s'=>R (.error e) s') s) :
  wpAny (model prog w) A.in1 (Builtin.List.listExtendWith (.ref S) v res)
   (λfin s'=>match fin with|.done f=>R (.ok f) s'|.again c'=>c'.quiet=true/\codeAny (model prog w) A c' R s') (λe s'=>R (.error e) s') s:=by
 unfold Builtin.List.listExtendWith
 refine wpAny_bind (wpAny_typeOf hT ?_)
 simp only[hne,hTl,hTt,Bool.or_false,Bool.false_eq_true,if_false]
 refine wpAny_bind (wpAny_mono h (λit s1 h1=>wpAny_bind (wpAny_holding (wpAny_mono h1 (λb s2 h2=>?_) λ_ _ z=>z))) λ_ _ z=>z)
 obtain⟨I,fp,wr,n,P,St,c0,rfl,W,hst,hSf,hS,hn,hR⟩:=h2
 have key:∀(h:Heap) (c1:Nat),St 0 h->h.get? S=some (zy acc0 c1)->(∀b o,b≠S->s2.heap.get? b=some o->h.get? b=some o)->codeAny (model prog w) A (.builtin "list.extend.loop" ⟨[.ref S,.ref I,res],[]⟩) R { s2 with heap:=h }:=by
  intro h c1 hst hS1 hk
  refine zdd W hSf res acc0 (Nat.le_of_lt hn) n 0 _ [] c1 rfl (Nat.zero_le _) hst (by simpa using hS1) rfl (by simp) λh' tk vs' c' hk' hS' hl hP=>?_
  exact hR h' tk vs' c' (λb o hb hw e=>hk' b o hb hw (hk b o hb e)) hS' hl hP
 refine wpAny_ite_split (λ_=>?_) (λ_=>wpAny_pure ⟨plainId_quiet F.plain_extend_loop _,key _ c0 hst hS (λb o _ e=>e)⟩)
 refine wpAny_bind (wpAny_rule ?_)
 refine wpAny_bind ?_
 show wpAny _ _ (updateSeq S (·.push .none) >>= λ_=>updateSeq S (·.pop)) _ _ _
 obtain⟨c2,hc2⟩:=wH acc0.toArray c0 (·.push Value.none)
 refine wpAny_bind (wpAny_updateSeq (hz:=by simp;lia) hS rfl ?_)
 have hS2:(s2.heap.update S (Obj.mapSeq (·.push Value.none))).get? S=some { cls:=.type "list",data:=.seq (acc0.toArray.push Value.none) c2 }:=by
  rw[Heap.get?_update_self _ hS (by unfold zy;rw[hc2];rfl)]
  unfold zy;rw[hc2]
 obtain⟨c3,hc3⟩:=wH (acc0.toArray.push Value.none) c2 (·.pop)
 refine wpAny_updateSeq (hz:=by simp;lia) hS2 rfl ?_
 have hS3:((s2.heap.update S (Obj.mapSeq (·.push Value.none))).update S (Obj.mapSeq (·.pop))).get? S=some (zy acc0 c3):=by
  rw[Heap.get?_update_self _ hS2 (by rw[hc3];rfl),hc3]
  simp[zy]
 have oth:∀b o,b≠S->s2.heap.get? b=some o->((s2.heap.update S (Obj.mapSeq (·.push Value.none))).update S (Obj.mapSeq (·.pop))).get? b=some o:=λb o hb e=>
  (Heap.get?_update_ne _ _ _ _ hb).trans ((Heap.get?_update_ne _ _ _ _ hb).trans e)
 exact wpAny_pure ⟨plainId_quiet F.plain_extend_loop _,key _ c3 (W.frame _ _ _ hst (λb hb o e=>oth b o (λq=>hSf (by rw[<-q];exact hb)) e) (by rw[(Heap.SameBut.update _ _ _).1,(Heap.SameBut.update _ _ _).1];exact Nat.le_refl _)) hS3 oth⟩
theorem WN{s:Shared}{v:Value}{T:String}(hT:s.TypeIs v T)(hTl:(Value.type T == Value.type "list")=false)(hTt:(Value.type T == Value.type "tuple")=false)
  (hv:∀a,v=.ref a->a<s.heap.objs.size)
  (h:∀s0:Shared,s0={ s with heap:=s.heap.push (zy [] 0) }->wpAny (model prog w) A.in1 (pyIter v) (λit s1=>wpAny (model prog w) A.in1 (Builtin.List.listLengthHint v) (λ_ s2=>UA prog w A R s.heap.objs.size [] (.ref s.heap.objs.size) it s2) (λe s'=>R (.error e) s') s1) (λe s'=>R (.error e) s') s0) :
  codeAny (model prog w) A (.builtin "proto.collect" ⟨[v],[]⟩) R s:=by
 refine codeAny_builtin F.entry_proto_collect ?_
 rw[Around.under_plainId F.plain_proto_collect _]
 show wpAny _ A.in1 (newList [] >>= λl=>again (.builtin "list.__iadd__" ⟨[l,v],[]⟩)) _ _ s
 refine wpAny_bind (wpAny_newObj_type ?_)
 refine wpAny_pure ⟨plainId_quiet F.plain_list_iadd _,codeAny_builtin F.entry_list_iadd ?_⟩
 rw[Around.under_plainId F.plain_list_iadd _]
 have hk:∀b o,s.heap.get? b=some o->(s.heap.push (zy [] 0)).get? b=some o:=λb o=>Heap.get?_push_of_some _
 have hT':Shared.TypeIs { s with heap:=s.heap.push (zy [] 0) } v T:=by
  cases v<;>try exact hT
  obtain⟨o,ho,hc⟩:=hT
  exact⟨o,hk _ _ ho,hc⟩
 have hne:Builtin.List.listSameRef (.ref s.heap.objs.size) v=false:=by
  cases v<;>try rfl
  rename_i a
  have:=hv a rfl
  simp[Builtin.List.listSameRef]
  exact Nat.ne_of_gt this
 show wpAny _ A.in1 (Builtin.List.listExtendWith (.ref s.heap.objs.size) v (.ref s.heap.objs.size)) _ _ _
 exact Un (acc0:=[]) hT' hTl hTt hne (h _ rfl)
theorem tt{s:Shared}{v:Value}{T:String}{E:Value->Shared->Prop}{Q:List Value->Shared->Prop}(hT:s.TypeIs v T)(hTl:(Value.type T == Value.type "list")=false)(hTt:(Value.type T == Value.type "tuple")=false)
  (hv:∀a,v=.ref a->a<s.heap.objs.size)
  (h:∀E',wpAny (model prog w) A.in1 (pyIter v) (λit s1=>wpAny (model prog w) A.in1 (Builtin.List.listLengthHint v) (λ_ s2=>za2 prog w A Q s.heap.objs.size it s2) E' s1) E' { s with heap:=s.heap.push (zy [] 0) }) :
  wpAny (model prog w) A (collect v) Q E s:=by
 unfold collect
 refine wpAny_bind (wpAny_runValue (WN hT hTl hTt hv ?_))
 rintro s0 rfl
 refine wpAny_mono (h _) (λit s1 h1=>wpAny_mono h1 (λb s2 h2=>?_) λ_ _ z=>z) λ_ _ z=>z
 obtain⟨I,fp,wr,n,P,St,rfl,W,hst,hSf,hS,hn,hQ⟩:=h2
 refine⟨I,fp,wr,n,P,St,0,rfl,W,hst,hSf,hS,by rw[List.length_nil,Nat.zero_add];exact hn,λh' tk vs' c' hk' hS' hl hP=>?_⟩
 show wpAny _ A (load s.heap.objs.size >>= _) _ _ _
 refine wpAny_bind (wpAny_load hS' ?_)
 exact wpAny_pure (hQ h' tk vs' hk' hl hP)
end
section
variable {c:Cx}{sc:Scope}{d:Nat}
theorem Um{its its2:Array Value}(h:its.size+its2.size<=BIG):¬(!its.isEmpty && Builtin.List.listTooLong (its.size+its2.size))=true:=by
 have:Builtin.List.listTooLong (its.size+its2.size)=false:=by
  simp[Builtin.List.listTooLong,sizeLine];unfold BIG at h;exact ltk
 rw[this];simp
theorem VRs.of_get{h:Heap}{φ:Phi}{vs:List Value}:∀{ms:List MV},vs.length=ms.length->(∀(j:Nat) (v:Value) (m:MV),vs[j]?=some v->ms[j]?=some m->VR h φ v m)->VRs h φ vs ms:=by
 induction vs with
 |nil=>intro ms hl hv;cases ms with
  |nil=>exact .nil
  |cons=>simp at hl
 |cons v vs ih=>intro ms hl hv;cases ms with
  |nil=>simp at hl
  |cons m ms=>exact .cons (hv 0 v m rfl rfl) (ih (by simpa using hl) λj v m h1 h2=>hv (j+1) v m (by simpa using h1) (by simpa using h2))
theorem V0{A:Around}(hh:A.handled=none)(I:Addr)(a b:Int):Walks c.prog c.w A I [I] [I] (b-a).toNat (λi v=>∃t,v=.int (a+i * 1) t) (λi h=>IsRangeIter h I (a+i * 1) (((b-a).toNat:Nat)-i) 1):=
 Walks.range hh I a 1 (b-a).toNat
theorem Xq{h:Heap}{I:Addr}{x y:Int}(e:h.get? I=some { cls:=.type "range_iterator",data:=.fields #[rawInt x,rawInt ((y-x).toNat:Int),rawInt 1] }):IsRangeIter h I (x+((0:Nat):Int) * 1) (((y-x).toNat:Nat)-((0:Nat):Int)) 1:=by
 rw[show x+((0:Nat):Int) * 1=x by lia,show(((y-x).toNat:Nat):Int)-((0:Nat):Int)=((y-x).toNat:Int) by lia];exact e
theorem s7{h:Heap}{φ:Phi}{a b:Int}{vs:List Value}(hl:vs.length=(b-a).toNat)(hP:∀(j:Nat) v,vs[j]?=some v->∃t,v=Value.int (a+j * 1) t):VRs h φ vs (wd a b):=by
 refine VRs.of_get (by rw[hl,tJ]) λj v m e1 e2=>?_
 obtain⟨_,rfl⟩:=V1 e2
 obtain⟨t,rfl⟩:=hP j v e1
 rw[Int.mul_one];exact .int _ _
theorem Xl{A:Around}{s:Shared}{a:Addr}{x y:Int}{t u v:Tok}{Q2:Addr->Shared->Prop}{E:Value->Shared->Prop}(g:s.heap.get? a=some (ta x y t u v))(hx:z7 x)(hy:z7 y)(hb:(y-x).toNat<=BIG)
  (o:∀tk,Q2 s.heap.objs.size { s with heap:=s.heap.push { cls:=.type "range_iterator",data:=.fields #[rawInt x,rawInt ((y-x).toNat:Int),rawInt 1] },toks:=tk }) :
  wpAny c.M A (pyIter (.ref a)) (λit s1=>wpAny c.M A (Builtin.List.listLengthHint (.ref a)) (λ_ s2=>∃I,it=.ref I/\Q2 I s2) E s1) E s:=by
 obtain⟨h3,h4⟩:=tB hx hy
 refine wpAny_pyIter_range (a:=x) (b:=y) (c:=1) (t:=t) (u:=u) (v:=v) g h3 ?_
 rw[h4]
 refine wpAny_hint_range (n:=(y-x).toNat) (Heap.get?_push_of_some _ g) h4 (by unfold BIG at hb;exact ltk) ⟨_,rfl,?_⟩
 exact o _
noncomputable def vW:MF:=λargs Q mh=>match args with
 |[.ref r,.ref t]=>∃vs ws,mh[r]?=some (.list vs)/\mh[t]?=some (.list ws)/\vs.length+ws.length<=BIG/\Q .none (mh.set r (.list (vs++ws)))
 |[.ref r,.range a b]=>∃vs,mh[r]?=some (.list vs)/\z7 a/\z7 b/\vs.length+(b-a).toNat<=BIG/\Q .none (mh.set r (.list (vs++wd a b)))
 |_=>False
theorem Zp:z6 c (d+1) (.builtin "list.extend") vW:=λA φ mh s args margs Q P E hr H ra q o=>by
 obtain⟨rn,r,rfl⟩:=se (P:=λl=>vW l Q mh) q id (λ_=>id) (λ_ _=>id) (λ_ _=>id) (λ_ _=>id) (λ_ _=>id) (λ_ _ _=>id) (λ_ _=>id)
 rcases zh7 (P:=λl=>vW (.ref rn::l) Q mh) q id (λ_=>id) (λ_ _=>id) (λ_ _=>id) (λ_ _=>id) (λ_ _=>id) (λ_ _=>id) with⟨x,y,r,rfl⟩|⟨r2,r,rfl⟩
 ·obtain rfl:=xW (P:=λl=>vW (.ref rn::.range x y::l) Q mh) q λ_ _=>id
  obtain⟨vs,e1,hx,hy,hb,q⟩:=q
  obtain⟨w1,w2,rfl,r1,r2⟩:=ra.inv_two
  obtain⟨a1,xs,n,rfl,f3,g1,rr1⟩:=H.list_at r1 e1
  obtain⟨a2,t,u,v,rfl,g2⟩:=r2.inv_range
  have hne:a1≠a2:=λhh=>by
   subst hh
   have e:=g1.symm.trans g2
   simp[zy,ta] at e
  have hlt:a1<s.heap.objs.size:=Heap.lt_size g1
  refine wpAny_call (codeAny_call_builtin PySem.F.slot_list_extend.plain PySem.F.entry_list_extend (PySem.F.slot_list_extend.check _ _ _ _ _ _ _ _ ⟨_,g1,rfl⟩ (PySem.F.args_list_extend_2 _ _) ?_))
  show wpAny _ A.in1 (Builtin.List.listExtendWith (.ref a1) (.ref a2) .none) _ _ _
  refine Un (A:=A) (R:=λr s'=>match r with|.ok (.ret v)=>P v s'|.ok _=>False|.error e=>E e s') (v:=.ref a2) (S:=a1) (acc0:=xs) (T:="range") (show s.TypeIs (.ref a2) "range" from⟨_,g2,rfl⟩) (by decide) (by decide) (by simp[Builtin.List.listSameRef,hne]) ?_
  refine wpAny_mono (Xl (Q2:=λI s2=>I=s.heap.objs.size/\∃tk,s2={ s with heap:=s.heap.push { cls:=.type "range_iterator",data:=.fields #[rawInt x,rawInt ((y-x).toNat:Int),rawInt 1] },toks:=tk }) g2 hx hy (Nat.le_of_add_left_le hb) λtk=>⟨rfl,tk,rfl⟩) (λit s1 h1=>wpAny_mono h1 (λ_ s2 h2=>?_) λ_ _ z=>z) λ_ _ z=>z
  obtain⟨I,rfl,rfl,tk,rfl⟩:=h2
  have k:=z4 (h:=s.heap) { cls:=.type "range_iterator",data:=.fields #[rawInt x,rawInt ((y-x).toNat:Int),rawInt 1] }
  have hI:=Heap.get?_push_size s.heap (o:={ cls:=.type "range_iterator",data:=.fields #[rawInt x,rawInt ((y-x).toNat:Int),rawInt 1] }) rfl
  refine⟨s.heap.objs.size,[s.heap.objs.size],[s.heap.objs.size],(y-x).toNat,_,_,n,rfl,Z7 (V0 (A:=A.in1) hr.handled s.heap.objs.size x y),Xq hI,by simpa using Nat.ne_of_lt hlt,k _ _ g1,by rw[rr1.length,sizeLine_eq];unfold BIG at hb;exact Nat.lt_of_le_of_lt (by assumption) (by decide),λh' tk' vs' c' hk hS hl hP=>?_⟩
  obtain⟨H2,x2⟩:=H.update (h':=h') (o:=.list (vs++wd x y)) f3
   (λb ob hb e=>hk b ob (λq=>hb (.inl q)) (by simpa using Nat.ne_of_lt (Heap.lt_size e)) (k _ _ e)) (λhv=>.list hS ((VRs.map hv rr1).append (s7 hl hP)))
  exact o _ _ φ _ h' tk' q x2 H2 .none
 ·obtain rfl:=xW (P:=λl=>vW (.ref rn::.ref r2::l) Q mh) q λ_ _=>id
  obtain⟨vs,ws,e1,e2,hb,q⟩:=q
  obtain⟨w1,w2,rfl,r1,r2⟩:=ra.inv_two
  obtain⟨a1,xs,n,rfl,f3,g1,rr1⟩:=H.list_at r1 e1
  obtain⟨a2,ys,n2,rfl,f4,g2,rr2⟩:=H.list_at r2 e2
  have hz:xs.toArray.size+ys.toArray.size<=BIG:=by simp[rr1.length,rr2.length];omega
  refine call_meets PySem.F.slot_list_extend ⟨_,g1,rfl⟩ PySem.F.entry_list_extend (PySem.F.args_list_extend_2 _ _) (PySem.AutoSeq1.list_extend_list_list_0 a1 xs.toArray n a2 ys.toArray n2 (Um hz) (by have:=yj hz;exact Nat.le_of_add_right_le this) (by have:=yj hz;exact Nat.le_add_right_of_le this)) ⟨g1,g2,?_⟩
  obtain⟨n',hn'⟩:=wH xs.toArray n (λx=>x++ys.toArray)
  have ge:(s.heap.update a1 (Obj.mapSeq λx=>x++ys.toArray)).get? a1=some (zy (xs++ys) n'):=by
   rw[Heap.get?_update_self _ g1 (by unfold zy;rw[hn'];rfl)]
   unfold zy;rw[hn'];simp
  obtain⟨H2,x2⟩:=H.update (h':=s.heap.update a1 (Obj.mapSeq λx=>x++ys.toArray)) (o:=.list (vs++ws)) f3
   (λb ob hb e=>(Heap.get?_update_ne _ _ _ _ (λq=>hb (.inl q))).trans e) (λhv=>.list ge (VRs.map hv (rr1.append rr2)))
  exact o _ _ φ _ _ s.toks q x2 H2 .none
end
section
variable {c:Cx}{sc:Scope}{d:Nat}
noncomputable def tU(o:Option MO)(vs:List MV):Prop:=match o with
 |some (.list ws)=>vs=ws/\ws.length<=BIG
 |some (.idict ks)=>vs=ks.map (λp=>MV.int p.1)/\ks.length<=BIG
 |_=>False
noncomputable def wm(x:MV)(vs:List MV)(mh:MH):Prop:=match x with
 |.tuple ws=>vs=ws/\ws.length<=BIG
 |.range a b=>z7 a/\z7 b/\(b-a).toNat<=BIG/\vs=wd a b
 |.ref r=>tU mh[r]? vs
 |_=>False
theorem ti{mv:MV}{vs:List MV}{mh:MH}(ok:wm mv vs mh):(mv=.tuple vs/\vs.length<=BIG)\/(∃a b,mv=.range a b/\z7 a/\z7 b/\(b-a).toNat<=BIG/\vs=wd a b)\/
  ∃r,mv=.ref r/\((mh[r]?=some (.list vs)/\vs.length<=BIG)\/∃ks,mh[r]?=some (.idict ks)/\ks.length<=BIG/\vs=ks.map (λp=>MV.int p.1)):=by
 cases mv with
 |tuple ws=>obtain⟨rfl,hb⟩:=ok;exact .inl ⟨rfl,hb⟩
 |range a b=>obtain⟨h1,h2,hb,h3⟩:=ok;exact .inr (.inl ⟨a,b,rfl,h1,h2,hb,h3⟩)
 |ref r=>
  replace ok:tU mh[r]? vs:=ok
  refine .inr (.inr ⟨r,rfl,?_⟩)
  rcases MO.is_seq (P:=λo=>tU o vs) ok id (λ_=>id) (λ_=>id) (λ_ _=>id) with⟨ws,e⟩|⟨ks,e⟩
  ·rw[e] at ok;obtain⟨rfl,hb⟩:=ok;exact .inl ⟨e,hb⟩
  ·rw[e] at ok;obtain⟨h,hb⟩:=ok;exact .inr ⟨ks,e,hb,h⟩
 |_=>exact False.elim ok
theorem VS{n:Nat}(h:n<=BIG):n<sizeLine:=by rw[sizeLine_eq];unfold BIG at h;exact Nat.lt_of_le_of_lt (by assumption) (by decide)
theorem Kf{A:Around}{φ:Phi}{s:Shared}{Q:List Value->Shared->Prop}{E:Value->Shared->Prop}{a:Addr}{x y:Int}{t u w:Tok}(hh:A.handled=none)(g:s.heap.get? a=some (ta x y t u w))(h1:z7 x)(h2:z7 y)(hb:(y-x).toNat<=BIG)
  (o:∀ws h' tk,VRs h' φ ws (wd x y)->(∀b ob,s.heap.get? b=some ob->h'.get? b=some ob)->Q ws { s with heap:=h',toks:=tk }):wpAny c.M A (collect (.ref a)) Q E s:=by
 refine tt (T:="range") ⟨_,g,rfl⟩ (by decide) (by decide) (λb e=>by cases e;exact Heap.lt_size g) λE'=>?_
 have g0:(s.heap.push (zy [] 0)).get? a=some (ta x y t u w):=Heap.get?_push_of_some _ g
 refine wpAny_mono (Xl (s:={ s with heap:=s.heap.push (zy [] 0) }) (Q2:=λI s2=>I=s.heap.objs.size+1/\∃tk,s2={ s with heap:=(s.heap.push (zy [] 0)).push { cls:=.type "range_iterator",data:=.fields #[rawInt x,rawInt ((y-x).toNat:Int),rawInt 1] },toks:=tk }) g0 h1 h2 hb λtk=>⟨by rw[Heap.size_push],tk,rfl⟩) (λit s1 h1=>wpAny_mono h1 (λ_ s2 h2=>?_) λ_ _ z=>z) λ_ _ z=>z
 obtain⟨I,rfl,rfl,tk,rfl⟩:=h2
 have hI:=Heap.get?_push_size (s.heap.push (zy [] 0)) (o:={ cls:=.type "range_iterator",data:=.fields #[rawInt x,rawInt ((y-x).toNat:Int),rawInt 1] }) rfl
 rw[Heap.size_push] at hI
 have k0:=z4 (h:=s.heap) (zy [] 0)
 have k:=z4 (h:=s.heap.push (zy [] 0)) { cls:=.type "range_iterator",data:=.fields #[rawInt x,rawInt ((y-x).toNat:Int),rawInt 1] }
 refine⟨s.heap.objs.size+1,[s.heap.objs.size+1],[s.heap.objs.size+1],(y-x).toNat,_,_,rfl,Z7 (V0 (A:=A.in1) hh (s.heap.objs.size+1) x y),Xq hI,by simp,k _ _ (Heap.get?_push_size _ rfl),VS hb,λh' tk' vs' hk hl hP=>?_⟩
 refine o vs' h' tk' (s7 hl hP) λb ob e=>?_
 have hlt:=Heap.lt_size e
 exact hk b ob (Nat.ne_of_lt hlt) (by simpa using Nat.ne_of_lt (Nat.lt_succ_of_lt hlt)) (k _ _ (k0 _ _ e))
theorem Kg{A:Around}{φ:Phi}{s:Shared}{Q:List Value->Shared->Prop}{E:Value->Shared->Prop}{a:Addr}{ks:List (Int×MV)}{kv:List (Int×Value)}(hh:A.handled=none)(hna:(a == sysModules)=false)(D:s.heap.DictOf (intKind c.prog c.w) a kv)(R:KvR s.heap φ kv ks)(hb:ks.length<=BIG)
  (o:∀ws h' tk,VRs h' φ ws (ks.map (λp=>MV.int p.1))->(∀b ob,s.heap.get? b=some ob->h'.get? b=some ob)->Q ws { s with heap:=h',toks:=tk }):wpAny c.M A (collect (.ref a)) Q E s:=by
 obtain⟨ob,es,ep,hob,hD⟩:=D
 have hlt:a<s.heap.objs.size:=Heap.lt_size hob
 have hT:Shared.TypeIs s (.ref a) "dict":=⟨_,hob,hD.1.1⟩
 refine tt (T:="dict") hT (by decide) (by decide) (λb e=>by cases e;exact hlt) λE'=>?_
 have k0:=z4 (h:=s.heap) (zy [] 0)
 have D0:(s.heap.push (zy [] 0)).DictAt (intKind c.prog c.w) a kv ep:=⟨ob,es,k0 _ _ hob,hD⟩
 refine wpAny_pyIter_dict (s:={ s with heap:=s.heap.push (zy [] 0) }) (hna) D0 ?_
 have k:=z4 (h:=s.heap.push (zy [] 0)) { cls:=.type "dict_keyiterator",data:=.fields #[.ref a,.int 0 0,.int kv.length 0,.int ep 0] }
 have hI:=Heap.get?_push_size (s.heap.push (zy [] 0)) (o:={ cls:=.type "dict_keyiterator",data:=.fields #[.ref a,.int 0 0,.int kv.length 0,.int ep 0] }) rfl
 refine kdl_hint_dict ⟨ob,k _ _ (k0 _ _ hob),hD.1.1⟩ ?_
 rw[Heap.size_push] at hI
 have hne:a≠s.heap.objs.size+1:=Nat.ne_of_lt (Nat.lt_succ_of_lt hlt)
 refine⟨s.heap.objs.size+1,_,_,_,_,_,by rw[Heap.size_push],Z7 (Walks.dictKeys (knd:=intKind c.prog c.w) (A:=A.in1) hh (s.heap.objs.size+1) a hne kv ep),⟨⟨_,hI,rfl,rfl⟩,⟨ob,es,k _ _ (k0 _ _ hob),hD⟩⟩,by simp;exact(Nat.ne_of_lt hlt).symm,k _ _ (Heap.get?_push_size _ rfl),by rw[R.length];exact VS hb,λh' tk' vs' hk hl hP=>?_⟩
 refine o vs' h' tk' (VRs.of_get (by rw[hl,R.length];simp) λj v m e1 e2=>?_) λb ob e=>?_
 ·obtain⟨kk,xx,e3,e4⟩:=hP j v e1
  have e5:(kv.map (·.1))[j]?=some kk:=by rw[List.getElem?_map,e3];rfl
  rw[R.keys] at e5
  rw[show ks.map (λp=>MV.int p.1)=(ks.map (·.1)).map MV.int by simp,List.getElem?_map,e5] at e2
  cases e2
  cases v<;>simp[intKind,Value.isInt] at e4
  subst e4
  exact .int _ _
 ·have hlt:=Heap.lt_size e
  exact hk b ob (Nat.ne_of_lt hlt) (by simpa using Nat.ne_of_lt (Nat.lt_succ_of_lt hlt)) (k _ _ (k0 _ _ e))
theorem zc9{A:Around}{φ:Phi}{mh:MH}{s:Shared}{v:Value}{mv:MV}{vs:List MV}{Q:List Value->Shared->Prop}{E:Value->Shared->Prop}(hh:A.handled=none)
  (H:c.Hp φ mh s.heap) (r:VR s.heap φ v mv) (ok:wm mv vs mh)
  (o:∀ws h' tk,VRs h' φ ws vs->(∀b ob,s.heap.get? b=some ob->h'.get? b=some ob)->Q ws { s with heap:=h',toks:=tk }):wpAny c.M A (collect v) Q E s:=by
 rcases ti ok with⟨rfl,hb⟩|⟨x,y,rfl,h1,h2,hb,rfl⟩|⟨rn,rfl,⟨e,hb⟩|⟨ks,e,hb,rfl⟩⟩
 ·obtain⟨a,ws,n,rfl,g,rs⟩:=r.inv_tuple
  refine wpAny_collect_seq (T:="tuple") (items:=ws.toArray) (hsz:=by simpa[rs.length] using yj hb) a (.inr rfl) g rfl rfl λh' k=>?_
  exact o ws h' s.toks (H.vrs (.of_keep k) rs) k
 ·obtain⟨a,t,u,w,rfl,g⟩:=r.inv_range
  exact Kf hh g h1 h2 hb o
 ·obtain⟨a,xs,n,rfl,f2,g,rs⟩:=H.list_at r e
  refine wpAny_collect_seq (T:="list") (items:=xs.toArray) (hsz:=by simpa[rs.length] using yj hb) a (.inl rfl) g rfl rfl λh' k=>?_
  exact o xs h' s.toks (H.vrs (.of_keep k) rs) k
 ·obtain⟨a,kv,rfl,f2,D,R⟩:=H.idict_at r e
  exact Kg hh (Wm H (wf.mpr ⟨_,List.mem_of_getElem? f2,.inl rfl⟩)) D R hb o
end
section
variable {c:Cx}{sc:Scope}{d:Nat}
noncomputable def xw:MF:=λargs Q mh=>match args with
 |[x]=>∃vs,wm x vs mh/\Q (.tuple vs) mh
 |_=>False
theorem u7{A:Around}{φ:Phi}{mh:MH}{s:Shared}{a:Addr}{T:String}{mv:MV}{vs:List MV}{P:Value->Shared->Prop}{E:Value->Shared->Prop}(hh:A.handled=none)
  (hT:s.TypeIs (.ref a) T) (hne:(Value.type T == Value.type "tuple")=false) (hsz:vs.length<=BIG) (H:c.Hp φ mh s.heap) (r:VR s.heap φ (.ref a) mv) (ok:wm mv vs mh)
  (o:∀v h' tk,VR h' φ v (.tuple vs)->(∀b ob,s.heap.get? b=some ob->h'.get? b=some ob)->P v { s with heap:=h',toks:=tk }) :
  wpAny c.M A (call (.type "tuple") [.ref a]) P E s:=by
 refine callType_codes (Q₁:=λobj s₁=>s₁.TypeIs obj "tuple"/\P obj s₁) PySem.F.called_tuple (PySem.F.typeCall_tuple_1 _) PySem.F.entry_object_init ?_ λobj s₁ h₁=>
  ⟨h₁.1,PySem.F.args_object_init_2 obj _,object_init_meets PySem.F.called_tuple.init.lookup PySem.F.called_tuple.made (by decide) c.prog c.w A.in1 _ s₁ ⟨h₁.1,rfl,h₁.2⟩⟩
 refine codeAny_of_tree ?_
 show wpAny _ A.in1.in1 (do checkBuiltinCall "tuple.__new__" ⟨[.type "tuple",.ref a],[]⟩;again (.builtin "tuple.__new__" ⟨[.type "tuple",.ref a],[]⟩)) _ _ s
 refine wpAny_bind (wpAny_of_eq (PySem.F.newCall_tuple_1 _) (wpAny_pure ⟨plainId_quiet PySem.F.plain_tuple_new _,codeAny_builtin PySem.F.entry_tuple_new ?_⟩))
 rw[Around.under_plainId PySem.F.plain_tuple_new _]
 have hsub:=sub_tuple_self
 have hinit:=init_tuple_lookup
 have hmh:=madeHere_tuple
 have G:∀{A':Around} {Q':List Value->Shared->Prop} {E':Value->Shared->Prop},A'.handled=none->(∀ws h' tk,VRs h' φ ws vs->(∀b ob,s.heap.get? b=some ob->h'.get? b=some ob)->Q' ws { s with heap:=h',toks:=tk })->wpAny (model c.prog c.w) A' (collect (.ref a)) Q' E' s:=
  λhh' o'=>zc9 hh' H r ok o'
 wp_walk using wpAny_typeOf hT,G (A':=A.in1.in1) hh
 intro ws h' tk rr k
 show wpAny _ _ (Builtin.Tuple.tupleExact ws.toArray >>= λv=>ret v) _ _ _
 unfold Builtin.Tuple.tupleExact
 refine wpAny_bind (wpAny_newObj_type ?_ (by show ws.toArray.size<=sizeLine;simpa[rr.length] using yj hsz))
 have k2:=z4 (h:=h') { cls:=.type "tuple",data:=.seq ws.toArray }
 have g:=Heap.get?_push_size h' (o:={ cls:=.type "tuple",data:=.seq ws.toArray }) rfl
 refine wpAny_pure ⟨⟨_,g,rfl⟩,?_⟩
 exact o _ _ tk (.tuple (n:=0) g ((H.keep k).vrs (.of_keep k2) rr)) λb ob e=>k2 _ _ (k _ _ e)
theorem W7{mv:MV}{vs:List MV}{mh:MH}(ok:wm mv vs mh):vs.length<=BIG:=by
 rcases ti ok with⟨rfl,hb⟩|⟨x,y,rfl,h1,h2,hb,rfl⟩|⟨rn,rfl,⟨e,hb⟩|⟨ks,e,hb,rfl⟩⟩
 ·exact hb
 ·rw[tJ];exact hb
 ·exact hb
 ·rw[List.length_map];exact hb
theorem yY:z6 c (d+1) (.type "tuple") xw:=λA φ mh s args margs Q P E hr H ra q o=>by
 obtain⟨x,r,rfl⟩:=zc1 (P:=λl=>xw l Q mh) q id
 obtain rfl:=xW (P:=λl=>xw (x::l) Q mh) q λ_ _=>id
 obtain⟨vs,ok,q⟩:=q
 obtain⟨w0,rfl,r1⟩:=ra.inv_one
 have hsz:=W7 ok
 rcases ti ok with⟨rfl,hb⟩|⟨x,y,rfl,h1,h2,hb,rfl⟩|⟨rn,rfl,⟨e,hb⟩|⟨ks,e,hb,rfl⟩⟩
 ·obtain⟨a,ws,n,rfl,g,rs⟩:=r1.inv_tuple
  exact call_tuple_same (items:=ws.toArray) ⟨_,g,rfl,n,rfl⟩ (o.same' H q r1)
 ·obtain⟨a,t,u,w,rfl,g⟩:=r1.inv_range
  exact u7 (T:="range") hr.handled ⟨_,g,rfl⟩ (by decide) hsz H r1 ok λv h' tk rv k=>o _ _ φ mh h' tk q (.of_keep k) (H.keep k) rv
 ·obtain⟨a,xs,n,rfl,f2,g,rs⟩:=H.list_at r1 e
  refine call_tuple_list (items:=xs.toArray) ⟨_,g,rfl,n,rfl⟩ (λh' k=>?_) (by simpa[rs.length] using yj hb)
  have k3:∀b ob,s.heap.get? b=some ob->(h'.push { cls:=.type "tuple",data:=.seq xs.toArray }).get? b=some ob:=λb ob e=>z4 (h:=h') _ _ _ (k _ _ e)
  exact o _ _ φ mh _ _ q (.of_keep k3) (H.keep k3) (.tuple (n:=0) (Heap.get?_push_size h' rfl) (H.vrs (.of_keep k3) rs))
 ·obtain⟨a,kv,rfl,f2,D,R⟩:=H.idict_at r1 e
  obtain⟨ob,es,ep,hob,hD⟩:=D
  exact u7 (T:="dict") hr.handled ⟨_,hob,hD.1.1⟩ (by decide) hsz H r1 ok λv h' tk rv k=>o _ _ φ mh h' tk q (.of_keep k) (H.keep k) rv
noncomputable def qG:MF:=λargs Q mh=>match args with
 |[.range a b]=>z7 a/\z7 b/\(b-a).toNat<=BIG/\Q (.ref mh.length) (mh++[.list (wd a b)])
 |[.ref r]=>∃vs,mh[r]?=some (.list vs)/\vs.length<=BIG/\Q (.ref mh.length) (mh++[.list vs])
 |[.tuple vs]=>vs.length<=BIG/\Q (.ref mh.length) (mh++[.list vs])
 |_=>False
theorem K1:z6 c (d+1) (.type "list") qG:=λA φ mh s args margs Q P E hr H ra q o=>by
 rcases ze3 (P:=λl=>qG l Q mh) q id (λ_=>id) (λ_ _=>id) (λ_ _=>id) (λ_ _=>id) (λ_ _=>id) with⟨vs,r,rfl⟩|⟨x,y,r,rfl⟩|⟨rn,r,rfl⟩
 ·obtain rfl:=xW (P:=λl=>qG (.tuple vs::l) Q mh) q λ_ _=>id
  obtain⟨hb,q⟩:=q
  obtain⟨w0,rfl,r1⟩:=ra.inv_one
  obtain⟨a,xs,n,rfl,g,rs⟩:=r1.inv_tuple
  refine call_list_seq a (T:="tuple") (items:=xs.toArray) (.inr rfl) g rfl rfl (λh' c' k e=>?_) (by simpa[rs.length] using yj hb)
  obtain⟨H2,x2,r2⟩:=Hp.pushList (c:=c) (a:=s.heap.objs.size) (vs:=xs) (n:=c') H k (Nat.le_refl _) e rs
  exact o _ _ _ _ h' s.toks q x2 H2 r2
 ·obtain rfl:=xW (P:=λl=>qG (.range x y::l) Q mh) q λ_ _=>id
  obtain⟨h1,h2,hb,q⟩:=q
  obtain⟨w0,rfl,r1⟩:=ra.inv_one
  obtain⟨a,t,u,w,rfl,g⟩:=r1.inv_range
  obtain⟨h3,h4⟩:=tB h1 h2
  refine call_list_range (a:=x) (b:=y) (c:=1) hr.handled g h3 h4 (by unfold BIG at hb;exact ltk) λh' tk acc c' k e hacc=>?_
  have rr:VRs h' φ acc.toList (wd x y):=s7 (by rw[Array.length_toList];exact hacc.1) λj v hj=>hacc.2 j v (by rw[<-Array.getElem?_toList];exact hj)
  obtain⟨H2,x2,r2⟩:=Hp.pushList (c:=c) (a:=s.heap.objs.size) (vs:=acc.toList) (n:=c') (H) k (Nat.le_refl _) (by simpa[zy] using e) (ms:=wd x y) (s7 (by rw[Array.length_toList];exact hacc.1) λj v hj=>hacc.2 j v (by rw[<-Array.getElem?_toList];exact hj))
  exact o _ _ _ _ h' tk q x2 H2 r2
 ·obtain rfl:=xW (P:=λl=>qG (.ref rn::l) Q mh) q λ_ _=>id
  obtain⟨vs,e,hb,q⟩:=q
  obtain⟨w0,rfl,r1⟩:=ra.inv_one
  obtain⟨a,xs,n,rfl,f2,g,rs⟩:=H.list_at r1 e
  refine call_list_seq a (T:="list") (items:=xs.toArray) (.inl rfl) g rfl rfl (λh' c' k e=>?_) (by simpa[rs.length] using yj hb)
  obtain⟨H2,x2,r2⟩:=Hp.pushList (c:=c) (a:=s.heap.objs.size) (vs:=xs) (n:=c') H k (Nat.le_refl _) e rs
  exact o _ _ _ _ h' s.toks q x2 H2 r2
noncomputable def wh(ns:List Int):Prop:=ns.Pairwise (·<=·)
noncomputable def jk:MF:=λargs Q mh=>match args with
 |[x]=>∃is:List Int,wm x (is.map .int) mh/\is.length<64/\∀ns:List Int,ns.Perm is->wh ns->Q (.ref mh.length) (mh++[.list (ns.map .int)])
 |_=>False
theorem Zo:z6 c (d+1) (.builtin "sorted") jk:=λA φ mh s args margs Q P E hr H ra q o=>by
 obtain⟨x,r,rfl⟩:=zc1 (P:=λl=>jk l Q mh) q id
 obtain rfl:=xW (P:=λl=>jk (x::l) Q mh) q λ_ _=>id
 obtain⟨is,ok,h64,q⟩:=q
 obtain⟨_,rfl,r1⟩:=ra.inv_one
 refine Calls.call_function_entry kind_sorted plain_sorted entry_sorted (args_sorted1 _) ?_
 unfold Builtin.«sorted»
 refine wpAny_bind (m:=checkCount "sorted" 1 1 _) (wpAny_pure ?_)
 refine wpAny_bind (zc9 (c:=c) hr.handled H r1 ok λws h' tk rr k=>?_)
 have hI:=rr.ints
 have hl:ws.length<64:=by rw[rr.length];simpa using h64
 refine wpAny_bind (wpAny_newList ?_)
 have k2:=z4 (h:=h') (seqObj "list" ws.toArray 0)
 have hoL:(h'.push (seqObj "list" ws.toArray 0)).get? h'.objs.size=some (seqObj "list" ws.toArray 0):=Heap.get?_push_size _ rfl
 refine wpAny_bind (wpAny_holding (wpAny_call_entry slot_list_sort ⟨_,hoL,rfl⟩ entry_list_sort (list_sort_tree hoL hI hl λout ns' a1 a2 a3=>⟨_,rfl,?_⟩) (args_list_sort _)))
 refine wpAny_pure ⟨_,rfl,?_⟩
 obtain⟨e,he⟩:=sortedHeap_at (vs:=ws) (out:=out) hoL
 have k3:∀b ob,h'.get? b=some ob->(sortedHeap (h'.push (seqObj "list" ws.toArray 0)) h'.objs.size ws out).get? b=some ob:=λb ob e1=>by
  have hlt:=Heap.lt_size e1
  rw[sortedHeap_old (Nat.ne_of_lt hlt) (by rw[Heap.size_push];exact Nat.lt_succ_of_lt hlt)]
  exact k2 _ _ e1
 obtain⟨H2,x2,r2⟩:=Hp.pushList (c:=c) (a:=h'.objs.size) (vs:=out.toList) (n:=e) (H.keep k) k3 (Nat.le_refl _) (by simpa[zy,seqObj] using he) (VRs.of_ints a1)
 exact o _ _ _ _ _ tk (q ns' a2 a3) ((Ext.of_keep k).trans x2) H2 r2
end
section
variable {c:Cx}{sc:Scope}{d:Nat}
noncomputable def Wu(m:ME):MI:=λloc Q mh=>wJ [m] loc (λvs mh=>∃r ws,vs=[.ref r]/\mh[r]?=some (.list ws)/\Q (.enum r) mh) mh
theorem KJ{x:Str}{np pos:Pos}{e:Expr}{m:ME}(hk:sc.names.lookup x=some .globalImplicit)(hx:nsIn c.K mainGlobals x=some none)(hv:bootBuiltins x=some (.type "enumerate"))(hn:x≠"__name__")(hd:(x == ("__debug__" : Str))=false)
  (hm:SE c sc d e m) (hst:∀env,starEach [e] env=(false,eval e env)::starEach [] env):SI c sc d (.Call (.Name x np) [e] [] pos) true (Wu m):=
 λA env loc φ mh s Q P E hr he H F q o=>by
  refine wpAny_Call_ofName (vZ he H hk hx hv hn hd (uP (c:=c) (first:=[]) (z5) (.cons hm .nil hst) hr he H F q λvs mvs φ' mh' h' tk q' x' H' r=>?_))
  ·obtain⟨rr,ws,rfl,em,q'⟩:=q'
   cases r with|cons r1 rs=>?_
   cases rs
   cases r1 with
   |@ref a d' _ f=>
    obtain⟨d2,f2,oo⟩:=H'.deref (.ref f) em
    obtain⟨xs,n,rfl,g,rs⟩:=oo.inv_list
    refine call_enumerate_list (s:={ s with heap:=h',toks:=tk }) (items:=xs.toArray) ⟨_,g,rfl,n,rfl⟩ λh2 he2 hl2 hsz k=>?_
    refine wpAny_pyIter_enum he2 ?_
    have H2:=H'.keep k
    have off:∀a,h'.objs.size<=a->s.heap.get? a=none/\a∉z8 φ':=λa ha=>⟨x'.old_none (c:=c) (mh:=mh) H' (Internal.fresh_none ha),xI H' ha⟩
    refine o (h'.objs.size+1) [h'.objs.size+1,h'.objs.size] _ φ' mh' h2 tk q' (x'.trans (.of_keep k)) H2 (.enum (Nat.succ_ne_self _) f2 he2 hl2) (λa ha=>?_) (λh=>by cases h)
    simp at ha
    rcases ha with rfl|rfl
    ·exact⟨(off _ (Nat.le_succ _)).1,(off _ (Nat.le_succ _)).2,_,he2,uf "enumerate" _ rfl (by decide) (by decide)⟩
    ·obtain⟨oo,eo,hc,_⟩:=hl2
     exact⟨(off _ (Nat.le_refl _)).1,(off _ (Nat.le_refl _)).2,oo,eo,uf "list_iterator" _ hc (by decide) (by decide)⟩
noncomputable def V9(m:Option ME):Loc->(Option Int->MH->Prop)->MH->Prop:=match m with
 |none=>λ_ Q mh=>Q none mh
 |some m=>λloc Q mh=>m loc (λv mh=>∃i:Int,v=.int i/\0<=i/\Q (some i) mh) mh
inductive wu(c:Cx)(sc:Scope)(d:Nat):Option Expr->Option ME->Prop
 |none:wu c sc d none none
 |some {e:Expr}{m:ME}:SE c sc d e m->wu c sc d (some e) (some m)
theorem vi{e:Option Expr}{m:Option ME}(hm:wu c sc d e m){A:Around}{env:Env}{loc:Loc}{φ:Phi}{mh:MH}{s:Shared}{Q:Option Int->MH->Prop}{P:Value->Shared->Prop}{E:Value->Shared->Prop}
  (hr:xS A d) (he:yz env sc) (H:c.Hp φ mh s.heap) (F:FrR c env loc φ s.heap) (q:V9 m loc Q mh)
  (o:∀v i φ' mh' h' tk,Q i mh'->IsPart v i->(∀k,i=some k->0<=k)->Ext φ φ' s.heap h'->c.Hp φ' mh' h'->P v { s with heap:=h',toks:=tk }):wpAny c.M A (evalPart e env) P E s:=by
 cases hm with
 |none=>exact wpAny_evalPart_none (o _ _ φ mh s.heap s.toks q .none (λk hk=>by cases hk) (.refl _ _) H)
 |some hm=>
  refine hm A env loc φ mh s _ P E hr he H F q λv mv φ' mh' h' tk q' x H' r=>?_
  obtain⟨i,rfl,h0,q'⟩:=q'
  cases r with
  |int _ t=>exact o _ _ φ' mh' h' tk q' (.int i t) (λk hk=>by cases hk;exact h0) x H'
noncomputable def Kx(lo hi:Option Int)(vs:List MV):List MV:=match lo,hi with
 |none,none=>vs
 |some a,none=>vs.drop a.toNat
 |none,some b=>vs.take b.toNat
 |some a,some b=>(vs.drop a.toNat).take (b-a).toNat
noncomputable def td(ma:ME)(lo hi:Option ME):ME:=λloc Q mh=>ma loc (λa mh=>V9 lo loc (λl mh=>V9 hi loc (λu mh=>(l=none\/u=none)/\∃r vs,a=.ref r/\mh[r]?=some (.list vs)/\vs.length<=BIG/\Q (.ref mh.length) (mh++[.list (Kx l u vs)])) mh) mh) mh
theorem qk{h:Heap}{φ:Phi}{ws:List Value}{vs:List MV}(r:VRs h φ ws vs){lo hi:Option Int}(h1:lo=none\/hi=none)(hl:∀k,lo=some k->0<=k)(hu:∀k,hi=some k->0<=k) :
  VRs h φ (slicePick ws.toArray lo hi none).toList (Kx lo hi vs):=by
 cases lo with
 |none=>
  cases hi with
  |none=>rw[slicePick_all];exact r
  |some b=>
   obtain⟨n,rfl⟩:∃n:Nat,b=n:=⟨b.toNat,by have:=hu b rfl;lia⟩
   rw[slicePick_upto' ws.toArray n]
   simpa[Kx] using r.take n
 |some a=>
  obtain⟨n,rfl⟩:∃n:Nat,a=n:=⟨a.toNat,by have:=hl a rfl;lia⟩
  obtain rfl:hi=none:=by rcases h1 with h|h;cases h;exact h
  rw[slicePick_from' ws.toArray n]
  simpa[Kx] using r.drop n
theorem uJ{value:Expr}{lower upper:Option Expr}{p pos:Pos}{ma:ME}{lo hi:Option ME}(ha:SE c sc d value ma)(hl:wu c sc d lower lo)(hu:wu c sc d upper hi) :
  SE c sc d (.Subscript value (.Slice lower upper none p) pos) (td ma lo hi):=
 λA env loc φ mh s Q P E hr he H F q o=>by
  refine Subscript_ (ha A env loc φ mh s _ _ E hr he H F q λa ma φ1 mh1 h1 tk1 q1 x1 H1 r1=>wpAny_Slice ?_)
  refine vi hl hr he H1 (F.ext H x1) q1 λvl il φ2 mh2 h2 tk2 q2 pl bl x2 H2=>?_
  refine vi (s:={ s with heap:=h2,toks:=tk2 }) hu hr he H2 ((F.ext H x1).ext H1 x2) q2 λvu iu φ3 mh3 h3 tk3 q3 pu bu x3 H3=>?_
  rw[evalPart_none]
  refine wpAny_pure ?_
  obtain⟨hone,r,vs,rfl,em,hb,q3⟩:=q3
  have r3:=H2.vr x3 (H1.vr x2 r1)
  cases r3 with
  |@ref a1 d1 _ f1=>
   obtain⟨d',g1,o1⟩:=H3.deref (.ref f1) em
   obtain⟨xs,n,rfl,g,rs⟩:=o1.inv_list
   have hlen:=rs.length
   have hsz:xs.toArray.size<=sizeLine:=by simpa[hlen] using yj hb
   obtain⟨ops,hs⟩:=vh (.Slice lower upper none p) (.ref a1) (.ref h3.objs.size)
   have k1:=z4 (h:=h3) { cls:=.type "slice",data:=.fields #[vl,vu,.none] }
   have hl:(h3.push { cls:=.type "slice",data:=.fields #[vl,vu,.none] }).IsList a1 xs.toArray:=⟨_,k1 _ _ g,rfl,n,rfl⟩
   refine tail_any (T:="list") (s:={ s with heap:=h3.push { cls:=.type "slice",data:=.fields #[vl,vu,.none] },toks:=tk3 }) ⟨_,k1 _ _ g,rfl⟩ list_getitem_lookup (wpAny_getItem_list_slice hl (Heap.IsSliceOf.new ..) pl pu .none (by simp) ?_ hsz) hs
   have k2:=z4 (h:=h3.push { cls:=.type "slice",data:=.fields #[vl,vu,.none] }) { cls:=.type "list",data:=.seq (slicePick xs.toArray il iu none) }
   obtain⟨H4,x4,r4⟩:=Hp.pushList (c:=c) (h':=(h3.push { cls:=.type "slice",data:=.fields #[vl,vu,.none] }).push { cls:=.type "list",data:=.seq (slicePick xs.toArray il iu none) }) (a:=(h3.push { cls:=.type "slice",data:=.fields #[vl,vu,.none] }).objs.size) (vs:=(slicePick xs.toArray il iu none).toList) (n:=0) (H3.keep k1) k2 (Nat.le_refl _)
    (Heap.get?_push_size _ rfl) ((H3.keep k1).vrs (.refl _ _) (qk (H3.vrs (.of_keep k1) rs) hone bl bu))
   exact o _ _ _ _ _ tk3 q3 (x1.trans (x2.trans (x3.trans ((Ext.of_keep k1).trans x4)))) H4 r4
noncomputable def te:List (ME×ME)->Loc->(List (MV×MV)->MH->Prop)->MH->Prop
 |[]=>λ_ Q mh=>Q [] mh
 |(k,v)::r=>λloc Q mh=>k loc (λkv mh=>v loc (λvv mh=>te r loc (λrest mh=>Q ((kv,vv)::rest) mh) mh) mh) mh
inductive SPs(c:Cx)(sc:Scope)(d:Nat):List (Option Expr)->List Expr->List (ME×ME)->Prop
 |nil:SPs c sc d [] [] []
 |cons {k v:Expr}{mk mv:ME}{ks:List (Option Expr)}{vs:List Expr}{ms:List (ME×ME)}:SE c sc d k mk->SE c sc d v mv->SPs c sc d ks vs ms->SPs c sc d (some k::ks) (v::vs) ((mk,mv)::ms)
noncomputable def uI(pos:Pos)(env:Env):List (Option Expr)->List Expr->List (Sem Value×Sem Value)
 |some k::ks,v::vs=>(eval k env,do let x <-eval v env;standAt pos;pure x)::uI pos env ks vs
 |_,_=>[]
theorem VB{ks:List (Option Expr)}{vs:List Expr}{ms:List (ME×ME)}(hm:SPs c sc d ks vs ms)(pos:Pos)(env:Env) :
  (evalEachOpt ks env).zip ((evalEach vs env).map λv=>do let x <-v;standAt pos;pure x)=(uI pos env ks vs).map λp=>(some p.1,p.2):=by
 induction hm with
 |nil=>rfl
 |cons h1 h2 _ ih=>exact congrArg (List.cons _) ih
theorem Wf{ks:List (Option Expr)}{vs:List Expr}{ms:List (ME×ME)}(hm:SPs c sc d ks vs ms)(pos:Pos)(env:Env):(uI pos env ks vs).length=ms.length:=by
 induction hm with
 |nil=>rfl
 |cons h1 h2 _ ih=>exact congrArg Nat.succ ih
inductive VP(h:Heap)(φ:Phi):List (Value×Value)->List (MV×MV)->Prop
 |nil:VP h φ [] []
 |cons {k v:Value}{mk mv:MV}{ks:List (Value×Value)}{ms:List (MV×MV)}:VR h φ k mk->VR h φ v mv->VP h φ ks ms->VP h φ ((k,v)::ks) ((mk,mv)::ms)
theorem VA{ks:List (Option Expr)}{vs:List Expr}{ms:List (ME×ME)}(hm:SPs c sc d ks vs ms){pos:Pos}{A:Around}{env:Env}(hr:xS A d)(he:yz env sc):∀{loc:Loc}{φ:Phi}{mh:MH}{s:Shared}{Q:List (MV×MV)->MH->Prop}{P:List (Value×Value)->Shared->Prop}{E:Value->Shared->Prop},
  c.Hp φ mh s.heap->FrR c env loc φ s.heap->te ms loc Q mh->
  (∀vs mvs φ' mh' h' tk,Q mvs mh'->Ext φ φ' s.heap h'->c.Hp φ' mh' h'->VP h' φ' vs mvs->P vs { s with heap:=h',toks:=tk })->wpAny c.M A (evalPairs (uI pos env ks vs)) P E s:=by
 induction hm with
 |nil=>intro loc φ mh s Q P E H F q o;exact wpAny_pure (o [] [] φ mh s.heap s.toks q (.refl _ _) H .nil)
 |@cons k v mk mv ks vs ms h1 h2 _ ih=>
  intro loc φ mh s Q P E H F q o
  show wpAny _ _ (eval k env >>= λkv=>holding [kv] (do let x <-eval v env;standAt pos;pure x) >>= λvv=>holding [kv,vv] (evalPairs (uI pos env ks vs)) >>= λr=>pure ((kv,vv)::r)) _ _ _
  refine wpAny_bind (h1 A env loc φ mh s _ _ E hr he H F q λkv mkv φ1 mh1 hh1 tk1 q1 x1 H1 r1=>?_)
  have F1:=F.ext H x1
  refine wpAny_bind (wpAny_holding (wpAny_bind (h2 A env loc φ1 mh1 _ _ _ E hr he H1 F1 q1 λvv mvv φ2 mh2 hh2 tk2 q2 x2 H2 r2=>wpAny_bind (wpAny_standAt (wpAny_pure ?_)))))
  refine wpAny_bind (wpAny_holding (ih (s:={ s with heap:=hh2,toks:=tk2 }) H2 (F1.ext H1 x2) q2 λvs mvs φ3 mh3 hh3 tk3 q3 x3 H3 r3=>wpAny_pure ?_))
  exact o _ _ φ3 mh3 hh3 tk3 q3 (x1.trans (x2.trans x3)) H3 (.cons (H2.vr x3 (H1.vr x2 r1)) (H2.vr x3 r2) r3)
noncomputable def Kc(ps:List (ME×ME)):ME:=λloc Q mh=>te ps loc (λkvs mh=>∃ks:List (Int×MV),kvs=ks.map (λp=>(MV.int p.1,p.2))/\(ks.map (·.1)).Nodup/\Q (.ref mh.length) (mh++[.idict ks])) mh
noncomputable def Wv(ps:List (ME×ME)):ME:=λloc Q mh=>te ps loc (λkvs mh=>∃ks:List (Str×MV),kvs=ks.map (λp=>(MV.str p.1,p.2))/\(ks.map (·.1)).Nodup/\Q (.ref mh.length) (mh++[.sdict ks])) mh
noncomputable def VP.V(h:Heap)(φ:Phi)(vs:List (Value×Value)):List (MV×MV)->Prop
 |[]=>vs=[]
 |m::ms=>∃k v ks,vs=(k,v)::ks/\VR h φ k m.1/\VR h φ v m.2/\VP h φ ks ms
theorem VP.view{h:Heap}{φ:Phi}{vs:List (Value×Value)}{ms:List (MV×MV)}(x:VP h φ vs ms):VP.V h φ vs ms:=by
 cases x with
 |nil=>rfl
 |cons a b r=>exact⟨_,_,_,rfl,a,b,r⟩
theorem K0{K:Type}[DecidableEq K]{knd:KeyKind c.prog c.w K}{mk:K->MV}(hk:∀h φ v k,VR h φ v (mk k)->knd.is k v=true){h:Heap}{φ:Phi}{ks:List (K×MV)}:∀{vs:List (Value×Value)},VP h φ vs (ks.map (λp=>(mk p.1,p.2)))->
  ∃kvs:List (K×Value),Carries knd vs kvs/\KvR h φ kvs ks:=by
 induction ks with
 |nil=>intro vs x;obtain rfl:vs=[]:=x.view;exact⟨[],trivial,.nil⟩
 |cons p ks ih=>
  intro vs x
  obtain⟨k1,v1,ws,rfl,a,b,r⟩:=x.view
  obtain⟨kvs,h1,h2⟩:=ih r
  exact⟨(p.1,_)::kvs,⟨hk _ _ _ _ a,rfl,h1⟩,.cons b h2⟩
theorem Us{K:Type}[DecidableEq K]{knd:KeyKind c.prog c.w K}{mk:K->MV}{mo:List (K×MV)->MO}(hk:∀h φ v k,VR h φ v (mk k)->knd.is k v=true)
  (ho:∀h φ a ks ms,h.DictOf knd a ks->KvR h φ ks ms->OR c.prog c.w c.K h φ (a,none) (mo ms))
  {ks:List (Option Expr)}{vs:List Expr}{ms:List (ME×ME)}{pos:Pos}(hm:SPs c sc d ks vs ms) (h0:ms≠[]) (h1:ms.length<=15) :
  SE c sc d (.Dict ks vs pos) (λloc Q mh=>te ms loc (λkvs mh=>∃ks:List (K×MV),kvs=ks.map (λp=>(mk p.1,p.2))/\(ks.map (·.1)).Nodup/\Q (.ref mh.length) (mh++[mo ks])) mh):=
 λA env loc φ mh s Q P E hr he H F q o=>by
  have hl:=Wf hm pos env
  refine wpAny_Dict_pairs (knd:=knd) (pairs:=uI pos env ks vs) (VB hm pos env) (λe=>h0 (List.length_eq_zero_iff.mp (by rw[<-hl,e];rfl))) (by rw[hl];exact h1) ?_
  have k0:=z4 (h:=s.heap) { cls:=.type "dict",data:=.dict #[] }
  have D0:(s.heap.push { cls:=.type "dict",data:=.dict #[] }).DictOf knd s.heap.objs.size []:=Heap.DictOf.new s.heap
  have x0:Ext φ φ s.heap (s.heap.push { cls:=.type "dict",data:=.dict #[] }):=.of_keep k0
  refine VA (s:={ s with heap:=s.heap.push { cls:=.type "dict",data:=.dict #[] } }) hm hr he (H.keep k0) (F.ext H x0) q λws mvs φ' mh' h' tk q' x H' r=>?_
  obtain⟨kk,rfl,hn,q'⟩:=q'
  obtain⟨kvs,hC,hR⟩:=K0 hk r
  have hoff:s.heap.objs.size∉z8 φ:=xI H (Nat.le_refl _)
  have g0:=Heap.get?_push_size s.heap (o:={ cls:=.type "dict",data:=.dict #[] }) rfl
  have hoff':s.heap.objs.size∉z8 φ':=λhq=>by
   rcases x.new _ hq with h2|h2
   ·exact hoff h2
   ·rw[g0] at h2;cases h2
  have g1:=x.keep _ _ hoff g0
  refine⟨kvs,hC,D0.at λo e=>x.keep _ o hoff e,λh2 hD hs=>?_⟩
  have xx:=x0.trans x
  have hnone:∀a∈[s.heap.objs.size],s.heap.get? a=none:=λa ha=>by simp at ha;subst ha;exact Internal.fresh_none (Nat.le_refl _)
  have ap:yA c env φ' h' [s.heap.objs.size]:=yA.of H F λa ha=>⟨hnone a ha,by simp at ha;subst ha;exact hoff',by simp at ha;subst ha;exact⟨_,g1,uf "dict" _ rfl (by decide) (by decide)⟩⟩
  have k:∀b ob,b∉[s.heap.objs.size]->h'.get? b=some ob->h2.get? b=some ob:=λb ob hb e=>(hs.2 b (by simpa using hb)).trans e
  have F':=F.ext H xx
  obtain⟨H2,F2⟩:=wE H' F' ap k
  have KI:=xH ap k
  have hkv:kvs.map (·.1)=kk.map (·.1):=hR.keys
  rw[merged_nil_of_nodup kvs (by rw[hkv];exact hn)] at hD
  obtain⟨H3,r3⟩:=H2.pushAt hoff' (ap.base _ (List.mem_singleton_self _)) H.glob (ho _ _ _ _ _ hD (hR.map λv m r=>r.keepI KI))
  exact o _ _ _ _ h2 _ q' ((xx.own hnone k).pushAt (hnone _ (List.mem_singleton_self _))) H3 r3
theorem zbn{ks:List (Option Expr)}{vs:List Expr}{ms:List (ME×ME)}{pos:Pos}(hm:SPs c sc d ks vs ms)(h0:ms≠[])(h1:ms.length<=15):SE c sc d (.Dict ks vs pos) (Kc ms):=
 Us (knd:=intKind c.prog c.w) (mk:=.int) (mo:=.idict) (λh φ v k r=>by cases r;simp[intKind,Value.isInt]) (λh φ a ks ms D R=>.idict D R) hm h0 h1
theorem Vt{ks:List (Option Expr)}{vs:List Expr}{ms:List (ME×ME)}{pos:Pos}(hm:SPs c sc d ks vs ms)(h0:ms≠[])(h1:ms.length<=15):SE c sc d (.Dict ks vs pos) (Wv ms):=
 Us (knd:=PySem.strKind c.prog c.w) (mk:=.str) (mo:=.sdict) (λh φ v k r=>by cases r;simp[PySem.strKind,Value.isStrOf]) (λh φ a ks ms D R=>.sdict D R) hm h0 h1
noncomputable def tR:ME:=λloc Q mh=>Q (.ref mh.length) (mh++[.idict []])
theorem tE{pos:Pos}:SE c sc d (.Dict [] [] pos) tR:=
 λA env loc φ mh s Q P E hr he H F q o=>by
  refine wpAny_Dict_empty ?_
  have k0:=z4 (h:=s.heap) { cls:=.type "dict",data:=.dict #[] }
  have D0:(s.heap.push { cls:=.type "dict",data:=.dict #[] }).DictOf (intKind c.prog c.w) s.heap.objs.size []:=Heap.DictOf.new s.heap
  have hn:s.heap.get? s.heap.objs.size=none:=Internal.fresh_none (Nat.le_refl _)
  have hb:c.hB.get? s.heap.objs.size=none:=by
   cases e:c.hB.get? s.heap.objs.size with
   |none=>rfl
   |some ob=>have:=H.base _ _ e;rw[hn] at this;cases this
  obtain⟨H3,r3⟩:=(H.keep k0).pushAt (xI H (Nat.le_refl _)) hb H.glob (.idict D0 .nil)
  exact o _ _ _ _ _ s.toks q ((Ext.of_keep k0).pushAt hn) H3 r3
end
noncomputable def sj(xs:Array Nat):Prop:=xs.toList.Pairwise (· < ·)
theorem sj.lt{xs:Array Nat}(h:sj xs){i j:Nat}(hij:i<j)(hj:j<xs.size):xs.getD i 0<xs.getD j 0:=by
 have h1:=List.pairwise_iff_getElem.mp h i j (by simp;exact Nat.lt_trans hij hj) (by simpa using hj) hij
 simpa[Array.getD,hj,show i<xs.size by exact Nat.lt_trans hij hj] using h1
theorem sj.le{xs:Array Nat}(h:sj xs){i j:Nat}(hij:i<=j)(hj:j<xs.size):xs.getD i 0<=xs.getD j 0:=by
 rcases Nat.lt_or_eq_of_le hij with h1|h1
 ·exact Nat.le_of_lt (h.lt h1 hj)
 ·subst h1;exact Nat.le_refl _
structure XS(xs:Array Nat)(j r:Nat):Prop where
 le:r<=xs.size
 lo:∀k,k<r->xs.getD k 0<j
 hi:∀k,r<=k->k<xs.size->j<=xs.getD k 0
theorem Y9{xs:Array Nat}(h:sj xs){j:Nat}:∀(fuel lo hi:Nat),lo<=hi->hi<=xs.size->hi-lo<=fuel->(∀k,k<lo->xs.getD k 0<j)->(∀k,hi<=k->k<xs.size->j<=xs.getD k 0)->
  XS xs j (SetTable.below.go xs j fuel lo hi)
 |0,lo,hi,h1,h2,h3,h4,h5=>by
  have:lo=hi:=Nat.le_antisymm h1 (Nat.le_of_sub_eq_zero (Nat.le_zero.mp h3))
  subst this
  exact⟨h2,h4,h5⟩
 |fuel+1,lo,hi,h1,h2,h3,h4,h5=>by
  show XS xs j (if lo<hi then (if xs.getD ((lo+hi) / 2) j<j then SetTable.below.go xs j fuel ((lo+hi) / 2+1) hi else SetTable.below.go xs j fuel lo ((lo+hi) / 2)) else lo)
  by_cases hlt:lo<hi
  ·rw[if_pos hlt]
   obtain⟨m1,m2⟩:=mid hlt
   have m3:=Nat.lt_of_lt_of_le m2 h2
   have e:xs.getD ((lo+hi) / 2) j=xs.getD ((lo+hi) / 2) 0:=by simp[Array.getD,m3]
   rw[e]
   by_cases hm:xs.getD ((lo+hi) / 2) 0<j
   ·rw[if_pos hm]
    exact Y9 h fuel _ _ m2 h2 (Nat.le_trans (Nat.sub_le_sub_left (Nat.succ_le_succ m1) hi) (by show hi-(lo+1)<=_;rw[Nat.sub_add_eq];exact Nat.sub_le_of_le_add h3)) (λk hk=>Nat.lt_of_le_of_lt (h.le (j:=(lo+hi) / 2) (Nat.le_of_lt_succ hk) m3) hm) h5
   ·rw[if_neg hm]
    exact Y9 h fuel _ _ m1 (Nat.le_of_lt m3) (Nat.le_of_lt_succ (Nat.lt_of_lt_of_le (Nat.sub_lt_sub_right m1 m2) h3)) h4 (λk hk hk2=>Nat.le_trans (Nat.le_of_not_lt hm) (h.le (i:=(lo+hi) / 2) hk hk2))
  ·rw[if_neg hlt]
   have:lo=hi:=Nat.le_antisymm h1 (Nat.le_of_not_lt hlt)
   subst this
   exact⟨h2,h4,h5⟩
theorem qN{xs:Array Nat}(h:sj xs)(j:Nat):XS xs j (SetTable.below xs j):=
 Y9 h xs.size 0 xs.size (Nat.zero_le _) (Nat.le_refl _) (Nat.sub_le xs.size 0) (λk hk=>by lia) (λk h1 h2=>by lia)
theorem XS.uniq{xs:Array Nat}{j r r':Nat}(a:XS xs j r)(b:XS xs j r'):r=r':=by
 rcases Nat.lt_trichotomy r r' with h|h|h
 ·have h1:=b.lo r h
  have h2:=a.hi r (Nat.le_refl _) (by have:=b.le;exact Nat.lt_of_lt_of_le h this)
  lia
 ·exact h
 ·have h1:=a.lo r' h
  have h2:=b.hi r' (Nat.le_refl _) (by have:=a.le;exact Nat.lt_of_lt_of_le h this)
  lia
theorem VL{xs:Array Nat}{j:Nat}:j∈xs.toList↔∃k,k<xs.size/\xs.getD k 0=j:=by
 rw[List.mem_iff_getElem]
 constructor
 ·rintro⟨k,hk,e⟩
  have hk':k<xs.size:=by simpa using hk
  exact⟨k,hk',by simpa[Array.getD,hk'] using e⟩
 ·rintro⟨k,hk,e⟩
  exact⟨k,by simpa using hk,by simpa[Array.getD,hk] using e⟩
theorem zgh{xs:Array Nat}(h:sj xs)(j:Nat):xs[SetTable.below xs j]?=some j↔j∈xs.toList:=by
 have b:=qN h j
 rw[VL]
 constructor
 ·intro e
  obtain⟨hk,e'⟩:=Array.getElem?_eq_some_iff.mp e
  exact⟨_,hk,by simpa[Array.getD,hk] using e'⟩
 ·rintro⟨k,hk,e⟩
  have h1:k=SetTable.below xs j:=by
   rcases Nat.lt_trichotomy k (SetTable.below xs j) with h2|h2|h2
   ·exact absurd e (Nat.ne_of_lt (b.lo k h2))
   ·exact h2
   ·have h3:=b.hi (SetTable.below xs j) (Nat.le_refl _) (Nat.lt_trans h2 hk)
    exact absurd e (Nat.ne_of_gt (Nat.lt_of_le_of_lt h3 (h.lt h2 hk)))
  subst h1
  rw[Array.getElem?_eq_getElem hk]
  simpa[Array.getD,hk] using e
theorem K5{xs:Array Nat}(h:sj xs){i:Nat}(hi:i<=xs.size):SetTable.below xs (if i=0 then 0 else xs.getD (i-1) 0+1)=i:=by
 refine(qN h _).uniq ⟨hi,λk hk=>?_,λk h1 h2=>?_⟩
 ·rw[if_neg (Nat.ne_zero_of_lt hk)]
  have:=h.le (i:=k) (j:=i-1) (Nat.le_sub_one_of_lt hk) (Nat.lt_of_lt_of_le (Nat.sub_lt (Nat.zero_lt_of_lt hk) Nat.one_pos) hi)
  exact Nat.lt_succ_of_le this
 ·by_cases h0:i=0
  ·rw[if_pos h0];exact Nat.zero_le (xs.getD k 0)
  ·rw[if_neg h0]
   have:=h.lt (i:=i-1) (j:=k) (Nat.lt_of_lt_of_le (Nat.sub_lt (Nat.pos_of_ne_zero h0) Nat.one_pos) h1) h2
   assumption
theorem VY{xs:Array Nat}(h:sj xs){j:Nat}(hj:j∉xs.toList):sj (SetTable.insertAt xs (SetTable.below xs j) j):=by
 have b:=qN h j
 unfold sj
 rw[SetTable.toList_insertAt,List.pairwise_append]
 have hn:∀k,SetTable.below xs j<=k->k<xs.size->j<xs.getD k 0:=λk h1 h2=>by
  have h3:=b.hi k h1 h2
  rcases Nat.lt_or_eq_of_le h3 with h4|h4
  ·exact h4
  ·exact absurd (VL.mpr ⟨k,h2,h4.symm⟩) hj
 have gD:∀k (hk:k<xs.toList.length),xs.toList[k]=xs.getD k 0:=λk hk=>by
  have hk':k<xs.size:=by simpa using hk
  simp[Array.getD,hk']
 have hd:∀y∈xs.toList.drop (SetTable.below xs j),j<y:=λy hy=>by
  obtain⟨k,hk,rfl⟩:=List.mem_iff_getElem.mp hy
  rw[List.getElem_drop,gD]
  have:k<xs.toList.length-SetTable.below xs j:=by simpa using hk
  exact hn _ (Nat.le_add_right _ _) (by have h5:xs.toList.length=xs.size:=(by simp);exact Nat.add_lt_of_lt_sub' this)
 have ht:∀y∈xs.toList.take (SetTable.below xs j),y<j:=λy hy=>by
  obtain⟨k,hk,rfl⟩:=List.mem_iff_getElem.mp hy
  rw[List.getElem_take,gD]
  exact b.lo k (by have h5:k<min (SetTable.below xs j) xs.toList.length:=(by simpa using hk);exact Nat.lt_of_lt_of_le h5 (Nat.min_le_left _ _))
 refine⟨h.sublist (List.take_sublist _ _),List.pairwise_cons.mpr ⟨hd,h.sublist (List.drop_sublist _ _)⟩,λa ha y hy=>?_⟩
 rcases List.mem_cons.mp hy with rfl|hy
 ·exact ht a ha
 ·exact Nat.lt_trans (ht a ha) (hd y hy)
noncomputable def v7(led:Bool)(mask moves:Nat)(place:Array Nat):SetTable:={ mask,place,dummies:=#[],finger:=0,led,moves,plain:=true }
noncomputable def adv(mask:Nat)(p:SetTable.Probe):SetTable.Probe:=(v7 true mask 0 #[]).advance p
theorem zl6(led:Bool)(mask moves:Nat)(place:Array Nat)(p:SetTable.Probe):(v7 led mask moves place).advance p=adv mask p:=rfl
theorem zaz(mask:Nat)(p:SetTable.Probe):(adv mask p).dummy=p.dummy:=by
 unfold adv SetTable.advance
 split<;>rfl
noncomputable def ze8(mask:Nat):Nat->SetTable.Probe->SetTable.Probe
 |0,p=>p
 |n+1,p=>ze8 mask n (adv mask p)
theorem zfd{led:Bool}{mask moves:Nat}{place:Array Nat}(h:sj place)(j:Nat):(j∈place.toList/\∃i,(v7 led mask moves place).slot j=.live i)\/(j∉place.toList/\(v7 led mask moves place).slot j=.empty):=by
 unfold SetTable.slot
 have hit:=zgh h j
 by_cases hj:j∈place.toList
 ·refine .inl ⟨hj,SetTable.below place j,?_⟩
  simp[v7,hit.mpr hj]
 ·refine .inr ⟨hj,?_⟩
  have hne:¬(place[SetTable.below place j]?=some j):=λe=>hj (hit.mp e)
  have h0:SetTable.has #[] j=false:=by rfl
  simp[v7,hne,h0]
theorem Jf{led:Bool}{mask moves:Nat}{place:Array Nat}(hr:sj place)(h:Int):∀(m fuel:Nat) (p:SetTable.Probe),p.dummy=none->m<fuel->(ze8 mask m p).j∉place.toList->
  ∃j m',m'<=m/\j=(ze8 mask m' p).j/\j∉place.toList/\SetTable.probe.go (v7 led mask moves place) (λ_=>h+1) h fuel p=some (.empty j none)
 |m,0,p,hd,hm,hj=>by lia
 |m,fuel+1,p,hd,hm,hj=>by
  rw[SetTable.probe.go]
  rcases zfd (led:=led) (mask:=mask) (moves:=moves) hr p.j with⟨h1,i,h2⟩|⟨h1,h2⟩
  ·rw[h2]
   dsimp only
   have hne:((h+1:Int) == h)=false:=by simp;lia
   rw[hne]
   simp only[Bool.false_eq_true,if_false]
   cases m with
   |zero=>exact absurd h1 hj
   |succ m=>
    obtain⟨j,m',e1,e2,e3,e4⟩:=Jf (led:=led) (moves:=moves) hr h m fuel (adv mask p) (by rw[zaz];exact hd) (by lia) hj
    exact⟨j,m'+1,by exact Nat.add_le_add_right e1 1,e2,e3,by rw[zl6];exact e4⟩
  ·rw[h2]
   exact⟨p.j,0,Nat.zero_le _,rfl,h1,by dsimp only;rw[hd]⟩
noncomputable def yd:List Int:=[-4,-3,-2,-1,0,1,2,3,4,5,6,7,8]
noncomputable def uW(mask:Nat):Nat->SetTable.Probe->List Nat
 |0,p=>[p.j]
 |n+1,p=>p.j::uW mask n (adv mask p)
theorem ZL{mask:Nat}:∀{n:Nat}{p:SetTable.Probe}{j:Nat},j∈uW mask n p->∃m,m<=n/\j=(ze8 mask m p).j
 |0,p,j,h=>⟨0,Nat.le_refl _,List.mem_singleton.mp h⟩
 |n+1,p,j,h=>by
  rcases List.mem_cons.mp h with h|h
  ·exact⟨0,Nat.zero_le _,h⟩
  ·obtain⟨m,h1,h2⟩:=ZL h
   exact⟨m+1,by exact Nat.add_le_add_right h1 1,h2⟩
theorem ZM{mask:Nat}:∀{n m:Nat}{p:SetTable.Probe},m<=n->(ze8 mask m p).j∈uW mask n p
 |0,0,p,h=>List.Mem.head _
 |n+1,0,p,h=>List.Mem.head _
 |n+1,m+1,p,h=>List.mem_cons_of_mem _ (ZM (Nat.le_of_lt_succ h))
theorem zl8:(yd.all λx=>(List.range 8).all (λj=>(uW 7 40 ((v7 true 7 0 #[]).probeStart (hashInt x))).contains j) && (uW 7 40 ((v7 true 7 0 #[]).probeStart (hashInt x))).all (· < 8))=true:=by decide +kernel
theorem ziv:(yd.all λx=>(List.range 32).all (λj=>(uW 31 440 ((v7 true 31 0 #[]).probeStart (hashInt x))).contains j) && (uW 31 440 ((v7 true 31 0 #[]).probeStart (hashInt x))).all (· < 32))=true:=by decide +kernel
structure vN(led:Bool)(t:SetTable)(n:Nat):Prop where
 eq:t=v7 led t.mask t.moves t.place
 cap:(t.mask=7/\n<=4)\/(t.mask=31/\n<=18)
 rise:sj t.place
 lt:∀j∈t.place.toList,j<t.mask+1
 size:t.place.size=n
theorem vN.few{led:Bool}{t:SetTable}{n:Nat}(g:vN led t n):n<=18:=g.cap.elim (λh=>Nat.le_trans h.2 (by decide)) λh=>h.2
theorem xV{α:Type}[DecidableEq α]:∀{l ys:List α},l.Nodup->(∀x∈l,x∈ys)->l.length<=ys.length
 |[],ys,_,_=>Nat.zero_le _
 |a::l,ys,hn,h=>by
  obtain⟨h1,h2⟩:=List.nodup_cons.mp hn
  have ha:=h a (.head _)
  have:=xV (l:=l) (ys:=ys.erase a) h2 λx hx=>(List.mem_erase_of_ne (show x≠a from λe=>h1 (by rw[<-e];exact hx))).mpr (h x (.tail _ hx))
  rw[List.length_erase_of_mem ha] at this
  exact Nat.add_le_of_le_sub (List.length_pos_of_mem ha) this
theorem Uo{m:Nat}{xs:List Nat}(h:xs.length<m):∃j,j<m/\j∉xs:=by
 refine Classical.byContradiction λhn=>?_
 have h1:∀j∈List.range m,j∈xs:=λj hj=>Classical.byContradiction λh2=>hn ⟨j,List.mem_range.mp hj,h2⟩
 have:=xV List.nodup_range h1
 rw[List.length_range] at this;lia
theorem Jh{led:Bool}{t:SetTable}{n m:Nat}{x:Int}(he:t=v7 led t.mask t.moves t.place)(hr:sj t.place)(hs:t.place.size=n)(hn:n<t.mask+1)(hm:m<10 * SetTable.turns t.mask)
  (h1:∀j<t.mask+1,j∈uW t.mask m (t.probeStart (hashInt x))) (h2:∀j∈uW t.mask m (t.probeStart (hashInt x)),j<t.mask+1) :
  ∃j,j<t.mask+1/\j∉t.place.toList/\t.freeSlot (hashInt x)=some (j,false):=by
 obtain⟨j0,h3,h4⟩:=Uo (m:=t.mask+1) (xs:=t.place.toList) (by rw[Array.length_toList,hs];exact hn)
 obtain⟨k,h6,h7⟩:=ZL (h1 j0 h3)
 obtain⟨j,m',e1,e2,e3,e4⟩:=Jf (led:=led) (mask:=t.mask) (moves:=t.moves) hr (hashInt x) k (10 * SetTable.turns t.mask) (t.probeStart (hashInt x)) rfl (Nat.lt_of_le_of_lt h6 hm) (by rw[<-h7];exact h4)
 refine⟨j,h2 j (by rw[e2];exact ZM (Nat.le_trans e1 h6)),e3,?_⟩
 unfold SetTable.freeSlot SetTable.probe
 rw[<-he] at e4
 rw[e4];rfl
theorem zag{led:Bool}{t:SetTable}{n:Nat}{x:Int}(g:vN led t n)(hx:x∈yd):∃j,j<t.mask+1/\j∉t.place.toList/\t.freeSlot (hashInt x)=some (j,false):=by
 have hp:t.probeStart (hashInt x)=(v7 true t.mask 0 #[]).probeStart (hashInt x):=rfl
 rcases g.cap with⟨h7,hn⟩|⟨h31,hn⟩
 ·have h1:=List.all_eq_true.mp zl8 x hx
  simp only[Bool.and_eq_true] at h1
  refine Jh (m:=40) g.eq g.rise g.size (by lia) (by rw[h7];decide) (λj hj=>?_) λj hj=>?_
  ·rw[h7] at hj
   rw[hp,h7]
   exact List.contains_iff_mem.mp (List.all_eq_true.mp h1.1 j (List.mem_range.mpr hj))
  ·rw[hp,h7] at hj
   rw[h7]
   simpa using List.all_eq_true.mp h1.2 j hj
 ·have h1:=List.all_eq_true.mp ziv x hx
  simp only[Bool.and_eq_true] at h1
  refine Jh (m:=440) g.eq g.rise g.size (by lia) (by rw[h31];decide) (λj hj=>?_) λj hj=>?_
  ·rw[h31] at hj
   rw[hp,h31]
   exact List.contains_iff_mem.mp (List.all_eq_true.mp h1.1 j (List.mem_range.mpr hj))
  ·rw[hp,h31] at hj
   rw[h31]
   simpa using List.all_eq_true.mp h1.2 j hj
structure Zt(led:Bool)(t:SetTable)(n:Nat):Prop where
 eq:t=v7 led t.mask t.moves t.place
 mask:t.mask=7\/t.mask=31
 rise:sj t.place
 lt:∀j∈t.place.toList,j<t.mask+1
 size:t.place.size=n
theorem zcf{led:Bool}{t:SetTable}{n:Nat}{es:Array (Int×Value)}{x:Int}{v:Value}(g:vN led t n)(hn:n<18)(hx:x∈yd)(he:es.size=n) :
  ∃es' t',layNew t es (hashInt x) v=(es',t',false,false)/\Zt led t' (n+1)/\t'.mask=t.mask/\es'.size=n+1:=by
 obtain⟨j,h1,h2,h3⟩:=zag g hx
 unfold layNew
 rw[h3]
 dsimp only
 have hput:t.put j=(v7 led t.mask t.moves (SetTable.insertAt t.place (SetTable.below t.place j) j),SetTable.below t.place j):=by
  have h0:SetTable.has #[] j=false:=by rfl
  have hd:t.dummies = #[]:=by rw[g.eq];rfl
  have e:t.put j=({ t with place:=SetTable.insertAt t.place (SetTable.below t.place j) j,dummies:=t.dummies },SetTable.below t.place j):=by
   unfold SetTable.put
   rw[hd,h0];rfl
  rw[e]
  refine Prod.ext ?_ rfl
  show({ t with place:=_,dummies:=t.dummies }:SetTable)=_
  have hf:t.finger=0:=by rw[g.eq];rfl
  have hl:t.led=led:=by rw[g.eq];rfl
  have hpl:t.plain=true:=by rw[g.eq];rfl
  rw[hd,hf,hl,hpl];rfl
 rw[hput]
 dsimp only
 have hsz:(SetTable.insertAt es (SetTable.below t.place j) (hashInt x,v)).size=n+1:=by
  have:=(SetTable.insertAt_perm es (SetTable.below t.place j) (hashInt x,v)).length_eq
  simpa[he] using this
 have hp:=SetTable.insertAt_perm t.place (SetTable.below t.place j) j
 have hps:(SetTable.insertAt t.place (SetTable.below t.place j) j).size=n+1:=by
  have:=hp.length_eq
  simpa[g.size] using this
 rw[hsz]
 have hmn:n+1<=t.mask:=by rcases g.cap with h|h<;>lia
 have h6:(v7 led t.mask t.moves (SetTable.insertAt t.place (SetTable.below t.place j) j)).fits (n+1)=true:=by
  simp[SetTable.fits,v7,SetTable.fill,hps];omega
 refine⟨_,v7 led t.mask t.moves (SetTable.insertAt t.place (SetTable.below t.place j) j),Prod.ext rfl (Prod.ext ?_ (Prod.ext rfl ?_)),⟨rfl,?_,VY g.rise h2,λk hk=>?_,hps⟩,rfl,hsz⟩
 ·show SetTable.orStandIn _ _=_
  unfold SetTable.orStandIn
  rw[if_pos h6]
 ·show(!_)=false
  rw[h6];rfl
 ·rcases g.cap with h|h
  ·exact .inl h.1
  ·exact .inr h.1
 ·have:=hp.mem_iff.mp hk
  simp at this
  rcases this with h7|rfl
  ·exact g.lt k (by simpa using h7)
  ·exact h1
theorem vN.fits{led:Bool}{t:SetTable}{n:Nat}(g:vN led t n):t.fits n=true:=by
 have h1:=g.size
 have h2:=g.cap
 have hd:t.dummies = #[]:=by rw[g.eq];rfl
 simp only[SetTable.fits,SetTable.fill,hd,h1,beq_self_eq_true,Bool.true_and,decide_eq_true_eq]
 show n+0<=_
 lia
theorem vN.led{led:Bool}{t:SetTable}{n:Nat}(g:vN led t n):t.led=led:=by rw[g.eq];rfl
theorem vN.plain{led:Bool}{t:SetTable}{n:Nat}(g:vN led t n):t.plain=true:=by rw[g.eq];rfl
theorem Zt.plain{led:Bool}{t:SetTable}{n:Nat}(g:Zt led t n):t.plain=true:=by rw[g.eq];rfl
theorem vN.fresh(led:Bool):vN led (.fresh 0 0 led) 0:=⟨rfl,.inl ⟨rfl,by exact Nat.zero_le 4⟩,List.Pairwise.nil,λj hj=>by simp[SetTable.fresh] at hj,rfl⟩
theorem Zt.full{led:Bool}{t:SetTable}{n:Nat}(g:Zt led t n):t.tooFull=decide (t.mask * 3<=n * 5):=by
 have hd:t.dummies = #[]:=by rw[g.eq];rfl
 unfold SetTable.tooFull SetTable.fill
 rw[hd,g.size];rfl
theorem Zt.good{led:Bool}{t:SetTable}{n:Nat}(g:Zt led t n)(h:t.tooFull=false):vN led t n:=by
 rw[g.full,decide_eq_false_iff_not] at h
 refine⟨g.eq,?_,g.rise,g.lt,g.size⟩
 rcases g.mask with hm|hm
 ·exact .inl ⟨hm,by lia⟩
 ·exact .inr ⟨hm,by lia⟩
theorem List.getElem_cons_eraseIdx_perm'{α:Type}:∀{l:List α}{i:Nat}(h:i<l.length),(l[i]::l.eraseIdx i).Perm l
 |a::l,0,h=>by rfl
 |a::l,i+1,h=>by
  have h':i<l.length:=by simpa using h
  simp only[List.getElem_cons_succ,List.eraseIdx_cons_succ]
  exact(List.Perm.swap _ _ _).trans ((List.getElem_cons_eraseIdx_perm' h').cons a)
theorem jZ{α:Type}(next:Nat->Nat):∀(n k:Nat) (left:List α) (out:Array α),left.length<=n->(pickOrder.go next n k left out).toList.Perm (out.toList++left)
 |0,k,left,out,h=>by
  have:left=[]:=List.length_eq_zero_iff.mp (Nat.eq_zero_of_le_zero h)
  subst this
  show out.toList.Perm (out.toList++[])
  simp
 |n+1,k,left,out,h=>by
  rw[pickOrder.go]
  cases left with
  |nil=>simp
  |cons a left=>
   have hl:next k % (a::left).length<(a::left).length:=Nat.mod_lt _ (Nat.zero_lt_succ _)
   rw[List.getElem?_eq_getElem hl]
   dsimp only
   refine(jZ next n (k+1) _ _ (by rw[List.length_eraseIdx_of_lt hl];exact Nat.sub_le_of_le_add h)).trans ?_
   rw[Array.toList_push,List.append_assoc]
   refine List.Perm.append_left _ ?_
   exact List.getElem_cons_eraseIdx_perm' hl
theorem Yc{α:Type}(next:Nat->Nat)(xs:Array α):(pickOrder next xs).toList.Perm xs.toList:=by
 have:=jZ next xs.size 0 xs.toList #[] (Nat.le_refl _)
 simpa[pickOrder] using this
noncomputable def za3(mask:Nat):Nat->Nat->Nat->List Nat
 |0,_,_=>[]
 |f+1,i,p=>((List.range (SetTable.runEnd mask i+1-i)).map (i + ·))++za3 mask f (SetTable.leap mask i p).1 (SetTable.leap mask i p).2
theorem zaf{owner:Array (Option Nat)}{mask:Nat}:∀(f i p:Nat),(∃j∈za3 mask f i p,(owner.getD j (some 0)).isNone=true)->∃j,SetTable.layClean.free mask owner f i p=some j/\(owner.getD j (some 0)).isNone=true:=by
 intro f
 induction f with
 |zero=>rintro i p ⟨j,h,_⟩;cases h
 |succ f ih=>
  rintro i p ⟨j,h,hj⟩
  have e:SetTable.layClean.free mask owner (f+1) i p=match (List.range (SetTable.runEnd mask i+1-i)).find? λk=>(owner.getD (i+k) (some 0)).isNone with
   |some k=>some (i+k)
   |none=>SetTable.layClean.free mask owner f (SetTable.leap mask i p).1 (SetTable.leap mask i p).2:=rfl
  rw[e]
  cases hf:(List.range (SetTable.runEnd mask i+1-i)).find? λk=>(owner.getD (i+k) (some 0)).isNone with
  |some k=>exact⟨i+k,rfl,List.find?_some (p:=λk=>(owner.getD (i+k) (some 0)).isNone) hf⟩
  |none=>
   rcases List.mem_append.mp h with h|h
   ·obtain⟨k,hk,rfl⟩:=List.mem_map.mp h
    exact absurd hj (List.find?_eq_none.mp hf k hk)
   ·exact ih _ _ ⟨j,h,hj⟩
theorem zl7:(yd.all λx=>(List.range 32).all λj=>(za3 31 (SetTable.turns 31) (SetTable.bits (hashInt x) % 32) (SetTable.bits (hashInt x))).contains j)=true:=by decide +kernel
structure YD(owner:Array (Option Nat))(m:Nat):Prop where
 size:owner.size=32
 lt:∀(j k:Nat),owner[j]?=some (some k)->k<m
 all:∀(k:Nat),k<m->∃j:Nat,owner[j]?=some (some k)
 inj:∀(i j k:Nat),owner[i]?=some (some k)->owner[j]?=some (some k)->i=j
theorem YD.free{owner:Array (Option Nat)}{m:Nat}(o:YD owner m)(hm:m<32):∃j,j<32/\owner[j]?=some none:=by
 refine Classical.byContradiction λhn=>?_
 have h1:∀j,j<32->∃k,owner[j]?=some (some k):=λj hj=>by
  cases e:owner[j]? with
  |none=>rw[Array.getElem?_eq_none_iff,o.size] at e;lia
  |some x=>cases x with
   |none=>exact absurd ⟨j,hj,e⟩ hn
   |some k=>exact⟨k,rfl⟩
 have hg:∀j,j<32->owner[j]?=some (some ((owner.getD j none).getD 0)):=λj hj=>by
  obtain⟨k,e⟩:=h1 j hj
  have e2:owner.getD j none=some k:=by rw[Array.getD_eq_getD_getElem?,e];rfl
  rw[e2];exact e
 have hnd:((List.range 32).map λj=>(owner.getD j none).getD 0).Nodup:=by
  refine List.pairwise_map.mpr (List.Pairwise.imp_of_mem (λ{a b} ha hb hne e=>hne ?_) List.nodup_range)
  have h2:=hg a (List.mem_range.mp ha)
  have h3:=hg b (List.mem_range.mp hb)
  rw[e] at h2
  exact o.inj _ _ _ h2 h3
 have:=xV hnd (ys:=List.range m) λx hx=>by
  obtain⟨j,hj,rfl⟩:=List.mem_map.mp hx
  exact List.mem_range.mpr (o.lt _ _ (hg j (List.mem_range.mp hj)))
 simp at this
 lia
noncomputable def Wz(acc:Option (Array (Option Nat)×Nat))(h:Int):Option (Array (Option Nat)×Nat):=do
 let (owner,k) <-acc
 let j <-SetTable.layClean.free 31 owner (SetTable.turns 31) (SetTable.bits h % (31+1)) (SetTable.bits h)
 pure (owner.setIfInBounds j (some k),k+1)
theorem zce{owner:Array (Option Nat)}{m:Nat}(o:YD owner m)(hm:m<32){x:Int}(hx:x∈yd):∃owner',Wz (some (owner,m)) (hashInt x)=some (owner',m+1)/\YD owner' (m+1):=by
 obtain⟨j0,h0,e0⟩:=o.free hm
 have h1:=List.all_eq_true.mp (List.all_eq_true.mp zl7 x hx) j0 (List.mem_range.mpr h0)
 obtain⟨j,hj,hn⟩:=zaf (owner:=owner) (mask:=31) (SetTable.turns 31) (SetTable.bits (hashInt x) % 32) (SetTable.bits (hashInt x)) ⟨j0,List.contains_iff_mem.mp h1,by rw[Array.getD_eq_getD_getElem?,e0];rfl⟩
 have hj2:owner[j]?=some none:=by
  rw[Array.getD_eq_getD_getElem?] at hn
  cases e:owner[j]? with
  |none=>rw[e] at hn;cases hn
  |some y=>rw[e] at hn;cases y with
   |none=>rfl
   |some k=>cases hn
 have hjlt:j<owner.size:=(Array.getElem?_eq_some_iff.mp hj2).1
 refine⟨owner.setIfInBounds j (some m),?_,?_⟩
 ·show(do let j <-SetTable.layClean.free 31 owner (SetTable.turns 31) (SetTable.bits (hashInt x) % 32) (SetTable.bits (hashInt x));pure (owner.setIfInBounds j (some m),m+1))=_
  rw[hj];rfl
 have get:∀i k,(owner.setIfInBounds j (some m))[i]?=some (some k)->(i=j/\k=m)\/(i≠j/\owner[i]?=some (some k)):=λi k e=>by
  rw[Array.getElem?_setIfInBounds] at e
  by_cases h:j=i
  ·subst h
   rw[if_pos rfl,if_pos hjlt] at e
   exact .inl ⟨rfl,(Option.some.inj (Option.some.inj e)).symm⟩
  ·rw[if_neg h] at e
   exact .inr ⟨λq=>h q.symm,e⟩
 refine⟨by rw[Array.size_setIfInBounds];exact o.size,λi k e=>?_,λk hk=>?_,λa b k ea eb=>?_⟩
 ·rcases get i k e with⟨_,rfl⟩|⟨_,e⟩
  ·exact Nat.lt_succ_self _
  ·exact Nat.lt_succ_of_lt (o.lt _ _ e)
 ·rcases Nat.lt_or_eq_of_le (Nat.le_of_lt_succ hk) with h|rfl
  ·obtain⟨i,e⟩:=o.all k h
   refine⟨i,?_⟩
   have hij:j≠i:=λq=>by rw[q,e] at hj2;cases hj2
   rw[Array.getElem?_setIfInBounds,if_neg hij];exact e
  ·exact⟨j,by rw[Array.getElem?_setIfInBounds,if_pos rfl,if_pos hjlt]⟩
 ·rcases get a k ea with⟨e1,h1⟩|⟨ha,ea2⟩<;>rcases get b k eb with⟨e2,h2⟩|⟨hb,eb2⟩
  ·rw[e1,e2]
  ·exact absurd (h1▸o.lt _ _ eb2) (Nat.lt_irrefl _)
  ·exact absurd (h2▸o.lt _ _ ea2) (Nat.lt_irrefl _)
  ·exact o.inj _ _ _ ea2 eb2
theorem zcg:∀(xs:List Int) (m:Nat) (owner:Array (Option Nat)),YD owner m->m+xs.length<=32->(∀x∈xs,x∈yd)->∃owner',(xs.map hashInt).foldl Wz (some (owner,m))=some (owner',m+xs.length)/\YD owner' (m+xs.length):=by
 intro xs
 induction xs with
 |nil=>intro m owner o _ _;exact⟨owner,rfl,o⟩
 |cons x xs ih=>
  intro m owner o hm hx
  rw[List.length_cons] at hm
  obtain⟨o1,e1,h1⟩:=zce o (Nat.lt_of_add_right_lt hm) (hx x (.head _))
  obtain⟨o2,e2,h2⟩:=ih (m+1) o1 h1 (by lia) λy hy=>hx y (.tail _ hy)
  refine⟨o2,?_,?_⟩
  ·rw[List.map_cons,List.foldl_cons,e1,e2,List.length_cons];congr 2;exact Nat.succ_add_eq_add_succ m xs.length
  ·rw[List.length_cons,show m+(xs.length+1)=m+1+xs.length by exact Eq.symm (Nat.succ_add_eq_add_succ m xs.length)];exact h2
theorem YD.start:YD (Array.replicate 32 none) 0 where
 size:=by rfl
 lt:=λj k e=>by
  rw[Array.getElem?_replicate] at e
  split at e<;>cases e
 all:=λk h=>absurd h (Nat.not_lt_zero _)
 inj:=λi j k e=>by
  rw[Array.getElem?_replicate] at e
  split at e<;>cases e
theorem YD.laid{owner:Array (Option Nat)}{m:Nat}(o:YD owner m) :
  let live:=(List.range 32).filterMap λj=>(owner.getD j none).map (j,·)
  (live.map (·.2)).Perm (List.range m)/\(live.map (·.1)).Pairwise (· < ·)/\(∀j∈live.map (·.1),j<32):=by
 intro live
 have hm:∀j k,(j,k)∈live↔j<32/\owner[j]?=some (some k):=λj k=>by
  rw[List.mem_filterMap]
  constructor
  ·rintro⟨i,hi,e⟩
   obtain⟨k',e1,e2⟩:=Option.map_eq_some_iff.mp e
   obtain⟨rfl,rfl⟩:=Prod.mk.inj e2
   have hi:=List.mem_range.mp hi
   refine⟨hi,?_⟩
   rw[Array.getD_eq_getD_getElem?] at e1
   cases q:owner[i]? with
   |none=>rw[q] at e1;cases e1
   |some x=>rw[q] at e1;exact congrArg some e1
  ·rintro⟨h1,e⟩
   exact⟨j,List.mem_range.mpr h1,by rw[Array.getD_eq_getD_getElem?,e];rfl⟩
 have hp:live.Pairwise λa b=>a.1<b.1:=by
  refine List.pairwise_filterMap.mpr (List.Pairwise.imp ?_ List.pairwise_lt_range)
  intro a b hab x hx y hy
  obtain⟨_,_,rfl⟩:=Option.map_eq_some_iff.mp hx
  obtain⟨_,_,rfl⟩:=Option.map_eq_some_iff.mp hy
  exact hab
 refine⟨?_,List.pairwise_map.mpr hp,λj hj=>?_⟩
 ·refine(List.perm_ext_iff_of_nodup (List.pairwise_map.mpr (List.Pairwise.imp_of_mem (λ{a b} ha hb h e=>?_) hp)) List.nodup_range).mpr λk=>?_
  ·have h1:=((hm a.1 a.2).mp ha).2
   have h2:=((hm b.1 b.2).mp hb).2
   rw[e] at h1
   exact absurd h (by rw[o.inj _ _ _ h1 h2];exact Nat.lt_irrefl _)
  ·rw[List.mem_range]
   constructor
   ·intro h
    obtain⟨⟨j,k'⟩,h1,rfl⟩:=List.mem_map.mp h
    exact o.lt _ _ ((hm _ _).mp h1).2
   ·intro h
    obtain⟨j,e⟩:=o.all k h
    have hj:j<32:=by rw[<-o.size];exact(Array.getElem?_eq_some_iff.mp e).1
    exact List.mem_map.mpr ⟨(j,k),(hm _ _).mpr ⟨hj,e⟩,rfl⟩
 ·obtain⟨⟨i,k⟩,h1,rfl⟩:=List.mem_map.mp hj
  exact((hm _ _).mp h1).1
theorem V8{α:Type}(es:Array α):(List.range es.size).filterMap (λi=>es[i]?)=es.toList:=by
 have h:∀l:List α,(List.range l.length).filterMap (λi=>l[i]?)=l:=λl=>by
  induction l with
  |nil=>rfl
  |cons a l ih=>
   rw[List.length_cons,List.range_succ_eq_map,List.filterMap_cons]
   simp only[List.getElem?_cons_zero,List.filterMap_map,Function.comp_def,List.getElem?_cons_succ]
   rw[ih]
 have:=h es.toList
 simpa using this
theorem UQ{led:Bool}{t:SetTable}{es:Array (Int×Value)}{xs:List Int}(g:Zt led t 5)(h7:t.mask=7)(he:es.size=5)(hx:es.toList.map (·.1)=xs.map hashInt)(hs:∀x∈xs,x∈yd) :
  ∃es' t',relayAll t es (SetTable.grown es.size)=(es',t',false)/\vN led t' 5/\es'.toList.Perm es.toList:=by
 have hxl:xs.length=5:=by have:=congrArg List.length hx;simp[he] at this;exact Eq.symm ((λ{a b}=>Nat.succ_inj.mp) (congrArg Nat.succ this))
 obtain⟨owner,e1,o⟩:=zcg xs 0 _ YD.start (by lia) hs
 rw[Nat.zero_add,hxl] at e1 o
 have hcl:SetTable.layClean 31 (es.map (·.1))=some owner:=by
  show(((es.map (·.1)).foldl Wz (some (Array.replicate 32 none,0))).map (·.1))=_
  rw[<-Array.foldl_toList,Array.toList_map,hx,e1];rfl
 obtain⟨h1,h2,h3⟩:=o.laid
 have hwant:SetTable.sizeAbove (SetTable.grown es.size)-1=31:=by rw[he];decide
 have hre:t.relaid (es.map (·.1)) (SetTable.grown es.size)=some (v7 led 31 (t.moves+1) (((List.range 32).filterMap λj=>(owner.getD j none).map (j,·)).map (·.1)).toArray,(((List.range 32).filterMap λj=>(owner.getD j none).map (j,·)).map (·.2)).toArray):=by
  unfold SetTable.relaid SetTable.laid
  rw[hwant,hcl]
  have hf:t.finger=0:=by rw[g.eq];rfl
  have hl:t.led=led:=by rw[g.eq];rfl
  have hmv:t.movedTo 31=t.moves+1:=by unfold SetTable.movedTo;rw[h7];rfl
  rw[hf,hl,g.plain,hmv];rfl
 generalize ((List.range 32).filterMap λj=>(owner.getD j none).map (j,·))=live at *
 have hperm:(live.map (·.2)).Perm (List.range es.size):=by rw[he];exact h1
 have hlen:live.length=5:=by have:=h1.length_eq;simpa using this
 have hes:((live.map (·.2)).filterMap λi=>es[i]?).Perm es.toList:=by
  have:=hperm.filterMap λi=>es[i]?
  rwa [V8] at this
 have hfit:(v7 led 31 (t.moves+1) (live.map (·.1)).toArray).fits 5=true:=by
  simp[SetTable.fits,v7,SetTable.fill,hlen]
 refine⟨((live.map (·.2)).toArray).filterMap (es[·]?),v7 led 31 (t.moves+1) (live.map (·.1)).toArray,?_,⟨rfl,.inr ⟨rfl,by exact Nat.le_of_ble_eq_true rfl⟩,by simpa[v7,sj] using h2,λj hj=>h3 j (by simpa[v7] using hj),by simp[v7,hlen]⟩,?_⟩
 ·unfold relayAll
  rw[hre]
  dsimp only
  have hsz:(((live.map (·.2)).toArray).filterMap (es[·]?)).size=5:=by
   rw[<-Array.length_toList,Array.toList_filterMap]
   exact hes.length_eq.trans (by simpa using he)
  have hcov:coversAll (live.map (·.2)).toArray es.size=true:=by
   unfold coversAll
   exact List.isPerm_iff.mpr hperm
  rw[hcov,hsz,hfit];rfl
 ·rw[Array.toList_filterMap];exact hes
noncomputable def wa(e:Int×Value):Int:=match e.2 with
 |.int k _=>k
 |_=>0
noncomputable def ul(es:Array (Int×Value))(ep:Nat)(t:SetTable):Obj:={ cls:=.type "set",dict:=none,data:=.set es ep t,slots:=#[] }
noncomputable def KC(e:Int×Value):Prop:=∃k tok,e=(hashInt k,.int k tok)
structure wt(w:World)(h:Heap)(a:Addr)(es:Array (Int×Value))(ep:Nat)(t:SetTable)(led:Bool):Prop where
 get:h.get? a=some (ul es ep t)
 elts:∀e∈es.toList,KC e
 nodup:(es.toList.map wa).Nodup
 good:vN led t es.size
 order:led=true\/w.params.followText "set-order" = true
section
variable {c:Cx}{sc:Scope}{d:Nat}
theorem KC.elems{w:World}{es:Array (Int×Value)}(h:∀e∈es.toList,KC e):ElemsOf (intKind c.prog w) es.toList:=λe he=>by
 obtain⟨k,tok,rfl⟩:=h e he
 exact⟨⟨k,by simp[intKind,Value.isInt],rfl⟩,rfl⟩
theorem wt.at{w:World}{h h':Heap}{a:Addr}{es:Array (Int×Value)}{ep:Nat}{t:SetTable}{led:Bool}(x:wt w h a es ep t led)(e:∀o,h.get? a=some o->h'.get? a=some o):wt w h' a es ep t led:=
 ⟨e _ x.get,x.elts,x.nodup,x.good,x.order⟩
theorem zbh{A:Around}{s:Shared}{S:Addr}{es:Array (Int×Value)}{ep:Nat}{t:SetTable}{led:Bool}{k:Int}{tok:Tok}{R:Option Bool->Shared->Prop}{E:Value->Shared->Prop}(X:wt c.w s.heap S es ep t led)(hk:k∈yd)
  (hroom:k∈es.toList.map wa\/es.size<18) (hsk:∀i∈es.toList.map wa,i∈yd)
  (o:∀b h' tk es' ep' t',wt c.w h' S es' ep' t' led->(∀i,i∈es'.toList.map wa↔(i∈es.toList.map wa\/i=k))->Heap.SameBut S s.heap h'->R (some b) { s with heap:=h',toks:=tk }) :
  wpAny c.M A (setAddByScan S (.int k tok) ((intKind c.prog c.w).hash k) es t) R E s:=by
 have hd:(ul es ep t).data=.set es ep t:=rfl
 have hf:=X.good.fits
 have hel:=KC.elems (c:=c) (w:=c.w) X.elts
 have hb:es.size<scanBound:=by have:=X.good.few;unfold scanBound;exact Nat.lt_of_le_of_lt (by assumption) (by decide)
 have hkey:(intKind c.prog c.w).is k (.int k tok)=true:=by simp[intKind,Value.isInt]
 refine wpAny_bind (wpAny_rule ?_)
 refine wpAny_bind (wpAny_setScan_of (knd:=intKind c.prog c.w) hkey X.get hd hf hel ?_)
 have isK:∀e∈es.toList,(intKind c.prog c.w).is k e.2=true↔wa e=k:=λe he=>by
  obtain⟨k',tok',rfl⟩:=X.elts e he
  simp[intKind,Value.isInt,wa]
 cases hr:List.findIdx? (λe=>(intKind c.prog c.w).is k e.2) es.toList with
 |some j=>
  dsimp only
  obtain⟨hj,hpj,_⟩:=List.findIdx?_eq_some_iff_getElem.mp hr
  have hin:k∈es.toList.map wa:=List.mem_map.mpr ⟨_,List.getElem_mem hj,(isK _ (List.getElem_mem hj)).mp hpj⟩
  refine wpAny_pure ?_
  refine o _ s.heap _ es ep t X (λi=>⟨.inl,λh=>?_⟩) (Heap.SameBut.refl _ _)
  rcases h with h|rfl
  ·exact h
  ·exact hin
 |none=>
  dsimp only
  have hnot:k∉es.toList.map wa:=λhin=>by
   obtain⟨e,he,hq⟩:=List.mem_map.mp hin
   have:=List.findIdx?_eq_none_iff.mp hr e he
   rw[(isK e he).mpr hq] at this;cases this
  have hlt:es.size<18:=hroom.resolve_left hnot
  obtain⟨es',t',hL0,hg,hmask,hsz⟩:=zcf (x:=k) (es:=es) (v:=.int k tok) X.good hlt hk rfl
  have hperm:=layNew_perm t es (hashInt k) (.int k tok)
  have hL:layNew t es ((intKind c.prog c.w).hash k) (.int k tok)=(es',t',false,false):=hL0
  rw[hL0] at hperm
  rw[hL]
  dsimp only at hperm ⊢
  rw[Array.toList_push] at hperm
  refine wpAny_bind (wpAny_pure ?_)
  rw[hg.plain]
  simp only[↓reduceIte]
  rw[hashByValue_scannable 8 (x:=.int k tok) rfl]
  refine wpAny_bind (wpAny_pure ?_)
  refine wpAny_bind (wpAny_storeSet_of X.get hd ?_ (by rw[hsz,sizeLine_eq];exact Nat.lt_of_lt_of_le (by assumption) (by decide)))
  have hm:=hperm.map wa
  have hg2:(s.heap.update S (Obj.putSet es' t')).get? S=some (ul es' (ep+1) t'):=by
   have:=Heap.get?_update_self (Obj.putSet es' t') X.get (by rw[putSet_of es' t' hd];rfl)
   rw[putSet_of es' t' hd] at this;exact this
  have helt:∀e∈es'.toList,KC e:=λe he=>by
   rcases List.mem_append.mp (hperm.mem_iff.mp he) with h|h
   ·exact X.elts e h
   ·simp at h;exact⟨k,tok,h⟩
  have hnd:(es'.toList.map wa).Nodup:=by
   rw[hm.nodup_iff,List.map_append,List.nodup_append]
   exact⟨X.nodup,by simp,λa ha b hb e=>by simp[wa] at hb;subst hb;subst e;exact hnot ha⟩
  have hmem:∀i,i∈es'.toList.map wa↔(i∈es.toList.map wa\/i=k):=λi=>by
   rw[hm.mem_iff,List.map_append,List.mem_append];simp[wa]
  cases hfull:t'.tooFull with
  |false=>
   simp only[plainKind,hfull,↓reduceIte,Bool.and_false,Bool.false_eq_true]
   refine wpAny_pure ?_
   exact o _ _ _ es' (ep+1) t' ⟨hg2,helt,hnd,by rw[hsz];exact hg.good hfull,X.order⟩ hmem (Heap.SameBut.update _ _ _)
  |true=>
   simp only[plainKind,hfull,↓reduceIte,Bool.not_false,Bool.and_self]
   have hfl:=of_decide_eq_true (hg.full.symm.trans hfull)
   have h7:t.mask=7/\es.size=4:=by
    rcases X.good.cap with⟨h,h2⟩|⟨h,h2⟩
    ·refine⟨h,Nat.le_antisymm h2 ?_⟩;rw[hmask,h] at hfl;exact Nat.le_of_lt_succ (Nat.lt_of_mul_lt_mul_right (Nat.lt_of_lt_of_le (by decide:4 * 5<7 * 3) hfl))
    ·rw[hmask,h] at hfl;exact absurd (Nat.le_trans hfl (Nat.mul_le_mul_right 5 (hroom.resolve_left hnot))) (by decide)
   have hxs:es'.toList.map (·.1)=(es'.toList.map wa).map hashInt:=by
    rw[List.map_map]
    refine List.map_congr_left λe he=>?_
    obtain⟨k',tok',rfl⟩:=helt e he
    rfl
   obtain⟨es2,t2,hR,hG,hP⟩:=UQ (es:=es') (xs:=es'.toList.map wa) (by have:=hg;rw[h7.2] at this;exact this) (hmask.trans h7.1) (by rw[hsz,h7.2]) hxs λi hi=>by
    rcases(hmem i).mp hi with h|rfl
    ·exact hsk i h
    ·exact hk
   have hsz2:es2.size=5:=by have:=hP.length_eq;simp at this;lia
   rw[hR]
   dsimp only
   refine wpAny_bind (wpAny_pure ?_)
   refine wpAny_bind (wpAny_storeSet_of hg2 rfl ?_ (by rw[hsz2,sizeLine_eq];exact Nat.le_of_ble_eq_true rfl))
   refine wpAny_pure ?_
   have hg3:((s.heap.update S (Obj.putSet es' t')).update S (Obj.putSet es2 t2)).get? S=some (ul es2 (ep+1+1) t2):=by
    have:=Heap.get?_update_self (Obj.putSet es2 t2) hg2 (by rw[putSet_of es2 t2 rfl];rfl)
    rw[putSet_of es2 t2 rfl] at this;exact this
   have hm2:=hP.map wa
   exact o _ _ _ es2 (ep+1+1) t2 ⟨hg3,λe he=>helt e (hP.mem_iff.mp he),hm2.nodup_iff.mpr hnd,by rw[hsz2];exact hG,X.order⟩ (λi=>hm2.mem_iff.trans (hmem i)) ((Heap.SameBut.update _ _ _).trans (Heap.SameBut.update _ _ _))
theorem zfi{A:Around}{s:Shared}{S:Addr}{es:Array (Int×Value)}{ep:Nat}{t:SetTable}{led:Bool}{k:Int}{tok:Tok}{Q:Bool->Shared->Prop}{E:Value->Shared->Prop}(X:wt c.w s.heap S es ep t led)(hk:k∈yd)
  (hroom:k∈es.toList.map wa\/es.size<18) (hsk:∀i∈es.toList.map wa,i∈yd)
  (o:∀b h' tk es' ep' t',wt c.w h' S es' ep' t' led->(∀i,i∈es'.toList.map wa↔(i∈es.toList.map wa\/i=k))->Heap.SameBut S s.heap h'->Q b { s with heap:=h',toks:=tk }) :
  wpAny c.M A (setAdd S (.int k tok)) Q E s:=by
 have hd:(ul es ep t).data=.set es ep t:=rfl
 have hf:=X.good.fits
 have hel:=KC.elems (c:=c) (w:=c.w) X.elts
 have hb:es.size<scanBound:=by have:=X.good.few;unfold scanBound;exact Nat.lt_of_le_of_lt (by assumption) (by decide)
 have hkey:(intKind c.prog c.w).is k (.int k tok)=true:=by simp[intKind,Value.isInt]
 refine wpAny_holding ?_
 refine wpAny_bind ((intKind c.prog c.w).pyHash (k:=k) hkey ?_)
 refine wpAny_holding (wpAny_bind (wpAny_setState_of X.get hd hf ?_))
 dsimp only
 rw[byScan_of (knd:=intKind c.prog c.w) (x:=.int k tok) rfl hb hel]
 simp only[↓reduceIte]
 exact wpAny_bind (zbh (s:={ s with toks:=s.toks+1 }) X hk hroom hsk λb h' tk es' ep' t' a1 a2 a3=>wpAny_pure (o b h' tk es' ep' t' a1 a2 a3))
end
theorem y9:Slot "set_iterator" "__next__" "set_iterator.__next__":=
 .of (owner:="set_iterator") (n:="__next__") (by rw[typeLookup_type,builtinLookup_eq_fast];kernel_rfl) (by decide +kernel) (by decide +kernel) (by decide +kernel)
  (by first|exact .inl (by decide +kernel)|exact .inr (by decide +kernel)) (by rw[isSubtype_type];kernel_rfl)
theorem us:entryFor table "set_iterator.__next__" = some Builtin.«set_iterator.__next__»:=entryFor_of_tree (by kernel_rfl)
theorem Y1:entryFor table "set.__iter__" = some Builtin.«frozenset.__iter__»:=
 entryFor_alias (id':="frozenset.__iter__") (by kernel_rfl) rfl (by decide +kernel) (by kernel_rfl)
theorem qn:Manifest.owners.lookup (String.ofList ['r','o','t','a','r','e','t','i','_','t','e','s'].reverse)=some Manifest.sig_set_iterator:=by kernel_rfl
theorem u8(a:Value):argsOk "set_iterator.__next__" ⟨[a],[]⟩:=by
 unfold argsOk;rw[signature?_of (id:="set_iterator.__next__") (n:=['_','_','t','x','e','n','_','_']) (o:=['r','o','t','a','r','e','t','i','_','t','e','s']) (by kernel_rfl) qn];kernel_rfl
theorem ux:Slot "set_iterator" "__iter__" "set_iterator.__iter__":=
 .of (owner:="set_iterator") (n:="__iter__") (by rw[typeLookup_type,builtinLookup_eq_fast];kernel_rfl) (by decide +kernel) (by decide +kernel) (by decide +kernel)
  (by first|exact .inl (by decide +kernel)|exact .inr (by decide +kernel)) (by rw[isSubtype_type];kernel_rfl)
theorem qM:entryFor table "set_iterator.__iter__" = some Builtin.«dict_keyiterator.__iter__»:=
 entryFor_alias (id':="dict_keyiterator.__iter__") (by kernel_rfl) rfl (by decide +kernel) (by kernel_rfl)
theorem jx(a:Value):argsOk "set_iterator.__iter__" ⟨[a],[]⟩:=by
 unfold argsOk;rw[signature?_of (id:="set_iterator.__iter__") (n:=['_','_','r','e','t','i','_','_']) (o:=['r','o','t','a','r','e','t','i','_','t','e','s']) (by kernel_rfl) qn];kernel_rfl
noncomputable abbrev U8(h:Heap)(I S:Addr)(slot i n ep:Nat):Prop:=h.get? I=some { cls:=.type "set_iterator",dict:=none,data:=.fields #[rawInt slot,rawInt i,.ref S,rawInt n,rawInt ep],slots:=#[] }
noncomputable def wP(w:World):Bool:=w.params.followText "set-order"
noncomputable def xJ(w:World)(t:SetTable)(i:Nat):Nat:=if wP w then 0 else (if i=0 then 0 else t.place.getD (i-1) 0+1)
noncomputable def wF(w:World)(S ep:Nat)(es:Array (Int×Value)):Array (Int×Value):=if wP w then pickOrder (w.params.setOrder S ep) es else es
theorem jd(w:World)(S ep:Nat)(es:Array (Int×Value)):(wF w S ep es).toList.Perm es.toList:=by
 unfold wF;split
 ·exact Yc _ _
 ·exact .refl _
theorem vU(w:World)(S ep:Nat)(es:Array (Int×Value)):(wF w S ep es).size=es.size:=by
 have:=(jd w S ep es).length_eq
 simpa using this
section
variable {prog:Program}{w:World}{A:Around}{s:Shared}{S I:Addr}{es:Array (Int×Value)}{ep:Nat}{t:SetTable}{led:Bool}
theorem zbj{Q:Value->Shared->Prop}{E:Value->Shared->Prop}(X:wt w s.heap S es ep t led)
  (o:Q (.ref s.heap.objs.size) { s with heap:=s.heap.push { cls:=.type "set_iterator",data:=.fields #[rawInt 0,rawInt 0,.ref S,rawInt es.size,rawInt ep] } }) :
  wpAny (model prog w) A (pyIter (.ref S)) Q E s:=by
 have hT:s.TypeIs (.ref S) "set":=⟨_,X.get,rfl⟩
 have hd:(ul es ep t).data=.set es ep t:=rfl
 have hf:=X.good.fits
 refine wpAny_pyIter_slot hT PySem.F.slot_set_iter (wpAny_call_entry PySem.F.slot_set_iter hT Y1 ?_ (PySem.F.args_set_iter_1 _))
 show wpAny _ _ (Builtin.Frozenset.sizeOf S >>= _) _ _ s
 refine wpAny_bind (wpAny_bind (wpAny_setEntries_of X.get hd hf (wpAny_pure ?_)))
 refine wpAny_bind ?_
 unfold setDrawn
 refine wpAny_bind (wpAny_setState_of X.get hd hf ?_)
 dsimp only
 unfold setsByText
 refine wpAny_bind (wpAny_bind (wpAny_askSetting (wpAny_pure ?_)))
 refine wpAny_pure ?_
 refine wpAny_ite_split (λh=>?_) (λ_=>?_)
 ·exfalso
  simp only[Bool.and_eq_true] at h
  have h2:(!t.plain && decide (es.size > 1))=true:=h.2
  rw[X.good.plain] at h2;cases h2
 ·refine wpAny_bind (wpAny_pure ?_)
  refine wpAny_bind (wpAny_setEpoch_of X.get hd hf ?_)
  refine wpAny_bind ?_
  unfold newFields
  refine wpAny_newObj_type (wpAny_pure ⟨_,rfl,"set_iterator",_,⟨_,Heap.get?_push_size _ rfl,rfl⟩,y9.lookup,o⟩)
theorem tC{i:Nat}{Q:Option (Value×Nat)->Shared->Prop}{E:Value->Shared->Prop}(X:wt w s.heap S es ep t led)(hi:i<=es.size)
  (o:Q ((wF w S ep es)[i]?.map λe=>(e.2,xJ w t (i+1))) s):wpAny (model prog w) A (setNext S (xJ w t i) i ep) Q E s:=by
 have hd:(ul es ep t).data=.set es ep t:=rfl
 have hf:=X.good.fits
 unfold setNext
 refine wpAny_bind (wpAny_setState_of X.get hd hf ?_)
 dsimp only
 unfold setsByText
 refine wpAny_bind (wpAny_bind (wpAny_askSetting (wpAny_pure ?_)))
 refine wpAny_ite_split (λh=>?_) (λh=>?_)
 ·have hb:wP w=true:=h
  rw[if_neg (by simp)]
  refine wpAny_bind ?_
  unfold setWalk
  refine wpAny_bind (wpAny_setState_of X.get hd hf ?_)
  dsimp only
  unfold setsByText
  refine wpAny_bind (wpAny_bind (wpAny_askSetting (wpAny_pure ?_)))
  rw[if_pos (show _=true from h)]
  refine wpAny_bind (wpAny_askSetting (wpAny_pure (wpAny_pure ?_)))
  have e1:xJ w t (i+1)=xJ w t i:=by unfold xJ;rw[hb];rfl
  rw[e1] at o
  unfold wF at o
  rw[hb] at o
  exact o
 ·have hb:wP w=false:=by cases hc:wP w with|true=>exact absurd hc h|false=>rfl
  have hl:led=true:=X.order.resolve_right (by unfold wP at hb;rw[hb];simp)
  refine wpAny_ite_split (λh=>?_) (λ_=>?_)
  ·exfalso
   have h2:(!t.plain && decide (es.size > 1))=true:=h
   rw[X.good.plain] at h2;cases h2
  ·refine wpAny_bind ?_
   have hml:(!t.led && !es.isEmpty)=false:=by rw[X.good.led,hl];rfl
   show wpAny _ _ (if (!t.led && !es.isEmpty)=true then _ else _) _ _ _
   rw[hml]
   refine wpAny_pure ?_
   have hs:SetTable.below t.place (xJ w t i)=i:=by
    unfold xJ
    rw[hb]
    exact K5 X.good.rise (by rw[X.good.size];exact hi)
   rw[hs]
   refine wpAny_pure ?_
   unfold wF at o
   rw[hb] at o
   simp only[Bool.false_eq_true,if_false] at o
   by_cases hlt:i<es.size
   ·have hp:i<t.place.size:=by rw[X.good.size];exact hlt
    rw[Array.getElem?_eq_getElem hlt] at o ⊢
    rw[Array.getElem?_eq_getElem hp]
    have e2:xJ w t (i+1)=t.place[i]+1:=by
     unfold xJ;rw[hb];simp[Array.getD,hp]
    rw[e2] at o
    exact o
   ·rw[Array.getElem?_eq_none (Nat.le_of_not_lt hlt)] at o ⊢
    exact o
theorem YF{i:Nat}{e:Int×Value}{Q:Option Value->Shared->Prop}{E:Value->Shared->Prop}(X:wt w s.heap S es ep t led)(hI:U8 s.heap I S (xJ w t i) i es.size ep)(he:(wF w S ep es)[i]?=some e)
  (o:∀h',U8 h' I S (xJ w t (i+1)) (i+1) es.size ep->Heap.SameBut I s.heap h'->Q (some e.2) { s with heap:=h' }):wpAny (model prog w) A (pyNext (.ref I)) Q E s:=by
 have hT:s.TypeIs (.ref I) "set_iterator":=⟨_,hI,rfl⟩
 have hd:(ul es ep t).data=.set es ep t:=rfl
 have hf:=X.good.fits
 unfold pyNext
 refine wpAny_bind (wpAny_attempt (wpAny_callSpecial?_slot (name:=Str.ofString "__next__") hT y9
  (wpAny_call_entry y9 hT us ?_ (u8 _))))
 show wpAny _ _ (fieldsOf (.ref I) >>= _) _ _ s
 refine wpAny_bind (wpAny_fieldsOf hI rfl ?_)
 show wpAny _ _ (setEntries S >>= _) _ _ s
 refine wpAny_bind (wpAny_setEntries_of X.get hd hf ?_)
 refine wpAny_ite_split (λh=>absurd h (by simp)) λ_=>?_
 show wpAny _ _ (setNext S (xJ w t i) i ep >>= _) _ _ s
 have hlt:i<es.size:=by
  rw[<-vU w S ep es]
  exact(Array.getElem?_eq_some_iff.mp he).1
 refine wpAny_bind (tC X (Nat.le_of_lt hlt) ?_)
 rw[he]
 show wpAny _ _ (setField (.ref I) 0 _ >>= _) _ _ s
 refine wpAny_bind (wpAny_setField_rec hI (Nat.zero_lt_succ _) λh1 g1 s1=>?_)
 refine wpAny_bind (wpAny_setField_rec g1 (Nat.le_of_ble_eq_true rfl) λh2 g2 s2=>?_)
 refine wpAny_pure ⟨_,rfl,wpAny_pure ?_⟩
 refine o h2 ?_ (s1.trans s2)
 rw[show((i:Int)+1)=((i+1:Nat):Int) by exact Int.ofNat_add_one_out i] at g2
 exact g2
theorem XY{i:Nat}{Q:Option Value->Shared->Prop}{E:Value->Shared->Prop}(hh:A.handled=none)(X:wt w s.heap S es ep t led)(hI:U8 s.heap I S (xJ w t i) i es.size ep)(he:i=es.size)
  (o:∀h',Heap.ExtBut I s.heap h'->Q none { s with heap:=h' }):wpAny (model prog w) A (pyNext (.ref I)) Q E s:=by
 have hT:s.TypeIs (.ref I) "set_iterator":=⟨_,hI,rfl⟩
 have hd:(ul es ep t).data=.set es ep t:=rfl
 have hf:=X.good.fits
 unfold pyNext
 refine wpAny_bind (wpAny_attempt (wpAny_callSpecial?_slot (name:=Str.ofString "__next__") hT y9
  (wpAny_call_entry y9 hT us ?_ (u8 _))))
 show wpAny _ _ (fieldsOf (.ref I) >>= _) _ _ s
 refine wpAny_bind (wpAny_fieldsOf hI rfl ?_)
 show wpAny _ _ (setEntries S >>= _) _ _ s
 refine wpAny_bind (wpAny_setEntries_of X.get hd hf ?_)
 refine wpAny_ite_split (λh=>absurd h (by simp)) λ_=>?_
 show wpAny _ _ (setNext S (xJ w t i) i ep >>= _) _ _ s
 refine wpAny_bind (tC X (Nat.le_of_eq he) ?_)
 rw[Array.getElem?_eq_none (by rw[vU];exact Nat.le_of_eq he.symm)]
 show wpAny _ _ (setField (.ref I) 2 _ >>= _) _ _ s
 refine wpAny_bind (wpAny_setField_rec hI (Nat.le_of_ble_eq_true rfl) λh1 g1 s1=>?_)
 refine wpAny_bind ?_
 unfold newExc newTuple
 refine wpAny_bind (wpAny_newObj_type ?_ (by size_fits))
 refine wpAny_bind (m:=firstArgMember _ _) (wpAny_of_eq (a:=Value.none) (by first|rfl|(simp only[firstArgMember];rfl)) ?_)
 refine wpAny_newObj_type ?_ (by size_fits)
 simp only[raiseNew]
 refine wpAny_bind (wpAny_handled ?_)
 rw[show A.in1.handled=none from hh]
 refine wpAny_bind (wpAny_pure (wpAny_throw ?_))
 refine wpAny_bind (wpAny_isInstance (T:="StopIteration") (b:=true) ⟨_,Heap.get?_push_size _ rfl,rfl⟩ isSubtype_stop ?_)
 exact wpAny_pure (o _ ((s1.extBut.push _).push _))
theorem Walks.set(hh:A.handled=none)(hne:S≠I):Walks prog w A I [I,S] [I] es.size (λi v=>∃e,(wF w S ep es)[i]?=some e/\v=e.2) (λi h=>U8 h I S (xJ w t i) i es.size ep/\wt w h S es ep t led) where
 sub:=λb hb=>by simp at hb;simp[hb]
 frame:=λ_ _ _ st hk=>⟨hk I (.head _) _ st.1,st.2.at λo e=>hk S (.tail _ (.head _)) o e⟩
 item:=λi s Q E hi st hQ=>by
  have hlt:i<(wF w S ep es).size:=by rw[vU];exact hi
  refine YF st.2 st.1 (Array.getElem?_eq_getElem hlt) λh' h1 h2=>?_
  exact hQ _ h' s.toks ⟨_,Array.getElem?_eq_getElem hlt,rfl⟩ ⟨h1,st.2.at λo e=>(h2.2 _ hne).trans e⟩ λb o hb e=>(h2.2 b (by simpa using hb)).trans e
 done:=λs Q E st hQ=>XY hh st.2 st.1 rfl λh' he=>hQ h' s.toks λb o hb e=>he b o (by simpa using hb) e
 self:=λi s Q E st hQ=>by
  have hT:s.TypeIs (.ref I) "set_iterator":=⟨_,st.1,rfl⟩
  refine wpAny_pyIter_slot hT ux (wpAny_call_entry ux hT qM ?_ (jx _))
  show wpAny _ _ (ret (.ref I)) _ _ s
  exact wpAny_pure ⟨_,rfl,"set_iterator",_,hT,y9.lookup,hQ⟩
theorem zc0{Q:Bool->Shared->Prop}{E:Value->Shared->Prop}(hT:s.TypeIs (.ref S) "set")(h:Q false s):wpAny (model prog w) A (Builtin.List.listLengthHint (.ref S)) Q E s:=by
 unfold Builtin.List.listLengthHint
 refine wpAny_bind (wpAny_specialOf hT PySem.F.slot_set_len.lookup ?_)
 generalize hid:("set.__len__" : String)=id0
 wp_delta
 rw[show splitId id0=some ("set","__len__") from by subst hid;decide +kernel]
 subst hid
 refine wpAny_bind (wpAny_isInstance (T:="set") (b:=true) hT (by rw[isSubtype_type];kernel_rfl) ?_)
 refine wpAny_ite_split (λhab=>absurd hab (by decide)) (λ_=>?_)
 refine wpAny_ite_split (λ_=>?_) (λhab=>absurd (by decide +kernel) hab)
 refine wpAny_bind (wpAny_typeOf hT ?_)
 exact wpAny_pure h
end
theorem zfh{prog:Program}{w:World}{A:Around}{E:Value->Shared->Prop}{s:Shared}(a:Value){Q₁:Value->Shared->Prop}
  (h:Q₁ (.ref s.heap.objs.size) { s with heap:=s.heap.push (ul #[] 0 (.fresh 0 0 (!wP w))) }) :
  codeAny (model prog w) A (.call (.builtin "set.__new__") ⟨[.type "set",a],[]⟩) (wants Q₁ E) s:=by
 refine codeAny_of_tree ?_
 show wpAny _ A.in1 (do checkBuiltinCall "set.__new__" ⟨[.type "set",a],[]⟩;again (.builtin "set.__new__" ⟨[.type "set",a],[]⟩)) _ _ s
 refine wpAny_bind (wpAny_of_eq (PySem.F.newCall_set_1 a) (wpAny_pure ⟨plainId_quiet PySem.F.plain_set_new _,codeAny_builtin PySem.F.entry_set_new ?_⟩))
 rw[Around.under_plainId PySem.F.plain_set_new _]
 unfold Builtin.«set.__new__» Builtin.Frozenset.newClass
 have hsub:=sub_set_self
 obtain⟨hp,g,d,tk,os⟩:=s
 dsimp only
 wp_walk
 refine wpAny_askSetting (wpAny_pure ?_)
 dsimp only
 simp only[newObj]
 refine wpAny_bind (wpAny_alloc (wpAny_pure ?_))
 exact wpAny_pure h
section
variable {c:Cx}{sc:Scope}{d:Nat}
theorem zcu{vs:List Value}{is:List Int}(h:IntsAre vs is):∀{j:Nat}{v:Value},vs[j]?=some v->∃k t,v=.int k t/\is[j]?=some k:=by
 induction h with
 |nil=>intro j v e;simp at e
 |cons k t _ ih=>
  intro j v e
  cases j with
  |zero=>simp at e;exact⟨k,t,e.symm,rfl⟩
  |succ j=>simpa using ih (by simpa using e)
theorem za5{A:Around}{R:Result->Shared->Prop}(hh:A.handled=none){S I l:Addr}{vs:List Value}{is few:List Int}{led:Bool}(hI:IntsAre vs is)(hsm:∀i∈is,i∈yd)(hf:few.length<=13)(hin:∀i∈is,i∈few)(hSI:S≠I)(hSl:S≠l)(hlI:l≠I) :
  ∀(k i:Nat) (s:Shared) (es:Array (Int×Value)) (ep:Nat) (t:SetTable),vs.length-i=k->i<=vs.length->s.heap.IsListIter I l i->s.heap.IsList l vs.toArray->wt c.w s.heap S es ep t led->(∀x,x∈es.toList.map wa↔x∈is.take i)->
   (∀h' tk es' ep' t',wt c.w h' S es' ep' t' led->(∀x,x∈es'.toList.map wa↔x∈is)->(∀b o,b≠S->b≠I->s.heap.get? b=some o->h'.get? b=some o)->R (.ok (.ret .none)) { s with heap:=h',toks:=tk })->
   codeAny c.M A (.builtin "set.update.loop" ⟨[.ref S,.ref I],[]⟩) R s:=by
 have W:=Walks.list (prog:=c.prog) (w:=c.w) (A:=A.in1) hh I l hlI vs.toArray
 have hlen:=hI.length
 intro k
 induction k with
 |zero=>
  intro i s es ep t hk hi hit hl X hm hR
  have hin:i=vs.length:=qL hk hi
  subst hin
  refine codeAny_builtin PyProof.Rows.F.entry_set_update_loop ?_
  rw[Around.under_plainId PyProof.Rows.F.plain_set_update_loop _]
  show wpAny _ A.in1 (pyNext (.ref I) >>= _) _ _ s
  refine wpAny_bind (W.done s _ _ (by simpa using⟨hit,hl⟩) λh' tk hmv=>?_)
  show wpAny _ A.in1 (ret Value.none) _ _ _
  refine wpAny_pure (hR h' tk es ep t (X.at λo e=>hmv _ o (by simpa using hSI) e) (λx=>?_) λb o _ hb e=>hmv b o (by simpa using hb) e)
  rw[hm,List.take_of_length_le (Nat.le_of_eq hlen.symm)]
 |succ k ih=>
  intro i s es ep t hk hi hit hl X hm hR
  have hlt:i<vs.length:=Nat.lt_of_sub_eq_succ hk
  refine codeAny_builtin PyProof.Rows.F.entry_set_update_loop ?_
  rw[Around.under_plainId PyProof.Rows.F.plain_set_update_loop _]
  show wpAny _ A.in1 (pyNext (.ref I) >>= _) _ _ s
  refine wpAny_bind (W.item i s _ _ (by simpa using hlt) ⟨hit,hl⟩ λv h1 tk1 hP hst hmv=>?_)
  obtain⟨kk,tok,rfl,ek⟩:=zcu hI (j:=i) (v:=v) (by simpa using hP)
  have hkm:=List.mem_of_getElem? ek
  have X1:wt c.w h1 S es ep t led:=X.at λo e=>hmv _ o (by simpa using hSI) e
  show wpAny _ A.in1 (holding [Value.int kk tok] (setAdd S (.int kk tok)) >>= _) _ _ _
  refine wpAny_bind (wpAny_holding ?_)
  have hroom:kk∈es.toList.map wa\/es.size<18:=by
   by_cases hc:kk∈es.toList.map wa
   ·exact .inl hc
   ·refine .inr ?_
    have hnd:(kk::es.toList.map wa).Nodup:=List.nodup_cons.mpr ⟨hc,X.nodup⟩
    have:=xV hnd (ys:=few) λx hx=>by
     rcases List.mem_cons.mp hx with rfl|hx
     ·exact hin _ hkm
     ·exact hin _ (List.mem_of_mem_take ((hm x).mp hx))
    simp at this
    lia
  refine zfi (c:=c) (s:={ s with heap:=h1,toks:=tk1 }) X1 (hsm _ hkm) hroom (λi hi=>hsm i (List.mem_of_mem_take ((hm i).mp hi))) λb h2 tk2 es2 ep2 t2 X2 hm2 hs2=>?_
  refine wpAny_pure ⟨plainId_quiet PyProof.Rows.F.plain_set_update_loop _,ih (i+1) _ es2 ep2 t2 (KG hk) hlt ?_ ?_ X2 (λx=>?_) λh' tk' es' ep' t' X' hm' hk'=>?_⟩
  ·obtain⟨oo,eo,rr⟩:=hst.1
   exact⟨oo,(hs2.2 _ hSI.symm).trans eo,rr⟩
  ·obtain⟨oo,eo,rr⟩:=hst.2
   exact⟨oo,(hs2.2 _ hSl.symm).trans eo,rr⟩
  ·rw[hm2,hm,List.take_add_one,ek];simp
  ·exact hR h' tk' es' ep' t' X' hm' λb o hb hbI e=>hk' b o hb hbI ((hs2.2 _ hb).trans (hmv b o (by simpa using hbI) e))
theorem qu{M:Model}{A:Around}{cd:Code}{Q₁:Value->Shared->Prop}{E:Value->Shared->Prop}{R:Result->Shared->Prop}{s:Shared}(h:codeAny M A cd (wants Q₁ E) s)
  (k:∀v s',Q₁ v s'->R (.ok (.ret v)) s') (e:∀x s',E x s'->R (.error x) s'):codeAny M A cd R s:=
 codeAny_mono h λr s' hr=>match r,hr with
  |.error x,hr=>e x s' hr
  |.ok (.ret v),hr=>k v s' hr
noncomputable abbrev qD(w:World):Obj:=ul #[] 0 (.fresh 0 0 (!wP w))
noncomputable def Jv(c:Cx)(S:Addr)(is:List Int)(s s2:Shared):Prop:=
 X5 λh' tk es ep t=>N4 (s2={ s with heap:=h',toks:=tk }) (wt c.w h' S es ep t (!wP c.w)) (∀x,x∈es.toList.map wa↔x∈is) (∀b o,b≠S->s.heap.get? b=some o->h'.get? b=some o)
set_option maxHeartbeats 3200000 in
theorem zbk{A:Around}{s:Shared}{S l:Addr}{vs:List Value}{n:Nat}{is few:List Int}{E:Value->Shared->Prop}(hh:A.handled=none)(hS:s.heap.get? S=some (qD c.w))
  (hl:s.heap.get? l=some (zy vs n)) (hlS:l≠S) (hI:IntsAre vs is) (hsm:∀i∈is,i∈yd) (hf:few.length<=13) (hin:∀i∈is,i∈few) :
  codeAny c.M A (.call (.builtin "set.__init__") ⟨[.ref S,.ref l],[]⟩) (wants (λr s₂=>r=.none/\Jv c S is s s₂) E) s:=by
 have hT:s.TypeIs (.ref S) "set":=⟨_,hS,rfl⟩
 refine codeAny_call_builtin PySem.F.called_set.init.plain PySem.F.entry_set_init (check_set_init_1 hT ?_)
 have hsls:=PySem.F.sub_list_set
 have hslf:=PySem.F.sub_list_frozenset
 have hne:(Value.type "list" == Value.type "dict")=false:=by decide
 have hl1:s.heap.IsList l vs.toArray:=⟨_,hl,rfl,n,rfl⟩
 have hTl:s.TypeIs (.ref l) "list":=⟨_,hl,rfl⟩
 unfold Builtin.«set.__init__» noKeywords Builtin.Frozenset.updateFrom
 generalize hPI:pyIter=PI
 wp_walk
 subst hPI
 refine wpAny_pyIter_list hl1 ?_
 have k2:=z4 (h:=s.heap) { cls:=.type "list_iterator",data:=.fields #[.ref l,.int 0 0] }
 have hit:(s.heap.push { cls:=.type "list_iterator",data:=.fields #[.ref l,.int 0 0] }).IsListIter s.heap.objs.size l 0:=⟨_,Heap.get?_push_size _ rfl,rfl,rfl⟩
 refine wpAny_bind (wpAny_runValue ?_)
 refine za5 (c:=c) (A:=A.in1) hh (S:=S) (I:=s.heap.objs.size) (l:=l) (led:=!wP c.w) hI hsm hf hin (Nat.ne_of_lt (Heap.lt_size hS)) hlS.symm (Nat.ne_of_lt (Heap.lt_size hl)) (vs.length-0) 0 _ #[] 0 (.fresh 0 0 (!wP c.w)) rfl (Nat.zero_le _) hit ⟨_,k2 _ _ hl,rfl,n,rfl⟩
  ⟨k2 _ _ hS,λe he=>by simp at he,List.Pairwise.nil,vN.fresh _,by
   unfold wP
   cases c.w.params.followText "set-order"<;>simp⟩ (λx=>by rfl) λh' tk es ep t X hm hk=>?_
 refine wpAny_pure ?_
 exact wpAny_pure ⟨rfl,h',tk,es,ep,t,rfl,X,hm,λb o hb e=>hk b o hb (Nat.ne_of_lt (Heap.lt_size e)) (k2 _ _ e)⟩
set_option maxHeartbeats 3200000 in
theorem zdt{A:Around}{s:Shared}{l:Addr}{vs:List Value}{n:Nat}{is few:List Int}{Q:Value->Shared->Prop}{E:Value->Shared->Prop}(hh:A.handled=none)
  (hl:s.heap.get? l=some (zy vs n)) (hI:IntsAre vs is) (hsm:∀i∈is,i∈yd) (hf:few.length<=13) (hin:∀i∈is,i∈few)
  (h:∀h' tk es ep t,wt c.w h' s.heap.objs.size es ep t (!wP c.w)->(∀x,x∈es.toList.map wa↔x∈is)->(∀b o,s.heap.get? b=some o->h'.get? b=some o)->Q (.ref s.heap.objs.size) { s with heap:=h',toks:=tk }) :
  wpAny c.M A (call (.type "set") [.ref l]) Q E s:=by
 obtain⟨cc,tl,hmro⟩:=PySem.F.called_set.mro
 have hmade:=PySem.F.called_set.made
 have hsub:=PySem.F.called_set.sub
 have hli:=PySem.F.called_set.init.lookup
 refine wpAny_call (codeAny_of_tree ?_)
 show wpAny _ _ (callAny (.type "set") _) _ _ _
 refine wpAny_pure ⟨Code.quiet_builtin _ (by decide +kernel),codeAny_builtin PySem.F.entry_type_call ?_⟩
 rw[Around.under_plain (weight_type_call_type "set" [.ref l] []) rfl]
 have h1:=PySem.F.called_set.notType
 have h2:=PySem.F.called_set.canCreate
 have hct:=PySem.F.typeCall_set_1 (.ref l)
 have k1:=z4 (h:=s.heap) (qD c.w)
 have hS:=Heap.get?_push_size s.heap (o:=qD c.w) rfl
 have fill:∀(A':Around),A'.handled=none->codeAny c.M A' (.call (.builtin "set.__init__") ⟨[.ref s.heap.objs.size,.ref l],[]⟩) (wants (λr s₂=>r=.none/\Jv c s.heap.objs.size is { s with heap:=s.heap.push (qD c.w) } s₂) E) { s with heap:=s.heap.push (qD c.w) }:=
  λA' hh'=>zbk hh' hS (k1 _ _ hl) (Nat.ne_of_lt (Heap.lt_size hl)) hI hsm hf hin
 have hT:Shared.TypeIs { s with heap:=s.heap.push (qD c.w) } (.ref s.heap.objs.size) "set":=⟨_,hS,rfl⟩
 have hbi:=PySem.F.called_set.init.bind (.ref s.heap.objs.size)
 repeat (any_goals (first|assumption|wp_step))
 refine qu (zfh (.ref l) (E:=E) (Q₁:=λobj s₁=>obj=.ref s.heap.objs.size/\s₁={ s with heap:=s.heap.push (qD c.w) }) ⟨rfl,rfl⟩) (λobj s₁ hr=>?_) λ_ _ z=>z
 obtain⟨rfl,rfl⟩:=hr
 repeat (any_goals (first|assumption|wp_step))
 refine qu (fill _ hh) (λr s₂ hr₂=>?_) λ_ _ z=>z
 obtain⟨rfl,h',tk,es,ep,t,rfl,hS',hm',hk'⟩:=hr₂
 repeat (any_goals (first|assumption|wp_step))
 exact h _ _ es ep t hS' hm' λb o e=>hk' b o (Nat.ne_of_lt (Heap.lt_size e)) (k1 _ _ e)
end
section
variable {c:Cx}{sc:Scope}{d:Nat}
theorem W4{l:List (Int×Value)}(h:∀e∈l,KC e):IntsAre (l.map (·.2)) (l.map wa):=by
 induction l with
 |nil=>exact .nil
 |cons e l ih=>
  obtain⟨k,t,rfl⟩:=h e (.head _)
  exact .cons k t (ih λe he=>h e (.tail _ he))
theorem Ke{A:Around}{s:Shared}{S:Addr}{es:Array (Int×Value)}{ep:Nat}{t:SetTable}{led:Bool}{Q:List Value->Shared->Prop}{E:Value->Shared->Prop}(hh:A.handled=none)
  (X:wt c.w s.heap S es ep t led)
  (o:∀ws js h' tk,IntsAre ws js->js.Perm (es.toList.map wa)->(∀b ob,s.heap.get? b=some ob->h'.get? b=some ob)->Q ws { s with heap:=h',toks:=tk }):wpAny c.M A (collect (.ref S)) Q E s:=by
 have hlt:S<s.heap.objs.size:=Heap.lt_size X.get
 have hT:Shared.TypeIs s (.ref S) "set":=⟨_,X.get,rfl⟩
 refine tt (T:="set") hT (by decide) (by decide) (λb e=>by cases e;exact hlt) λE'=>?_
 have k0:=z4 (h:=s.heap) (zy [] 0)
 have X0:wt c.w (s.heap.push (zy [] 0)) S es ep t led:=X.at λo e=>k0 _ _ e
 refine zbj (s:={ s with heap:=s.heap.push (zy [] 0) }) X0 ?_
 have k:=z4 (h:=s.heap.push (zy [] 0)) { cls:=.type "set_iterator",data:=.fields #[rawInt 0,rawInt 0,.ref S,rawInt es.size,rawInt ep] }
 have hI:=Heap.get?_push_size (s.heap.push (zy [] 0)) (o:={ cls:=.type "set_iterator",data:=.fields #[rawInt 0,rawInt 0,.ref S,rawInt es.size,rawInt ep] }) rfl
 refine zc0 ⟨_,k _ _ X0.get,rfl⟩ ?_
 rw[Heap.size_push] at hI
 have hne:S≠s.heap.objs.size+1:=Nat.ne_of_lt (Nat.lt_succ_of_lt hlt)
 have hbig:es.size<sizeLine:=by have:=X.good.few;rw[sizeLine_eq];omega
 have hit0:U8 ((s.heap.push (zy [] 0)).push { cls:=.type "set_iterator",data:=.fields #[rawInt 0,rawInt 0,.ref S,rawInt es.size,rawInt ep] }) (s.heap.objs.size+1) S (xJ c.w t 0) 0 es.size ep:=by
  have:xJ c.w t 0=0:=by unfold xJ;split<;>simp
  rw[this];exact hI
 refine⟨s.heap.objs.size+1,_,_,_,_,_,by rw[Heap.size_push],Z7 (Walks.set (A:=A.in1) hh hne (ep:=ep) (t:=t) (led:=led) (es:=es)),⟨hit0,X0.at λo e=>k _ _ e⟩,by simp;exact(Nat.ne_of_lt hlt).symm,k _ _ (Heap.get?_push_size _ rfl),hbig,λh' tk' vs' hk hl hP=>?_⟩
 have hws:vs'=(wF c.w S ep es).toList.map (·.2):=by
  apply List.ext_getElem
  ·rw[hl,List.length_map,Array.length_toList,vU]
  ·intro j h1 h2
   obtain⟨e,e1,e2⟩:=hP j _ (List.getElem?_eq_getElem h1)
   obtain⟨h3,e3⟩:=Array.getElem?_eq_some_iff.mp e1
   rw[e2,List.getElem_map,Array.getElem_toList,e3]
 have hperm:=jd c.w S ep es
 refine o vs' ((wF c.w S ep es).toList.map wa) h' tk' ?_ (hperm.map wa) λb ob e=>?_
 ·rw[hws];exact W4 λe he=>X.elts e (hperm.mem_iff.mp he)
 ·have hlt:=Heap.lt_size e
  exact hk b ob (Nat.ne_of_lt hlt) (by simpa using Nat.ne_of_lt (Nat.lt_succ_of_lt hlt)) (k _ _ (k0 _ _ e))
noncomputable def zig(is:List Int):Prop:=(∀i∈is,i∈yd)/\∃few:List Int,few.length<=13/\∀i∈is,i∈few
theorem UH{A:Around}{s:Shared}{S:Addr}{es:Array (Int×Value)}{ep:Nat}{t:SetTable}{led:Bool}{Q:Value->Shared->Prop}{E:Value->Shared->Prop}(hh:A.handled=none)(X:wt c.w s.heap S es ep t led)
  (o:∀(l:Addr) (ws:List Value) (ns:List Int) (n:Nat) (h1 h':Heap) (tk:Nat),(∀b ob,s.heap.get? b=some ob->h1.get? b=some ob)->(∀b ob,h1.get? b=some ob->h'.get? b=some ob)->h1.objs.size<=l->h'.get? l=some (zy ws n)->IntsAre ws ns->ns.Perm (es.toList.map wa)->wh ns->Q (.ref l) { s with heap:=h',toks:=tk }) :
  wpAny c.M A (call (.builtin "sorted") [.ref S]) Q E s:=by
 refine Calls.call_function_entry kind_sorted plain_sorted entry_sorted (args_sorted1 _) ?_
 unfold Builtin.«sorted»
 refine wpAny_bind (m:=checkCount "sorted" 1 1 _) (wpAny_pure ?_)
 refine wpAny_bind (Ke (c:=c) (A:=A.in1) hh X λws js h' tk hI hp k=>?_)
 have hl:ws.length<64:=by
  rw[hI.length,hp.length_eq];simp;have:=X.good.few;omega
 refine wpAny_bind (wpAny_newList ?_)
 have k2:=z4 (h:=h') (seqObj "list" ws.toArray 0)
 have hoL:(h'.push (seqObj "list" ws.toArray 0)).get? h'.objs.size=some (seqObj "list" ws.toArray 0):=Heap.get?_push_size _ rfl
 refine wpAny_bind (wpAny_holding (wpAny_call_entry slot_list_sort ⟨_,hoL,rfl⟩ entry_list_sort (list_sort_tree hoL hI hl λout ns' a1 a2 a3=>⟨_,rfl,?_⟩) (args_list_sort _)))
 refine wpAny_pure ⟨_,rfl,?_⟩
 obtain⟨e,he⟩:=sortedHeap_at (vs:=ws) (out:=out) hoL
 have k3:∀b ob,h'.get? b=some ob->(sortedHeap (h'.push (seqObj "list" ws.toArray 0)) h'.objs.size ws out).get? b=some ob:=λb ob e1=>by
  have hlt:=Heap.lt_size e1
  rw[sortedHeap_old (Nat.ne_of_lt hlt) (by rw[Heap.size_push];exact Nat.lt_succ_of_lt hlt)]
  exact k2 _ _ e1
 exact o h'.objs.size out.toList ns' e h' _ tk k k3 (Nat.le_refl _) (by simpa[zy,seqObj] using he) a1 (a2.trans hp) a3
structure uE(c:Cx)(sc:Scope)(x:Str)(v:Value):Prop where
 kind:sc.names.lookup x=some .globalImplicit
 none:nsIn c.K mainGlobals x=some none
 boot:bootBuiltins x=some v
 name:x≠"__name__"
 debug:(x == ("__debug__" : Str))=false
theorem U5{f:Value}{e:Expr}{pos pos':Pos}(hk:yo c f)(hs:∀env,starEach [e] env=(false,eval e env)::starEach [] env)
  {A:Around}{env:Env}{s:Shared}{P:Value->Shared->Prop}{E:Value->Shared->Prop}
  (h:wpAny c.M A (eval e env) (λv s₁=>c.K.In s₁.heap/\wpAny c.M A (call f [v]) P E s₁) E s) :
  wpAny c.M A (callWith pos f [] (backTo pos' (starEach [e] env)) []) P E s:=by
 have sp:wpAny c.M A (spliced (backTo pos' (starEach [e] env))) (λvs s₁=>c.K.In s₁.heap/\wpAny c.M A (call f ([]++vs)) P E s₁) E s:=
  wpAny_items_cons (wpAny_mono h (λv s₁ h₁=>wpAny_items_nil ⟨h₁.1,h₁.2⟩) λ_ _ z=>z) (hs env)
 refine callWith_of (P:=λh=>c.K.In h) (M:=c.M) (by rw[hs env];rfl) hk ?_
 rw[hs env] at sp ⊢
 exact evalArgs_plain sp
noncomputable abbrev zb6(m:ME)(k:List Int->MH->Prop):Loc->MH->Prop:=λloc mh=>m loc (λv mh1=>∃r is,v=.ref r/\mh1[r]?=some (.list (is.map .int))/\zig is/\k is mh1) mh
theorem zbm{e:Expr}{m:ME}{np pos:Pos}(hS:uE c sc ("set" : Str) (.type "set"))(hs:∀env,starEach [e] env=(false,eval e env)::starEach [] env)(he:SE c sc d e m)
  {A:Around}{env:Env}{loc:Loc}{φ:Phi}{mh:MH}{s:Shared}{k:List Int->MH->Prop}{P:Value->Shared->Prop}{E:Value->Shared->Prop}
  (hr:xS A d) (hee:yz env sc) (H:c.Hp φ mh s.heap) (F:FrR c env loc φ s.heap) (q:zb6 m k loc mh)
  (o:∀S is φ' mh' h' tk es ep t,k is mh'->Ext φ φ' s.heap h'->c.Hp φ' mh' h'->wt c.w h' S es ep t (!wP c.w)->(∀x,x∈es.toList.map wa↔x∈is)->P (.ref S) { s with heap:=h',toks:=tk }) :
  wpAny c.M A (eval (.Call (.Name ("set" : Str) np) [e] [] pos) env) P E s:=by
 refine wpAny_Call_ofName (vZ hee H hS.kind hS.none hS.boot hS.name hS.debug (U5 z5 hs (he A env loc φ mh s _ _ E hr hee H F q λv mv φ1 mh1 h1 tk1 q1 x1 H1 r1=>⟨c.kin.keeps H1.base,?_⟩)))
 obtain⟨r,is,rfl,em,⟨hsm,few,hf,hin⟩,hk⟩:=q1
 cases r1 with
 |@ref a1 d1 _ f1=>
  obtain⟨d',g1,o1⟩:=H1.deref (.ref f1) em
  obtain⟨vs,n,_,g,rr⟩:=o1.inv_list
  refine zdt (c:=c) (s:={ s with heap:=h1,toks:=tk1 }) hr.handled g rr.ints hsm hf hin λh' tk es ep t X hm hk'=>?_
  exact o _ is φ1 mh1 h' tk es ep t hk (x1.trans (.of_keep hk')) (H1.keep hk') X hm
noncomputable abbrev qF(m:ME):ME:=λloc Q mh=>zb6 m (λis mh1=>∀ns:List Int,ns.Nodup->wh ns->(∀x,x∈ns↔x∈is)->Q (.ref mh1.length) (mh1++[.list (ns.map .int)])) loc mh
theorem jb{e:Expr}{m:ME}{np pos np' pos':Pos}(hT:uE c sc ("sorted" : Str) (.builtin "sorted"))(hS:uE c sc ("set" : Str) (.type "set"))
  (hs:∀env,starEach [e] env=(false,eval e env)::starEach [] env)
  (hs':∀env,starEach [.Call (.Name ("set" : Str) np') [e] [] pos'] env=(false,eval (.Call (.Name ("set" : Str) np') [e] [] pos') env)::starEach [] env) (he:SE c sc d e m) :
  SE c sc d (.Call (.Name ("sorted" : Str) np) [.Call (.Name ("set" : Str) np') [e] [] pos'] [] pos) (qF m):=
 λA env loc φ mh s Q P E hr hee H F q o=>by
  refine wpAny_Call_ofName (vZ hee H hT.kind hT.none hT.boot hT.name hT.debug (U5 zg hs' (zbm hS hs he hr hee H F q λS is φ1 mh1 h1 tk1 es ep t q1 x1 H1 X hm=>⟨c.kin.keeps H1.base,?_⟩)))
  refine UH (c:=c) (s:={ s with heap:=h1,toks:=tk1 }) hr.handled X λl ws ns n h2 h' tk k2 k3 hl hg hI hp hso=>?_
  obtain⟨H2,x2,r2⟩:=Hp.pushList (c:=c) (a:=l) (vs:=ws) (n:=n) (H1.keep k2) k3 hl hg (VRs.of_ints hI)
  refine o _ _ _ _ _ tk (q1 ns (hp.nodup_iff.mpr X.nodup) hso λx=>?_) (x1.trans ((Ext.of_keep k2).trans x2)) H2 r2
  rw[hp.mem_iff,hm]
end
section
variable {prog:Program}{w:World}{A:Around}{E:Value->Shared->Prop}{s:Shared}
end
section
variable {prog:Program}{w:World}{A:Around}{s:Shared}
end
section
variable {c:Cx}{sc:Scope}{d:Nat}
end
section
variable {c:Cx}{sc:Scope}{d:Nat}
theorem K2{q g:Addr}{self:Value}{es:List Expr}{ms:List ME}{pos pos':Pos}(hf:fnIn c.K g=true)(hm:SEs c sc d es ms)
  {A:Around}{env:Env}{loc:Loc}{φ:Phi}{mh:MH}{s:Shared}{Q:List MV->MH->Prop}{P:Value->Shared->Prop}{E:Value->Shared->Prop}
  (hr:xS A d) (he:yz env sc) (H:c.Hp φ mh s.heap) (F:FrR c env loc φ s.heap) (hq:s.heap.get? q=some (methodObj (.ref g) self)) (hqn:q∉z8 φ) (qq:wJ ms loc Q mh)
  (o:∀vs mvs φ' mh' h' tk,Q mvs mh'->Ext φ φ' s.heap h'->c.Hp φ' mh' h'->VRs h' φ' vs mvs->wpAny c.M A (call (.ref q) vs) P E { s with heap:=h',toks:=tk }) :
  wpAny c.M A (callWith pos (.ref q) [] (backTo pos' (starEach es env)) []) P E s:=by
 obtain⟨h1,h2⟩:=Xp hm pos' env
 refine callWith_of (P:=λh=>MethP c.K q g self h) (M:=c.M) (by rw[h1];rfl) (λh X=>keeps_M hf h X) ?_
 have sp:wpAny c.M A (spliced (backTo pos' (starEach es env))) (λvs s₁=>MethP c.K q g self s₁.heap/\wpAny c.M A (call (.ref q) ([]++vs)) P E s₁) E s:=
  uy hm hr he H F qq λvs mvs φ' mh' h' tk q' x H' r=>⟨⟨x.keep _ _ hqn hq,c.kin.keeps H'.base⟩,o vs mvs φ' mh' h' tk q' x H' r⟩
 cases es with
 |nil=>
  cases hm
  exact evalArgs_nil3 ⟨⟨hq,c.kin.keeps H.base⟩,by simpa using o [] [] φ mh s.heap s.toks qq (.refl _ _) H .nil⟩
 |cons e rest=>
  obtain⟨x,r,hx⟩:=h2 e rest rfl
  rw[hx] at sp ⊢
  exact evalArgs_plain sp
structure zis(c:Cx)(cl:Str)(scope:Scope)(f f2 C D cc cda:Addr)(cd:Value)(name slf:Str):Prop where
 at_:qv c.K cl=some C
 code:cd=.ref cda
 codeo:∃ccl cdd vs ccs file tf,c.K.lookup cda=some ⟨ccl,cdd,.fields vs,ccs⟩/\vs[2]?=some (.str file tf)/\((c.prog.main.file:Str) == file)=true
 cell:∃cl cld csl,c.K.lookup cc=some ⟨cl,cld,.cell (some (.ref D)),csl⟩
 cls:∃cdD,clsIn c.K D=some cdD
 sub:mroIn c.K C (.ref D)=some true
 super:nsIn c.K mainGlobals "super" = some none
 opq:nsIn c.K cStatics "thirdparty.any" = some none
 meth:ks_superIn c.K C D name=some (some (.ref f2))
 fn:fnIn c.K f2=true
 tfn:typeIn c.K (.ref f2)=some (.type "function")
 hn:(name == ("__class__" : Str))=false
 hks:scope.names.lookup ("super" : Str)=some .globalImplicit
 hkc:scope.names.lookup ("__class__" : Str)=some .free
 hka:scope.names.lookup slf=some .local
 top:(c.prog.main.scope.names.lookup ("super" : Str)).isSome=false
theorem zbc{n:Nat}{scope:Scope}{cc:Addr}(hnd:(scope.names.map (·.1)).Nodup)(hkc:scope.names.lookup ("__class__" : Str)=some .free) :
  (cellsFrom n scope.names [("__class__",cc)]).lookup ("__class__" : Str)=some cc:=by
 have hno:(cellsFrom n scope.names []).lookup ("__class__" : Str)=none:=by
  rw[List.lookup_eq_none_iff]
  intro p hp'
  by_cases hpx:p.1=("__class__" : Str)
  ·have h3:=wo (x:=p.1) (a:=p.2) hp'
   rw[hpx] at h3
   rw[wK hnd h3] at hkc
   cases hkc
  ·simpa using λh=>hpx h.symm
 rw[y6,List.lookup_append,hno]
 rfl
theorem Jq{K:Frag}{D:Addr}{cd:ClassData}(e:clsIn K D=some cd):∃oD,K.lookup D=some oD/\oD.data=.cls cd:=by
 unfold clsIn at e
 cases z:K.lookup D with
 |none=>rw[z] at e;cases e
 |some o=>
  rw[z] at e
  obtain⟨a,b,dt,sl⟩:=o
  cases dt with
  |cls cd'=>cases e;exact⟨_,rfl,rfl⟩
  |_=>cases e
theorem zfb{K:Frag}{C D:Addr}{name:Str}{x:Option Value}(e:ks_superIn K C D name=some x):∃cd,clsIn K C=some cd/\alongIn K name ((cd.mro.dropWhile (· != .ref D)).drop 1)=some x:=by
 unfold ks_superIn at e
 cases hc:clsIn K C with
 |none=>rw[hc] at e;cases e
 |some cd=>rw[hc] at e;exact⟨cd,rfl,e⟩
theorem zjs{K:Frag}{f:Addr}(e:typeIn K (.ref f)=some (.type "function")):∃of,K.lookup f=some of/\of.cls=.type "function":=by
 have e:(K.lookup f).map (·.cls)=some (.type "function"):=e
 cases z:K.lookup f with
 |none=>rw[z] at e;cases e
 |some of=>rw[z] at e;exact⟨of,rfl,Option.some.inj e⟩
theorem zbb{φ:Phi}{mh:MH}{h:Heap}{v:Value}{r:Nat}{cl:Str}{fs:List (Str×MV)}{C:Addr}(H:c.Hp φ mh h)(em:mh[r]?=some (.inst cl fs))(rv:VR h φ v (.ref r))(hC:qv c.K cl=some C) :
  ∃a d,v=.ref a/\h.get? a=some (instObj C d):=by
 obtain⟨a,d,rfl,f1⟩:=rv.inv_ref
 obtain⟨d',C',es,n,rfl,hc,g2,g3,R⟩:=(H.objs _ _ _ em f1).inv_inst
 rw[hc] at hC;cases hC;exact⟨_,_,rfl,g2⟩
theorem zba{C D f2 a d so:Addr}{name:Str}{h:Heap}{g dd t os}{pl:Sem Bool}{A:Around}{E:Value->Shared->Prop}{Q:Value×List Value->Shared->Prop}(X:c.K.In h)
  (hso:h.get? so=some { cls:=.type "super",dict:=none,data:=.fields #[.ref D,.ref a,.ref C],slots:=#[] }) (opq:nsIn c.K cStatics "thirdparty.any" = some none) (hm:ks_superIn c.K C D name=some (some (.ref f2)))
  (tfn:typeIn c.K (.ref f2)=some (.type "function")) (hi:h.get? a=some (instObj C d)) (hn:(name == ("__class__" : Str))=false)
  (hq:Q (.ref h.objs.size,[]) ⟨h.push { cls:=.type "method",data:=.fields #[.ref f2,.ref a] },g,dd,t+1,os⟩):wpAny c.M A (getMethod (.ref so) name pl) Q E ⟨h,g,dd,t,os⟩:=by
 obtain⟨cd,hc,ha⟩:=zfb hm
 obtain⟨of,hof,hofc⟩:=zjs tfn
 refine ks_wpAny_getMethod_super hso (looks_opaque X opq) (l₀:=cd.mro) ?_ rfl X ha (X _ _ hof) hofc ?_ hn hq
 ·exact λA Q E s k q=>wpAny_bind ((looks_clsIn X hc) A _ E s k (wpAny_pure q))
 ·rintro rfl
  obtain⟨oD,h1,h2⟩:=Jq hc
  have e:=X _ _ h1
  rw[hi] at e
  cases e
  cases h2
theorem za9{f f2 C D cc cda:Addr}{cl name slf:Str}{scope:Scope}{p0 p1:Pos}{fd:FuncData}{oc:Value}{od:Option Addr}{osl:Array (Option Value)}{ar:Arg}{env:Env}{body:List Stmt}{whole:Sem Value}{pl:Sem Bool}
  {φ:Phi}{mh:MH}{h:Heap}{g dd t os}{loc:Loc}{r:Nat}{fs:List (Str×MV)}{A:Around}{E:Value->Shared->Prop}{G:Value×List Value->Shared->Prop}
  (hs:zis c cl scope f f2 C D cc cda fd.code name slf) (ho:c.K.lookup f=some ⟨oc,od,.func fd,osl⟩) (hp:(fd.params.posonlyargs++fd.params.args).head?=some ar) (har:ar.arg=slf)
  (he:yz env scope) (hfu:env.func=some f) (hcd:env.code=fd.code) (hcl:env.cells.lookup ("__class__" : Str)=some cc) (H:c.Hp φ mh h) (F:FrR c env loc φ h)
  (hself:loc slf=some (.ref r)) (em:mh[r]?=some (.inst cl fs))
  (o:∀a q h' tk,(∀b o,h.get? b=some o->h'.get? b=some o)->VR h φ (.ref a) (.ref r)->h'.get? q=some (methodObj (.ref f2) (.ref a))->q∉z8 φ->G (.ref q,[]) ⟨h',g,dd,tk,os⟩) :
  PySem.wpAt c.M A (.func body env) (attributeBase (.Call (.Name "super" p0) [] [] p1) name env whole) (λov s₁=>wpAny c.M A (getMethod ov name pl) G E s₁) E ⟨h,g,dd,t,os⟩:=by
 have X:c.K.In h:=c.kin.keeps H.base
 have kof:∀x k,scope.names.lookup x=some k->env.kindOf x=some k:=λx k e=>by show env.scope.names.lookup x=some k;rw[he.scope];exact e
 obtain⟨ccl,cdd,vs,ccs,file,tf,c1,c2,c3⟩:=hs.codeo
 obtain⟨kl,kd,ksl,c4⟩:=hs.cell
 obtain⟨cdD,c5⟩:=hs.cls
 obtain⟨oD,hD1,hD2⟩:=Jq c5
 obtain⟨mloc,hns,hl⟩:=F.ns
 obtain⟨v,ev,rv⟩:=hl slf _ hself (kof _ _ hs.hka)
 obtain⟨a,d,rfl,hi⟩:=zbb H em rv hs.at_
 refine ks_wpAt_super_base (of:=⟨oc,od,.func fd,osl⟩) (oc:=⟨ccl,cdd,.fields vs,ccs⟩) (kof _ _ hs.hks) (kof _ _ hs.hkc) hs.hn hfu (X _ _ ho) rfl hp (hcd.trans hs.code) (X _ _ c1) rfl c2 c3 hs.top ?_
 have hk:env.scope.kind=.function:=by rw[he.scope];exact he.kind
 refine ks_loadName_global hk (kof _ _ hs.hks) (loadGlobal_builtin (mg:=c.mg) (mb:=c.mb) (by rw[he.globals];exact qo c.g λo e=>H.base _ o e) (mg_none_of c.kin c.g hs.super) (by rw[he.builtins];exact qo c.b λo e=>H.base _ o e) ((c.builtins _ (by decide +kernel)).trans (by first|boot_by_name|rfl|kernel_rfl)) ⟨rfl,?_⟩)
 refine wpAny_loadName_free (name:=("__class__" : Str)) hk (kof _ _ hs.hkc) hcl ⟨_,X _ _ c4,rfl⟩ ?_ (by decide +kernel)
 rw[har]
 refine wpAny_loadName_local hk (kof _ _ hs.hka) hns ev ?_
 refine ks_wpAny_isType_cls (X _ _ hD1) hD2 ⟨rfl,?_⟩
 refine ks_wpAny_call_super (X _ _ hD1) hD2 hi rfl (λc e=>by cases e) (looks_mroIn X hs.sub) λh3 e3 k3=>?_
 have X3:c.K.In h3:=c.kin.keeps (H.keep k3).base
 refine zba X3 e3 hs.opq hs.meth hs.tfn (k3 _ _ hi) hs.hn ?_
 exact o a h3.objs.size _ _ (λb o e=>Heap.get?_push_of_some _ (k3 b o e)) rv (Heap.get?_push_at rfl rfl) (xI (H.keep k3) (Nat.le_refl _))
theorem Kz{f f2 C D cc cda:Addr}{qual cl name slf:Str}{params:Arguments}{es:List Expr}{scope:Scope}{ps:List Str}{t:MF}{ms:List ME}{p0 p1 p2 p3 p4:Pos}{fd:FuncData}{oc:Value}{od:Option Addr}{osl:Array (Option Value)}{ar:Arg}
  (hf:xf c f qual params [.Expr (.Call (.Attribute (.Call (.Name "super" p0) [] [] p1) name p2) es [] p3) p4] scope ps [("__class__",cc)])
  (ho:c.K.lookup f=some ⟨oc,od,.func fd,osl⟩) (hp:(fd.params.posonlyargs++fd.params.args).head?=some ar) (har:ar.arg=slf)
  (hs:zis c cl scope f f2 C D cc cda fd.code name slf) (hm:SEs c scope d es ms) (ht:zQ c d (.ref f2) t)
  (hsw:∀env,swapsWith (.Call (.Attribute (.Call (.Name "super" p0) [] [] p1) name p2) es [] p3) none p4.line env=pure false)
  (he':∀env,∃pl,eval (.Call (.Attribute (.Call (.Name "super" p0) [] [] p1) name p2) es [] p3) env=(do
    let ov <-attributeBase (.Call (.Name "super" p0) [] [] p1) name env (eval (.Call (.Name "super" p0) [] [] p1) env)
    standAt p2.atName
    let (f,first) <-holding [ov] (getMethod ov name pl)
    callWith p3 f first (backTo p3 (starEach es env)) [])) :
  zQ c (d+1) (.ref f) (λargs Q mh=>args.length=ps.length/\∃r fs,xU ps args (λ_=>none) slf=some (.ref r)/\mh[r]?=some (.inst cl fs)/\
   wJ ms (xU ps args λ_=>none) (λvs mh1=>t (.ref r::vs) (λ_ mh2=>Q .none mh2) mh1) mh):=
 λA φ mh s args margs Q P E hr H ra q o=>by
  obtain⟨hlen,r,fs,hself,em,q⟩:=q
  obtain⟨oc',od',osl',fd',ho',e1,e2,e3,e4,e5,e6,hcd,hbind⟩:=hf.obj
  rw[ho] at ho';cases ho'
  have X:c.K.In s.heap:=c.kin.keeps H.base
  refine codeAny_call_function (by have:=hr.depth;lia) (X _ _ ho) rfl (by rw[e3];exact hf.co) (by rw[e3];exact hf.gen) e2 (codeRec_of X hcd) ?_
  rw[hbind args (by rw[ra.length];exact hlen)]
  refine wpAny_pure ?_
  rw[e3,e4,e5,e6]
  unfold newFunctionEnv
  refine wpAny_bind (wpAny_alloc ?_)
  refine wpAny_bind (wpAny_layCells _ (λname kind cells=>?_) scope.names [("__class__",cc)] _ _ ?_)
  ·rfl
  ·dsimp only
   rw[Heap.size_push]
   obtain⟨F1,he1,k1,hown⟩:=Uk (qual:=fd.qualname++".<locals>.") (f:=f) (cd:=fd.code) hf.cl H
   have x1:Ext φ φ s.heap (pushCells (s.heap.push { cls:=.type "frame",data:=.dict #[] }) scope.names):=.of_keep k1
   have H1:=H.keep k1
   refine wpAny_bind ?_
   refine Zq (s:={ s with heap:=pushCells (s.heap.push { cls:=.type "frame",data:=.dict #[] }) scope.names }) (env:=tY scope s.heap.objs.size [("__class__",cc)] (fd.qualname++".<locals>.") f fd.code) he1 ps hf.ps H1 F1 (H.vrs x1 ra) λh2 tk2 x2 H2 F2=>?_
   refine wpAny_pure ⟨c.nolimit.keeps H2.base,ks_codeAny_funcAt ?_⟩
   obtain⟨pl,he2⟩:=he' (tY scope s.heap.objs.size [("__class__",cc)] (fd.qualname++".<locals>.") f fd.code)
   refine ks_wpAt_execs_cons (ks_wpAt_Expr_any (ks_wpAt_MethodCall (pl:=pl) (za9 hs ho hp har he1 rfl rfl (zbc hf.cl.nodup hs.hkc) H2 F2 hself em λa q' h' tk k4 r4 hq hqn=>?_) he2) ?_ (hsw _))
   ·have x4:Ext φ φ h2 h':=.of_keep k4
    have H4:=H2.keep k4
    refine K2 hs.fn hm hr.deeper he1 H4 (F2.ext H2 x4) hq hqn q λvs mvs φ5 mh5 h5 tk5 q5 x5 H5 r5=>?_
    refine wpAny_call (method_call (x5.keep _ _ hqn hq) (ht _ φ5 mh5 _ _ _ _ _ _ hr.deeper H5 (.cons (H4.vr x5 (H2.vr x4 r4)) r5) q5 λv mv φ6 mh6 h6 tk6 q6 x6 H6 r7=>?_))
    refine wpAt_of_wpAny (wpAny_execs_nil ?_)
    exact o _ _ φ6 mh6 h6 tk6 q6 (x1.thenW (x2.asW.trans ((x4.trans x5).trans x6 |>.toW (zI F2))) hown) H6 .none
   ·unfold interactive;show(scope.kind == .module && _)=false;rw[hf.cl.kind];rfl
end
noncomputable def lk(a:Nat):Frag->Option Obj
 |[]=>none
 |(b,o)::r=>bif Nat.beq a b then some o else lk a r
theorem zmj{a:Nat}{K:Frag}:lk a K=K.lookup a:=by
 induction K with
 |nil=>rfl
 |cons p r ih=>
  obtain⟨b,o⟩:=p
  have h:Nat.beq a b=(a == b):=by
   rw[Bool.eq_iff_iff,Nat.beq_eq,beq_iff_eq]
  show(bif Nat.beq a b then some o else lk a r)=_
  rw[List.lookup_cons,ih,h]
  cases a == b<;>rfl
noncomputable def YZ(K:Frag)(f:Addr):Option FuncData:=match lk f K with
 |some ⟨_,_,.func fd,_⟩=>some fd
 |_=>none
noncomputable def zp(K:Frag)(f:Addr):List Stmt:=match YZ K f with
 |some fd=>(match fd.body with|.stmts b=>b|_=>[])
 |none=>[]
noncomputable def zf(K:Frag)(f:Addr):Scope:=match YZ K f with
 |some fd=>fd.scope
 |none=>default
noncomputable def W3:FuncBody->Bool
 |.stmts _=>true
 |_=>false
noncomputable def XH(K:Frag)(f:Addr)(cl:List (Str×Addr)):Bool:=match YZ K f with
 |some fd=>W3 fd.body && fd.globals == mainGlobals && fd.closure == cl && fd.builtins == builtinsNs && codeIn K fd.code fd.qualname &&
   !fd.scope.isCoroutine && !fd.scope.isGenerator && fd.scope.kind == .function && decide (fd.scope.names.map (·.1)).Nodup
 |none=>false
theorem jL{K:Frag}{f:Addr}{fd:FuncData}(h:YZ K f=some fd):∃oc od osl,K.lookup f=some ⟨oc,od,.func fd,osl⟩:=by
 unfold YZ at h
 rw[zmj] at h
 cases z:K.lookup f with
 |none=>rw[z] at h;cases h
 |some o=>
  rw[z] at h
  obtain⟨a,b,dt,sl⟩:=o
  cases dt with
  |func fd'=>cases h;exact⟨_,_,_,rfl⟩
  |_=>cases h
noncomputable def Vi{α:Type}:Nat->(List α->Prop)->Prop
 |0,p=>p []
 |n+1,p=>∀a,Vi n λl=>p (a::l)
theorem Vi.all{α:Type}{n:Nat}:∀{p:List α->Prop},Vi n p->∀vs:List α,vs.length=n->p vs:=by
 induction n with
 |zero=>intro p h vs e;rw[List.length_eq_zero_iff.mp e];exact h
 |succ n ih=>intro p h vs e;obtain⟨a,l,rfl⟩:=List.exists_cons_of_length_eq_add_one e;exact ih (h a) l (Nat.succ.inj e)
noncomputable abbrev ZH(K:Frag)(f:Addr)(ps:List Str):Prop:=Vi ps.length λvs=>(YZ K f).map (λfd=>bindArgs fd ⟨vs,[]⟩)=some (pure (ps.zip vs))
theorem ZH.of{K:Frag}{f:Addr}{ps:List Str}(h:ZH K f ps){fd:FuncData}(e:YZ K f=some fd)(vs:List Value)(hv:vs.length=ps.length):bindArgs fd ⟨vs,[]⟩=pure (ps.zip vs):=by
 have:=h.all vs hv
 rw[e] at this
 exact Option.some.inj this
theorem y3{c:Cx}{K:Frag}{f:Addr}{ps:List Str}(hK:c.K=K)(h:XH K f []=true)
  (hb:ZH K f ps)
  (hp:∀x∈ps,(zf K f).names.lookup x=some .local\/(zf K f).names.lookup x=some .cell)
  (hfree:((zf K f).names.all λp=>p.2 != .free)=true) :
  ∃q a,xf c f q a (zp K f) (zf K f) ps []:=by
 cases e:YZ K f with
 |none=>unfold XH at h;rw[e] at h;cases h
 |some fd=>
  unfold XH at h
  rw[e] at h
  simp only[Bool.and_eq_true,beq_iff_eq,Bool.not_eq_true',decide_eq_true_eq] at h
  obtain⟨⟨⟨⟨⟨⟨⟨⟨h1,h2⟩,h3⟩,h4⟩,h5⟩,h6⟩,h7⟩,h8⟩,h9⟩:=h
  obtain⟨oc,od,osl,ho⟩:=jL e
  have hs:zf K f=fd.scope:=by unfold zf;rw[e]
  have hbd:fd.body=.stmts (zp K f):=by
   unfold zp;rw[e]
   dsimp only
   cases hh:fd.body with
   |stmts b=>rfl
   |_=>rw[hh] at h1;simp[W3] at h1
  refine⟨fd.qualname,fd.params,⟨oc,od,osl,fd,by rw[hK];exact ho,rfl,hbd,hs.symm,h2,h3,h4,by rw[hK];exact h5,hb.of e⟩,by rw[hs];exact h6,by rw[hs];exact h7,?_,hp⟩
  refine⟨by rw[hs];exact h8,by rw[hs];exact h9,λx b hx=>(by cases hx),λx y b hx=>(by cases hx),λx hx=>?_⟩
  rw[List.all_eq_true] at hfree
  have hm:(x,NameKind.free)∈(zf K f).names:=by
   obtain⟨l1,l2,hl,_⟩:=List.lookup_eq_some_iff.mp hx
   rw[hl];simp
  have:=hfree _ hm
  simp at this
theorem zJ{c:Cx}{K:Frag}{f:Addr}{ps:List Str}{m:MS}{d:Nat}{t:MF}(hf:∃q a,xf c f q a (zp K f) (zf K f) ps [])(hb:SB c (zf K f) d (zp K f) m)
  (ht:∀args Q mh,t args Q mh->yQ ps m args Q mh):zQ c (d+1) (.ref f) t:=
 let ⟨_,_,h⟩:=hf;(zgt h hb).mono ht
noncomputable def tNo:MF:=λ_ _ _=>False
theorem ZE{c:Cx}{d:Nat}{f:Value}:z6 c d f tNo:=λA φ mh s args margs Q P E hr H ra q o=>q.elim
theorem wB{a b:String}:(Str.ofString a=Str.ofString b)↔a=b:=by
 refine⟨λh=>?_,λh=>by rw[h]⟩
 rw[Str.ofString_eq_toList,Str.ofString_eq_toList] at h
 have h2:(a.toList.map Char.toNat)=(b.toList.map Char.toNat):=by
  have:=congrArg (λs:Str=>s.cps.toList) h
  simpa using this
 have h3:a.toList=b.toList:=by
  refine(List.map_inj_right ?_).mp h2
  intro x y e
  exact Char.ext (UInt32.toNat_inj.mp e)
 exact String.toList_inj.mp h3
theorem zY{α:Type}{P:α->Prop}:∀x∈([]:List α),P x:=λ_ h=>by cases h
theorem zw{α:Type}{P:α->Prop}{a:α}{l:List α}(h:P a)(t:∀x∈l,P x):∀x∈a::l,P x:=List.forall_mem_cons.mpr ⟨h,t⟩
section
variable {c:Cx}{sc:Scope}{d:Nat}
noncomputable def zmt(cl name:Str)(Q:MV->MH->Prop)(o:MV)(mh:MH):Prop:=∃r fs x,o=.ref r/\mh[r]?=some (.inst cl fs)/\uN fs name=some x/\Q x mh
noncomputable abbrev zD(cl name:Str)(m:ME):ME:=λloc Q mh=>m loc (zmt cl name Q) mh
theorem zr{value:Expr}{name cl:Str}{pos:Pos}{m:ME}(hm:SE c sc d value m)(ok:w8 c.K cl name=true)
  (he':∀env,eval (.Attribute value name pos) env=(do
   let o <-eval value env
   standAt pos.atName
   let r <-holding [o] (getAttr o name true)
   letTemporaryGo value o r
   pure r)):SE c sc d (.Attribute value name pos) (zD cl name m):=
 λA env loc φ mh s Q P E hr he H F q o=>Attribute_any_ (hm A env loc φ mh s _ _ E hr he H F q λv mv φ' mh' h' tk q' x H' rv=>by
  obtain⟨r,fs,y,rfl,e,g,q'⟩:=q'
  exact YT (s:={ s with heap:=h',toks:=tk }) H' rv e g ok λv2 tk2 r2=>o v2 _ φ' mh' h' tk2 q' x H' r2) (he' env)
noncomputable def zmg(cl name:Str)(v:MV)(Q:MH->Prop)(o:MV)(mh:MH):Prop:=∃r fs,o=.ref r/\mh[r]?=some (.inst cl fs)/\fs.length<=900/\Q (mh.set r (.inst cl (xi fs name v)))
noncomputable abbrev yI(cl name:Str)(m:ME):MA:=λv Q loc mh=>m loc (zmg cl name v (Q loc)) mh
theorem yr{value:Expr}{name cl:Str}{pos:Pos}{m:ME}(hm:SE c sc d value m)(ok:w8 c.K cl name=true):SA c sc d (.Attribute value name pos) (yI cl name m):=
 λA env loc φ mh s v mv Q P E hr he H F r q o=>by
  rw[assign_Attribute]
  refine wpAny_bind (wpAny_holding (wpAny_mono (hm A env loc φ mh s _ (λov s₁=>wpAny c.M A (setAttr ov name v) P E s₁) E hr he H F q λa m1 φ1 mh1 h1 tk1 q1 x1 H1 r1=>?_) (λov s₁ hh=>?_) λ_ _ z=>z))
  ·obtain⟨rr,fs,rfl,e,hl,q1⟩:=q1
   refine YE (s:={ s with heap:=h1,toks:=tk1 }) H1 r1 (H.vr x1 r) e ok hl λh2 tk2 x2 H2=>?_
   exact Ext.outA (s:=s) o H F (x1.trans x2) H2 q1
  ·exact wpAny_bind (wpAny_standAt (wpAny_bind (wpAny_holding (wpAny_mono hh (λ_ _ z=>wpAny_release z) λ_ _ z=>z))))
noncomputable def zih(cl name:Str)(k:MV->MH->Prop)(o:MV)(mh:MH):Prop:=∃r fs,o=.ref r/\mh[r]?=some (.inst cl fs)/\uN fs name=none/\k o mh
noncomputable abbrev y5(cl name:Str)(mo:ME)(t:MF)(ms:List ME):ME:=λloc Q mh=>mo loc (zih cl name λo mh=>wJ ms loc (λvs mh=>t (o::vs) Q mh) mh) mh
theorem zS{o:Expr}{name cl:Str}{apos pos:Pos}{es:List Expr}{mo:ME}{ms:List ME}{t:MF}{f:Addr}{pl:Env->Sem Bool}(hmo:SE c sc d o mo)(hf:xu c.K cl name=some f)(ht:z6 c d (.ref f) t)(hm:SEs c sc d es ms)
  (he':∀env,eval (.Call (.Attribute o name apos) es [] pos) env=(do
   let ov <-eval o env
   standAt apos.atName
   let (f,first) <-holding [ov] (getMethod ov name (pl env))
   callWith pos f first (backTo pos (starEach es env)) [])):SE c sc d (.Call (.Attribute o name apos) es [] pos) (y5 cl name mo t ms):=zfk hmo hf ht hm he'
noncomputable def We(fr:List Str)(loc:Loc):Loc:=λx=>if x∈fr then loc x else none
noncomputable def ZB(scope:Scope):List Str:=(scope.names.filter λp=>p.2 == .free).map (·.1)
noncomputable def to(scope:Scope)(fr:List Str):Bool:=((ZB scope).all λx=>decide (x∈fr)) && fr.all λx=>decide (x∈ZB scope)
theorem Ud{scope:Scope}{fr:List Str}(h:to scope fr=true)(x:Str):x∈ZB scope↔x∈fr:=by
 unfold to at h
 simp only[Bool.and_eq_true,List.all_eq_true,decide_eq_true_eq] at h
 exact⟨h.1 x,h.2 x⟩
theorem zbs{scope sc:Scope}(h:yJ scope sc=true){fr:List Str}(hf:to scope fr=true)(loc:Loc):Xs scope loc=We fr loc:=by
 funext x
 unfold Xs We
 have hn:=(uh.of h).nodup
 have:scope.names.lookup x=some .free↔x∈fr:=by
  rw[<-Ud hf]
  unfold ZB
  simp only[List.mem_map,List.mem_filter,beq_iff_eq]
  constructor
  ·intro e
   obtain⟨l1,l2,hl,_⟩:=List.lookup_eq_some_iff.mp e
   exact⟨(x,.free),⟨by rw[hl];simp,rfl⟩,rfl⟩
  ·rintro⟨⟨y,k⟩,⟨hm,rfl⟩,rfl⟩
   exact wK hn hm
 simp only[this]
noncomputable abbrev yH(fr:List Str)(mi:MI)(t:Tgt)(test:MT)(inner:CI)(acc0:MO):ME:=λloc Q mh=>
 mi loc (λx mh=>∃vs,vf x vs t test inner vs (We fr loc) acc0 (λ_ acc mh=>Q (.ref mh.length) (mh++[acc])) mh) mh
theorem Ww{scope sc:Scope}(h:yJ scope sc=true){fr:List Str}(hf:to scope fr=true){mi:MI}{t:Tgt}{test:MT}{inner:CI}{acc0:MO}:Xz scope mi t test inner acc0=yH fr mi t test inner acc0:=by
 funext loc Q mh
 unfold Xz yH
 rw[zbs h hf]
theorem vJ{elt tgt iter:Expr}{ifs:List Expr}{scope:Scope}{pos:Pos}{mi:MI}{t:Tgt}{test:MT}{m:ME}{en:Bool}{fr:List Str}(hf:to scope fr=true)
  (hsc:yJ scope sc=true) (hkind:sc.kind=.function) (hi:SI c sc d iter en mi) (hen:en=false\/∃es k p,tgt=.Tuple es k p) (htg:uG tgt=some t)
  (hk:∀y∈t.names,scope.names.lookup y=some .local\/scope.names.lookup y=some .cell)
  (hT:uT c (yL scope sc) d ifs test) (hm:SE c (yL scope sc) d elt m) (hs:∀env x,foldedSetIterable iter env x=pure x) :
  v8 c sc d (.ListComp elt [⟨tgt,iter,ifs,0⟩] scope pos) scope (newList []) iter (yH fr mi t test (xD m) (.list [])):=by
 rw[<-Ww hsc hf]
 exact Km hsc hkind hi hen htg hk hT hm hs
theorem zio{elt t1 i1 t2 i2:Expr}{ifs1 ifs2:List Expr}{scope:Scope}{pos:Pos}{mi1 mi2:MI}{g1 g2:Tgt}{test1 test2:MT}{m:ME}{en1 en2:Bool}{fr:List Str}(hf:to scope fr=true)
  (hsc:yJ scope sc=true) (hkind:sc.kind=.function) (hi1:SI c sc d i1 en1 mi1) (hen1:en1=false\/∃es k p,t1=.Tuple es k p) (htg1:uG t1=some g1)
  (hk1:∀y∈g1.names,scope.names.lookup y=some .local\/scope.names.lookup y=some .cell)
  (hi2:SI c (yL scope sc) d i2 en2 mi2) (hen2:en2=false\/∃es k p,t2=.Tuple es k p) (htg2:uG t2=some g2)
  (hk2:∀y∈g2.names,scope.names.lookup y=some .local\/scope.names.lookup y=some .cell)
  (hT1:uT c (yL scope sc) d ifs1 test1) (hT2:uT c (yL scope sc) d ifs2 test2) (hm:SE c (yL scope sc) d elt m) (hs1:∀env x,foldedSetIterable i1 env x=pure x) (hs2:∀env x,foldedSetIterable i2 env x=pure x) :
  v8 c sc d (.ListComp elt [⟨t1,i1,ifs1,0⟩,⟨t2,i2,ifs2,0⟩] scope pos) scope (newList []) i1 (yH fr mi1 g1 test1 (jP mi2 g2 test2 (xD m)) (.list [])):=by
 rw[<-Ww hsc hf]
 exact Kl hsc hkind hi1 hen1 htg1 hk1 hi2 hen2 htg2 hk2 hT1 hT2 hm hs1 hs2
theorem zms{kx vx tgt iter:Expr}{ifs:List Expr}{scope:Scope}{pos:Pos}{mi:MI}{t:Tgt}{test:MT}{mk mv:ME}{en:Bool}{fr:List Str}(hf:to scope fr=true)
  (hsc:yJ scope sc=true) (hkind:sc.kind=.function) (hi:SI c sc d iter en mi) (hen:en=false\/∃es k p,tgt=.Tuple es k p) (htg:uG tgt=some t)
  (hk:∀y∈t.names,scope.names.lookup y=some .local\/scope.names.lookup y=some .cell)
  (hT:uT c (yL scope sc) d ifs test) (hmk:SE c (yL scope sc) d kx mk) (hmv:SE c (yL scope sc) d vx mv) (hs:∀env x,foldedSetIterable iter env x=pure x) :
  v8 c sc d (.DictComp kx vx [⟨tgt,iter,ifs,0⟩] scope pos) scope newDict iter (yH fr mi t test (U2 mk mv) (.idict [])):=by
 rw[<-Ww hsc hf]
 exact zah hsc hkind hi hen htg hk hT hmk hmv hs
end
theorem yx:bootBuiltins "len" = some (.builtin "len"):=by kernel_rfl
theorem zj0:bootBuiltins "max" = some (.builtin "max"):=by kernel_rfl
theorem zdy:bootBuiltins "min" = some (.builtin "min"):=by kernel_rfl
theorem zj1:bootBuiltins "abs" = some (.builtin "abs"):=by kernel_rfl
theorem zjz:bootBuiltins "sum" = some (.builtin "sum"):=by kernel_rfl
theorem sJ:bootBuiltins "sorted" = some (.builtin "sorted"):=by kernel_rfl
theorem yM:bootBuiltins "range" = some (.type "range"):=by kernel_rfl
theorem zgu:bootBuiltins "list" = some (.type "list"):=by kernel_rfl
theorem wQ:bootBuiltins "tuple" = some (.type "tuple"):=by kernel_rfl
theorem zdx:bootBuiltins "set" = some (.type "set"):=by kernel_rfl
theorem jt:bootBuiltins "enumerate" = some (.type "enumerate"):=by kernel_rfl
theorem zn(x:String)(h:x≠"__name__"):(Str.ofString x)≠"__name__":=λe=>h (wB.mp e)
section
variable {c:Cx}{sc:Scope}{d:Nat}
theorem rF{α:Sort _}{β:Sort _}{f:α->β}:∀x,f x=f x:=λ_=>rfl
theorem zb{x:Str}{pos:Pos}(h:(sc.names.lookup x,x == ("__debug__" : Str))=(some .local,false):=by kernel_rfl):SE c sc d (.Name x pos) (za x):=ql (congrArg Prod.fst h) (congrArg Prod.snd h)
theorem yu{x:Str}{pos:Pos}(h:(sc.names.lookup x,x == ("__debug__" : Str))=(some .cell,false):=by kernel_rfl):SE c sc d (.Name x pos) (za x):=XZ (congrArg Prod.fst h) (congrArg Prod.snd h)
theorem yq{x:Str}{pos:Pos}(h:sc.names.lookup x=some .local:=by kernel_rfl):SA c sc d (.Name x pos) (zP x):=s6 (.inl h)
theorem zH{t value:Expr}{pos:Pos}{m:ME}{a:MA}(hm:SE c sc d value m)(ha:SA c sc d t a)(hst:∀env,(assignEach [t] env).map (·.2)=[assign t env])
  (h:(swapsWith value (some t) pos.line (vE sc),swappedStores [t] value (vE sc))=(pure false,pure none)):SS c sc d (.Assign [t] value pos) (zk m a):=J5 hm ha hst (congrArg Prod.fst h) (congrArg Prod.snd h)
theorem zM{x:Str}{np pos:Pos}{es:List Expr}{ms:List ME}{t:MF}{f:Value}(h:(sc.names.lookup x,x == ("__debug__" : Str))=(some .globalImplicit,false))(hx:nsIn c.K mainGlobals x=some none)(hv:bootBuiltins x=some f)(hn:x≠"__name__")
  (hf:yo c f) (ht:z6 c d f t) (hm:SEs c sc d es ms):SE c sc d (.Call (.Name x np) es [] pos) (zo t ms):=zbo (congrArg Prod.fst h) hx hv hn (congrArg Prod.snd h) hf ht hm
theorem yc{x:Str}{np pos:Pos}{es:List Expr}{ms:List ME}{t:MF}{f:Value}(h:(sc.names.lookup x,x == ("__debug__" : Str))=(some .globalImplicit,false))(hx:nsIn c.K mainGlobals x=some (some f))
  (hf:yo c f) (ht:z6 c d f t) (hm:SEs c sc d es ms):SE c sc d (.Call (.Name x np) es [] pos) (zo t ms):=zfl (congrArg Prod.fst h) hx (congrArg Prod.snd h) hf ht hm
end
section
variable {c:Cx}{sc:Scope}{d:Nat}
noncomputable def KW(L:Addr)(is:List Int)(ma:ME)(lo hi:Option ME):ME:=λloc Q mh=>ma loc (λa mh=>V9 lo loc (λl mh=>V9 hi loc (λu mh=>(l=none\/u=none)/\a=.frozen L/\is.length<=BIG/\Q (.ref mh.length) (mh++[.list (Kx l u (is.map .int))])) mh) mh) mh
theorem JD{L:Addr}{is:List Int}{xs:List Value}(hL:c.hB.IsList L xs.toArray)(hI:IntsAre xs is){value:Expr}{lower upper:Option Expr}{p pos:Pos}{ma:ME}{lo hi:Option ME}(ha:SE c sc d value ma)(hl:wu c sc d lower lo)(hu:wu c sc d upper hi) :
  SE c sc d (.Subscript value (.Slice lower upper none p) pos) (KW L is ma lo hi):=
 λA env loc φ mh s Q P E hr he H F q o=>by
  refine Subscript_ (ha A env loc φ mh s _ _ E hr he H F q λa ma φ1 mh1 h1 tk1 q1 x1 H1 r1=>wpAny_Slice ?_)
  refine vi hl hr he H1 (F.ext H x1) q1 λvl il φ2 mh2 h2 tk2 q2 pl bl x2 H2=>?_
  refine vi (s:={ s with heap:=h2,toks:=tk2 }) hu hr he H2 ((F.ext H x1).ext H1 x2) q2 λvu iu φ3 mh3 h3 tk3 q3 pu bu x3 H3=>?_
  rw[evalPart_none]
  refine wpAny_pure ?_
  obtain⟨hone,rfl,hb,q3⟩:=q3
  cases r1
  obtain⟨oL,g0,gc,n,gd⟩:=hL
  have g:=H3.base _ _ g0
  have rs:VRs h3 φ3 xs (is.map .int):=.of_ints hI
  have hlen:=rs.length
  have hsz:xs.toArray.size<=sizeLine:=by
   have:xs.length<=BIG:=by rw[hlen];simpa using hb
   simpa using yj this
  obtain⟨ops,hs⟩:=vh (.Slice lower upper none p) (.ref L) (.ref h3.objs.size)
  have k1:=z4 (h:=h3) { cls:=.type "slice",data:=.fields #[vl,vu,.none] }
  have hl:(h3.push { cls:=.type "slice",data:=.fields #[vl,vu,.none] }).IsList L xs.toArray:=⟨_,k1 _ _ g,gc,n,gd⟩
  refine tail_any (T:="list") (s:={ s with heap:=h3.push { cls:=.type "slice",data:=.fields #[vl,vu,.none] },toks:=tk3 }) ⟨_,k1 _ _ g,gc⟩ list_getitem_lookup (wpAny_getItem_list_slice hl (Heap.IsSliceOf.new ..) pl pu .none (by simp) ?_ hsz) hs
  have k2:=z4 (h:=h3.push { cls:=.type "slice",data:=.fields #[vl,vu,.none] }) { cls:=.type "list",data:=.seq (slicePick xs.toArray il iu none) }
  obtain⟨H4,x4,r4⟩:=Hp.pushList (c:=c) (h':=(h3.push { cls:=.type "slice",data:=.fields #[vl,vu,.none] }).push { cls:=.type "list",data:=.seq (slicePick xs.toArray il iu none) }) (a:=(h3.push { cls:=.type "slice",data:=.fields #[vl,vu,.none] }).objs.size) (vs:=(slicePick xs.toArray il iu none).toList) (n:=0) (H3.keep k1) k2 (Nat.le_refl _)
   (Heap.get?_push_size _ rfl) ((H3.keep k1).vrs (.refl _ _) (qk (H3.vrs (.of_keep k1) rs) hone bl bu))
  exact o _ _ _ _ _ tk3 q3 (x1.trans (x2.trans (x3.trans ((Ext.of_keep k1).trans x4)))) H4 r4
end
theorem zju{c:Cx}{K:Frag}{f cc:Addr}{ps:List Str}(hK:c.K=K)(h:XH K f [("__class__",cc)]=true)
  (hb:ZH K f ps)
  (hp:∀x∈ps,(zf K f).names.lookup x=some .local\/(zf K f).names.lookup x=some .cell)
  (hfree:((zf K f).names.all λp=>p.2 != .free || decide (p.1=("__class__" : Str)))=true)
  (hcell:∃cl cld v csl,K.lookup cc=some ⟨cl,cld,.cell v,csl⟩) :
  ∃q a,xf c f q a (zp K f) (zf K f) ps [("__class__",cc)]:=by
 cases e:YZ K f with
 |none=>unfold XH at h;rw[e] at h;cases h
 |some fd=>
  unfold XH at h
  rw[e] at h
  simp only[Bool.and_eq_true,beq_iff_eq,Bool.not_eq_true',decide_eq_true_eq] at h
  obtain⟨⟨⟨⟨⟨⟨⟨⟨h1,h2⟩,h3⟩,h4⟩,h5⟩,h6⟩,h7⟩,h8⟩,h9⟩:=h
  obtain⟨oc,od,osl,ho⟩:=jL e
  have hs:zf K f=fd.scope:=by unfold zf;rw[e]
  have hbd:fd.body=.stmts (zp K f):=by
   unfold zp;rw[e]
   dsimp only
   cases hh:fd.body with
   |stmts b=>rfl
   |_=>rw[hh] at h1;simp[W3] at h1
  refine⟨fd.qualname,fd.params,⟨oc,od,osl,fd,by rw[hK];exact ho,rfl,hbd,hs.symm,h2,h3,h4,by rw[hK];exact h5,hb.of e⟩,by rw[hs];exact h6,by rw[hs];exact h7,?_,hp⟩
  refine⟨by rw[hs];exact h8,by rw[hs];exact h9,λx b hx=>?_,λx y b hx hy=>?_,λx hx=>?_⟩
  ·rw[List.lookup_cons] at hx
   split at hx
   ·cases hx
    obtain⟨cl,cld,v,csl,h⟩:=hcell
    exact⟨v,_,c.kin _ _ (by rw[hK];exact h),rfl⟩
   ·cases hx
  ·rw[List.lookup_cons] at hx hy
   split at hx
   ·split at hy
    ·rename_i _ e1 _ e2
     rw[beq_iff_eq] at e1 e2
     rw[e1,e2]
    ·cases hy
   ·cases hx
  ·rw[List.all_eq_true] at hfree
   have hm:(x,NameKind.free)∈(zf K f).names:=by
    obtain⟨l1,l2,hl,_⟩:=List.lookup_eq_some_iff.mp hx
    rw[hl];simp
   have:=hfree _ hm
   simp at this
   subst this
   rfl
section
variable {prog:Program}{w:World}{A:Around}{E:Value->Shared->Prop}{s:Shared}
theorem U6{sl:Addr}{u:Tok}{Q:Int×Int×Nat->Shared->Prop}(hs:s.heap.IsSliceOf sl .none (.int 2 u) .none)(h:Q (0,1,2) s) :
  wpAny (model prog w) A (Builtin.Slice.sliceApplied (.ref sl) (pure (3:Int))) Q E s:=by
 obtain⟨os,hos,hcs,hds⟩:=id hs
 unfold Builtin.Slice.sliceApplied Builtin.Slice.sliceFields
 refine wpAny_bind (wpAny_bind (wpAny_field hos hds (x:=.none) rfl (wpAny_bind (wpAny_field hos hds (x:=.int 2 u) rfl (wpAny_bind (wpAny_field hos hds (x:=.none) rfl (wpAny_pure ?_)))))))
 refine wpAny_bind (slicePart_none ?_)
 show wpAny _ _ (if ((1:Int) == 0)=true then _ else _) _ _ s
 rw[if_neg (by decide)]
 refine wpAny_bind (slicePart_none (wpAny_bind (slicePart_int (wpAny_bind (wpAny_pure ?_)))))
 exact wpAny_pure h
theorem zgj{t sl:Addr}{x y z:Value}{n:Nat}{u:Tok}{Q:Value->Shared->Prop}(ht:s.heap.get? t=some (ui [x,y,z] n))(hs:s.heap.IsSliceOf sl .none (.int 2 u) .none)
  (h:Q (.ref s.heap.objs.size) { s with heap:=s.heap.push { cls:=.type "tuple",data:=.seq #[x,y] } }):wpAny (model prog w) A (getItem (.ref t) (.ref sl)) Q E s:=by
 have ht':IsTup s.heap t #[x,y,z]:=⟨_,ht,rfl,n,rfl⟩
 obtain⟨os,hos,hcs,hds⟩:=id hs
 have hTs:s.TypeIs (.ref sl) "slice":=⟨os,hos,hcs⟩
 unfold getItem
 try with_reducible refine wpAny_holding ?_
 first|refine wpAny_bind (wpAny_pure ?_)|skip
 refine wpAny_bind (wpAny_sequenceKey ht'.typeIs (by decide) ?_)
 refine wpAny_bind (wpAny_callSpecial?_slot (name:=Str.ofString "__getitem__") ht'.typeIs slot_tuple_getitem
  (wpAny_call_entry slot_tuple_getitem ht'.typeIs entry_tuple_getitem ?_ (args_tuple_getitem _ _)))
 show wpAny _ _ (Builtin.Tuple.tupleItemsOf (.ref t) >>= _) _ _ s
 refine wpAny_bind (tupleItemsOf_ ht' ?_)
 refine wpAny_bind (wpAny_typeOf hTs ?_)
 rw[if_pos (by decide)]
 refine wpAny_bind (U6 hs ?_)
 show wpAny _ _ (Builtin.Tuple.tupleExact #[x,y] >>= λv=>ret v) _ _ s
 refine wpAny_bind (m:=Builtin.Tuple.tupleExact _) (wpAny_newObj_type (wpAny_pure ⟨_,rfl,wpAny_pure h⟩) ?_)
 show(2:Nat)<=sizeLine
 rw[sizeLine_eq];exact Nat.le_of_ble_eq_true rfl
end
section
variable {c:Cx}{sc:Scope}{d:Nat}
noncomputable def zi9(ma:ME):ME:=λloc Q mh=>ma loc (λa mh=>∃x y z,a=.tuple [x,y,z]/\Q (.tuple [x,y]) mh) mh
theorem zi0{value:Expr}{k:Nat}{p1 p pos:Pos}{ma:ME}(ha:SE c sc d value ma):SE c sc d (.Subscript value (.Slice none (some (.Constant (.int 2) k p1)) none p) pos) (zi9 ma):=
 λA env loc φ mh s Q P E hr he H F q o=>by
  refine Subscript_ (ha A env loc φ mh s _ _ E hr he H F q λa ma φ1 mh1 h1 tk1 q1 x1 H1 r1=>wpAny_Slice ?_)
  obtain⟨x,y,z,rfl,q1⟩:=q1
  refine vi (.none) hr he H1 (F.ext H x1) (Q:=λi mh=>i=none/\mh=mh1) (m:=none) ⟨rfl,rfl⟩ λvl il φ2 mh2 h2 tk2 q2 pl bl x2 H2=>?_
  obtain⟨rfl,rfl⟩:=q2
  refine vi (s:={ s with heap:=h2,toks:=tk2 }) (.some zs) hr he H2 ((F.ext H x1).ext H1 x2) (Q:=λi mh=>i=some 2/\mh=mh2) (m:=some (zc (.int 2))) ⟨2,rfl,by decide,rfl,rfl⟩ λvu iu φ3 mh3 h3 tk3 q3 pu bu x3 H3=>?_
  obtain⟨rfl,rfl⟩:=q3
  rw[evalPart_none]
  refine wpAny_pure ?_
  obtain⟨a1,ws,n,rfl,g,rs⟩:=(H2.vr x3 (H1.vr x2 r1)).inv_tuple
  obtain⟨v1,ws,rfl,r1,rs⟩:=rs.inv_cons
  obtain⟨v2,v3,rfl,r2,r3⟩:=rs.inv_two
  cases pl
  cases pu with
  |int _ u=>
  obtain⟨ops,hs⟩:=vh (.Slice none (some (.Constant (.int 2) k p1)) none p) (.ref a1) (.ref h3.objs.size)
  have k1:=z4 (h:=h3) { cls:=.type "slice",data:=.fields #[.none,.int 2 u,.none] }
  refine tail_any (T:="tuple") (s:={ s with heap:=h3.push { cls:=.type "slice",data:=.fields #[.none,.int 2 u,.none] },toks:=tk3 }) ⟨_,k1 _ _ g,rfl⟩ slot_tuple_getitem.lookup (zgj (k1 _ _ g) (Heap.IsSliceOf.new ..) ?_) hs
  have k2:=z4 (h:=h3.push { cls:=.type "slice",data:=.fields #[.none,.int 2 u,.none] }) { cls:=.type "tuple",data:=.seq #[v1,v2] }
  have k3:∀b ob,h3.get? b=some ob->_:=λb ob e=>k2 _ _ (k1 _ _ e)
  exact o _ _ φ3 mh3 _ tk3 q1 (x1.trans (x2.trans (x3.trans (.of_keep k3)))) (H3.keep k3) (.tuple (n:=0) (vs:=[v1,v2]) (Heap.get?_push_size _ rfl) (H3.vrs (.of_keep k3) (.cons r1 (.one r2))))
end
noncomputable def Wx(p q:Int×Int):Bool:=decide (p.1<q.1\/(p.1=q.1/\p.2<q.2))
section
variable {prog:Program}{w:World}{A:Around}{E:Value->Shared->Prop}{s:Shared}
noncomputable abbrev qQ(h:Heap)(a:Addr)(p:Int×Int):Prop:=∃t u n,h.get? a=some (ui [.int p.1 t,.int p.2 u] n)
theorem KP{x y:Int}{t u:Tok}{Q:Value->Shared->Prop}(h:Q (.bool (decide (x<y))) s):wpAny (model prog w) A (richCompare .Lt (.int x t) (.int y u)) Q E s:=
 richCompare_gives (op:=.Lt) (typeIs_int s _ t) (typeIs_int s _ u) F.slot_int_lt F.entry_int_lt (F.args_int_lt_2 _ _) (gives_int_lt _ _ t u) (λx=>nomatch x) h
theorem Wg{a b:Addr}{p q:Int×Int}{Q:Value->Shared->Prop}(ha:qQ s.heap a p)(hb:qQ s.heap b q)(h:Q (.bool (Wx p q)) s) :
  wpAny (model prog w) A (Builtin.«tuple.__lt__» ⟨[.ref a,.ref b],[]⟩) (λfin s'=>∃v,fin=.done (.ret v)/\Q v s') E s:=by
 obtain⟨t1,t2,n,ha⟩:=ha
 obtain⟨u1,u2,m,hb⟩:=hb
 show wpAny _ _ (isInstance (.ref b) (.type "tuple") >>= _) _ _ s
 refine wpAny_bind (wpAny_isInstance ⟨_,hb,rfl⟩ isSubtype_tuple_tuple ?_)
 show wpAny _ _ (if (!true)=true then _ else _) _ _ s
 rw[if_neg (by decide)]
 refine wpAny_bind (wpAny_tupleItemsOf ha rfl ?_)
 refine wpAny_bind (wpAny_tupleItemsOf hb rfl ?_)
 refine wpAny_bind ?_
 show wpAny _ _ (forIn [((Value.int p.1 t1,Value.int q.1 u1):Value×Value),(.int p.2 t2,.int q.2 u2)] _ _) _ _ s
 rw[List.forIn_cons]
 refine wpAny_bind (wpAny_bind (wpAny_eqBool_int ?_))
 by_cases h1:p.1=q.1
 ·rw[show(p.1 == q.1)=true by simpa using h1]
  rw[if_neg (by decide)]
  refine wpAny_pure ?_
  dsimp only
  rw[List.forIn_cons]
  refine wpAny_bind (wpAny_bind (wpAny_eqBool_int ?_))
  by_cases h2:p.2=q.2
  ·rw[show(p.2 == q.2)=true by simpa using h2]
   rw[if_neg (by decide)]
   refine wpAny_pure ?_
   dsimp only
   rw[List.forIn_nil]
   refine wpAny_pure ?_
   have e:Wx p q=false:=by unfold Wx;exact decide_eq_false (by omega)
   rw[e] at h
   exact wpAny_pure ⟨_,rfl,h⟩
  ·rw[show(p.2 == q.2)=false by simpa using h2]
   rw[if_pos (by decide)]
   refine wpAny_bind (wpAny_rule ?_)
   refine wpAny_bind (KP ?_)
   have e:Wx p q=decide (p.2<q.2):=by unfold Wx;exact decide_eq_decide.mpr (by omega)
   rw[e] at h
   exact wpAny_pure (wpAny_pure (wpAny_pure ⟨_,rfl,h⟩))
 ·rw[show(p.1 == q.1)=false by simpa using h1]
  rw[if_pos (by decide)]
  refine wpAny_bind (wpAny_rule ?_)
  refine wpAny_bind (KP ?_)
  have e:Wx p q=decide (p.1<q.1):=by unfold Wx;exact decide_eq_decide.mpr (by omega)
  rw[e] at h
  exact wpAny_pure (wpAny_pure (wpAny_pure ⟨_,rfl,h⟩))
theorem zft{a b:Addr}{p q:Int×Int}{Q:Value->Shared->Prop}(hu:A.units<cLine)(ha:qQ s.heap a p)(hb:qQ s.heap b q)(h:Q (.bool (Wx p q)) s) :
  wpAny (model prog w) A (richCompare .Lt (.ref a) (.ref b)) Q E s:=by
 have hTa:s.TypeIs (.ref a) "tuple":=by obtain⟨t1,t2,n,ha⟩:=ha;exact⟨_,ha,rfl⟩
 have hTb:s.TypeIs (.ref b) "tuple":=by obtain⟨t1,t2,n,hb⟩:=hb;exact⟨_,hb,rfl⟩
 exact wpAny_richCompare_same_room (op:=.Lt) hTa hTb F.slot_tuple_lt (wpAny_call_entry F.slot_tuple_lt hTa F.entry_tuple_lt (Wg ha hb ⟨(λe=>nomatch e),h⟩) (F.args_tuple_lt_2 _ _)) hu
theorem JQ{R:Result->Shared->Prop}(hh:A.handled=none)(hu:A.in1.units<cLine){I l S:Addr}{vs:List Value}{n:Nat}{h0:Heap}(hSI:S≠I)(hSl:S≠l)(hlI:l≠I)(hl0:h0.get? l=some (zy vs n))
  (hP:∀v∈vs,∃a p,v=.ref a/\a≠I/\a≠S/\qQ h0 a p) :
  ∀(k j:Nat) (s:Shared) (vb:Value) (m:Nat),vs.length-(j+1)=k->j+1<=vs.length->s.heap.IsListIter I l (j+1)->(∀b o,b≠I->b≠S->h0.get? b=some o->s.heap.get? b=some o)->vb∈vs->
  s.heap.get? S=some (zy [vb,vb] m)->(∀v h' tk,v∈vs->(∀b o,b≠I->b≠S->h0.get? b=some o->h'.get? b=some o)->R (.ok (.ret v)) { s with heap:=h',toks:=tk })->
  codeAny (model prog w) A (.builtin "min.loop" ⟨[.ref I,.none,.ref S],[]⟩) R s:=by
 have W:=Walks.list (prog:=prog) (w:=w) (A:=A.in1) hh I l hlI vs.toArray
 have hname:(toString "min"++toString ".loop" : String) = "min.loop":=by decide
 have at_l:∀{h:Heap},(∀b o,b≠I->b≠S->h0.get? b=some o->h.get? b=some o)->h.IsList l vs.toArray:=λkp=>⟨_,kp _ _ hlI hSl.symm hl0,rfl,n,rfl⟩
 intro k
 induction k with
 |zero=>
  intro j s vb m hk hj hit kp hvb hS hR
  have hin:j+1=vs.toArray.size:=by rw[List.size_toArray];exact qL hk hj
  refine codeAny_builtin F.entry_min_loop ?_
  rw[Around.under_plainId F.plain_min_loop _]
  show wpAny _ A.in1 (seqItems? (.ref S) >>= _) _ _ s
  refine wpAny_bind (wpAny_seqItems hS rfl ?_)
  show wpAny _ A.in1 (tryCatch (pyNext (.ref I)) _ >>= _) _ _ s
  refine wpAny_bind (wpAny_tryCatch (W.done s _ _ (hin▸⟨hit,at_l kp⟩) λh' tk hk'=>?_))
  have nI:∀b,b≠I->b∉[I]:=λb hb hm=>hb (List.mem_singleton.mp hm)
  have hS':=hk' S _ (nI _ hSI) hS
  show wpAny _ A.in1 (updateSeq S (λ_=>#[]) >>= _) _ _ _
  refine wpAny_bind (wpAny_updateSeq hS' rfl (wpAny_bind (wpAny_letGo (wpAny_pure ?_))))
  exact hR vb _ tk hvb λb o hbI hbS e=>(Heap.get?_update_other _ _ (Ne.symm hbS)).trans (hk' b o (nI _ hbI) (kp b o hbI hbS e))
 |succ k ih=>
  intro j s vb m hk hj hit kp hvb hS hR
  have hlt:j+1<vs.toArray.size:=by rw[List.size_toArray];exact Nat.lt_of_sub_eq_succ hk
  refine codeAny_builtin F.entry_min_loop ?_
  rw[Around.under_plainId F.plain_min_loop _]
  show wpAny _ A.in1 (seqItems? (.ref S) >>= _) _ _ s
  refine wpAny_bind (wpAny_seqItems hS rfl ?_)
  show wpAny _ A.in1 (tryCatch (pyNext (.ref I)) _ >>= _) _ _ s
  refine wpAny_bind (wpAny_tryCatch (W.item (j+1) s _ _ hlt ⟨hit,at_l kp⟩ λv h' tk hv hst' hk'=>?_))
  have nI:∀b,b≠I->b∉[I]:=λb hb hm=>hb (List.mem_singleton.mp hm)
  have hS':=hk' S _ (nI _ hSI) hS
  have kp':∀b o,b≠I->b≠S->h0.get? b=some o->h'.get? b=some o:=λb o hbI hbS e=>hk' b o (nI _ hbI) (kp b o hbI hbS e)
  have hvm:v∈vs:=List.mem_of_getElem? (by simpa using hv)
  have hpair:∀x∈vs,∃a p,x=.ref a/\qQ h' a p:=λx hx=>by
   obtain⟨a,p,e,h1,h2,t,u,q,h3⟩:=hP x hx
   exact⟨a,p,e,t,u,q,kp' _ _ h1 h2 h3⟩
  obtain⟨a,p,rfl,pa⟩:=hpair v hvm
  obtain⟨b,q,rfl,pb⟩:=hpair vb hvb
  show wpAny _ A.in1 (tryCatch (holding [.ref a,.ref a] (richCompare .Lt (.ref a) (.ref b) >>= _)) _ >>= _) _ _ _
  refine wpAny_bind (wpAny_tryCatch (wpAny_holding (wpAny_bind (zft (s:={ s with heap:=h',toks:=tk }) hu pa pb ?_))))
  refine wpAny_bind (wpAny_holding (wpAny_truthy_bool ?_))
  refine wpAny_bind (wpAny_letGo (wpAny_pure ?_))
  cases Wx p q with
  |true=>
   simp only[if_true]
   refine wpAny_bind ?_
   refine wpAny_updateSeq hS' rfl (wpAny_bind (wpAny_letGo ?_))
   rw[hname]
   refine wpAny_pure ⟨plainId_quiet F.plain_min_loop _,ih (j+1) _ (.ref a) _ (KG hk) (Nat.succ_le_of_lt (by simpa using hlt)) (hst'.1.at λo e=>(Heap.get?_update_other _ _ hSI).trans e)
    (λx o hxI hxS e=>(Heap.get?_update_other _ _ (Ne.symm hxS)).trans (kp' x o hxI hxS e)) hvm (Heap.get?_update_self _ hS' rfl) hR⟩
  |false=>
   simp only[Bool.false_eq_true,if_false]
   refine wpAny_bind (wpAny_letGo ?_)
   rw[hname]
   exact wpAny_pure ⟨plainId_quiet F.plain_min_loop _,ih (j+1) _ (.ref b) m (KG hk) (Nat.succ_le_of_lt (by simpa using hlt)) hst'.1 kp' hvb hS' hR⟩
end
section
variable {c:Cx}{sc:Scope}{d:Nat}
noncomputable def KY:MF:=λargs Q mh=>match args with
 |[.ref r]=>∃ps:List (Int×Int),ps≠[]/\mh[r]?=some (.list (ps.map λp=>.tuple [.int p.1,.int p.2]))/\∀p∈ps,Q (.tuple [.int p.1,.int p.2]) mh
 |_=>False
theorem VC{h:Heap}{φ:Phi}{vs:List Value}{ps:List (Int×Int)}(r:VRs h φ vs (ps.map λp=>MV.tuple [.int p.1,.int p.2])){v:Value}(hv:v∈vs):∃a p,v=.ref a/\p∈ps/\qQ h a p/\VR h φ v (.tuple [.int p.1,.int p.2]):=by
 obtain⟨k,hk,rfl⟩:=List.mem_iff_getElem.mp hv
 obtain⟨m,e,rv⟩:=r.get' (List.getElem?_eq_getElem hk)
 rw[List.getElem?_map] at e
 obtain⟨p,hp,rfl⟩:=Option.map_eq_some_iff.mp e
 obtain⟨a,ws,n,ea,g,rs⟩:=rv.inv_tuple
 obtain⟨v1,v2,rfl,r1,r2⟩:=rs.inv_two
 obtain⟨t,rfl⟩:=r1.inv_int
 obtain⟨u,rfl⟩:=r2.inv_int
 exact⟨a,p,ea,List.mem_of_getElem? hp,⟨t,u,n,g⟩,rv⟩
theorem zaw:z6 c (d+1) (.builtin "min") KY:=λA φ mh s args margs Q P E hr H ra q o=>by
 obtain⟨rn,r,rfl⟩:=se (P:=λl=>KY l Q mh) q id (λ_=>id) (λ_ _=>id) (λ_ _=>id) (λ_ _=>id) (λ_ _=>id) (λ_ _ _=>id) (λ_ _=>id)
 obtain rfl:=xW (P:=λl=>KY (.ref rn::l) Q mh) q λ_ _=>id
 obtain⟨ps,hne,e,q⟩:=q
 obtain⟨v0,rfl,r⟩:=ra.inv_one
 obtain⟨l,vs,n,rfl,f2,g,rr⟩:=H.list_at r e
 have hlen:vs.length=ps.length:=by rw[rr.length,List.length_map]
 have hpos:0<vs.length:=by rw[hlen];exact List.length_pos_iff.mpr hne
 have hname:(toString "min"++toString ".loop" : String) = "min.loop":=by decide
 refine call_function_tree F.kind_min F.plain_min F.entry_min (F.args_min1 _) ?_
 show wpAny _ A.in1 (Builtin.Builtins.bindParams "min" ["key","default"] 0 ⟨[],[]⟩ >>= _) _ _ s
 refine wpAny_bind (wpAny_of_eq (show Builtin.Builtins.bindParams "min" ["key","default"] 0 ⟨[],[]⟩=pure [none,none] from rfl) ?_)
 refine wpAny_bind (wpAny_pure ?_)
 refine wpAny_bind (wpAny_pyIter_list (items:=vs.toArray) ⟨_,g,rfl,n,rfl⟩ ?_)
 refine wpAny_bind (wpAny_newObj_type ?_)
 rw[hname]
 refine wpAny_pure ⟨plainId_quiet F.plain_min_loop _,?_⟩
 have k1:=z4 (h:=s.heap) { cls:=.type "list_iterator",data:=.fields #[.ref l,.int 0 0] }
 have k2:=z4 (h:=s.heap.push { cls:=.type "list_iterator",data:=.fields #[.ref l,.int 0 0] }) (zy [] 0)
 have hI:((s.heap.push { cls:=.type "list_iterator",data:=.fields #[.ref l,.int 0 0] }).push (zy [] 0)).IsListIter s.heap.objs.size l 0:=⟨_,k2 _ _ (Heap.get?_push_size _ rfl),rfl,rfl⟩
 have hS:((s.heap.push { cls:=.type "list_iterator",data:=.fields #[.ref l,.int 0 0] }).push (zy [] 0)).get? (s.heap.push { cls:=.type "list_iterator",data:=.fields #[.ref l,.int 0 0] }).objs.size=some (zy [] 0):=Heap.get?_push_size _ rfl
 have hsz:(s.heap.push { cls:=.type "list_iterator",data:=.fields #[.ref l,.int 0 0] }).objs.size=s.heap.objs.size+1:=Heap.size_push ..
 have kk:∀b o,s.heap.get? b=some o->((s.heap.push { cls:=.type "list_iterator",data:=.fields #[.ref l,.int 0 0] }).push (zy [] 0)).get? b=some o:=λb o e=>k2 _ _ (k1 _ _ e)
 rw[hsz] at hS ⊢
 show codeAny _ A _ _ { s with heap:=(s.heap.push { cls:=.type "list_iterator",data:=.fields #[.ref l,.int 0 0] }).push (zy [] 0) }
 generalize (s.heap.push { cls:=.type "list_iterator",data:=.fields #[.ref l,.int 0 0] }).push (zy [] 0)=h0 at *
 have lt:∀b o,s.heap.get? b=some o->b≠s.heap.objs.size/\b≠s.heap.objs.size+1:=λb o e=>⟨Nat.ne_of_lt (Heap.lt_size e),Nat.ne_of_lt (Nat.lt_succ_of_lt (Heap.lt_size e))⟩
 have hlS:=lt _ _ g
 have W:=Walks.list (prog:=c.prog) (w:=c.w) (A:=A.in1) hr.handled s.heap.objs.size l hlS.1 vs.toArray
 refine codeAny_builtin F.entry_min_loop ?_
 rw[Around.under_plainId F.plain_min_loop _]
 show wpAny _ A.in1 (seqItems? (.ref (s.heap.objs.size+1)) >>= _) _ _ _
 refine wpAny_bind (wpAny_seqItems hS rfl ?_)
 show wpAny _ A.in1 (tryCatch (pyNext (.ref s.heap.objs.size)) _ >>= _) _ _ _
 refine wpAny_bind (wpAny_tryCatch (W.item 0 { s with heap:=h0 } _ _ (by simpa using hpos) ⟨hI,_,kk _ _ g,rfl,n,rfl⟩ λv h' tk hv hst' hk'=>?_))
 have nI:∀b,b≠s.heap.objs.size->b∉[s.heap.objs.size]:=λb hb hm=>hb (List.mem_singleton.mp hm)
 have hS':=hk' _ _ (nI _ (Nat.succ_ne_self _)) hS
 have hvm:v∈vs:=List.mem_of_getElem? (by simpa using hv)
 show wpAny _ A.in1 (updateSeq (s.heap.objs.size+1) (λ_=>#[v,v]) >>= _) _ _ _
 refine wpAny_bind (wpAny_updateSeq hS' rfl ?_)
 rw[hname]
 refine wpAny_pure ⟨plainId_quiet F.plain_min_loop _,JQ (h0:=h0) (I:=s.heap.objs.size) (l:=l) (vs:=vs) (n:=n) hr.handled (Nat.lt_of_le_of_lt (Nat.add_le_add (Nat.le_add_right _ _) (by decide)) hr.units) (Nat.succ_ne_self _) hlS.2.symm hlS.1 (kk _ _ g)
  (λx hx=>?_) _ 0 _ v _ rfl hpos (hst'.1.at λo e=>(Heap.get?_update_other _ _ (Nat.succ_ne_self _)).trans e) (λb o hbI hbS e=>(Heap.get?_update_other _ _ (Ne.symm hbS)).trans (hk' b o (nI _ hbI) e)) hvm (Heap.get?_update_self _ hS' rfl) λx h3 tk3 hx k3=>?_⟩
 ·obtain⟨a,p,rfl,_,⟨t,u,m,pa⟩,_⟩:=VC rr hx
  exact⟨a,p,rfl,(lt _ _ pa).1,(lt _ _ pa).2,t,u,m,kk _ _ pa⟩
 ·obtain⟨a,p,rfl,hp,_,rv⟩:=VC rr hx
  have k:∀b o,s.heap.get? b=some o->h3.get? b=some o:=λb o e=>k3 b o (lt _ _ e).1 (lt _ _ e).2 (kk _ _ e)
  exact o _ _ φ mh h3 tk3 (q p hp) (.of_keep k) (H.keep k) (H.vr (.of_keep k) rv)
end
section
variable {loc:Loc}{mh:MH}{Q:MV->MH->Prop}{QS:Fl->Loc->MH->Prop}{QB:Bool->MH->Prop}{QL:Loc->MH->Prop}{QI:MIt->MH->Prop}{QP:Bool->Prop}{QH:MH->Prop}
noncomputable def zia(n:MS)(Q:Fl->Loc->MH->Prop)(fl:Fl)(loc:Loc)(mh:MH):Prop:=match fl with|.next=>n loc Q mh|.ret v=>Q (.ret v) loc mh
theorem seq_i{m n:MS}(h:m loc (zia n QS) mh):zA m n loc QS mh:=h
theorem cont_i{n:MS}(h:n loc QS mh):zia n QS .next loc mh:=h
theorem contr_i{n:MS}{v:MV}(h:QS (.ret v) loc mh):zia n QS (.ret v) loc mh:=h
theorem big_of{n:Nat}(h:n<=99999):n<=BIG:=by unfold BIG;exact Nat.le_succ_of_le h
theorem swap2_i{a b:ME}{x y:Str}(h:a loc (λv mh=>b loc (λw mh=>QS .next (upd (upd loc y w) x v) mh) mh) mh):qm (zG [a,b]) [x,y] loc QS mh:=by
 have e:∀v w mh,QS .next (upd (upd loc y w) x v) mh=([v,w].length<=BIG/\∃vs,MV.tuple [v,w]=.tuple vs/\vs.length=[x,y].length/\QS .next (xU [x,y].reverse vs.reverse loc) mh):=λv w mh=>
  propext ⟨λh=>⟨big_of (Nat.le_of_ble_eq_true rfl),_,rfl,rfl,h⟩,by rintro⟨_,vs,e,_,h⟩;cases e;exact h⟩
 simp only[e] at h
 exact h
theorem swap3_i{a b c:ME}{x y z:Str}(h:a loc (λv mh=>b loc (λw mh=>c loc (λu mh=>QS .next (upd (upd (upd loc z u) y w) x v) mh) mh) mh) mh):qm (zG [a,b,c]) [x,y,z] loc QS mh:=by
 have e:∀v w u mh,QS .next (upd (upd (upd loc z u) y w) x v) mh=([v,w,u].length<=BIG/\∃vs,MV.tuple [v,w,u]=.tuple vs/\vs.length=[x,y,z].length/\QS .next (xU [x,y,z].reverse vs.reverse loc) mh):=λv w u mh=>
  propext ⟨λh=>⟨big_of (Nat.le_of_ble_eq_true rfl),_,rfl,rfl,h⟩,by rintro⟨_,vs,e,_,h⟩;cases e;exact h⟩
 simp only[e] at h
 exact h
theorem name_i{x:Str}{v:MV}(h:loc x=some v)(k:Q v mh):za x loc Q mh:=⟨v,h,k⟩
theorem Xw{i:Int}(h : -4<=i)(h2:i<=8):i∈yd:=by
 have k:∀n<13,(-4+(n:Nat):Int)∈yd:=by decide
 have e:i = -4+((i+4).toNat:Nat):=by lia
 rw[e]
 exact k _ (by lia)
theorem tup0_i(h:Q (.tuple []) mh):zG [] loc Q mh:=⟨big_of (Nat.zero_le _),h⟩
section
variable {a b c d e:ME}
theorem tup1_i(h:a loc (λv mh=>Q (.tuple [v]) mh) mh):zG [a] loc Q mh:=by
 have e:(λv mh=>Q (.tuple [v]) mh)=λv mh=>[v].length<=BIG/\Q (.tuple [v]) mh:=by funext v mh;simp[BIG]
 rw[e] at h;exact h
theorem tup2_i(h:a loc (λv mh=>b loc (λw mh=>Q (.tuple [v,w]) mh) mh) mh):zG [a,b] loc Q mh:=by
 have e:(λv mh=>b loc (λw mh=>Q (.tuple [v,w]) mh) mh)=λv mh=>b loc (λw mh=>[v,w].length<=BIG/\Q (.tuple [v,w]) mh) mh:=by funext v mh;congr 1;funext w mh;simp[BIG]
 rw[e] at h;exact h
theorem tup3_i(h:a loc (λv mh=>b loc (λw mh=>c loc (λx mh=>Q (.tuple [v,w,x]) mh) mh) mh) mh):zG [a,b,c] loc Q mh:=by
 have e:(λv mh=>b loc (λw mh=>c loc (λx mh=>Q (.tuple [v,w,x]) mh) mh) mh)=λv mh=>b loc (λw mh=>c loc (λx mh=>[v,w,x].length<=BIG/\Q (.tuple [v,w,x]) mh) mh) mh:=by
  funext v mh;congr 1;funext w mh;congr 1;funext x mh;simp[BIG]
 rw[e] at h;exact h
theorem tup5_i(h:a loc (λv mh=>b loc (λw mh=>c loc (λx mh=>d loc (λy mh=>e loc (λz mh=>Q (.tuple [v,w,x,y,z]) mh) mh) mh) mh) mh) mh):zG [a,b,c,d,e] loc Q mh:=by
 have e':(λv mh=>b loc (λw mh=>c loc (λx mh=>d loc (λy mh=>e loc (λz mh=>Q (.tuple [v,w,x,y,z]) mh) mh) mh) mh) mh)=λv mh=>b loc (λw mh=>c loc (λx mh=>d loc (λy mh=>e loc (λz mh=>[v,w,x,y,z].length<=BIG/\Q (.tuple [v,w,x,y,z]) mh) mh) mh) mh) mh:=by
  funext v mh;congr 1;funext w mh;congr 1;funext x mh;congr 1;funext y mh;congr 1;funext z mh;simp[BIG]
 rw[e'] at h;exact h
theorem lst0_i{n:Nat}(hn:mh.length=n)(h:Q (.ref n) (mh++[.list []])):vy [] loc Q mh:=by subst hn;exact⟨big_of (Nat.zero_le _),h⟩
noncomputable def Ka(Q:MV->MH->Prop)(o:MO)(mh:MH):Prop:=Q (.ref mh.length) (mh++[o])
theorem new_i{n:Nat}{o:MO}(hn:mh.length=n)(h:Q (.ref n) (mh++[o])):Ka Q o mh:=by subst hn;exact h
theorem lst1_i(h:a loc (λv mh=>Ka Q (.list [v]) mh) mh):vy [a] loc Q mh:=by
 have e:(λv mh=>Ka Q (.list [v]) mh)=λv mh=>[v].length<=BIG/\Q (.ref mh.length) (mh++[.list [v]]):=by funext v mh;simp[BIG,Ka]
 rw[e] at h;exact h
theorem lst2_i(h:a loc (λv mh=>b loc (λw mh=>Ka Q (.list [v,w]) mh) mh) mh):vy [a,b] loc Q mh:=by
 have e:(λv mh=>b loc (λw mh=>Ka Q (.list [v,w]) mh) mh)=λv mh=>b loc (λw mh=>[v,w].length<=BIG/\Q (.ref mh.length) (mh++[.list [v,w]])) mh:=by funext v mh;congr 1;funext w mh;simp[BIG,Ka]
 rw[e] at h;exact h
theorem dict0_i{n:Nat}(hn:mh.length=n)(h:Q (.ref n) (mh++[.idict []])):tR loc Q mh:=by subst hn;exact h
noncomputable def zi6(k w:MV)(Q:MV->MH->Prop)(mh:MH):Prop:=match k with
 |.int i=>Q (.ref mh.length) (mh++[.idict [(i,w)]])
 |_=>False
theorem newd_i{n:Nat}{i:Int}{w:MV}(hn:mh.length=n)(h:Q (.ref n) (mh++[.idict [(i,w)]])):zi6 (.int i) w Q mh:=by subst hn;exact h
theorem zf3{k w:MV}{Q:MV->MH->Prop}{mh:MH}:zi6 k w Q mh = ∃ks:List (Int×MV),[(k,w)]=ks.map (λp=>(MV.int p.1,p.2))/\(ks.map (·.1)).Nodup/\Q (.ref mh.length) (mh++[.idict ks]):=by
 refine propext ⟨λh=>?_,?_⟩
 ·cases k<;>first|exact h.elim|exact⟨[(_,w)],rfl,by simp,h⟩
 ·rintro⟨ks,e,-,h⟩
  cases ks with
  |nil=>cases e
  |cons p r=>
   obtain⟨i,w'⟩:=p
   cases r with
   |nil=>cases e;exact h
   |cons=>cases e
theorem dict1_i(h:a loc (λk mh=>b loc (λw mh=>zi6 k w Q mh) mh) mh):Kc [(a,b)] loc Q mh:=by
 simp only[zf3] at h;exact h
variable {t:MF}{cl name:Str}{mo:ME}{r:Nat}{fs:List (Str×MV)}{vs:List MV}
theorem self_i{k:MV->MH->Prop}(h:mh[r]?=some (.inst cl fs))(h2:uN fs name=none)(q:k (.ref r) mh):zih cl name k (.ref r) mh:=⟨r,fs,rfl,h,h2,q⟩
theorem fld_i{x:MV}(h:mh[r]?=some (.inst cl fs))(h2:uN fs name=some x)(q:Q x mh):zmt cl name Q (.ref r) mh:=⟨r,fs,x,rfl,h,h2,q⟩
theorem lself_i{k:MV->MH->Prop}(h:mh[r]?=some (.list vs))(q:k (.ref r) mh):zmi k (.ref r) mh:=⟨r,vs,rfl,h,q⟩
end
section
variable {m n:ME}{t u:MT}{ts:List MT}{ms:List ME}{op op1 op2:CmpOp}{m1 m2:ME}
theorem ls0_i{Q:List MV->MH->Prop}(h:Q [] mh):wJ [] loc Q mh:=h
theorem ls1_i{a:ME}{Q:List MV->MH->Prop}(h:a loc (λv mh=>Q [v] mh) mh):wJ [a] loc Q mh:=h
theorem ls2_i{a b:ME}{Q:List MV->MH->Prop}(h:a loc (λv mh=>b loc (λw mh=>Q [v,w] mh) mh) mh):wJ [a,b] loc Q mh:=h
theorem ls3_i{a b c:ME}{Q:List MV->MH->Prop}(h:a loc (λv mh=>b loc (λw mh=>c loc (λx mh=>Q [v,w,x] mh) mh) mh) mh):wJ [a,b,c] loc Q mh:=h
theorem ls4_i{a b c d:ME}{Q:List MV->MH->Prop}(h:a loc (λv mh=>b loc (λw mh=>c loc (λx mh=>d loc (λy mh=>Q [v,w,x,y] mh) mh) mh) mh) mh):wJ [a,b,c,d] loc Q mh:=h
theorem next_i{mi:MI}{t:Tgt}{test:MT}{inner:CI}{acc:MO}{QC:Loc->MO->MH->Prop}(h:mi loc (λx mh=>∃vs,vf x vs t test inner vs loc acc QC mh) mh):jP mi t test inner loc acc QC mh:=h
theorem pairs0_i{Q:List (MV×MV)->MH->Prop}(h:Q [] mh):te [] loc Q mh:=h
theorem pairsc_i{k v:ME}{r:List (ME×ME)}{Q:List (MV×MV)->MH->Prop}(h:k loc (λkv mh=>v loc (λvv mh=>te r loc (λrest mh=>Q ((kv,vv)::rest) mh) mh) mh) mh):te ((k,v)::r) loc Q mh:=h
theorem dicts_i{ps:List (ME×ME)}(h:te ps loc (λkvs mh=>∃ks:List (Str×MV),kvs=ks.map (λp=>(MV.str p.1,p.2))/\(ks.map (·.1)).Nodup/\Q (.ref mh.length) (mh++[.sdict ks])) mh):Wv ps loc Q mh:=h
theorem and1_i(h:m loc Q mh):Yp [m] loc Q mh:=h
theorem andc_i(h:m loc (Jr λb mh=>if b=true then Yp (n::ms) loc Q mh else Q (.bool false) mh) mh):Yp (m::n::ms) loc Q mh:=h
theorem tand0_i(h:QB true mh):j1 [] loc QB mh:=h
noncomputable def ze6(ts:List MT)(loc:Loc)(QB:Bool->MH->Prop)(b:Bool)(mh:MH):Prop:=if b=true then j1 ts loc QB mh else QB false mh
theorem tandc_i(h:t loc (ze6 ts loc QB) mh):j1 (t::ts) loc QB mh:=h
theorem adt_i(h:j1 ts loc QB mh):ze6 ts loc QB true mh:=h
theorem adf_i(h:QB false mh):ze6 ts loc QB false mh:=h
theorem adn_i(h:QB false mh):ze6 ts loc QB (!true) mh:=h
theorem adm_i(h:j1 ts loc QB mh):ze6 ts loc QB (!false) mh:=h
theorem tor0_i(h:QB false mh):tOr [] loc QB mh:=h
noncomputable def orK(ts:List MT)(loc:Loc)(QB:Bool->MH->Prop)(b:Bool)(mh:MH):Prop:=if b=true then QB true mh else tOr ts loc QB mh
theorem torc_i(h:t loc (orK ts loc QB) mh):tOr (t::ts) loc QB mh:=h
theorem zod(h:QB true mh):orK ts loc QB true mh:=h
theorem orf_i(h:tOr ts loc QB mh):orK ts loc QB false mh:=h
theorem orn_i(h:tOr ts loc QB mh):orK ts loc QB (!true) mh:=h
theorem zoe(h:QB true mh):orK ts loc QB (!false) mh:=h
noncomputable def zi5(QB:Bool->MH->Prop)(b:Bool)(mh:MH):Prop:=QB (!b) mh
theorem tnot_i(h:t loc (zi5 QB) mh):Zu t loc QB mh:=h
theorem nkt_i(h:QB false mh):zi5 QB true mh:=h
theorem nkf_i(h:QB true mh):zi5 QB false mh:=h
noncomputable def ifK(m n:MS)(loc:Loc)(Q:Fl->Loc->MH->Prop)(b:Bool)(mh:MH):Prop:=if b=true then m loc Q mh else n loc Q mh
theorem sif_i{m n:MS}(h:t loc (ifK m n loc QS) mh):sIf t m n loc QS mh:=h
theorem sis_i{m n:MS}(h:m loc QS mh):ifK m n loc QS true mh:=h
theorem sin_i{m n:MS}(h:n loc QS mh):ifK m n loc QS false mh:=h
theorem snt_i{m n:MS}(h:n loc QS mh):ifK m n loc QS (!true) mh:=h
theorem snf_i{m n:MS}(h:m loc QS mh):ifK m n loc QS (!false) mh:=h
end
section
variable {x y:Int}{s z:Str}{a b:MV}{p q:Bool}
theorem ceqi_i(h:QP (decide (x=y))):eqM (.int x) (.int y) QP mh:=h
theorem ceqs_i(h:QP (decide (s=z))):eqM (.str s) (.str z) QP mh:=h
theorem cis0_i(h:QP true):isM .none .none QP:=h
theorem cisi_i(h:QP false):isM (.int x) .none QP:=h
theorem cist_i{vs:List MV}(h:QP false):isM (.tuple vs) .none QP:=h
theorem cisb_i(h:QP (p == q)):isM (.bool p) (.bool q) QP:=h
end
noncomputable abbrev inO(a:MV)(o:MO)(QP:Bool->Prop)(mh:MH):Prop:=Ua (some o) a QP mh
section
variable {k x:Int}{r m:Nat}{is:List Int}{ks:List (Int×MV)}{ss:List (Str×MV)}{a v w:MV}{o:MO}{s:Str}{vs:List MV}{n:Nat}{P:MV->Prop}
theorem inr_i(h:mh[r]?=some o)(q:inO a o QP mh):inM a (.ref r) QP mh:=by
 show Ua mh[r]? a QP mh
 rw[h];exact q
theorem inl_i(q:QP (decide (k∈is))):inO (.int k) (.list (is.map .int)) QP mh:=⟨is,rfl,Eq.mpr (congrArg QP (decide_eq_decide.mpr Iff.rfl)) q⟩
theorem ind_i(q:QP (ks.any λkv=>kv.1=k)):inO (.int k) (.idict ks) QP mh:=q
noncomputable abbrev zaa(o:MO)(i:MV)(P:MV->Prop):Prop:=Zj (some o) i P
theorem idxr_i(h:mh[r]?=some o)(q:zaa o a P):W5 (.ref r) a P mh:=by
 show Zj mh[r]? a P
 rw[h];exact q
theorem small_of{n:Int}(h : -1000000<=n)(h2:n<=1000000):z7 n:=by unfold z7;lia
theorem small_n{n:Nat}(h:n<=1000000):z7 (n:Int):=small_of (Int.le_trans (by decide) (Int.natCast_nonneg n)) (Int.ofNat_le.mpr h)
theorem ile{a b:Int}(h:decide (a<=b)=true):a<=b:=of_decide_eq_true h
theorem small_d{i:Int}(h:(decide (-1000000<=i) && decide (i<=1000000))=true):z7 i:=have k:=Bool.and_eq_true_iff.mp h;small_of (ile k.1) (ile k.2)
theorem idx_nat{vs:List MV}{n:Nat}:jc vs (n:Int)=vs[n]?:=by unfold jc;rw[if_pos (Int.natCast_nonneg n)];rfl
theorem ln_i(h1:vs[n]?=some v)(h2:n<=1000000)(h:P v):zaa (.list vs) (.int (n:Int)) P:=⟨small_of (Int.neg_ofNat_le_natCast 1000000 n) (Nat.ToInt.of_le rfl rfl h2),v,idx_nat.trans h1,h⟩
theorem l0_i(h1:vs[0]?=some v)(h:P v):zaa (.list vs) (.int 0) P:=ln_i (n:=0) h1 (Nat.zero_le 1000000) h
theorem lm_i(h1:vs.getLast?=some v)(h:P v):zaa (.list vs) (.int (-1)) P:=by
 refine⟨small_of (by decide) (Int.neg_ofNat_le_ofNat 1 1000000),v,?_,h⟩
 rw[<-h1,List.getLast?_eq_getElem?]
 unfold jc
 rw[if_neg (by lia)]
 cases vs with
 |nil=>cases h1
 |cons a r=>rw[if_pos (by simp;lia)];congr 1;simp;lia
theorem di_i(h1:wR ks x=some v)(h:P v):zaa (.idict ks) (.int x) P:=⟨v,h1,h⟩
theorem ds_i(h1:wR ss s=some v)(h:P v):zaa (.sdict ss) (.str s) P:=⟨v,h1,h⟩
noncomputable abbrev zbl(o:MO)(r:Nat)(i v:MV)(QH:MH->Prop)(mh:MH):Prop:=ZW r (some o) i v QH mh
theorem setr_i(h:mh[r]?=some o)(q:zbl o r a v QH mh):zfj (.ref r) a v QH mh:=by
 show ZW r mh[r]? a v QH mh
 rw[h];exact q
theorem setl_i(h1:n<vs.length)(h2:n<=1000000)(q:QH (mh.set r (.list (vs.set n v)))):zbl (.list vs) r (.int (n:Int)) v QH mh:=⟨small_of (Int.neg_ofNat_le_natCast 1000000 n) (Nat.ToInt.of_le rfl rfl h2),n,h1,.inl rfl,q⟩
theorem setm_i(h2:vs.length<=1000000)(q:QH (mh.set r (.list (vs++[v])))):zbl (.list (vs++[w])) r (.int (-1)) v QH mh:=⟨small_of (by decide) (Int.neg_ofNat_le_ofNat 1 1000000),vs.length,by simp,.inr ⟨by exact(λ{a}=>Int.sign_eq_neg_one_iff_neg.mp) rfl,by simp;exact Eq.symm ((λ{b a c}=>Int.sub_eq_iff_eq_add'.mp) rfl)⟩,by rw[List.set_append_right _ _ (Nat.le_refl _)];simpa using q⟩
theorem setd_i{gs:List (Int×MV)}(h1:ks.length<=BIG)(h2:xi ks x v=gs)(q:QH (mh.set r (.idict gs))):zbl (.idict ks) r (.int x) v QH mh:=by subst h2;exact⟨h1,q⟩
theorem sets_i{gs:List (Str×MV)}(h1:ss.length<=BIG)(h2:xi ss s v=gs)(q:QH (mh.set r (.sdict gs))):zbl (.sdict ss) r (.str s) v QH mh:=by subst h2;exact⟨h1,q⟩
noncomputable abbrev zjd(o:MO)(Q:MV->MH->Prop)(mh:MH):Prop:=VU (some o) Q mh
theorem lenr_i(h:mh[r]?=some o)(q:zjd o Q mh):xR [.ref r] Q mh:=by
 show VU mh[r]? Q mh
 rw[h];exact q
theorem lenl_i(h1:vs.length<=BIG)(h:Q (.int vs.length) mh):zjd (.list vs) Q mh:=⟨h1,h⟩
theorem lend_i(h1:ks.length<=BIG)(h:Q (.int ks.length) mh):zjd (.idict ks) Q mh:=⟨h1,h⟩
noncomputable def zma(o:MO)(Q:MV->MH->Prop)(mh:MH):Prop:=match o with
 |.list vs=>vs.length<=BIG/\Q (.tuple vs) mh
 |.idict ks=>ks.length<=BIG/\Q (.tuple (ks.map λp=>MV.int p.1)) mh
 |_=>False
theorem jE{vs:List MV}(h:mh[r]?=some o)(q:tU (some o) vs):wm (.ref r) vs mh:=by
 show tU mh[r]? vs
 rw[h];exact q
theorem tupr_i(h:mh[r]?=some o)(q:zma o Q mh):xw [.ref r] Q mh:=by
 cases o with
 |list vs=>exact⟨_,jE h ⟨rfl,q.1⟩,q.2⟩
 |idict ks=>exact⟨_,jE h ⟨rfl,q.1⟩,q.2⟩
 |_=>exact False.elim q
theorem tupl_i(h1:vs.length<=BIG)(h:Q (.tuple vs) mh):zma (.list vs) Q mh:=⟨h1,h⟩
end
section
variable {p:Prop}{A B:Prop}{bb:Bool}
theorem tt_i(h:A):if true=true then A else B:=h
theorem ff_i(h:B):if false=true then A else B:=h
theorem zof(h:B):if (!true)=true then A else B:=h
theorem zog(h:A):if (!false)=true then A else B:=h
theorem qR[Decidable p](hp:p)(h:A):if decide p=true then A else B:=by rw[decide_eq_true hp];exact h
theorem VG[Decidable p](hp:¬p)(h:B):if decide p=true then A else B:=by rw[decide_eq_false hp];exact h
theorem qB[Decidable p](hp:p)(h:B):if (!decide p)=true then A else B:=by rw[decide_eq_true hp];exact h
theorem zij[Decidable p](hp:¬p)(h:A):if (!decide p)=true then A else B:=by rw[decide_eq_false hp];exact h
theorem syes_i{a:Str}(h:A):if decide (a=a)=true then A else B:=qR rfl h
theorem sno_i{a b:String}(hn:decide (a=b)=false)(h:B):if decide ((a:Str)=(b:Str))=true then A else B:=VG (λe=>of_decide_eq_false hn (wB.mp e)) h
theorem isy_i{m n:MS}{loc:Loc}{Q:Fl->Loc->MH->Prop}{mh:MH}{a:Str}(h:m loc Q mh):ifK m n loc Q (decide (a=a)) mh:=syes_i h
theorem isn_i{m n:MS}{loc:Loc}{Q:Fl->Loc->MH->Prop}{mh:MH}{a b:String}(hn:decide (a=b)=false)(h:n loc Q mh):ifK m n loc Q (decide ((a:Str)=(b:Str))) mh:=sno_i hn h
theorem Js(hp:bb=false)(h:B):if bb=true then A else B:=by rw[hp];exact h
theorem ZF(hp:bb=true)(h:B):if (!bb)=true then A else B:=by rw[hp];exact h
theorem Vb(hp:bb=false)(h:A):if (!bb)=true then A else B:=by rw[hp];exact h
theorem sa[Decidable p](h1:p->A)(h2:¬p->B):if decide p=true then A else B:=by
 by_cases h:p
 ·rw[decide_eq_true h];exact h1 h
 ·rw[decide_eq_false h];exact h2 h
theorem Wp[Decidable p](h1:¬p->A)(h2:p->B):if (!decide p)=true then A else B:=by
 by_cases h:p
 ·rw[decide_eq_true h];exact h2 h
 ·rw[decide_eq_false h];exact h1 h
end
section
variable {r t:Nat}{i:Int}{v w:MV}{vs ws:List MV}{x y:Int}{s:Str}{ks:List (Int×MV)}{ss:List (Str×MV)}{n:Nat}{ma mi:ME}{k:MV->Prop}
theorem atup2_i{x y:Str}(h:QL (upd (upd loc x v) y w) mh):tu [x,y] (.tuple [v,w]) QL loc mh:=⟨_,rfl,rfl,h⟩
theorem put_i{cl name:Str}{fs gs:List (Str×MV)}(h:mh[r]?=some (.inst cl fs))(h1:fs.length<=900)(h2:xi fs name v=gs)(q:QH (mh.set r (.inst cl gs))):zmg cl name v QH (.ref r) mh:=⟨r,fs,rfl,h,h1,h2▸q⟩
theorem t0_i(h:k v):W5 (.tuple (v::vs)) (.int 0) k mh:=⟨small_of (Int.neg_ofNat_le_ofNat 1000000 0) (Int.zero_le_ofNat 1000000),v,rfl,h⟩
theorem t1_i(h:k w):W5 (.tuple (v::w::vs)) (.int 1) k mh:=⟨small_of (Int.neg_ofNat_le_ofNat 1000000 1) (by simp),w,rfl,h⟩
theorem t2_i{u:MV}(h:k u):W5 (.tuple (v::w::u::vs)) (.int 2) k mh:=⟨small_of (Int.neg_ofNat_le_ofNat 1000000 2) (by simp),u,rfl,h⟩
theorem tn_i(h1:vs[n]?=some v)(h2:n<=1000000)(h:k v):W5 (.tuple vs) (.int (n:Int)) k mh:=⟨small_of (Int.neg_ofNat_le_natCast 1000000 n) (Nat.ToInt.of_le rfl rfl h2),v,idx_nat.trans h1,h⟩
theorem addt_i(h1:vs.length+ws.length<=BIG)(h:Q (.tuple (vs++ws)) mh):uo (.tuple vs) (.tuple ws) Q mh:=⟨h1,h⟩
theorem addl_i{m:Nat}(e1:mh[r]?=some (.list vs))(e2:mh[t]?=some (.list ws))(h1:vs.length+ws.length<=BIG)(hn:mh.length=m)(h:Q (.ref m) (mh++[.list (vs++ws)])):uo (.ref r) (.ref t) Q mh:=by subst hn;exact⟨_,_,e1,e2,h1,h⟩
theorem muli_i(h1:z7 x)(h2:z7 y)(h:Q (.int (x * y)) mh):JS (.int x) (.int y) Q mh:=⟨h1,h2,h⟩
theorem mull_i{m:Nat}(e:mh[r]?=some (.list [v]))(h1:n<=BIG)(hn:mh.length=m)(h:Q (.ref m) (mh++[.list (List.replicate n v)])):JS (.ref r) (.int (n:Int)) Q mh:=by subst hn;exact⟨v,e,by exact Int.natCast_nonneg n,by exact(λ{m n}=>Int.ofNat_le.mpr) h1,h⟩
theorem modi_i(h1:0<y)(h:Q (.int (x % y)) mh):Wt (.int x) (.int y) Q mh:=⟨h1,h⟩
theorem divi_i(h1:0<y)(h2:z7 x)(h3:z7 y)(h:Q (.int (x / y)) mh):zca (.int x) (.int y) Q mh:=⟨h1,h2,h3,h⟩
theorem lent_i(h1:vs.length<=BIG)(h:Q (.int vs.length) mh):xR [.tuple vs] Q mh:=⟨h1,h⟩
theorem append_i(e:mh[r]?=some (.list vs))(h1:vs.length<=BIG)(h:Q .none (mh.set r (.list (vs++[v])))):xz [.ref r,v] Q mh:=⟨vs,e,h1,h⟩
theorem pop_i(e:mh[r]?=some (.list (vs++[v])))(h1:vs.length<=BIG)(h:Q v (mh.set r (.list vs))):JR [.ref r] Q mh:=⟨vs,v,e,h1,h⟩
theorem extl_i(e:mh[r]?=some (.list vs))(e2:mh[t]?=some (.list ws))(h1:vs.length+ws.length<=BIG)(h:Q .none (mh.set r (.list (vs++ws)))):vW [.ref r,.ref t] Q mh:=⟨vs,ws,e,e2,h1,h⟩
theorem extr_i(e:mh[r]?=some (.list vs))(h1:z7 x)(h2:z7 y)(h3:vs.length+(y-x).toNat<=BIG)(h:Q .none (mh.set r (.list (vs++wd x y)))):vW [.ref r,.range x y] Q mh:=⟨vs,e,h1,h2,h3,h⟩
theorem tupt_i(h1:vs.length<=BIG)(h:Q (.tuple vs) mh):xw [.tuple vs] Q mh:=⟨vs,⟨rfl,h1⟩,h⟩
theorem tuprng_i(h1:z7 x)(h2:z7 y)(h3:(y-x).toNat<=BIG)(h:Q (.tuple (wd x y)) mh):xw [.range x y] Q mh:=⟨_,⟨h1,h2,h3,rfl⟩,h⟩
theorem listr_i{m:Nat}(h1:z7 x)(h2:z7 y)(h3:(y-x).toNat<=BIG)(hn:mh.length=m)(h:Q (.ref m) (mh++[.list (wd x y)])):qG [.range x y] Q mh:=by subst hn;exact⟨h1,h2,h3,h⟩
theorem itl_i(e:mh[r]?=some (.list vs))(h:QI (.val (.ref r)) mh):itI QI (.ref r) mh:=⟨⟨vs,e⟩,h⟩
theorem itt_i(h:QI (.val (.tuple vs)) mh):itI QI (.tuple vs) mh:=⟨⟨vs,rfl⟩,h⟩
theorem itr_i(h1:z7 x)(h2:z7 y)(h:QI (.val (.range x y)) mh):itI QI (.range x y) mh:=⟨⟨_,h1,h2,rfl⟩,h⟩
section
variable {a b c d e:Str}{u₁ u₂ u₃ u₄ u₅:MV}{m:MS}
noncomputable def Kq(Q:MV->MH->Prop)(fl:Fl)(_:Loc)(mh:MH):Prop:=match fl with|.next=>Q .none mh|.ret v=>Q v mh
theorem endr_i(h:Q v mh):Kq Q (.ret v) loc mh:=h
theorem endn_i(h:Q .none mh):Kq Q .next loc mh:=h
theorem tj(h:m (upd (λ_=>none) a u₁) (Kq Q) mh):yQ [a] m [u₁] Q mh:=⟨rfl,h⟩
theorem xA(h:m (upd (upd (λ_=>none) a u₁) b u₂) (Kq Q) mh):yQ [a,b] m [u₁,u₂] Q mh:=⟨rfl,h⟩
theorem jF(h:m (upd (upd (upd (λ_=>none) a u₁) b u₂) c u₃) (Kq Q) mh):yQ [a,b,c] m [u₁,u₂,u₃] Q mh:=⟨rfl,h⟩
theorem Kk(h:m (upd (upd (upd (upd (λ_=>none) a u₁) b u₂) c u₃) d u₄) (Kq Q) mh):yQ [a,b,c,d] m [u₁,u₂,u₃,u₄] Q mh:=⟨rfl,h⟩
end
theorem uk{a b:String}(h:decide (a=b)=false):(a:Str)≠(b:Str):=λe=>of_decide_eq_false h (wB.mp e)
theorem hit{l:Loc}{x:Str}{v:MV}:upd l x v x=some v:=if_pos rfl
theorem miss{l:Loc}{a b:String}{w:MV}{o:Option MV}(h:decide (a=b)=false)(k:l a=o):upd l b w a=o:=(if_neg (uk h)).trans k
theorem restr_i'{fr:List Str}{x:Str}{o:Option MV}(h:x∈fr)(k:loc x=o):We fr loc x=o:=(if_pos h).trans k
theorem len_set{mh:MH}{r n:Nat}{o:MO}(h:mh.length=n):(mh.set r o).length=n:=by simp[h]
theorem len_app{mh:MH}{n:Nat}{o:MO}(h:mh.length=n):(mh++[o]).length=n+1:=by simp[h]
theorem got_n{mh:MH}{n:Nat}{o:MO}(h:mh.length=n):(mh++[o])[n]?=some o:=by subst h;simp
theorem got{mh:MH}{o:MO}:(mh++[o])[mh.length]?=some o:=List.getElem?_concat_length
theorem got_old{mh l:MH}{o:MO}(h:mh[r]?=some o):(mh++l)[r]?=some o:=by rw[List.getElem?_append_left (List.getElem?_eq_some_iff.mp h).1];exact h
theorem got_set{mh:MH}{o o':MO}(h:mh[r]?=some o'):(mh.set r o)[r]?=some o:=by rw[List.getElem?_set_self (List.getElem?_eq_some_iff.mp h).1]
noncomputable def Df(a b:Nat):Prop:=a≠b
theorem df_ne{a b:Nat}(h:Df a b):a≠b:=h
theorem df_ne'{a b:Nat}(h:Df b a):a≠b:=Ne.symm h
theorem got_ne{mh:MH}{o o':MO}(hn:r≠t)(h:mh[t]?=some o'):(mh.set r o)[t]?=some o':=by rw[List.getElem?_set_ne hn];exact h
theorem fhit{x:Str}{v:MV}{fs:List (Str×MV)}:uN ((x,v)::fs) x=some v:=by simp[uN]
theorem fmiss{a b:String}{v:MV}{fs:List (Str×MV)}{o:Option MV}(h:decide (b=a)=false)(k:uN fs a=o):uN (((b:Str),v)::fs) a=o:=by
 rw[<-k];simp[uN,List.find?_cons,uk h]
theorem fnil{x:Str}:uN [] x=none:=rfl
theorem khit{x:Str}{v w:MV}{fs:List (Str×MV)}:xi ((x,v)::fs) x w=(x,w)::fs:=if_pos rfl
theorem kmiss{a b:String}{v w:MV}{fs gs:List (Str×MV)}(h:decide (b=a)=false)(k:xi fs a w=gs):xi (((b:Str),v)::fs) a w=((b:Str),v)::gs:=by
 rw[<-k,s9,if_neg (uk h)]
theorem knil{x:Str}{w:MV}:xi [] x w=[(x,w)]:=rfl
theorem ahit{x:Str}{v:MV}{fs:List (Str×MV)}:wR ((x,v)::fs) x=some v:=by simp[wR]
theorem amiss{a b:String}{v:MV}{fs:List (Str×MV)}{o:Option MV}(h:decide (b=a)=false)(k:wR fs (a:Str)=o):wR (((b:Str),v)::fs) (a:Str)=o:=by
 rw[<-k];simp[wR,List.find?_cons,uk h]
theorem at0{v:MV}{vs:List MV}:(v::vs)[0]?=some v:=rfl
theorem at_last{α:Type}{f:α->MV}{l:List α}{a:α}(h:l.getLast?=some a):(l.map f).getLast?=some (f a):=by rw[List.getLast?_map,h];rfl
theorem at_map{α:Type}{f:α->MV}{l:List α}{n:Nat}{a:α}(h:l[n]?=some a):(l.map f)[n]?=some (f a):=by rw[List.getElem?_map,h];rfl
end
end
section
variable {loc:Loc}{mh:MH}{Q:MV->MH->Prop}{QL:Loc->MH->Prop}{QI:MIt->MH->Prop}{a l m:ME}{x y z u w:MV}{r n:Nat}{vs ws:List MV}{i:Int}
noncomputable def zl9(Q:MV->MH->Prop)(v:MV)(mh:MH):Prop:=∃x y z,v=.tuple [x,y,z]/\Q (.tuple [x,y]) mh
theorem two_i(h:a loc (zl9 Q) mh):zi9 a loc Q mh:=h
theorem two3_i(q:Q (.tuple [x,y]) mh):zl9 Q (.tuple [x,y,z]) mh:=⟨x,y,z,rfl,q⟩
noncomputable def ziy(Q:MV->MH->Prop)(a v:MV)(mh:MH):Prop:=∃i:Int,v=.int i/\0<=i/\∃r vs,a=.ref r/\mh[r]?=some (.list vs)/\vs.length<=BIG/\Q (.ref mh.length) (mh++[.list (vs.drop i.toNat)])
noncomputable def ziz(Q:MV->MH->Prop)(a v:MV)(mh:MH):Prop:=∃i:Int,v=.int i/\0<=i/\∃r vs,a=.ref r/\mh[r]?=some (.list vs)/\vs.length<=BIG/\Q (.ref mh.length) (mh++[.list (vs.take i.toNat)])
theorem slo_i(h:a loc (λa mh=>l loc (ziy Q a) mh) mh):td a (some l) none loc Q mh:=by
 have e:(λ(a:MV) (mh:MH)=>l loc (ziy Q a) mh)=λa mh=>l loc (λv mh=>∃i:Int,v=.int i/\0<=i/\((some i:Option Int)=none\/(none:Option Int)=none)/\∃r vs,a=.ref r/\mh[r]?=some (.list vs)/\vs.length<=BIG/\Q (.ref mh.length) (mh++[.list (vs.drop i.toNat)])) mh:=by
  funext a mh
  congr 1
  funext v mh
  exact propext ⟨λ⟨i,e,h0,h⟩=>⟨i,e,h0,.inr rfl,h⟩,λ⟨i,e,h0,_,h⟩=>⟨i,e,h0,h⟩⟩
 rw[e] at h
 exact h
theorem shi_i(h:a loc (λa mh=>l loc (ziz Q a) mh) mh):td a none (some l) loc Q mh:=by
 have e:(λ(a:MV) (mh:MH)=>l loc (ziz Q a) mh)=λa mh=>l loc (λv mh=>∃i:Int,v=.int i/\0<=i/\((none:Option Int)=none\/(some i:Option Int)=none)/\∃r vs,a=.ref r/\mh[r]?=some (.list vs)/\vs.length<=BIG/\Q (.ref mh.length) (mh++[.list (vs.take i.toNat)])) mh:=by
  funext a mh
  congr 1
  funext v mh
  exact propext ⟨λ⟨i,e,h0,h⟩=>⟨i,e,h0,.inl rfl,h⟩,λ⟨i,e,h0,_,h⟩=>⟨i,e,h0,h⟩⟩
 rw[e] at h
 exact h
theorem sloe_i(h0:0<=i)(e:mh[r]?=some (.list vs))(hb:vs.length<=BIG)(hn:mh.length=n)(q:Q (.ref n) (mh++[.list (vs.drop i.toNat)])):ziy Q (.ref r) (.int i) mh:=by subst hn;exact⟨i,rfl,h0,r,vs,rfl,e,hb,q⟩
theorem shie_i(h0:0<=i)(e:mh[r]?=some (.list vs))(hb:vs.length<=BIG)(hn:mh.length=n)(q:Q (.ref n) (mh++[.list (vs.take i.toNat)])):ziz Q (.ref r) (.int i) mh:=by subst hn;exact⟨i,rfl,h0,r,vs,rfl,e,hb,q⟩
theorem atup5_i{a b c d e:Str}{v1 v2 v3 v4 v5:MV}(h:QL (upd (upd (upd (upd (upd loc a v1) b v2) c v3) d v4) e v5) mh):tu [a,b,c,d,e] (.tuple [v1,v2,v3,v4,v5]) QL loc mh:=⟨_,rfl,rfl,h⟩
noncomputable def enI(QI:MIt->MH->Prop)(v:MV)(mh:MH):Prop:=∃r ws,[v]=[MV.ref r]/\mh[r]?=some (.list ws)/\QI (.enum r) mh
theorem enum_i(h:m loc (enI QI) mh):Wu m loc QI mh:=h
theorem enr_i(e:mh[r]?=some (.list ws))(q:QI (.enum r) mh):enI QI (.ref r) mh:=⟨r,ws,rfl,e,q⟩
theorem zmb{is:List Int}(e:mh[r]?=some (.list (is.map .int)))(q:Q (.int is.sum) mh):zb5 [.ref r] Q mh:=⟨is,e,q⟩
end
end Mine.Internal
end
section
section
namespace Mine.Internal.H
noncomputable abbrev pw:=PySem.Challenge.pw_pc0038_01
noncomputable def lf:Life:=(@PySem.Life.mk [] [] [] 0 [] [] false #[] [] 0 false false false 0 [2000,10,10] false 0 true [] [] 0 false)
noncomputable abbrev kh:=PyData.keyHash
noncomputable def dt(n:Str):Arguments×List Stmt×Scope:=(pw.theDef n).getD (default,[],default)
noncomputable def dm(c n:Str):Arguments×List Stmt×Scope:=match theClassW pw c with
 |some x=>(theDefIn x.2.1 n).getD (default,[],default)
 |none=>(default,[],default)
noncomputable def fn(n q:Str)(s:Arguments×List Stmt×Scope)(cl:List (Str×Addr))(m:Str)(t c:Nat)(ct:Value):Obj:=⟨.type "function",none,.func ⟨n,q,s.1,.stmts (s.2.1),s.2.2,3,cl,.none,.none,.none,.str m t,none,.ref c,ct,0⟩,#[]⟩
noncomputable def fr(n q:Str)(s:Arguments×List Stmt×Scope):Obj:=⟨.none,none,.func ⟨n,q,s.1,.stmts (s.2.1),s.2.2,0,[],.none,.none,.none,.none,none,.none,.none,0⟩,#[]⟩
noncomputable def co(n q:Str)(t:Nat)(ln ac:Int)(r:Nat)(x y z w:Value)(u:Nat):Obj:=⟨.type "code",none,.fields #[.str n t,.str q (t+1),.str "/claim/cut.py" (t+2),.int ln 0,.int ac 0,.int 0 0,.int 0 0,.int 3 0,.ref r,.bool true,.int 181 0,.ref (r+1),x,y,z,w,.int u 0,.int ln 0,.str "/claim/cut.py" (u+1)],#[]⟩
noncomputable def tp(v:Array Value):Obj:=⟨.type "tuple",none,.seq v 0,#[]⟩
noncomputable def b0(P:Params):Obj:=tp #[]
noncomputable def b1(P:Params):Obj:=⟨.none,none,(.fields #[]),#[]⟩
noncomputable def b2(P:Params):Obj:=⟨(.type "code"),none,(.fields #[(.str "<module>" 182),(.str "<module>" 183),(.str "/claim/cut.py" 184),(.int 1 0),(.int 0 0),(.int 0 0),(.int 0 0),(.int 0 0),(.ref 11),(.bool false),(.int 181 0),(.ref 12),.none,.none,.none,.none,(.int 185 0),(.int 1 0),(.str "/claim/cut.py" 186)]),#[]⟩
noncomputable def b3(P:Params):Obj:=⟨(.type "frame"),none,.plain,#[(some (.ref 13)),(some (.ref 3)),(some (.ref 3)),none,(some (.str "__main__" 164)),none,(some (.ref 0))]⟩
noncomputable def hA(P:Params):Heap:=⟨⟨[boot_o_0 P,boot_o_1 P,boot_o_2 P,boot_o_3 P,boot_o_4 P,boot_o_5 P,boot_o_6 P,boot_o_7 P,boot_o_8 P,boot_o_9 P,boot_o_10 P,b0 P,b1 P,b2 P,b3 P]⟩,lf⟩
noncomputable def tr0(P:Params):BT:=(.node (boot_o_0 P) (.node (boot_o_1 P) (.node (boot_o_3 P) (.node (boot_o_7 P) .nil .nil) (.node (b0 P) .nil .nil)) (.node (boot_o_5 P) (.node (boot_o_9 P) .nil .nil) (.node (b2 P) .nil .nil))) (.node (boot_o_2 P) (.node (boot_o_4 P) (.node (boot_o_8 P) .nil .nil) (.node (b1 P) .nil .nil)) (.node (boot_o_6 P) (.node (boot_o_10 P) .nil .nil) (.node (b3 P) .nil .nil))))
noncomputable def b4(P:Params):Obj:=⟨(.type "dict"),none,(.dict #[⟨(kh P "__name__"),.str "__name__" 165,(.str "fdsolve.store" 301)⟩,⟨(kh P "__doc__"),.str "__doc__" 166,.none⟩,⟨(kh P "__package__"),.str "__package__" 167,.none⟩,⟨(kh P "__loader__"),.str "__loader__" 168,(.builtin "__main__.__loader__#opaque")⟩,⟨(kh P "__spec__"),.str "__spec__" 169,.none⟩,⟨(kh P "__annotations__"),.str "__annotations__" 170,(.ref 6)⟩,⟨(kh P "__builtins__"),.str "__builtins__" 171,(.ref 4)⟩,⟨(kh P "__file__"),.str "__file__" 173,(.str "/claim/cut.py" 172)⟩,⟨(kh P "__cached__"),.str "__cached__" 174,.none⟩,⟨(kh P "_wall"),.str "_wall" 193,(.ref 21)⟩,⟨(kh P "least"),.str "least" 202,(.ref 28)⟩,⟨(kh P "greatest"),.str "greatest" 209,(.ref 35)⟩,⟨(kh P "next_from"),.str "next_from" 219,(.ref 42)⟩,⟨(kh P "has"),.str "has" 227,(.ref 49)⟩,⟨(kh P "has_domains"),.str "has_domains" 228,(.ref 49)⟩,⟨(kh P "values"),.str "values" 238,(.ref 56)⟩,⟨(kh P "up_to"),.str "up_to" 244,(.ref 61)⟩,⟨(kh P "from_on"),.str "from_on" 250,(.ref 66)⟩,⟨(kh P "without"),.str "without" 258,(.ref 73)⟩,⟨(kh P "meet"),.str "meet" 271,(.ref 80)⟩,⟨(kh P "negation"),.str "negation" 281,(.ref 87)⟩,⟨(kh P "struck"),.str "struck" 291,(.ref 94)⟩,⟨(kh P "said_of"),.str "said_of" 300,(.ref 101)⟩] 23),#[]⟩
noncomputable def b5(P:Params):Obj:=⟨.none,none,(.fields #[(.int 1 0),(.int 0 0),(.ref 20),(.int 5 0),(.int 0 0),(.ref 27),(.int 7 0),(.int 0 0),(.ref 34),(.int 9 0),(.int 0 0),(.ref 41),(.int 14 0),(.int 0 0),(.ref 48),(.int 17 0),(.int 0 0),(.ref 55),(.int 22 0),(.int 0 0),(.ref 60),(.int 24 0),(.int 0 0),(.ref 65),(.int 26 0),(.int 0 0),(.ref 72),(.int 28 0),(.int 0 0),(.ref 79),(.int 39 0),(.int 0 0),(.ref 86),(.int 46 0),(.int 0 0),(.ref 93),(.int 53 0),(.int 0 0),(.ref 100)]),#[]⟩
noncomputable def b6(P:Params):Obj:=tp #[(.str "k" 190)]
noncomputable def b7(P:Params):Obj:=fr "_wall" "_wall" (dt "_wall")
noncomputable def b8(P:Params):Obj:=co "_wall" "_wall" 187 1 1 15 .none (.ref 17) (.ref 18) (.ref 19) 191
noncomputable def b9(P:Params):Obj:=fn "_wall" "_wall" (dt "_wall") [] "__main__" 164 20 .none
noncomputable def b10(P:Params):Obj:=tp #[(.str "d" 199)]
noncomputable def b11(P:Params):Obj:=fr "least" "least" (dt "least")
noncomputable def b12(P:Params):Obj:=co "least" "least" 196 5 1 22 .none (.ref 24) (.ref 25) (.ref 26) 200
noncomputable def b13(P:Params):Obj:=fn "least" "least" (dt "least") [] "fdsolve.domains" 194 27 .none
noncomputable def b14(P:Params):Obj:=tp #[(.str "d" 206)]
noncomputable def b15(P:Params):Obj:=fr "greatest" "greatest" (dt "greatest")
noncomputable def b16(P:Params):Obj:=co "greatest" "greatest" 203 7 1 29 .none (.ref 31) (.ref 32) (.ref 33) 207
noncomputable def b17(P:Params):Obj:=fn "greatest" "greatest" (dt "greatest") [] "fdsolve.domains" 194 34 .none
noncomputable def b18(P:Params):Obj:=tp #[(.str "d" 213),(.str "v" 214),(.str "low" 215),(.str "high" 216)]
noncomputable def b19(P:Params):Obj:=fr "next_from" "next_from" (dt "next_from")
noncomputable def b20(P:Params):Obj:=co "next_from" "next_from" 210 9 2 36 .none (.ref 38) (.ref 39) (.ref 40) 217
noncomputable def b21(P:Params):Obj:=fn "next_from" "next_from" (dt "next_from") [] "fdsolve.domains" 194 41 .none
noncomputable def b22(P:Params):Obj:=tp #[(.str "d" 223),(.str "v" 224)]
noncomputable def b23(P:Params):Obj:=fr "has" "has" (dt "has")
noncomputable def b24(P:Params):Obj:=co "has" "has" 220 14 2 43 .none (.ref 45) (.ref 46) (.ref 47) 225
noncomputable def b25(P:Params):Obj:=fn "has" "has" (dt "has") [] "fdsolve.domains" 194 48 .none
noncomputable def b26(P:Params):Obj:=tp #[(.str "d" 232),(.str "found" 233),(.str "low" 234),(.str "high" 235)]
noncomputable def b27(P:Params):Obj:=fr "values" "values" (dt "values")
noncomputable def b28(P:Params):Obj:=co "values" "values" 229 17 1 50 .none (.ref 52) (.ref 53) (.ref 54) 236
noncomputable def b29(P:Params):Obj:=fn "values" "values" (dt "values") [] "fdsolve.domains" 194 55 .none
noncomputable def b30(P:Params):Obj:=fr "up_to" "up_to" (dt "up_to")
noncomputable def b31(P:Params):Obj:=co "up_to" "up_to" 239 22 2 57 .none .none .none (.ref 59) 242
noncomputable def b32(P:Params):Obj:=fn "up_to" "up_to" (dt "up_to") [] "fdsolve.domains" 194 60 .none
noncomputable def b33(P:Params):Obj:=fr "from_on" "from_on" (dt "from_on")
noncomputable def b34(P:Params):Obj:=co "from_on" "from_on" 245 24 2 62 .none .none .none (.ref 64) 248
noncomputable def b35(P:Params):Obj:=fn "from_on" "from_on" (dt "from_on") [] "fdsolve.domains" 194 65 .none
noncomputable def b36(P:Params):Obj:=tp #[(.str "d" 254),(.str "v" 255)]
noncomputable def b37(P:Params):Obj:=fr "without" "without" (dt "without")
noncomputable def b38(P:Params):Obj:=co "without" "without" 251 26 2 67 .none (.ref 69) (.ref 70) (.ref 71) 256
noncomputable def b39(P:Params):Obj:=fn "without" "without" (dt "without") [] "fdsolve.domains" 194 72 .none
noncomputable def b40(P:Params):Obj:=tp #[(.str "d" 262),(.str "e" 263),(.str "found" 264),(.str "i" 265),(.str "j" 266),(.str "low" 267),(.str "high" 268)]
noncomputable def b41(P:Params):Obj:=fr "meet" "meet" (dt "meet")
noncomputable def b42(P:Params):Obj:=co "meet" "meet" 259 28 2 74 .none (.ref 76) (.ref 77) (.ref 78) 269
noncomputable def b43(P:Params):Obj:=fn "meet" "meet" (dt "meet") [] "fdsolve.domains" 194 79 .none
noncomputable def b44(P:Params):Obj:=tp #[(.str "literal" 275),(.str "x" 276),(.str "sign" 277),(.str "k" 278)]
noncomputable def b45(P:Params):Obj:=fr "negation" "negation" (dt "negation")
noncomputable def b46(P:Params):Obj:=co "negation" "negation" 272 39 1 81 .none (.ref 83) (.ref 84) (.ref 85) 279
noncomputable def b47(P:Params):Obj:=fn "negation" "negation" (dt "negation") [] "fdsolve.domains" 194 86 .none
noncomputable def b48(P:Params):Obj:=tp #[(.str "literal" 285),(.str "d" 286),(.str "sign" 287),(.str "k" 288)]
noncomputable def b49(P:Params):Obj:=fr "struck" "struck" (dt "struck")
noncomputable def b50(P:Params):Obj:=co "struck" "struck" 282 46 2 88 .none (.ref 90) (.ref 91) (.ref 92) 289
noncomputable def b51(P:Params):Obj:=fn "struck" "struck" (dt "struck") [] "fdsolve.domains" 194 93 .none
noncomputable def b52(P:Params):Obj:=tp #[(.str "literal" 295),(.str "d" 296),(.str "kept" 297)]
noncomputable def b53(P:Params):Obj:=fr "said_of" "said_of" (dt "said_of")
noncomputable def b54(P:Params):Obj:=co "said_of" "said_of" 292 53 2 95 .none (.ref 97) (.ref 98) (.ref 99) 298
noncomputable def b55(P:Params):Obj:=fn "said_of" "said_of" (dt "said_of") [] "fdsolve.domains" 194 100 .none
noncomputable def tr1(P:Params):BT:=(.node (boot_o_0 P) (.node (boot_o_1 P) (.node (b4 P) (.node (boot_o_7 P) (.node (b0 P) (.node (b14 P) (.node (b1 P) .nil .nil) (.node (b0 P) .nil .nil)) (.node (b23 P) (.node (b42 P) .nil .nil) .nil)) (.node (b1 P) (.node (b0 P) (.node (b37 P) .nil .nil) .nil) (.node (b28 P) (.node (b47 P) .nil .nil) .nil))) (.node (b0 P) (.node (b7 P) (.node (b17 P) (.node (b0 P) .nil .nil) (.node (b53 P) .nil .nil)) (.node (b1 P) (.node (b44 P) .nil .nil) .nil)) (.node (b12 P) (.node (b0 P) (.node (b1 P) .nil .nil) .nil) (.node (b30 P) (.node (b0 P) .nil .nil) .nil)))) (.node (boot_o_5 P) (.node (boot_o_9 P) (.node (b6 P) (.node (b15 P) (.node (b34 P) .nil .nil) (.node (b52 P) .nil .nil)) (.node (b25 P) (.node (b0 P) .nil .nil) .nil)) (.node (b0 P) (.node (b20 P) (.node (b39 P) .nil .nil) .nil) (.node (b0 P) (.node (b1 P) .nil .nil) .nil))) (.node (b2 P) (.node (b9 P) (.node (b1 P) (.node (b36 P) .nil .nil) (.node (b55 P) .nil .nil)) (.node (b0 P) (.node (b45 P) .nil .nil) .nil)) (.node (b0 P) (.node (b22 P) (.node (b0 P) .nil .nil) .nil) (.node (b32 P) (.node (b50 P) .nil .nil) .nil))))) (.node (boot_o_2 P) (.node (boot_o_4 P) (.node (boot_o_8 P) (.node (b1 P) (.node (b0 P) (.node (b33 P) .nil .nil) (.node (b1 P) .nil .nil)) (.node (b24 P) (.node (b43 P) .nil .nil) .nil)) (.node (b10 P) (.node (b19 P) (.node (b38 P) .nil .nil) .nil) (.node (b29 P) (.node (b0 P) .nil .nil) .nil))) (.node (b5 P) (.node (b8 P) (.node (b0 P) (.node (b1 P) .nil .nil) (.node (b54 P) .nil .nil)) (.node (b26 P) (.node (b0 P) .nil .nil) .nil)) (.node (b13 P) (.node (b1 P) (.node (b40 P) .nil .nil) .nil) (.node (b31 P) (.node (b49 P) .nil .nil) .nil)))) (.node (boot_o_6 P) (.node (boot_o_10 P) (.node (b0 P) (.node (b16 P) (.node (b35 P) .nil .nil) (.node (b0 P) .nil .nil)) (.node (b0 P) (.node (b1 P) .nil .nil) .nil)) (.node (b11 P) (.node (b21 P) (.node (b0 P) .nil .nil) .nil) (.node (b1 P) (.node (b48 P) .nil .nil) .nil))) (.node (b3 P) (.node (b0 P) (.node (b18 P) (.node (b0 P) .nil .nil) .nil) (.node (b27 P) (.node (b46 P) .nil .nil) .nil)) (.node (b1 P) (.node (b0 P) (.node (b41 P) .nil .nil) .nil) (.node (b0 P) (.node (b51 P) .nil .nil) .nil))))))
noncomputable def b56(P:Params):Obj:=⟨(.type "dict"),none,(.dict #[⟨(kh P "__name__"),.str "__name__" 165,(.str "fdsolve.store" 301)⟩,⟨(kh P "__doc__"),.str "__doc__" 166,.none⟩,⟨(kh P "__package__"),.str "__package__" 167,.none⟩,⟨(kh P "__loader__"),.str "__loader__" 168,(.builtin "__main__.__loader__#opaque")⟩,⟨(kh P "__spec__"),.str "__spec__" 169,.none⟩,⟨(kh P "__annotations__"),.str "__annotations__" 170,(.ref 6)⟩,⟨(kh P "__builtins__"),.str "__builtins__" 171,(.ref 4)⟩,⟨(kh P "__file__"),.str "__file__" 173,(.str "/claim/cut.py" 172)⟩,⟨(kh P "__cached__"),.str "__cached__" 174,.none⟩,⟨(kh P "_wall"),.str "_wall" 193,(.ref 21)⟩,⟨(kh P "least"),.str "least" 202,(.ref 28)⟩,⟨(kh P "greatest"),.str "greatest" 209,(.ref 35)⟩,⟨(kh P "next_from"),.str "next_from" 219,(.ref 42)⟩,⟨(kh P "has"),.str "has" 227,(.ref 49)⟩,⟨(kh P "has_domains"),.str "has_domains" 228,(.ref 49)⟩,⟨(kh P "values"),.str "values" 238,(.ref 56)⟩,⟨(kh P "up_to"),.str "up_to" 244,(.ref 61)⟩,⟨(kh P "from_on"),.str "from_on" 250,(.ref 66)⟩,⟨(kh P "without"),.str "without" 258,(.ref 73)⟩,⟨(kh P "meet"),.str "meet" 271,(.ref 80)⟩,⟨(kh P "negation"),.str "negation" 281,(.ref 87)⟩,⟨(kh P "struck"),.str "struck" 291,(.ref 94)⟩,⟨(kh P "said_of"),.str "said_of" 300,(.ref 101)⟩,⟨(kh P "Store"),.str "Store" 494,(.ref 251)⟩] 24),#[]⟩
noncomputable def b57(P:Params):Obj:=⟨.none,none,(.fields #[(.int 1 0),(.int 0 0),(.ref 20),(.int 5 0),(.int 0 0),(.ref 27),(.int 7 0),(.int 0 0),(.ref 34),(.int 9 0),(.int 0 0),(.ref 41),(.int 14 0),(.int 0 0),(.ref 48),(.int 17 0),(.int 0 0),(.ref 55),(.int 22 0),(.int 0 0),(.ref 60),(.int 24 0),(.int 0 0),(.ref 65),(.int 26 0),(.int 0 0),(.ref 72),(.int 28 0),(.int 0 0),(.ref 79),(.int 39 0),(.int 0 0),(.ref 86),(.int 46 0),(.int 0 0),(.ref 93),(.int 53 0),(.int 0 0),(.ref 100),(.int 59 0),(.int 0 0),(.ref 107)]),#[]⟩
noncomputable def b58(P:Params):Obj:=⟨(.type "builtin_function_or_method"),none,(.fields #[(.builtin "type.__prepare__"),(.type "type")]),#[]⟩
noncomputable def b59(P:Params):Obj:=⟨(.type "dict"),none,(.dict #[⟨(kh P "__module__"),.str "__module__" 310,(.str "fdsolve.store" 301)⟩,⟨(kh P "__qualname__"),.str "__qualname__" 312,(.str "Store" 311)⟩,⟨(kh P "__firstlineno__"),.str "__firstlineno__" 314,(.int 59 313)⟩,⟨(kh P "__init__"),.str "__init__" 321,(.ref 115)⟩,⟨(kh P "new_var"),.str "new_var" 329,(.ref 122)⟩,⟨(kh P "size"),.str "size" 336,(.ref 129)⟩,⟨(kh P "dom"),.str "dom" 344,(.ref 136)⟩,⟨(kh P "initial"),.str "initial" 352,(.ref 143)⟩,⟨(kh P "low"),.str "low" 360,(.ref 150)⟩,⟨(kh P "high"),.str "high" 368,(.ref 157)⟩,⟨(kh P "has"),.str "has" 377,(.ref 164)⟩,⟨(kh P "is_fixed"),.str "is_fixed" 385,(.ref 171)⟩,⟨(kh P "value"),.str "value" 393,(.ref 178)⟩,⟨(kh P "width"),.str "width" 401,(.ref 185)⟩,⟨(kh P "holds"),.str "holds" 409,(.ref 192)⟩,⟨(kh P "enter"),.str "enter" 422,(.ref 199)⟩,⟨(kh P "strike"),.str "strike" 431,(.ref 206)⟩,⟨(kh P "decide"),.str "decide" 439,(.ref 213)⟩,⟨(kh P "fail"),.str "fail" 447,(.ref 220)⟩,⟨(kh P "push"),.str "push" 454,(.ref 227)⟩,⟨(kh P "pop"),.str "pop" 464,(.ref 234)⟩,⟨(kh P "depth"),.str "depth" 471,(.ref 241)⟩,⟨(kh P "changed"),.str "changed" 478,(.ref 248)⟩,⟨(kh P "__static_attributes__"),.str "__static_attributes__" 487,(.ref 249)⟩] 24),#[]⟩
noncomputable def b60(P:Params):Obj:=⟨.none,none,(.fields #[(.int 61 0),(.int 4 0),(.ref 114),(.int 71 0),(.int 4 0),(.ref 121),(.int 78 0),(.int 4 0),(.ref 128),(.int 81 0),(.int 4 0),(.ref 135),(.int 84 0),(.int 4 0),(.ref 142),(.int 87 0),(.int 4 0),(.ref 149),(.int 90 0),(.int 4 0),(.ref 156),(.int 93 0),(.int 4 0),(.ref 163),(.int 96 0),(.int 4 0),(.ref 170),(.int 99 0),(.int 4 0),(.ref 177),(.int 102 0),(.int 4 0),(.ref 184),(.int 105 0),(.int 4 0),(.ref 191),(.int 108 0),(.int 4 0),(.ref 198),(.int 121 0),(.int 4 0),(.ref 205),(.int 124 0),(.int 4 0),(.ref 212),(.int 127 0),(.int 4 0),(.ref 219),(.int 132 0),(.int 4 0),(.ref 226),(.int 135 0),(.int 4 0),(.ref 233),(.int 147 0),(.int 4 0),(.ref 240),(.int 150 0),(.int 4 0),(.ref 247)]),#[]⟩
noncomputable def b61(P:Params):Obj:=⟨(.type "code"),none,(.fields #[(.str "Store" 305),(.str "Store" 306),(.str "/claim/cut.py" 307),(.int 59 0),(.int 0 0),(.int 0 0),(.int 0 0),(.int 0 0),(.ref 105),(.bool false),(.int 181 0),(.ref 106),.none,.none,.none,.none,(.int 308 0),(.int 59 0),(.str "/claim/cut.py" 309)]),#[]⟩
noncomputable def b62(P:Params):Obj:=⟨(.type "frame"),none,.plain,#[(some (.ref 107)),(some (.ref 3)),(some (.ref 104)),none,(some (.str "fdsolve.store" 301)),none,(some (.ref 0))]⟩
noncomputable def b63(P:Params):Obj:=tp #[(.str "self" 318)]
noncomputable def b64(P:Params):Obj:=fr "__init__" "Store.__init__" (dm "Store" "__init__")
noncomputable def b65(P:Params):Obj:=co "__init__" "Store.__init__" 315 61 1 109 .none (.ref 111) (.ref 112) (.ref 113) 319
noncomputable def b66(P:Params):Obj:=fn "__init__" "Store.__init__" (dm "Store" "__init__") [] "fdsolve.store" 301 114 .none
noncomputable def b67(P:Params):Obj:=tp #[(.str "self" 325),(.str "domain" 326)]
noncomputable def b68(P:Params):Obj:=fr "new_var" "Store.new_var" (dm "Store" "new_var")
noncomputable def b69(P:Params):Obj:=co "new_var" "Store.new_var" 322 71 2 116 .none (.ref 118) (.ref 119) (.ref 120) 327
noncomputable def b70(P:Params):Obj:=fn "new_var" "Store.new_var" (dm "Store" "new_var") [] "fdsolve.store" 301 121 .none
noncomputable def b71(P:Params):Obj:=tp #[(.str "self" 333)]
noncomputable def b72(P:Params):Obj:=fr "size" "Store.size" (dm "Store" "size")
noncomputable def b73(P:Params):Obj:=co "size" "Store.size" 330 78 1 123 .none (.ref 125) (.ref 126) (.ref 127) 334
noncomputable def b74(P:Params):Obj:=fn "size" "Store.size" (dm "Store" "size") [] "fdsolve.store" 301 128 .none
noncomputable def b75(P:Params):Obj:=tp #[(.str "self" 340),(.str "x" 341)]
noncomputable def b76(P:Params):Obj:=fr "dom" "Store.dom" (dm "Store" "dom")
noncomputable def b77(P:Params):Obj:=co "dom" "Store.dom" 337 81 2 130 .none (.ref 132) (.ref 133) (.ref 134) 342
noncomputable def b78(P:Params):Obj:=fn "dom" "Store.dom" (dm "Store" "dom") [] "fdsolve.store" 301 135 .none
noncomputable def b79(P:Params):Obj:=tp #[(.str "self" 348),(.str "x" 349)]
noncomputable def b80(P:Params):Obj:=fr "initial" "Store.initial" (dm "Store" "initial")
noncomputable def b81(P:Params):Obj:=co "initial" "Store.initial" 345 84 2 137 .none (.ref 139) (.ref 140) (.ref 141) 350
noncomputable def b82(P:Params):Obj:=fn "initial" "Store.initial" (dm "Store" "initial") [] "fdsolve.store" 301 142 .none
noncomputable def b83(P:Params):Obj:=tp #[(.str "self" 356),(.str "x" 357)]
noncomputable def b84(P:Params):Obj:=fr "low" "Store.low" (dm "Store" "low")
noncomputable def b85(P:Params):Obj:=co "low" "Store.low" 353 87 2 144 .none (.ref 146) (.ref 147) (.ref 148) 358
noncomputable def b86(P:Params):Obj:=fn "low" "Store.low" (dm "Store" "low") [] "fdsolve.store" 301 149 .none
noncomputable def b87(P:Params):Obj:=tp #[(.str "self" 364),(.str "x" 365)]
noncomputable def b88(P:Params):Obj:=fr "high" "Store.high" (dm "Store" "high")
noncomputable def b89(P:Params):Obj:=co "high" "Store.high" 361 90 2 151 .none (.ref 153) (.ref 154) (.ref 155) 366
noncomputable def b90(P:Params):Obj:=fn "high" "Store.high" (dm "Store" "high") [] "fdsolve.store" 301 156 .none
noncomputable def b91(P:Params):Obj:=tp #[(.str "self" 372),(.str "x" 373),(.str "v" 374)]
noncomputable def b92(P:Params):Obj:=fr "has" "Store.has" (dm "Store" "has")
noncomputable def b93(P:Params):Obj:=co "has" "Store.has" 369 93 3 158 .none (.ref 160) (.ref 161) (.ref 162) 375
noncomputable def b94(P:Params):Obj:=fn "has" "Store.has" (dm "Store" "has") [] "fdsolve.store" 301 163 .none
noncomputable def b95(P:Params):Obj:=tp #[(.str "self" 381),(.str "x" 382)]
noncomputable def b96(P:Params):Obj:=fr "is_fixed" "Store.is_fixed" (dm "Store" "is_fixed")
noncomputable def b97(P:Params):Obj:=co "is_fixed" "Store.is_fixed" 378 96 2 165 .none (.ref 167) (.ref 168) (.ref 169) 383
noncomputable def b98(P:Params):Obj:=fn "is_fixed" "Store.is_fixed" (dm "Store" "is_fixed") [] "fdsolve.store" 301 170 .none
noncomputable def b99(P:Params):Obj:=tp #[(.str "self" 389),(.str "x" 390)]
noncomputable def zh5(P:Params):Obj:=fr "value" "Store.value" (dm "Store" "value")
noncomputable def ze2(P:Params):Obj:=co "value" "Store.value" 386 99 2 172 .none (.ref 174) (.ref 175) (.ref 176) 391
noncomputable def ze1(P:Params):Obj:=fn "value" "Store.value" (dm "Store" "value") [] "fdsolve.store" 301 177 .none
noncomputable def ze0(P:Params):Obj:=tp #[(.str "self" 397),(.str "x" 398)]
noncomputable def zh4(P:Params):Obj:=fr "width" "Store.width" (dm "Store" "width")
noncomputable def zez(P:Params):Obj:=co "width" "Store.width" 394 102 2 179 .none (.ref 181) (.ref 182) (.ref 183) 399
noncomputable def zey(P:Params):Obj:=fn "width" "Store.width" (dm "Store" "width") [] "fdsolve.store" 301 184 .none
noncomputable def zex(P:Params):Obj:=tp #[(.str "self" 405),(.str "literal" 406)]
noncomputable def zh3(P:Params):Obj:=fr "holds" "Store.holds" (dm "Store" "holds")
noncomputable def zew(P:Params):Obj:=co "holds" "Store.holds" 402 105 2 186 .none (.ref 188) (.ref 189) (.ref 190) 407
noncomputable def zev(P:Params):Obj:=fn "holds" "Store.holds" (dm "Store" "holds") [] "fdsolve.store" 301 191 .none
noncomputable def zeu(P:Params):Obj:=tp #[(.str "self" 413),(.str "literal" 414),(.str "reasons" 415),(.str "speaker" 416),(.str "x" 417),(.str "old" 418),(.str "fresh" 419)]
noncomputable def zh2(P:Params):Obj:=fr "enter" "Store.enter" (dm "Store" "enter")
noncomputable def zet(P:Params):Obj:=co "enter" "Store.enter" 410 108 4 193 .none (.ref 195) (.ref 196) (.ref 197) 420
noncomputable def zes(P:Params):Obj:=fn "enter" "Store.enter" (dm "Store" "enter") [] "fdsolve.store" 301 198 .none
noncomputable def zer(P:Params):Obj:=tp #[(.str "self" 426),(.str "literal" 427),(.str "reasons" 428)]
noncomputable def zh1(P:Params):Obj:=fr "strike" "Store.strike" (dm "Store" "strike")
noncomputable def zeq(P:Params):Obj:=co "strike" "Store.strike" 423 121 3 200 .none (.ref 202) (.ref 203) (.ref 204) 429
noncomputable def zep(P:Params):Obj:=fn "strike" "Store.strike" (dm "Store" "strike") [] "fdsolve.store" 301 205 .none
noncomputable def zeo(P:Params):Obj:=tp #[(.str "self" 435),(.str "literal" 436)]
noncomputable def zh0(P:Params):Obj:=fr "decide" "Store.decide" (dm "Store" "decide")
noncomputable def zen(P:Params):Obj:=co "decide" "Store.decide" 432 124 2 207 .none (.ref 209) (.ref 210) (.ref 211) 437
noncomputable def zem(P:Params):Obj:=fn "decide" "Store.decide" (dm "Store" "decide") [] "fdsolve.store" 301 212 .none
noncomputable def zel(P:Params):Obj:=tp #[(.str "self" 443),(.str "reasons" 444)]
noncomputable def zhz(P:Params):Obj:=fr "fail" "Store.fail" (dm "Store" "fail")
noncomputable def zek(P:Params):Obj:=co "fail" "Store.fail" 440 127 2 214 .none (.ref 216) (.ref 217) (.ref 218) 445
noncomputable def zej(P:Params):Obj:=fn "fail" "Store.fail" (dm "Store" "fail") [] "fdsolve.store" 301 219 .none
noncomputable def zei(P:Params):Obj:=tp #[(.str "self" 451)]
noncomputable def zhy(P:Params):Obj:=fr "push" "Store.push" (dm "Store" "push")
noncomputable def zeh(P:Params):Obj:=co "push" "Store.push" 448 132 1 221 .none (.ref 223) (.ref 224) (.ref 225) 452
noncomputable def zeg(P:Params):Obj:=fn "push" "Store.push" (dm "Store" "push") [] "fdsolve.store" 301 226 .none
noncomputable def zef(P:Params):Obj:=tp #[(.str "self" 458),(.str "n" 459),(.str "mark" 460),(.str "entry" 461)]
noncomputable def zhx(P:Params):Obj:=fr "pop" "Store.pop" (dm "Store" "pop")
noncomputable def zee(P:Params):Obj:=co "pop" "Store.pop" 455 135 2 228 .none (.ref 230) (.ref 231) (.ref 232) 462
noncomputable def zed(P:Params):Obj:=fn "pop" "Store.pop" (dm "Store" "pop") [] "fdsolve.store" 301 233 .none
noncomputable def zec(P:Params):Obj:=tp #[(.str "self" 468)]
noncomputable def zhw(P:Params):Obj:=fr "depth" "Store.depth" (dm "Store" "depth")
noncomputable def zeb(P:Params):Obj:=co "depth" "Store.depth" 465 147 1 235 .none (.ref 237) (.ref 238) (.ref 239) 469
noncomputable def zea(P:Params):Obj:=fn "depth" "Store.depth" (dm "Store" "depth") [] "fdsolve.store" 301 240 .none
noncomputable def zd9(P:Params):Obj:=tp #[(.str "self" 475)]
noncomputable def zhv(P:Params):Obj:=fr "changed" "Store.changed" (dm "Store" "changed")
noncomputable def zd8(P:Params):Obj:=co "changed" "Store.changed" 472 150 1 242 .none (.ref 244) (.ref 245) (.ref 246) 476
noncomputable def zd7(P:Params):Obj:=fn "changed" "Store.changed" (dm "Store" "changed") [] "fdsolve.store" 301 247 .none
noncomputable def zd6(P:Params):Obj:=tp #[(.str "clash" 479),(.str "domains" 480),(.str "firsts" 481),(.str "is_failed" 482),(.str "marks" 483),(.str "news" 484),(.str "speaker" 485),(.str "trail" 486)]
noncomputable def zd5(P:Params):Obj:=⟨(.type "dict"),none,(.dict #[⟨(kh P "__module__"),.str "__module__" 310,(.str "fdsolve.store" 301)⟩,⟨(kh P "__firstlineno__"),.str "__firstlineno__" 314,(.int 59 313)⟩,⟨(kh P "__init__"),.str "__init__" 321,(.ref 115)⟩,⟨(kh P "new_var"),.str "new_var" 329,(.ref 122)⟩,⟨(kh P "size"),.str "size" 336,(.ref 129)⟩,⟨(kh P "dom"),.str "dom" 344,(.ref 136)⟩,⟨(kh P "initial"),.str "initial" 352,(.ref 143)⟩,⟨(kh P "low"),.str "low" 360,(.ref 150)⟩,⟨(kh P "high"),.str "high" 368,(.ref 157)⟩,⟨(kh P "has"),.str "has" 377,(.ref 164)⟩,⟨(kh P "is_fixed"),.str "is_fixed" 385,(.ref 171)⟩,⟨(kh P "value"),.str "value" 393,(.ref 178)⟩,⟨(kh P "width"),.str "width" 401,(.ref 185)⟩,⟨(kh P "holds"),.str "holds" 409,(.ref 192)⟩,⟨(kh P "enter"),.str "enter" 422,(.ref 199)⟩,⟨(kh P "strike"),.str "strike" 431,(.ref 206)⟩,⟨(kh P "decide"),.str "decide" 439,(.ref 213)⟩,⟨(kh P "fail"),.str "fail" 447,(.ref 220)⟩,⟨(kh P "push"),.str "push" 454,(.ref 227)⟩,⟨(kh P "pop"),.str "pop" 464,(.ref 234)⟩,⟨(kh P "depth"),.str "depth" 471,(.ref 241)⟩,⟨(kh P "changed"),.str "changed" 478,(.ref 248)⟩,⟨(kh P "__static_attributes__"),.str "__static_attributes__" 487,(.ref 249)⟩,⟨(kh P "__dict__"),.str "__dict__" 489,(.ref 252)⟩,⟨(kh P "__weakref__"),.str "__weakref__" 491,(.ref 253)⟩,⟨(kh P "__doc__"),.str "__doc__" 492,.none⟩] 4),#[]⟩
noncomputable def zd4(P:Params):Obj:=⟨(.type "type"),none,(.cls ⟨"Store",[(.type "object")],[(.ref 251),(.type "object")],250,"Store",true,[],[],false,none,false⟩),#[none,none,(some (.str "Store" 303)),(some (.str "Store" 311)),(some (.builtin "object.__new__")),(some (.bool true))]⟩
noncomputable def zd3(P:Params):Obj:=⟨(.type "getset_descriptor"),none,(.fields #[(.str "__dict__" 488),(.ref 251),(.builtin "function.__dict__"),(.builtin "function.__dict__#set")]),#[]⟩
noncomputable def zd2(P:Params):Obj:=⟨(.type "getset_descriptor"),none,(.fields #[(.str "__weakref__" 490),(.ref 251),(.builtin "ExceptionGroup.__weakref__"),.none]),#[]⟩
noncomputable def zhu(P:Params):Obj:=⟨(.type "super"),none,(.fields #[(.ref 251),(.ref 251),(.ref 251)]),#[]⟩
noncomputable def zht(P:Params):Obj:=⟨(.type "builtin_function_or_method"),none,(.fields #[(.builtin "object.__init_subclass__"),(.ref 251)]),#[]⟩
noncomputable def tr2(P:Params):BT:=(.node (boot_o_0 P) (.node (boot_o_1 P) (.node (b56 P) (.node (boot_o_7 P) (.node (b0 P) (.node (b14 P) (.node (b1 P) (.node (b72 P) (.node (zht P) .nil .nil) .nil) (.node (zew P) .nil .nil)) (.node (b0 P) (.node (b1 P) .nil .nil) (.node (zei P) .nil .nil))) (.node (b23 P) (.node (b42 P) (.node (b82 P) .nil .nil) (.node (b0 P) .nil .nil)) (.node (b63 P) (.node (b0 P) .nil .nil) (.node (zhw P) .nil .nil)))) (.node (b1 P) (.node (b0 P) (.node (b37 P) (.node (b77 P) .nil .nil) (.node (zes P) .nil .nil)) (.node (b58 P) (.node (b95 P) .nil .nil) (.node (b0 P) .nil .nil))) (.node (b28 P) (.node (b47 P) (.node (b0 P) .nil .nil) (.node (b1 P) .nil .nil)) (.node (b0 P) (.node (zh4 P) .nil .nil) (.node (zd8 P) .nil .nil))))) (.node (b0 P) (.node (b7 P) (.node (b17 P) (.node (b0 P) (.node (b1 P) .nil .nil) (.node (zeu P) .nil .nil)) (.node (b53 P) (.node (b93 P) .nil .nil) (.node (zeg P) .nil .nil))) (.node (b1 P) (.node (b44 P) (.node (b0 P) .nil .nil) (.node (zh0 P) .nil .nil)) (.node (b66 P) (.node (b0 P) .nil .nil) (.node (b1 P) .nil .nil)))) (.node (b12 P) (.node (b0 P) (.node (b1 P) (.node (b79 P) .nil .nil) (.node (b0 P) .nil .nil)) (.node (b61 P) (.node (b98 P) .nil .nil) (.node (b0 P) .nil .nil))) (.node (b30 P) (.node (b0 P) (.node (b88 P) .nil .nil) (.node (zek P) .nil .nil)) (.node (b0 P) (.node (b1 P) .nil .nil) (.node (zd4 P) .nil .nil)))))) (.node (boot_o_5 P) (.node (boot_o_9 P) (.node (b6 P) (.node (b15 P) (.node (b34 P) (.node (b74 P) .nil .nil) (.node (b0 P) .nil .nil)) (.node (b52 P) (.node (b0 P) .nil .nil) (.node (zhy P) .nil .nil))) (.node (b25 P) (.node (b0 P) (.node (b1 P) .nil .nil) (.node (zeo P) .nil .nil)) (.node (b64 P) (.node (ze2 P) .nil .nil) (.node (zea P) .nil .nil)))) (.node (b0 P) (.node (b20 P) (.node (b39 P) (.node (b0 P) .nil .nil) (.node (b1 P) .nil .nil)) (.node (b0 P) (.node (b96 P) .nil .nil) (.node (zee P) .nil .nil))) (.node (b0 P) (.node (b1 P) (.node (b87 P) .nil .nil) (.node (b0 P) .nil .nil)) (.node (b69 P) (.node (zey P) .nil .nil) (.node (zd6 P) .nil .nil))))) (.node (b2 P) (.node (b9 P) (.node (b1 P) (.node (b36 P) (.node (b0 P) .nil .nil) (.node (zh2 P) .nil .nil)) (.node (b55 P) (.node (b0 P) .nil .nil) (.node (b1 P) .nil .nil))) (.node (b0 P) (.node (b45 P) (.node (b85 P) .nil .nil) (.node (zem P) .nil .nil)) (.node (b1 P) (.node (ze0 P) .nil .nil) (.node (b0 P) .nil .nil)))) (.node (b0 P) (.node (b22 P) (.node (b0 P) (.node (b80 P) .nil .nil) (.node (zeq P) .nil .nil)) (.node (b0 P) (.node (b1 P) .nil .nil) (.node (zec P) .nil .nil))) (.node (b32 P) (.node (b50 P) (.node (b90 P) .nil .nil) (.node (b0 P) .nil .nil)) (.node (b71 P) (.node (b0 P) .nil .nil) (.node (zd2 P) .nil .nil))))))) (.node (boot_o_2 P) (.node (boot_o_4 P) (.node (boot_o_8 P) (.node (b1 P) (.node (b0 P) (.node (b33 P) (.node (b73 P) .nil .nil) (.node (zev P) .nil .nil)) (.node (b1 P) (.node (b91 P) .nil .nil) (.node (b0 P) .nil .nil))) (.node (b24 P) (.node (b43 P) (.node (b0 P) .nil .nil) (.node (b1 P) .nil .nil)) (.node (b0 P) (.node (zh5 P) .nil .nil) (.node (zeb P) .nil .nil)))) (.node (b10 P) (.node (b19 P) (.node (b38 P) (.node (b78 P) .nil .nil) (.node (b0 P) .nil .nil)) (.node (b59 P) (.node (b0 P) .nil .nil) (.node (zhx P) .nil .nil))) (.node (b29 P) (.node (b0 P) (.node (b1 P) .nil .nil) (.node (zel P) .nil .nil)) (.node (b68 P) (.node (zez P) .nil .nil) (.node (zd7 P) .nil .nil))))) (.node (b57 P) (.node (b8 P) (.node (b0 P) (.node (b1 P) (.node (b75 P) .nil .nil) (.node (b0 P) .nil .nil)) (.node (b54 P) (.node (b94 P) .nil .nil) (.node (b0 P) .nil .nil))) (.node (b26 P) (.node (b0 P) (.node (b84 P) .nil .nil) (.node (zen P) .nil .nil)) (.node (b0 P) (.node (b1 P) .nil .nil) (.node (zd9 P) .nil .nil)))) (.node (b13 P) (.node (b1 P) (.node (b40 P) (.node (b0 P) .nil .nil) (.node (zh1 P) .nil .nil)) (.node (b62 P) (.node (b0 P) .nil .nil) (.node (b1 P) .nil .nil))) (.node (b31 P) (.node (b49 P) (.node (b89 P) .nil .nil) (.node (zej P) .nil .nil)) (.node (b1 P) (.node (zex P) .nil .nil) (.node (zd3 P) .nil .nil)))))) (.node (boot_o_6 P) (.node (boot_o_10 P) (.node (b0 P) (.node (b16 P) (.node (b35 P) (.node (b0 P) .nil .nil) (.node (b1 P) .nil .nil)) (.node (b0 P) (.node (b92 P) .nil .nil) (.node (zeh P) .nil .nil))) (.node (b0 P) (.node (b1 P) (.node (b83 P) .nil .nil) (.node (b0 P) .nil .nil)) (.node (b65 P) (.node (ze1 P) .nil .nil) (.node (b0 P) .nil .nil)))) (.node (b11 P) (.node (b21 P) (.node (b0 P) (.node (b1 P) .nil .nil) (.node (zer P) .nil .nil)) (.node (b60 P) (.node (b97 P) .nil .nil) (.node (zed P) .nil .nil))) (.node (b1 P) (.node (b48 P) (.node (b0 P) .nil .nil) (.node (zhz P) .nil .nil)) (.node (b70 P) (.node (b0 P) .nil .nil) (.node (zd5 P) .nil .nil))))) (.node (b3 P) (.node (b0 P) (.node (b18 P) (.node (b0 P) (.node (b76 P) .nil .nil) (.node (zet P) .nil .nil)) (.node (b0 P) (.node (b1 P) .nil .nil) (.node (zef P) .nil .nil))) (.node (b27 P) (.node (b46 P) (.node (b86 P) .nil .nil) (.node (b0 P) .nil .nil)) (.node (b67 P) (.node (b0 P) .nil .nil) (.node (zhv P) .nil .nil)))) (.node (b1 P) (.node (b0 P) (.node (b41 P) (.node (b81 P) .nil .nil) (.node (zep P) .nil .nil)) (.node (b1 P) (.node (b99 P) .nil .nil) (.node (b0 P) .nil .nil))) (.node (b0 P) (.node (b51 P) (.node (b0 P) .nil .nil) (.node (b1 P) .nil .nil)) (.node (b0 P) (.node (zh3 P) .nil .nil) (.node (zhu P) .nil .nil))))))))
noncomputable def zoc(P:Params):Obj:=⟨(.type "dict"),none,(.dict #[⟨(kh P "__name__"),.str "__name__" 165,(.str "fdsolve.alldiff" 550)⟩,⟨(kh P "__doc__"),.str "__doc__" 166,.none⟩,⟨(kh P "__package__"),.str "__package__" 167,.none⟩,⟨(kh P "__loader__"),.str "__loader__" 168,(.builtin "__main__.__loader__#opaque")⟩,⟨(kh P "__spec__"),.str "__spec__" 169,.none⟩,⟨(kh P "__annotations__"),.str "__annotations__" 170,(.ref 6)⟩,⟨(kh P "__builtins__"),.str "__builtins__" 171,(.ref 4)⟩,⟨(kh P "__file__"),.str "__file__" 173,(.str "/claim/cut.py" 172)⟩,⟨(kh P "__cached__"),.str "__cached__" 174,.none⟩,⟨(kh P "_wall"),.str "_wall" 193,(.ref 21)⟩,⟨(kh P "least"),.str "least" 202,(.ref 28)⟩,⟨(kh P "greatest"),.str "greatest" 209,(.ref 35)⟩,⟨(kh P "next_from"),.str "next_from" 219,(.ref 42)⟩,⟨(kh P "has"),.str "has" 227,(.ref 49)⟩,⟨(kh P "has_domains"),.str "has_domains" 228,(.ref 49)⟩,⟨(kh P "values"),.str "values" 238,(.ref 56)⟩,⟨(kh P "up_to"),.str "up_to" 244,(.ref 61)⟩,⟨(kh P "from_on"),.str "from_on" 250,(.ref 66)⟩,⟨(kh P "without"),.str "without" 258,(.ref 73)⟩,⟨(kh P "meet"),.str "meet" 271,(.ref 80)⟩,⟨(kh P "negation"),.str "negation" 281,(.ref 87)⟩,⟨(kh P "struck"),.str "struck" 291,(.ref 94)⟩,⟨(kh P "said_of"),.str "said_of" 300,(.ref 101)⟩,⟨(kh P "Store"),.str "Store" 494,(.ref 251)⟩,⟨(kh P "Propagator"),.str "Propagator" 549,(.ref 293)⟩,⟨(kh P "Matching"),.str "Matching" 616,(.ref 333)⟩] 26),#[]⟩
noncomputable def zob(P:Params):Obj:=⟨.none,none,(.fields #[(.int 1 0),(.int 0 0),(.ref 20),(.int 5 0),(.int 0 0),(.ref 27),(.int 7 0),(.int 0 0),(.ref 34),(.int 9 0),(.int 0 0),(.ref 41),(.int 14 0),(.int 0 0),(.ref 48),(.int 17 0),(.int 0 0),(.ref 55),(.int 22 0),(.int 0 0),(.ref 60),(.int 24 0),(.int 0 0),(.ref 65),(.int 26 0),(.int 0 0),(.ref 72),(.int 28 0),(.int 0 0),(.ref 79),(.int 39 0),(.int 0 0),(.ref 86),(.int 46 0),(.int 0 0),(.ref 93),(.int 53 0),(.int 0 0),(.ref 100),(.int 59 0),(.int 0 0),(.ref 107),(.int 152 0),(.int 0 0),(.ref 261),(.int 168 0),(.int 0 0),(.ref 303)]),#[]⟩
noncomputable def zl2(P:Params):Obj:=⟨(.type "dict"),none,(.dict #[⟨(kh P "__module__"),.str "__module__" 502,(.str "fdsolve.store" 301)⟩,⟨(kh P "__qualname__"),.str "__qualname__" 504,(.str "Propagator" 503)⟩,⟨(kh P "__firstlineno__"),.str "__firstlineno__" 506,(.int 152 505)⟩,⟨(kh P "__init__"),.str "__init__" 515,(.ref 269)⟩,⟨(kh P "propagate"),.str "propagate" 523,(.ref 276)⟩,⟨(kh P "check"),.str "check" 531,(.ref 283)⟩,⟨(kh P "told"),.str "told" 538,(.ref 290)⟩,⟨(kh P "__static_attributes__"),.str "__static_attributes__" 542,(.ref 291)⟩] 8),#[]⟩
noncomputable def zl1(P:Params):Obj:=⟨.none,none,(.fields #[(.int 154 0),(.int 4 0),(.ref 268),(.int 159 0),(.int 4 0),(.ref 275),(.int 162 0),(.int 4 0),(.ref 282),(.int 165 0),(.int 4 0),(.ref 289)]),#[]⟩
noncomputable def zl0(P:Params):Obj:=⟨(.type "code"),none,(.fields #[(.str "Propagator" 497),(.str "Propagator" 498),(.str "/claim/cut.py" 499),(.int 152 0),(.int 0 0),(.int 0 0),(.int 0 0),(.int 0 0),(.ref 259),(.bool false),(.int 181 0),(.ref 260),.none,.none,.none,.none,(.int 500 0),(.int 152 0),(.str "/claim/cut.py" 501)]),#[]⟩
noncomputable def zlz(P:Params):Obj:=⟨(.type "frame"),none,.plain,#[(some (.ref 261)),(some (.ref 3)),(some (.ref 258)),none,(some (.str "fdsolve.store" 301)),none,(some (.ref 0))]⟩
noncomputable def zhs(P:Params):Obj:=tp #[(.str "self" 510),(.str "scope" 511),(.str "strength" 512)]
noncomputable def zly(P:Params):Obj:=fr "__init__" "Propagator.__init__" (dm "Propagator" "__init__")
noncomputable def zhr(P:Params):Obj:=co "__init__" "Propagator.__init__" 507 154 3 263 .none (.ref 265) (.ref 266) (.ref 267) 513
noncomputable def zhq(P:Params):Obj:=fn "__init__" "Propagator.__init__" (dm "Propagator" "__init__") [] "fdsolve.store" 301 268 .none
noncomputable def zhp(P:Params):Obj:=tp #[(.str "self" 519),(.str "store" 520)]
noncomputable def zlx(P:Params):Obj:=fr "propagate" "Propagator.propagate" (dm "Propagator" "propagate")
noncomputable def zho(P:Params):Obj:=co "propagate" "Propagator.propagate" 516 159 2 270 .none (.ref 272) (.ref 273) (.ref 274) 521
noncomputable def zhn(P:Params):Obj:=fn "propagate" "Propagator.propagate" (dm "Propagator" "propagate") [] "fdsolve.store" 301 275 .none
noncomputable def zhm(P:Params):Obj:=tp #[(.str "self" 527),(.str "values" 528)]
noncomputable def zlw(P:Params):Obj:=fr "check" "Propagator.check" (dm "Propagator" "check")
noncomputable def zhl(P:Params):Obj:=co "check" "Propagator.check" 524 162 2 277 .none (.ref 279) (.ref 280) (.ref 281) 529
noncomputable def zhk(P:Params):Obj:=fn "check" "Propagator.check" (dm "Propagator" "check") [] "fdsolve.store" 301 282 .none
noncomputable def zhj(P:Params):Obj:=tp #[(.str "self" 535)]
noncomputable def zlv(P:Params):Obj:=fr "told" "Propagator.told" (dm "Propagator" "told")
noncomputable def zhi(P:Params):Obj:=co "told" "Propagator.told" 532 165 1 284 .none (.ref 286) (.ref 287) (.ref 288) 536
noncomputable def zhh(P:Params):Obj:=fn "told" "Propagator.told" (dm "Propagator" "told") [] "fdsolve.store" 301 289 .none
noncomputable def zhg(P:Params):Obj:=tp #[(.str "number" 539),(.str "scope" 540),(.str "strength" 541)]
noncomputable def zhf(P:Params):Obj:=⟨(.type "dict"),none,(.dict #[⟨(kh P "__module__"),.str "__module__" 502,(.str "fdsolve.store" 301)⟩,⟨(kh P "__firstlineno__"),.str "__firstlineno__" 506,(.int 152 505)⟩,⟨(kh P "__init__"),.str "__init__" 515,(.ref 269)⟩,⟨(kh P "propagate"),.str "propagate" 523,(.ref 276)⟩,⟨(kh P "check"),.str "check" 531,(.ref 283)⟩,⟨(kh P "told"),.str "told" 538,(.ref 290)⟩,⟨(kh P "__static_attributes__"),.str "__static_attributes__" 542,(.ref 291)⟩,⟨(kh P "__dict__"),.str "__dict__" 544,(.ref 294)⟩,⟨(kh P "__weakref__"),.str "__weakref__" 546,(.ref 295)⟩,⟨(kh P "__doc__"),.str "__doc__" 547,.none⟩] 4),#[]⟩
noncomputable def zoa(P:Params):Obj:=⟨(.type "type"),none,(.cls ⟨"Propagator",[(.type "object")],[(.ref 293),(.type "object")],292,"Propagator",true,[],[],false,none,false⟩),#[none,none,(some (.str "Propagator" 495)),(some (.str "Propagator" 503)),(some (.builtin "object.__new__")),(some (.bool true))]⟩
noncomputable def zhe(P:Params):Obj:=⟨(.type "getset_descriptor"),none,(.fields #[(.str "__dict__" 543),(.ref 293),(.builtin "function.__dict__"),(.builtin "function.__dict__#set")]),#[]⟩
noncomputable def zhd(P:Params):Obj:=⟨(.type "getset_descriptor"),none,(.fields #[(.str "__weakref__" 545),(.ref 293),(.builtin "ExceptionGroup.__weakref__"),.none]),#[]⟩
noncomputable def zlu(P:Params):Obj:=⟨(.type "super"),none,(.fields #[(.ref 293),(.ref 293),(.ref 293)]),#[]⟩
noncomputable def zlt(P:Params):Obj:=⟨(.type "builtin_function_or_method"),none,(.fields #[(.builtin "object.__init_subclass__"),(.ref 293)]),#[]⟩
noncomputable def zls(P:Params):Obj:=⟨(.type "dict"),none,(.dict #[⟨(kh P "__module__"),.str "__module__" 559,(.str "fdsolve.alldiff" 550)⟩,⟨(kh P "__qualname__"),.str "__qualname__" 561,(.str "Matching" 560)⟩,⟨(kh P "__firstlineno__"),.str "__firstlineno__" 563,(.int 168 562)⟩,⟨(kh P "__init__"),.str "__init__" 569,(.ref 309)⟩,⟨(kh P "seat"),.str "seat" 581,(.ref 316)⟩,⟨(kh P "hand_on"),.str "hand_on" 592,(.ref 323)⟩,⟨(kh P "closed_from"),.str "closed_from" 605,(.ref 330)⟩,⟨(kh P "__static_attributes__"),.str "__static_attributes__" 609,(.ref 331)⟩] 8),#[]⟩
noncomputable def zlr(P:Params):Obj:=⟨.none,none,(.fields #[(.int 170 0),(.int 4 0),(.ref 308),(.int 175 0),(.int 4 0),(.ref 315),(.int 188 0),(.int 4 0),(.ref 322),(.int 196 0),(.int 4 0),(.ref 329)]),#[]⟩
noncomputable def zlq(P:Params):Obj:=⟨(.type "code"),none,(.fields #[(.str "Matching" 554),(.str "Matching" 555),(.str "/claim/cut.py" 556),(.int 168 0),(.int 0 0),(.int 0 0),(.int 0 0),(.int 0 0),(.ref 301),(.bool false),(.int 181 0),(.ref 302),.none,.none,.none,.none,(.int 557 0),(.int 168 0),(.str "/claim/cut.py" 558)]),#[]⟩
noncomputable def zlp(P:Params):Obj:=⟨(.type "frame"),none,.plain,#[(some (.ref 303)),(some (.ref 3)),(some (.ref 300)),none,(some (.str "fdsolve.alldiff" 550)),none,(some (.ref 0))]⟩
noncomputable def zlo(P:Params):Obj:=fr "__init__" "Matching.__init__" (dm "Matching" "__init__")
noncomputable def zhc(P:Params):Obj:=co "__init__" "Matching.__init__" 564 170 3 305 .none .none .none (.ref 307) 567
noncomputable def zhb(P:Params):Obj:=fn "__init__" "Matching.__init__" (dm "Matching" "__init__") [] "fdsolve.alldiff" 550 308 .none
noncomputable def zha(P:Params):Obj:=tp #[(.str "self" 573),(.str "place" 574),(.str "came" 575),(.str "places" 576),(.str "k" 577),(.str "v" 578)]
noncomputable def zln(P:Params):Obj:=fr "seat" "Matching.seat" (dm "Matching" "seat")
noncomputable def zg9(P:Params):Obj:=co "seat" "Matching.seat" 570 175 2 310 .none (.ref 312) (.ref 313) (.ref 314) 579
noncomputable def zg8(P:Params):Obj:=fn "seat" "Matching.seat" (dm "Matching" "seat") [] "fdsolve.alldiff" 550 315 .none
noncomputable def zg7(P:Params):Obj:=tp #[(.str "self" 585),(.str "v" 586),(.str "came" 587),(.str "p" 588),(.str "left" 589)]
noncomputable def zlm(P:Params):Obj:=fr "hand_on" "Matching.hand_on" (dm "Matching" "hand_on")
noncomputable def zg6(P:Params):Obj:=co "hand_on" "Matching.hand_on" 582 188 3 317 .none (.ref 319) (.ref 320) (.ref 321) 590
noncomputable def zg5(P:Params):Obj:=fn "hand_on" "Matching.hand_on" (dm "Matching" "hand_on") [] "fdsolve.alldiff" 550 322 .none
noncomputable def zg4(P:Params):Obj:=tp #[(.str "self" 596),(.str "v" 597),(.str "places" 598),(.str "seen" 599),(.str "stack" 600),(.str "w" 601),(.str "u" 602)]
noncomputable def zll(P:Params):Obj:=fr "closed_from" "Matching.closed_from" (dm "Matching" "closed_from")
noncomputable def zg3(P:Params):Obj:=co "closed_from" "Matching.closed_from" 593 196 2 324 .none (.ref 326) (.ref 327) (.ref 328) 603
noncomputable def zg2(P:Params):Obj:=fn "closed_from" "Matching.closed_from" (dm "Matching" "closed_from") [] "fdsolve.alldiff" 550 329 .none
noncomputable def zg1(P:Params):Obj:=tp #[(.str "choices" 606),(.str "mate" 607),(.str "owner" 608)]
noncomputable def zg0(P:Params):Obj:=⟨(.type "dict"),none,(.dict #[⟨(kh P "__module__"),.str "__module__" 559,(.str "fdsolve.alldiff" 550)⟩,⟨(kh P "__firstlineno__"),.str "__firstlineno__" 563,(.int 168 562)⟩,⟨(kh P "__init__"),.str "__init__" 569,(.ref 309)⟩,⟨(kh P "seat"),.str "seat" 581,(.ref 316)⟩,⟨(kh P "hand_on"),.str "hand_on" 592,(.ref 323)⟩,⟨(kh P "closed_from"),.str "closed_from" 605,(.ref 330)⟩,⟨(kh P "__static_attributes__"),.str "__static_attributes__" 609,(.ref 331)⟩,⟨(kh P "__dict__"),.str "__dict__" 611,(.ref 334)⟩,⟨(kh P "__weakref__"),.str "__weakref__" 613,(.ref 335)⟩,⟨(kh P "__doc__"),.str "__doc__" 614,.none⟩] 4),#[]⟩
noncomputable def zgz(P:Params):Obj:=⟨(.type "type"),none,(.cls ⟨"Matching",[(.type "object")],[(.ref 333),(.type "object")],332,"Matching",true,[],[],false,none,false⟩),#[none,none,(some (.str "Matching" 552)),(some (.str "Matching" 560)),(some (.builtin "object.__new__")),(some (.bool true))]⟩
noncomputable def zgy(P:Params):Obj:=⟨(.type "getset_descriptor"),none,(.fields #[(.str "__dict__" 610),(.ref 333),(.builtin "function.__dict__"),(.builtin "function.__dict__#set")]),#[]⟩
noncomputable def zgx(P:Params):Obj:=⟨(.type "getset_descriptor"),none,(.fields #[(.str "__weakref__" 612),(.ref 333),(.builtin "ExceptionGroup.__weakref__"),.none]),#[]⟩
noncomputable def zlk(P:Params):Obj:=⟨(.type "super"),none,(.fields #[(.ref 333),(.ref 333),(.ref 333)]),#[]⟩
noncomputable def zlj(P:Params):Obj:=⟨(.type "builtin_function_or_method"),none,(.fields #[(.builtin "object.__init_subclass__"),(.ref 333)]),#[]⟩
noncomputable def tr3(P:Params):BT:=(.node (boot_o_0 P) (.node (boot_o_1 P) (.node (zoc P) (.node (boot_o_7 P) (.node (b0 P) (.node (b14 P) (.node (b1 P) (.node (b72 P) (.node (zht P) .nil .nil) .nil) (.node (zew P) (.node (zg7 P) .nil .nil) .nil)) (.node (b0 P) (.node (b1 P) (.node (b0 P) .nil .nil) .nil) (.node (zei P) .nil .nil))) (.node (b23 P) (.node (b42 P) (.node (b82 P) (.node (b1 P) .nil .nil) .nil) (.node (b0 P) (.node (zgx P) .nil .nil) .nil)) (.node (b63 P) (.node (b0 P) (.node (zlq P) .nil .nil) .nil) (.node (zhw P) .nil .nil)))) (.node (b1 P) (.node (b0 P) (.node (b37 P) (.node (b77 P) (.node (b0 P) .nil .nil) .nil) (.node (zes P) (.node (b0 P) .nil .nil) .nil)) (.node (b58 P) (.node (b95 P) (.node (zhd P) .nil .nil) .nil) (.node (b0 P) .nil .nil))) (.node (b28 P) (.node (b47 P) (.node (b0 P) (.node (zhm P) .nil .nil) .nil) (.node (b1 P) .nil .nil)) (.node (b0 P) (.node (zh4 P) (.node (b1 P) .nil .nil) .nil) (.node (zd8 P) .nil .nil))))) (.node (b0 P) (.node (b7 P) (.node (b17 P) (.node (b0 P) (.node (b1 P) (.node (b0 P) .nil .nil) .nil) (.node (zeu P) (.node (zg5 P) .nil .nil) .nil)) (.node (b53 P) (.node (b93 P) (.node (zhg P) .nil .nil) .nil) (.node (zeg P) .nil .nil))) (.node (b1 P) (.node (b44 P) (.node (b0 P) (.node (zho P) .nil .nil) .nil) (.node (zh0 P) .nil .nil)) (.node (b66 P) (.node (b0 P) (.node (zlo P) .nil .nil) .nil) (.node (b1 P) .nil .nil)))) (.node (b12 P) (.node (b0 P) (.node (b1 P) (.node (b79 P) (.node (zly P) .nil .nil) .nil) (.node (b0 P) (.node (zg1 P) .nil .nil) .nil)) (.node (b61 P) (.node (b98 P) (.node (b58 P) .nil .nil) .nil) (.node (b0 P) .nil .nil))) (.node (b30 P) (.node (b0 P) (.node (b88 P) (.node (zhk P) .nil .nil) .nil) (.node (zek P) .nil .nil)) (.node (b0 P) (.node (b1 P) (.node (zg9 P) .nil .nil) .nil) (.node (zd4 P) .nil .nil)))))) (.node (boot_o_5 P) (.node (boot_o_9 P) (.node (b6 P) (.node (b15 P) (.node (b34 P) (.node (b74 P) (.node (b58 P) .nil .nil) .nil) (.node (b0 P) (.node (zlm P) .nil .nil) .nil)) (.node (b52 P) (.node (b0 P) (.node (zhi P) .nil .nil) .nil) (.node (zhy P) .nil .nil))) (.node (b25 P) (.node (b0 P) (.node (b1 P) (.node (b0 P) .nil .nil) .nil) (.node (zeo P) (.node (zlj P) .nil .nil) .nil)) (.node (b64 P) (.node (ze2 P) (.node (b0 P) .nil .nil) .nil) (.node (zea P) .nil .nil)))) (.node (b0 P) (.node (b20 P) (.node (b39 P) (.node (b0 P) (.node (zhs P) .nil .nil) .nil) (.node (b1 P) (.node (zg3 P) .nil .nil) .nil)) (.node (b0 P) (.node (b96 P) (.node (zlt P) .nil .nil) .nil) (.node (zee P) .nil .nil))) (.node (b0 P) (.node (b1 P) (.node (b87 P) (.node (zlw P) .nil .nil) .nil) (.node (b0 P) .nil .nil)) (.node (b69 P) (.node (zey P) (.node (b0 P) .nil .nil) .nil) (.node (zd6 P) .nil .nil))))) (.node (b2 P) (.node (b9 P) (.node (b1 P) (.node (b36 P) (.node (b0 P) (.node (zl0 P) .nil .nil) .nil) (.node (zh2 P) (.node (b1 P) .nil .nil) .nil)) (.node (b55 P) (.node (b0 P) (.node (zoa P) .nil .nil) .nil) (.node (b1 P) .nil .nil))) (.node (b0 P) (.node (b45 P) (.node (b85 P) (.node (b0 P) .nil .nil) .nil) (.node (zem P) .nil .nil)) (.node (b1 P) (.node (ze0 P) (.node (zhb P) .nil .nil) .nil) (.node (b0 P) .nil .nil)))) (.node (b0 P) (.node (b22 P) (.node (b0 P) (.node (b80 P) (.node (zhq P) .nil .nil) .nil) (.node (zeq P) (.node (zgz P) .nil .nil) .nil)) (.node (b0 P) (.node (b1 P) (.node (b0 P) .nil .nil) .nil) (.node (zec P) .nil .nil))) (.node (b32 P) (.node (b50 P) (.node (b90 P) (.node (b1 P) .nil .nil) .nil) (.node (b0 P) .nil .nil)) (.node (b71 P) (.node (b0 P) (.node (b0 P) .nil .nil) .nil) (.node (zd2 P) .nil .nil))))))) (.node (boot_o_2 P) (.node (boot_o_4 P) (.node (boot_o_8 P) (.node (b1 P) (.node (b0 P) (.node (b33 P) (.node (b73 P) (.node (b0 P) .nil .nil) .nil) (.node (zev P) (.node (b0 P) .nil .nil) .nil)) (.node (b1 P) (.node (b91 P) (.node (zlv P) .nil .nil) .nil) (.node (b0 P) .nil .nil))) (.node (b24 P) (.node (b43 P) (.node (b0 P) (.node (zhp P) .nil .nil) .nil) (.node (b1 P) (.node (zlk P) .nil .nil) .nil)) (.node (b0 P) (.node (zh5 P) (.node (zlp P) .nil .nil) .nil) (.node (zeb P) .nil .nil)))) (.node (b10 P) (.node (b19 P) (.node (b38 P) (.node (b78 P) (.node (b1 P) .nil .nil) .nil) (.node (b0 P) (.node (zll P) .nil .nil) .nil)) (.node (b59 P) (.node (b0 P) (.node (zlu P) .nil .nil) .nil) (.node (zhx P) .nil .nil))) (.node (b29 P) (.node (b0 P) (.node (b1 P) (.node (b0 P) .nil .nil) .nil) (.node (zel P) .nil .nil)) (.node (b68 P) (.node (zez P) (.node (zha P) .nil .nil) .nil) (.node (zd7 P) .nil .nil))))) (.node (zob P) (.node (b8 P) (.node (b0 P) (.node (b1 P) (.node (b75 P) (.node (zl1 P) .nil .nil) .nil) (.node (b0 P) (.node (b0 P) .nil .nil) .nil)) (.node (b54 P) (.node (b94 P) (.node (zhf P) .nil .nil) .nil) (.node (b0 P) .nil .nil))) (.node (b26 P) (.node (b0 P) (.node (b84 P) (.node (zhn P) .nil .nil) .nil) (.node (zen P) .nil .nil)) (.node (b0 P) (.node (b1 P) (.node (zhc P) .nil .nil) .nil) (.node (zd9 P) .nil .nil)))) (.node (b13 P) (.node (b1 P) (.node (b40 P) (.node (b0 P) (.node (zhr P) .nil .nil) .nil) (.node (zh1 P) (.node (zg0 P) .nil .nil) .nil)) (.node (b62 P) (.node (b0 P) (.node (zls P) .nil .nil) .nil) (.node (b1 P) .nil .nil))) (.node (b31 P) (.node (b49 P) (.node (b89 P) (.node (b0 P) .nil .nil) .nil) (.node (zej P) .nil .nil)) (.node (b1 P) (.node (zex P) (.node (zg8 P) .nil .nil) .nil) (.node (zd3 P) .nil .nil)))))) (.node (boot_o_6 P) (.node (boot_o_10 P) (.node (b0 P) (.node (b16 P) (.node (b35 P) (.node (b0 P) (.node (zl2 P) .nil .nil) .nil) (.node (b1 P) (.node (zg6 P) .nil .nil) .nil)) (.node (b0 P) (.node (b92 P) (.node (zhh P) .nil .nil) .nil) (.node (zeh P) .nil .nil))) (.node (b0 P) (.node (b1 P) (.node (b83 P) (.node (zlx P) .nil .nil) .nil) (.node (b0 P) .nil .nil)) (.node (b65 P) (.node (ze1 P) (.node (b1 P) .nil .nil) .nil) (.node (b0 P) .nil .nil)))) (.node (b11 P) (.node (b21 P) (.node (b0 P) (.node (b1 P) (.node (b0 P) .nil .nil) .nil) (.node (zer P) (.node (zg2 P) .nil .nil) .nil)) (.node (b60 P) (.node (b97 P) (.node (b0 P) .nil .nil) .nil) (.node (zed P) .nil .nil))) (.node (b1 P) (.node (b48 P) (.node (b0 P) (.node (zhl P) .nil .nil) .nil) (.node (zhz P) .nil .nil)) (.node (b70 P) (.node (b0 P) (.node (zln P) .nil .nil) .nil) (.node (zd5 P) .nil .nil))))) (.node (b3 P) (.node (b0 P) (.node (b18 P) (.node (b0 P) (.node (b76 P) (.node (zlz P) .nil .nil) .nil) (.node (zet P) (.node (zg4 P) .nil .nil) .nil)) (.node (b0 P) (.node (b1 P) (.node (zhe P) .nil .nil) .nil) (.node (zef P) .nil .nil))) (.node (b27 P) (.node (b46 P) (.node (b86 P) (.node (b1 P) .nil .nil) .nil) (.node (b0 P) .nil .nil)) (.node (b67 P) (.node (b0 P) (.node (b0 P) .nil .nil) .nil) (.node (zhv P) .nil .nil)))) (.node (b1 P) (.node (b0 P) (.node (b41 P) (.node (b81 P) (.node (b0 P) .nil .nil) .nil) (.node (zep P) (.node (zgy P) .nil .nil) .nil)) (.node (b1 P) (.node (b99 P) (.node (zlr P) .nil .nil) .nil) (.node (b0 P) .nil .nil))) (.node (b0 P) (.node (b51 P) (.node (b0 P) (.node (zhj P) .nil .nil) .nil) (.node (b1 P) .nil .nil)) (.node (b0 P) (.node (zh3 P) (.node (b1 P) .nil .nil) .nil) (.node (zhu P) .nil .nil))))))))
noncomputable def zli(P:Params):Obj:=⟨(.type "dict"),none,(.dict #[⟨(kh P "__name__"),.str "__name__" 165,(.str "law_pc0038_01" 684)⟩,⟨(kh P "__doc__"),.str "__doc__" 166,.none⟩,⟨(kh P "__package__"),.str "__package__" 167,.none⟩,⟨(kh P "__loader__"),.str "__loader__" 168,(.builtin "__main__.__loader__#opaque")⟩,⟨(kh P "__spec__"),.str "__spec__" 169,.none⟩,⟨(kh P "__annotations__"),.str "__annotations__" 170,(.ref 6)⟩,⟨(kh P "__builtins__"),.str "__builtins__" 171,(.ref 4)⟩,⟨(kh P "__file__"),.str "__file__" 173,(.str "/claim/cut.py" 172)⟩,⟨(kh P "__cached__"),.str "__cached__" 174,.none⟩,⟨(kh P "_wall"),.str "_wall" 193,(.ref 21)⟩,⟨(kh P "least"),.str "least" 202,(.ref 28)⟩,⟨(kh P "greatest"),.str "greatest" 209,(.ref 35)⟩,⟨(kh P "next_from"),.str "next_from" 219,(.ref 42)⟩,⟨(kh P "has"),.str "has" 227,(.ref 49)⟩,⟨(kh P "has_domains"),.str "has_domains" 228,(.ref 49)⟩,⟨(kh P "values"),.str "values" 238,(.ref 56)⟩,⟨(kh P "up_to"),.str "up_to" 244,(.ref 61)⟩,⟨(kh P "from_on"),.str "from_on" 250,(.ref 66)⟩,⟨(kh P "without"),.str "without" 258,(.ref 73)⟩,⟨(kh P "meet"),.str "meet" 271,(.ref 80)⟩,⟨(kh P "negation"),.str "negation" 281,(.ref 87)⟩,⟨(kh P "struck"),.str "struck" 291,(.ref 94)⟩,⟨(kh P "said_of"),.str "said_of" 300,(.ref 101)⟩,⟨(kh P "Store"),.str "Store" 494,(.ref 251)⟩,⟨(kh P "Propagator"),.str "Propagator" 549,(.ref 293)⟩,⟨(kh P "Matching"),.str "Matching" 616,(.ref 333)⟩,⟨(kh P "AllDifferentValues"),.str "AllDifferentValues" 683,(.ref 382)⟩,⟨(kh P "_law_roll"),.str "_law_roll" 693,(.ref 391)⟩,⟨(kh P "_law_spans"),.str "_law_spans" 702,(.ref 398)⟩,⟨(kh P "_law_rows"),.str "_law_rows" 708,(.ref 403)⟩,⟨(kh P "_law_lets"),.str "_law_lets" 716,(.ref 410)⟩,⟨(kh P "_law_kept"),.str "_law_kept" 722,(.ref 415)⟩,⟨(kh P "_law_hold"),.str "_law_hold" 728,(.ref 420)⟩,⟨(kh P "_law_all_sit"),.str "_law_all_sit" 734,(.ref 425)⟩,⟨(kh P "_law_room"),.str "_law_room" 740,(.ref 430)⟩,⟨(kh P "_law_strikes_right"),.str "_law_strikes_right" 746,(.ref 435)⟩,⟨(kh P "_law_asked_right"),.str "_law_asked_right" 752,(.ref 440)⟩,⟨(kh P "_law_decided"),.str "_law_decided" 758,(.ref 445)⟩,⟨(kh P "_law_store"),.str "_law_store" 767,(.ref 452)⟩,⟨(kh P "law"),.str "law" 773,(.ref 457)⟩] 40),#[]⟩
noncomputable def znr(P:Params):Obj:=⟨.none,none,(.fields #[(.int 1 0),(.int 0 0),(.ref 20),(.int 5 0),(.int 0 0),(.ref 27),(.int 7 0),(.int 0 0),(.ref 34),(.int 9 0),(.int 0 0),(.ref 41),(.int 14 0),(.int 0 0),(.ref 48),(.int 17 0),(.int 0 0),(.ref 55),(.int 22 0),(.int 0 0),(.ref 60),(.int 24 0),(.int 0 0),(.ref 65),(.int 26 0),(.int 0 0),(.ref 72),(.int 28 0),(.int 0 0),(.ref 79),(.int 39 0),(.int 0 0),(.ref 86),(.int 46 0),(.int 0 0),(.ref 93),(.int 53 0),(.int 0 0),(.ref 100),(.int 59 0),(.int 0 0),(.ref 107),(.int 152 0),(.int 0 0),(.ref 261),(.int 168 0),(.int 0 0),(.ref 303),(.int 208 0),(.int 0 0),(.ref 344),(.int 250 0),(.int 0 0),(.ref 390),(.int 256 0),(.int 0 0),(.ref 397),(.int 264 0),(.int 0 0),(.ref 402),(.int 266 0),(.int 0 0),(.ref 409),(.int 268 0),(.int 0 0),(.ref 414),(.int 270 0),(.int 0 0),(.ref 419),(.int 272 0),(.int 0 0),(.ref 424),(.int 280 0),(.int 0 0),(.ref 429),(.int 283 0),(.int 0 0),(.ref 434),(.int 292 0),(.int 0 0),(.ref 439),(.int 309 0),(.int 0 0),(.ref 444),(.int 320 0),(.int 0 0),(.ref 451),(.int 325 0),(.int 0 0),(.ref 456)]),#[]⟩
noncomputable def zlh(P:Params):Obj:=⟨(.type "type"),none,(.cls ⟨"Propagator",[(.type "object")],[(.ref 293),(.type "object")],292,"Propagator",true,[],[(.ref 382)],false,none,false⟩),#[none,none,(some (.str "Propagator" 495)),(some (.str "Propagator" 503)),(some (.builtin "object.__new__")),(some (.bool true))]⟩
noncomputable def zlg(P:Params):Obj:=tp #[(.ref 293)]
noncomputable def znq(P:Params):Obj:=⟨(.type "dict"),none,(.dict #[⟨(kh P "__module__"),.str "__module__" 624,(.str "fdsolve.alldiff" 550)⟩,⟨(kh P "__qualname__"),.str "__qualname__" 626,(.str "AllDifferentValues" 625)⟩,⟨(kh P "__firstlineno__"),.str "__firstlineno__" 628,(.int 208 627)⟩,⟨(kh P "__init__"),.str "__init__" 637,(.ref 353)⟩,⟨(kh P "told"),.str "told" 644,(.ref 360)⟩,⟨(kh P "check"),.str "check" 650,(.ref 365)⟩,⟨(kh P "propagate"),.str "propagate" 664,(.ref 372)⟩,⟨(kh P "walls"),.str "walls" 678,(.ref 379)⟩,⟨(kh P "__static_attributes__"),.str "__static_attributes__" 679,(.ref 380)⟩,⟨(kh P "__classcell__"),.str "__classcell__" 680,(.ref 341)⟩] 10),#[]⟩
noncomputable def zlf(P:Params):Obj:=⟨(.type "cell"),none,(.cell (some (.ref 382))),#[]⟩
noncomputable def znp(P:Params):Obj:=⟨.none,none,(.fields #[(.int 210 0),(.int 4 0),(.ref 352),(.int 213 0),(.int 4 0),(.ref 359),(.int 216 0),(.int 4 0),(.ref 364),(.int 219 0),(.int 4 0),(.ref 371),(.int 240 0),(.int 4 0),(.ref 378)]),#[]⟩
noncomputable def zno(P:Params):Obj:=⟨(.type "code"),none,(.fields #[(.str "AllDifferentValues" 619),(.str "AllDifferentValues" 620),(.str "/claim/cut.py" 621),(.int 208 0),(.int 0 0),(.int 0 0),(.int 0 0),(.int 0 0),(.ref 342),(.bool false),(.int 181 0),(.ref 343),.none,.none,.none,.none,(.int 622 0),(.int 208 0),(.str "/claim/cut.py" 623)]),#[]⟩
noncomputable def znn(P:Params):Obj:=⟨(.type "frame"),none,.plain,#[(some (.ref 344)),(some (.ref 3)),(some (.ref 340)),none,(some (.str "fdsolve.alldiff" 550)),none,(some (.ref 0))]⟩
noncomputable def zle(P:Params):Obj:=tp #[(.ref 341)]
noncomputable def zld(P:Params):Obj:=tp #[(.str "__class__" 632)]
noncomputable def zlc(P:Params):Obj:=tp #[(.str "self" 633),(.str "row" 634)]
noncomputable def znm(P:Params):Obj:=fr "__init__" "AllDifferentValues.__init__" (dm "AllDifferentValues" "__init__")
noncomputable def zlb(P:Params):Obj:=co "__init__" "AllDifferentValues.__init__" 629 210 2 347 .none (.ref 349) (.ref 350) (.ref 351) 635
noncomputable def zla(P:Params):Obj:=fn "__init__" "AllDifferentValues.__init__" (dm "AllDifferentValues" "__init__") [("__class__",341)] "fdsolve.alldiff" 550 352 (.ref 346)
noncomputable def zk9(P:Params):Obj:=tp #[(.str "self" 641)]
noncomputable def znl(P:Params):Obj:=fr "told" "AllDifferentValues.told" (dm "AllDifferentValues" "told")
noncomputable def zk8(P:Params):Obj:=co "told" "AllDifferentValues.told" 638 213 1 354 .none (.ref 356) (.ref 357) (.ref 358) 642
noncomputable def zk7(P:Params):Obj:=fn "told" "AllDifferentValues.told" (dm "AllDifferentValues" "told") [] "fdsolve.alldiff" 550 359 .none
noncomputable def znk(P:Params):Obj:=fr "check" "AllDifferentValues.check" (dm "AllDifferentValues" "check")
noncomputable def zk6(P:Params):Obj:=co "check" "AllDifferentValues.check" 645 216 2 361 .none .none .none (.ref 363) 648
noncomputable def zk5(P:Params):Obj:=fn "check" "AllDifferentValues.check" (dm "AllDifferentValues" "check") [] "fdsolve.alldiff" 550 364 .none
noncomputable def zk4(P:Params):Obj:=tp #[(.str "self" 654),(.str "store" 655),(.str "matching" 656),(.str "place" 657),(.str "answer" 658),(.str "needs" 659),(.str "v" 660),(.str "reasons" 661)]
noncomputable def znj(P:Params):Obj:=fr "propagate" "AllDifferentValues.propagate" (dm "AllDifferentValues" "propagate")
noncomputable def zk3(P:Params):Obj:=co "propagate" "AllDifferentValues.propagate" 651 219 2 366 .none (.ref 368) (.ref 369) (.ref 370) 662
noncomputable def zk2(P:Params):Obj:=fn "propagate" "AllDifferentValues.propagate" (dm "AllDifferentValues" "propagate") [] "fdsolve.alldiff" 550 371 .none
noncomputable def zk1(P:Params):Obj:=tp #[(.str "self" 668),(.str "store" 669),(.str "places" 670),(.str "few" 671),(.str "found" 672),(.str "place" 673),(.str "x" 674),(.str "v" 675)]
noncomputable def zni(P:Params):Obj:=fr "walls" "AllDifferentValues.walls" (dm "AllDifferentValues" "walls")
noncomputable def zk0(P:Params):Obj:=co "walls" "AllDifferentValues.walls" 665 240 4 373 .none (.ref 375) (.ref 376) (.ref 377) 676
noncomputable def zkz(P:Params):Obj:=fn "walls" "AllDifferentValues.walls" (dm "AllDifferentValues" "walls") [] "fdsolve.alldiff" 550 378 .none
noncomputable def zky(P:Params):Obj:=⟨(.type "dict"),none,(.dict #[⟨(kh P "__module__"),.str "__module__" 624,(.str "fdsolve.alldiff" 550)⟩,⟨(kh P "__firstlineno__"),.str "__firstlineno__" 628,(.int 208 627)⟩,⟨(kh P "__init__"),.str "__init__" 637,(.ref 353)⟩,⟨(kh P "told"),.str "told" 644,(.ref 360)⟩,⟨(kh P "check"),.str "check" 650,(.ref 365)⟩,⟨(kh P "propagate"),.str "propagate" 664,(.ref 372)⟩,⟨(kh P "walls"),.str "walls" 678,(.ref 379)⟩,⟨(kh P "__static_attributes__"),.str "__static_attributes__" 679,(.ref 380)⟩,⟨(kh P "__doc__"),.str "__doc__" 681,.none⟩] 3),#[]⟩
noncomputable def zkx(P:Params):Obj:=⟨(.type "type"),none,(.cls ⟨"AllDifferentValues",[(.ref 293)],[(.ref 382),(.ref 293),(.type "object")],381,"AllDifferentValues",true,[],[],false,none,false⟩),#[(some (.ref 338)),none,(some (.str "AllDifferentValues" 617)),(some (.str "AllDifferentValues" 625)),(some (.builtin "object.__new__")),(some (.bool true))]⟩
noncomputable def znh(P:Params):Obj:=⟨(.type "super"),none,(.fields #[(.ref 382),(.ref 382),(.ref 382)]),#[]⟩
noncomputable def zng(P:Params):Obj:=⟨(.type "builtin_function_or_method"),none,(.fields #[(.builtin "object.__init_subclass__"),(.ref 382)]),#[]⟩
noncomputable def zkw(P:Params):Obj:=tp #[(.str "tape" 689),(.str "many" 690)]
noncomputable def znf(P:Params):Obj:=fr "_law_roll" "_law_roll" (dt "_law_roll")
noncomputable def zkv(P:Params):Obj:=co "_law_roll" "_law_roll" 686 250 2 385 .none (.ref 387) (.ref 388) (.ref 389) 691
noncomputable def zku(P:Params):Obj:=fn "_law_roll" "_law_roll" (dt "_law_roll") [] "law_pc0038_01" 684 390 .none
noncomputable def zkt(P:Params):Obj:=tp #[(.str "row" 697),(.str "found" 698),(.str "v" 699)]
noncomputable def zne(P:Params):Obj:=fr "_law_spans" "_law_spans" (dt "_law_spans")
noncomputable def zks(P:Params):Obj:=co "_law_spans" "_law_spans" 694 256 1 392 .none (.ref 394) (.ref 395) (.ref 396) 700
noncomputable def zkr(P:Params):Obj:=fn "_law_spans" "_law_spans" (dt "_law_spans") [] "law_pc0038_01" 684 397 .none
noncomputable def znd(P:Params):Obj:=fr "_law_rows" "_law_rows" (dt "_law_rows")
noncomputable def zkq(P:Params):Obj:=co "_law_rows" "_law_rows" 703 264 1 399 .none .none .none (.ref 401) 706
noncomputable def zkp(P:Params):Obj:=fn "_law_rows" "_law_rows" (dt "_law_rows") [] "law_pc0038_01" 684 402 .none
noncomputable def zko(P:Params):Obj:=tp #[(.str "literal" 712),(.str "v" 713)]
noncomputable def znc(P:Params):Obj:=fr "_law_lets" "_law_lets" (dt "_law_lets")
noncomputable def zkn(P:Params):Obj:=co "_law_lets" "_law_lets" 709 266 2 404 .none (.ref 406) (.ref 407) (.ref 408) 714
noncomputable def zkm(P:Params):Obj:=fn "_law_lets" "_law_lets" (dt "_law_lets") [] "law_pc0038_01" 684 409 .none
noncomputable def znb(P:Params):Obj:=fr "_law_kept" "_law_kept" (dt "_law_kept")
noncomputable def zkl(P:Params):Obj:=co "_law_kept" "_law_kept" 717 268 3 411 .none .none .none (.ref 413) 720
noncomputable def zkk(P:Params):Obj:=fn "_law_kept" "_law_kept" (dt "_law_kept") [] "law_pc0038_01" 684 414 .none
noncomputable def zna(P:Params):Obj:=fr "_law_hold" "_law_hold" (dt "_law_hold")
noncomputable def zkj(P:Params):Obj:=co "_law_hold" "_law_hold" 723 270 2 416 .none .none .none (.ref 418) 726
noncomputable def zki(P:Params):Obj:=fn "_law_hold" "_law_hold" (dt "_law_hold") [] "law_pc0038_01" 684 419 .none
noncomputable def zm9(P:Params):Obj:=fr "_law_all_sit" "_law_all_sit" (dt "_law_all_sit")
noncomputable def zkh(P:Params):Obj:=co "_law_all_sit" "_law_all_sit" 729 272 1 421 .none .none .none (.ref 423) 732
noncomputable def zkg(P:Params):Obj:=fn "_law_all_sit" "_law_all_sit" (dt "_law_all_sit") [] "law_pc0038_01" 684 424 .none
noncomputable def zm8(P:Params):Obj:=fr "_law_room" "_law_room" (dt "_law_room")
noncomputable def zkf(P:Params):Obj:=co "_law_room" "_law_room" 735 280 2 426 .none .none .none (.ref 428) 738
noncomputable def zke(P:Params):Obj:=fn "_law_room" "_law_room" (dt "_law_room") [] "law_pc0038_01" 684 429 .none
noncomputable def zm7(P:Params):Obj:=fr "_law_strikes_right" "_law_strikes_right" (dt "_law_strikes_right")
noncomputable def zkd(P:Params):Obj:=co "_law_strikes_right" "_law_strikes_right" 741 283 4 431 .none .none .none (.ref 433) 744
noncomputable def zkc(P:Params):Obj:=fn "_law_strikes_right" "_law_strikes_right" (dt "_law_strikes_right") [] "law_pc0038_01" 684 434 .none
noncomputable def zm6(P:Params):Obj:=fr "_law_asked_right" "_law_asked_right" (dt "_law_asked_right")
noncomputable def zkb(P:Params):Obj:=co "_law_asked_right" "_law_asked_right" 747 292 3 436 .none .none .none (.ref 438) 750
noncomputable def zka(P:Params):Obj:=fn "_law_asked_right" "_law_asked_right" (dt "_law_asked_right") [] "law_pc0038_01" 684 439 .none
noncomputable def zm5(P:Params):Obj:=fr "_law_decided" "_law_decided" (dt "_law_decided")
noncomputable def zj9(P:Params):Obj:=co "_law_decided" "_law_decided" 753 309 2 441 .none .none .none (.ref 443) 756
noncomputable def zj8(P:Params):Obj:=fn "_law_decided" "_law_decided" (dt "_law_decided") [] "law_pc0038_01" 684 444 .none
noncomputable def zj7(P:Params):Obj:=tp #[(.str "early" 762),(.str "found" 763),(.str "row" 764)]
noncomputable def zm4(P:Params):Obj:=fr "_law_store" "_law_store" (dt "_law_store")
noncomputable def zj6(P:Params):Obj:=co "_law_store" "_law_store" 759 320 1 446 .none (.ref 448) (.ref 449) (.ref 450) 765
noncomputable def zj5(P:Params):Obj:=fn "_law_store" "_law_store" (dt "_law_store") [] "law_pc0038_01" 684 451 .none
noncomputable def zm3(P:Params):Obj:=fr "law" "law" (dt "law")
noncomputable def zj4(P:Params):Obj:=co "law" "law" 768 325 1 453 .none .none .none (.ref 455) 771
noncomputable def zj3(P:Params):Obj:=fn "law" "law" (dt "law") [] "law_pc0038_01" 684 456 .none
noncomputable def tr4(P:Params):BT:=(.node (boot_o_0 P) (.node (boot_o_1 P) (.node (zli P) (.node (boot_o_7 P) (.node (b0 P) (.node (b14 P) (.node (b1 P) (.node (b72 P) (.node (zht P) .nil .nil) (.node (znh P) .nil .nil)) (.node (zew P) (.node (zg7 P) .nil .nil) (.node (b1 P) .nil .nil))) (.node (b0 P) (.node (b1 P) (.node (b0 P) .nil .nil) (.node (zkk P) .nil .nil)) (.node (zei P) (.node (znm P) .nil .nil) .nil))) (.node (b23 P) (.node (b42 P) (.node (b82 P) (.node (b1 P) .nil .nil) (.node (b0 P) .nil .nil)) (.node (b0 P) (.node (zgx P) .nil .nil) .nil)) (.node (b63 P) (.node (b0 P) (.node (zlq P) .nil .nil) (.node (b0 P) .nil .nil)) (.node (zhw P) (.node (b1 P) .nil .nil) .nil)))) (.node (b1 P) (.node (b0 P) (.node (b37 P) (.node (b77 P) (.node (b0 P) .nil .nil) (.node (zku P) .nil .nil)) (.node (zes P) (.node (b0 P) .nil .nil) (.node (zm3 P) .nil .nil))) (.node (b58 P) (.node (b95 P) (.node (zhd P) .nil .nil) (.node (zm9 P) .nil .nil)) (.node (b0 P) (.node (zk8 P) .nil .nil) .nil))) (.node (b28 P) (.node (b47 P) (.node (b0 P) (.node (zhm P) .nil .nil) (.node (b0 P) .nil .nil)) (.node (b1 P) (.node (znp P) .nil .nil) .nil)) (.node (b0 P) (.node (zh4 P) (.node (b1 P) .nil .nil) (.node (zkb P) .nil .nil)) (.node (zd8 P) (.node (zk1 P) .nil .nil) .nil))))) (.node (b0 P) (.node (b7 P) (.node (b17 P) (.node (b0 P) (.node (b1 P) (.node (b0 P) .nil .nil) (.node (zkw P) .nil .nil)) (.node (zeu P) (.node (zg5 P) .nil .nil) (.node (zj6 P) .nil .nil))) (.node (b53 P) (.node (b93 P) (.node (zhg P) .nil .nil) (.node (zkj P) .nil .nil)) (.node (zeg P) (.node (b1 P) .nil .nil) .nil))) (.node (b1 P) (.node (b44 P) (.node (b0 P) (.node (zho P) .nil .nil) (.node (zkp P) .nil .nil)) (.node (zh0 P) (.node (b58 P) .nil .nil) .nil)) (.node (b66 P) (.node (b0 P) (.node (zlo P) .nil .nil) (.node (zkc P) .nil .nil)) (.node (b1 P) (.node (zk3 P) .nil .nil) .nil)))) (.node (b12 P) (.node (b0 P) (.node (b1 P) (.node (b79 P) (.node (zly P) .nil .nil) (.node (b0 P) .nil .nil)) (.node (b0 P) (.node (zg1 P) .nil .nil) .nil)) (.node (b61 P) (.node (b98 P) (.node (b58 P) .nil .nil) (.node (b1 P) .nil .nil)) (.node (b0 P) (.node (znk P) .nil .nil) .nil))) (.node (b30 P) (.node (b0 P) (.node (b88 P) (.node (zhk P) .nil .nil) (.node (b0 P) .nil .nil)) (.node (zek P) (.node (zld P) .nil .nil) .nil)) (.node (b0 P) (.node (b1 P) (.node (zg9 P) .nil .nil) (.node (zm5 P) .nil .nil)) (.node (zd4 P) (.node (zkz P) .nil .nil) .nil)))))) (.node (boot_o_5 P) (.node (boot_o_9 P) (.node (b6 P) (.node (b15 P) (.node (b34 P) (.node (b74 P) (.node (b58 P) .nil .nil) (.node (b0 P) .nil .nil)) (.node (b0 P) (.node (zlm P) .nil .nil) (.node (b0 P) .nil .nil))) (.node (b52 P) (.node (b0 P) (.node (zhi P) .nil .nil) (.node (b1 P) .nil .nil)) (.node (zhy P) (.node (zla P) .nil .nil) .nil))) (.node (b25 P) (.node (b0 P) (.node (b1 P) (.node (b0 P) .nil .nil) (.node (znd P) .nil .nil)) (.node (zeo P) (.node (zlj P) .nil .nil) .nil)) (.node (b64 P) (.node (ze2 P) (.node (b0 P) .nil .nil) (.node (zm7 P) .nil .nil)) (.node (zea P) (.node (b0 P) .nil .nil) .nil)))) (.node (b0 P) (.node (b20 P) (.node (b39 P) (.node (b0 P) (.node (zhs P) .nil .nil) (.node (b1 P) .nil .nil)) (.node (b1 P) (.node (zg3 P) .nil .nil) (.node (zj3 P) .nil .nil))) (.node (b0 P) (.node (b96 P) (.node (zlt P) .nil .nil) (.node (zkg P) .nil .nil)) (.node (zee P) (.node (b0 P) .nil .nil) .nil))) (.node (b0 P) (.node (b1 P) (.node (b87 P) (.node (zlw P) .nil .nil) (.node (zkn P) .nil .nil)) (.node (b0 P) (.node (znn P) .nil .nil) .nil)) (.node (b69 P) (.node (zey P) (.node (b0 P) .nil .nil) (.node (b0 P) .nil .nil)) (.node (zd6 P) (.node (zni P) .nil .nil) .nil))))) (.node (b2 P) (.node (b9 P) (.node (b1 P) (.node (b36 P) (.node (b0 P) (.node (zl0 P) .nil .nil) (.node (znf P) .nil .nil)) (.node (zh2 P) (.node (b1 P) .nil .nil) (.node (b0 P) .nil .nil))) (.node (b55 P) (.node (b0 P) (.node (zlh P) .nil .nil) (.node (b0 P) .nil .nil)) (.node (b1 P) (.node (b0 P) .nil .nil) .nil))) (.node (b0 P) (.node (b45 P) (.node (b85 P) (.node (b0 P) .nil .nil) (.node (b1 P) .nil .nil)) (.node (zem P) (.node (zlf P) .nil .nil) .nil)) (.node (b1 P) (.node (ze0 P) (.node (zhb P) .nil .nil) (.node (b1 P) .nil .nil)) (.node (b0 P) (.node (b0 P) .nil .nil) .nil)))) (.node (b0 P) (.node (b22 P) (.node (b0 P) (.node (b80 P) (.node (zhq P) .nil .nil) (.node (zks P) .nil .nil)) (.node (zeq P) (.node (zgz P) .nil .nil) .nil)) (.node (b0 P) (.node (b1 P) (.node (b0 P) .nil .nil) (.node (zkf P) .nil .nil)) (.node (zec P) (.node (zk5 P) .nil .nil) .nil))) (.node (b32 P) (.node (b50 P) (.node (b90 P) (.node (b1 P) .nil .nil) (.node (znb P) .nil .nil)) (.node (b0 P) (.node (zlc P) .nil .nil) .nil)) (.node (b71 P) (.node (b0 P) (.node (b0 P) .nil .nil) (.node (zj8 P) .nil .nil)) (.node (zd2 P) (.node (zky P) .nil .nil) .nil))))))) (.node (boot_o_2 P) (.node (boot_o_4 P) (.node (boot_o_8 P) (.node (b1 P) (.node (b0 P) (.node (b33 P) (.node (b73 P) (.node (b0 P) .nil .nil) (.node (zng P) .nil .nil)) (.node (zev P) (.node (b0 P) .nil .nil) (.node (zj7 P) .nil .nil))) (.node (b1 P) (.node (b91 P) (.node (zlv P) .nil .nil) (.node (b0 P) .nil .nil)) (.node (b0 P) (.node (zlb P) .nil .nil) .nil))) (.node (b24 P) (.node (b43 P) (.node (b0 P) (.node (zhp P) .nil .nil) (.node (b1 P) .nil .nil)) (.node (b1 P) (.node (zlk P) .nil .nil) .nil)) (.node (b0 P) (.node (zh5 P) (.node (zlp P) .nil .nil) (.node (b1 P) .nil .nil)) (.node (zeb P) (.node (zk4 P) .nil .nil) .nil)))) (.node (b10 P) (.node (b19 P) (.node (b38 P) (.node (b78 P) (.node (b1 P) .nil .nil) (.node (b0 P) .nil .nil)) (.node (b0 P) (.node (zll P) .nil .nil) (.node (zj4 P) .nil .nil))) (.node (b59 P) (.node (b0 P) (.node (zlu P) .nil .nil) (.node (zkh P) .nil .nil)) (.node (zhx P) (.node (zk7 P) .nil .nil) .nil))) (.node (b29 P) (.node (b0 P) (.node (b1 P) (.node (b0 P) .nil .nil) (.node (znc P) .nil .nil)) (.node (zel P) (.node (zno P) .nil .nil) .nil)) (.node (b68 P) (.node (zez P) (.node (zha P) .nil .nil) (.node (zka P) .nil .nil)) (.node (zd7 P) (.node (b0 P) .nil .nil) .nil))))) (.node (znr P) (.node (b8 P) (.node (b0 P) (.node (b1 P) (.node (b75 P) (.node (zl1 P) .nil .nil) (.node (b0 P) .nil .nil)) (.node (b0 P) (.node (b0 P) .nil .nil) (.node (zj5 P) .nil .nil))) (.node (b54 P) (.node (b94 P) (.node (zhf P) .nil .nil) (.node (zki P) .nil .nil)) (.node (b0 P) (.node (zk9 P) .nil .nil) .nil))) (.node (b26 P) (.node (b0 P) (.node (b84 P) (.node (zhn P) .nil .nil) (.node (b0 P) .nil .nil)) (.node (zen P) (.node (znq P) .nil .nil) .nil)) (.node (b0 P) (.node (b1 P) (.node (zhc P) .nil .nil) (.node (b0 P) .nil .nil)) (.node (zd9 P) (.node (zk2 P) .nil .nil) .nil)))) (.node (b13 P) (.node (b1 P) (.node (b40 P) (.node (b0 P) (.node (zhr P) .nil .nil) (.node (zne P) .nil .nil)) (.node (zh1 P) (.node (zg0 P) .nil .nil) .nil)) (.node (b62 P) (.node (b0 P) (.node (zls P) .nil .nil) (.node (zm8 P) .nil .nil)) (.node (b1 P) (.node (zk6 P) .nil .nil) .nil))) (.node (b31 P) (.node (b49 P) (.node (b89 P) (.node (b0 P) .nil .nil) (.node (b1 P) .nil .nil)) (.node (zej P) (.node (b1 P) .nil .nil) .nil)) (.node (b1 P) (.node (zex P) (.node (zg8 P) .nil .nil) (.node (zj9 P) .nil .nil)) (.node (zd3 P) (.node (b0 P) .nil .nil) .nil)))))) (.node (boot_o_6 P) (.node (boot_o_10 P) (.node (b0 P) (.node (b16 P) (.node (b35 P) (.node (b0 P) (.node (zl2 P) .nil .nil) (.node (b1 P) .nil .nil)) (.node (b1 P) (.node (zg6 P) .nil .nil) (.node (zm4 P) .nil .nil))) (.node (b0 P) (.node (b92 P) (.node (zhh P) .nil .nil) (.node (zna P) .nil .nil)) (.node (zeh P) (.node (b0 P) .nil .nil) .nil))) (.node (b0 P) (.node (b1 P) (.node (b83 P) (.node (zlx P) .nil .nil) (.node (zkq P) .nil .nil)) (.node (b0 P) (.node (zlg P) .nil .nil) .nil)) (.node (b65 P) (.node (ze1 P) (.node (b1 P) .nil .nil) (.node (zkd P) .nil .nil)) (.node (b0 P) (.node (znj P) .nil .nil) .nil)))) (.node (b11 P) (.node (b21 P) (.node (b0 P) (.node (b1 P) (.node (b0 P) .nil .nil) (.node (zkt P) .nil .nil)) (.node (zer P) (.node (zg2 P) .nil .nil) .nil)) (.node (b60 P) (.node (b97 P) (.node (b0 P) .nil .nil) (.node (b0 P) .nil .nil)) (.node (zed P) (.node (b1 P) .nil .nil) .nil))) (.node (b1 P) (.node (b48 P) (.node (b0 P) (.node (zhl P) .nil .nil) (.node (zkm P) .nil .nil)) (.node (zhz P) (.node (zle P) .nil .nil) .nil)) (.node (b70 P) (.node (b0 P) (.node (zln P) .nil .nil) (.node (b1 P) .nil .nil)) (.node (zd5 P) (.node (zk0 P) .nil .nil) .nil))))) (.node (b3 P) (.node (b0 P) (.node (b18 P) (.node (b0 P) (.node (b76 P) (.node (zlz P) .nil .nil) (.node (zkv P) .nil .nil)) (.node (zet P) (.node (zg4 P) .nil .nil) (.node (b1 P) .nil .nil))) (.node (b0 P) (.node (b1 P) (.node (zhe P) .nil .nil) (.node (b1 P) .nil .nil)) (.node (zef P) (.node (znl P) .nil .nil) .nil))) (.node (b27 P) (.node (b46 P) (.node (b86 P) (.node (b1 P) .nil .nil) (.node (zko P) .nil .nil)) (.node (b0 P) (.node (b0 P) .nil .nil) .nil)) (.node (b67 P) (.node (b0 P) (.node (b0 P) .nil .nil) (.node (zm6 P) .nil .nil)) (.node (zhv P) (.node (b1 P) .nil .nil) .nil)))) (.node (b1 P) (.node (b0 P) (.node (b41 P) (.node (b81 P) (.node (b0 P) .nil .nil) (.node (zkr P) .nil .nil)) (.node (zep P) (.node (zgy P) .nil .nil) .nil)) (.node (b1 P) (.node (b99 P) (.node (zlr P) .nil .nil) (.node (zke P) .nil .nil)) (.node (b0 P) (.node (b0 P) .nil .nil) .nil))) (.node (b0 P) (.node (b51 P) (.node (b0 P) (.node (zhj P) .nil .nil) (.node (zkl P) .nil .nil)) (.node (b1 P) (.node (b0 P) .nil .nil) .nil)) (.node (b0 P) (.node (zh3 P) (.node (b1 P) .nil .nil) (.node (b0 P) .nil .nil)) (.node (zhu P) (.node (zkx P) .nil .nil) .nil))))))))
noncomputable def hF(P:Params):Heap:=⟨⟨[boot_o_0 P,boot_o_1 P,boot_o_2 P,zli P,boot_o_4 P,boot_o_5 P,boot_o_6 P,boot_o_7 P,boot_o_8 P,boot_o_9 P,boot_o_10 P,b0 P,znr P,b2 P,b3 P,b0 P,b1 P,b6 P,b0 P,b7 P,b8 P,b9 P,b0 P,b1 P,b10 P,b0 P,b11 P,b12 P,b13 P,b0 P,b1 P,b14 P,b0 P,b15 P,b16 P,b17 P,b0 P,b1 P,b18 P,b0 P,b19 P,b20 P,b21 P,b0 P,b1 P,b22 P,b0 P,b23 P,b24 P,b25 P,b0 P,b1 P,b26 P,b0 P,b27 P,b28 P,b29 P,b0 P,b1 P,b30 P,b31 P,b32 P,b0 P,b1 P,b33 P,b34 P,b35 P,b0 P,b1 P,b36 P,b0 P,b37 P,b38 P,b39 P,b0 P,b1 P,b40 P,b0 P,b41 P,b42 P,b43 P,b0 P,b1 P,b44 P,b0 P,b45 P,b46 P,b47 P,b0 P,b1 P,b48 P,b0 P,b49 P,b50 P,b51 P,b0 P,b1 P,b52 P,b0 P,b53 P,b54 P,b55 P,b0 P,b58 P,b59 P,b0 P,b60 P,b61 P,b62 P,b0 P,b1 P,b63 P,b0 P,b64 P,b65 P,b66 P,b0 P,b1 P,b67 P,b0 P,b68 P,b69 P,b70 P,b0 P,b1 P,b71 P,b0 P,b72 P,b73 P,b74 P,b0 P,b1 P,b75 P,b0 P,b76 P,b77 P,b78 P,b0 P,b1 P,b79 P,b0 P,b80 P,b81 P,b82 P,b0 P,b1 P,b83 P,b0 P,b84 P,b85 P,b86 P,b0 P,b1 P,b87 P,b0 P,b88 P,b89 P,b90 P,b0 P,b1 P,b91 P,b0 P,b92 P,b93 P,b94 P,b0 P,b1 P,b95 P,b0 P,b96 P,b97 P,b98 P,b0 P,b1 P,b99 P,b0 P,zh5 P,ze2 P,ze1 P,b0 P,b1 P,ze0 P,b0 P,zh4 P,zez P,zey P,b0 P,b1 P,zex P,b0 P,zh3 P,zew P,zev P,b0 P,b1 P,zeu P,b0 P,zh2 P,zet P,zes P,b0 P,b1 P,zer P,b0 P,zh1 P,zeq P,zep P,b0 P,b1 P,zeo P,b0 P,zh0 P,zen P,zem P,b0 P,b1 P,zel P,b0 P,zhz P,zek P,zej P,b0 P,b1 P,zei P,b0 P,zhy P,zeh P,zeg P,b0 P,b1 P,zef P,b0 P,zhx P,zee P,zed P,b0 P,b1 P,zec P,b0 P,zhw P,zeb P,zea P,b0 P,b1 P,zd9 P,b0 P,zhv P,zd8 P,zd7 P,zd6 P,zd5 P,zd4 P,zd3 P,zd2 P,zhu P,zht P,b0 P,b58 P,zl2 P,b0 P,zl1 P,zl0 P,zlz P,b0 P,b1 P,zhs P,b0 P,zly P,zhr P,zhq P,b0 P,b1 P,zhp P,b0 P,zlx P,zho P,zhn P,b0 P,b1 P,zhm P,b0 P,zlw P,zhl P,zhk P,b0 P,b1 P,zhj P,b0 P,zlv P,zhi P,zhh P,zhg P,zhf P,zlh P,zhe P,zhd P,zlu P,zlt P,b0 P,b58 P,zls P,b0 P,zlr P,zlq P,zlp P,b0 P,b1 P,zlo P,zhc P,zhb P,b0 P,b1 P,zha P,b0 P,zln P,zg9 P,zg8 P,b0 P,b1 P,zg7 P,b0 P,zlm P,zg6 P,zg5 P,b0 P,b1 P,zg4 P,b0 P,zll P,zg3 P,zg2 P,zg1 P,zg0 P,zgz P,zgy P,zgx P,zlk P,zlj P,zlg P,b58 P,znq P,zlf P,b0 P,znp P,zno P,znn P,zle P,zld P,b1 P,zlc P,b0 P,znm P,zlb P,zla P,b0 P,b1 P,zk9 P,b0 P,znl P,zk8 P,zk7 P,b0 P,b1 P,znk P,zk6 P,zk5 P,b0 P,b1 P,zk4 P,b0 P,znj P,zk3 P,zk2 P,b0 P,b1 P,zk1 P,b0 P,zni P,zk0 P,zkz P,b0 P,zky P,zkx P,znh P,zng P,b0 P,b1 P,zkw P,b0 P,znf P,zkv P,zku P,b0 P,b1 P,zkt P,b0 P,zne P,zks P,zkr P,b0 P,b1 P,znd P,zkq P,zkp P,b0 P,b1 P,zko P,b0 P,znc P,zkn P,zkm P,b0 P,b1 P,znb P,zkl P,zkk P,b0 P,b1 P,zna P,zkj P,zki P,b0 P,b1 P,zm9 P,zkh P,zkg P,b0 P,b1 P,zm8 P,zkf P,zke P,b0 P,b1 P,zm7 P,zkd P,zkc P,b0 P,b1 P,zm6 P,zkb P,zka P,b0 P,b1 P,zm5 P,zj9 P,zj8 P,b0 P,b1 P,zj7 P,b0 P,zm4 P,zj6 P,zj5 P,b0 P,b1 P,zm3 P,zj4 P,zj3 P]⟩,lf⟩
noncomputable def kk0:List (Nat×(Params->Obj)):=[(2,boot_o_2),(3,zli),(15,b0),(17,b6),(18,b0),(20,b8),(21,b9),(22,b0),(24,b10),(25,b0),(27,b12),(28,b13),(29,b0),(31,b14),(32,b0),(34,b16),(35,b17),(36,b0),(38,b18),(39,b0),(41,b20),(42,b21),(43,b0),(45,b22),(46,b0),(48,b24),(49,b25),(50,b0),(52,b26),(53,b0),(55,b28),(56,b29),(57,b0),(60,b31),(61,b32),(62,b0),(65,b34),(66,b35),(67,b0),(69,b36),(70,b0),(72,b38),(73,b39),(74,b0),(76,b40),(77,b0),(79,b42),(80,b43),(81,b0),(83,b44),(84,b0),(86,b46),(87,b47),(88,b0),(90,b48),(91,b0),(93,b50),(94,b51),(95,b0),(97,b52),(98,b0),(100,b54),(101,b55),(109,b0),(111,b63),(112,b0),(114,b65),(115,b66),(116,b0),(118,b67),(119,b0),(121,b69),(122,b70),(123,b0),(125,b71),(126,b0),(128,b73),(129,b74),(130,b0),(132,b75),(133,b0),(135,b77),(136,b78),(137,b0),(139,b79),(140,b0),(142,b81),(143,b82),(144,b0),(146,b83),(147,b0),(149,b85),(150,b86),(151,b0),(153,b87),(154,b0),(156,b89),(157,b90),(158,b0),(160,b91),(161,b0),(163,b93),(164,b94),(165,b0),(167,b95),(168,b0),(170,b97),(171,b98),(172,b0),(174,b99),(175,b0),(177,ze2),(178,ze1),(179,b0),(181,ze0),(182,b0),(184,zez),(185,zey),(186,b0),(188,zex),(189,b0),(191,zew),(192,zev),(193,b0),(195,zeu),(196,b0),(198,zet),(199,zes),(200,b0),(202,zer),(203,b0),(205,zeq),(206,zep),(207,b0),(209,zeo),(210,b0),(212,zen),(213,zem),(214,b0),(216,zel),(217,b0),(219,zek),(220,zej),(221,b0),(223,zei),(224,b0),(226,zeh),(227,zeg),(228,b0),(230,zef),(231,b0),(233,zee),(234,zed),(235,b0),(237,zec),(238,b0),(240,zeb),(241,zea),(242,b0),(244,zd9),(245,b0),(247,zd8),(248,zd7),(249,zd6),(250,zd5),(251,zd4),(252,zd3),(253,zd2),(263,b0),(265,zhs),(266,b0),(268,zhr),(269,zhq),(270,b0),(272,zhp),(273,b0),(275,zho),(276,zhn),(277,b0),(279,zhm),(280,b0),(282,zhl),(283,zhk),(284,b0),(286,zhj),(287,b0),(289,zhi),(290,zhh),(291,zhg),(292,zhf),(293,zlh),(294,zhe),(295,zhd),(305,b0),(308,zhc),(309,zhb),(310,b0),(312,zha),(313,b0),(315,zg9),(316,zg8),(317,b0),(319,zg7),(320,b0),(322,zg6),(323,zg5),(324,b0),(326,zg4),(327,b0),(329,zg3),(330,zg2),(331,zg1),(332,zg0),(333,zgz),(334,zgy),(335,zgx),(338,zlg),(341,zlf),(346,zle),(347,zld),(349,zlc),(350,b0),(352,zlb),(353,zla),(354,b0),(356,zk9),(357,b0),(359,zk8),(360,zk7),(361,b0),(364,zk6),(365,zk5),(366,b0),(368,zk4),(369,b0),(371,zk3),(372,zk2),(373,b0),(375,zk1),(376,b0),(378,zk0),(379,zkz),(380,b0),(381,zky),(382,zkx),(385,b0),(387,zkw),(388,b0),(390,zkv),(391,zku),(392,b0),(394,zkt),(395,b0),(397,zks),(398,zkr),(399,b0),(402,zkq),(403,zkp),(404,b0),(406,zko),(407,b0),(409,zkn),(410,zkm),(411,b0),(414,zkl),(415,zkk),(416,b0),(419,zkj),(420,zki),(421,b0),(424,zkh),(425,zkg),(426,b0),(429,zkf),(430,zke),(431,b0),(434,zkd),(435,zkc),(436,b0),(439,zkb),(440,zka),(441,b0),(444,zj9),(445,zj8),(446,b0),(448,zj7),(449,b0),(451,zj6),(452,zj5),(453,b0),(456,zj4),(457,zj3)]
noncomputable def KK(P:Params):Frag:=kk0.map λx=>(x.1,x.2 P)
noncomputable def kAs:List Nat:=kk0.map (·.1)
noncomputable def en:Env:={ scope:=pw.main.scope,locals:=mainNs,globals:=mainNs,cells:=[],code:=(.ref 13),frame:=some 14 }
noncomputable def bE:List Stmt:=behindTheImports pw
noncomputable def cE:Code:=.body bE en
noncomputable def grp(i n:Nat):List Stmt:=(pw.main.body.drop i).take n
noncomputable abbrev BB:List Frame:=[topFrame (Pos.mk 0 0 0 0)]
noncomputable abbrev an:Option Value:=(some (.ref 6))
noncomputable abbrev S0(w:World)(os:OsState):Shared:=⟨boot_heap w.params,Array.mk [],boot_drawn,boot_toks,os⟩
noncomputable def SA(w:World)(os:OsState):Shared:=⟨hA w.params,Array.mk [],⟨0,0,0,0⟩,187,os⟩
noncomputable def SS(t:Params->BT)(n k:Nat)(w:World)(os:OsState):SharedT:=⟨t w.params,n,lf,Array.mk [],⟨0,0,0,0⟩,k,os⟩
noncomputable def SF(w:World)(os:OsState):Shared:=⟨hF w.params,Array.mk [],⟨0,0,0,0⟩,774,os⟩
theorem zfm(w:World)(os:OsState):topGo treeTable pw w 11 an 12 (S0 w os) (topStub pw)=some (SA w os,⟨denote treeTable cE,cE,(Pos.mk 0 0 0 0),BB⟩):=by
 rw[PySem.W.Fast.te15667345088766844465,PySem.W.Fast.te14364793385576792824,PySem.W.Fast.te11892475500146522536];kernel_rfl
theorem JG(w:World)(os:OsState):segRun treeTable pw w 11 an 1 1 (SA w os) (blockOf bE en cE (Pos.mk 0 0 0 0) BB)=some (.next,(SS tr0 15 187 w os).abs,cE,(Pos.mk 0 0 0 0)):=by
 rw[PySem.W.Fast.te14374325043358763698,PySem.W.Fast.te14364793385576792824];kernel_rfl
theorem zmf(w:World)(os:OsState):segRunT treeTable pw w 11 an 1 422 (SS tr0 15 187 w os) ⟨(execs (grp 0 16) en).wrap doneF deadEnd id id,cE,(Pos.mk 0 0 0 0),BB⟩=some (.next,SS tr1 102 303 w os,cE,(Pos.mk 58 0 58 8)):=by
 rw[PySem.W.Fast.te10110043849684766642,PySem.W.Fast.te14364793385576792824,PySem.W.Fast.te12563942051412417395];kernel_rfl
theorem zme(w:World)(os:OsState):segRunT treeTable pw w 11 an 1 842 (SS tr1 102 303 w os) ⟨(execs (grp 16 1) en).wrap doneF deadEnd id id,cE,(Pos.mk 58 0 58 8),BB⟩=some (.next,SS tr2 256 495 w os,cE,(Pos.mk 59 0 151 16)):=by
 rw[PySem.W.Fast.te10110043849684766642,PySem.W.Fast.te14364793385576792824,PySem.W.Fast.te12563942051412417395];kernel_rfl
theorem zmd(w:World)(os:OsState):segRunT treeTable pw w 11 an 1 658 (SS tr2 256 495 w os) ⟨(execs (grp 17 3) en).wrap doneF deadEnd id id,cE,(Pos.mk 59 0 151 16),BB⟩=some (.next,SS tr3 338 617 w os,cE,(Pos.mk 168 0 207 37)):=by
 rw[PySem.W.Fast.te10110043849684766642,PySem.W.Fast.te14364793385576792824,PySem.W.Fast.te12563942051412417395];kernel_rfl
theorem zmc(w:World)(os:OsState):segRunT treeTable pw w 11 an 1 761 (SS tr3 338 617 w os) ⟨(execs (grp 20 15) en).wrap doneF deadEnd id id,cE,(Pos.mk 168 0 207 37),BB⟩=some (.next,SS tr4 458 774 w os,cE,(Pos.mk 325 0 346 91)):=by
 rw[PySem.W.Fast.te10110043849684766642,PySem.W.Fast.te14364793385576792824,PySem.W.Fast.te12563942051412417395];kernel_rfl
theorem zfn(w:World)(os:OsState):topRun treeTable pw w 11 an 2 (SS tr4 458 774 w os).abs ⟨doneF .next,cE,(Pos.mk 325 0 346 91),BB⟩=some (SF w os):=by
 rw[PySem.W.Fast.te14082659384304107361,PySem.W.Fast.te14364793385576792824];kernel_rfl
noncomputable def MM:Nat:=Nat.add 12 (Nat.add 1 (Nat.add 422 (Nat.add 842 (Nat.add 658 (Nat.add 761 (2))))))
theorem zm2:(grp 0 16++(grp 16 1++(grp 17 3++(grp 20 15++[]))))=bE:=by kernel_rfl
theorem zfo(w:World)(os:OsState):topRun treeTable pw w 11 an MM (S0 w os) (topStub pw)=some (SF w os):=
 go_top (zfm w os) (piece_block (b:=bE) (JG w os) (Eq.subst (motive:=λx=>topRun treeTable pw w 11 an (Nat.add 422 (Nat.add 842 (Nat.add 658 (Nat.add 761 (2))))) (SS tr0 15 187 w os).abs (restOf x en cE (Pos.mk 0 0 0 0) BB)=some (SF w os)) zm2 (piece_app (l:=grp 0 16) (rest:=(grp 16 1++(grp 17 3++(grp 20 15++[])))) (segRun_of (zmf w os)) (piece_app (l:=grp 16 1) (rest:=(grp 17 3++(grp 20 15++[]))) (segRun_of (zme w os)) (piece_app (l:=grp 17 3) (rest:=(grp 20 15++[])) (segRun_of (zmd w os)) (piece_app (l:=grp 20 15) (rest:=[]) (segRun_of (zmc w os)) (zfn w os)))))))
noncomputable def q0:Program:=view pw [0,2,3,4,5,6,7,8,9,10,11,12,13,14,16,17,19,20,22,23,24,25,26,27,28,29,30,31,32,33,34]
noncomputable def lo:List Str:=["has_domains"]
abbrev rr:OpenRow:=PySem.Challenge.rw_pc0038_01.row
theorem zjg(P:Params):kAs=(KK P).map (·.1):=by kernel_rfl
noncomputable abbrev HK:Hook:=kHook KK kAs zjg
noncomputable def xt(s:Shared):Bool:=xlAt q0 [] s && recOk (RowW.records rr.toRowW) s
theorem zfv:opening pw=plainProg pw.main.scope.names:=by kernel_rfl
theorem zdc(s:Shared):fenceModules? pw s=some s:=by kernel_rfl
theorem zfe(w:World):((boot_heap w.params).isNs mainGlobals && (Array.mk []:Array GenState).size == 0,(boot_heap w.params).objs.size,(boot_heap w.params).nsMap mainGlobals "__annotations__")=(true,11,an):=by kernel_rfl
theorem zjc(w:World)(os:OsState):(staticsOk (importedModules pw.main.body) (boot_heap w.params) (hF w.params) && namesBound pw (hF w.params) && gensDone (SF w os) && laidKept (boot_heap w.params) (hF w.params))=true:=by kernel_rfl
theorem zjb(w:World)(os:OsState):openSeen q0 lo (importedModules pw.main.body) xt true (SF w os)=openGood q0 lo:=by
 rw[PySem.W.Fast.te4187177175401517315];kernel_rfl
theorem zja(w:World)(os:OsState):HK.obs (SF w os)=HK.val w:=by kernel_rfl
theorem zmk:LeftO pw q0 lo xt HK.obs HK.val 5484:=
 LeftO.of_pieces (boot_open zfv rfl zdc) zfe zfo (by decide) λw=>funext λos=>looks_pair (zjc w os) (looks_pair (zjb w os) (zja w os))
noncomputable def dd:DefRec:=⟨"law",(dt "law").1,(dt "law").2.1,(dt "law").2.2,⟨325,0,346,91⟩⟩
theorem zmx:defOf q0 rr.name=some (dd,[]):=by kernel_rfl
theorem zmy:rr.prog.theDef rr.name=some (dd.params,dd.body,dd.scope):=by kernel_rfl
theorem zmw:kwWritten? dd.params.kwonlyargs dd.params.kw_defaults=some []:=by kernel_rfl
theorem znw:PySem.Challenge.rw_pc0038_01.wellSaid=true:=by
 rw[PySem.W.Fast.te9446332074065402090];kernel_rfl
theorem zgi:(chainsOk q0 && opensWell rr.prog && (PySem.W.frees rr.toRowW && rr.within.isEmpty))=true:=by kernel_rfl
theorem zgw:rr.prog.bare:=⟨rfl,rfl,rfl,rfl,rfl,by decide +kernel⟩
theorem ziu:rr.toRowW.promised:=by w_witness2
theorem hd_(hc:WalkO q0 lo (XL q0 []) HK.says rr.toRowW dd [] (λf vs=>PySem.call f vs)):PySem.Challenge.rw_pc0038_01.Holds:=
 holds_law znw λsd=>holds_open (r:=rr) (q:=q0) (loose:=lo) (Xt:=xt) (XP:=XL q0 []) (Yf:=HK.obs) (Ya:=HK.val) (YP:=HK.says) (N:=5484) zmk (Hook.of HK) (Hook.keeps HK) (λs e=>xl_of s (Bool.and_eq_true_iff.mp e).1) XL.keeps zmx zmy zmw (λs e=>recFacts_of (Bool.and_eq_true_iff.mp e).2) rfl sd zgi zgw ziu hc
end Mine.Internal.H
end
end
section
namespace Mine.Internal
noncomputable abbrev XM:MS:=wD (w3 (za "found") vW [zo xy [za "low",xZ uo (za "high") (zc (.int 1))]])
noncomputable abbrev VM:MS:=zA (zk (vy []) (zP "found")) (zA (tI (zU (za "d")) (tu ["low","high"]) XM) (y4 (za "found")))
noncomputable abbrev zat:MT:=yC .LtE (za "low") (za "k")
noncomputable abbrev zav:CI:=xD (zG [za "low",zo zb8 [za "high",za "k"]])
noncomputable abbrev KV:MS:=y4 (zo xw [yH ["k"] (zU (za "d")) (.many ["low","high"]) zat zav (.list [])])
noncomputable abbrev Uy:MT:=yC .GtE (za "high") (za "k")
noncomputable abbrev U3:CI:=xD (zG [zo zb9 [za "low",za "k"],za "high"])
noncomputable abbrev Xy:MS:=y4 (zo xw [yH ["k"] (zU (za "d")) (.many ["low","high"]) Uy U3 (.list [])])
noncomputable abbrev Xx(xK y8:MF):MS:=y4 (xZ uo (zo xK [za "d",xZ YS (za "v") (zc (.int 1))]) (zo y8 [za "d",xZ uo (za "v") (zc (.int 1))]))
noncomputable abbrev VN(xK y8 Tu w6:MF):MS:=zA (qm (zG [zC (za "literal") (zc (.int 1)),zC (za "literal") (zc (.int 2))]) ["sign","k"]) (zA (sIf (yC .Eq (za "sign") (zc (.str "<="))) (y4 (zo xK [za "d",za "k"])) (yG)) (zA (sIf (yC .Eq (za "sign") (zc (.str ">="))) (y4 (zo y8 [za "d",za "k"])) (yG)) (y4 (mIf (yC .Eq (za "sign") (zc (.str "="))) (zo Tu [za "d",zG [zG [za "k",za "k"]]]) (zo w6 [za "d",za "k"])))))
noncomputable abbrev tc:MS:=zA (zk (vy []) (yI "Store" "domains" (za "self"))) (zA (zk (vy []) (yI "Store" "firsts" (za "self"))) (zA (zk (vy []) (yI "Store" "trail" (za "self"))) (zA (zk (vy []) (yI "Store" "marks" (za "self"))) (zA (zk (tR) (yI "Store" "news" (za "self"))) (zA (zk (Ws (zc (.int 1))) (yI "Store" "speaker" (za "self"))) (zA (zk (zc (.bool false)) (yI "Store" "is_failed" (za "self"))) (zk (zG []) (yI "Store" "clash" (za "self")))))))))
noncomputable abbrev tw(zd:MF):MS:=zA (wD (w3 (zD "Store" "domains" (za "self")) xz [za "domain"])) (zA (wD (w3 (zD "Store" "firsts" (za "self")) xz [za "domain"])) (zA (sIf (yC .Eq (za "domain") (zG [])) (wD (y5 "Store" "fail" (za "self") zd [zG []])) (yG)) (y4 (xZ YS (zo xR [zD "Store" "domains" (za "self")]) (zc (.int 1))))))
noncomputable abbrev Zf:MS:=y4 (zC (zD "Store" "domains" (za "self")) (za "x"))
noncomputable abbrev tx:MS:=y4 (zC (zD "Store" "firsts" (za "self")) (za "x"))
noncomputable abbrev qt(vp Tv zd:MF):MS:=zA (zk (zC (za "literal") (zc (.int 0))) (zP "x")) (zA (zk (zC (zD "Store" "domains" (za "self")) (za "x")) (zP "old")) (zA (zk (zo vp [za "literal",za "old"]) (zP "fresh")) (zA (sIf (yC .Eq (za "fresh") (zG [])) (y4 (y5 "Store" "fail" (za "self") zd [xZ uo (mIf (yC .Is (za "reasons") (zc .none)) (zG []) (za "reasons")) (zG [zo Tv [za "literal"]])])) (yG)) (zA (sIf (yC .Eq (za "fresh") (za "old")) (y4 (zc (.bool true))) (yG)) (zA (wD (w3 (zD "Store" "trail" (za "self")) xz [zG [za "x",za "old",za "literal",za "reasons",za "speaker"]])) (zA (zk (za "fresh") (jS (zD "Store" "domains" (za "self")) (za "x"))) (zA (zk (zc (.bool true)) (jS (zD "Store" "news" (za "self")) (za "x"))) (y4 (zc (.bool true))))))))))
noncomputable abbrev tQ(zR:MF):MS:=y4 (y5 "Store" "enter" (za "self") zR [za "literal",zc .none,Ws (zc (.int 1))])
noncomputable abbrev u3:MS:=zA (zk (Ws (zc (.int 1))) (yI "AllDifferentValues" "number" (za "self"))) (zA (zk (zo xw [za "scope"]) (yI "AllDifferentValues" "scope" (za "self"))) (zk (za "strength") (yI "AllDifferentValues" "strength" (za "self"))))
noncomputable abbrev u6(zL yp:MF):CI:=xD (zo yp [y5 "Store" "dom" (za "store") zL [za "x"]])
noncomputable abbrev vB(zL yp:MF):MS:=zA (zk (yH ["store"] (zU (za "scope")) (.one "x") vq (u6 zL yp) (.list [])) (yI "Matching" "choices" (za "self"))) (zA (zk (xZ JS (vy [zc .none]) (zo xR [za "scope"])) (yI "Matching" "mate" (za "self"))) (zk (tR) (yI "Matching" "owner" (za "self"))))
noncomputable abbrev uR(Tq:MF):MS:=sIf (yC .NotIn (za "v") (za "came")) (zA (zk (zC (za "places") (za "k")) (jS (za "came") (za "v"))) (zA (sIf (yC .NotIn (za "v") (zD "Matching" "owner" (za "self"))) (zA (wD (y5 "Matching" "hand_on" (za "self") Tq [za "v",za "came"])) (y4 (zc .none))) (yG)) (wD (w3 (za "places") xz [zC (zD "Matching" "owner" (za "self")) (za "v")])))) (yG)
noncomputable abbrev jz:MT:=yC .Lt (za "k") (zo xR [za "places"])
noncomputable abbrev jQ(Tq:MF):MS:=zA (tI (zU (zC (zD "Matching" "choices" (za "self")) (zC (za "places") (za "k")))) (zP "v") (uR Tq)) (zk (xZ uo (za "k") (zc (.int 1))) (zP "k"))
noncomputable abbrev ty(Tq:MF):MS:=zA (qm (zG [tR,vy [za "place"],zc (.int 0)]) ["came","places","k"]) (zA (ZZ jz (jQ Tq)) (y4 (zG [za "places",zo jk [za "came"]])))
noncomputable abbrev sV:MT:=yC .IsNot (za "v") (zc .none)
noncomputable abbrev qg:MS:=zA (zk (zC (za "came") (za "v")) (zP "p")) (zA (zk (zC (zD "Matching" "mate" (za "self")) (za "p")) (zP "left")) (zA (zk (za "v") (jS (zD "Matching" "mate" (za "self")) (za "p"))) (zA (zk (za "p") (jS (zD "Matching" "owner" (za "self")) (za "v"))) (zk (za "left") (zP "v")))))
noncomputable abbrev un:MS:=ZZ sV qg
noncomputable abbrev w9:MS:=sIf (yC .NotIn (za "u") (za "seen")) (zA (zk (zc (.bool true)) (jS (za "seen") (za "u"))) (wD (w3 (za "stack") xz [za "u"]))) (yG)
noncomputable abbrev uF:MT:=yC .NotEq (za "stack") (vy [])
noncomputable abbrev uQ:MS:=zA (zk (w3 (za "stack") JR []) (zP "w")) (zA (sIf (yC .NotIn (za "w") (zD "Matching" "owner" (za "self"))) (y4 (zc .none)) (yG)) (zA (wD (w3 (za "places") xz [zC (zD "Matching" "owner" (za "self")) (za "w")])) (tI (zU (zC (zD "Matching" "choices" (za "self")) (zC (zD "Matching" "owner" (za "self")) (za "w")))) (zP "u") w9)))
noncomputable abbrev wI:MS:=zA (qm (zG [vy [],Kc [(za "v",zc (.bool true))],vy [za "v"]]) ["places","seen","stack"]) (zA (ZZ uF uQ) (y4 (zG [za "places",zo jk [za "seen"]])))
noncomputable abbrev xP:MS:=sIf (j1 [zie .Lt .Lt (zC (za "few") (zc (.int 0))) (za "v") (zC (za "few") (Ws (zc (.int 1)))),yC .NotIn (za "v") (za "few")]) (wD (w3 (za "found") xz [zG [za "x",zc (.str "!="),za "v"]])) (yG)
noncomputable abbrev ub(ya yp:MF):MS:=zA (zk (zC (zD "AllDifferentValues" "scope" (za "self")) (za "place")) (zP "x")) (zA (wD (w3 (za "found") vW [vy [zG [za "x",zc (.str ">="),zC (za "few") (zc (.int 0))],zG [za "x",zc (.str "<="),zC (za "few") (Ws (zc (.int 1)))]]])) (tI (zU (zo yp [y5 "Store" "initial" (za "store") ya [za "x"]])) (zP "v") xP))
noncomputable abbrev xX(ya yp:MF):MS:=zA (zk (vy []) (zP "found")) (zA (tI (zU (za "places")) (zP "place") (ub ya yp)) (y4 (zo xw [za "found"])))
noncomputable abbrev jh:MS:=y4 (zo xR [zD "Store" "domains" (za "self")])
noncomputable abbrev tP(zR:MF):MS:=y4 (y5 "Store" "enter" (za "self") zR [za "literal",zo xw [za "reasons"],zD "Store" "speaker" (za "self")])
noncomputable abbrev jj:MS:=zA (zk (zc (.bool true)) (yI "Store" "is_failed" (za "self"))) (zA (zk (zo xw [za "reasons"]) (yI "Store" "clash" (za "self"))) (y4 (zc (.bool false))))
noncomputable abbrev ji:MS:=wD (w3 (zD "Store" "marks" (za "self")) xz [zo xR [zD "Store" "trail" (za "self")]])
noncomputable abbrev qT:MT:=yC .Gt (zo xR [zD "Store" "trail" (za "self")]) (za "mark")
noncomputable abbrev jv:MS:=zA (zk (w3 (zD "Store" "trail" (za "self")) JR []) (zP "entry")) (zk (zC (za "entry") (zc (.int 1))) (jS (zD "Store" "domains" (za "self")) (zC (za "entry") (zc (.int 0)))))
noncomputable abbrev Ze:MS:=zA (sIf (yC .Lt (za "n") (zc (.int 1))) (zii) (yG)) (zA (zk (zC (zD "Store" "marks" (za "self")) (xZ YS (zo xR [zD "Store" "marks" (za "self")]) (za "n"))) (zP "mark")) (zA (zk (td (zD "Store" "marks" (za "self")) none (some (xZ YS (zo xR [zD "Store" "marks" (za "self")]) (za "n")))) (yI "Store" "marks" (za "self"))) (zA (ZZ qT jv) (zA (zk (tR) (yI "Store" "news" (za "self"))) (zA (zk (qc .In (zG []) (zD "Store" "firsts" (za "self"))) (yI "Store" "is_failed" (za "self"))) (zk (zG []) (yI "Store" "clash" (za "self"))))))))
noncomputable abbrev vD:CI:=U2 (za "v") (zc (.bool true))
noncomputable abbrev xY:MS:=y4 (qc .Eq (zo xR [yH [] (zU (za "found")) (.one "v") vq vD (.idict [])]) (zo xR [za "found"]))
noncomputable abbrev xh(zd Tm Te:MF):MS:=zA (zk (y5 "Matching" "seat" (za "matching") Tm [za "place"]) (zP "answer")) (sIf (yC .IsNot (za "answer") (zc .none)) (y4 (y5 "Store" "fail" (za "store") zd [y5 "AllDifferentValues" "walls" (za "self") Te [za "store",zC (za "answer") (zc (.int 0)),zC (za "answer") (zc (.int 1))]])) (yG))
noncomputable abbrev y1(Te Th zq:MF):MS:=zA (sIf (yC .NotIn (za "v") (za "needs")) (zk (y5 "Matching" "closed_from" (za "matching") Th [za "v"]) (jS (za "needs") (za "v"))) (yG)) (sIf (j1 [yC .IsNot (zC (za "needs") (za "v")) (zc .none),yC .NotIn (za "place") (zC (zC (za "needs") (za "v")) (zc (.int 0)))]) (zA (zk (y5 "AllDifferentValues" "walls" (za "self") Te [za "store",zC (zC (za "needs") (za "v")) (zc (.int 0)),zC (zC (za "needs") (za "v")) (zc (.int 1))]) (zP "reasons")) (sIf (Zu (sZ (y5 "Store" "strike" (za "store") zq [zG [zC (zD "AllDifferentValues" "scope" (za "self")) (za "place"),zc (.str "!="),za "v"],za "reasons"]))) (y4 (zc (.bool false))) (yG))) (yG))
noncomputable abbrev xg(Te Th zq:MF):MS:=tI (zU (zC (zD "Matching" "choices" (za "matching")) (za "place"))) (zP "v") (y1 Te Th zq)
noncomputable abbrev va:MS:=y4 (zc (.bool true))
noncomputable abbrev wZ(Te Th zq:MF):MS:=zA (tI (zU (zo xy [zo xR [zD "AllDifferentValues" "scope" (za "self")]])) (zP "place") (xg Te Th zq)) (va)
noncomputable abbrev wY(Te Th zq:MF):MS:=zA (zk (tR) (zP "needs")) ((wZ Te Th zq))
noncomputable abbrev wX(zd Tm Te Th zq:MF):MS:=zA (tI (zU (zo xy [zo xR [zD "AllDifferentValues" "scope" (za "self")]])) (zP "place") (xh zd Tm Te)) ((wY Te Th zq))
noncomputable abbrev wW(zd yB Tm Te Th zq:MF):MS:=zA (zk (zo yB [za "store",zD "AllDifferentValues" "scope" (za "self")]) (zP "matching")) ((wX zd Tm Te Th zq))
noncomputable abbrev wV(Tt zd yB Tm Te Th zq:MF):MS:=zA (sIf (Zu (sZ (y5 "AllDifferentValues" "check" (za "self") Tt [zD "AllDifferentValues" "scope" (za "self")]))) (y4 (y5 "Store" "fail" (za "store") zd [zG []])) (yG)) ((wW zd yB Tm Te Th zq))
noncomputable abbrev xl(Tt zd yB Tm Te Th zq:MF):MS:=zA (sIf (sZ (zD "Store" "is_failed" (za "store"))) (y4 (zc (.bool false))) (yG)) ((wV Tt zd yB Tm Te Th zq))
noncomputable abbrev Yl:MS:=zA (zk (xZ uo (zC (za "tape") (zc (.str "at"))) (zc (.int 1))) (jS (za "tape") (zc (.str "at")))) (zA (sIf (yC .LtE (zC (za "tape") (zc (.str "at"))) (zo xR [zC (za "tape") (zc (.str "cells"))])) (y4 (xZ Wt (zC (zC (za "tape") (zc (.str "cells"))) (xZ YS (zC (za "tape") (zc (.str "at"))) (zc (.int 1)))) (za "many"))) (yG)) (zA (zk (xZ Wt (xZ uo (xZ JS (zC (za "tape") (zc (.str "stir"))) (zc (.int 23))) (zc (.int 7))) (zc (.int 997))) (jS (za "tape") (zc (.str "stir")))) (y4 (xZ Wt (xZ zca (zC (za "tape") (zc (.str "stir"))) (zc (.int 2))) (za "many")))))
noncomputable abbrev Vd:MS:=sIf (j1 [yC .NotEq (za "found") (vy []),yC .Eq (zC (zC (za "found") (Ws (zc (.int 1)))) (zc (.int 1))) (xZ YS (za "v") (zc (.int 1)))]) (zk (zG [zC (zC (za "found") (Ws (zc (.int 1)))) (zc (.int 0)),za "v"]) (jS (za "found") (Ws (zc (.int 1))))) (wD (w3 (za "found") xz [zG [za "v",za "v"]]))
noncomputable abbrev Zd:MS:=zA (zk (vy []) (zP "found")) (zA (tI (zU (za "row")) (zP "v") Vd) (y4 (zo xw [za "found"])))
noncomputable abbrev WY:CI:=xD (za "v")
noncomputable abbrev jr:CI:=jP (zU (zo xy [za "first",xZ uo (za "last") (zc (.int 1))])) (.one "v") vq WY
noncomputable abbrev WT(zL:MF):CI:=xD (yH [] (zU (y5 "Store" "dom" (za "store_now") zL [za "x"])) (.many ["first","last"]) vq jr (.list []))
noncomputable abbrev Yj(yT zL:MF):MS:=y4 (yH ["store_now"] (zU (zo xy [y5 "Store" "size" (za "store_now") yT []])) (.one "x") vq (WT zL) (.list []))
noncomputable abbrev Ym:MS:=y4 (zC (Wv [(zc (.str "<="),qc .LtE (za "v") (zC (za "literal") (zc (.int 2)))),(zc (.str ">="),qc .GtE (za "v") (zC (za "literal") (zc (.int 2)))),(zc (.str "!="),qc .NotEq (za "v") (zC (za "literal") (zc (.int 2)))),(zc (.str "="),qc .Eq (za "v") (zC (za "literal") (zc (.int 2))))]) (zC (za "literal") (zc (.int 1))))
noncomputable abbrev WJ(Tr:MF):MT:=j1 [yC .Eq (zC (za "one") (zc (.int 0))) (za "x"),Zu (sZ (zo Tr [za "one",za "v"]))]
noncomputable abbrev WW:CI:=xD (zc (.int 1))
noncomputable abbrev WI(Tr:MF):MT:=yC .Eq (yH ["v","x"] (zU (za "literals")) (.one "one") (WJ Tr) WW (.list [])) (vy [])
noncomputable abbrev WS:CI:=xD (za "v")
noncomputable abbrev Yn(Tr:MF):MS:=y4 (yH ["literals","x"] (zU (zC (za "rows") (za "x"))) (.one "v") (WI Tr) WS (.list []))
noncomputable abbrev WK(Tk:MF):MT:=yC .NotEq (zo Tk [za "rows",za "x",za "literals"]) (zC (za "rows") (za "x"))
noncomputable abbrev WX:CI:=xD (za "x")
noncomputable abbrev Yo(Tk:MF):MS:=y4 (qc .Eq (yH ["literals","rows"] (zU (zo xy [zo xR [za "rows"]])) (.one "x") (WK Tk) WX (.list [])) (vy []))
noncomputable abbrev t5:CI:=xD (zG [zo xR [za "row"],za "k"])
noncomputable abbrev tz:MT:=yC .NotEq (za "k") (za "spot")
noncomputable abbrev Z4:MT:=yC .NotEq (za "w") (za "v")
noncomputable abbrev Z5:CI:=xD (za "w")
noncomputable abbrev t3:CI:=xD (yH ["v"] (zU (za "row")) (.one "w") Z4 Z5 (.list []))
noncomputable abbrev YA(Td:MF):MS:=sIf (sZ (zo Td [yH ["spot","v"] (Wu (za "rows")) (.many ["k","row"]) tz t3 (.list [])])) (y4 (zc (.bool true))) (yG)
noncomputable abbrev qr(Td:MF):MS:=zA (sIf (yC .Eq (za "rows") (vy [])) (y4 (zc (.bool true))) (yG)) (zA (zk (zC (zo KY [yH [] (Wu (za "rows")) (.many ["k","row"]) vq t5 (.list [])]) (zc (.int 1))) (zP "spot")) (zA (tI (zU (zC (za "rows") (za "spot"))) (zP "v") (YA Td)) (y4 (zc (.bool false)))))
noncomputable abbrev WZ:CI:=xD (zC (za "one") (zc (.int 0)))
noncomputable abbrev WV:CI:=xD (za "v")
noncomputable abbrev WU(Tk:MF):CI:=jP (zU (zo Tk [za "early",za "x",za "literals"])) (.one "v") vq WV
noncomputable abbrev Yk(Tk:MF):MS:=zA (zk (qF (yH [] (zU (za "literals")) (.one "one") vq WZ (.list []))) (zP "named")) (y4 (zG [za "named",qF (yH ["early","literals"] (zU (za "named")) (.one "x") vq (WU Tk) (.list []))]))
noncomputable abbrev ve:MT:=yC .NotEq (za "v") (zC (za "literal") (zc (.int 2)))
noncomputable abbrev vg:CI:=xD (za "v")
noncomputable abbrev v6(Tf Tl Tg:MF):MS:=zA (zk (zo Tf [za "early",za "reasons"]) (tu ["named","left"])) (zA (sIf (tOr [yC .NotEq (zi9 (za "literal")) (zG [za "x",zc (.str "!=")]),yC .NotEq (za "old") (zo Tl [zC (za "rows") (za "x")]),Zu (sZ (zo Tg [za "rows",za "reasons"]))]) (y4 (zc (.bool false))) (yG)) (zA (sIf (tOr [yC .NotEq (zo xR [za "left"]) (zo xR [za "named"]),yC .NotIn (zC (za "literal") (zc (.int 2))) (za "left"),yC .In (za "x") (za "named")]) (y4 (zc (.bool false))) (yG)) (zk (xZ uo (xZ uo (td (za "rows") none (some (za "x"))) (vy [yH ["literal"] (zU (zC (za "rows") (za "x"))) (.one "v") ve vg (.list [])])) (td (za "rows") (some (xZ uo (za "x") (zc (.int 1)))) none)) (zP "rows"))))
noncomputable abbrev tT(Ta:MF):MS:=y4 (qc .Eq (za "rows") (zo Ta [za "store_now"]))
noncomputable abbrev vG(Tf Tl Tg Ta:MF):MS:=zA (tI (zU (td (zD "Store" "trail" (za "store_now")) (some (za "mark")) none)) (tu ["x","old","literal","reasons","speaker"]) (v6 Tf Tl Tg)) ((tT Ta))
noncomputable abbrev vM:CI:=xD (mIf (yC .Eq (za "y") (za "x")) (vy [za "v"]) (zC (za "rows") (za "y")))
noncomputable abbrev vK(Td:MF):MT:=sZ (zo Td [yH ["rows","v","x"] (zU (zo xy [zo xR [za "rows"]])) (.one "y") vq vM (.list [])])
noncomputable abbrev vL:CI:=xD (za "v")
noncomputable abbrev qP(Td:MF):MS:=sIf (yC .NotEq (zC (za "late") (za "x")) (yH ["rows","x"] (zU (zC (za "rows") (za "x"))) (.one "v") (vK Td) vL (.list []))) (y4 (zc (.bool false))) (yG)
noncomputable abbrev uq(Tb:MF):MS:=y4 (Yp [qc .Is (y5 "AllDifferentValues" "propagate" (za "rule") Tb [za "store_now"]) (za "due"),qc .Eq (zo xR [zD "Store" "trail" (za "store_now")]) (za "many"),qc .Eq (zD "Store" "clash" (za "store_now")) (za "clash")])
noncomputable abbrev x8(Td Tb Tf Tg:MF):MS:=zA (sIf (Zu (sZ (za "due"))) (zA (zk (zo Tf [za "early",za "clash"]) (tu ["named","left"])) (sIf (tOr [Zu (sZ (zo Tg [za "late",za "clash"])),yC .GtE (zo xR [za "left"]) (zo xR [za "named"])]) (y4 (zc (.bool false))) (yG))) (tI (zU (zo xy [zo xR [za "rows"]])) (zP "x") (qP Td))) ((uq Tb))
noncomputable abbrev qI(Td Tb Tn Tf Tg:MF):MS:=zA (sIf (Zu (sZ (zo Tn [za "store_now",za "mark",za "rows",za "early"]))) (y4 (zc (.bool false))) (yG)) ((x8 Td Tb Tf Tg))
noncomputable abbrev up(Ta Td Tb Tn Tf Tg:MF):MS:=zA (qm (zG [zo Ta [za "store_now"],zD "Store" "clash" (za "store_now"),zo xR [zD "Store" "trail" (za "store_now")]]) ["late","clash","many"]) ((qI Td Tb Tn Tf Tg))
noncomputable abbrev qH(Ta Td Tb Tn Tf Tg:MF):MS:=zA (sIf (tOr [yC .IsNot (y5 "AllDifferentValues" "propagate" (za "rule") Tb [za "store_now"]) (za "due"),yC .Is (zD "Store" "is_failed" (za "store_now")) (za "due")]) (y4 (zc (.bool false))) (yG)) ((up Ta Td Tb Tn Tf Tg))
noncomputable abbrev qd(Ta Td Tb Tn Tf Tg:MF):MS:=zA (zk (zo Td [za "rows"]) (zP "due")) ((qH Ta Td Tb Tn Tf Tg))
noncomputable abbrev u0(Ta Td Tb Tn Tf Tg:MF):MS:=zA (zk (zG [zo Ta [za "store_now"],zo xR [zD "Store" "trail" (za "store_now")]]) (tu ["rows","mark"])) ((qd Ta Td Tb Tn Tf Tg))
noncomputable abbrev t0:MT:=yC .Gt (zo xR [zC (za "rows") (za "x")]) (zc (.int 1))
noncomputable abbrev t4:CI:=xD (za "x")
noncomputable abbrev sb(Tc Ta zW:MF):MS:=zA (zk (zo Ta [za "store_now"]) (zP "rows")) (zA (zk (yH ["rows"] (zU (zo xy [zo xR [za "rows"]])) (.one "x") t0 t4 (.list [])) (zP "opened")) (zA (sIf (yC .Eq (za "opened") (vy [])) (y4 (zc (.bool true))) (yG)) (zA (zk (zC (za "opened") (zo Tc [za "tape",zo xR [za "opened"]])) (zP "x")) (zA (zk (zC (zG [zc (.str "!="),zc (.str "<="),zc (.str ">=")]) (zo Tc [za "tape",zc (.int 3)])) (zP "sign")) (sIf (Zu (sZ (y5 "Store" "decide" (za "store_now") zW [zG [za "x",za "sign",zC (zC (za "rows") (za "x")) (zo Tc [za "tape",zo xR [zC (za "rows") (za "x")]])]]))) (y4 (zc (.bool false))) (yG))))))
noncomputable abbrev qp(Tc Ta zW:MF):MS:=zA (tI (zU (zo xy [xZ uo (zc (.int 1)) (zo Tc [za "tape",zc (.int 3)])])) (zP "deed") (sb Tc Ta zW)) (y4 (zc (.bool true)))
noncomputable abbrev Vc(Tl zZ:MF):MS:=wD (y5 "Store" "new_var" (za "found") zZ [zo Tl [za "row"]])
noncomputable abbrev Zc(uw Tl zZ:MF):MS:=zA (zk (zo uw []) (zP "found")) (zA (tI (zU (za "early")) (zP "row") (Vc Tl zZ)) (y4 (za "found")))
noncomputable abbrev zgs:CI:=xD (xZ Wt (zo zf5 [za "cell"]) (zc (.int 1000003)))
noncomputable abbrev zd1(Tc:MF):MS:=zA (zk (xZ uo (za "begin") (zo Tc [za "tape",zc (.int 4)])) (zP "first")) (zA (zk (zo qG [zo xy [za "first",xZ uo (xZ uo (za "first") (zc (.int 1))) (zo Tc [za "tape",zc (.int 4)])]]) (zP "row")) (wD (w3 (za "early") xz [mIf (j1 [yC .Eq (zo Tc [za "tape",zc (.int 3)]) (zc (.int 0)),yC .Gt (zo xR [za "row"]) (zc (.int 2))]) (xZ uo (td (za "row") none (some (zc (.int 1)))) (td (za "row") (some (zc (.int 2))) none)) (za "row")])))
noncomputable abbrev zd0(Ta zv Ti Tj zz:MF):MS:=zA (zk (zo Ta [za "store_now"]) (zP "rows")) (zA (wD (y5 "Store" "push" (za "store_now") zv [])) (zA (sIf (tOr [Zu (sZ (zo Ti [za "tape",za "store_now"])),Zu (sZ (zo Tj [za "store_now",za "rule",za "early"]))]) (y4 (zc (.bool false))) (yG)) (sIf (sZ (zD "Store" "is_failed" (za "store_now"))) (zA (wD (y5 "Store" "pop" (za "store_now") zz [zc (.int 1)])) (sIf (tOr [sZ (zD "Store" "is_failed" (za "store_now")),yC .NotEq (zD "Store" "clash" (za "store_now")) (zG []),yC .NotEq (zo Ta [za "store_now"]) (za "rows")]) (y4 (zc (.bool false))) (yG))) (yG))))
noncomputable abbrev zji(Tb:MF):MS:=y4 (Yp [qc .Is (y5 "AllDifferentValues" "propagate" (za "rule") Tb [za "other"]) (zc (.bool false)),qc .Eq (zD "Store" "trail" (za "other")) (vy []),qc .Eq (zD "Store" "clash" (za "other")) (za "reason")])
noncomputable abbrev zjh(zd Tb:MF):MS:=zA (wD (y5 "Store" "fail" (za "other") zd [za "reason"])) ((zji Tb))
noncomputable abbrev zco(zx zd Tb:MF):MS:=zA (qm (zG [zo zx [za "early"],zG [zG [zc (.int 0),zc (.str ">="),zC (zC (za "early") (zc (.int 0))) (zc (.int 0))]]]) ["other","reason"]) ((zjh zd Tb))
noncomputable abbrev zcn(zx Ta zv Ti Tj zz zd Tb:MF):MS:=zA (tI (zU (zo xy [zc (.int 2)])) (zP "lap") (zd0 Ta zv Ti Tj zz)) ((zco zx zd Tb))
noncomputable abbrev zcm(zh zx Ta zv Ti Tj zz zd Tb:MF):MS:=zA (qm (zG [zo zh [xZ uo (zo xw [zo xy [za "turn",za "many"]]) (zo xw [zo xy [za "turn"]])],zo zx [za "early"]]) ["rule","store_now"]) ((zcn zx Ta zv Ti Tj zz zd Tb))
noncomputable abbrev zcl(Tc zh zx Ta zv Ti Tj zz zd Tb:MF):MS:=zA (zk (zo Tc [za "tape",za "many"]) (zP "turn")) ((zcm zh zx Ta zv Ti Tj zz zd Tb))
noncomputable abbrev Jc(Tc zh zx Ta zv Ti Tj zz zd Tb:MF):MS:=zA (tI (zU (zo xy [za "many"])) (zP "x") (zd1 Tc)) ((zcl Tc zh zx Ta zv Ti Tj zz zd Tb))
noncomputable abbrev Jb(Tc zh zx Ta zv Ti Tj zz zd Tb:MF):MS:=zA (qm (zG [xZ uo (zc (.int 3)) (zo Tc [za "tape",zc (.int 3)]),xZ YS (zo Tc [za "tape",zc (.int 5)]) (zc (.int 2)),vy []]) ["many","begin","early"]) ((Jc Tc zh zx Ta zv Ti Tj zz zd Tb))
noncomputable abbrev zf9(Tc zh zx Ta zv Ti Tj zz zd Tb:MF):MS:=zA (zk (Wv [(zc (.str "cells"),za "cells"),(zc (.str "at"),zc (.int 0)),(zc (.str "stir"),xZ uo (zc (.int 5)) (xZ Wt (zo zb5 [za "cells"]) (zc (.int 997))))]) (zP "tape")) ((Jb Tc zh zx Ta zv Ti Tj zz zd Tb))
noncomputable abbrev zik(m_script:ME)(Tc zh zx Ta zv Ti Tj zz zd Tb:MF):MS:=zA (zk (yH [] (zU (m_script)) (.one "cell") vq zgs (.list [])) (zP "cells")) ((zf9 Tc zh zx Ta zv Ti Tj zz zd Tb))
noncomputable abbrev KK(P:Params):Frag:=H.KK P
variable {P:Params}{c:Cx}{d:Nat}
theorem vz(hK:c.K=KK c.w.params):w8 c.K "AllDifferentValues" "number" = true:=by rw[hK];kernel_rfl
theorem zE(hK:c.K=KK c.w.params):w8 c.K "AllDifferentValues" "scope" = true:=by rw[hK];kernel_rfl
theorem vd(hK:c.K=KK c.w.params):w8 c.K "AllDifferentValues" "strength" = true:=by rw[hK];kernel_rfl
theorem yX(hK:c.K=KK c.w.params):w8 c.K "Matching" "choices" = true:=by rw[hK];kernel_rfl
theorem wM(hK:c.K=KK c.w.params):w8 c.K "Matching" "mate" = true:=by rw[hK];kernel_rfl
theorem ym(hK:c.K=KK c.w.params):w8 c.K "Matching" "owner" = true:=by rw[hK];kernel_rfl
theorem yE(hK:c.K=KK c.w.params):w8 c.K "Store" "clash" = true:=by rw[hK];kernel_rfl
theorem yh(hK:c.K=KK c.w.params):w8 c.K "Store" "domains" = true:=by rw[hK];kernel_rfl
theorem wg(hK:c.K=KK c.w.params):w8 c.K "Store" "firsts" = true:=by rw[hK];kernel_rfl
theorem yg(hK:c.K=KK c.w.params):w8 c.K "Store" "is_failed" = true:=by rw[hK];kernel_rfl
theorem yD(hK:c.K=KK c.w.params):w8 c.K "Store" "marks" = true:=by rw[hK];kernel_rfl
theorem ur(hK:c.K=KK c.w.params):w8 c.K "Store" "news" = true:=by rw[hK];kernel_rfl
theorem u5(hK:c.K=KK c.w.params):w8 c.K "Store" "speaker" = true:=by rw[hK];kernel_rfl
theorem yb(hK:c.K=KK c.w.params):w8 c.K "Store" "trail" = true:=by rw[hK];kernel_rfl
theorem vV(hK:c.K=KK c.w.params):xu c.K "AllDifferentValues" "check" = some 365:=by rw[hK];kernel_rfl
theorem y0(hK:c.K=KK c.w.params):xu c.K "AllDifferentValues" "propagate" = some 372:=by rw[hK];kernel_rfl
theorem xN(hK:c.K=KK c.w.params):xu c.K "AllDifferentValues" "walls" = some 379:=by rw[hK];kernel_rfl
theorem uL(hK:c.K=KK c.w.params):xu c.K "Matching" "closed_from" = some 330:=by rw[hK];kernel_rfl
theorem qb(hK:c.K=KK c.w.params):xu c.K "Matching" "hand_on" = some 323:=by rw[hK];kernel_rfl
theorem jB(hK:c.K=KK c.w.params):xu c.K "Matching" "seat" = some 316:=by rw[hK];kernel_rfl
theorem Z1(hK:c.K=KK c.w.params):xu c.K "Store" "decide" = some 213:=by rw[hK];kernel_rfl
theorem jg(hK:c.K=KK c.w.params):xu c.K "Store" "dom" = some 136:=by rw[hK];kernel_rfl
theorem tM(hK:c.K=KK c.w.params):xu c.K "Store" "enter" = some 199:=by rw[hK];kernel_rfl
theorem wl(hK:c.K=KK c.w.params):xu c.K "Store" "fail" = some 220:=by rw[hK];kernel_rfl
theorem jA(hK:c.K=KK c.w.params):xu c.K "Store" "initial" = some 143:=by rw[hK];kernel_rfl
theorem j9(hK:c.K=KK c.w.params):xu c.K "Store" "new_var" = some 122:=by rw[hK];kernel_rfl
theorem Wq(hK:c.K=KK c.w.params):xu c.K "Store" "pop" = some 234:=by rw[hK];kernel_rfl
theorem YR(hK:c.K=KK c.w.params):xu c.K "Store" "push" = some 227:=by rw[hK];kernel_rfl
theorem YQ(hK:c.K=KK c.w.params):xu c.K "Store" "size" = some 129:=by rw[hK];kernel_rfl
theorem Z0(hK:c.K=KK c.w.params):xu c.K "Store" "strike" = some 206:=by rw[hK];kernel_rfl
theorem zm1(hK:c.K=KK c.w.params):nsIn c.K mainGlobals "abs" = some none:=by rw[hK];kernel_rfl
theorem Zr(hK:c.K=KK c.w.params):nsIn c.K mainGlobals "enumerate" = some none:=by rw[hK];kernel_rfl
theorem yZ(hK:c.K=KK c.w.params):nsIn c.K mainGlobals "len" = some none:=by rw[hK];kernel_rfl
theorem zj2(hK:c.K=KK c.w.params):nsIn c.K mainGlobals "list" = some none:=by rw[hK];kernel_rfl
theorem zm0(hK:c.K=KK c.w.params):nsIn c.K mainGlobals "max" = some none:=by rw[hK];kernel_rfl
theorem zir(hK:c.K=KK c.w.params):nsIn c.K mainGlobals "min" = some none:=by rw[hK];kernel_rfl
theorem xB(hK:c.K=KK c.w.params):nsIn c.K mainGlobals "range" = some none:=by rw[hK];kernel_rfl
theorem ziq(hK:c.K=KK c.w.params):nsIn c.K mainGlobals "set" = some none:=by rw[hK];kernel_rfl
theorem ju(hK:c.K=KK c.w.params):nsIn c.K mainGlobals "sorted" = some none:=by rw[hK];kernel_rfl
theorem zmz(hK:c.K=KK c.w.params):nsIn c.K mainGlobals "sum" = some none:=by rw[hK];kernel_rfl
theorem ua(hK:c.K=KK c.w.params):nsIn c.K mainGlobals "tuple" = some none:=by rw[hK];kernel_rfl
theorem tV(hK:c.K=KK c.w.params):nsIn c.K mainGlobals "AllDifferentValues" = some (some (.ref 382)):=by rw[hK];kernel_rfl
theorem zjo(hK:c.K=KK c.w.params):yo c (.ref 382):=zK (by rw[hK];kernel_rfl)
theorem Kj(hK:c.K=KK c.w.params):nsIn c.K mainGlobals "Matching" = some (some (.ref 333)):=by rw[hK];kernel_rfl
theorem zjp(hK:c.K=KK c.w.params):yo c (.ref 333):=zK (by rw[hK];kernel_rfl)
theorem zgk(hK:c.K=KK c.w.params):nsIn c.K mainGlobals "Store" = some (some (.ref 251)):=by rw[hK];kernel_rfl
theorem zjq(hK:c.K=KK c.w.params):yo c (.ref 251):=zK (by rw[hK];kernel_rfl)
theorem uD(hK:c.K=KK c.w.params):nsIn c.K mainGlobals "_law_all_sit" = some (some (.ref 425)):=by rw[hK];kernel_rfl
theorem Kd(hK:c.K=KK c.w.params):yo c (.ref 425):=zK (by rw[hK];kernel_rfl)
theorem jm(hK:c.K=KK c.w.params):nsIn c.K mainGlobals "_law_asked_right" = some (some (.ref 440)):=by rw[hK];kernel_rfl
theorem zjl(hK:c.K=KK c.w.params):yo c (.ref 440):=zK (by rw[hK];kernel_rfl)
theorem YU(hK:c.K=KK c.w.params):nsIn c.K mainGlobals "_law_decided" = some (some (.ref 445)):=by rw[hK];kernel_rfl
theorem zjk(hK:c.K=KK c.w.params):yo c (.ref 445):=zK (by rw[hK];kernel_rfl)
theorem Yw(hK:c.K=KK c.w.params):nsIn c.K mainGlobals "_law_hold" = some (some (.ref 420)):=by rw[hK];kernel_rfl
theorem zc5(hK:c.K=KK c.w.params):yo c (.ref 420):=zK (by rw[hK];kernel_rfl)
theorem Yv(hK:c.K=KK c.w.params):nsIn c.K mainGlobals "_law_kept" = some (some (.ref 415)):=by rw[hK];kernel_rfl
theorem zc6(hK:c.K=KK c.w.params):yo c (.ref 415):=zK (by rw[hK];kernel_rfl)
theorem Ki(hK:c.K=KK c.w.params):nsIn c.K mainGlobals "_law_lets" = some (some (.ref 410)):=by rw[hK];kernel_rfl
theorem zjn(hK:c.K=KK c.w.params):yo c (.ref 410):=zK (by rw[hK];kernel_rfl)
theorem xd(hK:c.K=KK c.w.params):nsIn c.K mainGlobals "_law_roll" = some (some (.ref 391)):=by rw[hK];kernel_rfl
theorem uC(hK:c.K=KK c.w.params):yo c (.ref 391):=zK (by rw[hK];kernel_rfl)
theorem Yu(hK:c.K=KK c.w.params):nsIn c.K mainGlobals "_law_room" = some (some (.ref 430)):=by rw[hK];kernel_rfl
theorem zc4(hK:c.K=KK c.w.params):yo c (.ref 430):=zK (by rw[hK];kernel_rfl)
theorem vk(hK:c.K=KK c.w.params):nsIn c.K mainGlobals "_law_rows" = some (some (.ref 403)):=by rw[hK];kernel_rfl
theorem jD(hK:c.K=KK c.w.params):yo c (.ref 403):=zK (by rw[hK];kernel_rfl)
theorem Zm(hK:c.K=KK c.w.params):nsIn c.K mainGlobals "_law_spans" = some (some (.ref 398)):=by rw[hK];kernel_rfl
theorem zc7(hK:c.K=KK c.w.params):yo c (.ref 398):=zK (by rw[hK];kernel_rfl)
theorem Zl(hK:c.K=KK c.w.params):nsIn c.K mainGlobals "_law_store" = some (some (.ref 452)):=by rw[hK];kernel_rfl
theorem zc3(hK:c.K=KK c.w.params):yo c (.ref 452):=zK (by rw[hK];kernel_rfl)
theorem qe(hK:c.K=KK c.w.params):nsIn c.K mainGlobals "_law_strikes_right" = some (some (.ref 435)):=by rw[hK];kernel_rfl
theorem zjm(hK:c.K=KK c.w.params):yo c (.ref 435):=zK (by rw[hK];kernel_rfl)
theorem XG(hK:c.K=KK c.w.params):nsIn c.K mainGlobals "from_on" = some (some (.ref 66)):=by rw[hK];kernel_rfl
theorem zil(hK:c.K=KK c.w.params):yo c (.ref 66):=zK (by rw[hK];kernel_rfl)
theorem zjr(hK:c.K=KK c.w.params):nsIn c.K mainGlobals "meet" = some (some (.ref 80)):=by rw[hK];kernel_rfl
theorem zmq(hK:c.K=KK c.w.params):yo c (.ref 80):=zK (by rw[hK];kernel_rfl)
theorem Kh(hK:c.K=KK c.w.params):nsIn c.K mainGlobals "negation" = some (some (.ref 87)):=by rw[hK];kernel_rfl
theorem zmp(hK:c.K=KK c.w.params):yo c (.ref 87):=zK (by rw[hK];kernel_rfl)
theorem zda(hK:c.K=KK c.w.params):nsIn c.K mainGlobals "struck" = some (some (.ref 94)):=by rw[hK];kernel_rfl
theorem zmo(hK:c.K=KK c.w.params):yo c (.ref 94):=zK (by rw[hK];kernel_rfl)
theorem Jg(hK:c.K=KK c.w.params):nsIn c.K mainGlobals "up_to" = some (some (.ref 61)):=by rw[hK];kernel_rfl
theorem zim(hK:c.K=KK c.w.params):yo c (.ref 61):=zK (by rw[hK];kernel_rfl)
theorem Ub(hK:c.K=KK c.w.params):nsIn c.K mainGlobals "values" = some (some (.ref 56)):=by rw[hK];kernel_rfl
theorem zin(hK:c.K=KK c.w.params):yo c (.ref 56):=zK (by rw[hK];kernel_rfl)
theorem zad(hK:c.K=KK c.w.params):nsIn c.K mainGlobals "without" = some (some (.ref 73)):=by rw[hK];kernel_rfl
theorem zmr(hK:c.K=KK c.w.params):yo c (.ref 73):=zK (by rw[hK];kernel_rfl)
theorem zai(hK:c.K=KK c.w.params):∃q a,xf c 56 q a (zp (KK c.w.params) 56) (zf (KK c.w.params) 56) ["d"] []:=
 y3 hK (by kernel_rfl) (λ_=>by show _=_;kernel_rfl) (zw (.inl (by kernel_rfl)) zY) (by kernel_rfl)
theorem JE(hK:c.K=KK c.w.params):SB c (zf (KK c.w.params) 56) (d+1) (zp (KK c.w.params) 56) (VM):=
 (ze (zH (y2 SEs.nil) yq rF (by kernel_rfl))
 (ze (wj (zX zb) (tH (xs:=["low","high"]) (by kernel_rfl) (zw (.inl (by kernel_rfl)) (zw (.inl (by kernel_rfl)) zY))) (zl (yN (yU (id:="list.extend") zb F.slot_list_extend (by kernel_rfl) Zp (SEs.cons (zM (by kernel_rfl) (xB hK) yM (zn _ (by decide)) z5 yn (SEs.cons zb (SEs.cons (yf xr zb zs) SEs.nil rF) rF)) SEs.nil rF) rF) (by kernel_rfl))) (λ_ _=>rfl))
 (zl (zj zb))))
theorem k61:(zf (KK P) 61).kind=.function:=by kernel_rfl
theorem zdb(hK:c.K=KK c.w.params):∃q a,xf c 61 q a (zp (KK c.w.params) 61) (zf (KK c.w.params) 61) ["d","k"] []:=
 y3 hK (by kernel_rfl) (λ_ _=>by show _=_;kernel_rfl) (zw (.inl (by kernel_rfl)) (zw (.inr (by kernel_rfl)) zY)) (by kernel_rfl)
theorem zbp(hK:c.K=KK c.w.params):SB c (zf (KK c.w.params) 61) (d+1) (zp (KK c.w.params) 61) (KV):=
 (zl (zj (zM (by kernel_rfl) (ua hK) wQ (zn _ (by decide)) z5 yY (SEs.cons (yV (vJ (fr:=["k"]) (by kernel_rfl) (by kernel_rfl) k61 (zX zb) (.inl rfl) (t:=(.many ["low","high"])) rfl (zw (.inl (by kernel_rfl)) (zw (.inl (by kernel_rfl)) zY)) (xG (zF (by kernel_rfl) zb yu)) (z9 (SEs.cons zb (SEs.cons (zM (by kernel_rfl) (zir hK) zdy (zn _ (by decide)) zg zdu (SEs.cons zb (SEs.cons yu SEs.nil rF) rF)) SEs.nil rF) rF)) (λ_ _=>rfl)) rF) SEs.nil rF))))
theorem k66:(zf (KK P) 66).kind=.function:=by kernel_rfl
theorem Ko(hK:c.K=KK c.w.params):∃q a,xf c 66 q a (zp (KK c.w.params) 66) (zf (KK c.w.params) 66) ["d","k"] []:=
 y3 hK (by kernel_rfl) (λ_ _=>by show _=_;kernel_rfl) (zw (.inl (by kernel_rfl)) (zw (.inr (by kernel_rfl)) zY)) (by kernel_rfl)
theorem UM(hK:c.K=KK c.w.params):SB c (zf (KK c.w.params) 66) (d+1) (zp (KK c.w.params) 66) (Xy):=
 (zl (zj (zM (by kernel_rfl) (ua hK) wQ (zn _ (by decide)) z5 yY (SEs.cons (yV (vJ (fr:=["k"]) (by kernel_rfl) (by kernel_rfl) k66 (zX zb) (.inl rfl) (t:=(.many ["low","high"])) rfl (zw (.inl (by kernel_rfl)) (zw (.inl (by kernel_rfl)) zY)) (xG (zF (by kernel_rfl) zb yu)) (z9 (SEs.cons (zM (by kernel_rfl) (zm0 hK) zj0 (zn _ (by decide)) zg zdv (SEs.cons zb (SEs.cons yu SEs.nil rF) rF)) (SEs.cons zb SEs.nil rF) rF)) (λ_ _=>rfl)) rF) SEs.nil rF))))
theorem Kn(hK:c.K=KK c.w.params):∃q a,xf c 73 q a (zp (KK c.w.params) 73) (zf (KK c.w.params) 73) ["d","v"] []:=
 y3 hK (by kernel_rfl) (λ_ _=>by show _=_;kernel_rfl) (zw (.inl (by kernel_rfl)) (zw (.inl (by kernel_rfl)) zY)) (by kernel_rfl)
theorem UL(hK:c.K=KK c.w.params){xK y8:MF}(Ty:z6 c (d+1) (.ref 61) xK)(Tz:z6 c (d+1) (.ref 66) y8):SB c (zf (KK c.w.params) 73) (d+1) (zp (KK c.w.params) 73) (Xx xK y8):=
 (zl (zj (yf xr (yc (by kernel_rfl) (Jg hK) (zim hK) Ty (SEs.cons zb (SEs.cons (yf q9 zb zs) SEs.nil rF) rF)) (yc (by kernel_rfl) (XG hK) (zil hK) Tz (SEs.cons zb (SEs.cons (yf xr zb zs) SEs.nil rF) rF)))))
theorem zaj(hK:c.K=KK c.w.params):∃q a,xf c 94 q a (zp (KK c.w.params) 94) (zf (KK c.w.params) 94) ["literal","d"] []:=
 y3 hK (by kernel_rfl) (λ_ _=>by show _=_;kernel_rfl) (zw (.inl (by kernel_rfl)) (zw (.inl (by kernel_rfl)) zY)) (by kernel_rfl)
theorem JF(hK:c.K=KK c.w.params){xK y8 Tu w6:MF}(Ty:z6 c (d+1) (.ref 61) xK)(Tz:z6 c (d+1) (.ref 66) y8)(T9:z6 c (d+1) (.ref 80) Tu)(Sa:z6 c (d+1) (.ref 73) w6):SB c (zf (KK c.w.params) 94) (d+1) (zp (KK c.w.params) 94) (VN xK y8 Tu w6):=
 (ze (uZ (xs:=["sign","k"]) (z9 (SEs.cons (zt zb zs) (SEs.cons (zt zb zs) SEs.nil rF) rF)) (by kernel_rfl) (by kernel_rfl) (zw (.inl (by kernel_rfl)) (zw (.inl (by kernel_rfl)) zY)))
 (ze (yF (zF (by kernel_rfl) zb yv) (zl (zj (yc (by kernel_rfl) (Jg hK) (zim hK) Ty (SEs.cons zb (SEs.cons zb SEs.nil rF) rF)))) yk)
 (ze (yF (zF (by kernel_rfl) zb yv) (zl (zj (yc (by kernel_rfl) (XG hK) (zil hK) Tz (SEs.cons zb (SEs.cons zb SEs.nil rF) rF)))) yk)
 (zl (zj (KL (zF (by kernel_rfl) zb yv) (yc (by kernel_rfl) (zjr hK) (zmq hK) T9 (SEs.cons zb (SEs.cons (z9 (SEs.cons (z9 (SEs.cons zb (SEs.cons zb SEs.nil rF) rF)) SEs.nil rF)) SEs.nil rF) rF)) (yc (by kernel_rfl) (zad hK) (zmr hK) Sa (SEs.cons zb (SEs.cons zb SEs.nil rF) rF))))))))
theorem YX(hK:c.K=KK c.w.params):∃q a,xf c 115 q a (zp (KK c.w.params) 115) (zf (KK c.w.params) 115) ["self"] []:=
 y3 hK (by kernel_rfl) (λ_=>by show _=_;kernel_rfl) (zw (.inl (by kernel_rfl)) zY) (by kernel_rfl)
theorem YJ(hK:c.K=KK c.w.params):SB c (zf (KK c.w.params) 115) (d+1) (zp (KK c.w.params) 115) (tc):=
 (ze (zH (y2 SEs.nil) (yr zb (yh hK)) rF (by kernel_rfl))
 (ze (zH (y2 SEs.nil) (yr zb (wg hK)) rF (by kernel_rfl))
 (ze (zH (y2 SEs.nil) (yr zb (yb hK)) rF (by kernel_rfl))
 (ze (zH (y2 SEs.nil) (yr zb (yD hK)) rF (by kernel_rfl))
 (ze (zH tE (yr zb (ur hK)) rF (by kernel_rfl))
 (ze (zH (tD zs) (yr zb (u5 hK)) rF (by kernel_rfl))
 (ze (zH ye (yr zb (yg hK)) rF (by kernel_rfl))
 (zl (zH (z9 SEs.nil) (yr zb (yE hK)) rF (by kernel_rfl))))))))))
theorem jG(hK:c.K=KK c.w.params):∃q a,xf c 122 q a (zp (KK c.w.params) 122) (zf (KK c.w.params) 122) ["self","domain"] []:=
 y3 hK (by kernel_rfl) (λ_ _=>by show _=_;kernel_rfl) (zw (.inl (by kernel_rfl)) (zw (.inl (by kernel_rfl)) zY)) (by kernel_rfl)
theorem j3(hK:c.K=KK c.w.params){zd:MF}(Ts:z6 c (d+1) (.ref 220) zd):SB c (zf (KK c.w.params) 122) (d+1) (zp (KK c.w.params) 122) (tw zd):=
 (ze (yN (yU (id:="list.append") (zr zb (yh hK) rF) F.slot_list_append (by kernel_rfl) yK (SEs.cons zb SEs.nil rF) rF) (by kernel_rfl))
 (ze (yN (yU (id:="list.append") (zr zb (wg hK) rF) F.slot_list_append (by kernel_rfl) yK (SEs.cons zb SEs.nil rF) rF) (by kernel_rfl))
 (ze (yF (zF (by kernel_rfl) zb (z9 SEs.nil)) (zl (yN (zS zb (wl hK) Ts (SEs.cons (z9 SEs.nil) SEs.nil rF) rF) (by kernel_rfl))) yk)
 (zl (zj (yf q9 (zM (by kernel_rfl) (yZ hK) yx (zn _ (by decide)) zg zN (SEs.cons (zr zb (yh hK) rF) SEs.nil rF)) zs))))))
theorem WB(hK:c.K=KK c.w.params):∃q a,xf c 136 q a (zp (KK c.w.params) 136) (zf (KK c.w.params) 136) ["self","x"] []:=
 y3 hK (by kernel_rfl) (λ_ _=>by show _=_;kernel_rfl) (zw (.inl (by kernel_rfl)) (zw (.inl (by kernel_rfl)) zY)) (by kernel_rfl)
theorem Wd(hK:c.K=KK c.w.params):SB c (zf (KK c.w.params) 136) (d+1) (zp (KK c.w.params) 136) (Zf):=
 (zl (zj (zt (zr zb (yh hK) rF) zb)))
theorem jH(hK:c.K=KK c.w.params):∃q a,xf c 143 q a (zp (KK c.w.params) 143) (zf (KK c.w.params) 143) ["self","x"] []:=
 y3 hK (by kernel_rfl) (λ_ _=>by show _=_;kernel_rfl) (zw (.inl (by kernel_rfl)) (zw (.inl (by kernel_rfl)) zY)) (by kernel_rfl)
theorem j4(hK:c.K=KK c.w.params):SB c (zf (KK c.w.params) 143) (d+1) (zp (KK c.w.params) 143) (tx):=
 (zl (zj (zt (zr zb (wg hK) rF) zb)))
theorem Yz(hK:c.K=KK c.w.params):∃q a,xf c 199 q a (zp (KK c.w.params) 199) (zf (KK c.w.params) 199) ["self","literal","reasons","speaker"] []:=
 y3 hK (by kernel_rfl) (λ_ _ _ _=>by show _=_;kernel_rfl) (zw (.inl (by kernel_rfl)) (zw (.inl (by kernel_rfl)) (zw (.inl (by kernel_rfl)) (zw (.inl (by kernel_rfl)) zY)))) (by kernel_rfl)
theorem ZY(hK:c.K=KK c.w.params){vp Tv zd:MF}(Sb:z6 c (d+1) (.ref 94) vp)(Sc:z6 c (d+1) (.ref 87) Tv)(Ts:z6 c (d+1) (.ref 220) zd):SB c (zf (KK c.w.params) 199) (d+1) (zp (KK c.w.params) 199) (qt vp Tv zd):=
 (ze (zH (zt zb zs) yq rF (by kernel_rfl))
 (ze (zH (zt (zr zb (yh hK) rF) zb) yq rF (by kernel_rfl))
 (ze (zH (yc (by kernel_rfl) (zda hK) (zmo hK) Sb (SEs.cons zb (SEs.cons zb SEs.nil rF) rF)) yq rF (by kernel_rfl))
 (ze (yF (zF (by kernel_rfl) zb (z9 SEs.nil)) (zl (zj (zS zb (wl hK) Ts (SEs.cons (yf xr (KL (zF (by kernel_rfl) zb uz) (z9 SEs.nil) zb) (z9 (SEs.cons (yc (by kernel_rfl) (Kh hK) (zmp hK) Sc (SEs.cons zb SEs.nil rF)) SEs.nil rF))) SEs.nil rF) rF))) yk)
 (ze (yF (zF (by kernel_rfl) zb zb) (zl (zj ye)) yk)
 (ze (yN (yU (id:="list.append") (zr zb (yb hK) rF) F.slot_list_append (by kernel_rfl) yK (SEs.cons (z9 (SEs.cons zb (SEs.cons zb (SEs.cons zb (SEs.cons zb (SEs.cons zb SEs.nil rF) rF) rF) rF) rF)) SEs.nil rF) rF) (by kernel_rfl))
 (ze (zH zb (um (zr zb (yh hK) rF) zb) rF (by kernel_rfl))
 (ze (zH ye (um (zr zb (ur hK) rF) zb) rF (by kernel_rfl))
 (zl (zj ye))))))))))
theorem Z3(hK:c.K=KK c.w.params):∃q a,xf c 213 q a (zp (KK c.w.params) 213) (zf (KK c.w.params) 213) ["self","literal"] []:=
 y3 hK (by kernel_rfl) (λ_ _=>by show _=_;kernel_rfl) (zw (.inl (by kernel_rfl)) (zw (.inl (by kernel_rfl)) zY)) (by kernel_rfl)
theorem Zw(hK:c.K=KK c.w.params){zR:MF}(T0:z6 c (d+1) (.ref 199) zR):SB c (zf (KK c.w.params) 213) (d+1) (zp (KK c.w.params) 213) (tQ zR):=
 (zl (zj (zS zb (tM hK) T0 (SEs.cons zb (SEs.cons uz (SEs.cons (tD zs) SEs.nil rF) rF) rF) rF)))
theorem qK(hK:c.K=KK c.w.params):∃q a,xf c 269 q a (zp (KK c.w.params) 269) (zf (KK c.w.params) 269) ["self","scope","strength"] []:=
 y3 hK (by kernel_rfl) (λ_ _ _=>by show _=_;kernel_rfl) (zw (.inl (by kernel_rfl)) (zw (.inl (by kernel_rfl)) (zw (.inl (by kernel_rfl)) zY))) (by kernel_rfl)
theorem q7(hK:c.K=KK c.w.params):SB c (zf (KK c.w.params) 269) (d+1) (zp (KK c.w.params) 269) (u3):=
 (ze (zH (tD zs) (yr zb (vz hK)) rF (by kernel_rfl))
 (ze (zH (zM (by kernel_rfl) (ua hK) wQ (zn _ (by decide)) z5 yY (SEs.cons zb SEs.nil rF)) (yr zb (zE hK)) rF (by kernel_rfl))
 (zl (zH zb (yr zb (vd hK)) rF (by kernel_rfl)))))
theorem zn5:(zf (KK P) 309).kind=.function:=by kernel_rfl
theorem jJ(hK:c.K=KK c.w.params):∃q a,xf c 309 q a (zp (KK c.w.params) 309) (zf (KK c.w.params) 309) ["self","store","scope"] []:=
 y3 hK (by kernel_rfl) (λ_ _ _=>by show _=_;kernel_rfl) (zw (.inl (by kernel_rfl)) (zw (.inr (by kernel_rfl)) (zw (.inl (by kernel_rfl)) zY))) (by kernel_rfl)
theorem j6(hK:c.K=KK c.w.params){zL yp:MF}(T1:z6 c (d+1) (.ref 136) zL)(T2:z6 c (d+1) (.ref 56) yp):SB c (zf (KK c.w.params) 309) (d+1) (zp (KK c.w.params) 309) (vB zL yp):=
 (ze (zH (yV (vJ (fr:=["store"]) (by kernel_rfl) (by kernel_rfl) zn5 (zX zb) (.inl rfl) (t:=(.one "x")) rfl (zw (.inl (by kernel_rfl)) zY) xk (yc (by kernel_rfl) (Ub hK) (zin hK) T2 (SEs.cons (zS yu (jg hK) T1 (SEs.cons zb SEs.nil rF) rF) SEs.nil rF)) (λ_ _=>rfl)) rF) (yr zb (yX hK)) rF (by kernel_rfl))
 (ze (zH (yf zbx (y2 (SEs.cons uz SEs.nil rF)) (zM (by kernel_rfl) (yZ hK) yx (zn _ (by decide)) zg zN (SEs.cons zb SEs.nil rF))) (yr zb (wM hK)) rF (by kernel_rfl))
 (zl (zH tE (yr zb (ym hK)) rF (by kernel_rfl)))))
theorem jI(hK:c.K=KK c.w.params):∃q a,xf c 316 q a (zp (KK c.w.params) 316) (zf (KK c.w.params) 316) ["self","place"] []:=
 y3 hK (by kernel_rfl) (λ_ _=>by show _=_;kernel_rfl) (zw (.inl (by kernel_rfl)) (zw (.inl (by kernel_rfl)) zY)) (by kernel_rfl)
theorem j5(hK:c.K=KK c.w.params){Tq:MF}(Sd:z6 c (d+1) (.ref 323) Tq):SB c (zf (KK c.w.params) 316) (d+1) (zp (KK c.w.params) 316) (ty Tq):=
 (ze (uZ (xs:=["came","places","k"]) (z9 (SEs.cons tE (SEs.cons (y2 (SEs.cons zb SEs.nil rF)) (SEs.cons zs SEs.nil rF) rF) rF)) (by kernel_rfl) (by kernel_rfl) (zw (.inl (by kernel_rfl)) (zw (.inl (by kernel_rfl)) (zw (.inl (by kernel_rfl)) zY))))
 (ze (qZ (zF (by kernel_rfl) zb (zM (by kernel_rfl) (yZ hK) yx (zn _ (by decide)) zg zN (SEs.cons zb SEs.nil rF))) (ze (wj (zX (zt (zr zb (yX hK) rF) (zt zb zb))) yq (zl (yF (zF (by kernel_rfl) zb zb) (ze (zH (zt zb zb) (um zb zb) rF (by kernel_rfl))
 (ze (yF (zF (by kernel_rfl) zb (zr zb (ym hK) rF)) (ze (yN (zS zb (qb hK) Sd (SEs.cons zb (SEs.cons zb SEs.nil rF) rF) rF) (by kernel_rfl))
 (zl (zj uz))) yk)
 (zl (yN (yU (id:="list.append") zb F.slot_list_append (by kernel_rfl) yK (SEs.cons (zt (zr zb (ym hK) rF) zb) SEs.nil rF) rF) (by kernel_rfl))))) yk)) (λ_ _=>rfl))
 (zl (zH (yf xr zb zs) yq rF (by kernel_rfl)))))
 (zl (zj (z9 (SEs.cons zb (SEs.cons (zM (by kernel_rfl) (ju hK) sJ (zn _ (by decide)) zg Zo (SEs.cons zb SEs.nil rF)) SEs.nil rF) rF))))))
theorem qf(hK:c.K=KK c.w.params):∃q a,xf c 323 q a (zp (KK c.w.params) 323) (zf (KK c.w.params) 323) ["self","v","came"] []:=
 y3 hK (by kernel_rfl) (λ_ _ _=>by show _=_;kernel_rfl) (zw (.inl (by kernel_rfl)) (zw (.inl (by kernel_rfl)) (zw (.inl (by kernel_rfl)) zY))) (by kernel_rfl)
theorem qa(hK:c.K=KK c.w.params):SB c (zf (KK c.w.params) 323) (d+1) (zp (KK c.w.params) 323) (un):=
 (zl (qZ (zF (by kernel_rfl) zb uz) (ze (zH (zt zb zb) yq rF (by kernel_rfl))
 (ze (zH (zt (zr zb (wM hK) rF) zb) yq rF (by kernel_rfl))
 (ze (zH zb (um (zr zb (wM hK) rF) zb) rF (by kernel_rfl))
 (ze (zH zb (um (zr zb (ym hK) rF) zb) rF (by kernel_rfl))
 (zl (zH zb yq rF (by kernel_rfl)))))))))
theorem uM(hK:c.K=KK c.w.params):∃q a,xf c 330 q a (zp (KK c.w.params) 330) (zf (KK c.w.params) 330) ["self","v"] []:=
 y3 hK (by kernel_rfl) (λ_ _=>by show _=_;kernel_rfl) (zw (.inl (by kernel_rfl)) (zw (.inl (by kernel_rfl)) zY)) (by kernel_rfl)
theorem uK(hK:c.K=KK c.w.params):SB c (zf (KK c.w.params) 330) (d+1) (zp (KK c.w.params) 330) (wI):=
 (ze (uZ (xs:=["places","seen","stack"]) (z9 (SEs.cons (y2 SEs.nil) (SEs.cons (zbn (SPs.cons zb ye SPs.nil) (by simp) (Nat.le_of_ble_eq_true rfl)) (SEs.cons (y2 (SEs.cons zb SEs.nil rF)) SEs.nil rF) rF) rF)) (by kernel_rfl) (by kernel_rfl) (zw (.inl (by kernel_rfl)) (zw (.inl (by kernel_rfl)) (zw (.inl (by kernel_rfl)) zY))))
 (ze (qZ (zF (by kernel_rfl) zb (y2 SEs.nil)) (ze (zH (yU (id:="list.pop") zb F.slot_list_pop (by kernel_rfl) U4 SEs.nil rF) yq rF (by kernel_rfl))
 (ze (yF (zF (by kernel_rfl) zb (zr zb (ym hK) rF)) (zl (zj uz)) yk)
 (ze (yN (yU (id:="list.append") zb F.slot_list_append (by kernel_rfl) yK (SEs.cons (zt (zr zb (ym hK) rF) zb) SEs.nil rF) rF) (by kernel_rfl))
 (zl (wj (zX (zt (zr zb (yX hK) rF) (zt (zr zb (ym hK) rF) zb))) yq (zl (yF (zF (by kernel_rfl) zb zb) (ze (zH ye (um zb zb) rF (by kernel_rfl))
 (zl (yN (yU (id:="list.append") zb F.slot_list_append (by kernel_rfl) yK (SEs.cons zb SEs.nil rF) rF) (by kernel_rfl)))) yk)) (λ_ _=>rfl)))))))
 (zl (zj (z9 (SEs.cons zb (SEs.cons (zM (by kernel_rfl) (ju hK) sJ (zn _ (by decide)) zg Zo (SEs.cons zb SEs.nil rF)) SEs.nil rF) rF))))))
theorem vX(hK:c.K=KK c.w.params):∃q a,xf c 379 q a (zp (KK c.w.params) 379) (zf (KK c.w.params) 379) ["self","store","places","few"] []:=
 y3 hK (by kernel_rfl) (λ_ _ _ _=>by show _=_;kernel_rfl) (zw (.inl (by kernel_rfl)) (zw (.inl (by kernel_rfl)) (zw (.inl (by kernel_rfl)) (zw (.inl (by kernel_rfl)) zY)))) (by kernel_rfl)
theorem vR(hK:c.K=KK c.w.params){ya yp:MF}(Se:z6 c (d+1) (.ref 143) ya)(T2:z6 c (d+1) (.ref 56) yp):SB c (zf (KK c.w.params) 379) (d+1) (zp (KK c.w.params) 379) (xX ya yp):=
 (ze (zH (y2 SEs.nil) yq rF (by kernel_rfl))
 (ze (wj (zX zb) yq (ze (zH (zt (zr zb (zE hK) rF) zb) yq rF (by kernel_rfl))
 (ze (yN (yU (id:="list.extend") zb F.slot_list_extend (by kernel_rfl) Zp (SEs.cons (y2 (SEs.cons (z9 (SEs.cons zb (SEs.cons yv (SEs.cons (zt zb zs) SEs.nil rF) rF) rF)) (SEs.cons (z9 (SEs.cons zb (SEs.cons yv (SEs.cons (zt zb (tD zs)) SEs.nil rF) rF) rF)) SEs.nil rF) rF)) SEs.nil rF) rF) (by kernel_rfl))
 (zl (wj (zX (yc (by kernel_rfl) (Ub hK) (zin hK) T2 (SEs.cons (zS zb (jA hK) Se (SEs.cons zb SEs.nil rF) rF) SEs.nil rF))) yq (zl (yF (ZS (STs.cons (zfc (by kernel_rfl) (zt zb zs) zb (zt zb (tD zs))) (STs.cons (zF (by kernel_rfl) zb zb) STs.nil))) (zl (yN (yU (id:="list.append") zb F.slot_list_append (by kernel_rfl) yK (SEs.cons (z9 (SEs.cons zb (SEs.cons yv (SEs.cons zb SEs.nil rF) rF) rF)) SEs.nil rF) rF) (by kernel_rfl))) yk)) (λ_ _=>rfl))))) (λ_ _=>rfl))
 (zl (zj (zM (by kernel_rfl) (ua hK) wQ (zn _ (by decide)) z5 yY (SEs.cons zb SEs.nil rF))))))
theorem YV(hK:c.K=KK c.w.params):∃q a,xf c 129 q a (zp (KK c.w.params) 129) (zf (KK c.w.params) 129) ["self"] []:=
 y3 hK (by kernel_rfl) (λ_=>by show _=_;kernel_rfl) (zw (.inl (by kernel_rfl)) zY) (by kernel_rfl)
theorem YH(hK:c.K=KK c.w.params):SB c (zf (KK c.w.params) 129) (d+1) (zp (KK c.w.params) 129) (jh):=
 (zl (zj (zM (by kernel_rfl) (yZ hK) yx (zn _ (by decide)) zg zN (SEs.cons (zr zb (yh hK) rF) SEs.nil rF))))
theorem Z2(hK:c.K=KK c.w.params):∃q a,xf c 206 q a (zp (KK c.w.params) 206) (zf (KK c.w.params) 206) ["self","literal","reasons"] []:=
 y3 hK (by kernel_rfl) (λ_ _ _=>by show _=_;kernel_rfl) (zw (.inl (by kernel_rfl)) (zw (.inl (by kernel_rfl)) (zw (.inl (by kernel_rfl)) zY))) (by kernel_rfl)
theorem Zv(hK:c.K=KK c.w.params){zR:MF}(T0:z6 c (d+1) (.ref 199) zR):SB c (zf (KK c.w.params) 206) (d+1) (zp (KK c.w.params) 206) (tP zR):=
 (zl (zj (zS zb (tM hK) T0 (SEs.cons zb (SEs.cons (zM (by kernel_rfl) (ua hK) wQ (zn _ (by decide)) z5 yY (SEs.cons zb SEs.nil rF)) (SEs.cons (zr zb (u5 hK) rF) SEs.nil rF) rF) rF) rF)))
theorem YY(hK:c.K=KK c.w.params):∃q a,xf c 220 q a (zp (KK c.w.params) 220) (zf (KK c.w.params) 220) ["self","reasons"] []:=
 y3 hK (by kernel_rfl) (λ_ _=>by show _=_;kernel_rfl) (zw (.inl (by kernel_rfl)) (zw (.inl (by kernel_rfl)) zY)) (by kernel_rfl)
theorem YK(hK:c.K=KK c.w.params):SB c (zf (KK c.w.params) 220) (d+1) (zp (KK c.w.params) 220) (jj):=
 (ze (zH ye (yr zb (yg hK)) rF (by kernel_rfl))
 (ze (zH (zM (by kernel_rfl) (ua hK) wQ (zn _ (by decide)) z5 yY (SEs.cons zb SEs.nil rF)) (yr zb (yE hK)) rF (by kernel_rfl))
 (zl (zj ye))))
theorem YW(hK:c.K=KK c.w.params):∃q a,xf c 227 q a (zp (KK c.w.params) 227) (zf (KK c.w.params) 227) ["self"] []:=
 y3 hK (by kernel_rfl) (λ_=>by show _=_;kernel_rfl) (zw (.inl (by kernel_rfl)) zY) (by kernel_rfl)
theorem YI(hK:c.K=KK c.w.params):SB c (zf (KK c.w.params) 227) (d+1) (zp (KK c.w.params) 227) (ji):=
 (zl (yN (yU (id:="list.append") (zr zb (yD hK) rF) F.slot_list_append (by kernel_rfl) yK (SEs.cons (zM (by kernel_rfl) (yZ hK) yx (zn _ (by decide)) zg zN (SEs.cons (zr zb (yb hK) rF) SEs.nil rF)) SEs.nil rF) rF) (by kernel_rfl)))
theorem WA(hK:c.K=KK c.w.params):∃q a,xf c 234 q a (zp (KK c.w.params) 234) (zf (KK c.w.params) 234) ["self","n"] []:=
 y3 hK (by kernel_rfl) (λ_ _=>by show _=_;kernel_rfl) (zw (.inl (by kernel_rfl)) (zw (.inl (by kernel_rfl)) zY)) (by kernel_rfl)
theorem Wc(hK:c.K=KK c.w.params):SB c (zf (KK c.w.params) 234) (d+1) (zp (KK c.w.params) 234) (Ze):=
 (ze (yF (zF (by kernel_rfl) zb zs) (zl UE) yk)
 (ze (zH (zt (zr zb (yD hK) rF) (yf q9 (zM (by kernel_rfl) (yZ hK) yx (zn _ (by decide)) zg zN (SEs.cons (zr zb (yD hK) rF) SEs.nil rF)) zb)) yq rF (by kernel_rfl))
 (ze (zH (uJ (zr zb (yD hK) rF) wu.none (wu.some (yf q9 (zM (by kernel_rfl) (yZ hK) yx (zn _ (by decide)) zg zN (SEs.cons (zr zb (yD hK) rF) SEs.nil rF)) zb))) (yr zb (yD hK)) rF (by kernel_rfl))
 (ze (qZ (zF (by kernel_rfl) (zM (by kernel_rfl) (yZ hK) yx (zn _ (by decide)) zg zN (SEs.cons (zr zb (yb hK) rF) SEs.nil rF)) zb) (ze (zH (yU (id:="list.pop") (zr zb (yb hK) rF) F.slot_list_pop (by kernel_rfl) U4 SEs.nil rF) yq rF (by kernel_rfl))
 (zl (zH (zt zb zs) (um (zr zb (yh hK) rF) (zt zb zs)) rF (by kernel_rfl)))))
 (ze (zH tE (yr zb (ur hK)) rF (by kernel_rfl))
 (ze (zH (wC (by kernel_rfl) (z9 SEs.nil) (zr zb (wg hK) rF)) (yr zb (yg hK)) rF (by kernel_rfl))
 (zl (zH (z9 SEs.nil) (yr zb (yE hK)) rF (by kernel_rfl)))))))))
theorem zn4:(zf (KK P) 365).kind=.function:=by kernel_rfl
theorem vY(hK:c.K=KK c.w.params):∃q a,xf c 365 q a (zp (KK c.w.params) 365) (zf (KK c.w.params) 365) ["self","found"] []:=
 y3 hK (by kernel_rfl) (λ_ _=>by show _=_;kernel_rfl) (zw (.inl (by kernel_rfl)) (zw (.inl (by kernel_rfl)) zY)) (by kernel_rfl)
theorem vS(hK:c.K=KK c.w.params):SB c (zf (KK c.w.params) 365) (d+1) (zp (KK c.w.params) 365) (xY):=
 (zl (zj (wC (by kernel_rfl) (zM (by kernel_rfl) (yZ hK) yx (zn _ (by decide)) zg zN (SEs.cons (yV (zms (fr:=[]) (by kernel_rfl) (by kernel_rfl) zn4 (zX zb) (.inl rfl) (t:=(.one "v")) rfl (zw (.inl (by kernel_rfl)) zY) xk zb ye (λ_ _=>rfl)) rF) SEs.nil rF)) (zM (by kernel_rfl) (yZ hK) yx (zn _ (by decide)) zg zN (SEs.cons zb SEs.nil rF)))))
theorem vc(hK:c.K=KK c.w.params):∃q a,xf c 372 q a (zp (KK c.w.params) 372) (zf (KK c.w.params) 372) ["self","store"] []:=
 y3 hK (by kernel_rfl) (λ_ _=>by show _=_;kernel_rfl) (zw (.inl (by kernel_rfl)) (zw (.inl (by kernel_rfl)) zY)) (by kernel_rfl)
theorem wT(hK:c.K=KK c.w.params){Tt zd yB Tm Te Th zq:MF}(Sf:z6 c (d+1) (.ref 365) Tt)(Ts:z6 c (d+1) (.ref 220) zd)(Sh:z6 c (d+1) (.ref 333) yB)(Si:z6 c (d+1) (.ref 316) Tm)(T7:z6 c (d+1) (.ref 379) Te)(Sj:z6 c (d+1) (.ref 330) Th)(Sk:z6 c (d+1) (.ref 206) zq):SB c (zf (KK c.w.params) 372) (d+1) (zp (KK c.w.params) 372) (xl Tt zd yB Tm Te Th zq):=
 (ze (yF (wx (zr zb (yg hK) rF) (λ_ _=>rfl)) (zl (zj ye)) yk)
 (ze (yF (uA (wx (zS zb (vV hK) Sf (SEs.cons (zr zb (zE hK) rF) SEs.nil rF) rF) (λ_ _=>rfl))) (zl (zj (zS zb (wl hK) Ts (SEs.cons (z9 SEs.nil) SEs.nil rF) rF))) yk)
 (ze (zH (yc (by kernel_rfl) (Kj hK) (zjp hK) Sh (SEs.cons zb (SEs.cons (zr zb (zE hK) rF) SEs.nil rF) rF)) yq rF (by kernel_rfl))
 (ze (wj (zX (zM (by kernel_rfl) (xB hK) yM (zn _ (by decide)) z5 yn (SEs.cons (zM (by kernel_rfl) (yZ hK) yx (zn _ (by decide)) zg zN (SEs.cons (zr zb (zE hK) rF) SEs.nil rF)) SEs.nil rF))) yq (ze (zH (zS zb (jB hK) Si (SEs.cons zb SEs.nil rF) rF) yq rF (by kernel_rfl))
 (zl (yF (zF (by kernel_rfl) zb uz) (zl (zj (zS zb (wl hK) Ts (SEs.cons (zS zb (xN hK) T7 (SEs.cons zb (SEs.cons (zt zb zs) (SEs.cons (zt zb zs) SEs.nil rF) rF) rF) rF) SEs.nil rF) rF))) yk))) (λ_ _=>rfl))
 (ze (zH tE yq rF (by kernel_rfl))
 (ze (wj (zX (zM (by kernel_rfl) (xB hK) yM (zn _ (by decide)) z5 yn (SEs.cons (zM (by kernel_rfl) (yZ hK) yx (zn _ (by decide)) zg zN (SEs.cons (zr zb (zE hK) rF) SEs.nil rF)) SEs.nil rF))) yq (zl (wj (zX (zt (zr zb (yX hK) rF) zb)) yq (ze (yF (zF (by kernel_rfl) zb zb) (zl (zH (zS zb (uL hK) Sj (SEs.cons zb SEs.nil rF) rF) (um zb zb) rF (by kernel_rfl))) yk)
 (zl (yF (ZS (STs.cons (zF (by kernel_rfl) (zt zb zb) uz) (STs.cons (zF (by kernel_rfl) zb (zt (zt zb zb) zs)) STs.nil))) (ze (zH (zS zb (xN hK) T7 (SEs.cons zb (SEs.cons (zt (zt zb zb) zs) (SEs.cons (zt (zt zb zb) zs) SEs.nil rF) rF) rF) rF) yq rF (by kernel_rfl))
 (zl (yF (uA (wx (zS zb (Z0 hK) Sk (SEs.cons (z9 (SEs.cons (zt (zr zb (zE hK) rF) zb) (SEs.cons yv (SEs.cons zb SEs.nil rF) rF) rF)) (SEs.cons zb SEs.nil rF) rF) rF) (λ_ _=>rfl))) (zl (zj ye)) yk))) yk))) (λ_ _=>rfl))) (λ_ _=>rfl))
 (zl (zj ye))))))))
theorem Ug(hK:c.K=KK c.w.params):∃q a,xf c 391 q a (zp (KK c.w.params) 391) (zf (KK c.w.params) 391) ["tape","many"] []:=
 y3 hK (by kernel_rfl) (λ_ _=>by show _=_;kernel_rfl) (zw (.inl (by kernel_rfl)) (zw (.inl (by kernel_rfl)) zY)) (by kernel_rfl)
theorem Vw(hK:c.K=KK c.w.params):SB c (zf (KK c.w.params) 391) (d+1) (zp (KK c.w.params) 391) (Yl):=
 (ze (zH (yf xr (zt zb yv) zs) (um zb yv) rF (by kernel_rfl))
 (ze (yF (zF (by kernel_rfl) (zt zb yv) (zM (by kernel_rfl) (yZ hK) yx (zn _ (by decide)) zg zN (SEs.cons (zt zb yv) SEs.nil rF))) (zl (zj (yf Ye (zt (zt zb yv) (yf q9 (zt zb yv) zs)) zb))) yk)
 (ze (zH (yf Ye (yf xr (yf zbx (zt zb yv) zs) zs) zs) (um zb yv) rF (by kernel_rfl))
 (zl (zj (yf Ye (yf zi3 (zt zb yv) zs) zb))))))
theorem W9(hK:c.K=KK c.w.params):∃q a,xf c 398 q a (zp (KK c.w.params) 398) (zf (KK c.w.params) 398) ["row"] []:=
 y3 hK (by kernel_rfl) (λ_=>by show _=_;kernel_rfl) (zw (.inl (by kernel_rfl)) zY) (by kernel_rfl)
theorem Wb(hK:c.K=KK c.w.params):SB c (zf (KK c.w.params) 398) (d+1) (zp (KK c.w.params) 398) (Zd):=
 (ze (zH (y2 SEs.nil) yq rF (by kernel_rfl))
 (ze (wj (zX zb) yq (zl (yF (ZS (STs.cons (zF (by kernel_rfl) zb (y2 SEs.nil)) (STs.cons (zF (by kernel_rfl) (zt (zt zb (tD zs)) zs) (yf q9 zb zs)) STs.nil))) (zl (zH (z9 (SEs.cons (zt (zt zb (tD zs)) zs) (SEs.cons zb SEs.nil rF) rF)) (um zb (tD zs)) rF (by kernel_rfl))) (zl (yN (yU (id:="list.append") zb F.slot_list_append (by kernel_rfl) yK (SEs.cons (z9 (SEs.cons zb (SEs.cons zb SEs.nil rF) rF)) SEs.nil rF) rF) (by kernel_rfl))))) (λ_ _=>rfl))
 (zl (zj (zM (by kernel_rfl) (ua hK) wQ (zn _ (by decide)) z5 yY (SEs.cons zb SEs.nil rF))))))
theorem zn3:(zf (KK P) 403).kind=.function:=by kernel_rfl
theorem Ue(hK:c.K=KK c.w.params):∃q a,xf c 403 q a (zp (KK c.w.params) 403) (zf (KK c.w.params) 403) ["store_now"] []:=
 y3 hK (by kernel_rfl) (λ_=>by show _=_;kernel_rfl) (zw (.inr (by kernel_rfl)) zY) (by kernel_rfl)
theorem Vu(hK:c.K=KK c.w.params){yT zL:MF}(Sl:z6 c (d+1) (.ref 129) yT)(T1:z6 c (d+1) (.ref 136) zL):SB c (zf (KK c.w.params) 403) (d+1) (zp (KK c.w.params) 403) (Yj yT zL):=
 (zl (zj (yV (vJ (fr:=["store_now"]) (by kernel_rfl) (by kernel_rfl) zn3 (zX (zM (by kernel_rfl) (xB hK) yM (zn _ (by decide)) z5 yn (SEs.cons (zS yu (YQ hK) Sl SEs.nil rF) SEs.nil rF))) (.inl rfl) (t:=(.one "x")) rfl (zw (.inl (by kernel_rfl)) zY) xk (yV (zio (fr:=[]) (by kernel_rfl) (by kernel_rfl) (by kernel_rfl) (zX (zS yu (jg hK) T1 (SEs.cons zb SEs.nil rF) rF)) (.inl rfl) (g1:=(.many ["first","last"])) rfl (zw (.inl (by kernel_rfl)) (zw (.inl (by kernel_rfl)) zY)) (zX (zM (by kernel_rfl) (xB hK) yM (zn _ (by decide)) z5 yn (SEs.cons zb (SEs.cons (yf xr zb zs) SEs.nil rF) rF))) (.inl rfl) (g2:=(.one "v")) rfl (zw (.inl (by kernel_rfl)) zY) xk xk zb (λ_ _=>rfl) (λ_ _=>rfl)) rF) (λ_ _=>rfl)) rF)))
theorem Uh(hK:c.K=KK c.w.params):∃q a,xf c 410 q a (zp (KK c.w.params) 410) (zf (KK c.w.params) 410) ["literal","v"] []:=
 y3 hK (by kernel_rfl) (λ_ _=>by show _=_;kernel_rfl) (zw (.inl (by kernel_rfl)) (zw (.inl (by kernel_rfl)) zY)) (by kernel_rfl)
theorem Vx(hK:c.K=KK c.w.params):SB c (zf (KK c.w.params) 410) (d+1) (zp (KK c.w.params) 410) (Ym):=
 (zl (zj (zt (Vt (SPs.cons yv (wC (by kernel_rfl) zb (zt zb zs)) (SPs.cons yv (wC (by kernel_rfl) zb (zt zb zs)) (SPs.cons yv (wC (by kernel_rfl) zb (zt zb zs)) (SPs.cons yv (wC (by kernel_rfl) zb (zt zb zs)) SPs.nil)))) (by simp) (Nat.le_of_ble_eq_true rfl)) (zt zb zs))))
theorem zn2:(zf (KK P) 415).kind=.function:=by kernel_rfl
theorem Ui(hK:c.K=KK c.w.params):∃q a,xf c 415 q a (zp (KK c.w.params) 415) (zf (KK c.w.params) 415) ["rows","x","literals"] []:=
 y3 hK (by kernel_rfl) (λ_ _ _=>by show _=_;kernel_rfl) (zw (.inl (by kernel_rfl)) (zw (.inr (by kernel_rfl)) (zw (.inr (by kernel_rfl)) zY))) (by kernel_rfl)
theorem Vy(hK:c.K=KK c.w.params){Tr:MF}(Sm:z6 c (d+1) (.ref 410) Tr):SB c (zf (KK c.w.params) 415) (d+1) (zp (KK c.w.params) 415) (Yn Tr):=
 (zl (zj (yV (vJ (fr:=["literals","x"]) (by kernel_rfl) (by kernel_rfl) zn2 (zX (zt zb yu)) (.inl rfl) (t:=(.one "v")) rfl (zw (.inr (by kernel_rfl)) zY) (xG (zF (by kernel_rfl) (yV (vJ (fr:=["v","x"]) (by kernel_rfl) (by kernel_rfl) (by kernel_rfl) (zX yu) (.inl rfl) (t:=(.one "one")) rfl (zw (.inl (by kernel_rfl)) zY) (xG (ZS (STs.cons (zF (by kernel_rfl) (zt zb zs) yu) (STs.cons (uA (wx (yc (by kernel_rfl) (Ki hK) (zjn hK) Sm (SEs.cons zb (SEs.cons yu SEs.nil rF) rF)) (λ_ _=>rfl))) STs.nil)))) zs (λ_ _=>rfl)) rF) (y2 SEs.nil))) yu (λ_ _=>rfl)) rF)))
theorem zn1:(zf (KK P) 420).kind=.function:=by kernel_rfl
theorem Uj(hK:c.K=KK c.w.params):∃q a,xf c 420 q a (zp (KK c.w.params) 420) (zf (KK c.w.params) 420) ["rows","literals"] []:=
 y3 hK (by kernel_rfl) (λ_ _=>by show _=_;kernel_rfl) (zw (.inr (by kernel_rfl)) (zw (.inr (by kernel_rfl)) zY)) (by kernel_rfl)
theorem Vz(hK:c.K=KK c.w.params){Tk:MF}(T3:z6 c (d+1) (.ref 415) Tk):SB c (zf (KK c.w.params) 420) (d+1) (zp (KK c.w.params) 420) (Yo Tk):=
 (zl (zj (wC (by kernel_rfl) (yV (vJ (fr:=["literals","rows"]) (by kernel_rfl) (by kernel_rfl) zn1 (zX (zM (by kernel_rfl) (xB hK) yM (zn _ (by decide)) z5 yn (SEs.cons (zM (by kernel_rfl) (yZ hK) yx (zn _ (by decide)) zg zN (SEs.cons yu SEs.nil rF)) SEs.nil rF))) (.inl rfl) (t:=(.one "x")) rfl (zw (.inl (by kernel_rfl)) zY) (xG (zF (by kernel_rfl) (yc (by kernel_rfl) (Yv hK) (zc6 hK) T3 (SEs.cons yu (SEs.cons zb (SEs.cons yu SEs.nil rF) rF) rF)) (zt yu zb))) zb (λ_ _=>rfl)) rF) (y2 SEs.nil))))
theorem zmn:(zf (KK P) 425).kind=.function:=by kernel_rfl
theorem tX(hK:c.K=KK c.w.params):∃q a,xf c 425 q a (zp (KK c.w.params) 425) (zf (KK c.w.params) 425) ["rows"] []:=
 y3 hK (by kernel_rfl) (λ_=>by show _=_;kernel_rfl) (zw (.inl (by kernel_rfl)) zY) (by kernel_rfl)
theorem tG(hK:c.K=KK c.w.params){Td:MF}(Tw:z6 c (d+1) (.ref 425) Td):SB c (zf (KK c.w.params) 425) (d+1) (zp (KK c.w.params) 425) (qr Td):=
 (ze (yF (zF (by kernel_rfl) zb (y2 SEs.nil)) (zl (zj ye)) yk)
 (ze (zH (zt (zM (by kernel_rfl) (zir hK) zdy (zn _ (by decide)) zg zaw (SEs.cons (yV (vJ (fr:=[]) (by kernel_rfl) (by kernel_rfl) zmn (KJ (by kernel_rfl) (Zr hK) jt (zn _ (by decide)) (by kernel_rfl) zb rF) (.inr ⟨_,_,_,rfl⟩) (t:=(.many ["k","row"])) rfl (zw (.inl (by kernel_rfl)) (zw (.inl (by kernel_rfl)) zY)) xk (z9 (SEs.cons (zM (by kernel_rfl) (yZ hK) yx (zn _ (by decide)) zg zN (SEs.cons zb SEs.nil rF)) (SEs.cons zb SEs.nil rF) rF)) (λ_ _=>rfl)) rF) SEs.nil rF)) zs) (s6 (.inr (by kernel_rfl))) rF (by kernel_rfl))
 (ze (wj (zX (zt zb yu)) (s6 (.inr (by kernel_rfl))) (zl (yF (wx (yc (by kernel_rfl) (uD hK) (Kd hK) Tw (SEs.cons (yV (vJ (fr:=["spot","v"]) (by kernel_rfl) (by kernel_rfl) zmn (KJ (by kernel_rfl) (Zr hK) jt (zn _ (by decide)) (by kernel_rfl) zb rF) (.inr ⟨_,_,_,rfl⟩) (t:=(.many ["k","row"])) rfl (zw (.inl (by kernel_rfl)) (zw (.inl (by kernel_rfl)) zY)) (xG (zF (by kernel_rfl) zb yu)) (yV (vJ (fr:=["v"]) (by kernel_rfl) (by kernel_rfl) (by kernel_rfl) (zX zb) (.inl rfl) (t:=(.one "w")) rfl (zw (.inl (by kernel_rfl)) zY) (xG (zF (by kernel_rfl) zb yu)) zb (λ_ _=>rfl)) rF) (λ_ _=>rfl)) rF) SEs.nil rF)) (λ_ _=>rfl)) (zl (zj ye)) yk)) (λ_ _=>rfl))
 (zl (zj ye)))))
theorem zmm:(zf (KK P) 430).kind=.function:=by kernel_rfl
theorem Uf(hK:c.K=KK c.w.params):∃q a,xf c 430 q a (zp (KK c.w.params) 430) (zf (KK c.w.params) 430) ["early","literals"] []:=
 y3 hK (by kernel_rfl) (λ_ _=>by show _=_;kernel_rfl) (zw (.inr (by kernel_rfl)) (zw (.inr (by kernel_rfl)) zY)) (by kernel_rfl)
theorem Vv(hK:c.K=KK c.w.params){Tk:MF}(T3:z6 c (d+1) (.ref 415) Tk):SB c (zf (KK c.w.params) 430) (d+1) (zp (KK c.w.params) 430) (Yk Tk):=
 (ze (zH (jb ⟨(by kernel_rfl),ju hK,sJ,zn _ (by decide),(by kernel_rfl)⟩ ⟨(by kernel_rfl),ziq hK,zdx,zn _ (by decide),(by kernel_rfl)⟩ rF rF (yV (vJ (fr:=[]) (by kernel_rfl) (by kernel_rfl) zmm (zX yu) (.inl rfl) (t:=(.one "one")) rfl (zw (.inl (by kernel_rfl)) zY) xk (zt zb zs) (λ_ _=>rfl)) rF)) yq rF (by kernel_rfl))
 (zl (zj (z9 (SEs.cons zb (SEs.cons (jb ⟨(by kernel_rfl),ju hK,sJ,zn _ (by decide),(by kernel_rfl)⟩ ⟨(by kernel_rfl),ziq hK,zdx,zn _ (by decide),(by kernel_rfl)⟩ rF rF (yV (zio (fr:=["early","literals"]) (by kernel_rfl) (by kernel_rfl) zmm (zX zb) (.inl rfl) (g1:=(.one "x")) rfl (zw (.inl (by kernel_rfl)) zY) (zX (yc (by kernel_rfl) (Yv hK) (zc6 hK) T3 (SEs.cons yu (SEs.cons zb (SEs.cons yu SEs.nil rF) rF) rF))) (.inl rfl) (g2:=(.one "v")) rfl (zw (.inl (by kernel_rfl)) zY) xk xk zb (λ_ _=>rfl) (λ_ _=>rfl)) rF)) SEs.nil rF) rF)))))
theorem zn0:(zf (KK P) 435).kind=.function:=by kernel_rfl
theorem tW(hK:c.K=KK c.w.params):∃q a,xf c 435 q a (zp (KK c.w.params) 435) (zf (KK c.w.params) 435) ["store_now","mark","rows","early"] []:=
 y3 hK (by kernel_rfl) (λ_ _ _ _=>by show _=_;kernel_rfl) (zw (.inl (by kernel_rfl)) (zw (.inl (by kernel_rfl)) (zw (.inl (by kernel_rfl)) (zw (.inl (by kernel_rfl)) zY)))) (by kernel_rfl)
theorem tF(hK:c.K=KK c.w.params){Tf Tl Tg Ta:MF}(T4:z6 c (d+1) (.ref 430) Tf)(T5:z6 c (d+1) (.ref 398) Tl)(T6:z6 c (d+1) (.ref 420) Tg)(Tp:z6 c (d+1) (.ref 403) Ta):SB c (zf (KK c.w.params) 435) (d+1) (zp (KK c.w.params) 435) (vG Tf Tl Tg Ta):=
 (ze (wj (zX (uJ (zr zb (yb hK) rF) (wu.some zb) wu.none)) (tH (xs:=["x","old","literal","reasons","speaker"]) (by kernel_rfl) (zw (.inl (by kernel_rfl)) (zw (.inl (by kernel_rfl)) (zw (.inr (by kernel_rfl)) (zw (.inl (by kernel_rfl)) (zw (.inl (by kernel_rfl)) zY)))))) (ze (zH (yc (by kernel_rfl) (Yu hK) (zc4 hK) T4 (SEs.cons zb (SEs.cons zb SEs.nil rF) rF)) (tH (xs:=["named","left"]) (by kernel_rfl) (zw (.inl (by kernel_rfl)) (zw (.inl (by kernel_rfl)) zY))) rF (by kernel_rfl))
 (ze (yF (Xk (STs.cons (zF (by kernel_rfl) (zi0 yu) (z9 (SEs.cons zb (SEs.cons yv SEs.nil rF) rF))) (STs.cons (zF (by kernel_rfl) zb (yc (by kernel_rfl) (Zm hK) (zc7 hK) T5 (SEs.cons (zt zb zb) SEs.nil rF))) (STs.cons (uA (wx (yc (by kernel_rfl) (Yw hK) (zc5 hK) T6 (SEs.cons zb (SEs.cons zb SEs.nil rF) rF)) (λ_ _=>rfl))) STs.nil)))) (zl (zj ye)) yk)
 (ze (yF (Xk (STs.cons (zF (by kernel_rfl) (zM (by kernel_rfl) (yZ hK) yx (zn _ (by decide)) zg zN (SEs.cons zb SEs.nil rF)) (zM (by kernel_rfl) (yZ hK) yx (zn _ (by decide)) zg zN (SEs.cons zb SEs.nil rF))) (STs.cons (zF (by kernel_rfl) (zt yu zs) zb) (STs.cons (zF (by kernel_rfl) zb zb) STs.nil)))) (zl (zj ye)) yk)
 (zl (zH (yf xr (yf xr (uJ zb wu.none (wu.some zb)) (y2 (SEs.cons (yV (vJ (fr:=["literal"]) (by kernel_rfl) (by kernel_rfl) zn0 (zX (zt zb zb)) (.inl rfl) (t:=(.one "v")) rfl (zw (.inl (by kernel_rfl)) zY) (xG (zF (by kernel_rfl) zb (zt yu zs))) zb (λ_ _=>rfl)) rF) SEs.nil rF))) (uJ zb (wu.some (yf xr zb zs)) wu.none)) yq rF (by kernel_rfl)))))) (λ_ _=>rfl))
 (zl (zj (wC (by kernel_rfl) zb (yc (by kernel_rfl) (vk hK) (jD hK) Tp (SEs.cons zb SEs.nil rF))))))
theorem znz:(zf (KK P) 440).kind=.function:=by kernel_rfl
theorem qJ(hK:c.K=KK c.w.params):∃q a,xf c 440 q a (zp (KK c.w.params) 440) (zf (KK c.w.params) 440) ["store_now","rule","early"] []:=
 y3 hK (by kernel_rfl) (λ_ _ _=>by show _=_;kernel_rfl) (zw (.inl (by kernel_rfl)) (zw (.inl (by kernel_rfl)) (zw (.inl (by kernel_rfl)) zY))) (by kernel_rfl)
theorem qz(hK:c.K=KK c.w.params){Ta Td Tb Tn Tf Tg:MF}(Tp:z6 c (d+1) (.ref 403) Ta)(Tw:z6 c (d+1) (.ref 425) Td)(Tx:z6 c (d+1) (.ref 372) Tb)(Sn:z6 c (d+1) (.ref 435) Tn)(T4:z6 c (d+1) (.ref 430) Tf)(T6:z6 c (d+1) (.ref 420) Tg):SB c (zf (KK c.w.params) 440) (d+1) (zp (KK c.w.params) 440) (u0 Ta Td Tb Tn Tf Tg):=
 (ze (zH (z9 (SEs.cons (yc (by kernel_rfl) (vk hK) (jD hK) Tp (SEs.cons zb SEs.nil rF)) (SEs.cons (zM (by kernel_rfl) (yZ hK) yx (zn _ (by decide)) zg zN (SEs.cons (zr zb (yb hK) rF) SEs.nil rF)) SEs.nil rF) rF)) (tH (xs:=["rows","mark"]) (by kernel_rfl) (zw (.inr (by kernel_rfl)) (zw (.inl (by kernel_rfl)) zY))) rF (by kernel_rfl))
 (ze (zH (yc (by kernel_rfl) (uD hK) (Kd hK) Tw (SEs.cons yu SEs.nil rF)) yq rF (by kernel_rfl))
 (ze (yF (Xk (STs.cons (zF (by kernel_rfl) (zS zb (y0 hK) Tx (SEs.cons zb SEs.nil rF) rF) zb) (STs.cons (zF (by kernel_rfl) (zr zb (yg hK) rF) zb) STs.nil))) (zl (zj ye)) yk)
 (ze (uZ (xs:=["late","clash","many"]) (z9 (SEs.cons (yc (by kernel_rfl) (vk hK) (jD hK) Tp (SEs.cons zb SEs.nil rF)) (SEs.cons (zr zb (yE hK) rF) (SEs.cons (zM (by kernel_rfl) (yZ hK) yx (zn _ (by decide)) zg zN (SEs.cons (zr zb (yb hK) rF) SEs.nil rF)) SEs.nil rF) rF) rF)) (by kernel_rfl) (by kernel_rfl) (zw (.inl (by kernel_rfl)) (zw (.inl (by kernel_rfl)) (zw (.inl (by kernel_rfl)) zY))))
 (ze (yF (uA (wx (yc (by kernel_rfl) (qe hK) (zjm hK) Sn (SEs.cons zb (SEs.cons zb (SEs.cons yu (SEs.cons zb SEs.nil rF) rF) rF) rF)) (λ_ _=>rfl))) (zl (zj ye)) yk)
 (ze (yF (uA (wx zb (λ_ _=>rfl))) (ze (zH (yc (by kernel_rfl) (Yu hK) (zc4 hK) T4 (SEs.cons zb (SEs.cons zb SEs.nil rF) rF)) (tH (xs:=["named","left"]) (by kernel_rfl) (zw (.inl (by kernel_rfl)) (zw (.inl (by kernel_rfl)) zY))) rF (by kernel_rfl))
 (zl (yF (Xk (STs.cons (uA (wx (yc (by kernel_rfl) (Yw hK) (zc5 hK) T6 (SEs.cons zb (SEs.cons zb SEs.nil rF) rF)) (λ_ _=>rfl))) (STs.cons (zF (by kernel_rfl) (zM (by kernel_rfl) (yZ hK) yx (zn _ (by decide)) zg zN (SEs.cons zb SEs.nil rF)) (zM (by kernel_rfl) (yZ hK) yx (zn _ (by decide)) zg zN (SEs.cons zb SEs.nil rF))) STs.nil))) (zl (zj ye)) yk))) (zl (wj (zX (zM (by kernel_rfl) (xB hK) yM (zn _ (by decide)) z5 yn (SEs.cons (zM (by kernel_rfl) (yZ hK) yx (zn _ (by decide)) zg zN (SEs.cons yu SEs.nil rF)) SEs.nil rF))) (s6 (.inr (by kernel_rfl))) (zl (yF (zF (by kernel_rfl) (zt zb yu) (yV (vJ (fr:=["rows","x"]) (by kernel_rfl) (by kernel_rfl) znz (zX (zt yu yu)) (.inl rfl) (t:=(.one "v")) rfl (zw (.inr (by kernel_rfl)) zY) (xG (wx (yc (by kernel_rfl) (uD hK) (Kd hK) Tw (SEs.cons (yV (vJ (fr:=["rows","v","x"]) (by kernel_rfl) (by kernel_rfl) (by kernel_rfl) (zX (zM (by kernel_rfl) (xB hK) yM (zn _ (by decide)) z5 yn (SEs.cons (zM (by kernel_rfl) (yZ hK) yx (zn _ (by decide)) zg zN (SEs.cons yu SEs.nil rF)) SEs.nil rF))) (.inl rfl) (t:=(.one "y")) rfl (zw (.inl (by kernel_rfl)) zY) xk (KL (zF (by kernel_rfl) zb yu) (y2 (SEs.cons yu SEs.nil rF)) (zt yu zb)) (λ_ _=>rfl)) rF) SEs.nil rF)) (λ_ _=>rfl))) yu (λ_ _=>rfl)) rF)) (zl (zj ye)) yk)) (λ_ _=>rfl))))
 (zl (zj (KM (SEs.cons (wC (by kernel_rfl) (zS zb (y0 hK) Tx (SEs.cons zb SEs.nil rF) rF) zb) (SEs.cons (wC (by kernel_rfl) (zM (by kernel_rfl) (yZ hK) yx (zn _ (by decide)) zg zN (SEs.cons (zr zb (yb hK) rF) SEs.nil rF)) zb) (SEs.cons (wC (by kernel_rfl) (zr zb (yE hK) rF) zb) SEs.nil rF) rF) rF))))))))))
theorem zny:(zf (KK P) 445).kind=.function:=by kernel_rfl
theorem Yy(hK:c.K=KK c.w.params):∃q a,xf c 445 q a (zp (KK c.w.params) 445) (zf (KK c.w.params) 445) ["tape","store_now"] []:=
 y3 hK (by kernel_rfl) (λ_ _=>by show _=_;kernel_rfl) (zw (.inl (by kernel_rfl)) (zw (.inl (by kernel_rfl)) zY)) (by kernel_rfl)
theorem ZX(hK:c.K=KK c.w.params){Tc Ta zW:MF}(To:z6 c (d+1) (.ref 391) Tc)(Tp:z6 c (d+1) (.ref 403) Ta)(So:z6 c (d+1) (.ref 213) zW):SB c (zf (KK c.w.params) 445) (d+1) (zp (KK c.w.params) 445) (qp Tc Ta zW):=
 (ze (wj (zX (zM (by kernel_rfl) (xB hK) yM (zn _ (by decide)) z5 yn (SEs.cons (yf xr zs (yc (by kernel_rfl) (xd hK) (uC hK) To (SEs.cons zb (SEs.cons zs SEs.nil rF) rF))) SEs.nil rF))) yq (ze (zH (yc (by kernel_rfl) (vk hK) (jD hK) Tp (SEs.cons zb SEs.nil rF)) (s6 (.inr (by kernel_rfl))) rF (by kernel_rfl))
 (ze (t9 (vJ (fr:=["rows"]) (by kernel_rfl) (by kernel_rfl) zny (zX (zM (by kernel_rfl) (xB hK) yM (zn _ (by decide)) z5 yn (SEs.cons (zM (by kernel_rfl) (yZ hK) yx (zn _ (by decide)) zg zN (SEs.cons yu SEs.nil rF)) SEs.nil rF))) (.inl rfl) (t:=(.one "x")) rfl (zw (.inl (by kernel_rfl)) zY) (xG (zF (by kernel_rfl) (zM (by kernel_rfl) (yZ hK) yx (zn _ (by decide)) zg zN (SEs.cons (zt yu zb) SEs.nil rF)) zs)) zb (λ_ _=>rfl)) (by kernel_rfl) (.inl (by kernel_rfl)) (λ_ _=>rfl))
 (ze (yF (zF (by kernel_rfl) zb (y2 SEs.nil)) (zl (zj ye)) yk)
 (ze (zH (zt zb (yc (by kernel_rfl) (xd hK) (uC hK) To (SEs.cons zb (SEs.cons (zM (by kernel_rfl) (yZ hK) yx (zn _ (by decide)) zg zN (SEs.cons zb SEs.nil rF)) SEs.nil rF) rF))) yq rF (by kernel_rfl))
 (ze (zH (zt (z9 (SEs.cons yv (SEs.cons yv (SEs.cons yv SEs.nil rF) rF) rF)) (yc (by kernel_rfl) (xd hK) (uC hK) To (SEs.cons zb (SEs.cons zs SEs.nil rF) rF))) yq rF (by kernel_rfl))
 (zl (yF (uA (wx (zS zb (Z1 hK) So (SEs.cons (z9 (SEs.cons zb (SEs.cons zb (SEs.cons (zt (zt yu zb) (yc (by kernel_rfl) (xd hK) (uC hK) To (SEs.cons zb (SEs.cons (zM (by kernel_rfl) (yZ hK) yx (zn _ (by decide)) zg zN (SEs.cons (zt yu zb) SEs.nil rF)) SEs.nil rF) rF))) SEs.nil rF) rF) rF)) SEs.nil rF) rF) (λ_ _=>rfl))) (zl (zj ye)) yk))))))) (λ_ _=>rfl))
 (zl (zj ye)))
theorem W8(hK:c.K=KK c.w.params):∃q a,xf c 452 q a (zp (KK c.w.params) 452) (zf (KK c.w.params) 452) ["early"] []:=
 y3 hK (by kernel_rfl) (λ_=>by show _=_;kernel_rfl) (zw (.inl (by kernel_rfl)) zY) (by kernel_rfl)
theorem Wa(hK:c.K=KK c.w.params){uw Tl zZ:MF}(Sp:z6 c (d+1) (.ref 251) uw)(T5:z6 c (d+1) (.ref 398) Tl)(Sq:z6 c (d+1) (.ref 122) zZ):SB c (zf (KK c.w.params) 452) (d+1) (zp (KK c.w.params) 452) (Zc uw Tl zZ):=
 (ze (zH (yc (by kernel_rfl) (zgk hK) (zjq hK) Sp SEs.nil) yq rF (by kernel_rfl))
 (ze (wj (zX zb) yq (zl (yN (zS zb (j9 hK) Sq (SEs.cons (yc (by kernel_rfl) (Zm hK) (zc7 hK) T5 (SEs.cons zb SEs.nil rF)) SEs.nil rF) rF) (by kernel_rfl))) (λ_ _=>rfl))
 (zl (zj zb))))
theorem znx:(zf (KK P) 457).kind=.function:=by kernel_rfl
theorem zjt(hK:c.K=KK c.w.params):∃q a,xf c 457 q a (zp (KK c.w.params) 457) (zf (KK c.w.params) 457) ["script"] []:=
 y3 hK (by kernel_rfl) (λ_=>by show _=_;kernel_rfl) (zw (.inl (by kernel_rfl)) zY) (by kernel_rfl)
theorem zi1(hK:c.K=KK c.w.params){Tc zh zx Ta zv Ti Tj zz zd Tb:MF}{m_script:ME}(To:z6 c (d+1) (.ref 391) Tc)(Sr:z6 c (d+1) (.ref 382) zh)(T8:z6 c (d+1) (.ref 452) zx)(Tp:z6 c (d+1) (.ref 403) Ta)(Ss:z6 c (d+1) (.ref 227) zv)(Su:z6 c (d+1) (.ref 445) Ti)(Sv:z6 c (d+1) (.ref 440) Tj)(Sw:z6 c (d+1) (.ref 234) zz)(Ts:z6 c (d+1) (.ref 220) zd)(Tx:z6 c (d+1) (.ref 372) Tb)(hm_script:∀{p1 p2 p3 p4:Pos}{k:Nat},SE c (zf (KK c.w.params) 457) (d+1) (.Subscript (.Name "script" p1) (.Slice none (some (.Constant (.int 50) k p2)) none p3) p4) m_script):SB c (zf (KK c.w.params) 457) (d+1) (zp (KK c.w.params) 457) (zik m_script Tc zh zx Ta zv Ti Tj zz zd Tb):=
 (ze (t9 (vJ (fr:=[]) (by kernel_rfl) (by kernel_rfl) znx (zX hm_script) (.inl rfl) (t:=(.one "cell")) rfl (zw (.inl (by kernel_rfl)) zY) xk (yf Ye (zM (by kernel_rfl) (zm1 hK) zj1 (zn _ (by decide)) zg zdw (SEs.cons zb SEs.nil rF)) zs) (λ_ _=>rfl)) (by kernel_rfl) (.inl (by kernel_rfl)) (λ_ _=>rfl))
 (ze (zH (Vt (SPs.cons yv zb (SPs.cons yv zs (SPs.cons yv (yf xr zs (yf Ye (zM (by kernel_rfl) (zmz hK) zjz (zn _ (by decide)) zg zds (SEs.cons zb SEs.nil rF)) zs)) SPs.nil))) (by simp) (Nat.le_of_ble_eq_true rfl)) yq rF (by kernel_rfl))
 (ze (uZ (xs:=["many","begin","early"]) (z9 (SEs.cons (yf xr zs (yc (by kernel_rfl) (xd hK) (uC hK) To (SEs.cons zb (SEs.cons zs SEs.nil rF) rF))) (SEs.cons (yf q9 (yc (by kernel_rfl) (xd hK) (uC hK) To (SEs.cons zb (SEs.cons zs SEs.nil rF) rF)) zs) (SEs.cons (y2 SEs.nil) SEs.nil rF) rF) rF)) (by kernel_rfl) (by kernel_rfl) (zw (.inl (by kernel_rfl)) (zw (.inl (by kernel_rfl)) (zw (.inl (by kernel_rfl)) zY))))
 (ze (wj (zX (zM (by kernel_rfl) (xB hK) yM (zn _ (by decide)) z5 yn (SEs.cons zb SEs.nil rF))) yq (ze (zH (yf xr zb (yc (by kernel_rfl) (xd hK) (uC hK) To (SEs.cons zb (SEs.cons zs SEs.nil rF) rF))) yq rF (by kernel_rfl))
 (ze (zH (zM (by kernel_rfl) (zj2 hK) zgu (zn _ (by decide)) z5 K1 (SEs.cons (zM (by kernel_rfl) (xB hK) yM (zn _ (by decide)) z5 yn (SEs.cons zb (SEs.cons (yf xr (yf xr zb zs) (yc (by kernel_rfl) (xd hK) (uC hK) To (SEs.cons zb (SEs.cons zs SEs.nil rF) rF))) SEs.nil rF) rF)) SEs.nil rF)) yq rF (by kernel_rfl))
 (zl (yN (yU (id:="list.append") zb F.slot_list_append (by kernel_rfl) yK (SEs.cons (KL (ZS (STs.cons (zF (by kernel_rfl) (yc (by kernel_rfl) (xd hK) (uC hK) To (SEs.cons zb (SEs.cons zs SEs.nil rF) rF)) zs) (STs.cons (zF (by kernel_rfl) (zM (by kernel_rfl) (yZ hK) yx (zn _ (by decide)) zg zN (SEs.cons zb SEs.nil rF)) zs) STs.nil))) (yf xr (uJ zb wu.none (wu.some zs)) (uJ zb (wu.some zs) wu.none)) zb) SEs.nil rF) rF) (by kernel_rfl))))) (λ_ _=>rfl))
 (ze (zH (yc (by kernel_rfl) (xd hK) (uC hK) To (SEs.cons zb (SEs.cons zb SEs.nil rF) rF)) yq rF (by kernel_rfl))
 (ze (uZ (xs:=["rule","store_now"]) (z9 (SEs.cons (yc (by kernel_rfl) (tV hK) (zjo hK) Sr (SEs.cons (yf xr (zM (by kernel_rfl) (ua hK) wQ (zn _ (by decide)) z5 yY (SEs.cons (zM (by kernel_rfl) (xB hK) yM (zn _ (by decide)) z5 yn (SEs.cons zb (SEs.cons zb SEs.nil rF) rF)) SEs.nil rF)) (zM (by kernel_rfl) (ua hK) wQ (zn _ (by decide)) z5 yY (SEs.cons (zM (by kernel_rfl) (xB hK) yM (zn _ (by decide)) z5 yn (SEs.cons zb SEs.nil rF)) SEs.nil rF))) SEs.nil rF)) (SEs.cons (yc (by kernel_rfl) (Zl hK) (zc3 hK) T8 (SEs.cons zb SEs.nil rF)) SEs.nil rF) rF)) (by kernel_rfl) (by kernel_rfl) (zw (.inl (by kernel_rfl)) (zw (.inl (by kernel_rfl)) zY)))
 (ze (wj (zX (zM (by kernel_rfl) (xB hK) yM (zn _ (by decide)) z5 yn (SEs.cons zs SEs.nil rF))) yq (ze (zH (yc (by kernel_rfl) (vk hK) (jD hK) Tp (SEs.cons zb SEs.nil rF)) yq rF (by kernel_rfl))
 (ze (yN (zS zb (YR hK) Ss SEs.nil rF) (by kernel_rfl))
 (ze (yF (Xk (STs.cons (uA (wx (yc (by kernel_rfl) (YU hK) (zjk hK) Su (SEs.cons zb (SEs.cons zb SEs.nil rF) rF)) (λ_ _=>rfl))) (STs.cons (uA (wx (yc (by kernel_rfl) (jm hK) (zjl hK) Sv (SEs.cons zb (SEs.cons zb (SEs.cons zb SEs.nil rF) rF) rF)) (λ_ _=>rfl))) STs.nil))) (zl (zj ye)) yk)
 (zl (yF (wx (zr zb (yg hK) rF) (λ_ _=>rfl)) (ze (yN (zS zb (Wq hK) Sw (SEs.cons zs SEs.nil rF) rF) (by kernel_rfl))
 (zl (yF (Xk (STs.cons (wx (zr zb (yg hK) rF) (λ_ _=>rfl)) (STs.cons (zF (by kernel_rfl) (zr zb (yE hK) rF) (z9 SEs.nil)) (STs.cons (zF (by kernel_rfl) (yc (by kernel_rfl) (vk hK) (jD hK) Tp (SEs.cons zb SEs.nil rF)) zb) STs.nil)))) (zl (zj ye)) yk))) yk))))) (λ_ _=>rfl))
 (ze (uZ (xs:=["other","reason"]) (z9 (SEs.cons (yc (by kernel_rfl) (Zl hK) (zc3 hK) T8 (SEs.cons zb SEs.nil rF)) (SEs.cons (z9 (SEs.cons (z9 (SEs.cons zs (SEs.cons yv (SEs.cons (zt (zt zb zs) zs) SEs.nil rF) rF) rF)) SEs.nil rF)) SEs.nil rF) rF)) (by kernel_rfl) (by kernel_rfl) (zw (.inl (by kernel_rfl)) (zw (.inl (by kernel_rfl)) zY)))
 (ze (yN (zS zb (wl hK) Ts (SEs.cons zb SEs.nil rF) rF) (by kernel_rfl))
 (zl (zj (KM (SEs.cons (wC (by kernel_rfl) (zS zb (y0 hK) Tx (SEs.cons zb SEs.nil rF) rF) ye) (SEs.cons (wC (by kernel_rfl) (zr zb (yb hK) rF) (y2 SEs.nil)) (SEs.cons (wC (by kernel_rfl) (zr zb (yE hK) rF) zb) SEs.nil rF) rF) rF)))))))))))))
end Mine.Internal
end
section
namespace Mine.Internal
structure Same(S:List Nat)(mh mh':MH):Prop where
 le:mh.length<=mh'.length
 get:∀i,i<mh.length->i∉S->mh'[i]?=mh[i]?
theorem Same.refl{S:List Nat}{mh:MH}:Same S mh mh:=⟨Nat.le_refl _,λ_ _ _=>rfl⟩
theorem Same.trans{S:List Nat}{a b c:MH}(x:Same S a b)(y:Same S b c):Same S a c:=
 ⟨Nat.le_trans x.le y.le,λi hi hn=>(y.get i (Nat.lt_of_lt_of_le hi x.le) hn).trans (x.get i hi hn)⟩
theorem Same.mono{S T:List Nat}{a b:MH}(x:Same S a b)(h:∀i∈S,i∈T):Same T a b:=⟨x.le,λi hi hn=>x.get i hi λq=>hn (h i q)⟩
theorem Same.push{S:List Nat}{a:MH}{o:MO}:Same S a (a++[o]):=⟨by simp,λi hi _=>by rw[List.getElem?_append_left hi]⟩
theorem Same.set{S:List Nat}{a:MH}{r:Nat}{o:MO}(h:r∈S):Same S a (a.set r o):=⟨by simp,λi hi hn=>by rw[List.getElem?_set_ne];rintro rfl;exact hn h⟩
theorem zm{mh:MH}{r:Nat}{o:MO}(h:mh[r]?=some o):r<mh.length:=(List.getElem?_eq_some_iff.mp h).1
theorem Same.at{S:List Nat}{a b:MH}(x:Same S a b){r:Nat}{o:MO}(h:a[r]?=some o)(hn:r∉S):b[r]?=some o:=(x.get r (zm h) hn).trans h
theorem Same.old{S T:List Nat}{a b:MH}(x:Same S a b)(h:∀i∈S,i∈T\/a.length<=i):Same T a b:=⟨x.le,λi hi hn=>x.get i hi λq=>(h i q).elim hn λh2=>absurd hi (Nat.not_lt.mpr h2)⟩
theorem Same.app{S:List Nat}{a b l:MH}(x:Same S a b):Same S a (b++l):=⟨by simp;have:=x.le;exact Nat.le_add_right_of_le this,λi hi hn=>by rw[List.getElem?_append_left (Nat.lt_of_lt_of_le hi x.le)];exact x.get i hi hn⟩
theorem Same.put{S:List Nat}{a b:MH}{r:Nat}{o:MO}(x:Same S a b)(h:r∈S\/a.length<=r):Same S a (b.set r o):=⟨by simp;exact x.le,λi hi hn=>by rw[List.getElem?_set_ne (by rintro rfl;rcases h with h|h;exact hn h;lia)];exact x.get i hi hn⟩
theorem zB{mh:MH}{o:MO}:(mh++[o])[mh.length]?=some o:=List.getElem?_concat_length
theorem yW{mh:MH}{r:Nat}{o o':MO}(h:mh[r]?=some o'):(mh.set r o)[r]?=some o:=by rw[List.getElem?_set_self (zm h)]
noncomputable abbrev zi(l:List Int):List MV:=l.map .int
noncomputable abbrev xM(p:Int×Int):MV:=.tuple [.int p.1,.int p.2]
noncomputable abbrev xC(d:List (Int×Int)):MV:=.tuple (d.map xM)
noncomputable def xq(p:Int×Int):List Int:=(List.range (p.2+1-p.1).toNat).map λ(i:Nat)=>p.1+i
noncomputable def yt(d:List (Int×Int)):List Int:=d.flatMap xq
structure SmD(d:List (Int×Int)):Prop where
 len:d.length<=40
 run:∀p∈d,-20<=p.1/\p.1<=p.2/\p.2<=20
theorem vt(p:Int×Int):(xq p).length=(p.2+1-p.1).toNat:=by simp[xq]
theorem s8(p:Int×Int):wd p.1 (p.2+1)=zi (xq p):=by simp[wd,zi,xq]
theorem uu{d:List (Int×Int)}(h:∀p∈d,-20<=p.1/\p.1<=p.2/\p.2<=20):(yt d).length<=d.length * 41:=by
 induction d with
 |nil=>simp[yt]
 |cons p d ih=>
  have h1:=h p (.head _)
  have h2:=ih λp hp=>h p (.tail _ hp)
  have:yt (p::d)=xq p++yt d:=rfl
  rw[this,List.length_append,vt,List.length_cons,Nat.add_mul,Nat.add_comm]
  exact Nat.add_le_add h2 (Int.toNat_le.mpr (Int.le_trans (Int.sub_le_sub (Int.add_le_add_right h1.2.2 1) h1.1) (by decide)))
theorem y7{x:MIt}{all:List MV}{bind:MA}{body:MS}{Q:Fl->Loc->MH->Prop}(I:List MV->Loc->MH->Prop)(hok:∀rest loc mh,I rest loc mh->xc x all mh)
  (hstep:∀v rest loc mh (K:Fl->Loc->MH->Prop),(∀loc mh,I rest loc mh->K .next loc mh)->(∀r loc mh,Q (.ret r) loc mh->K (.ret r) loc mh)->I (v::rest) loc mh->bind v (λloc mh=>body loc K mh) loc mh)
  (hend:∀loc mh,I [] loc mh->Q .next loc mh):∀rest loc mh,I rest loc mh->Yx x all bind body rest loc Q mh
 |[],loc,mh,h=>⟨hok _ _ _ h,hend _ _ h⟩
 |v::rest,loc,mh,h=>⟨hok _ _ _ h,hstep v rest loc mh _ (λloc mh h=>y7 I hok hstep hend rest loc mh h) (λ_ _ _ h=>h) h⟩
theorem xm{x:MIt}{all:List MV}{t:Tgt}{test:MT}{inner:CI}{Q:Loc->MO->MH->Prop}(I:List MV->Loc->MO->MH->Prop)(hok:∀rest loc acc mh,I rest loc acc mh->xc x all mh)
  (hstep:∀v rest loc acc mh (K:Loc->MO->MH->Prop),(∀loc acc mh,I rest loc acc mh->K loc acc mh)->I (v::rest) loc acc mh->
   ∃loc',Y8 t v loc=some loc'/\test loc' (λb mh=>if b=true then inner loc' acc K mh else K loc' acc mh) mh)
  (hend:∀loc acc mh,I [] loc acc mh->Q loc acc mh):∀rest loc acc mh,I rest loc acc mh->vf x all t test inner rest loc acc Q mh
 |[],loc,acc,mh,h=>⟨hok _ _ _ _ h,hend _ _ _ h⟩
 |v::rest,loc,acc,mh,h=>⟨hok _ _ _ _ h,hstep v rest loc acc mh _ (λloc acc mh h=>xm I hok hstep hend rest loc acc mh h) h⟩
theorem vn{α:Type}[DecidableEq α]{k x:α}{v:MV}{fs:List (α×MV)}:wR ((k,v)::fs) x=if k=x then some v else wR fs x:=by
 unfold wR
 by_cases h:k=x
 ·simp[h]
 ·simp[List.find?_cons,h]
theorem ze7{α:Type}[DecidableEq α]{x:α}:wR [] x=none:=rfl
theorem zh8{mh l:MH}{o:MO}:(mh++l).set mh.length o=mh++l.set 0 o:=by rw[List.set_append_right _ _ (Nat.le_refl _)];simp
def sN (k:String) (a:List Lean.Syntax):Lean.Syntax:=.node .none (.str `Lean.Parser.Tactic k) a.toArray
def sA (s:String):Lean.Syntax:=.atom .none s
def sL (a:List Lean.Syntax):Lean.Syntax:=.node .none `null a.toArray
def sS (a:List Lean.Syntax):Lean.Syntax:=sN "tacticSeq" [sN "tacticSeq1Indented" [sL a]]
def sF (ts:List Lean.Syntax):Lean.Syntax:=sN "first" [sA "first",sL (ts.map λt=>.node .none `group #[sA "|",sS [t]])]
def sW (s:String):Lean.Syntax:=.node .none `PyProof.Rows.tacticWalk_at_ #[sA "walk_at",Lean.Syntax.mkStrLit s]
def sR (t:Lean.Syntax):Lean.Syntax:=sN "withReducible" [sA "with_reducible",sS [t]]
def sP (s:String):Lean.Syntax:=sR (sF ((s.splitOn " ").map λs=>sN "apply" [sA "apply",Lean.mkIdent s.toName]))
def sQ (a b:Lean.Syntax):Lean.Syntax:=sN "paren" [sA "(",sS [a,sA ";",b],sA ")"]
def sO (a:Lean.Syntax):Lean.Syntax:=sN "focus" [sA "focus",sS [a]]
def sC:Lean.Syntax:=sN "optConfig" [sL []]
def sK:Lean.Syntax:=.node .none `PyProof.Rows.tacticKernel_rfl! #[sA "kernel_rfl!"]
def sU:Lean.Syntax:=sR (sN "assumption" [sA "assumption"])
def sM:Lean.Syntax:=sN "lia" [sA "lia",sC]
def sD:Lean.Syntax:=sF [sQ (sP "Nat.le_of_ble_eq_true ile") sK,sQ (sQ (sP "Nat.le_trans") sU) (sQ (sP "Nat.le_of_ble_eq_true") sK),sP "Int.natCast_nonneg"]
def sI:Lean.Syntax:=sN "simp" [sA "simp",sC,sL [],sL [],sL [],sL []]
def sX:Lean.Syntax:=sQ (sN "simp" [sA "simp",sC,sL [],sL [sA "only"],sL [sA "[",sL (List.intersperse (sA ",") (("append set cons nil map".splitOn " ").map λs=>sN "simpLemma" [sL [],sL [],Lean.mkIdent (.str `List ("length_"++s))])),sA "]"],sL []]) sM
def sE:Lean.Syntax:=sR (sN "exact" [sA "exact",Lean.mkIdent `rfl])
def sH:Lean.Syntax:=.node .none `Lean.Parser.Term.hole #[sA "_"]
def sB (k:Lean.Name) (o:String) (a:Lean.Syntax):Lean.Syntax:=sN "show" [sA "show",.node .none k #[a,sA o,sH]]
def sY (f:Lean.Name) (a:Lean.Syntax):Lean.Syntax:=.node .none `Lean.Parser.Term.app #[Lean.mkIdent f,sL [a]]
def sT:String->Option Lean.Syntax
 |"w"=>some (sN "tacticRepeat_" [sA "repeat",sS [sN "paren" [sA "(",sS [sN "tactic_<;>_" [sP "sif_i sis_i sin_i snt_i snf_i isy_i isn_i adt_i adf_i adn_i adm_i orf_i orn_i tnot_i nkt_i nkf_i name_i self_i fld_i lself_i ls1_i ls2_i ls3_i ls0_i tup0_i tup2_i tup3_i tup5_i next_i pairs0_i pairsc_i dicts_i lst0_i dict0_i dict1_i newd_i new_i lst1_i lst2_i endr_i contr_i endn_i tt_i ff_i syes_i sno_i put_i t0_i t1_i t2_i idxr_i ln_i l0_i lm_i di_i ds_i tn_i ceqi_i ceqs_i inr_i inl_i ind_i cis0_i cisi_i cist_i setr_i setl_i setd_i sets_i addt_i lenr_i lenl_i lent_i append_i pop_i extl_i extr_i tupr_i tupl_i tupt_i itl_i itt_i itr_i and1_i andc_i tand0_i tandc_i tor0_i torc_i modi_i divi_i muli_i mull_i swap2_i swap3_i atup2_i setm_i addl_i tup1_i cisb_i listr_i tuprng_i two_i two3_i slo_i sloe_i shi_i shie_i atup5_i enum_i enr_i lend_i ls4_i",sA "<;>",sN "tacticTry_" [sA "try",sS [sW "sd"]]]],sA ")"]]])
 |"s"=>some (sQ (sP "seq_i") (sW "w"))
 |"n"=>some (sQ (sP "cont_i") (sF [sW "s",sW "w"]))
 |"ne"=>some (sF [sP "hit fhit ahit khit fnil knil got at0 idx_nat",sQ (sP "got_n") (sW "ln"),sQ (sP "miss fmiss amiss kmiss") (sQ (sO sK) (sW "ne")),sQ (sP "got_ne") (sQ (sO (sW "df")) (sW "ne")),sU,sQ (sP "got_set got_old at_map at_last") (sW "ne"),sQ (sP "restr_i'") (sQ (sO sI) (sW "ne")),sE,sK])
 |"df"=>some (sF [sU,sQ (sP "df_ne") sU,sQ (sP "df_ne'") sU,sQ (sP "Ne.symm") sU,sM,sX])
 |"le"=>some (sF [sU,sD,sM,sQ (sP "big_of") (sF [sM,sX]),sX])
 |"ln"=>some (sF [sQ (sP "len_set len_app") (sW "ln"),sE])
 |"sd"=>some (sF [sQ (sB `«term_=_» "=" (.node .none `Lean.Parser.Term.app #[Lean.mkIdent `List.length,sL [.node .none `Lean.Parser.Term.namedArgument #[sA "(",Lean.mkIdent `α,sA ":=",Lean.mkIdent `MO,sA ")"],sH]])) (sW "ln"),sQ (sB `«term_=_» "=" sH) (sW "ne"),sQ (sN "show" [sA "show",sY `z7 sH]) (sF [sU,sQ (sP "small_d") sK,sQ (sP "small_n") (sW "le"),sQ (sP "small_of") (sQ (sO sM) sM)]),sQ (sB `«term_<=_» "≤" sH) (sW "le"),sQ (sB `«term_<_» "<" sH) (sW "le")])
 |"sm"=>some (sF [sU,sP "Same.refl",sQ (sP "Same.app") (sW "sm"),sQ (sP "Same.put") (sQ (sO (sW "sm")) (sF [sQ (sP "Or.inl") (sQ sI (sN "done" [sA "done"])),sQ (sP "Or.inr") (sF [sM,sX])]))])
 |_=>none
local macro_rules | `(tactic| walk_at $k:str) => match sT k.getString with
 |some t=>pure t
 |none=>Lean.Macro.throwUnsupported
theorem Vk{all:List MV}{Q:Fl->Loc->MH->Prop}{mh0:MH}{r:Nat}(d:List (Int×Int)){loc:Loc}(h1:∀p∈d,-20<=p.1/\p.1<=p.2/\p.2<=20)(h2:(yt d).length<=BIG)
  (h3:loc "found" = some (.ref r)) (h4:mh0[r]?=some (.list [])) (o:∀loc' mh',loc' "found" = some (.ref r)->mh'[r]?=some (.list (zi (yt d)))->Same [r] mh0 mh'->Q .next loc' mh') :
  Yx (.val (.tuple all)) all (tu ["low","high"]) XM (d.map xM) loc Q mh0:=by
 refine y7 (λrest loc mh=>X2 λacc d'=>N6 (rest=d'.map xM) ((∀p∈d',-20<=p.1/\p.1<=p.2/\p.2<=20)) (acc++yt d'=yt d) (loc "found" = some (.ref r)) (mh[r]?=some (.list (zi acc))) (Same [r] mh0 mh)) ?_ ?_ ?_ _ _ _ ⟨[],d,rfl,h1,rfl,h3,h4,.refl⟩
 ·rintro rest loc mh ⟨acc,d',-⟩;rfl
 ·rintro v rest loc mh K hK hR ⟨acc,d',hr,hd,ha,hl,hm,hs⟩
  cases d' with
  |nil=>cases hr
  |cons p d'=>
   cases hr
   have hp:=hd p (.head _)
   have hv:acc++(xq p++yt d')=yt d:=ha
   have hlen:=congrArg List.length hv
   simp only[List.length_append,vt] at hlen
   have hb:(zi acc).length+(p.2+1-p.1).toNat<=BIG:=by simp[zi];exact Nat.le_trans (Nat.le_add_right _ _) (by rw[Nat.add_assoc,hlen];exact h2)
   walk_at "w"
   rw[s8]
   exact hK _ _ ⟨acc++xq p,d',rfl,λq hq=>hd q (.tail _ hq),by simpa using hv,by walk_at "ne",by rw[yW hm];simp[zi],hs.trans (.set (List.mem_singleton_self _))⟩
 ·rintro loc mh ⟨acc,d',hr,hd,ha,hl,hm,hs⟩
  cases d' with
  |nil=>exact o loc mh hl (by simp[yt] at ha;rw[ha] at hm;exact hm) hs
  |cons p d'=>cases hr
noncomputable def yp:MF:=λargs Q mh=>Exists λd=>N3 (args=[xC d]) (SmD d) (∀mh' r,Same [] mh mh'->mh'[r]?=some (.list (zi (yt d)))->mh.length<=r->Q (.ref r) mh')
theorem JK:∀args Q mh,yp args Q mh->yQ ["d"] VM args Q mh:=by
 rintro args Q mh ⟨d,rfl,hd,o⟩
 have hl:=uu hd.run
 have hl2:=hd.len
 apply tj
 walk_at "s"
 walk_at "n"
 refine⟨_,Vk d hd.run (by unfold BIG;lia) (by walk_at "ne") zB λloc' mh' e1 e2 hs=>?_⟩
 walk_at "n"
 exact o _ _ ((Same.push.trans hs).old (nG (Nat.le_refl _))) e2 (Nat.le_refl _)
theorem W2{x:MIt}{vs:List MV}{mh mh':MH}(h:xc x vs mh)(s:Same [] mh mh'):xc x vs mh':=by
 cases x with
 |val v=>
  cases v with
  |ref r=>exact s.at h nN
  |_=>exact h
 |enum r=>obtain⟨ws,h1,h2⟩:=h;exact⟨ws,s.at h1 nN,h2⟩
theorem yS{α:Type}{x:MIt}{all:List MV}{t:Tgt}{test:MT}{m:ME}{Q:Loc->MO->MH->Prop}{mh0:MH}(L:Loc->Prop)(enc:α->MV)(p:α->Bool)(g:α->MV)(items:List α)(hI:xc x all mh0)(hlen:items.length<=BIG)
  (hb:∀a∈items,∀loc,L loc->∃loc',Y8 t (enc a) loc=some loc'/\L loc'/\∀mh,Same [] mh0 mh->
   (∀R:Bool->MH->Prop,(∀mh',Same [] mh mh'->R (p a) mh')->test loc' R mh)/\(p a=true->∀R:MV->MH->Prop,(∀mh',Same [] mh mh'->R (g a) mh')->m loc' R mh))
  {loc:Loc}(hL:L loc) (o:∀loc' mh',Same [] mh0 mh'->Q loc' (.list ((items.filter p).map g)) mh'):vf x all t test (xD m) (items.map enc) loc (.list []) Q mh0:=by
 refine xm (λrest loc acc mh=>X2 λdone items'=>N5 (items=done++items') (rest=items'.map enc) (L loc) (acc=.list ((done.filter p).map g)) (Same [] mh0 mh)) ?_ ?_ ?_ _ _ _ _ ⟨[],items,rfl,rfl,hL,rfl,.refl⟩
 ·rintro rest loc acc mh ⟨done,items',-,-,-,-,hs⟩
  exact W2 hI hs
 ·rintro v rest loc acc mh K hK ⟨done,items',h1,h2,h3,rfl,hs⟩
  cases items' with
  |nil=>cases h2
  |cons a items'=>
   cases h2
   obtain⟨loc',e1,e2,e3⟩:=hb a (by rw[h1];simp) loc h3
   refine⟨loc',e1,(e3 mh hs).1 _ λmh1 hs1=>?_⟩
   cases hp:p a with
   |false=>
    simp only[Bool.false_eq_true,if_false]
    exact hK _ _ _ ⟨done++[a],items',by rw[h1];simp,rfl,e2,by simp[hp],hs.trans hs1⟩
   |true=>
    simp only[if_true]
    refine(e3 mh1 (hs.trans hs1)).2 hp _ λmh2 hs2=>⟨?_,hK _ _ _ ⟨done++[a],items',by rw[h1];simp,rfl,e2,by simp[hp],(hs.trans hs1).trans hs2⟩⟩
    have:(done.filter p).length<=done.length:=List.length_filter_le _ _
    rw[h1] at hlen
    simp only[List.length_append,List.length_map] at hlen ⊢
    lia
 ·rintro loc acc mh ⟨done,items',h1,h2,-,rfl,hs⟩
  cases items' with
  |nil=>simp at h1;subst h1;exact o _ _ hs
  |cons a r=>cases h2
theorem Zk{mh:MH}{r:Nat}{ks:List (Int×MV)}(h:mh[r]?=some (.idict ks))(hl:ks.length<=BIG):wm (.ref r) (ks.map λp=>MV.int p.1) mh:=jE h ⟨rfl,hl⟩
noncomputable def wA(d:List (Int×Int))(k:Int):List (Int×Int):=(d.filter λp=>decide (p.1<=k)).map λp=>(p.1,min p.2 k)
noncomputable def wL(d:List (Int×Int))(k:Int):List (Int×Int):=(d.filter λp=>decide (k<=p.2)).map λp=>(max p.1 k,p.2)
noncomputable def t7(d:List (Int×Int))(k:Int):List (Int×Int):=wA d (k-1)++wL d (k+1)
noncomputable def xK:MF:=λargs Q mh=>X2 λd k=>N3 (args=[xC d,.int k]) (SmD d) (∀mh',Same [] mh mh'->Q (xC (wA d k)) mh')
theorem zbz:∀args Q mh,xK args Q mh->yQ ["d","k"] KV args Q mh:=by
 rintro args Q mh ⟨d,k,rfl,hd,o⟩
 have hlen:=hd.len
 apply xA
 walk_at "w"
 refine⟨_,yS (λloc=>loc "k" = some (.int k)) xM (λp=>decide (p.1<=k)) (λp=>xM (p.1,min p.2 k)) d ?_ ?_ ?_ ?_ ?_⟩
 ·rfl
 ·unfold BIG;exact ltk
 ·refine λp hp loc hL=>⟨upd (upd loc "low" (.int p.1)) "high" (.int p.2),rfl,?_,λmh hs=>⟨λR o=>?_,λhp R o=>?_⟩⟩
  ·walk_at "ne"
  ·walk_at "w"
   exact o _ .refl
  ·walk_at "w"
   exact o _ .refl
 ·walk_at "ne"
 ·intro loc' mh' hs
  have h1:(d.filter λp=>decide (p.1<=k)).length<=d.length:=List.length_filter_le _ _
  walk_at "w"
  have:=o _ (hs.trans (.push (o:=.list (List.map (λp=>xM (p.fst,min p.snd k)) (List.filter (λp=>decide (p.fst<=k)) d)))))
  simpa[xC,wA,List.map_map,Function.comp_def] using this
noncomputable def y8:MF:=λargs Q mh=>X2 λd k=>N3 (args=[xC d,.int k]) (SmD d) (∀mh',Same [] mh mh'->Q (xC (wL d k)) mh')
theorem UW:∀args Q mh,y8 args Q mh->yQ ["d","k"] Xy args Q mh:=by
 rintro args Q mh ⟨d,k,rfl,hd,o⟩
 have hlen:=hd.len
 apply xA
 walk_at "w"
 refine⟨_,yS (λloc=>loc "k" = some (.int k)) xM (λp=>decide (k<=p.2)) (λp=>xM (max p.1 k,p.2)) d ?_ ?_ ?_ ?_ ?_⟩
 ·rfl
 ·unfold BIG;exact ltk
 ·refine λp hp loc hL=>⟨upd (upd loc "low" (.int p.1)) "high" (.int p.2),rfl,?_,λmh hs=>⟨λR o=>?_,λhp R o=>?_⟩⟩
  ·walk_at "ne"
  ·walk_at "w"
   exact o _ .refl
  ·walk_at "w"
   exact o _ .refl
 ·walk_at "ne"
 ·intro loc' mh' hs
  have h1:(d.filter λp=>decide (k<=p.2)).length<=d.length:=List.length_filter_le _ _
  walk_at "w"
  have:=o _ (hs.trans (.push (o:=.list (List.map (λp=>xM (max p.1 k,p.2)) (List.filter (λp=>decide (k<=p.2)) d)))))
  simpa[xC,wL,List.map_map,Function.comp_def] using this
theorem J1(d:List (Int×Int))(k:Int):(wA d k).length<=d.length:=by unfold wA;rw[List.length_map];exact List.length_filter_le _ _
theorem zae(d:List (Int×Int))(k:Int):(wL d k).length<=d.length:=by unfold wL;rw[List.length_map];exact List.length_filter_le _ _
noncomputable def w6:MF:=λargs Q mh=>X2 λd k=>N3 (args=[xC d,.int k]) (SmD d) (∀mh',Same [] mh mh'->Q (xC (t7 d k)) mh')
theorem UT:∀args Q mh,w6 args Q mh->yQ ["d","v"] (Xx xK y8) args Q mh:=by
 rintro args Q mh ⟨d,k,rfl,hd,o⟩
 have hlen:=hd.len
 apply xA
 have h1:=J1 d (k-1)
 have h2:=zae d (k+1)
 walk_at "w"
 refine⟨d,k-1,rfl,hd,λmh1 hs1=>?_⟩
 walk_at "w"
 refine⟨d,k+1,rfl,hd,λmh2 hs2=>?_⟩
 walk_at "w"
 have:=o _ (hs1.trans hs2)
 simpa only[xC,t7,List.map_append] using this
set_option genInjectivity false in
structure Lit where
 x:Int
 sign:Str
 k:Int
noncomputable abbrev Lit.v(l:Lit):MV:=.tuple [.int l.x,.str l.sign,.int l.k]
noncomputable def xj(l:Lit)(d:List (Int×Int)):List (Int×Int):=if l.sign=("<=" : Str) then wA d l.k else if l.sign=(">=" : Str) then wL d l.k else t7 d l.k
noncomputable def Lit.plain(l:Lit):Prop:=l.sign=("<=" : Str)\/l.sign=(">=" : Str)\/l.sign=("!=" : Str)
noncomputable def vp:MF:=λargs Q mh=>X2 λl d=>N4 (args=[l.v,xC d]) (l.plain) (SmD d) (∀mh',Same [] mh mh'->Q (xC (xj l d)) mh')
theorem JL:∀args Q mh,vp args Q mh->yQ ["literal","d"] (VN xK y8 tNo w6) args Q mh:=by
 rintro args Q mh ⟨⟨x,sign,k⟩,d,rfl,hl,hd,o⟩
 apply xA
 simp only[Lit.plain] at hl
 rcases hl with rfl|rfl|rfl
 ·walk_at "s"
  walk_at "n"
  exact⟨d,k,rfl,hd,o⟩
 ·walk_at "s"
  walk_at "n"
  walk_at "n"
  exact⟨d,k,rfl,hd,o⟩
 ·walk_at "s"
  walk_at "n"
  walk_at "n"
  walk_at "n"
  exact⟨d,k,rfl,hd,o⟩
theorem ZV{α:Type}{l:List α}{i:Nat}{a:α}(h:l[i]?=some a):l.set i a=l:=by
 obtain⟨h1,rfl⟩:=List.getElem?_eq_some_iff.mp h
 exact List.set_getElem_self h1
set_option genInjectivity false in
structure SR where
 r:Nat
 d:Nat
 f:Nat
 t:Nat
 m:Nat
 n:Nat
noncomputable abbrev Dom:=List (Int×Int)
noncomputable abbrev j2(R:SR)(fl:Bool)(cl:MV):MO:=.inst "Store" [("domains",.ref R.d),("firsts",.ref R.f),("trail",.ref R.t),("marks",.ref R.m),("news",.ref R.n),("speaker",.int (-1)),("is_failed",.bool fl),("clash",cl)]
structure zu(mh:MH)(R:SR)(doms firsts:List Dom)(tr marks:List MV)(fl:Bool)(cl:MV):Prop where
 inst:mh[R.r]?=some (j2 R fl cl)
 doms:mh[R.d]?=some (.list (doms.map xC))
 firsts:mh[R.f]?=some (.list (firsts.map xC))
 trail:mh[R.t]?=some (.list tr)
 marks:mh[R.m]?=some (.list marks)
 news:∃ks,mh[R.n]?=some (MO.idict ks)/\ks.length<=tr.length
noncomputable def SR.refs(R:SR):List Nat:=[R.r,R.d,R.f,R.t,R.m,R.n]
structure SR.Ap(R:SR):Prop where
 rd:Df R.r R.d
 rf:Df R.r R.f
 rt:Df R.r R.t
 rm:Df R.r R.m
 rn:Df R.r R.n
 df:Df R.d R.f
 dt:Df R.d R.t
 dm:Df R.d R.m
 dn:Df R.d R.n
 ft:Df R.f R.t
 fm:Df R.f R.m
 fn:Df R.f R.n
 tm:Df R.t R.m
 tn:Df R.t R.n
 mn:Df R.m R.n
theorem SR.ap{R:SR}(h:R.refs.Nodup):R.Ap:=by
 simp only[SR.refs,List.nodup_cons,List.mem_cons,not_or,List.not_mem_nil,not_false_eq_true,List.nodup_nil,and_true] at h
 obtain⟨⟨hrd,hrf,hrt,hrm,hrn⟩,⟨hdf,hdt,hdm,hdn⟩,⟨hft,hfm,hfn⟩,⟨htm,htn⟩,hmn⟩:=h
 exact⟨hrd,hrf,hrt,hrm,hrn,hdf,hdt,hdm,hdn,hft,hfm,hfn,htm,htn,hmn⟩
theorem zu.same{S:List Nat}{mh mh':MH}{R:SR}{doms firsts:List Dom}{trail marks:List MV}{fl:Bool}{cl:MV}(x:zu mh R doms firsts trail marks fl cl)(s:Same S mh mh')(h:∀i∈S,i∉R.refs):zu mh' R doms firsts trail marks fl cl:=by
 have n:∀i∈R.refs,i∉S:=λi hi hs=>h i hs hi
 unfold SR.refs at n
 obtain⟨ks,h1,h2⟩:=x.news
 exact⟨s.at x.inst (n _ (.head _)),s.at x.doms (n _ (.tail _ (.head _))),s.at x.firsts (n _ (.tail _ (.tail _ (.head _)))),s.at x.trail (n _ (.tail _ (.tail _ (.tail _ (.head _))))),s.at x.marks (n _ (.tail _ (.tail _ (.tail _ (.tail _ (.head _)))))),ks,s.at h1 (n _ (.tail _ (.tail _ (.tail _ (.tail _ (.tail _ (.head _))))))),h2⟩
noncomputable def uw:MF:=λargs Q mh=>args=[]/\∀mh' R,Same [] mh mh'->zu mh' R [] [] [] [] false (.tuple [])->(∀i∈R.refs,mh.length<=i)->R.refs.Nodup->Q (.ref R.r) mh'
theorem zb4:∀args Q mh,uw args Q mh->zf4 "Store" (yQ ["self"] tc) args Q mh:=by
 rintro args Q mh ⟨rfl,o⟩
 apply tj
 walk_at "s"
 iterate 7 walk_at "n"
 refine⟨rfl,o _ ⟨mh.length,mh.length+1,mh.length+1+1,mh.length+1+1+1,mh.length+1+1+1+1,mh.length+1+1+1+1+1⟩ ?_ ⟨?_,?_,?_,?_,?_,[],?_,Nat.le_refl _⟩ (by simp[SR.refs];lia) (by simp[SR.refs];lia)⟩
 ·walk_at "sm"
 ·walk_at "ne"
 ·show _=some (MO.list []);walk_at "ne"
 ·show _=some (MO.list []);walk_at "ne"
 all_goals walk_at "ne"
noncomputable def zL:MF:=λargs Q mh=>X9 λR doms firsts trail marks fl cl d (x:Nat)=>N5 (args=[.ref R.r,.int x]) (zu mh R doms firsts trail marks fl cl) (x<=1000) (doms[x]?=some d) (Q (xC d) mh)
theorem Wl:∀args Q mh,zL args Q mh->yQ ["self","x"] Zf args Q mh:=by
 rintro args Q mh ⟨R,doms,firsts,trail,marks,fl,cl,d,x,rfl,S,h1,hd,q⟩
 have e1:=S.inst
 have e2:=S.doms
 apply xA
 walk_at "w"
 exact q
noncomputable def ya:MF:=λargs Q mh=>X9 λR doms firsts trail marks fl cl d (x:Nat)=>N5 (args=[.ref R.r,.int x]) (zu mh R doms firsts trail marks fl cl) (x<=1000) (firsts[x]?=some d) (Q (xC d) mh)
theorem j8:∀args Q mh,ya args Q mh->yQ ["self","x"] tx args Q mh:=by
 rintro args Q mh ⟨R,doms,firsts,trail,marks,fl,cl,d,x,rfl,S,h1,hd,q⟩
 have e1:=S.inst
 have e2:=S.firsts
 apply xA
 walk_at "w"
 exact q
noncomputable def vT(p:Int×Int):Dat:=.tuple [.int p.1,.int p.2]
noncomputable def vC(d:Dom):Dat:=.tuple (d.map vT)
theorem DRs.map{α:Type}{mh:MH}{f:α->MV}{g:α->Dat}(h:∀a,DR mh (f a) (g a)):∀l:List α,DRs mh (l.map f) (l.map g)
 |[]=>.nil
 |a::l=>.cons (h a) (DRs.map h l)
theorem Jk{mh:MH}(p:Int×Int):DR mh (xM p) (vT p):=.tuple (.cons (.int _) (.cons (.int _) .nil))
theorem WG{mh:MH}(d:Dom):DR mh (xC d) (vC d):=.tuple (.map Jk d)
theorem WF{mh:MH}(l:List Int):DRs mh (zi l) (l.map .int):=.map .int l
theorem VD{p q:Int×Int}(h:vT p=vT q):p=q:=by
 simp only[vT,Dat.tuple.injEq,List.cons.injEq,Dat.int.injEq] at h
 exact Prod.ext h.1 h.2.1
theorem Y3{d e:Dom}:vC d=vC e↔d=e:=by
 refine⟨λh=>?_,λh=>by rw[h]⟩
 simp only[vC,Dat.tuple.injEq] at h
 exact(List.map_inj_right λ_ _=>VD).mp h
theorem VX{a b:List Int}:(Dat.list (a.map .int)=Dat.list (b.map .int))↔a=b:=by
 refine⟨λh=>?_,λh=>by rw[h]⟩
 simp only[Dat.list.injEq] at h
 exact(List.map_inj_right λ_ _ e=>Dat.int.inj e).mp h
theorem Wj(d:Dom){n:Nat}:kqdOk (n+2) (vC d)=true:=by
 simp only[vC,kqdOk,List.all_map,List.all_eq_true]
 intro p _
 simp[vT,kqdOk]
theorem KU(l:List Int){n:Nat}:kqdOk (n+1) (.list (l.map .int))=true:=by
 simp[kqdOk]
theorem Kp{d e:Dom}{Q:Bool->Prop}{mh:MH}(q:Q (decide (d=e))):eqM (xC d) (xC e) Q mh:=by
 refine⟨vC d,vC e,WG d,WG e,Wj d,Wj e,?_⟩
 simpa only[Y3] using q
theorem Ji{d:Dom}{Q:Bool->Prop}{mh:MH}(q:Q (decide (d=[]))):eqM (xC d) (.tuple []) Q mh:=Kp (e:=[]) q
theorem tq{r s:Nat}{a b:List Int}{Q:Bool->Prop}{mh:MH}(h1:mh[r]?=some (.list (zi a)))(h2:mh[s]?=some (.list (zi b)))(q:Q (decide (a=b))):eqM (.ref r) (.ref s) Q mh:=by
 refine⟨.list (a.map .int),.list (b.map .int),.list h1 (WF a),.list h2 (WF b),KU a,KU b,?_⟩
 simpa only[VX] using q
noncomputable def zZ:MF:=λargs Q mh=>X8 λR doms firsts trail marks fl cl d=>N7 (args=[.ref R.r,xC d]) (zu mh R doms firsts trail marks fl cl) (R.refs.Nodup) (doms.length<=1000) (firsts.length<=1000) (d≠[]) (∀mh',Same [R.d,R.f] mh mh'->zu mh' R (doms++[d]) (firsts++[d]) trail marks fl cl->Q (.int doms.length) mh')
theorem j7:∀args Q mh,zZ args Q mh->yQ ["self","domain"] (tw tNo) args Q mh:=by
 rintro args Q mh ⟨R,doms,firsts,trail,marks,fl,cl,d,rfl,S,nd,l1,l2,hd,o⟩
 have e1:=S.inst
 have e2:=S.doms
 have e3:=S.firsts
 have ap:=SR.ap nd
 have n1:=ap.rd
 have n2:=ap.rf
 have n3:=ap.df
 apply xA
 walk_at "s"
 walk_at "n"
 walk_at "n"
 refine Ji (VG hd ?_)
 walk_at "n"
 have ee:(((doms.map xC++[xC d]).length:Nat):Int)-1=doms.length:=by simp
 rw[ee]
 obtain⟨ks,h1,h2⟩:=S.news
 have e4:=S.trail
 have e5:=S.marks
 have:=ap.dt
 have:=ap.ft
 have:=ap.dm
 have:=ap.fm
 have:=ap.dn
 have:=ap.fn
 refine o _ (by walk_at "sm") ⟨by walk_at "ne",?_,?_,by walk_at "ne",by walk_at "ne",ks,by walk_at "ne",h2⟩
 ·rw[List.map_append];show _=some (MO.list (_++[xC d]));walk_at "ne"
 ·rw[List.map_append];show _=some (MO.list (_++[xC d]));walk_at "ne"
theorem KZ{α:Type}[DecidableEq α]{ks:List (α×MV)}{k:α}{v:MV}:(xi ks k v).length<=ks.length+1:=by
 induction ks with
 |nil=>exact Nat.le_refl 1
 |cons p ks ih=>
  obtain⟨y,w⟩:=p
  show(if y=k then (y,v)::ks else (y,w)::xi ks k v).length<=ks.length+1+1
  by_cases h:y=k
  ·rw[if_pos h];exact Nat.le_succ _
  ·rw[if_neg h];exact Nat.succ_le_succ ih
noncomputable abbrev WE(x:Nat)(d:Dom)(l:Lit)(reasons sp:MV):MV:=.tuple [.int x,xC d,l.v,reasons,sp]
noncomputable def zR:MF:=λargs Q mh=>X12 λR doms firsts trail marks fl cl l d reasons sp (x:Nat)=>N11 (args=[.ref R.r,l.v,reasons,sp]) (l.x=(x:Int)) (l.plain) (zu mh R doms firsts trail marks fl cl) (R.refs.Nodup) (x<=1000) (doms[x]?=some d) (SmD d) (xj l d≠[]) (trail.length<=1000) (∀mh',Same [R.d,R.t,R.n] mh mh'->zu mh' R (doms.set x (xj l d)) firsts (if xj l d=d then trail else trail++[WE x d l reasons sp]) marks fl cl->Q (.bool true) mh')
theorem Yg:∀args Q mh,zR args Q mh->yQ ["self","literal","reasons","speaker"] (qt vp tNo tNo) args Q mh:=by
 rintro args Q mh ⟨R,doms,firsts,trail,marks,fl,cl,⟨lx,sign,k⟩,d,reasons,sp,x,rfl,hx,hl,S,nd,l1,hd,sm,hne,l2,o⟩
 simp only at hx;subst hx
 have e1:=S.inst
 have e2:=S.doms
 apply Kk
 walk_at "s"
 walk_at "n"
 walk_at "n"
 refine⟨⟨x,sign,k⟩,d,rfl,hl,sm,λmh1 hs1=>?_⟩
 have S1:=S.same hs1 nA
 clear S e1 e2
 walk_at "w"
 walk_at "n"
 refine Ji (VG hne ?_)
 walk_at "w"
 walk_at "n"
 refine Kp (sa (λhe=>?_) λhe=>?_)
 ·walk_at "w"
  refine o mh1 (hs1.mono nA) ?_
  rw[if_pos he,he]
  rw[ZV hd];exact S1
 ·have e1:=S1.inst
  have e2:=S1.doms
  have e3:=S1.trail
  have e4:=S1.firsts
  have e5:=S1.marks
  obtain⟨ks,e6,l3⟩:=S1.news
  have ap:=SR.ap nd
  have n1:=ap.rd
  have n2:=ap.rt
  have n3:=ap.rn
  have n4:=ap.dt
  have n5:=ap.dn
  have n6:=ap.tn
  have n7:=ap.df
  have n8:=ap.ft
  have n9:=ap.fn
  have m1:=ap.dm
  have m2:=ap.tm
  have m3:=ap.mn
  have hlt:x<(doms.map xC).length:=by rw[List.length_map];exact(List.getElem?_eq_some_iff.mp hd).1
  walk_at "w"
  walk_at "n"
  walk_at "n"
  walk_at "n"
  walk_at "n"
  refine o _ ((hs1.mono nA).trans ?_) ?_
  ·walk_at "sm"
  rw[if_neg he]
  refine⟨?_,?_,?_,?_,?_,xi ks x (.bool true),?_,?_⟩
  ·walk_at "ne"
  ·rw[List.map_set];walk_at "ne"
  ·walk_at "ne"
  ·walk_at "ne"
  ·walk_at "ne"
  ·walk_at "ne"
  ·have:=KZ (ks:=ks) (k:=(x:Int)) (v:=.bool true)
   simp only[List.length_append,List.length_cons,List.length_nil]
   lia
noncomputable def zW:MF:=λargs Q mh=>X10 λR doms firsts trail marks fl cl l d (x:Nat)=>N11 (args=[.ref R.r,l.v]) (l.x=(x:Int)) (l.plain) (zu mh R doms firsts trail marks fl cl) (R.refs.Nodup) (x<=1000) (doms[x]?=some d) (SmD d) (xj l d≠[]) (trail.length<=1000) (∀mh',Same [R.d,R.t,R.n] mh mh'->zu mh' R (doms.set x (xj l d)) firsts (if xj l d=d then trail else trail++[WE x d l .none (.int (-1))]) marks fl cl->Q (.bool true) mh')
theorem Zy:∀args Q mh,zW args Q mh->yQ ["self","literal"] (tQ zR) args Q mh:=by
 rintro args Q mh ⟨R,doms,firsts,trail,marks,fl,cl,l,d,x,rfl,hx,hl,S,nd,l1,hd,sm,hne,l2,o⟩
 have e1:=S.inst
 apply xA
 walk_at "w"
 exact⟨R,doms,firsts,trail,marks,fl,cl,l,d,.none,.int (-1),x,rfl,hx,hl,S,nd,l1,hd,sm,hne,l2,o⟩
noncomputable abbrev sh(vs:List MV):MO:=.inst "AllDifferentValues" [("number",.int (-1)),("scope",.tuple vs),("strength",.str "values")]
set_option genInjectivity false in
structure MR where
 r:Nat
 c:Nat
 m:Nat
 o:Nat
 cs:List Nat
noncomputable abbrev zi8(M:MR):MO:=.inst "Matching" [("choices",.ref M.c),("mate",.ref M.m),("owner",.ref M.o)]
noncomputable def US:Option Int->MV
 |none=>.none
 |some v=>.int v
theorem Same.append{S:List Nat}{a l:MH}:Same S a (a++l):=⟨by simp,λi hi _=>by rw[List.getElem?_append_left hi]⟩
noncomputable def xL:MF:=λargs Q mh=>X3 λr vs s=>N5 (args=[.ref r,.tuple vs,.str s]) (s=("values" : Str)) (vs.length<=BIG) (mh[r]?=some (.inst "AllDifferentValues" [])) (Q .none (mh.set r (sh vs)))
theorem qA:∀args Q mh,xL args Q mh->yQ ["self","scope","strength"] u3 args Q mh:=by
 rintro args Q mh ⟨r,vs,s,rfl,rfl,hl,e,q⟩
 apply jF
 walk_at "s"
 walk_at "n"
 walk_at "n"
 rw[List.set_set,List.set_set];exact q
noncomputable def zif(cl:Str)(ps:List Str)(slf:Str)(ms:List ME)(t:MF):MF:=λargs Q mh=>args.length=ps.length/\∃r fs,xU ps args (λ_=>none) slf=some (.ref r)/\mh[r]?=some (.inst cl fs)/\
   wJ ms (xU ps args λ_=>none) (λvs mh1=>t (.ref r::vs) (λ_ mh2=>Q .none mh2) mh1) mh
noncomputable def zh:MF:=λargs Q mh=>Exists λvs=>N3 (args=[.tuple vs]) (vs.length<=BIG) (Q (.ref mh.length) (mh++[sh vs]))
theorem t6:∀args Q mh,zh args Q mh->zf4 "AllDifferentValues" (zif "AllDifferentValues" ["self","row"] "self" [za "row",zc (.str "values")] xL) args Q mh:=by
 rintro args Q mh ⟨vs,rfl,hl,q⟩
 refine⟨rfl,mh.length,[],rfl,zB,?_⟩
 show wJ _ (upd (upd (λ_=>none) "self" _) "row" _) _ _
 walk_at "w"
 refine⟨_,vs,_,rfl,rfl,hl,zB,rfl,?_⟩
 rw[zh8];exact q
structure xE(mh:MH)(cs:List Nat)(ch:List (List Int)):Prop where
 len:cs.length=ch.length
 at_:∀i r:Nat,cs[i]?=some r->∃l,ch[i]?=some l/\mh[r]?=some (MO.list (zi l))
theorem xE.nil{mh:MH}:xE mh [] []:=⟨rfl,λi r h=>by simp at h⟩
theorem xE.same{mh mh':MH}{cs:List Nat}{ch:List (List Int)}{S:List Nat}(x:xE mh cs ch)(s:Same S mh mh')(h:∀i∈cs,i∉S):xE mh' cs ch:=
 ⟨x.len,λi r hr=>let ⟨l,h1,h2⟩:=x.at_ i r hr;⟨l,h1,s.at h2 (h _ (List.mem_of_getElem? hr))⟩⟩
theorem xE.snoc{mh:MH}{cs:List Nat}{ch:List (List Int)}{r:Nat}{l:List Int}(x:xE mh cs ch)(h:mh[r]?=some (.list (zi l))):xE mh (cs++[r]) (ch++[l]):=by
 refine⟨by simp[x.len],λi q hq=>?_⟩
 by_cases hi:i<cs.length
 ·rw[List.getElem?_append_left hi] at hq
  obtain⟨l',h1,h2⟩:=x.at_ i q hq
  exact⟨l',by rw[List.getElem?_append_left (by rw[<-x.len];exact hi)];exact h1,h2⟩
 ·have he:i=cs.length:=by
   have:=(List.getElem?_eq_some_iff.mp hq).1
   simp at this
   exact Nat.eq_of_lt_succ_of_not_lt this hi
  subst he
  simp at hq
  subst hq
  exact⟨l,by rw[x.len];simp,h⟩
theorem xE.lt{mh:MH}{cs:List Nat}{ch:List (List Int)}(x:xE mh cs ch):∀i∈cs,i<mh.length:=λr hr=>by
 obtain⟨i,hi,rfl⟩:=List.mem_iff_getElem.mp hr
 obtain⟨l,_,h⟩:=x.at_ i _ (List.getElem?_eq_getElem hi)
 exact zm h
theorem xE.get{mh:MH}{cs:List Nat}{ch:List (List Int)}(x:xE mh cs ch){i:Nat}{l:List Int}(h:ch[i]?=some l):∃r,cs[i]?=some r/\mh[r]?=some (MO.list (zi l)):=by
 have hi:i<cs.length:=by rw[x.len];exact(List.getElem?_eq_some_iff.mp h).1
 obtain⟨l',h1,h2⟩:=x.at_ i cs[i] (List.getElem?_eq_getElem hi)
 rw[h] at h1;cases h1
 exact⟨cs[i],List.getElem?_eq_getElem hi,h2⟩
noncomputable abbrev wU(ks:List (Int×Nat)):List (Int×MV):=ks.map λp=>(p.1,.int (p.2:Int))
structure yy(mh:MH)(M:MR)(ch:List (List Int))(mate:List (Option Int))(own:List (Int×Nat)):Prop where
 inst:mh[M.r]?=some (zi8 M)
 choices:mh[M.c]?=some (.list (M.cs.map .ref))
 lists:xE mh M.cs ch
 mate:mh[M.m]?=some (.list (mate.map US))
 owner:mh[M.o]?=some (.idict (wU own))
noncomputable def MR.refs(M:MR):List Nat:=M.r::M.c::M.m::M.o::M.cs
structure MR.Ok(M:MR):Prop where
 m:M.m∉M.o::M.r::M.c::M.cs
 o:M.o∉M.m::M.r::M.c::M.cs
theorem yy.same{S:List Nat}{mh mh':MH}{M:MR}{ch:List (List Int)}{mate:List (Option Int)}{own:List (Int×Nat)}(x:yy mh M ch mate own)(s:Same S mh mh')(h:∀i∈S,i∉M.refs):yy mh' M ch mate own:=by
 have n:∀i∈M.refs,i∉S:=λi hi hs=>h i hs hi
 unfold MR.refs at n
 exact⟨s.at x.inst (n _ (.head _)),s.at x.choices (n _ (.tail _ (.head _))),x.lists.same s λi hi=>n i (by simp[hi]),s.at x.mate (n _ (.tail _ (.tail _ (.head _)))),s.at x.owner (n _ (.tail _ (.tail _ (.tail _ (.head _)))))⟩
noncomputable abbrev z3(xs:List Nat):List MV:=xs.map λ(x:Nat)=>MV.int (x:Int)
noncomputable def yi(doms:List Dom)(xs:List Nat):List (List Int):=xs.map λx=>yt (doms.getD x [])
theorem WR{R:SR}{doms firsts:List Dom}{trail marks:List MV}{fl:Bool}{cl:MV}{mh0:MH}{all:List MV}{Q:Loc->MO->MH->Prop}(xs:List Nat)(S:zu mh0 R doms firsts trail marks fl cl)(hx:∀x∈xs,x<=1000/\∃d,doms[x]?=some d/\SmD d)(hl:xs.length<=1000)
  {loc:Loc}(hs:loc "store" = some (.ref R.r)) (o:∀loc' mh' cs,Same [] mh0 mh'->xE mh' cs (yi doms xs)->(∀i∈cs,mh0.length<=i)->Q loc' (.list (cs.map .ref)) mh') :
  vf (.val (.tuple all)) all (.one "x") vq (u6 zL yp) (z3 xs) loc (.list []) Q mh0:=by
 refine xm (λrest loc acc mh=>X3 λdone xs' cs=>N7 (xs=done++xs') (rest=z3 xs') (loc "store" = some (.ref R.r)) (acc=.list (cs.map .ref)) (xE mh cs (yi doms done)) ((∀i∈cs,mh0.length<=i)) (Same [] mh0 mh)) ?_ ?_ ?_ _ _ _ _ ⟨[],xs,[],rfl,rfl,hs,rfl,.nil,nA,.refl⟩
 ·rintro rest loc acc mh ⟨done,xs',cs,-⟩;rfl
 ·rintro v rest loc acc mh K hK ⟨done,xs',cs,h1,h2,h3,rfl,h5,h6,hs⟩
  cases xs' with
  |nil=>cases h2
  |cons x xs'=>
   cases h2
   obtain⟨hx1,d,hd,sm⟩:=hx x (by rw[h1];simp)
   have S1:=S.same hs nA
   have e1:=S1.inst
   refine⟨upd loc "x" (.int (x:Int)),rfl,?_⟩
   walk_at "w"
   refine⟨R,doms,firsts,trail,marks,fl,cl,d,x,rfl,S1,hx1,hd,d,rfl,sm,λmh1 r hs1 hr hrl=>⟨?_,?_⟩⟩
   ·have:=congrArg List.length h1
    have hle:=h5.len
    simp[yi] at this hle
    simp
    unfold BIG
    lia
   ·refine hK _ _ _ ⟨done++[x],xs',cs++[r],by rw[h1];simp,rfl,by walk_at "ne",by simp,?_,?_,hs.trans hs1⟩
    ·have:=(h5.same hs1 nB).snoc hr
     simpa[yi,hd] using this
    ·intro i hi
     rcases List.mem_append.mp hi with h|h
     ·exact h6 i h
     ·simp at h;subst h;exact Nat.le_trans hs.le hrl
 ·rintro loc acc mh ⟨done,xs',cs,h1,h2,h3,rfl,h5,h6,hs⟩
  cases xs' with
  |nil=>simp at h1;subst h1;exact o _ _ _ hs h5 h6
  |cons a r=>cases h2
noncomputable def yB:MF:=λargs Q mh=>X8 λR doms firsts trail marks fl cl xs=>N5 (args=[.ref R.r,.tuple (z3 xs)]) (zu mh R doms firsts trail marks fl cl) ((∀x∈xs,x<=1000/\∃d,doms[x]?=some d/\SmD d)) (xs.length<=1000) (∀mh' M,Same [] mh mh'->M.Ok->(∀i∈M.refs,mh.length<=i)->yy mh' M (yi doms xs) (List.replicate xs.length none) []->Q (.ref M.r) mh')
theorem VE:∀args Q mh,yB args Q mh->zf4 "Matching" (yQ ["self","store","scope"] (vB zL yp)) args Q mh:=by
 rintro args Q mh ⟨R,doms,firsts,trail,marks,fl,cl,xs,rfl,S,hx,hl,o⟩
 have hn:(z3 xs).length=xs.length:=List.length_map _
 apply jF
 walk_at "s"
 have hs0:Same [] mh (mh++[.inst "Matching" []]):=.push
 refine⟨_,WR xs (S.same hs0 nA) hx hl (by walk_at "ne") λloc' mh1 cs hs1 hL hcs=>?_⟩
 have e0:mh1[mh.length]?=some (.inst "Matching" []):=hs1.at zB nN
 have g0:=zm e0
 have hs2:=hs0.trans hs1
 walk_at "w"
 walk_at "n"
 walk_at "n"
 have hlt:=hL.lt
 simp only[List.length_append,List.length_cons,List.length_nil] at hcs
 refine⟨rfl,o _ ⟨mh.length,mh1.length,mh1.length+1+1,mh1.length+1+1+1,cs⟩ ?_ ⟨?_,?_⟩ ?_ ⟨?_,?_,?_,?_,?_⟩⟩
 ·walk_at "sm"
 ·simp only[List.mem_cons,not_or]
  exact⟨by exact Nat.ne_add_one (List.length mh1+1+1),by lia,by lia,λh=>by have:=hlt _ h;lia⟩
 ·simp only[List.mem_cons,not_or]
  exact⟨by exact Nat.succ_ne_self (List.length mh1+2),by lia,by lia,λh=>by have:=hlt _ h;lia⟩
 ·simp only[MR.refs,List.mem_cons]
  rintro i (rfl|rfl|rfl|rfl|hi)
  ·exact Nat.le_refl (List.length mh)
  ·exact hs2.le
  ·lia
  ·lia
  ·have:=hcs _ hi;exact Nat.le_of_succ_le (hcs i hi)
 ·walk_at "ne"
 ·walk_at "ne"
 ·refine hL.same (S:=[mh.length]) ?_ λi hi=>by have:=hcs i hi;simp;exact Nat.ne_of_lt' (hcs i hi)
  walk_at "sm"
 ·have e:(List.replicate xs.length none).map US=List.replicate (z3 xs).length MV.none:=by rw[hn,List.map_replicate];rfl
  rw[e];walk_at "ne"
 ·show _=some (MO.idict []);walk_at "ne"
theorem qS{t:MT}{body:MS}{Q:Fl->Loc->MH->Prop}(I:Nat->Loc->MH->Prop)
  (hstep:∀n loc mh (K:Fl->Loc->MH->Prop),(∀loc mh,I n loc mh->K .next loc mh)->(∀r loc mh,Q (.ret r) loc mh->K (.ret r) loc mh)->I (n+1) loc mh->
   t loc (λb mh=>if b=true then body loc K mh else Q .next loc mh) mh)
  (h0:∀loc mh,¬I 0 loc mh):∀n loc mh,I n loc mh->ZI t body n loc Q mh
 |0,loc,mh,h=>absurd h (h0 loc mh)
 |n+1,loc,mh,h=>hstep n loc mh _ (λloc mh h=>qS I hstep h0 n loc mh h) (λ_ _ _ h=>h) h
noncomputable def ag(l:List (Int×Nat))(v:Int):Option Nat:=(l.find? λp=>p.1=v).map (·.2)
noncomputable def ks:List (Int×Nat)->Int->Nat->List (Int×Nat)
 |[],x,v=>[(x,v)]
 |(y,w)::fs,x,v=>if y=x then (y,v)::fs else (y,w)::ks fs x v
theorem K8{v:Int}:ag [] v=none:=rfl
theorem uc{k x:Int}{v:Nat}{fs:List (Int×Nat)}:ag ((k,v)::fs) x=if k=x then some v else ag fs x:=by
 unfold ag
 by_cases h:k=x
 ·simp[h]
 ·simp[List.find?_cons,h]
theorem Z9{y v:Int}{z p:Nat}{l:List (Int×Nat)}:ks ((y,z)::l) v p=if y=v then (y,p)::l else (y,z)::ks l v p:=rfl
theorem Zs{l:List (Int×Nat)}{v w:Int}{p:Nat}:ag (ks l v p) w=if v=w then some p else ag l w:=by
 induction l with
 |nil=>simp[show ks [] v p=[(v,p)] from rfl,uc,K8]
 |cons q l ih=>
  obtain⟨y,z⟩:=q
  rw[Z9]
  split
  ·rename_i h
   subst h
   simp only[uc]
   split<;>rfl
  ·rename_i h
   simp only[uc,ih]
   by_cases h1:y=w
   ·subst h1
    simp
    exact λe=>absurd e.symm h
   ·simp[h1]
theorem Jt{l:List (Int×Nat)}{v:Int}:ag l v=none↔v∉l.map (·.1):=by
 induction l with
 |nil=>simp[K8]
 |cons q l ih=>
  obtain⟨y,z⟩:=q
  rw[uc]
  by_cases h:y=v
  ·simp[h]
  ·simp only[h,if_false,ih,List.map_cons,List.mem_cons,not_or]
   exact⟨λh2=>⟨λe=>h e.symm,h2⟩,λh2=>h2.2⟩
theorem W1{l:List (Int×Nat)}{v:Int}{p:Nat}:(ks l v p).map (·.1)=if v∈l.map (·.1) then l.map (·.1) else l.map (·.1)++[v]:=by
 induction l with
 |nil=>simp[show ks [] v p=[(v,p)] from rfl]
 |cons q l ih=>
  obtain⟨y,z⟩:=q
  rw[Z9]
  split
  ·rename_i h;simp[h]
  ·rename_i h
   simp only[List.map_cons,ih,List.mem_cons]
   by_cases h1:v∈l.map (·.1)
   ·simp[h1]
   ·simp only[h1,if_false,or_false,List.cons_append]
    rw[if_neg (λe=>h e.symm)]
theorem zcj{l:List (Int×Nat)}{v:Int}{p:Nat}(h:ag l v=none):ks l v p=l++[(v,p)]:=by
 induction l with
 |nil=>rfl
 |cons q l ih=>
  obtain⟨y,z⟩:=q
  rw[uc] at h
  rw[Z9]
  by_cases h1:y=v
  ·simp[h1] at h
  ·simp only[h1,if_false] at h ⊢
   rw[ih h];rfl
theorem jR{l:List (Int×Nat)}{v:Int}:wR (wU l) v=(ag l v).map λ(p:Nat)=>MV.int (p:Int):=by
 induction l with
 |nil=>rfl
 |cons q l ih=>
  obtain⟨y,z⟩:=q
  show wR ((y,MV.int (z:Int))::wU l) v=_
  rw[vn,uc,ih]
  split<;>rfl
theorem YB{l:List (Int×Nat)}{v:Int}:((wU l).any λkv=>decide (kv.1=v))=(ag l v).isSome:=by
 induction l with
 |nil=>rfl
 |cons q l ih=>
  obtain⟨y,z⟩:=q
  show(decide (y=v) || (wU l).any _)=_
  rw[ih,uc]
  by_cases h:y=v<;>simp[h]
theorem XC{l:List (Int×Nat)}{v:Int}{p:Nat}:xi (wU l) v (.int (p:Int))=wU (ks l v p):=by
 induction l with
 |nil=>rfl
 |cons q l ih=>
  obtain⟨y,z⟩:=q
  show xi ((y,MV.int (z:Int))::wU l) v _=_
  rw[s9]
  rw[Z9]
  split
  ·rfl
  ·rw[ih];rfl
theorem tL{l:List (Int×Nat)}:(wU l).length=l.length:=List.length_map _
theorem xp{l:List Int}(h:l.Nodup)(hb:∀v∈l,-20<=v/\v<=20):l.length<=41:=by
 have:=xV (ys:=(List.range 41).map λ(i:Nat)=>(i:Int)-20) h λv hv=>by
  obtain⟨h1,h2⟩:=hb v hv
  exact List.mem_map.mpr ⟨(v+20).toNat,List.mem_range.mpr (by lia),by rw[Int.toNat_of_nonneg (show 0<=v+20 from Int.add_le_add_right h1 20)];exact Int.add_sub_cancel v 20⟩
 simpa using this
noncomputable def yl(ch:List (List Int))(v:Int)(p:Nat):Prop:=∃l,ch[p]?=some l/\v∈l
structure sk(ch:List (List Int))(mate:List (Option Int))(own:List (Int×Nat)):Prop where
 len:mate.length=ch.length
 agree:∀v p,ag own v=some p↔mate[p]?=some (some v)
 sub:∀v p,ag own v=some p->yl ch v p
 keys:(own.map (·.1)).Nodup
noncomputable def SmC(ch:List (List Int)):Prop:=ch.length<=1000/\∀l∈ch,∀v∈l,-20<=v/\v<=20
theorem yl.small{ch:List (List Int)}{v:Int}{p:Nat}(h:yl ch v p)(s:SmC ch) : -20<=v/\v<=20:=let ⟨l,h1,h2⟩:=h;s.2 l (List.mem_of_getElem? h1) v h2
inductive Z6(ch:List (List Int))(came:List (Int×Nat))(mate:List (Option Int))(root:Nat):List Nat->Int->Prop
 |last {v:Int}:ag came v=some root->yl ch v root->mate[root]?=some none->Z6 ch came mate root [root] v
 |step {v u:Int}{p:Nat}{ps:List Nat}:ag came v=some p->yl ch v p->mate[p]?=some (some u)->Z6 ch came mate root ps u->p∉ps->Z6 ch came mate root (p::ps) v
theorem Z6.set{ch:List (List Int)}{came:List (Int×Nat)}{mate:List (Option Int)}{root p:Nat}{x:Option Int}{ps:List Nat}{v:Int}(h:Z6 ch came mate root ps v)(hp:p∉ps):Z6 ch came (mate.set p x) root ps v:=by
 induction h with
 |last h1 h2 h3=>exact .last h1 h2 (by rw[List.getElem?_set_ne (by rintro rfl;simp at hp)];exact h3)
 |step h1 h2 h3 h4 h5 ih=>exact .step h1 h2 (by rw[List.getElem?_set_ne (by rintro rfl;simp at hp)];exact h3) (ih λh=>hp (.tail _ h)) h5
structure KD(ch:List (List Int))(mate0:List (Option Int))(own0:List (Int×Nat))(v0:Int)(mate:List (Option Int))(own:List (Int×Nat))(v:Int):Prop where
 len:mate.length=ch.length
 agree:∀w,w≠v->∀p,ag own w=some p↔mate[p]?=some (some w)
 out:∀p:Nat,mate[p]?≠some (some v)
 sub:∀w,w≠v->∀p,ag own w=some p->yl ch w p
 keys:(own.map (·.1)).Nodup
 small:∀w∈own.map (·.1),-20<=w/\w<=20
 nones:∀p:Nat,mate[p]?=some none↔mate0[p]?=some none
 some_:∀w,((ag own w).isSome\/w=v)↔((ag own0 w).isSome\/w=v0)
theorem KD.step{ch:List (List Int)}{mate0 mate:List (Option Int)}{own0 own:List (Int×Nat)}{v0 v u:Int}{p:Nat}(h:KD ch mate0 own0 v0 mate own v)(hs:SmC ch)(hv:yl ch v p)(hm:mate[p]?=some (some u)) :
  KD ch mate0 own0 v0 (mate.set p (some v)) (ks own v p) u:=by
 have hlt:p<mate.length:=(List.getElem?_eq_some_iff.mp hm).1
 have huv:u≠v:=by rintro rfl;exact h.out p hm
 have hu:ag own u=some p:=(h.agree u huv p).mpr hm
 refine⟨by simp[h.len],λw hw q=>?_,λq=>?_,λw hw q=>?_,?_,?_,λq=>?_,λw=>?_⟩
 ·rw[Zs]
  by_cases hvw:v=w
  ·subst hvw
   simp only[if_true]
   by_cases hq:p=q
   ·subst hq;simp[List.getElem?_set_self hlt]
   ·rw[List.getElem?_set_ne hq]
    simp only[Option.some.injEq,hq,false_iff]
    exact h.out q
  ·rw[if_neg hvw]
   by_cases hq:p=q
   ·subst hq
    rw[List.getElem?_set_self hlt,h.agree w (λe=>hvw e.symm) p,hm]
    simp only[Option.some.injEq]
    exact⟨λe=>absurd e.symm hw,λe=>absurd e hvw⟩
   ·rw[List.getElem?_set_ne hq,h.agree w (λe=>hvw e.symm) q]
 ·by_cases hq:p=q
  ·subst hq;rw[List.getElem?_set_self hlt];simp only[ne_eq,Option.some.injEq];exact λe=>huv e.symm
  ·rw[List.getElem?_set_ne hq]
   intro e
   have:=(h.agree u huv q).mpr e
   rw[hu] at this
   exact hq (Option.some.inj this)
 ·rw[Zs]
  by_cases hvw:v=w
  ·subst hvw
   simp only[if_true,Option.some.injEq]
   rintro rfl;exact hv
  ·rw[if_neg hvw];exact h.sub w (λe=>hvw e.symm) q
 ·rw[W1]
  split
  ·exact h.keys
  ·rename_i hn
   rw[List.nodup_append]
   exact⟨h.keys,by simp,λa ha b hb e=>by simp at hb;subst hb;subst e;exact hn ha⟩
 ·rw[W1]
  split
  ·exact h.small
  ·intro w hw
   rcases List.mem_append.mp hw with h1|h1
   ·exact h.small w h1
   ·simp at h1;subst h1;exact hv.small hs
 ·by_cases hq:p=q
  ·subst hq;rw[List.getElem?_set_self hlt,<-h.nones p,hm];simp
  ·rw[List.getElem?_set_ne hq];exact h.nones q
 ·rw[<-h.some_ w,Zs]
  by_cases hvw:v=w
  ·subst hvw;simp
  ·rw[if_neg hvw]
   constructor
   ·rintro(h1|rfl)
    ·exact .inl h1
    ·exact .inl (by rw[hu];rfl)
   ·rintro(h1|rfl)
    ·exact .inl h1
    ·exact absurd rfl hvw
structure zfa(ch:List (List Int))(mate0:List (Option Int))(own0:List (Int×Nat))(v0:Int)(root:Nat)(mate:List (Option Int))(own:List (Int×Nat)):Prop where
 inv:sk ch mate own
 nones:∀p:Nat,mate[p]?=some none↔(mate0[p]?=some none/\p≠root)
 some_:∀w,(ag own w).isSome↔((ag own0 w).isSome\/w=v0)
theorem KD.last{ch:List (List Int)}{mate0 mate:List (Option Int)}{own0 own:List (Int×Nat)}{v0 v:Int}{p:Nat}(h:KD ch mate0 own0 v0 mate own v)(hv:yl ch v p)(hm:mate[p]?=some none) :
  zfa ch mate0 own0 v0 p (mate.set p (some v)) (ks own v p):=by
 have hlt:p<mate.length:=(List.getElem?_eq_some_iff.mp hm).1
 refine⟨⟨by simp[h.len],λw q=>?_,λw q=>?_,?_⟩,λq=>?_,λw=>?_⟩
 ·rw[Zs]
  by_cases hvw:v=w
  ·subst hvw
   simp only[if_true]
   by_cases hq:p=q
   ·subst hq;simp[List.getElem?_set_self hlt]
   ·rw[List.getElem?_set_ne hq]
    simp only[Option.some.injEq,hq,false_iff]
    exact h.out q
  ·rw[if_neg hvw]
   by_cases hq:p=q
   ·subst hq
    rw[List.getElem?_set_self hlt,h.agree w (λe=>hvw e.symm) p,hm]
    simp only[Option.some.injEq,reduceCtorEq,false_iff]
    exact hvw
   ·rw[List.getElem?_set_ne hq,h.agree w (λe=>hvw e.symm) q]
 ·rw[Zs]
  by_cases hvw:v=w
  ·subst hvw
   simp only[if_true,Option.some.injEq]
   rintro rfl;exact hv
  ·rw[if_neg hvw];exact h.sub w (λe=>hvw e.symm) q
 ·rw[W1]
  split
  ·exact h.keys
  ·rename_i hn
   rw[List.nodup_append]
   exact⟨h.keys,by simp,λa ha b hb e=>by simp at hb;subst hb;subst e;exact hn ha⟩
 ·by_cases hq:p=q
  ·subst hq;rw[List.getElem?_set_self hlt];simp
  ·rw[List.getElem?_set_ne hq,h.nones q]
   exact⟨λe=>⟨e,λe2=>hq e2.symm⟩,λe=>e.1⟩
 ·rw[<-h.some_ w,Zs]
  by_cases hvw:v=w
  ·subst hvw;simp
  ·rw[if_neg hvw]
   constructor
   ·exact .inl
   ·rintro(h1|rfl)
    ·exact h1
    ·exact absurd rfl hvw
theorem sk.start{ch:List (List Int)}{mate:List (Option Int)}{own:List (Int×Nat)}{v:Int}(h:sk ch mate own)(hs:SmC ch)(hv:ag own v=none):KD ch mate own v mate own v where
 len:=h.len
 agree:=λw _ p=>h.agree w p
 out:=λp e=>by have:=(h.agree v p).mpr e;rw[hv] at this;cases this
 sub:=λw _=>h.sub w
 keys:=h.keys
 small:=λw hw=>by
  cases e:ag own w with
  |none=>exact absurd hw (Jt.mp e)
  |some p=>exact(h.sub w p e).small hs
 nones:=λp=>Iff.rfl
 some_:=λw=>Iff.rfl
theorem MR.dfs{M:MR}(h:M.Ok):Df M.m M.o/\Df M.o M.m/\Df M.m M.r/\Df M.o M.r/\Df M.m M.c/\Df M.o M.c:=by
 have h1:=h.m
 have h2:=h.o
 simp only[List.mem_cons,not_or] at h1 h2
 exact⟨h1.1,h2.1,h1.2.1,h2.2.1,h1.2.2.1,h2.2.2.1⟩
theorem yy.write{mh mh':MH}{M:MR}{ch:List (List Int)}{mate mate':List (Option Int)}{own own':List (Int×Nat)}(x:yy mh M ch mate own)(ok:M.Ok)(s:Same [M.m,M.o] mh mh')
  (h1:mh'[M.m]?=some (.list (mate'.map US))) (h2:mh'[M.o]?=some (.idict (wU own'))):yy mh' M ch mate' own':=by
 have a:=ok.m
 have b:=ok.o
 simp only[List.mem_cons,not_or] at a b
 refine⟨s.at x.inst ?_,s.at x.choices ?_,x.lists.same s λi hi=>?_,h1,h2⟩
 ·simp;exact⟨λe=>a.2.1 e.symm,λe=>b.2.1 e.symm⟩
 ·simp;exact⟨λe=>a.2.2.1 e.symm,λe=>b.2.2.1 e.symm⟩
 ·simp;exact⟨λe=>a.2.2.2 (e▸hi),λe=>b.2.2.2 (e▸hi)⟩
noncomputable def sx:MF:=λargs Q mh=>X9 λM ch mate own came rc v root ps=>N11 (args=[.ref M.r,.int v,.ref rc]) (yy mh M ch mate own) (M.Ok) (mh[rc]?=some (.idict (wU came))) (Df M.m rc) (Df M.o rc) (SmC ch) (sk ch mate own) (ag own v=none) (Z6 ch came mate root ps v) (∀mh' mate' own',Same [M.m,M.o] mh mh'->yy mh' M ch mate' own'->zfa ch mate own v root mate' own'->Q .none mh')
theorem Z6.head{ch:List (List Int)}{came:List (Int×Nat)}{mate:List (Option Int)}{root:Nat}{ps:List Nat}{v:Int}(h:Z6 ch came mate root ps v):∃p,ag came v=some p/\yl ch v p/\
  ((mate[p]?=some none/\p=root/\ps=[p])\/∃u ps',mate[p]?=some (some u)/\ps=p::ps'/\Z6 ch came mate root ps' u/\p∉ps'):=by
 cases h with
 |last h1 h2 h3=>exact⟨_,h1,h2,.inl ⟨h3,rfl,rfl⟩⟩
 |step h1 h2 h3 h4 h5=>exact⟨_,h1,h2,.inr ⟨_,_,h3,rfl,h4,h5⟩⟩
theorem UV:∀args Q mh,sx args Q mh->yQ ["self","v","came"] un args Q mh:=by
 rintro args Q mh0 ⟨M,ch,mate0,own0,came,rc,v0,root,ps0,rfl,X0,ok,hc0,dm,do_,sc,I0,hv0,P0,o⟩
 apply jF
 obtain⟨_,_,_,_,_,_⟩:=MR.dfs ok
 have hlen:=I0.len
 have hsc:=sc.1
 refine⟨ps0.length+1,qS (λn loc mh=>loc "self" = some (.ref M.r)/\loc "came" = some (.ref rc)/\Same [M.m,M.o] mh0 mh/\
  ((∃v ps mate own,loc "v" = some (.int v)/\n=ps.length+1/\yy mh M ch mate own/\KD ch mate0 own0 v0 mate own v/\Z6 ch came mate root ps v)\/
   ∃mate own,n=1/\loc "v" = some .none/\yy mh M ch mate own/\zfa ch mate0 own0 v0 root mate own)) ?_ ?_ _ _ _ ?_⟩
 ·rintro n loc mh K hK hR ⟨h1,h2,hs,⟨v,ps,mate,own,h3,h4,X,H,P⟩|⟨mate,own,h3,h4,X,H⟩⟩
  ·have e1:=X.inst
   have e2:=X.mate
   have e3:=X.owner
   have e4:mh[rc]?=some (.idict (wU came)):=hs.at hc0 (by simp;exact⟨λe=>dm e.symm,λe=>do_ e.symm⟩)
   have g2:=zm e2
   have g3:=zm e3
   obtain⟨p,hp,hin,hcase⟩:=P.head
   have hpl:p<mate.length:=by rcases hcase with⟨h,_⟩|⟨u,ps',h,_⟩<;>exact(List.getElem?_eq_some_iff.mp h).1
   have hps:p<=1000:=by have:=H.len;lia
   have hag:wR (wU came) v=some (.int (p:Int)):=by rw[jR,hp];rfl
   have hol:(wU own).length<=BIG:=by
    rw[tL]
    have:=xp H.keys H.small
    simp at this
    unfold BIG;exact ltk
   have hks:xi (wU own) v (.int (p:Int))=wU (ks own v p):=XC
   obtain⟨x,hx⟩:∃x,mate[p]?=some x:=⟨_,List.getElem?_eq_getElem hpl⟩
   walk_at "w"
   walk_at "s"
   walk_at "n"
   walk_at "n"
   walk_at "n"
   walk_at "n"
   have hmm:(mate.map US).set p (.int v)=(mate.set p (some v)).map US:=by rw[List.map_set];rfl
   have hS:Same [M.m,M.o] mh ((mh.set M.m (.list ((mate.map US).set p (.int v)))).set M.o (.idict (wU (ks own v p)))):=by walk_at "sm"
   have X':yy ((mh.set M.m (.list ((mate.map US).set p (.int v)))).set M.o (.idict (wU (ks own v p)))) M ch (mate.set p (some v)) (ks own v p):=X.write ok hS (by rw[<-hmm];walk_at "ne") (by walk_at "ne")
   rcases hcase with⟨hn,rfl,rfl⟩|⟨u,ps',hu,rfl,P',hnp⟩
   ·rw[hx] at hn;cases hn
    refine hK _ _ ⟨by walk_at "ne",by walk_at "ne",hs.trans hS,.inr ⟨_,_,by simpa using h4,hit,X',H.last hin hx⟩⟩
   ·rw[hx] at hu;cases hu
    refine hK _ _ ⟨by walk_at "ne",by walk_at "ne",hs.trans hS,.inl ⟨u,ps',_,_,hit,by simpa using h4,X',H.step sc hin hx,P'.set hnp⟩⟩
  ·walk_at "w"
   exact o _ _ _ hs X H
 ·rintro loc mh ⟨-,-,-,⟨v,ps,mate,own,-,h,-⟩|⟨mate,own,h,-⟩⟩<;>lia
 ·exact⟨by walk_at "ne",by walk_at "ne",.refl,.inl ⟨v0,ps0,mate0,own0,by walk_at "ne",rfl,X0,I0.start sc hv0,P0⟩⟩
theorem qE{α:Type}{l:List α}:l.Nodup↔∀(i j:Nat) (x:α),i<j->l[i]?=some x->l[j]?=some x->False:=by
 unfold List.Nodup
 rw[List.pairwise_iff_getElem]
 constructor
 ·intro h i j x hij h1 h2
  obtain⟨a,e1⟩:=List.getElem?_eq_some_iff.mp h1
  obtain⟨b,e2⟩:=List.getElem?_eq_some_iff.mp h2
  exact h i j a b hij (e1.trans e2.symm)
 ·intro h i j hi hj hij e
  exact h i j l[i] hij (List.getElem?_eq_getElem _) (by rw[e];simp[hj])
structure Bfs(ch:List (List Int))(mate:List (Option Int))(own:List (Int×Nat))(root:Nat)(came:List (Int×Nat))(places:List Nat):Prop where
 len:places.length=came.length+1
 head:places[0]?=some root
 zip:∀(i:Nat) v p,came[i]?=some (v,p)->∃q,ag own v=some q/\places[i+1]?=some q
 keys:(came.map (·.1)).Nodup
 inch:∀v p,(v,p)∈came->yl ch v p
 parent:∀(i:Nat) v p,came[i]?=some (v,p)->∃j,j<=i/\places[j]?=some p
theorem zl5{l:List (Int×Nat)}(h:(l.map (·.1)).Nodup){v:Int}{p:Nat}(hm:(v,p)∈l):ag l v=some p:=by
 induction l with
 |nil=>cases hm
 |cons q l ih=>
  obtain⟨y,z⟩:=q
  rw[uc]
  simp only[List.map_cons,List.nodup_cons] at h
  rcases List.mem_cons.mp hm with e|e
  ·cases e;simp
  ·rw[if_neg (λe2=>h.1 (List.mem_map.mpr ⟨_,e,e2.symm⟩))]
   exact ih h.2 e
theorem zi7{l:List (Int×Nat)}{v:Int}{p:Nat}(h:ag l v=some p):(v,p)∈l:=by
 induction l with
 |nil=>cases h
 |cons q l ih=>
  obtain⟨y,z⟩:=q
  rw[uc] at h
  split at h
  ·rename_i e;cases h;subst e;exact .head _
  ·exact .tail _ (ih h)
theorem Bfs.place{ch:List (List Int)}{mate:List (Option Int)}{own:List (Int×Nat)}{root:Nat}{came:List (Int×Nat)}{places:List Nat}(b:Bfs ch mate own root came places){j q:Nat}(h:places[j+1]?=some q) :
  ∃v p,came[j]?=some (v,p)/\ag own v=some q:=by
 have hj:j<came.length:=by
  have:=(List.getElem?_eq_some_iff.mp h).1
  rw[b.len] at this;exact(λ{a b}=>Nat.succ_lt_succ_iff.mp) this
 have hc:came[j]?=some (came[j].1,came[j].2):=List.getElem?_eq_getElem _
 obtain⟨q',h1,h2⟩:=b.zip j came[j].1 came[j].2 hc
 rw[h] at h2;cases h2
 exact⟨_,_,hc,h1⟩
theorem Bfs.nodup{ch:List (List Int)}{mate:List (Option Int)}{own:List (Int×Nat)}{root:Nat}{came:List (Int×Nat)}{places:List Nat}(b:Bfs ch mate own root came places)(I:sk ch mate own)(hr:mate[root]?=some none) :
  places.Nodup:=by
 rw[qE]
 have inj:∀(i j q:Nat),i<j->places[i]?=some q->places[j]?=some q->False:=by
  intro i j q hij h1 h2
  cases j with
  |zero=>exact Nat.not_succ_le_zero i hij
  |succ j=>
   obtain⟨v,p,e1,e2⟩:=b.place h2
   have m2:=(I.agree v q).mp e2
   cases i with
   |zero=>
    rw[b.head] at h1;cases h1
    rw[hr] at m2;cases m2
   |succ i=>
    obtain⟨v',p',e3,e4⟩:=b.place h1
    have m4:=(I.agree v' q).mp e4
    rw[m2] at m4
    simp only[Option.some.injEq] at m4
    subst m4
    have hi:i<came.length:=(List.getElem?_eq_some_iff.mp e3).1
    have hj:j<came.length:=(List.getElem?_eq_some_iff.mp e1).1
    exact qE.mp b.keys i j v (by lia) (by rw[List.getElem?_map,e3];rfl) (by rw[List.getElem?_map,e1];rfl)
 exact inj
theorem Bfs.path{ch:List (List Int)}{mate:List (Option Int)}{own:List (Int×Nat)}{root:Nat}{came:List (Int×Nat)}{places:List Nat}(b:Bfs ch mate own root came places)(I:sk ch mate own)(hr:mate[root]?=some none)(came':List (Int×Nat))
  (hc:∀v p,ag came v=some p->ag came' v=some p):∀(n j:Nat),j<n->∀(v:Int) (p:Nat),places[j]?=some p->ag came' v=some p->yl ch v p->∃ps,Z6 ch came' mate root ps v/\∀q∈ps,∃i,i<=j/\places[i]?=some q
 |0,j,h,v,p,h1,h2,h3=>by lia
 |n+1,0,h,v,p,h1,h2,h3=>by
  rw[b.head] at h1;cases h1
  exact⟨[root],.last h2 h3 hr,λq hq=>⟨0,Nat.le_refl _,by simp at hq;subst hq;exact b.head⟩⟩
 |n+1,j+1,h,v,p,h1,h2,h3=>by
  obtain⟨u,pu,e1,e2⟩:=b.place h1
  have hm:=List.mem_of_getElem? e1
  obtain⟨i,hi,e3⟩:=b.parent j u pu e1
  obtain⟨ps,P,hps⟩:=Bfs.path b I hr came' hc n i (by lia) u pu e3 (hc u pu (zl5 b.keys hm)) (b.inch u pu hm)
  refine⟨p::ps,.step h2 h3 ((I.agree u p).mp e2) P λhp=>?_,λq hq=>?_⟩
  ·obtain⟨i',hi',e4⟩:=hps p hp
   exact qE.mp (b.nodup I hr) i' (j+1) p (by lia) e4 h1
  ·rcases List.mem_cons.mp hq with rfl|hq
   ·exact⟨j+1,Nat.le_refl _,h1⟩
   ·obtain⟨i',hi',e4⟩:=hps q hq
    exact⟨i',by lia,e4⟩
theorem Bfs.start{ch:List (List Int)}{mate:List (Option Int)}{own:List (Int×Nat)}{root:Nat}:Bfs ch mate own root [] [root]:=
 ⟨rfl,rfl,λi v p h=>(by simp at h),List.nodup_nil,λv p h=>(by cases h),λi v p h=>(by simp at h)⟩
theorem Bfs.snoc{ch:List (List Int)}{mate:List (Option Int)}{own:List (Int×Nat)}{root:Nat}{came:List (Int×Nat)}{places:List Nat}(b:Bfs ch mate own root came places){v:Int}{p q k:Nat}(hv:ag came v=none)(hq:ag own v=some q)(hi:yl ch v p)(hk:places[k]?=some p) :
  Bfs ch mate own root (came++[(v,p)]) (places++[q]):=by
 have hlen:=b.len
 have hkl:k<places.length:=(List.getElem?_eq_some_iff.mp hk).1
 refine⟨by simp[hlen],?_,λi w r h=>?_,?_,λw r h=>?_,λi w r h=>?_⟩
 ·rw[List.getElem?_append_left (Nat.zero_lt_of_lt hkl)];exact b.head
 ·by_cases hic:i<came.length
  ·rw[List.getElem?_append_left hic] at h
   obtain⟨q',h1,h2⟩:=b.zip i w r h
   exact⟨q',h1,by rw[List.getElem?_append_left (place_lt h2)];exact h2⟩
  ·have:i=came.length:=by
    have:=(List.getElem?_eq_some_iff.mp h).1
    simp at this;exact Nat.eq_of_lt_succ_of_not_lt this hic
   subst this
   simp at h
   obtain⟨rfl,rfl⟩:=h
   exact⟨q,hq,by rw[<-hlen];simp⟩
 ·rw[List.map_append,List.nodup_append]
  refine⟨b.keys,by simp,λa ha c hc e=>?_⟩
  simp at hc;subst hc;subst e
  exact Jt.mp hv ha
 ·rcases List.mem_append.mp h with h|h
  ·exact b.inch w r h
  ·simp at h;obtain⟨rfl,rfl⟩:=h;exact hi
 ·by_cases hic:i<came.length
  ·rw[List.getElem?_append_left hic] at h
   obtain⟨j,h1,h2⟩:=b.parent i w r h
   exact⟨j,h1,by rw[List.getElem?_append_left (place_lt h2)];exact h2⟩
  ·have:i=came.length:=by
    have:=(List.getElem?_eq_some_iff.mp h).1
    simp at this;exact Nat.eq_of_lt_succ_of_not_lt this hic
   subst this
   simp at h
   obtain⟨rfl,rfl⟩:=h
   exact⟨k,by lia,by rw[List.getElem?_append_left hkl];exact hk⟩
structure za1(ch:List (List Int))(root:Nat)(places:List Nat)(few:List Int):Prop where
 len:places.length=few.length+1
 nodup:places.Nodup
 fnodup:few.Nodup
 sorted:wh few
 root:root∈places
 shut:∀p∈places,∃l,ch[p]?=some l/\∀v∈l,v∈few
 near:∀v∈few,∃p∈places,yl ch v p
theorem Yh{xs:List Nat}{n:Nat}:z3 xs++[.int (n:Int)]=z3 (xs++[n]):=by simp[z3]
structure jU(mh0:MH)(M:MR)(ch:List (List Int))(mate:List (Option Int))(own:List (Int×Nat))(root rcm rp k:Nat)(loc:Loc)(mh:MH)(came:List (Int×Nat))(places:List Nat):Prop where
 self:loc "self" = some (.ref M.r)
 lc:loc "came" = some (.ref rcm)
 lp:loc "places" = some (.ref rp)
 lk:loc "k" = some (.int (k:Int))
 same:Same [] mh0 mh
 mc:mh[rcm]?=some (.idict (wU came))
 mp:mh[rp]?=some (.list (z3 places))
 bfs:Bfs ch mate own root came places
 done:∀i,i<k->∀p,places[i]?=some p->∀v,yl ch v p->(ag came v).isSome
noncomputable def XU:MF:=λargs Q mh=>X5 λM ch mate own (pl:Nat)=>N9 (args=[.ref M.r,.int (pl:Int)]) (yy mh M ch mate own) (M.Ok) ((∀i∈M.refs,i<mh.length)) (SmC ch) (sk ch mate own) (mate[pl]?=some none) ((∀mh' mate' own' v,Same [M.m,M.o] mh mh'->yy mh' M ch mate' own'->zfa ch mate own v pl mate' own'->Q .none mh')) (∀mh' r1 r2 places few,Same [] mh mh'->mh'[r1]?=some (.list (z3 places))->mh'[r2]?=some (.list (zi few))->mh.length<=r1->mh.length<=r2->za1 ch pl places few->Q (.tuple [.ref r1,.ref r2]) mh')
theorem JC{mh0:MH}{M:MR}{ch:List (List Int)}{mate:List (Option Int)}{own:List (Int×Nat)}{root rcm rp k:Nat}{Q:Fl->Loc->MH->Prop}(X0:yy mh0 M ch mate own)(ok:M.Ok)(hrefs:∀i∈M.refs,i<mh0.length)(sc:SmC ch)(I0:sk ch mate own)(hr:mate[root]?=some none)
  (h1:mh0.length<=rcm) (h2:mh0.length<=rp) (h3:rcm≠rp) {p rl:Nat}{l:List Int}(hl:ch[p]?=some l) (hrl:mh0[rl]?=some (.list (zi l)))
  {loc:Loc}{mh:MH}{came:List (Int×Nat)}{places:List Nat}(s:jU mh0 M ch mate own root rcm rp k loc mh came places) (hk:places[k]?=some p)
  (on:∀loc mh came places,jU mh0 M ch mate own root rcm rp k loc mh came places->places[k]?=some p->(∀v∈l,(ag came v).isSome)->Q .next loc mh)
  (or:∀loc mh' mate' own' v,Same [M.m,M.o] mh0 mh'->yy mh' M ch mate' own'->zfa ch mate own v root mate' own'->Q (.ret .none) loc mh') :
  Yx (.val (.ref rl)) (zi l) (zP "v") (uR sx) (zi l) loc Q mh:=by
 refine y7 (λrest loc mh=>X4 λcame places dn rest'=>N5 (l=dn++rest') (rest=zi rest') (jU mh0 M ch mate own root rcm rp k loc mh came places) (places[k]?=some p) (∀v∈dn,(ag came v).isSome)) ?_ ?_ ?_ _ _ _ ⟨came,places,[],l,rfl,rfl,s,hk,nA⟩
 ·rintro rest loc mh ⟨came,places,dn,rest',-,-,s,-⟩
  exact s.same.at hrl nN
 ·rintro v rest loc mh K hK hR ⟨came,places,dn,rest',e1,e2,s,hk,hdn⟩
  cases rest' with
  |nil=>cases e2
  |cons u rest'=>
   cases e2
   have hin:yl ch u p:=⟨l,hl,by rw[e1];simp⟩
   have hu:=hin.small sc
   have X:=X0.same s.same nA
   have f1:=X.inst
   have f2:=X.owner
   have f3:=s.mc
   have f4:=s.mp
   have f5:=s.self
   have f6:=s.lc
   have f7:=s.lp
   have f8:=s.lk
   have g3:=zm f3
   have g4:=zm f4
   have hb:came.length<=41:=by
    have:=xp s.bfs.keys λw hw=>by
     obtain⟨⟨w',q⟩,hm,rfl⟩:=List.mem_map.mp hw
     exact(s.bfs.inch w' q hm).small sc
    simpa using this
   have hkk:k<=1000:=by
    have:=(List.getElem?_eq_some_iff.mp hk).1
    rw[s.bfs.len] at this;lia
   have hbig:(wU came).length<=BIG:=by rw[tL];unfold BIG;exact ltk
   walk_at "w"
   rw[YB]
   cases hcu:ag came u with
   |some q=>
    refine ZF rfl ?_
    refine hK _ _ ⟨came,places,dn++[u],rest',by rw[e1];simp,rfl,⟨?_,?_,?_,?_,s.same,f3,f4,s.bfs,s.done⟩,hk,?_⟩
    ·walk_at "ne"
    ·walk_at "ne"
    ·walk_at "ne"
    ·walk_at "ne"
    ·intro w hw
     rcases List.mem_append.mp hw with h|h
     ·exact hdn w h
     ·simp at h;subst h;rw[hcu];rfl
   |none=>
    refine Vb rfl ?_
    have d1:Df rcm rp:=h3
    have d2:Df rp rcm:=λe=>h3 e.symm
    have hm:=hrefs M.m (.tail _ (.tail _ (.head _)))
    have ho:=hrefs M.o (.tail _ (.tail _ (.tail _ (.head _))))
    have hrr:=hrefs M.r (.head _)
    have d3:Df rcm M.r:=λe=>by lia
    have d4:Df rcm M.o:=λe=>by lia
    have d5:Df rp M.r:=λe=>by lia
    have d6:Df rp M.o:=λe=>by lia
    have hcn:ks came u p=came++[(u,p)]:=zcj hcu
    have hks:xi (wU came) u (.int (p:Int))=wU (came++[(u,p)]):=by rw[XC,hcn]
    walk_at "s"
    have hag:∀w r,ag came w=some r->ag (came++[(u,p)]) w=some r:=λw r h=>by
     rw[<-hcn,Zs]
     split
     ·rename_i e;subst e;rw[hcu] at h;cases h
     ·exact h
    have hagu:ag (came++[(u,p)]) u=some p:=by rw[<-hcn,Zs];simp
    have hS:Same [rcm] mh (mh.set rcm (.idict (wU (came++[(u,p)])))):=.set (List.mem_singleton_self _)
    have hS0:Same [] mh0 (mh.set rcm (.idict (wU (came++[(u,p)])))):=(((s.same.mono nE).trans hS).old (nG (by assumption)))
    walk_at "n"
    rw[YB]
    cases hou:ag own u with
    |none=>
     refine Vb rfl ?_
     obtain⟨ps,P,-⟩:=s.bfs.path I0 hr _ hag (k+1) k (by lia) u p hk hagu hin
     walk_at "s"
     have X1:=X0.same hS0 nA
     refine⟨M,ch,mate,own,came++[(u,p)],rcm,u,root,ps,rfl,X1,ok,by rw[yW f3],?_,?_,sc,I0,hou,P,λmh' mate' own' hs' X' H'=>?_⟩
     ·exact λe=>by lia
     ·exact λe=>by lia
     ·walk_at "n"
      exact hR _ _ _ (or _ _ _ _ _ ((hS0.mono nA).trans hs') X' H')
    |some q=>
     refine ZF rfl ?_
     have hb2:(z3 places).length<=BIG:=by simp only[List.length_map,s.bfs.len];unfold BIG;lia
     have hao:wR (wU own) u=some (.int (q:Int)):=by rw[jR,hou];rfl
     walk_at "n"
     rw[Yh]
     refine hK _ _ ⟨came++[(u,p)],places++[q],dn++[u],rest',by rw[e1];simp,rfl,⟨?_,?_,?_,?_,?_,?_,?_,s.bfs.snoc hcu hou hin hk,?_⟩,?_,?_⟩
     ·walk_at "ne"
     ·walk_at "ne"
     ·walk_at "ne"
     ·walk_at "ne"
     ·exact((hS0.mono nE).trans (Same.set (S:=[rp]) (List.mem_singleton_self _))).old (nG (by assumption))
     ·rw[List.getElem?_set_ne d2,yW f3]
     ·have:(mh.set rcm (.idict (wU (came++[(u,p)]))))[rp]?=some (.list (z3 places)):=by rw[List.getElem?_set_ne d1];exact f4
      rw[yW this]
     ·intro i hi r hr' w hw
      have hil:i<places.length:=by have:=(List.getElem?_eq_some_iff.mp hk).1;lia
      rw[List.getElem?_append_left hil] at hr'
      cases e:ag came w with
      |none=>have:=s.done i hi r hr' w hw;rw[e] at this;cases this
      |some z=>rw[hag w z e];rfl
     ·rw[List.getElem?_append_left (List.getElem?_eq_some_iff.mp hk).1];exact hk
     ·intro w hw
      rcases List.mem_append.mp hw with h|h
      ·cases e:ag came w with
       |none=>have:=hdn w h;rw[e] at this;cases this
       |some z=>rw[hag w z e];rfl
      ·simp at h;subst h;rw[hagu];rfl
 ·rintro loc mh ⟨came,places,dn,rest',e1,e2,s,hk,hdn⟩
  cases rest' with
  |nil=>simp at e1;subst e1;exact on _ _ _ _ s hk hdn
  |cons u rest'=>cases e2
theorem jU.lack{mh0 mh:MH}{M:MR}{ch:List (List Int)}{mate:List (Option Int)}{own:List (Int×Nat)}{root rcm rp k:Nat}{loc:Loc}{came:List (Int×Nat)}{places:List Nat}(s:jU mh0 M ch mate own root rcm rp k loc mh came places)(sc:SmC ch)(I:sk ch mate own)(hr:mate[root]?=some none)
  (hk:places.length<=k) {few:List Int}(hp:few.Perm (came.map (·.1))) (hs:wh few):za1 ch root places few where
 len:=by rw[s.bfs.len,hp.length_eq];simp
 nodup:=s.bfs.nodup I hr
 fnodup:=hp.nodup_iff.mpr s.bfs.keys
 sorted:=hs
 root:=List.mem_of_getElem? s.bfs.head
 shut:=λp hp'=>by
  obtain⟨i,hi,rfl⟩:=List.mem_iff_getElem.mp hp'
  have hpi:places[i]?=some places[i]:=List.getElem?_eq_getElem _
  have hlt:places[i]<ch.length:=by
   cases i with
   |zero=>
    have:=s.bfs.head
    rw[hpi] at this
    rw[Option.some.inj this,<-I.len]
    exact(List.getElem?_eq_some_iff.mp hr).1
   |succ j=>
    obtain⟨v,q,e1,e2⟩:=s.bfs.place hpi
    obtain⟨l,h1,h2⟩:=I.sub v _ e2
    exact(List.getElem?_eq_some_iff.mp h1).1
  refine⟨ch[places[i]],List.getElem?_eq_getElem _,λv hv=>?_⟩
  have:=s.done i (Nat.lt_of_lt_of_le hi hk) _ hpi v ⟨_,List.getElem?_eq_getElem _,hv⟩
  rw[hp.mem_iff]
  cases e:ag came v with
  |none=>rw[e] at this;cases this
  |some z=>exact List.mem_map.mpr ⟨_,zi7 e,rfl⟩
 near:=λv hv=>by
  rw[hp.mem_iff] at hv
  obtain⟨⟨v',q⟩,hm,rfl⟩:=List.mem_map.mp hv
  obtain⟨i,hi⟩:=List.getElem?_of_mem hm
  obtain⟨j,_,hj⟩:=s.bfs.parent i _ _ hi
  exact⟨q,List.mem_of_getElem? hj,s.bfs.inch _ _ hm⟩
theorem zfw:∀args Q mh,XU args Q mh->yQ ["self","place"] (ty sx) args Q mh:=by
 rintro args Q mh0 ⟨M,ch,mate,own,root,rfl,X0,ok,hrefs,sc,I0,hr,o1,o2⟩
 apply xA
 apply seq_i
 refine swap3_i ?_
 walk_at "w"
 apply cont_i
 apply seq_i
 have hd:mh0.length≠mh0.length+1:=Nat.ne_add_one (List.length mh0)
 have hrl:root<ch.length:=by rw[<-I0.len];exact(List.getElem?_eq_some_iff.mp hr).1
 refine⟨43,qS (λn loc mh=>X3 λcame places k=>N3 (n+k=43) (k<=places.length) (jU mh0 M ch mate own root mh0.length (mh0.length+1) k loc mh came places)) ?_ ?_ _ _ _ ?_⟩
 ·rintro n loc mh K hK hR ⟨came,places,k,hn,hkl,s⟩
  have hb:came.length<=41:=by
   have:=xp s.bfs.keys λw hw=>by
    obtain⟨⟨w',q⟩,hm,rfl⟩:=List.mem_map.mp hw
    exact(s.bfs.inch w' q hm).small sc
   simpa using this
  have X:=X0.same s.same nA
  have f1:=X.inst
  have f3:=s.mc
  have f4:=s.mp
  have f5:=s.self
  have f6:=s.lc
  have f7:=s.lp
  have f8:=s.lk
  have f9:=X.choices
  have hnl:(z3 places).length=places.length:=List.length_map _
  have hpl:=s.bfs.len
  walk_at "w"
  rw[hnl]
  refine sa (λhk=>?_) λhk=>?_
  ·have hk':k<places.length:=by exact(λ{n m}=>Int.ofNat_lt.mp) hk
   have hpk:places[k]?=some places[k]:=List.getElem?_eq_getElem _
   have hlt:places[k]<ch.length:=by
    cases k with
    |zero=>
     have:=s.bfs.head
     rw[hpk] at this
     rw[Option.some.inj this];exact hrl
    |succ j=>
     obtain⟨v,q,e1,e2⟩:=s.bfs.place hpk
     obtain⟨l,h1,h2⟩:=I0.sub v _ e2
     exact(List.getElem?_eq_some_iff.mp h1).1
   have hp1000:places[k]<=1000:=by have:=sc.1;lia
   have hch:ch[places[k]]?=some ch[places[k]]:=List.getElem?_eq_getElem _
   obtain⟨rl,hc1,hc2⟩:=X0.lists.get hch
   have hc3:=s.same.at hc2 nN
   walk_at "s"
   refine⟨_,JC X0 ok hrefs sc I0 hr (Nat.le_refl _) (Nat.le_succ _) hd hch hc2 s hpk (λloc mh came places s' hk2 hall=>?_) (λloc mh' mate' own' v hs' X' H'=>?_)⟩
   ·have f8':=s'.lk
    walk_at "n"
    refine hK _ _ ⟨came,places,k+1,by lia,?_,⟨?_,?_,?_,?_,s'.same,s'.mc,s'.mp,s'.bfs,?_⟩⟩
    ·exact(List.getElem?_eq_some_iff.mp hk2).1
    ·exact(miss rfl s'.self)
    ·exact(miss rfl s'.lc)
    ·exact(miss rfl s'.lp)
    ·exact hit
    ·intro i hi p hp v hv
     by_cases hik:i<k
     ·exact s'.done i hik p hp v hv
     ·have:i=k:=by exact Nat.eq_of_lt_succ_of_not_lt hi hik
      subst this
      rw[hk2] at hp;cases hp
      obtain⟨l,e1,e2⟩:=hv
      rw[hch] at e1;cases e1
      exact hall v e2
   ·apply contr_i
    exact hR _ _ _ (o1 _ _ _ _ hs' X' H')
  ·walk_at "n"
   have hgk:wm (.ref mh0.length) ((came.map (·.1)).map MV.int) mh:=by
    have:=Zk f3 (by rw[tL];unfold BIG;exact ltk)
    simpa[wU,List.map_map,Function.comp_def] using this
   refine⟨came.map (·.1),hgk,by simp;exact Nat.lt_of_le_of_lt (by assumption) (by decide),λns hp hs=>?_⟩
   walk_at "w"
   refine o2 _ _ _ places ns (s.same.trans .append) ?_ zB (Nat.le_succ _) ?_ (s.lack sc I0 hr (by lia) hp hs)
   ·rw[List.getElem?_append_left (zm f4)];exact f4
   ·exact s.same.le
 ·rintro loc mh ⟨came,places,k,h1,h2,s⟩
  have hb:came.length<=41:=by
   have:=xp s.bfs.keys λw hw=>by
    obtain⟨⟨w',q⟩,hm,rfl⟩:=List.mem_map.mp hw
    exact(s.bfs.inch w' q hm).small sc
   simpa using this
  have:=s.bfs.len
  lia
 ·refine⟨[],[root],0,rfl,Nat.le_succ _,?_,?_,?_,?_,Same.append.trans .append,?_,?_,.start,by simp⟩
  ·walk_at "ne"
  ·walk_at "ne"
  ·walk_at "ne"
  ·show _=some (MV.int 0);walk_at "ne"
  ·show _=some (MO.idict []);walk_at "ne"
  ·show _=some (MO.list [.int (root:Int)]);walk_at "ne"
noncomputable def vw(l:List Int):List (Int×MV):=l.map λv=>(v,MV.bool true)
theorem ze4{l:List Int}{v:Int}:((vw l).any λkv=>decide (kv.1=v))=decide (v∈l):=by
 induction l with
 |nil=>simp[vw]
 |cons y l ih=>
  show(decide (y=v) || (vw l).any _)=_
  rw[ih]
  by_cases h:y=v
  ·simp[h]
  ·simp[h]
   exact λe=>absurd e.symm h
theorem XB{l:List Int}{v:Int}(h:v∉l):xi (vw l) v (.bool true)=vw (l++[v]):=by
 induction l with
 |nil=>rfl
 |cons y l ih=>
  show xi ((y,MV.bool true)::vw l) v _=_
  rw[s9,if_neg (λe=>h (by simp[e])),ih (λe=>h (.tail _ e))]
  rfl
inductive qx(ch:List (List Int))(own:List (Int×Nat)):Int->Prop
 |free {v:Int}:ag own v=none->qx ch own v
 |step {v u:Int}{p:Nat}:ag own v=some p->yl ch u p->qx ch own u->qx ch own v
noncomputable def Jw(ch:List (List Int))(own:List (Int×Nat))(v w:Int):Prop:=∀P:Int->Prop,(∀x p y,ag own x=some p->yl ch y p->P y->P x)->P w->P v
theorem Jw.leads{ch:List (List Int)}{own:List (Int×Nat)}{v w:Int}(h:Jw ch own v w)(l:qx ch own w):qx ch own v:=h _ (λ_ _ _ h1 h2 h3=>.step h1 h2 h3) l
structure Vg(ch:List (List Int))(own:List (Int×Nat))(v:Int)(places:List Nat)(few:List Int):Prop where
 len:places.length=few.length
 nodup:places.Nodup
 fnodup:few.Nodup
 sorted:wh few
 mem:v∈few
 owned:∀w∈few,∃p∈places,ag own w=some p
 back:∀p∈places,∃w∈few,ag own w=some p
 shut:∀p∈places,∃l,ch[p]?=some l/\∀u∈l,u∈few
 reach:∀w∈few,Jw ch own v w
structure sr(ch:List (List Int))(own:List (Int×Nat))(v:Int)(dn seen st:List Int)(places:List Nat):Prop where
 nodup:seen.Nodup
 perm:(dn++st).Perm seen
 small:∀w∈seen,-20<=w/\w<=20
 mem:v∈seen
 reach:∀w∈seen,Jw ch own v w
 places:dn.map (ag own)=places.map some
structure zib(mh0:MH)(M:MR)(ch:List (List Int))(own:List (Int×Nat))(v:Int)(rp rs rk:Nat)(loc:Loc)(mh:MH)(dn seen st:List Int)(places:List Nat):Prop where
 self:loc "self" = some (.ref M.r)
 lp:loc "places" = some (.ref rp)
 ls:loc "seen" = some (.ref rs)
 lk:loc "stack" = some (.ref rk)
 same:Same [] mh0 mh
 mp:mh[rp]?=some (.list (z3 places))
 ms:mh[rs]?=some (.idict (vw seen))
 mst:mh[rk]?=some (.list (zi st))
 inv:sr ch own v dn seen st places
theorem sr.len{ch:List (List Int)}{own:List (Int×Nat)}{v:Int}{dn seen st:List Int}{places:List Nat}(h:sr ch own v dn seen st places):places.length=dn.length/\dn.length+st.length=seen.length/\seen.length<=41:=by
 have h1:=congrArg List.length h.places
 have h2:=h.perm.length_eq
 have h3:=xp h.nodup h.small
 simp at h1 h2
 lia
theorem sr.push{ch:List (List Int)}{own:List (Int×Nat)}{v u w:Int}{p:Nat}{dn seen st:List Int}{places:List Nat}(h:sr ch own v dn seen st places)(sc:SmC ch)(hw:w∈seen)(hp:ag own w=some p)(hu:yl ch u p)(hn:u∉seen) :
  sr ch own v dn (seen++[u]) (st++[u]) places where
 nodup:=by rw[List.nodup_append];exact⟨h.nodup,by simp,λa ha b hb e=>by simp at hb;subst hb;subst e;exact hn ha⟩
 perm:=by rw[<-List.append_assoc];exact h.perm.append_right _
 small:=λx hx=>by
  rcases List.mem_append.mp hx with h1|h1
  ·exact h.small x h1
  ·simp at h1;subst h1;exact hu.small sc
 mem:=by simp[h.mem]
 reach:=λx hx=>by
  rcases List.mem_append.mp hx with h1|h1
  ·exact h.reach x h1
  ·simp at h1;subst h1;exact λP hc hP=>h.reach w hw P hc (hc _ _ _ hp hu hP)
 places:=h.places
theorem U1{mh0:MH}{M:MR}{ch:List (List Int)}{own:List (Int×Nat)}{v:Int}{rp rs rk:Nat}{Q:Fl->Loc->MH->Prop}(sc:SmC ch)(h1:mh0.length<=rp)(h2:mh0.length<=rs)(h3:mh0.length<=rk)(d1:rp≠rs)(d2:rp≠rk)(d3:rs≠rk)
  {w:Int}{p rl:Nat}{l:List Int}(hp:ag own w=some p) (hl:ch[p]?=some l) (hrl:mh0[rl]?=some (.list (zi l)))
  {loc:Loc}{mh:MH}{dn seen st:List Int}{places:List Nat}(s:zib mh0 M ch own v rp rs rk loc mh dn seen st places) (hw:w∈dn) (hsh:∀z∈dn,z≠w->∀q,ag own z=some q->∀u,yl ch u q->u∈seen)
  (on:∀loc mh seen st,zib mh0 M ch own v rp rs rk loc mh dn seen st places->(∀z∈dn,∀q,ag own z=some q->∀u,yl ch u q->u∈seen)->Q .next loc mh) :
  Yx (.val (.ref rl)) (zi l) (zP "u") w9 (zi l) loc Q mh:=by
 refine y7 (λrest loc mh=>X4 λseen st ld rest'=>N5 (l=ld++rest') (rest=zi rest') (zib mh0 M ch own v rp rs rk loc mh dn seen st places) ((∀z∈dn,z≠w->∀q,ag own z=some q->∀u,yl ch u q->u∈seen)) (∀u∈ld,u∈seen)) ?_ ?_ ?_ _ _ _ ⟨seen,st,[],l,rfl,rfl,s,hsh,nA⟩
 ·rintro rest loc mh ⟨seen,st,ld,rest',-,-,s,-⟩
  exact s.same.at hrl nN
 ·rintro x rest loc mh K hK hR ⟨seen,st,ld,rest',e1,e2,s,hsh,hld⟩
  cases rest' with
  |nil=>cases e2
  |cons u rest'=>
   cases e2
   have hin:yl ch u p:=⟨l,hl,by rw[e1];simp⟩
   have f2:=s.ls
   have f3:=s.lk
   have f4:=s.ms
   have f5:=s.mst
   have hlen:=s.inv.len
   have hsl:(vw seen).length<=BIG:=by simp[vw];unfold BIG;lia
   have hkl:(zi st).length<=BIG:=by simp[zi];unfold BIG;lia
   have hws:w∈seen:=s.inv.perm.mem_iff.mp (List.mem_append_left _ (by assumption))
   walk_at "w"
   rw[ze4]
   refine Wp (λhu=>?_) λhu=>?_
   rotate_left
   ·refine hK _ _ ⟨seen,st,ld++[u],rest',by rw[e1];simp,rfl,⟨?_,?_,?_,?_,s.same,s.mp,f4,f5,s.inv⟩,hsh,?_⟩
    ·exact miss rfl s.self
    ·exact miss rfl s.lp
    ·exact miss rfl f2
    ·exact miss rfl f3
    ·intro z hz
     rcases List.mem_append.mp hz with h|h
     ·exact hld z h
     ·simp at h;subst h;exact hu
   ·have dd1:Df rs rk:=d3
    have dd2:Df rk rs:=λe=>d3 e.symm
    have dd3:Df rs rp:=λe=>d1 e.symm
    have dd4:Df rk rp:=λe=>d2 e.symm
    have hks:=XB hu
    walk_at "s"
    walk_at "n"
    have hS:Same [rs,rk] mh ((mh.set rs (.idict (vw (seen++[u])))).set rk (.list (zi st++[.int u]))):=(Same.set (.head _)).trans (.set (.tail _ (.head _)))
    have g4:=zm f4
    have g5:=zm f5
    refine hK _ _ ⟨seen++[u],st++[u],ld++[u],rest',by rw[e1];simp,rfl,⟨?_,?_,?_,?_,?_,?_,?_,?_,s.inv.push sc hws hp hin hu⟩,?_,?_⟩
    ·exact miss rfl s.self
    ·exact miss rfl s.lp
    ·exact miss rfl f2
    ·exact miss rfl f3
    ·exact((s.same.mono nA).trans hS).old (nH (by assumption) (by assumption))
    ·have:=s.mp;walk_at "ne"
    ·walk_at "ne"
    ·rw[show zi (st++[u])=zi st++[.int u] by simp];walk_at "ne"
    ·intro z hz hzw q hq x hx
     exact List.mem_append_left _ (hsh z hz hzw q hq x hx)
    ·intro z hz
     rcases List.mem_append.mp hz with h|h
     ·exact List.mem_append_left _ (hld z h)
     ·simp at h;subst h;simp
 ·rintro loc mh ⟨seen,st,ld,rest',e1,e2,s,hsh,hld⟩
  cases rest' with
  |nil=>
   simp at e1;subst e1
   refine on _ _ _ _ s λz hz q hq u hu=>?_
   by_cases hzw:z=w
   ·subst hzw
    rw[hp] at hq;cases hq
    obtain⟨l',e3,e4⟩:=hu
    rw[hl] at e3;cases e3
    exact hld u e4
   ·exact hsh z hz hzw q hq u hu
  |cons u rest'=>cases e2
theorem yy.refs_lt{mh:MH}{M:MR}{ch:List (List Int)}{mate:List (Option Int)}{own:List (Int×Nat)}(x:yy mh M ch mate own):∀i∈M.refs,i<mh.length:=by
 intro i hi
 simp only[MR.refs,List.mem_cons] at hi
 rcases hi with rfl|rfl|rfl|rfl|hi
 ·exact zm x.inst
 ·exact zm x.choices
 ·exact zm x.mate
 ·exact zm x.owner
 ·exact x.lists.lt i hi
noncomputable def uj:MF:=λargs Q mh=>X5 λM ch mate own v=>N8 (args=[.ref M.r,.int v]) (yy mh M ch mate own) (SmC ch) (sk ch mate own) (-20<=v) (v<=20) ((∀mh',Same [] mh mh'->qx ch own v->Q .none mh')) (∀mh' r1 r2 places few,Same [] mh mh'->mh'[r1]?=some (.list (z3 places))->mh'[r2]?=some (.list (zi few))->mh.length<=r1->mh.length<=r2->Vg ch own v places few->Q (.tuple [.ref r1,.ref r2]) mh')
theorem sr.pop{ch:List (List Int)}{own:List (Int×Nat)}{v w:Int}{p:Nat}{dn seen st:List Int}{places:List Nat}(h:sr ch own v dn seen (st++[w]) places)(hp:ag own w=some p):sr ch own v (dn++[w]) seen st (places++[p]) where
 nodup:=h.nodup
 perm:=by
  refine List.Perm.trans ?_ h.perm
  rw[List.append_assoc]
  exact List.Perm.append_left _ List.perm_append_comm
 small:=h.small
 mem:=h.mem
 reach:=h.reach
 places:=by simp[h.places,hp]
theorem sr.shut{ch:List (List Int)}{own:List (Int×Nat)}{v:Int}{mate:List (Option Int)}{dn seen:List Int}{places:List Nat}(h:sr ch own v dn seen [] places)(I:sk ch mate own)
  (hs:∀z∈dn,∀q,ag own z=some q->∀u,yl ch u q->u∈seen) {few:List Int}(hp:few.Perm seen) (so:wh few):Vg ch own v places few:=by
 have hd:dn.Perm seen:=by simpa using h.perm
 have hdn:dn.Nodup:=hd.nodup_iff.mpr h.nodup
 have hl:=h.len
 have get:∀(i:Nat) p,places[i]?=some p->∃w,dn[i]?=some w/\ag own w=some p:=by
  intro i p e
  have h1:(dn.map (ag own))[i]?=(places.map some)[i]?:=by rw[h.places]
  rw[List.getElem?_map,List.getElem?_map,e] at h1
  cases z:dn[i]? with
  |none=>rw[z] at h1;cases h1
  |some w=>rw[z] at h1;exact⟨w,rfl,by simpa using h1⟩
 refine⟨?_,?_,hp.nodup_iff.mpr h.nodup,so,hp.mem_iff.mpr h.mem,λw hw=>?_,λp hp'=>?_,λp hp'=>?_,λw hw=>h.reach w (hp.mem_iff.mp hw)⟩
 ·rw[hp.length_eq];simp at hl;lia
 ·rw[qE]
  intro i j p hij e1 e2
  obtain⟨w1,a1,b1⟩:=get i p e1
  obtain⟨w2,a2,b2⟩:=get j p e2
  have c1:=(I.agree w1 p).mp b1
  have c2:=(I.agree w2 p).mp b2
  rw[c1] at c2
  simp only[Option.some.injEq] at c2
  subst c2
  exact qE.mp hdn i j w1 hij a1 a2
 ·have hw':w∈dn:=hd.mem_iff.mpr (hp.mem_iff.mp hw)
  obtain⟨i,hi⟩:=List.getElem?_of_mem hw'
  have h1:(dn.map (ag own))[i]?=(places.map some)[i]?:=by rw[h.places]
  rw[List.getElem?_map,List.getElem?_map,hi] at h1
  cases z:places[i]? with
  |none=>rw[z] at h1;cases h1
  |some p=>rw[z] at h1;exact⟨p,List.mem_of_getElem? z,by simpa using h1⟩
 ·obtain⟨i,hi⟩:=List.getElem?_of_mem hp'
  obtain⟨w,a,b⟩:=get i p hi
  exact⟨w,hp.mem_iff.mpr (hd.mem_iff.mp (List.mem_of_getElem? a)),b⟩
 ·obtain⟨i,hi⟩:=List.getElem?_of_mem hp'
  obtain⟨w,a,b⟩:=get i p hi
  obtain⟨l,e1,e2⟩:=I.sub w p b
  exact⟨l,e1,λu hu=>hp.mem_iff.mpr (hs w (List.mem_of_getElem? a) p b u ⟨l,e1,hu⟩)⟩
theorem JM:∀args Q mh,uj args Q mh->yQ ["self","v"] wI args Q mh:=by
 rintro args Q mh0 ⟨M,ch,mate,own,v,rfl,X0,sc,I0,hv1,hv2,o1,o2⟩
 apply xA
 walk_at "s"
 apply cont_i
 apply seq_i
 have a1:mh0.length≠mh0.length+1:=Nat.ne_add_one (List.length mh0)
 have a2:mh0.length≠mh0.length+1+1:=Nat.ne_of_lt (Nat.lt_add_of_pos_right (n:=mh0.length) (k:=2) (by decide))
 have a3:mh0.length+1≠mh0.length+1+1:=Nat.ne_add_one (List.length mh0+1)
 refine⟨43,qS (λn loc mh=>X4 λdn seen st places=>N3 (n+dn.length=43) (zib mh0 M ch own v mh0.length (mh0.length+1) (mh0.length+1+1) loc mh dn seen st places) ((∀z∈dn,∀q,ag own z=some q->∀u,yl ch u q->u∈seen))) ?_ ?_ _ _ _ ?_⟩
 ·rintro n loc mh K hK hR ⟨dn,seen,st,places,hn,s,hsh⟩
  have hlen:=s.inv.len
  have X:=X0.same s.same nA
  have f1:=X.inst
  have f2:=s.self
  have f3:=s.lp
  have f4:=s.ls
  have f5:=s.lk
  have f6:=s.mp
  have f7:=s.ms
  have f8:=s.mst
  have f9:=X.choices
  have f10:=X.owner
  walk_at "w"
  have k1:Same [] mh (mh++[MO.list []]):=.append
  refine tq (b:=[]) (k1.at f8 nN) zB ?_
  rcases List.eq_nil_or_concat st with rfl|⟨st',w,rfl⟩
  ·refine qB rfl ?_
   have f7':=k1.at f7 nN
   have f6':=k1.at f6 nN
   walk_at "n"
   have hgk:wm (.ref (mh0.length+1)) (seen.map MV.int) (mh++[MO.list []]):=by
    have:=Zk f7' (by simp[vw];unfold BIG;lia)
    simpa[vw,List.map_map,Function.comp_def] using this
   refine⟨seen,hgk,by omega,λns hp hs=>?_⟩
   walk_at "w"
   refine o2 _ _ _ places ns ((s.same.trans k1).trans .append) ?_ zB (Nat.le_refl _) ?_ (s.inv.shut I0 hsh hp hs)
   ·rw[List.getElem?_append_left (zm f6')];exact f6'
   ·exact Nat.le_trans s.same.le k1.le
  ·have hne:¬(st'++[w]=([]:List Int)):=by simp
   simp only[List.concat_eq_append] at *
   refine zij hne ?_
   have k1':=s.same.trans k1
   replace f1:=k1.at f1 nN
   replace f6:=k1.at f6 nN
   replace f7:=k1.at f7 nN
   replace f8:=k1.at f8 nN
   replace f9:=k1.at f9 nN
   replace f10:=k1.at f10 nN
   clear X
   generalize mh++[MO.list []]=mh1 at *
   have hst:zi (st'++[w])=zi st'++[.int w]:=List.map_append
   rw[hst] at f8
   have hc:=X0.refs_lt
   have hcr:=hc M.r (.head _)
   have hco:=hc M.o (.tail _ (.tail _ (.tail _ (.head _))))
   have hcc:=hc M.c (.tail _ (.head _))
   have g8:=zm f8
   have g6:=zm f6
   have d1:Df (mh0.length+1+1) M.r:=Nat.ne_of_gt (Nat.lt_of_lt_of_le hcr (Nat.le_add_right _ 2))
   have d2:Df (mh0.length+1+1) M.o:=Nat.ne_of_gt (Nat.lt_of_lt_of_le hco (Nat.le_add_right _ 2))
   have d3:Df (mh0.length+1+1) M.c:=Nat.ne_of_gt (Nat.lt_of_lt_of_le hcc (Nat.le_add_right _ 2))
   have d4:Df (mh0.length+1+1) mh0.length:=λe=>a2 e.symm
   have d5:Df (mh0.length+1+1) (mh0.length+1):=λe=>a3 e.symm
   have d6:Df mh0.length M.r:=Nat.ne_of_gt hcr
   have d7:Df mh0.length M.o:=Nat.ne_of_gt hco
   have d8:Df mh0.length M.c:=Nat.ne_of_gt hcc
   have d9:Df mh0.length (mh0.length+1):=λe=>a1 e
   have d10:Df mh0.length (mh0.length+1+1):=λe=>a2 e
   have hws:w∈seen:=s.inv.perm.mem_iff.mp (by simp)
   have hbs:(zi st').length<=BIG:=by simp[zi] at hlen ⊢;unfold BIG;lia
   walk_at "s"
   have hS1:Same [mh0.length+1+1] mh1 (mh1.set (mh0.length+1+1) (.list (zi st'))):=.set (List.mem_singleton_self _)
   walk_at "n"
   rw[YB]
   cases how:ag own w with
   |none=>
    refine Vb rfl ?_
    walk_at "w"
    exact hR _ _ _ (o1 _ (((k1'.mono nE).trans hS1).old (by simp;lia)) ((s.inv.reach w hws).leads (.free how)))
   |some p=>
    refine ZF rfl ?_
    obtain⟨l,hl1,hl2⟩:=I0.sub w p how
    obtain⟨rl,hc1,hc2⟩:=X0.lists.get hl1
    have hp1000:p<=1000:=by have:=(List.getElem?_eq_some_iff.mp hl1).1;have:=sc.1;lia
    have hnp:(z3 places).length<=BIG:=by simp[z3];unfold BIG;lia
    have hao:wR (wU own) w=some (.int (p:Int)):=by rw[jR,how];rfl
    walk_at "w"
    walk_at "n"
    rw[Yh]
    have hS2:Same [mh0.length+1+1,mh0.length] mh1 ((mh1.set (mh0.length+1+1) (.list (zi st'))).set mh0.length (.list (z3 (places++[p])))):=(Same.set (.head _)).trans (.set (.tail _ (.head _)))
    have hS0:Same [] mh0 ((mh1.set (mh0.length+1+1) (.list (zi st'))).set mh0.length (.list (z3 (places++[p])))):=((k1'.mono nA).trans hS2).old (by simp;lia)
    have hc3:=hS0.at hc2 nN
    walk_at "n"
    refine⟨_,U1 (M:=M) (w:=w) sc (Nat.le_refl _) (Nat.le_succ _) (by lia) a1 a2 a3 how hl1 hc2 (seen:=seen) (st:=st') (dn:=dn++[w]) (places:=places++[p]) ⟨?_,?_,?_,?_,hS0,?_,?_,?_,s.inv.pop how⟩ (List.mem_append_right _ (.head _)) ?_ ?_⟩
    ·exact miss rfl f2
    ·exact miss rfl f3
    ·exact miss rfl f4
    ·exact miss rfl f5
    ·walk_at "ne"
    ·walk_at "ne"
    ·walk_at "ne"
    ·intro z hz hzw q hq u hu
     rcases List.mem_append.mp hz with h|h
     ·exact hsh z h q hq u hu
     ·simp at h;exact absurd h hzw
    ·intro loc mh seen st s' hsh'
     exact hK _ _ ⟨dn++[w],seen,st,places++[p],by simp;lia,s',hsh'⟩
 ·rintro loc mh ⟨dn,seen,st,places,h1,s,-⟩
  have:=s.inv.len
  lia
 ·refine⟨[],[v],[v],[],rfl,⟨?_,?_,?_,?_,(Same.append.trans .append).trans .append,?_,?_,?_,⟨by simp,by rfl,by simp;exact And.symm ⟨hv2,hv1⟩,List.mem_singleton_self _,λw hw P hc h=>?_,rfl⟩⟩,nA⟩
  ·walk_at "ne"
  ·walk_at "ne"
  ·walk_at "ne"
  ·walk_at "ne"
  ·show _=some (MO.list []);walk_at "ne"
  ·show _=some (MO.idict [(v,.bool true)]);walk_at "ne"
  ·show _=some (MO.list [.int v]);walk_at "ne"
  ·simp at hw;subst hw;exact h
noncomputable def neL(x:Nat)(v:Int):Lit:=⟨x,"!=",v⟩
noncomputable def wi(few:List Int)(a b:Int)(v:Int):Bool:=decide (a<v) && decide (v<b) && decide (v∉few)
noncomputable def v9(few:List Int)(a b:Int)(x:Nat)(l:List Int):List Lit:=[⟨x,">=",a⟩,⟨x,"<=",b⟩]++(l.filter (wi few a b)).map (neL x)
noncomputable def zV(firsts:List Dom)(xs places:List Nat)(few:List Int)(a b:Int):List Lit:=places.flatMap λp=>v9 few a b (xs.getD p 0) (yt (firsts.getD (xs.getD p 0) []))
theorem za4{Q:Fl->Loc->MH->Prop}{mh0:MH}{few l:List Int}{a b:Int}{x rf rv rfo:Nat}{acc:List Lit}{loc:Loc}(h0:few[0]?=some a)(hz:few.getLast?=some b)(hl1:loc "few" = some (.ref rf))(hl2:loc "x" = some (.int (x:Int)))(hl3:loc "found" = some (.ref rfo))
  (m1:mh0[rf]?=some (.list (zi few))) (m2:mh0[rv]?=some (.list (zi l))) (m3:mh0[rfo]?=some (.list (acc.map Lit.v))) (d1:rf≠rfo) (d2:rv≠rfo) (hbig:acc.length+l.length<=BIG)
  (o:∀loc' mh',loc' "few" = some (.ref rf)->loc' "found" = some (.ref rfo)->(∀y:Str,y≠"v"->loc' y=loc y)->Same [rfo] mh0 mh'->mh'[rfo]?=some (.list ((acc++(l.filter (wi few a b)).map (neL x)).map Lit.v))->Q .next loc' mh') :
  Yx (.val (.ref rv)) (zi l) (zP "v") xP (zi l) loc Q mh0:=by
 refine y7 (λrest loc' mh=>X2 λdn rest'=>N5 (l=dn++rest') (rest=zi rest') ((∀y:Str,y≠"v"->loc' y=loc y)) (Same [rfo] mh0 mh) (mh[rfo]?=some (.list ((acc++(dn.filter (wi few a b)).map (neL x)).map Lit.v)))) ?_ ?_ ?_ _ _ _ ⟨[],l,rfl,rfl,λ_ _=>rfl,.refl,by simpa using m3⟩
 ·rintro rest loc' mh ⟨dn,rest',-,-,-,hs,-⟩
  exact hs.at m2 (by simp;exact d2)
 ·rintro v rest loc' mh K hK hR ⟨dn,rest',e1,e2,hloc,hs,hm⟩
  cases rest' with
  |nil=>cases e2
  |cons u rest'=>
   cases e2
   have f1:loc' "few" = some (.ref rf):=by rw[hloc _ (uk rfl)];exact hl1
   have f2:loc' "x" = some (.int (x:Int)):=by rw[hloc _ (uk rfl)];exact hl2
   have f3:loc' "found" = some (.ref rfo):=by rw[hloc _ (uk rfl)];exact hl3
   have f4:=hs.at m1 (by simp;exact d1)
   have hlc:∀y:Str,y≠"v"->(upd loc' "v" (.int u)) y=loc y:=λy hy=>by rw[<-hloc y hy];simp[upd,hy]
   have hle:(acc++(dn.filter (wi few a b)).map (neL x)).length<=BIG:=by
    have h1:=List.length_filter_le (wi few a b) dn
    have h2:=congrArg List.length e1
    simp at h2 ⊢
    exact Nat.le_trans (Nat.add_le_add_left (Nat.le_trans h1 (Nat.le_trans (Nat.le_add_right _ _) (Nat.le_of_eq h2.symm))) _) hbig
   have fin0:wi few a b u=false->K .next (upd loc' "v" (.int u)) mh:=λhw=>hK _ _ ⟨dn++[u],rest',by rw[e1];simp,rfl,hlc,hs,by simpa[hw] using hm⟩
   clear hloc m3 hbig
   have hle':((acc++(dn.filter (wi few a b)).map (neL x)).map Lit.v).length<=BIG:=by rw[List.length_map];exact hle
   walk_at "w"
   refine sa (λc1=>?_) λc1=>?_
   ·walk_at "w"
    refine sa (λc2=>?_) λc2=>?_
    ·walk_at "w"
     refine Wp (λc3=>?_) λc3=>?_
     ·have hw:wi few a b u=true:=by simp[wi,c1,c2,c3]
      walk_at "w"
      refine hK _ _ ⟨dn++[u],rest',by rw[e1];simp,rfl,hlc,hs.trans (.set (List.mem_singleton_self _)),?_⟩
      rw[yW hm]
      simp[hw,neL,Lit.v]
     ·walk_at "w"
      exact fin0 (by simp[wi,c3])
    ·walk_at "w"
     exact fin0 (by simp[wi,c2])
   ·walk_at "w"
    exact fin0 (by simp[wi,c1])
 ·rintro loc' mh ⟨dn,rest',e1,e2,hloc,hs,hm⟩
  cases rest' with
  |nil=>
   simp at e1;subst e1
   exact o _ _ (by rw[hloc _ (uk rfl)];exact hl1) (by rw[hloc _ (uk rfl)];exact hl3) hloc hs hm
  |cons u rest'=>cases e2
theorem qi{few l:List Int}{a b:Int}{x:Nat}:(v9 few a b x l).length<=2+l.length:=by
 have:=List.length_filter_le (wi few a b) l
 simp[v9];exact(λ{a b c}=>Nat.sub_le_iff_le_add'.mp) this
theorem uV{firsts:List Dom}{xs ps:List Nat}{p:Nat}{few:List Int}{a b:Int}:zV firsts xs (p::ps) few a b=v9 few a b (xs.getD p 0) (yt (firsts.getD (xs.getD p 0) []))++zV firsts xs ps few a b:=rfl
theorem t8{firsts:List Dom}{xs ps qs:List Nat}{few:List Int}{a b:Int}:zV firsts xs (ps++qs) few a b=zV firsts xs ps few a b++zV firsts xs qs few a b:=by simp[zV]
noncomputable def uv:MF:=λargs Q mh=>X15 λar R doms firsts trail marks fl cl xs rp places rf few a b=>N10 (args=[.ref ar,.ref R.r,.ref rp,.ref rf]) (mh[ar]?=some (sh (z3 xs))) (zu mh R doms firsts trail marks fl cl) (mh[rp]?=some (.list (z3 places))) (mh[rf]?=some (.list (zi few))) (few[0]?=some a) (few.getLast?=some b) (places.length<=50) ((∀p∈places,p<=1000/\∃x,xs[p]?=some x/\x<=1000/\∃d,firsts[x]?=some d/\SmD d)) (∀mh',Same [] mh mh'->Q (.tuple ((zV firsts xs places few a b).map Lit.v)) mh')
theorem zby:∀args Q mh,uv args Q mh->yQ ["self","store","places","few"] (xX ya yp) args Q mh:=by
 rintro args Q mh0 ⟨ar,R,doms,firsts,trail,marks,fl,cl,xs,rp,places,rf,few,a,b,rfl,hA,S0,hp,hf,h0,hz,hl,hpl,o⟩
 apply Kk
 walk_at "s"
 walk_at "n"
 have hs0:Same [] mh0 (mh0++[MO.list []]):=.append
 refine⟨_,y7 (λrest loc mh=>X2 λdn rest'=>N9 (places=dn++rest') (rest=z3 rest') (loc "self" = some (.ref ar)) (loc "store" = some (.ref R.r)) (loc "few" = some (.ref rf)) (loc "found" = some (.ref mh0.length)) (Same [] mh0 mh) (mh[mh0.length]?=some (.list ((zV firsts xs dn few a b).map Lit.v))) ((zV firsts xs dn few a b).length<=dn.length * 1642)) ?_ ?_ ?_ _ _ _ ⟨[],places,rfl,rfl,?_,?_,?_,?_,hs0,zB,Nat.le_refl _⟩⟩
 ·rintro rest loc mh ⟨dn,rest',-,-,-,-,-,-,hs,-⟩
  exact hs.at hp nN
 ·rintro v rest loc mh K hK hR ⟨dn,rest',e1,e2,l1,l2,l3,l4,hs,hm,hle⟩
  cases rest' with
  |nil=>cases e2
  |cons p rest'=>
   cases e2
   obtain⟨hp1,x,hx,hx1,d,hd,sm⟩:=hpl p (by rw[e1];simp)
   have S:=S0.same hs nA
   have hA':=hs.at hA nN
   have hf':=hs.at hf nN
   have e3:=S.inst
   have hvl:=uu sm.run
   have hdl:=sm.len
   have hdn:=congrArg List.length e1
   simp only[List.length_append,List.length_cons] at hdn
   have g:=zm hm
   walk_at "s"
   walk_at "n"
   generalize hmh1:((mh++_).set mh0.length _)=mh1
   have hS1:Same [mh0.length] mh mh1:=by rw[<-hmh1];exact Same.append.trans (.set (List.mem_singleton_self _))
   have hm1:mh1[mh0.length]?=some (.list ((zV firsts xs dn few a b++[Lit.mk x ">=" a,Lit.mk x "<=" b]).map Lit.v)):=by
    rw[<-hmh1,yW (got_old hm)]
    simp[Lit.v]
   clear hmh1
   have hs1:Same [] mh0 mh1:=((hs.mono nE).trans hS1).old (nG (Nat.le_refl _))
   have S1:=S0.same hs1 nA
   have e3:=S1.inst
   walk_at "n"
   refine⟨R,doms,firsts,trail,marks,fl,cl,d,x,rfl,S1,hx1,hd,d,rfl,sm,λmh2 rv hs2 hrv hrvl=>?_⟩
   walk_at "w"
   have hm2:=hs2.at hm1 nN
   have hsx:Same [] mh0 mh2:=hs1.trans hs2
   have hg:firsts.getD x []=d:=by simp[hd]
   have hgx:xs.getD p 0=x:=by simp[hx]
   have l0:mh0.length<mh1.length:=zm hm1
   have l9:=zm hf
   refine⟨_,za4 (x:=x) (rf:=rf) (rfo:=mh0.length) h0 hz (by walk_at "ne") (by walk_at "ne") (by walk_at "ne") (hsx.at hf nN) hrv hm2 (Nat.ne_of_lt l9) (by lia) (by simp;unfold BIG;lia) λloc' mh' k1 k2 k3 k4 k5=>?_⟩
   refine hK _ _ ⟨dn++[p],rest',by rw[e1];simp,rfl,?_,?_,k1,k2,((hsx.mono nE).trans k4).old (nG (Nat.le_refl _)),?_,?_⟩
   ·rw[k3 _ (uk rfl)];exact miss rfl l1
   ·rw[k3 _ (uk rfl)];exact miss rfl l2
   ·rw[k5,t8,uV,hgx,hg]
    simp[v9,zV]
   ·rw[t8,uV,hgx,hg]
    have:=qi (few:=few) (l:=yt d) (a:=a) (b:=b) (x:=x)
    have hw0:zV firsts xs [] few a b=[]:=rfl
    simp only[hw0,List.length_append,List.length_cons,List.length_nil]
    rw[Nat.add_mul];exact Nat.add_le_add hle (Nat.le_trans this (Nat.add_le_add_left (Nat.le_trans hvl (Nat.mul_le_mul_right 41 hdl)) 2))
 ·rintro loc mh ⟨dn,rest',e1,e2,l1,l2,l3,l4,hs,hm,hle⟩
  cases rest' with
  |nil=>
   simp at e1;subst e1
   have hb:((zV firsts xs places few a b).map Lit.v).length<=BIG:=by rw[List.length_map];unfold BIG;lia
   walk_at "n"
   exact o _ hs
  |cons u rest'=>cases e2
 ·walk_at "ne"
 ·walk_at "ne"
 ·walk_at "ne"
 ·walk_at "ne"
noncomputable def jT(n:Nat)(C:Nat->Int->Prop)(f:Nat->Int):Prop:=(∀i,i<n->C i (f i))/\∀i j,i<n->j<n->f i=f j->i=j
noncomputable def u9(n:Nat)(C:Nat->Int->Prop)(f:Nat->Int)(q:Nat):Nat->Int->Prop
 |0,v=>∀p,p<n->p≠q->f p≠v
 |k+1,v=>∃p u,p<n/\p≠q/\f p=v/\C p u/\u9 n C f q k u
noncomputable def jV(n:Nat)(C:Nat->Int->Prop)(f:Nat->Int)(q k:Nat)(v:Int):Prop:=u9 n C f q k v/\∀j,j<k->¬u9 n C f q j v
theorem u9.least{n:Nat}{C:Nat->Int->Prop}{f:Nat->Int}{q:Nat}:∀k v,u9 n C f q k v->∃j,jV n C f q j v:=by
 intro k
 induction k using Nat.strongRecOn with
 |ind k ih=>
  intro v h
  by_cases hj:∃j,j<k/\u9 n C f q j v
  ·obtain⟨j,h1,h2⟩:=hj
   exact ih j h1 v h2
  ·exact⟨k,h,λj h1 h2=>hj ⟨j,h1,h2⟩⟩
noncomputable def zfq(g:Nat->Int)(p:Nat)(u:Int):Nat->Int:=λi=>if i=p then u else g i
theorem tK{g:Nat->Int}{p:Nat}{u:Int}:zfq g p u p=u:=if_pos rfl
theorem wv{g:Nat->Int}{p i:Nat}{u:Int}(h:i≠p):zfq g p u i=g i:=if_neg h
theorem jV.seat{n:Nat}{C:Nat->Int->Prop}{f:Nat->Int}{q:Nat}(hf:∀i,i<n->i≠q->C i (f i))(hi:∀i j,i<n->j<n->i≠q->j≠q->f i=f j->i=j):∀k v,jV n C f q k v->
  ∃g:Nat->Int,(∀i,i<n->i≠q->C i (g i))/\(∀i j,i<n->j<n->i≠q->j≠q->g i=g j->i=j)/\(∀i,i<n->i≠q->g i≠v)/\∀p,p<n->p≠q->(¬ ∃j,j<=k/\jV n C f q j (f p))->g p=f p:=by
 intro k
 induction k with
 |zero=>intro v h;exact⟨f,hf,hi,h.1,λ_ _ _ _=>rfl⟩
 |succ k ih=>
  intro v h
  obtain⟨p,u,hp,hpq,e,hc,hl⟩:=h.1
  have hu:jV n C f q k u:=⟨hl,λj hj h2=>h.2 (j+1) (Nat.succ_lt_succ hj) ⟨p,u,hp,hpq,e,hc,h2⟩⟩
  obtain⟨g,g1,g2,g3,g4⟩:=ih u hu
  have hgp:g p=v:=by
   rw[<-e]
   refine g4 p hp hpq ?_
   rintro⟨j,hj,h2⟩
   rw[e] at h2
   exact h.2 j (Nat.lt_succ_of_le hj) h2.1
  have hv:∀i,i<n->i≠q->i≠p->g i≠v:=λi h1 h2 h3 h4=>h3 (g2 i p h1 hp h2 hpq (h4.trans hgp.symm))
  refine⟨zfq g p u,λi h1 h2=>?_,λi j h1 h2 h3 h4 h5=>?_,λi h1 h2=>?_,λi h1 h2 h3=>?_⟩
  ·by_cases hip:i=p
   ·subst hip;rw[tK];exact hc
   ·rw[wv hip];exact g1 i h1 h2
  ·by_cases hip:i=p<;>by_cases hjp:j=p
   ·rw[hip,hjp]
   ·rw[hip,tK,wv hjp] at h5;exact absurd h5.symm (g3 j h2 h4)
   ·rw[hjp,tK,wv hip] at h5;exact absurd h5 (g3 i h1 h3)
   ·rw[wv hip,wv hjp] at h5;exact g2 i j h1 h2 h3 h4 h5
  ·by_cases hip:i=p
   ·rw[hip,tK]
    intro huv
    subst huv
    exact h.2 k (Nat.lt_succ_self k) hl
   ·rw[wv hip];exact hv i h1 h2 hip
  ·by_cases hip:i=p
   ·subst hip
    exact absurd ⟨k+1,Nat.le_refl _,by rw[e];exact h⟩ h3
   ·rw[wv hip]
    exact g4 i h1 h2 λ⟨j,a,b⟩=>h3 ⟨j,Nat.le_succ_of_le a,b⟩
theorem jT.with{n:Nat}{C:Nat->Int->Prop}{f:Nat->Int}(hf:jT n C f){q k:Nat}{v:Int}(hc:C q v)(h:u9 n C f q k v):∃g,jT n C g/\g q=v:=by
 obtain⟨j,hl⟩:=u9.least k v h
 obtain⟨g,g1,g2,g3,_⟩:=jV.seat (λi a _=>hf.1 i a) (λi j a b _ _=>hf.2 i j a b) j v hl
 refine⟨zfq g q v,⟨λi h1=>?_,λi j h1 h2 h5=>?_⟩,tK⟩
 ·by_cases hiq:i=q
  ·subst hiq;rw[tK];exact hc
  ·rw[wv hiq];exact g1 i h1 hiq
 ·by_cases hip:i=q<;>by_cases hjp:j=q
  ·rw[hip,hjp]
  ·rw[hip,tK,wv hjp] at h5;exact absurd h5.symm (g3 j h2 hjp)
  ·rw[hjp,tK,wv hip] at h5;exact absurd h5 (g3 i h1 hip)
  ·rw[wv hip,wv hjp] at h5;exact g2 i j h1 h2 hip hjp h5
theorem jT.few{n:Nat}{C:Nat->Int->Prop}{f:Nat->Int}(hf:jT n C f){ps:List Nat}{few:List Int}(hnd:ps.Nodup)(hlt:∀p∈ps,p<n)(hs:∀p∈ps,∀v,C p v->v∈few):ps.length<=few.length:=by
 have h1:(ps.map f).Nodup:=List.pairwise_map.mpr (List.Pairwise.imp_of_mem (λ{a b} ha hb hne e=>hne (hf.2 a b (hlt a ha) (hlt b hb) e)) hnd)
 have:=xV h1 (ys:=few) λx hx=>by
  obtain⟨p,hp,rfl⟩:=List.mem_map.mp hx
  exact hs p hp _ (hf.1 p (hlt p hp))
 rwa [List.length_map] at this
theorem jT.tight{n:Nat}{C:Nat->Int->Prop}{f:Nat->Int}(hf:jT n C f){ps:List Nat}{few:List Int}(hnd:ps.Nodup)(hlt:∀p∈ps,p<n)(hs:∀p∈ps,∀v,C p v->v∈few)(hl:few.length<=ps.length)
  {q:Nat}(hq:q<n) (hqp:q∉ps):f q∉few:=by
 intro hm
 have h1:((q::ps).map f).Nodup:=List.pairwise_map.mpr (List.Pairwise.imp_of_mem (λ{a b} ha hb hne e=>hne (hf.2 a b (by rcases List.mem_cons.mp ha with rfl|h;exact hq;exact hlt _ h) (by rcases List.mem_cons.mp hb with rfl|h;exact hq;exact hlt _ h) e)) (List.nodup_cons.mpr ⟨hqp,hnd⟩))
 have:=xV h1 (ys:=few) λx hx=>by
  obtain⟨p,hp,rfl⟩:=List.mem_map.mp hx
  rcases List.mem_cons.mp hp with rfl|hp
  ·exact hm
  ·exact hs p hp _ (hf.1 p (hlt p hp))
 rw[List.length_map,List.length_cons] at this
 lia
noncomputable abbrev inC(ch:List (List Int))(p:Nat)(v:Int):Prop:=yl ch v p
noncomputable def yR(F:List (List Int)):Prop:=∃f,jT F.length (inC F) f
noncomputable def wq(F:List (List Int))(x:Nat)(v:Int):Prop:=∃f,jT F.length (inC F) f/\f x=v
theorem sk.sits{ch:List (List Int)}{mate:List (Option Int)}{own:List (Int×Nat)}(I:sk ch mate own)(hall:∀p:Nat,p<ch.length->mate[p]?≠some none) :
  ∃f,jT ch.length (inC ch) f/\∀v p,ag own v=some p↔p<ch.length/\f p=v:=by
 have get:∀p:Nat,p<ch.length->mate[p]?=some (some ((mate.getD p none).getD 0)):=λp hp=>by
  have h1:p<mate.length:=by rw[I.len];exact hp
  have h2:=hall p hp
  rw[List.getD_eq_getElem?_getD]
  cases e:mate[p]? with
  |none=>rw[List.getElem?_eq_none_iff] at e;lia
  |some o=>cases o with
   |none=>exact absurd e h2
   |some v=>rfl
 have ag_of:∀v p,ag own v=some p↔p<ch.length/\(mate.getD p none).getD 0=v:=λv p=>by
  constructor
  ·intro h
   have h1:=(I.agree v p).mp h
   have hp:p<ch.length:=by rw[<-I.len];exact(List.getElem?_eq_some_iff.mp h1).1
   rw[get p hp] at h1
   exact⟨hp,Option.some.inj (Option.some.inj h1)⟩
  ·rintro⟨hp,rfl⟩
   exact(I.agree _ p).mpr (get p hp)
 refine⟨λp=>(mate.getD p none).getD 0,⟨λp hp=>I.sub _ p ((ag_of _ p).mpr ⟨hp,rfl⟩),λi j hi hj e=>?_⟩,ag_of⟩
 have h1:=(ag_of _ i).mpr ⟨hi,rfl⟩
 have h2:=(ag_of _ j).mpr ⟨hj,rfl⟩
 rw[show(mate.getD i none).getD 0=(mate.getD j none).getD 0 from e] at h1
 exact Option.some.inj (h1.symm.trans h2)
section
variable {ch:List (List Int)}{own:List (Int×Nat)}{f:Nat->Int}{q:Nat}{v:Int}
theorem XA(ho:∀v p,ag own v=some p↔p<ch.length/\f p=v)(hf:jT ch.length (inC ch) f):∀x p y,ag own x=some p->yl ch y p->(∃k,u9 ch.length (inC ch) f q k y)->∃k,u9 ch.length (inC ch) f q k x:=by
 rintro x p y h1 h2 ⟨k,h3⟩
 obtain⟨hp,e⟩:=(ho x p).mp h1
 by_cases hq:p=q
 ·exact⟨0,λp' hp' hne e'=>hne ((hf.2 p' p hp' hp (e'.trans e.symm)).trans hq)⟩
 ·exact⟨k+1,p,y,hp,hq,e,h2,h3⟩
theorem JU(ho:∀v p,ag own v=some p↔p<ch.length/\f p=v){w:Int}(h:ag own w=none):∃k,u9 ch.length (inC ch) f q k w:=
 ⟨0,λp hp _ e=>by rw[(ho w p).mpr ⟨hp,e⟩] at h;cases h⟩
theorem zcd(ho:∀v p,ag own v=some p↔p<ch.length/\f p=v){w:Int}(h:ag own w=some q):∃k,u9 ch.length (inC ch) f q k w:=
 ⟨0,λp hp hne e=>hne (by have:=(ho w p).mpr ⟨hp,e⟩;rw[this] at h;exact Option.some.inj h)⟩
theorem qx.sit(ho:∀v p,ag own v=some p↔p<ch.length/\f p=v)(hf:jT ch.length (inC ch) f)(h:qx ch own v)(hc:yl ch v q):wq ch q v:=by
 have:∀{v:Int},qx ch own v->∃k,u9 ch.length (inC ch) f q k v:=λh=>by
  induction h with
  |free h=>exact JU ho h
  |step h1 h2 _ ih=>exact XA ho hf _ _ _ h1 h2 ih
 obtain⟨k,hk⟩:=this h
 exact hf.with hc hk
theorem Vg.sit{places:List Nat}{few:List Int}(ho:∀v p,ag own v=some p↔p<ch.length/\f p=v)(hf:jT ch.length (inC ch) f)(S:Vg ch own v places few)(hq:q∈places)(hc:yl ch v q):wq ch q v:=by
 obtain⟨w,hw,e⟩:=S.back q hq
 obtain⟨k,hk⟩:=S.reach w hw (λx=>∃k,u9 ch.length (inC ch) f q k x) (XA ho hf) (zcd ho e)
 exact hf.with hc hk
theorem Vg.no{places:List Nat}{few:List Int}(S:Vg ch own v places few)(hq:q<ch.length)(hqp:q∉places):¬wq ch q v:=by
 rintro⟨g,hg,rfl⟩
 have hlt:∀p∈places,p<ch.length:=λp hp=>by obtain⟨l,h,_⟩:=S.shut p hp;exact(List.getElem?_eq_some_iff.mp h).1
 refine hg.tight S.nodup hlt (λp hp v hv=>?_) (Nat.le_of_eq S.len.symm) hq hqp S.mem
 obtain⟨l,h,h2⟩:=S.shut p hp
 obtain⟨l',h3,h4⟩:=hv
 rw[h] at h3;cases h3
 exact h2 v h4
theorem za1.no{root:Nat}{places:List Nat}{few:List Int}(L:za1 ch root places few):¬yR ch:=by
 rintro⟨g,hg⟩
 have hlt:∀p∈places,p<ch.length:=λp hp=>by obtain⟨l,h,_⟩:=L.shut p hp;exact(List.getElem?_eq_some_iff.mp h).1
 have:=hg.few L.nodup hlt (few:=few) λp hp v hv=>by
  obtain⟨l,h,h2⟩:=L.shut p hp
  obtain⟨l',h3,h4⟩:=hv
  rw[h] at h3;cases h3
  exact h2 v h4
 have:=L.len
 lia
end
structure ut(xs:List Nat)(n:Nat):Prop where
 len:xs.length=n
 nodup:xs.Nodup
 lt:∀x∈xs,x<n
theorem ut.at_{xs:List Nat}{n p:Nat}(t:ut xs n)(hp:p<n):xs[p]?=some (xs.getD p 0):=by
 rw[List.getD_eq_getElem?_getD,List.getElem?_eq_getElem (by rw[t.len];exact hp)];rfl
theorem ut.back{xs:List Nat}{n x:Nat}(t:ut xs n)(hx:x<n):∃p,p<n/\xs[p]?=some x:=by
 have hm:x∈xs:=Classical.byContradiction λh=>by
  have:=xV (List.nodup_cons.mpr ⟨h,t.nodup⟩) (ys:=List.range n) λy hy=>List.mem_range.mpr (by
   rcases List.mem_cons.mp hy with rfl|hy
   ·exact hx
   ·exact t.lt y hy)
  rw[List.length_cons,t.len,List.length_range] at this
  lia
 obtain⟨p,hp,e⟩:=List.mem_iff_getElem.mp hm
 exact⟨p,by rw[<-t.len];exact hp,by rw[List.getElem?_eq_getElem hp,e]⟩
theorem ut.inj{xs:List Nat}{n i j x:Nat}(t:ut xs n)(h1:xs[i]?=some x)(h2:xs[j]?=some x):i=j:=by
 rcases Nat.lt_trichotomy i j with h|h|h
 ·exact(qE.mp t.nodup i j x h h1 h2).elim
 ·exact h
 ·exact(qE.mp t.nodup j i x h h2 h1).elim
structure w5(xs:List Nat)(F ch:List (List Int)):Prop where
 turn:ut xs F.length
 len:ch.length=F.length
 at_:∀p x:Nat,xs[p]?=some x->ch[p]?=F[x]?
theorem w5.in_{xs:List Nat}{F ch:List (List Int)}(c:w5 xs F ch){p x:Nat}(h:xs[p]?=some x){v:Int}:yl ch v p↔yl F v x:=by
 unfold yl
 rw[c.at_ p x h]
theorem w5.sit{xs:List Nat}{F ch:List (List Int)}(c:w5 xs F ch){p x:Nat}(h:xs[p]?=some x){v:Int}:wq ch p v↔wq F x v:=by
 have hp:p<F.length:=by rw[<-c.turn.len];exact(List.getElem?_eq_some_iff.mp h).1
 constructor
 ·rintro⟨f,⟨f1,f2⟩,e⟩
  have hb:∀x,x<F.length->∃p,p<F.length/\xs[p]?=some x:=λx hx=>c.turn.back hx
  let g:Nat->Nat:=λx=>if hx:x<F.length then Classical.choose (hb x hx) else 0
  have hg:∀x,x<F.length->g x<F.length/\xs[g x]?=some x:=λx hx=>by
   show(if hx:x<F.length then Classical.choose (hb x hx) else 0)<_/\_
   have:=Classical.choose_spec (hb x hx)
   rw[show g x=Classical.choose (hb x hx) from dif_pos hx]
   rw[dif_pos hx];exact this
  have hx:x<F.length:=c.turn.lt x (List.mem_of_getElem? h)
  refine⟨λx=>f (g x),⟨λy hy=>?_,λi j hi hj e=>?_⟩,?_⟩
  ·obtain⟨h1,h2⟩:=hg y hy
   exact(c.in_ h2).mp (f1 _ (by rw[c.len];exact h1))
  ·obtain⟨h1,h2⟩:=hg i hi
   obtain⟨h3,h4⟩:=hg j hj
   have:=f2 _ _ (by rw[c.len];exact h1) (by rw[c.len];exact h3) e
   rw[this,h4] at h2
   exact(Option.some.inj h2).symm
  ·have:=c.turn.inj (hg x hx).2 h
   show f (g x)=v
   rw[this];exact e
 ·rintro⟨f,⟨f1,f2⟩,e⟩
  refine⟨λp=>f (xs.getD p 0),⟨λi hi=>?_,λi j hi hj e=>?_⟩,?_⟩
  ·rw[c.len] at hi
   have h1:=c.turn.at_ hi
   exact(c.in_ h1).mpr (f1 _ (c.turn.lt _ (List.mem_of_getElem? h1)))
  ·rw[c.len] at hi hj
   have h1:=c.turn.at_ hi
   have h2:=c.turn.at_ hj
   have:=f2 _ _ (c.turn.lt _ (List.mem_of_getElem? h1)) (c.turn.lt _ (List.mem_of_getElem? h2)) e
   rw[this] at h1
   exact c.turn.inj h1 h2
  ·have:xs.getD p 0=x:=by rw[List.getD_eq_getElem?_getD,h];rfl
   show f (xs.getD p 0)=v
   rw[this];exact e
theorem w5.all{xs:List Nat}{F ch:List (List Int)}(c:w5 xs F ch):yR ch↔yR F:=by
 by_cases hF:F.length=0
 ·have h1:F=[]:=List.length_eq_zero_iff.mp hF
  have h2:ch=[]:=List.length_eq_zero_iff.mp (c.len.trans hF)
  rw[h1,h2]
 ·have h0:=c.turn.at_ (p:=0) (Nat.zero_lt_of_ne_zero hF)
  constructor
  ·rintro⟨f,hf⟩
   obtain⟨g,hg,_⟩:=(c.sit h0).mp ⟨f,hf,rfl⟩
   exact⟨g,hg⟩
  ·rintro⟨f,hf⟩
   obtain⟨g,hg,_⟩:=(c.sit h0).mpr ⟨f,hf,rfl⟩
   exact⟨g,hg⟩
noncomputable def yw(l:Lit)(v:Int):Bool:=if l.sign=("!=" : Str) then decide (v≠l.k) else if l.sign=("<=" : Str) then decide (v<=l.k) else decide (l.k<=v)
noncomputable def vI(nums:List Int)(ls:List Lit)(x:Int):List Int:=nums.filter λv=>(ls.filter λl=>decide (l.x=x) && !yw l v).isEmpty
structure Rows(mh:MH)(r:Nat)(cs:List Nat)(F:List (List Int)):Prop where
 row:mh[r]?=some (.list (cs.map .ref))
 lists:xE mh cs F
theorem Rows.same{mh mh':MH}{r:Nat}{cs:List Nat}{F:List (List Int)}{S:List Nat}(x:Rows mh r cs F)(s:Same S mh mh')(h:∀i∈r::cs,i∉S):Rows mh' r cs F:=
 ⟨s.at x.row (h _ (.head _)),x.lists.same s λi hi=>h i (.tail _ hi)⟩
theorem Rows.get{mh:MH}{r:Nat}{cs:List Nat}{F:List (List Int)}(x:Rows mh r cs F){i:Nat}{l:List Int}(h:F[i]?=some l):∃q,cs[i]?=some q/\mh[q]?=some (MO.list (zi l)):=x.lists.get h
structure SmL(ls:List Lit):Prop where
 len:ls.length<=BIG
 plain:∀l∈ls,l.plain
noncomputable def zi2(ls:List Lit)(xs ps:List Nat)(few:List Int)(F:List (List Int)):Prop:=
 (∀l∈ls,∃p∈ps,∃x:Nat,xs[p]?=some x/\l.x=x)/\∀p∈ps,∃x:Nat,xs[p]?=some x/\∃l,F[x]?=some l/\vI l ls x=l.filter λv=>decide (v∈few)
theorem UG{p:Int×Int}{v:Int}(h:v∈xq p):p.1<=v/\v<=p.2:=by
 simp only[xq,List.mem_map,List.mem_range] at h
 obtain⟨i,h1,h2⟩:=h
 lia
theorem Y0{few:List Int}{a b:Int}(hs:wh few)(h0:few[0]?=some a)(hz:few.getLast?=some b):a∈few/\b∈few/\∀v∈few,a<=v/\v<=b:=by
 refine⟨List.mem_of_getElem? h0,List.mem_of_getLast? hz,λv hv=>?_⟩
 obtain⟨i,hi⟩:=List.getElem?_of_mem hv
 rw[List.getLast?_eq_getElem?] at hz
 have hil:=(List.getElem?_eq_some_iff.mp hi).1
 unfold wh at hs
 rw[List.pairwise_iff_getElem] at hs
 obtain⟨z0,e0⟩:=List.getElem?_eq_some_iff.mp h0
 obtain⟨z1,e1⟩:=List.getElem?_eq_some_iff.mp hi
 obtain⟨z2,e2⟩:=List.getElem?_eq_some_iff.mp hz
 constructor
 ·by_cases h:i=0
  ·subst h;rw[h0] at hi;cases hi;exact Int.le_refl _
  ·have:=hs 0 i z0 z1 (Nat.zero_lt_of_ne_zero h)
   rw[e0,e1] at this;exact this
 ·by_cases h:i=few.length-1
  ·subst h;rw[hz] at hi;cases hi;exact Int.le_refl _
  ·have:=hs i (few.length-1) z1 z2 (Nat.lt_of_le_of_ne (Nat.le_sub_one_of_lt hil) h)
   rw[e1,e2] at this;exact this
theorem Yt{x a v:Int}:yw ⟨x,">=",a⟩ v=decide (a<=v):=by rfl
theorem Ys{x a v:Int}:yw ⟨x,"<=",a⟩ v=decide (v<=a):=by rfl
theorem Yr{x:Nat}{a v:Int}:yw (neL x a) v=decide (v≠a):=by by_cases h:v=a<;>simp[yw,neL,h]
theorem vj{few:List Int}{a b:Int}{x:Nat}{l:List Int}{t:Lit}:t∈v9 few a b x l↔t=⟨x,">=",a⟩\/t=⟨x,"<=",b⟩\/∃u∈l,wi few a b u=true/\t=neL x u:=by
 simp only[v9,List.mem_append,List.mem_cons,List.not_mem_nil,or_false,List.mem_map,List.mem_filter,or_assoc]
 constructor
 ·rintro(h|h|⟨u,⟨h1,h2⟩,rfl⟩)
  ·exact .inl h
  ·exact .inr (.inl h)
  ·exact .inr (.inr ⟨u,h1,h2,rfl⟩)
 ·rintro(h|h|⟨u,h1,h2,rfl⟩)
  ·exact .inl h
  ·exact .inr (.inl h)
  ·exact .inr (.inr ⟨u,⟨h1,h2⟩,rfl⟩)
theorem ZJ{few:List Int}{a b:Int}(hs:wh few)(h0:few[0]?=some a)(hz:few.getLast?=some b){x:Nat}{l:List Int}{t:Lit}(ht:t∈v9 few a b x l){v:Int}(hv:v∈few):yw t v=true:=by
 obtain⟨ha,hb,hab⟩:=Y0 hs h0 hz
 rcases vj.mp ht with rfl|rfl|⟨u,h1,h2,rfl⟩
 ·rw[Yt];simpa using(hab v hv).1
 ·rw[Ys];simpa using(hab v hv).2
 ·rw[Yr]
  simp only[wi,Bool.and_eq_true,decide_eq_true_eq] at h2
  simp only[ne_eq,decide_eq_true_eq]
  rintro rfl;exact h2.2 hv
theorem J0{few:List Int}{a b:Int}(hs:wh few)(h0:few[0]?=some a)(hz:few.getLast?=some b){x:Nat}{l:List Int}{v:Int}(hl:v∈l)(hv:v∉few):∃t∈v9 few a b x l,t.x=x/\yw t v=false:=by
 obtain⟨ha,hb,hab⟩:=Y0 hs h0 hz
 by_cases h1:a<=v
 ·by_cases h2:v<=b
  ·have h3:v≠a:=λe=>hv (e▸ha)
   have h4:v≠b:=λe=>hv (e▸hb)
   refine⟨neL x v,vj.mpr (.inr (.inr ⟨v,hl,?_,rfl⟩)),rfl,by rw[Yr];simp⟩
   simp only[wi,Bool.and_eq_true,decide_eq_true_eq]
   exact⟨⟨by exact Std.lt_of_le_of_ne h1 (id (Ne.symm h3)),by exact Std.lt_of_le_of_ne h2 h4⟩,hv⟩
  ·exact⟨⟨x,"<=",b⟩,vj.mpr (.inr (.inl rfl)),rfl,by rw[Ys];simpa using h2⟩
 ·exact⟨⟨x,">=",a⟩,vj.mpr (.inl rfl),rfl,by rw[Yt];simpa using h1⟩
theorem ZK{few:List Int}{a b:Int}{x:Nat}{l:List Int}{t:Lit}(h:t∈v9 few a b x l):t.x=x/\t.plain:=by
 rcases vj.mp h with rfl|rfl|⟨u,_,_,rfl⟩
 ·exact⟨rfl,.inr (.inl rfl)⟩
 ·exact⟨rfl,.inl rfl⟩
 ·exact⟨rfl,.inr (.inr rfl)⟩
theorem w7{firsts:List Dom}{xs ps:List Nat}{few:List Int}{a b:Int}{t:Lit}:t∈zV firsts xs ps few a b↔∃p∈ps,t∈v9 few a b (xs.getD p 0) (yt (firsts.getD (xs.getD p 0) [])):=by
 simp only[zV,List.mem_flatMap]
theorem zf7{l:List Int}{ls:List Lit}{x:Int}{few:List Int}(h:∀v∈l,v∈few↔∀t∈ls,t.x=x->yw t v=true):vI l ls x=l.filter λv=>decide (v∈few):=by
 unfold vI
 refine List.filter_congr λv hv=>?_
 rw[Bool.eq_iff_iff,List.isEmpty_iff,List.filter_eq_nil_iff,decide_eq_true_eq,h v hv]
 constructor
 ·intro h1 t ht hx
  have:=h1 t ht
  simpa[hx] using this
 ·intro h1 t ht
  by_cases hx:t.x=x
  ·simp[hx,h1 t ht hx]
  ·simp[hx]
theorem UB{firsts:List Dom}{xs ps:List Nat}{few:List Int}{a b:Int}{F:List (List Int)}(hs:wh few)(h0:few[0]?=some a)(hz:few.getLast?=some b)(hF:F=firsts.map yt)(hp:∀p∈ps,∃x,xs[p]?=some x/\x<firsts.length) :
  zi2 (zV firsts xs ps few a b) xs ps few F:=by
 refine⟨λl hl=>?_,λp hpm=>?_⟩
 ·obtain⟨p,hpm,ht⟩:=w7.mp hl
  obtain⟨x,hx,hlt⟩:=hp p hpm
  have hg:xs.getD p 0=x:=by simp[hx]
  rw[hg] at ht
  exact⟨p,hpm,x,hx,(ZK ht).1⟩
 ·obtain⟨x,hx,hlt⟩:=hp p hpm
  refine⟨x,hx,yt firsts[x],by rw[hF];simp[hlt],zf7 λv hv=>⟨λhvf t ht htx=>?_,λhall=>?_⟩⟩
  ·obtain⟨q,hq,ht'⟩:=w7.mp ht
   exact ZJ hs h0 hz ht' hvf
  ·by_cases hvf:v∈few
   ·exact hvf
   ·obtain⟨t,ht,htx,hk⟩:=J0 hs h0 hz (x:=x) hv hvf
    have hg:xs.getD p 0=x:=by simp[hx]
    have:=hall t (w7.mpr ⟨p,hpm,by rw[hg];simpa[hlt] using ht⟩) htx
    rw[hk] at this;cases this
theorem Vj{firsts:List Dom}{xs ps:List Nat}{few:List Int}{a b:Int}(hl:ps.length<=50)(hf:∀d∈firsts,SmD d):SmL (zV firsts xs ps few a b):=by
 refine⟨?_,λl hl=>?_⟩
 ·have:∀qs:List Nat,(zV firsts xs qs few a b).length<=qs.length * 1642:=by
   intro qs
   induction qs with
   |nil=>simp[zV]
   |cons q qs ih=>
    rw[uV,List.length_append,List.length_cons]
    have h1:=qi (few:=few) (l:=yt (firsts.getD (xs.getD q 0) [])) (a:=a) (b:=b) (x:=xs.getD q 0)
    have h2:(yt (firsts.getD (xs.getD q 0) [])).length<=1640:=by
     by_cases h:xs.getD q 0<firsts.length
     ·have sm:=hf firsts[xs.getD q 0] (List.getElem_mem h)
      have h3:=uu sm.run
      have h4:=sm.len
      have:firsts.getD (xs.getD q 0) []=firsts[xs.getD q 0]:=by
       rw[List.getD_eq_getElem?_getD,List.getElem?_eq_getElem h];rfl
      rw[this];exact Nat.le_trans h3 (Nat.mul_le_mul_right 41 h4)
     ·have:firsts.getD (xs.getD q 0) []=[]:=by
       rw[List.getD_eq_getElem?_getD,List.getElem?_eq_none (Nat.le_of_not_lt h)];rfl
      rw[this];simp[yt]
    rw[Nat.add_mul,Nat.add_comm];exact Nat.add_le_add ih (Nat.le_trans h1 (Nat.add_le_add_left h2 2))
  have:=this ps
  unfold BIG;lia
 ·obtain⟨p,_,ht⟩:=w7.mp hl
  exact(ZK ht).2
theorem Xv{α:Type}[DecidableEq α]{a b:List α}(ha:a.Nodup)(hb:b.Nodup)(h:∀x,x∈a↔x∈b):a.length=b.length:=
 Nat.le_antisymm (xV ha λx hx=>(h x).mp hx) (xV hb λx hx=>(h x).mpr hx)
theorem Xr{n:Nat}:wd 0 (n:Int)=z3 (List.range n):=by
 unfold wd z3
 simp
theorem xo{n p:Nat}{dn r:List Nat}(h:List.range n=dn++p::r):p=dn.length/\dn.length<n:=by
 have hl:=congrArg List.length h
 simp at hl
 have h1:(List.range n)[dn.length]?=(dn++p::r)[dn.length]?:=by rw[h]
 simp at h1
 have h2:dn.length<n:=by lia
 simp[List.getElem?_range h2] at h1
 exact⟨h1.symm,h2⟩
noncomputable def spans:List Int->Dom
 |[]=>[]
 |a::l=>match spans l with
  |[]=>[(a,a)]
  |(b,e)::r=>if a+1=b then (a,e)::r else (a,a)::(b,e)::r
noncomputable def Asc(l:List Int):Prop:=l.Pairwise (· < ·)
theorem ZT{a:Int}{l:List Int}:∃e r,spans (a::l)=(a,e)::r:=by
 unfold spans
 split
 ·exact⟨_,_,rfl⟩
 ·split<;>exact⟨_,_,rfl⟩
theorem sy{l:List Int}:spans l=[]↔l=[]:=by
 cases l with
 |nil=>simp[spans]
 |cons a l=>obtain⟨e,r,h⟩:=ZT (a:=a) (l:=l);simp[h]
theorem s4{a b:Int}(h:a<=b):xq (a,b)=a::xq (a+1,b):=by
 unfold xq
 have e:(b+1-a).toNat=(b+1-(a+1)).toNat+1:=by lia
 simp only[e,List.range_succ_eq_map,List.map_cons,List.map_map]
 congr 1
 ·simp
 ·refine List.map_congr_left λi _=>?_
  simp only[Function.comp_apply]
  push_cast
  lia
theorem ZU{a:Int}:xq (a,a)=[a]:=by rw[s4 (Int.le_refl _)];simp[xq]
theorem uH:∀{l:List Int},Asc l->∀p∈spans l,p.1<=p.2/\p.1∈l/\p.2∈l
 |[],_,p,hp=>by simp[spans] at hp
 |a::l,h,p,hp=>by
  have h1:∀x∈l,a<x:=(List.pairwise_cons.mp h).1
  have h2:Asc l:=(List.pairwise_cons.mp h).2
  have ih:=uH h2
  unfold spans at hp
  split at hp
  ·simp at hp;subst hp;simp
  ·rename_i b e r hs
   rw[hs] at ih
   split at hp
   ·rcases List.mem_cons.mp hp with rfl|hp
    ·obtain⟨h3,h4,h5⟩:=ih (b,e) (.head _)
     simp only at h3 h4 h5
     exact⟨by have:=h1 _ h5;simp only;exact Int.le_of_lt (h1 e h5),.head _,.tail _ (by assumption)⟩
    ·obtain⟨h3,h4,h5⟩:=ih p (.tail _ hp)
     exact⟨h3,.tail _ (by assumption),.tail _ (by assumption)⟩
   ·rcases List.mem_cons.mp hp with rfl|hp
    ·simp
    ·obtain⟨h3,h4,h5⟩:=ih p hp
     exact⟨h3,.tail _ (by assumption),.tail _ (by assumption)⟩
theorem xT:∀{l:List Int},Asc l->yt (spans l)=l
 |[],_=>rfl
 |a::l,h=>by
  have h2:Asc l:=(List.pairwise_cons.mp h).2
  have ih:=xT h2
  have hrun:=uH h2
  unfold spans
  split
  ·rename_i hs
   rw[hs] at ih
   simp only[yt,List.flatMap_nil] at ih
   rw[<-ih]
   simp[yt,ZU]
  ·rename_i b e r hs
   rw[hs] at ih hrun
   have hbe:=(hrun (b,e) (.head _)).1
   simp only at hbe
   have ih':xq (b,e)++yt r=l:=ih
   split
   ·rename_i hab
    show xq (a,e)++yt r=a::l
    rw[s4 (by lia),hab,List.cons_append,ih']
   ·show xq (a,a)++(xq (b,e)++yt r)=a::l
    rw[ZU,ih'];rfl
theorem sz:∀{l:List Int},(spans l).length<=l.length
 |[]=>Nat.zero_le _
 |a::l=>by
  have ih:=sz (l:=l)
  unfold spans
  split
  ·simp
  ·rename_i b e r hs
   rw[hs] at ih
   simp only[List.length_cons] at ih ⊢
   split<;>simp only[List.length_cons]<;>lia
theorem Vp{l:List Int}(h:Asc l)(hl:l.length<=40)(hb:∀v∈l,-20<=v/\v<=20):SmD (spans l):=by
 refine⟨Nat.le_trans sz hl,λp hp=>?_⟩
 obtain⟨h1,h2,h3⟩:=uH h p hp
 exact⟨(hb _ h2).1,h1,(hb _ h3).2⟩
theorem jw:∀{a b:List Int},Asc a->Asc b->(∀x,x∈a↔x∈b)->a=b
 |[],[],_,_,_=>rfl
 |[],y::b,_,_,h=>by have:=(h y).mpr (.head _);cases this
 |x::a,[],_,_,h=>by have:=(h x).mp (.head _);cases this
 |x::a,y::b,ha,hb,h=>by
  have ha1:=(List.pairwise_cons.mp ha).1
  have hb1:=(List.pairwise_cons.mp hb).1
  have hxy:x=y:=by
   rcases List.mem_cons.mp ((h x).mp (.head _)) with e|e
   ·exact e
   ·rcases List.mem_cons.mp ((h y).mpr (.head _)) with e2|e2
    ·exact e2.symm
    ·have:=hb1 x e;have:=ha1 y e2;lia
  subst hxy
  have:a=b:=jw (List.pairwise_cons.mp ha).2 (List.pairwise_cons.mp hb).2 λz=>by
   have hz:=h z
   simp only[List.mem_cons] at hz
   constructor
   ·intro hm
    rcases hz.mp (.inr hm) with e|e
    ·subst e;have:=ha1 _ hm;lia
    ·exact e
   ·intro hm
    rcases hz.mpr (.inr hm) with e|e
    ·subst e;have:=hb1 _ hm;lia
    ·exact e
  rw[this]
theorem tN{p:Int×Int}{v:Int}:v∈xq p↔p.1<=v/\v<=p.2:=by
 refine⟨UG,λh=>?_⟩
 simp only[xq,List.mem_map,List.mem_range]
 exact⟨(v-p.1).toNat,(Int.toNat_lt_toNat (Int.sub_pos_of_lt (Int.lt_add_one_of_le (Int.le_trans h.1 h.2)))).mpr (Int.sub_lt_sub_right (Int.lt_add_one_of_le h.2) p.1),(Int.add_comm _ _).trans (by rw[Int.toNat_of_nonneg (Int.sub_nonneg_of_le h.1)];exact Int.sub_add_cancel v p.1)⟩
theorem tA(p:Int×Int):Asc (xq p):=by
 unfold Asc xq
 rw[List.pairwise_map]
 refine List.pairwise_lt_range.imp λh=>by lia
theorem w4{l:List Int}{f:Int->Bool}(h:Asc l):Asc (l.filter f):=List.Pairwise.filter f h
theorem Xh{d:Dom}{k:Int}:yt (wA d k)=(yt d).filter λv=>decide (v<=k):=by
 induction d with
 |nil=>rfl
 |cons p d ih=>
  have h1:yt (p::d)=xq p++yt d:=rfl
  rw[h1,List.filter_append,<-ih]
  have h2:(xq p).filter (λv=>decide (v<=k))=if p.1<=k then xq (p.1,min p.2 k) else []:=by
   split
   ·refine jw (w4 (tA _)) (tA _) λx=>?_
    simp only[List.mem_filter,tN,decide_eq_true_eq]
    omega
   ·rw[List.filter_eq_nil_iff]
    intro v hv
    have:=tN.mp hv
    simp;lia
  rw[h2]
  unfold wA
  split
  ·rename_i h;rw[List.filter_cons_of_pos (by simpa using h)];rfl
  ·rename_i h;rw[List.filter_cons_of_neg (by simpa using h)];rfl
theorem Xi{d:Dom}{k:Int}:yt (wL d k)=(yt d).filter λv=>decide (k<=v):=by
 induction d with
 |nil=>rfl
 |cons p d ih=>
  have h1:yt (p::d)=xq p++yt d:=rfl
  rw[h1,List.filter_append,<-ih]
  have h2:(xq p).filter (λv=>decide (k<=v))=if k<=p.2 then xq (max p.1 k,p.2) else []:=by
   split
   ·refine jw (w4 (tA _)) (tA _) λx=>?_
    simp only[List.mem_filter,tN,decide_eq_true_eq]
    omega
   ·rw[List.filter_eq_nil_iff]
    intro v hv
    have:=tN.mp hv
    simp;lia
  rw[h2]
  unfold wL
  split
  ·rename_i h;rw[List.filter_cons_of_pos (by simpa using h)];rfl
  ·rename_i h;rw[List.filter_cons_of_neg (by simpa using h)];rfl
theorem jn:∀{l:List Int}{v:Int},Asc l->l.filter (λx=>decide (x<=v-1))++l.filter (λx=>decide (v+1<=x))=l.filter λx=>decide (x≠v)
 |[],v,_=>rfl
 |a::l,v,h=>by
  have h1:=(List.pairwise_cons.mp h).1
  have ih:=jn (v:=v) (List.pairwise_cons.mp h).2
  by_cases ha:a<=v-1
  ·rw[List.filter_cons_of_pos (by simpa using ha),List.filter_cons_of_neg (by simp;lia),List.filter_cons_of_pos (by simp;lia),<-ih]
   rfl
  ·have h2:l.filter (λx=>decide (x<=v-1))=[]:=by
    rw[List.filter_eq_nil_iff];intro x hx;have:=h1 x hx;simp;lia
   rw[h2] at ih
   simp only[List.nil_append] at ih
   rw[List.filter_cons_of_neg (by simpa using ha),h2]
   by_cases hav:a=v
   ·rw[List.filter_cons_of_neg (by simp;exact Int.lt.intro (congrFun (congrArg HAdd.hAdd hav) (↑0+1))),List.filter_cons_of_neg (by simp[hav]),<-ih];rfl
   ·rw[List.filter_cons_of_pos (by simp;lia),List.filter_cons_of_pos (by simpa using hav),<-ih];rfl
structure OkD(d:Dom):Prop where
 asc:Asc (yt d)
 run:∀p∈d,p.1<=p.2
theorem Vl{d:Dom}(h:∀p∈d,p.1<=p.2){k:Int}:∀p∈wA d k,p.1<=p.2:=by
 intro p hp
 simp only[wA,List.mem_map,List.mem_filter,decide_eq_true_eq] at hp
 obtain⟨q,⟨h1,h2⟩,rfl⟩:=hp
 exact Int.le_min.mpr ⟨h q h1,h2⟩
theorem Uc{d:Dom}(h:∀p∈d,p.1<=p.2){k:Int}:∀p∈wL d k,p.1<=p.2:=by
 intro p hp
 simp only[wL,List.mem_map,List.mem_filter,decide_eq_true_eq] at hp
 obtain⟨q,⟨h1,h2⟩,rfl⟩:=hp
 exact Int.max_le.mpr ⟨h q h1,h2⟩
theorem Vo{d:Dom}(h:OkD d){l:Lit}(hp:l.plain):yt (xj l d)=(yt d).filter (yw l)/\∀p∈xj l d,p.1<=p.2:=by
 obtain⟨x,sg,k⟩:=l
 simp only[Lit.plain] at hp
 unfold xj yw
 rcases hp with rfl|rfl|rfl
 ·simp only[wB,String.reduceEq,if_true,if_false]
  exact⟨Xh,Vl h.run⟩
 ·simp only[wB,String.reduceEq,if_true,if_false]
  exact⟨Xi,Uc h.run⟩
 ·simp only[wB,String.reduceEq,if_true,if_false]
  refine⟨?_,?_⟩
  ·have:yt (t7 d k)=yt (wA d (k-1))++yt (wL d (k+1)):=by simp[t7,yt]
   rw[this,Xh,Xi]
   exact jn h.asc
  ·intro p hp
   rcases List.mem_append.mp hp with h1|h1
   ·exact Vl h.run p h1
   ·exact Uc h.run p h1
theorem zbd{l:List Int}(h:Asc l):OkD (spans l):=⟨by rw[xT h];exact h,λp hp=>(uH h p hp).1⟩
noncomputable def we(F:List (List Int))(s:Nat)(v:Int):List (List Int):=(F.eraseIdx s).map λl=>l.filter λw=>decide (w≠v)
theorem jX{F:List (List Int)}{s:Nat}{v:Int}(hs:s<F.length):(we F s v).length+1=F.length:=by
 unfold we
 rw[List.length_map,List.length_eraseIdx_of_lt hs];exact Nat.sub_add_cancel (Nat.zero_lt_of_lt hs)
theorem tb{F:List (List Int)}{s:Nat}{v w:Int}{i:Nat}:yl (we F s v) w i↔w≠v/\yl F w (if i<s then i else i+1):=by
 unfold yl we
 rw[List.getElem?_map,List.getElem?_eraseIdx]
 constructor
 ·rintro⟨l,h1,h2⟩
  obtain⟨l',h3,rfl⟩:=Option.map_eq_some_iff.mp h1
  obtain⟨h4,h5⟩:=List.mem_filter.mp h2
  refine⟨of_decide_eq_true h5,l',?_,h4⟩
  by_cases h:i<s
  ·rw[if_pos h] at h3 ⊢;exact h3
  ·rw[if_neg h] at h3 ⊢;exact h3
 ·rintro⟨hne,l,h1,h2⟩
  refine⟨l.filter λw=>decide (w≠v),?_,List.mem_filter.mpr ⟨h2,decide_eq_true hne⟩⟩
  by_cases h:i<s
  ·rw[if_pos h] at h1 ⊢;rw[h1];rfl
  ·rw[if_neg h] at h1 ⊢;rw[h1];rfl
theorem Je{F:List (List Int)}{v:Int}{i:Nat}(h:yl F v i):i<F.length:=by
 obtain⟨l,h1,_⟩:=h
 exact(List.getElem?_eq_some_iff.mp h1).1
theorem Vr{F:List (List Int)}{s:Nat}(hs:s<F.length){v:Int}:wq F s v↔yl F v s/\yR (we F s v):=by
 have hl:=jX (v:=v) hs
 constructor
 ·rintro⟨f,⟨f1,f2⟩,rfl⟩
  refine⟨f1 s hs,λi=>f (if i<s then i else i+1),λi hi=>?_,λi j hi hj e=>?_⟩
  ·have hi':(if i<s then i else i+1)<F.length:=by split<;>lia
   refine tb.mpr ⟨λe=>?_,f1 _ hi'⟩
   have:=f2 _ _ hi' hs e
   split at this<;>lia
  ·have:=f2 _ _ (by split<;>lia) (by split<;>lia) e
   split at this<;>split at this<;>lia
 ·rintro⟨hv,g,g1,g2⟩
  have key:∀i,i<F.length->i≠s->∃j,j<(we F s v).length/\i=(if j<s then j else j+1)/\(if i<s then g i else g (i-1))=g j:=λi hi hne=>by
   by_cases h:i<s
   ·exact⟨i,Nat.lt_of_lt_of_le h (Nat.le_of_lt_succ (Nat.lt_of_lt_of_eq hs hl.symm)),by rw[if_pos h],by rw[if_pos h]⟩
   ·have hsi:=Nat.lt_of_le_of_ne (Nat.le_of_not_lt h) (Ne.symm hne)
    refine⟨i-1,Nat.sub_lt_right_of_lt_add (Nat.zero_lt_of_lt hsi) (Nat.lt_of_lt_of_eq hi hl.symm),?_,by rw[if_neg h]⟩
    rw[if_neg (Nat.not_lt.mpr (Nat.le_sub_one_of_lt hsi))];exact(Nat.sub_add_cancel (Nat.zero_lt_of_lt hsi)).symm
  refine⟨λi=>if i=s then v else if i<s then g i else g (i-1),⟨λi hi=>?_,λi j hi hj e=>?_⟩,if_pos rfl⟩
  ·by_cases h:i=s
   ·subst h;show yl F (if i=i then v else _) i;rw[if_pos rfl];exact hv
   ·obtain⟨j,hj,e1,e2⟩:=key i hi h
    show yl F (if i=s then v else _) i
    rw[if_neg h,e2]
    have:=(tb.mp (g1 j hj)).2
    rwa [<-e1] at this
  ·have e':(if i=s then v else if i<s then g i else g (i-1))=(if j=s then v else if j<s then g j else g (j-1)):=e
   by_cases h:i=s<;>by_cases h2:j=s
   ·rw[h,h2]
   ·obtain⟨b,hb,e3,e4⟩:=key j hj h2
    rw[if_pos h,if_neg h2,e4] at e'
    exact absurd e'.symm (tb.mp (g1 b hb)).1
   ·obtain⟨b,hb,e3,e4⟩:=key i hi h
    rw[if_neg h,if_pos h2,e4] at e'
    exact absurd e' (tb.mp (g1 b hb)).1
   ·obtain⟨a,ha,e1,e2⟩:=key i hi h
    obtain⟨b,hb,e3,e4⟩:=key j hj h2
    rw[if_neg h,if_neg h2,e2,e4] at e'
    rw[e1,e3,g2 a b ha hb e']
theorem YC{F:List (List Int)}{s:Nat}(hs:s<F.length):yR F↔∃v,yl F v s/\yR (we F s v):=by
 constructor
 ·rintro⟨f,hf⟩
  exact⟨f s,(Vr hs).mp ⟨f,hf,rfl⟩⟩
 ·rintro⟨v,h⟩
  obtain⟨f,hf,_⟩:=(Vr hs).mpr h
  exact⟨f,hf⟩
theorem K7:yR []:=⟨λ_=>0,λi hi=>absurd hi (Nat.not_lt_zero _),λi j hi=>absurd hi (Nat.not_lt_zero _)⟩
theorem K6{F:List (List Int)}{x:Nat}(hx:x<F.length){v:Int}(hv:yl F v x):yR (F.set x [v])↔wq F x v:=by
 have h1:∀i w,yl (F.set x [v]) w i↔yl F w i/\(i=x->w=v):=λi w=>by
  unfold yl
  by_cases h:x=i
  ·subst h
   rw[List.getElem?_set_self hx]
   constructor
   ·rintro⟨l,h3,h2⟩
    cases h3
    obtain rfl:=List.mem_singleton.mp h2
    exact⟨hv,λ_=>rfl⟩
   ·rintro⟨_,h2⟩
    exact⟨[v],rfl,List.mem_singleton.mpr (h2 rfl)⟩
  ·rw[List.getElem?_set_ne h]
   exact⟨λh2=>⟨h2,λe=>absurd e.symm h⟩,λh2=>h2.1⟩
 constructor
 ·rintro⟨f,f1,f2⟩
  rw[List.length_set] at f1 f2
  exact⟨f,⟨λi hi=>((h1 i _).mp (f1 i hi)).1,f2⟩,((h1 x _).mp (f1 x hx)).2 rfl⟩
 ·rintro⟨f,⟨f1,f2⟩,e⟩
  refine⟨f,λi hi=>?_,λi j hi hj=>?_⟩
  ·rw[List.length_set] at hi
   exact(h1 i _).mpr ⟨f1 i hi,λh=>by rw[h];exact e⟩
  ·rw[List.length_set] at hi hj
   exact f2 i j hi hj
theorem zbe{F G:List (List Int)}(hl:G.length=F.length)(hG:∀x v,yl G v x↔yl F v x/\wq F x v){x:Nat}{v:Int}:wq G x v↔wq F x v:=by
 constructor
 ·rintro⟨f,⟨f1,f2⟩,e⟩
  rw[hl] at f1 f2
  exact⟨f,⟨λi hi=>((hG i _).mp (f1 i hi)).1,f2⟩,e⟩
 ·rintro⟨f,hf,e⟩
  refine⟨f,⟨λi hi=>?_,λi j hi hj=>?_⟩,e⟩
  ·rw[hl] at hi
   exact(hG i _).mpr ⟨hf.1 i hi,f,hf,rfl⟩
  ·rw[hl] at hi hj
   exact hf.2 i j hi hj
structure uU(mh:MH)(r rc:Nat)(cells:List Int)(n stir:Nat):Prop where
 tape:mh[r]?=some (.sdict [("cells",.ref rc),("at",.int (n:Int)),("stir",.int (stir:Int))])
 cells:mh[rc]?=some (.list (zi cells))
theorem uU.same{mh mh':MH}{r rc:Nat}{cells:List Int}{n stir:Nat}{S:List Nat}(x:uU mh r rc cells n stir)(s:Same S mh mh')(h1:r∉S)(h2:rc∉S):uU mh' r rc cells n stir:=⟨s.at x.tape h1,s.at x.cells h2⟩
noncomputable def vA:MF:=λargs Q mh=>X6 λr rc cells n stir (m:Nat)=>N9 (args=[.ref r,.int (m:Int)]) (uU mh r rc cells n stir) (r≠rc) (n<=5000) (stir<=2000) (cells.length<=1000) ((∀v∈cells,z7 v)) (0<m)
 (∀(v:Nat) mh' (stir':Nat),v<m->stir'<=2000->Same [r] mh mh'->uU mh' r rc cells (n+1) stir'->Q (.int (v:Int)) mh')
theorem zfz:∀args Q mh,vA args Q mh->yQ ["tape","many"] Yl args Q mh:=by
 rintro args Q mh0 ⟨r,rc,cells,n,stir,m,rfl,⟨c1,c2⟩,hne,hn,hst,hl,hsm,hm,o⟩
 have d1:Df r rc:=hne
 apply xA
 walk_at "s"
 have hlc:(zi cells).length=cells.length:=List.length_map _
 have hS:Same [r] mh0 (mh0.set r (.sdict [("cells",.ref rc),("at",.int ((n:Int)+1)),("stir",.int (stir:Int))])):=.set (List.mem_singleton_self _)
 have e1:(mh0.set r (.sdict [("cells",.ref rc),("at",.int ((n:Int)+1)),("stir",.int (stir:Int))]))[r]?=some (.sdict [("cells",.ref rc),("at",.int ((n:Int)+1)),("stir",.int (stir:Int))]):=yW c1
 have e2:(mh0.set r (.sdict [("cells",.ref rc),("at",.int ((n:Int)+1)),("stir",.int (stir:Int))]))[rc]?=some (.list (zi cells)):=by rw[List.getElem?_set_ne d1];exact c2
 generalize mh0.set r (.sdict [("cells",.ref rc),("at",.int ((n:Int)+1)),("stir",.int (stir:Int))])=mh1 at *
 have fin:∀(z:Int) (st:Nat) mh2,st<=2000->Same [r] mh0 mh2->uU mh2 r rc cells (n+1) st->Q (.int (z % (m:Int))) mh2:=λz st mh2 h0 hS C=>by
  have h1:=Int.emod_nonneg z (show(m:Int)≠0 by lia)
  have h2:=Int.emod_lt_of_pos z (show(0:Int)<m by lia)
  have:=o (z % (m:Int)).toNat mh2 st ((λ{n}{z} h=>(Int.toNat_lt h).mpr) h1 h2) h0 hS C
  rwa [Int.toNat_of_nonneg h1] at this
 have hmp:(0:Int)<m:=by lia
 clear c1
 apply cont_i
 by_cases hc:n+1<=cells.length
 ·have hx:cells[n]?=some cells[n]:=List.getElem?_eq_getElem _
  have hsub:(n:Int)+1-1=n:=Int.add_sub_cancel (↑n) 1
  walk_at "s"
  refine qR (by lia) ?_
  walk_at "w"
  rw[hsub]
  walk_at "w"
  exact fin _ _ _ hst hS ⟨e1,e2⟩
 ·have hst2:z7 ((stir:Int)):=small_n (Nat.le_trans hst (by decide))
  have h23:z7 (23:Int):=small_of (by decide) (by decide)
  walk_at "s"
  refine VG (by lia) ?_
  walk_at "w"
  walk_at "n"
  have e3:((stir:Int) * 23+7) % 997=(((stir * 23+7) % 997:Nat):Int):=by simp
  rw[e3]
  have k1:Same [r] mh1 (mh1.set r (.sdict [("cells",.ref rc),("at",.int ((n:Int)+1)),("stir",.int (((stir * 23+7) % 997:Nat):Int))])):=.set (List.mem_singleton_self _)
  have e4:(mh1.set r (.sdict [("cells",.ref rc),("at",.int ((n:Int)+1)),("stir",.int (((stir * 23+7) % 997:Nat):Int))]))[r]?=some (.sdict [("cells",.ref rc),("at",.int ((n:Int)+1)),("stir",.int (((stir * 23+7) % 997:Nat):Int))]):=yW e1
  have e5:(mh1.set r (.sdict [("cells",.ref rc),("at",.int ((n:Int)+1)),("stir",.int (((stir * 23+7) % 997:Nat):Int))]))[rc]?=some (.list (zi cells)):=by rw[List.getElem?_set_ne d1];exact e2
  have hlt:(stir * 23+7) % 997<997:=Nat.mod_lt _ (by decide)
  generalize mh1.set r (.sdict [("cells",.ref rc),("at",.int ((n:Int)+1)),("stir",.int (((stir * 23+7) % 997:Nat):Int))])=mh2 at *
  generalize (stir * 23+7) % 997=st at *
  have hst3:z7 (st:Int):=small_n (Nat.le_trans (Nat.le_of_lt hlt) (by decide))
  walk_at "n"
  exact fin _ st _ (Nat.le_trans (Nat.le_of_lt hlt) (by decide)) (hS.trans k1) ⟨e4,e5⟩
inductive OkC:Dom->Prop
 |nil:OkC []
 |one {p:Int×Int}:p.1<=p.2->OkC [p]
 |cons {p q:Int×Int}{d:Dom}:p.1<=p.2->p.2+1<q.1->OkC (q::d)->OkC (p::q::d)
theorem OkC.tail{p:Int×Int}{d:Dom}(h:OkC (p::d)):OkC d:=by
 cases h with
 |one _=>exact .nil
 |cons _ _ h=>exact h
theorem OkC.le{p:Int×Int}{d:Dom}(h:OkC (p::d)):p.1<=p.2:=by
 cases h with
 |one h=>exact h
 |cons h _ _=>exact h
theorem OkC.far{p:Int×Int}{d:Dom}(h:OkC (p::d)):∀q∈d,p.2+1<q.1:=by
 induction d generalizing p with
 |nil=>intro q hq;cases hq
 |cons r d ih=>
  cases h with
  |cons h1 h2 h3=>
   intro q hq
   rcases List.mem_cons.mp hq with rfl|hq
   ·exact h2
   ·have:=ih h3 q hq
    exact Int.lt_trans h2 (Int.lt_of_le_of_lt h3.le (Int.lt_trans (Int.lt_succ _) this))
theorem OkC.mk{p:Int×Int}{d:Dom}(h1:p.1<=p.2)(h:OkC d)(h2:∀q∈d,p.2+1<q.1):OkC (p::d):=by
 cases d with
 |nil=>exact .one h1
 |cons q d=>exact .cons h1 (h2 q (.head _)) h
theorem Vq{a:Int}{l:List Int}(h:spans l=[]):spans (a::l)=[(a,a)]:=by rw[spans,h]
theorem ja{a b e:Int}{l:List Int}{r:Dom}(h:spans l=(b,e)::r):spans (a::l)=if a+1=b then (a,e)::r else (a,a)::(b,e)::r:=by rw[spans,h]
theorem Xm:∀{l:List Int},Asc l->OkC (spans l)
 |[],_=>.nil
 |a::l,h=>by
  have h1:∀x∈l,a<x:=(List.pairwise_cons.mp h).1
  have h2:Asc l:=(List.pairwise_cons.mp h).2
  have ih:=Xm h2
  have hr:=uH h2
  cases hs:spans l with
  |nil=>rw[Vq hs];exact .one (Int.le_refl _)
  |cons be r=>
   obtain⟨b,e⟩:=be
   rw[hs] at ih hr
   rw[ja hs]
   have hb:=h1 _ (hr _ (.head _)).2.1
   have hbe:=ih.le
   simp only at hb hbe
   split
   ·exact .mk (by simp only;lia) ih.tail ih.far
   ·refine .mk (Int.le_refl _) ih λq hq=>?_
    rcases List.mem_cons.mp hq with rfl|hq
    ·simp only;lia
    ·exact Int.lt_of_lt_of_le (Int.add_lt_add_right hb 1) (Int.le_of_lt (Int.lt_of_le_of_lt (Int.add_le_add_right hbe 1) (ih.far q hq)))
theorem UF{a b:Int}(h:a<=b){l:List Int}(hl:∀q∈spans l,b+1<q.1):spans (xq (a,b)++l)=(a,b)::spans l:=by
 have:∀n:Nat,∀a:Int,b-a=n->spans (xq (a,b)++l)=(a,b)::spans l:=by
  intro n
  induction n with
  |zero=>
   intro a ha
   have:a=b:=Eq.symm (Int.eq_of_sub_eq_zero ha)
   subst this
   rw[ZU]
   show spans (a::l)=_
   cases hs:spans l with
   |nil=>exact Vq hs
   |cons ce r=>
    obtain⟨c,e⟩:=ce
    have:=hl (c,e) (by rw[hs];exact .head _)
    rw[ja hs,if_neg (by simp only at this;exact Int.ne_of_lt this)]
  |succ n ih=>
   intro a ha
   have:=ih (a+1) (by lia)
   rw[s4 (Int.le.intro_sub (n+1) ha)]
   show spans (a::(xq (a+1,b)++l))=_
   rw[ja this,if_pos rfl]
 exact this (b-a).toNat a (Eq.symm (Int.toNat_sub_of_le h))
theorem OkC.spans:∀{d:Dom},OkC d->spans (yt d)=d
 |[],_=>rfl
 |p::d,h=>by
  have ih:=h.tail.spans
  show Internal.spans (xq p++yt d)=_
  rw[show p=(p.1,p.2) from rfl,UF h.le (by rw[ih];exact h.far),ih]
theorem OkC.upTo{k:Int}:∀{d:Dom},OkC d->OkC (wA d k)/\∀q∈wA d k,q.2<=k/\∃p∈d,q.1=p.1
 |[],_=>⟨.nil,λq hq=>by cases hq⟩
 |p::d,h=>by
  obtain⟨i1,i2⟩:=h.tail.upTo (k:=k)
  by_cases hp:p.1<=k
  ·have e:wA (p::d) k=(p.1,min p.2 k)::wA d k:=by unfold wA;rw[List.filter_cons_of_pos (by simpa using hp)];rfl
   have hle:=h.le
   rw[e]
   refine⟨.mk (Int.le_min.mpr ⟨hle,hp⟩) i1 λq hq=>?_,λq hq=>?_⟩
   ·obtain⟨_,p',h3,h4⟩:=i2 q hq
    have:=h.far p' h3
    exact h4▸Int.lt_of_le_of_lt (Int.add_le_add_right (Int.min_le_left _ _) 1) this
   ·rcases List.mem_cons.mp hq with rfl|hq
    ·exact⟨by simp only;exact Int.min_le_right p.snd k,p,.head _,rfl⟩
    ·obtain⟨h2,p',h3,h4⟩:=i2 q hq
     exact⟨h2,p',.tail _ h3,h4⟩
  ·have e:wA (p::d) k=wA d k:=by unfold wA;rw[List.filter_cons_of_neg (by simpa using hp)]
   rw[e]
   refine⟨i1,λq hq=>?_⟩
   obtain⟨h2,p',h3,h4⟩:=i2 q hq
   exact⟨h2,p',.tail _ h3,h4⟩
theorem OkC.from{k:Int}:∀{d:Dom},OkC d->OkC (wL d k)/\∀q∈wL d k,k<=q.1/\∃p∈d,p.1<=q.1
 |[],_=>⟨.nil,λq hq=>by cases hq⟩
 |p::d,h=>by
  obtain⟨i1,i2⟩:=h.tail.from (k:=k)
  by_cases hp:k<=p.2
  ·have e:wL (p::d) k=(max p.1 k,p.2)::wL d k:=by unfold wL;rw[List.filter_cons_of_pos (by simpa using hp)];rfl
   have hle:=h.le
   rw[e]
   refine⟨.mk (Int.max_le.mpr ⟨hle,hp⟩) i1 λq hq=>?_,λq hq=>?_⟩
   ·obtain⟨_,p',h3,h4⟩:=i2 q hq
    have:=h.far p' h3
    simp only;exact Int.lt_of_lt_of_le this h4
   ·rcases List.mem_cons.mp hq with rfl|hq
    ·exact⟨by simp only;exact Int.le_max_right p.fst k,p,.head _,by simp only;exact Int.le_max_left p.fst k⟩
    ·obtain⟨h2,p',h3,h4⟩:=i2 q hq
     exact⟨h2,p',.tail _ h3,h4⟩
  ·have e:wL (p::d) k=wL d k:=by unfold wL;rw[List.filter_cons_of_neg (by simpa using hp)]
   rw[e]
   refine⟨i1,λq hq=>?_⟩
   obtain⟨h2,p',h3,h4⟩:=i2 q hq
   exact⟨h2,p',.tail _ h3,h4⟩
theorem OkC.app:∀{a b:Dom}{k:Int},OkC a->OkC b->(∀p∈a,p.2<=k-1)->(∀q∈b,k+1<=q.1)->OkC (a++b)
 |[],_,_,_,hb,_,_=>hb
 |p::a,b,k,ha,hb,h1,h2=>by
  refine .mk ha.le (ha.tail.app hb (λq hq=>h1 q (.tail _ hq)) h2) λq hq=>?_
  rcases List.mem_append.mp hq with hq|hq
  ·exact ha.far q hq
  ·have:=h1 p (.head _);have:=h2 q hq;lia
theorem qX{l:Lit}(hp:l.plain){row:List Int}(h:Asc row):xj l (spans row)=spans (row.filter (yw l)):=by
 have hv:=(Vo (zbd h) hp).1
 rw[xT h] at hv
 rw[<-hv]
 have hc:=Xm h
 refine(OkC.spans ?_).symm
 unfold xj
 split
 ·exact hc.upTo.1
 ·split
  ·exact hc.from.1
  ·exact hc.upTo.1.app hc.from.1 (λp hp=>(hc.upTo.2 p hp).1) λq hq=>(hc.from.2 q hq).1
theorem Xn{a b:List Int}(ha:Asc a)(hb:Asc b)(h:spans a=spans b):a=b:=by rw[<-xT ha,<-xT hb,h]
theorem qy{v:Int}:∀{l:List Int},spans (l++[v])=match (spans l).getLast? with
  |none=>[(v,v)]
  |some p=>if p.2=v-1 then (spans l).dropLast++[(p.1,v)] else spans l++[(v,v)]
 |[]=>rfl
 |a::l=>by
  have ih:=qy (v:=v) (l:=l)
  show spans (a::(l++[v]))=_
  cases l with
  |nil=>
   show(if a+1=v then [(a,v)] else [(a,a),(v,v)])=if a=v-1 then [(a,v)] else [(a,a),(v,v)]
   by_cases h:a+1=v
   ·rw[if_pos h,if_pos (by lia)]
   ·rw[if_neg h,if_neg (by lia)]
  |cons b l=>
   obtain⟨e,r,hs⟩:=ZT (a:=b) (l:=l)
   rw[hs] at ih
   have e1:spans (a::b::l)=if a+1=b then (a,e)::r else (a,a)::(b,e)::r:=ja hs
   cases hr:r.getLast? with
   |none=>
    have hr':=List.getLast?_eq_none_iff.mp hr
    subst hr'
    have ih':spans (b::l++[v])=if e=v-1 then [(b,v)] else [(b,e),(v,v)]:=ih
    rw[spans,ih',e1]
    by_cases h1:e=v-1<;>by_cases h2:a+1=b<;>simp[h1,h2]
   |some p=>
    have hne:r≠[]:=by rintro rfl;cases hr
    obtain⟨r',z,rfl⟩:∃r' z,r=r'++[z]:=⟨r.dropLast,r.getLast hne,(List.dropLast_concat_getLast hne).symm⟩
    have hz:z=p:=by simpa using hr
    subst hz
    have ih':spans (b::l++[v])=if z.2=v-1 then ((b,e)::r')++[(z.1,v)] else ((b,e)::(r'++[z]))++[(v,v)]:=by
     rw[ih]
     rw[show((b,e)::(r'++[z]))=((b,e)::r')++[z] by simp,List.getLast?_concat,List.dropLast_concat]
    rw[spans,ih',e1]
    have hl:∀q:Dom,(q++[z]).getLast?=some z:=λq=>List.getLast?_concat
    by_cases h2:a+1=b
    ·rw[if_pos h2,show((a,e)::(r'++[z]))=((a,e)::r')++[z] by simp,hl,List.dropLast_concat]
     by_cases h1:z.2=v-1
     ·simp[h1,h2]
     ·simp[h1,h2]
    ·rw[if_neg h2,show((a,a)::(b,e)::(r'++[z]))=((a,a)::(b,e)::r')++[z] by simp,hl,List.dropLast_concat]
     by_cases h1:z.2=v-1
     ·simp[h1,h2]
     ·simp[h1,h2]
theorem zak{r s:Nat}{d:Dom}{Q:Bool->Prop}{mh:MH}(h1:mh[r]?=some (.list (d.map xM)))(h2:mh[s]?=some (.list []))(q:Q (decide (d=[]))):eqM (.ref r) (.ref s) Q mh:=by
 refine⟨.list (d.map vT),.list [],.list h1 (.map Jk d),.list h2 .nil,?_,rfl,?_⟩
 ·simp[kqdOk,vT]
 ·have:(Dat.list (d.map vT)=Dat.list [])↔d=[]:=by simp
  simpa only[this] using q
theorem Yd{d:Dom}{p:Int×Int}(h:d.getLast?=some p):d.map xM=d.dropLast.map xM++[xM p]:=by
 have hne:d≠[]:=by rintro rfl;cases h
 have e:=List.dropLast_concat_getLast hne
 rw[List.getLast?_eq_some_getLast hne] at h
 rw[<-Option.some.inj h]
 conv=>lhs;rw[<-e]
 rw[List.map_append];rfl
noncomputable def qV:MF:=λargs Q mh=>X2 λrv l=>N4 (args=[.ref rv]) (mh[rv]?=some (.list (zi l))) (l.length<=1000) (∀mh',Same [] mh mh'->Q (xC (spans l)) mh')
theorem zb0:∀args Q mh,qV args Q mh->yQ ["row"] Zd args Q mh:=by
 rintro args Q mh0 ⟨rv,l,rfl,hv,hl,o⟩
 apply tj
 walk_at "s"
 walk_at "n"
 have hg:=zm hv
 refine⟨_,y7 (λrest loc mh=>X2 λdn rest'=>N5 (l=dn++rest') (rest=zi rest') (loc "found" = some (.ref mh0.length)) (mh[mh0.length]?=some (.list ((spans dn).map xM))) (Same [] mh0 mh)) ?_ ?_ ?_ _ _ _ ⟨[],l,rfl,rfl,by walk_at "ne",zB,.append⟩⟩
 ·rintro rest loc mh ⟨dn,rest',-,-,-,-,hs⟩
  exact hs.at hv nN
 ·rintro v rest loc mh K hK hR ⟨dn,rest',e1,e2,g1,hm,hs⟩
  cases rest' with
  |nil=>cases e2
  |cons u rest'=>
   cases e2
   have hsl:=sz (l:=dn)
   have hln:=congrArg List.length e1
   simp only[List.length_append,List.length_cons] at hln
   have fin:∀mh' d,d=spans (dn++[u])->Same [mh0.length] mh mh'->mh'[mh0.length]?=some (.list (d.map xM))->K .next (upd loc "v" (.int u)) mh':=λmh' d hd s hm'=>
    hK _ _ ⟨dn++[u],rest',by rw[e1];simp,rfl,miss rfl g1,by rw[hm',hd],((hs.mono nE).trans s).old (nG (Nat.le_refl _))⟩
   have hg1:=zm hm
   clear hR hK e1
   walk_at "w"
   have k1:Same [] mh (mh++[MO.list []]):=.append
   refine zak (k1.at hm nN) zB ?_
   cases hd:(spans dn).getLast? with
   |none=>
    have h0:=List.getLast?_eq_none_iff.mp hd
    have hsn:spans (dn++[u])=[(u,u)]:=by rw[qy,hd]
    rw[h0] at hm
    refine qB h0 ?_
    have hm1:=k1.at hm nN
    walk_at "w"
    exact fin _ [(u,u)] hsn.symm ((k1.mono nE).trans (.set (List.mem_singleton_self _))) (yW hm1)
   |some p=>
    have hsn:spans (dn++[u])=if p.2=u-1 then (spans dn).dropLast++[(p.1,u)] else spans dn++[(u,u)]:=by rw[qy,hd]
    have hne:spans dn≠[]:=by intro e;rw[e] at hd;cases hd
    have hdl:(spans dn).dropLast.length<=1000:=by rw[List.length_dropLast];exact Nat.le_trans (Nat.sub_le _ _) (Nat.le_trans hsl (Nat.le_trans (Nat.le_add_right _ _) (hln▸hl)))
    refine zij hne ?_
    rw[Yd hd] at hm
    have hm1:=k1.at hm nN
    have hgl:((spans dn).dropLast.map xM++[xM p]).getLast?=some (xM p):=List.getLast?_concat
    walk_at "w"
    refine sa (λhe=>?_) λhe=>?_
    ·walk_at "w"
     have:p.2=u-1:=he
     refine fin _ ((spans dn).dropLast++[(p.1,u)]) (by rw[hsn,if_pos this]) ((k1.mono nE).trans (.set (List.mem_singleton_self _))) ?_
     rw[yW hm1,List.map_append];rfl
    ·walk_at "w"
     refine fin _ (spans dn++[(u,u)]) (by rw[hsn];exact(if_neg he).symm) ((k1.mono nE).trans (.set (List.mem_singleton_self _))) ?_
     rw[yW hm1,List.map_append,Yd hd];rfl
 ·rintro loc mh ⟨dn,rest',e1,e2,g1,hm,hs⟩
  cases rest' with
  |nil=>
   simp at e1;subst e1
   have hsl:=sz (l:=l)
   have hb:((spans l).map xM).length<=BIG:=by rw[List.length_map];unfold BIG;lia
   walk_at "n"
   exact o _ hs
  |cons u rest'=>cases e2
noncomputable def yT:MF:=λargs Q mh=>X7 λR doms firsts tr marks fl cl=>N4 (args=[.ref R.r]) (zu mh R doms firsts tr marks fl cl) (doms.length<=1000) (Q (.int doms.length) mh)
theorem YL:∀args Q mh,yT args Q mh->yQ ["self"] jh args Q mh:=by
 rintro args Q mh ⟨R,doms,firsts,tr,marks,fl,cl,rfl,S,hl,q⟩
 have e1:=S.inst
 have e2:=S.doms
 apply tj
 walk_at "w"
 rw[List.length_map];exact q
theorem zdk{d:Dom}(sm:SmD d){all:List MV}{mh0:MH}{Q:Loc->MO->MH->Prop}{loc:Loc}(o:∀loc',Q loc' (.list (zi (yt d))) mh0) :
  vf (.val (.tuple all)) all (.many ["first","last"]) vq jr (d.map xM) loc (.list []) Q mh0:=by
 have hvl:=uu sm.run
 have hdl:=sm.len
 refine xm (λrest loc acc mh=>X2 λdn d'=>N4 (d=dn++d') (rest=d'.map xM) (acc=.list (zi (yt dn))) (mh=mh0)) ?_ ?_ ?_ _ _ _ _ ⟨[],d,rfl,rfl,rfl,rfl⟩
 ·rintro rest loc acc mh -;rfl
 ·rintro v rest loc acc mh K hK ⟨dn,d',e1,e2,rfl,rfl⟩
  cases d' with
  |nil=>cases e2
  |cons p d'=>
   cases e2
   have hp:=sm.run p (by rw[e1];simp)
   have hv:yt d=yt dn++(xq p++yt d'):=by rw[e1];simp[yt]
   have hlen:=congrArg List.length hv
   simp only[List.length_append,vt] at hlen
   refine⟨upd (upd loc "first" (.int p.1)) "last" (.int p.2),rfl,?_⟩
   walk_at "w"
   refine⟨wd p.1 (p.2+1),?_⟩
   rw[s8]
   refine xm (λrest loc acc mh'=>X2 λsn s'=>N4 (xq p=sn++s') (rest=zi s') (acc=.list (zi (yt dn++sn))) (mh'=mh)) ?_ ?_ ?_ _ _ _ _ ⟨[],xq p,rfl,rfl,by simp,rfl⟩
   ·rintro rest loc acc mh' -
    exact⟨⟨Int.le_trans (by decide) hp.1,Int.le_trans hp.2.1 (Int.le_trans hp.2.2 (by decide))⟩,⟨Int.le_trans (by decide) (Int.add_le_add_right (Int.le_trans hp.1 hp.2.1) 1),Int.le_trans (Int.add_le_add_right hp.2.2 1) (by decide)⟩,(s8 p).symm⟩
   ·rintro v rest loc acc mh' K' hK' ⟨sn,s',e3,e4,rfl,rfl⟩
    cases s' with
    |nil=>cases e4
    |cons u s'=>
     cases e4
     have hsl:=congrArg List.length e3
     simp only[vt,List.length_append,List.length_cons] at hsl
     refine⟨upd loc "v" (.int u),rfl,?_⟩
     walk_at "w"
     refine⟨by simp[zi];unfold BIG;lia,hK' _ _ _ ⟨sn++[u],s',by rw[e3];simp,rfl,by simp[zi],rfl⟩⟩
   ·rintro loc acc mh' ⟨sn,s',e3,e4,rfl,rfl⟩
    cases s' with
    |nil=>
     simp at e3
     refine hK _ _ _ ⟨dn++[p],d',by rw[e1];simp,rfl,?_,rfl⟩
     rw[<-e3]
     simp[yt]
    |cons u s'=>cases e4
 ·rintro loc acc mh ⟨dn,d',e1,e2,rfl,rfl⟩
  cases d' with
  |nil=>simp at e1;subst e1;exact o _
  |cons p d'=>cases e2
theorem uB{n:Nat}(h:n<=1000){mh:MH}:xc (.val (.range 0 (n:Int))) (z3 (List.range n)) mh:=⟨by unfold z7;decide,by unfold z7;lia,Xr.symm⟩
noncomputable def ww:MF:=λargs Q mh=>X7 λR doms firsts tr marks fl cl=>N5 (args=[.ref R.r]) (zu mh R doms firsts tr marks fl cl) (doms.length<=1000) ((∀d∈doms,SmD d)) (∀mh' r as,Same [] mh mh'->Rows mh' r as (doms.map yt)->mh.length<=r->(∀i∈as,mh.length<=i)->Q (.ref r) mh')
theorem zfx:∀args Q mh,ww args Q mh->yQ ["store_now"] (Yj yT zL) args Q mh:=by
 rintro args Q mh0 ⟨R,doms,firsts,tr,marks,fl,cl,rfl,S,hd,hsm,o⟩
 have e1:=S.inst
 apply tj
 walk_at "w"
 refine⟨R,doms,firsts,tr,marks,fl,cl,rfl,S,hd,?_⟩
 walk_at "w"
 refine⟨z3 (List.range doms.length),xm (λrest loc acc mh=>X3 λdn rest' as=>N7 (List.range doms.length=dn++rest') (rest=z3 rest') (loc "store_now" = some (.ref R.r)) (acc=.list (as.map .ref)) (xE mh as ((doms.take dn.length).map yt)) ((∀i∈as,mh0.length<=i)) (Same [] mh0 mh)) ?_ ?_ ?_ _ _ _ _ ⟨[],List.range doms.length,[],rfl,rfl,by walk_at "ne",rfl,.nil,nA,.refl⟩⟩
 ·rintro rest loc acc mh -
  exact uB hd
 ·rintro v rest loc acc mh K hK ⟨dn,rest',as,e1,e2,h1,rfl,hL,hge,hs⟩
  cases rest' with
  |nil=>cases e2
  |cons p rest'=>
   cases e2
   obtain⟨rfl,hlt⟩:=xo e1
   have S':=S.same hs nA
   have hi:=S'.inst
   have hal:=hL.len
   simp only[List.length_map,List.length_take] at hal
   refine⟨upd loc "x" (.int (dn.length:Int)),rfl,?_⟩
   walk_at "w"
   have hdg:doms[dn.length]?=some doms[dn.length]:=List.getElem?_eq_getElem _
   refine⟨R,doms,firsts,tr,marks,fl,cl,doms[dn.length],dn.length,rfl,S',by lia,hdg,?_⟩
   walk_at "w"
   refine⟨_,zdk (hsm _ (List.getElem_mem hlt)) λloc'=>⟨by rw[List.length_map];unfold BIG;lia,?_⟩⟩
   have hk1:Same [] mh (mh++[MO.list (zi (yt doms[dn.length]))]):=.append
   refine hK _ _ _ ⟨dn++[dn.length],rest',as++[mh.length],by rw[e1];simp,rfl,miss rfl h1,by simp,?_,λi hi=>?_,hs.trans hk1⟩
   ·have:=(hL.same hk1 (by exact nB)).snoc (zB (o:=MO.list (zi (yt doms[dn.length]))))
    rw[show(dn++[dn.length]).length=dn.length+1 by exact List.length_append,<-List.take_append_getElem hlt,List.map_append]
    exact this
   ·rcases List.mem_append.mp hi with h|h
    ·exact hge i h
    ·simp at h;subst h;exact hs.le
 ·rintro loc acc mh ⟨dn,rest',as,e1,e2,h1,rfl,hL,hge,hs⟩
  cases rest' with
  |nil=>
   have hl:=congrArg List.length e1
   simp at hl
   rw[<-hl,List.take_length] at hL
   walk_at "w"
   exact o _ _ as (hs.trans .append) ⟨zB,hL.same (S:=[]) .append nB⟩ hs.le hge
  |cons p r=>cases e2
noncomputable def UC:MF:=λargs Q mh=>X2 λl v=>N3 (args=[Lit.v l,.int v]) (l.plain) (∀mh',Same [] mh mh'->Q (.bool (yw l v)) mh')
theorem zf0:∀args Q mh,UC args Q mh->yQ ["literal","v"] Ym args Q mh:=by
 rintro args Q mh ⟨⟨x,sign,k⟩,v,rfl,hp,o⟩
 apply xA
 walk_at "w"
 refine⟨[("<=",.bool (decide (v<=k))),(">=",.bool (decide (v≥k))),("!=",.bool (!decide (v=k))),("=",.bool (decide (v=k)))],rfl,by simp[wB],?_⟩
 have q:=o (mh++[.sdict [("<=",.bool (decide (v<=k))),(">=",.bool (decide (v≥k))),("!=",.bool (!decide (v=k))),("=",.bool (decide (v=k)))]]) .append
 simp only[Lit.plain] at hp
 simp only[yw] at q
 rcases hp with rfl|rfl|rfl
 ·simp only[wB,String.reduceEq,if_false,if_true] at q
  walk_at "w"
  exact q
 ·simp only[wB,String.reduceEq,if_false,if_true] at q
  walk_at "w"
  exact q
 ·simp only[wB,String.reduceEq,if_false,if_true] at q
  walk_at "w"
  simpa using q
noncomputable def zck(ls:List Lit)(x v:Int):Bool:=(ls.filter λl=>decide (l.x=x) && !yw l v).isEmpty
noncomputable def XV:MF:=λargs Q mh=>X6 λrF cs F ls (x:Nat) row=>N7 (args=[.ref rF,.int (x:Int),.tuple (ls.map Lit.v)]) (Rows mh rF cs F) (F[x]?=some row) (x<=1000) (SmL ls) (row.length<=1000) (∀mh' r,Same [] mh mh'->mh'[r]?=some (.list (zi (vI row ls x)))->mh.length<=r->Q (.ref r) mh')
theorem zf1:∀args Q mh,XV args Q mh->yQ ["rows","x","literals"] (Yn UC) args Q mh:=by
 rintro args Q mh0 ⟨rF,cs,F,ls,x,row,rfl,hF,hx,hx1,sl,hrl,o⟩
 have hrow:=hF.row
 obtain⟨q,hq1,hq2⟩:=hF.get hx
 apply jF
 walk_at "w"
 refine⟨_,yS (λloc=>loc "literals" = some (.tuple (ls.map Lit.v))/\loc "x" = some (.int (x:Int))) MV.int (zck ls x) MV.int row ?_ (by unfold BIG;exact ltk) ?_ ?_ ?_⟩
 ·exact hq2
 ·rintro v hv loc ⟨e1,e2⟩
  refine⟨upd loc "v" (.int v),rfl,⟨miss rfl e1,miss rfl e2⟩,λmh hs=>⟨λR o=>?_,λ_ R o=>?_⟩⟩
  ·walk_at "w"
   refine⟨_,yS (mh0:=mh) (λloc=>loc "v" = some (.int v)/\loc "x" = some (.int (x:Int))) Lit.v (λl=>decide (l.x=(x:Int)) && !yw l v) (λ_=>.int 1) ls (show xc (.val (.tuple (ls.map Lit.v))) (ls.map Lit.v) mh from rfl) sl.len ?_ ?_ ?_⟩
   ·rintro l hl loc ⟨e1,e2⟩
    refine⟨upd loc "one" l.v,rfl,⟨miss rfl e1,miss rfl e2⟩,λmh hs=>⟨λR o=>?_,λ_ R o=>?_⟩⟩
    ·have hpl:=sl.plain l hl
     walk_at "w"
     refine sa (λhx=>?_) λhx=>?_
     ·have o1:∀mh',Same [] mh mh'->R (!yw l v) mh':=by simpa[hx] using o
      walk_at "w"
      refine⟨l,v,rfl,hpl,λmh' hs'=>?_⟩
      have o2:=o1 mh' hs'
      cases hkb:yw l v
      ·rw[hkb] at o2;walk_at "w";exact o2
      ·rw[hkb] at o2;walk_at "w";exact o2
     ·have o1:R false mh:=by simpa[hx] using o mh .refl
      walk_at "w"
      exact o1
    ·walk_at "w"
     exact o _ .refl
   ·exact⟨by walk_at "ne",by walk_at "ne"⟩
   ·intro loc' mh' hs'
    walk_at "w"
    refine tq (a:=(ls.filter λl=>decide (l.x=(x:Int)) && !yw l v).map λ_=>1) (b:=[]) ?_ ?_ ?_
    ·rw[show zi ((ls.filter λl=>decide (l.x=(x:Int)) && !yw l v).map λ_=>1)=(ls.filter λl=>decide (l.x=(x:Int)) && !yw l v).map λ_=>MV.int 1 by simp];walk_at "ne"
    ·show _=some (MO.list []);walk_at "ne"
    ·have:decide (((ls.filter λl=>decide (l.x=(x:Int)) && !yw l v).map λ_=>(1:Int))=[])=zck ls x v:=by
      unfold zck
      cases(ls.filter λl=>decide (l.x=(x:Int)) && !yw l v)<;>simp
     rw[this]
     exact o _ (hs'.trans (Same.append.trans .append))
  ·walk_at "w"
   exact o _ .refl
 ·exact⟨by walk_at "ne",by walk_at "ne"⟩
 ·intro loc' mh' hs
  walk_at "w"
  exact o _ _ (hs.trans .append) zB hs.le
noncomputable def zit(F:List (List Int))(ls:List Lit):Prop:=∀(x:Nat) row,F[x]?=some row->vI row ls x=row
noncomputable def uY:MF:=λargs Q mh=>X4 λrF cs F ls=>N7 (args=[.ref rF,.tuple (ls.map Lit.v)]) (Rows mh rF cs F) (F.length<=1000) ((∀row∈F,row.length<=1000)) (SmL ls) (zit F ls) (∀mh',Same [] mh mh'->Q (.bool true) mh')
theorem zf2:∀args Q mh,uY args Q mh->yQ ["rows","literals"] (Yo XV) args Q mh:=by
 rintro args Q mh0 ⟨rF,cs,F,ls,rfl,hF,hl,hrl,sl,hh,o⟩
 have hrow:=hF.row
 have hcl:=hF.lists.len
 apply xA
 have hln:(cs.map MV.ref).length=F.length:=by rw[List.length_map];exact hcl
 have hlb:(cs.map MV.ref).length<=BIG:=by rw[hln];unfold BIG;exact ltk
 walk_at "w"
 rw[hln]
 refine⟨z3 (List.range F.length),yS (λloc=>loc "literals" = some (.tuple (ls.map Lit.v))/\loc "rows" = some (.ref rF)) (λ(x:Nat)=>MV.int (x:Int)) (λ_=>false) (λx=>MV.int (x:Int)) (List.range F.length) (uB hl) (by simp;unfold BIG;exact ltk) ?_ ?_ ?_⟩
 ·rintro x hx loc ⟨e1,e2⟩
  refine⟨upd loc "x" (.int (x:Int)),rfl,⟨miss rfl e1,miss rfl e2⟩,λmh hs=>⟨λR o=>?_,λh=>by cases h⟩⟩
  have hxl:=List.mem_range.mp hx
  have hg:F[x]?=some F[x]:=List.getElem?_eq_getElem hxl
  have hF':=hF.same hs nB
  walk_at "w"
  refine⟨rF,cs,F,ls,x,F[x],rfl,hF',hg,by lia,sl,hrl _ (List.getElem_mem hxl),λmh' r hs' hr _=>?_⟩
  have hF2:=hF'.same hs' nB
  have hrow2:=hF2.row
  obtain⟨q,hq1,hq2⟩:=hF2.get hg
  walk_at "w"
  refine tq hr hq2 ?_
  rw[hh x _ hg]
  simpa using o _ hs'
 ·exact⟨by walk_at "ne",by walk_at "ne"⟩
 ·intro loc' mh' hs
  have hfl:((List.range F.length).filter λ_=>false)=[]:=by simp
  rw[hfl]
  walk_at "w"
  refine tq (a:=[]) (b:=[]) (by show _=some (MO.list (List.map (λ(x:Nat)=>MV.int (x:Int)) []));walk_at "ne") (by show _=some (MO.list []);walk_at "ne") ?_
  exact o _ ((hs.trans .append).trans .append)
theorem Xo{ls:List Int}(h:∀v∈ls,-4<=v/\v<=8):zig ls:=⟨λv hv=>Xw (h v hv).1 (h v hv).2,yd,by decide,λv hv=>Xw (h v hv).1 (h v hv).2⟩
structure XQ(E:List (List Int))(ls:List Lit)(named left:List Int):Prop where
 n1:named.Nodup
 n2:left.Nodup
 m1:∀i,i∈named↔∃l∈ls,l.x=i
 m2:∀v,v∈left↔∃i∈named,v∈vI (E.getD i.toNat []) ls i
structure Ju(E:List (List Int))(ls:List Lit):Prop where
 len:E.length<=5
 row:∀row∈E,row.length<=4/\∀v∈row,-4<=v/\v<=8
 sl:SmL ls
 at_:∀l∈ls,0<=l.x/\l.x<E.length
noncomputable def u4(E:List (List Int))(ls:List Lit)(q:List Int):List Int:=q.flatMap λi=>vI (E.getD i.toNat []) ls i
theorem Wy{E:List (List Int)}{ls:List Lit}{q:List Int}{x:Nat}(hx:x<E.length):u4 E ls (q++[(x:Int)])=u4 E ls q++vI E[x] ls x:=by
 unfold u4
 rw[List.flatMap_append]
 show _++(vI (E.getD (x:Int).toNat []) ls x++[])=_
 rw[Int.toNat_natCast,List.getD_eq_getElem?_getD,List.getElem?_eq_getElem hx,List.append_nil];rfl
theorem Zh{E:List (List Int)}{ls:List Lit}(h:∀row∈E,row.length<=4):∀q:List Int,(u4 E ls q).length<=q.length * 4
 |[]=>Nat.le_refl _
 |a::q=>by
  have ih:=Zh (ls:=ls) h q
  show(vI (E.getD a.toNat []) ls a++u4 E ls q).length<=_
  rw[List.length_append,List.length_cons]
  have:(vI (E.getD a.toNat []) ls a).length<=4:=by
   refine Nat.le_trans (List.length_filter_le _ _) ?_
   by_cases ha:a.toNat<E.length
   ·rw[List.getD_eq_getElem?_getD,List.getElem?_eq_getElem ha];exact h _ (List.getElem_mem ha)
   ·rw[List.getD_eq_getElem?_getD,List.getElem?_eq_none (Nat.le_of_not_lt ha)];exact Nat.zero_le _
  rw[Nat.add_mul,Nat.add_comm];exact Nat.add_le_add ih this
noncomputable def uX:MF:=λargs Q mh=>X4 λrE cs E ls=>N4 (args=[.ref rE,.tuple (ls.map Lit.v)]) (Rows mh rE cs E) (Ju E ls) (∀mh' r1 r2 named left,Same [] mh mh'->mh'[r1]?=some (.list (zi named))->mh'[r2]?=some (.list (zi left))->XQ E ls named left->Q (.tuple [.ref r1,.ref r2]) mh')
theorem zfy:∀args Q mh,uX args Q mh->yQ ["early","literals"] (Yk XV) args Q mh:=by
 rintro args Q mh0 ⟨rE,cs,E,ls,rfl,hE,ok,o⟩
 have sl:=ok.sl
 apply xA
 walk_at "s"
 refine⟨_,yS (mh0:=mh0) (λ_=>True) Lit.v (λ_=>true) (λl=>.int l.x) ls (show xc (.val (.tuple (ls.map Lit.v))) (ls.map Lit.v) mh0 from rfl) sl.len ?_ trivial ?_⟩
 ·rintro l hl loc -
  refine⟨upd loc "one" l.v,rfl,trivial,λmh hs=>⟨λR o=>o _ .refl,λ_ R o=>?_⟩⟩
  walk_at "w"
  exact o _ .refl
 intro loc' mh1 hs1
 have hfl:(ls.filter λ_=>true).map (λl=>MV.int l.x)=zi (ls.map λl=>l.x):=by rw[List.filter_eq_self.mpr λ_ _=>rfl];simp only[zi,List.map_map,Function.comp_def]
 rw[hfl]
 have hol:=ok.len
 refine⟨mh1.length,ls.map λl=>l.x,rfl,zB,Xo λv hv=>?_,λnamed n1 n2 n3=>?_⟩
 ·obtain⟨l,h1,rfl⟩:=List.mem_map.mp hv
  have:=ok.at_ l h1
  exact⟨Int.le_trans (by decide) this.1,Int.le_trans (Int.le_of_lt this.2) (Int.le_trans (Int.ofNat_le.mpr hol) (by decide))⟩
 have hs2:Same [] mh0 (mh1++[MO.list (zi (ls.map λl=>l.x))]++[MO.list (named.map MV.int)]):=(hs1.trans .append).trans .append
 have hN:(mh1++[MO.list (zi (ls.map λl=>l.x))]++[MO.list (named.map MV.int)])[(mh1++[MO.list (zi (ls.map λl=>l.x))]).length]?=some (.list (named.map MV.int)):=zB
 generalize mh1++[MO.list (zi (ls.map λl=>l.x))]++[MO.list (named.map MV.int)]=mh2 at *
 generalize (mh1++[MO.list (zi (ls.map λl=>l.x))]).length=rn at *
 have hnm:∀i∈named,0<=i/\i<E.length:=λi hi=>by
  obtain⟨l,h1,rfl⟩:=List.mem_map.mp ((n3 i).mp hi)
  exact ok.at_ l h1
 have hnl:named.length<=41:=xp n1 λv hv=>by have:=hnm v hv;exact⟨Int.le_trans (by decide) this.1,Int.le_trans (Int.le_of_lt this.2) (Int.le_trans (Int.ofNat_le.mpr hol) (by decide))⟩
 walk_at "n"
 refine⟨_,xm (λrest loc acc mh=>X2 λdn rest'=>N6 (named=dn++rest') (rest=zi rest') (loc "early" = some (.ref rE)) (loc "literals" = some (.tuple (ls.map Lit.v))) (acc=.list (zi (u4 E ls dn))) (Same [] mh2 mh)) ?_ ?_ ?_ _ _ _ _ ⟨[],named,rfl,rfl,by walk_at "ne",by walk_at "ne",rfl,.refl⟩⟩
 ·rintro rest loc acc mh ⟨dn,rest',-,-,-,-,-,hs⟩
  exact hs.at hN nN
 ·rintro v rest loc acc mh K hK ⟨dn,rest',e1,e2,g1,g2,rfl,hs⟩
  cases rest' with
  |nil=>cases e2
  |cons i rest'=>
   cases e2
   obtain⟨hi0,hi1⟩:=hnm i (by rw[e1];simp)
   obtain⟨x,rfl⟩:=Int.eq_ofNat_of_zero_le hi0
   have hxl:x<E.length:=(λ{n m}=>Int.ofNat_lt.mp) hi1
   have hg:E[x]?=some E[x]:=List.getElem?_eq_getElem hxl
   have hro:=(ok.row _ (List.getElem_mem hxl)).1
   refine⟨upd loc "x" (.int (x:Int)),rfl,?_⟩
   walk_at "w"
   refine⟨rE,cs,E,ls,x,E[x],rfl,hE.same (hs2.trans hs) nB,hg,by lia,sl,by exact ltk,λmh' r hs' hr _=>?_⟩
   have hll:(vI E[x] ls x).length<=4:=Nat.le_trans (List.length_filter_le _ _) hro
   have hdn:=Zh (ls:=ls) (λrow hr=>(ok.row row hr).1) dn
   have hd4:=congrArg List.length e1
   simp only[List.length_append,List.length_cons] at hd4
   have hfin:∀loc,loc "early" = some (.ref rE)->loc "literals" = some (.tuple (ls.map Lit.v))->∀mh3,Same [] mh' mh3->K loc (.list (zi (u4 E ls dn++vI E[x] ls x))) mh3:=λloc k1 k2 mh3 s=>hK _ _ _ ⟨dn++[(x:Int)],rest',by rw[e1];simp,rfl,k1,k2,by rw[Wy hxl],hs.trans (hs'.trans s)⟩
   generalize vI E[x] ls x=L at *
   generalize u4 E ls dn=A at *
   have hr0:=hr
   walk_at "w"
   refine⟨_,xm (λrest loc acc mh=>X2 λsn s'=>N6 (L=sn++s') (rest=zi s') (acc=.list (zi (A++sn))) (loc "early" = some (.ref rE)) (loc "literals" = some (.tuple (ls.map Lit.v))) (mh=mh')) ?_ ?_ ?_ _ _ _ _ ⟨[],L,rfl,rfl,by simp,by walk_at "ne",by walk_at "ne",rfl⟩⟩
   ·rintro rest loc acc mh ⟨sn,s',-,-,-,-,-,rfl⟩
    exact hr0
   ·rintro v rest loc acc mh K' hK' ⟨sn,s',e3,e4,rfl,k1,k2,rfl⟩
    cases s' with
    |nil=>cases e4
    |cons u s'=>
     cases e4
     have hsl:=congrArg List.length e3
     simp only[List.length_append,List.length_cons] at hsl
     refine⟨upd loc "v" (.int u),rfl,?_⟩
     walk_at "w"
     refine⟨by simp[zi];unfold BIG;lia,hK' _ _ _ ⟨sn++[u],s',by rw[e3];simp,rfl,by simp[zi],miss rfl k1,miss rfl k2,rfl⟩⟩
   ·rintro loc acc mh ⟨sn,s',e3,e4,rfl,k1,k2,rfl⟩
    cases s' with
    |nil=>simp at e3;subst e3;exact hfin _ k1 k2 _ .refl
    |cons u s'=>cases e4
 ·rintro loc acc mh ⟨dn,rest',e1,e2,g1,g2,rfl,hs⟩
  cases rest' with
  |cons i rest'=>cases e2
  |nil=>
   simp at e1;subst e1
   refine⟨mh.length,_,rfl,zB,Xo λv hv=>?_,λleft k1 k2 k3=>?_⟩
   ·obtain⟨i,hi,hv⟩:=List.mem_flatMap.mp hv
    have h1:=(List.mem_filter.mp hv).1
    have hx:=hnm i hi
    have hi5:=(Int.toNat_lt hx.1).mpr hx.2
    rw[List.getD_eq_getElem?_getD,List.getElem?_eq_getElem hi5] at h1
    exact(ok.row _ (List.getElem_mem hi5)).2 v h1
   ·walk_at "w"
    refine o _ _ _ named left (hs2.trans (hs.trans (Same.append.trans .append))) ((hs.trans (Same.append.trans .append)).at hN nN) zB ⟨n1,k1,λi=>?_,λv=>?_⟩
    ·rw[n3 i,List.mem_map]
    ·rw[k3 v];exact List.mem_flatMap
theorem Y2{mh:MH}:∀{cs:List Nat}{F:List (List Int)},xE mh cs F->DRs mh (cs.map .ref) (F.map λl=>Dat.list (l.map .int))
 |[],[],_=>.nil
 |[],_::_,h=>by have:=h.len;simp at this
 |_::_,[],h=>by have:=h.len;simp at this
 |c::cs,l::F,h=>by
  obtain⟨l',h1,h2⟩:=h.at_ 0 c rfl
  simp at h1;subst h1
  exact .cons (.list h2 (WF l)) (Y2 ⟨by have:=h.len;simpa using this,λi r hr=>by have:=h.at_ (i+1) r (by simpa using hr);simpa using this⟩)
theorem WC{mh:MH}{r s:Nat}{cs ds:List Nat}{F G:List (List Int)}{Q:Bool->Prop}(h1:Rows mh r cs F)(h2:Rows mh s ds G)(q:Q (decide (F=G))):eqM (.ref r) (.ref s) Q mh:=by
 refine⟨.list (F.map λl=>Dat.list (l.map .int)),.list (G.map λl=>Dat.list (l.map .int)),.list h1.row (Y2 h1.lists),.list h2.row (Y2 h2.lists),?_,?_,?_⟩
 ·simp[kqdOk]
 ·simp[kqdOk]
 ·have:(Dat.list (F.map λl=>Dat.list (l.map .int))=Dat.list (G.map λl=>Dat.list (l.map .int)))↔F=G:=by
   refine⟨λh=>?_,λh=>by rw[h]⟩
   simp only[Dat.list.injEq] at h
   exact(List.map_inj_right λ_ _ e=>VX.mp e).mp h
  simpa only[this] using q
theorem Rows.nil{mh:MH}{r:Nat}(h:mh[r]?=some (.list [])):Rows mh r [] []:=⟨h,.nil⟩
noncomputable def zdh(cs:List Nat)(i:Nat):MV:=.tuple [.int (i:Int),.ref (cs.getD i 0)]
theorem tZ{cs:List Nat}:wN (cs.map .ref)=(List.range cs.length).map (zdh cs):=by
 refine List.ext_getElem? λi=>?_
 by_cases hi:i<cs.length
 ·simp[wN,zdh,hi]
 ·simp[wN,hi]
noncomputable def wy(G:List (List Int))(s:Nat)(v:Int)(i:Nat):List (List Int):=((G.take i).eraseIdx s).map λl=>l.filter λw=>decide (w≠v)
theorem UP{G:List (List Int)}{s:Nat}{v:Int}:wy G s v G.length=we G s v:=by unfold wy we;rw[List.take_length]
theorem V2{G:List (List Int)}{s:Nat}{v:Int}(hi:s<G.length):wy G s v (s+1)=wy G s v s:=by
 unfold wy
 have hl:(G.take s).length=s:=by rw[List.length_take];lia
 have e1:(G.take s).eraseIdx s=G.take s:=List.eraseIdx_of_length_le (List.length_take_le s G)
 rw[<-List.take_append_getElem hi,List.eraseIdx_append_of_length_le (List.length_take_le s G),hl,Nat.sub_self,e1]
 show(G.take s++[]).map _=_
 rw[List.append_nil]
theorem V3{G:List (List Int)}{s i:Nat}{v:Int}(hi:i<G.length)(h:i≠s):wy G s v (i+1)=wy G s v i++[G[i].filter λw=>decide (w≠v)]:=by
 unfold wy
 have hl:(G.take i).length=i:=by rw[List.length_take];exact Nat.min_eq_left (Nat.le_of_lt hi)
 rw[<-List.take_append_getElem hi]
 by_cases hs:s<i
 ·rw[List.eraseIdx_append_of_lt_length (Nat.lt_of_lt_of_eq hs hl.symm),List.map_append];rfl
 ·have h4:(G.take i).length<=s:=Nat.le_trans (Nat.le_of_eq hl) (Nat.le_of_not_lt hs)
  rw[List.eraseIdx_append_of_length_le h4,hl,List.eraseIdx_of_length_le h4,List.map_append,List.eraseIdx_of_length_le (Nat.sub_pos_of_lt (Nat.lt_of_le_of_ne (Nat.le_of_not_lt hs) h))];rfl
theorem UN{G:List (List Int)}{s i:Nat}{v:Int}:(wy G s v i).length<=i:=by
 unfold wy
 rw[List.length_map]
 refine Nat.le_trans (List.length_eraseIdx_le _ _) ?_
 rw[List.length_take];exact Nat.min_le_left i G.length
theorem V4{G:List (List Int)}{s:Nat}{v:Int}(h:∀row∈G,row.length<=1000):∀row∈we G s v,row.length<=1000:=by
 intro row hr
 obtain⟨l,h1,rfl⟩:=List.mem_map.mp hr
 exact Nat.le_trans (List.length_filter_le _ _) (h l (List.mem_of_mem_eraseIdx h1))
section
variable {r:Nat}{cs:List Nat}{G:List (List Int)}{s:Nat}{v:Int}{mh0:MH}{loc:Loc}
theorem JH{Q:Loc->MO->MH->Prop}(hG:Rows mh0 r cs G)(hl:G.length<=1000)(hrl:∀row∈G,row.length<=1000)(hs:s<G.length)(g1:loc "spot" = some (.int (s:Int)))(g2:loc "v" = some (.int v))
  (o:∀loc' mh' as,Same [] mh0 mh'->xE mh' as (we G s v)->Q loc' (.list (as.map .ref)) mh') :
  vf (.enum r) (wN (cs.map .ref)) (.many ["k","row"]) tz t3 (wN (cs.map .ref)) loc (.list []) Q mh0:=by
 have hcl:=hG.lists.len
 refine xm (λrest loc acc mh=>X2 λi as=>N7 (i<=G.length) (rest=(wN (cs.map .ref)).drop i) (loc "spot" = some (.int (s:Int))) (loc "v" = some (.int v)) (acc=.list (as.map .ref)) (xE mh as (wy G s v i)) (Same [] mh0 mh)) ?_ ?_ ?_ _ _ _ _ ⟨0,[],Nat.zero_le _,rfl,g1,g2,rfl,?_,.refl⟩
 ·rintro rest loc acc mh ⟨i,as,-,-,-,-,-,-,hs⟩
  exact⟨_,hs.at hG.row nN,rfl⟩
 ·rintro x rest loc acc mh K hK ⟨i,as,hi,e2,g1,g2,rfl,hL,hsm⟩
  rw[tZ] at e2
  by_cases hil:i<G.length
  ·rw[List.drop_eq_getElem_cons (by simp;exact Nat.lt_of_lt_of_eq hil hcl.symm)] at e2
   simp only[List.getElem_map,List.getElem_range,List.cons.injEq] at e2
   obtain⟨rfl,rfl⟩:=e2
   have hg:G[i]?=some G[i]:=List.getElem?_eq_getElem hil
   obtain⟨q,hq1,hq2⟩:=hG.get hg
   have hq3:=hsm.at hq2 nN
   have hcd:cs.getD i 0=q:=by rw[List.getD_eq_getElem?_getD,hq1];rfl
   refine⟨upd (upd loc "k" (.int (i:Int))) "row" (.ref q),by rw[zdh,hcd];rfl,?_⟩
   have hae:=hL.len
   have hrt:=UN (G:=G) (s:=s) (i:=i) (v:=v)
   have hll:=hrl _ (List.getElem_mem hil)
   have next:∀as',xE mh as' (wy G s v (i+1))->K (upd (upd loc "k" (.int (i:Int))) "row" (.ref q)) (.list (as'.map .ref)) mh:=λas' h=>hK _ _ _ ⟨i+1,as',hil,by rw[tZ],miss rfl (miss rfl g1),miss rfl (miss rfl g2),rfl,h,hsm⟩
   have next2:∀mh' as',xE mh' as' (wy G s v (i+1))->Same [] mh mh'->K (upd (upd loc "k" (.int (i:Int))) "row" (.ref q)) (.list (as'.map .ref)) mh':=λmh' as' h s'=>hK _ _ _ ⟨i+1,as',hil,by rw[tZ],miss rfl (miss rfl g1),miss rfl (miss rfl g2),rfl,h,hsm.trans s'⟩
   clear hK
   walk_at "w"
   refine Wp (λhne=>?_) λhe=>?_
   ·have hne':i≠s:=λe=>hne (by rw[e])
    walk_at "w"
    refine⟨_,yS (mh0:=mh) (λloc=>loc "v" = some (.int v)) MV.int (λw=>decide (w≠v)) MV.int G[i] ?_ (by unfold BIG;exact ltk) ?_ ?_ ?_⟩
    ·exact hq3
    ·rintro w hw loc g
     refine⟨upd loc "w" (.int w),rfl,miss rfl g,λmh hs=>⟨λR o=>?_,λ_ R o=>?_⟩⟩
     ·walk_at "w"
      simpa using o _ .refl
     ·walk_at "w"
      exact o _ .refl
    ·walk_at "ne"
    ·intro loc' mh' hs'
     have k1:Same [] mh (mh'++[MO.list (zi (G[i].filter λw=>decide (w≠v)))]):=hs'.trans .append
     have hn:(mh'++[MO.list (zi (G[i].filter λw=>decide (w≠v)))])[mh'.length]?=some (.list (zi (G[i].filter λw=>decide (w≠v)))):=zB
     walk_at "w"
     refine⟨by rw[List.length_map];unfold BIG;lia,?_⟩
     have:=next2 _ (as++[mh'.length]) (by rw[V3 hil hne'];exact(hL.same k1 nB).snoc hn) k1
     simpa using this
   ·have he':i=s:=by lia
    subst he'
    walk_at "w"
    exact next as (by rw[V2 hil];exact hL)
  ·rw[List.drop_eq_nil_of_le (by simp;lia)] at e2;cases e2
 ·rintro loc acc mh ⟨i,as,hi,e2,g1,g2,rfl,hL,hsm⟩
  rw[tZ] at e2
  by_cases hil:i<G.length
  ·rw[List.drop_eq_getElem_cons (by simp;exact Nat.lt_of_lt_of_eq hil hcl.symm)] at e2;cases e2
  ·have:i=G.length:=by lia
   subst this
   rw[UP] at hL
   exact o _ _ as hsm hL
 ·show xE mh0 [] (wy G s v 0)
  unfold wy;simp;exact .nil
noncomputable def tS(G:List (List Int)):List (Int×Int):=(List.range G.length).map λ(i:Nat)=>(((G.getD i []).length:Int),(i:Int))
theorem zcc{Q:Loc->MO->MH->Prop}(hG:Rows mh0 r cs G)(hl:G.length<=1000)(hrl:∀row∈G,row.length<=1000)(o:∀loc' mh',Same [] mh0 mh'->Q loc' (.list ((tS G).map λp=>MV.tuple [.int p.1,.int p.2])) mh') :
  vf (.enum r) (wN (cs.map .ref)) (.many ["k","row"]) vq t5 (wN (cs.map .ref)) loc (.list []) Q mh0:=by
 have hcl:=hG.lists.len
 have hcp:=yS (x:=.enum r) (all:=wN (cs.map .ref)) (t:=.many ["k","row"]) (test:=vq) (m:=zG [zo xR [za "row"],za "k"]) (mh0:=mh0) (Q:=Q) (loc:=loc) (λ_=>True) (zdh cs) (λ_=>true) (λi=>xM (((G.getD i []).length:Int),(i:Int))) (List.range cs.length) ⟨_,hG.row,rfl⟩ (by simp;unfold BIG;lia) (λi hi loc _=>by
  have hil:i<G.length:=by have:=List.mem_range.mp hi;exact Nat.lt_of_lt_of_eq this hcl
  have hg:G[i]?=some G[i]:=List.getElem?_eq_getElem hil
  obtain⟨q,hq1,hq2⟩:=hG.get hg
  have hcd:cs.getD i 0=q:=by rw[List.getD_eq_getElem?_getD,hq1];rfl
  have hgd:G.getD i []=G[i]:=by rw[List.getD_eq_getElem?_getD,hg];rfl
  refine⟨upd (upd loc "k" (.int (i:Int))) "row" (.ref q),by rw[zdh,hcd];rfl,trivial,λmh hs=>⟨λR o=>o _ .refl,λ_ R o=>?_⟩⟩
  have hq3:=hs.at hq2 nN
  have hll:=hrl _ (List.getElem_mem hil)
  have hli:(zi G[i]).length=G[i].length:=List.length_map _
  walk_at "w"
  rw[hli,<-hgd]
  exact o _ .refl) trivial
 rw[tZ] at hcp ⊢
 refine hcp λloc' mh' hs'=>?_
 have hfl:((List.range cs.length).filter λ_=>true).map (λi=>xM (((G.getD i []).length:Int),(i:Int)))=(tS G).map λp=>MV.tuple [.int p.1,.int p.2]:=by rw[List.filter_eq_self.mpr λ_ _=>rfl,tS,hcl,List.map_map];rfl
 rw[hfl]
 exact o _ _ hs'
end
noncomputable def qj(n:Nat):MF:=λargs Q mh=>X3 λr cs G=>N6 (args=[.ref r]) (Rows mh r cs G) (G.length<n) (G.length<=1000) ((∀row∈G,row.length<=1000)) (∀(b:Bool) mh',(b=true↔yR G)->Same [] mh mh'->Q (.bool b) mh')
theorem zb3{n:Nat}:∀args Q mh,qj (n+1) args Q mh->yQ ["rows"] (qr (qj n)) args Q mh:=by
 rintro args Q mh0 ⟨r,cs,G,rfl,hG,hn,hl,hrl,o⟩
 have hcl:=hG.lists.len
 have hrow:=hG.row
 apply tj
 walk_at "s"
 have k1:Same [] mh0 (mh0++[MO.list []]):=.append
 refine WC (hG.same k1 nB) (.nil zB) (sa (λhe=>?_) λhne=>?_)
 ·subst he
  walk_at "w"
  exact o true _ ⟨λ_=>K7,λ_=>rfl⟩ k1
 ·walk_at "w"
  have hG1:=hG.same k1 nB
  clear hrow
  have hrow:=hG1.row
  have hs1:=k1
  clear k1
  generalize mh0++[MO.list []]=mh1 at *
  walk_at "n"
  refine⟨wN (cs.map .ref),zcc hG1 hl hrl λloc' mh' hs'=>⟨tS G,?_,zB,λp hp=>?_⟩⟩
  ·intro e
   have:=congrArg List.length e
   simp[tS] at this
   exact hne this
  ·obtain⟨s,hs,rfl⟩:=List.mem_map.mp hp
   have hsl:s<G.length:=List.mem_range.mp hs
   have k2:∀o,Same [] mh1 (mh'++[o]):=λo=>hs'.trans .append
   have hG2:=hG1.same (k2 (.list ((tS G).map λp=>MV.tuple [.int p.1,.int p.2]))) nB
   have hs2:=hs1.trans (k2 (.list ((tS G).map λp=>MV.tuple [.int p.1,.int p.2])))
   clear hp k2
   generalize mh'++[MO.list ((tS G).map λp=>MV.tuple [.int p.1,.int p.2])]=mh2 at *
   have hg:G[s]?=some G[s]:=List.getElem?_eq_getElem hsl
   obtain⟨q,hq1,hq2⟩:=hG2.get hg
   have hrow2:=hG2.row
   walk_at "w"
   walk_at "n"
   refine⟨_,y7 (λrest loc mh=>X2 λdn rest'=>N6 (G[s]=dn++rest') (rest=zi rest') (loc "rows" = some (.ref r)) (loc "spot" = some (.int (s:Int))) ((∀v∈dn,¬yR (we G s v))) (Same [] mh2 mh)) ?_ ?_ ?_ _ _ _ ⟨[],G[s],rfl,rfl,by walk_at "ne",by walk_at "ne",nA,.refl⟩⟩
   ·rintro rest loc mh ⟨dn,rest',-,-,-,-,-,hs⟩
    exact hs.at hq2 nN
   ·rintro v rest loc mh K hK hR ⟨dn,rest',e1,e2,g1,g2,hno,hs⟩
    cases rest' with
    |nil=>cases e2
    |cons u rest'=>
     cases e2
     have hG3:=hG2.same hs nB
     have hrow3:=hG3.row
     walk_at "w"
     refine⟨_,JH hG3 hl hrl hsl (by walk_at "ne") (by walk_at "ne") λloc' mh3 as hs3 hL=>?_⟩
     have hlen:=jX (v:=u) hsl
     refine⟨mh3.length,as,we G s u,rfl,⟨zB,hL.same (S:=[]) .append nB⟩,by lia,by lia,V4 hrl,λb mh4 hb hs4=>?_⟩
     have hs5:Same [] mh mh4:=(hs3.trans .append).trans hs4
     cases b with
     |true=>
      walk_at "w"
      exact hR _ _ _ (o true _ ⟨λ_=>(YC hsl).mpr ⟨u,⟨_,hg,by rw[e1];simp⟩,hb.mp rfl⟩,λ_=>rfl⟩ (hs2.trans (hs.trans hs5)))
     |false=>
      walk_at "w"
      refine hK _ _ ⟨dn++[u],rest',by rw[e1];simp,rfl,miss rfl g1,miss rfl g2,λw hw=>?_,hs.trans hs5⟩
      rcases List.mem_append.mp hw with h|h
      ·exact hno w h
      ·obtain rfl:=List.mem_singleton.mp h
       exact λh=>by have:=hb.mpr h;cases this
   ·rintro loc mh ⟨dn,rest',e1,e2,g1,g2,hno,hs⟩
    cases rest' with
    |cons u rest'=>cases e2
    |nil=>
     walk_at "n"
     refine o false _ ⟨λh=>(by cases h),λh=>?_⟩ (hs2.trans hs)
     obtain⟨v,⟨l,h1,h2⟩,h3⟩:=(YC hsl).mp h
     rw[hg] at h1;cases h1
     exact absurd h3 (hno v (by rw[e1] at h2;simpa using h2))
noncomputable def zd:MF:=λargs Q mh=>X8 λR doms firsts tr marks fl cl vs=>N5 (args=[.ref R.r,.tuple vs]) (zu mh R doms firsts tr marks fl cl) (R.refs.Nodup) (vs.length<=BIG) (∀mh',Same [R.r] mh mh'->zu mh' R doms firsts tr marks true (.tuple vs)->Q (.bool false) mh')
theorem zu.write{mh:MH}{R:SR}{doms firsts:List Dom}{tr marks:List MV}{fl fl':Bool}{cl cl':MV}(S:zu mh R doms firsts tr marks fl cl)(nd:R.refs.Nodup):zu (mh.set R.r (j2 R fl' cl')) R doms firsts tr marks fl' cl':=by
 have ap:=SR.ap nd
 obtain⟨ks,h1,h2⟩:=S.news
 exact⟨yW S.inst,got_ne ap.rd S.doms,got_ne ap.rf S.firsts,got_ne ap.rt S.trail,got_ne ap.rm S.marks,ks,got_ne ap.rn h1,h2⟩
theorem YN:∀args Q mh,zd args Q mh->yQ ["self","reasons"] jj args Q mh:=by
 rintro args Q mh ⟨R,doms,firsts,tr,marks,fl,cl,vs,rfl,S,nd,hl,o⟩
 have e1:=S.inst
 apply xA
 walk_at "s"
 walk_at "n"
 walk_at "n"
 rw[List.set_set]
 exact o _ (.set (List.mem_singleton_self _)) (S.write nd)
noncomputable def zq:MF:=λargs Q mh=>X10 λR doms firsts trail marks fl cl l d rs=>Exists λ(x:Nat)=>N11 (args=[.ref R.r,l.v,.tuple rs]) (l.x=(x:Int)) (l.plain) (zu mh R doms firsts trail marks fl cl) (R.refs.Nodup) (x<=1000) (doms[x]?=some d) (SmD d) (xj l d≠[]) (trail.length<=1000/\rs.length<=BIG) (∀mh',Same [R.d,R.t,R.n] mh mh'->zu mh' R (doms.set x (xj l d)) firsts (if xj l d=d then trail else trail++[WE x d l (.tuple rs) (.int (-1))]) marks fl cl->Q (.bool true) mh')
theorem Zx:∀args Q mh,zq args Q mh->yQ ["self","literal","reasons"] (tP zR) args Q mh:=by
 rintro args Q mh ⟨R,doms,firsts,trail,marks,fl,cl,l,d,rs,x,rfl,hx,hl,S,nd,l1,hd,sm,hne,⟨l2,l3⟩,o⟩
 have e1:=S.inst
 apply jF
 walk_at "w"
 exact⟨R,doms,firsts,trail,marks,fl,cl,l,d,.tuple rs,.int (-1),x,rfl,hx,hl,S,nd,l1,hd,sm,hne,l2,o⟩
noncomputable def zv:MF:=λargs Q mh=>X7 λR doms firsts tr marks fl cl=>N6 (args=[.ref R.r]) (zu mh R doms firsts tr marks fl cl) (R.refs.Nodup) (tr.length<=1000) (marks.length<=1000) (∀mh',Same [R.m] mh mh'->zu mh' R doms firsts tr (marks++[.int (tr.length:Int)]) fl cl->Q .none mh')
theorem YM:∀args Q mh,zv args Q mh->yQ ["self"] ji args Q mh:=by
 rintro args Q mh ⟨R,doms,firsts,tr,marks,fl,cl,rfl,S,nd,l1,l2,o⟩
 have e1:=S.inst
 have e2:=S.marks
 have e3:=S.trail
 apply tj
 walk_at "w"
 have ap:=SR.ap nd
 obtain⟨ks,h1,h2⟩:=S.news
 exact o _ (.set (List.mem_singleton_self _)) ⟨got_ne (df_ne' ap.rm) S.inst,got_ne (df_ne' ap.dm) S.doms,got_ne (df_ne' ap.fm) S.firsts,got_ne (df_ne' ap.tm) S.trail,yW S.marks,ks,got_ne ap.mn h1,h2⟩
inductive jy:List Dom->List MV->List Dom->Prop
 |nil {d:List Dom}:jy d [] d
 |snoc {d d0:List Dom}{es:List MV}{x:Nat}{old:Dom}{l rs sp:MV}:x<d.length->x<=1000->jy (d.set x old) es d0->jy d (es++[.tuple [.int (x:Int),xC old,l,rs,sp]]) d0
open Classical in
theorem zcx{mh:MH}{ds:List Dom}{Q:Bool->Prop}(hn:∀d∈ds,d≠[])(q:Q false):inO (.tuple []) (.list (ds.map xC)) Q mh:=by
 refine⟨vC [],ds.map vC,WG [],.map WG ds,Wj [],λe he=>?_,?_⟩
 ·obtain⟨d,_,rfl⟩:=List.mem_map.mp he
  exact Wj d
 ·have:¬vC []∈ds.map vC:=λhm=>by
   obtain⟨d,hd,e⟩:=List.mem_map.mp hm
   exact hn d hd (Y3.mp e)
  rw[decide_eq_false this];exact q
theorem zbw{R:SR}(ap:R.Ap){tr0:List MV}{d0:List Dom}{fl:Bool}{cl:MV}{mh0:MH}{Q:Fl->Loc->MH->Prop}(ht:tr0.length<=1000)
  (o:∀loc mh,loc "self" = some (.ref R.r)->Same [R.d,R.t] mh0 mh->mh[R.d]?=some (.list (d0.map xC))->mh[R.t]?=some (.list tr0)->Q .next loc mh) :
  ∀n loc mh,(X2 λes d=>N9 (n=List.length es+1) (n<=1000) (jy d es d0) (loc "self" = some (.ref R.r)) (loc "mark" = some (.int (tr0.length:Int))) (mh[R.r]?=some (j2 R fl cl)) (mh[R.d]?=some (.list (d.map xC))) (mh[R.t]?=some (.list (tr0++es))) (Same [R.d,R.t] mh0 mh))->ZI qT jv n loc Q mh:=by
 refine qS _ ?_ ?_
 ·rintro n loc mh K hK hR ⟨es,d,h1,hn,hb,g1,g2,e1,e2,e3,hs⟩
  have n1:=ap.rd
  have n2:=ap.rt
  have n3:=ap.dt
  have hle:(tr0++es).length<=BIG:=by rw[List.length_append];unfold BIG;lia
  walk_at "w"
  cases hb with
  |nil=>
   refine VG (by simp) ?_
   rw[List.append_nil] at e3
   exact o _ _ g1 hs e2 e3
  |@snoc d d0 es x old l rs sp hx hx1 hb=>
   refine qR (by simp only[List.length_append,List.length_cons,List.length_nil];exact Int.lt.intro rfl) ?_
   rw[<-List.append_assoc] at e3
   simp only[List.length_append,List.length_cons,List.length_nil] at h1 hle
   have hx':x<(d.map xC).length:=by rw[List.length_map];exact hx
   walk_at "s"
   walk_at "n"
   refine hK _ _ ⟨es,d.set x old,by exact Eq.symm (Nat.add_right_cancel h1.symm),by exact Nat.le_of_succ_le hn,hb,?_,?_,?_,?_,?_,(hs.trans (.set (.tail _ (.head _)))).trans (.set (.head _))⟩
   ·walk_at "ne"
   ·walk_at "ne"
   ·walk_at "ne"
   ·rw[List.map_set];walk_at "ne"
   ·walk_at "ne"
 ·rintro loc mh ⟨es,d,h,-⟩;lia
noncomputable def zz:MF:=λargs Q mh=>X8 λR doms firsts tr0 es marks fl cl=>Exists λdoms0=>N10 (args=[.ref R.r,.int 1]) (zu mh R doms firsts (tr0++es) (marks++[.int (tr0.length:Int)]) fl cl) (R.refs.Nodup) (jy doms es doms0) ((∀d∈firsts,d≠[])) (tr0.length<=900) (es.length<=90) (marks.length<=1000) ((∀i∈R.refs,i<mh.length))
 (∀mh' m n,mh.length<=m->mh.length<=n->m≠n->Same [R.r,R.d,R.t] mh mh'->zu mh' { R with m:=m,n:=n } doms0 firsts tr0 marks false (.tuple [])->Q .none mh')
theorem Wk:∀args Q mh,zz args Q mh->yQ ["self","n"] Ze args Q mh:=by
 rintro args Q mh ⟨R,doms,firsts,tr0,es,marks,fl,cl,doms0,rfl,S,nd,hb,hf,l1,l2,l3,hlt,o⟩
 have e1:=S.inst
 have e2:=S.marks
 have ap:=SR.ap nd
 apply xA
 walk_at "s"
 refine VG (Int.lt_irrefl 1) ?_
 walk_at "w"
 have hm1:(((marks++[MV.int (tr0.length:Int)]).length:Nat):Int)-1=(marks.length:Nat):=by simp
 have hml:(marks++[MV.int (tr0.length:Int)]).length<=1001:=by simp;omega
 have hmg:(marks++[MV.int (tr0.length:Int)])[marks.length]?=some (.int (tr0.length:Int)):=List.getElem?_concat_length
 walk_at "n"
 rw[hm1]
 walk_at "w"
 walk_at "n"
 rw[hm1]
 walk_at "w"
 have htk:(marks++[MV.int (tr0.length:Int)]).take (marks.length:Int).toNat=marks:=by rw[Int.toNat_natCast];exact List.take_left
 rw[htk]
 have b0:=hlt R.r (.head _)
 have b1:=hlt R.d (.tail _ (.head _))
 have b2:=hlt R.f (.tail _ (.tail _ (.head _)))
 have b3:=hlt R.t (.tail _ (.tail _ (.tail _ (.head _))))
 have n1:=ap.rd
 have n2:=ap.rt
 have n3:=ap.dt
 have n4:=ap.rf
 have n5:=ap.df
 have n6:=ap.ft
 have a1:Df R.r mh.length:=Nat.ne_of_lt b0
 have a2:Df R.d mh.length:=Nat.ne_of_lt b1
 have a3:Df R.t mh.length:=Nat.ne_of_lt b3
 have a4:Df R.f mh.length:=Nat.ne_of_lt b2
 have a5:Df mh.length R.n:=Nat.ne_of_gt (hlt R.n (.tail _ (.tail _ (.tail _ (.tail _ (.tail _ (.head _)))))))
 have d1:(mh++[MO.list marks])[R.d]?=some (.list (doms.map xC)):=got_old S.doms
 have d2:(mh++[MO.list marks])[R.f]?=some (.list (firsts.map xC)):=got_old S.firsts
 have d3:(mh++[MO.list marks])[R.t]?=some (.list (tr0++es)):=got_old S.trail
 have d4:(mh++[MO.list marks])[mh.length]?=some (.list marks):=zB
 have d5:(mh++[MO.list marks])[R.r]?=some (j2 R fl cl):=got_old e1
 have W0:∀loc mh2,loc "self" = some (.ref R.r)->Same [R.d,R.t] ((mh++[MO.list marks]).set R.r (j2 { R with m:=mh.length } fl cl)) mh2->mh2[R.d]?=some (.list (doms0.map xC))->mh2[R.t]?=some (.list tr0)->zia (zA (zk tR (yI "Store" "news" (za "self"))) (zA (zk (qc .In (zG []) (zD "Store" "firsts" (za "self"))) (yI "Store" "is_failed" (za "self"))) (zk (zG []) (yI "Store" "clash" (za "self"))))) (Kq Q) .next loc mh2:=by
  intro loc mh2 g1 hs k1 k2
  have c1:=hs.at (yW d5) (by simp;exact⟨n1,n2⟩)
  have c2:=hs.at (got_ne n4 d2) (by simp;exact⟨λe=>n5 e.symm,n6⟩)
  have c3:=hs.at (got_ne a1 d4) (by simp;exact⟨λe=>a2 e.symm,λe=>a3 e.symm⟩)
  have hsx:Same [R.r,R.d,R.t] mh mh2:=(Same.append.trans (.set (.head _))).trans (hs.mono nE)
  have hle:mh.length<mh2.length:=Nat.lt_of_lt_of_le (by simp) hs.le
  clear hs d1 d2 d3 d4 d5 hlt S hb htk e1 e2 hmg hm1
  have g0:=zm c1
  walk_at "n"
  walk_at "n"
  refine zcx hf ?_
  walk_at "w"
  walk_at "n"
  have f1:Df R.d mh2.length:=λe=>by lia
  have f2:Df R.t mh2.length:=λe=>by lia
  have f3:Df R.f mh2.length:=λe=>by lia
  have f4:Df mh.length mh2.length:=λe=>by lia
  refine o _ mh.length mh2.length (Nat.le_refl _) hsx.le (by assumption) ?_ ⟨?_,?_,?_,?_,?_,[],?_,Nat.zero_le _⟩
  ·walk_at "sm"
  ·walk_at "ne"
  ·walk_at "ne"
  ·walk_at "ne"
  ·walk_at "ne"
  ·walk_at "ne"
  ·show _=some (MO.idict []);walk_at "ne"
 apply cont_i
 apply seq_i
 refine⟨es.length+1,zbw (R:={ R with m:=mh.length }) (fl:=fl) (cl:=cl) (mh0:=(mh++[MO.list marks]).set R.r (j2 { R with m:=mh.length } fl cl)) (tr0:=tr0) (d0:=doms0) ⟨ap.rd,ap.rf,ap.rt,a1,ap.rn,ap.df,ap.dt,a2,ap.dn,ap.ft,a4,ap.fn,a3,ap.tn,a5⟩ ltk (λloc mh2 g1 hs k1 k2=>by
  dsimp only at g1 hs k1 k2 ⊢
  exact W0 loc mh2 g1 hs k1 k2) _ _ _ ⟨es,doms,rfl,by exact Nat.lt_of_le_of_lt (by assumption) (by decide),hb,by walk_at "ne",by walk_at "ne",yW d5,got_ne n1 d1,got_ne n2 d3,.refl⟩⟩
structure Xg(l:List Int):Prop where
 asc:Asc l
 some_:l≠[]
 len:l.length<=4
 bound:∀v∈l,-2<=v/\v<=8
structure Fit(E F:List (List Int)):Prop where
 len:F.length=E.length
 five:E.length<=5
 rowE:∀l∈E,Xg l
 rowF:∀l∈F,Xg l
 sub:∀x v,yl F v x->yl E v x
theorem Fit.spaceOk{E F:List (List Int)}(f:Fit E F){ls:List Lit}(sl:SmL ls)(h:∀l∈ls,0<=l.x/\l.x<E.length):Ju E ls:=
 ⟨f.five,λrow hr=>⟨(f.rowE row hr).len,λv hv=>by have:=(f.rowE row hr).bound v hv;lia⟩,sl,h⟩
structure Why(E G:List (List Int))(ls:List Lit):Prop where
 sl:SmL ls
 at_:∀l∈ls,0<=l.x/\l.x<E.length
 hold:zit G ls
structure qh(ch:List (List Int))(ps:List Nat)(few:List Int):Prop where
 nodup:ps.Nodup
 fnodup:few.Nodup
 sorted:wh few
 some_:few≠[]
 shut:∀p∈ps,∃l,ch[p]?=some l/\∀v∈l,v∈few
 near:∀v∈few,∃p∈ps,yl ch v p
theorem qh.ends{ch:List (List Int)}{ps:List Nat}{few:List Int}(W:qh ch ps few):∃a b,few[0]?=some a/\few.getLast?=some b:=by
 cases few with
 |nil=>exact absurd rfl W.some_
 |cons a r=>
  refine⟨a,(a::r).getLast (List.cons_ne_nil _ _),rfl,List.getLast?_eq_some_getLast _⟩
theorem Vg.wall{ch:List (List Int)}{mate:List (Option Int)}{own:List (Int×Nat)}{v:Int}{ps:List Nat}{few:List Int}(S:Vg ch own v ps few)(I:sk ch mate own):qh ch ps few:=
 ⟨S.nodup,S.fnodup,S.sorted,λe=>(by have:=S.mem;rw[e] at this;cases this),S.shut,λw hw=>by
  obtain⟨p,hp,e⟩:=S.owned w hw
  exact⟨p,hp,I.sub w p e⟩⟩
theorem za1.wall{ch:List (List Int)}{root:Nat}{ps:List Nat}{few:List Int}(L:za1 ch root ps few)(hn:∀l∈ch,l≠[]):qh ch ps few:=by
 refine⟨L.nodup,L.fnodup,L.sorted,?_,L.shut,L.near⟩
 rintro rfl
 obtain⟨l,h1,h2⟩:=L.shut root L.root
 cases l with
 |nil=>exact hn _ (List.mem_of_getElem? h1) rfl
 |cons v r=>exact absurd (h2 v (.head _)) nN
section
variable {E F G ch:List (List Int)}{xs ps:List Nat}{few:List Int}{a b:Int}
theorem Fit.back(f:Fit E F):(E.map spans).map yt=E:=by
 rw[List.map_map]
 exact(List.map_congr_left λl hl=>xT (f.rowE l hl).asc).trans (List.map_id _)
theorem Fit.sf(f:Fit E F):∀d∈E.map spans,SmD d:=λd hd=>by
 obtain⟨l,h1,rfl⟩:=List.mem_map.mp hd
 have R:=f.rowE l h1
 exact Vp R.asc (Nat.le_trans R.len (Nat.le_of_ble_eq_true rfl)) λv hv=>by have:=R.bound v hv;lia
theorem Fit.sd(f:Fit E F):∀d∈F.map spans,SmD d:=λd hd=>by
 obtain⟨l,h1,rfl⟩:=List.mem_map.mp hd
 have R:=f.rowF l h1
 exact Vp R.asc (Nat.le_trans R.len (Nat.le_of_ble_eq_true rfl)) λv hv=>by have:=R.bound v hv;lia
theorem w5.place(C:w5 xs F ch){p:Nat}{l:List Int}(h:ch[p]?=some l):∃x:Nat,xs[p]?=some x/\x<F.length:=by
 have hp:=(List.getElem?_eq_some_iff.mp h).1
 have h1:=C.turn.at_ (p:=p) (by have:=C.len;exact Nat.lt_of_lt_of_eq hp this)
 exact⟨_,h1,C.turn.lt _ (List.mem_of_getElem? h1)⟩
theorem qh.place(W:qh ch ps few)(C:w5 xs F ch){p:Nat}(hp:p∈ps):∃x:Nat,xs[p]?=some x/\x<F.length:=by
 obtain⟨l,h1,_⟩:=W.shut p hp
 exact C.place h1
theorem qh.len(W:qh ch ps few)(C:w5 xs F ch)(f:Fit E F):ps.length<=5:=by
 have:=xV (ys:=List.range 5) W.nodup λp hp=>List.mem_range.mpr (by
  obtain⟨l,h1,_⟩:=W.shut p hp
  have:=(List.getElem?_eq_some_iff.mp h1).1
  have:=C.len
  have:=f.len
  have:=f.five
  lia)
 simpa using this
theorem qh.row(W:qh ch ps few)(C:w5 xs F ch){p x:Nat}(hp:p∈ps)(hx:xs[p]?=some x){v:Int}(h:yl F v x):v∈few:=by
 obtain⟨l,h1,h2⟩:=W.shut p hp
 obtain⟨l',h3,h4⟩:=(C.in_ hx).mpr h
 rw[h1] at h3;cases h3
 exact h2 v h4
theorem qh.why(W:qh ch ps few)(C:w5 xs F ch)(f:Fit E F)(sub:∀x v,yl G v x->yl F v x)(h0:few[0]?=some a)(hz:few.getLast?=some b):Why E G (zV (E.map spans) xs ps few a b):=by
 have hx:∀l∈zV (E.map spans) xs ps few a b,∃p∈ps,∃x:Nat,xs[p]?=some x/\x<E.length/\l.x=x/\∃nums,l∈v9 few a b x nums:=λl hl=>by
  obtain⟨p,hp,ht⟩:=w7.mp hl
  obtain⟨x,h1,h2⟩:=W.place C hp
  have hg:xs.getD p 0=x:=by rw[List.getD_eq_getElem?_getD,h1];rfl
  rw[hg] at ht
  exact⟨p,hp,x,h1,by rw[<-f.len];exact h2,(ZK ht).1,_,ht⟩
 refine⟨Vj (Nat.le_trans (W.len C f) (Nat.le_of_ble_eq_true rfl)) f.sf,λl hl=>?_,λx row hrow=>?_⟩
 ·obtain⟨p,hp,x,h1,h2,h3,_⟩:=hx l hl
  rw[h3];exact⟨Int.natCast_nonneg _,Int.ofNat_lt.mpr h2⟩
 ·have:vI row (zV (E.map spans) xs ps few a b) x=row.filter λ_=>true:=by
   unfold vI
   refine List.filter_congr λv hv=>?_
   rw[List.isEmpty_iff,List.filter_eq_nil_iff]
   intro l hl
   by_cases hxl:l.x=x
   ·obtain⟨p,hp,y,h1,h2,h3,nums,h4⟩:=hx l hl
    have hyx:y=x:=by rw[h3] at hxl;exact Int.ofNat.inj hxl
    subst hyx
    have:=ZJ W.sorted h0 hz h4 (W.row C hp h1 (sub _ _ ⟨row,hrow,hv⟩))
    simp[this]
   ·simp[hxl]
  rw[this];exact List.filter_eq_self.mpr λ_ _=>rfl
theorem qh.space(W:qh ch ps few)(C:w5 xs F ch)(f:Fit E F)(h0:few[0]?=some a)(hz:few.getLast?=some b){named left:List Int}(S:XQ E (zV (E.map spans) xs ps few a b) named left) :
  named.length=ps.length/\left.length=few.length/\(∀v,v∈left↔v∈few)/\∀x:Nat,(x:Int)∈named↔∃p∈ps,xs[p]?=some x:=by
 have hsd:=UB (firsts:=E.map spans) (xs:=xs) (ps:=ps) W.sorted h0 hz f.back.symm λp hp=>by
  obtain⟨x,h1,h2⟩:=W.place C hp
  exact⟨x,h1,by rw[List.length_map,<-f.len];exact h2⟩
 have hn:∀i:Int,i∈named↔∃p∈ps,∃x:Nat,xs[p]?=some x/\i=x:=λi=>by
  rw[S.m1]
  constructor
  ·rintro⟨l,hl,rfl⟩
   obtain⟨p,hp,x,h1,h2⟩:=hsd.1 l hl
   exact⟨p,hp,x,h1,h2⟩
  ·rintro⟨p,hp,x,h1,rfl⟩
   have hg:xs.getD p 0=x:=by rw[List.getD_eq_getElem?_getD,h1];rfl
   exact⟨⟨x,">=",a⟩,w7.mpr ⟨p,hp,by rw[hg];exact vj.mpr (.inl rfl)⟩,rfl⟩
 have hl:∀v,v∈left↔v∈few:=λv=>by
  rw[S.m2]
  constructor
  ·rintro⟨i,hi,hv⟩
   obtain⟨p,hp,x,h1,rfl⟩:=(hn i).mp hi
   obtain⟨x',h2,l,h3,h4⟩:=hsd.2 p hp
   rw[h1] at h2;cases h2
   rw[Int.toNat_natCast,List.getD_eq_getElem?_getD,h3] at hv
   rw[show(some l).getD []=l from rfl,h4] at hv
   exact of_decide_eq_true (List.mem_filter.mp hv).2
  ·intro hv
   obtain⟨p,hp,hc⟩:=W.near v hv
   obtain⟨x,h1,l,h3,h4⟩:=hsd.2 p hp
   obtain⟨l',h5,h6⟩:=f.sub x v ((C.in_ h1).mp hc)
   rw[h3] at h5;cases h5
   refine⟨x,(hn _).mpr ⟨p,hp,x,h1,rfl⟩,?_⟩
   rw[Int.toNat_natCast,List.getD_eq_getElem?_getD,h3,show(some l).getD []=l from rfl,h4]
   exact List.mem_filter.mpr ⟨h6,decide_eq_true hv⟩
 refine⟨?_,Xv S.n2 W.fnodup hl,hl,λx=>?_⟩
 ·have:named.length=(ps.map λp=>((xs.getD p 0:Nat):Int)).length:=by
   refine Xv S.n1 ?_ λi=>?_
   ·refine List.pairwise_map.mpr (W.nodup.imp_of_mem λ{p q} hp hq hne e=>hne ?_)
    obtain⟨x,h1,_⟩:=W.place C hp
    obtain⟨y,h2,_⟩:=W.place C hq
    rw[List.getD_eq_getElem?_getD,List.getD_eq_getElem?_getD,h1,h2] at e
    have:x=y:=Int.ofNat.inj e
    subst this
    exact C.turn.inj h1 h2
   ·rw[hn i,List.mem_map]
    constructor
    ·rintro⟨p,hp,x,h1,rfl⟩
     exact⟨p,hp,by rw[List.getD_eq_getElem?_getD,h1];rfl⟩
    ·rintro⟨p,hp,rfl⟩
     obtain⟨x,h1,_⟩:=W.place C hp
     exact⟨p,hp,x,h1,by rw[List.getD_eq_getElem?_getD,h1];rfl⟩
  rw[this,List.length_map]
 ·rw[hn]
  constructor
  ·rintro⟨p,hp,y,h1,h2⟩
   have:x=y:=Int.ofNat.inj h2
   subst this
   exact⟨p,hp,h1⟩
  ·rintro⟨p,hp,h1⟩
   exact⟨p,hp,x,h1,rfl⟩
end
noncomputable abbrev vH(row:List Int)(v:Int):List Int:=row.filter λw=>decide (w≠v)
noncomputable abbrev XX(x:Nat)(row:List Int)(v:Int)(ls:List Lit):MV:=WE x (spans row) (neL x v) (.tuple (ls.map Lit.v)) (.int (-1))
structure si(E F:List (List Int))(x:Nat)(v:Int)(ls:List Lit):Prop where
 why:Why E F ls
 room:∀named left,XQ E ls named left->left.length=named.length/\v∈left/\(x:Int)∉named
inductive xQ(E:List (List Int)):List (List Int)->List MV->List (List Int)->Prop
 |nil {F:List (List Int)}:xQ E F [] F
 |cons {F G:List (List Int)}{x:Nat}{row:List Int}{v:Int}{ls:List Lit}{es:List MV}:F[x]?=some row->v∈row->si E F x v ls->xQ E (F.set x (vH row v)) es G->xQ E F (XX x row v ls::es) G
theorem xQ.snoc{E F G:List (List Int)}{es:List MV}(h:xQ E F es G){x:Nat}{row:List Int}{v:Int}{ls:List Lit}(h1:G[x]?=some row)(h2:v∈row)(h3:si E G x v ls):xQ E F (es++[XX x row v ls]) (G.set x (vH row v)):=by
 induction h with
 |nil=>exact .cons h1 h2 h3 .nil
 |cons a b c _ ih=>exact .cons a b c (ih h1 h3)
noncomputable def tot(F:List (List Int)):Nat:=(F.map List.length).sum
theorem KF:∀{F:List (List Int)}{x:Nat}{row r:List Int},F[x]?=some row->tot (F.set x r)+row.length=tot F+r.length
 |[],_,_,_,h=>by cases h
 |l::F,0,row,r,h=>by
  cases h
  show(r.length+(F.map List.length).sum)+l.length=(l.length+(F.map List.length).sum)+r.length
  lia
 |l::F,x+1,row,r,h=>by
  have ih:((F.set x r).map List.length).sum+row.length=(F.map List.length).sum+r.length:=KF (F:=F) (x:=x) h
  show(l.length+((F.set x r).map List.length).sum)+row.length=(l.length+(F.map List.length).sum)+r.length
  lia
theorem VT{row:List Int}{v:Int}(h:v∈row):(vH row v).length<row.length:=by
 refine List.length_filter_lt_length_iff_exists.mpr ⟨v,h,by simp⟩
theorem xQ.len{E F G:List (List Int)}{es:List MV}(h:xQ E F es G):es.length+tot G<=tot F:=by
 induction h with
 |nil=>simp
 |@cons F G x row v ls es a b c _ ih=>
  have h1:=KF (r:=vH row v) a
  have h2:tot (F.set x (vH row v))<tot F:=Nat.lt_of_add_lt_add_right (Nat.lt_of_le_of_lt (Nat.le_of_eq h1) (Nat.add_lt_add_left (VT b) _))
  rw[List.length_cons,Nat.add_right_comm]
  exact Nat.le_trans (Nat.succ_le_succ ih) h2
theorem xQ.none{E F:List (List Int)}{es:List MV}(h:xQ E F es F):es=[]:=by
 have:=h.len
 exact List.length_eq_zero_iff.mp (Nat.le_zero.mp (Nat.le_of_add_le_add_right (Nat.le_trans this (Nat.le_of_eq (Nat.zero_add _).symm))))
theorem za7:∀{F:List (List Int)}{n:Nat},(∀l∈F,l.length<=4)->F.length<=n->tot F<=4 * n
 |[],_,_,_=>Nat.zero_le _
 |l::F,n,h,hn=>by
  have ih:=za7 (F:=F) (n:=F.length) (λl hl=>h l (.tail _ hl)) (Nat.le_refl _)
  have h1:=h l (.head _)
  have:tot (l::F)=l.length+tot F:=rfl
  rw[List.length_cons] at hn
  exact Nat.le_trans (Nat.le_of_eq (Nat.add_comm _ _)) (Nat.le_trans (Nat.add_le_add ih h1) (Nat.mul_le_mul_left 4 hn))
theorem zcw{G:List (List Int)}{x:Nat}{row:List Int}{v w:Int}{y:Nat}(h:G[x]?=some row):yl (G.set x (vH row v)) w y↔yl G w y/\(y=x->w≠v):=by
 have hx:=(List.getElem?_eq_some_iff.mp h).1
 unfold yl
 by_cases e:x=y
 ·subst e
  rw[List.getElem?_set_self hx,h]
  constructor
  ·rintro⟨l,h1,h2⟩
   cases h1
   obtain⟨h3,h4⟩:=List.mem_filter.mp h2
   exact⟨⟨row,rfl,h3⟩,λ_=>of_decide_eq_true h4⟩
  ·rintro⟨⟨l,h1,h2⟩,h3⟩
   cases h1
   exact⟨_,rfl,List.mem_filter.mpr ⟨h2,decide_eq_true (h3 rfl)⟩⟩
 ·rw[List.getElem?_set_ne e]
  exact⟨λh=>⟨h,λe2=>absurd e2.symm e⟩,λh=>h.1⟩
structure vo(E F G:List (List Int))(es:List MV)(D:Nat->Int->Prop):Prop where
 str:xQ E F es G
 iff:∀x v,yl G v x↔yl F v x/\(D x v->wq F x v)
 fit:Fit E G
section
variable {E F G:List (List Int)}{es:List MV}{D D':Nat->Int->Prop}{x:Nat}{v:Int}
theorem vo.same(h:vo E F G es D)(hD:∀x v,yl F v x->(D' x v↔D x v)):vo E F G es D':=
 ⟨h.str,λx v=>(h.iff x v).trans ⟨λ⟨a,b⟩=>⟨a,λd=>b ((hD x v a).mp d)⟩,λ⟨a,b⟩=>⟨a,λd=>b ((hD x v a).mpr d)⟩⟩,h.fit⟩
theorem vo.keep(h:vo E F G es D)(hD:∀y w,D' y w↔D y w\/(y=x/\w=v))(hs:wq F x v):vo E F G es D':=by
 refine⟨h.str,λy w=>(h.iff y w).trans ⟨λ⟨a,b⟩=>⟨a,λd=>?_⟩,λ⟨a,b⟩=>⟨a,λd=>b ((hD y w).mpr (.inl d))⟩⟩,h.fit⟩
 rcases(hD y w).mp d with d|⟨rfl,rfl⟩
 ·exact b d
 ·exact hs
theorem Fit.less(f:Fit E G){row:List Int}(h:G[x]?=some row)(hn:vH row v≠[]):Fit E (G.set x (vH row v)):=by
 have R:=f.rowF row (List.mem_of_getElem? h)
 refine⟨by rw[List.length_set];exact f.len,f.five,f.rowE,λl hl=>?_,λy w hw=>f.sub y w ((zcw h).mp hw).1⟩
 rcases List.mem_or_eq_of_mem_set hl with h1|rfl
 ·exact f.rowF l h1
 ·exact⟨w4 R.asc,hn,Nat.le_trans (List.length_filter_le _ _) R.len,λw hw=>R.bound w (List.mem_filter.mp hw).1⟩
theorem vo.less_some(h:vo E F G es D)(hall:yR F)(hno:¬wq F x v){row:List Int}(hr:G[x]?=some row):vH row v≠[]:=by
 obtain⟨f,hf⟩:=hall
 intro e
 have hx:x<F.length:=by
  have:=(List.getElem?_eq_some_iff.mp hr).1
  cases row with
  |nil=>exact absurd rfl (h.fit.rowF _ (List.mem_of_getElem? hr)).some_
  |cons w r=>exact Je ((h.iff x w).mp ⟨_,hr,.head _⟩).1
 have h1:wq F x (f x):=⟨f,hf,rfl⟩
 have h2:f x≠v:=λe=>hno (e▸h1)
 obtain⟨l,h3,h4⟩:=(h.iff x (f x)).mpr ⟨hf.1 x hx,λ_=>h1⟩
 rw[hr] at h3;cases h3
 have:f x∈vH row v:=List.mem_filter.mpr ⟨h4,decide_eq_true h2⟩
 rw[e] at this;cases this
theorem vo.strike(h:vo E F G es D)(hall:yR F)(hno:¬wq F x v){row:List Int}(hr:G[x]?=some row)(hv:v∈row){ls:List Lit}(ok:si E G x v ls)(hD:∀y w,D' y w↔D y w\/(y=x/\w=v)) :
  vo E F (G.set x (vH row v)) (es++[XX x row v ls]) D':=by
 refine⟨h.str.snoc hr hv ok,λy w=>?_,h.fit.less hr (h.less_some hall hno hr)⟩
 rw[zcw hr,h.iff y w]
 constructor
 ·rintro⟨⟨a,b⟩,c⟩
  refine⟨a,λd=>?_⟩
  rcases(hD y w).mp d with d|⟨e1,e2⟩
  ·exact b d
  ·exact absurd e2 (c e1)
 ·rintro⟨a,b⟩
  refine⟨⟨a,λd=>b ((hD y w).mpr (.inl d))⟩,λe1 e2=>?_⟩
  subst e1;subst e2
  exact hno (b ((hD _ _).mpr (.inr ⟨rfl,rfl⟩)))
end
theorem qY{row:List Int}(h:Asc row){x:Nat}{v:Int}:xj (neL x v) (spans row)=spans (vH row v):=by
 rw[qX (.inr (.inr rfl)) h]
 refine congrArg spans (List.filter_congr λw _=>?_)
 rw[Yr]
theorem zf6{row:List Int}{v:Int}(h:Asc row)(hv:v∈row):spans (vH row v)≠spans row:=λe=>by
 have:=Xn (w4 h) h e
 have h2:=VT hv
 rw[show vH row v=row from this] at h2
 lia
noncomputable def XW:MF:=λargs Q mh=>X2 λar xs=>N4 (args=[.ref ar,.tuple (z3 xs)]) (xs.Nodup) (xs.length<=1000) (∀mh',Same [] mh mh'->Q (.bool true) mh')
theorem zb1:∀args Q mh,XW args Q mh->yQ ["self","found"] xY args Q mh:=by
 rintro args Q mh0 ⟨ar,xs,rfl,hn,hl,o⟩
 have hnl:(z3 xs).length<=BIG:=by simp;unfold BIG;exact ltk
 apply xA
 walk_at "w"
 refine⟨_,xm (λrest loc acc mh=>X2 λ(dn rest':List Nat)=>N4 (xs=dn++rest') (rest=z3 rest') (acc=.idict (vw (dn.map λ(x:Nat)=>(x:Int)))) (mh=mh0)) ?_ ?_ ?_ _ _ _ _ ⟨[],xs,rfl,rfl,rfl,rfl⟩⟩
 ·rintro rest loc acc mh -;rfl
 ·rintro v rest loc acc mh K hK ⟨dn,rest',e1,e2,rfl,rfl⟩
  cases rest' with
  |nil=>cases e2
  |cons x rest'=>
   cases e2
   have hx:(x:Int)∉dn.map λ(x:Nat)=>(x:Int):=λhm=>by
    obtain⟨y,hy,e⟩:=List.mem_map.mp hm
    have:y=x:=Int.ofNat.inj e
    subst this
    rw[e1] at hn
    exact(List.nodup_append.mp hn).2.2 y hy y (.head _) rfl
   have hln:=congrArg List.length e1
   simp only[List.length_append,List.length_cons] at hln
   refine⟨upd loc "v" (.int (x:Int)),rfl,?_⟩
   walk_at "w"
   refine⟨_,hit,by simp[vw];unfold BIG;lia,?_⟩
   refine hK _ _ _ ⟨dn++[x],rest',by rw[e1];simp,rfl,?_,rfl⟩
   rw[XB hx];simp
 ·rintro loc acc mh ⟨dn,rest',e1,e2,rfl,rfl⟩
  cases rest' with
  |cons x rest'=>cases e2
  |nil=>
   simp at e1;subst e1
   have hsl:(vw (xs.map λ(x:Nat)=>(x:Int))).length=xs.length:=by simp[vw]
   walk_at "w"
   rw[hsl]
   have:=o (mh++[.idict (vw (xs.map λ(x:Nat)=>(x:Int)))]) .append
   simpa using this
theorem ug{E F:List (List Int)}{xs:List Nat}(f:Fit E F)(t:ut xs F.length):w5 xs F (yi (F.map spans) xs):=by
 refine⟨t,by simp[yi,t.len],λp x h=>?_⟩
 have hx:=t.lt x (List.mem_of_getElem? h)
 have hg:(F.map spans).getD x []=spans F[x]:=by rw[List.getD_eq_getElem?_getD,List.getElem?_map,List.getElem?_eq_getElem hx];rfl
 rw[yi,List.getElem?_map,h,List.getElem?_eq_getElem hx]
 show some (yt ((F.map spans).getD x []))=_
 rw[hg,xT (f.rowF _ (List.getElem_mem hx)).asc]
section
variable {mh mh0:MH}{R:SR}{ar r1 r2:Nat}{E F G ch:List (List Int)}{xs ps:List Nat}{few:List Int}{tr marks:List MV}{fl:Bool}{cl:MV}
theorem qh.call{Q:MV->MH->Prop}{doms:List Dom}(W:qh ch ps few)(C:w5 xs F ch)(f:Fit E F)(hA:mh[ar]?=some (sh (z3 xs)))(S:zu mh R doms (E.map spans) tr marks fl cl)
  (h1:mh[r1]?=some (.list (z3 ps))) (h2:mh[r2]?=some (.list (zi few))) (o:∀a b mh',few[0]?=some a->few.getLast?=some b->Same [] mh mh'->Q (.tuple ((zV (E.map spans) xs ps few a b).map Lit.v)) mh') :
  uv [.ref ar,.ref R.r,.ref r1,.ref r2] Q mh:=by
 obtain⟨a,b,ha,hb⟩:=W.ends
 have hl:=W.len C f
 refine⟨ar,R,doms,E.map spans,tr,marks,fl,cl,xs,r1,ps,r2,few,a,b,rfl,hA,S,h1,h2,ha,hb,by exact ltk,λp hp=>?_,λmh' hs=>o a b mh' ha hb hs⟩
 obtain⟨x,h3,h4⟩:=W.place C hp
 have h5:=f.len
 have h6:=f.five
 have h7:=(List.getElem?_eq_some_iff.mp h3).1
 have h8:=C.turn.len
 refine⟨by lia,x,h3,by lia,(E.map spans)[x]'(by rw[List.length_map];exact Nat.lt_of_lt_of_eq h4 h5),List.getElem?_eq_getElem _,f.sf _ (List.getElem_mem _)⟩
structure Vh(mh0:MH)(R:SR)(ar:Nat)(E F:List (List Int))(xs:List Nat)(tr:List MV):Prop where
 fit:Fit E F
 turn:ut xs F.length
 nd:R.refs.Nodup
 lt:∀i∈ar::R.refs,i<mh0.length
 far:ar∉R.refs
 ht:tr.length<=900
theorem UK{Q:Fl->Loc->MH->Prop}{loc:Loc}{M:MR}{mh1:MH}(k:Vh mh0 R ar E F xs tr)(hA:mh0[ar]?=some (sh (z3 xs)))(S:zu mh0 R (F.map spans) (E.map spans) tr marks false cl)(hs1:Same [] mh0 mh1)(ok:M.Ok)(hrefs:∀i∈M.refs,mh0.length<=i)
  (hM:yy mh1 M (yi (F.map spans) xs) (List.replicate xs.length none) []) (l1:loc "self" = some (.ref ar)) (l2:loc "store" = some (.ref R.r)) (l3:loc "matching" = some (.ref M.r))
  (o1:∀loc mh' ls,¬yR F->Same [R.r] mh0 mh'->zu mh' R (F.map spans) (E.map spans) tr marks true (.tuple (ls.map Lit.v))->Why E F ls->(∀named left,XQ E ls named left->left.length<named.length)->Q (.ret (.bool false)) loc mh')
  (o2:∀loc mh' mate own,loc "self" = some (.ref ar)->loc "store" = some (.ref R.r)->loc "matching" = some (.ref M.r)->Same [] mh0 mh'->yy mh' M (yi (F.map spans) xs) mate own->sk (yi (F.map spans) xs) mate own->(∀p:Nat,p<xs.length->mate[p]?≠some none)->Q .next loc mh') :
  Yx (.val (.range 0 (xs.length:Int))) (z3 (List.range xs.length)) (zP "place") (xh zd XU uv) (z3 (List.range xs.length)) loc Q mh1:=by
 have C:=ug k.fit k.turn
 have f5:=k.fit.five
 have f6:=k.fit.len
 have hxl:xs.length<=5:=by rw[k.turn.len];exact le_of_eq_of_le f6 f5
 have hml:=hM.refs_lt
 have smc:SmC (yi (F.map spans) xs):=by
  refine⟨by rw[C.len];lia,λl hl v hv=>?_⟩
  obtain⟨p,hp⟩:=List.getElem?_of_mem hl
  obtain⟨x,h1,h2⟩:=C.place hp
  rw[C.at_ p x h1] at hp
  have:=(k.fit.rowF l (List.mem_of_getElem? hp)).bound v hv
  lia
 have hne:∀l∈yi (F.map spans) xs,l≠[]:=λl hl=>by
  obtain⟨p,hp⟩:=List.getElem?_of_mem hl
  obtain⟨x,h1,h2⟩:=C.place hp
  rw[C.at_ p x h1] at hp
  exact(k.fit.rowF l (List.mem_of_getElem? hp)).some_
 refine y7 (λrest loc mh=>X4 λdn rest' mate own=>N11 (List.range xs.length=dn++rest') (rest=z3 rest') (loc "self" = some (.ref ar)) (loc "store" = some (.ref R.r)) (loc "matching" = some (.ref M.r)) (Same [] mh0 mh) (mh1.length<=mh.length) (yy mh M (yi (F.map spans) xs) mate own) (sk (yi (F.map spans) xs) mate own) (∀q,dn.length<=q->q<xs.length->mate[q]?=some none) (∀q:Nat,q<dn.length->mate[q]?≠some none)) ?_ ?_ ?_ _ _ _ ⟨[],List.range xs.length,List.replicate xs.length none,[],rfl,rfl,l1,l2,l3,hs1,Nat.le_refl _,hM,?_,λq _ h=>by simp[h],λq h=>absurd h (Nat.not_lt_zero _)⟩
 ·rintro rest loc mh -
  exact uB ltk
 ·rintro v rest loc mh K hK hR ⟨dn,rest',mate,own,e1,e2,g1,g2,g3,hs,hle,X,I,hfree,hfull⟩
  cases rest' with
  |nil=>cases e2
  |cons p rest'=>
   cases e2
   obtain⟨rfl,hlt⟩:=xo e1
   have hinst:=X.inst
   walk_at "s"
   refine⟨M,yi (F.map spans) xs,mate,own,dn.length,rfl,X,ok,λi hi=>Nat.lt_of_lt_of_le (hml i hi) hle,smc,I,hfree _ (Nat.le_refl _) hlt,λmh' mate' own' v hs' X' H'=>?_,λmh' r1 r2 ps few hs' h1 h2 _ _ L=>?_⟩
   ·walk_at "n"
    refine hK _ _ ⟨dn++[dn.length],rest',mate',own',by rw[e1];simp,rfl,?_,?_,?_,((hs.mono nA).trans hs').old ?_,Nat.le_trans hle hs'.le,X',H'.inv,λq h1 h2=>?_,λq h1 h2=>?_⟩
    ·walk_at "ne"
    ·walk_at "ne"
    ·walk_at "ne"
    ·have a1:=hrefs M.m (.tail _ (.tail _ (.head _)))
     have a2:=hrefs M.o (.tail _ (.tail _ (.tail _ (.head _))))
     simp[a1,a2]
    ·simp at h1
     exact(H'.nones q).mpr ⟨hfree q (Nat.le_of_succ_le h1) h2,by exact Ne.symm (Nat.ne_of_lt h1)⟩
    ·obtain⟨h3,h4⟩:=(H'.nones q).mp h2
     simp at h1
     exact hfull q (by lia) h3
   ·have W:=L.wall hne
    have hsx:=hs.trans hs'
    have Sx:=S.same hsx nA
    have hAx:=hsx.at hA nN
    have hi:=Sx.inst
    walk_at "n"
    refine W.call C k.fit hAx Sx h1 h2 λa b mh2 ha hb hs2=>?_
    have S2:=Sx.same hs2 nA
    have hi2:=S2.inst
    have hwy:=W.why C k.fit (G:=F) (λ_ _ h=>h) ha hb
    walk_at "w"
    refine⟨R,F.map spans,E.map spans,tr,marks,false,cl,_,rfl,S2,k.nd,by rw[List.length_map];exact hwy.sl.len,λmh3 hs3 S3=>?_⟩
    walk_at "w"
    refine hR _ _ _ (o1 _ _ (zV (E.map spans) xs ps few a b) (λh=>L.no (C.all.mpr h)) (((hsx.trans hs2).mono nE).trans hs3) S3 hwy λnamed left sp=>?_)
    obtain⟨n1,n2,_,_⟩:=W.space C k.fit ha hb sp
    have:=L.len
    lia
 ·rintro loc mh ⟨dn,rest',mate,own,e1,e2,g1,g2,g3,hs,hle,X,I,hfree,hfull⟩
  cases rest' with
  |cons p rest'=>cases e2
  |nil=>
   have hl:=congrArg List.length e1
   simp at hl
   exact o2 _ _ mate own g1 g2 g3 hs X I λp hp=>hfull p (Nat.lt_of_lt_of_eq hp hl)
 ·refine⟨by simp[yi],λv p=>?_,λv p h=>(by cases h),List.nodup_nil⟩
  rw[K8]
  constructor
  ·intro h;cases h
  ·intro h
   by_cases hp:p<xs.length
   ·simp[hp] at h
   ·rw[List.getElem?_eq_none (by simpa using hp)] at h;cases h
end
theorem XN{ks:List (Int×MV)}{v w:Int}{m:MV}:wR (xi ks v m) w=if v=w then some m else wR ks w:=by
 induction ks with
 |nil=>rw[zci,vn,ze7]
 |cons p ks ih=>
  obtain⟨y,z⟩:=p
  rw[s9]
  by_cases h:y=v
  ·subst h
   rw[if_pos rfl,vn,vn]
   by_cases h2:y=w
   ·rw[if_pos h2,if_pos h2]
   ·rw[if_neg h2,if_neg h2,if_neg h2]
  ·rw[if_neg h,vn,vn,ih]
   by_cases h2:y=w
   ·rw[if_pos h2,if_neg (λe=>h (h2.trans e.symm)),if_pos h2]
   ·rw[if_neg h2,if_neg h2]
theorem ze5{ks:List (Int×MV)}{v:Int}:(ks.any λkv=>decide (kv.1=v))=(wR ks v).isSome:=by
 induction ks with
 |nil=>rfl
 |cons p ks ih=>
  obtain⟨y,z⟩:=p
  rw[vn,List.any_cons,ih]
  by_cases h:y=v
  ·rw[if_pos h];simp[h]
  ·rw[if_neg h];simp[h]
noncomputable def za0(mh:MH)(ch:List (List Int))(own:List (Int×Nat))(rn:Nat)(v:Int)(m:MV):Prop:=
 (m=.none/\qx ch own v)\/X4 λr1 r2 ps few=>N6 (m=.tuple [.ref r1,.ref r2]) (rn<r1) (rn<r2) (mh[r1]?=some (.list (z3 ps))) (mh[r2]?=some (.list (zi few))) (Vg ch own v ps few)
theorem za0.same{mh mh':MH}{ch:List (List Int)}{own:List (Int×Nat)}{rn:Nat}{v:Int}{m:MV}{S:List Nat}(x:za0 mh ch own rn v m)(s:Same S mh mh')(h:∀i∈S,i<=rn):za0 mh' ch own rn v m:=by
 rcases x with x|⟨r1,r2,ps,few,e,h1,h2,h3,h4,h5⟩
 ·exact .inl x
 ·exact .inr ⟨r1,r2,ps,few,e,h1,h2,s.at h3 λhi=>by have:=h _ hi;lia,s.at h4 λhi=>by have:=h _ hi;lia,h5⟩
noncomputable abbrev Y7(F:List (List Int))(xs:List Nat):List (List Int):=yi (F.map spans) xs
structure Xf(mh0:MH)(R:SR)(ar:Nat)(E F:List (List Int))(xs:List Nat)(tr:List MV)(M:MR)(mate:List (Option Int))(own:List (Int×Nat))(rn:Nat):Prop where
 k:Vh mh0 R ar E F xs tr
 hM:∀i∈M.refs,mh0.length<=i/\i<rn
 I:sk (Y7 F xs) mate own
 full:∀p:Nat,p<xs.length->mate[p]?≠some none
structure Ph(mh0:MH)(R:SR)(ar:Nat)(E F:List (List Int))(xs:List Nat)(tr marks:List MV)(cl:MV)(M:MR)(mate:List (Option Int))(own:List (Int×Nat))(rn:Nat)(loc:Loc)(mh:MH)(G:List (List Int))(es:List MV)(ks:List (Int×MV))(D:Nat->Int->Prop):Prop where
 l1:loc "self" = some (.ref ar)
 l2:loc "store" = some (.ref R.r)
 l3:loc "matching" = some (.ref M.r)
 l4:loc "needs" = some (.ref rn)
 adv:mh[ar]?=some (sh (z3 xs))
 st:zu mh R (G.map spans) (E.map spans) (tr++es) marks false cl
 mat:yy mh M (Y7 F xs) mate own
 nd:mh[rn]?=some (.idict ks)
 nk:∀v m,wR ks v=some m->za0 mh (Y7 F xs) own rn v m
 same:Same [R.d,R.t,R.n] mh0 mh
 half:vo E F G es D
section
variable {mh0 mh mh':MH}{R:SR}{ar:Nat}{E F G G':List (List Int)}{xs:List Nat}{tr marks es es':List MV}{cl:MV}{M:MR}{mate:List (Option Int)}{own:List (Int×Nat)}{rn:Nat}{loc loc':Loc}{ks:List (Int×MV)}{D D':Nat->Int->Prop}
theorem Xf.sep(s:Xf mh0 R ar E F xs tr M mate own rn):(∀i∈R.refs,i<rn)/\(∀i∈R.refs,i∉M.refs)/\rn∉M.refs/\rn∉R.refs/\ar≠rn:=by
 have h0:=s.hM M.r (.head _)
 have h1:∀i∈R.refs,i<rn:=λi hi=>Nat.lt_of_lt_of_le (s.k.lt i (.tail _ hi)) (Nat.le_of_lt (Nat.lt_of_le_of_lt h0.1 h0.2))
 refine⟨h1,λi hi hm=>?_,λh=>?_,λh=>?_,λh=>?_⟩
 ·exact Nat.not_lt.mpr (s.hM i hm).1 (s.k.lt i (.tail _ hi))
 ·exact Nat.lt_irrefl _ (s.hM _ h).2
 ·exact Nat.lt_irrefl _ (h1 _ h)
 ·exact Nat.not_lt.mpr h0.1 (Nat.lt_trans h0.2 (h▸s.k.lt ar (.head _)))
theorem Ph.step0(x:Ph mh0 R ar E F xs tr marks cl M mate own rn loc mh G es ks D)(h:Same [] mh mh')(g1:loc' "self" = loc "self")(g2:loc' "store" = loc "store")(g3:loc' "matching" = loc "matching")(g4:loc' "needs" = loc "needs"):Ph mh0 R ar E F xs tr marks cl M mate own rn loc' mh' G es ks D:=
 ⟨g1.trans x.l1,g2.trans x.l2,g3.trans x.l3,g4.trans x.l4,h.at x.adv nN,x.st.same h nA,x.mat.same h nA,h.at x.nd nN,λv m e=>(x.nk v m e).same h nA,x.same.trans (h.mono nA),x.half⟩
theorem Ph.put(x:Ph mh0 R ar E F xs tr marks cl M mate own rn loc mh G es ks D)(s:Xf mh0 R ar E F xs tr M mate own rn){v:Int}{m:MV}(n:za0 mh (Y7 F xs) own rn v m):Ph mh0 R ar E F xs tr marks cl M mate own rn loc (mh.set rn (.idict (xi ks v m))) G es (xi ks v m) D:=by
 obtain⟨a1,a2,a3,a4,a5⟩:=s.sep
 have h:Same [rn] mh (mh.set rn (.idict (xi ks v m))):=.set (List.mem_singleton_self _)
 refine⟨x.l1,x.l2,x.l3,x.l4,h.at x.adv (by simpa using a5),x.st.same h (by simpa using a4),x.mat.same h (by simpa using a3),yW x.nd,λw m' e=>?_,((x.same.mono (T:=[rn,R.d,R.t,R.n]) λi hi=>.tail _ hi).trans (h.mono λi hi=>by obtain rfl:=List.mem_singleton.mp hi;exact .head _)).old λi hi=>?_,x.half⟩
 ·rw[XN] at e
  by_cases hvw:v=w
  ·rw[if_pos hvw] at e
   cases e;subst hvw
   exact n.same h (λ_ h=>Nat.le_of_eq (List.mem_singleton.mp h))
  ·rw[if_neg hvw] at e
   exact(x.nk w m' e).same h (λ_ h=>Nat.le_of_eq (List.mem_singleton.mp h))
 ·rcases List.mem_cons.mp hi with rfl|hi
  ·have:=s.hM M.r (.head _)
   exact .inr (Nat.le_trans this.1 (Nat.le_of_lt this.2))
  ·exact .inl hi
theorem Ph.struck(x:Ph mh0 R ar E F xs tr marks cl M mate own rn loc mh G es ks D)(s:Xf mh0 R ar E F xs tr M mate own rn)(h:Same [R.d,R.t,R.n] mh mh')(S:zu mh' R (G'.map spans) (E.map spans) (tr++es') marks false cl)(H:vo E F G' es' D')
  (g1:loc' "self" = loc "self") (g2:loc' "store" = loc "store") (g3:loc' "matching" = loc "matching") (g4:loc' "needs" = loc "needs"):Ph mh0 R ar E F xs tr marks cl M mate own rn loc' mh' G' es' ks D':=by
 obtain⟨a1,a2,a3,a4,a5⟩:=s.sep
 have hR:∀i∈[R.d,R.t,R.n],i∈R.refs:=by simp[SR.refs]
 exact⟨g1.trans x.l1,g2.trans x.l2,g3.trans x.l3,g4.trans x.l4,h.at x.adv λe=>s.k.far (hR _ e),S,x.mat.same h λi hi=>a2 i (hR i hi),h.at x.nd λe=>a4 (hR _ e),λv m e=>(x.nk v m e).same h λi hi=>Nat.le_of_lt (a1 i (hR i hi)),x.same.trans h,H⟩
theorem Ph.keep(x:Ph mh0 R ar E F xs tr marks cl M mate own rn loc mh G es ks D)(H:vo E F G es D')(g1:loc' "self" = loc "self")(g2:loc' "store" = loc "store")(g3:loc' "matching" = loc "matching")(g4:loc' "needs" = loc "needs"):Ph mh0 R ar E F xs tr marks cl M mate own rn loc' mh G es ks D':=
 ⟨g1.trans x.l1,g2.trans x.l2,g3.trans x.l3,g4.trans x.l4,x.adv,x.st,x.mat,x.nd,x.nk,x.same,H⟩
theorem Xf.smc(s:Xf mh0 R ar E F xs tr M mate own rn):SmC (Y7 F xs):=by
 have C:=ug s.k.fit s.k.turn
 have f5:=s.k.fit.five
 have f6:=s.k.fit.len
 refine⟨by rw[C.len];lia,λl hl v hv=>?_⟩
 obtain⟨p,hp⟩:=List.getElem?_of_mem hl
 obtain⟨x,h1,h2⟩:=C.place hp
 rw[C.at_ p x h1] at hp
 have:=(s.k.fit.rowF l (List.mem_of_getElem? hp)).bound v hv
 exact⟨Int.le_trans (by decide) this.1,Int.le_trans this.2 (by decide)⟩
theorem zfs{n:MS}{K:Fl->Loc->MH->Prop}{v:Int}(s:Xf mh0 R ar E F xs tr M mate own rn)(x:Ph mh0 R ar E F xs tr marks cl M mate own rn loc mh G es ks D)(lv:loc "v" = some (.int v))(hv : -20<=v/\v<=20)(hk:ks.length<=1000)
  (o:∀mh' ks' m,Ph mh0 R ar E F xs tr marks cl M mate own rn loc mh' G es ks' D->wR ks' v=some m->ks'.length<=ks.length+1->n loc K mh') :
  zA (sIf (yC .NotIn (za "v") (za "needs")) (zk (y5 "Matching" "closed_from" (za "matching") uj [za "v"]) (jS (za "needs") (za "v"))) yG) n loc K mh:=by
 have f3:=x.l3
 have f4:=x.l4
 have e1:=x.nd
 have e2:=x.mat.inst
 walk_at "s"
 rw[ze5]
 cases e:wR ks v with
 |some m=>
  refine ZF rfl ?_
  walk_at "w"
  apply cont_i
  exact o mh ks m x e (Nat.le_succ _)
 |none=>
  refine Vb rfl ?_
  walk_at "w"
  have fin:∀mh' m,Same [] mh mh'->za0 mh' (Y7 F xs) own rn v m->n loc K (mh'.set rn (.idict (xi ks v m))):=λmh' m hs N=>
   o _ _ m ((x.step0 hs rfl rfl rfl rfl).put s N) (by rw[XN,if_pos rfl]) KZ
  refine⟨M,Y7 F xs,mate,own,v,rfl,x.mat,s.smc,s.I,hv.1,hv.2,λmh' hs L=>?_,λmh' r1 r2 ps few hs h1 h2 g1 g2 S=>?_⟩
  ·have e3:=hs.at e1 nN
   walk_at "w"
   apply cont_i
   exact fin mh' _ hs (.inl ⟨rfl,L⟩)
  ·have e3:=hs.at e1 nN
   have hlt:=zm e1
   walk_at "w"
   apply cont_i
   exact fin mh' _ hs (.inr ⟨r1,r2,ps,few,rfl,by exact Nat.lt_of_lt_of_le hlt g1,by exact Nat.lt_of_lt_of_le hlt g2,h1,h2,S⟩)
end
noncomputable def Dn(xs:List Nat)(q:Nat)(dn:List Int)(z:Nat)(w:Int):Prop:=(∃p,p<q/\xs[p]?=some z)\/(xs[q]?=some z/\w∈dn)
theorem Yi{ps:List Nat}:z3 ps=zi (ps.map λ(p:Nat)=>(p:Int)):=by rw[zi,List.map_map];rfl
theorem VK{ps:List Nat}{q:Nat}:(q:Int)∈ps.map (λ(p:Nat)=>(p:Int))↔q∈ps:=by
 rw[List.mem_map]
 exact⟨λ⟨p,h,e⟩=>(show p=q from Int.ofNat.inj e)▸h,λh=>⟨q,h,rfl⟩⟩
section
variable {mh0 mh mh':MH}{R:SR}{ar:Nat}{E F G G':List (List Int)}{xs:List Nat}{tr marks es es':List MV}{cl:MV}{M:MR}{mate:List (Option Int)}{own:List (Int×Nat)}{rn:Nat}{loc loc':Loc}{ks:List (Int×MV)}{D D':Nat->Int->Prop}
theorem vo.count(h:vo E F G es D)(f:Fit E F):es.length<=20:=by
 have h1:=h.str.len
 have h2:=za7 (F:=F) (n:=5) (λl hl=>(f.rowF l hl).len) (by have:=f.len;have:=f.five;lia)
 lia
theorem zfr{K:Fl->Loc->MH->Prop}{v:Int}{q y:Nat}{row0:List Int}(s:Xf mh0 R ar E F xs tr M mate own rn)(x:Ph mh0 R ar E F xs tr marks cl M mate own rn loc mh G es ks D)(lv:loc "v" = some (.int v))(lp:loc "place" = some (.int (q:Int)))(hq:xs[q]?=some y)(h0:F[y]?=some row0)(hv0:v∈row0)(hD:¬D y v)(hk:ks.length<=1000)(hD':∀z w,D' z w↔D z w\/(z=y/\w=v))
  (o:∀loc' mh' G' es' ks',Ph mh0 R ar E F xs tr marks cl M mate own rn loc' mh' G' es' ks' D'->loc' "place" = some (.int (q:Int))->ks'.length<=ks.length+1->K .next loc' mh') :
  y1 uv uj zq loc K mh:=by
 have C:=ug s.k.fit s.k.turn
 have hyl:=(List.getElem?_eq_some_iff.mp h0).1
 have hql:=(List.getElem?_eq_some_iff.mp hq).1
 have hlen:=s.k.fit.len
 have hfive:=s.k.fit.five
 have hxl:=s.k.turn.len
 have hb:=(s.k.fit.rowF row0 (List.mem_of_getElem? h0)).bound v hv0
 have hcF:yl F v y:=⟨row0,h0,hv0⟩
 have hcC:yl (Y7 F xs) v q:=(C.in_ hq).mpr hcF
 obtain⟨f,hf,ho⟩:=s.I.sits λp hp=>s.full p (by rw[C.len] at hp;exact Nat.lt_of_lt_of_eq hp hxl.symm)
 refine zfs s x lv ⟨by lia,by lia⟩ hk λmh1 ks1 m x1 hag hkl=>?_
 have f1:=x1.l1
 have f2:=x1.l2
 have f4:=x1.l4
 have e1:=x1.nd
 have keep:wq (Y7 F xs) q v->K .next loc mh1:=λh=>o _ _ _ _ _ (x1.keep (x1.half.keep hD' ((C.sit hq).mp h)) rfl rfl rfl rfl) lp hkl
 rcases x1.nk v m hag with⟨rfl,L⟩|⟨r1,r2,ps,few,rfl,g1,g2,h3,h4,S⟩
 ·walk_at "w"
  exact keep (L.sit ho hf hcC)
 ·have h3':=h3
  rw[Yi] at h3'
  walk_at "w"
  refine Wp (λhin=>?_) λhin=>?_
  ·have hnp:q∉ps:=λh=>hin (VK.mpr h)
   have hno:¬wq F y v:=λh=>S.no (by rw[C.len];exact Nat.lt_of_lt_of_eq hql hxl) hnp ((C.sit hq).mpr h)
   have hall:yR F:=C.all.mp ⟨f,hf⟩
   obtain⟨row,hr,hv⟩:=(x1.half.iff y v).mpr ⟨hcF,λd=>absurd d hD⟩
   have W:=S.wall s.I
   have hrw:=(x1.half.fit.rowF row (List.mem_of_getElem? hr)).asc
   have hi:=x1.st.inst
   have hadv:=x1.adv
   walk_at "w"
   walk_at "s"
   refine W.call C s.k.fit x1.adv x1.st h3 h4 λa b mh2 ha hb2 hs2=>?_
   have x2:=x1.step0 hs2 (loc':=upd loc "reasons" (.tuple ((zV (E.map spans) xs ps few a b).map Lit.v))) (by walk_at "ne") (by walk_at "ne") (by walk_at "ne") (by walk_at "ne")
   have hi:=x2.st.inst
   have hadv:=x2.adv
   have hwy:=W.why C s.k.fit (G:=G) (λz w h=>((x1.half.iff z w).mp h).1) ha hb2
   have hcnt:=x1.half.count s.k.fit
   have hok:si E G y v (zV (E.map spans) xs ps few a b):=⟨hwy,λnamed left sp=>by
    obtain⟨n1,n2,n3,n4⟩:=W.space C s.k.fit ha hb2 sp
    refine⟨by rw[n1,n2,S.len],(n3 v).mpr S.mem,λh=>?_⟩
    obtain⟨p,hp,e⟩:=(n4 y).mp h
    exact hnp (C.turn.inj e hq▸hp)⟩
   have H:=x1.half.strike hall hno hr hv hok hD'
   have hst:=s.k.ht
   generalize zV (E.map spans) xs ps few a b=ls at *
   walk_at "n"
   refine⟨R,G.map spans,E.map spans,tr++es,marks,false,cl,neL y v,spans row,ls.map Lit.v,y,rfl,rfl,.inr (.inr rfl),x2.st,s.k.nd,by lia,by rw[List.getElem?_map,hr];rfl,x1.half.fit.sd _ (List.mem_map.mpr ⟨row,List.mem_of_getElem? hr,rfl⟩),?_,⟨by rw[List.length_append];lia,by rw[List.length_map];exact hwy.sl.len⟩,λmh3 hs3 S3=>?_⟩
   ·rw[qY hrw]
    exact λe=>x1.half.less_some hall hno hr (sy.mp e)
   ·rw[qY hrw,if_neg (zf6 hrw hv),<-List.map_set,List.append_assoc] at S3
    walk_at "w"
    exact o _ _ _ _ _ (x2.struck s hs3 S3 H rfl rfl rfl rfl) (by walk_at "ne") hkl
  ·walk_at "w"
   exact keep (S.sit ho hf (VK.mp hin) hcC)
end
section
variable {mh0 mh mh':MH}{R:SR}{ar:Nat}{E F G G':List (List Int)}{xs:List Nat}{tr marks es es':List MV}{cl:MV}{M:MR}{mate:List (Option Int)}{own:List (Int×Nat)}{rn:Nat}{loc loc':Loc}{ks:List (Int×MV)}{D D':Nat->Int->Prop}
theorem zbr{K:Fl->Loc->MH->Prop}{q y rl:Nat}{row0:List Int}(s:Xf mh0 R ar E F xs tr M mate own rn)(x:Ph mh0 R ar E F xs tr marks cl M mate own rn loc mh G es ks (Dn xs q []))(lp:loc "place" = some (.int (q:Int)))(hq:xs[q]?=some y)(h0:F[y]?=some row0)(hc:M.cs[q]?=some rl)(hk:ks.length<=900)
  (o:∀loc' mh' G' es' ks',Ph mh0 R ar E F xs tr marks cl M mate own rn loc' mh' G' es' ks' (Dn xs q row0)->ks'.length<=ks.length+4->K .next loc' mh') :
  Yx (.val (.ref rl)) (zi row0) (zP "v") (y1 uv uj zq) (zi row0) loc K mh:=by
 have C:=ug s.k.fit s.k.turn
 have rc:=s.k.fit.rowF row0 (List.mem_of_getElem? h0)
 have hlen:=rc.len
 have h4:(Y7 F xs)[q]?=some row0:=by rw[C.at_ q y hq];exact h0
 refine y7 (λrest loc mh=>X2 λdn rest'=>X3 λG es ks'=>N5 (row0=dn++rest') (rest=zi rest') (Ph mh0 R ar E F xs tr marks cl M mate own rn loc mh G es ks' (Dn xs q dn)) (loc "place" = some (.int (q:Int))) (ks'.length<=ks.length+dn.length)) ?_ ?_ ?_ _ _ _ ⟨[],row0,G,es,ks,rfl,rfl,x,lp,Nat.le_refl _⟩
 ·rintro rest loc mh ⟨dn,rest',G,es,ks',-,-,x,-,-⟩
  obtain⟨l,h1,h2⟩:=x.mat.lists.at_ q rl hc
  rw[h4] at h1;cases h1
  exact h2
 ·rintro w rest loc mh K' hK hR ⟨dn,rest',G,es,ks',e1,e2,x,lp,hkl⟩
  cases rest' with
  |nil=>cases e2
  |cons v rest'=>
   cases e2
   have hln:=congrArg List.length e1
   simp only[List.length_append,List.length_cons] at hln
   have hnd:v∉dn:=λh=>by
    have:=rc.asc
    unfold Asc at this
    rw[e1,List.pairwise_append] at this
    have:=this.2.2 v h v (.head _)
    lia
   refine zfr (D':=Dn xs q (dn++[v])) s (x.step0 .refl rfl rfl rfl rfl (loc':=upd loc "v" (.int v))) hit (miss rfl lp) hq h0 (by rw[e1];simp) ?_ (by lia) (λz w=>?_) λloc' mh' G' es' ks2 x' lp' hk'=>hK _ _ ⟨dn++[v],rest',G',es',ks2,by rw[e1];simp,rfl,x',lp',by simp;lia⟩
   ·rintro(⟨p,hp,e⟩|⟨_,h⟩)
    ·have:=C.turn.inj e hq;lia
    ·exact hnd h
   ·unfold Dn
    rw[List.mem_append,List.mem_singleton]
    constructor
    ·rintro(h|⟨h1,h2|h2⟩)
     ·exact .inl (.inl h)
     ·exact .inl (.inr ⟨h1,h2⟩)
     ·rw[hq] at h1;cases h1;exact .inr ⟨rfl,h2⟩
    ·rintro((h|⟨h1,h2⟩)|⟨rfl,rfl⟩)
     ·exact .inl h
     ·exact .inr ⟨h1,.inl h2⟩
     ·exact .inr ⟨hq,.inr rfl⟩
 ·rintro loc mh ⟨dn,rest',G,es,ks',e1,e2,x,lp,hkl⟩
  cases rest' with
  |cons v rest'=>cases e2
  |nil=>
   simp at e1;subst e1
   exact o _ _ _ _ _ x (by lia)
theorem Kb{K:Fl->Loc->MH->Prop}(s:Xf mh0 R ar E F xs tr M mate own rn)(x:Ph mh0 R ar E F xs tr marks cl M mate own rn loc mh F [] [] (λ_ _=>False))
  (o:∀loc' mh' G' es' ks',Ph mh0 R ar E F xs tr marks cl M mate own rn loc' mh' G' es' ks' (λ_ _=>True)->K .next loc' mh') :
  Yx (.val (.range 0 (xs.length:Int))) (z3 (List.range xs.length)) (zP "place") (xg uv uj zq) (z3 (List.range xs.length)) loc K mh:=by
 have C:=ug s.k.fit s.k.turn
 have hlen:=s.k.fit.len
 have hfive:=s.k.fit.five
 have hxl:=s.k.turn.len
 refine y7 (λrest loc mh=>X2 λdn rest'=>X3 λG es ks=>N4 (List.range xs.length=dn++rest') (rest=z3 rest') (Ph mh0 R ar E F xs tr marks cl M mate own rn loc mh G es ks (Dn xs dn.length [])) (ks.length<=4 * dn.length)) ?_ ?_ ?_ _ _ _ ⟨[],List.range xs.length,F,[],[],rfl,rfl,x.keep (x.half.same λz w _=>?_) rfl rfl rfl rfl,Nat.zero_le _⟩
 ·rintro rest loc mh -
  exact uB (by lia)
 ·rintro w rest loc mh K' hK hR ⟨dn,rest',G,es,ks,e1,e2,x,hkl⟩
  cases rest' with
  |nil=>cases e2
  |cons p rest'=>
   cases e2
   obtain⟨rfl,hlt⟩:=xo e1
   obtain⟨y,hq⟩:∃y,xs[dn.length]?=some y:=⟨_,List.getElem?_eq_getElem hlt⟩
   have hyl:=s.k.turn.lt y (List.mem_of_getElem? hq)
   have h0:F[y]?=some F[y]:=List.getElem?_eq_getElem hyl
   have h4:(Y7 F xs)[dn.length]?=some F[y]:=by rw[C.at_ _ y hq];exact h0
   obtain⟨rl,hc1,hc2⟩:=x.mat.lists.get h4
   have f3:=x.l3
   have hi:=x.mat.inst
   have hcc:=x.mat.choices
   walk_at "w"
   refine⟨_,zbr s (x.step0 .refl rfl rfl rfl rfl (loc':=upd loc "place" (.int (dn.length:Int)))) hit hq h0 hc1 (by lia) λloc' mh' G' es' ks' x' hk'=>hK _ _ ⟨dn++[dn.length],rest',G',es',ks',by rw[e1];simp,rfl,x'.keep (x'.half.same λz w hw=>?_) rfl rfl rfl rfl,by simp;lia⟩⟩
   unfold Dn
   rw[List.length_append]
   constructor
   ·rintro(⟨p,hp,e⟩|⟨_,h⟩)
    ·by_cases hpl:p<dn.length
     ·exact .inl ⟨p,hpl,e⟩
     ·have:p=dn.length:=by simp at hp;exact Nat.eq_of_lt_succ_of_not_lt hp hpl
      subst this
      rw[hq] at e;cases e
      obtain⟨l,h1,h2⟩:=hw
      rw[h0] at h1;cases h1
      exact .inr ⟨hq,h2⟩
    ·cases h
   ·rintro(⟨p,hp,e⟩|⟨h1,_⟩)
    ·exact .inl ⟨p,by simp;exact Nat.lt_add_right 1 hp,e⟩
    ·exact .inl ⟨_,Nat.lt_succ_self _,h1⟩
 ·rintro loc mh ⟨dn,rest',G,es,ks,e1,e2,x,hkl⟩
  cases rest' with
  |cons p rest'=>cases e2
  |nil=>
   have hl:=congrArg List.length e1
   simp at hl
   refine o _ _ _ _ _ (x.keep (x.half.same λz w hw=>⟨λ_=>?_,λ_=>trivial⟩) rfl rfl rfl rfl)
   obtain⟨p,hp,e⟩:=C.turn.back (Je hw)
   exact .inl ⟨p,by lia,e⟩
 ·unfold Dn
  constructor
  ·rintro(⟨p,hp,_⟩|⟨_,h⟩)
   ·exact absurd hp (Nat.not_lt_zero _)
   ·cases h
  ·exact False.elim
end
noncomputable def zT:MF:=λargs Q mh=>X10 λar R E F xs tr marks fl cl (b:Bool)=>N9 (args=[.ref ar,.ref R.r]) (mh[ar]?=some (sh (z3 xs))) (zu mh R (F.map spans) (E.map spans) tr marks fl cl) (Vh mh R ar E F xs tr) ((b=true↔yR F))
 (fl=true->Q (.bool false) mh)
 (fl=false->b=false->∀mh' ls,Same [R.r] mh mh'->zu mh' R (F.map spans) (E.map spans) tr marks true (.tuple (ls.map Lit.v))->Why E F ls->(∀named left,XQ E ls named left->left.length<named.length)->Q (.bool false) mh')
 (fl=false->b=true->∀mh' G es,Same [R.d,R.t,R.n] mh mh'->zu mh' R (G.map spans) (E.map spans) (tr++es) marks false cl->vo E F G es (λ_ _=>True)->Q (.bool true) mh') True
theorem Wh:∀args Q mh,zT args Q mh->yQ ["self","store"] (xl XW zd yB XU uv uj zq) args Q mh:=by
 rintro args Q mh0 ⟨ar,R,E,F,xs,tr,marks,fl,cl,b,rfl,hA,S,k,hb,o1,o2,o3,-⟩
 have C:=ug k.fit k.turn
 have hlen:=k.fit.len
 have hfive:=k.fit.five
 have hxl:=k.turn.len
 have hi:=S.inst
 have hnx:(z3 xs).length=xs.length:=List.length_map _
 apply xA
 cases fl with
 |true=>
  walk_at "s"
  exact o1 rfl
 |false=>
  walk_at "s"
  walk_at "n"
  refine⟨ar,xs,rfl,k.turn.nodup,by lia,λmh1 hs1=>?_⟩
  have S1:=S.same hs1 nA
  have hi:=S1.inst
  have hA1:=hs1.at hA nN
  walk_at "w"
  walk_at "n"
  refine⟨R,F.map spans,E.map spans,tr,marks,false,cl,xs,rfl,S1,λx hx=>?_,by lia,λmh2 M hs2 ok hrefs hM=>?_⟩
  ·have:=k.turn.lt x hx
   exact⟨by lia,(F.map spans)[x]'(by rw[List.length_map];omega),List.getElem?_eq_getElem _,k.fit.sd _ (List.getElem_mem _)⟩
  have hs12:=hs1.trans hs2
  have hA2:=hs12.at hA nN
  have hr0:∀i∈M.refs,mh0.length<=i:=λi hi=>Nat.le_trans hs1.le (hrefs i hi)
  walk_at "n"
  rw[hnx]
  refine⟨z3 (List.range xs.length),UK k hA S hs12 ok hr0 hM (by walk_at "ne") (by walk_at "ne") (by walk_at "ne") (λloc mh' ls hno hs S' hw hc=>?_) λloc mh' mate own g1 g2 g3 hs X I full=>?_⟩
  ·walk_at "w"
   refine o2 rfl ?_ mh' ls hs S' hw hc
   cases b with
   |false=>rfl
   |true=>exact absurd (hb.mp rfl) hno
  ·obtain⟨f,hf,_⟩:=I.sits λp hp=>full p (by rw[C.len] at hp;exact Nat.lt_of_lt_of_eq hp hxl.symm)
   have hbt:=hb.mpr (C.all.mp ⟨f,hf⟩)
   have Sx:=S.same hs nA
   have hAx:=hs.at hA nN
   have hml:=X.refs_lt
   have hk1:Same [] mh' (mh'++[MO.idict []]):=.append
   walk_at "n"
   have x0:Ph mh0 R ar E F xs tr marks cl M mate own mh'.length (upd loc "needs" (.ref mh'.length)) (mh'++[MO.idict []]) F [] [] (λ_ _=>False):=by
    refine⟨by walk_at "ne",by walk_at "ne",by walk_at "ne",hit,hk1.at hAx nN,?_,X.same hk1 nA,zB,λv m h=>(by cases h),(hs.trans hk1).mono nA,⟨.nil,λx v=>⟨λh=>⟨h,False.elim⟩,λh=>h.1⟩,k.fit⟩⟩
    rw[List.append_nil];exact Sx.same hk1 nA
   walk_at "n"
   rw[hnx]
   refine⟨z3 (List.range xs.length),Kb ⟨k,λi hi=>⟨hr0 i hi,hml i hi⟩,I,full⟩ x0 λloc' mh3 G es ks x=>?_⟩
   walk_at "n"
   exact o3 rfl hbt mh3 G es x.same x.st x.half
theorem KH{s:Str}(h:s=("<=" : Str)\/s=(">=" : Str)\/s=("!=" : Str)):PyData.strOk s=true:=by
 rcases h with rfl|rfl|rfl<;>kernel_rfl!
noncomputable def Yq(l:Lit):Dat:=.tuple [.int l.x,.str l.sign,.int l.k]
theorem zdj{mh:MH}(l:Lit):DR mh l.v (Yq l):=.tuple (.cons (.int _) (.cons (.str _) (.cons (.int _) .nil)))
theorem ZC{ls:List Lit}{Q:Bool->Prop}{mh:MH}(h:∀l∈ls,l.plain)(q:Q true):eqM (.tuple (ls.map Lit.v)) (.tuple (ls.map Lit.v)) Q mh:=by
 have hk:kqdOk 8 (.tuple (ls.map Yq))=true:=by
  simp only[kqdOk,List.all_map,List.all_eq_true]
  intro l hl
  simp[Yq,kqdOk,KH (h l hl)]
 refine⟨.tuple (ls.map Yq),.tuple (ls.map Yq),.tuple (.map zdj ls),.tuple (.map zdj ls),hk,hk,?_⟩
 simpa using q
theorem zgl{x:Int}{s:Str}(h:PyData.strOk s=true){Q:Bool->Prop}{mh:MH}(q:Q true):eqM (.tuple [.int x,.str s]) (.tuple [.int x,.str s]) Q mh:=by
 have hk:kqdOk 8 (.tuple [.int x,.str s])=true:=by simp[kqdOk,h]
 refine⟨_,_,.tuple (.cons (.int x) (.cons (.str s) .nil)),.tuple (.cons (.int x) (.cons (.str s) .nil)),hk,hk,?_⟩
 simpa using q
theorem neV{x:Nat}{v:Int}:(neL x v).v=.tuple [.int (x:Int),.str "!=",.int v]:=rfl
section
variable {mh mh':MH}{r q x:Nat}{cs:List Nat}{F:List (List Int)}{l:List Int}
theorem Rows.put(h:Rows mh r cs F)(hx:x<F.length)(s:Same [] mh mh')(hq:mh'[q]?=some (.list (zi l))){r':Nat}(hr:mh'[r']?=some (.list ((cs.map MV.ref).take (x:Int).toNat++[.ref q]++(cs.map MV.ref).drop ((x:Int)+1).toNat))):Rows mh' r' (cs.set x q) (F.set x l):=by
 have hcl:=h.lists.len
 refine⟨?_,by simp[hcl],λi p hp=>?_⟩
 ·have e1:((x:Int)+1).toNat=x+1:=by exact Int.toNat_natCast_add_one
  rw[hr,List.set_eq_take_append_cons_drop,if_pos (Nat.lt_of_lt_of_eq hx hcl.symm),Int.toNat_natCast,e1]
  simp
 ·by_cases hi:x=i
  ·subst hi
   rw[List.getElem?_set_self (Nat.lt_of_lt_of_eq hx hcl.symm)] at hp
   cases hp
   exact⟨l,List.getElem?_set_self hx,hq⟩
  ·rw[List.getElem?_set_ne hi] at hp
   obtain⟨l',e1,e2⟩:=h.lists.at_ i p hp
   exact⟨l',by rw[List.getElem?_set_ne hi];exact e1,s.at e2 nN⟩
end
section
variable {mh0 mh mh':MH}{rF rE:Nat}{cs ds:List Nat}{E F G:List (List Int)}{es:List MV}{loc:Loc}
theorem JT{Q:Loc->MO->MH->Prop}{mh:MH}{q x:Nat}{row:List Int}{v:Int}(hq:mh[q]?=some (.list (zi row)))(hl:row.length<=1000)(g:loc "literal" = some (.tuple [.int (x:Int),.str "!=",.int v]))
  (o:∀loc' mh',Same [] mh mh'->Q loc' (.list (zi (vH row v))) mh'):vf (.val (.ref q)) (zi row) (.one "v") ve vg (zi row) loc (.list []) Q mh:=by
 refine yS (mh0:=mh) (λloc=>loc "literal" = some (.tuple [.int (x:Int),.str "!=",.int v])) MV.int (λw=>decide (w≠v)) MV.int row (show xc (.val (.ref q)) (zi row) mh from hq) (by unfold BIG;exact ltk) ?_ g o
 rintro w hw loc g
 refine⟨upd loc "v" (.int w),rfl,miss rfl g,λmh hs=>⟨λR o=>?_,λ_ R o=>?_⟩⟩
 ·walk_at "w"
  simpa using o _ .refl
 ·walk_at "w"
  exact o _ .refl
structure Sg(mh0:MH)(R:SR)(rE:Nat)(ds:List Nat)(E:List (List Int))(loc:Loc)(mh:MH)(rF:Nat)(cs:List Nat)(F:List (List Int)):Prop where
 l1:loc "store_now" = some (.ref R.r)
 l2:loc "early" = some (.ref rE)
 l3:loc "rows" = some (.ref rF)
 rE:Rows mh rE ds E
 rF:Rows mh rF cs F
 same:Same [] mh0 mh
 len:F.length=E.length
 four:∀row∈F,row.length<=4
theorem Sg.step0{R:SR}{loc':Loc}(x:Sg mh0 R rE ds E loc mh rF cs F)(h:Same [] mh mh')(g1:loc' "store_now" = loc "store_now")(g2:loc' "early" = loc "early")(g3:loc' "rows" = loc "rows"):Sg mh0 R rE ds E loc' mh' rF cs F:=
 ⟨g1.trans x.l1,g2.trans x.l2,g3.trans x.l3,x.rE.same h nB,x.rF.same h nB,x.same.trans h,x.len,x.four⟩
theorem zfg{R:SR}{K:Fl->Loc->MH->Prop}{x:Nat}{row:List Int}{v:Int}{ls:List Lit}(s:Sg mh0 R rE ds E loc mh rF cs F)(five:E.length<=5)(rowE:∀l∈E,Xg l)(h1:F[x]?=some row)(hok:si E F x v ls)
  (g1:loc "x" = some (.int (x:Int))) (g2:loc "old" = some (xC (spans row))) (g3:loc "literal" = some (.tuple [.int (x:Int),.str "!=",.int v])) (g4:loc "reasons" = some (.tuple (ls.map Lit.v)))
  (o:∀loc' mh' rF' cs',Sg mh0 R rE ds E loc' mh' rF' cs' (F.set x (vH row v))->K .next loc' mh'):v6 uX qV uY loc K mh:=by
 have hx:=(List.getElem?_eq_some_iff.mp h1).1
 have hsl:=s.len
 have sl:=hok.why.sl
 have f1:=s.l2
 have f2:=s.l3
 walk_at "s"
 refine⟨rE,ds,E,ls,rfl,s.rE,⟨five,λrow hr=>⟨(rowE row hr).len,λv hv=>by have:=(rowE row hr).bound v hv;lia⟩,sl,hok.why.at_⟩,λmh1 r1 r2 named left hs1 k1 k2 sp=>?_⟩
 obtain⟨a1,a2,a3⟩:=hok.room named left sp
 walk_at "w"
 have s1:=s.step0 hs1 (loc':=upd (upd loc "named" (.ref r1)) "left" (.ref r2)) (by walk_at "ne") (by walk_at "ne") (by walk_at "ne")
 have hrow:=s1.rF.row
 obtain⟨q,hq1,hq2⟩:=s1.rF.get h1
 have hrl:=s.four row (List.mem_of_getElem? h1)
 walk_at "n"
 refine zgl (KH (.inr (.inr rfl))) ?_
 walk_at "w"
 refine⟨q,row,rfl,hq2,by exact ltk,λmh2 hs2=>?_⟩
 have s2:=s1.step0 hs2 rfl rfl rfl
 refine Kp (qB rfl ?_)
 walk_at "w"
 refine⟨rF,cs,F,ls,rfl,s2.rF,by lia,λrow hr=>by have:=s.four row hr;exact ltk,sl,hok.why.hold,λmh3 hs3=>?_⟩
 have s3:=s2.step0 hs3 rfl rfl rfl
 have k1':=(hs2.trans hs3).at k1 nN
 have k2':=(hs2.trans hs3).at k2 nN
 have hnl:(zi named).length=named.length:=List.length_map _
 have hll:(zi left).length=left.length:=List.length_map _
 have hn9:named.length<=41:=xp sp.n1 λi hi=>by
  obtain⟨l,h2,rfl⟩:=(sp.m1 i).mp hi
  have:=hok.why.at_ l h2
  exact⟨Int.le_trans (by decide) this.1,Int.le_trans (Int.le_of_lt this.2) (Int.le_trans (Int.ofNat_le.mpr five) (by decide))⟩
 have hl9:(zi left).length<=BIG:=by rw[hll];unfold BIG;lia
 have hn8:(zi named).length<=BIG:=by rw[hnl];unfold BIG;exact ltk
 walk_at "w"
 walk_at "n"
 refine qB (by rw[hnl,hll,a1]) ?_
 walk_at "w"
 refine qB a2 ?_
 walk_at "w"
 refine VG a3 ?_
 have hq3:=(hs2.trans hs3).at hq2 nN
 have hrow:=s3.rF.row
 have hcl:=s3.rF.lists.len
 have hcb:(cs.map MV.ref).length<=BIG:=by rw[List.length_map,hcl];unfold BIG;lia
 walk_at "w"
 walk_at "n"
 have hk4:Same [] mh3 (mh3++[MO.list ((cs.map MV.ref).take (x:Int).toNat)]):=.append
 refine⟨_,JT (hk4.at hq3 nN) ltk (by walk_at "ne") λloc' mh5 hs5=>?_⟩
 have hrow5:=(hk4.trans hs5).at hrow nN
 have htk5:=hs5.at (zB (mh:=mh3) (o:=MO.list ((cs.map MV.ref).take (x:Int).toNat))) nN
 have hg5:=zm htk5
 have hc5:cs.length<=5:=by rw[hcl,hsl];exact five
 have htl:((cs.map MV.ref).take (x:Int).toNat).length<=100:=by rw[List.length_take,List.length_map];exact Nat.le_trans (Nat.min_le_right _ _) (Nat.le_trans hc5 (by decide))
 have hdl:((cs.map MV.ref).drop ((x:Int)+1).toNat).length<=100:=by rw[List.length_drop,List.length_map];exact Nat.le_trans (Nat.sub_le _ _) (Nat.le_trans hc5 (by decide))
 have d1:mh3.length≠mh5.length:=Nat.ne_of_lt hg5
 have q1:=s3.l1
 have q2:=s3.l2
 have hs35:=hk4.trans hs5
 walk_at "w"
 refine o _ _ _ (cs.set x mh5.length) ⟨miss rfl q1,miss rfl q2,hit,s3.rE.same (S:=[]) ?_ nB,s3.rF.put hx ?_ ?_ ?_,s3.same.trans ?_,by rw[List.length_set];exact hsl,λrw' hr=>?_⟩
 ·walk_at "sm"
 ·walk_at "sm"
 ·walk_at "ne"
 ·walk_at "ne"
 ·walk_at "sm"
 ·rcases List.mem_or_eq_of_mem_set hr with h|rfl
  ·exact s.four _ h
  ·exact Nat.le_trans (List.length_filter_le _ _) hrl
end
theorem Fit.back'{E F:List (List Int)}(f:Fit E F):(F.map spans).map yt=F:=by
 rw[List.map_map]
 exact(List.map_congr_left λl hl=>xT (f.rowF l hl).asc).trans (List.map_id _)
theorem ue{R:SR}{E F:List (List Int)}{firsts:List Dom}{tr marks:List MV}{fl:Bool}{cl:MV}{mh:MH}{Q:MV->MH->Prop}(S:zu mh R (F.map spans) firsts tr marks fl cl)(f:Fit E F)
  (o:∀mh' r as,Same [] mh mh'->Rows mh' r as F->mh.length<=r->(∀i∈as,mh.length<=i)->Q (.ref r) mh'):ww [.ref R.r] Q mh:=
 ⟨R,F.map spans,firsts,tr,marks,fl,cl,rfl,S,by rw[List.length_map];have:=f.len;have:=f.five;lia,f.sd,λmh' r as h1 h2 h3 h4=>o mh' r as h1 (by rw[f.back'] at h2;exact h2) h3 h4⟩
noncomputable def sw:MF:=λargs Q mh=>X13 λR E F G tr es marks fl cl rF cs rE ds=>N9 (args=[.ref R.r,.int (tr.length:Int),.ref rF,.ref rE]) (zu mh R (G.map spans) (E.map spans) (tr++es) marks fl cl) (Rows mh rF cs F) (Rows mh rE ds E) (xQ E F es G) (Fit E F) (Fit E G) (tr.length<=900/\es.length<=20) (∀mh',Same [] mh mh'->Q (.bool true) mh')
theorem UU:∀args Q mh,sw args Q mh->yQ ["store_now","mark","rows","early"] (vG uX qV uY ww) args Q mh:=by
 rintro args Q mh0 ⟨R,E,F,G,tr,es,marks,fl,cl,rF,cs,rE,ds,rfl,S,hF,hE,hs,fF,fG,⟨l1,l2⟩,o⟩
 have hi:=S.inst
 have ht:=S.trail
 have htl:(tr++es).length<=BIG:=by rw[List.length_append];unfold BIG;lia
 apply Kk
 walk_at "s"
 rw[Int.toNat_natCast,List.drop_left]
 have hk:Same [] mh0 (mh0++[MO.list es]):=.append
 refine⟨es,y7 (λrest loc mh=>X3 λF' rF' cs'=>xQ E F' rest G/\Sg (mh0++[MO.list es]) R rE ds E loc mh rF' cs' F') ?_ ?_ ?_ _ _ _ ⟨F,rF,cs,hs,⟨by walk_at "ne",by walk_at "ne",by walk_at "ne",hE.same hk nB,hF.same hk nB,.refl,fF.len,λrow hr=>(fF.rowF row hr).len⟩⟩⟩
 ·rintro rest loc mh ⟨F',rF',cs',-,s⟩
  exact s.same.at zB nN
 ·rintro v rest loc mh K hK hR ⟨F',rF',cs',hst,s⟩
  cases hst with
  |@cons _ _ x row v ls _ h1 h2 h3 h4=>
   refine atup5_i ?_
   rw[neV]
   exact zfg (s.step0 .refl rfl rfl rfl) fF.five fF.rowE h1 h3 (by walk_at "ne") (by walk_at "ne") (by walk_at "ne") (by walk_at "ne") λloc' mh' rF' cs' s'=>hK _ _ ⟨_,rF',cs',h4,s'⟩
 ·rintro loc mh ⟨F',rF',cs',hst,s⟩
  cases hst
  have hs1:=hk.trans s.same
  have S1:=S.same hs1 nA
  have f1:=s.l1
  have f2:=s.l3
  walk_at "n"
  refine ue S1 fG λmh' r as hs2 hr _ _=>?_
  refine WC (s.rF.same hs2 nB) hr ?_
  rw[decide_eq_true rfl]
  exact o _ (hs1.trans hs2)
theorem zbq{E F G:List (List Int)}(f:Fit E F)(g:Fit E G)(h:∀x v,yl F v x↔yl G v x):F=G:=by
 refine List.ext_getElem (by rw[f.len,g.len]) λx h1 h2=>?_
 refine jw (f.rowF _ (List.getElem_mem h1)).asc (g.rowF _ (List.getElem_mem h2)).asc λv=>?_
 constructor
 ·intro hv
  obtain⟨l,e,hl⟩:=(h x v).mp ⟨F[x],List.getElem?_eq_getElem h1,hv⟩
  rw[List.getElem?_eq_getElem h2] at e;cases e
  exact hl
 ·intro hv
  obtain⟨l,e,hl⟩:=(h x v).mpr ⟨G[x],List.getElem?_eq_getElem h2,hv⟩
  rw[List.getElem?_eq_getElem h1] at e;cases e
  exact hl
section
variable {E F G G':List (List Int)}{es es':List MV}
theorem vo.iff'(h:vo E F G es λ_ _=>True)(x:Nat)(v:Int):yl G v x↔yl F v x/\wq F x v:=
 (h.iff x v).trans ⟨λ⟨a,b⟩=>⟨a,b trivial⟩,λ⟨a,b⟩=>⟨a,λ_=>b⟩⟩
theorem vo.all(h:vo E F G es λ_ _=>True)(f:Fit E F)(ha:yR F):yR G:=by
 obtain⟨g,hg⟩:=ha
 have hl:G.length=F.length:=by rw[h.fit.len,f.len]
 exact⟨g,λi hi=>(h.iff' i _).mpr ⟨hg.1 i (Nat.lt_of_lt_of_eq hi hl),g,hg,rfl⟩,λi j hi hj=>hg.2 i j (Nat.lt_of_lt_of_eq hi hl) (Nat.lt_of_lt_of_eq hj hl)⟩
theorem vo.again(h:vo E F G es λ_ _=>True)(f:Fit E F)(h2:vo E G G' es' λ_ _=>True):G'=G/\es'=[]:=by
 have hl:G.length=F.length:=by rw[h.fit.len,f.len]
 have e:G'=G:=zbq h2.fit h.fit λx v=>(h2.iff' x v).trans ⟨λa=>a.1,λa=>⟨a,(zbe hl h.iff').mpr ((h.iff' x v).mp a).2⟩⟩
 subst e
 exact⟨rfl,h2.str.none⟩
theorem vo.row(h:vo E F G es λ_ _=>True)(f:Fit E F){x:Nat}{row row':List Int}(h1:F[x]?=some row)(h2:G[x]?=some row'){p:Int->Bool}(hp:∀v∈row,p v=true↔wq F x v):row'=row.filter p:=by
 refine jw (h.fit.rowF _ (List.mem_of_getElem? h2)).asc (w4 (f.rowF _ (List.mem_of_getElem? h1)).asc) λv=>?_
 constructor
 ·intro hv
  obtain⟨⟨l,e,hl⟩,hs⟩:=(h.iff' x v).mp ⟨row',h2,hv⟩
  rw[h1] at e;cases e
  exact List.mem_filter.mpr ⟨hl,(hp v hl).mpr hs⟩
 ·intro hv
  obtain⟨h3,h4⟩:=List.mem_filter.mp hv
  obtain⟨l,e,hl⟩:=(h.iff' x v).mpr ⟨⟨row,h1,h3⟩,(hp v h3).mp h4⟩
  rw[h2] at e;cases e
  exact hl
end
section
variable {mh0 mh mh':MH}{R:SR}{ar rE rF rL:Nat}{E F G:List (List Int)}{xs cs ds ls:List Nat}{tr marks es:List MV}{cl:MV}{loc:Loc}{QS:Fl->Loc->MH->Prop}
theorem Vh.later(k:Vh mh R ar E F xs tr)(f:Fit E G)(h:mh.length<=mh'.length){tr':List MV}(ht:tr'.length<=900):Vh mh' R ar E G xs tr':=
 ⟨f,⟨by rw[k.turn.len,k.fit.len,f.len],k.turn.nodup,λx hx=>by have:=k.turn.lt x hx;rw[k.fit.len] at this;rw[f.len];exact this⟩,k.nd,λi hi=>Nat.lt_of_lt_of_le (k.lt i hi) h,k.far,ht⟩
theorem zid{b fl:Bool}(g1:loc "store_now" = some (.ref R.r))(g2:loc "rule" = some (.ref ar))(g3:loc "due" = some (.bool b))(g4:loc "many" = some (.int (tr.length:Int)))(g5:loc "clash" = some cl)(ht:tr.length<=1000)(S0:zu mh R (G.map spans) (E.map spans) tr marks fl cl)
  (call:∀Q:MV->MH->Prop,(∀mh',Same R.refs mh mh'->zu mh' R (G.map spans) (E.map spans) tr marks fl cl->Q (.bool b) mh')->zT [.ref ar,.ref R.r] Q mh) (hc:∀(Q:Bool->Prop) mh,Q true->eqM cl cl Q mh)
  (hA:mh[ar]?=some (sh (z3 xs))) (o:∀loc mh',Same R.refs mh mh'->zu mh' R (G.map spans) (E.map spans) tr marks fl cl->QS (.ret (.bool true)) loc mh'):uq zT loc QS mh:=by
 walk_at "w"
 refine call _ λmh' hs S=>?_
 have hi:=S.inst
 have ht:=S.trail
 have fin:=o loc mh' hs S
 cases b with
 |true=>
  walk_at "w"
  refine qR rfl ?_
  walk_at "w"
  refine qR rfl ?_
  walk_at "w"
  refine hc _ _ ?_
  exact fin
 |false=>
  walk_at "w"
  refine qR rfl ?_
  walk_at "w"
  refine qR rfl ?_
  walk_at "w"
  refine hc _ _ ?_
  exact fin
end
structure Aq(R:SR)(ar:Nat)(E F G:List (List Int))(xs:List Nat)(tr es marks:List MV)(fl:Bool)(cl:MV)(rE:Nat)(ds:List Nat)(rF:Nat)(cs:List Nat)(rL:Nat)(as:List Nat)(b:Bool)(loc:Loc)(mh:MH):Prop where
 l1:loc "store_now" = some (.ref R.r)
 l2:loc "rule" = some (.ref ar)
 l3:loc "early" = some (.ref rE)
 l4:loc "rows" = some (.ref rF)
 l5:loc "mark" = some (.int (tr.length:Int))
 l6:loc "due" = some (.bool b)
 l7:loc "late" = some (.ref rL)
 l8:loc "clash" = some cl
 l9:loc "many" = some (.int ((tr++es).length:Int))
 adv:mh[ar]?=some (sh (z3 xs))
 st:zu mh R (G.map spans) (E.map spans) (tr++es) marks fl cl
 rE:Rows mh rE ds E
 rF:Rows mh rF cs F
 rL:Rows mh rL as G
section
variable {mh0 mh mh':MH}{R:SR}{ar rE rF rL:Nat}{E F G:List (List Int)}{xs cs ds as:List Nat}{tr marks es:List MV}{fl b:Bool}{cl:MV}{loc loc':Loc}{QS:Fl->Loc->MH->Prop}
theorem Aq.step0(x:Aq R ar E F G xs tr es marks fl cl rE ds rF cs rL as b loc mh)(h:Same [] mh mh'):Aq R ar E F G xs tr es marks fl cl rE ds rF cs rL as b loc mh':=
 ⟨x.l1,x.l2,x.l3,x.l4,x.l5,x.l6,x.l7,x.l8,x.l9,h.at x.adv nN,x.st.same h nA,x.rE.same h nB,x.rF.same h nB,x.rL.same h nB⟩
theorem Aq.put{y:Str}{v:MV}(x:Aq R ar E F G xs tr es marks fl cl rE ds rF cs rL as b loc mh)(h:y∉(["store_now","rule","early","rows","mark","due","late","clash","many"]:List Str)):Aq R ar E F G xs tr es marks fl cl rE ds rF cs rL as b (upd loc y v) mh:=by
 simp only[List.mem_cons,not_or,List.not_mem_nil,not_false_eq_true,and_true] at h
 obtain⟨h1,h2,h3,h4,h5,h6,h7,h8,h9⟩:=h
 have u:∀{z:Str}{o:Option MV},y≠z->loc z=o->upd loc y v z=o:=λh k=>(if_neg (Ne.symm h)).trans k
 exact⟨u h1 x.l1,u h2 x.l2,u h3 x.l3,u h4 x.l4,u h5 x.l5,u h6 x.l6,u h7 x.l7,u h8 x.l8,u h9 x.l9,x.adv,x.st,x.rE,x.rF,x.rL⟩
theorem zix{ls:List Lit}(x:Aq R ar E F F xs tr [] marks true (.tuple (ls.map Lit.v)) rE ds rF cs rL as false loc mh)(k:Vh mh R ar E F xs tr)(hw:Why E F ls)(hno:¬yR F)(hr:∀named left,XQ E ls named left->left.length<named.length)
  (o:∀loc mh',Same R.refs mh mh'->zu mh' R (F.map spans) (E.map spans) (tr++[]) marks true (.tuple (ls.map Lit.v))->QS (.ret (.bool true)) loc mh'):x8 (qj 6) zT uX uY loc QS mh:=by
 have f6:=x.l6
 have f3:=x.l3
 have f8:=x.l8
 have hlen:=k.fit.len
 have hfive:=k.fit.five
 walk_at "s"
 walk_at "s"
 refine⟨rE,ds,E,ls,rfl,x.rE,k.fit.spaceOk hw.sl hw.at_,λmh1 r1 r2 named left hs1 k1 k2 sp=>?_⟩
 have hlt:=hr named left sp
 walk_at "w"
 have x1:Aq R ar E F F xs tr [] marks true (.tuple (ls.map Lit.v)) rE ds rF cs rL as false (upd (upd loc "named" (.ref r1)) "left" (.ref r2)) mh1:=((x.step0 hs1).put (by decide)).put (by decide)
 have f7:=x1.l7
 have f8:=x1.l8
 walk_at "n"
 refine⟨rL,as,F,ls,rfl,x1.rL,by lia,λrow hr=>by have:=(k.fit.rowF row hr).len;exact ltk,hw.sl,hw.hold,λmh2 hs2=>?_⟩
 have x2:=x1.step0 hs2
 have k1':=hs2.at k1 nN
 have k2':=hs2.at k2 nN
 have hnl:(zi named).length=named.length:=List.length_map _
 have hll:(zi left).length=left.length:=List.length_map _
 have hn9:named.length<=41:=xp sp.n1 λi hi=>by
  obtain⟨l,h2,rfl⟩:=(sp.m1 i).mp hi
  have:=hw.at_ l h2
  exact⟨Int.le_trans (by decide) this.1,Int.le_trans (Int.le_of_lt this.2) (Int.le_trans (Int.ofNat_le.mpr hfive) (by decide))⟩
 have hl9:(zi left).length<=BIG:=by rw[hll];unfold BIG;lia
 have hn8:(zi named).length<=BIG:=by rw[hnl];unfold BIG;exact ltk
 walk_at "w"
 refine VG (p:=((zi left).length:Int)≥(zi named).length) (by rw[hnl,hll];lia) ?_
 walk_at "w"
 apply cont_i
 have hs12:=hs1.trans hs2
 have htr:(tr++([]:List MV)).length<=900:=by rw[List.append_nil];exact k.ht
 refine zid x2.l1 x2.l2 x2.l6 x2.l9 x2.l8 ltk x2.st (λQ q=>?_) (λQ mh q=>ZC hw.sl.plain q) x2.adv λloc mh' hs S=>o loc mh' ((hs12.mono nA).trans hs) S
 exact⟨ar,R,E,F,xs,tr++[],marks,true,_,false,rfl,x2.adv,x2.st,k.later k.fit hs12.le htr,⟨λh=>(by cases h),λh=>absurd h hno⟩,λ_=>q mh2 .refl x2.st,λh=>(by cases h),λh=>(by cases h),trivial⟩
theorem za6{Q:Loc->MO->MH->Prop}{x:Nat}{v:Int}(hF:Rows mh rF cs F)(hl:F.length<=1000)(hx:x<F.length)(g1:loc "rows" = some (.ref rF))(g2:loc "v" = some (.int v))(g3:loc "x" = some (.int (x:Int)))
  (o:∀loc' mh' bs,Same [] mh mh'->xE mh' bs (F.set x [v])->Q loc' (.list (bs.map .ref)) mh'):vf (.val (.range 0 (F.length:Int))) (z3 (List.range F.length)) (.one "y") vq vM (z3 (List.range F.length)) loc (.list []) Q mh:=by
 have hcl:=hF.lists.len
 refine xm (λrest loc acc mh'=>X3 λdn rest' bs=>N8 (List.range F.length=dn++rest') (rest=z3 rest') (loc "rows" = some (.ref rF)) (loc "v" = some (.int v)) (loc "x" = some (.int (x:Int))) (acc=.list (bs.map .ref)) (xE mh' bs ((F.set x [v]).take dn.length)) (Same [] mh mh')) ?_ ?_ ?_ _ _ _ _ ⟨[],List.range F.length,[],rfl,rfl,g1,g2,g3,rfl,.nil,.refl⟩
 ·rintro rest loc acc mh' -
  exact uB hl
 ·rintro w rest loc acc mh' K hK ⟨dn,rest',bs,e1,e2,g1,g2,g3,rfl,hL,hs⟩
  cases rest' with
  |nil=>cases e2
  |cons p rest'=>
   cases e2
   obtain⟨rfl,hlt⟩:=xo e1
   have hF':=hF.same hs nB
   have hrow:=hF'.row
   have hbl:=hL.len
   rw[List.length_take,List.length_set] at hbl
   have fin:∀mh2 q l,(F.set x [v])[dn.length]?=some l->mh2[q]?=some (.list (zi l))->Same [] mh' mh2->K (upd loc "y" (.int (dn.length:Int))) (.list ((bs++[q]).map .ref)) mh2:=λmh2 q l h1 h2 h3=>
    hK _ _ _ ⟨dn++[dn.length],rest',bs++[q],by rw[e1];simp,rfl,miss rfl g1,miss rfl g2,miss rfl g3,rfl,by
     have h4:dn.length<(F.set x [v]).length:=by rw[List.length_set];exact hlt
     rw[List.getElem?_eq_getElem h4] at h1
     rw[show(dn++[dn.length]).length=dn.length+1 by exact List.length_append,<-List.take_append_getElem h4,Option.some.inj h1]
     exact(hL.same h3 nB).snoc h2,hs.trans h3⟩
   refine⟨upd loc "y" (.int (dn.length:Int)),rfl,?_⟩
   have hg:F[dn.length]?=some F[dn.length]:=List.getElem?_eq_getElem hlt
   obtain⟨q,hq1,hq2⟩:=hF'.get hg
   have hbb:(bs.map MV.ref).length<=BIG:=by rw[List.length_map];unfold BIG;lia
   walk_at "w"
   refine sa (λhe=>?_) λhne=>?_
   ·have he':dn.length=x:=Int.ofNat.inj he
    walk_at "w"
    refine⟨hbb,?_⟩
    have:=fin (mh'++[MO.list [MV.int v]]) mh'.length [v] (by rw[<-he'];exact List.getElem?_set_self hlt) zB .append
    rwa [List.map_append] at this
   ·have hne':x≠dn.length:=λe=>hne (by rw[e])
    walk_at "w"
    refine⟨hbb,?_⟩
    have:=fin mh' q F[dn.length] (by rw[List.getElem?_set_ne hne'];exact hg) hq2 .refl
    rwa [List.map_append] at this
 ·rintro loc acc mh' ⟨dn,rest',bs,e1,e2,g1,g2,g3,rfl,hL,hs⟩
  cases rest' with
  |cons p r=>cases e2
  |nil=>
   have hl:=congrArg List.length e1
   simp at hl
   rw[<-hl,<-List.length_set (as:=F) (i:=x) (a:=[v]),List.take_length] at hL
   exact o _ _ _ hs hL
end
open Classical in
noncomputable def zbg(F:List (List Int))(x:Nat)(v:Int):Bool:=decide (wq F x v)
open Classical in
theorem Vs{F:List (List Int)}{x:Nat}{v:Int}:zbg F x v=true↔wq F x v:=by unfold zbg;rw[decide_eq_true_eq]
section
variable {mh0 mh mh':MH}{R:SR}{ar rE rF rL:Nat}{E F G:List (List Int)}{xs cs ds as:List Nat}{tr marks es:List MV}{fl b:Bool}{cl:MV}{loc loc':Loc}{QS:Fl->Loc->MH->Prop}
theorem zbf{Q:Loc->MO->MH->Prop}{x q:Nat}{row:List Int}(hF:Rows mh rF cs F)(f:Fit E F)(hr:F[x]?=some row)(hq:mh[q]?=some (.list (zi row)))(g1:loc "rows" = some (.ref rF))(g3:loc "x" = some (.int (x:Int)))
  (o:∀loc' mh',Same [] mh mh'->Q loc' (.list (zi (row.filter (zbg F x)))) mh'):vf (.val (.ref q)) (zi row) (.one "v") (vK (qj 6)) vL (zi row) loc (.list []) Q mh:=by
 have hlen:=f.len
 have h5:F.length<=5:=Nat.le_trans (Nat.le_of_eq hlen) f.five
 have hx:=(List.getElem?_eq_some_iff.mp hr).1
 have hcl:=hF.lists.len
 have hln:(cs.map MV.ref).length=F.length:=by rw[List.length_map];exact hcl
 have hlb:(cs.map MV.ref).length<=BIG:=by rw[hln];unfold BIG;exact Nat.le_trans h5 (by decide)
 refine yS (mh0:=mh) (λloc=>loc "rows" = some (.ref rF)/\loc "x" = some (.int (x:Int))) MV.int (zbg F x) MV.int row (show xc (.val (.ref q)) (zi row) mh from hq) (by have:=(f.rowF row (List.mem_of_getElem? hr)).len;unfold BIG;exact ltk) ?_ ⟨g1,g3⟩ o
 rintro v hv loc ⟨g1,g3⟩
 refine⟨upd loc "v" (.int v),rfl,⟨miss rfl g1,miss rfl g3⟩,λmh' hs=>⟨λR o=>?_,λ_ R o=>?_⟩⟩
 ·have hF':=hF.same hs nB
  have hrow:=hF'.row
  walk_at "w"
  rw[hln]
  refine⟨z3 (List.range F.length),za6 hF' (Nat.le_trans h5 (by decide)) hx (by walk_at "ne") (by walk_at "ne") (by walk_at "ne") λloc' mh2 bs hs2 hL=>?_⟩
  refine⟨mh2.length,bs,F.set x [v],rfl,⟨zB,hL.same (S:=[]) .append nB⟩,by rw[List.length_set];exact Nat.lt_succ_of_le h5,by rw[List.length_set];exact Nat.le_trans h5 (by decide),λr hr'=>?_,λb mh3 hb hs3=>?_⟩
  ·rcases List.mem_or_eq_of_mem_set hr' with h|rfl
   ·have:=(f.rowF r h).len;exact ltk
   ·simp
  ·have e:b=zbg F x v:=Bool.eq_iff_iff.mpr ((hb.trans (K6 hx ⟨row,hr,hv⟩)).trans Vs.symm)
   have fin:=o mh3 ((hs2.trans .append).trans hs3)
   rw[e]
   exact fin
 ·walk_at "w"
  exact o _ .refl
theorem ziw(x:Aq R ar E F G xs tr es marks false (.tuple []) rE ds rF cs rL as true loc mh)(k:Vh mh R ar E F xs tr)(H:vo E F G es λ_ _=>True)(hall:yR F)(ht:tr.length<=800)
  (o:∀loc mh',Same R.refs mh mh'->zu mh' R (G.map spans) (E.map spans) (tr++es) marks false (.tuple [])->QS (.ret (.bool true)) loc mh'):x8 (qj 6) zT uX uY loc QS mh:=by
 have f6:=x.l6
 have f4:=x.l4
 have hlen:=k.fit.len
 have h5:F.length<=5:=Nat.le_trans (Nat.le_of_eq hlen) k.fit.five
 have hglen:=H.fit.len
 have hcl:=x.rF.lists.len
 have hln:(cs.map MV.ref).length=F.length:=by rw[List.length_map];exact hcl
 have hlb:(cs.map MV.ref).length<=BIG:=by rw[hln];unfold BIG;exact Nat.le_trans h5 (by decide)
 have hrow:=x.rF.row
 walk_at "s"
 rw[hln]
 refine⟨z3 (List.range F.length),y7 (λrest loc mh'=>X2 λdn rest'=>N4 (List.range F.length=dn++rest') (rest=z3 rest') (Aq R ar E F G xs tr es marks false (.tuple []) rE ds rF cs rL as true loc mh') (Same [] mh mh')) ?_ ?_ ?_ _ _ _ ⟨[],List.range F.length,rfl,rfl,x,.refl⟩⟩
 ·rintro rest loc mh' -
  exact uB (Nat.le_trans h5 (by decide))
 ·rintro w rest loc mh' K hK hR ⟨dn,rest',e1,e2,x,hs⟩
  cases rest' with
  |nil=>cases e2
  |cons p rest'=>
   cases e2
   obtain⟨rfl,hlt⟩:=xo e1
   have y:Aq R ar E F G xs tr es marks false (.tuple []) rE ds rF cs rL as true (upd loc "x" (.int (dn.length:Int))) mh':=x.put (by decide)
   have fin:∀mh2,Same [] mh' mh2->K .next (upd loc "x" (.int (dn.length:Int))) mh2:=λmh2 h=>hK _ _ ⟨dn++[dn.length],rest',by rw[e1];simp,rfl,y.step0 h,hs.trans h⟩
   have hg:F[dn.length]?=some F[dn.length]:=List.getElem?_eq_getElem hlt
   have hlG:dn.length<G.length:=Nat.lt_of_lt_of_eq hlt (hlen.trans hglen.symm)
   have hg2:G[dn.length]?=some G[dn.length]:=List.getElem?_eq_getElem hlG
   obtain⟨q,hq1,hq2⟩:=y.rF.get hg
   obtain⟨q',hq3,hq4⟩:=y.rL.get hg2
   have hrow:=y.rF.row
   have hrowL:=y.rL.row
   have f4:=y.l4
   have f7:=y.l7
   walk_at "w"
   refine⟨_,zbf y.rF k.fit hg hq2 (by walk_at "ne") (by walk_at "ne") λloc' mh2 hs2=>?_⟩
   refine tq ((hs2.trans .append).at hq4 nN) zB (qB (H.row k.fit hg hg2 λv _=>Vs) ?_)
   walk_at "w"
   exact fin _ (hs2.trans .append)
 ·rintro loc mh' ⟨dn,rest',e1,e2,x,hs⟩
  apply cont_i
  have hcnt:=H.count k.fit
  have htr:(tr++es).length<=900:=by rw[List.length_append];lia
  refine zid x.l1 x.l2 x.l6 x.l9 x.l8 ltk x.st (λQ q=>?_) (λQ mh q=>ZC (ls:=[]) nA q) x.adv λloc mh2 hs2 S=>o loc mh2 ((hs.mono nA).trans hs2) S
  refine⟨ar,R,E,G,xs,tr++es,marks,false,_,true,rfl,x.adv,x.st,k.later H.fit hs.le htr,⟨λ_=>H.all k.fit hall,λ_=>rfl⟩,λh=>(by cases h),λ_ h=>(by cases h),λ_ _ mh2 G' es' hs2 S H2=>?_,trivial⟩
  obtain⟨rfl,rfl⟩:=H.again k.fit H2
  rw[List.append_nil] at S
  exact q mh2 (hs2.mono (by simp[SR.refs])) S
end
section
variable {mh0 mh mh':MH}{R:SR}{ar rE rF rL:Nat}{E F G:List (List Int)}{xs cs ds as:List Nat}{tr marks es:List MV}{fl b:Bool}{cl:MV}{loc loc':Loc}{QS:Fl->Loc->MH->Prop}
theorem zic(l1:loc "store_now" = some (.ref R.r))(l2:loc "rule" = some (.ref ar))(l3:loc "early" = some (.ref rE))(l4:loc "rows" = some (.ref rF))(l5:loc "mark" = some (.int (tr.length:Int)))(l6:loc "due" = some (.bool b))
  (adv:mh[ar]?=some (sh (z3 xs))) (S:zu mh R (G.map spans) (E.map spans) (tr++es) marks fl cl) (hE:Rows mh rE ds E) (hF:Rows mh rF cs F) (str:xQ E F es G) (fF:Fit E F) (fG:Fit E G) (ht:tr.length<=900) (he:es.length<=20)
  (k6:∀loc mh' rL as,Aq R ar E F G xs tr es marks fl cl rE ds rF cs rL as b loc mh'->Same [] mh mh'->x8 (qj 6) zT uX uY loc QS mh'):up ww (qj 6) zT sw uX uY loc QS mh:=by
 have htl:(tr++es).length<=BIG:=by rw[List.length_append];unfold BIG;lia
 walk_at "s"
 refine ue S fG λmh1 rL as hs1 hL _ _=>?_
 have S1:=S.same hs1 nA
 have hi:=S1.inst
 have htr:=S1.trail
 walk_at "w"
 apply cont_i
 have hE1:=hE.same hs1 nB
 have hF1:=hF.same hs1 nB
 walk_at "s"
 refine⟨R,E,F,G,tr,es,marks,fl,cl,rF,cs,rE,ds,rfl,S1,hF1,hE1,str,fF,fG,⟨ht,he⟩,λmh2 hs2=>?_⟩
 walk_at "w"
 apply cont_i
 exact k6 _ mh2 rL as ⟨by walk_at "ne",by walk_at "ne",by walk_at "ne",by walk_at "ne",by walk_at "ne",by walk_at "ne",by walk_at "ne",by walk_at "ne",by walk_at "ne",(hs1.trans hs2).at adv nN,S1.same hs2 nA,hE1.same hs2 nB,hF1.same hs2 nB,hL.same hs2 nB⟩ (hs1.trans hs2)
end
noncomputable def vQ:MF:=λargs Q mh=>X10 λR ar E F xs tr marks rE ds (u:Unit)=>N10 (args=[.ref R.r,.ref ar,.ref rE]) (mh[ar]?=some (sh (z3 xs))) (zu mh R (F.map spans) (E.map spans) tr marks false (.tuple [])) (Rows mh rE ds E) (Vh mh R ar E F xs tr) ((∀i∈rE::ds,i∉R.refs)) (tr.length<=800)
 (∀mh' G es,Same R.refs mh mh'->zu mh' R (G.map spans) (E.map spans) (tr++es) marks false (.tuple [])->Fit E G->es.length<=20->Q (.bool true) mh')
 (∀mh' cl,Same R.refs mh mh'->zu mh' R (F.map spans) (E.map spans) tr marks true cl->Q (.bool true) mh') True
theorem zb2:∀args Q mh,vQ args Q mh->yQ ["store_now","rule","early"] (u0 ww (qj 6) zT sw uX uY) args Q mh:=by
 rintro args Q mh0 ⟨R,ar,E,F,xs,tr,marks,rE,ds,u,rfl,hA,S,hE,k,far,ht,o1,o2,-⟩
 have hlen:=k.fit.len
 have hfive:=k.fit.five
 apply jF
 walk_at "s"
 refine ue S k.fit λmh1 rF cs hs1 hF hge1 hge2=>?_
 have S1:=S.same hs1 nA
 have hi:=S1.inst
 have htr:=S1.trail
 have htl:tr.length<=BIG:=by unfold BIG;exact ltk
 walk_at "w"
 walk_at "n"
 refine⟨rF,cs,F,rfl,hF,by lia,by lia,λrow hr=>by have:=(k.fit.rowF row hr).len;exact ltk,λb mh2 hb hs2=>?_⟩
 have hs12:=hs1.trans hs2
 have S2:=S.same hs12 nA
 have hA2:=hs12.at hA nN
 have hE2:=hE.same hs12 nB
 have hF2:=hF.same hs2 nB
 have hlt:=k.lt
 have hnew:∀i∈rF::cs,i∉R.refs:=λi hi e=>by
  have h1:=hlt i (.tail _ e)
  rcases List.mem_cons.mp hi with rfl|h
  ·lia
  ·have:=hge2 i h;lia
 have hfar:∀{S:List Nat},(∀i∈S,i∈R.refs)->ar∉S:=λh e=>k.far (h _ e)
 walk_at "n"
 refine⟨ar,R,E,F,xs,tr,marks,false,.tuple [],b,rfl,hA2,S2,k.later k.fit hs12.le k.ht,hb,λh=>(by cases h),λ_ hb0 mh3 ls hs3 S3 hw hr=>?_,λ_ hb1 mh3 G es hs3 S3 H=>?_,trivial⟩
 ·subst hb0
  have hno:¬yR F:=λh=>by have:=hb.mpr h;cases this
  have hsub:∀i∈[R.r],i∈R.refs:=nC
  have hi:=S3.inst
  walk_at "w"
  refine Js rfl ?_
  walk_at "w"
  refine Js rfl ?_
  walk_at "w"
  apply cont_i
  have S3':zu mh3 R (F.map spans) (E.map spans) (tr++[]) marks true (.tuple (ls.map Lit.v)):=by rw[List.append_nil];exact S3
  have hx:Same R.refs mh0 mh3:=(hs12.mono nA).trans (hs3.mono hsub)
  refine zic (by walk_at "ne") (by walk_at "ne") (by walk_at "ne") (by walk_at "ne") (by walk_at "ne") (by walk_at "ne") (hs3.at hA2 (hfar hsub)) S3' (hE2.same hs3 λi hi e=>far i hi (hsub _ e)) (hF2.same hs3 λi hi e=>hnew i hi (hsub _ e)) .nil k.fit k.fit k.ht (Nat.zero_le _) λloc mh4 rL as x hs4=>?_
  refine zix x (k.later k.fit (Nat.le_trans hx.le hs4.le) k.ht) hw hno hr λloc mh5 hs5 S5=>?_
  rw[List.append_nil] at S5
  exact o2 mh5 _ ((hx.trans (hs4.mono nA)).trans hs5) S5
 ·subst hb1
  have hall:=hb.mp rfl
  have hsub:∀i∈[R.d,R.t,R.n],i∈R.refs:=by simp[SR.refs]
  have hi:=S3.inst
  walk_at "w"
  refine Js rfl ?_
  walk_at "w"
  refine Js rfl ?_
  walk_at "w"
  apply cont_i
  have hcnt:=H.count k.fit
  have hx:Same R.refs mh0 mh3:=(hs12.mono nA).trans (hs3.mono hsub)
  refine zic (by walk_at "ne") (by walk_at "ne") (by walk_at "ne") (by walk_at "ne") (by walk_at "ne") (by walk_at "ne") (hs3.at hA2 (hfar hsub)) S3 (hE2.same hs3 λi hi e=>far i hi (hsub _ e)) (hF2.same hs3 λi hi e=>hnew i hi (hsub _ e)) H.str k.fit H.fit k.ht hcnt λloc mh4 rL as x hs4=>?_
  refine ziw x (k.later k.fit (Nat.le_trans hx.le hs4.le) k.ht) H hall ht λloc mh5 hs5 S5=>?_
  exact o1 mh5 G es ((hx.trans (hs4.mono nA)).trans hs5) S5 H.fit hcnt
structure TkS(rt rcl:Nat)(cells:List Int)(R:SR):Prop where
 ne:rt≠rcl
 len:cells.length<=1000
 small:∀v∈cells,z7 v
 nd:R.refs.Nodup
 f1:rt∉R.refs
 f2:rcl∉R.refs
section
variable {rt rcl n stir:Nat}{cells:List Int}{R:SR}{mh mh' mh0:MH}{E F F' F0:List (List Int)}{tr marks es:List MV}{cl:MV}{loc loc':Loc}
theorem Z8{Q:MV->MH->Prop}(s:TkS rt rcl cells R)(C:uU mh rt rcl cells n stir)(hn:n<=5000)(hst:stir<=2000){m:Nat}(hm:0<m){k:Int}(hk:k=(m:Int))(o:∀(v:Nat) mh' (st:Nat),v<m->st<=2000->Same [rt] mh mh'->uU mh' rt rcl cells (n+1) st->Q (.int (v:Int)) mh'):vA [.ref rt,.int k] Q mh:=by
 subst hk
 exact⟨rt,rcl,cells,n,stir,m,rfl,C,s.ne,hn,hst,s.len,s.small,hm,o⟩
theorem jy.trans{d2 d1 d0:List Dom}{es1 es2:List MV}(h2:jy d2 es2 d1)(h1:jy d1 es1 d0):jy d2 (es1++es2) d0:=by
 induction h2 with
 |nil=>rw[List.append_nil];exact h1
 |snoc a b c ih=>rw[<-List.append_assoc];exact .snoc a b (ih h1)
theorem jy.one{F:List (List Int)}{x:Nat}{row r:List Int}{l rs sp:MV}(hx:F[x]?=some row)(h:x<=1000):jy ((F.set x r).map spans) [.tuple [.int (x:Int),xC (spans row),l,rs,sp]] (F.map spans):=by
 have hl:=(List.getElem?_eq_some_iff.mp hx).1
 refine .snoc (es:=[]) (by rw[List.length_map,List.length_set];exact hl) h ?_
 have:((F.set x r).map spans).set x (spans row)=F.map spans:=by
  rw[<-List.map_set,List.set_set,ZV hx]
 rw[this];exact .nil
structure Dc(mh0:MH)(rt rcl:Nat)(cells:List Int)(R:SR)(E F0:List (List Int))(tr marks:List MV)(cl:MV)(loc:Loc)(mh:MH)(F:List (List Int))(es:List MV)(n stir:Nat):Prop where
 l1:loc "tape" = some (.ref rt)
 l2:loc "store_now" = some (.ref R.r)
 tape:uU mh rt rcl cells n stir
 st:zu mh R (F.map spans) (E.map spans) (tr++es) marks false cl
 fit:Fit E F
 back:jy (F.map spans) es (F0.map spans)
 same:Same (rt::R.refs) mh0 mh
 hst:stir<=2000
theorem Dc.step0(x:Dc mh0 rt rcl cells R E F0 tr marks cl loc mh F es n stir)(h:Same [] mh mh')(g1:loc' "tape" = loc "tape")(g2:loc' "store_now" = loc "store_now"):Dc mh0 rt rcl cells R E F0 tr marks cl loc' mh' F es n stir:=
 ⟨g1.trans x.l1,g2.trans x.l2,x.tape.same h nN nN,x.st.same h nA,x.fit,x.back,x.same.trans (h.mono nA),x.hst⟩
theorem Dc.roll(x:Dc mh0 rt rcl cells R E F0 tr marks cl loc mh F es n stir)(s:TkS rt rcl cells R)(h:Same [rt] mh mh'){n' st:Nat}(C:uU mh' rt rcl cells n' st)(hst:st<=2000)(g1:loc' "tape" = loc "tape")(g2:loc' "store_now" = loc "store_now"):Dc mh0 rt rcl cells R E F0 tr marks cl loc' mh' F es n' st:=
 ⟨g1.trans x.l1,g2.trans x.l2,C,x.st.same h (by simpa using s.f1),x.fit,x.back,x.same.trans (h.mono nC),hst⟩
theorem Dc.move{es':List MV}(x:Dc mh0 rt rcl cells R E F0 tr marks cl loc mh F es n stir)(s:TkS rt rcl cells R)(h:Same [R.d,R.t,R.n] mh mh')(S:zu mh' R (F'.map spans) (E.map spans) (tr++es++es') marks false cl)(f:Fit E F')(b:jy (F'.map spans) es' (F.map spans)):Dc mh0 rt rcl cells R E F0 tr marks cl loc mh' F' (es++es') n stir:=by
 have hsub:∀i∈[R.d,R.t,R.n],i∈R.refs:=by simp[SR.refs]
 exact⟨x.l1,x.l2,x.tape.same h (λe=>s.f1 (hsub _ e)) (λe=>s.f2 (hsub _ e)),by rw[<-List.append_assoc];exact S,f,b.trans x.back,x.same.trans (h.mono λi hi=>.tail _ (hsub i hi)),x.hst⟩
theorem zff{v:Nat}(h:v<3):∃sg:Str,([MV.str "!=",MV.str "<=",MV.str ">="]:List MV)[v]?=some (.str sg)/\(sg=("<=" : Str)\/sg=(">=" : Str)\/sg=("!=" : Str)):=by
 rcases Nat.lt_or_ge v 1 with h1|h1
 ·have:v=0:=by lia
  subst this;exact⟨_,rfl,.inr (.inr rfl)⟩
 ·rcases Nat.lt_or_ge v 2 with h2|h2
  ·have:v=1:=by exact Nat.eq_of_le_of_lt_succ h1 h2
   subst this;exact⟨_,rfl,.inl rfl⟩
  ·have:v=2:=by exact Nat.eq_of_le_of_lt_succ h2 h
   subst this;exact⟨_,rfl,.inr (.inl rfl)⟩
theorem JV{row:List Int}(h:Asc row)(hl:1<row.length){l:Lit}(hp:l.plain)(hk:l.k∈row):row.filter (yw l)≠[]:=by
 have key:∀w∈row,yw l w=true->row.filter (yw l)≠[]:=λw hw hkw e=>by
  have:w∈row.filter (yw l):=List.mem_filter.mpr ⟨hw,hkw⟩
  rw[e] at this;cases this
 obtain⟨x,sg,k⟩:=l
 rcases hp with rfl|rfl|rfl
 ·exact key k hk (by rw[Ys];simp)
 ·exact key k hk (by rw[Yt];simp)
 ·have h0:row[0]≠row[1]:=by
   have:=List.pairwise_iff_getElem.mp h 0 1 (List.length_pos_of_mem hk) hl Nat.one_pos
   lia
  have hne:∀w:Int,w≠k->yw ⟨x,"!=",k⟩ w=true:=λw hw=>by simp[yw,hw]
  by_cases h1:row[0]=k
  ·exact key row[1] (List.getElem_mem hl) (hne _ λe=>h0 (h1.trans e.symm))
  ·exact key row[0] (List.getElem_mem _) (hne _ h1)
theorem Fit.keep{x:Nat}{row:List Int}(f:Fit E F)(h:F[x]?=some row){p:Int->Bool}(hn:row.filter p≠[]):Fit E (F.set x (row.filter p)):=by
 have R:=f.rowF row (List.mem_of_getElem? h)
 have hx:=(List.getElem?_eq_some_iff.mp h).1
 refine⟨by rw[List.length_set];exact f.len,f.five,f.rowE,λl hl=>?_,λy w hw=>f.sub y w ?_⟩
 ·rcases List.mem_or_eq_of_mem_set hl with h1|rfl
  ·exact f.rowF l h1
  ·exact⟨w4 R.asc,hn,Nat.le_trans (List.length_filter_le _ _) R.len,λw hw=>R.bound w (List.mem_filter.mp hw).1⟩
 ·obtain⟨l,h1,h2⟩:=hw
  by_cases e:x=y
  ·subst e
   rw[List.getElem?_set_self hx] at h1;cases h1
   exact⟨row,h,(List.mem_filter.mp h2).1⟩
  ·rw[List.getElem?_set_ne e] at h1
   exact⟨l,h1,h2⟩
end
section
variable {rt rcl n stir:Nat}{cells:List Int}{R:SR}{mh mh' mh0:MH}{E F F' F0:List (List Int)}{tr marks es:List MV}{cl:MV}{loc loc':Loc}
noncomputable def tv(F:List (List Int)):List Nat:=(List.range F.length).filter λx=>decide ((1:Int)<((F.getD x []).length:Int))
theorem JJ{Q:Loc->MO->MH->Prop}{rF:Nat}{cs:List Nat}(hF:Rows mh rF cs F)(f:Fit E F)(g1:loc "rows" = some (.ref rF))(o:∀loc' mh',Same [] mh mh'->Q loc' (.list (z3 (tv F))) mh') :
  vf (.val (.range 0 (F.length:Int))) (z3 (List.range F.length)) (.one "x") t0 t4 (z3 (List.range F.length)) loc (.list []) Q mh:=by
 have hlen:=f.len
 have hfive:=f.five
 refine yS (mh0:=mh) (λloc=>loc "rows" = some (.ref rF)) (λ(x:Nat)=>MV.int (x:Int)) (λx=>decide ((1:Int)<((F.getD x []).length:Int))) (λ(x:Nat)=>MV.int (x:Int)) (List.range F.length) (uB (by lia)) (by rw[List.length_range];unfold BIG;lia) ?_ g1 o
 rintro x hx loc g1
 have hxl:=List.mem_range.mp hx
 have hg:F[x]?=some F[x]:=List.getElem?_eq_getElem hxl
 have hgd:F.getD x []=F[x]:=by rw[List.getD_eq_getElem?_getD,hg];rfl
 have hl4:=(f.rowF _ (List.getElem_mem hxl)).len
 refine⟨upd loc "x" (.int (x:Int)),rfl,miss rfl g1,λmh' hs=>⟨λR o=>?_,λ_ R o=>?_⟩⟩
 ·have hF':=hF.same hs nB
  have hrow:=hF'.row
  obtain⟨q,hq1,hq2⟩:=hF'.get hg
  have hli:(zi F[x]).length=F[x].length:=List.length_map _
  walk_at "w"
  have:=o mh' .refl
  rw[hgd] at this
  rw[hli]
  exact this
 ·walk_at "w"
  exact o _ .refl
theorem zgm{K:Fl->Loc->MH->Prop}(s:TkS rt rcl cells R)(x:Dc mh0 rt rcl cells R E F0 tr marks cl loc mh F es n stir)(hn:n<=900)(ht:tr.length<=900)(he:es.length<=10)
  (o1:∀loc' mh' n' st,n'<=n+3->Dc mh0 rt rcl cells R E F0 tr marks cl loc' mh' F es n' st->K (.ret (.bool true)) loc' mh')
  (o2:∀loc' mh' F' es' n' st,n'<=n+3->es'.length<=es.length+1->Dc mh0 rt rcl cells R E F0 tr marks cl loc' mh' F' es' n' st->K .next loc' mh') :
  sb vA ww zW loc K mh:=by
 have hlen:=x.fit.len
 have hfive:=x.fit.five
 have f1:=x.l1
 have f2:=x.l2
 walk_at "s"
 refine ue x.st x.fit λmh1 rF cs hs1 hF hg1 hg2=>?_
 have hrt:=zm x.tape.tape
 have x1:=x.step0 hs1 (loc':=upd loc "rows" (.ref rF)) (by walk_at "ne") (by walk_at "ne")
 have hrow:=hF.row
 have hcl:=hF.lists.len
 have hln:(cs.map MV.ref).length=F.length:=by rw[List.length_map];exact hcl
 have hlb:(cs.map MV.ref).length<=BIG:=by rw[hln];unfold BIG;lia
 walk_at "n"
 rw[hln]
 refine⟨z3 (List.range F.length),JJ hF x.fit (by walk_at "ne") λloc' mh2 hs2=>?_⟩
 have hk:Same [] mh1 (mh2++[MO.list (z3 (tv F))]):=hs2.trans .append
 have hop:(mh2++[MO.list (z3 (tv F))])[mh2.length]?=some (.list (z3 (tv F))):=zB
 have x2:=x1.step0 hk (loc':=upd (upd loc "rows" (.ref rF)) "opened" (.ref mh2.length)) (by walk_at "ne") (by walk_at "ne")
 have hF2:=hF.same hk nB
 have hro:rt≠mh2.length:=by have:=hs1.le;have:=hs2.le;lia
 have hrF:∀i∈rF::cs,i∉[rt]:=λi hi e=>by
  obtain rfl:=List.mem_singleton.mp e
  rcases List.mem_cons.mp hi with e|h
  ·lia
  ·have:=hg2 _ h;lia
 apply cont_i
 generalize mh2++[MO.list (z3 (tv F))]=mh3 at *
 generalize mh2.length=ro at *
 walk_at "s"
 have hk3:Same [] mh3 (mh3++[MO.list []]):=.append
 have hop':=hk3.at hop nN
 rw[Yi] at hop'
 refine tq (b:=[]) hop' zB (sa (λ_=>?_) λhne=>?_)
 ·walk_at "w"
  exact o1 _ _ n stir (Nat.le_add_right n 3) (x2.step0 hk3 rfl rfl)
 ·have x3:=x2.step0 hk3 (loc':=upd (upd loc "rows" (.ref rF)) "opened" (.ref ro)) rfl rfl
  have hF3:=hF2.same hk3 nB
  have hop3:=hk3.at hop nN
  generalize mh3++[MO.list []]=mh4 at *
  have hol:(tv F).length<=5:=by
   have:=List.length_filter_le (λx=>decide ((1:Int)<((F.getD x []).length:Int))) (List.range F.length)
   rw[List.length_range] at this
   unfold tv;exact Nat.le_trans this (Nat.le_trans (Nat.le_of_eq hlen) hfive)
  have hon:(z3 (tv F)).length=(tv F).length:=List.length_map _
  have hob:(z3 (tv F)).length<=BIG:=by rw[hon];unfold BIG;exact ltk
  have ho0:0<(tv F).length:=List.length_pos_iff.mpr λe=>hne (by rw[e];rfl)
  have hro':ro∉[rt]:=λe=>hro (List.mem_singleton.mp e).symm
  walk_at "w"
  walk_at "n"
  refine Z8 s x3.tape ltk x3.hst ho0 (by rw[hon]) λk mh5 st1 hkl hst1 hs5 C5=>?_
  have x4:=x3.roll s hs5 C5 hst1 (loc':=upd (upd loc "rows" (.ref rF)) "opened" (.ref ro)) rfl rfl
  have hop5:=hs5.at hop3 hro'
  have hF5:=hF3.same hs5 hrF
  obtain⟨xv,hxv⟩:∃xv,(tv F)[k]?=some xv:=⟨_,List.getElem?_eq_getElem hkl⟩
  obtain⟨hxm,hxb⟩:=List.mem_filter.mp (List.mem_of_getElem? hxv)
  have hxl:=List.mem_range.mp hxm
  have hg:F[xv]?=some F[xv]:=List.getElem?_eq_getElem hxl
  have hgd:F.getD xv []=F[xv]:=by rw[List.getD_eq_getElem?_getD,hg];rfl
  rw[hgd] at hxb
  have hrl:1<F[xv].length:=by have:=of_decide_eq_true hxb;exact(λ{n m}=>Int.ofNat_lt.mp) this
  have rc:=x.fit.rowF _ (List.getElem_mem hxl)
  have hr4:=rc.len
  walk_at "w"
  walk_at "n"
  refine Z8 s C5 (Nat.lt_of_le_of_lt (by assumption) (by decide)) hst1 (m:=3) (Nat.zero_lt_succ 2) rfl λsv mh6 st2 hsv hst2 hs6 C6=>?_
  have x5:=x4.roll s hs6 C6 hst2 (loc':=upd (upd loc "rows" (.ref rF)) "opened" (.ref ro)) rfl rfl
  have hF6:=hF5.same hs6 hrF
  obtain⟨sg,hsg,hpl⟩:=zff hsv
  walk_at "w"
  obtain⟨q,hq1,hq2⟩:=hF6.get hg
  have hrow6:=hF6.row
  have hi:=x5.st.inst
  have hil:(zi F[xv]).length=F[xv].length:=List.length_map _
  walk_at "n"
  refine Z8 s C6 (by lia) hst2 (m:=F[xv].length) (by lia) (by rw[hil]) λkv mh7 st3 hkv hst3 hs7 C7=>?_
  have x6:=x5.roll s hs7 C7 hst3 (loc':=upd (upd (upd (upd loc "rows" (.ref rF)) "opened" (.ref ro)) "x" (.int (xv:Int))) "sign" (.str sg)) (by walk_at "ne") (by walk_at "ne")
  have hq7:=hs7.at hq2 (hrF q (.tail _ (List.mem_of_getElem? hq1)))
  obtain⟨kk,hkk⟩:∃kk,F[xv][kv]?=some kk:=⟨_,List.getElem?_eq_getElem hkv⟩
  have hpl':(Lit.mk (xv:Int) sg kk).plain:=hpl
  have hsome:=JV rc.asc hrl hpl' (List.mem_of_getElem? hkk)
  have hst:=qX hpl' rc.asc
  walk_at "w"
  refine⟨R,F.map spans,E.map spans,tr++es,marks,false,cl,⟨xv,sg,kk⟩,spans F[xv],xv,rfl,rfl,hpl',x6.st,s.nd,by lia,by rw[List.getElem?_map,hg];rfl,x6.fit.sd _ (List.mem_map.mpr ⟨_,List.getElem_mem hxl,rfl⟩),?_,by rw[List.length_append];lia,λmh8 hs8 S8=>?_⟩
  ·rw[hst]
   exact λe=>hsome (sy.mp e)
  ·rw[hst,<-List.map_set] at S8
   have f':=x6.fit.keep hg hsome
   walk_at "w"
   by_cases he2:spans (F[xv].filter (yw ⟨xv,sg,kk⟩))=spans F[xv]
   ·rw[if_pos he2,Xn (w4 rc.asc) rc.asc he2,ZV hg] at S8
    have x7:=x6.move s hs8 (es':=[]) (by rw[List.append_nil];exact S8) x.fit .nil
    exact o2 _ _ F (es++[]) _ _ (by lia) (by simp) x7
   ·rw[if_neg he2] at S8
    exact o2 _ _ _ _ _ _ (by lia) (by simp) (x6.move s hs8 S8 f' (jy.one hg (by lia)))
end
noncomputable def wc:MF:=λargs Q mh=>X12 λrt rcl cells R E F tr marks cl n stir (u:Unit)=>N9 (args=[.ref rt,.ref R.r]) (TkS rt rcl cells R) (uU mh rt rcl cells n stir) (zu mh R (F.map spans) (E.map spans) tr marks false cl) (Fit E F) (n<=800) (stir<=2000) (tr.length<=800)
 (∀loc mh' F' es n' st,Dc mh rt rcl cells R E F tr marks cl loc mh' F' es n' st->n'<=n+10->es.length<=3->Q (.bool true) mh')
theorem UX:∀args Q mh,wc args Q mh->yQ ["tape","store_now"] (qp vA ww zW) args Q mh:=by
 rintro args Q mh0 ⟨rt,rcl,cells,R,E,F,tr,marks,cl,n,stir,u,rfl,s,C,S,f,hn,hst,ht,o⟩
 apply xA
 walk_at "s"
 refine Z8 s C ltk hst (m:=3) (Nat.zero_lt_succ 2) rfl λv mh1 st1 hv hst1 hs1 C1=>?_
 have h1:(1:Int)+(v:Int)=((1+v:Nat):Int):=by simp
 walk_at "w"
 rw[h1]
 have S1:=S.same hs1 (by simpa using s.f1)
 have x0:Dc mh0 rt rcl cells R E F tr marks cl (upd (upd (λ_=>none) "tape" (.ref rt)) "store_now" (.ref R.r)) mh1 F [] (n+1) st1:=
  ⟨by walk_at "ne",by walk_at "ne",C1,by rw[List.append_nil];exact S1,f,.nil,hs1.mono nC,hst1⟩
 refine⟨z3 (List.range (1+v)),y7 (λrest loc mh=>X2 λdn rest'=>X4 λF' es n' st=>N5 (List.range (1+v)=dn++rest') (rest=z3 rest') (Dc mh0 rt rcl cells R E F tr marks cl loc mh F' es n' st) (n'<=n+1+3 * dn.length) (es.length<=dn.length)) ?_ ?_ ?_ _ _ _ ⟨[],List.range (1+v),F,[],n+1,st1,rfl,rfl,x0,Nat.lt_succ_self _,Nat.le_refl _⟩⟩
 ·rintro rest loc mh' -
  exact uB (by lia)
 ·rintro w rest loc mh' K hK hR ⟨dn,rest',F',es,n',st,e1,e2,x,h2,h3⟩
  cases rest' with
  |nil=>cases e2
  |cons p rest'=>
   cases e2
   obtain⟨rfl,hlt⟩:=xo e1
   have x':=x.step0 .refl (loc':=upd loc "deed" (.int (dn.length:Int))) (by walk_at "ne") (by walk_at "ne")
   refine zgm s x' (by lia) ltk (by lia) (λloc2 mh2 n2 st2 hn2 x2=>hR _ _ _ (o loc2 mh2 F' es n2 st2 x2 (by lia) (by lia))) λloc2 mh2 F2 es2 n2 st2 hn2 he2 x2=>hK _ _ ⟨dn++[dn.length],rest',F2,es2,n2,st2,by rw[e1];simp,rfl,x2,by simp;lia,by simp;lia⟩
 ·rintro loc mh' ⟨dn,rest',F',es,n',st,e1,e2,x,h2,h3⟩
  cases rest' with
  |cons p r=>cases e2
  |nil=>
   have hl:=congrArg List.length e1
   simp at hl
   walk_at "n"
   exact o loc mh' F' es n' st x (by lia) (by lia)
noncomputable def zx:MF:=λargs Q mh=>X3 λrE ds E=>N6 (args=[.ref rE]) (Rows mh rE ds E) (E.length<=1000) ((∀row∈E,row.length<=1000)) ((∀row∈E,row≠[])) (∀mh' R,Same [] mh mh'->zu mh' R (E.map spans) (E.map spans) [] [] false (.tuple [])->(∀i∈R.refs,mh.length<=i)->(∀i∈R.refs,i<mh'.length)->R.refs.Nodup->Q (.ref R.r) mh')
theorem zu.lt{mh:MH}{R:SR}{doms firsts:List Dom}{tr marks:List MV}{fl:Bool}{cl:MV}(S:zu mh R doms firsts tr marks fl cl):∀i∈R.refs,i<mh.length:=by
 intro i hi
 obtain⟨ks,k1,_⟩:=S.news
 simp only[SR.refs,List.mem_cons,List.not_mem_nil,or_false] at hi
 rcases hi with rfl|rfl|rfl|rfl|rfl|rfl
 ·exact zm S.inst
 ·exact zm S.doms
 ·exact zm S.firsts
 ·exact zm S.trail
 ·exact zm S.marks
 ·exact zm k1
theorem Wi:∀args Q mh,zx args Q mh->yQ ["early"] (Zc uw qV zZ) args Q mh:=by
 rintro args Q mh0 ⟨rE,ds,E,rfl,hE,hl,hrl,hne,o⟩
 have hdl:=hE.lists.len
 apply tj
 walk_at "s"
 refine⟨rfl,λmh1 R hs1 S hge nd=>?_⟩
 have hE1:=hE.same hs1 nB
 have hrow:=hE1.row
 walk_at "n"
 refine⟨_,y7 (λrest loc mh=>Exists λ(k:Nat)=>N6 (k<=E.length) (rest=(ds.drop k).map .ref) (loc "found" = some (.ref R.r)) (loc "early" = some (.ref rE)) (zu mh R ((E.take k).map spans) ((E.take k).map spans) [] [] false (.tuple [])) (Same [] mh0 mh)) ?_ ?_ ?_ _ _ _ ⟨0,Nat.zero_le _,rfl,by walk_at "ne",by walk_at "ne",S,hs1⟩⟩
 ·rintro rest loc mh ⟨k,-,-,-,-,-,hs⟩
  exact hs.at hE.row nN
 ·rintro w rest loc mh K hK hR ⟨k,hk,e2,g1,g2,S,hs⟩
  by_cases hkl:k<ds.length
  ·rw[List.drop_eq_getElem_cons hkl] at e2
   simp only[List.map_cons,List.cons.injEq] at e2
   obtain⟨rfl,rfl⟩:=e2
   have hg:E[k]?=some (E[k]'(Nat.lt_of_lt_of_eq hkl hdl)):=List.getElem?_eq_getElem (Nat.lt_of_lt_of_eq hkl hdl)
   obtain⟨q,hq1,hq2⟩:=hE.get hg
   rw[List.getElem?_eq_getElem hkl] at hq1;cases hq1
   have hq3:=hs.at hq2 nN
   have hm:=List.mem_of_getElem? hg
   have hi:=S.inst
   have htl:((E.take k).map spans).length<=1000:=by rw[List.length_map,List.length_take];lia
   walk_at "w"
   refine⟨ds[k],E[k]'(by lia),rfl,hq3,hrl _ hm,λmh2 hs2=>?_⟩
   refine⟨R,(E.take k).map spans,(E.take k).map spans,[],[],false,.tuple [],spans (E[k]'(by lia)),rfl,S.same hs2 nA,nd,htl,htl,λe=>hne _ hm (sy.mp e),λmh3 hs3 S3=>?_⟩
   have e3:(E.take k).map spans++[spans (E[k]'(by lia))]=(E.take (k+1)).map spans:=by rw[<-List.take_append_getElem (show k<E.length by lia),List.map_append];rfl
   rw[e3] at S3
   refine hK _ _ ⟨k+1,by exact le_of_le_of_eq hkl hdl,rfl,miss rfl g1,miss rfl g2,S3,((hs.trans hs2).mono nA).trans hs3 |>.old λi hi=>.inr (hge i ?_)⟩
   simp at hi;rcases hi with rfl|rfl<;>simp[SR.refs]
  ·rw[List.drop_eq_nil_of_le (Nat.le_of_not_lt hkl)] at e2;cases e2
 ·rintro loc mh ⟨k,hk,e2,g1,g2,S,hs⟩
  have:k=E.length:=by
   by_cases hkl:k<ds.length
   ·rw[List.drop_eq_getElem_cons hkl] at e2;cases e2
   ·lia
  subst this
  rw[List.take_length] at S
  walk_at "n"
  exact o _ R hs S hge S.lt nd
structure Bs(rt rcl:Nat)(cells:List Int)(rE:Nat)(b:Int)(loc:Loc)(mh:MH)(cs:List Nat)(E:List (List Int))(n stir:Nat):Prop where
 l1:loc "tape" = some (.ref rt)
 l2:loc "begin" = some (.int b)
 l3:loc "early" = some (.ref rE)
 tape:uU mh rt rcl cells n stir
 rows:Rows mh rE cs E
 row:∀l∈E,Xg l
 ge:∀i∈cs,rE<i
 hst:stir<=2000
structure BsS(rt rcl:Nat)(cells:List Int)(rE:Nat)(b:Int):Prop where
 ne:rt≠rcl
 len:cells.length<=1000
 small:∀v∈cells,z7 v
 f1:rt<rE
 f2:rcl<rE
 hb : -2<=b/\b<=2
section
variable {rt rcl rE n stir:Nat}{cells:List Int}{b:Int}{mh mh' mh0:MH}{E:List (List Int)}{cs:List Nat}{loc loc':Loc}
theorem KN{Q:MV->MH->Prop}(s:BsS rt rcl cells rE b)(C:uU mh rt rcl cells n stir)(hn:n<=5000)(hst:stir<=2000){m:Nat}(hm:0<m){k:Int}(hk:k=(m:Int))(o:∀(v:Nat) mh' (st:Nat),v<m->st<=2000->Same [rt] mh mh'->uU mh' rt rcl cells (n+1) st->Q (.int (v:Int)) mh'):vA [.ref rt,.int k] Q mh:=by
 subst hk
 exact⟨rt,rcl,cells,n,stir,m,rfl,C,s.ne,hn,hst,s.len,s.small,hm,o⟩
theorem Bs.step0(x:Bs rt rcl cells rE b loc mh cs E n stir)(h:Same [] mh mh')(g1:loc' "tape" = loc "tape")(g2:loc' "begin" = loc "begin")(g3:loc' "early" = loc "early"):Bs rt rcl cells rE b loc' mh' cs E n stir:=
 ⟨g1.trans x.l1,g2.trans x.l2,g3.trans x.l3,x.tape.same h nN nN,x.rows.same h nB,x.row,x.ge,x.hst⟩
theorem Bs.roll(x:Bs rt rcl cells rE b loc mh cs E n stir)(s:BsS rt rcl cells rE b)(h:Same [rt] mh mh'){n' st:Nat}(C:uU mh' rt rcl cells n' st)(hst:st<=2000)(g1:loc' "tape" = loc "tape")(g2:loc' "begin" = loc "begin")(g3:loc' "early" = loc "early"):Bs rt rcl cells rE b loc' mh' cs E n' st:=by
 have h1:=s.f1
 refine⟨g1.trans x.l1,g2.trans x.l2,g3.trans x.l3,C,x.rows.same h λi hi e=>?_,x.row,x.ge,hst⟩
 obtain rfl:=List.mem_singleton.mp e
 rcases List.mem_cons.mp hi with e|hi
 ·lia
 ·have:=x.ge i hi;lia
theorem Bs.push{r:Nat}{l:List Int}(x:Bs rt rcl cells rE b loc mh cs E n stir)(s:BsS rt rcl cells rE b)(h:mh[r]?=some (.list (zi l)))(hr:rE<r)(hl:Xg l):Bs rt rcl cells rE b loc (mh.set rE (.list (cs.map MV.ref++[.ref r]))) (cs++[r]) (E++[l]) n stir:=by
 have h1:=s.f1
 have h2:=s.f2
 have hs:Same [rE] mh (mh.set rE (.list (cs.map MV.ref++[.ref r]))):=.set (List.mem_singleton_self _)
 refine⟨x.l1,x.l2,x.l3,x.tape.same hs (by simp;exact Nat.ne_of_lt h1) (by simp;exact Nat.ne_of_lt h2),⟨?_,?_⟩,λl' hl'=>?_,λi hi=>?_,x.hst⟩
 ·rw[yW x.rows.row];simp
 ·refine(x.rows.lists.same hs λi hi=>?_).snoc (hs.at h (by simp;exact Nat.ne_of_lt' hr))
  have:=x.ge i hi
  simp;exact Nat.ne_of_lt' this
 ·rcases List.mem_append.mp hl' with h|h
  ·exact x.row l' h
  ·obtain rfl:=List.mem_singleton.mp h;exact hl
 ·rcases List.mem_append.mp hi with h|h
  ·exact x.ge i h
  ·obtain rfl:=List.mem_singleton.mp h;exact hr
theorem J6{f:Int}{v:Nat}(h1 : -2<=f/\f<=5)(h2:v<4):Xg (xq (f,f+v)):=by
 refine⟨tA _,?_,?_,λw hw=>?_⟩
 ·rw[s4 (Int.le.intro v rfl)];exact List.cons_ne_nil _ _
 ·rw[vt];simp only;lia
 ·have:=tN.mp hw;exact⟨Int.le_trans h1.1 this.1,Int.le_trans this.2 (Int.le_trans (Int.add_le_add h1.2 (Int.ofNat_le.mpr (Nat.le_of_lt_succ h2))) (by decide))⟩
theorem Xg.gap{l:List Int}(h:Xg l):Xg (l.take 1++l.drop 2):=by
 have hsub:(l.take 1++l.drop 2).Sublist l:=by
  have e:l.take 1++l.drop 1=l:=List.take_append_drop 1 l
  conv=>rhs;rw[<-e]
  exact List.Sublist.append (List.Sublist.refl _) (by rw[show l.drop 2=(l.drop 1).drop 1 by rw[List.drop_drop]];exact List.drop_sublist _ _)
 refine⟨h.asc.sublist hsub,?_,Nat.le_trans hsub.length_le h.len,λv hv=>h.bound v (hsub.subset hv)⟩
 have:=h.some_
 cases l with
 |nil=>exact absurd rfl this
 |cons a r=>exact List.cons_ne_nil _ _
theorem zgv{K:Fl->Loc->MH->Prop}(s:BsS rt rcl cells rE b)(x:Bs rt rcl cells rE b loc mh cs E n stir)(hn:n<=900)(he:E.length<=5)
  (o:∀loc' mh' cs' l st,loc' "many" = loc "many"->Bs rt rcl cells rE b loc' mh' cs' (E++[l]) (n+3) st->K .next loc' mh'):zd1 vA loc K mh:=by
 have f1:=x.l1
 have f2:=x.l2
 have hb:=s.hb
 walk_at "s"
 refine KN s x.tape ltk x.hst (m:=4) (Nat.zero_lt_succ 3) rfl λv1 mh1 st1 hv1 hst1 hs1 C1=>?_
 have x1:=x.roll s hs1 C1 hst1 (loc':=upd loc "first" (.int (b+(v1:Int)))) (by walk_at "ne") (by walk_at "ne") (by walk_at "ne")
 walk_at "w"
 walk_at "n"
 refine KN s C1 (Nat.lt_of_le_of_lt (by assumption) (by decide)) hst1 (m:=4) (Nat.zero_lt_succ 3) rfl λv2 mh2 st2 hv2 hst2 hs2 C2=>?_
 have x2:=x1.roll s hs2 C2 hst2 (loc':=upd loc "first" (.int (b+(v1:Int)))) rfl rfl rfl
 walk_at "w"
 have e1:b+(v1:Int)+1+(v2:Int)=(b+(v1:Int)+v2)+1:=Int.add_right_comm (b + ↑v1) 1 ↑v2
 have e2:wd (b+(v1:Int)) (b+(v1:Int)+1+(v2:Int))=zi (xq (b+(v1:Int),b+(v1:Int)+v2)):=by rw[e1];exact s8 (b+(v1:Int),b+(v1:Int)+v2)
 rw[e2]
 have hrc:=J6 (f:=b+(v1:Int)) (v:=v2) ⟨Int.le_trans hb.1 (Int.le_add_of_nonneg_right (Int.natCast_nonneg _)),Int.add_le_add hb.2 (Int.ofNat_le.mpr (Nat.le_of_lt_succ hv1))⟩ hv2
 generalize xq (b+(v1:Int),b+(v1:Int)+v2)=row at *
 have hk:Same [] mh2 (mh2++[MO.list (zi row)]):=.append
 have x3:=x2.step0 hk (loc':=upd (upd loc "first" (.int (b+(v1:Int)))) "row" (.ref mh2.length)) (by walk_at "ne") (by walk_at "ne") (by walk_at "ne")
 have hrow:(mh2++[MO.list (zi row)])[mh2.length]?=some (.list (zi row)):=zB
 have hrE:=zm x2.rows.row
 have hrt:=s.f1
 clear e1 e2 x1 x2 hs1 hs2 hk f1 f2
 generalize mh2++[MO.list (zi row)]=mh3 at *
 generalize mh2.length=rr at *
 have f1:=x3.l1
 have f3:=x3.l3
 have f4:=x3.rows.row
 have hel:=x3.rows.lists.len
 have hcb:(cs.map MV.ref).length<=BIG:=by rw[List.length_map,hel];unfold BIG;exact ltk
 have hl4:=hrc.len
 have hli:(zi row).length=row.length:=List.length_map _
 walk_at "n"
 refine KN s x3.tape (by lia) x3.hst (m:=3) (Nat.zero_lt_succ 2) rfl λv3 mh4 st3 hv3 hst3 hs4 C3=>?_
 have x4:=x3.roll s hs4 C3 hst3 (loc':=upd (upd loc "first" (.int (b+(v1:Int)))) "row" (.ref rr)) rfl rfl rfl
 have hrow4:=hs4.at hrow (by simp;lia)
 have f4:=x4.rows.row
 have fin:∀mh5 q l,Same [] mh4 mh5->mh5[q]?=some (.list (zi l))->rE<q->Xg l->K .next (upd (upd loc "first" (.int (b+(v1:Int)))) "row" (.ref rr)) (mh5.set rE (.list (cs.map MV.ref++[.ref q]))):=λmh5 q l h1 h2 h3 h4=>
  o _ _ _ l _ (by walk_at "ne") ((x4.step0 h1 rfl rfl rfl).push s h2 h3 h4)
 have plain:=fin mh4 rr row .refl hrow4 hrE hrc
 walk_at "w"
 refine sa (λ_=>?_) λ_=>?_
 ·walk_at "w"
  refine sa (p:=((zi row).length:Int) > 2) (λhgt=>?_) λ_=>?_
  ·have ht1:((zi row).take (Int.toNat 1)).length<=100:=by rw[List.length_take];exact Nat.le_trans (Nat.min_le_left _ _) (by decide)
   have ht2:((zi row).drop (Int.toNat 2)).length<=100:=by rw[List.length_drop,hli];exact Nat.le_trans (Nat.sub_le _ _) (Nat.le_trans hl4 (by decide))
   have hrb:(zi row).length<=BIG:=by rw[hli];unfold BIG;exact ltk
   walk_at "w"
   refine fin _ _ (row.take 1++row.drop 2) ?_ ?_ (by have:=zm hrow4;lia) hrc.gap
   ·walk_at "sm"
   ·rw[show zi (row.take 1++row.drop 2)=(zi row).take (Int.toNat 1)++(zi row).drop (Int.toNat 2) by simp[zi,List.map_take,List.map_drop]]
    walk_at "ne"
  ·walk_at "w"
   exact plain
 ·walk_at "w"
  exact plain
end
theorem SR.fresh{R:SR}{L m n:Nat}(nd:R.refs.Nodup)(lt:∀i∈R.refs,i<L)(hm:L<=m)(hn:L<=n)(hne:m≠n):({ R with m:=m,n:=n }:SR).refs.Nodup/\∀i,i<L->i∉R.refs->i∉({ R with m:=m,n:=n }:SR).refs:=by
 have ap:=SR.ap nd
 have h1:=lt R.r (.head _)
 have h2:=lt R.d (.tail _ (.head _))
 have h3:=lt R.f (.tail _ (.tail _ (.head _)))
 have h4:=lt R.t (.tail _ (.tail _ (.tail _ (.head _))))
 refine⟨?_,λi hi hn'=>?_⟩
 ·simp only[SR.refs,List.nodup_cons,List.mem_cons,not_or,List.not_mem_nil,not_false_eq_true,List.nodup_nil,and_true]
  exact⟨⟨ap.rd,ap.rf,ap.rt,nlt hm h1,nlt hn h1⟩,⟨ap.df,ap.dt,nlt hm h2,nlt hn h2⟩,⟨ap.ft,nlt hm h3,nlt hn h3⟩,⟨nlt hm h4,nlt hn h4⟩,hne⟩
 ·simp only[SR.refs,List.mem_cons,not_or,List.not_mem_nil,not_false_eq_true,and_true] at hn' ⊢
  exact⟨hn'.1,hn'.2.1,hn'.2.2.1,hn'.2.2.2.1,nlt hm hi,nlt hn hi⟩
structure Wo(rt rcl:Nat)(cells:List Int)(rE:Nat)(ds:List Nat)(E:List (List Int))(ar:Nat)(xs:List Nat)(loc:Loc)(mh:MH)(R:SR)(F:List (List Int))(tr ms:List MV)(n stir:Nat):Prop where
 l1:loc "tape" = some (.ref rt)
 l2:loc "store_now" = some (.ref R.r)
 l3:loc "early" = some (.ref rE)
 l4:loc "rule" = some (.ref ar)
 tape:uU mh rt rcl cells n stir
 st:zu mh R (F.map spans) (E.map spans) tr ms false (.tuple [])
 rows:Rows mh rE ds E
 adv:mh[ar]?=some (sh (z3 xs))
 tk:TkS rt rcl cells R
 fit:Fit E F
 sep:∀i∈ar::rE::ds,i≠rt/\i∉R.refs
 hst:stir<=2000
 turn:ut xs E.length
section
variable {rt rcl rE ar n stir:Nat}{cells:List Int}{mh mh' mh0:MH}{E F F':List (List Int)}{ds xs:List Nat}{loc loc':Loc}{R R':SR}{tr tr' ms ms':List MV}
theorem Wo.step0(x:Wo rt rcl cells rE ds E ar xs loc mh R F tr ms n stir)(h:Same [] mh mh')(g1:loc' "tape" = loc "tape")(g2:loc' "store_now" = loc "store_now")(g3:loc' "early" = loc "early")(g4:loc' "rule" = loc "rule"):Wo rt rcl cells rE ds E ar xs loc' mh' R F tr ms n stir:=
 ⟨g1.trans x.l1,g2.trans x.l2,g3.trans x.l3,g4.trans x.l4,x.tape.same h nN nN,x.st.same h nA,x.rows.same h nB,h.at x.adv nN,x.tk,x.fit,x.sep,x.hst,x.turn⟩
theorem Wo.far{S:List Nat}(x:Wo rt rcl cells rE ds E ar xs loc mh R F tr ms n stir)(hS:∀i∈S,i=rt\/i∈R.refs):∀i∈ar::rE::ds,i∉S:=λi hi e=>by
 obtain⟨h1,h2⟩:=x.sep i hi
 rcases hS i e with h|h
 ·exact h1 h
 ·exact h2 h
theorem Wo.next{n' st':Nat}(x:Wo rt rcl cells rE ds E ar xs loc mh R F tr ms n stir)(h:Same (rt::R.refs) mh mh')(C:uU mh' rt rcl cells n' st')(hst:st'<=2000)(S:zu mh' R' (F'.map spans) (E.map spans) tr' ms' false (.tuple []))(er:R'.r=R.r)(nd:R'.refs.Nodup)(hR:∀i,i<mh.length->i∉R.refs->i∉R'.refs)(f:Fit E F'):Wo rt rcl cells rE ds E ar xs loc mh' R' F' tr' ms' n' st':=by
 have hfar:=x.far (S:=rt::R.refs) (λ_=>List.mem_cons.mp)
 have hl:∀i∈ar::rE::ds,i<mh.length:=λi hi=>by
  rcases List.mem_cons.mp hi with rfl|hi
  ·exact zm x.adv
  ·rcases List.mem_cons.mp hi with rfl|hi
   ·exact zm x.rows.row
   ·exact x.rows.lists.lt i hi
 exact⟨x.l1,by rw[er];exact x.l2,x.l3,x.l4,C,S,x.rows.same h λi hi=>hfar i (.tail _ hi),h.at x.adv (hfar _ (.head _)),⟨x.tk.ne,x.tk.len,x.tk.small,nd,hR _ (zm x.tape.tape) x.tk.f1,hR _ (zm x.tape.cells) x.tk.f2⟩,f,λi hi=>⟨(x.sep i hi).1,hR i (hl i hi) (x.sep i hi).2⟩,hst,x.turn⟩
theorem zch{K:Fl->Loc->MH->Prop}(x:Wo rt rcl cells rE ds E ar xs loc mh R F tr ms n stir)(hn:n<=700)(ht:tr.length<=300)(hm:ms.length<=100)
  (o:∀loc' mh' R' F' tr' ms' n' st',loc' "lap" = loc "lap"->Wo rt rcl cells rE ds E ar xs loc' mh' R' F' tr' ms' n' st'->tr'.length<=tr.length+30->ms'.length<=ms.length+1->n'<=n+10->K .next loc' mh'):zd0 ww zv wc vQ zz loc K mh:=by
 have f2:=x.l2
 have hlt:=x.st.lt
 have hrt:=zm x.tape.tape
 walk_at "s"
 refine ue x.st x.fit λmh1 rF cs hs1 hF hg1 hg2=>?_
 have x1:=x.step0 hs1 (loc':=upd loc "rows" (.ref rF)) (by walk_at "ne") (by walk_at "ne") (by walk_at "ne") (by walk_at "ne")
 have hnew:∀i∈rF::cs,i∉rt::R.refs:=λi hi e=>by
  have h1:mh.length<=i:=by
   rcases List.mem_cons.mp hi with rfl|h
   ·exact hg1
   ·exact hg2 i h
  rcases List.mem_cons.mp e with rfl|h
  ·lia
  ·have:=hlt i h;lia
 have hi:=x1.st.inst
 walk_at "n"
 refine⟨R,F.map spans,E.map spans,tr,ms,false,.tuple [],rfl,x1.st,x1.tk.nd,by exact ltk,by exact ltk,λmh2 hs2 S2=>?_⟩
 have hsub2:∀i∈[R.m],i∈rt::R.refs:=by simp[SR.refs]
 have hs12:Same (rt::R.refs) mh mh2:=(hs1.mono nA).trans (hs2.mono hsub2)
 have x2:=x1.next (hs2.mono hsub2) (x1.tape.same hs2 (λe=>x1.tk.f1 (by simp at e;subst e;simp[SR.refs])) (λe=>x1.tk.f2 (by simp at e;subst e;simp[SR.refs]))) x1.hst S2 rfl x1.tk.nd (λ_ _ h=>h) x1.fit
 have hF2:=hF.same hs2 λi hi e=>hnew i hi (hsub2 i e)
 have g1:=x2.l1
 have g2:=x2.l2
 have g3:=x2.l3
 have g4:=x2.l4
 walk_at "n"
 refine⟨rt,rcl,cells,R,E,F,tr,ms++[.int (tr.length:Int)],.tuple [],n,stir,(),rfl,x2.tk,x2.tape,x2.st,x2.fit,by exact ltk,x2.hst,by exact ltk,λloc3 mh3 F3 es3 n3 st3 D h1 h2=>?_⟩
 have hfar:=x2.far (S:=rt::R.refs) (λ_=>List.mem_cons.mp)
 have hF3:=hF2.same D.same hnew
 have hE3:=x2.rows.same D.same λi hi=>hfar i (.tail _ hi)
 have hA3:=D.same.at x2.adv (hfar _ (.head _))
 walk_at "w"
 refine⟨R,ar,E,F3,xs,tr++es3,ms++[.int (tr.length:Int)],rE,ds,(),rfl,hA3,D.st,hE3,⟨D.fit,⟨by rw[x.turn.len,D.fit.len],x.turn.nodup,λy hy=>by rw[D.fit.len];exact x.turn.lt y hy⟩,x.tk.nd,λi hi=>?_,(x.sep ar (.head _)).2,by rw[List.length_append];lia⟩,λi hi=>(x.sep i (.tail _ hi)).2,by rw[List.length_append];lia,λmh4 G es4 hs4 S4 f4 h4=>?_,λmh4 cl hs4 S4=>?_,trivial⟩
 ·rcases List.mem_cons.mp hi with rfl|h
  ·exact zm hA3
  ·exact D.st.lt i h
 ·have hi4:=S4.inst
  have hsx:Same (rt::R.refs) mh2 mh4:=D.same.trans (hs4.mono λi hi=>.tail _ hi)
  walk_at "w"
  walk_at "n"
  exact o _ _ R G _ _ _ _ (by walk_at "ne") (x2.next hsx (D.tape.same hs4 x.tk.f1 x.tk.f2) D.hst S4 rfl x.tk.nd (λ_ _ h=>h) f4) (by simp only[List.length_append];lia) (by simp) h1
 ·have hi4:=S4.inst
  have hsx:Same (rt::R.refs) mh2 mh4:=D.same.trans (hs4.mono λi hi=>.tail _ hi)
  have hF4:=hF3.same hs4 λi hi e=>hnew i hi (.tail _ e)
  have hle:mh.length<=mh4.length:=Nat.le_trans hs12.le hsx.le
  walk_at "w"
  walk_at "n"
  walk_at "s"
  refine⟨R,F3.map spans,E.map spans,tr,es3,ms,true,cl,F.map spans,rfl,S4,x.tk.nd,D.back,λd hd=>?_,by exact ltk,by exact ltk,by exact ltk,S4.lt,λmh5 m nn k1 k2 k3 hs5 S5=>?_⟩
  ·obtain⟨l,h5,rfl⟩:=List.mem_map.mp hd
   exact λe=>(x.fit.rowE l h5).some_ (sy.mp e)
  ·obtain⟨fr1,fr2⟩:=SR.fresh x.tk.nd S4.lt k1 k2 k3
   have hsub5:∀i∈[R.r,R.d,R.t],i∈R.refs:=by simp[SR.refs]
   have hF5:=hF4.same hs5 λi hi e=>hnew i hi (.tail _ (hsub5 i e))
   have C5:=D.tape.same (hs4.trans (hs5.mono hsub5)) x.tk.f1 x.tk.f2
   have hi5:=S5.inst
   dsimp only at hi5
   walk_at "n"
   refine ZC (ls:=[]) nA ?_
   walk_at "w"
   refine ue (R:={ R with m:=m,n:=nn }) S5 x.fit λmh6 r as hs6 hr _ _=>?_
   have hF6:=hF5.same hs6 nB
   walk_at "w"
   refine WC hr hF6 (qB rfl ?_)
   walk_at "w"
   have y:=x2.next (R':={ R with m:=m,n:=nn }) (hsx.trans (hs5.mono λi hi=>.tail _ (hsub5 i hi))) C5 D.hst S5 rfl fr1 (λi h5 h6=>fr2 i (Nat.lt_of_lt_of_le h5 hsx.le) h6) x.fit
   exact o _ _ _ F _ _ _ _ (by walk_at "ne") (y.step0 hs6 rfl rfl rfl rfl) (Nat.le_add_right tr.length 30) (Nat.le_add_right ms.length 1) h1
end
section
variable {rt rcl rE ar n stir:Nat}{cells:List Int}{mh mh' mh0:MH}{E F F':List (List Int)}{ds xs:List Nat}{loc loc':Loc}{R R':SR}{tr tr' ms ms':List MV}{QS:Fl->Loc->MH->Prop}
theorem zn9(x:Wo rt rcl cells rE ds E ar xs loc mh R F tr ms n stir)(h0:0<E.length)(o:∀loc mh,QS (.ret (.bool true)) loc mh):zco zx zd zT loc QS mh:=by
 have f3:=x.l3
 have hfive:=x.fit.five
 have r4:∀row∈E,row.length<=1000:=λrow hr=>by have:=(x.fit.rowE row hr).len;exact ltk
 walk_at "s"
 refine⟨rE,ds,E,rfl,x.rows,by exact ltk,r4,λrow hr=>(x.fit.rowE row hr).some_,λmh1 R2 hs1 S1 hge hlt nd=>?_⟩
 have hrows:=x.rows.same hs1 nB
 have hg:E[0]?=some E[0]:=List.getElem?_eq_getElem h0
 obtain⟨q,hq1,hq2⟩:=hrows.get hg
 have hrow:=hrows.row
 have rc:=x.fit.rowE _ (List.getElem_mem h0)
 obtain⟨a,ha⟩:∃a,E[0][0]?=some a:=by
  cases h:E[0] with
  |nil=>exact absurd h rc.some_
  |cons a r=>exact⟨a,rfl⟩
 have hA1:=hs1.at x.adv nN
 have f4:=x.l4
 have hi1:=S1.inst
 walk_at "w"
 walk_at "n"
 refine⟨R2,E.map spans,E.map spans,[],[],false,.tuple [],_,rfl,S1,nd,Nat.zero_lt_succ _,λmh2 hs2 S2=>?_⟩
 have hal:ar<mh.length:=zm x.adv
 have har:ar∉R2.refs:=λh=>by have:=hge ar h;lia
 have hA2:=hs2.at hA1 (by simp;rintro rfl;exact har (.head _))
 have fE:Fit E E:=⟨rfl,x.fit.five,x.fit.rowE,x.fit.rowE,λ_ _ h=>h⟩
 obtain⟨b,hb⟩:∃b:Bool,b=true↔yR E:=by
  by_cases h:yR E
  ·exact⟨true,λ_=>h,λ_=>rfl⟩
  ·exact⟨false,λe=>(by cases e),λe=>absurd e h⟩
 have hi2:=S2.inst
 have ht2:=S2.trail
 walk_at "n"
 refine⟨ar,R2,E,E,xs,[],[],true,_,b,rfl,hA2,S2,⟨fE,x.turn,nd,λi hi=>?_,har,Nat.zero_le _⟩,hb,λ_=>?_,λh=>(by cases h),λh=>(by cases h),trivial⟩
 ·rcases List.mem_cons.mp hi with rfl|h
  ·exact zm hA2
  ·exact S2.lt i h
 ·walk_at "w"
  refine qR rfl ?_
  walk_at "w"
  refine tq (a:=[]) (b:=[]) ((Same.append (S:=[])).at ht2 nN) zB (qR rfl ?_)
  have hi3:=(Same.append (S:=[]) (l:=[MO.list []])).at hi2 nN
  walk_at "w"
  refine ZC (ls:=[⟨0,">=",a⟩]) (λl hl=>?_) ?_
  ·obtain rfl:=List.mem_singleton.mp hl;exact .inr (.inl rfl)
  ·exact o _ _
end
theorem rngL_range'{t m:Nat}(h:t<=m):wd (t:Int) (m:Int)=z3 (List.range' t (m-t)):=by
 have e:((m:Int)-(t:Int)).toNat=m-t:=Int.toNat_sub m t
 rw[wd,e,z3,List.range'_eq_map_range,List.map_map]
 refine List.map_congr_left λi _=>?_
 simp
theorem J2{t m:Nat}(h:t<=m):ut (List.range' t (m-t)++List.range t) m:=by
 refine⟨by simp;exact Nat.sub_add_cancel h,?_,λx hx=>?_⟩
 ·rw[List.nodup_append]
  refine⟨List.nodup_range',List.nodup_range,λa ha b hb e=>?_⟩
  have h1:=List.mem_range'_1.mp ha
  have h2:=List.mem_range.mp hb
  exact Nat.lt_irrefl t (Nat.lt_of_le_of_lt h1.1 (e▸h2))
 ·rcases List.mem_append.mp hx with h1|h1
  ·have:=List.mem_range'_1.mp h1;exact Nat.lt_of_lt_of_eq this.2 (Nat.add_sub_cancel' h)
  ·have:=List.mem_range.mp h1;exact Nat.lt_of_lt_of_le this h
section
variable {rt rcl rE ar n stir:Nat}{cells:List Int}{b:Int}{mh mh' mh0:MH}{E F F':List (List Int)}{cs ds xs:List Nat}{loc loc':Loc}{R R':SR}{tr tr' ms ms':List MV}{QS:Fl->Loc->MH->Prop}
theorem zn8(x:Wo rt rcl cells rE ds E ar xs loc mh R E [] [] n stir)(h0:0<E.length)(hn:n<=600)(o:∀loc mh,QS (.ret (.bool true)) loc mh):zcn zx ww zv wc vQ zz zd zT loc QS mh:=by
 walk_at "s"
 refine⟨z3 (List.range 2),y7 (λrest loc mh=>X2 λdn rest'=>Exists λR=>X5 λF tr ms n' st=>N6 (List.range 2=dn++rest') (rest=z3 rest') (Wo rt rcl cells rE ds E ar xs loc mh R F tr ms n' st) (tr.length<=30 * dn.length) (ms.length<=dn.length) (n'<=n+10 * dn.length)) ?_ ?_ ?_ _ _ _ ⟨[],List.range 2,R,E,[],[],n,stir,rfl,rfl,x,Nat.le_refl _,Nat.le_refl _,Nat.le_refl _⟩⟩
 ·rintro rest loc mh' -
  exact uB (n:=2) (Nat.le_of_ble_eq_true rfl)
 ·rintro w rest loc mh' K hK hR ⟨dn,rest',R,F,tr,ms,n',st,e1,e2,x,h1,h2,h3⟩
  cases rest' with
  |nil=>cases e2
  |cons p rest'=>
   cases e2
   obtain⟨rfl,hlt⟩:=xo e1
   refine zch (x.step0 .refl (by walk_at "ne") (by walk_at "ne") (by walk_at "ne") (by walk_at "ne") (loc':=upd loc "lap" (.int (dn.length:Int)))) (by lia) (by lia) (by lia) λloc' mh2 R' F' tr' ms' n2 st' _ x' k1 k2 k3=>hK _ _ ⟨dn++[dn.length],rest',R',F',tr',ms',n2,st',by rw[e1];simp,rfl,x',by simp;lia,by simp;lia,by simp;lia⟩
 ·rintro loc mh' ⟨dn,rest',R,F,tr,ms,n',st,e1,e2,x,h1,h2,h3⟩
  apply cont_i
  exact zn9 x h0 o
theorem zn7{t m:Nat}(s:BsS rt rcl cells rE b)(x:Bs rt rcl cells rE b loc mh cs E n stir)(lt:loc "turn" = some (.int (t:Int)))(lm:loc "many" = some (.int (m:Int)))(hE:E.length=m)(hm:3<=m/\m<=5)(ht:t<m)(hn:n<=600)(o:∀loc mh,QS (.ret (.bool true)) loc mh) :
  zcm zh zx ww zv wc vQ zz zd zT loc QS mh:=by
 have f1:=x.l1
 have f3:=x.l3
 have hs1:=s.f1
 have hs2:=s.f2
 have hrE:=zm x.rows.row
 have hxs:wd (t:Int) (m:Int)++wd 0 (t:Int)=z3 (List.range' t (m-t)++List.range t):=by rw[rngL_range' (Nat.le_of_succ_le ht),Xr,z3,z3,z3,List.map_append]
 have tn:=J2 (t:=t) (m:=m) (Nat.le_of_succ_le ht)
 have hb1:(wd (t:Int) (m:Int)).length+(wd 0 (t:Int)).length<=BIG:=by simp[wd];unfold BIG;lia
 have hnl:(z3 (List.range' t (m-t)++List.range t)).length<=BIG:=by rw[List.length_map,tn.len];unfold BIG;lia
 walk_at "s"
 rw[hxs]
 refine⟨_,rfl,hnl,?_⟩
 have hk:Same [] mh (mh++[sh (z3 (List.range' t (m-t)++List.range t))]):=.append
 have hA:(mh++[sh (z3 (List.range' t (m-t)++List.range t))])[mh.length]?=some (sh (z3 (List.range' t (m-t)++List.range t))):=zB
 have hlk:mh.length<(mh++[sh (z3 (List.range' t (m-t)++List.range t))]).length:=by simp
 have x1:=x.step0 hk (loc':=loc) rfl rfl rfl
 generalize List.range' t (m-t)++List.range t=xs at *
 generalize mh++[sh (z3 xs)]=mh1 at *
 walk_at "w"
 refine⟨rE,cs,E,rfl,x1.rows,by lia,λrow hr=>by have:=(x.row row hr).len;exact ltk,λrow hr=>(x.row row hr).some_,λmh2 R hs2' S2 hge hlt nd=>?_⟩
 walk_at "w"
 apply cont_i
 have hds:∀i∈cs,rt<i/\i<mh.length:=λi hi=>⟨by have:=x.ge i hi;exact Nat.lt_trans hs1 this,x.rows.lists.lt i hi⟩
 have far:∀i,i<mh1.length->i∉R.refs:=λi hi h=>by have:=hge i h;lia
 have hrcl:=zm x1.tape.cells
 have hrt:=zm x1.tape.tape
 refine zn8 (E:=E) (R:=R) (rE:=rE) (ds:=cs) (xs:=xs) (ar:=mh.length) (cells:=cells) (rt:=rt) (rcl:=rcl) (stir:=stir) ?_ (by lia) hn o
 refine⟨by walk_at "ne",by walk_at "ne",by walk_at "ne",by walk_at "ne",x1.tape.same hs2' nN nN,S2,x1.rows.same hs2' nB,hs2'.at hA nN,⟨s.ne,s.len,s.small,nd,far _ hrt,far _ hrcl⟩,⟨rfl,by lia,x.row,x.row,λ_ _ h=>h⟩,λi hi=>?_,x1.hst,by rw[hE];exact tn⟩
 rcases List.mem_cons.mp hi with rfl|hi
 ·exact⟨by lia,far _ hlk⟩
 ·rcases List.mem_cons.mp hi with rfl|hi
  ·exact⟨by exact Ne.symm (Nat.ne_of_lt hs1),far _ (Nat.lt_trans hrE hlk)⟩
  ·have:=hds i hi
   exact⟨by lia,far _ (by lia)⟩
end
section
variable {rt rcl rE n stir:Nat}{cells:List Int}{b:Int}{mh mh' mh0:MH}{E:List (List Int)}{cs:List Nat}{loc loc':Loc}{QS:Fl->Loc->MH->Prop}
theorem zn6{m:Nat}(s:BsS rt rcl cells rE b)(x:Bs rt rcl cells rE b loc mh cs E n stir)(lm:loc "many" = some (.int (m:Int)))(hE:E.length=m)(hm:3<=m/\m<=5)(hn:n<=500)(o:∀loc mh,QS (.ret (.bool true)) loc mh) :
  zcl vA zh zx ww zv wc vQ zz zd zT loc QS mh:=by
 have f1:=x.l1
 walk_at "s"
 refine KN s x.tape ltk x.hst (m:=m) (by lia) rfl λt mh1 st1 ht hst1 hs1 C1=>?_
 walk_at "w"
 apply cont_i
 exact zn7 s (x.roll s hs1 C1 hst1 (by walk_at "ne") (by walk_at "ne") (by walk_at "ne")) hit (by walk_at "ne") hE hm ht (Nat.lt_of_le_of_lt (by assumption) (by decide)) o
theorem zmv{m:Nat}(s:BsS rt rcl cells rE b)(x:Bs rt rcl cells rE b loc mh [] [] n stir)(lm:loc "many" = some (.int (m:Int)))(hm:3<=m/\m<=5)(hn:n<=400)(o:∀loc mh,QS (.ret (.bool true)) loc mh) :
  Jc vA zh zx ww zv wc vQ zz zd zT loc QS mh:=by
 walk_at "s"
 refine⟨z3 (List.range m),y7 (λrest loc mh=>X2 λdn rest'=>X4 λcs E n' st=>N6 (List.range m=dn++rest') (rest=z3 rest') (Bs rt rcl cells rE b loc mh cs E n' st) (loc "many" = some (.int (m:Int))) (E.length=dn.length) (n'<=n+3 * dn.length)) ?_ ?_ ?_ _ _ _ ⟨[],List.range m,[],[],n,stir,rfl,rfl,x,lm,rfl,Nat.le_refl _⟩⟩
 ·rintro rest loc mh' -
  exact uB (by lia)
 ·rintro w rest loc mh' K hK hR ⟨dn,rest',cs,E,n',st,e1,e2,x,g,h1,h2⟩
  cases rest' with
  |nil=>cases e2
  |cons p rest'=>
   cases e2
   obtain⟨rfl,hlt⟩:=xo e1
   have f1:=x.l1
   refine zgv s (x.step0 .refl (loc':=upd loc "x" (.int (dn.length:Int))) (by walk_at "ne") (by walk_at "ne") (by walk_at "ne")) (by lia) (by lia) λloc' mh2 cs' l st' k1 x'=>hK _ _ ⟨dn++[dn.length],rest',cs',E++[l],n'+3,st',by rw[e1];simp,rfl,x',k1.trans (miss rfl g),by simp[h1],by simp;exact Nat.add_le_add_right h2 3⟩
 ·rintro loc mh' ⟨dn,rest',cs,E,n',st,e1,e2,x,g,h1,h2⟩
  cases rest' with
  |cons p r=>cases e2
  |nil=>
   have hl:=congrArg List.length e1
   simp at hl
   apply cont_i
   exact zn6 s x g (by lia) hm (by lia) o
theorem zmu(hc:rt≠rcl)(hl:cells.length<=1000)(hsm:∀v∈cells,z7 v)(l1:loc "tape" = some (.ref rt))(C:uU mh rt rcl cells n stir)(hst:stir<=2000)(hn:n<=100)(o:∀loc mh,QS (.ret (.bool true)) loc mh) :
  Jb vA zh zx ww zv wc vQ zz zd zT loc QS mh:=by
 have roll:∀{n stir:Nat}{mh:MH}{Q:MV->MH->Prop}(m:Nat),uU mh rt rcl cells n stir->n<=5000->stir<=2000->0<m->(∀(v:Nat) mh' (st:Nat),v<m->st<=2000->Same [rt] mh mh'->uU mh' rt rcl cells (n+1) st->Q (.int (v:Int)) mh')->vA [.ref rt,.int (m:Int)] Q mh:=
  λm C h1 h2 h3 o=>⟨rt,rcl,cells,_,_,m,rfl,C,hc,h1,h2,hl,hsm,h3,o⟩
 walk_at "s"
 refine roll 3 C ltk hst (Nat.zero_lt_succ 2) λv1 mh1 st1 hv1 hst1 hs1 C1=>?_
 walk_at "w"
 refine roll 5 C1 (Nat.lt_of_le_of_lt (by assumption) (by decide)) hst1 (Nat.zero_lt_succ 4) λv2 mh2 st2 hv2 hst2 hs2 C2=>?_
 walk_at "w"
 apply cont_i
 have hk:Same [] mh2 (mh2++[MO.list []]):=.append
 have e:(3:Int)+(v1:Int)=((3+v1:Nat):Int):=by simp
 have h1:=zm C2.tape
 have h2:=zm C2.cells
 rw[e]
 refine zmv (m:=3+v1) (b:=(v2:Int)-2) (rE:=mh2.length) ⟨hc,hl,hsm,h1,h2,by lia⟩ ⟨by walk_at "ne",by walk_at "ne",by walk_at "ne",C2.same hk nN nN,⟨zB,.nil⟩,nA,nA,hst2⟩ (by walk_at "ne") (by lia) (by lia) o
end
noncomputable def XT(L:Addr)(is:List Int):ME:=KW L is (za "script") none (some (zc (.int 50)))
theorem Jz{L:Addr}{is:List Int}{loc:Loc}{Q:MV->MH->Prop}{mh:MH}(h:loc "script" = some (.frozen L))(hl:is.length<=BIG)(q:Q (.ref mh.length) (mh++[.list (zi (is.take 50))])):XT L is loc Q mh:=by
 refine⟨_,h,_,rfl,by exact Int.zero_le_ofNat 50,.inl rfl,rfl,hl,?_⟩
 have hcut:Kx none (some 50) (is.map MV.int)=zi (is.take 50):=by simp[Kx,zi]
 rw[hcut];exact q
noncomputable abbrev zml(m_script:ME):MS:=zik m_script vA zh zx ww zv wc vQ zz zd zT
noncomputable def U7(a:Int):Int:=if a<0 then -a else a
theorem zi4{L:Addr}{script:List Int}{Q:MV->MH->Prop}{mh0:MH}(hl:script.length<=1000)(o:∀mh',Q (.bool true) mh'):yQ ["script"] (zml (XT L script)) [.frozen L] Q mh0:=by
 have hlen:(script.take 50).length<=50:=by simp;exact Nat.min_le_left 50 script.length
 apply tj
 walk_at "s"
 refine Jz (by walk_at "ne") (by unfold BIG;exact ltk) ?_
 walk_at "w"
 refine⟨_,yS (λ_=>True) MV.int (λ_=>true) (λc=>MV.int (U7 c % 1000003)) (script.take 50) ?_ (by unfold BIG;exact ltk) ?_ trivial ?_⟩
 ·exact zB
 ·rintro c hc loc -
  refine⟨upd loc "cell" (.int c),rfl,trivial,λmh hs=>⟨λR o=>o _ .refl,λ_ R o=>?_⟩⟩
  walk_at "w"
  exact o _ .refl
 ·intro loc' mh1 hs1
  have hfl:((script.take 50).filter λ_=>true).map (λc=>MV.int (U7 c % 1000003))=zi ((script.take 50).map λc=>U7 c % 1000003):=by rw[List.filter_eq_self.mpr λ_ _=>rfl];simp only[zi,List.map_map,Function.comp_def]
  rw[hfl]
  have hcl:∀v∈(script.take 50).map λc=>U7 c % 1000003,z7 v:=by
   intro v hv
   obtain⟨c,_,rfl⟩:=List.mem_map.mp hv
   have h1:=Int.emod_nonneg (U7 c) (show(1000003:Int)≠0 by lia)
   have h2:=Int.emod_lt_of_pos (U7 c) (show(0:Int)<1000003 by simp)
   unfold z7;lia
  have hcn:((script.take 50).map λc=>U7 c % 1000003).length<=1000:=by rw[List.length_map];exact ltk
  generalize (script.take 50).map (λc=>U7 c % 1000003)=cells at *
  have hC:(mh1++[MO.list (zi cells)])[mh1.length]?=some (.list (zi cells)):=zB
  have hlt:=zm hC
  generalize mh1++[MO.list (zi cells)]=mh2 at *
  generalize mh1.length=rcl at *
  obtain⟨st,hst,hs⟩:∃st:Nat,st<=2000/\5+cells.sum % 997=(st:Int):=by
   have h1:=Int.emod_nonneg cells.sum (show(997:Int)≠0 by lia)
   have h2:=Int.emod_lt_of_pos cells.sum (show(0:Int)<997 by simp)
   exact⟨(5+cells.sum % 997).toNat,by lia,by lia⟩
  walk_at "n"
  refine zmb hC ?_
  walk_at "w"
  rw[hs]
  refine⟨[("cells",.ref rcl),("at",.int 0),("stir",.int (st:Int))],rfl,by simp[wB],?_⟩
  apply cont_i
  have hk:Same [] mh2 (mh2++[MO.sdict [("cells",.ref rcl),("at",.int 0),("stir",.int (st:Int))]]):=.append
  exact zmu (rt:=mh2.length) (rcl:=rcl) (n:=0) (Ne.symm (Nat.ne_of_lt hlt)) hcn hcl hit ⟨zB,hk.at hC nN⟩ hst (Nat.zero_le 100) λloc mh=>o mh
end Mine.Internal
end
section
namespace Mine.Internal
variable {c:Cx}
theorem lf{d e:Nat}{f:Value}{t:MF}(h:zQ c d f t)(hl:d<=e):z6 c e f t:=(h.le hl).call
theorem XK(hK:c.K=KK c.w.params):zQ c 2 (.ref 56) yp:=zJ (zai hK) (JE (d:=0) hK) JK
theorem Ut(hK:c.K=KK c.w.params):zQ c 2 (.ref 61) xK:=zJ (zdb hK) (zbp (d:=0) hK) zbz
theorem Y4(hK:c.K=KK c.w.params):zQ c 2 (.ref 66) y8:=zJ (Ko hK) (UM (d:=0) hK) UW
theorem Kr(hK:c.K=KK c.w.params):zQ c 3 (.ref 73) w6:=zJ (Kn hK) (UL (d:=1) hK (lf (Ut hK) (by decide)) (lf (Y4 hK) (by decide))) UT
theorem zap(hK:c.K=KK c.w.params):zQ c 4 (.ref 94) vp:=zJ (zaj hK) (JF (d:=2) hK (lf (Ut hK) (by decide)) (lf (Y4 hK) (by decide)) ZE (lf (Kr hK) (by decide))) JL
theorem Xa(hK:c.K=KK c.w.params):zQ c 2 (.ref 115) (yQ ["self"] tc):=zJ (YX hK) (YJ (d:=0) hK) λ_ _ _ h=>h
theorem zau(hK:c.K=KK c.w.params):Jx c "Store" 251 115:=⟨by rw[hK];kernel_rfl,by rw[hK];kernel_rfl,by rw[hK];kernel_rfl,by rw[hK];kernel_rfl,by rw[hK];kernel_rfl⟩
theorem zdq(hK:c.K=KK c.w.params):zQ c 3 (.ref 251) uw:=(Y6 (zau hK) (Xa hK)).mono zb4
theorem Kt(hK:c.K=KK c.w.params):zQ c 2 (.ref 122) zZ:=zJ (jG hK) (j3 (d:=0) hK ZE) j7
theorem zgn(hK:c.K=KK c.w.params):zQ c 2 (.ref 129) yT:=zJ (YV hK) (YH (d:=0) hK) YL
theorem zdm(hK:c.K=KK c.w.params):zQ c 2 (.ref 136) zL:=zJ (WB hK) (Wd (d:=0) hK) Wl
theorem Ku(hK:c.K=KK c.w.params):zQ c 2 (.ref 143) ya:=zJ (jH hK) (j4 (d:=0) hK) j8
theorem Uv(hK:c.K=KK c.w.params):zQ c 5 (.ref 199) zR:=zJ (Yz hK) (ZY (d:=3) hK (lf (zap hK) (by decide)) ZE ZE) Yg
theorem zaq(hK:c.K=KK c.w.params):zQ c 6 (.ref 206) zq:=zJ (Z2 hK) (Zv (d:=4) hK (lf (Uv hK) (by decide))) Zx
theorem zar(hK:c.K=KK c.w.params):zQ c 6 (.ref 213) zW:=zJ (Z3 hK) (Zw (d:=4) hK (lf (Uv hK) (by decide))) Zy
theorem Jp(hK:c.K=KK c.w.params):zQ c 2 (.ref 220) zd:=zJ (YY hK) (YK (d:=0) hK) YN
theorem zgp(hK:c.K=KK c.w.params):zQ c 2 (.ref 227) zv:=zJ (YW hK) (YI (d:=0) hK) YM
theorem zjw(hK:c.K=KK c.w.params):zQ c 2 (.ref 234) zz:=zJ (WA hK) (Wc (d:=0) hK) Wk
theorem Xb(hK:c.K=KK c.w.params):zQ c 2 (.ref 269) xL:=zJ (qK hK) (q7 (d:=0) hK) qA
theorem jM(hK:c.K=KK c.w.params):zQ c 3 (.ref 309) (yQ ["self","store","scope"] (vB zL yp)):=zJ (jJ hK) (j6 (d:=1) hK (lf (zdm hK) (by decide)) (lf (XK hK) (by decide))) λ_ _ _ h=>h
theorem WP(hK:c.K=KK c.w.params):Jx c "Matching" 333 309:=⟨by rw[hK];kernel_rfl,by rw[hK];kernel_rfl,by rw[hK];kernel_rfl,by rw[hK];kernel_rfl,by rw[hK];kernel_rfl⟩
theorem Ux(hK:c.K=KK c.w.params):zQ c 4 (.ref 333) yB:=(Y6 (WP hK) (jM hK)).mono VE
theorem Kv(hK:c.K=KK c.w.params):zQ c 2 (.ref 323) sx:=zJ (qf hK) (qa (d:=0) hK) UV
theorem zgo(hK:c.K=KK c.w.params):zQ c 3 (.ref 316) XU:=zJ (jI hK) (j5 (d:=1) hK (lf (Kv hK) (by decide))) zfw
theorem zas(hK:c.K=KK c.w.params):zQ c 2 (.ref 330) uj:=zJ (uM hK) (uK (d:=0) hK) JM
theorem zdl(hK:c.K=KK c.w.params):zQ c 3 (.ref 379) uv:=zJ (vX hK) (vR (d:=1) hK (lf (Ku hK) (by decide)) (lf (XK hK) (by decide))) zby
theorem zdn(hK:c.K=KK c.w.params):zQ c 2 (.ref 365) XW:=zJ (vY hK) (vS (d:=0) hK) zb1
theorem jq(hK:c.K=KK c.w.params):zQ c 7 (.ref 372) zT:=zJ (vc hK) (wT (d:=5) hK (lf (zdn hK) (by decide)) (lf (Jp hK) (by decide)) (lf (Ux hK) (by decide)) (lf (zgo hK) (by decide)) (lf (zdl hK) (by decide)) (lf (zas hK) (by decide)) (lf (zaq hK) (by decide))) Wh
theorem Jm(hK:c.K=KK c.w.params):zQ c 2 (.ref 391) vA:=zJ (Ug hK) (Vw (d:=0) hK) zfz
theorem Uu(hK:c.K=KK c.w.params):zQ c 2 (.ref 398) qV:=zJ (W9 hK) (Wb (d:=0) hK) zb0
theorem ZD(hK:c.K=KK c.w.params):zQ c 3 (.ref 403) ww:=zJ (Ue hK) (Vu (d:=1) hK (lf (zgn hK) (by decide)) (lf (zdm hK) (by decide))) zfx
theorem zgq(hK:c.K=KK c.w.params):zQ c 2 (.ref 410) UC:=zJ (Uh hK) (Vx (d:=0) hK) zf0
theorem Jn(hK:c.K=KK c.w.params):zQ c 3 (.ref 415) XV:=zJ (Ui hK) (Vy (d:=1) hK (lf (zgq hK) (by decide))) zf1
theorem Jo(hK:c.K=KK c.w.params):zQ c 4 (.ref 420) uY:=zJ (Uj hK) (Vz (d:=2) hK (lf (Jn hK) (by decide))) zf2
theorem zax{d:Nat}{f:Value}:z6 c d f (qj 0):=λA φ mh s args margs Q P E hr H ra q o=>by
 obtain⟨r,cs,G,_,_,h,_,_,_⟩:=q
 exact absurd h (Nat.not_lt_zero _)
theorem zdp(hK:c.K=KK c.w.params):∀n,zQ c (n+2) (.ref 425) (qj (n+1))
 |0=>zJ (tX hK) (tG (d:=0) hK zax) zb3
 |n+1=>zJ (tX hK) (tG (d:=n+1) hK (zdp hK n).call) zb3
theorem Jl(hK:c.K=KK c.w.params):zQ c 4 (.ref 430) uX:=zJ (Uf hK) (Vv (d:=2) hK (lf (Jn hK) (by decide))) zfy
theorem Ks(hK:c.K=KK c.w.params):zQ c 5 (.ref 435) sw:=zJ (tW hK) (tF (d:=3) hK (lf (Jl hK) (by decide)) (lf (Uu hK) (by decide)) (lf (Jo hK) (by decide)) (lf (ZD hK) (by decide))) UU
theorem zdo(hK:c.K=KK c.w.params):zQ c 8 (.ref 440) vQ:=zJ (qJ hK) (qz (d:=6) hK (lf (ZD hK) (by decide)) (lf (zdp hK 5) (by decide)) (lf (jq hK) (by decide)) (lf (Ks hK) (by decide)) (lf (Jl hK) (by decide)) (lf (Jo hK) (by decide))) zb2
theorem Kw(hK:c.K=KK c.w.params):zQ c 7 (.ref 445) wc:=zJ (Yy hK) (ZX (d:=5) hK (lf (Jm hK) (by decide)) (lf (ZD hK) (by decide)) (lf (zar hK) (by decide))) UX
theorem WH(hK:c.K=KK c.w.params):zQ c 4 (.ref 452) zx:=zJ (W8 hK) (Wa (d:=2) hK (lf (zdq hK) (by decide)) (lf (Uu hK) (by decide)) (lf (Kt hK) (by decide))) Wi
theorem JP{P:Params}:(zf (KK P) 353).names.lookup ("self" : Str)=some .local:=by kernel_rfl
theorem VJ{P:Params}:(zf (KK P) 353).names.lookup ("row" : Str)=some .local:=by kernel_rfl
theorem zjv(hK:c.K=KK c.w.params):∃q a,xf c 353 q a (zp (KK c.w.params) 353) (zf (KK c.w.params) 353) ["self","row"] [("__class__",341)]:=
 zju hK (by kernel_rfl) (λ_ _=>by show _=_;kernel_rfl) (zw (.inl JP) (zw (.inl VJ) zY)) (by kernel_rfl) ⟨_,_,_,_,rfl⟩
theorem Uw(hK:c.K=KK c.w.params)(hp:c.prog=PySem.Challenge.rw_pc0038_01.row.prog):zQ c 3 (.ref 353) (zif "AllDifferentValues" ["self","row"] "self" [za "row",zc (.str "values")] xL):=by
 obtain⟨q,a,hf⟩:=zjv hK
 obtain⟨oc,od,osl,ho⟩:=jL (show YZ (KK c.w.params) 353=some _ from rfl)
 refine Kz (f:=353) (f2:=269) (C:=382) (D:=382) (cc:=341) (cda:=352) (cl:="AllDifferentValues") (name:="__init__") (slf:="self") hf (by rw[hK];exact ho) rfl rfl ?_
  (SEs.cons (ql VJ (by kernel_rfl)) (SEs.cons yv SEs.nil (λ_=>rfl)) (λ_=>rfl)) (Xb hK) (λ_=>rfl) (λ_=>⟨_,rfl⟩)
 refine⟨by rw[hK];kernel_rfl,rfl,?_,?_,?_,by rw[hK];kernel_rfl,by rw[hK];kernel_rfl,by rw[hK];kernel_rfl,by rw[hK];kernel_rfl,by rw[hK];kernel_rfl,by rw[hK];kernel_rfl,by kernel_rfl,by kernel_rfl,by kernel_rfl,by kernel_rfl,by rw[hp];kernel_rfl⟩
 ·rw[hK,hp];exact⟨_,_,_,_,_,_,rfl,rfl,by kernel_rfl⟩
 ·rw[hK];exact⟨_,_,_,rfl⟩
 ·rw[hK];exact⟨_,rfl⟩
theorem zgr(hK:c.K=KK c.w.params):Jx c "AllDifferentValues" 382 353:=⟨by rw[hK];kernel_rfl,by rw[hK];kernel_rfl,by rw[hK];kernel_rfl,by rw[hK];kernel_rfl,by rw[hK];kernel_rfl⟩
theorem zjy(hK:c.K=KK c.w.params)(hp:c.prog=PySem.Challenge.rw_pc0038_01.row.prog):zQ c 4 (.ref 382) zh:=(Y6 (zgr hK) (Uw hK hp)).mono t6
theorem zjx(hK:c.K=KK c.w.params)(hp:c.prog=PySem.Challenge.rw_pc0038_01.row.prog){L:Addr}{script:List Int}{vs:List Value}(hL:c.hB.IsList L vs.toArray)(hI:IntsAre vs script)(hl:script.length<=1000) :
  zQ c 9 (.ref 457) (λargs Q mh=>args=[.frozen L]/\∀mh',Q (.bool true) mh'):=
 zJ (m:=zml (XT L script)) (zjt hK) (zi1 (d:=7) hK (lf (Jm hK) (by decide)) (lf (zjy hK hp) (by decide)) (lf (WH hK) (by decide)) (lf (ZD hK) (by decide)) (lf (zgp hK) (by decide)) (lf (Kw hK) (by decide)) (lf (zdo hK) (by decide)) (lf (zjw hK) (by decide)) (lf (Jp hK) (by decide)) (lf (jq hK) (by decide))
  (JD hL hI (zb (by kernel_rfl)) wu.none (wu.some zs))) λargs Q mh h=>by
   obtain⟨rfl,h⟩:=h
   exact zi4 hl h
end Mine.Internal
end
section
namespace Mine.Internal
theorem zje(P:Params):nsIn (KK P) mainGlobals ("law" : Str)=some (some (.ref 457)):=by kernel_rfl
theorem zjj{c:Cx}:c.Hp [] [] c.hB:=⟨λb o e=>e,rfl,λi o p h=>by simp at h,List.nodup_nil,λa h=>by cases h⟩
end Mine.Internal
end
open Mine.Internal
theorem PySem.Challenge.cw_pc0038_01_holds : PySem.Challenge.rw_pc0038_01.Holds := by
 refine H.hd_ ?_
 intro w s₀ s₁ mg mb G Y fa o pm cd doc dV kV ho hd hcd hD hmg hg args yt as hpre hlay hrd hwl hlo
 have KX:=kIn_of Y
 have V:=(Ground.X G).2
 have GL:=glob_more (Ground.glob G (by decide +kernel) (by decide +kernel)) V
 have hfa:=(mg_of KX GL.g (zje w.params)).symm.trans hmg
 cases hfa
 refine Ground.open G ?_
 intro T B D TE TW
 clear hmg hd hD
 wrow_args hpre hlay hrd hwl hlo
 refine enter_call ?_
 rename_i script hs hlay0 hL1 hr1 hl2 as4 as3 L vs as1 hL ra w1 r0 hI hr0 hcond hcond2
 let c:Cx:=⟨PySem.Challenge.rw_pc0038_01.row.prog,w,KK w.params,s₁.heap,KX,mg,mb,GL.g,GL.b,GL.nolimit,GL.builtins⟩
 have cv:=zjx (c:=c) rfl rfl hL hI (by omega)
 have H0:c.Hp [] [] s₁.heap:=zjj (c:=c)
 refine codeAny_mono (cv callerA [] [] s₁ [.ref L] [.frozen L] (λv _=>v=.bool true) (λv s'=>GoodWG PySem.Challenge.rw_pc0038_01.row.claim (classAt s₀.heap) (ExcName.means s₀.heap) [ofPy (PyData.list (List.map PyData.int script))] s₁ (.ok (.ret v)) s')
  (λe s'=>GoodWG PySem.Challenge.rw_pc0038_01.row.claim (classAt s₀.heap) (ExcName.means s₀.heap) [ofPy (PyData.list (List.map PyData.int script))] s₁ (.error e) s') ⟨rfl,by rw[depth_caller];decide,by rw[units_caller,cLine_is];decide⟩ H0 (.cons (.frozen L) .nil) ⟨rfl,λ_=>rfl⟩ ?_) ?_
 ·rintro v mv φ' mh' h' tk rfl x H r
  cases r
  exact⟨.inl ⟨.bool true,.bool true,[],rfl,λ_=>rfl,.bool true,(by first|kernel_rfl|decide +kernel|simp),λ_=>⟨List.nodup_nil,by simp⟩⟩,.of_keep λb o e=>H.base b o e,rfl,.of_eq hg⟩
 ·intro r s' hh
  cases r with
  |error e=>exact hh
  |ok f=>
   cases f with
   |ret v=>exact hh
   |_=>exact hh.elim
