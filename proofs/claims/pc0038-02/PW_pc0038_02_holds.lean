import PyProof.Rows.All
import Wide.All
import OpenK.AllK
import Wide.FinOn
import KE.KDictList
import KE.KSuper
import PySem.Challenge.RW_pc0038_02
open PySem PySem.Calls PySem.W PyProof.Rows
set_option Elab.async false
set_option maxRecDepth 100000
set_option linter.unusedVariables false
set_option linter.unusedSimpArgs false
set_option compiler.extract_closed false
set_option maxHeartbeats 8000000
section
namespace Mine
inductive X2 {A B : Type} (P : A → B → Prop) : Prop | mk (a : A) (b : B) (h : P a b) : X2 P
inductive X3 {A B C : Type} (P : A → B → C → Prop) : Prop | mk (a : A) (b : B) (c : C) (h : P a b c) : X3 P
inductive X4 {A B C D : Type} (P : A → B → C → D → Prop) : Prop | mk (a : A) (b : B) (c : C) (d : D) (h : P a b c d) : X4 P
inductive X5 {A B C D E : Type} (P : A → B → C → D → E → Prop) : Prop | mk (a : A) (b : B) (c : C) (d : D) (e : E) (h : P a b c d e) : X5 P
inductive X6 {A B C D E F : Type} (P : A → B → C → D → E → F → Prop) : Prop | mk (a : A) (b : B) (c : C) (d : D) (e : E) (f : F) (h : P a b c d e f) : X6 P
inductive X7 {A B C D E F G : Type} (P : A → B → C → D → E → F → G → Prop) : Prop | mk (a : A) (b : B) (c : C) (d : D) (e : E) (f : F) (g : G) (h : P a b c d e f g) : X7 P
inductive X8 {A B C D E F G H : Type} (P : A → B → C → D → E → F → G → H → Prop) : Prop | mk (a : A) (b : B) (c : C) (d : D) (e : E) (f : F) (g : G) (h : H) (h : P a b c d e f g h) : X8 P
inductive X9 {A B C D E F G H I : Type} (P : A → B → C → D → E → F → G → H → I → Prop) : Prop | mk (a : A) (b : B) (c : C) (d : D) (e : E) (f : F) (g : G) (h : H) (i : I) (h : P a b c d e f g h i) : X9 P
inductive X10 {A B C D E F G H I J : Type} (P : A → B → C → D → E → F → G → H → I → J → Prop) : Prop | mk (a : A) (b : B) (c : C) (d : D) (e : E) (f : F) (g : G) (h : H) (i : I) (j : J) (h : P a b c d e f g h i j) : X10 P
inductive X12 {A B C D E F G H I J K L : Type} (P : A → B → C → D → E → F → G → H → I → J → K → L → Prop) : Prop | mk (a : A) (b : B) (c : C) (d : D) (e : E) (f : F) (g : G) (h : H) (i : I) (j : J) (k : K) (l : L) (h : P a b c d e f g h i j k l) : X12 P
inductive X13 {A B C D E F G H I J K L M : Type} (P : A → B → C → D → E → F → G → H → I → J → K → L → M → Prop) : Prop | mk (a : A) (b : B) (c : C) (d : D) (e : E) (f : F) (g : G) (h : H) (i : I) (j : J) (k : K) (l : L) (m : M) (h : P a b c d e f g h i j k l m) : X13 P
inductive X15 {A B C D E F G H I J K L M N O : Type} (P : A → B → C → D → E → F → G → H → I → J → K → L → M → N → O → Prop) : Prop | mk (a : A) (b : B) (c : C) (d : D) (e : E) (f : F) (g : G) (h : H) (i : I) (j : J) (k : K) (l : L) (m : M) (n : N) (o : O) (h : P a b c d e f g h i j k l m n o) : X15 P
inductive N3 (a b c : Prop) : Prop | mk (h0 : a) (h1 : b) (h2 : c) : N3 a b c
inductive N4 (a b c d : Prop) : Prop | mk (h0 : a) (h1 : b) (h2 : c) (h3 : d) : N4 a b c d
inductive N5 (a b c d e : Prop) : Prop | mk (h0 : a) (h1 : b) (h2 : c) (h3 : d) (h4 : e) : N5 a b c d e
inductive N6 (a b c d e f : Prop) : Prop | mk (h0 : a) (h1 : b) (h2 : c) (h3 : d) (h4 : e) (h5 : f) : N6 a b c d e f
inductive N7 (a b c d e f g : Prop) : Prop | mk (h0 : a) (h1 : b) (h2 : c) (h3 : d) (h4 : e) (h5 : f) (h6 : g) : N7 a b c d e f g
inductive N8 (a b c d e f g h : Prop) : Prop | mk (h0 : a) (h1 : b) (h2 : c) (h3 : d) (h4 : e) (h5 : f) (h6 : g) (h7 : h) : N8 a b c d e f g h
inductive N9 (a b c d e f g h i : Prop) : Prop | mk (h0 : a) (h1 : b) (h2 : c) (h3 : d) (h4 : e) (h5 : f) (h6 : g) (h7 : h) (h8 : i) : N9 a b c d e f g h i
inductive N10 (a b c d e f g h i j : Prop) : Prop | mk (h0 : a) (h1 : b) (h2 : c) (h3 : d) (h4 : e) (h5 : f) (h6 : g) (h7 : h) (h8 : i) (h9 : j) : N10 a b c d e f g h i j
inductive N11 (a b c d e f g h i j k : Prop) : Prop | mk (h0 : a) (h1 : b) (h2 : c) (h3 : d) (h4 : e) (h5 : f) (h6 : g) (h7 : h) (h8 : i) (h9 : j) (h10 : k) : N11 a b c d e f g h i j k
inductive N13 (a b c d e f g h i j k l m : Prop) : Prop | mk (h0 : a) (h1 : b) (h2 : c) (h3 : d) (h4 : e) (h5 : f) (h6 : g) (h7 : h) (h8 : i) (h9 : j) (h10 : k) (h11 : l) (h12 : m) : N13 a b c d e f g h i j k l m
inductive N14 (a b c d e f g h i j k l m n : Prop) : Prop | mk (h0 : a) (h1 : b) (h2 : c) (h3 : d) (h4 : e) (h5 : f) (h6 : g) (h7 : h) (h8 : i) (h9 : j) (h10 : k) (h11 : l) (h12 : m) (h13 : n) : N14 a b c d e f g h i j k l m n
inductive MV where
  | none
  | bool (b : Bool)
  | int (i : Int)
  | str (s : Str)
  | tuple (vs : List MV)
  | range (a b : Int)
  | ref (r : Nat)
  | frozen (a : Addr)
inductive MO where
  | list (vs : List MV)
  | idict (kvs : List (Int × MV))
  | sdict (kvs : List (Str × MV))
  | set (is : List Int)
  | inst (c : Str) (fs : List (Str × MV))
noncomputable abbrev MH := List MO
noncomputable abbrev Loc := Str → Option MV
noncomputable abbrev Phi := List (Addr × Option Addr)
noncomputable def tupObj (vs : List Value) (n : Nat) : Obj := { cls := .type "tuple", data := .seq vs.toArray n }
noncomputable def lstObj (vs : List Value) (n : Nat) : Obj := { cls := .type "list", data := .seq vs.toArray n }
noncomputable def rngObj (a b : Int) (t u v : Tok) : Obj := { cls := .type "range", data := .fields #[.int a t, .int b u, .int 1 v] }
mutual
inductive VR (h : Heap) (φ : Phi) : Value → MV → Prop
  | none : VR h φ Value.none MV.none
  | bool (b : Bool) : VR h φ (Value.bool b) (MV.bool b)
  | int (i : Int) (t : Tok) : VR h φ (Value.int i t) (MV.int i)
  | str (x : Str) (t : Tok) : VR h φ (Value.str x t) (MV.str x)
  | tuple {a : Addr} {vs : List Value} {n : Nat} {ms : List MV} : h.get? a = some (tupObj vs n) → VRs h φ vs ms → VR h φ (Value.ref a) (MV.tuple ms)
  | range {a : Addr} {x y : Int} {t u v : Tok} : h.get? a = some (rngObj x y t u v) → VR h φ (Value.ref a) (MV.range x y)
  | ref {a : Addr} {d : Option Addr} {r : Nat} : φ[r]? = some (a, d) → VR h φ (Value.ref a) (MV.ref r)
  | frozen (a : Addr) : VR h φ (Value.ref a) (MV.frozen a)
inductive VRs (h : Heap) (φ : Phi) : List Value → List MV → Prop
  | nil : VRs h φ [] []
  | cons {v : Value} {vs : List Value} {m : MV} {ms : List MV} : VR h φ v m → VRs h φ vs ms → VRs h φ (v :: vs) (m :: ms)
end
noncomputable def VRv (h : Heap) (φ : Phi) (v : Value) : MV → Prop
  | .none => v = .none
  | .bool b => v = .bool b
  | .int i => ∃ t, v = .int i t
  | .str i => ∃ t, v = .str i t
  | .tuple ms => ∃ a vs n, v = .ref a ∧ h.get? a = some (tupObj vs n) ∧ VRs h φ vs ms
  | .range i j => ∃ a t u w, v = .ref a ∧ h.get? a = some (rngObj i j t u w)
  | .ref r => ∃ a d, v = .ref a ∧ φ[r]? = some (a, d)
  | .frozen a => v = .ref a
theorem VR.view {h : Heap} {φ : Phi} {v : Value} {m : MV} (x : VR h φ v m) : VRv h φ v m :=
  @VR.casesOn h φ (fun v m _ => VRv h φ v m) v m x rfl (fun _ => rfl) (fun _ t => ⟨t, rfl⟩) (fun _ t => ⟨t, rfl⟩) (fun e r => ⟨_, _, _, rfl, e, r⟩) (fun e => ⟨_, _, _, _, rfl, e⟩) (fun e => ⟨_, _, rfl, e⟩) (fun _ => rfl)
theorem VR.inv_none {h : Heap} {φ : Phi} {v : Value} (x : VR h φ v .none) : v = .none := x.view
theorem VR.inv_bool {h : Heap} {φ : Phi} {v : Value} {b : Bool} (x : VR h φ v (.bool b)) : v = .bool b := x.view
theorem VR.inv_int {h : Heap} {φ : Phi} {v : Value} {i : Int} (x : VR h φ v (.int i)) : ∃ t, v = .int i t := x.view
theorem VR.inv_str {h : Heap} {φ : Phi} {v : Value} {i : Str} (x : VR h φ v (.str i)) : ∃ t, v = .str i t := x.view
theorem VR.inv_tuple {h : Heap} {φ : Phi} {v : Value} {ms : List MV} (x : VR h φ v (.tuple ms)) : ∃ a vs n, v = .ref a ∧ h.get? a = some (tupObj vs n) ∧ VRs h φ vs ms := x.view
theorem VR.inv_range {h : Heap} {φ : Phi} {v : Value} {i j : Int} (x : VR h φ v (.range i j)) : ∃ a t u w, v = .ref a ∧ h.get? a = some (rngObj i j t u w) := x.view
theorem VR.inv_ref {h : Heap} {φ : Phi} {v : Value} {r : Nat} (x : VR h φ v (.ref r)) : ∃ a d, v = .ref a ∧ φ[r]? = some (a, d) := x.view
theorem VR.inv_frozen {h : Heap} {φ : Phi} {v : Value} {a : Addr} (x : VR h φ v (.frozen a)) : v = .ref a := x.view
noncomputable def VRsv (h : Heap) (φ : Phi) (ws : List Value) : List MV → Prop
  | [] => ws = []
  | m :: ms => ∃ v vs, ws = v :: vs ∧ VR h φ v m ∧ VRs h φ vs ms
theorem VRs.view {h : Heap} {φ : Phi} {ws : List Value} {ms : List MV} (x : VRs h φ ws ms) : VRsv h φ ws ms :=
  @VRs.casesOn h φ (fun ws ms _ => VRsv h φ ws ms) ws ms x rfl (fun a b => ⟨_, _, rfl, a, b⟩)
theorem VRs.inv_nil {h : Heap} {φ : Phi} {vs : List Value} (x : VRs h φ vs []) : vs = [] := x.view
theorem VRs.inv_cons {h : Heap} {φ : Phi} {ws : List Value} {m : MV} {ms : List MV} (x : VRs h φ ws (m :: ms)) : ∃ v vs, ws = v :: vs ∧ VR h φ v m ∧ VRs h φ vs ms := x.view
theorem VRs.inv_vcons {h : Heap} {φ : Phi} {v : Value} {vs : List Value} {ms : List MV} (x : VRs h φ (v :: vs) ms) : ∃ m ns, ms = m :: ns ∧ VR h φ v m ∧ VRs h φ vs ns :=
  @VRs.casesOn h φ (fun ws ms _ => ∀ v vs, ws = v :: vs → ∃ m ns, ms = m :: ns ∧ VR h φ v m ∧ VRs h φ vs ns) (v :: vs) ms x (fun _ _ e => nomatch e) (fun a b v vs e => by cases e; exact ⟨_, _, rfl, a, b⟩) v vs rfl
theorem VRs.inv_vnil {h : Heap} {φ : Phi} {ms : List MV} (x : VRs h φ [] ms) : ms = [] := by
  cases ms with
  | nil => rfl
  | cons m ms => obtain ⟨_, _, e, _⟩ := x.inv_cons; cases e
noncomputable def addrs (φ : Phi) : List Addr := φ.flatMap fun p => p.1 :: p.2.toList
theorem zcf (a b : Phi) : addrs (a ++ b) = addrs a ++ addrs b := by simp [addrs]
structure Ext (φ φ' : Phi) (h h' : Heap) : Prop where
  pre : φ <+: φ'
  new : ∀ a ∈ addrs φ', a ∈ addrs φ ∨ h.get? a = none
  keep : ∀ b o, b ∉ addrs φ → h.get? b = some o → h'.get? b = some o
theorem Ext.refl (φ : Phi) (h : Heap) : Ext φ φ h h := ⟨List.prefix_rfl, fun _ h => .inl h, fun _ _ _ e => e⟩
theorem Ext.trans {φ φ' φ'' : Phi} {h h' h'' : Heap} (x : Ext φ φ' h h') (y : Ext φ' φ'' h' h'') : Ext φ φ'' h h'' where
  pre := x.pre.trans y.pre
  new := fun a ha => by
    rcases y.new a ha with h1 | h1
    · exact x.new a h1
    · by_cases hb : a ∈ addrs φ
      · exact .inl hb
      · refine .inr ?_
        cases e : h.get? a with
        | none => rfl
        | some o => rw [x.keep a o hb e] at h1; cases h1
  keep := fun b o hb e => by
    refine y.keep b o (fun hc => ?_) (x.keep b o hb e)
    rcases x.new b hc with h1 | h1
    · exact hb h1
    · rw [h1] at e; cases e
theorem Ext.of_keep {φ : Phi} {h h' : Heap} (k : ∀ b o, h.get? b = some o → h'.get? b = some o) : Ext φ φ h h' :=
  ⟨List.prefix_rfl, fun _ h => .inl h, fun b o _ e => k b o e⟩
theorem zf3 {α : Type} {a b : List α} (h : a <+: b) {i : Nat} {x : α} (e : a[i]? = some x) : b[i]? = some x := by
  obtain ⟨t, rfl⟩ := h
  have := (List.getElem?_eq_some_iff.mp e).1
  rw [List.getElem?_append_left this]; exact e
noncomputable def isMut (o : Obj) : Prop := ∀ vs n a b t u v, o ≠ tupObj vs n ∧ o ≠ rngObj a b t u v
structure KeepI (φ φ' : Phi) (h h' : Heap) : Prop where
  pre : φ <+: φ'
  keep : ∀ b o, ¬ isMut o → h.get? b = some o → h'.get? b = some o
theorem zf4 {vs : List Value} {n : Nat} : ¬ isMut (tupObj vs n) := fun h => (h vs n 0 0 0 0 0).1 rfl
theorem zor {a b : Int} {t u v : Tok} : ¬ isMut (rngObj a b t u v) := fun h => (h [] 0 a b t u v).2 rfl
theorem VR.keepI {φ φ' : Phi} {h h' : Heap} (x : KeepI φ φ' h h') {v : Value} {m : MV} (r : VR h φ v m) : VR h' φ' v m :=
  @VR.rec h φ (fun v m _ => VR h' φ' v m) (fun vs ms _ => VRs h' φ' vs ms) .none (fun b => .bool b) (fun i t => .int i t) (fun s t => .str s t) (fun e _ r => .tuple (x.keep _ _ zf4 e) r)
    (fun e => .range (x.keep _ _ zor e)) (fun e => .ref (zf3 x.pre e)) (fun a => .frozen a) .nil (fun _ _ a b => .cons a b) v m r
theorem VRs.walk {φ φ' : Phi} {h h' : Heap} (hv : ∀ v m, VR h φ v m → VR h' φ' v m) {vs : List Value} {ms : List MV} (r : VRs h φ vs ms) : VRs h' φ' vs ms :=
  @VRs.rec h φ (fun _ _ _ => True) (fun vs ms _ => VRs h' φ' vs ms) trivial (fun _ => trivial) (fun _ _ => trivial) (fun _ _ => trivial) (fun _ _ _ => trivial) (fun _ => trivial) (fun _ => trivial) (fun _ => trivial)
    .nil (fun a _ _ b => .cons (hv _ _ a) b) vs ms r
theorem VRs.keepI {φ φ' : Phi} {h h' : Heap} (x : KeepI φ φ' h h') {vs : List Value} {ms : List MV} (r : VRs h φ vs ms) : VRs h' φ' vs ms := r.walk fun _ _ => VR.keepI x
theorem Ext.keepI {φ φ' : Phi} {h h' : Heap} (x : Ext φ φ' h h') (hm : ∀ a ∈ addrs φ, ∀ o, h.get? a = some o → isMut o) : KeepI φ φ' h h' := ⟨x.pre, fun b o n e => x.keep b o (fun ha => n (hm b ha o e)) e⟩
theorem VR.keep {φ φ' : Phi} {h h' : Heap} (x : Ext φ φ' h h') (hm : ∀ a ∈ addrs φ, ∀ o, h.get? a = some o → isMut o) {v : Value} {m : MV} (r : VR h φ v m) : VR h' φ' v m := r.keepI (x.keepI hm)
theorem VRs.keep {φ φ' : Phi} {h h' : Heap} (x : Ext φ φ' h h') (hm : ∀ a ∈ addrs φ, ∀ o, h.get? a = some o → isMut o) {vs : List Value} {ms : List MV} (r : VRs h φ vs ms) : VRs h' φ' vs ms := r.keepI (x.keepI hm)
section
variable {h : Heap} {φ : Phi} {v : Value} {m : MV} {vs ws : List Value} {ms ns : List MV}
theorem VRs.length (x : VRs h φ vs ms) : vs.length = ms.length := by
  induction vs generalizing ms with
  | nil => cases x; rfl
  | cons v vs ih => cases x with | cons _ r => simp [ih r]
theorem VRs.append (x : VRs h φ vs ms) (y : VRs h φ ws ns) : VRs h φ (vs ++ ws) (ms ++ ns) := by
  induction vs generalizing ms with
  | nil => cases x; exact y
  | cons v vs ih => cases x with | cons a r => exact .cons a (ih r)
theorem VRs.get (x : VRs h φ vs ms) {k : Nat} (e : ms[k]? = some m) : ∃ v, vs[k]? = some v ∧ VR h φ v m := by
  induction vs generalizing ms k with
  | nil => cases x; simp at e
  | cons v vs ih =>
    cases x with
    | cons a r =>
      cases k with
      | zero => simp at e; subst e; exact ⟨v, rfl, a⟩
      | succ k => exact ih r (by simpa using e)
theorem VRs.set (x : VRs h φ vs ms) (y : VR h φ v m) (k : Nat) : VRs h φ (vs.set k v) (ms.set k m) := by
  induction vs generalizing ms k with
  | nil => cases x; exact .nil
  | cons w vs ih =>
    cases x with
    | cons a r =>
      cases k with
      | zero => exact .cons y r
      | succ k => exact .cons a (ih r k)
theorem VRs.take (x : VRs h φ vs ms) (k : Nat) : VRs h φ (vs.take k) (ms.take k) := by
  induction vs generalizing ms k with
  | nil => cases x; simp; exact .nil
  | cons w vs ih =>
    cases x with
    | cons a r =>
      cases k with
      | zero => exact .nil
      | succ k => exact .cons a (ih r k)
theorem VRs.drop (x : VRs h φ vs ms) (k : Nat) : VRs h φ (vs.drop k) (ms.drop k) := by
  induction vs generalizing ms k with
  | nil => cases x; simp; exact .nil
  | cons w vs ih =>
    cases x with
    | cons a r =>
      cases k with
      | zero => exact .cons a r
      | succ k => exact ih r k
theorem VRs.replicate (y : VR h φ v m) (k : Nat) : VRs h φ (List.replicate k v) (List.replicate k m) := by
  induction k with
  | zero => exact .nil
  | succ k ih => exact .cons y ih
theorem VRs.one (y : VR h φ v m) : VRs h φ [v] [m] := .cons y .nil
theorem VRs.ints {is : List Int} (x : VRs h φ vs (is.map MV.int)) : IntsAre vs is := by
  induction vs generalizing is with
  | nil => cases is with
    | nil => exact .nil
    | cons i is => cases x
  | cons v vs ih => cases is with
    | nil => cases x
    | cons i is =>
      cases x with
      | cons a r => cases a with | int i t => exact .cons i t (ih r)
theorem VRs.of_ints {is : List Int} (x : IntsAre vs is) : VRs h φ vs (is.map MV.int) := by
  induction x with
  | nil => exact .nil
  | cons i t _ ih => exact .cons (.int i t) ih
end
section
variable (prog : Program) (w : World) (K : Frag)
noncomputable def clsAt (c : Str) : Option Addr := match nsIn K mainGlobals c with
  | some (some (.ref a)) => some a
  | _ => none
inductive EsR (h : Heap) (φ : Phi) : List DictEntry → List (Str × MV) → Prop
  | nil : EsR h φ [] []
  | cons {hs : Int} {n : Str} {t : Tok} {v : Value} {m : MV} {es : List DictEntry} {fs : List (Str × MV)} : VR h φ v m → EsR h φ es fs → EsR h φ (⟨hs, .str n t, v⟩ :: es) ((n, m) :: fs)
inductive KvR {α : Type} (h : Heap) (φ : Phi) : List (α × Value) → List (α × MV) → Prop
  | nil : KvR h φ [] []
  | cons {k : α} {v : Value} {m : MV} {ks : List (α × Value)} {ms : List (α × MV)} : VR h φ v m → KvR h φ ks ms → KvR h φ ((k, v) :: ks) ((k, m) :: ms)
inductive OR (h : Heap) (φ : Phi) : Addr × Option Addr → MO → Prop
  | list {a : Addr} {vs : List Value} {n : Nat} {ms : List MV} : h.get? a = some (lstObj vs n) → VRs h φ vs ms → OR h φ (a, none) (.list ms)
  | idict {a : Addr} {ks : List (Int × Value)} {ms : List (Int × MV)} : h.DictOf (intKind prog w) a ks → KvR h φ ks ms → OR h φ (a, none) (.idict ms)
  | sdict {a : Addr} {ks : List (Str × Value)} {ms : List (Str × MV)} : h.DictOf (strKind prog w) a ks → KvR h φ ks ms → OR h φ (a, none) (.sdict ms)
  | set {a : Addr} {is : List Int} : is.Nodup → h.SetOf (intKind prog w) a (fun k => decide (k ∈ is)) is.length → OR h φ (a, none) (.set is)
  | inst {a d C : Addr} {c : Str} {es : List DictEntry} {n : Nat} {fs : List (Str × MV)} : clsAt K c = some C → h.get? a = some (instObj C d) → h.get? d = some (dictOf es n) → EsR h φ es fs → OR h φ (a, some d) (.inst c fs)
structure Hp (hB : Heap) (φ : Phi) (mh : MH) (h : Heap) : Prop where
  base : ∀ b o, hB.get? b = some o → h.get? b = some o
  len : φ.length = mh.length
  objs : ∀ (i : Nat) (o : MO) (p : Addr × Option Addr), mh[i]? = some o → φ[i]? = some p → OR prog w K h φ p o
  nodup : (addrs φ).Nodup
  off : ∀ a ∈ addrs φ, hB.get? a = none ∧ mainGlobals < a
end
section
variable {prog : Program} {w : World} {K : Frag} {hB h h' : Heap} {φ φ' : Phi} {mh : MH}
noncomputable def inP (p : Addr × Option Addr) (b : Addr) : Prop := b = p.1 ∨ p.2 = some b
theorem mem_addrs {φ : Phi} {b : Addr} : b ∈ addrs φ ↔ ∃ p ∈ φ, inP p b := by
  simp only [addrs, List.mem_flatMap, List.mem_cons, Option.mem_toList, inP]
theorem KvR.map {α : Type} {ks : List (α × Value)} {ms : List (α × MV)} (hv : ∀ v m, VR h φ v m → VR h' φ' v m) (x : KvR h φ ks ms) : KvR h' φ' ks ms := by
  induction x with
  | nil => exact .nil
  | cons a _ ih => exact .cons (hv _ _ a) ih
theorem EsR.map {es : List DictEntry} {fs : List (Str × MV)} (hv : ∀ v m, VR h φ v m → VR h' φ' v m) (x : EsR h φ es fs) : EsR h' φ' es fs := by
  induction x with
  | nil => exact .nil
  | cons a _ ih => exact .cons (hv _ _ a) ih
theorem VRs.map (hv : ∀ v m, VR h φ v m → VR h' φ' v m) {vs : List Value} {ms : List MV} (r : VRs h φ vs ms) : VRs h' φ' vs ms := r.walk hv
theorem OR.keep {p : Addr × Option Addr} {o : MO} (x : OR prog w K h φ p o) (hk : ∀ b ob, inP p b → h.get? b = some ob → h'.get? b = some ob)
    (hv : ∀ v m, VR h φ v m → VR h' φ' v m) : OR prog w K h' φ' p o := by
  cases x with
  | list e r => exact .list (hk _ _ (.inl rfl) e) (r.map hv)
  | idict e r => exact .idict (e.at fun o eo => hk _ _ (.inl rfl) eo) (r.map hv)
  | sdict e r => exact .sdict (e.at fun o eo => hk _ _ (.inl rfl) eo) (r.map hv)
  | set hn e => obtain ⟨o, es, ep, t, ho, r⟩ := e; exact .set hn ⟨o, es, ep, t, hk _ _ (.inl rfl) ho, r⟩
  | inst hc e1 e2 r => exact .inst hc (hk _ _ (.inl rfl) e1) (hk _ _ (.inr rfl) e2) (r.map hv)
theorem zd5 {o : Obj} (h1 : o.cls ≠ .type "tuple") (h2 : o.cls ≠ .type "range") : isMut o := by
  intro vs n a b t u v
  exact ⟨fun e => h1 (by rw [e]; rfl), fun e => h2 (by rw [e]; rfl)⟩
noncomputable def ORv (prog : Program) (w : World) (K : Frag) (h : Heap) (φ : Phi) (p : Addr × Option Addr) : MO → Prop
  | .list ms => X2 fun vs n => N3 (p.2 = none) (h.get? p.1 = some (lstObj vs n)) (VRs h φ vs ms)
  | .idict ms => ∃ ks, N3 (p.2 = none) (h.DictOf (intKind prog w) p.1 ks) (KvR h φ ks ms)
  | .sdict ms => ∃ ks, N3 (p.2 = none) (h.DictOf (strKind prog w) p.1 ks) (KvR h φ ks ms)
  | .set is => N3 (p.2 = none) is.Nodup (h.SetOf (intKind prog w) p.1 (fun k => decide (k ∈ is)) is.length)
  | .inst cl fs => X4 fun d' C es n => N5 (p.2 = some d') (clsAt K cl = some C) (h.get? p.1 = some (instObj C d')) (h.get? d' = some (dictOf es n)) (EsR h φ es fs)
theorem OR.view {p : Addr × Option Addr} {o : MO} (x : OR prog w K h φ p o) : ORv prog w K h φ p o :=
  @OR.casesOn prog w K h φ (fun p o _ => ORv prog w K h φ p o) p o x (fun e r => ⟨_, _, rfl, e, r⟩) (fun e r => ⟨_, rfl, e, r⟩) (fun e r => ⟨_, rfl, e, r⟩) (fun e r => ⟨rfl, e, r⟩) (fun a b c r => ⟨_, _, _, _, rfl, a, b, c, r⟩)
theorem OR.inv_list {a : Addr} {d : Option Addr} {ms : List MV} (x : OR prog w K h φ (a, d) (.list ms)) : X2 fun vs n => N3 (d = none) (h.get? a = some (lstObj vs n)) (VRs h φ vs ms) := x.view
theorem OR.inv_idict {a : Addr} {d : Option Addr} {ms : List (Int × MV)} (x : OR prog w K h φ (a, d) (.idict ms)) : ∃ ks, N3 (d = none) (h.DictOf (intKind prog w) a ks) (KvR h φ ks ms) := x.view
theorem OR.inv_sdict {a : Addr} {d : Option Addr} {ms : List (Str × MV)} (x : OR prog w K h φ (a, d) (.sdict ms)) : ∃ ks, N3 (d = none) (h.DictOf (strKind prog w) a ks) (KvR h φ ks ms) := x.view
theorem OR.inv_set {a : Addr} {d : Option Addr} {is : List Int} (x : OR prog w K h φ (a, d) (.set is)) : N3 (d = none) is.Nodup (h.SetOf (intKind prog w) a (fun k => decide (k ∈ is)) is.length) := x.view
theorem OR.inv_inst {a : Addr} {d : Option Addr} {cl : Str} {fs : List (Str × MV)} (x : OR prog w K h φ (a, d) (.inst cl fs)) :
    X4 fun d' C es n => N5 (d = some d') (clsAt K cl = some C) (h.get? a = some (instObj C d')) (h.get? d' = some (dictOf es n)) (EsR h φ es fs) := x.view
theorem zde {o : Obj} {T : String} (h : o.cls = .type T) (h1 : T ≠ "tuple") (h2 : T ≠ "range") : isMut o := zd5 (fun e => h1 (by rw [h] at e; exact Value.type.inj e)) fun e => h2 (by rw [h] at e; exact Value.type.inj e)
theorem OR.mutD {p : Addr × Option Addr} {o : MO} (x : OR prog w K h φ p o) : ∃ ob, h.get? p.1 = some ob ∧ isMut ob := by
  cases x with
  | list e1 r => exact ⟨_, e1, zde rfl (by decide) (by decide)⟩
  | idict e1 r => obtain ⟨o, es, ep, ho, hx, _⟩ := e1; exact ⟨_, ho, zde hx.1 (by decide) (by decide)⟩
  | sdict e1 r => obtain ⟨o, es, ep, ho, hx, _⟩ := e1; exact ⟨_, ho, zde hx.1 (by decide) (by decide)⟩
  | set hn e1 => obtain ⟨o, es, ep, t, ho, hx, _⟩ := e1; exact ⟨_, ho, zde hx.1 (by decide) (by decide)⟩
  | inst hc e1 e2 r => exact ⟨_, e1, zd5 (fun z => nomatch z) (fun z => nomatch z)⟩
theorem OR.mut2 {p : Addr × Option Addr} {o : MO} (x : OR prog w K h φ p o) {b : Addr} (hb : p.2 = some b) : ∃ ob, h.get? b = some ob ∧ isMut ob := by
  cases o with
  | inst cl fs => obtain ⟨d, C, es, n, e1, e2, e3, e4, r⟩ := x.view; rw [hb] at e1; cases e1; exact ⟨_, e4, zde rfl (by decide) (by decide)⟩
  | list => obtain ⟨_, _, e, _⟩ := x.view; rw [hb] at e; cases e
  | idict => obtain ⟨_, e, _⟩ := x.view; rw [hb] at e; cases e
  | sdict => obtain ⟨_, e, _⟩ := x.view; rw [hb] at e; cases e
  | set => obtain ⟨e, _⟩ := x.view; rw [hb] at e; cases e
theorem OR.has {p : Addr × Option Addr} {o : MO} (x : OR prog w K h φ p o) {b : Addr} (hb : inP p b) : ∃ ob, h.get? b = some ob ∧ isMut ob := by
  rcases hb with rfl | hb
  · exact x.mutD
  · exact x.mut2 hb
theorem OR.mut {p : Addr × Option Addr} {o : MO} (x : OR prog w K h φ p o) {b : Addr} {ob : Obj} (hb : inP p b) (e : h.get? b = some ob) : isMut ob := by
  obtain ⟨o', h1, h2⟩ := x.has hb
  rw [h1] at e; cases e; exact h2
theorem Hp.has (x : Hp prog w K hB φ mh h) {a : Addr} (ha : a ∈ addrs φ) : ∃ o, h.get? a = some o ∧ isMut o := by
  obtain ⟨p, hp, hb⟩ := mem_addrs.mp ha
  obtain ⟨i, hi, rfl⟩ := List.mem_iff_getElem.mp hp
  have hi' : i < mh.length := by rw [← x.len]; exact hi
  exact OR.has (x.objs i mh[i] φ[i] (by simp [hi']) (by simp [hi])) hb
theorem Hp.mut (x : Hp prog w K hB φ mh h) : ∀ a ∈ addrs φ, ∀ o, h.get? a = some o → isMut o := by
  intro a ha o e
  obtain ⟨o', h1, h2⟩ := x.has ha
  rw [h1] at e; cases e; exact h2
theorem Hp.lt (x : Hp prog w K hB φ mh h) : ∀ a ∈ addrs φ, a < h.objs.size := by
  intro a ha
  obtain ⟨o, e, _⟩ := x.has ha
  exact Heap.lt_size e
theorem Hp.keep (x : Hp prog w K hB φ mh h) (k : ∀ b o, h.get? b = some o → h'.get? b = some o) : Hp prog w K hB φ mh h' where
  base := fun b o e => k b o (x.base b o e)
  len := x.len
  objs := fun i o p e1 e2 => (x.objs i o p e1 e2).keep (fun b ob _ e => k b ob e) fun _ _ r => r.keep (.of_keep k) x.mut
  nodup := x.nodup
  off := x.off
theorem Hp.vr (x : Hp prog w K hB φ mh h) (y : Ext φ φ' h h') {v : Value} {m : MV} (r : VR h φ v m) : VR h' φ' v m := r.keep y x.mut
theorem Hp.vrs (x : Hp prog w K hB φ mh h) (y : Ext φ φ' h h') {v : List Value} {m : List MV} (r : VRs h φ v m) : VRs h' φ' v m := r.keep y x.mut
theorem fresh_none {h : Heap} {a : Addr} (ha : h.objs.size ≤ a) : h.get? a = none := by
  cases e : h.get? a with
  | none => rfl
  | some o => exact absurd (Heap.lt_size e) (Nat.not_lt.mpr ha)
theorem Hp.push (x : Hp prog w K hB φ mh h) {p : Addr × Option Addr} {o : MO} (hG : mainGlobals < h.objs.size) (k : ∀ b o, h.get? b = some o → h'.get? b = some o)
    (hnew : ∀ b, inP p b → h.objs.size ≤ b) (hpn : p.2 ≠ some p.1) (ho : ∀ φ', φ' = φ ++ [p] → OR prog w K h' φ' p o) :
    Hp prog w K hB (φ ++ [p]) (mh ++ [o]) h' ∧ Ext φ (φ ++ [p]) h h' := by
  have hadr : addrs (φ ++ [p]) = addrs φ ++ (p.1 :: p.2.toList) := by simp [addrs]
  have hE : Ext φ (φ ++ [p]) h h' := by
    refine ⟨List.prefix_append _ _, fun a ha => ?_, fun b o _ e => k b o e⟩
    rw [hadr] at ha
    rcases List.mem_append.mp ha with h1 | h1
    · exact .inl h1
    · refine .inr (fresh_none (hnew a ?_))
      rcases List.mem_cons.mp h1 with h2 | h2
      · exact .inl h2
      · exact .inr (by simpa using h2)
  refine ⟨⟨fun b o e => k b o (x.base b o e), by simp [x.len], fun i o' p' e1 e2 => ?_, ?_, fun a ha => ?_⟩, hE⟩
  · by_cases hi : i < mh.length
    · rw [List.getElem?_append_left hi] at e1
      rw [List.getElem?_append_left (by rw [x.len]; exact hi)] at e2
      exact (x.objs i o' p' e1 e2).keep (fun b ob _ e => k b ob e) fun _ _ r => r.keep hE x.mut
    · have hi' : i = mh.length := by
        have := (List.getElem?_eq_some_iff.mp e1).1
        simp at this; omega
      subst hi'
      simp at e1
      rw [← x.len] at e2
      simp at e2
      subst e1 e2
      exact ho _ rfl
  · rw [hadr, List.nodup_append]
    refine ⟨x.nodup, ?_, ?_⟩
    · obtain ⟨a, d⟩ := p
      cases d with
      | none => simp
      | some d => simp at hpn; simp; exact fun e => hpn e.symm
    · intro a ha b hb e
      subst e
      have h1 := x.lt a ha
      have h3 : h.objs.size ≤ a := hnew a (by
        rcases List.mem_cons.mp hb with h2 | h2
        · exact .inl h2
        · exact .inr (by simpa using h2))
      exact absurd h1 (Nat.not_lt.mpr h3)
  · rw [hadr] at ha
    rcases List.mem_append.mp ha with h1 | h1
    · exact x.off a h1
    · have h3 : h.objs.size ≤ a := hnew a (by
        rcases List.mem_cons.mp h1 with h2 | h2
        · exact .inl h2
        · exact .inr (by simpa using h2))
      refine ⟨?_, Nat.lt_of_lt_of_le hG h3⟩
      cases e : hB.get? a with
      | none => rfl
      | some o => exact absurd (Heap.lt_size (x.base a o e)) (Nat.not_lt.mpr h3)
theorem zqc {φ : Phi} (hn : (addrs φ).Nodup) {i j : Nat} {p q : Addr × Option Addr} (hi : φ[i]? = some p) (hj : φ[j]? = some q) {b : Addr} (hp : inP p b) (hq : inP q b) : i = j := by
  induction φ generalizing i j with
  | nil => simp at hi
  | cons x φ ih =>
    have hadr : addrs (x :: φ) = (x.1 :: x.2.toList) ++ addrs φ := by simp [addrs]
    rw [hadr, List.nodup_append] at hn
    have memx : ∀ {y}, inP x y → y ∈ x.1 :: x.2.toList := fun hy => by
      rcases hy with h2 | h2
      · subst h2; exact .head _
      · exact List.mem_cons_of_mem _ (by simpa using h2)
    cases i with
    | zero =>
      cases j with
      | zero => rfl
      | succ j =>
        simp at hi hj; subst hi
        exact absurd rfl (hn.2.2 b (memx hp) b (mem_addrs.mpr ⟨q, List.mem_of_getElem? hj, hq⟩))
    | succ i =>
      cases j with
      | zero =>
        simp at hi hj; subst hj
        exact absurd rfl (hn.2.2 b (memx hq) b (mem_addrs.mpr ⟨p, List.mem_of_getElem? hi, hp⟩))
      | succ j => exact congrArg (· + 1) (ih hn.2.1 (i := i) (j := j) (by simpa using hi) (by simpa using hj))
theorem Hp.update (x : Hp prog w K hB φ mh h) {r : Nat} {p : Addr × Option Addr} {o : MO} (hp : φ[r]? = some p)
    (k : ∀ b ob, ¬ inP p b → h.get? b = some ob → h'.get? b = some ob) (ho : (∀ v m, VR h φ v m → VR h' φ v m) → OR prog w K h' φ p o) :
    Hp prog w K hB φ (mh.set r o) h' ∧ Ext φ φ h h' := by
  have hin : ∀ b, inP p b → b ∈ addrs φ := fun b hb => mem_addrs.mpr ⟨p, List.mem_of_getElem? hp, hb⟩
  have hE : Ext φ φ h h' := ⟨List.prefix_rfl, fun _ h => .inl h, fun b ob hb e => k b ob (fun q => hb (hin b q)) e⟩
  have hv : ∀ v m, VR h φ v m → VR h' φ v m := fun v m r => r.keep hE x.mut
  refine ⟨⟨fun b ob e => k b ob (fun q => ?_) (x.base b ob e), by simp [x.len], fun i o' p' e1 e2 => ?_, x.nodup, x.off⟩, hE⟩
  · have := (x.off b (hin b q)).1; rw [e] at this; cases this
  · by_cases hi : r = i
    · subst hi
      rw [hp] at e2; cases e2
      have hr : r < mh.length := by rw [← x.len]; exact (List.getElem?_eq_some_iff.mp hp).1
      rw [List.getElem?_set_self hr] at e1
      cases e1; exact ho hv
    · rw [List.getElem?_set_ne hi] at e1
      exact (x.objs i o' p' e1 e2).keep (fun b ob hb e => k b ob (fun q => hi (zqc x.nodup hp e2 q hb)) e) hv
theorem Hp.deref (x : Hp prog w K hB φ mh h) {a : Addr} {r : Nat} {o : MO} (hv : VR h φ (.ref a) (.ref r)) (e : mh[r]? = some o) : ∃ d, φ[r]? = some (a, d) ∧ OR prog w K h φ (a, d) o := by
  cases hv with
  | @ref _ d _ hr => exact ⟨d, hr, x.objs r o _ e hr⟩
theorem Hp.ref_at (x : Hp prog w K hB φ mh h) {v : Value} {r : Nat} {o : MO} (hv : VR h φ v (.ref r)) (e : mh[r]? = some o) : X2 fun a d => N3 (v = .ref a) (φ[r]? = some (a, d)) (OR prog w K h φ (a, d) o) := by
  obtain ⟨a, d, rfl, f⟩ := hv.inv_ref
  exact ⟨a, d, rfl, f, x.objs r o _ e f⟩
theorem Hp.list_at (x : Hp prog w K hB φ mh h) {v : Value} {r : Nat} {ms : List MV} (hv : VR h φ v (.ref r)) (e : mh[r]? = some (.list ms)) : X3 fun a vs n => N4 (v = .ref a) (φ[r]? = some (a, none)) (h.get? a = some (lstObj vs n)) (VRs h φ vs ms) := by
  obtain ⟨a, d, rfl, f, o⟩ := x.ref_at hv e
  obtain ⟨vs, n, rfl, g, R⟩ := o.inv_list
  exact ⟨a, vs, n, rfl, f, g, R⟩
theorem Hp.idict_at (x : Hp prog w K hB φ mh h) {v : Value} {r : Nat} {ms : List (Int × MV)} (hv : VR h φ v (.ref r)) (e : mh[r]? = some (.idict ms)) : X2 fun a ks => N4 (v = .ref a) (φ[r]? = some (a, none)) (h.DictOf (intKind prog w) a ks) (KvR h φ ks ms) := by
  obtain ⟨a, d, rfl, f, o⟩ := x.ref_at hv e
  obtain ⟨ks, rfl, g, R⟩ := o.inv_idict
  exact ⟨a, ks, rfl, f, g, R⟩
theorem Hp.sdict_at (x : Hp prog w K hB φ mh h) {v : Value} {r : Nat} {ms : List (Str × MV)} (hv : VR h φ v (.ref r)) (e : mh[r]? = some (.sdict ms)) : X2 fun a ks => N4 (v = .ref a) (φ[r]? = some (a, none)) (h.DictOf (strKind prog w) a ks) (KvR h φ ks ms) := by
  obtain ⟨a, d, rfl, f, o⟩ := x.ref_at hv e
  obtain ⟨ks, rfl, g, R⟩ := o.inv_sdict
  exact ⟨a, ks, rfl, f, g, R⟩
theorem Hp.set_at (x : Hp prog w K hB φ mh h) {v : Value} {r : Nat} {is : List Int} (hv : VR h φ v (.ref r)) (e : mh[r]? = some (.set is)) : ∃ a, N4 (v = .ref a) (φ[r]? = some (a, none)) is.Nodup (h.SetOf (intKind prog w) a (fun k => decide (k ∈ is)) is.length) := by
  obtain ⟨a, d, rfl, f, o⟩ := x.ref_at hv e
  obtain ⟨rfl, g, R⟩ := o.inv_set
  exact ⟨a, rfl, f, g, R⟩
end
theorem nil_of {P : List MV → Prop} {l : List MV} (q : P l) (h : ∀ a r, P (a :: r) → False) : l = [] := by
  cases l with
  | nil => rfl
  | cons a r => exact (h a r q).elim
theorem MV.is_int {P : MV → Prop} {v : MV} (q : P v) (hnone : P .none → False) (hbool : ∀ b, P (.bool b) → False) (hstr : ∀ b, P (.str b) → False) (htuple : ∀ b, P (.tuple b) → False) (hrange : ∀ a b, P (.range a b) → False) (href : ∀ b, P (.ref b) → False) (hfrozen : ∀ b, P (.frozen b) → False) : ∃ i, v = .int i := by
  cases v with
  | none  => exact (hnone q).elim
  | bool b => exact (hbool b q).elim
  | int b => exact ⟨b, rfl⟩
  | str b => exact (hstr b q).elim
  | tuple b => exact (htuple b q).elim
  | range a b => exact (hrange a b q).elim
  | ref b => exact (href b q).elim
  | frozen b => exact (hfrozen b q).elim
theorem MV.is_ref {P : MV → Prop} {v : MV} (q : P v) (hnone : P .none → False) (hbool : ∀ b, P (.bool b) → False) (hint : ∀ b, P (.int b) → False) (hstr : ∀ b, P (.str b) → False) (htuple : ∀ b, P (.tuple b) → False) (hrange : ∀ a b, P (.range a b) → False) (hfrozen : ∀ b, P (.frozen b) → False) : ∃ i, v = .ref i := by
  cases v with
  | none  => exact (hnone q).elim
  | bool b => exact (hbool b q).elim
  | int b => exact (hint b q).elim
  | str b => exact (hstr b q).elim
  | tuple b => exact (htuple b q).elim
  | range a b => exact (hrange a b q).elim
  | ref b => exact ⟨b, rfl⟩
  | frozen b => exact (hfrozen b q).elim
theorem MV.is_src {P : MV → Prop} {v : MV} (q : P v) (hnone : P .none → False) (hbool : ∀ b, P (.bool b) → False) (hint : ∀ b, P (.int b) → False) (hstr : ∀ b, P (.str b) → False) (hfrozen : ∀ b, P (.frozen b) → False) : (∃ vs, v = .tuple vs) ∨ (∃ x y, v = .range x y) ∨ ∃ i, v = .ref i := by
  cases v with
  | none  => exact (hnone q).elim
  | bool b => exact (hbool b q).elim
  | int b => exact (hint b q).elim
  | str b => exact (hstr b q).elim
  | tuple b => exact .inl ⟨b, rfl⟩
  | range a b => exact .inr (.inl ⟨a, b, rfl⟩)
  | ref b => exact .inr (.inr ⟨b, rfl⟩)
  | frozen b => exact (hfrozen b q).elim
theorem hd_of {P : List MV → Prop} {l : List MV} (q : P l) (h : P [] → False) : ∃ v r, l = v :: r := by
  cases l with
  | nil => exact (h q).elim
  | cons a r => exact ⟨a, r, rfl⟩
theorem MO.is_list {P : Option MO → Prop} {o : Option MO} (q : P o) (h0 : P none → False) (h1 : ∀ x, P (some (.idict x)) → False) (h2 : ∀ x, P (some (.sdict x)) → False) (h3 : ∀ x, P (some (.set x)) → False) (h4 : ∀ a x, P (some (.inst a x)) → False) : ∃ ws, o = some (.list ws) := by
  cases o with
  | none => exact (h0 q).elim
  | some x => cases x with
    | list ws => exact ⟨ws, rfl⟩
    | idict x => exact (h1 x q).elim
    | sdict x => exact (h2 x q).elim
    | set x => exact (h3 x q).elim
    | inst a x => exact (h4 a x q).elim
theorem MO.is_seq {P : Option MO → Prop} {o : Option MO} (q : P o) (h0 : P none → False) (h2 : ∀ x, P (some (.sdict x)) → False) (h3 : ∀ x, P (some (.set x)) → False) (h4 : ∀ a x, P (some (.inst a x)) → False) : (∃ ws, o = some (.list ws)) ∨ ∃ ks, o = some (.idict ks) := by
  cases o with
  | none => exact (h0 q).elim
  | some x => cases x with
    | list ws => exact .inl ⟨ws, rfl⟩
    | idict x => exact .inr ⟨x, rfl⟩
    | sdict x => exact (h2 x q).elim
    | set x => exact (h3 x q).elim
    | inst a x => exact (h4 a x q).elim
theorem zej {P : List MV → Prop} {l : List MV} (q : P l) (h0 : P [] → False) (hnone : ∀ r, P (.none :: r) → False) (hbool : ∀ b r, P (.bool b :: r) → False) (hstr : ∀ b r, P (.str b :: r) → False) (htuple : ∀ b r, P (.tuple b :: r) → False) (hrange : ∀ a b r, P (.range a b :: r) → False) (href : ∀ b r, P (.ref b :: r) → False) (hfrozen : ∀ b r, P (.frozen b :: r) → False) : ∃ i r, l = .int i :: r := by
  cases l with
  | nil => exact (h0 q).elim
  | cons v r => cases v with
    | none  => exact (hnone  r q).elim
    | bool b => exact (hbool b r q).elim
    | int b => exact ⟨b, r, rfl⟩
    | str b => exact (hstr b r q).elim
    | tuple b => exact (htuple b r q).elim
    | range a b => exact (hrange a b r q).elim
    | ref b => exact (href b r q).elim
    | frozen b => exact (hfrozen b r q).elim
theorem zkr {P : List MV → Prop} {l : List MV} (q : P l) (h0 : P [] → False) (hnone : ∀ r, P (.none :: r) → False) (hbool : ∀ b r, P (.bool b :: r) → False) (hint : ∀ b r, P (.int b :: r) → False) (hstr : ∀ b r, P (.str b :: r) → False) (htuple : ∀ b r, P (.tuple b :: r) → False) (hrange : ∀ a b r, P (.range a b :: r) → False) (hfrozen : ∀ b r, P (.frozen b :: r) → False) : ∃ i r, l = .ref i :: r := by
  cases l with
  | nil => exact (h0 q).elim
  | cons v r => cases v with
    | none  => exact (hnone  r q).elim
    | bool b => exact (hbool b r q).elim
    | int b => exact (hint b r q).elim
    | str b => exact (hstr b r q).elim
    | tuple b => exact (htuple b r q).elim
    | range a b => exact (hrange a b r q).elim
    | ref b => exact ⟨b, r, rfl⟩
    | frozen b => exact (hfrozen b r q).elim
theorem args_tr {P : List MV → Prop} {l : List MV} (q : P l) (h0 : P [] → False) (hnone : ∀ r, P (.none :: r) → False) (hbool : ∀ b r, P (.bool b :: r) → False) (hint : ∀ b r, P (.int b :: r) → False) (hstr : ∀ b r, P (.str b :: r) → False) (hrange : ∀ a b r, P (.range a b :: r) → False) (hfrozen : ∀ b r, P (.frozen b :: r) → False) : (∃ vs r, l = .tuple vs :: r) ∨ ∃ i r, l = .ref i :: r := by
  cases l with
  | nil => exact (h0 q).elim
  | cons v r => cases v with
    | none  => exact (hnone  r q).elim
    | bool b => exact (hbool b r q).elim
    | int b => exact (hint b r q).elim
    | str b => exact (hstr b r q).elim
    | tuple b => exact .inl ⟨b, r, rfl⟩
    | range a b => exact (hrange a b r q).elim
    | ref b => exact .inr ⟨b, r, rfl⟩
    | frozen b => exact (hfrozen b r q).elim
theorem args_rr {P : List MV → Prop} {l : List MV} (q : P l) (h0 : P [] → False) (hnone : ∀ r, P (.none :: r) → False) (hbool : ∀ b r, P (.bool b :: r) → False) (hint : ∀ b r, P (.int b :: r) → False) (hstr : ∀ b r, P (.str b :: r) → False) (htuple : ∀ b r, P (.tuple b :: r) → False) (hfrozen : ∀ b r, P (.frozen b :: r) → False) : (∃ a b r, l = .range a b :: r) ∨ ∃ i r, l = .ref i :: r := by
  cases l with
  | nil => exact (h0 q).elim
  | cons v r => cases v with
    | none  => exact (hnone  r q).elim
    | bool b => exact (hbool b r q).elim
    | int b => exact (hint b r q).elim
    | str b => exact (hstr b r q).elim
    | tuple b => exact (htuple b r q).elim
    | range a b => exact .inl ⟨a, b, r, rfl⟩
    | ref b => exact .inr ⟨b, r, rfl⟩
    | frozen b => exact (hfrozen b r q).elim
theorem zsy {P : List MV → Prop} {l : List MV} (q : P l) (h0 : P [] → False) (hnone : ∀ r, P (.none :: r) → False) (hbool : ∀ b r, P (.bool b :: r) → False) (hint : ∀ b r, P (.int b :: r) → False) (hstr : ∀ b r, P (.str b :: r) → False) (hfrozen : ∀ b r, P (.frozen b :: r) → False) : (∃ vs r, l = .tuple vs :: r) ∨ (∃ a b r, l = .range a b :: r) ∨ ∃ i r, l = .ref i :: r := by
  cases l with
  | nil => exact (h0 q).elim
  | cons v r => cases v with
    | none  => exact (hnone  r q).elim
    | bool b => exact (hbool b r q).elim
    | int b => exact (hint b r q).elim
    | str b => exact (hstr b r q).elim
    | tuple b => exact .inl ⟨b, r, rfl⟩
    | range a b => exact .inr (.inl ⟨a, b, r, rfl⟩)
    | ref b => exact .inr (.inr ⟨b, r, rfl⟩)
    | frozen b => exact (hfrozen b r q).elim
end Mine
end
section
namespace Mine
structure Cx where
  prog : Program
  w : World
  K : Frag
  hB : Heap
  kin : K.In hB
  mg : Str → Option Value
  mb : Str → Option Value
  g : hB.Ns mainGlobals mg
  b : hB.Ns builtinsNs mb
  nolimit : hB.NoLimit
  builtins : ∀ x : Str, x ≠ "__name__" → mb x = bootBuiltins x
noncomputable abbrev Cx.Hp (c : Cx) : Phi → MH → Heap → Prop := Mine.Hp c.prog c.w c.K c.hB
noncomputable abbrev Cx.M (c : Cx) : Model := model c.prog c.w
structure Room (A : Around) (d : Nat) : Prop where
  handled : A.handled = none
  depth : A.depth + 4 * d + 4 < recursionLimit
  units : A.units + 16 * d + 400 < cLine
theorem Room.le {A : Around} {d e : Nat} (x : Room A d) (h : e ≤ d) : Room A e := ⟨x.handled, by have := x.depth; omega, by have := x.units; omega⟩
theorem Room.deeper {A : Around} {d : Nat} {env : Env} (x : Room A (d + 1)) : Room (A.deeper env) d :=
  ⟨x.handled, by have := x.depth; show A.depth + 1 + 4 * d + 4 < _; omega, by have := x.units; show A.units + 3 + 16 * d + 400 < _; omega⟩
structure EnvOk (env : Env) (sc : Scope) : Prop where
  scope : env.scope = sc
  kind : sc.kind = .function
  globals : env.globals = mainGlobals
  builtins : env.builtins = builtinsNs
noncomputable def ownCell (env : Env) (b : Addr) : Prop := ∃ x, env.kindOf x = some .cell ∧ env.cells.lookup x = some b
noncomputable def ownAt (env : Env) (b : Addr) : Prop := b = env.locals ∨ ownCell env b
structure FrR (c : Cx) (env : Env) (loc : Loc) (φ : Phi) (h : Heap) : Prop where
  ns : ∃ m, h.Ns env.locals m ∧ ∀ x v, loc x = some v → env.kindOf x = some .local → ∃ a, m x = some a ∧ VR h φ a v
  cells : ∀ x v, loc x = some v → (env.kindOf x = some .cell ∨ env.kindOf x = some .free) → ∃ b a, env.cells.lookup x = some b ∧ h.IsCell b (some a) ∧ VR h φ a v
  own : ∀ x, (env.kindOf x = some .cell ∨ env.kindOf x = some .free) → (env.cells.lookup x).isSome = true
  are : ∀ x b, env.cells.lookup x = some b → ∃ o, h.IsCell b o
  offL : env.locals ∉ addrs φ
  offC : ∀ x b, env.cells.lookup x = some b → b ∉ addrs φ
  inj : ∀ x y b, env.cells.lookup x = some b → env.cells.lookup y = some b → x = y
  baseL : c.hB.get? env.locals = none
  baseC : ∀ x b, env.kindOf x = some .cell → env.cells.lookup x = some b → c.hB.get? b = none
theorem ns_at {h h' : Heap} {a : Addr} {m : Str → Option Value} (hn : h.Ns a m) (e : ∀ o, h.get? a = some o → h'.get? a = some o) : h'.Ns a m :=
  let ⟨o, es, ep, x, r⟩ := hn; ⟨o, es, ep, e _ x, r⟩
section
variable {c : Cx} {env : Env} {loc : Loc} {φ φ' : Phi} {mh : MH} {h h' : Heap}
theorem FrR.ext (F : FrR c env loc φ h) (H : c.Hp φ mh h) (x : Ext φ φ' h h') : FrR c env loc φ' h' := by
  obtain ⟨⟨m, hn, hl⟩, hc, ho, ha, f1, f2, f3, f4, f5⟩ := F
  have hlt : env.locals < h.objs.size := hn.lt
  refine ⟨⟨m, ns_at hn fun o e => x.keep _ o f1 e, fun y v e k => ?_⟩, fun y v e k => ?_, ho, fun y b e => ?_, fun hq => ?_, fun y b e hq => ?_, f3, f4, f5⟩
  · obtain ⟨a, e1, r⟩ := hl y v e k
    exact ⟨a, e1, H.vr x r⟩
  · obtain ⟨b, a, e1, ⟨o, eo, ed⟩, r⟩ := hc y v e k
    exact ⟨b, a, e1, ⟨o, x.keep _ o (f2 y b e1) eo, ed⟩, H.vr x r⟩
  · obtain ⟨o, ob, eo, ed⟩ := ha y b e
    exact ⟨o, ob, x.keep _ ob (f2 y b e) eo, ed⟩
  · rcases x.new _ hq with h1 | h1
    · exact f1 h1
    · obtain ⟨oo, _, _, e, _⟩ := hn; rw [h1] at e; cases e
  · rcases x.new _ hq with h1 | h1
    · exact f2 y b e h1
    · obtain ⟨o, ob, eo, ed⟩ := ha y b e
      rw [h1] at eo; cases eo
end
noncomputable def Out (c : Cx) (φ : Phi) (s : Shared) (Q : MV → MH → Prop) (P : Value → Shared → Prop) : Prop :=
  ∀ v mv φ' mh' h' tk, Q mv mh' → Ext φ φ' s.heap h' → c.Hp φ' mh' h' → VR h' φ' v mv → P v { s with heap := h', toks := tk }
noncomputable abbrev ME := Loc → (MV → MH → Prop) → MH → Prop
noncomputable def SE (c : Cx) (sc : Scope) (d : Nat) (e : Expr) (m : ME) : Prop :=
  ∀ (A : Around) (env : Env) (loc : Loc) (φ : Phi) (mh : MH) (s : Shared) (Q : MV → MH → Prop) (P : Value → Shared → Prop) (E : Value → Shared → Prop),
    Room A d → EnvOk env sc → c.Hp φ mh s.heap → FrR c env loc φ s.heap → m loc Q mh → Out c φ s Q P → wpAny c.M A (eval e env) P E s
theorem Out.trans {c : Cx} {φ φ' : Phi} {s : Shared} {h' : Heap} {tk : Nat} {Q : MV → MH → Prop} {P : Value → Shared → Prop} (o : Out c φ s Q P) (x : Ext φ φ' s.heap h') :
    Out c φ' { s with heap := h', toks := tk } Q P := fun v mv φ'' mh'' h'' tk' q e H r => o v mv φ'' mh'' h'' tk' q (x.trans e) H r
theorem Out.same {c : Cx} {φ : Phi} {mh : MH} {s : Shared} {Q : MV → MH → Prop} {P : Value → Shared → Prop} (o : Out c φ s Q P) (H : c.Hp φ mh s.heap) {v : Value} {mv : MV} {tk : Nat} (q : Q mv mh)
    (r : VR s.heap φ v mv) : P v { s with toks := tk } := o v mv φ mh s.heap tk q (.refl _ _) H r
theorem Out.same' {c : Cx} {φ : Phi} {mh : MH} {s : Shared} {Q : MV → MH → Prop} {P : Value → Shared → Prop} (o : Out c φ s Q P) (H : c.Hp φ mh s.heap) {v : Value} {mv : MV} (q : Q mv mh)
    (r : VR s.heap φ v mv) : P v s := o v mv φ mh s.heap s.toks q (.refl _ _) H r
section
variable {c : Cx} {sc : Scope} {d : Nat}
@[reducible] noncomputable def mConst (v : MV) : ME := fun _ Q mh => Q v mh
theorem se_int {i : Int} {k : Nat} {pos : Pos} : SE c sc d (.Constant (.int i) k pos) (mConst (.int i)) :=
  fun A env loc φ mh s Q P E hr he H F q o => wpAny_Constant_int (o.same H q (.int _ _))
theorem se_str {x : Str} {k : Nat} {pos : Pos} : SE c sc d (.Constant (.str x) k pos) (mConst (.str x)) :=
  fun A env loc φ mh s Q P E hr he H F q o => Constant_str (o.same H q (.str _ _))
theorem se_none {k : Nat} {pos : Pos} : SE c sc d (.Constant .none k pos) (mConst .none) :=
  fun A env loc φ mh s Q P E hr he H F q o => wpAny_pure (o.same' H q .none)
theorem se_bool {b : Bool} {k : Nat} {pos : Pos} : SE c sc d (.Constant (.bool b) k pos) (mConst (.bool b)) :=
  fun A env loc φ mh s Q P E hr he H F q o => wpAny_pure (o.same' H q (.bool _))
noncomputable def mName (x : Str) : ME := fun loc Q mh => ∃ v, loc x = some v ∧ Q v mh
theorem zaa {x : Str} {pos : Pos} (hk : sc.names.lookup x = some .local) (hd : (x == ("__debug__" : Str)) = false) : SE c sc d (.Name x pos) (mName x) :=
  fun A env loc φ mh s Q P E hr he H F q o => by
    obtain ⟨v, hv, q⟩ := q
    obtain ⟨m, hn, hl⟩ := F.ns
    have hk' : env.kindOf x = some .local := by unfold Env.kindOf; rw [he.scope]; exact hk
    obtain ⟨a, e1, r⟩ := hl x v hv hk'
    exact wpAny_Name (wpAny_loadName_local (by rw [he.scope]; exact he.kind) hk' hn e1 (o.same' H q r)) hd
theorem zab {x : Str} {pos : Pos} (hk : sc.names.lookup x = some .cell) (hd : (x == ("__debug__" : Str)) = false) : SE c sc d (.Name x pos) (mName x) :=
  fun A env loc φ mh s Q P E hr he H F q o => by
    obtain ⟨v, hv, q⟩ := q
    have hk' : env.kindOf x = some .cell := by unfold Env.kindOf; rw [he.scope]; exact hk
    obtain ⟨b, a, e1, e2, r⟩ := F.cells x v hv (.inl hk')
    exact wpAny_Name (wpAny_loadName_cell (by rw [he.scope]; exact he.kind) hk' e1 e2 (o.same' H q r)) hd
theorem two {l r : Expr} {ml mr : ME} (hl : SE c sc d l ml) (hr : SE c sc d r mr) {A : Around} {env : Env} {loc : Loc} {φ : Phi} {mh : MH} {s : Shared} {Q2 : MV → MV → MH → Prop} {P : Value → Value → Shared → Prop} {E : Value → Shared → Prop}
    (hroom : Room A d) (he : EnvOk env sc) (H : c.Hp φ mh s.heap) (F : FrR c env loc φ s.heap) (q : ml loc (fun a mh => mr loc (fun b mh => Q2 a b mh) mh) mh)
    (o : ∀ a b ma mb φ' mh' h' tk, Q2 ma mb mh' → Ext φ φ' s.heap h' → c.Hp φ' mh' h' → VR h' φ' a ma → VR h' φ' b mb → P a b { s with heap := h', toks := tk }) :
    wpAny c.M A (eval l env) (fun a s₁ => wpAny c.M A (eval r env) (fun b s₂ => P a b s₂) E s₁) E s := by
  refine hl A env loc φ mh s _ _ E hroom he H F q fun a ma φ1 mh1 h1 tk1 q1 x1 H1 r1 => ?_
  refine hr A env loc φ1 mh1 _ _ _ E hroom he H1 (F.ext H x1) q1 fun b mb φ2 mh2 h2 tk2 q2 x2 H2 r2 => ?_
  exact o a b ma mb φ2 mh2 h2 tk2 q2 (x1.trans x2) H2 (H1.vr x2 r1) r2
noncomputable abbrev MOp := MV → MV → (MV → MH → Prop) → MH → Prop
noncomputable def OpS (c : Cx) (d : Nat) (op : Operator) (f : MOp) : Prop :=
  ∀ (A : Around) (φ : Phi) (mh : MH) (s : Shared) (Q : MV → MH → Prop) (P : Value → Shared → Prop) (E : Value → Shared → Prop) (a b : Value) (ma mb : MV),
    Room A d → c.Hp φ mh s.heap → VR s.heap φ a ma → VR s.heap φ b mb → f ma mb Q mh → Out c φ s Q P → wpAny c.M A (binaryOp op a b) P E s
@[reducible] noncomputable def mBin (f : MOp) (ml mr : ME) : ME := fun loc Q mh => ml loc (fun a mh => mr loc (fun b mh => f a b Q mh) mh) mh
theorem se_bin {l r : Expr} {op : Operator} {pos : Pos} {ml mr : ME} {f : MOp} (hf : OpS c d op f) (hl : SE c sc d l ml) (hr : SE c sc d r mr) : SE c sc d (.BinOp l op r pos) (mBin f ml mr) :=
  fun A env loc φ mh s Q P E hroom he H F q o => wpAny_BinOp (two hl hr hroom he H F q fun a b ma mb φ' mh' h' tk q' x H' ra rb => hf A φ' mh' _ Q P E a b ma mb hroom H' ra rb q' (o.trans x))
noncomputable def BIG : Nat := 100000
theorem zay {n : Nat} (h : n ≤ BIG) : n ≤ sizeLine := by rw [sizeLine_eq]; unfold BIG at h; omega
@[reducible] noncomputable def mAdd : MOp := fun a b Q mh => match a, b with
  | .int x, .int y => Q (.int (x + y)) mh
  | .tuple x, .tuple y => x.length + y.length ≤ BIG ∧ Q (.tuple (x ++ y)) mh
  | .ref r, .ref t => ∃ x y, mh[r]? = some (.list x) ∧ mh[t]? = some (.list y) ∧ x.length + y.length ≤ BIG ∧ Q (.ref mh.length) (mh ++ [.list (x ++ y)])
  | _, _ => False
@[reducible] noncomputable def mSub : MOp := fun a b Q mh => match a, b with
  | .int x, .int y => Q (.int (x - y)) mh
  | _, _ => False
noncomputable def SmallI (x : Int) : Prop := -1000000000 ≤ x ∧ x ≤ 1000000000
noncomputable def mMul : MOp := fun a b Q mh => match a, b with
  | .int x, .int y => SmallI x ∧ SmallI y ∧ Q (.int (x * y)) mh
  | .ref r, .int y => ∃ v, mh[r]? = some (.list [v]) ∧ 0 ≤ y ∧ y ≤ BIG ∧ Q (.ref mh.length) (mh ++ [.list (List.replicate y.toNat v)])
  | _, _ => False
noncomputable def mMod : MOp := fun a b Q mh => match a, b with
  | .int x, .int y => 0 < y ∧ Q (.int (x % y)) mh
  | _, _ => False
noncomputable def mDiv : MOp := fun a b Q mh => match a, b with
  | .int x, .int y => 0 < y ∧ SmallI x ∧ SmallI y ∧ Q (.int (x / y)) mh
  | _, _ => False
theorem Hp.glob {φ : Phi} {mh : MH} {h : Heap} (H : c.Hp φ mh h) : mainGlobals < h.objs.size := by
  obtain ⟨o, _, _, e, _⟩ := c.g
  exact Heap.lt_size (H.base _ _ e)
theorem Hp.pushList {φ : Phi} {mh : MH} {h h' : Heap} {a : Addr} {vs : List Value} {n : Nat} {ms : List MV} (H : c.Hp φ mh h) (k : ∀ b o, h.get? b = some o → h'.get? b = some o)
    (ha : h.objs.size ≤ a) (e : h'.get? a = some (lstObj vs n)) (r : VRs h φ vs ms) :
    c.Hp (φ ++ [(a, none)]) (mh ++ [.list ms]) h' ∧ Ext φ (φ ++ [(a, none)]) h h' ∧ VR h' (φ ++ [(a, none)]) (.ref a) (.ref mh.length) := by
  have hE : Ext φ (φ ++ [(a, none)]) h h' := ⟨List.prefix_append _ _, fun b hb => by
    rw [zcf] at hb
    rcases List.mem_append.mp hb with h1 | h1
    · exact .inl h1
    · simp [addrs] at h1; subst h1; exact .inr (fresh_none ha), fun b o _ e => k b o e⟩
  obtain ⟨h1, h2⟩ := H.push (p := (a, none)) (o := .list ms) H.glob k (fun b hb => by
    rcases hb with rfl | hb
    · exact ha
    · cases hb) (by simp) (fun φ' e' => by subst e'; exact .list e (H.vrs hE r))
  exact ⟨h1, h2, .ref (d := none) (by rw [← H.len]; simp)⟩
end
end Mine
end
section
namespace Mine
section
variable {c : Cx} {sc : Scope} {d : Nat}
theorem zaj {h : Heap} (o : Obj) : ∀ b ob, h.get? b = some ob → (h.push o).get? b = some ob := fun b ob => Heap.get?_push_of_some _
theorem Out.newList {φ : Phi} {mh : MH} {s : Shared} {Q : MV → MH → Prop} {P : Value → Shared → Prop} {vs : List Value} {ms : List MV} {tk : Nat} (o : Out c φ s Q P) (H : c.Hp φ mh s.heap) (r : VRs s.heap φ vs ms)
    (q : Q (.ref mh.length) (mh ++ [.list ms])) : P (.ref s.heap.objs.size) { s with heap := s.heap.push { cls := .type "list", data := .seq vs.toArray }, toks := tk } := by
  obtain ⟨h1, h2, h3⟩ := Hp.pushList (h' := s.heap.push { cls := .type "list", data := .seq vs.toArray }) (n := 0) H (zaj _) (Nat.le_refl _) (Heap.get?_push_size _ rfl) r
  exact o _ _ _ _ _ tk q h2 h1 h3
theorem Out.newTuple {φ : Phi} {mh : MH} {s : Shared} {Q : MV → MH → Prop} {P : Value → Shared → Prop} {vs : List Value} {ms : List MV} {tk : Nat} (o : Out c φ s Q P) (H : c.Hp φ mh s.heap) (r : VRs s.heap φ vs ms)
    (q : Q (.tuple ms) mh) : P (.ref s.heap.objs.size) { s with heap := s.heap.push { cls := .type "tuple", data := .seq vs.toArray }, toks := tk } := by
  have hE := Ext.of_keep (φ := φ) (zaj (h := s.heap) (tupObj vs 0))
  exact o _ _ φ mh _ tk q hE (H.keep (zaj _)) (.tuple (Heap.get?_push_size _ rfl) (H.vrs hE r))
theorem op_sub : OpS c d .Sub mSub := fun A φ mh s Q P E a b ma mb hroom H ra rb q o => by
  obtain ⟨x, rfl⟩ := MV.is_int (P := fun v => mSub v mb Q mh) q id (fun _ => id) (fun _ => id) (fun _ => id) (fun _ _ => id) (fun _ => id) (fun _ => id)
  obtain ⟨y, rfl⟩ := MV.is_int (P := fun v => mSub (.int x) v Q mh) q id (fun _ => id) (fun _ => id) (fun _ => id) (fun _ _ => id) (fun _ => id) (fun _ => id)
  obtain ⟨t, rfl⟩ := ra.inv_int
  obtain ⟨u, rfl⟩ := rb.inv_int
  exact sub_int (o.same H q (.int _ _))
theorem op_mod : OpS c d .Mod mMod := fun A φ mh s Q P E a b ma mb hroom H ra rb q o => by
  obtain ⟨x, rfl⟩ := MV.is_int (P := fun v => mMod v mb Q mh) q id (fun _ => id) (fun _ => id) (fun _ => id) (fun _ _ => id) (fun _ => id) (fun _ => id)
  obtain ⟨y, rfl⟩ := MV.is_int (P := fun v => mMod (.int x) v Q mh) q id (fun _ => id) (fun _ => id) (fun _ => id) (fun _ _ => id) (fun _ => id) (fun _ => id)
  obtain ⟨t, rfl⟩ := ra.inv_int
  obtain ⟨u, rfl⟩ := rb.inv_int
  obtain ⟨hb, q⟩ := q
  refine mod_int' (by omega) ?_
  rw [Int.fmod_eq_emod_of_nonneg _ (by omega)]
  exact o.same H q (.int _ _)
theorem op_div : OpS c d .FloorDiv mDiv := fun A φ mh s Q P E a b ma mb hroom H ra rb q o => by
  obtain ⟨x, rfl⟩ := MV.is_int (P := fun v => mDiv v mb Q mh) q id (fun _ => id) (fun _ => id) (fun _ => id) (fun _ _ => id) (fun _ => id) (fun _ => id)
  obtain ⟨y, rfl⟩ := MV.is_int (P := fun v => mDiv (.int x) v Q mh) q id (fun _ => id) (fun _ => id) (fun _ => id) (fun _ _ => id) (fun _ => id) (fun _ => id)
  obtain ⟨t, rfl⟩ := ra.inv_int
  obtain ⟨u, rfl⟩ := rb.inv_int
  obtain ⟨hb, ⟨h1, h2⟩, ⟨h3, h4⟩, q⟩ := q
  refine floordiv_int (by omega) ?_ (Or.inl (PyProof.noPylong_small (by omega)))
  rw [Int.fdiv_eq_ediv_of_nonneg _ (by omega)]
  exact o.same H q (.int _ _)
theorem zr6 {a b : MV} {Q : MV → MH → Prop} {mh : MH} (q : mAdd a b Q mh) : (∃ x y, a = .int x ∧ b = .int y) ∨ (∃ x y, a = .tuple x ∧ b = .tuple y) ∨ ∃ x y, a = .ref x ∧ b = .ref y := by
  cases a with
  | int x => cases b with
    | int y => exact .inl ⟨x, y, rfl, rfl⟩
    | _ => exact False.elim q
  | tuple x => cases b with
    | tuple y => exact .inr (.inl ⟨x, y, rfl, rfl⟩)
    | _ => exact False.elim q
  | ref x => cases b with
    | ref y => exact .inr (.inr ⟨x, y, rfl, rfl⟩)
    | _ => exact False.elim q
  | _ => exact False.elim q
theorem op_add : OpS c d .Add mAdd := fun A φ mh s Q P E a b ma mb hroom H ra rb q o => by
  rcases zr6 q with ⟨_, _, rfl, rfl⟩ | ⟨ms, ms2, rfl, rfl⟩ | ⟨_, _, rfl, rfl⟩
  · obtain ⟨t, rfl⟩ := ra.inv_int
    obtain ⟨u, rfl⟩ := rb.inv_int
    exact add_int (o.same H q (.int _ _))
  · obtain ⟨a, vs, n, rfl, e, r⟩ := ra.inv_tuple
    obtain ⟨a2, vs2, n2, rfl, e2, r2⟩ := rb.inv_tuple
    obtain ⟨hl, q⟩ := q
    have hsz : vs.length + vs2.length ≤ sizeLine := zay (by rw [r.length, r2.length]; exact hl)
    by_cases hv : vs = []
    · have hm : ms = [] := by subst hv; exact List.eq_nil_of_length_eq_zero r.length.symm
      subst hm
      exact concat_meets ⟨_, e, rfl⟩ ⟨_, e2, rfl⟩ noFill_tuple_add seq_tuple_add PySem.F.slot_tuple_add PySem.F.entry_tuple_add (PySem.F.args_tuple_add_2 _ _)
        (tuple_addW0 a a2 vs.toArray vs2.toArray n n2 none none #[] #[] (by simp [hv])) ⟨e, e2, o.same' H q (.tuple e2 r2)⟩
    · by_cases hw : vs2 = []
      · have hm : ms2 = [] := by subst hw; exact List.eq_nil_of_length_eq_zero r2.length.symm
        subst hm
        rw [List.append_nil] at q
        exact concat_meets ⟨_, e, rfl⟩ ⟨_, e2, rfl⟩ noFill_tuple_add seq_tuple_add PySem.F.slot_tuple_add PySem.F.entry_tuple_add (PySem.F.args_tuple_add_2 _ _)
          (tuple_addW1 a a2 vs.toArray vs2.toArray n n2 none none #[] #[] (by simpa using hv) (by simp [hw])) ⟨e, e2, o.same' H q (.tuple e r)⟩
      · refine concat_meets ⟨_, e, rfl⟩ ⟨_, e2, rfl⟩ noFill_tuple_add seq_tuple_add PySem.F.slot_tuple_add PySem.F.entry_tuple_add (PySem.F.args_tuple_add_2 _ _)
          (tuple_addW2 a a2 vs.toArray vs2.toArray n n2 none none #[] #[] (by simpa using hv) (by simpa using hw) (by rw [List.size_toArray, List.size_toArray]; exact hsz)) ⟨e, e2, ?_⟩
        rw [show vs.toArray ++ vs2.toArray = (vs ++ vs2).toArray by simp]
        exact o.newTuple H (r.append r2) q
  · obtain ⟨x, y, m1, m2, hl, q⟩ := q
    obtain ⟨a1, vs, n, rfl, f1, g1, s1⟩ := H.list_at ra m1
    obtain ⟨a2, ws, n2, rfl, f2, g2, s2⟩ := H.list_at rb m2
    refine concat_meets ⟨_, g1, rfl⟩ ⟨_, g2, rfl⟩ noFill_list_add seq_list_add PySem.F.slot_list_add PySem.F.entry_list_add (PySem.F.args_list_add_2 _ _) (list_addW a1 a2 vs.toArray ws.toArray n n2 none none #[] #[] (by
      rw [List.size_toArray, List.size_toArray, s1.length, s2.length]; exact zay hl)) ⟨g1, g2, ?_⟩
    rw [show vs.toArray ++ ws.toArray = (vs ++ ws).toArray by simp]
    exact o.newList H (s1.append s2) q
theorem rep_one (x : Value) (k : Nat) : List.foldl (fun x1 x2 => x1 ++ x2) #[] (List.replicate (if ([x].toArray.isEmpty = true) then 0 else k) [x].toArray) = (List.replicate k x).toArray := by
  have : ∀ (k : Nat) (acc : Array Value), List.foldl (fun x1 x2 => x1 ++ x2) acc (List.replicate k [x].toArray) = acc ++ (List.replicate k x).toArray := by
    intro k
    induction k with
    | zero => intro acc; simp
    | succ k ih => intro acc; rw [List.replicate_succ, List.foldl_cons, ih, List.replicate_succ]; apply Array.toList_inj.mp; simp
  simp only [List.isEmpty_toArray, List.isEmpty_cons, Bool.false_eq_true, if_false]
  rw [this]; simp
theorem zr5 {a b : MV} {Q : MV → MH → Prop} {mh : MH} (q : mMul a b Q mh) : ∃ y, b = .int y ∧ ((∃ x, a = .int x) ∨ ∃ x, a = .ref x) := by
  cases a with
  | int x => cases b with
    | int y => exact ⟨y, rfl, .inl ⟨x, rfl⟩⟩
    | _ => exact False.elim q
  | ref x => cases b with
    | int y => exact ⟨y, rfl, .inr ⟨x, rfl⟩⟩
    | _ => exact False.elim q
  | _ => exact False.elim q
theorem op_mul : OpS c d .Mult mMul := fun A φ mh s Q P E a b ma mb hroom H ra rb q o => by
  obtain ⟨i, rfl, ⟨x, rfl⟩ | ⟨x, rfl⟩⟩ := zr5 q
  · obtain ⟨t, rfl⟩ := ra.inv_int
    obtain ⟨u, rfl⟩ := rb.inv_int
    obtain ⟨⟨a1, a2⟩, ⟨a3, a4⟩, q⟩ := q
    exact mul_int (o.same H q (.int _ _)) (by mul_fits)
  · obtain ⟨v, m1, h0, h1, q⟩ := q
    obtain ⟨t, rfl⟩ := rb.inv_int
    obtain ⟨a1, vs, n, rfl, e1, g1, s1⟩ := H.list_at ra m1
    obtain ⟨x, ws, rfl, rx, s1⟩ := s1.inv_cons
    cases s1.inv_nil
    have hb : i.toNat ≤ BIG := by omega
    have hb2 := zay hb
    rw [sizeLine_eq] at hb2
    unfold BIG at h1 hb
    refine wpAny_binaryOp_repeat_ref (T := "list") (U := "int") (by decide) ⟨_, g1, rfl⟩ (fun s' => typeIs_int s' i t) noFill_list_mul PySem.F.fills_int_mul PySem.F.slot_int_rmul repeat_list PySem.F.slot_int_index.lookup
      (call_meets PySem.F.slot_int_rmul (typeIs_int s i t) PySem.F.entry_int_rmul (PySem.F.args_int_rmul_2 _ _) (int___rmul___int_list i t a1 [x].toArray n)
        ⟨g1, rfl, ⟨_, g1, rfl⟩, call_meets PySem.F.slot_list_mul ⟨_, g1, rfl⟩ PySem.F.entry_list_mul (PySem.F.args_list_mul_2 _ _)
          (AutoListH.list___mul___list_int_3 a1 [x].toArray n i t (by simp [Builtin.List.listFitsIndex]; omega) (by simp; omega) (by simp [Builtin.List.listTooLong, sizeLine]; omega))
          ⟨g1, ?_⟩⟩)
    rw [rep_one]
    exact o.newList H (VRs.replicate rx _) q
end
end Mine
end
section
namespace Mine
mutual
inductive DR (mh : MH) : MV → Dat → Prop
  | none : DR mh .none .none
  | int (i : Int) : DR mh (.int i) (.int i)
  | str (x : Str) : DR mh (.str x) (.str x)
  | tuple {vs : List MV} {ds : List Dat} : DRs mh vs ds → DR mh (.tuple vs) (.tuple ds)
  | list {r : Nat} {vs : List MV} {ds : List Dat} : mh[r]? = some (.list vs) → DRs mh vs ds → DR mh (.ref r) (.list ds)
inductive DRs (mh : MH) : List MV → List Dat → Prop
  | nil : DRs mh [] []
  | cons {v : MV} {vs : List MV} {d : Dat} {ds : List Dat} : DR mh v d → DRs mh vs ds → DRs mh (v :: vs) (d :: ds)
end
section
variable {c : Cx} {sc : Scope} {d : Nat} {φ : Phi} {mh : MH} {h : Heap}
noncomputable def RdP (h : Heap) (φ : Phi) (m : MV) (e : Dat) : Prop := ∀ n, kqdOk n e = true → ∀ v, VR h φ v m → ∃ as, Reads h v (kqdP e) as
noncomputable def RdPs (h : Heap) (φ : Phi) (ms : List MV) (es : List Dat) : Prop := ∀ n, (∀ e ∈ es, kqdOk n e = true) → ∀ vs, VRs h φ vs ms → ∃ as, ReadsAll h vs (kqdPs es) as
theorem rd_nil : RdPs h φ [] [] := fun n _ vs r => by rw [r.inv_nil]; exact ⟨_, ReadsAll.nil⟩
theorem rd_cons {m : MV} {e : Dat} {ms : List MV} {es : List Dat} (x : RdP h φ m e) (y : RdPs h φ ms es) : RdPs h φ (m :: ms) (e :: es) := fun n hk vs r => by
  obtain ⟨v, ws, rfl, rv, rs⟩ := r.inv_cons
  obtain ⟨as, q⟩ := x n (hk _ (.head _)) _ rv
  obtain ⟨bs, p⟩ := y n (fun d hm => hk d (.tail _ hm)) _ rs
  rw [kqdPs]
  exact ⟨_, ReadsAll.cons q p⟩
theorem kqd_in {n : Nat} {ds : List Dat} (hk : kqdOk n (.tuple ds) = true) : ∃ k, ∀ e ∈ ds, kqdOk k e = true := by
  cases n with
  | zero => simp [kqdOk] at hk
  | succ k => exact ⟨k, by simpa [kqdOk] using hk⟩
theorem kqd_inl {n : Nat} {ds : List Dat} (hk : kqdOk n (.list ds) = true) : ∃ k, ∀ e ∈ ds, kqdOk k e = true := by
  cases n with
  | zero => simp [kqdOk] at hk
  | succ k => exact ⟨k, by simpa [kqdOk] using hk⟩
theorem zni {ms : List MV} {es : List Dat} (y : RdPs h φ ms es) : RdP h φ (.tuple ms) (.tuple es) := fun n hk v r => by
  obtain ⟨k, hk⟩ := kqd_in hk
  obtain ⟨a, vs, l, rfl, e, rs⟩ := r.inv_tuple
  obtain ⟨as, q⟩ := y k hk _ rs
  rw [kqdP]
  exact ⟨as, reads_tuple_at e rfl rfl (by simpa using q)⟩
theorem rd_list (H : c.Hp φ mh h) {r : Nat} {ms : List MV} {es : List Dat} (e : mh[r]? = some (.list ms)) (y : RdPs h φ ms es) : RdP h φ (.ref r) (.list es) := fun n hk v x => by
  obtain ⟨k, hk⟩ := kqd_inl hk
  obtain ⟨a, d, rfl, f⟩ := x.inv_ref
  obtain ⟨ws, n, rfl, e', r⟩ := (H.objs _ _ _ e f).inv_list
  obtain ⟨as, q⟩ := y k hk _ r
  rw [kqdP]
  exact ⟨_, reads_list_at e' rfl rfl (by simpa [lstObj] using q)⟩
theorem rd_none : RdP h φ .none .none := fun n _ v r => by rw [r.inv_none]; exact ⟨_, Reads.none⟩
theorem rd_int (i : Int) : RdP h φ (.int i) (.int i) := fun n _ v r => by obtain ⟨t, rfl⟩ := r.inv_int; exact ⟨_, Reads.int i t⟩
theorem rd_str (i : Str) : RdP h φ (.str i) (.str i) := fun n _ v r => by obtain ⟨t, rfl⟩ := r.inv_str; exact ⟨_, Reads.str i t⟩
theorem zj5 (H : c.Hp φ mh h) (n : Nat) {m : MV} {e : Dat} (D : DR mh m e) (hk : kqdOk n e = true) {v : Value} (r : VR h φ v m) : ∃ as, Reads h v (kqdP e) as :=
  DR.rec (motive_1 := fun m e _ => RdP h φ m e) (motive_2 := fun ms es _ => RdPs h φ ms es) rd_none rd_int rd_str (fun _ y => zni y) (fun e _ y => rd_list H e y) rd_nil (fun _ _ x y => rd_cons x y) D n hk v r
theorem zmi (H : c.Hp φ mh h) (n : Nat) {ms : List MV} {es : List Dat} (D : DRs mh ms es) (hk : ∀ e ∈ es, kqdOk n e = true) {vs : List Value} (r : VRs h φ vs ms) : ∃ as, ReadsAll h vs (kqdPs es) as :=
  DRs.rec (motive_1 := fun m e _ => RdP h φ m e) (motive_2 := fun ms es _ => RdPs h φ ms es) rd_none rd_int rd_str (fun _ y => zni y) (fun e _ y => rd_list H e y) rd_nil (fun _ _ x y => rd_cons x y) D n hk vs r
end
open Classical in
noncomputable def eqM (a b : MV) (Q : Bool → Prop) (mh : MH) : Prop := match a, b with
  | .int x, .int y => Q (decide (x = y))
  | .str x, .str y => Q (decide (x = y))
  | .bool x, .bool y => Q (x == y)
  | a, b => ∃ da db, DR mh a da ∧ DR mh b db ∧ kqdOk 8 da = true ∧ kqdOk 8 db = true ∧ Q (decide (da = db))
@[reducible] noncomputable def isNoneM : MV → Bool
  | .none => true
  | _ => false
noncomputable def isM (a b : MV) (Q : Bool → Prop) : Prop := match b with
  | .none => Q (isNoneM a)
  | .bool y => (match a with | .bool x => Q (x == y) | _ => False)
  | _ => False
open Classical in
noncomputable def inMo (o : Option MO) (a : MV) (Q : Bool → Prop) (mh : MH) : Prop := match o with
  | some (.list vs) => (match a with
      | .int k => ∃ is : List Int, vs = is.map .int ∧ Q (decide (k ∈ is))
      | a => ∃ da ds, DR mh a da ∧ DRs mh vs ds ∧ kqdOk 8 da = true ∧ (∀ e ∈ ds, kqdOk 8 e = true) ∧ Q (decide (da ∈ ds)))
  | some (.idict kvs) => (match a with
      | .int k => Q (kvs.any fun kv => kv.1 = k)
      | _ => False)
  | _ => False
noncomputable def inM (a b : MV) (Q : Bool → Prop) (mh : MH) : Prop := match b with
  | .ref r => inMo mh[r]? a Q mh
  | _ => False
@[reducible] noncomputable def ordM (f : Int → Int → Bool) (a b : MV) (Q : Bool → Prop) : Prop := match a, b with
  | .int x, .int y => Q (f x y)
  | _, _ => False
@[reducible] noncomputable def cmpM (op : CmpOp) (a b : MV) (Q : Bool → Prop) (mh : MH) : Prop := match op with
  | .Eq => eqM a b Q mh
  | .NotEq => eqM a b (fun x => Q (!x)) mh
  | .Lt => ordM (fun x y => decide (x < y)) a b Q
  | .LtE => ordM (fun x y => decide (x ≤ y)) a b Q
  | .Gt => ordM (fun x y => decide (y < x)) a b Q
  | .GtE => ordM (fun x y => decide (y ≤ x)) a b Q
  | .Is => isM a b Q
  | .IsNot => isM a b (fun x => Q (!x))
  | .In => inM a b Q mh
  | .NotIn => inM a b (fun x => Q (!x)) mh
section
variable {c : Cx} {sc : Scope} {d : Nat} {φ : Phi} {mh : MH} {h : Heap} {A : Around} {s : Shared} {P : Value → Shared → Prop} {E : Value → Shared → Prop} {a b : Value} {ma mb : MV}
theorem zeg {e : Dat} (hk : kqdOk 8 e = true) : SeqAt.shaped (kqdP e) = true := by
  have l := kqd_lay 8 e hk
  unfold SeqAt.shaped; rw [l.1, Bool.true_and]; exact decide_eq_true (Nat.le_trans l.2 (by decide))
open Classical in
theorem kqd_dec {e f : Dat} (he : kqdOk 8 e = true) (hf : kqdOk 8 f = true) : PyData.eqv (kqdP e) (kqdP f) = decide (e = f) := by
  have q := kqd_eqv 8 e f 8 he hf
  by_cases hq : e = f
  · rw [decide_eq_true hq]; exact q.mpr hq
  · rw [decide_eq_false hq]; exact Bool.eq_false_iff.mpr fun x => hq (q.mp x)
open Classical in
theorem zm8 {op : CmpOp} {neg : Bool} (hop : (op = .Eq ∧ neg = false) ∨ (op = .NotEq ∧ neg = true)) (hu : A.units + 400 < cLine) (H : c.Hp φ mh s.heap) (ra : VR s.heap φ a ma) (rb : VR s.heap φ b mb)
    {da db : Dat} (Da : DR mh ma da) (Db : DR mh mb db) (ka : kqdOk 8 da = true) (kb : kqdOk 8 db = true) (q : P (.bool (neg ^^ decide (da = db))) s) : wpAny c.M A (compareOp op a b) P E s := by
  obtain ⟨as, xa⟩ := zj5 H 8 Da ka ra
  obtain ⟨bs, xb⟩ := zj5 H 8 Db kb rb
  rcases hop with ⟨rfl, rfl⟩ | ⟨rfl, rfl⟩
  · refine eq_dataH xa xb (zeg ka) (zeg kb) (by omega) ?_
    rw [kqd_dec ka kb]; simpa using q
  · refine ne_dataH xa xb (zeg ka) (zeg kb) (by omega) ?_
    rw [kqd_dec ka kb]; simpa using q
theorem not_sys {r : Addr} (H : c.Hp φ mh h) (hr : r ∈ addrs φ) : (r == sysModules) = false := by
  have h1 := (H.off r hr).2
  by_cases e : r = sysModules
  · exfalso
    rw [e] at h1
    exact absurd h1 (by decide)
  · simpa using e
theorem beq_dec {α : Type} [BEq α] [LawfulBEq α] [DecidableEq α] (x y : α) : (x == y) = decide (x = y) := by by_cases h : x = y <;> simp [h]
theorem zmn (h : wpAny c.M A (compareOp .In a b) (fun v s' => ∀ x, v = .bool x → P (.bool (!x)) s') E s) : wpAny c.M A (compareOp .NotIn a b) P E s := by
  intro Γ p hΓ
  have h1 := h Γ p hΓ
  have h2 : Sem.wp c.M Γ (contains b a >>= fun x => pure (Value.bool x)) (fun v _ s' => ∀ x, v = .bool x → P (.bool (!x)) s') (fun e _ s' => E e s') p s := h1
  show Sem.wp c.M Γ (contains b a >>= fun x => pure (Value.bool (!x))) _ _ p s
  rw [Sem.wp_bind'] at h2 ⊢
  exact Sem.wp_mono c.M Γ _ (fun x p' s' z => z x rfl) (fun _ _ _ z => z) p s h2
theorem zmw (h : wpAny c.M A (compareOp .Is a b) (fun v s' => ∀ x, v = .bool x → P (.bool (!x)) s') E s) : wpAny c.M A (compareOp .IsNot a b) P E s := by
  intro Γ p hΓ
  have h1 := h Γ p hΓ
  have h2 : Sem.wp c.M Γ (isSame a b >>= fun x => pure (Value.bool x)) (fun v _ s' => ∀ x, v = .bool x → P (.bool (!x)) s') (fun e _ s' => E e s') p s := h1
  show Sem.wp c.M Γ (isSame a b >>= fun x => pure (Value.bool (!x))) _ _ p s
  rw [Sem.wp_bind'] at h2 ⊢
  exact Sem.wp_mono c.M Γ _ (fun x p' s' z => z x rfl) (fun _ _ _ z => z) p s h2
theorem KvR.keys {α : Type} {ks : List (α × Value)} {ms : List (α × MV)} (x : KvR h φ ks ms) : ks.map (·.1) = ms.map (·.1) := by
  induction x with
  | nil => rfl
  | cons _ _ ih => simp [ih]
theorem zio {α : Type} [DecidableEq α] (ks : List (α × Value)) (k : α) : (valueAt ks k).isSome = ks.any fun kv => kv.1 = k := by
  unfold valueAt
  rw [Option.isSome_map]
  induction ks with
  | nil => rfl
  | cons x ks ih => by_cases h : x.1 = k <;> simp [List.find?_cons, h, ih]
open Classical in
theorem any_eq (is : List Int) (k : Int) : (is.any (· == k)) = decide (k ∈ is) := by
  by_cases hk : k ∈ is
  · rw [decide_eq_true hk]; exact List.any_eq_true.mpr ⟨k, hk, by simp⟩
  · rw [decide_eq_false hk]; exact Bool.eq_false_iff.mpr fun z => by
      obtain ⟨x, hx, hx'⟩ := List.any_eq_true.mp z
      simp at hx'; subst hx'; exact hk hx
open Classical in
theorem in_data {r : Nat} {vs : List MV} {da : Dat} {ds : List Dat} (hu : A.units + 400 < cLine) (H : c.Hp φ mh s.heap) (ra : VR s.heap φ a ma) (rb : VR s.heap φ b (.ref r)) (e1 : mh[r]? = some (.list vs))
    (D1 : DR mh ma da) (D2 : DRs mh vs ds) (k1 : kqdOk 8 da = true) (k2 : ∀ e ∈ ds, kqdOk 8 e = true) (q : P (.bool (decide (da ∈ ds))) s) : wpAny c.M A (compareOp .In a b) P E s := by
  obtain ⟨a1, ws, n, rfl, f1, g2, r2⟩ := H.list_at rb e1
  obtain ⟨as, xa⟩ := zj5 H 8 D1 k1 ra
  obtain ⟨bs, xb⟩ := zmi H 8 D2 k2 r2
  have l := kqd_layL k2
  have ld := kqd_lay 8 da k1
  have e : ((kqdPs ds).any fun y => PyData.eqv y (kqdP da)) = decide (da ∈ ds) := by
    by_cases hq : da ∈ ds
    · rw [decide_eq_true hq]; exact (kqd_any ds da k2 k1).mpr hq
    · rw [decide_eq_false hq]; exact Bool.eq_false_iff.mpr fun z => hq ((kqd_any ds da k2 k1).mp z)
  refine SeqAt.in_list_reads (reads_list_at g2 rfl rfl (by simpa [lstObj] using xb)) xa l.1 ld.1 ?_ (by rw [e]; exact q)
  have := Nat.min_le_right (PyData.depthAll (kqdPs ds)) (kqdP da).depth
  have := ld.2
  omega
theorem in_ints {r : Nat} {is : List Int} {k : Int} (H : c.Hp φ mh s.heap) (ra : VR s.heap φ a (.int k)) (rb : VR s.heap φ b (.ref r)) (e1 : mh[r]? = some (.list (is.map .int)))
    (q : P (.bool (decide (k ∈ is))) s) : wpAny c.M A (compareOp .In a b) P E s := by
  obtain ⟨a1, ws, n, rfl, f1, g2, r2⟩ := H.list_at rb e1
  obtain ⟨t, rfl⟩ := ra.inv_int
  refine in_list_ints (vs := ws) (ns := is) ⟨_, g2, rfl, n, rfl⟩ r2.ints ?_
  rw [any_eq]; exact q
theorem in_dict {r : Nat} {kvs : List (Int × MV)} {k : Int} (H : c.Hp φ mh s.heap) (ra : VR s.heap φ a (.int k)) (rb : VR s.heap φ b (.ref r)) (e1 : mh[r]? = some (.idict kvs))
    (q : ∀ tk, P (.bool (kvs.any fun kv => kv.1 = k)) { s with toks := tk }) : wpAny c.M A (compareOp .In a b) P E s := by
  obtain ⟨a1, ks, rfl, f1, D, R⟩ := H.idict_at rb e1
  obtain ⟨t, rfl⟩ := ra.inv_int
  have hin : a1 ∈ addrs φ := mem_addrs.mpr ⟨_, List.mem_of_getElem? f1, .inl rfl⟩
  refine wpAny_in_of (knd := intKind c.prog c.w) (k := k) (by simp [intKind, Value.isInt]) (not_sys H hin) D.mapOf ?_
  rw [zio]
  have e : (ks.any fun kv => decide (kv.1 = k)) = kvs.any fun kv => decide (kv.1 = k) := by
    have h1 : ∀ {β : Type} (l : List (Int × β)), (l.any fun kv => decide (kv.1 = k)) = (l.map (·.1)).any fun y => decide (y = k) := fun l => by simp [List.any_map, Function.comp_def]
    rw [h1, h1, R.keys]
  rw [e]; exact q _
open Classical in
theorem inL_inv {vs : List MV} {Q : Bool → Prop} (q : inMo (some (.list vs)) ma Q mh) : (∃ k, ma = .int k) ∨ ∃ da ds, N5 (DR mh ma da) (DRs mh vs ds) (kqdOk 8 da = true) (∀ e ∈ ds, kqdOk 8 e = true) (Q (decide (da ∈ ds))) := by
  by_cases h : ∃ k, ma = .int k
  · exact .inl h
  · have z : ∃ da ds, DR mh ma da ∧ DRs mh vs ds ∧ kqdOk 8 da = true ∧ (∀ e ∈ ds, kqdOk 8 e = true) ∧ Q (decide (da ∈ ds)) := by
      cases ma with
      | int k => exact (h ⟨k, rfl⟩).elim
      | _ => exact q
    obtain ⟨da, ds, D1, D2, k1, k2, q⟩ := z
    exact .inr ⟨da, ds, D1, D2, k1, k2, q⟩
theorem znv {Q : Bool → Prop} (hu : A.units + 400 < cLine) (H : c.Hp φ mh s.heap) (ra : VR s.heap φ a ma) (rb : VR s.heap φ b mb) (q : inM ma mb Q mh)
    (o : ∀ x tk, Q x → P (.bool x) { s with toks := tk }) : wpAny c.M A (compareOp .In a b) P E s := by
  obtain ⟨r, rfl⟩ := MV.is_ref (P := fun v => inM ma v Q mh) q id (fun _ => id) (fun _ => id) (fun _ => id) (fun _ => id) (fun _ _ => id) (fun _ => id)
  rcases MO.is_seq (P := fun o => inMo o ma Q mh) q id (fun _ => id) (fun _ => id) (fun _ _ => id) with ⟨vs, e1⟩ | ⟨kvs, e1⟩
  · have q' : inMo mh[r]? ma Q mh := q
    rw [e1] at q'
    rcases inL_inv q' with ⟨k, rfl⟩ | ⟨da, ds, D1, D2, k1, k2, q'⟩
    · obtain ⟨is, rfl, q'⟩ := q'
      exact in_ints H ra rb e1 (o _ s.toks q')
    · exact in_data hu H ra rb e1 D1 D2 k1 k2 (o _ s.toks q')
  · have q' : inMo mh[r]? ma Q mh := q
    rw [e1] at q'
    obtain ⟨k, rfl⟩ := MV.is_int (P := fun v => inMo (some (.idict kvs)) v Q mh) q' id (fun _ => id) (fun _ => id) (fun _ => id) (fun _ _ => id) (fun _ => id) (fun _ => id)
    exact in_dict H ra rb e1 fun tk => o _ tk q'
theorem zsa (ra : VR h φ a ma) : (a == Value.none) = isNoneM ma :=
  @VR.casesOn h φ (fun v m _ => (v == Value.none) = isNoneM m) a ma ra rfl (fun _ => rfl) (fun _ _ => rfl) (fun _ _ => rfl) (fun _ _ => rfl) (fun _ => rfl) (fun _ => rfl) (fun _ => rfl)
theorem isM_inv {Q : Bool → Prop} (q : isM ma mb Q) : (mb = .none ∧ Q (isNoneM ma)) ∨ ∃ x y, ma = .bool x ∧ mb = .bool y ∧ Q (x == y) := by
  cases mb with
  | none => exact .inl ⟨rfl, q⟩
  | bool y => cases ma with
    | bool x => exact .inr ⟨_, _, rfl, rfl, q⟩
    | _ => exact False.elim q
  | _ => exact False.elim q
theorem znu {Q : Bool → Prop} (ra : VR s.heap φ a ma) (rb : VR s.heap φ b mb) (q : isM ma mb Q) (o : ∀ x tk, Q x → P (.bool x) { s with toks := tk }) : wpAny c.M A (compareOp .Is a b) P E s := by
  rcases isM_inv q with ⟨rfl, z⟩ | ⟨x, y, rfl, rfl, z⟩
  · rw [rb.inv_none]
    refine PySem.is_none ?_
    rw [zsa ra]; exact o _ s.toks z
  · rw [ra.inv_bool, rb.inv_bool]
    exact is_bool (o _ s.toks z)
theorem zg9 {f : Int → Int → Bool} {Q : Bool → Prop} (ra : VR h φ a ma) (rb : VR h φ b mb) (q : ordM f ma mb Q) : ∃ x y t u, a = .int x t ∧ b = .int y u ∧ Q (f x y) := by
  obtain ⟨x, rfl⟩ := MV.is_int (P := fun v => ordM f v mb Q) q id (fun _ => id) (fun _ => id) (fun _ => id) (fun _ _ => id) (fun _ => id) (fun _ => id)
  obtain ⟨y, rfl⟩ := MV.is_int (P := fun v => ordM f (.int x) v Q) q id (fun _ => id) (fun _ => id) (fun _ => id) (fun _ _ => id) (fun _ => id) (fun _ => id)
  obtain ⟨t, rfl⟩ := ra.inv_int
  obtain ⟨u, rfl⟩ := rb.inv_int
  exact ⟨_, _, t, u, rfl, rfl, q⟩
open Classical in
noncomputable def eqD (ma mb : MV) (Q : Bool → Prop) (mh : MH) : Prop := ∃ da db, DR mh ma da ∧ DR mh mb db ∧ kqdOk 8 da = true ∧ kqdOk 8 db = true ∧ Q (decide (da = db))
inductive Alike : MV → MV → Prop
  | int (x y : Int) : Alike (.int x) (.int y)
  | str (x y : Str) : Alike (.str x) (.str y)
  | bool (x y : Bool) : Alike (.bool x) (.bool y)
theorem eqM_or (ma mb : MV) : Alike ma mb ∨ ∀ (Q : Bool → Prop) mh, eqM ma mb Q mh = eqD ma mb Q mh := by
  cases ma with
  | int x => cases mb with
    | int y => exact .inl (.int x y)
    | _ => exact .inr fun _ _ => rfl
  | str x => cases mb with
    | str y => exact .inl (.str x y)
    | _ => exact .inr fun _ _ => rfl
  | bool x => cases mb with
    | bool y => exact .inl (.bool x y)
    | _ => exact .inr fun _ _ => rfl
  | _ => exact .inr fun _ _ => rfl
theorem zn1 {op : CmpOp} {neg : Bool} (hop : (op = .Eq ∧ neg = false) ∨ (op = .NotEq ∧ neg = true)) (hu : A.units + 400 < cLine) (H : c.Hp φ mh s.heap) (ra : VR s.heap φ a ma) (rb : VR s.heap φ b mb)
    (q : eqM ma mb (fun x => P (.bool (neg ^^ x)) s) mh) : wpAny c.M A (compareOp op a b) P E s := by
  rcases eqM_or ma mb with z | z
  · cases z with
    | int x y =>
      obtain ⟨t, rfl⟩ := ra.inv_int
      obtain ⟨u, rfl⟩ := rb.inv_int
      replace q : P (.bool (neg ^^ decide (x = y))) s := q
      rcases hop with ⟨rfl, rfl⟩ | ⟨rfl, rfl⟩
      · exact PyProof.Rows.eq_int (by simpa [beq_dec] using q)
      · exact PyProof.Rows.ne_int (by simpa [bne, beq_dec] using q)
    | str x y =>
      obtain ⟨t, rfl⟩ := ra.inv_str
      obtain ⟨u, rfl⟩ := rb.inv_str
      replace q : P (.bool (neg ^^ decide (x = y))) s := q
      rcases hop with ⟨rfl, rfl⟩ | ⟨rfl, rfl⟩
      · exact PyProof.Rows.eq_str (by simpa [beq_dec] using q)
      · exact PyProof.Rows.ne_str (by simpa [bne, beq_dec] using q)
    | bool x y =>
      rw [ra.inv_bool, rb.inv_bool]
      replace q : P (.bool (neg ^^ (x == y))) s := q
      rcases hop with ⟨rfl, rfl⟩ | ⟨rfl, rfl⟩
      · exact PyProof.Rows.eq_bool (by simpa using q)
      · exact ne_bool (by simpa [bne] using q)
  · rw [z] at q
    obtain ⟨da, db, Da, Db, ka, kb, q⟩ := q
    exact zm8 hop hu H ra rb Da Db ka kb q
theorem zn2 {Q Q' : Bool → Prop} (f : ∀ x, Q x → Q' x) (q : eqM ma mb Q mh) : eqM ma mb Q' mh := by
  rcases eqM_or ma mb with z | z
  · cases z <;> exact f _ q
  · rw [z] at q ⊢
    obtain ⟨da, db, Da, Db, ka, kb, q⟩ := q
    exact ⟨da, db, Da, Db, ka, kb, f _ q⟩
theorem zfx {op : CmpOp} {Q : Bool → Prop} (hu : A.units + 400 < cLine) (H : c.Hp φ mh s.heap) (ra : VR s.heap φ a ma) (rb : VR s.heap φ b mb) (q : cmpM op ma mb Q mh)
    (o : ∀ x tk, Q x → P (.bool x) { s with toks := tk }) : wpAny c.M A (compareOp op a b) P E s := by
  have o' : ∀ x, Q x → P (.bool x) s := fun x hx => o x s.toks hx
  cases op with
  | Eq => exact zn1 (.inl ⟨rfl, rfl⟩) hu H ra rb (zn2 (fun x z => by simpa using o' _ z) q)
  | NotEq => exact zn1 (.inr ⟨rfl, rfl⟩) hu H ra rb (zn2 (fun x z => by simpa using o' _ z) q)
  | Lt => obtain ⟨x, y, t, u, rfl, rfl, q⟩ := zg9 ra rb q; exact PyProof.Rows.lt_int (o' _ q)
  | LtE => obtain ⟨x, y, t, u, rfl, rfl, q⟩ := zg9 ra rb q; exact PyProof.Rows.le_int (o' _ q)
  | Gt => obtain ⟨x, y, t, u, rfl, rfl, q⟩ := zg9 ra rb q; exact PyProof.Rows.gt_int (o' _ q)
  | GtE => obtain ⟨x, y, t, u, rfl, rfl, q⟩ := zg9 ra rb q; exact PyProof.Rows.ge_int (o' _ q)
  | Is => exact znu ra rb q o
  | IsNot => exact zmw (znu ra rb q fun x tk hx y hy => by cases hy; exact o _ tk hx)
  | In => exact znv hu H ra rb q o
  | NotIn => exact zmn (znv hu H ra rb q fun x tk hx y hy => by cases hy; exact o _ tk hx)
end
end Mine
end
section
namespace Mine
noncomputable abbrev MT := Loc → (Bool → MH → Prop) → MH → Prop
noncomputable def OutB (c : Cx) (φ : Phi) (s : Shared) (Q : Bool → MH → Prop) (P : Bool → Shared → Prop) : Prop :=
  ∀ b φ' mh' h' tk, Q b mh' → Ext φ φ' s.heap h' → c.Hp φ' mh' h' → P b { s with heap := h', toks := tk }
noncomputable def ST (c : Cx) (sc : Scope) (d : Nat) (e : Expr) (m : MT) : Prop :=
  ∀ (A : Around) (env : Env) (loc : Loc) (φ : Phi) (mh : MH) (s : Shared) (Q : Bool → MH → Prop) (P : Bool → Shared → Prop) (E : Value → Shared → Prop),
    Room A d → EnvOk env sc → c.Hp φ mh s.heap → FrR c env loc φ s.heap → m loc Q mh → OutB c φ s Q P → wpAny c.M A (isTrue e env (eval e env)) P E s
theorem OutB.trans {c : Cx} {φ φ' : Phi} {s : Shared} {h' : Heap} {tk : Nat} {Q : Bool → MH → Prop} {P : Bool → Shared → Prop} (o : OutB c φ s Q P) (x : Ext φ φ' s.heap h') :
    OutB c φ' { s with heap := h', toks := tk } Q P := fun v φ'' mh'' h'' tk' q e H => o v φ'' mh'' h'' tk' q (x.trans e) H
section
variable {c : Cx} {sc : Scope} {d : Nat}
@[reducible] noncomputable def boolM (Q : Bool → MH → Prop) : MV → MH → Prop := fun v mh => match v with
  | .bool b => Q b mh
  | _ => False
@[reducible] noncomputable def tVal (m : ME) : MT := fun loc Q mh => m loc (boolM Q) mh
theorem st_val {e : Expr} {m : ME} (hm : SE c sc d e m) (he' : ∀ env whole, isTrue e env whole = (do let v ← whole; standAt e.pos; holding [v] (truthy v))) : ST c sc d e (tVal m) :=
  fun A env loc φ mh s Q P E hr he H F q o => by
    refine wpAny_isTrue_value ?_ (he' _ _)
    refine hm A env loc φ mh s _ _ E hr he H F q fun v mv φ' mh' h' tk q' x H' r => ?_
    cases r <;> try exact q'.elim
    exact wpAny_truthy_bool (o _ φ' mh' h' tk q' x H')
@[reducible] noncomputable def tNot (m : MT) : MT := fun loc Q mh => m loc (fun b => Q (!b)) mh
theorem st_not {e : Expr} {m : MT} {pos : Pos} (hm : ST c sc d e m) : ST c sc d (.UnaryOp .Not e pos) (tNot m) :=
  fun A env loc φ mh s Q P E hr he H F q o => wpAny_isTrue_Not (hm A env loc φ mh s _ _ E hr he H F q fun v φ' mh' h' tk q' x H' => o _ φ' mh' h' tk q' x H')
inductive STs (c : Cx) (sc : Scope) (d : Nat) : List Expr → List MT → Prop
  | nil : STs c sc d [] []
  | cons {e : Expr} {m : MT} {es : List Expr} {ms : List MT} : ST c sc d e m → STs c sc d es ms → STs c sc d (e :: es) (m :: ms)
noncomputable def tAnd : List MT → MT
  | [] => fun _ Q mh => Q true mh
  | m :: ms => fun loc Q mh => m loc (fun b mh => if b = true then tAnd ms loc Q mh else Q false mh) mh
noncomputable def tOr : List MT → MT
  | [] => fun _ Q mh => Q false mh
  | m :: ms => fun loc Q mh => m loc (fun b mh => if b = true then Q true mh else tOr ms loc Q mh) mh
theorem all_and {es : List Expr} {ms : List MT} (hm : STs c sc d es ms) : ∀ {A : Around} {env : Env} {loc : Loc} {φ : Phi} {mh : MH} {s : Shared} {Q : Bool → MH → Prop} {P : Bool → Shared → Prop} {E : Value → Shared → Prop},
    Room A d → EnvOk env sc → c.Hp φ mh s.heap → FrR c env loc φ s.heap → tAnd ms loc Q mh → OutB c φ s Q P → wpAny c.M A (allTrue .And es env) P E s := by
  induction hm with
  | nil => intro A env loc φ mh s Q P E hr he H F q o; exact wpAny_allTrue_And_nil (o true φ mh s.heap s.toks q (.refl _ _) H)
  | cons h1 _ ih =>
    intro A env loc φ mh s Q P E hr he H F q o
    refine wpAny_allTrue_And_cons (h1 A env loc φ mh s _ _ E hr he H F q fun b φ' mh' h' tk q' x H' => ?_)
    cases b with
    | true => simp only [if_true] at q' ⊢; exact ih hr he H' (F.ext H x) q' (o.trans x)
    | false => simp only [Bool.false_eq_true, if_false] at q' ⊢; exact o _ φ' mh' h' tk q' x H'
theorem all_or {es : List Expr} {ms : List MT} (hm : STs c sc d es ms) : ∀ {A : Around} {env : Env} {loc : Loc} {φ : Phi} {mh : MH} {s : Shared} {Q : Bool → MH → Prop} {P : Bool → Shared → Prop} {E : Value → Shared → Prop},
    Room A d → EnvOk env sc → c.Hp φ mh s.heap → FrR c env loc φ s.heap → tOr ms loc Q mh → OutB c φ s Q P → wpAny c.M A (allTrue .Or es env) P E s := by
  induction hm with
  | nil => intro A env loc φ mh s Q P E hr he H F q o; exact wpAny_allTrue_Or_nil (o false φ mh s.heap s.toks q (.refl _ _) H)
  | cons h1 _ ih =>
    intro A env loc φ mh s Q P E hr he H F q o
    refine wpAny_allTrue_Or_cons (h1 A env loc φ mh s _ _ E hr he H F q fun b φ' mh' h' tk q' x H' => ?_)
    cases b with
    | false => simp only [Bool.false_eq_true, if_false] at q' ⊢; exact ih hr he H' (F.ext H x) q' (o.trans x)
    | true => simp only [if_true] at q' ⊢; exact o _ φ' mh' h' tk q' x H'
theorem st_and {es : List Expr} {ms : List MT} {pos : Pos} (hm : STs c sc d es ms) : ST c sc d (.BoolOp .And es pos) (tAnd ms) :=
  fun A env loc φ mh s Q P E hr he H F q o => wpAny_isTrue_BoolOp (all_and hm hr he H F q o)
theorem st_or {es : List Expr} {ms : List MT} {pos : Pos} (hm : STs c sc d es ms) : ST c sc d (.BoolOp .Or es pos) (tOr ms) :=
  fun A env loc φ mh s Q P E hr he H F q o => wpAny_isTrue_BoolOp (all_or hm hr he H F q o)
@[reducible] noncomputable def tCmp (op : CmpOp) (ml mr : ME) : MT := fun loc Q mh => ml loc (fun a mh => mr loc (fun b mh => cmpM op a b (fun x => Q x mh) mh) mh) mh
theorem st_cmp {l r : Expr} {op : CmpOp} {pos : Pos} {ml mr : ME} (hm : behindInMarks op r = false) (hl : SE c sc d l ml) (hr : SE c sc d r mr) : ST c sc d (.Compare l [op] [r] pos) (tCmp op ml mr) :=
  fun A env loc φ mh s Q P E hroom he H F q o => wpAny_isTrue_Compare1 (two hl hr hroom he H F q fun a b ma mb φ' mh' h' tk q' x H' ra rb => by
    refine zfx (by have := hroom.units; omega) H' ra rb q' fun y tk2 hy => ?_
    exact wpAny_truthy_bool (o _ φ' mh' h' tk2 hy x H')) hm
@[reducible] noncomputable def mCmp (op : CmpOp) (ml mr : ME) : ME := fun loc Q mh => ml loc (fun a mh => mr loc (fun b mh => cmpM op a b (fun x => Q (.bool x) mh) mh) mh) mh
theorem se_cmp {l r : Expr} {op : CmpOp} {pos : Pos} {ml mr : ME} (hm : behindInMarks op r = false) (hl : SE c sc d l ml) (hr : SE c sc d r mr) : SE c sc d (.Compare l [op] [r] pos) (mCmp op ml mr) :=
  fun A env loc φ mh s Q P E hroom he H F q o => wpAny_Compare1 (two hl hr hroom he H F q fun a b ma mb φ' mh' h' tk q' x H' ra rb => by
    refine zfx (by have := hroom.units; omega) H' ra rb q' fun y tk2 hy => ?_
    exact o _ _ φ' mh' h' tk2 hy x H' (.bool _)) hm
@[reducible] noncomputable def tCmp2 (op1 op2 : CmpOp) (ml m1 m2 : ME) : MT := fun loc Q mh => ml loc (fun a mh => m1 loc (fun b mh => cmpM op1 a b (fun x => if x = true then m2 loc (fun e mh => cmpM op2 b e (fun y => Q y mh) mh) mh else Q false mh) mh) mh) mh
theorem st_cmp2 {l r1 r2 : Expr} {op1 op2 : CmpOp} {pos : Pos} {ml m1 m2 : ME} (hm2 : behindInMarks op2 r2 = false) (hl : SE c sc d l ml) (h1 : SE c sc d r1 m1) (h2 : SE c sc d r2 m2) :
    ST c sc d (.Compare l [op1, op2] [r1, r2] pos) (tCmp2 op1 op2 ml m1 m2) :=
  fun A env loc φ mh s Q P E hroom he H F q o => by
    show wpAny c.M A (do testChain pos (← eval l env) [op1, op2] (markedEach [op1, op2] [r1, r2] (evalEach [r1, r2] env))) P E s
    have em : markedEach [op1, op2] [r1, r2] (evalEach [r1, r2] env) = [eval r1 env, eval r2 env] := by
      show [eval r1 env, markedBehindIn op2 r2 (eval r2 env)] = _
      rw [markedBehindIn_of_false hm2]
    rw [em]
    refine wpAny_bind (hl A env loc φ mh s _ _ E hroom he H F q fun a ma φ1 mh1 g1 tk1 q1 x1 H1 ra => ?_)
    refine test_link (h1 A env loc φ1 mh1 _ _ _ E hroom he H1 (F.ext H x1) q1 fun b mb φ2 mh2 g2 tk2 q2 x2 H2 rb => ?_)
    refine zfx (by have := hroom.units; omega) H2 (H1.vr x2 ra) rb q2 fun y tk3 hy => ?_
    refine wpAny_truthy_bool ?_
    cases y with
    | false => simp only [Bool.false_eq_true, if_false] at hy ⊢; exact o _ φ2 mh2 g2 tk3 hy (x1.trans x2) H2
    | true =>
      simp only [if_true] at hy ⊢
      refine test_last (h2 A env loc φ2 mh2 _ _ _ E hroom he H2 ((F.ext H x1).ext H1 x2) hy fun e me φ3 mh3 g3 tk4 q3 x3 H3 re => ?_)
      refine zfx (by have := hroom.units; omega) H3 (H2.vr x3 rb) re q3 fun y tk5 hy => ?_
      exact wpAny_truthy_bool (o _ φ3 mh3 g3 tk5 hy ((x1.trans x2).trans x3) H3)
@[reducible] noncomputable def mIf (t : MT) (m1 m2 : ME) : ME := fun loc Q mh => t loc (fun b mh => if b = true then m1 loc Q mh else m2 loc Q mh) mh
theorem se_if {t a b : Expr} {pos : Pos} {mt : MT} {m1 m2 : ME} (ht : ST c sc d t mt) (ha : SE c sc d a m1) (hb : SE c sc d b m2) : SE c sc d (.IfExp t a b pos) (mIf mt m1 m2) :=
  fun A env loc φ mh s Q P E hr he H F q o => wpAny_IfExp (ht A env loc φ mh s _ _ E hr he H F q fun y φ' mh' h' tk q' x H' => by
    cases y with
    | true => simp only [if_true] at q' ⊢; exact ha A env loc φ' mh' _ _ _ E hr he H' (F.ext H x) q' (o.trans x)
    | false => simp only [Bool.false_eq_true, if_false] at q' ⊢; exact hb A env loc φ' mh' _ _ _ E hr he H' (F.ext H x) q' (o.trans x))
@[reducible] noncomputable def mNot (m : ME) : ME := fun loc Q mh => m loc (fun v mh => match v with | .bool b => Q (.bool (!b)) mh | _ => False) mh
theorem se_not {e : Expr} {m : ME} {pos : Pos} (hm : SE c sc d e m) : SE c sc d (.UnaryOp .Not e pos) (mNot m) :=
  fun A env loc φ mh s Q P E hr he H F q o => wpAny_UnaryOp (hm A env loc φ mh s _ _ E hr he H F q fun v mv φ' mh' h' tk q' x H' r => by
    cases r <;> try exact q'.elim
    exact PySem.not_value (wpAny_truthy_bool (o _ _ φ' mh' h' tk q' x H' (.bool _))))
@[reducible] noncomputable def mNeg (m : ME) : ME := fun loc Q mh => m loc (fun v mh => match v with | .int b => Q (.int (-b)) mh | _ => False) mh
theorem se_neg {e : Expr} {m : ME} {pos : Pos} (hm : SE c sc d e m) : SE c sc d (.UnaryOp .USub e pos) (mNeg m) :=
  fun A env loc φ mh s Q P E hr he H F q o => wpAny_UnaryOp (hm A env loc φ mh s _ _ E hr he H F q fun v mv φ' mh' h' tk q' x H' r => by
    cases r <;> try exact q'.elim
    exact PyProof.Rows.neg_int (o _ _ φ' mh' h' (tk + 1) q' x H' (.int _ _)))
inductive SEs (c : Cx) (sc : Scope) (d : Nat) : List Expr → List ME → Prop
  | nil : SEs c sc d [] []
  | cons {e : Expr} {m : ME} {es : List Expr} {ms : List ME} : SE c sc d e m → SEs c sc d es ms → (∀ env, starEach (e :: es) env = (false, eval e env) :: starEach es env) → SEs c sc d (e :: es) (m :: ms)
noncomputable def mList : List ME → Loc → (List MV → MH → Prop) → MH → Prop
  | [], _, Q, mh => Q [] mh
  | m :: ms, loc, Q, mh => m loc (fun v mh => mList ms loc (fun vs mh => Q (v :: vs) mh) mh) mh
theorem zdj {es : List Expr} {ms : List ME} {pos : Pos} (hm : SEs c sc d es ms) : ∀ {A : Around} {env : Env} {loc : Loc} {φ : Phi} {mh : MH} {s : Shared} {Q : List MV → MH → Prop} {P : List Value → Shared → Prop} {E : Value → Shared → Prop},
    Room A d → EnvOk env sc → c.Hp φ mh s.heap → FrR c env loc φ s.heap → mList ms loc Q mh →
    (∀ vs mvs φ' mh' h' tk, Q mvs mh' → Ext φ φ' s.heap h' → c.Hp φ' mh' h' → VRs h' φ' vs mvs → P vs { s with heap := h', toks := tk }) →
    wpAny c.M A (spliced (backTo pos (starEach es env))) P E s := by
  induction hm with
  | nil => intro A env loc φ mh s Q P E hr he H F q o; exact wpAny_items_nil (o [] [] φ mh s.heap s.toks q (.refl _ _) H .nil)
  | cons h1 _ hs ih =>
    intro A env loc φ mh s Q P E hr he H F q o
    refine wpAny_items_cons (h1 A env loc φ mh s _ _ E hr he H F q fun v mv φ1 mh1 g1 tk1 q1 x1 H1 r1 => ?_) (hs env)
    refine ih hr he H1 (F.ext H x1) q1 fun vs mvs φ2 mh2 g2 tk2 q2 x2 H2 r2 => ?_
    exact o _ _ φ2 mh2 g2 tk2 q2 (x1.trans x2) H2 (.cons (H1.vr x2 r1) r2)
noncomputable def mTuple (ms : List ME) : ME := fun loc Q mh => mList ms loc (fun vs mh => vs.length ≤ BIG ∧ Q (.tuple vs) mh) mh
theorem zar {es : List Expr} {ms : List ME} {k : Nat} {pos : Pos} (hm : SEs c sc d es ms) : SE c sc d (.Tuple es k pos) (mTuple ms) :=
  fun A env loc φ mh s Q P E hr he H F q o => PySem.wpAny_Tuple (zdj hm hr he H F q fun vs mvs φ' mh' h' tk q' x H' r =>
    ⟨zay (by rw [r.length]; exact q'.1), (o.trans (tk := tk) x).newTuple (s := { s with heap := h', toks := tk }) H' r q'.2⟩)
noncomputable def mLst (ms : List ME) : ME := fun loc Q mh => mList ms loc (fun vs mh => vs.length ≤ BIG ∧ Q (.ref mh.length) (mh ++ [.list vs])) mh
theorem se_list {es : List Expr} {ms : List ME} {pos : Pos} (hm : SEs c sc d es ms) : SE c sc d (.List es pos) (mLst ms) :=
  fun A env loc φ mh s Q P E hr he H F q o => PySem.wpAny_List (zdj hm hr he H F q fun vs mvs φ' mh' h' tk q' x H' r =>
    ⟨zay (by rw [r.length]; exact q'.1), (o.trans (tk := tk) x).newList (s := { s with heap := h', toks := tk }) H' r q'.2⟩)
end
end Mine
end
section
namespace Mine
section
variable {c : Cx} {sc : Scope} {d : Nat}
noncomputable def mAndV : List ME → ME
  | [] => fun _ _ _ => False
  | [m] => m
  | m :: ms => fun loc Q mh => m loc (boolM fun b mh => if b = true then mAndV ms loc Q mh else Q (.bool false) mh) mh
theorem zq5 {k : Bool → MH → Prop} {v : MV} {mh : MH} (q : boolM k v mh) : ∃ b, v = .bool b ∧ k b mh := by
  cases v with
  | bool b => exact ⟨b, rfl, q⟩
  | _ => exact False.elim q
theorem se_andv {es : List Expr} {ms : List ME} {pos : Pos} (hm : SEs c sc d es ms) : SE c sc d (.BoolOp .And es pos) (mAndV ms) := by
  induction hm with
  | nil => exact fun A env loc φ mh s Q P E hr he H F q o => q.elim
  | cons h1 h2 hs ih =>
    cases h2 with
    | nil => exact fun A env loc φ mh s Q P E hr he H F q o => BoolOp_one (h1 A env loc φ mh s Q P E hr he H F q o)
    | cons h3 h4 hs' =>
      exact fun A env loc φ mh s Q P E hr he H F q o => BoolOp_and (h1 A env loc φ mh s _ _ E hr he H F q fun v mv φ' mh' h' tk q' x H' r => by
        obtain ⟨b, rfl, q'⟩ := zq5 q'
        obtain rfl := r.inv_bool
        refine wpAny_truthy_bool ?_
        cases b with
        | true => exact ih A env loc φ' mh' _ Q P E hr he H' (F.ext H x) q' (o.trans x)
        | false => exact o _ _ φ' mh' h' tk q' x H' (.bool _))
noncomputable def pyIdx (vs : List MV) (k : Int) : Option MV := if 0 ≤ k then vs[k.toNat]? else if 0 ≤ k + vs.length then vs[(k + vs.length).toNat]? else none
noncomputable def aget {α : Type} [DecidableEq α] (ks : List (α × MV)) (k : α) : Option MV := (ks.find? fun kv => kv.1 = k).map (·.2)
noncomputable def idxMo (o : Option MO) (i : MV) (Q : MV → Prop) : Prop := match o, i with
  | some (.list vs), .int k => SmallI k ∧ ∃ v, pyIdx vs k = some v ∧ Q v
  | some (.idict ks), .int k => ∃ v, aget ks k = some v ∧ Q v
  | some (.sdict ks), .str x => ∃ v, aget ks x = some v ∧ Q v
  | _, _ => False
noncomputable def idxM (a i : MV) (Q : MV → Prop) (mh : MH) : Prop := match a, i with
  | .tuple vs, .int k => SmallI k ∧ ∃ v, pyIdx vs k = some v ∧ Q v
  | .ref r, i => idxMo mh[r]? i Q
  | _, _ => False
theorem zdt (slice : Expr) (o i : Value) : ∃ ops, subscripted slice false o i = operate ops (getItem o i) := by
  cases slice with
  | Slice a b c p => cases c <;> exact ⟨_, rfl⟩
  | _ => exact ⟨_, rfl⟩
theorem KvR.value {α : Type} [DecidableEq α] {h : Heap} {φ : Phi} {ks : List (α × Value)} {ms : List (α × MV)} (x : KvR h φ ks ms) {k : α} {m : MV} (e : aget ms k = some m) : ∃ v, valueAt ks k = some v ∧ VR h φ v m := by
  induction x with
  | nil => simp [aget] at e
  | @cons k' v m' ks ms a r ih =>
    unfold aget at e
    unfold valueAt
    rw [List.find?_cons] at e ⊢
    by_cases hk : k' = k
    · simp [hk] at e ⊢; subst e; exact a
    · simp only [hk, decide_false, Bool.false_eq_true, if_false] at e ⊢; exact ih e
theorem zk7 {vs : List MV} {k : Int} {v : MV} (e : pyIdx vs k = some v) : (0 ≤ k ∧ vs[k.toNat]? = some v) ∨ (k < 0 ∧ 0 ≤ k + vs.length ∧ vs[(k + vs.length).toNat]? = some v) := by
  unfold pyIdx at e
  split at e
  · exact .inl ⟨by assumption, e⟩
  · split at e
    · exact .inr ⟨by omega, by assumption, e⟩
    · cases e
theorem zoh {k : Int} {n : Nat} (h0 : 0 ≤ k) (h1 : k.toNat < n) : seqIndex? k n = some k.toNat := by
  have h2 : ¬ k < 0 := by omega
  have h3 : k < n := by omega
  simp [seqIndex?, h2, h0, h3]
theorem zoi {k : Int} {n : Nat} (h0 : k < 0) (h1 : 0 ≤ k + n) : seqIndex? k n = some (k + n).toNat := by
  have h3 : k + n < n := by omega
  simp [seqIndex?, h0, h1, h3]
theorem zqm {A : Around} {φ : Phi} {s : Shared} {a b : Value} {vs : List MV} {k : Int} {m : MV} {value slice : Expr} {P : Value → Shared → Prop} {E : Value → Shared → Prop}
    (ra : VR s.heap φ a (.tuple vs)) (rb : VR s.heap φ b (.int k)) (k1 : SmallI k) (e : pyIdx vs k = some m) (q : ∀ v tk, VR s.heap φ v m → P v { s with toks := tk }) : wpAny c.M A (subscriptTail value slice a b) P E s := by
  obtain ⟨ops, hs⟩ := zdt slice a b
  obtain ⟨k1, k2⟩ := k1
  obtain ⟨t, rfl⟩ := rb.inv_int
  obtain ⟨a1, xs, n, rfl, g, r⟩ := ra.inv_tuple
  have hl := r.length
  refine tail_any (show s.TypeIs (.ref a1) "tuple" from ⟨_, g, rfl⟩) slot_tuple_getitem.lookup ?_ hs
  rcases zk7 e with ⟨h0, e⟩ | ⟨h0, h1, e⟩
  · obtain ⟨v, ev, rv⟩ := r.get e
    have hlt := (List.getElem?_eq_some_iff.mp ev).1
    exact PyProof.Rows.getItem_tuple (items := xs.toArray) (j := k.toNat) (x := v) ⟨_, g, rfl, n, rfl⟩ (by omega) (by omega) (zoh h0 (by simpa using hlt)) (by simpa using ev) (q v s.toks rv)
  · obtain ⟨v, ev, rv⟩ := r.get e
    have hlt := (List.getElem?_eq_some_iff.mp ev).1
    exact PyProof.Rows.getItem_tuple (items := xs.toArray) (j := (k + vs.length).toNat) (x := v) ⟨_, g, rfl, n, rfl⟩ (by omega) (by omega) (by rw [← hl]; exact zoi (n := xs.toArray.size) h0 (by simpa [hl] using h1)) (by simpa using ev) (q v s.toks rv)
theorem zsd {A : Around} {φ : Phi} {mh : MH} {s : Shared} {a b : Value} {r : Nat} {vs : List MV} {k : Int} {m : MV} {value slice : Expr} {P : Value → Shared → Prop} {E : Value → Shared → Prop}
    (H : c.Hp φ mh s.heap) (ra : VR s.heap φ a (.ref r)) (rb : VR s.heap φ b (.int k)) (e1 : mh[r]? = some (.list vs)) (k1 : SmallI k) (e : pyIdx vs k = some m) (q : ∀ v tk, VR s.heap φ v m → P v { s with toks := tk }) : wpAny c.M A (subscriptTail value slice a b) P E s := by
  obtain ⟨ops, hs⟩ := zdt slice a b
  obtain ⟨k1, k2⟩ := k1
  obtain ⟨t, rfl⟩ := rb.inv_int
  obtain ⟨a1, xs, n, rfl, _, g, r⟩ := H.list_at ra e1
  have hl := r.length
  refine tail_any (show s.TypeIs (.ref a1) "list" from ⟨_, g, rfl⟩) slot_list_getitem.lookup ?_ hs
  rcases zk7 e with ⟨h0, e⟩ | ⟨h0, h1, e⟩
  · obtain ⟨v, ev, rv⟩ := r.get e
    exact wpAny_getItem_list (items := xs.toArray) ⟨_, g, rfl, n, rfl⟩ h0 (by omega) (by simpa using ev) (q v s.toks rv)
  · obtain ⟨v, ev, rv⟩ := r.get e
    exact wpAny_getItem_list_neg (items := xs.toArray) ⟨_, g, rfl, n, rfl⟩ h0 (by simp; omega) (by omega) (by simpa [hl] using ev) (q v s.toks rv)
theorem zqp {A : Around} {φ : Phi} {mh : MH} {s : Shared} {a b : Value} {r : Nat} {ks : List (Int × MV)} {k : Int} {m : MV} {value slice : Expr} {P : Value → Shared → Prop} {E : Value → Shared → Prop}
    (H : c.Hp φ mh s.heap) (ra : VR s.heap φ a (.ref r)) (rb : VR s.heap φ b (.int k)) (e1 : mh[r]? = some (.idict ks)) (e : aget ks k = some m) (q : ∀ v tk, VR s.heap φ v m → P v { s with toks := tk }) : wpAny c.M A (subscriptTail value slice a b) P E s := by
  obtain ⟨ops, hs⟩ := zdt slice a b
  obtain ⟨t, rfl⟩ := rb.inv_int
  obtain ⟨a1, kv, rfl, _, D, R⟩ := H.idict_at ra e1
  obtain ⟨v, ev, rv⟩ := R.value e
  exact tail_any D.typeIs slot_dict_getitem.lookup (wpAny_getItem_of (knd := intKind c.prog c.w) (k := k) (by simp [intKind, Value.isInt]) D.mapOf ev (q v _ rv)) hs
theorem zqo {A : Around} {φ : Phi} {mh : MH} {s : Shared} {a b : Value} {r : Nat} {ks : List (Str × MV)} {k : Str} {m : MV} {value slice : Expr} {P : Value → Shared → Prop} {E : Value → Shared → Prop}
    (H : c.Hp φ mh s.heap) (ra : VR s.heap φ a (.ref r)) (rb : VR s.heap φ b (.str k)) (e1 : mh[r]? = some (.sdict ks)) (e : aget ks k = some m) (q : ∀ v tk, VR s.heap φ v m → P v { s with toks := tk }) : wpAny c.M A (subscriptTail value slice a b) P E s := by
  obtain ⟨ops, hs⟩ := zdt slice a b
  obtain ⟨t, rfl⟩ := rb.inv_str
  obtain ⟨a1, kv, rfl, _, D, R⟩ := H.sdict_at ra e1
  obtain ⟨v, ev, rv⟩ := R.value e
  exact tail_any D.typeIs slot_dict_getitem.lookup (wpAny_getItem_of (knd := PySem.strKind c.prog c.w) (k := k) (by simp [PySem.strKind, Value.isStrOf]) D.mapOf ev (q v _ rv)) hs
theorem zse {ma mb : MV} {Q : MV → Prop} {mh : MH} (q : idxM ma mb Q mh) : (∃ vs k, ma = .tuple vs ∧ mb = .int k) ∨ ∃ r o, ma = .ref r ∧ mh[r]? = some o ∧ idxMo (some o) mb Q := by
  cases ma with
  | tuple vs =>
    obtain ⟨k, rfl⟩ := MV.is_int (P := fun v => idxM (.tuple vs) v Q mh) q id (fun _ => id) (fun _ => id) (fun _ => id) (fun _ _ => id) (fun _ => id) (fun _ => id)
    exact .inl ⟨vs, k, rfl, rfl⟩
  | ref r =>
    have q' : idxMo mh[r]? mb Q := q
    cases e : mh[r]? with
    | none => rw [e] at q'; exact False.elim q'
    | some o => rw [e] at q'; exact .inr ⟨r, o, rfl, e, q'⟩
  | _ => exact False.elim q
theorem zqq {o : MO} {mb : MV} {Q : MV → Prop} (q : idxMo (some o) mb Q) : (∃ vs k, o = .list vs ∧ mb = .int k) ∨ (∃ ks k, o = .idict ks ∧ mb = .int k) ∨ ∃ ks k, o = .sdict ks ∧ mb = .str k := by
  cases o with
  | list vs =>
    obtain ⟨k, rfl⟩ := MV.is_int (P := fun v => idxMo (some (.list vs)) v Q) q id (fun _ => id) (fun _ => id) (fun _ => id) (fun _ _ => id) (fun _ => id) (fun _ => id)
    exact .inl ⟨vs, k, rfl, rfl⟩
  | idict vs =>
    obtain ⟨k, rfl⟩ := MV.is_int (P := fun v => idxMo (some (.idict vs)) v Q) q id (fun _ => id) (fun _ => id) (fun _ => id) (fun _ _ => id) (fun _ => id) (fun _ => id)
    exact .inr (.inl ⟨vs, k, rfl, rfl⟩)
  | sdict ks => cases mb with
    | str k => exact .inr (.inr ⟨ks, k, rfl, rfl⟩)
    | _ => exact False.elim q
  | _ => exact False.elim q
theorem zqn {A : Around} {φ : Phi} {mh : MH} {s : Shared} {a b : Value} {ma mb : MV} {value slice : Expr} {P : Value → Shared → Prop} {E : Value → Shared → Prop} {Q : MV → Prop}
    (H : c.Hp φ mh s.heap) (ra : VR s.heap φ a ma) (rb : VR s.heap φ b mb) (q : idxM ma mb Q mh) (o : ∀ v m tk, Q m → VR s.heap φ v m → P v { s with toks := tk }) : wpAny c.M A (subscriptTail value slice a b) P E s := by
  rcases zse q with ⟨vs, k, rfl, rfl⟩ | ⟨r, o', rfl, e1, q⟩
  · obtain ⟨k1, m, e, q⟩ := q
    exact zqm ra rb k1 e fun v tk rv => o v m tk q rv
  · rcases zqq q with ⟨vs, k, rfl, rfl⟩ | ⟨ks, k, rfl, rfl⟩ | ⟨ks, k, rfl, rfl⟩
    · obtain ⟨k1, m, e, q⟩ := q
      exact zsd H ra rb e1 k1 e fun v tk rv => o v m tk q rv
    · obtain ⟨m, e, q⟩ := q
      exact zqp H ra rb e1 e fun v tk rv => o v m tk q rv
    · obtain ⟨m, e, q⟩ := q
      exact zqo H ra rb e1 e fun v tk rv => o v m tk q rv
@[reducible] noncomputable def mSub2 (ma mi : ME) : ME := fun loc Q mh => ma loc (fun a mh => mi loc (fun i mh => idxM a i (fun v => Q v mh) mh) mh) mh
theorem se_sub {value slice : Expr} {pos : Pos} {ma mi : ME} (ha : SE c sc d value ma) (hi : SE c sc d slice mi) : SE c sc d (.Subscript value slice pos) (mSub2 ma mi) :=
  fun A env loc φ mh s Q P E hr he H F q o => Subscript_ (two ha hi hr he H F q fun a b ma mb φ' mh' h' tk q' x H' ra rb =>
    zqn (s := { s with heap := h', toks := tk }) H' ra rb q' fun v m tk2 hq rv => o v m φ' mh' h' tk2 hq x H' rv)
noncomputable def fldOk (K : Frag) (cl name : Str) : Bool := match clsAt K cl with
  | some C => plainGet K C name && hasDictIn K C && (match findIn K (.ref C) name with | some attr => noGet K attr | none => false) &&
      findIn K (.ref C) "__setattr__" == some (some (.builtin "object.__setattr__")) && plainOver K C && takerIn K C name == some none
  | none => false
noncomputable def fget (fs : List (Str × MV)) (x : Str) : Option MV := (fs.find? fun kv => kv.1 == x).map (·.2)
theorem zsh {hs : Int} {k : Str} {t : Tok} {v : Value} {es : List DictEntry} : getL k (⟨hs, .str k t, v⟩ :: es) = some (some v) := by
  have : (Value.str k t).isStr k = true := by simp [Value.isStr]
  unfold getL
  rw [List.find?_cons]
  simp only [this]
theorem zlt {hs : Int} {k n : Str} {t : Tok} {v : Value} {es : List DictEntry} (hk : k ≠ n) : getL n (⟨hs, .str k t, v⟩ :: es) = getL n es := by
  have : (Value.str k t).isStr n = false := by simp [Value.isStr, hk]
  have h2 : (⟨hs, .str k t, v⟩ : DictEntry).refKey = false := rfl
  unfold getL
  rw [List.find?_cons, List.any_cons, h2, Bool.false_or]
  simp only [this]
theorem znz {k : Str} {m : MV} {fs : List (Str × MV)} : fget ((k, m) :: fs) k = some m := by simp [fget]
theorem zl0 {k n : Str} {m : MV} {fs : List (Str × MV)} (hk : k ≠ n) : fget ((k, m) :: fs) n = fget fs n := by simp [fget, List.find?_cons, hk]
theorem EsR.get {h : Heap} {φ : Phi} {es : List DictEntry} {fs : List (Str × MV)} (x : EsR h φ es fs) {n : Str} {m : MV} (e : fget fs n = some m) : ∃ v, getL n es = some (some v) ∧ VR h φ v m := by
  induction x with
  | nil => simp [fget] at e
  | @cons hs k t v m' es fs a r ih =>
    by_cases hk : k = n
    · subst hk
      rw [znz] at e; cases e
      exact ⟨v, zsh, a⟩
    · rw [zl0 hk] at e
      rw [zlt hk]
      exact ih e
theorem EsR.miss {h : Heap} {φ : Phi} {es : List DictEntry} {fs : List (Str × MV)} (x : EsR h φ es fs) {n : Str} (e : fget fs n = none) : getL n es = some none := by
  induction x with
  | nil => rfl
  | @cons hs k t v m' es fs a r ih =>
    by_cases hk : k = n
    · subst hk
      rw [znz] at e; cases e
    · rw [zl0 hk] at e
      rw [zlt hk]
      exact ih e
theorem EsR.handed {h : Heap} {φ : Phi} {v : Value} {m : MV} (x : VR h φ v m) : handedIn v = true :=
  @VR.casesOn h φ (fun v _ _ => handedIn v = true) v m x rfl (fun _ => rfl) (fun _ _ => rfl) (fun _ _ => rfl) (fun _ _ => rfl) (fun _ => rfl) (fun _ => rfl) (fun _ => rfl)
structure ClsOk (K : Frag) (C : Addr) (name : Str) : Prop where
  plain : plainGet K C name = true
  dict : hasDictIn K C = true
  find : ∃ attr, findIn K (.ref C) name = some attr ∧ noGet K attr = true
  set : findIn K (.ref C) "__setattr__" = some (some (.builtin "object.__setattr__"))
  over : plainOver K C = true
  taker : takerIn K C name = some none
theorem zlz {K : Frag} {cl name : Str} {C : Addr} (e : fldOk K cl name = true) (hc : clsAt K cl = some C) : ClsOk K C name := by
  unfold fldOk at e
  rw [hc] at e
  simp only [Bool.and_eq_true, beq_iff_eq] at e
  obtain ⟨⟨⟨⟨⟨a, b⟩, f⟩, g⟩, h⟩, i⟩ := e
  refine ⟨a, b, ?_, g, h, i⟩
  split at f
  · exact ⟨_, by assumption, f⟩
  · cases f
theorem zkf {A : Around} {φ : Phi} {mh : MH} {s : Shared} {a : Value} {name cl : Str} {r : Nat} {fs : List (Str × MV)} {m : MV} {ex : Bool} {P : Value → Shared → Prop} {E : Value → Shared → Prop}
    (H : c.Hp φ mh s.heap) (ra : VR s.heap φ a (.ref r)) (e : mh[r]? = some (.inst cl fs)) (g : fget fs name = some m) (ok : fldOk c.K cl name = true) (o : ∀ v tk, VR s.heap φ v m → P v { s with toks := tk }) :
    wpAny c.M A (getAttr a name ex) P E s := by
  obtain ⟨a1, d1, rfl, _, o1⟩ := H.ref_at ra e
  obtain ⟨dx, C, es, n, rfl, hc, h1, h2, R⟩ := o1.inv_inst
  obtain ⟨v, e1, rv⟩ := R.get g
  have ok' := zlz ok hc
  obtain ⟨attr, fa, na⟩ := ok'.find
  exact get_value (c.kin.keeps H.base) ⟨h1, rfl, rfl, h2⟩ (plainGet_of ok'.plain).1 (findObj_own (od := dictOf es n) ok'.dict fa na (by rw [lookIn_dict]; exact e1)) (EsR.handed rv) (o v _ rv)
end
end Mine
end
section
namespace Mine
inductive Fl where
  | next
  | ret (v : MV)
inductive FlR (h : Heap) (φ : Phi) : Flow → Fl → Prop
  | next : FlR h φ .next .next
  | ret {v : Value} {m : MV} : VR h φ v m → FlR h φ (.ret v) (.ret m)
structure ExtF (env : Env) (φ φ' : Phi) (h h' : Heap) : Prop where
  pre : φ <+: φ'
  new : ∀ a ∈ addrs φ', a ∈ addrs φ ∨ h.get? a = none
  keep : ∀ b o, b ∉ addrs φ → ¬ ownAt env b → h.get? b = some o → h'.get? b = some o
  own : ∀ b, ownAt env b → b ∉ addrs φ → b ∉ addrs φ'
theorem Ext.toF {env : Env} {φ φ' : Phi} {h h' : Heap} (x : Ext φ φ' h h') (ho : ∀ b, ownAt env b → (h.get? b).isSome) : ExtF env φ φ' h h' := ⟨x.pre, x.new, fun b o h1 _ e => x.keep b o h1 e, fun b hb h1 h2 => by
  rcases x.new b h2 with h3 | h3
  · exact h1 h3
  · have := ho b hb; rw [h3] at this; cases this⟩
theorem ExtF.trans {env : Env} {φ φ' φ'' : Phi} {h h' h'' : Heap} (x : ExtF env φ φ' h h') (y : ExtF env φ' φ'' h' h'') : ExtF env φ φ'' h h'' where
  pre := x.pre.trans y.pre
  new := fun a ha => by
    rcases y.new a ha with h1 | h1
    · exact x.new a h1
    · by_cases hb : a ∈ addrs φ
      · exact .inl hb
      · by_cases ho : ownAt env a
        · exact absurd ha (y.own a ho (x.own a ho hb))
        · refine .inr ?_
          cases e : h.get? a with
          | none => rfl
          | some o => rw [x.keep a o hb ho e] at h1; cases h1
  keep := fun b o hb hn e => by
    refine y.keep b o (fun hc => ?_) hn (x.keep b o hb hn e)
    rcases x.new b hc with h1 | h1
    · exact hb h1
    · rw [h1] at e; cases e
  own := fun b hb h1 => y.own b hb (x.own b hb h1)
noncomputable def upd (loc : Loc) (x : Str) (v : MV) : Loc := fun y => if y = x then some v else loc y
section
variable {c : Cx} {sc : Scope} {d : Nat} {env : Env} {loc : Loc} {φ φ' : Phi} {mh : MH} {h h' : Heap}
theorem own_mut (F : FrR c env loc φ h) {b : Addr} (hb : ownAt env b) {o : Obj} (e : h.get? b = some o) : isMut o := by
  rcases hb with rfl | ⟨x, hk, hl⟩
  · obtain ⟨m, ⟨o', es, ep, ho, hd, _⟩, _⟩ := F.ns
    rw [ho] at e; cases e
    intro vs n a b t u v
    exact ⟨(fun q => by subst q; cases hd), (fun q => by subst q; cases hd)⟩
  · obtain ⟨v, o', ho, hd⟩ := F.are x b hl
    rw [ho] at e; cases e
    intro vs n a b t u v
    exact ⟨(fun q => by subst q; cases hd), (fun q => by subst q; cases hd)⟩
theorem zan (F : FrR c env loc φ h) : ∀ b, ownAt env b → (h.get? b).isSome := by
  intro b hb
  rcases hb with rfl | ⟨x, hk, hl⟩
  · obtain ⟨m, ⟨o', es, ep, ho, hd, _⟩, _⟩ := F.ns; rw [ho]; rfl
  · obtain ⟨v, o', ho, hd⟩ := F.are x b hl; rw [ho]; rfl
theorem ExtF.keepM (x : ExtF env φ φ' h h') (hm : ∀ a, (a ∈ addrs φ ∨ ownAt env a) → ∀ o, h.get? a = some o → isMut o) : KeepI φ φ' h h' :=
  ⟨x.pre, fun b o n e => x.keep b o (fun ha => n (hm b (.inl ha) o e)) (fun ha => n (hm b (.inr ha) o e)) e⟩
theorem VR.keepF (x : ExtF env φ φ' h h') (hm : ∀ a, (a ∈ addrs φ ∨ ownAt env a) → ∀ o, h.get? a = some o → isMut o) {v : Value} {m : MV} (r : VR h φ v m) : VR h' φ' v m := r.keepI (x.keepM hm)
theorem VRs.keepF (x : ExtF env φ φ' h h') (hm : ∀ a, (a ∈ addrs φ ∨ ownAt env a) → ∀ o, h.get? a = some o → isMut o) {vs : List Value} {ms : List MV} (r : VRs h φ vs ms) : VRs h' φ' vs ms := r.keepI (x.keepM hm)
theorem mutF (H : c.Hp φ mh h) (F : FrR c env loc φ h) : ∀ a, (a ∈ addrs φ ∨ ownAt env a) → ∀ o, h.get? a = some o → isMut o := fun a ha o e => ha.elim (fun h1 => H.mut a h1 o e) fun h1 => own_mut F h1 e
theorem zh9 (H : c.Hp φ mh h) (F : FrR c env loc φ h) {X : Addr} (hX : ownAt env X) (k : ∀ b, b ≠ X → h'.get? b = h.get? b) :
    c.Hp φ mh h' ∧ ExtF env φ φ h h' := by
  have hoff : X ∉ addrs φ := by
    rcases hX with rfl | ⟨x, _, hl⟩
    · exact F.offL
    · exact F.offC x X hl
  have hB : c.hB.get? X = none := by
    rcases hX with rfl | ⟨x, hk, hl⟩
    · exact F.baseL
    · exact F.baseC x X hk hl
  have hE : ExtF env φ φ h h' := ⟨List.prefix_rfl, fun _ h => .inl h, fun b o _ hn e => (k b (fun q => hn (q ▸ hX))).trans e, fun _ _ h => h⟩
  refine ⟨⟨fun b o e => (k b (fun q => ?_)).trans (H.base b o e), H.len, fun i o p e1 e2 => ?_, H.nodup, H.off⟩, hE⟩
  · subst q; rw [hB] at e; cases e
  · exact (H.objs i o p e1 e2).keep (fun b ob hb e => (k b (fun q => hoff (q ▸ mem_addrs.mpr ⟨p, List.mem_of_getElem? e2, hb⟩))).trans e) fun v m r => r.keepF hE (mutF H F)
end
noncomputable def OutA (c : Cx) (env : Env) (φ : Phi) (s : Shared) (Q : Loc → MH → Prop) (P : Unit → Shared → Prop) : Prop :=
  ∀ loc' φ' mh' h' tk, Q loc' mh' → ExtF env φ φ' s.heap h' → c.Hp φ' mh' h' → FrR c env loc' φ' h' → P () { s with heap := h', toks := tk }
noncomputable abbrev MA := MV → (Loc → MH → Prop) → Loc → MH → Prop
section
variable {c : Cx} {sc : Scope} {d : Nat}
noncomputable def tgtAddr (env : Env) (xs : List Str) (b : Addr) : Prop := b = env.locals ∨ ∃ x ∈ xs, env.kindOf x = some .cell ∧ env.cells.lookup x = some b
theorem zkv {A : Around} {env : Env} {loc : Loc} {φ : Phi} {mh : MH} {s : Shared} {x : Str} {v : Value} {m : MV} {P : Unit → Shared → Prop} {E : Value → Shared → Prop}
    (he : EnvOk env sc) (hk : sc.names.lookup x = some .local ∨ sc.names.lookup x = some .cell) (H : c.Hp φ mh s.heap) (F : FrR c env loc φ s.heap) (r : VR s.heap φ v m)
    (o : ∀ X h' tk, tgtAddr env [x] X → (∀ b, b ≠ X → h'.get? b = s.heap.get? b) → ExtF env φ φ s.heap h' → c.Hp φ mh h' → FrR c env (upd loc x m) φ h' → P () { s with heap := h', toks := tk }) : wpAny c.M A (storeName env x v) P E s := by
  have hkind : env.scope.kind = .function := by rw [he.scope]; exact he.kind
  rcases hk with hk | hk
  · have hk' : env.kindOf x = some .local := by unfold Env.kindOf; rw [he.scope]; exact hk
    obtain ⟨mm, hn, hl⟩ := F.ns
    refine wpAny_storeName_local hk' hn (fun h' hn' hs => ?_) (by rw [hkind]; rfl)
    obtain ⟨H', X⟩ := zh9 H F (h' := h') (.inl rfl) (fun b hb => hs.2 b hb)
    refine o env.locals h' _ (.inl rfl) (fun b hb => hs.2 b hb) X H' ⟨⟨_, hn', fun y w e ky => ?_⟩, fun y w e ky => ?_, F.own, fun y b e => ?_, F.offL, F.offC, F.inj, F.baseL, F.baseC⟩
    · unfold upd at e
      by_cases hy : y = x
      · subst hy; simp at e; subst e; exact ⟨v, by simp, r.keepF X (mutF H F)⟩
      · rw [if_neg hy] at e
        obtain ⟨a, e1, e2⟩ := hl y w e ky
        exact ⟨a, by rw [if_neg hy]; exact e1, e2.keepF X (mutF H F)⟩
    · unfold upd at e
      have hy : y ≠ x := by rintro rfl; rw [hk'] at ky; rcases ky with ky | ky <;> cases ky
      rw [if_neg hy] at e
      obtain ⟨b, a, e1, ⟨ob, e2, e3⟩, e4⟩ := F.cells y w e ky
      refine ⟨b, a, e1, ⟨ob, (hs.2 b ?_).trans e2, e3⟩, e4.keepF X (mutF H F)⟩
      rintro rfl
      obtain ⟨o', es, ep, ho, hd, _⟩ := hn
      rw [ho] at e2; cases e2; rw [hd] at e3; cases e3
    · obtain ⟨w, ob, e2, e3⟩ := F.are y b e
      refine ⟨w, ob, (hs.2 b ?_).trans e2, e3⟩
      rintro rfl
      obtain ⟨o', es, ep, ho, hd, _⟩ := hn
      rw [ho] at e2; cases e2; rw [hd] at e3; cases e3
  · have hk' : env.kindOf x = some .cell := by unfold Env.kindOf; rw [he.scope]; exact hk
    obtain ⟨b, hb⟩ := Option.isSome_iff_exists.mp (F.own x (.inl hk'))
    obtain ⟨w, hc⟩ := F.are x b hb
    refine wpAny_storeName_cell hkind hk' hb hc fun h' hc' hs => ?_
    obtain ⟨H', X⟩ := zh9 H F (h' := h') (.inr ⟨x, hk', hb⟩) (fun b hb => hs.2 b hb)
    obtain ⟨mm, hn, hl⟩ := F.ns
    have hbl : env.locals ≠ b := by
      rintro rfl
      obtain ⟨ob, e2, e3⟩ := hc
      obtain ⟨o', es, ep, ho, hd, _⟩ := hn
      rw [ho] at e2; cases e2; rw [hd] at e3; cases e3
    refine o b h' s.toks (.inr ⟨x, by simp, hk', hb⟩) (fun b hb => hs.2 b hb) X H' ⟨⟨mm, hn.sameBut hs hbl, fun y w e ky => ?_⟩, fun y w e ky => ?_, F.own, fun y b' e => ?_, F.offL, F.offC, F.inj, F.baseL, F.baseC⟩
    · unfold upd at e
      have hy : y ≠ x := by rintro rfl; rw [hk'] at ky; cases ky
      rw [if_neg hy] at e
      obtain ⟨a, e1, e2⟩ := hl y w e ky
      exact ⟨a, e1, e2.keepF X (mutF H F)⟩
    · unfold upd at e
      by_cases hy : y = x
      · subst hy; simp at e; subst e; exact ⟨b, v, hb, hc', r.keepF X (mutF H F)⟩
      · rw [if_neg hy] at e
        obtain ⟨b', a, e1, hcb, e4⟩ := F.cells y w e ky
        exact ⟨b', a, e1, hcb.sameBut hs (fun q => hy (F.inj y x b' e1 (q ▸ hb))), e4.keepF X (mutF H F)⟩
    · by_cases hbb : b' = b
      · subst hbb; exact ⟨_, hc'⟩
      · obtain ⟨w', hcb⟩ := F.are y b' e
        exact ⟨w', hcb.sameBut hs hbb⟩
theorem zjx {A : Around} {env : Env} {loc : Loc} {φ : Phi} {mh : MH} {s : Shared} {x : Str} {v : Value} {m : MV} {P : Unit → Shared → Prop} {E : Value → Shared → Prop}
    (he : EnvOk env sc) (hk : sc.names.lookup x = some .local ∨ sc.names.lookup x = some .cell) (H : c.Hp φ mh s.heap) (F : FrR c env loc φ s.heap) (r : VR s.heap φ v m)
    (o : ∀ X h' tk, tgtAddr env [x] X → (∀ b, b ≠ X → h'.get? b = s.heap.get? b) → ExtF env φ φ s.heap h' → c.Hp φ mh h' → FrR c env (upd loc x m) φ h' → P () { s with heap := h', toks := tk }) : wpAny c.M A (bindName env x v) P E s :=
  wpAny_bindName (zkv he hk H F r o)
theorem zhh {A : Around} {env : Env} {loc : Loc} {φ : Phi} {mh : MH} {s : Shared} {x : Str} {v : Value} {m : MV} {Q : Loc → MH → Prop} {P : Unit → Shared → Prop} {E : Value → Shared → Prop}
    (he : EnvOk env sc) (hk : sc.names.lookup x = some .local ∨ sc.names.lookup x = some .cell) (H : c.Hp φ mh s.heap) (F : FrR c env loc φ s.heap) (r : VR s.heap φ v m) (q : Q (upd loc x m) mh)
    (o : OutA c env φ s Q P) : wpAny c.M A (bindName env x v) P E s :=
  zjx he hk H F r fun X h' tk _ _ x H' F' => o _ φ mh h' tk q x H' F'
noncomputable def SA (c : Cx) (sc : Scope) (d : Nat) (t : Expr) (m : MA) : Prop :=
  ∀ (A : Around) (env : Env) (loc : Loc) (φ : Phi) (mh : MH) (s : Shared) (v : Value) (mv : MV) (Q : Loc → MH → Prop) (P : Unit → Shared → Prop) (E : Value → Shared → Prop),
    Room A d → EnvOk env sc → c.Hp φ mh s.heap → FrR c env loc φ s.heap → VR s.heap φ v mv → m mv Q loc mh → OutA c env φ s Q P → wpAny c.M A (assign t env v) P E s
@[reducible] noncomputable def aName (x : Str) : MA := fun v Q loc mh => Q (upd loc x v) mh
theorem sa_name {x : Str} {pos : Pos} (hk : sc.names.lookup x = some .local ∨ sc.names.lookup x = some .cell) : SA c sc d (.Name x pos) (aName x) :=
  fun A env loc φ mh s v mv Q P E hr he H F r q o => by
    show wpAny c.M A (do standAt pos; bindName env x v) P E s
    exact wpAny_bind (wpAny_standAt (zhh he hk H F r q o))
theorem OutA.trans {env : Env} {φ φ' : Phi} {s : Shared} {h' : Heap} {tk : Nat} {Q : Loc → MH → Prop} {P : Unit → Shared → Prop} (o : OutA c env φ s Q P) (x : ExtF env φ φ' s.heap h') :
    OutA c env φ' { s with heap := h', toks := tk } Q P := fun loc' φ'' mh'' h'' tk' q e H F => o loc' φ'' mh'' h'' tk' q (x.trans e) H F
noncomputable def updAll : List Str → List MV → Loc → Loc
  | x :: xs, v :: vs, loc => updAll xs vs (upd loc x v)
  | _, _, loc => loc
noncomputable def namesOf : List Expr → Option (List Str)
  | [] => some []
  | .Name x _ :: es => (namesOf es).map (x :: ·)
  | _ => none
theorem zgh {e : Expr} {es : List Expr} {xs : List Str} (hx : namesOf (e :: es) = some xs) : ∃ x pos ys, e = .Name x pos ∧ namesOf es = some ys ∧ xs = x :: ys := by
  cases e with
  | Name x pos =>
    obtain ⟨ys, h1, h2⟩ := Option.map_eq_some_iff.mp (show (namesOf es).map (x :: ·) = some xs from hx)
    exact ⟨x, pos, ys, rfl, h1, h2.symm⟩
  | _ => exact nomatch (show none = some xs from hx)
theorem zg6 {env : Env} {xs ys : List Str} (h : ∀ x ∈ xs, x ∈ ys) {b : Addr} (ht : tgtAddr env xs b) : tgtAddr env ys b := by
  rcases ht with h1 | ⟨x, hx, h2⟩
  · exact .inl h1
  · exact .inr ⟨x, h x hx, h2⟩
theorem zrc {env : Env} {x : Str} {xs : List Str} {b : Addr} (h : tgtAddr env [x] b) : tgtAddr env (x :: xs) b := zg6 (fun z hz => by cases hz with | head => exact .head _ | tail _ h => cases h) h
theorem zhq {es : List Expr} {xs : List Str} (hx : namesOf es = some xs) (hk : ∀ x ∈ xs, sc.names.lookup x = some .local ∨ sc.names.lookup x = some .cell) :
    ∀ {A : Around} {env : Env} {loc : Loc} {φ : Phi} {mh : MH} {s : Shared} {vs : List Value} {ms : List MV} {P : Unit → Shared → Prop} {E : Value → Shared → Prop},
    EnvOk env sc → c.Hp φ mh s.heap → FrR c env loc φ s.heap → VRs s.heap φ vs ms →
    (∀ h' tk, (∀ b o, ¬ tgtAddr env xs b → s.heap.get? b = some o → h'.get? b = some o) → c.Hp φ mh h' → FrR c env (updAll xs ms loc) φ h' → ExtF env φ φ s.heap h' → P () { s with heap := h', toks := tk }) →
    wpAny c.M A (assignInOrder ((assignEach es env).map (·.2)) vs) P E s := by
  induction es generalizing xs with
  | nil =>
    intro A env loc φ mh s vs ms P E he H F r o
    cases hx
    have : assignInOrder ((assignEach [] env).map (·.2)) vs = pure () := by show assignInOrder [] vs = _; cases vs <;> rfl
    rw [this]
    exact wpAny_pure (o s.heap s.toks (fun _ _ _ e => e) H F ((Ext.refl _ _).toF (zan F)))
  | cons e es ih =>
    intro A env loc φ mh s vs ms P E he H F r o
    obtain ⟨x, pos, ys, rfl, hy, rfl⟩ := zgh hx
    cases vs with
    | nil =>
      cases r.inv_vnil
      exact wpAny_pure (o s.heap s.toks (fun _ _ _ e => e) H F ((Ext.refl _ _).toF (zan F)))
    | cons v vs =>
      obtain ⟨m, ms, rfl, r, rs⟩ := r.inv_vcons
      show wpAny c.M A (do holding vs (do standAt pos; bindName env x v); assignInOrder ((assignEach es env).map (·.2)) vs) P E s
      refine wpAny_bind (wpAny_holding (wpAny_bind (wpAny_standAt (zjx he (hk x (.head _)) H F r fun X h1 tk1 hX k1 x1 H1 F1 => ?_))))
      refine ih hy (fun z hz => hk z (.tail _ hz)) he H1 F1 (rs.keepF x1 (mutF H F)) fun h2 tk2 k2 H2 F2 x2 => ?_
      exact o h2 tk2 (fun b ob hb e => k2 b ob (fun hq => hb (zg6 (fun z hz => .tail _ hz) hq)) ((k1 b (fun hq => hb (hq ▸ zrc hX))).trans e)) H2 F2 (x1.trans x2)
theorem zme {es : List Expr} {xs : List Str} (hx : namesOf es = some xs) (hk : ∀ x ∈ xs, sc.names.lookup x = some .local ∨ sc.names.lookup x = some .cell)
    {A : Around} {env : Env} {loc : Loc} {φ : Phi} {mh : MH} {s : Shared} {vs : List Value} {ms : List MV} {Q : Loc → MH → Prop} {P : Unit → Shared → Prop} {E : Value → Shared → Prop}
    (hr : Room A d) (he : EnvOk env sc) (H : c.Hp φ mh s.heap) (F : FrR c env loc φ s.heap) (r : VRs s.heap φ vs ms) (q : Q (updAll xs ms loc) mh) (o : OutA c env φ s Q P) :
    wpAny c.M A (assignInOrder ((assignEach es env).map (·.2)) vs) P E s :=
  zhq hx hk he H F r fun h' tk _ H' F' x => o _ φ mh h' tk q x H' F'
theorem zfz {es : List Expr} {xs : List Str} {env : Env} (hx : namesOf es = some xs) : (assignEach es env).length = xs.length ∧ ((assignEach es env).findIdx? (·.1)) = none := by
  induction es generalizing xs with
  | nil => cases hx; exact ⟨rfl, rfl⟩
  | cons e es ih =>
    obtain ⟨x, pos, ys, rfl, hy, rfl⟩ := zgh hx
    obtain ⟨h1, h2⟩ := ih hy
    have e1 : assignEach (.Name x pos :: es) env = (false, assign (.Name x pos) env) :: assignEach es env := rfl
    rw [e1]
    exact ⟨congrArg Nat.succ h1, by simp [List.findIdx?_cons, h2]⟩
noncomputable def aTuple (xs : List Str) : MA := fun v Q loc mh => ∃ vs, v = .tuple vs ∧ vs.length = xs.length ∧ Q (updAll xs vs loc) mh
theorem zg8 {es : List Expr} {xs : List Str} {k : Nat} {pos : Pos} (hx : namesOf es = some xs) (hk : ∀ x ∈ xs, sc.names.lookup x = some .local ∨ sc.names.lookup x = some .cell) : SA c sc d (.Tuple es k pos) (aTuple xs) :=
  fun A env loc φ mh s v mv Q P E hr he H F r q o => by
    obtain ⟨vs, rfl, hl, q⟩ := q
    obtain ⟨a, ws, n, rfl, g, rs⟩ := r.inv_tuple
    rw [assign_Tuple]
    have hsz : ws.toArray.size = xs.length := by simp [rs.length, hl]
    obtain ⟨hl1, hl2⟩ := zfz (env := env) hx
    refine wpAny_bind (wpAny_standAt (PyProof.Rows.unpack_tuple (items := ws.toArray) hr.handled ⟨_, g, rfl, n, rfl⟩ (by rw [hl1, hsz]) hl2 fun h' hext => ?_))
    have hk' : ∀ b o, s.heap.get? b = some o → h'.get? b = some o := fun b o e => hext b o (Nat.ne_of_lt (Heap.lt_size e)) e
    have hE := Ext.of_keep (φ := φ) hk'
    have hEF := hE.toF (zan F)
    exact zme hx hk hr he (H.keep hk') (F.ext H hE) (H.vrs hE rs) q (o.trans hEF)
end
end Mine
end
section
namespace Mine
noncomputable def kset {α : Type} [DecidableEq α] : List (α × MV) → α → MV → List (α × MV)
  | [], x, v => [(x, v)]
  | (y, w) :: fs, x, v => if y = x then (y, v) :: fs else (y, w) :: kset fs x v
section
variable {c : Cx} {sc : Scope} {d : Nat}
theorem EsR.set {h : Heap} {φ : Phi} {es : List DictEntry} {fs : List (Str × MV)} (x : EsR h φ es fs) (n : Str) (hs : Int) (t : Tok) {v : Value} {m : MV} (r : VR h φ v m) :
    EsR h φ (putL n hs (.str n t) v es) (kset fs n m) := by
  induction x with
  | nil => exact .cons r .nil
  | @cons hs' k t' v' m' es fs a q ih =>
    have e1 : putL n hs (.str n t) v (⟨hs', .str k t', v'⟩ :: es) = if (Value.str k t').isStr n then ⟨hs', .str k t', v⟩ :: es else ⟨hs', .str k t', v'⟩ :: putL n hs (.str n t) v es := rfl
    have e2 : kset ((k, m') :: fs) n m = if k = n then (k, m) :: fs else (k, m') :: kset fs n m := rfl
    rw [e1, e2]
    by_cases hk : k = n
    · subst hk
      have : (Value.str k t').isStr k = true := by simp [Value.isStr]
      rw [if_pos this, if_pos rfl]
      exact .cons r q
    · have : ¬ ((Value.str k t').isStr n = true) := by simp [Value.isStr, hk]
      rw [if_neg this, if_neg hk]
      exact .cons a ih
theorem EsR.noref {h : Heap} {φ : Phi} {es : List DictEntry} {fs : List (Str × MV)} (x : EsR h φ es fs) : es.any (·.refKey) = false := by
  induction x with
  | nil => rfl
  | cons a q ih => rw [List.any_cons, ih]; rfl
theorem EsR.length {h : Heap} {φ : Phi} {es : List DictEntry} {fs : List (Str × MV)} (x : EsR h φ es fs) : es.length = fs.length := by
  induction x with
  | nil => rfl
  | cons a q ih => simp [ih]
theorem zhm (n : Str) (hs : Int) (k v : Value) : ∀ es : List DictEntry, (putL n hs k v es).length ≤ es.length + 1
  | [] => Nat.le_refl _
  | e :: r => by
    unfold putL
    split
    · simp
    · have := zhm n hs k v r; simp; omega
theorem zos {h : Heap} {φ : Phi} {es : List DictEntry} {fs : List (Str × MV)} (x : EsR h φ es fs) {name : Str} : aRefKeyMayBeTheName name es.toArray = false := by
  rw [aRefKeyMayBeTheName_at]
  have := x.noref
  simp only [List.any_toArray]
  rw [show es.any (fun x => x.refKey) = false from this, Bool.and_false]
theorem zsc {φ : Phi} {mh : MH} {h : Heap} {v : Value} {m : MV} {name cl : Str} {r : Nat} {fs : List (Str × MV)} {a1 dx C : Addr} {es : List DictEntry} {n : Nat} {hs : Int} {tk : Tok}
    (H : c.Hp φ mh h) (rv : VR h φ v m) (f : φ[r]? = some (a1, some dx)) (hc : clsAt c.K cl = some C) (h1 : h.get? a1 = some (instObj C dx)) (h2 : h.get? dx = some (dictOf es n)) (R : EsR h φ es fs) :
    N3 (Ext φ φ h (h.update dx (Obj.putName name hs (.str name tk) v))) (c.Hp φ (mh.set r (.inst cl (kset fs name m))) (h.update dx (Obj.putName name hs (.str name tk) v)))
      ((h.update dx (Obj.putName name hs (.str name tk) v)).get? dx = some (dictOf (putL name hs (.str name tk) v es) (putN name es n))) := by
  have D' : (h.update dx (Obj.putName name hs (.str name tk) v)).get? dx = some (dictOf (putL name hs (.str name tk) v es) (putN name es n)) := by
    rw [← putName_dict]
    exact Heap.get?_update_self _ h2 (by rw [putName_dict]; rfl)
  have hne : a1 ≠ dx := by
    rintro rfl
    rw [h1] at h2; cases h2
  have e1 : (h.update dx (Obj.putName name hs (.str name tk) v)).get? a1 = some (instObj C dx) := (Heap.get?_update_ne _ _ _ _ hne).trans h1
  have kk : ∀ b ob, ¬ inP (a1, some dx) b → h.get? b = some ob → (h.update dx (Obj.putName name hs (.str name tk) v)).get? b = some ob := fun b ob hb eb => (Heap.get?_update_ne _ _ _ _ (fun q => hb (.inr (by rw [q])))).trans eb
  generalize h.update dx (Obj.putName name hs (.str name tk) v) = h' at *
  have hU := H.update (h' := h') (o := .inst cl (kset fs name m)) f kk fun hv => .inst hc e1 D' ((R.map hv).set name _ _ (hv _ _ rv))
  exact ⟨hU.2, hU.1, D'⟩
theorem zj0 {A : Around} {φ : Phi} {mh : MH} {s : Shared} {a v : Value} {name cl : Str} {r : Nat} {fs : List (Str × MV)} {m : MV} {P : Unit → Shared → Prop} {E : Value → Shared → Prop}
    (H : c.Hp φ mh s.heap) (ra : VR s.heap φ a (.ref r)) (rv : VR s.heap φ v m) (e : mh[r]? = some (.inst cl fs)) (ok : fldOk c.K cl name = true) (hl : fs.length ≤ 900)
    (o : ∀ h' tk, Ext φ φ s.heap h' → c.Hp φ (mh.set r (.inst cl (kset fs name m))) h' → P () { s with heap := h', toks := tk }) :
    wpAny c.M A (setAttr a name v) P E s := by
  obtain ⟨a1, d1, rfl, f1, o1⟩ := H.ref_at ra e
  obtain ⟨dx, C, es, n, rfl, hc, h1, h2, R⟩ := o1.inv_inst
  have ok' := zlz ok hc
  have X := c.kin.keeps H.base
  obtain ⟨E1, H1, D'⟩ := zsc (name := name) (hs := PyData.keyHash c.w.params name) (tk := s.toks + 1) H rv f1 hc h1 h2 R
  have hlen := Nat.le_trans (zhm name (PyData.keyHash c.w.params name) (.str name (s.toks + 1)) v es) (Nat.succ_le_succ (Nat.le_trans (Nat.le_of_eq R.length) hl))
  have I : InstAt s.heap a1 (instObj C dx) C (some (dictOf es n)) := ⟨h1, rfl, rfl, h2⟩
  refine set_plain X I ok'.set ?_
  refine osa_open (s := { s with toks := s.toks + 1 }) X I ok'.over ok'.taker fun b => ?_
  obtain ⟨cd, hcd, hd'⟩ := any_some (show (clsIn c.K C).any (·.hasDict) = true from ok'.dict)
  refine wpAny_bind (wpAny_pure (wpAny_bind (wpAny_bind (wpAny_loadPart h1 (wpAny_bind ((looks_clsIn X hcd).at ?_))))))
  rw [hd']
  refine wpAny_pure (a := some dx) (wpAny_bind (wpAny_pure (wpAny_bind ?_)))
  unfold nsSet
  refine wpAny_bind (wpAny_bind (wpAny_askSetting (wpAny_pure (wpAny_bind (wpAny_mkText (wpAny_bind (wpAny_loadPart h2 ?_)))))))
  dsimp only
  rw [zos R]
  refine wpAny_updatePart h2 ?_
  refine wpAny_bind (wpAny_lookBehind D' (pastItsLine_dict (es := (putL name (PyData.keyHash c.w.params name) (.str name (s.toks + 1)) v es).toArray) (by
    rw [List.size_toArray, sizeLine_eq]; omega)) ?_)
  exact wpAny_pure (o _ _ E1 H1)
end
end Mine
end
section
namespace Mine
theorem zgy (its : Array Value) (n j : Nat) (x : Value) :
    ∃ n', Obj.mapSeq (·.setIfInBounds j x) { cls := .type "list", data := .seq its n } = { cls := .type "list", data := .seq (its.setIfInBounds j x) n' } := by
  simp [Obj.mapSeq]
section
variable {prog : Program} {w : World} {A : Around} {E : Value → Shared → Prop} {s : Shared}
theorem zj2 {l : Addr} {items : Array Value} {k : Int} {t : Tok} {v : Value} {Q : Unit → Shared → Prop} (hl : s.heap.PlainList l items) {j : Nat}
    (hk : (0 ≤ k ∧ k = j) ∨ (k < 0 ∧ k + items.size = j)) (hfit : -(2 ^ 62) ≤ k ∧ k < 2 ^ 62) (hn : j < items.size)
    (hQ : ∀ h', h'.PlainList l (items.setIfInBounds j v) → Heap.SameBut l s.heap h' → Q () { s with heap := h' }) :
    wpAny (model prog w) A (setItem (.ref l) (.int k t) v) Q E s := by
  obtain ⟨n, ho⟩ := id hl
  have hd : ({ cls := .type "list", data := .seq items n } : Obj).data = .seq items n := rfl
  unfold setItem
  try with_reducible refine wpAny_holding ?_
  first | refine wpAny_bind (wpAny_pure ?_) | skip
  refine wpAny_bind (wpAny_sequenceKey hl.isList.typeIs (by decide) ?_)
  refine wpAny_bind (wpAny_callSpecial?_slot (name := Str.ofString "__setitem__") hl.isList.typeIs slot_list_setitem
    (wpAny_call_entry slot_list_setitem hl.isList.typeIs entry_list_setitem ?_ (args_list_setitem _ _ _)))
  show wpAny _ _ (Builtin.List.listSubscript? (.int k t) >>= _) _ _ s
  have hx' : items[j]? = some items[j] := Array.getElem?_eq_getElem hn
  obtain ⟨n', hd'⟩ := zgy items n j v
  have hfin : (s.heap.update l (Obj.mapSeq (·.setIfInBounds j v))).PlainList l (items.setIfInBounds j v) :=
    ⟨n', by rw [Heap.get?_update_self _ ho (by rw [hd']; rfl), hd']⟩
  have hf : Builtin.List.listFitsIndex k = true := by
    rcases hk with ⟨h0, hj⟩ | ⟨h0, h1⟩
    · exact fitsIndex_of (k := k) h0 (by omega)
    · exact fitsIndex_neg (k := k) h0 (by omega)
  refine wpAny_bind (wpAny_listSubscript_int hf ?_)
  clear hf hfit
  rcases hk with ⟨h0, hj⟩ | ⟨h0, h1⟩
  · subst hj
    show wpAny _ _ ((seqItemAt l j >>= fun r => pure (r.map (j, ·))) >>= _) _ _ s
    refine wpAny_bind (wpAny_bind (wpAny_seqItemAt ho hd (wpAny_pure ?_)))
    rw [hx']
    show wpAny _ _ (setSeqItemAt l j v >>= _) _ _ s
    exact wpAny_bind (wpAny_setSeqItemAt ho hd (wpAny_pure ⟨.none, rfl, wpAny_pure (hQ _ hfin (Heap.SameBut.update ..))⟩))
  · have hidx := seqIndex_neg (n := items.size) h0 (by omega)
    obtain ⟨i, rfl⟩ : ∃ j : Nat, k = Int.negSucc j := by
      cases k with
      | ofNat n => exact absurd h0 (Int.not_lt.mpr (Int.natCast_nonneg n))
      | negSucc n => exact ⟨n, rfl⟩
    show wpAny _ _ ((Builtin.List.listItems (.ref l) >>= fun xs => pure ((seqIndex? (Int.negSucc i) xs.size).bind fun i => xs[i]?.map (i, ·))) >>= _) _ _ s
    refine wpAny_bind (wpAny_bind ?_)
    show wpAny _ _ (seqItems? (.ref l) >>= _) _ _ s
    refine wpAny_bind (wpAny_seqItems ho hd (wpAny_pure (wpAny_pure ?_)))
    have ee : ((seqIndex? (Int.negSucc i) items.size).bind fun i => items[i]?.map (i, ·)) = some (j, items[j]) := by
      rw [hidx, show (Int.negSucc i + (items.size : Int)).toNat = j by omega, Option.bind_some, hx', Option.map_some]
    rw [ee]
    show wpAny _ _ (setSeqItemAt l j v >>= _) _ _ s
    exact wpAny_bind (wpAny_setSeqItemAt ho hd (wpAny_pure ⟨.none, rfl, wpAny_pure (hQ _ hfin (Heap.SameBut.update ..))⟩))
end
section
variable {c : Cx} {sc : Scope} {d : Nat}
theorem KvR.set {α : Type} [DecidableEq α] {h : Heap} {φ : Phi} {ks : List (α × Value)} {ms : List (α × MV)} (x : KvR h φ ks ms) (k : α) {v : Value} {m : MV} (r : VR h φ v m) (hn : (ks.map (·.1)).Nodup) :
    KvR h φ (stored ks k v) (kset ms k m) := by
  induction x with
  | nil => exact .cons r .nil
  | @cons k' v' m' ks ms a q ih =>
    rw [List.map_cons, List.nodup_cons] at hn
    unfold kset
    by_cases hk : k' = k
    · subst hk
      unfold stored
      simp only [List.any_cons, decide_true, Bool.true_or, if_true, List.map_cons]
      rw [map_store_of_not_mem ks _ v hn.1]
      exact .cons r q
    · rw [if_neg hk]
      have : stored ((k', v') :: ks) k v = (k', v') :: stored ks k v := by
        unfold stored
        simp only [List.any_cons, hk, decide_false, Bool.false_or, List.map_cons, if_false]
        split <;> rfl
      rw [this]
      exact .cons a (ih hn.2)
theorem KvR.length {α : Type} {h : Heap} {φ : Phi} {ks : List (α × Value)} {ms : List (α × MV)} (x : KvR h φ ks ms) : ks.length = ms.length := by
  induction x with
  | nil => rfl
  | cons _ _ ih => simp [ih]
theorem DictOf.nodup {K : Type} [DecidableEq K] {prog : Program} {w : World} {knd : KeyKind prog w K} {h : Heap} {a : Addr} {kvs : List (K × Value)} (x : h.DictOf knd a kvs) : (kvs.map (·.1)).Nodup := by
  obtain ⟨_, _, _, _, h⟩ := x
  exact h.2.2.2.2
noncomputable def setMo (r : Nat) (o : Option MO) (i v : MV) (Q : MH → Prop) (mh : MH) : Prop := match o, i with
  | some (.list vs), .int k => SmallI k ∧ ∃ j : Nat, j < vs.length ∧ (k = j ∨ (k < 0 ∧ k + vs.length = j)) ∧ Q (mh.set r (.list (vs.set j v)))
  | some (.idict ks), .int k => ks.length ≤ BIG ∧ Q (mh.set r (.idict (kset ks k v)))
  | some (.sdict ks), .str x => ks.length ≤ BIG ∧ Q (mh.set r (.sdict (kset ks x v)))
  | _, _ => False
noncomputable def setM (a i v : MV) (Q : MH → Prop) (mh : MH) : Prop := match a with
  | .ref r => setMo r mh[r]? i v Q mh
  | _ => False
theorem zp1 {r : Nat} {o : Option MO} {mi v : MV} {Q : MH → Prop} {mh : MH} (q : setMo r o mi v Q mh) : (∃ vs k, o = some (.list vs) ∧ mi = .int k) ∨ (∃ ks k, o = some (.idict ks) ∧ mi = .int k) ∨ ∃ ks k, o = some (.sdict ks) ∧ mi = .str k := by
  cases o with
  | none => exact False.elim q
  | some o => cases o with
    | list vs =>
      obtain ⟨k, rfl⟩ := MV.is_int (P := fun i => setMo r (some (.list vs)) i v Q mh) q id (fun _ => id) (fun _ => id) (fun _ => id) (fun _ _ => id) (fun _ => id) (fun _ => id)
      exact .inl ⟨vs, k, rfl, rfl⟩
    | idict vs =>
      obtain ⟨k, rfl⟩ := MV.is_int (P := fun i => setMo r (some (.idict vs)) i v Q mh) q id (fun _ => id) (fun _ => id) (fun _ => id) (fun _ _ => id) (fun _ => id) (fun _ => id)
      exact .inr (.inl ⟨vs, k, rfl, rfl⟩)
    | sdict ks => cases mi with
      | str k => exact .inr (.inr ⟨ks, k, rfl, rfl⟩)
      | _ => exact False.elim q
    | _ => exact False.elim q
theorem zfe {h h' : Heap} {a : Addr} {d : Option Addr} (x : Heap.SameBut a h h') : ∀ b ob, ¬ inP (a, d) b → h.get? b = some ob → h'.get? b = some ob :=
  fun b ob hb e => (x.2 b (fun q => hb (.inl q))).trans e
theorem zrj {A : Around} {φ : Phi} {mh : MH} {s : Shared} {a i v : Value} {mv : MV} {P : Unit → Shared → Prop} {E : Value → Shared → Prop} {r : Nat} {vs : List MV} {k : Int} {j : Nat} (H : c.Hp φ mh s.heap) (ra : VR s.heap φ a (.ref r)) (ri : VR s.heap φ i (.int k)) (rv : VR s.heap φ v mv) (e1 : mh[r]? = some (.list vs))
    (k1 : SmallI k) (hj : j < vs.length) (hk : k = j ∨ (k < 0 ∧ k + vs.length = j))
    (o : ∀ h' tk, Ext φ φ s.heap h' → c.Hp φ (mh.set r (.list (vs.set j mv))) h' → P () { s with heap := h', toks := tk }) : wpAny c.M A (setItem a i v) P E s := by
  obtain ⟨k1, k2⟩ := k1
  obtain ⟨t, rfl⟩ := ri.inv_int
  obtain ⟨a1, xs, n, rfl, g1, g, R⟩ := H.list_at ra e1
  have hl := R.length
  refine zj2 (items := xs.toArray) (j := j) ⟨n, g⟩ ?_ (by omega) (by simp [hl]; exact hj) fun h' hp hs => ?_
  · rcases hk with rfl | ⟨h1, h2⟩
    · exact .inl ⟨Int.natCast_nonneg _, rfl⟩
    · exact .inr ⟨h1, by simp [hl]; exact h2⟩
  · obtain ⟨n', g'⟩ := hp
    have hU := H.update (h' := h') (o := .list (vs.set j mv)) g1 (zfe hs) (fun hv => .list (n := n') (vs := xs.set j v) (by rw [g']; simp [lstObj]) ((VRs.map hv R).set (hv _ _ rv) j))
    exact o _ s.toks hU.2 hU.1
theorem zp0 {A : Around} {φ : Phi} {mh : MH} {s : Shared} {a i v : Value} {mv : MV} {P : Unit → Shared → Prop} {E : Value → Shared → Prop} {r : Nat} {ks : List (Int × MV)} {k : Int} (H : c.Hp φ mh s.heap) (ra : VR s.heap φ a (.ref r)) (ri : VR s.heap φ i (.int k)) (rv : VR s.heap φ v mv) (e1 : mh[r]? = some (.idict ks))
    (hb : ks.length ≤ BIG)
    (o : ∀ h' tk, Ext φ φ s.heap h' → c.Hp φ (mh.set r (.idict (kset ks k mv))) h' → P () { s with heap := h', toks := tk }) : wpAny c.M A (setItem a i v) P E s := by
  obtain ⟨t, rfl⟩ := ri.inv_int
  obtain ⟨a1, kv, rfl, g1, D, R⟩ := H.idict_at ra e1
  refine wpAny_setItem_pairs (knd := intKind c.prog c.w) (k := k) (by simp [intKind, Value.isInt]) D (fun h' hp hs => ?_) (by have := R.length; exact zay (by omega))
  have hU := H.update (h' := h') (o := .idict (kset ks k mv)) g1 (zfe hs) (fun hv => .idict hp ((R.map hv).set k (hv _ _ rv) (DictOf.nodup D)))
  exact o _ _ hU.2 hU.1
theorem zpz {A : Around} {φ : Phi} {mh : MH} {s : Shared} {a i v : Value} {mv : MV} {P : Unit → Shared → Prop} {E : Value → Shared → Prop} {r : Nat} {ks : List (Str × MV)} {k : Str} (H : c.Hp φ mh s.heap) (ra : VR s.heap φ a (.ref r)) (ri : VR s.heap φ i (.str k)) (rv : VR s.heap φ v mv) (e1 : mh[r]? = some (.sdict ks))
    (hb : ks.length ≤ BIG)
    (o : ∀ h' tk, Ext φ φ s.heap h' → c.Hp φ (mh.set r (.sdict (kset ks k mv))) h' → P () { s with heap := h', toks := tk }) : wpAny c.M A (setItem a i v) P E s := by
  obtain ⟨t, rfl⟩ := ri.inv_str
  obtain ⟨a1, kv, rfl, g1, D, R⟩ := H.sdict_at ra e1
  refine wpAny_setItem_pairs (knd := PySem.strKind c.prog c.w) (k := k) (by simp [PySem.strKind, Value.isStrOf]) D (fun h' hp hs => ?_) (by have := R.length; exact zay (by omega))
  have hU := H.update (h' := h') (o := .sdict (kset ks k mv)) g1 (zfe hs) (fun hv => .sdict hp ((R.map hv).set k (hv _ _ rv) (DictOf.nodup D)))
  exact o _ _ hU.2 hU.1
theorem zpy {A : Around} {φ : Phi} {mh : MH} {s : Shared} {a i v : Value} {ma mi mv : MV} {P : Unit → Shared → Prop} {E : Value → Shared → Prop} {Q : MH → Prop}
    (H : c.Hp φ mh s.heap) (ra : VR s.heap φ a ma) (ri : VR s.heap φ i mi) (rv : VR s.heap φ v mv) (q : setM ma mi mv Q mh)
    (o : ∀ mh' h' tk, Q mh' → Ext φ φ s.heap h' → c.Hp φ mh' h' → P () { s with heap := h', toks := tk }) : wpAny c.M A (setItem a i v) P E s := by
  obtain ⟨r, rfl⟩ := MV.is_ref (P := fun a => setM a mi mv Q mh) q id (fun _ => id) (fun _ => id) (fun _ => id) (fun _ => id) (fun _ _ => id) (fun _ => id)
  replace q : setMo r mh[r]? mi mv Q mh := q
  rcases zp1 q with ⟨vs, k, e1, rfl⟩ | ⟨ks, k, e1, rfl⟩ | ⟨ks, k, e1, rfl⟩
  · rw [e1] at q
    obtain ⟨k1, j, hj, hk, q⟩ := q
    exact zrj H ra ri rv e1 k1 hj hk fun h' tk x H' => o _ _ tk q x H'
  · rw [e1] at q
    obtain ⟨hb, q⟩ := q
    exact zp0 H ra ri rv e1 hb fun h' tk x H' => o _ _ tk q x H'
  · rw [e1] at q
    obtain ⟨hb, q⟩ := q
    exact zpz H ra ri rv e1 hb fun h' tk x H' => o _ _ tk q x H'
theorem Ext.outA {env : Env} {loc : Loc} {φ φ' : Phi} {mh mh' : MH} {s : Shared} {h' : Heap} {tk : Nat} {Q : Loc → MH → Prop} {P : Unit → Shared → Prop} (o : OutA c env φ s Q P) (H : c.Hp φ mh s.heap) (F : FrR c env loc φ s.heap)
    (x : Ext φ φ' s.heap h') (H' : c.Hp φ' mh' h') (q : Q loc mh') : P () { s with heap := h', toks := tk } :=
  o loc φ' mh' h' tk q (x.toF (zan F)) H' (F.ext H x)
@[reducible] noncomputable def aSub (ma mi : ME) : MA := fun v Q loc mh => ma loc (fun a mh => mi loc (fun i mh => setM a i v (fun mh => Q loc mh) mh) mh) mh
theorem sa_sub {value slice : Expr} {pos : Pos} {ma mi : ME} (ha : SE c sc d value ma) (hi : SE c sc d slice mi) : SA c sc d (.Subscript value slice pos) (aSub ma mi) :=
  fun A env loc φ mh s v mv Q P E hr he H F r q o => by
    rw [arm_assign_Subscript]
    refine wpAny_bind (wpAny_holding (wpAny_mono (ha A env loc φ mh s _ (fun ov s₁ => wpAny c.M A (eval slice env) (fun iv s₂ => wpAny c.M A (setItem ov iv v) P E s₂) E s₁) E hr he H F q fun a m1 φ1 mh1 h1 tk1 q1 x1 H1 r1 => ?_) (fun ov s₁ hh => ?_) fun _ _ z => z))
    · refine hi A env loc φ1 mh1 _ _ _ E hr he H1 (F.ext H x1) q1 fun b m2 φ2 mh2 h2 tk2 q2 x2 H2 r2 => ?_
      refine zpy (s := { s with heap := h2, toks := tk2 }) H2 (H1.vr x2 r1) r2 (H1.vr x2 (H.vr x1 r)) q2 fun mh3 h3 tk3 q3 x3 H3 => ?_
      exact Ext.outA (s := s) o H F ((x1.trans x2).trans x3) H3 q3
    · refine wpAny_bind (wpAny_holding (wpAny_mono hh (fun iv s₂ h2 => ?_) fun _ _ z => z))
      exact wpAny_bind (wpAny_standAt (wpAny_bind (wpAny_holding (wpAny_mono h2 (fun _ _ z => wpAny_release z) fun _ _ z => z))))
end
end Mine
end
section
namespace Mine
noncomputable abbrev MS := Loc → (Fl → Loc → MH → Prop) → MH → Prop
noncomputable def OutS (c : Cx) (env : Env) (φ : Phi) (s : Shared) (Q : Fl → Loc → MH → Prop) (P : Flow → Shared → Prop) : Prop :=
  ∀ fl m loc' φ' mh' h' tk, Q m loc' mh' → FlR h' φ' fl m → ExtF env φ φ' s.heap h' → c.Hp φ' mh' h' → FrR c env loc' φ' h' → P fl { s with heap := h', toks := tk }
noncomputable def SS (c : Cx) (sc : Scope) (d : Nat) (st : Stmt) (m : MS) : Prop :=
  ∀ (A : Around) (env : Env) (loc : Loc) (φ : Phi) (mh : MH) (s : Shared) (Q : Fl → Loc → MH → Prop) (P : Flow → Shared → Prop) (E : Value → Shared → Prop),
    Room A d → EnvOk env sc → c.Hp φ mh s.heap → FrR c env loc φ s.heap → m loc Q mh → OutS c env φ s Q P → wpAny c.M A (exec st env) P E s
noncomputable def SB (c : Cx) (sc : Scope) (d : Nat) (st : List Stmt) (m : MS) : Prop :=
  ∀ (A : Around) (env : Env) (loc : Loc) (φ : Phi) (mh : MH) (s : Shared) (Q : Fl → Loc → MH → Prop) (P : Flow → Shared → Prop) (E : Value → Shared → Prop),
    Room A d → EnvOk env sc → c.Hp φ mh s.heap → FrR c env loc φ s.heap → m loc Q mh → OutS c env φ s Q P → wpAny c.M A (execs st env) P E s
noncomputable def scEnv (sc : Scope) : Env := { scope := sc, locals := 0, globals := 0, cells := [] }
section
variable {c : Cx} {sc : Scope} {d : Nat}
theorem OutS.trans {env : Env} {φ φ' : Phi} {s : Shared} {h' : Heap} {tk : Nat} {Q : Fl → Loc → MH → Prop} {P : Flow → Shared → Prop} (o : OutS c env φ s Q P) (x : ExtF env φ φ' s.heap h') :
    OutS c env φ' { s with heap := h', toks := tk } Q P := fun fl m loc' φ'' mh'' h'' tk' q r e H F => o fl m loc' φ'' mh'' h'' tk' q r (x.trans e) H F
theorem zjw {env : Env} (he : EnvOk env sc) (value : Expr) (t : Option Expr) (line : Nat) : swapsWith value t line env = swapsWith value t line (scEnv sc) := by
  unfold swapsWith Env.blockKind Env.kindOf scEnv
  rw [he.scope]
theorem zge {env : Env} (he : EnvOk env sc) (ts : List Expr) (value : Expr) (line : Nat) : swapsWithSole ts value line env = swapsWithSole ts value line (scEnv sc) := by
  unfold swapsWithSole
  split
  · exact zjw he _ _ _
  · rfl
theorem zf1 {env : Env} (he : EnvOk env sc) (ts : List Expr) (value : Expr) : swappedStores ts value env = swappedStores ts value (scEnv sc) := by
  unfold swappedStores Env.blockKind Env.kindOf scEnv
  rw [he.scope]
@[reducible] noncomputable def sExpr (m : ME) : MS := fun loc Q mh => m loc (fun _ mh => Q .next loc mh) mh
theorem ss_expr {e : Expr} {pos : Pos} {m : ME} (hm : SE c sc d e m) (hs : swapsWith e none pos.line (scEnv sc) = pure false) : SS c sc d (.Expr e pos) (sExpr m) :=
  fun A env loc φ mh s Q P E hr he H F q o => by
    refine wpAny_Expr_any (hm A env loc φ mh s _ _ E hr he H F q fun v mv φ' mh' h' tk q' x H' r => ?_) ?_ ((zjw he _ _ _).trans hs)
    · exact o _ _ loc φ' mh' h' tk q' .next (x.toF (zan F)) H' (F.ext H x)
    · unfold interactive; rw [he.scope, he.kind]; rfl
@[reducible] noncomputable def sRet (m : ME) : MS := fun loc Q mh => m loc (fun v mh => Q (.ret v) loc mh) mh
theorem zah {e : Expr} {pos : Pos} {m : ME} (hm : SE c sc d e m) : SS c sc d (.Return (some e) pos) (sRet m) :=
  fun A env loc φ mh s Q P E hr he H F q o => wpAny_Return_some (hm A env loc φ mh s _ _ E hr he H F q fun v mv φ' mh' h' tk q' x H' r =>
    o _ _ loc φ' mh' h' tk q' (.ret r) (x.toF (zan F)) H' (F.ext H x))
@[reducible] noncomputable def sPass : MS := fun loc Q mh => Q .next loc mh
@[reducible] noncomputable def sAssign (m : ME) (a : MA) : MS := fun loc Q mh => m loc (fun v mh => a v (Q .next) loc mh) mh
theorem zae {t value : Expr} {pos : Pos} {m : ME} {a : MA} (hm : SE c sc d value m) (ha : SA c sc d t a) (hst : ∀ env, (assignEach [t] env).map (·.2) = [assign t env])
    (hs : swapsWith value (some t) pos.line (scEnv sc) = pure false) (hw : swappedStores [t] value (scEnv sc) = pure none) : SS c sc d (.Assign [t] value pos) (sAssign m a) :=
  fun A env loc φ mh s Q P E hr he H F q o => by
    refine wpAny_Assign_stores (hm A env loc φ mh s _ _ E hr he H F q fun v mv φ' mh' h' tk q' x H' r => ?_) ((zge he _ _ _).trans hs) ((zf1 he _ _).trans hw)
    rw [hst]
    show wpAny _ _ (assign t env v) _ _ _
    refine ha A env loc φ' mh' { s with heap := h', toks := tk } v mv _ _ E hr he H' (F.ext H x) r q' fun loc'' φ'' mh'' h'' tk' q'' x'' H'' F'' => ?_
    exact o _ _ loc'' φ'' mh'' h'' tk' q'' .next ((x.toF (zan F)).trans x'') H'' F''
@[reducible] noncomputable def znf (m : ME) (a b : MA) : MS := fun loc Q mh => m loc (fun v mh => a v (fun loc mh => b v (Q .next) loc mh) loc mh) mh
theorem zof {t t2 value : Expr} {pos : Pos} {m : ME} {a b : MA} (hm : SE c sc d value m) (ha : SA c sc d t a) (hb : SA c sc d t2 b) (hst : ∀ env, (assignEach [t, t2] env).map (·.2) = [assign t env, assign t2 env])
    (hw : swappedStores [t, t2] value (scEnv sc) = pure none) : SS c sc d (.Assign [t, t2] value pos) (znf m a b) :=
  fun A env loc φ mh s Q P E hr he H F q o => by
    refine wpAny_Assign_two (hm A env loc φ mh s _ _ E hr he H F q fun v mv φ' mh' h' tk q' x H' r => ?_) (hst env) ((zf1 he _ _).trans hw)
    refine ha A env loc φ' mh' { s with heap := h', toks := tk } v mv _ _ E hr he H' (F.ext H x) r q' fun loc2 φ2 mh2 h2 tk2 q2 x2 H2 F2 => ?_
    refine hb A env loc2 φ2 mh2 { s with heap := h2, toks := tk2 } v mv _ _ E hr he H2 F2 (r.keepF x2 (mutF H' (F.ext H x))) q2 fun loc3 φ3 mh3 h3 tk3 q3 x3 H3 F3 => ?_
    exact o _ _ loc3 φ3 mh3 h3 tk3 q3 .next (((x.toF (zan F)).trans x2).trans x3) H3 F3
theorem zpl {xs : List Str} (hk : ∀ x ∈ xs, sc.names.lookup x = some .local ∨ sc.names.lookup x = some .cell) :
    ∀ {A : Around} {env : Env} {loc : Loc} {φ : Phi} {mh : MH} {s : Shared} {vs : List Value} {ms : List MV} {Q : Loc → MH → Prop} {P : Unit → Shared → Prop} {E : Value → Shared → Prop},
    EnvOk env sc → c.Hp φ mh s.heap → FrR c env loc φ s.heap → VRs s.heap φ vs ms → Q (updAll xs ms loc) mh → OutA c env φ s Q P →
    wpAny c.M A (assignInOrder (xs.map fun n => bindName env n) vs) P E s := by
  induction xs with
  | nil =>
    intro A env loc φ mh s vs ms Q P E he H F r q o
    have : assignInOrder (([] : List Str).map fun n => bindName env n) vs = pure () := by show assignInOrder [] vs = _; cases vs <;> rfl
    rw [this]
    exact wpAny_pure (o loc φ mh s.heap s.toks (by simpa [updAll] using q) ((Ext.refl _ _).toF (zan F)) H F)
  | cons x xs ih =>
    intro A env loc φ mh s vs ms Q P E he H F r q o
    cases r with
    | nil =>
      have : assignInOrder ((x :: xs).map fun n => bindName env n) [] = pure () := rfl
      rw [this]
      exact wpAny_pure (o loc φ mh s.heap s.toks (by simpa [updAll] using q) ((Ext.refl _ _).toF (zan F)) H F)
    | @cons v vs m ms r rs =>
      show wpAny c.M A (do holding vs (bindName env x v); assignInOrder (xs.map fun n => bindName env n) vs) P E s
      refine wpAny_bind (wpAny_holding (zhh (Q := fun loc' mh' => loc' = upd loc x m ∧ mh' = mh) he (hk x (by simp)) H F r ⟨rfl, rfl⟩ fun loc' φ' mh' h' tk q1 x1 H1 F1 => ?_))
      obtain ⟨rfl, rfl⟩ := q1
      exact ih (fun z hz => hk z (by simp [hz])) he H1 F1 (rs.keepF x1 (mutF H F)) (by simpa [updAll] using q) (o.trans x1)
theorem VRs.reverse {h : Heap} {φ : Phi} {vs : List Value} {ms : List MV} (x : VRs h φ vs ms) : VRs h φ vs.reverse ms.reverse := by
  induction vs generalizing ms with
  | nil => cases x; exact .nil
  | cons v vs ih =>
    cases x with
    | cons a r => simp only [List.reverse_cons]; exact (ih r).append (.one a)
noncomputable def sSwap (m : ME) (xs : List Str) : MS := fun loc Q mh => m loc (fun v mh => ∃ vs, v = .tuple vs ∧ vs.length = xs.length ∧ Q .next (updAll xs.reverse vs.reverse loc) mh) mh
theorem ss_swap {ts : List Expr} {value : Expr} {pos : Pos} {m : ME} {xs : List Str} (hm : SE c sc d value m)
    (hs : swapsWithSole ts value pos.line (scEnv sc) = pure false) (hw : swappedStores ts value (scEnv sc) = pure (some xs)) (hk : ∀ x ∈ xs, sc.names.lookup x = some .local ∨ sc.names.lookup x = some .cell) :
    SS c sc d (.Assign ts value pos) (sSwap m xs) :=
  fun A env loc φ mh s Q P E hr he H F q o => by
    rw [exec_Assign_arm]
    refine wpAny_bind (wpAny_standAt ?_)
    rw [(zge he _ _ _).trans hs]
    refine wpAny_bind (wpAny_pure ?_)
    rw [if_neg (by decide)]
    refine wpAny_bind (hm A env loc φ mh s _ _ E hr he H F q fun v mv φ' mh' h' tk q' x H' r => ?_)
    rw [(zf1 he _ _).trans hw]
    refine wpAny_bind (wpAny_pure ?_)
    obtain ⟨vs, rfl, hl, q'⟩ := q'
    cases r with
    | @tuple a ws n _ g rs =>
      have hl' := rs.length
      show wpAny _ _ (do rule "assign.swapped-stores"; let items ← unpackItems (.ref a) xs.length none; assignInOrder (xs.reverse.map fun n => bindName env n) items.reverse; pure Flow.next) _ _ _
      refine wpAny_bind (wpAny_rule (wpAny_bind ?_))
      rw [show xs.length = ws.toArray.size by simp; omega]
      refine wpAny_unpackItems_tuple (items := ws.toArray) hr.handled ⟨_, g, rfl, n, rfl⟩ fun h2 hext => ?_
      have hk' : ∀ b o, h'.get? b = some o → h2.get? b = some o := fun b o e => hext b o (Nat.ne_of_lt (Heap.lt_size e)) e
      have hE := Ext.of_keep (φ := φ') hk'
      have F1 := F.ext H x
      refine wpAny_bind (zpl (Q := fun loc' mh' => Q .next loc' mh') (loc := loc) (xs := xs.reverse) (fun z hz => hk z (by simpa using hz)) he (H'.keep hk') (F1.ext H' hE) (ms := vs.reverse) ?_ q' ?_)
      · simp only
        exact (H'.vrs hE rs).reverse
      · intro loc3 φ3 mh3 h3 tk3 q3 x3 H3 F3
        exact wpAny_pure (o _ _ loc3 φ3 mh3 h3 tk3 q3 .next (((x.toF (zan F)).trans (hE.toF (zan F1))).trans x3) H3 F3)
noncomputable def sSeq (m : MS) (n : MS) : MS := fun loc Q mh => m loc (fun fl loc mh => match fl with | .next => n loc Q mh | .ret v => Q (.ret v) loc mh) mh
theorem sb_nil : SB c sc d [] sPass :=
  fun A env loc φ mh s Q P E hr he H F q o => wpAny_execs_nil (o _ _ loc φ mh s.heap s.toks q .next ((Ext.refl _ _).toF (zan F)) H F)
theorem sb_cons {st : Stmt} {rest : List Stmt} {m n : MS} (h1 : SS c sc d st m) (h2 : SB c sc d rest n) : SB c sc d (st :: rest) (sSeq m n) :=
  fun A env loc φ mh s Q P E hr he H F q o => by
    refine wpAny_execs_cons (h1 A env loc φ mh s _ _ E hr he H F q fun fl m loc' φ' mh' h' tk q' r x H' F' => ?_)
    cases r with
    | next => exact h2 A env loc' φ' mh' _ Q P E hr he H' F' q' (o.trans x)
    | ret r => exact o _ _ loc' φ' mh' h' tk q' (.ret r) x H' F'
theorem sb_one {st : Stmt} {m : MS} (h1 : SS c sc d st m) : SB c sc d [st] m :=
  fun A env loc φ mh s Q P E hr he H F q o => by
    refine wpAny_execs_cons (h1 A env loc φ mh s _ _ E hr he H F q fun fl m loc' φ' mh' h' tk q' r x H' F' => ?_)
    cases r with
    | next => exact wpAny_execs_nil (o _ _ loc' φ' mh' h' tk q' .next x H' F')
    | ret r => exact o _ _ loc' φ' mh' h' tk q' (.ret r) x H' F'
@[reducible] noncomputable def sIf (t : MT) (m n : MS) : MS := fun loc Q mh => t loc (fun b mh => if b = true then m loc Q mh else n loc Q mh) mh
theorem ss_if {test : Expr} {body orelse : List Stmt} {pos : Pos} {t : MT} {m n : MS} (ht : ST c sc d test t) (hb : SB c sc d body m) (ho : SB c sc d orelse n) : SS c sc d (.If test body orelse pos) (sIf t m n) :=
  fun A env loc φ mh s Q P E hr he H F q o => by
    refine wpAny_If (ht A env loc φ mh s _ _ E hr he H F q fun b φ' mh' h' tk q' x H' => ?_)
    cases b with
    | true => simp only [if_true] at q' ⊢; exact hb A env loc φ' mh' _ Q P E hr he H' (F.ext H x) q' (o.trans (x.toF (zan F)))
    | false => simp only [Bool.false_eq_true, if_false] at q' ⊢; exact ho A env loc φ' mh' _ Q P E hr he H' (F.ext H x) q' (o.trans (x.toF (zan F)))
end
end Mine
end
section
namespace Mine
inductive MIt where
  | val (x : MV)
  | enum (r : Nat)
noncomputable def rngL (a b : Int) : List MV := (List.range (b - a).toNat).map fun (i : Nat) => .int (a + i)
noncomputable def enumL (ws : List MV) : List MV := ws.zipIdx.map fun p => .tuple [.int (p.2 : Nat), p.1]
noncomputable def iterOk (x : MIt) (vs : List MV) (mh : MH) : Prop := match x with
  | .val (.tuple ws) => vs = ws
  | .val (.range a b) => SmallI a ∧ SmallI b ∧ vs = rngL a b
  | .val (.ref r) => mh[r]? = some (.list vs)
  | .enum r => ∃ ws, mh[r]? = some (.list ws) ∧ vs = enumL ws
  | _ => False
structure Apart (c : Cx) (env : Env) (φ : Phi) (h : Heap) (own : List Addr) : Prop where
  phi : ∀ a ∈ own, a ∉ addrs φ
  base : ∀ a ∈ own, c.hB.get? a = none
  loc : ∀ a ∈ own, a ≠ env.locals
  cell : ∀ a ∈ own, ∀ x b, env.cells.lookup x = some b → a ≠ b
  muts : ∀ a ∈ own, ∃ o, h.get? a = some o ∧ isMut o
section
variable {c : Cx} {sc : Scope} {d : Nat} {env : Env} {loc : Loc} {φ φ' : Phi} {mh : MH} {h h' : Heap} {own : List Addr}
theorem zbr (ap : Apart c env φ h own) (k : ∀ b o, b ∉ own → h.get? b = some o → h'.get? b = some o) : KeepI φ φ h h' :=
  ⟨List.prefix_rfl, fun b o hm e => k b o (fun hb => by obtain ⟨o', e', hm'⟩ := ap.muts b hb; rw [e'] at e; cases e; exact hm hm') e⟩
theorem zcy (H : c.Hp φ mh h) (F : FrR c env loc φ h) (ap : Apart c env φ h own) (k : ∀ b o, b ∉ own → h.get? b = some o → h'.get? b = some o) :
    c.Hp φ mh h' ∧ FrR c env loc φ h' := by
  have KI := zbr ap k
  obtain ⟨⟨m, hn, hl⟩, hc, ho, ha, f1, f2, f3, f4, f5⟩ := F
  refine ⟨⟨fun b o e => k b o (fun hb => by have := ap.base b hb; rw [e] at this; cases this) (H.base b o e), H.len, fun i o p e1 e2 => ?_, H.nodup, H.off⟩,
    ⟨⟨m, ns_at hn fun o e => k _ o (fun hb => ap.loc _ hb rfl) e, fun y v e ky => ?_⟩, fun y v e ky => ?_, ho, fun y b e => ?_, f1, f2, f3, f4, f5⟩⟩
  · exact (H.objs i o p e1 e2).keep (fun b ob hb e => k b ob (fun hq => ap.phi b hq (mem_addrs.mpr ⟨p, List.mem_of_getElem? e2, hb⟩)) e) fun v m r => r.keepI KI
  · obtain ⟨a, e1, r⟩ := hl y v e ky
    exact ⟨a, e1, r.keepI KI⟩
  · obtain ⟨b, a, e1, ⟨o, eo, ed⟩, r⟩ := hc y v e ky
    exact ⟨b, a, e1, ⟨o, k _ o (fun hb => ap.cell _ hb y b e1 rfl) eo, ed⟩, r.keepI KI⟩
  · obtain ⟨o, ob, eo, ed⟩ := ha y b e
    exact ⟨o, ob, k _ ob (fun hb => ap.cell _ hb y b e rfl) eo, ed⟩
inductive ItR (h : Heap) (φ : Phi) : List Addr → Addr → MIt → Nat → Prop
  | tuple {I t : Addr} {i : Nat} {vs : List Value} {n : Nat} {ws : List MV} : h.IsTupleIter I t i → h.get? t = some (tupObj vs n) → VRs h φ vs ws → ItR h φ [I] I (.val (.tuple ws)) i
  | range {I : Addr} {i : Nat} {a b : Int} : IsRangeIter h I (a + i) ((b - a).toNat - i) 1 → ItR h φ [I] I (.val (.range a b)) i
  | list {I l : Addr} {i r : Nat} : φ[r]? = some (l, none) → h.IsListIter I l i → ItR h φ [I] I (.val (.ref r)) i
  | enum {I J l : Addr} {i r : Nat} {old : Value} : I ≠ J → φ[r]? = some (l, none) → IsEnum h I J i old → h.IsListIter J l i → ItR h φ [I, J] I (.enum r) i
theorem ItR.keep {I : Addr} {x : MIt} {i : Nat} (x1 : ItR h φ own I x i) (KI : KeepI φ φ' h h') (ho : ∀ a ∈ own, ∀ o, h.get? a = some o → h'.get? a = some o) : ItR h' φ' own I x i := by
  cases x1 with
  | tuple a b r => exact .tuple (by obtain ⟨o, e, rr⟩ := a; exact ⟨o, ho _ (by simp) _ e, rr⟩) (KI.keep _ _ zf4 b) (r.keepI KI)
  | range a => exact .range (ho _ (by simp) _ a)
  | list a b => exact .list (zf3 KI.pre a) (by obtain ⟨o, e, rr⟩ := b; exact ⟨o, ho _ (by simp) _ e, rr⟩)
  | enum n a b e => exact .enum n (zf3 KI.pre a) (ho _ (by simp) _ b) (by obtain ⟨o, e, rr⟩ := e; exact ⟨o, ho _ (by simp) _ e, rr⟩)
theorem znh {a b : Int} {i : Nat} {m : MV} (e : (rngL a b)[i]? = some m) : i < (b - a).toNat ∧ m = .int (a + i) := by
  unfold rngL at e
  rw [List.getElem?_map] at e
  obtain ⟨x, e1, rfl⟩ := Option.map_eq_some_iff.mp e
  have h1 := List.getElem?_range (n := (b - a).toNat) (i := i)
  by_cases hi : i < (b - a).toNat
  · rw [List.getElem?_range hi] at e1; cases e1; exact ⟨hi, rfl⟩
  · rw [List.getElem?_eq_none (by simpa using hi)] at e1; cases e1
theorem zez (a b : Int) : (rngL a b).length = (b - a).toNat := by simp [rngL]
theorem zqx {ws : List MV} {i : Nat} {m : MV} (e : (enumL ws)[i]? = some m) : ∃ w, ws[i]? = some w ∧ m = .tuple [.int (i : Nat), w] := by
  unfold enumL at e
  rw [List.getElem?_map, List.getElem?_zipIdx] at e
  obtain ⟨x, e1, rfl⟩ := Option.map_eq_some_iff.mp e
  obtain ⟨w, e2, rfl⟩ := Option.map_eq_some_iff.mp e1
  exact ⟨w, e2, by simp⟩
theorem zl1 (ws : List MV) : (enumL ws).length = ws.length := by simp [enumL]
theorem zke {A : Around} {s : Shared} {tgt : Expr} {I : Addr} {v : Value} {o : Obj} {P : Unit → Shared → Prop} {E : Value → Shared → Prop} (e : s.heap.get? I = some o) (T : String) (hc : o.cls = .type T)
    (hT : (["enumerate", "zip", "dict_itemiterator", "dict_reverseitemiterator", "odict_iterator", "itertools.zip_longest", "itertools.pairwise"].contains T) = false) (q : P () s) :
    wpAny c.M A (letOwnedTupleGo tgt (.ref I) v) P E s := by
  have main : wpAny c.M A (do
      let (.ref r, .ref a) := ((.ref I : Value), v) | return
      let o ← load r
      match o.cls, o.data with
      | .type n, .fields vs =>
        if ["enumerate", "zip", "dict_itemiterator", "dict_reverseitemiterator", "odict_iterator", "itertools.zip_longest", "itertools.pairwise"].contains n && vs[0]? == some (rawInt a) then
          rule "for.unpacks-the-owned-tuple"
          updateField r 0 .none
      | _, _ => pure ()) P E s := by
    cases v <;> try exact wpAny_pure q
    refine wpAny_bind (wpAny_load e ?_)
    rw [hc]
    cases o.data <;> try exact wpAny_pure q
    dsimp only
    rw [hT]
    simp only [Bool.false_and, Bool.false_eq_true, if_false]
    exact wpAny_pure q
  unfold letOwnedTupleGo
  cases tgt <;> first | exact wpAny_pure q | exact main
theorem it_item {A : Around} {s : Shared} {I : Addr} {x : MIt} {i : Nat} {vs : List MV} {mv : MV} {tgt : Expr} {P : Value → Shared → Prop} {E : Value → Shared → Prop} {t1 : Bool}
    (hen : (∃ es k p, tgt = .Tuple es k p) ∨ ∀ r, x ≠ .enum r) (H : c.Hp φ mh s.heap) (ap : Apart c env φ s.heap own) (x1 : ItR s.heap φ own I x i) (ok : iterOk x vs mh) (e : vs[i]? = some mv)
    (o : ∀ v h' tk, VR h' φ v mv → ItR h' φ own I x (i + 1) → (∀ b ob, b ∉ own → s.heap.get? b = some ob → h'.get? b = some ob) → P v { s with heap := h', toks := tk }) :
    wpAny c.M A (pyNext (.ref I)) (fun r s1 => ∃ v, r = some v ∧ wpAny c.M A (letOwnedTupleGo tgt (.ref I) v) (fun _ s2 => P v s2) E s1) E s := by
  cases x1 with
  | @tuple _ t _ ws n ms a b r =>
    have ok : vs = ms := ok
    subst ok
    obtain ⟨v, ev, rv⟩ := r.get e
    refine wpAny_pyNext_tuple_item (items := ws.toArray) a ⟨_, b, rfl, n, rfl⟩ (x := v) (by simpa using ev) fun h' hi hs => ⟨v, rfl, ?_⟩
    have hi' := hi
    obtain ⟨oo, eo, ec, _⟩ := hi'
    refine zke eo "tuple_iterator" ec (by decide) ?_
    have k : ∀ b ob, b ∉ [I] → s.heap.get? b = some ob → h'.get? b = some ob := fun b ob hb e => (hs.2 b (by simpa using hb)).trans e
    have KI := zbr ap k
    exact o v h' s.toks (rv.keepI KI) (.tuple hi (KI.keep _ _ zf4 b) (r.keepI KI)) k
  | @range _ _ a b ra =>
    obtain ⟨_, _, rfl⟩ := (ok : SmallI a ∧ SmallI b ∧ vs = rngL a b)
    obtain ⟨hi, rfl⟩ := znh e
    refine wpAny_pyNext_range_item ra (by omega) fun h' hi' hs => ⟨_, rfl, ?_⟩
    refine zke hi' "range_iterator" rfl (by decide) ?_
    have k : ∀ b ob, b ∉ [I] → s.heap.get? b = some ob → h'.get? b = some ob := fun b ob hb e => (hs.2 b (by simpa using hb)).trans e
    refine o _ h' _ (.int _ _) (.range ?_) k
    rw [show a + ((i + 1 : Nat) : Int) = a + i + 1 by omega, show ((b - a).toNat : Int) - ((i + 1 : Nat) : Int) = (b - a).toNat - i - 1 by omega]
    exact hi'
  | @list _ l _ r hr hi =>
    have ok : mh[r]? = some (.list vs) := ok
    have oo := H.objs _ _ _ ok hr
    obtain ⟨ws, n, _, g, rs⟩ := oo.inv_list
    obtain ⟨v, ev, rv⟩ := rs.get e
    refine wpAny_pyNext_list_item (items := ws.toArray) hi ⟨_, g, rfl, n, rfl⟩ (x := v) (by simpa using ev) fun h' hi hs => ⟨v, rfl, ?_⟩
    have hi' := hi
    obtain ⟨oo, eo, ec, _⟩ := hi'
    refine zke eo "list_iterator" ec (by decide) ?_
    have k : ∀ b ob, b ∉ [I] → s.heap.get? b = some ob → h'.get? b = some ob := fun b ob hb e => (hs.2 b (by simpa using hb)).trans e
    exact o v h' s.toks (rv.keepI (zbr ap k)) (.list hr hi) k
  | @enum _ J l _ r old hne hr he hi =>
    obtain ⟨es, kk, pp, rfl⟩ := hen.resolve_right (fun hh => hh _ rfl)
    obtain ⟨ms, ok, rfl⟩ := (ok : ∃ ws, mh[r]? = some (.list ws) ∧ vs = enumL ws)
    have oo := H.objs _ _ _ ok hr
    obtain ⟨ws, n, _, g, rs⟩ := oo.inv_list
    obtain ⟨w, ew, rfl⟩ := zqx e
    obtain ⟨v, ev, rv⟩ := rs.get ew
    refine wpAny_pyNext_enum_item (items := ws.toArray) he hi ⟨_, g, rfl, n, rfl⟩ (x := v) (by simpa using ev) hne fun h' ho' hit' hT hsz hk => ⟨_, rfl, ?_⟩
    refine wpAny_letOwnedTupleGo_enum ho' fun h2 he2 hs2 => ?_
    have k : ∀ b ob, b ∉ [I, J] → s.heap.get? b = some ob → h2.get? b = some ob := fun b ob hb e => by
      simp at hb
      exact (hs2.2 b hb.1).trans (hk b ob hb.1 hb.2 e)
    have KI := zbr ap k
    have hlt : I < s.heap.objs.size := Heap.lt_size he
    refine o _ h2 _ (.tuple (n := 0) (vs := [.int i s.toks, v]) ((hs2.2 _ (Nat.ne_of_gt hlt)).trans (by simpa [tupObj] using hT)) (.cons (.int _ _) (.one (rv.keepI KI)))) (.enum hne hr (by simpa using he2) ?_) k
    obtain ⟨oo, eo, rr⟩ := hit'
    exact ⟨oo, (hs2.2 _ hne.symm).trans eo, rr⟩
theorem it_end {A : Around} {s : Shared} {I : Addr} {x : MIt} {i : Nat} {vs : List MV} {P : Option Value → Shared → Prop} {E : Value → Shared → Prop} (hh : A.handled = none)
    (H : c.Hp φ mh s.heap) (ap : Apart c env φ s.heap own) (x1 : ItR s.heap φ own I x i) (ok : iterOk x vs mh) (e : i = vs.length)
    (o : ∀ h' tk, (∀ b ob, b ∉ own → s.heap.get? b = some ob → h'.get? b = some ob) → P none { s with heap := h', toks := tk }) :
    wpAny c.M A (pyNext (.ref I)) P E s := by
  cases x1 with
  | @tuple _ t _ ws n ms a b r =>
    have ok : vs = ms := ok
    subst ok
    refine wpAny_pyNext_tuple_end (items := ws.toArray) hh a ⟨_, b, rfl, n, rfl⟩ (by simp [r.length, e]) fun h' hs => o h' s.toks fun b ob hb e => hs b ob (by simpa using hb) e
  | @range _ _ a b ra =>
    obtain ⟨_, _, rfl⟩ := (ok : SmallI a ∧ SmallI b ∧ vs = rngL a b)
    rw [zez] at e
    exact wpAny_pyNext_range_end hh ra (by omega) fun h' hs => o h' s.toks fun b ob hb e => hs b ob (by simpa using hb) e
  | @list _ l _ r hr hi =>
    have ok : mh[r]? = some (.list vs) := ok
    have oo := H.objs _ _ _ ok hr
    obtain ⟨ws, n, _, g, rs⟩ := oo.inv_list
    exact wpAny_pyNext_list_end (items := ws.toArray) hh hi ⟨_, g, rfl, n, rfl⟩ (by simp [rs.length, e]) fun h' hs => o h' s.toks fun b ob hb e => hs b ob (by simpa using hb) e
  | @enum _ J l _ r old hne hr he hi =>
    obtain ⟨ms, ok, rfl⟩ := (ok : ∃ ws, mh[r]? = some (.list ws) ∧ vs = enumL ws)
    rw [zl1] at e
    have oo := H.objs _ _ _ ok hr
    obtain ⟨ws, n, _, g, rs⟩ := oo.inv_list
    exact wpAny_pyNext_enum_end (items := ws.toArray) hh he hi ⟨_, g, rfl, n, rfl⟩ (by simp [rs.length, e]) fun h' hs => o h' s.toks fun b ob hb e => hs b ob (by simp at hb; exact hb.2) e
end
end Mine
end
section
namespace Mine
noncomputable abbrev MI := Loc → (MIt → MH → Prop) → MH → Prop
noncomputable def SI (c : Cx) (sc : Scope) (d : Nat) (e : Expr) (en : Bool) (m : MI) : Prop :=
  ∀ (A : Around) (env : Env) (loc : Loc) (φ : Phi) (mh : MH) (s : Shared) (Q : MIt → MH → Prop) (P : Value → Shared → Prop) (E : Value → Shared → Prop),
    Room A d → EnvOk env sc → c.Hp φ mh s.heap → FrR c env loc φ s.heap → m loc Q mh →
    (∀ I own x φ' mh' h' tk, Q x mh' → Ext φ φ' s.heap h' → c.Hp φ' mh' h' → ItR h' φ' own I x 0 → (∀ a ∈ own, s.heap.get? a = none ∧ a ∉ addrs φ' ∧ ∃ o, h'.get? a = some o ∧ isMut o) → (en = false → ∀ r, x ≠ .enum r) →
      P (.ref I) { s with heap := h', toks := tk }) →
    wpAny c.M A (eval e env) (fun x s₁ => wpAny c.M A (pyIter x) P E s₁) E s
noncomputable def itI (Q : MIt → MH → Prop) (v : MV) (mh : MH) : Prop := (∃ vs, iterOk (.val v) vs mh) ∧ Q (.val v) mh
@[reducible] noncomputable def mIterV (m : ME) : MI := fun loc Q mh => m loc (itI Q) mh
section
variable {c : Cx} {sc : Scope} {d : Nat}
theorem zbt (T : String) (o : Obj) (h : o.cls = .type T) (h1 : T ≠ "tuple") (h2 : T ≠ "range") : isMut o :=
  zd5 (by rw [h]; simpa using h1) (by rw [h]; simpa using h2)
theorem zbu {φ : Phi} {mh : MH} {h : Heap} (H : c.Hp φ mh h) {a : Addr} (ha : h.objs.size ≤ a) : a ∉ addrs φ :=
  fun q => absurd (H.lt a q) (Nat.not_lt.mpr ha)
theorem zex {a b : Int} (ha : SmallI a) (hb : SmallI b) : Builtin.Range.small a b 1 = true ∧ Builtin.Range.rangeSize a b 1 = (b - a).toNat := by
  have hs : Builtin.Range.rangeSize a b 1 = ((b - a).toNat : Int) := by
    unfold Builtin.Range.rangeSize
    split <;> first | omega | rfl
  refine ⟨?_, by rw [hs]⟩
  unfold Builtin.Range.small
  rw [hs]
  obtain ⟨h1, h2⟩ := ha
  obtain ⟨h3, h4⟩ := hb
  have f : ∀ x : Int, -3000000000 ≤ x → x ≤ 3000000000 → Builtin.Range.rangeFitsLong x = true := by
    intro x hx hy
    unfold Builtin.Range.rangeFitsLong
    simp only [Bool.and_eq_true, decide_eq_true_eq]
    omega
  rw [f a (by omega) (by omega), f b (by omega) (by omega), f 1 (by omega) (by omega), f _ (by omega) (by omega)]
  simp only [Bool.and_self, Bool.true_and, Bool.or_eq_true]
  right
  rw [if_pos (by omega)]
  exact f _ (by omega) (by omega)
theorem zr9 {A : Around} {φ : Phi} {mh : MH} {s : Shared} {v : Value} {mv : MV} {vs : List MV} {P : Value → Shared → Prop} {E : Value → Shared → Prop}
    (H : c.Hp φ mh s.heap) (r : VR s.heap φ v mv) (ok : iterOk (.val mv) vs mh)
    (o : ∀ I h' , ItR h' φ [I] I (.val mv) 0 → s.heap.objs.size ≤ I → (∀ b ob, s.heap.get? b = some ob → h'.get? b = some ob) → (∃ ob, h'.get? I = some ob ∧ isMut ob) → P (.ref I) { s with heap := h' }) :
    wpAny c.M A (pyIter v) P E s := by
  cases r with
  | @tuple a ws n _ g rs =>
    refine wpAny_pyIter_tuple (items := ws.toArray) ⟨_, g, rfl, n, rfl⟩ ?_
    have k := zaj (h := s.heap) { cls := .type "tuple_iterator", data := .fields #[.ref a, .int 0 0] }
    have e := Heap.get?_push_size s.heap (o := { cls := .type "tuple_iterator", data := .fields #[.ref a, .int 0 0] }) rfl
    exact o _ _ (.tuple ⟨_, e, rfl, rfl⟩ (k _ _ g) (H.vrs (.of_keep k) rs)) (Nat.le_refl _) k ⟨_, e, zbt "tuple_iterator" _ rfl (by decide) (by decide)⟩
  | @range a x y t u w g =>
    obtain ⟨h1, h2, _⟩ := (ok : SmallI x ∧ SmallI y ∧ vs = rngL x y)
    obtain ⟨h3, h4⟩ := zex h1 h2
    refine wpAny_pyIter_range (a := x) (b := y) (c := 1) (t := t) (u := u) (v := w) g h3 ?_
    rw [h4]
    have e := Heap.get?_push_size s.heap (o := { cls := .type "range_iterator", data := .fields #[rawInt x, rawInt ((y - x).toNat : Int), rawInt 1] }) rfl
    have k := zaj (h := s.heap) { cls := .type "range_iterator", data := .fields #[rawInt x, rawInt ((y - x).toNat : Int), rawInt 1] }
    exact o _ _ (.range (by simpa using e)) (Nat.le_refl _) k ⟨_, e, zbt "range_iterator" _ rfl (by decide) (by decide)⟩
  | @ref a d' r f =>
    have ok : mh[r]? = some (.list vs) := ok
    obtain ⟨d2, f2, oo⟩ := H.deref (.ref f) ok
    obtain ⟨ws, n, rfl, g, rs⟩ := oo.inv_list
    refine wpAny_pyIter_list (items := ws.toArray) ⟨_, g, rfl, n, rfl⟩ ?_
    have e := Heap.get?_push_size s.heap (o := { cls := .type "list_iterator", data := .fields #[.ref a, .int 0 0] }) rfl
    have k := zaj (h := s.heap) { cls := .type "list_iterator", data := .fields #[.ref a, .int 0 0] }
    exact o _ _ (.list f2 ⟨_, e, rfl, rfl⟩) (Nat.le_refl _) k ⟨_, e, zbt "list_iterator" _ rfl (by decide) (by decide)⟩
  | _ => exact (ok : False).elim
theorem Hp.some_of {φ : Phi} {mh : MH} {h : Heap} (H : c.Hp φ mh h) {a : Addr} (ha : a ∈ addrs φ) : ∃ o, h.get? a = some o := let ⟨o, e, _⟩ := H.has ha; ⟨o, e⟩
theorem Ext.old_none {φ φ' : Phi} {h h' : Heap} {mh mh' : MH} (x : Ext φ φ' h h') (H' : c.Hp φ' mh' h') {a : Addr} (ha : h'.get? a = none) : h.get? a = none := by
  cases e : h.get? a with
  | none => rfl
  | some o =>
    by_cases hb : a ∈ addrs φ
    · have hb' : a ∈ addrs φ' := by
        obtain ⟨t, rfl⟩ := x.pre
        rw [zcf]; exact List.mem_append_left _ hb
      obtain ⟨o', e'⟩ := H'.some_of hb'
      rw [ha] at e'; cases e'
    · rw [x.keep a o hb e] at ha; cases ha
theorem si_val {e : Expr} {m : ME} (hm : SE c sc d e m) : SI c sc d e false (mIterV m) :=
  fun A env loc φ mh s Q P E hr he H F q o => by
    refine hm A env loc φ mh s _ _ E hr he H F q fun v mv φ' mh' h' tk q' x H' r => ?_
    obtain ⟨⟨vs, ok⟩, q'⟩ := q'
    refine zr9 (s := { s with heap := h', toks := tk }) H' r ok fun I h2 hi hI k hm => ?_
    have xx := Ext.of_keep (φ := φ') k
    refine o I [I] _ φ' mh' h2 tk q' (x.trans xx) (H'.keep k) hi (fun a ha => ?_) (fun _ r => by simp)
    simp at ha; subst ha
    exact ⟨x.old_none (c := c) (mh := mh) H' (Mine.fresh_none hI), zbu H' hI, hm⟩
noncomputable def forI (x : MIt) (all : List MV) (bind : MA) (body : MS) : List MV → MS
  | [] => fun loc Q mh => iterOk x all mh ∧ Q .next loc mh
  | v :: rest => fun loc Q mh => iterOk x all mh ∧ bind v (fun loc mh => body loc (fun fl loc mh => match fl with | .next => forI x all bind body rest loc Q mh | .ret r => Q (.ret r) loc mh) mh) loc mh
@[reducible] noncomputable def sFor (mi : MI) (bind : MA) (body : MS) : MS := fun loc Q mh => mi loc (fun x mh => ∃ vs, forI x vs bind body vs loc Q mh) mh
theorem ExtF.keepI {env : Env} {loc : Loc} {φ φ' : Phi} {mh : MH} {h h' : Heap} (x : ExtF env φ φ' h h') (H : c.Hp φ mh h) (F : FrR c env loc φ h) : KeepI φ φ' h h' :=
  ⟨x.pre, fun b o hm e => x.keep b o (fun hb => hm (mutF H F b (.inl hb) o e)) (fun hb => hm (mutF H F b (.inr hb) o e)) e⟩
theorem zko {M : Model} {A : Around} {prog : Program} {w : World} {s : Shared} {R : Result → Shared → Prop} {target it body orelse env} (I : Nat → Shared → Prop)
    (turn : ∀ n s, I n s → wpAny (model prog w) A (pyNext it) (fun r s₁ => match r with
      | none => wpAny (model prog w) A (execs orelse env) (fun f s₃ => R (.ok f) s₃) (notedBy (model prog w) A env fun e s' => R (.error e) s') s₁
      | some v => wpAny (model prog w) A (letOwnedTupleGo target it v) (fun _ s₁ => wpAny (model prog w) A (assign target env v) (fun _ s₂ => wpAny (model prog w) A (execs body env) (fun f s₃ => match f with
          | .next | .cont => ∃ m, m < n ∧ I m s₃
          | .brk => R (.ok .next) s₃
          | .ret v => R (.ok (.ret v)) s₃) (notedBy (model prog w) A env fun e s' => R (.error e) s') s₂) (notedBy (model prog w) A env fun e s' => R (.error e) s') s₁) (notedBy (model prog w) A env fun e s' => R (.error e) s') s₁)
        (notedBy (model prog w) A env fun e s' => R (.error e) s') s)
    (n : Nat) (h : I n s) : codeAny (model prog w) A (.forLoop target it body orelse env) R s := by
  refine codeAny_loop' rfl I (fun n s hI => ?_) n h
  show wpAny _ _ ((forTurn target it body orelse env).onRaise (fun x => do noteFrame x env; theTreesLotGoes x)) _ _ s
  refine wpAny_noted ?_
  simp only [forTurn]
  refine wpAny_bind (wpAny_standAt (wpAny_bind (wpAny_onRaise (wpAny_mono (turn n s hI) (fun r s₁ h₁ => ?_) fun _ _ h' => wpAny_standAt h'))))
  cases r with
  | none => exact wpAny_pure (.inr ⟨rfl, codeAny_block h₁⟩)
  | some v =>
    refine wpAny_bind (wpAny_mono h₁ (fun _ s₁ h₁ => ?_) fun _ _ h' => h')
    refine wpAny_bind (wpAny_mono h₁ (fun _ s₂ h₂ => wpAny_bind (wpAny_mono h₂ (fun f s₃ h₃ => ?_) fun _ _ h' => h')) fun _ _ h' => h')
    cases f with
    | next => exact wpAny_pure (.inl ⟨rfl, h₃⟩)
    | cont => exact wpAny_pure (.inl ⟨rfl, h₃⟩)
    | brk => exact wpAny_pure h₃
    | ret v => exact wpAny_pure h₃
theorem Apart.of {env : Env} {loc : Loc} {φ φ1 : Phi} {mh : MH} {h h1 : Heap} {own : List Addr} (H : c.Hp φ mh h) (F : FrR c env loc φ h)
    (hown : ∀ a ∈ own, h.get? a = none ∧ a ∉ addrs φ1 ∧ ∃ o, h1.get? a = some o ∧ isMut o) : Apart c env φ1 h1 own := by
  refine ⟨fun a ha => (hown a ha).2.1, fun a ha => ?_, fun a ha e => ?_, fun a ha y b eb e => ?_, fun a ha => (hown a ha).2.2⟩
  · cases e : c.hB.get? a with
    | none => rfl
    | some ob => have := H.base a ob e; rw [(hown a ha).1] at this; cases this
  · subst e
    obtain ⟨⟨mm, ⟨oo, _, _, eo, _⟩, _⟩, _⟩ := F
    rw [(hown _ ha).1] at eo; cases eo
  · subst e
    obtain ⟨w, oo, eo, _⟩ := F.are y a eb
    rw [(hown _ ha).1] at eo; cases eo
theorem Apart.notOwn {env : Env} {φ : Phi} {h : Heap} {own : List Addr} (ap : Apart c env φ h own) : ∀ a ∈ own, ¬ ownAt env a := by
  intro a ha ho
  rcases ho with rfl | ⟨x, _, e⟩
  · exact ap.loc _ ha rfl
  · exact ap.cell a ha x a e rfl
theorem Apart.stepF {env : Env} {loc : Loc} {φ φ' : Phi} {mh : MH} {h h' : Heap} {own : List Addr} (ap : Apart c env φ h own) (x : ExtF env φ φ' h h') : Apart c env φ' h' own ∧ ∀ a ∈ own, ∀ o, h.get? a = some o → h'.get? a = some o := by
  have hk : ∀ a ∈ own, ∀ o, h.get? a = some o → h'.get? a = some o := fun a ha o e => x.keep a o (ap.phi a ha) (ap.notOwn a ha) e
  refine ⟨⟨fun a ha hq => ?_, ap.base, ap.loc, ap.cell, fun a ha => ?_⟩, hk⟩
  · rcases x.new a hq with h1 | h1
    · exact ap.phi a ha h1
    · obtain ⟨o, e, _⟩ := ap.muts a ha; rw [h1] at e; cases e
  · obtain ⟨o, e, hm⟩ := ap.muts a ha
    exact ⟨o, hk a ha o e, hm⟩
theorem ItR.get {h : Heap} {φ : Phi} {own : List Addr} {I : Addr} {x : MIt} {i : Nat} (r : ItR h φ own I x i) : ∀ a ∈ own, ∃ o, h.get? a = some o ∧ isMut o := by
  intro a ha
  cases r with
  | tuple t _ _ => simp at ha; subst ha; obtain ⟨o, e, hc, _⟩ := t; exact ⟨o, e, zbt "tuple_iterator" _ hc (by decide) (by decide)⟩
  | range t => simp at ha; subst ha; exact ⟨_, t, zbt "range_iterator" _ rfl (by decide) (by decide)⟩
  | list _ t => simp at ha; subst ha; obtain ⟨o, e, hc, _⟩ := t; exact ⟨o, e, zbt "list_iterator" _ hc (by decide) (by decide)⟩
  | enum _ _ t u =>
    simp at ha
    rcases ha with rfl | rfl
    · exact ⟨_, t, zbt "enumerate" _ rfl (by decide) (by decide)⟩
    · obtain ⟨o, e, hc, _⟩ := u; exact ⟨o, e, zbt "list_iterator" _ hc (by decide) (by decide)⟩
theorem Apart.stepI {env : Env} {φ : Phi} {h h' : Heap} {own : List Addr} {I : Addr} {x : MIt} {i : Nat} (ap : Apart c env φ h own) (r : ItR h' φ own I x i) : Apart c env φ h' own :=
  ⟨ap.phi, ap.base, ap.loc, ap.cell, fun a ha => r.get a ha⟩
theorem ExtF.its {env : Env} {φ φ' : Phi} {h0 h h' : Heap} {own : List Addr} (x : ExtF env φ φ' h0 h) (hown : ∀ a ∈ own, h0.get? a = none) (k : ∀ b ob, b ∉ own → h.get? b = some ob → h'.get? b = some ob) : ExtF env φ φ' h0 h' :=
  ⟨x.pre, x.new, fun b o hb hn e => k b o (fun hq => by rw [hown b hq] at e; cases e) (x.keep b o hb hn e), x.own⟩
theorem Ext.own {φ φ' : Phi} {h0 h h' : Heap} {own : List Addr} (x : Ext φ φ' h0 h) (hown : ∀ a ∈ own, h0.get? a = none) (k : ∀ b ob, b ∉ own → h.get? b = some ob → h'.get? b = some ob) : Ext φ φ' h0 h' :=
  ⟨x.pre, x.new, fun b o hb e => k b o (fun hq => by rw [hown b hq] at e; cases e) (x.keep b o hb e)⟩
theorem ss_for {target iter : Expr} {body : List Stmt} {pos : Pos} {mi : MI} {bind : MA} {m : MS} (hi : SI c sc d iter false mi) (ha : SA c sc d target bind) (hb : SB c sc d body m)
    (hs : ∀ env x, foldedSetIterable iter env x = pure x) : SS c sc d (.For target iter body [] pos) (sFor mi bind m) :=
  fun A env loc φ mh s Q P E hr he H F q o => by
    refine wpAny_For (hi A env loc φ mh s _ _ E hr he H F q fun I own x φ1 mh1 h1 tk1 q1 x1 H1 it1 hown hne => ?_) (hs env)
    obtain ⟨vs, q1⟩ := q1
    have hne := hne rfl
    have hnone : ∀ a ∈ own, s.heap.get? a = none := fun a ha => (hown a ha).1
    have ap0 : Apart c env φ1 h1 own := Apart.of H F hown
    let Inv : Nat → Shared → Prop := fun n s' => X6 fun (loc' : Loc) (φ' : Phi) (mh' : MH) (h' : Heap) (tk : Nat) (i : Nat) => N9 (s' = { s with heap := h', toks := tk }) (ExtF env φ φ' s.heap h') (c.Hp φ' mh' h') (FrR c env loc' φ' h') (Apart c env φ' h' own) (ItR h' φ' own I x i) (forI x vs bind m (vs.drop i) loc' Q mh') (i ≤ vs.length) (n = vs.length + 1 - i)
    refine zko (M := c.M) Inv ?_ (vs.length + 1) ⟨loc, φ1, mh1, h1, tk1, 0, rfl, x1.toF (zan F), H1, F.ext H x1, ap0, it1, by simpa using q1, Nat.zero_le _, by omega⟩
    rintro n s' ⟨loc', φ', mh', h', tk, i, rfl, xx, H', F', ap, it, qq, hi', rfl⟩
    by_cases hlt : i < vs.length
    · have hd : vs.drop i = vs[i] :: vs.drop (i + 1) := (List.drop_eq_getElem_cons hlt)
      rw [hd] at qq
      obtain ⟨ok, qq⟩ := qq
      refine wpAny_mono (it_item (s := { s with heap := h', toks := tk }) (tgt := target) (t1 := true) (mv := vs[i]) (.inr hne) H' ap it ok (by simp [hlt]) (E := notedBy c.M A env fun e s' => cameBackBy c.M A env E e s')
        (P := fun v s2 => wpAny c.M A (assign target env v) (fun _ s₂ => wpAny c.M A (execs body env) (fun f s₃ => match f with
          | .next | .cont => ∃ m, m < vs.length + 1 - i ∧ Inv m s₃
          | .brk => P .next s₃
          | .ret v => P (.ret v) s₃) (notedBy c.M A env fun e s' => cameBackBy c.M A env E e s') s₂) (notedBy c.M A env fun e s' => cameBackBy c.M A env E e s') s2) ?_) ?_ fun _ _ z => z
      · intro v h2 tk2 rv it2 k
        obtain ⟨H2, F2⟩ := zcy H' F' ap k
        have xx2 := xx.its hnone k
        have ap2 := ap.stepI it2
        refine ha A env loc' φ' mh' { s with heap := h2, toks := tk2 } v vs[i] _ _ _ hr he H2 F2 rv qq fun loc3 φ3 mh3 h3 tk3 q3 x3 H3 F3 => ?_
        refine hb A env loc3 φ3 mh3 { s with heap := h3, toks := tk3 } _ _ _ hr he H3 F3 q3 fun fl ml loc4 φ4 mh4 h4 tk4 q4 r4 x4 H4 F4 => ?_
        have xe : ExtF env φ' φ4 h2 h4 := x3.trans x4
        obtain ⟨ap4, ho⟩ := ap2.stepF (loc := loc') (mh := mh') xe
        cases r4 with
        | next =>
          exact ⟨vs.length + 1 - (i + 1), by omega, loc4, φ4, mh4, h4, tk4, i + 1, rfl, xx2.trans xe, H4, F4, ap4, it2.keep (xe.keepI H2 F2) ho, q4, hlt, rfl⟩
        | ret r => exact o _ _ loc4 φ4 mh4 h4 tk4 q4 (.ret r) (xx2.trans xe) H4 F4
      · rintro r s1 ⟨v, rfl, hh⟩
        exact hh
    · have hd : vs.drop i = [] := List.drop_eq_nil_of_le (by omega)
      rw [hd] at qq
      obtain ⟨ok, qq⟩ := qq
      refine it_end (s := { s with heap := h', toks := tk }) hr.handled H' ap it ok (by omega) fun h2 tk2 k => ?_
      obtain ⟨H2, F2⟩ := zcy H' F' ap k
      exact wpAny_execs_nil (o _ _ loc' φ' mh' h2 tk2 qq .next (xx.its hnone k) H2 F2)
noncomputable def whileN (t : MT) (body : MS) : Nat → MS
  | 0 => fun _ _ _ => False
  | n + 1 => fun loc Q mh => t loc (fun b mh => if b = true then body loc (fun fl loc mh => match fl with | .next => whileN t body n loc Q mh | .ret v => Q (.ret v) loc mh) mh else Q .next loc mh) mh
noncomputable def sWhile (t : MT) (body : MS) : MS := fun loc Q mh => ∃ n, whileN t body n loc Q mh
theorem zjy {test : Expr} {body : List Stmt} {pos : Pos} {t : MT} {m : MS} (ht : ST c sc d test t) (hb : SB c sc d body m) : SS c sc d (.While test body [] pos) (sWhile t m) :=
  fun A env loc φ mh s Q P E hr he H F q o => by
    obtain ⟨n, q⟩ := q
    let Inv : Nat → Shared → Prop := fun n s' => X5 fun (loc' : Loc) (φ' : Phi) (mh' : MH) (h' : Heap) (tk : Nat) => N5 (s' = { s with heap := h', toks := tk }) (ExtF env φ φ' s.heap h') (c.Hp φ' mh' h') (FrR c env loc' φ' h') (whileN t m n loc' Q mh')
    refine wpAny_While (codeAny_whileLoop Inv ?_ n ⟨loc, φ, mh, s.heap, s.toks, rfl, (Ext.refl _ _).toF (zan F), H, F, q⟩)
    rintro n s' ⟨loc', φ', mh', h', tk, rfl, xx, H', F', qq⟩
    cases n with
    | zero => exact qq.elim
    | succ n =>
      refine ht A env loc' φ' mh' { s with heap := h', toks := tk } _ _ _ hr he H' F' qq fun b φ2 mh2 h2 tk2 q2 x2 H2 => ?_
      have F2 := F'.ext H' x2
      have xx2 := xx.trans (x2.toF (zan F'))
      cases b with
      | false =>
        simp only [Bool.false_eq_true, if_false] at q2 ⊢
        exact wpAny_execs_nil (o _ _ loc' φ2 mh2 h2 tk2 q2 .next xx2 H2 F2)
      | true =>
        simp only [if_true] at q2 ⊢
        refine hb A env loc' φ2 mh2 { s with heap := h2, toks := tk2 } _ _ _ hr he H2 F2 q2 fun fl ml loc4 φ4 mh4 h4 tk4 q4 r4 x4 H4 F4 => ?_
        cases r4 with
        | next => exact ⟨n, Nat.lt_succ_self _, loc4, φ4, mh4, h4, tk4, rfl, xx2.trans x4, H4, F4, q4⟩
        | ret r => exact o _ _ loc4 φ4 mh4 h4 tk4 q4 (.ret r) (xx2.trans x4) H4 F4
end
end Mine
end
section
namespace Mine
inductive Tgt where
  | one (x : Str)
  | many (xs : List Str)
noncomputable def Tgt.names : Tgt → List Str
  | .one x => [x]
  | .many xs => xs
noncomputable def bindT : Tgt → MV → Loc → Option Loc
  | .one x, v, loc => some (upd loc x v)
  | .many xs, .tuple vs, loc => if vs.length = xs.length then some (updAll xs vs loc) else none
  | .many _, _, _ => none
noncomputable def tgtOf : Expr → Option Tgt
  | .Name x _ => some (.one x)
  | .Tuple es _ _ => (namesOf es).map .many
  | _ => none
structure ExtW (W : Addr → Prop) (φ φ' : Phi) (h h' : Heap) : Prop where
  pre : φ <+: φ'
  new : ∀ a ∈ addrs φ', a ∈ addrs φ ∨ h.get? a = none
  keep : ∀ b o, b ∉ addrs φ → ¬ W b → h.get? b = some o → h'.get? b = some o
  off : ∀ b, W b → b ∉ addrs φ → b ∉ addrs φ'
theorem Ext.toW {W : Addr → Prop} {φ φ' : Phi} {h h' : Heap} (x : Ext φ φ' h h') (ho : ∀ b, W b → (h.get? b).isSome) : ExtW W φ φ' h h' := ⟨x.pre, x.new, fun b o h1 _ e => x.keep b o h1 e, fun b hb h1 h2 => by
  rcases x.new b h2 with h3 | h3
  · exact h1 h3
  · have := ho b hb; rw [h3] at this; cases this⟩
theorem ExtW.trans {W : Addr → Prop} {φ φ' φ'' : Phi} {h h' h'' : Heap} (x : ExtW W φ φ' h h') (y : ExtW W φ' φ'' h' h'') : ExtW W φ φ'' h h'' where
  pre := x.pre.trans y.pre
  new := fun a ha => by
    rcases y.new a ha with h1 | h1
    · exact x.new a h1
    · by_cases hb : a ∈ addrs φ
      · exact .inl hb
      · by_cases ho : W a
        · exact absurd ha (y.off a ho (x.off a ho hb))
        · refine .inr ?_
          cases e : h.get? a with
          | none => rfl
          | some o => rw [x.keep a o hb ho e] at h1; cases h1
  keep := fun b o hb hn e => by
    refine y.keep b o (fun hc => ?_) hn (x.keep b o hb hn e)
    rcases x.new b hc with h1 | h1
    · exact hb h1
    · rw [h1] at e; cases e
  off := fun b hb h1 => y.off b hb (x.off b hb h1)
theorem ExtW.of_keep {W : Addr → Prop} {φ : Phi} {h h' : Heap} (k : ∀ b o, ¬ W b → h.get? b = some o → h'.get? b = some o) : ExtW W φ φ h h' :=
  ⟨List.prefix_rfl, fun _ h => .inl h, fun b o _ hn e => k b o hn e, fun _ _ h => h⟩
theorem ExtW.refl {W : Addr → Prop} {φ : Phi} {h : Heap} : ExtW W φ φ h h := .of_keep fun _ _ _ e => e
theorem Ext.thenW {W : Addr → Prop} {φ φ' φ'' : Phi} {h h' h'' : Heap} (x : Ext φ φ' h h') (y : ExtW W φ' φ'' h' h'') (hw : ∀ b, W b → h.get? b = none) : Ext φ φ'' h h'' where
  pre := x.pre.trans y.pre
  new := fun a ha => by
    rcases y.new a ha with h1 | h1
    · exact x.new a h1
    · by_cases hb : a ∈ addrs φ
      · exact .inl hb
      · refine .inr ?_
        cases e : h.get? a with
        | none => rfl
        | some o => rw [x.keep a o hb e] at h1; cases h1
  keep := fun b o hb e => by
    refine y.keep b o (fun hc => ?_) (fun hq => by rw [hw b hq] at e; cases e) (x.keep b o hb e)
    rcases x.new b hc with h1 | h1
    · exact hb h1
    · rw [h1] at e; cases e
section
variable {c : Cx} {sc : Scope} {d : Nat}
theorem zpv {e : Expr} {t : Tgt} (ht : tgtOf e = some t) : (∃ x p, e = .Name x p ∧ t = .one x) ∨ ∃ es k p xs, e = .Tuple es k p ∧ namesOf es = some xs ∧ t = .many xs := by
  cases e with
  | Name x p => exact .inl ⟨x, p, rfl, (Option.some.inj ht).symm⟩
  | Tuple es k p =>
    obtain ⟨xs, h1, h2⟩ := Option.map_eq_some_iff.mp (show (namesOf es).map Tgt.many = some t from ht)
    exact .inr ⟨es, k, p, xs, rfl, h1, h2.symm⟩
  | _ => exact nomatch (show none = some t from ht)
theorem zpm {xs : List Str} {mv : MV} {loc loc' : Loc} (hb : bindT (.many xs) mv loc = some loc') : ∃ vs, mv = .tuple vs ∧ vs.length = xs.length ∧ loc' = updAll xs vs loc := by
  cases mv with
  | tuple vs =>
    by_cases h : vs.length = xs.length
    · have e : bindT (.many xs) (.tuple vs) loc = some (updAll xs vs loc) := if_pos h
      exact ⟨vs, rfl, h, (Option.some.inj (e.symm.trans hb)).symm⟩
    · have e : bindT (.many xs) (.tuple vs) loc = none := if_neg h
      exact nomatch e.symm.trans hb
  | _ => exact nomatch (show none = some loc' from hb)
theorem zmo {e : Expr} {t : Tgt} (ht : tgtOf e = some t) (hk : ∀ x ∈ t.names, sc.names.lookup x = some .local ∨ sc.names.lookup x = some .cell)
    {A : Around} {env : Env} {loc loc' : Loc} {φ : Phi} {mh : MH} {s : Shared} {v : Value} {mv : MV} {P : Unit → Shared → Prop} {E : Value → Shared → Prop}
    (hh : A.handled = none) (he : EnvOk env sc) (H : c.Hp φ mh s.heap) (F : FrR c env loc φ s.heap) (r : VR s.heap φ v mv) (hb : bindT t mv loc = some loc')
    (o : ∀ h' tk, (∀ b o, ¬ tgtAddr env t.names b → s.heap.get? b = some o → h'.get? b = some o) → c.Hp φ mh h' → FrR c env loc' φ h' → ExtF env φ φ s.heap h' → P () { s with heap := h', toks := tk }) :
    wpAny c.M A (assign e env v) P E s := by
  rcases zpv ht with ⟨x, pos, rfl, rfl⟩ | ⟨es, k, pos, xs, rfl, hx, rfl⟩
  · obtain rfl := Option.some.inj (show some (upd loc x mv) = some loc' from hb)
    show wpAny c.M A (do standAt pos; bindName env x v) P E s
    refine wpAny_bind (wpAny_standAt (zjx he (hk x (.head _)) H F r fun X h1 tk1 hX k1 x1 H1 F1 => ?_))
    exact o h1 tk1 (fun b ob hb e => (k1 b (fun hq => hb (hq ▸ hX))).trans e) H1 F1 x1
  · obtain ⟨vs, rfl, hl, rfl⟩ := zpm hb
    obtain ⟨a, ws, n, rfl, g, rs⟩ := r.inv_tuple
    rw [assign_Tuple]
    have hsz : ws.toArray.size = xs.length := by rw [List.size_toArray, rs.length, hl]
    obtain ⟨hl1, hl2⟩ := zfz (env := env) hx
    refine wpAny_bind (wpAny_standAt (PyProof.Rows.unpack_tuple (items := ws.toArray) hh ⟨_, g, rfl, n, rfl⟩ (by rw [hl1, hsz]) hl2 fun h1 hext => ?_))
    have hk' : ∀ b o, s.heap.get? b = some o → h1.get? b = some o := fun b o e => hext b o (Nat.ne_of_lt (Heap.lt_size e)) e
    have hE := Ext.of_keep (φ := φ) hk'
    refine zhq hx hk he (H.keep hk') (F.ext H hE) (H.vrs hE rs) fun h2 tk2 k2 H2 F2 x2 => ?_
    exact o h2 tk2 (fun b ob hb e => k2 b ob hb (hk' b ob e)) H2 F2 ((hE.toF (zan F)).trans x2)
noncomputable def relab (scope sc : Scope) : Scope := relabel scope (scEnv sc)
theorem zp7 {env : Env} (he : EnvOk env sc) (scope : Scope) : relabel scope env = relab scope sc := by
  unfold relab relabel scEnv Env.kindOf; rw [he.scope]
noncomputable def restr (scope : Scope) (loc : Loc) : Loc := fun x => if scope.names.lookup x = some .free then loc x else none
theorem zla {M : Model} {A : Around} {s : Shared} {E : Value → Shared → Prop} {scope : Scope} {globals : Addr} {cl : List (Str × Addr)} {qual : Str} {outer : Env} {Q : Env → Shared → Prop}
    (hQ : Q { scope, locals := s.heap.objs.size, globals, cells := cellsFrom (s.heap.objs.size + 1) scope.names cl, qual, func := none, code := outer.code, frame := outer.frame, builtins := outer.builtins }
      { s with heap := pushCells (s.heap.push { cls := .type "dict", data := .dict #[] }) scope.names }) :
    wpAny M A (newFunctionEnv scope globals cl [] qual none .none (some outer)) Q E s := by
  unfold newFunctionEnv
  refine wpAny_bind (wpAny_alloc ?_)
  refine wpAny_bind (wpAny_layCells _ (fun name kind cells => ?_) scope.names cl _ _ ?_)
  · rfl
  · refine wpAny_bind ?_
    show wpAny M A (forIn ([] : List (Str × Value)) PUnit.unit _) _ E _
    rw [List.forIn_nil]
    refine wpAny_pure (wpAny_pure ?_)
    dsimp only
    rw [Heap.size_push]
    exact hQ
noncomputable def closOf (cells : List (Str × Addr)) : List (Str × NameKind) → List (Str × Addr) → List (Str × Addr)
  | [], acc => acc
  | (n, k) :: r, acc => if k == .free then closOf cells r ((n, (cells.lookup n).getD 0) :: acc) else closOf cells r acc
theorem zl9 {env : Env} {scope : Scope} (h : ∀ x ∈ scope.names, x.2 = .free → (env.cells.lookup x.1).isSome = true) : closureFor scope env = pure (closOf env.cells scope.names []) := by
  unfold closureFor
  have main : ∀ (names : List (Str × NameKind)) (acc : List (Str × Addr)), (∀ x ∈ names, x.2 = .free → (env.cells.lookup x.1).isSome = true) →
      (forIn names acc (fun (x : Str × NameKind) (r : List (Str × Addr)) => (match x with
        | (name, kind) => if (kind == .free) = true then (do let a ← cellOf env name; pure (ForInStep.yield ((name, a) :: r))) else pure (ForInStep.yield r) : Sem (ForInStep (List (Str × Addr)))))) = pure (closOf env.cells names acc) := by
    intro names
    induction names with
    | nil => intro acc _; rfl
    | cons x r ih =>
      intro acc hx
      obtain ⟨n, k⟩ := x
      rw [List.forIn_cons]
      unfold closOf
      by_cases hk : (k == NameKind.free) = true
      · have h1 := hx (n, k) (by simp) (by simpa using hk)
        obtain ⟨a, ha⟩ := Option.isSome_iff_exists.mp h1
        have e1 : cellOf env n = pure a := by unfold cellOf; simp only at ha; rw [ha]
        simp only [hk, if_true, e1]
        simp only at ha
        rw [ha]
        exact ih _ fun y hy => hx y (by simp [hy])
      · simp only [hk, if_false]
        exact ih _ fun y hy => hx y (by simp [hy])
  exact congrArg (fun (m : Sem (List (Str × Addr))) => m >>= fun x => pure x) (main scope.names [] h)
theorem zbx {cells : List (Str × Addr)} : ∀ {names : List (Str × NameKind)} {acc : List (Str × Addr)} {x : Str}, (names.map (·.1)).Nodup →
    (closOf cells names acc).lookup x = if names.lookup x = some .free then some ((cells.lookup x).getD 0) else acc.lookup x
  | [], acc, x, _ => by simp [closOf]
  | (n, k) :: r, acc, x, hn => by
    rw [List.map_cons, List.nodup_cons] at hn
    have hnot : n ∉ r.map (·.1) := hn.1
    have hl : r.lookup n = none := by
      cases e : r.lookup n with
      | none => rfl
      | some k' => exact absurd (List.mem_map_of_mem (f := (·.1)) (mem_of_lookup e)) hnot
    unfold closOf
    by_cases hx : x = n
    · subst hx
      by_cases hk : (k == NameKind.free) = true
      · rw [if_pos hk, zbx hn.2, hl]
        simp at hk; subst hk
        simp
      · rw [if_neg hk, zbx hn.2, hl]
        simp at hk
        simp [hk]
    · have hx' : (x == n) = false := by simpa using hx
      by_cases hk : (k == NameKind.free) = true
      · rw [if_pos hk, zbx hn.2]
        simp [List.lookup_cons, hx']
      · rw [if_neg hk, zbx hn.2]
        simp [List.lookup_cons, hx']
end
end Mine
end
section
namespace Mine
structure CompScope (scope sc : Scope) : Prop where
  kind : scope.kind = .function
  nodup : (scope.names.map (·.1)).Nodup
  free : ∀ p ∈ scope.names, p.2 = .free → sc.names.lookup p.1 = some .cell ∨ sc.names.lookup p.1 = some .free
  locals : ∀ x ∈ scope.names, x.2 = .local → scope.names.lookup x.1 = some .local
noncomputable def zbe (scope sc : Scope) : Bool :=
  scope.kind == .function && decide (scope.names.map (·.1)).Nodup && (scope.names.all fun p => p.2 != .free || sc.names.lookup p.1 == some .cell || sc.names.lookup p.1 == some .free) &&
    (scope.names.all fun x => x.2 != .local || scope.names.lookup x.1 == some .local)
theorem CompScope.of {scope sc : Scope} (h : zbe scope sc = true) : CompScope scope sc := by
  unfold zbe at h
  simp only [Bool.and_eq_true, List.all_eq_true, decide_eq_true_eq, Bool.or_eq_true, bne_iff_ne, beq_iff_eq] at h
  obtain ⟨⟨⟨h1, h2⟩, h3⟩, h4⟩ := h
  refine ⟨h1, h2, fun p hp hf => ?_, fun x hx hl => ?_⟩
  · rcases h3 p hp with (h5 | h5) | h5
    · exact absurd hf h5
    · exact .inl h5
    · exact .inr h5
  · rcases h4 x hx with h5 | h5
    · exact absurd hl h5
    · exact h5
theorem zcd {α : Type} : ∀ {l : List (Str × α)} {x : Str} {a : α}, (l.map (·.1)).Nodup → (x, a) ∈ l → l.lookup x = some a
  | (n, k) :: r, x, a, hn, hm => by
    rw [List.map_cons, List.nodup_cons] at hn
    rcases List.mem_cons.mp hm with e | h2
    · cases e; simp
    · have : x ≠ n := fun e => hn.1 (e ▸ List.mem_map_of_mem (f := (·.1)) h2)
      have hx' : (x == n) = false := by simpa using this
      simp only [List.lookup_cons, hx']
      exact zcd hn.2 h2
theorem zgm {scope sc : Scope} (hk : sc.kind = .function) (x : Str) : (relab scope sc).names.lookup x = match scope.names.lookup x with
    | some .free => if sc.names.lookup x = some .cell then some .cell else some .free
    | o => o := by
  unfold relab relabel scEnv Env.kindOf
  dsimp only
  generalize scope.names = l
  induction l with
  | nil => rfl
  | cons p r ih =>
    obtain ⟨n, k⟩ := p
    rw [List.map_cons]
    by_cases hx : x = n
    · subst hx
      by_cases hc : (k == NameKind.free && sc.kind == .function && sc.names.lookup x == some .cell) = true
      · rw [if_pos hc]
        simp only [Bool.and_eq_true, beq_iff_eq] at hc
        obtain ⟨⟨rfl, _⟩, h⟩ := hc
        simp [h]
      · rw [if_neg hc]
        simp only [Bool.and_eq_true, beq_iff_eq, hk, and_true, not_and] at hc
        simp only [List.lookup_cons, beq_self_eq_true]
        cases k
        case free => simp [hc rfl]
        all_goals rfl
    · have hx' : (x == n) = false := by simpa using hx
      have : ∀ k', List.lookup x ((n, k') :: List.map (fun x => if (x.snd == NameKind.free && sc.kind == ScopeKind.function && List.lookup x.fst sc.names == some NameKind.cell) = true then (x.fst, NameKind.cell) else (x.fst, x.snd)) r) = List.lookup x (List.map (fun x => if (x.snd == NameKind.free && sc.kind == ScopeKind.function && List.lookup x.fst sc.names == some NameKind.cell) = true then (x.fst, NameKind.cell) else (x.fst, x.snd)) r) := by
        intro k'; simp [List.lookup_cons, hx']
      simp only [List.lookup_cons, hx']
      split <;> simp only [List.lookup_cons, hx'] <;> exact ih
theorem zaw : ∀ (names : List (Str × NameKind)) (n : Nat) (acc : List (Str × Addr)), cellsFrom n names acc = cellsFrom n names [] ++ acc
  | [], _, _ => rfl
  | (x, k) :: r, n, acc => by
    unfold cellsFrom
    split
    · rw [zaw r (n + 1) ((x, n) :: acc), zaw r (n + 1) [(x, n)]]; simp
    · exact zaw r n acc
theorem zby : ∀ {names : List (Str × NameKind)} {n : Nat} {x : Str} {a : Addr}, (x, a) ∈ cellsFrom n names [] → (x, NameKind.cell) ∈ names
  | [], _, _, _, h => by simp [cellsFrom] at h
  | (y, k) :: r, n, x, a, h => by
    unfold cellsFrom at h
    split at h
    · rename_i hk
      rw [zaw] at h
      rcases List.mem_append.mp h with h | h
      · exact List.mem_cons_of_mem _ (zby h)
      · simp at h
        simp at hk
        subst hk
        rw [h.1]; exact List.mem_cons_self
    · exact List.mem_cons_of_mem _ (zby h)
section
variable {c : Cx} {sc : Scope} {d : Nat}
noncomputable def zbi (scope sc : Scope) (L : Addr) (env : Env) : Env :=
  { scope := relab scope sc, locals := L, globals := env.globals, cells := cellsFrom (L + 1) scope.names (closOf env.cells scope.names []), qual := env.qual, func := none, code := env.code, frame := env.frame, builtins := env.builtins }
theorem zm7 {env : Env} {scope : Scope} {loc : Loc} {φ : Phi} {h : Heap} (he : EnvOk env sc) (hs : CompScope scope sc) (F : FrR c env loc φ h) :
    closureFor scope env = pure (closOf env.cells scope.names []) := zl9 fun x hx hf => F.own x.1 (by
  have := hs.free x hx hf
  unfold Env.kindOf; rw [he.scope]; exact this)
theorem zph {env : Env} {scope : Scope} {loc : Loc} {φ : Phi} {mh : MH} {h : Heap} (he : EnvOk env sc) (hs : CompScope scope sc) (H : c.Hp φ mh h) (F : FrR c env loc φ h) :
    FrR c (zbi scope sc h.objs.size env) (restr scope loc) φ (pushCells (h.push { cls := .type "dict", data := .dict #[] }) scope.names) ∧
    EnvOk (zbi scope sc h.objs.size env) (relab scope sc) ∧
    (∀ b o, h.get? b = some o → (pushCells (h.push { cls := .type "dict", data := .dict #[] }) scope.names).get? b = some o) ∧
    (∀ xs, (∀ x ∈ xs, scope.names.lookup x ≠ some .free) → ∀ b, tgtAddr (zbi scope sc h.objs.size env) xs b → h.get? b = none ∧ ((pushCells (h.push { cls := .type "dict", data := .dict #[] }) scope.names).get? b).isSome) ∧
    (∀ y b, (zbi scope sc h.objs.size env).cells.lookup y = some b → h.get? b = none ∨ env.cells.lookup y = some b) := by
  have hL := Heap.size_push h { cls := .type "dict", data := .dict #[] }
  have k1 : ∀ b o, h.get? b = some o → (pushCells (h.push { cls := .type "dict", data := .dict #[] }) scope.names).get? b = some o := fun b o e => pushCells_keeps _ _ b o (Heap.get?_push_of_some _ e)
  have hdict : (pushCells (h.push { cls := .type "dict", data := .dict #[] }) scope.names).Ns h.objs.size (fun _ => none) := ns_at (Heap.Ns.new ..) fun o e => pushCells_keeps _ _ _ o e
  have ok := cellsFrom_ok scope.names (h.push { cls := .type "dict", data := .dict #[] }) (h.objs.size + 1) [] ⟨fun _ _ hm => by simp at hm, List.Pairwise.nil⟩ (by rw [hL]; exact Nat.le_refl _)
  rw [hL] at ok
  have hcells : (zbi scope sc h.objs.size env).cells = cellsFrom (h.objs.size + 1) scope.names [] ++ closOf env.cells scope.names [] := zaw _ _ _
  -- a name's cell
  have look : ∀ x, (zbi scope sc h.objs.size env).cells.lookup x = (match (cellsFrom (h.objs.size + 1) scope.names []).lookup x with
      | some a => some a
      | none => if scope.names.lookup x = some .free then some ((env.cells.lookup x).getD 0) else none) := by
    intro x
    rw [hcells, List.lookup_append, zbx hs.nodup]
    cases (cellsFrom (h.objs.size + 1) scope.names []).lookup x <;> simp
  have ownc : ∀ x a, (cellsFrom (h.objs.size + 1) scope.names []).lookup x = some a → scope.names.lookup x = some .cell ∧ h.objs.size + 1 ≤ a ∧ (pushCells (h.push { cls := .type "dict", data := .dict #[] }) scope.names).IsCell a none := fun x a e => by
    have hm := mem_of_lookup e
    exact ⟨zcd hs.nodup (zby hm), (ok.empty x a hm).2, (ok.empty x a hm).1⟩
  have kindR : ∀ x, (zbi scope sc h.objs.size env).kindOf x = (match scope.names.lookup x with
    | some .free => if sc.names.lookup x = some .cell then some .cell else some .free
    | o => o) := fun x => zgm he.kind x
  have frees : ∀ x, scope.names.lookup x = some .free → (env.kindOf x = some .cell ∨ env.kindOf x = some .free) := fun x e => by
    have := hs.free (x, .free) (mem_of_lookup e) rfl
    unfold Env.kindOf; rw [he.scope]; exact this
  have nocell : ∀ x, scope.names.lookup x = some .free → (cellsFrom (h.objs.size + 1) scope.names []).lookup x = none := fun x e => by
    cases q : (cellsFrom (h.objs.size + 1) scope.names []).lookup x with
    | none => rfl
    | some a => rw [(ownc x a q).1] at e; cases e
  have lookF : ∀ x b, scope.names.lookup x = some .free → (zbi scope sc h.objs.size env).cells.lookup x = some b → env.cells.lookup x = some b := fun x b e q => by
    rw [look, nocell x e] at q
    simp only [e, if_true] at q
    obtain ⟨a, ha⟩ := Option.isSome_iff_exists.mp (F.own x (frees x e))
    rw [ha] at q ⊢; simpa using q
  have lookG : ∀ x b, scope.names.lookup x = some .free → env.cells.lookup x = some b → (zbi scope sc h.objs.size env).cells.lookup x = some b := fun x b e q => by
    rw [look, nocell x e]
    simp only [e, if_true]
    rw [q]; rfl
  -- what a found cell is
  have found : ∀ x b, (zbi scope sc h.objs.size env).cells.lookup x = some b → ((scope.names.lookup x = some .cell ∧ h.objs.size + 1 ≤ b ∧ (cellsFrom (h.objs.size + 1) scope.names []).lookup x = some b) ∨ (scope.names.lookup x = some .free ∧ env.cells.lookup x = some b)) := fun x b e => by
    have e' := e
    rw [look] at e
    split at e
    · rename_i a q
      cases e
      exact .inl ⟨(ownc x _ q).1, (ownc x _ q).2.1, q⟩
    · split at e
      · rename_i hf
        exact .inr ⟨hf, lookF x b hf e'⟩
      · cases e
  have lt_old : ∀ x b, env.cells.lookup x = some b → b < h.objs.size := fun x b e => by
    obtain ⟨w, o, eo, _⟩ := F.are x b e
    exact Heap.lt_size eo
  have noneB : ∀ b, h.objs.size ≤ b → c.hB.get? b = none := fun b hb => by
    cases e : c.hB.get? b with
    | none => rfl
    | some o => exact absurd (Heap.lt_size (H.base b o e)) (Nat.not_lt.mpr hb)
  refine ⟨⟨⟨_, hdict, fun x v e ky => ?_⟩, fun x v e ky => ?_, fun x ky => ?_, fun x b e => ?_, zbu H (Nat.le_refl _), fun x b e => ?_, fun x y b e1 e2 => ?_, noneB _ (Nat.le_refl _), fun x b ky e => ?_⟩, ⟨rfl, hs.kind, he.globals, he.builtins⟩, k1, fun xs hx b hb => ?_, fun y b e => ?_⟩
  · unfold restr at e
    split at e
    · rename_i hf
      rw [kindR, hf] at ky
      simp only at ky
      split at ky <;> cases ky
    · cases e
  · unfold restr at e
    split at e
    · rename_i hf
      obtain ⟨b, a, e1, e2, r⟩ := F.cells x v e (frees x hf)
      exact ⟨b, a, lookG x b hf e1, e2.keeps k1, H.vr (.of_keep k1) r⟩
    · cases e
  · rw [kindR] at ky
    cases q : scope.names.lookup x with
    | none => rw [q] at ky; simp at ky
    | some k =>
      rw [q] at ky
      cases k <;> simp at ky
      · have := cellsFrom_some (x := x) scope.names (h.objs.size + 1) [] (.inl q)
        obtain ⟨a, ha⟩ := Option.isSome_iff_exists.mp this
        rw [look, ha]; rfl
      · obtain ⟨a, ha⟩ := Option.isSome_iff_exists.mp (F.own x (frees x q))
        rw [lookG x a q ha]; rfl
  · rcases found x b e with ⟨_, _, q⟩ | ⟨_, q⟩
    · exact ⟨none, (ownc x b q).2.2⟩
    · obtain ⟨o, hc⟩ := F.are x b q
      exact ⟨o, hc.keeps k1⟩
  · rcases found x b e with ⟨_, q, _⟩ | ⟨_, q⟩
    · exact zbu H (by omega)
    · exact F.offC x b q
  · rcases found x b e1 with ⟨a1, a2, q1⟩ | ⟨a1, q1⟩ <;> rcases found y b e2 with ⟨b1, b2, q2⟩ | ⟨b1, q2⟩
    · exact name_of_addr ok.apart (mem_of_lookup q1) (mem_of_lookup q2)
    · exact absurd (lt_old y b q2) (Nat.not_lt.mpr (Nat.le_of_succ_le a2))
    · exact absurd (lt_old x b q1) (Nat.not_lt.mpr (Nat.le_of_succ_le b2))
    · exact F.inj x y b q1 q2
  · rcases found x b e with ⟨_, q, _⟩ | ⟨hf, q⟩
    · exact noneB _ (by omega)
    · refine F.baseC x b ?_ q
      rw [kindR, hf] at ky
      simp only at ky
      split at ky
      · unfold Env.kindOf; rw [he.scope]; assumption
      · cases ky
  · rcases hb with rfl | ⟨x, hxm, ky, e⟩
    · refine ⟨fresh_none (Nat.le_refl _), ?_⟩
      obtain ⟨o, _, _, eo, _⟩ := hdict
      show ((pushCells (h.push { cls := .type "dict", data := .dict #[] }) scope.names).get? h.objs.size).isSome
      rw [eo]; rfl
    · rcases found x b e with ⟨_, q, q2⟩ | ⟨hf, q⟩
      · refine ⟨fresh_none (by omega), ?_⟩
        obtain ⟨o, eo, _⟩ := (ownc x b q2).2.2
        rw [eo]; rfl
      · exact absurd hf (hx x hxm)
  · rcases found y b e with ⟨_, q, _⟩ | ⟨_, q⟩
    · exact .inl (fresh_none (by omega))
    · exact .inr q
end
end Mine
end
section
namespace Mine
noncomputable abbrev CI := Loc → MO → (Loc → MO → MH → Prop) → MH → Prop
noncomputable def compI (x : MIt) (all : List MV) (t : Tgt) (test : MT) (inner : CI) : List MV → CI
  | [] => fun loc acc Q mh => iterOk x all mh ∧ Q loc acc mh
  | v :: rest => fun loc acc Q mh => iterOk x all mh ∧ ∃ loc', bindT t v loc = some loc' ∧
      test loc' (fun b mh => if b = true then inner loc' acc (fun loc acc mh => compI x all t test inner rest loc acc Q mh) mh else compI x all t test inner rest loc' acc Q mh) mh
@[reducible] noncomputable def ciElt (m : ME) : CI := fun loc acc Q mh => match acc with
  | .list vs => m loc (fun v mh => vs.length ≤ BIG ∧ Q loc (.list (vs ++ [v])) mh) mh
  | _ => False
noncomputable def ciNext (mi : MI) (t : Tgt) (test : MT) (inner : CI) : CI := fun loc acc Q mh => mi loc (fun x mh => ∃ vs, compI x vs t test inner vs loc acc Q mh) mh
noncomputable abbrev testsOf (ifs : List Expr) (env : Env) : Sem Bool := forIn ifs true fun c r => if r = true then do let ok ← isTrue c env (eval c env); pure (ForInStep.yield ok) else pure (ForInStep.yield r)
noncomputable def Wr (env : Env) (xs : List Str) (D : Addr) (own : List Addr) (b : Addr) : Prop := tgtAddr env xs b ∨ b = D ∨ b ∈ own
section
variable {c : Cx} {sc : Scope} {d : Nat} {env : Env} {loc : Loc} {φ φ' φ'' : Phi} {mh : MH} {h h' h'' : Heap} {own : List Addr} {D : Addr} {xs : List Str}
theorem tgt_own (b : Addr) (hb : tgtAddr env xs b) : ownAt env b := by
  rcases hb with h1 | ⟨x, _, h2, h3⟩
  · exact .inl h1
  · exact .inr ⟨x, h2, h3⟩
theorem OR.keepD {acc : MO} (x : OR c.prog c.w c.K h φ (D, none) acc) (KI : KeepI φ φ' h h') (ho : ∀ o, h.get? D = some o → h'.get? D = some o) : OR c.prog c.w c.K h' φ' (D, none) acc :=
  x.keep (fun b ob hb e => by
    rcases hb with rfl | hb
    · exact ho _ e
    · cases hb) fun v m r => r.keepI KI
theorem Wr.mono {ys : List Str} {own' : List Addr} (h1 : ∀ x ∈ xs, x ∈ ys) (h2 : ∀ a ∈ own, a ∈ own') {b : Addr} (hb : Wr env xs D own b) : Wr env ys D own' b := by
  rcases hb with h | h | h
  · exact .inl (zg6 h1 h)
  · exact .inr (.inl h)
  · exact .inr (.inr (h2 b h))
theorem ExtW.weaken {W W' : Addr → Prop} (x : ExtW W φ φ' h h') (hs : ∀ b, W b → W' b) (ha : ∀ b, W' b → (h.get? b).isSome) : ExtW W' φ φ' h h' :=
  ⟨x.pre, x.new, fun b o hb hn e => x.keep b o hb (fun hq => hn (hs b hq)) e, fun b hb h1 h2 => by
    rcases x.new b h2 with h3 | h3
    · exact h1 h3
    · have := ha b hb; rw [h3] at this; cases this⟩
theorem ExtW.more {W W' : Addr → Prop} (x : ExtW W φ φ' h h') (y : ExtW W' φ' φ'' h' h'') (hs : ∀ b, W b → W' b) (hn : ∀ b, W' b → W b ∨ h.get? b = none) : ExtW W φ φ'' h h'' where
  pre := x.pre.trans y.pre
  new := fun a ha => by
    rcases y.new a ha with h1 | h1
    · exact x.new a h1
    · by_cases hb : a ∈ addrs φ
      · exact .inl hb
      · by_cases hw : W a
        · exact absurd ha (y.off a (hs a hw) (x.off a hw hb))
        · refine .inr ?_
          cases e : h.get? a with
          | none => rfl
          | some o => rw [x.keep a o hb hw e] at h1; cases h1
  keep := fun b o hb hw e => by
    refine y.keep b o (fun hc => ?_) (fun hq => ?_) (x.keep b o hb hw e)
    · rcases x.new b hc with h1 | h1
      · exact hb h1
      · rw [h1] at e; cases e
    · rcases hn b hq with h1 | h1
      · exact hw h1
      · rw [h1] at e; cases e
  off := fun b hb h1 => y.off b (hs b hb) (x.off b hb h1)
theorem ExtW.keepI {W : Addr → Prop} (x : ExtW W φ φ' h h') (H : c.Hp φ mh h) (hw : ∀ b, W b → ∀ o, h.get? b = some o → isMut o) : KeepI φ φ' h h' :=
  ⟨x.pre, fun b o hm e => x.keep b o (fun hb => hm (H.mut b hb o e)) (fun hb => hm (hw b hb o e)) e⟩
noncomputable def EmitS (c : Cx) (sc : Scope) (d : Nat) (xs : List Str) (emit : Value → Env → Sem Unit) (inner : CI) : Prop :=
  ∀ (A : Around) (env : Env) (loc : Loc) (φ : Phi) (mh : MH) (s : Shared) (D : Addr) (acc : MO) (Q : Loc → MO → MH → Prop) (P : Unit → Shared → Prop) (E : Value → Shared → Prop),
    Room A d → EnvOk env sc → c.Hp φ mh s.heap → FrR c env loc φ s.heap → Apart c env φ s.heap [D] → OR c.prog c.w c.K s.heap φ (D, none) acc → inner loc acc Q mh →
    (∀ loc' acc' φ' mh' h' tk, Q loc' acc' mh' → ExtW (Wr env xs D []) φ φ' s.heap h' → c.Hp φ' mh' h' → FrR c env loc' φ' h' → OR c.prog c.w c.K h' φ' (D, none) acc' → P () { s with heap := h', toks := tk }) →
    wpAny c.M A (emit (.ref D) env) P E s
noncomputable def TestS (c : Cx) (sc : Scope) (d : Nat) (ifs : List Expr) (test : MT) : Prop :=
  ∀ (A : Around) (env : Env) (loc : Loc) (φ : Phi) (mh : MH) (s : Shared) (Q : Bool → MH → Prop) (P : Bool → Shared → Prop) (E : Value → Shared → Prop),
    Room A d → EnvOk env sc → c.Hp φ mh s.heap → FrR c env loc φ s.heap → test loc Q mh → OutB c φ s Q P → wpAny c.M A (testsOf ifs env) P E s
@[reducible] noncomputable def tTrue : MT := fun _ Q mh => Q true mh
theorem zbd : TestS c sc d [] tTrue := fun A env loc φ mh s Q P E hr he H F q o => wpAny_tests_nil (o true φ mh s.heap s.toks q (.refl _ _) H)
theorem zbp {e : Expr} {t : MT} (h : ST c sc d e t) : TestS c sc d [e] t := fun A env loc φ mh s Q P E hr he H F q o => wpAny_tests_one (h A env loc φ mh s Q P E hr he H F q o)
structure CT (c : Cx) (env : Env) (xs : List Str) (D : Addr) (own : List Addr) (I : Addr) (x : MIt) (φ0 : Phi) (h0 : Heap) (loc : Loc) (φ : Phi) (mh : MH) (h : Heap) (acc : MO) (i : Nat) : Prop where
  xx : ExtW (Wr env xs D own) φ0 φ h0 h
  H : c.Hp φ mh h
  F : FrR c env loc φ h
  ap : Apart c env φ h own
  apD : Apart c env φ h [D]
  hD : OR c.prog c.w c.K h φ (D, none) acc
  it : ItR h φ own I x i
section
variable {I : Addr} {x : MIt} {φ0 : Phi} {h0 h2 : Heap} {acc acc2 : MO} {i : Nat} {loc2 : Loc} {φ2 : Phi} {mh2 : MH}
theorem CT.alive (S : CT c env xs D own I x φ0 h0 loc φ mh h acc i) : ∀ b, Wr env xs D own b → (h.get? b).isSome := fun b hb => by
  rcases hb with hb | rfl | hb
  · exact zan S.F b (tgt_own b hb)
  · obtain ⟨o, e, _⟩ := S.apD.muts b (by simp); rw [e]; rfl
  · obtain ⟨o, e, _⟩ := S.ap.muts b hb; rw [e]; rfl
theorem CT.stepOwn (S : CT c env xs D own I x φ0 h0 loc φ mh h acc i) (hDo : D ∉ own) (k : ∀ b ob, b ∉ own → h.get? b = some ob → h2.get? b = some ob) (it2 : ItR h2 φ own I x (i + 1)) :
    CT c env xs D own I x φ0 h0 loc φ mh h2 acc (i + 1) := by
  obtain ⟨H2, F2⟩ := zcy S.H S.F S.ap k
  have kD : ∀ ob, h.get? D = some ob → h2.get? D = some ob := fun ob e => k D ob hDo e
  refine ⟨S.xx.trans (.of_keep fun b o hn e => k b o (fun hq => hn (.inr (.inr hq))) e), H2, F2, S.ap.stepI it2, ⟨S.apD.phi, S.apD.base, S.apD.loc, S.apD.cell, fun a ha => ?_⟩, S.hD.keepD (zbr S.ap k) kD, it2⟩
  simp at ha; subst ha
  obtain ⟨o, e, hm⟩ := S.apD.muts a (by simp)
  exact ⟨o, kD o e, hm⟩
theorem CT.named {ys : List Str} (S : CT c env xs D own I x φ0 h0 loc φ mh h acc i) (hxs : ∀ y ∈ ys, y ∈ xs) (k : ∀ b o, ¬ tgtAddr env ys b → h.get? b = some o → h2.get? b = some o) (H2 : c.Hp φ mh h2) (F2 : FrR c env loc2 φ h2) (x2 : ExtF env φ φ h h2) :
    CT c env xs D own I x φ0 h0 loc2 φ mh h2 acc i := by
  have a := S.ap.stepF (loc := loc) (mh := mh) x2
  have b := S.apD.stepF (loc := loc) (mh := mh) x2
  have KI := x2.keepI S.H S.F
  exact ⟨S.xx.trans (.of_keep fun b o hn e => k b o (fun hq => hn (.inl (zg6 hxs hq))) e), H2, F2, a.1, b.1, S.hD.keepD KI (fun o e => b.2 D (by simp) o e), S.it.keep KI a.2⟩
theorem CT.ext (S : CT c env xs D own I x φ0 h0 loc φ mh h acc i) (x2 : Ext φ φ2 h h2) (H2 : c.Hp φ2 mh2 h2) : CT c env xs D own I x φ0 h0 loc φ2 mh2 h2 acc i := by
  have xF := x2.toF (zan S.F)
  have a := S.ap.stepF (loc := loc) (mh := mh) xF
  have b := S.apD.stepF (loc := loc) (mh := mh) xF
  have KI := xF.keepI S.H S.F
  exact ⟨S.xx.trans (x2.toW S.alive), H2, S.F.ext S.H x2, a.1, b.1, S.hD.keepD KI (fun o e => b.2 D (by simp) o e), S.it.keep KI a.2⟩
theorem CT.emit (S : CT c env xs D own I x φ0 h0 loc φ mh h acc i) (hDo : D ∉ own) (x2 : ExtW (Wr env xs D []) φ φ2 h h2) (H2 : c.Hp φ2 mh2 h2) (F2 : FrR c env loc2 φ2 h2) (hD2 : OR c.prog c.w c.K h2 φ2 (D, none) acc2) :
    CT c env xs D own I x φ0 h0 loc2 φ2 mh2 h2 acc2 i := by
  have nW : ∀ a ∈ own, ¬ Wr env xs D [] a := fun a ha hw => by
    rcases hw with hw | hw | hw
    · exact S.ap.notOwn a ha (tgt_own a hw)
    · subst hw; exact hDo ha
    · simp at hw
  have ho5 : ∀ a ∈ own, ∀ o, h.get? a = some o → h2.get? a = some o := fun a ha o e => x2.keep a o (S.ap.phi a ha) (nW a ha) e
  have KI5 : KeepI φ φ2 h h2 := x2.keepI S.H (fun b hb o e => by
    rcases hb with hb | rfl | hb
    · exact own_mut S.F (tgt_own b hb) e
    · obtain ⟨o', e', hm⟩ := S.apD.muts b (by simp); rw [e'] at e; cases e; exact hm
    · simp at hb)
  refine ⟨S.xx.trans (x2.weaken (fun b hb => Wr.mono (fun _ h => h) (by simp) hb) S.alive), H2, F2, ⟨fun a ha hq => ?_, S.ap.base, S.ap.loc, S.ap.cell, fun a ha => ?_⟩, ⟨fun a ha => ?_, S.apD.base, S.apD.loc, S.apD.cell, fun a ha => ?_⟩, hD2, S.it.keep KI5 ho5⟩
  · rcases x2.new a hq with h1 | h1
    · exact S.ap.phi a ha h1
    · obtain ⟨o, e, _⟩ := S.ap.muts a ha
      rw [h1] at e; cases e
  · obtain ⟨o, e, hm⟩ := S.ap.muts a ha
    exact ⟨o, ho5 a ha o e, hm⟩
  · simp at ha; subst ha
    exact x2.off a (.inr (.inl rfl)) (S.apD.phi a (by simp))
  · simp at ha; subst ha
    exact hD2.mutD
end
theorem zh5 {A : Around} {s : Shared} {e tgt : Expr} {t : Tgt} {ifs : List Expr} {test : MT} {depth : Nat} {pos : Pos} {emit : Value → Env → Sem Unit} {inner : CI} {I : Addr} {x : MIt} {all : List MV} {acc : MO}
    {Q : Loc → MO → MH → Prop} {R : Result → Shared → Prop}
    (hq : (Code.compLoop e depth (.ref I) (.ref D) env).quiet = true)
    (hu : A.under (Code.compLoop e depth (.ref I) (.ref D) env) = A)
    (hden : denote table (.compLoop e depth (.ref I) (.ref D) env) = (compTurn e depth (.ref I) (.ref D) env).onRaise (fun x => do noteFrame x env; theTreesLotGoes x))
    (hturn : compTurn e depth (.ref I) (.ref D) env = (do
      standAt pos
      match ← pyNext (.ref I) with
      | none => pure (.done .next)
      | some v =>
        letOwnedTupleGo tgt (.ref I) v
        assign tgt env v
        let ok ← testsOf ifs env
        if ok = true then emit (.ref D) env
        again (.compLoop e depth (.ref I) (.ref D) env)))
    (htg : tgtOf tgt = some t) (hk : ∀ y ∈ t.names, sc.names.lookup y = some .local ∨ sc.names.lookup y = some .cell) (hxs : ∀ y ∈ t.names, y ∈ xs)
    (hT : TestS c sc d ifs test) (hE : EmitS c sc d xs emit inner)
    (hr : Room A d) (he : EnvOk env sc) (hen : (∃ es k p, tgt = .Tuple es k p) ∨ ∀ r, x ≠ .enum r) (hDo : D ∉ own)
    (H : c.Hp φ mh s.heap) (F : FrR c env loc φ s.heap) (ap : Apart c env φ s.heap own) (apD : Apart c env φ s.heap [D]) (hD : OR c.prog c.w c.K s.heap φ (D, none) acc) (it : ItR s.heap φ own I x 0)
    (q : compI x all t test inner all loc acc Q mh)
    (o : ∀ loc' acc' φ' mh' h' tk, Q loc' acc' mh' → ExtW (Wr env xs D own) φ φ' s.heap h' → c.Hp φ' mh' h' → FrR c env loc' φ' h' → OR c.prog c.w c.K h' φ' (D, none) acc' → R (.ok .next) { s with heap := h', toks := tk }) :
    codeAny c.M A (.compLoop e depth (.ref I) (.ref D) env) R s := by
  let Inv : Nat → Shared → Prop := fun n s' => X7 fun (loc' : Loc) (φ' : Phi) (mh' : MH) (h' : Heap) (tk : Nat) (acc' : MO) (i : Nat) => N5 (s' = { s with heap := h', toks := tk }) (CT c env xs D own I x φ s.heap loc' φ' mh' h' acc' i) (compI x all t test inner (all.drop i) loc' acc' Q mh') (i ≤ all.length) (n = all.length + 1 - i)
  refine codeAny_loop hq Inv ?_ (all.length + 1) ⟨loc, φ, mh, s.heap, s.toks, acc, 0, rfl, ⟨.refl, H, F, ap, apD, hD, it⟩, by simpa using q, Nat.zero_le _, by omega⟩
  rintro n s' ⟨loc', φ', mh', h', tk, acc', i, rfl, S, qq, hi', rfl⟩
  rw [hu]
  show wpAny c.M A (denote table (.compLoop e depth (.ref I) (.ref D) env)) _ _ _
  rw [hden, hturn]
  refine wpAny_noted (wpAny_bind (wpAny_standAt (wpAny_bind ?_)))
  by_cases hlt : i < all.length
  · have hd : all.drop i = all[i] :: all.drop (i + 1) := (List.drop_eq_getElem_cons hlt)
    rw [hd] at qq
    obtain ⟨ok, loc2, hbt, qq⟩ := qq
    refine wpAny_mono (it_item (t1 := true) hen S.H S.ap S.it ok (List.getElem?_eq_getElem hlt) (P := fun v s2 => wpAny c.M A (do
        assign tgt env v
        let ok ← testsOf ifs env
        if ok = true then emit (.ref D) env
        again (.compLoop e depth (.ref I) (.ref D) env))
        (fun fin s' => match fin with | .done f => R (.ok f) s' | .again c' => c' = Code.compLoop e depth (.ref I) (.ref D) env ∧ ∃ m, m < all.length + 1 - i ∧ Inv m s') (notedBy c.M A env fun e s' => R (.error e) s') s2) ?_) ?_ fun _ _ z => z
    · intro v h2 tk2 rv it2 k
      have S2 := S.stepOwn hDo k it2
      refine wpAny_bind (zmo htg hk hr.handled he S2.H S2.F rv hbt fun h3 tk3 k3 H3 F3 x3 => ?_)
      have S3 := S2.named hxs k3 H3 F3 x3
      refine wpAny_bind (hT A env loc2 φ' mh' _ _ _ _ hr he H3 F3 qq fun b φ4 mh4 h4 tk4 q4 x4 H4 => ?_)
      have S4 := S3.ext x4 H4
      cases b with
      | false =>
        simp only [Bool.false_eq_true, if_false] at q4 ⊢
        exact wpAny_bind (wpAny_pure (wpAny_pure ⟨rfl, all.length + 1 - (i + 1), Nat.sub_lt_sub_left (Nat.lt_succ_of_lt hlt) (Nat.lt_succ_self i), loc2, φ4, mh4, h4, tk4, acc', i + 1, rfl, S4, q4, hlt, rfl⟩))
      | true =>
        simp only [if_true] at q4 ⊢
        refine wpAny_bind (hE A env loc2 φ4 mh4 _ D acc' _ _ _ hr he H4 S4.F S4.apD S4.hD q4 fun loc5 acc5 φ5 mh5 h5 tk5 q5 x5 H5 F5 hD5 => ?_)
        exact wpAny_pure ⟨rfl, all.length + 1 - (i + 1), Nat.sub_lt_sub_left (Nat.lt_succ_of_lt hlt) (Nat.lt_succ_self i), loc5, φ5, mh5, h5, tk5, acc5, i + 1, rfl, S4.emit hDo x5 H5 F5 hD5, q5, hlt, rfl⟩
    · rintro r s1 ⟨v, rfl, hh⟩
      exact wpAny_bind hh
  · have hd : all.drop i = [] := List.drop_eq_nil_of_le (by omega)
    rw [hd] at qq
    obtain ⟨ok, qq⟩ := qq
    refine it_end hr.handled S.H S.ap S.it ok (by omega) fun h2 tk2 k => ?_
    obtain ⟨H2, F2⟩ := zcy S.H S.F S.ap k
    exact wpAny_pure (o loc' acc' φ' mh' h2 tk2 qq (S.xx.trans (.of_keep fun b o hn e => k b o (fun hq => hn (.inr (.inr hq))) e)) H2 F2 (S.hD.keepD (zbr S.ap k) (fun ob e => k D ob hDo e)))
end
end Mine
end
section
namespace Mine
section
variable {c : Cx} {sc : Scope} {d : Nat} {env : Env} {loc : Loc} {φ φ' φ'' : Phi} {mh : MH} {h h' h'' : Heap} {own : List Addr} {D : Addr} {xs : List Str}
theorem zlq {A : Around} {s : Shared} {I : Addr} {x : MIt} {i : Nat} {Q : Value → Shared → Prop} {E : Value → Shared → Prop} (it : ItR s.heap φ own I x i) (q : Q (.ref I) s) : wpAny c.M A (pyIter (.ref I)) Q E s := by
  cases it with
  | tuple a _ _ => exact wpAny_pyIter_tupleiter a q
  | range a => exact wpAny_pyIter_rangeiter a q
  | list _ a => exact wpAny_pyIter_listiter a q
  | enum _ _ a _ => exact wpAny_pyIter_enum a q
theorem Hp.pushAt {acc : MO} (H : c.Hp φ mh h) (h1 : D ∉ addrs φ) (h2 : c.hB.get? D = none) (h3 : mainGlobals < D) (ho : OR c.prog c.w c.K h φ (D, none) acc) :
    c.Hp (φ ++ [(D, none)]) (mh ++ [acc]) h ∧ VR h (φ ++ [(D, none)]) (.ref D) (.ref mh.length) := by
  have KI : KeepI φ (φ ++ [(D, none)]) h h := ⟨List.prefix_append _ _, fun _ _ _ e => e⟩
  have hv : ∀ v m, VR h φ v m → VR h (φ ++ [(D, none)]) v m := fun v m r => r.keepI KI
  have hadr : addrs (φ ++ [(D, none)]) = addrs φ ++ [D] := by simp [addrs]
  refine ⟨⟨H.base, by simp [H.len], fun i o p e1 e2 => ?_, ?_, fun a ha => ?_⟩, .ref (d := none) (by rw [← H.len]; simp)⟩
  · by_cases hi : i < mh.length
    · rw [List.getElem?_append_left hi] at e1
      rw [List.getElem?_append_left (by rw [H.len]; exact hi)] at e2
      exact (H.objs i o p e1 e2).keep (fun b ob _ e => e) hv
    · have hi' : i = mh.length := by
        have := (List.getElem?_eq_some_iff.mp e1).1
        simp at this; omega
      subst hi'
      simp at e1
      rw [← H.len] at e2
      simp at e2
      subst e1 e2
      exact ho.keep (fun b ob _ e => e) hv
  · rw [hadr, List.nodup_append]
    refine ⟨H.nodup, by simp, fun a ha b hb e => ?_⟩
    simp at hb; subst hb; subst e; exact h1 ha
  · rw [hadr] at ha
    rcases List.mem_append.mp ha with h4 | h4
    · exact H.off a h4
    · simp at h4; subst h4; exact ⟨h2, h3⟩
theorem Ext.pushAt {h0 : Heap} (x : Ext φ φ' h0 h) (hn : h0.get? D = none) : Ext φ (φ' ++ [(D, none)]) h0 h :=
  ⟨x.pre.trans (List.prefix_append _ _), fun a ha => by
    rw [zcf] at ha
    rcases List.mem_append.mp ha with h1 | h1
    · exact x.new a h1
    · simp [addrs] at h1; subst h1; exact .inr hn, x.keep⟩
noncomputable def emitElt (elt : Expr) : Value → Env → Sem Unit := fun acc env => do let _ ← call (.builtin "list.append") [acc, ← eval elt env]
theorem zn3 {elt : Expr} {m : ME} (hm : SE c sc d elt m) : EmitS c sc d xs (emitElt elt) (ciElt m) :=
  fun A env loc φ mh s D acc Q P E hr he H F apD hD q o => by
    unfold ciElt at q
    cases acc <;> try exact q.elim
    rename_i vs
    refine wpAny_bind (hm A env loc φ mh s _ _ E hr he H F q fun v mv φ1 mh1 h1 tk1 q1 x1 H1 r1 => ?_)
    obtain ⟨hb, q1⟩ := q1
    have F1 := F.ext H x1
    have x1F := x1.toF (zan F)
    have apD1 := apD.stepF (loc := loc) (mh := mh) x1F
    have hD1 := hD.keepD (x1F.keepI H F) (fun o e => apD1.2 D (by simp) o e)
    obtain ⟨ws, n, _, g, r⟩ := hD1.inv_list
    refine wpAny_bind (wpAny_list_append_plain (s := { s with heap := h1, toks := tk1 }) (items := ws.toArray) ⟨n, g⟩ (fun h2 hp hs => ?_) (by rw [List.size_toArray, r.length]; exact zay hb))
    obtain ⟨n', g'⟩ := hp
    have k : ∀ b o, b ∉ [D] → h1.get? b = some o → h2.get? b = some o := fun b o hb e => (hs.2 b (by simpa using hb)).trans e
    obtain ⟨H2, F2⟩ := zcy H1 F1 apD1.1 k
    have KI := zbr apD1.1 k
    have al : ∀ b, Wr env xs D [] b → (s.heap.get? b).isSome := fun b hb => by
      rcases hb with hb | rfl | hb
      · exact zan F b (tgt_own b hb)
      · obtain ⟨o, e, _⟩ := apD.muts b (by simp); rw [e]; rfl
      · simp at hb
    refine wpAny_pure (o _ _ φ1 mh1 h2 tk1 q1 ((x1.toW al).trans (.of_keep fun b o hn e => k b o (fun hq => hn (.inr (.inl (by simpa using hq)))) e)) H2 F2 (.list (n := n') (vs := ws ++ [v]) (by rw [g']; simp [lstObj]) ((r.keepI KI).append (.one (r1.keepI KI)))))
noncomputable def zhd (e : Expr) (iter : Expr) : Value → Env → Sem Unit := fun acc env => do
  let x ← eval iter env
  standAt iter.pos
  let x ← foldedSetIterable iter env x
  let _ ← runOwn (.compStart e 1 (← holding [x] (pyIter x)) acc env) env
theorem ziz (elt t1 i1 t2 i2 : Expr) (ifs1 ifs2 : List Expr) (scope : Scope) (pos : Pos) (it acc : Value) (env : Env) :
    compTurn (.ListComp elt [⟨t1, i1, ifs1, 0⟩, ⟨t2, i2, ifs2, 0⟩] scope pos) 0 it acc env = (do
      standAt i1.pos
      match ← pyNext it with
      | none => pure (.done .next)
      | some v =>
        letOwnedTupleGo t1 it v
        assign t1 env v
        let ok ← testsOf ifs1 env
        if ok = true then do
          let x ← eval i2 env
          standAt i2.pos
          let x ← foldedSetIterable i2 env x
          let it' ← holding [x] (pyIter x)
          let _ ← runOwn (.compStart (.ListComp elt [⟨t1, i1, ifs1, 0⟩, ⟨t2, i2, ifs2, 0⟩] scope pos) 1 it' acc env) env
          again (.compLoop (.ListComp elt [⟨t1, i1, ifs1, 0⟩, ⟨t2, i2, ifs2, 0⟩] scope pos) 0 it acc env)
        else again (.compLoop (.ListComp elt [⟨t1, i1, ifs1, 0⟩, ⟨t2, i2, ifs2, 0⟩] scope pos) 0 it acc env)) := by rfl
theorem zkm (elt t1 i1 t2 i2 : Expr) (ifs1 ifs2 : List Expr) (scope : Scope) (pos : Pos) (it acc : Value) (env : Env) :
    compTurn (.ListComp elt [⟨t1, i1, ifs1, 0⟩, ⟨t2, i2, ifs2, 0⟩] scope pos) 0 it acc env = (do
      standAt i1.pos
      match ← pyNext it with
      | none => pure (.done .next)
      | some v =>
        letOwnedTupleGo t1 it v
        assign t1 env v
        let ok ← testsOf ifs1 env
        if ok = true then zhd (.ListComp elt [⟨t1, i1, ifs1, 0⟩, ⟨t2, i2, ifs2, 0⟩] scope pos) i2 acc env
        again (.compLoop (.ListComp elt [⟨t1, i1, ifs1, 0⟩, ⟨t2, i2, ifs2, 0⟩] scope pos) 0 it acc env)) := by
  rw [ziz]
  unfold zhd
  simp only [bind_assoc, pure_bind]
theorem zkl (elt t1 i1 t2 i2 : Expr) (ifs1 ifs2 : List Expr) (scope : Scope) (pos : Pos) (it acc : Value) (env : Env) :
    compTurn (.ListComp elt [⟨t1, i1, ifs1, 0⟩, ⟨t2, i2, ifs2, 0⟩] scope pos) 1 it acc env = (do
      standAt i2.pos
      match ← pyNext it with
      | none => pure (.done .next)
      | some v =>
        letOwnedTupleGo t2 it v
        assign t2 env v
        let ok ← testsOf ifs2 env
        if ok = true then emitElt elt acc env
        again (.compLoop (.ListComp elt [⟨t1, i1, ifs1, 0⟩, ⟨t2, i2, ifs2, 0⟩] scope pos) 1 it acc env)) := by rfl
theorem zl6 (elt t1 i1 : Expr) (ifs1 : List Expr) (scope : Scope) (pos : Pos) (it acc : Value) (env : Env) :
    compTurn (.ListComp elt [⟨t1, i1, ifs1, 0⟩] scope pos) 0 it acc env = (do
      standAt i1.pos
      match ← pyNext it with
      | none => pure (.done .next)
      | some v =>
        letOwnedTupleGo t1 it v
        assign t1 env v
        let ok ← testsOf ifs1 env
        if ok = true then emitElt elt acc env
        again (.compLoop (.ListComp elt [⟨t1, i1, ifs1, 0⟩] scope pos) 0 it acc env)) := by rfl
theorem zoe {A : Around} {s : Shared} {R : Result → Shared → Prop} {elt t1 i1 t2 i2 : Expr} {ifs1 ifs2 : List Expr} {scope : Scope} {pos : Pos} {it acc : Value} {env : Env}
    (h0 : codeAny c.M A (.compLoop (.ListComp elt [⟨t1, i1, ifs1, 0⟩, ⟨t2, i2, ifs2, 0⟩] scope pos) 1 it acc env) R s)
    (h : wpAny c.M A (pyIter it) (fun it' s' => codeAny c.M A (.compLoop (.ListComp elt [⟨t1, i1, ifs1, 0⟩, ⟨t2, i2, ifs2, 0⟩] scope pos) 1 it' acc env) R s')
      (notedBy c.M A env fun x s' => R (.error x) s') s) :
    codeAny c.M A (.compStart (.ListComp elt [⟨t1, i1, ifs1, 0⟩, ⟨t2, i2, ifs2, 0⟩] scope pos) 1 it acc env) R s := by
  refine codeAny_of_tree ?_
  show wpAny _ A ((compStart (.ListComp elt [⟨t1, i1, ifs1, 0⟩, ⟨t2, i2, ifs2, 0⟩] scope pos) 1 it acc env).onRaise (fun x => do noteFrame x env; standAt theWindowsPlace)) _ _ s
  refine wpAny_notedAt ?_
  unfold compStart
  show wpAny _ A (ask >>= _) _ _ s
  refine wpAny_bind (wpAny_askSetting (wpAny_ite ?_))
  split
  · first
      | exact wpAny_bind (wpAny_pure (wpAny_pure (And.intro rfl h0)))
      | exact wpAny_pure (And.intro rfl h0)
  · first
      | exact wpAny_bind (wpAny_rule (wpAny_bind (wpAny_standAt (wpAny_bind (wpAny_mono h (fun it' s' h' => wpAny_pure (And.intro rfl h')) fun _ _ x => x)))))
      | (refine wpAny_bind (wpAny_rule ?_); show wpAny _ _ (standAt i2.pos >>= _) _ _ s; exact wpAny_bind (wpAny_standAt (wpAny_bind (wpAny_mono h (fun it' s' h' => wpAny_pure (And.intro rfl h')) fun _ _ x => x))))
theorem zqy {elt t1 i1 t2 i2 : Expr} {ifs1 ifs2 : List Expr} {scope : Scope} {pos : Pos} {mi : MI} {t : Tgt} {test : MT} {inner : CI} {en : Bool}
    (hi : SI c sc d i2 en mi) (hs : ∀ env x, foldedSetIterable i2 env x = pure x) (htg : tgtOf t2 = some t) (hk : ∀ y ∈ t.names, sc.names.lookup y = some .local ∨ sc.names.lookup y = some .cell) (hxs : ∀ y ∈ t.names, y ∈ xs)
    (hen : en = false ∨ ∃ es k p, t2 = .Tuple es k p) (hT : TestS c sc d ifs2 test) (hE : EmitS c sc d xs (emitElt elt) inner) :
    EmitS c sc d xs (zhd (.ListComp elt [⟨t1, i1, ifs1, 0⟩, ⟨t2, i2, ifs2, 0⟩] scope pos) i2) (ciNext mi t test inner) :=
  fun A env loc φ mh s D acc Q P E hr he H F apD hD q o => by
    have al : ∀ b, Wr env xs D [] b → (s.heap.get? b).isSome := fun b hb => by
      rcases hb with hb | rfl | hb
      · exact zan F b (tgt_own b hb)
      · obtain ⟨o, e, _⟩ := apD.muts b (by simp); rw [e]; rfl
      · simp at hb
    unfold zhd
    refine wpAny_bind (wpAny_mono (hi A env loc φ mh s _ (fun it s2 => wpAny c.M A (do let _ ← runOwn (.compStart (.ListComp elt [⟨t1, i1, ifs1, 0⟩, ⟨t2, i2, ifs2, 0⟩] scope pos) 1 it (.ref D) env) env) P E s2) E hr he H F q
      fun I own x φ1 mh1 h1 tk1 q1 x1 H1 it1 hown hne => ?_) (fun x s1 hh => ?_) fun _ _ z => z)
    · obtain ⟨vs, q1⟩ := q1
      have hnone : ∀ a ∈ own, s.heap.get? a = none := fun a ha => (hown a ha).1
      have F1 := F.ext H x1
      have x1F := x1.toF (zan F)
      have ap1 : Apart c env φ1 h1 own := Apart.of H F hown
      have apD1 := apD.stepF (loc := loc) (mh := mh) x1F
      have hD1 := hD.keepD (x1F.keepI H F) (fun o e => apD1.2 D (by simp) o e)
      have hDo : D ∉ own := fun hq => by
        obtain ⟨o, e, _⟩ := apD.muts D (by simp)
        rw [hnone D hq] at e; cases e
      have main : codeAny c.M A (.compLoop (.ListComp elt [⟨t1, i1, ifs1, 0⟩, ⟨t2, i2, ifs2, 0⟩] scope pos) 1 (.ref I) (.ref D) env)
          (fun r s' => match r with | .ok f => wpAny c.M A (pure ()) P E s' | .error e => cameBackBy c.M A env E e s') { s with heap := h1, toks := tk1 } := by
        refine zh5 (xs := xs) (t := t) (emit := emitElt elt) rfl rfl rfl (zkl elt t1 i1 t2 i2 ifs1 ifs2 scope pos (.ref I) (.ref D) env) htg hk hxs hT hE hr he
          (hen.elim (fun h => .inr (hne h)) .inl) hDo H1 F1 ap1 apD1.1 hD1 it1 q1 fun loc2 acc2 φ2 mh2 h2 tk2 q2 x2 H2 F2 hD2 => ?_
        refine wpAny_pure (o loc2 acc2 φ2 mh2 h2 tk2 q2 ((x1.toW al).more x2 (fun b hb => Wr.mono (fun _ h => h) (by simp) hb) fun b hb => ?_) H2 F2 hD2)
        rcases hb with hb | hb | hb
        · exact .inl (.inl hb)
        · exact .inl (.inr (.inl hb))
        · exact .inr (hnone b hb)
      refine wpAny_bind (wpAny_runOwn (h := none) (zoe main (zlq (s := { s with heap := h1, toks := tk1 }) it1 main)))
    · exact wpAny_bind (wpAny_standAt (wpAny_bind (wpAny_of_eq (hs env x) (wpAny_bind (wpAny_holding hh)))))
end
end Mine
end
section
namespace Mine
noncomputable def NewAcc (c : Cx) (newAcc : Sem Value) (acc0 : MO) : Prop :=
  ∀ (A : Around) (s : Shared) (P : Value → Shared → Prop) (E : Value → Shared → Prop),
    (∀ h', s.heap.objs.size < h'.objs.size → (∀ b o, s.heap.get? b = some o → h'.get? b = some o) → (∀ φ, OR c.prog c.w c.K h' φ (s.heap.objs.size, none) acc0) → P (.ref s.heap.objs.size) { s with heap := h' }) → wpAny c.M A newAcc P E s
section
variable {c : Cx} {sc : Scope} {d : Nat}
theorem zhp : NewAcc c (newList []) (.list []) := fun A s P E o =>
  wpAny_newObj_type (o _ (by rw [Heap.size_push]; exact Nat.lt_succ_self _) (zaj _) fun φ => .list (n := 0) (Heap.get?_push_size _ rfl) .nil)
noncomputable def mComp (scope : Scope) (mi : MI) (t : Tgt) (test : MT) (inner : CI) (acc0 : MO) : ME := fun loc Q mh =>
  mi loc (fun x mh => ∃ vs, compI x vs t test inner vs (restr scope loc) acc0 (fun _ acc mh => Q (.ref mh.length) (mh ++ [acc])) mh) mh
theorem zpx {A : Around} {s : Shared} {R : Result → Shared → Prop} {e : Expr} {it acc : Value} {env : Env} (he : (∃ a t i f r sc p, e = .ListComp a (⟨t, i, f, 0⟩ :: r) sc p) ∨ ∃ a b t i f r sc p, e = .DictComp a b (⟨t, i, f, 0⟩ :: r) sc p)
    (h0 : codeAny c.M A (.compLoop e 0 it acc env) R s) (h : wpAny c.M A (pyIter it) (fun it' s' => codeAny c.M A (.compLoop e 0 it' acc env) R s') (notedBy c.M A env fun x s' => R (.error x) s') s) :
    codeAny c.M A (.compStart e 0 it acc env) R s := by
  rcases he with ⟨a, t, i, f, r, sc, p, rfl⟩ | ⟨a, b, t, i, f, r, sc, p, rfl⟩
  · exact codeAny_compStart_list h0 h
  · exact codeAny_compStart_dict h0 h
theorem zl5 {A : Around} {env : Env} {loc : Loc} {φ : Phi} {mh : MH} {s : Shared} {e tgt iter : Expr} {ifs : List Expr} {rest : List Comprehension} {scope : Scope} {pos : Pos} {newAcc : Sem Value} {acc0 : MO} {use : Option (Value → Sem Unit)}
    {mi : MI} {t : Tgt} {test : MT} {inner : CI} {en : Bool} {emit : Value → Env → Sem Unit} {xs : List Str} {Q : MV → MH → Prop} {P : Value → Shared → Prop} {E : Value → Shared → Prop}
    (hcl : clausesOf e = ⟨tgt, iter, ifs, 0⟩ :: rest)
    (hform : (∃ a t i f r sc p, e = .ListComp a (⟨t, i, f, 0⟩ :: r) sc p) ∨ ∃ a b t i f r sc p, e = .DictComp a b (⟨t, i, f, 0⟩ :: r) sc p)
    (hs : ∀ env x, foldedSetIterable iter env x = pure x) (hnew : NewAcc c newAcc acc0) (hsc : CompScope scope sc)
    (hi : SI c sc d iter en mi) (hen : en = false ∨ ∃ es k p, tgt = .Tuple es k p) (htg : tgtOf tgt = some t)
    (hk : ∀ y ∈ t.names, (relab scope sc).names.lookup y = some .local ∨ (relab scope sc).names.lookup y = some .cell) (hxs : ∀ y ∈ t.names, y ∈ xs) (hfree : ∀ x ∈ xs, scope.names.lookup x ≠ some .free)
    (hT : TestS c (relab scope sc) d ifs test) (hE : EmitS c (relab scope sc) d xs emit inner)
    (hq : ∀ I D env, (Code.compLoop e 0 (.ref I) (.ref D) env).quiet = true) (hu : ∀ I D env, A.under (Code.compLoop e 0 (.ref I) (.ref D) env) = A)
    (hden : ∀ I D env, denote table (.compLoop e 0 (.ref I) (.ref D) env) = (compTurn e 0 (.ref I) (.ref D) env).onRaise (fun x => do noteFrame x env; theTreesLotGoes x))
    (hturn : ∀ I D env, compTurn e 0 (.ref I) (.ref D) env = (do
      standAt iter.pos
      match ← pyNext (.ref I) with
      | none => pure (.done .next)
      | some v =>
        letOwnedTupleGo tgt (.ref I) v
        assign tgt env v
        let ok ← testsOf ifs env
        if ok = true then emit (.ref D) env
        again (.compLoop e 0 (.ref I) (.ref D) env)))
    (hr : Room A d) (he : EnvOk env sc) (H : c.Hp φ mh s.heap) (F : FrR c env loc φ s.heap) (q : mComp scope mi t test inner acc0 loc Q mh)
    (oN : use = none → Out c φ s Q P)
    (oU : ∀ u, use = some u → ∀ D C mv φ' mh' h' tk, Q mv mh' → Ext φ φ' s.heap h' → c.Hp φ' mh' h' → VR h' φ' (.ref D) mv → s.heap.get? C = none → C ∉ addrs φ' → (∃ m, h'.Ns C m) →
      wpAny c.M A (u (.ref D)) (fun _ s'' => ∃ m, s''.heap.Ns C m ∧ ∀ h', Heap.SameBut C s''.heap h' → P .none { s'' with heap := h' }) E { s with heap := h', toks := tk }) :
    wpAny c.M A (comprehension e scope env pos newAcc false (eval iter env) use) P E s := by
  refine wpAny_comprehension_free hcl (hs env) (zm7 he hsc F) hsc.kind hsc.locals ?_
  refine hi A env loc φ mh s _ _ E hr he H F q fun I own x φ1 mh1 h1 tk1 q1 x1 H1 it1 hown hne => ?_
  obtain ⟨vs, q1⟩ := q1
  have hnone : ∀ a ∈ own, s.heap.get? a = none := fun a ha => (hown a ha).1
  have F1 := F.ext H x1
  refine hnew A { s with heap := h1, toks := tk1 } _ _ fun h2 hsz2 k2 hacc => ?_
  have x2 : Ext φ1 φ1 h1 h2 := .of_keep k2
  have H2 := H1.keep k2
  have F2 := F1.ext H1 x2
  refine zla (s := { s with heap := h2, toks := tk1 }) ?_
  obtain ⟨F3, he3, k3, hfr, hcl3⟩ := zph (h := h2) he hsc H2 F2
  rw [zp7 he]
  have eqv : ({ ({ scope, locals := h2.objs.size, globals := env.globals, cells := cellsFrom (h2.objs.size + 1) scope.names (closOf env.cells scope.names []), qual := env.qual, func := none, code := env.code, frame := env.frame, builtins := env.builtins } : Env) with scope := relab scope sc } : Env) = zbi scope sc h2.objs.size env := rfl
  show codeAny c.M A (.compStart e 0 (.ref I) (.ref h1.objs.size) (zbi scope sc h2.objs.size env)) (compPost c.M A E use P (.ref h1.objs.size) h2.objs.size) { s with heap := pushCells (h2.push { cls := .type "dict", data := .dict #[] }) scope.names, toks := tk1 }
  generalize hD : h1.objs.size = D at hsz2 hacc ⊢
  generalize hC : h2.objs.size = C at F3 he3 k3 hfr hcl3 hsz2 ⊢
  generalize hcenv : zbi scope sc C env = cenv at F3 he3 hfr hcl3 ⊢
  have hCl : cenv.locals = C := by subst hcenv; rfl
  generalize hh3 : pushCells (h2.push { cls := .type "dict", data := .dict #[] }) scope.names = h3 at F3 k3 hfr ⊢
  have x3 : Ext φ1 φ1 h2 h3 := .of_keep k3
  have x13 : Ext φ1 φ1 h1 h3 := x2.trans x3
  have H3 := H2.keep k3
  have xs3 : Ext φ φ1 s.heap h3 := x1.trans x13
  have lt1 : ∀ b o, s.heap.get? b = some o → b < h1.objs.size := fun b o e => by
    by_cases hb : b ∈ addrs φ
    · have hb' : b ∈ addrs φ1 := by
        obtain ⟨t, rfl⟩ := x1.pre
        rw [zcf]; exact List.mem_append_left _ hb
      exact H1.lt b hb'
    · exact Heap.lt_size (x1.keep b o hb e)
  have noneS : ∀ b, h1.objs.size ≤ b → s.heap.get? b = none := fun b hb => by
    cases e : s.heap.get? b with
    | none => rfl
    | some o => exact absurd (lt1 b o e) (Nat.not_lt.mpr hb)
  have hDn : s.heap.get? D = none := noneS D (by rw [hD]; exact Nat.le_refl _)
  have hCn : s.heap.get? C = none := noneS C (by rw [hD]; exact Nat.le_of_lt hsz2)
  have hG := Hp.glob H1
  -- the own addresses in the comprehension's frame
  have it3 : ItR h3 φ1 own I x 0 := it1.keep ⟨List.prefix_rfl, fun b o _ e => k3 b o (k2 b o e)⟩ (fun a _ o e => k3 a o (k2 a o e))
  have mem_own : ∀ a ∈ own, ∃ ob, h1.get? a = some ob ∧ isMut ob := fun a ha => (hown a ha).2.2
  have tgtN : ∀ b, tgtAddr cenv xs b → h2.get? b = none := fun b hb => (hfr xs hfree b hb).1
  have mkAp : ∀ a, s.heap.get? a = none → (∃ ob, h2.get? a = some ob ∧ isMut ob) → a ∉ addrs φ1 → ∀ l : List Addr, a ∈ l → a ∉ addrs φ1 ∧ c.hB.get? a = none ∧ a ≠ cenv.locals ∧ (∀ y b, cenv.cells.lookup y = some b → a ≠ b) ∧ ∃ ob, h3.get? a = some ob ∧ isMut ob := by
    intro a hn hm hoff l _
    obtain ⟨ob, eo, hmo⟩ := hm
    refine ⟨hoff, ?_, ?_, fun y b e hab => ?_, ob, k3 a ob eo, hmo⟩
    · cases e : c.hB.get? a with
      | none => rfl
      | some o => have := H.base a o e; rw [hn] at this; cases this
    · rintro rfl
      have := Heap.lt_size eo
      rw [hCl, ← hC] at this
      exact absurd this (Nat.lt_irrefl _)
    · subst hab
      rcases hcl3 y a e with h4 | h4
      · rw [h4] at eo; cases eo
      · obtain ⟨w, o2, e2, _⟩ := F.are y a h4
        rw [hn] at e2; cases e2
  have ap3 : Apart c cenv φ1 h3 own := by
    have main := fun a (ha : a ∈ own) => mkAp a (hnone a ha) (by obtain ⟨ob, eo, hm⟩ := mem_own a ha; exact ⟨ob, k2 a ob eo, hm⟩) (hown a ha).2.1 own ha
    exact ⟨fun a ha => (main a ha).1, fun a ha => (main a ha).2.1, fun a ha => (main a ha).2.2.1, fun a ha => (main a ha).2.2.2.1, fun a ha => (main a ha).2.2.2.2⟩
  have hDoff : D ∉ addrs φ1 := zbu H1 (by rw [hD]; exact Nat.le_refl _)
  have apD3 : Apart c cenv φ1 h3 [D] := by
    have main := mkAp D hDn ((hacc φ1).mutD) hDoff [D] (by simp)
    exact ⟨fun a ha => by simp at ha; subst ha; exact main.1, fun a ha => by simp at ha; subst ha; exact main.2.1, fun a ha => by simp at ha; subst ha; exact main.2.2.1, fun a ha => by simp at ha; subst ha; exact main.2.2.2.1,
      fun a ha => by simp at ha; subst ha; exact main.2.2.2.2⟩
  have hD3 : OR c.prog c.w c.K h3 φ1 (D, none) acc0 := (hacc φ1).keepD ⟨List.prefix_rfl, fun b o _ e => k3 b o e⟩ (fun o e => k3 D o e)
  have hDo : D ∉ own := fun hq => by
    obtain ⟨ob, eo, _⟩ := mem_own D hq
    have := Heap.lt_size eo
    rw [hD] at this
    exact absurd this (Nat.lt_irrefl _)
  have main : codeAny c.M A (.compLoop e 0 (.ref I) (.ref D) cenv) (compPost c.M A E use P (.ref D) C) { s with heap := h3, toks := tk1 } := by
    refine zh5 (xs := xs) (t := t) (emit := emit) (env := cenv) (hq I D cenv) (hu I D cenv) (hden I D cenv) (hturn I D cenv) htg hk hxs hT hE hr he3 (hen.elim (fun h => .inr (hne h)) .inl) hDo H3 F3 ap3 apD3 hD3 it3 q1
      fun loc5 acc5 φ5 mh5 h5 tk5 q5 x5 H5 F5 hD5 => ?_
    have hwn : ∀ b, Wr cenv xs D own b → s.heap.get? b = none := fun b hb => by
      rcases hb with hb | rfl | hb
      · exact (x1.trans x2).old_none (c := c) (mh := mh) H2 (tgtN b hb)
      · exact hDn
      · exact hnone b hb
    have xs5 : Ext φ φ5 s.heap h5 := xs3.thenW x5 hwn
    have hD5off : D ∉ addrs φ5 := x5.off D (.inr (.inl rfl)) hDoff
    have hDB : c.hB.get? D = none := apD3.base D (by simp)
    obtain ⟨H6, r6⟩ := Hp.pushAt H5 hD5off hDB (by rw [← hD]; exact hG) hD5
    have xs6 : Ext φ (φ5 ++ [(D, none)]) s.heap h5 := xs5.pushAt hDn
    obtain ⟨m5, hn5, _⟩ := F5.ns
    have hC6 : C ∉ addrs (φ5 ++ [(D, none)]) := fun hq => by
      rw [zcf] at hq
      rcases List.mem_append.mp hq with h4 | h4
      · exact F5.offL (hCl ▸ h4)
      · simp [addrs] at h4
        rw [h4] at hsz2
        exact absurd hsz2 (Nat.lt_irrefl _)
    rw [hCl] at hn5
    cases use with
    | some u => exact oU u rfl D C _ _ _ h5 tk5 q5 xs6 H6 r6 hCn hC6 ⟨m5, hn5⟩
    | none =>
      refine ⟨m5, hn5, fun h6 hs6 => ?_⟩
      have F6 := F.ext H xs6
      have apC : Apart c env (φ5 ++ [(D, none)]) h5 [C] := by
        refine ⟨fun a ha => by simp at ha; subst ha; exact hC6, fun a ha => ?_, fun a ha e => ?_, fun a ha y b e hab => ?_, fun a ha => ?_⟩
        · simp at ha; subst ha
          exact hCl ▸ F5.baseL
        · simp at ha; subst ha; subst e
          obtain ⟨mm, ⟨o1, _, _, e1, _⟩, _⟩ := F.ns
          rw [hCn] at e1; cases e1
        · simp at ha; subst ha; subst hab
          obtain ⟨w, o2, e2, _⟩ := F.are y a e
          rw [hCn] at e2; cases e2
        · simp at ha; subst ha
          obtain ⟨o1, es, ep, e1, e2, _⟩ := hn5
          exact ⟨o1, e1, fun vs n a b t u v => ⟨(fun q => by subst q; cases e2), (fun q => by subst q; cases e2)⟩⟩
      have k6 : ∀ b o, b ∉ [C] → h5.get? b = some o → h6.get? b = some o := fun b o hb e => (hs6.2 b (by simpa using hb)).trans e
      obtain ⟨H7, F7⟩ := zcy H6 F6 apC k6
      exact oN rfl _ _ _ _ h6 tk5 q5 (xs6.own (own := [C]) (fun a ha => by simp at ha; subst ha; exact hCn) k6) H7 (r6.keepI (zbr apC k6))
  exact zpx hform main (zlq (s := { s with heap := h3, toks := tk1 }) it3 main)
end
end Mine
end
section
namespace Mine
section
variable {c : Cx} {sc : Scope} {d : Nat}
theorem zc8 {scope : Scope} (hkind : sc.kind = .function) {xs : List Str} (hk : ∀ y ∈ xs, scope.names.lookup y = some .local ∨ scope.names.lookup y = some .cell) :
    (∀ y ∈ xs, (relab scope sc).names.lookup y = some .local ∨ (relab scope sc).names.lookup y = some .cell) ∧ ∀ x ∈ xs, scope.names.lookup x ≠ some .free :=
  ⟨fun y hy => by
    rw [zgm hkind]
    rcases hk y hy with h | h <;> rw [h] <;> simp, fun x hx => by rcases hk x hx with h | h <;> rw [h] <;> simp⟩
structure CompForm (c : Cx) (sc : Scope) (d : Nat) (e : Expr) (scope : Scope) (newAcc : Sem Value) (iter : Expr) (m : ME) : Prop where
  run : ∀ {A : Around} {env : Env} {loc : Loc} {φ : Phi} {mh : MH} {s : Shared} {pos : Pos} {use : Option (Value → Sem Unit)} {Q : MV → MH → Prop} {P : Value → Shared → Prop} {E : Value → Shared → Prop},
    Room A d → EnvOk env sc → c.Hp φ mh s.heap → FrR c env loc φ s.heap → m loc Q mh →
    (use = none → Out c φ s Q P) →
    (∀ u, use = some u → ∀ D C mv φ' mh' h' tk, Q mv mh' → Ext φ φ' s.heap h' → c.Hp φ' mh' h' → VR h' φ' (.ref D) mv → s.heap.get? C = none → C ∉ addrs φ' → (∃ m, h'.Ns C m) →
      wpAny c.M A (u (.ref D)) (fun _ s'' => ∃ m, s''.heap.Ns C m ∧ ∀ h', Heap.SameBut C s''.heap h' → P .none { s'' with heap := h' }) E { s with heap := h', toks := tk }) →
    wpAny c.M A (comprehension e scope env pos newAcc false (eval iter env) use) P E s
theorem zo7 {elt tgt iter : Expr} {ifs : List Expr} {scope : Scope} {pos : Pos} {mi : MI} {t : Tgt} {test : MT} {m : ME} {en : Bool}
    (hsc : zbe scope sc = true) (hkind : sc.kind = .function) (hi : SI c sc d iter en mi) (hen : en = false ∨ ∃ es k p, tgt = .Tuple es k p) (htg : tgtOf tgt = some t)
    (hk : ∀ y ∈ t.names, scope.names.lookup y = some .local ∨ scope.names.lookup y = some .cell)
    (hT : TestS c (relab scope sc) d ifs test) (hm : SE c (relab scope sc) d elt m) (hs : ∀ env x, foldedSetIterable iter env x = pure x) :
    CompForm c sc d (.ListComp elt [⟨tgt, iter, ifs, 0⟩] scope pos) scope (newList []) iter (mComp scope mi t test (ciElt m) (.list [])) where
  run := fun hr he H F q oN oU => zl5 (xs := t.names) rfl (.inl ⟨_, _, _, _, _, _, _, rfl⟩) hs zhp (.of hsc) hi hen htg (zc8 hkind hk).1 (fun _ h => h) (zc8 hkind hk).2 hT (zn3 hm)
      (fun _ _ _ => rfl) (fun _ _ _ => rfl) (fun _ _ _ => rfl) (fun I D env => zl6 elt tgt iter ifs scope pos (.ref I) (.ref D) env) hr he H F q oN oU
theorem zo6 {elt t1 i1 t2 i2 : Expr} {ifs1 ifs2 : List Expr} {scope : Scope} {pos : Pos} {mi1 mi2 : MI} {g1 g2 : Tgt} {test1 test2 : MT} {m : ME} {en1 en2 : Bool}
    (hsc : zbe scope sc = true) (hkind : sc.kind = .function) (hi1 : SI c sc d i1 en1 mi1) (hen1 : en1 = false ∨ ∃ es k p, t1 = .Tuple es k p) (htg1 : tgtOf t1 = some g1)
    (hk1 : ∀ y ∈ g1.names, scope.names.lookup y = some .local ∨ scope.names.lookup y = some .cell)
    (hi2 : SI c (relab scope sc) d i2 en2 mi2) (hen2 : en2 = false ∨ ∃ es k p, t2 = .Tuple es k p) (htg2 : tgtOf t2 = some g2)
    (hk2 : ∀ y ∈ g2.names, scope.names.lookup y = some .local ∨ scope.names.lookup y = some .cell)
    (hT1 : TestS c (relab scope sc) d ifs1 test1) (hT2 : TestS c (relab scope sc) d ifs2 test2) (hm : SE c (relab scope sc) d elt m) (hs1 : ∀ env x, foldedSetIterable i1 env x = pure x) (hs2 : ∀ env x, foldedSetIterable i2 env x = pure x) :
    CompForm c sc d (.ListComp elt [⟨t1, i1, ifs1, 0⟩, ⟨t2, i2, ifs2, 0⟩] scope pos) scope (newList []) i1 (mComp scope mi1 g1 test1 (ciNext mi2 g2 test2 (ciElt m)) (.list [])) where
  run := fun hr he H F q oN oU => by
    have hk : ∀ y ∈ g1.names ++ g2.names, scope.names.lookup y = some .local ∨ scope.names.lookup y = some .cell := fun y hy => (List.mem_append.mp hy).elim (hk1 y) (hk2 y)
    exact zl5 (xs := g1.names ++ g2.names) rfl (.inl ⟨_, _, _, _, _, _, _, rfl⟩) hs1 zhp (.of hsc) hi1 hen1 htg1 (zc8 hkind hk1).1 (fun y h => List.mem_append_left _ h) (zc8 hkind hk).2 hT1
      (zqy (elt := elt) (t1 := t1) (i1 := i1) (ifs1 := ifs1) (scope := scope) (pos := pos) hi2 hs2 htg2 (zc8 hkind hk2).1 (fun y h => List.mem_append_right _ h) hen2 hT2 (zn3 hm))
      (fun _ _ _ => rfl) (fun _ _ _ => rfl) (fun _ _ _ => rfl) (fun I D env => zkm elt t1 i1 t2 i2 ifs1 ifs2 scope pos (.ref I) (.ref D) env) hr he H F q oN oU
theorem se_comp {e : Expr} {scope : Scope} {newAcc : Sem Value} {iter : Expr} {m : ME} (hf : CompForm c sc d e scope newAcc iter m) {pos : Env → Pos}
    (he' : ∀ env, eval e env = comprehension e scope env (pos env) newAcc false (eval iter env)) : SE c sc d e m :=
  fun A env loc φ mh s Q P E hr he H F q o => by
    rw [he']
    exact hf.run hr he H F q (fun _ => o) (fun u hu => by cases hu)
theorem zb8 {e : Expr} {scope : Scope} {newAcc : Sem Value} {iter : Expr} {m : ME} {y : Str} {py pos : Pos} (hf : CompForm c sc d e scope newAcc iter m) {ps : Env → Pos}
    (hsw : swapsWith e (some (.Name y py)) pos.line (scEnv sc) = pure true) (hy : sc.names.lookup y = some .local ∨ sc.names.lookup y = some .cell)
    (he' : ∀ env use, evalThenUse e env use = (do let _ ← comprehension e scope env (ps env) newAcc false (eval iter env) (some use); pure ())) :
    SS c sc d (.Assign [.Name y py] e pos) (sAssign m (aName y)) :=
  fun A env loc φ mh s Q P E hr he H F q o => by
    rw [exec_Assign_Name_used _ _ _ _ ((zjw he _ _ _).trans hsw), he']
    refine wpAny_bind (wpAny_standAt (wpAny_bind (wpAny_bind (hf.run (use := some (assign (.Name y py) env)) hr he H F q (fun h => by cases h) ?_))))
    rintro u hu D C mv φ' mh' h' tk q1 x1 H1 r1 hC hC1 ⟨m1, hn1⟩
    cases hu
    have F1 := F.ext H x1
    refine sa_name hy A env loc φ' mh' { s with heap := h', toks := tk } (.ref D) mv _ _ _ hr he H1 F1 r1 q1 fun loc2 φ2 mh2 h2 tk2 q2 x2 H2 F2 => ?_
    have hnotOwn : ¬ ownAt env C := fun ho => by
      have := zan F C ho
      rw [hC] at this; cases this
    have hn2 : h2.Ns C m1 := ns_at hn1 fun o e => x2.keep C o hC1 hnotOwn e
    refine ⟨m1, hn2, fun h3 hs3 => ?_⟩
    have xx : ExtF env φ φ2 s.heap h2 := (x1.toF (zan F)).trans x2
    have hC2 : C ∉ addrs φ2 := fun hq => by
      rcases x2.new C hq with h4 | h4
      · exact hC1 h4
      · obtain ⟨o1, _, _, e1, _⟩ := hn1
        rw [h4] at e1; cases e1
    have apC : Apart c env φ2 h2 [C] := by
      refine ⟨fun a ha => by simp at ha; subst ha; exact hC2, fun a ha => ?_, fun a ha e => ?_, fun a ha y b e hab => ?_, fun a ha => ?_⟩
      · simp at ha; subst ha
        cases e : c.hB.get? a with
        | none => rfl
        | some o => have := H.base a o e; rw [hC] at this; cases this
      · simp at ha; subst ha; subst e
        obtain ⟨mm, ⟨o1, _, _, e1, _⟩, _⟩ := F.ns
        rw [hC] at e1; cases e1
      · simp at ha; subst ha; subst hab
        obtain ⟨w, o2, e2, _⟩ := F.are y a e
        rw [hC] at e2; cases e2
      · simp at ha; subst ha
        obtain ⟨o1, es, ep, e1, e2, _⟩ := hn2
        exact ⟨o1, e1, fun vs n a b t u v => ⟨(fun q => by subst q; cases e2), (fun q => by subst q; cases e2)⟩⟩
    have k3 : ∀ b o, b ∉ [C] → h2.get? b = some o → h3.get? b = some o := fun b o hb e => (hs3.2 b (by simpa using hb)).trans e
    obtain ⟨H3, F3⟩ := zcy H2 F2 apC k3
    exact wpAny_pure (wpAny_pure (o _ _ loc2 φ2 mh2 h3 tk2 q2 .next (xx.its (own := [C]) (fun a ha => by simp at ha; subst ha; exact hC) k3) H3 F3))
end
end Mine
end
section
namespace Mine
noncomputable abbrev MF := List MV → (MV → MH → Prop) → MH → Prop
noncomputable def Keeps2 (c : Cx) (f : Value) : Prop := ∀ h, c.K.In h → ∃ k, (k = Keeper.frame ∨ k = Keeper.machine ∨ k = Keeper.boundFrame) ∧ Looks c.M h (keeperOf f) k
noncomputable def CallV (c : Cx) (d : Nat) (f : Value) (t : MF) : Prop :=
  ∀ (A : Around) (φ : Phi) (mh : MH) (s : Shared) (args : List Value) (margs : List MV) (Q : MV → MH → Prop) (P : Value → Shared → Prop) (E : Value → Shared → Prop),
    Room A d → c.Hp φ mh s.heap → VRs s.heap φ args margs → t margs Q mh → Out c φ s Q P → wpAny c.M A (call f args) P E s
noncomputable def CodeV (c : Cx) (d : Nat) (f : Value) (t : MF) : Prop :=
  ∀ (A : Around) (φ : Phi) (mh : MH) (s : Shared) (args : List Value) (margs : List MV) (Q : MV → MH → Prop) (P : Value → Shared → Prop) (E : Value → Shared → Prop),
    Room A d → c.Hp φ mh s.heap → VRs s.heap φ args margs → t margs Q mh → Out c φ s Q P → codeAny c.M A (.call f ⟨args, []⟩) (fun r s' => match r with | .ok (.ret v) => P v s' | .ok _ => False | .error e => E e s') s
theorem CodeV.call {c : Cx} {d : Nat} {f : Value} {t : MF} (h : CodeV c d f t) : CallV c d f t := fun A φ mh s args margs Q P E hr H ra q o => wpAny_call (h A φ mh s args margs Q P E hr H ra q o)
theorem CodeV.le {c : Cx} {d e : Nat} {f : Value} {t : MF} (h : CodeV c d f t) (hl : d ≤ e) : CodeV c e f t := fun A φ mh s args margs Q P E hr H ra q o => h A φ mh s args margs Q P E (hr.le hl) H ra q o
theorem CodeV.mono {c : Cx} {d : Nat} {f : Value} {t t' : MF} (h : CodeV c d f t) (ht : ∀ a Q mh, t' a Q mh → t a Q mh) : CodeV c d f t' := fun A φ mh s args margs Q P E hr H ra q o => h A φ mh s args margs Q P E hr H ra (ht _ _ _ q) o
theorem ExtF.asW {env : Env} {φ φ' : Phi} {h h' : Heap} (x : ExtF env φ φ' h h') : ExtW (ownAt env) φ φ' h h' := ⟨x.pre, x.new, x.keep, x.own⟩
section
variable {c : Cx} {sc : Scope} {d : Nat}
theorem zas {f : Addr} (h : keepIn c.K (.ref f) = true) : Keeps2 c (.ref f) := fun hp X => keeps_K h hp X
theorem zai {id : String} : Keeps2 c (.builtin id) := fun _ _ => ⟨.machine, .inr (.inl rfl), Looks.of_pure rfl⟩
theorem zal {T : String} : Keeps2 c (.type T) := fun _ _ => ⟨.machine, .inr (.inl rfl), Looks.of_pure rfl⟩
theorem zk0 {es : List Expr} {ms : List ME} (hm : SEs c sc d es ms) (pos : Pos) (env : Env) : (backTo pos (starEach es env)).any (·.1) = false ∧ ∀ e rest, es = e :: rest → ∃ x r, backTo pos (starEach es env) = (false, x) :: r := by
  induction hm with
  | nil => exact ⟨rfl, fun e rest h => by cases h⟩
  | @cons e m es ms h1 h2 h3 ih =>
    rw [h3 env]
    refine ⟨?_, fun e' rest h => ⟨_, _, rfl⟩⟩
    show ((false || (backTo pos (starEach es env)).any (·.1))) = false
    rw [ih.1]; rfl
theorem zd7 {f : Value} {first : List Value} {es : List Expr} {ms : List ME} {pos pos' : Pos} (hk : Keeps2 c f) (hm : SEs c sc d es ms)
    {A : Around} {env : Env} {loc : Loc} {φ : Phi} {mh : MH} {s : Shared} {Q : List MV → MH → Prop} {P : Value → Shared → Prop} {E : Value → Shared → Prop}
    (hr : Room A d) (he : EnvOk env sc) (H : c.Hp φ mh s.heap) (F : FrR c env loc φ s.heap) (q : mList ms loc Q mh)
    (o : ∀ vs mvs φ' mh' h' tk, Q mvs mh' → Ext φ φ' s.heap h' → c.Hp φ' mh' h' → VRs h' φ' vs mvs → wpAny c.M A (call f (first ++ vs)) P E { s with heap := h', toks := tk }) :
    wpAny c.M A (callWith pos f first (backTo pos' (starEach es env)) []) P E s := by
  obtain ⟨h1, h2⟩ := zk0 hm pos' env
  refine callWith_of (P := fun h => c.K.In h) (M := c.M) (by rw [h1]; rfl) hk ?_
  have sp : wpAny c.M A (spliced (backTo pos' (starEach es env))) (fun vs s₁ => c.K.In s₁.heap ∧ wpAny c.M A (call f (first ++ vs)) P E s₁) E s :=
    zdj hm hr he H F q fun vs mvs φ' mh' h' tk q' x H' r => ⟨c.kin.keeps H'.base, o vs mvs φ' mh' h' tk q' x H' r⟩
  cases es with
  | nil =>
    cases hm
    exact evalArgs_nil3 ⟨c.kin.keeps H.base, by simpa using o [] [] φ mh s.heap s.toks q (.refl _ _) H .nil⟩
  | cons e rest =>
    obtain ⟨x, r, hx⟩ := h2 e rest rfl
    rw [hx] at sp ⊢
    exact evalArgs_plain sp
theorem zqr {A : Around} {env : Env} {φ : Phi} {mh : MH} {s : Shared} {x : Str} {pos : Pos} {v : Value} {P : Value → Shared → Prop} {E : Value → Shared → Prop} (he : EnvOk env sc) (H : c.Hp φ mh s.heap)
    (hk : sc.names.lookup x = some .globalImplicit) (hx : nsIn c.K mainGlobals x = some (some v)) (hd : (x == ("__debug__" : Str)) = false) (o : P v s) : wpAny c.M A (eval (.Name x pos) env) P E s := by
  refine Name_function_global (by rw [he.scope]; exact he.kind) (by unfold Env.kindOf; rw [he.scope]; exact hk) (loadGlobal_global (mg := c.mg) ?_ (mg_of c.kin c.g hx) o) hd
  rw [he.globals]; exact ns_at c.g fun o e => H.base _ o e
theorem zbo {A : Around} {env : Env} {φ : Phi} {mh : MH} {s : Shared} {x : Str} {pos : Pos} {v : Value} {P : Value → Shared → Prop} {E : Value → Shared → Prop} (he : EnvOk env sc) (H : c.Hp φ mh s.heap)
    (hk : sc.names.lookup x = some .globalImplicit) (hx : nsIn c.K mainGlobals x = some none) (hv : bootBuiltins x = some v) (hn : x ≠ "__name__") (hd : (x == ("__debug__" : Str)) = false) (o : P v s) :
    wpAny c.M A (eval (.Name x pos) env) P E s := by
  refine Name_function_global (by rw [he.scope]; exact he.kind) (by unfold Env.kindOf; rw [he.scope]; exact hk) (loadGlobal_builtin (mg := c.mg) (mb := c.mb) ?_ (mg_none_of c.kin c.g hx) ?_ ((c.builtins x hn).trans hv) o) hd
  · rw [he.globals]; exact ns_at c.g fun o e => H.base _ o e
  · rw [he.builtins]; exact ns_at c.b fun o e => H.base _ o e
@[reducible] noncomputable def mCall (t : MF) (ms : List ME) : ME := fun loc Q mh => mList ms loc (fun vs mh => t vs Q mh) mh
theorem se_call {x : Str} {np pos : Pos} {es : List Expr} {ms : List ME} {t : MF} {f : Value} (hk : sc.names.lookup x = some .globalImplicit) (hx : nsIn c.K mainGlobals x = some (some f)) (hd : (x == ("__debug__" : Str)) = false)
    (hf : Keeps2 c f) (ht : CallV c d f t) (hm : SEs c sc d es ms) : SE c sc d (.Call (.Name x np) es [] pos) (mCall t ms) :=
  fun A env loc φ mh s Q P E hr he H F q o => wpAny_Call_ofName (zqr he H hk hx hd (zd7 hf hm hr he H F q fun vs mvs φ' mh' h' tk q' x H' r => ht A φ' mh' _ _ _ Q P E hr H' r q' (o.trans x)))
theorem zam {x : Str} {np pos : Pos} {es : List Expr} {ms : List ME} {t : MF} {f : Value} (hk : sc.names.lookup x = some .globalImplicit) (hx : nsIn c.K mainGlobals x = some none) (hv : bootBuiltins x = some f) (hn : x ≠ "__name__") (hd : (x == ("__debug__" : Str)) = false)
    (hf : Keeps2 c f) (ht : CallV c d f t) (hm : SEs c sc d es ms) : SE c sc d (.Call (.Name x np) es [] pos) (mCall t ms) :=
  fun A env loc φ mh s Q P E hr he H F q o => wpAny_Call_ofName (zbo he H hk hx hv hn hd (zd7 hf hm hr he H F q fun vs mvs φ' mh' h' tk q' x H' r => ht A φ' mh' _ _ _ Q P E hr H' r q' (o.trans x)))
noncomputable def methAt (K : Frag) (cl name : Str) : Option Addr := match clsAt K cl with
  | some C => if plainGet K C name then (match findIn K (.ref C) name with
      | some (some (.ref f)) => if isFn K (.ref f) && keepIn K (.ref f) then some f else none
      | _ => none) else none
  | none => none
noncomputable def mMeth (K : Frag) (cl name : Str) (mo : ME) (t : MF) (ms : List ME) : ME := fun loc Q mh => mo loc (fun o mh => ∃ r fs, o = .ref r ∧ mh[r]? = some (.inst cl fs) ∧ fget fs name = none ∧ mList ms loc (fun vs mh => t (o :: vs) Q mh) mh) mh
theorem se_meth {o : Expr} {name cl : Str} {apos pos : Pos} {es : List Expr} {mo : ME} {ms : List ME} {t : MF} {f : Addr} {pl : Env → Sem Bool} (hmo : SE c sc d o mo) (hf : methAt c.K cl name = some f) (ht : CallV c d (.ref f) t) (hm : SEs c sc d es ms)
    (he' : ∀ env, eval (.Call (.Attribute o name apos) es [] pos) env = (do
      let ov ← eval o env
      standAt apos.atName
      let (f, first) ← holding [ov] (getMethod ov name (pl env))
      callWith pos f first (backTo pos (starEach es env)) [])) : SE c sc d (.Call (.Attribute o name apos) es [] pos) (mMeth c.K cl name mo t ms) :=
  fun A env loc φ mh s Q P E hr he H F q ou => by
    rw [he']
    refine wpAny_bind (hmo A env loc φ mh s _ _ E hr he H F q fun ov mv φ1 mh1 h1 tk1 q1 x1 H1 r1 => wpAny_bind (wpAny_standAt (wpAny_bind (wpAny_holding ?_))))
    obtain ⟨r, fs, rfl, em, hsh, q1⟩ := q1
    have r1' := r1
    cases r1 with
    | @ref a1 d1 _ f1 =>
      obtain ⟨d', g1, o1⟩ := H1.deref (.ref f1) em
      cases o1 with
      | @inst _ dx C _ es' n _ hc g2 g3 R =>
        unfold methAt at hf
        rw [hc] at hf
        simp only at hf
        split at hf
        · rename_i hp
          split at hf
          · rename_i f' hfi
            split at hf
            · rename_i hfn
              cases hf
              simp only [Bool.and_eq_true] at hfn
              have X : c.K.In h1 := c.kin.keeps H1.base
              have I : InstAt h1 a1 (instObj C dx) C (some (dictOf es' n)) := ⟨g2, rfl, rfl, g3⟩
              refine method_fn (s := { s with heap := h1, toks := tk1 }) X I (plainGet_of hp).1 (plainGet_of hp).2 hfi (beq_iff_eq.mp hfn.1) (by show (lookIn name (dictOf es' n)).map (·.isSome) = some false; rw [lookIn_dict, R.miss hsh]; rfl) ?_
              refine zd7 (s := { s with heap := h1, toks := tk1 }) (first := [.ref a1]) (zas hfn.2) hm hr he H1 (F.ext H x1) q1 fun vs mvs φ2 mh2 h2 tk2 q2 x2 H2 r2 => ?_
              exact ht A φ2 mh2 { s with heap := h2, toks := tk2 } _ _ Q P E hr H2 (.cons (H1.vr x2 r1') r2) q2 (ou.trans (x1.trans x2))
            · cases hf
          · cases hf
        · cases hf
noncomputable def lstI (k : MV → MH → Prop) (o : MV) (mh : MH) : Prop := ∃ r vs, o = .ref r ∧ mh[r]? = some (.list vs) ∧ k o mh
@[reducible] noncomputable def mMethL (mo : ME) (t : MF) (ms : List ME) : ME := fun loc Q mh => mo loc (lstI fun o mh => mList ms loc (fun vs mh => t (o :: vs) Q mh) mh) mh
theorem zbq {o : Expr} {name : Str} {id : String} {apos pos : Pos} {es : List Expr} {mo : ME} {ms : List ME} {t : MF} {pl : Env → Sem Bool} (hmo : SE c sc d o mo) (slot : Slot "list" name id) (hty : typeOf (.builtin id) = pure (.type "method_descriptor"))
    (ht : CallV c d (.builtin id) t) (hm : SEs c sc d es ms)
    (he' : ∀ env, eval (.Call (.Attribute o name apos) es [] pos) env = (do
      let ov ← eval o env
      standAt apos.atName
      let (f, first) ← holding [ov] (getMethod ov name (pl env))
      callWith pos f first (backTo pos (starEach es env)) [])) : SE c sc d (.Call (.Attribute o name apos) es [] pos) (mMethL mo t ms) :=
  fun A env loc φ mh s Q P E hr he H F q ou => by
    rw [he']
    refine wpAny_bind (hmo A env loc φ mh s _ _ E hr he H F q fun ov mv φ1 mh1 h1 tk1 q1 x1 H1 r1 => wpAny_bind (wpAny_standAt (wpAny_bind (wpAny_holding ?_))))
    obtain ⟨r, vs, rfl, em, q1⟩ := q1
    have r1' := r1
    cases r1 with
    | @ref a1 d1 _ f1 =>
      obtain ⟨d', g1, o1⟩ := H1.deref (.ref f1) em
      obtain ⟨ws, n, _, g, R⟩ := o1.inv_list
      refine getMethod_builtin (s := { s with heap := h1, toks := tk1 }) ⟨_, g, rfl⟩ PySem.F.plainAttrs_list slot hty (fun a e => by cases e; exact ⟨_, g, rfl⟩) ?_
      refine zd7 (s := { s with heap := h1, toks := tk1 }) (first := [.ref a1]) zai hm hr he H1 (F.ext H x1) q1 fun vs mvs φ2 mh2 h2 tk2 q2 x2 H2 r2 => ?_
      exact ht A φ2 mh2 { s with heap := h2, toks := tk2 } _ _ Q P E hr H2 (.cons (H1.vr x2 r1') r2) q2 (ou.trans (x1.trans x2))
end
end Mine
end
section
namespace Mine
theorem VRs.inv_one {h : Heap} {φ : Phi} {ws : List Value} {m : MV} (x : VRs h φ ws [m]) : ∃ v, ws = [v] ∧ VR h φ v m := by
  obtain ⟨v, vs, rfl, a, b⟩ := x.inv_cons
  rw [b.inv_nil]
  exact ⟨v, rfl, a⟩
theorem VRs.inv_two {h : Heap} {φ : Phi} {ws : List Value} {m n : MV} (x : VRs h φ ws [m, n]) : X2 fun v w => N3 (ws = [v, w]) (VR h φ v m) (VR h φ w n) := by
  obtain ⟨v, vs, rfl, a, b⟩ := x.inv_cons
  obtain ⟨w, rfl, z⟩ := b.inv_one
  exact ⟨v, w, rfl, a, z⟩
section
variable {c : Cx} {sc : Scope} {d : Nat}
structure ClOk (c : Cx) (scope : Scope) (cl : List (Str × Addr)) : Prop where
  kind : scope.kind = .function
  nodup : (scope.names.map (·.1)).Nodup
  cells : ∀ x b, cl.lookup x = some b → ∃ o, c.hB.IsCell b o
  inj : ∀ x y b, cl.lookup x = some b → cl.lookup y = some b → x = y
  free : ∀ x, scope.names.lookup x = some .free → (cl.lookup x).isSome = true
noncomputable def fnEnv (scope : Scope) (L : Addr) (cl : List (Str × Addr)) (qual : Str) (f : Addr) (cd : Value) : Env :=
  { scope, locals := L, globals := mainGlobals, cells := cellsFrom (L + 1) scope.names cl, qual, func := some f, code := cd, frame := some L, builtins := builtinsNs }
theorem zny {scope : Scope} {cl : List (Str × Addr)} {qual : Str} {f : Addr} {cd : Value} {φ : Phi} {mh : MH} {h : Heap} (hs : ClOk c scope cl) (H : c.Hp φ mh h) :
    FrR c (fnEnv scope h.objs.size cl qual f cd) (fun _ => none) φ (pushCells (h.push { cls := .type "frame", data := .dict #[] }) scope.names) ∧
    EnvOk (fnEnv scope h.objs.size cl qual f cd) scope ∧
    (∀ b o, h.get? b = some o → (pushCells (h.push { cls := .type "frame", data := .dict #[] }) scope.names).get? b = some o) ∧
    (∀ b, ownAt (fnEnv scope h.objs.size cl qual f cd) b → h.get? b = none) := by
  have hL := Heap.size_push h { cls := .type "frame", data := .dict #[] }
  have k1 : ∀ b o, h.get? b = some o → (pushCells (h.push { cls := .type "frame", data := .dict #[] }) scope.names).get? b = some o := fun b o e => pushCells_keeps _ _ b o (Heap.get?_push_of_some _ e)
  have hdict : (pushCells (h.push { cls := .type "frame", data := .dict #[] }) scope.names).Ns h.objs.size (fun _ => none) := ns_at (Heap.Ns.new ..) fun o e => pushCells_keeps _ _ _ o e
  have ok := cellsFrom_ok scope.names (h.push { cls := .type "frame", data := .dict #[] }) (h.objs.size + 1) [] ⟨fun _ _ hm => by simp at hm, List.Pairwise.nil⟩ (by rw [hL]; exact Nat.le_refl _)
  rw [hL] at ok
  have hcells : (fnEnv scope h.objs.size cl qual f cd).cells = cellsFrom (h.objs.size + 1) scope.names [] ++ cl := zaw _ _ _
  have look : ∀ x, (fnEnv scope h.objs.size cl qual f cd).cells.lookup x = (match (cellsFrom (h.objs.size + 1) scope.names []).lookup x with
      | some a => some a
      | none => cl.lookup x) := by
    intro x
    rw [hcells, List.lookup_append]
    cases (cellsFrom (h.objs.size + 1) scope.names []).lookup x <;> simp
  have ownc : ∀ x a, (cellsFrom (h.objs.size + 1) scope.names []).lookup x = some a → scope.names.lookup x = some .cell ∧ h.objs.size + 1 ≤ a ∧ (pushCells (h.push { cls := .type "frame", data := .dict #[] }) scope.names).IsCell a none := fun x a e => by
    have hm := mem_of_lookup e
    exact ⟨zcd hs.nodup (zby hm), (ok.empty x a hm).2, (ok.empty x a hm).1⟩
  have found : ∀ x b, (fnEnv scope h.objs.size cl qual f cd).cells.lookup x = some b → ((scope.names.lookup x = some .cell ∧ h.objs.size + 1 ≤ b ∧ (cellsFrom (h.objs.size + 1) scope.names []).lookup x = some b) ∨
      ((cellsFrom (h.objs.size + 1) scope.names []).lookup x = none ∧ cl.lookup x = some b)) := fun x b e => by
    rw [look] at e
    split at e
    · rename_i a q
      cases e
      exact .inl ⟨(ownc x _ q).1, (ownc x _ q).2.1, q⟩
    · rename_i q
      exact .inr ⟨q, e⟩
  have lt_old : ∀ x b, cl.lookup x = some b → b < h.objs.size := fun x b e => by
    obtain ⟨w, o, eo, _⟩ := hs.cells x b e
    exact Heap.lt_size (H.base b o eo)
  have noneB : ∀ b, h.objs.size ≤ b → c.hB.get? b = none := fun b hb => by
    cases e : c.hB.get? b with
    | none => rfl
    | some o => exact absurd (Heap.lt_size (H.base b o e)) (Nat.not_lt.mpr hb)
  refine ⟨⟨⟨_, hdict, fun x v e ky => (by cases e)⟩, fun x v e ky => (by cases e), fun x ky => ?_, fun x b e => ?_, zbu H (Nat.le_refl _), fun x b e => ?_, fun x y b e1 e2 => ?_, noneB _ (Nat.le_refl _), fun x b ky e => ?_⟩, ⟨rfl, hs.kind, rfl, rfl⟩, k1, fun b hb => ?_⟩
  · rcases ky with ky | ky
    · have := cellsFrom_some (x := x) scope.names (h.objs.size + 1) [] (.inl ky)
      obtain ⟨a, ha⟩ := Option.isSome_iff_exists.mp this
      rw [look, ha]; rfl
    · rw [look]
      split
      · rfl
      · exact hs.free x ky
  · rcases found x b e with ⟨_, _, q⟩ | ⟨_, q⟩
    · exact ⟨none, (ownc x b q).2.2⟩
    · obtain ⟨o, ob, eo, ed⟩ := hs.cells x b q
      exact ⟨o, ob, k1 _ _ (H.base _ _ eo), ed⟩
  · rcases found x b e with ⟨_, q, _⟩ | ⟨_, q⟩
    · exact zbu H (by omega)
    · intro hq
      obtain ⟨o, ob, eo, _⟩ := hs.cells x b q
      have := (H.off b hq).1
      rw [eo] at this; cases this
  · rcases found x b e1 with ⟨a1, a2, q1⟩ | ⟨a1, q1⟩ <;> rcases found y b e2 with ⟨b1, b2, q2⟩ | ⟨b1, q2⟩
    · exact name_of_addr ok.apart (mem_of_lookup q1) (mem_of_lookup q2)
    · exact absurd (lt_old y b q2) (Nat.not_lt.mpr (Nat.le_of_succ_le a2))
    · exact absurd (lt_old x b q1) (Nat.not_lt.mpr (Nat.le_of_succ_le b2))
    · exact hs.inj x y b q1 q2
  · rcases found x b e with ⟨_, q, _⟩ | ⟨q, _⟩
    · exact noneB _ (by omega)
    · exfalso
      have := cellsFrom_some (x := x) scope.names (h.objs.size + 1) [] (.inl ky)
      rw [q] at this; cases this
  · rcases hb with rfl | ⟨x, ky, e⟩
    · exact fresh_none (Nat.le_refl _)
    · rcases found x b e with ⟨_, q, _⟩ | ⟨q, _⟩
      · exact fresh_none (by omega)
      · exfalso
        have := cellsFrom_some (x := x) scope.names (h.objs.size + 1) [] (.inl ky)
        rw [q] at this; cases this
theorem zim {env : Env} (he : EnvOk env sc) {A : Around} {E : Value → Shared → Prop} {φ : Phi} {mh : MH} (ps : List Str) : ∀ {loc : Loc} {s : Shared} {vs : List Value} {ms : List MV} {P : PUnit → Shared → Prop},
    (∀ x ∈ ps, sc.names.lookup x = some .local ∨ sc.names.lookup x = some .cell) → c.Hp φ mh s.heap → FrR c env loc φ s.heap → VRs s.heap φ vs ms →
    (∀ h' tk, ExtF env φ φ s.heap h' → c.Hp φ mh h' → FrR c env (updAll ps ms loc) φ h' → P PUnit.unit { s with heap := h', toks := tk }) →
    wpAny c.M A (forIn (ps.zip vs) PUnit.unit fun (x : Str × Value) (_ : PUnit) => (storeName env x.1 x.2 >>= fun _ => pure (ForInStep.yield PUnit.unit) : Sem (ForInStep PUnit))) P E s := by
  induction ps with
  | nil =>
    intro loc s vs ms P hk H F r o
    rw [List.zip_nil_left, List.forIn_nil]
    exact wpAny_pure (o s.heap s.toks ((Ext.refl _ _).toF (zan F)) H (by simpa [updAll] using F))
  | cons x ps ih =>
    intro loc s vs ms P hk H F r o
    cases r with
    | nil =>
      rw [List.zip_nil_right, List.forIn_nil]
      exact wpAny_pure (o s.heap s.toks ((Ext.refl _ _).toF (zan F)) H (by simpa [updAll] using F))
    | @cons v vs m ms r rs =>
      rw [List.zip_cons_cons, List.forIn_cons]
      refine wpAny_bind (wpAny_bind (zkv he (hk x (by simp)) H F r fun X h1 tk1 hX k1 x1 H1 F1 => wpAny_pure ?_))
      exact ih (fun y hy => hk y (by simp [hy])) H1 F1 (rs.keepF x1 (mutF H F)) fun h2 tk2 x2 H2 F2 => o h2 tk2 (x1.trans x2) H2 (by simpa [updAll] using F2)
noncomputable def mFun (ps : List Str) (m : MS) : MF := fun ms Q mh => ms.length = ps.length ∧ m (updAll ps ms fun _ => none) (fun fl _ mh => match fl with | .next => Q .none mh | .ret v => Q v mh) mh
structure FnIs (c : Cx) (f : Addr) (qual : Str) (params : Arguments) (body : List Stmt) (scope : Scope) (ps : List Str) (cl : List (Str × Addr)) : Prop where
  obj : ∃ oc od osl fd, c.K.lookup f = some ⟨oc, od, .func fd, osl⟩ ∧ fd.qualname = qual ∧ fd.body = .stmts body ∧ fd.scope = scope ∧ fd.globals = mainGlobals ∧ fd.closure = cl ∧ fd.builtins = builtinsNs ∧ codeIn c.K fd.code fd.qualname = true ∧
    (∀ vs : List Value, vs.length = ps.length → bindArgs fd ⟨vs, []⟩ = pure (ps.zip vs))
  co : scope.isCoroutine = false
  gen : scope.isGenerator = false
  cl : ClOk c scope cl
  ps : ∀ x ∈ ps, scope.names.lookup x = some .local ∨ scope.names.lookup x = some .cell
theorem call_fn {f : Addr} {qual : Str} {params : Arguments} {body : List Stmt} {scope : Scope} {ps : List Str} {cl : List (Str × Addr)} {m : MS} (hf : FnIs c f qual params body scope ps cl) (hb : SB c scope d body m) :
    CodeV c (d + 1) (.ref f) (mFun ps m) :=
  fun A φ mh s args margs Q P E hr H ra q o => by
    obtain ⟨hlen, q⟩ := q
    obtain ⟨oc, od, osl, fd, ho, e1, e2, e3, e4, e5, e6, hcd, hbind⟩ := hf.obj
    have X : c.K.In s.heap := c.kin.keeps H.base
    refine codeAny_call_function (by have := hr.depth; omega) (X _ _ ho) rfl (by rw [e3]; exact hf.co) (by rw [e3]; exact hf.gen) e2 (codeRec_of X hcd) ?_
    rw [hbind args (by rw [ra.length]; exact hlen)]
    refine wpAny_pure ?_
    rw [e3, e4, e5, e6]
    unfold newFunctionEnv
    refine wpAny_bind (wpAny_alloc ?_)
    refine wpAny_bind (wpAny_layCells _ (fun name kind cells => ?_) scope.names cl _ _ ?_)
    · rfl
    · dsimp only
      rw [Heap.size_push]
      obtain ⟨F1, he1, k1, hown⟩ := zny (qual := fd.qualname ++ ".<locals>.") (f := f) (cd := fd.code) hf.cl H
      have x1 : Ext φ φ s.heap (pushCells (s.heap.push { cls := .type "frame", data := .dict #[] }) scope.names) := .of_keep k1
      have H1 := H.keep k1
      refine wpAny_bind ?_
      refine zim (s := { s with heap := pushCells (s.heap.push { cls := .type "frame", data := .dict #[] }) scope.names }) (env := fnEnv scope s.heap.objs.size cl (fd.qualname ++ ".<locals>.") f fd.code) he1 ps hf.ps H1 F1 (H.vrs x1 ra) fun h2 tk2 x2 H2 F2 => ?_
      refine wpAny_pure ⟨c.nolimit.keeps H2.base, codeAny_func ?_⟩
      refine hb (A.deeper (fnEnv scope s.heap.objs.size cl (fd.qualname ++ ".<locals>.") f fd.code)) (fnEnv scope s.heap.objs.size cl (fd.qualname ++ ".<locals>.") f fd.code) _ φ mh { s with heap := h2, toks := tk2 } _ _ _ hr.deeper he1 H2 F2 q
        fun fl ml loc' φ' mh' h' tk' q' r' x' H' F' => ?_
      have xx : Ext φ φ' s.heap h' := x1.thenW ((x2.trans x').asW) hown
      cases r' with
      | next => exact o _ _ φ' mh' h' tk' q' xx H' .none
      | ret r => exact o _ _ φ' mh' h' tk' q' xx H' r
end
end Mine
end
section
namespace Mine
section
variable {c : Cx} {sc : Scope} {d : Nat}
structure ClsIs (c : Cx) (cl : Str) (C fI : Addr) : Prop where
  at_ : clsAt c.K cl = some C
  makes : makesIn c.K C = true
  init : findIn c.K (.ref C) "__init__" = some (some (.ref fI))
  fn : typeIn c.K (.ref fI) = some (.type "function")
  keep : keepIn c.K (.ref C) = true
noncomputable def mNew (cl : Str) (t : MF) : MF := fun args Q mh => t (.ref mh.length :: args) (fun v mh' => v = .none ∧ Q (.ref mh.length) mh') (mh ++ [.inst cl []])
theorem Room.make {A : Around} {C : Addr} {rest : List Value} {kw : List (Str × Value)} (x : Room A (d + 1)) : Room (A.under (.builtin "type.__call__" ⟨.ref C :: rest, kw⟩)) d :=
  ⟨x.handled, by have := x.depth; show A.depth + 1 + 4 * d + 4 < _; omega, by have := x.units; show A.units + 1 + 16 * d + 400 < _; omega⟩
theorem zkn {cl : Str} {C fI : Addr} {t : MF} (hc : ClsIs c cl C fI) (ht : CodeV c d (.ref fI) t) : CodeV c (d + 1) (.ref C) (mNew cl t) :=
  fun A φ mh s args margs Q P E hr H ra q o => by
    have X : c.K.In s.heap := c.kin.keeps H.base
    obtain ⟨h, g, dr, tk, os⟩ := s
    refine make_core (makes_of X hc.makes) (looks_findIn X hc.init) (fun self => bind_fn X self hc.fn) (.inl rfl) ?_
    have k : ∀ b o, h.get? b = some o → ((h.push emptyDict).push (instObj C h.objs.size)).get? b = some o := fun b o e => Heap.get?_push_of_some _ (Heap.get?_push_of_some _ e)
    have hx : ((h.push emptyDict).push (instObj C h.objs.size)).get? (h.objs.size + 1) = some (instObj C h.objs.size) := by heap_get
    have hd : ((h.push emptyDict).push (instObj C h.objs.size)).get? h.objs.size = some emptyDict := by heap_get
    obtain ⟨H1, x1⟩ := H.push (p := (h.objs.size + 1, some h.objs.size)) (o := .inst cl []) H.glob k (fun b hb => by
      rcases hb with rfl | hb
      · exact Nat.le_succ _
      · cases hb; exact Nat.le_refl _) (by simp) (fun φ' e' => .inst (es := []) (n := 0) hc.at_ hx hd .nil)
    have rx : VR ((h.push emptyDict).push (instObj C h.objs.size)) (φ ++ [(h.objs.size + 1, some h.objs.size)]) (.ref (h.objs.size + 1)) (.ref mh.length) := .ref (d := some h.objs.size) (by rw [← H.len]; simp)
    refine codeAny_mono (ht _ _ _ ⟨(h.push emptyDict).push (instObj C h.objs.size), g, dr, tk, os⟩ (.ref (h.objs.size + 1) :: args) (.ref mh.length :: margs) (fun v mh' => v = .none ∧ Q (.ref mh.length) mh')
      (fun v s' => v = .none ∧ P (.ref (h.objs.size + 1)) s') E hr.make H1 (.cons rx (H.vrs x1 ra)) q ?_) ?_
    · rintro v mv φ' mh' h' tk' ⟨rfl, q'⟩ x2 H2 r2
      cases r2
      exact ⟨rfl, o _ _ φ' mh' h' tk' q' (x1.trans x2) H2 (H1.vr x2 rx)⟩
    · intro r s' hh
      rcases r with e | (v | _ | _ | _)
      · exact hh
      all_goals exact hh
end
end Mine
end
section
namespace Mine
section
variable {c : Cx} {sc : Scope} {d : Nat}
theorem big63 {n : Nat} (h : n ≤ BIG) : (n : Int) < 2 ^ 63 := by unfold BIG at h; omega
noncomputable def lenMo (o : Option MO) (Q : MV → MH → Prop) (mh : MH) : Prop := match o with
  | some (.list vs) => vs.length ≤ BIG ∧ Q (.int vs.length) mh
  | some (.idict vs) => vs.length ≤ BIG ∧ Q (.int vs.length) mh
  | _ => False
noncomputable def mLen : MF := fun args Q mh => match args with
  | [.tuple vs] => vs.length ≤ BIG ∧ Q (.int vs.length) mh
  | [.ref r] => lenMo mh[r]? Q mh
  | _ => False
theorem zbz : CallV c d (.builtin "len") mLen := fun A φ mh s args margs Q P E hr H ra q o => by
  rcases args_tr (P := fun l => mLen l Q mh) q id (fun _ => id) (fun _ _ => id) (fun _ _ => id) (fun _ _ => id) (fun _ _ _ => id) (fun _ _ => id) with ⟨vs, r, rfl⟩ | ⟨i, r, rfl⟩
  · obtain rfl := nil_of (P := fun l => mLen (.tuple vs :: l) Q mh) q fun _ _ => id
    obtain ⟨hb, q⟩ := q
    obtain ⟨v, rfl, r⟩ := ra.inv_one
    obtain ⟨a, ws, n, rfl, g, rr⟩ := r.inv_tuple
    refine len_tuple (items := ws.toArray) ⟨_, g, rfl, n, rfl⟩ (by rw [List.size_toArray, rr.length]; exact big63 hb) ?_
    rw [List.size_toArray, rr.length]
    exact o _ _ φ mh s.heap _ q (.refl _ _) H (.int _ _)
  · obtain rfl := nil_of (P := fun l => mLen (.ref i :: l) Q mh) q fun _ _ => id
    obtain ⟨v, rfl, r⟩ := ra.inv_one
    replace q : lenMo mh[i]? Q mh := q
    rcases MO.is_seq (P := fun o => lenMo o Q mh) q id (fun _ => id) (fun _ => id) (fun _ _ => id) with ⟨vs, e⟩ | ⟨ks, e⟩
    · rw [e] at q
      obtain ⟨hb, q⟩ := q
      obtain ⟨a, ws, n, rfl, f2, g, rr⟩ := H.list_at r e
      refine call_len_list (items := ws.toArray) ⟨_, g, rfl, n, rfl⟩ (by rw [List.size_toArray, rr.length]; exact big63 hb) ?_
      rw [List.size_toArray, rr.length]
      exact o _ _ φ mh s.heap _ q (.refl _ _) H (.int _ _)
    · rw [e] at q
      obtain ⟨hb, q⟩ := q
      obtain ⟨a, ks, rfl, f2, g, rr⟩ := H.idict_at r e
      refine call_len_dict (not_sys H (mem_addrs.mpr ⟨_, List.mem_of_getElem? f2, .inl rfl⟩)) g (by rw [rr.length]; exact big63 hb) ?_
      rw [rr.length]
      exact o _ _ φ mh s.heap _ q (.refl _ _) H (.int _ _)
@[reducible] noncomputable def mMax : MF := fun args Q mh => match args with
  | [.int a, .int b] => Q (.int (max a b)) mh
  | _ => False
theorem zsw : CallV c d (.builtin "max") mMax := fun A φ mh s args margs Q P E hr H ra q o => by
  obtain ⟨x, r, rfl⟩ := zej (P := fun l => mMax l Q mh) q id (fun _ => id) (fun _ _ => id) (fun _ _ => id) (fun _ _ => id) (fun _ _ _ => id) (fun _ _ => id) (fun _ _ => id)
  obtain ⟨y, r, rfl⟩ := zej (P := fun l => mMax (.int x :: l) Q mh) q id (fun _ => id) (fun _ _ => id) (fun _ _ => id) (fun _ _ => id) (fun _ _ _ => id) (fun _ _ => id) (fun _ _ => id)
  obtain rfl := nil_of (P := fun l => mMax (.int x :: .int y :: l) Q mh) q fun _ _ => id
  obtain ⟨v1, v2, rfl, r1, r2⟩ := ra.inv_two
  obtain ⟨t, rfl⟩ := r1.inv_int
  obtain ⟨u, rfl⟩ := r2.inv_int
  refine max_two_ints hr.handled fun h' tk k => ?_
  have e : (if y > x then Value.int y u else Value.int x t) = .int (max x y) (if y > x then u else t) := by
    by_cases h : y > x
    · rw [if_pos h, if_pos h]; congr 1; omega
    · rw [if_neg h, if_neg h]; congr 1; omega
  rw [e]
  exact o _ _ φ mh h' tk q (.of_keep k) (H.keep k) (.int _ _)
@[reducible] noncomputable def mMin : MF := fun args Q mh => match args with
  | [.int a, .int b] => Q (.int (min a b)) mh
  | _ => False
theorem zsv : CallV c d (.builtin "min") mMin := fun A φ mh s args margs Q P E hr H ra q o => by
  obtain ⟨x, r, rfl⟩ := zej (P := fun l => mMin l Q mh) q id (fun _ => id) (fun _ _ => id) (fun _ _ => id) (fun _ _ => id) (fun _ _ _ => id) (fun _ _ => id) (fun _ _ => id)
  obtain ⟨y, r, rfl⟩ := zej (P := fun l => mMin (.int x :: l) Q mh) q id (fun _ => id) (fun _ _ => id) (fun _ _ => id) (fun _ _ => id) (fun _ _ _ => id) (fun _ _ => id) (fun _ _ => id)
  obtain rfl := nil_of (P := fun l => mMin (.int x :: .int y :: l) Q mh) q fun _ _ => id
  obtain ⟨v1, v2, rfl, r1, r2⟩ := ra.inv_two
  obtain ⟨t, rfl⟩ := r1.inv_int
  obtain ⟨u, rfl⟩ := r2.inv_int
  refine min_two_ints hr.handled fun h' tk k => ?_
  have e : (if y < x then Value.int y u else Value.int x t) = .int (min x y) (if y < x then u else t) := by
    by_cases h : y < x
    · rw [if_pos h, if_pos h]; congr 1; omega
    · rw [if_neg h, if_neg h]; congr 1; omega
  rw [e]
  exact o _ _ φ mh h' tk q (.of_keep k) (H.keep k) (.int _ _)
@[reducible] noncomputable def mInt : MF := fun args Q mh => match args with
  | [.int a] => Q (.int a) mh
  | _ => False
theorem zsx : CallV c d (.type "int") mInt := fun A φ mh s args margs Q P E hr H ra q o => by
  obtain ⟨x, r, rfl⟩ := zej (P := fun l => mInt l Q mh) q id (fun _ => id) (fun _ _ => id) (fun _ _ => id) (fun _ _ => id) (fun _ _ _ => id) (fun _ _ => id) (fun _ _ => id)
  obtain rfl := nil_of (P := fun l => mInt (.int x :: l) Q mh) q fun _ _ => id
  obtain ⟨_, rfl, r1⟩ := ra.inv_one
  obtain ⟨_, rfl⟩ := r1.inv_int
  exact call_int_int (o.same' H q (.int _ _))
@[reducible] noncomputable def mRange : MF := fun args Q mh => match args with
  | [.int b] => Q (.range 0 b) mh
  | [.int a, .int b] => Q (.range a b) mh
  | _ => False
theorem za5 : CallV c d (.type "range") mRange := fun A φ mh s args margs Q P E hr H ra q o => by
  obtain ⟨x, r, rfl⟩ := zej (P := fun l => mRange l Q mh) q id (fun _ => id) (fun _ _ => id) (fun _ _ => id) (fun _ _ => id) (fun _ _ _ => id) (fun _ _ => id) (fun _ _ => id)
  cases r with
  | nil =>
    obtain ⟨_, rfl, r1⟩ := ra.inv_one
    obtain ⟨t, rfl⟩ := r1.inv_int
    refine call_range_1 ?_
    exact o _ _ φ mh _ _ q (.of_keep (zaj _)) (H.keep (zaj _)) (.range (Heap.get?_push_size _ rfl))
  | cons y r =>
    obtain ⟨y, rfl⟩ := MV.is_int (P := fun v => mRange (.int x :: v :: r) Q mh) q id (fun _ => id) (fun _ => id) (fun _ => id) (fun _ _ => id) (fun _ => id) (fun _ => id)
    obtain rfl := nil_of (P := fun l => mRange (.int x :: .int y :: l) Q mh) q fun _ _ => id
    obtain ⟨_, _, rfl, r1, r2⟩ := ra.inv_two
    obtain ⟨t, rfl⟩ := r1.inv_int
    obtain ⟨u, rfl⟩ := r2.inv_int
    refine call_range_2 ?_
    exact o _ _ φ mh _ _ q (.of_keep (zaj _)) (H.keep (zaj _)) (.range (Heap.get?_push_size _ rfl))
noncomputable def mAppend : MF := fun args Q mh => match args with
  | [.ref r, v] => ∃ vs, mh[r]? = some (.list vs) ∧ vs.length ≤ BIG ∧ Q .none (mh.set r (.list (vs ++ [v])))
  | _ => False
theorem zbf : CallV c d (.builtin "list.append") mAppend := fun A φ mh s args margs Q P E hr H ra q o => by
  obtain ⟨rn, r, rfl⟩ := zkr (P := fun l => mAppend l Q mh) q id (fun _ => id) (fun _ _ => id) (fun _ _ => id) (fun _ _ => id) (fun _ _ => id) (fun _ _ _ => id) (fun _ _ => id)
  obtain ⟨mv, r, rfl⟩ := hd_of (P := fun l => mAppend (.ref rn :: l) Q mh) q id
  obtain rfl := nil_of (P := fun l => mAppend (.ref rn :: mv :: l) Q mh) q fun _ _ => id
  obtain ⟨vs, e, hb, q⟩ := q
  obtain ⟨v0, v, rfl, r, r2⟩ := ra.inv_two
  obtain ⟨a, ws, n, rfl, f2, g, rr⟩ := H.list_at r e
  refine wpAny_list_append_plain (items := ws.toArray) ⟨n, g⟩ (fun h' hp hs => ?_) (by rw [List.size_toArray, rr.length]; exact zay hb)
  obtain ⟨n', g'⟩ := hp
  obtain ⟨H2, x2⟩ := H.update (h' := h') (o := .list (vs ++ [mv])) f2 (zfe hs) (fun hv => .list (n := n') (vs := ws ++ [v]) (by rw [g']; simp [lstObj]) ((VRs.map hv rr).append (.one (hv _ _ r2))))
  exact o _ _ φ _ h' s.toks q x2 H2 .none
theorem zcc (its : Array Value) (n : Nat) (f : Array Value → Array Value) : ∃ n', Obj.mapSeq f { cls := .type "list", data := .seq its n } = { cls := .type "list", data := .seq (f its) n' } := by
  simp [Obj.mapSeq]
noncomputable def mPop : MF := fun args Q mh => match args with
  | [.ref r] => ∃ vs v, mh[r]? = some (.list (vs ++ [v])) ∧ vs.length ≤ BIG ∧ Q v (mh.set r (.list vs))
  | _ => False
theorem zsu : CallV c d (.builtin "list.pop") mPop := fun A φ mh s args margs Q P E hr H ra q o => by
  obtain ⟨rn, r, rfl⟩ := zkr (P := fun l => mPop l Q mh) q id (fun _ => id) (fun _ _ => id) (fun _ _ => id) (fun _ _ => id) (fun _ _ => id) (fun _ _ _ => id) (fun _ _ => id)
  obtain rfl := nil_of (P := fun l => mPop (.ref rn :: l) Q mh) q fun _ _ => id
  obtain ⟨vs, v, e, hb, q⟩ := q
  obtain ⟨v0, rfl, r⟩ := ra.inv_one
  obtain ⟨a, ws, n, rfl, f2, g, rr⟩ := H.list_at r e
  have hl := rr.length
  rw [List.length_append, List.length_singleton] at hl
  obtain ⟨y, ey, ry⟩ := rr.get (k := vs.length) (m := v) (by simp)
  have hsz : ws.toArray.size - 1 = vs.length := by simp [hl]
  refine call_meets PySem.F.slot_list_pop ⟨_, g, rfl⟩ PySem.F.entry_list_pop (PySem.F.args_list_pop_1 _) (MeetsSeq.list_pop_last a ws.toArray n y (by rw [hsz]; simpa using ey) (by rw [List.size_toArray, hl]; have := zay hb; rw [sizeLine_eq] at *; unfold BIG at hb; omega)) ⟨g, ?_⟩
  obtain ⟨n', hn'⟩ := zcc ws.toArray n (fun xs => xs.eraseIdxIfInBounds (ws.toArray.size - 1))
  have ge : (s.heap.update a (Obj.mapSeq fun xs => xs.eraseIdxIfInBounds (ws.toArray.size - 1))).get? a = some (lstObj (ws.take vs.length) n') := by
    rw [Heap.get?_update_self _ g (by unfold lstObj; rw [hn']; rfl)]
    unfold lstObj; rw [hn', hsz]
    congr 3
    have : ws.toArray.eraseIdxIfInBounds vs.length = (ws.eraseIdx vs.length).toArray := by simp
    rw [this]
    congr 1
    have h3 : vs.length + 1 = ws.length := by omega
    rw [List.eraseIdx_eq_take_drop_succ, h3]
    simp
  have rr' : VRs s.heap φ (ws.take vs.length) vs := by
    have := rr.take vs.length
    simpa using this
  obtain ⟨H2, x2⟩ := H.update (h' := s.heap.update a (Obj.mapSeq fun xs => xs.eraseIdxIfInBounds (ws.toArray.size - 1))) (o := .list vs) f2
    (fun b ob hb e => (Heap.get?_update_ne _ _ _ _ (fun q => hb (.inl q))).trans e) (fun hv => .list ge (VRs.map hv rr'))
  exact o _ _ φ _ _ s.toks q x2 H2 (H.vr x2 ry)
end
end Mine
end
section
namespace Mine
structure WalksH (prog : Program) (w : World) (A : Around) (I S : Addr) (fp wr : List Addr) (n : Nat) (P : Nat → Value → Heap → Prop) (St : Nat → Heap → Prop) : Prop where
  sub : ∀ b ∈ wr, b ∈ fp
  frame : ∀ i h h', St i h → (∀ b ∈ fp, ∀ o, h.get? b = some o → h'.get? b = some o) → h.objs.size ≤ h'.objs.size → St i h'
  pk : ∀ i v h h', P i v h → (∀ b o, b ≠ S → b ∉ wr → h.get? b = some o → h'.get? b = some o) → P i v h'
  item : ∀ i (s : Shared) (Q : Option Value → Shared → Prop) (E : Value → Shared → Prop), i < n → St i s.heap →
    (∀ v h' tk, P i v h' → St (i + 1) h' → (∀ b o, b ∉ wr → s.heap.get? b = some o → h'.get? b = some o) → Q (some v) { s with heap := h', toks := tk }) → wpAny (model prog w) A (pyNext (.ref I)) Q E s
  done : ∀ (s : Shared) (Q : Option Value → Shared → Prop) (E : Value → Shared → Prop), St n s.heap →
    (∀ h' tk, (∀ b o, b ∉ wr → s.heap.get? b = some o → h'.get? b = some o) → Q none { s with heap := h', toks := tk }) → wpAny (model prog w) A (pyNext (.ref I)) Q E s
theorem walks_H {prog : Program} {w : World} {A : Around} {I S : Addr} {fp wr : List Addr} {n : Nat} {P : Nat → Value → Prop} {St : Nat → Heap → Prop} (W : Walks prog w A I fp wr n P St) : WalksH prog w A I S fp wr n (fun i v _ => P i v) St :=
  ⟨W.sub, fun i h h' a b _ => W.frame i h h' a b, fun _ _ _ _ p _ => p, W.item, W.done⟩
section
variable {prog : Program} {w : World} {A : Around} {R : Result → Shared → Prop}
theorem zsl {I S : Addr} {fp wr : List Addr} {n : Nat} {P : Nat → Value → Heap → Prop} {St : Nat → Heap → Prop} (W : WalksH prog w A.in1 I S fp wr n P St) (hSf : S ∉ fp) (res : Value) (acc0 : List Value) (hn : acc0.length + n ≤ sizeLine) :
    ∀ (k i : Nat) (s : Shared) (vs : List Value) (c : Nat), n - i = k → i ≤ n → St i s.heap → s.heap.get? S = some (lstObj (acc0 ++ vs) c) → vs.length = i → (∀ j v, vs[j]? = some v → P j v s.heap) →
    (∀ h' tk vs' c', (∀ b o, b ≠ S → b ∉ wr → s.heap.get? b = some o → h'.get? b = some o) → h'.get? S = some (lstObj (acc0 ++ vs') c') → vs'.length = n → (∀ j v, vs'[j]? = some v → P j v h') → R (.ok (.ret res)) { s with heap := h', toks := tk }) →
    codeAny (model prog w) A (.builtin "list.extend.loop" ⟨[.ref S, .ref I, res], []⟩) R s := by
  have hSw : S ∉ wr := fun h => hSf (W.sub _ h)
  intro k
  induction k with
  | zero =>
    intro i s vs c hk hi hst hS hl hP hR
    have hin : i = n := by omega
    subst hin
    refine codeAny_builtin F.entry_extend_loop ?_
    rw [Around.under_plainId F.plain_extend_loop _]
    show wpAny _ A.in1 (pyNext (.ref I) >>= _) _ _ s
    refine wpAny_bind (W.done s _ _ hst fun h' tk hm => ?_)
    exact wpAny_pure (hR h' tk vs c (fun b o _ hb e => hm b o hb e) (hm S _ hSw hS) hl fun j v e => W.pk j v _ _ (hP j v e) fun b o _ hb e => hm b o hb e)
  | succ k ih =>
    intro i s vs c hk hi hst hS hl hP hR
    have hlt : i < n := by omega
    refine codeAny_builtin F.entry_extend_loop ?_
    rw [Around.under_plainId F.plain_extend_loop _]
    show wpAny _ A.in1 (pyNext (.ref I) >>= _) _ _ s
    refine wpAny_bind (W.item i s _ _ hlt hst fun v h1 tk1 hPv hst' hm => ?_)
    have hS' := hm S _ hSw hS
    show wpAny _ A.in1 (updateSeq S (·.push v) >>= _) _ _ _
    obtain ⟨c2, hc2⟩ := zcc (acc0 ++ vs).toArray c (·.push v)
    refine wpAny_bind (wpAny_updateSeq (hz := by simp; omega) hS' rfl (wpAny_pure ⟨plainId_quiet F.plain_extend_loop _, ?_⟩))
    have hS2 : (h1.update S (Obj.mapSeq (·.push v))).get? S = some (lstObj (acc0 ++ (vs ++ [v])) c2) := by
      rw [Heap.get?_update_self _ hS' (by unfold lstObj; rw [hc2]; rfl)]
      unfold lstObj; rw [hc2]
      simp
    have hup := Heap.SameBut.update h1 S (Obj.mapSeq (·.push v))
    have hk2 : ∀ b o, b ≠ S → h1.get? b = some o → (h1.update S (Obj.mapSeq (·.push v))).get? b = some o := fun b o hb e => (Heap.get?_update_ne _ _ _ _ hb).trans e
    refine ih (i + 1) _ (vs ++ [v]) c2 (by omega) hlt (W.frame _ _ _ hst' (fun b hb o e => hk2 b o (fun q => hSf (by rw [← q]; exact hb)) e) (Nat.le_of_eq hup.1.symm)) hS2 (by simp [hl]) (fun j u hj => ?_) fun h' tk vs' c' hk' hS3 hl' hP' => ?_
    · rcases Nat.lt_trichotomy j vs.length with h | h | h
      · exact W.pk _ _ _ _ (W.pk _ _ _ _ (hP j u (by rwa [List.getElem?_append_left h] at hj)) fun b o _ hb e => hm b o hb e) fun b o hb _ e => hk2 b o hb e
      · subst h; simp at hj; subst hj; rw [hl]; exact W.pk _ _ _ _ hPv fun b o hb _ e => hk2 b o hb e
      · have hnone : (vs ++ [v])[j]? = none := List.getElem?_eq_none (by rw [List.length_append, List.length_singleton]; omega)
        rw [hnone] at hj; cases hj
    · exact hR h' tk vs' c' (fun b o hb hw e => hk' b o hb hw (hk2 b o hb (hm b o hw e))) hS3 hl' hP'
noncomputable abbrev zob (prog : Program) (w : World) (A : Around) (R : Result → Shared → Prop) (S : Addr) (acc0 : List Value) (res it : Value) (s2 : Shared) : Prop :=
  X7 fun I fp wr n P St c0 => N7 (it = .ref I) (WalksH prog w A.in1 I S fp wr n P St) (St 0 s2.heap) (S ∉ fp) (s2.heap.get? S = some (lstObj acc0 c0)) (acc0.length + n < sizeLine)
    (∀ h' tk vs' c', (∀ b o, b ≠ S → b ∉ wr → s2.heap.get? b = some o → h'.get? b = some o) → h'.get? S = some (lstObj (acc0 ++ vs') c') → vs'.length = n → (∀ j v, vs'[j]? = some v → P j v h') → R (.ok (.ret res)) { s2 with heap := h', toks := tk })
noncomputable abbrev zq8 (prog : Program) (w : World) (A : Around) (Q : List Value → Shared → Prop) (S : Addr) (it : Value) (s2 : Shared) : Prop :=
  X6 fun I fp wr n P St => N7 (it = .ref I) (WalksH prog w A.in1 I S fp wr n P St) (St 0 s2.heap) (S ∉ fp) (s2.heap.get? S = some (lstObj [] 0)) (n < sizeLine)
    (∀ h' tk vs', (∀ b o, b ≠ S → b ∉ wr → s2.heap.get? b = some o → h'.get? b = some o) → vs'.length = n → (∀ j v, vs'[j]? = some v → P j v h') → Q vs' { s2 with heap := h', toks := tk })
theorem zn0 {s : Shared} {v : Value} {T : String} {S : Addr} {acc0 : List Value} {res : Value} (hT : s.TypeIs v T) (hTl : (Value.type T == Value.type "list") = false) (hTt : (Value.type T == Value.type "tuple") = false)
    (hne : Builtin.List.listSameRef (.ref S) v = false)
    (h : wpAny (model prog w) A.in1 (pyIter v) (fun it s1 => wpAny (model prog w) A.in1 (Builtin.List.listLengthHint v) (fun _ s2 => zob prog w A R S acc0 res it s2) (fun e s' => R (.error e) s') s1) (fun e s' => R (.error e) s') s) :
    wpAny (model prog w) A.in1 (Builtin.List.listExtendWith (.ref S) v res)
      (fun fin s' => match fin with | .done f => R (.ok f) s' | .again c' => c'.quiet = true ∧ codeAny (model prog w) A c' R s') (fun e s' => R (.error e) s') s := by
  unfold Builtin.List.listExtendWith
  refine wpAny_bind (wpAny_typeOf hT ?_)
  simp only [hne, hTl, hTt, Bool.or_false, Bool.false_eq_true, if_false]
  refine wpAny_bind (wpAny_mono h (fun it s1 h1 => wpAny_bind (wpAny_holding (wpAny_mono h1 (fun b s2 h2 => ?_) fun _ _ z => z))) fun _ _ z => z)
  obtain ⟨I, fp, wr, n, P, St, c0, rfl, W, hst, hSf, hS, hn, hR⟩ := h2
  have key : ∀ (h : Heap) (c1 : Nat), St 0 h → h.get? S = some (lstObj acc0 c1) → (∀ b o, b ≠ S → s2.heap.get? b = some o → h.get? b = some o) → codeAny (model prog w) A (.builtin "list.extend.loop" ⟨[.ref S, .ref I, res], []⟩) R { s2 with heap := h } := by
    intro h c1 hst hS1 hk
    refine zsl W hSf res acc0 (Nat.le_of_lt hn) n 0 _ [] c1 rfl (Nat.zero_le _) hst (by simpa using hS1) rfl (by simp) fun h' tk vs' c' hk' hS' hl hP => ?_
    exact hR h' tk vs' c' (fun b o hb hw e => hk' b o hb hw (hk b o hb e)) hS' hl hP
  refine wpAny_ite_split (fun _ => ?_) (fun _ => wpAny_pure ⟨plainId_quiet F.plain_extend_loop _, key _ c0 hst hS (fun b o _ e => e)⟩)
  refine wpAny_bind (wpAny_rule ?_)
  refine wpAny_bind ?_
  show wpAny _ _ (updateSeq S (·.push .none) >>= fun _ => updateSeq S (·.pop)) _ _ _
  obtain ⟨c2, hc2⟩ := zcc acc0.toArray c0 (·.push Value.none)
  refine wpAny_bind (wpAny_updateSeq (hz := by simp; omega) hS rfl ?_)
  have hS2 : (s2.heap.update S (Obj.mapSeq (·.push Value.none))).get? S = some { cls := .type "list", data := .seq (acc0.toArray.push Value.none) c2 } := by
    rw [Heap.get?_update_self _ hS (by unfold lstObj; rw [hc2]; rfl)]
    unfold lstObj; rw [hc2]
  obtain ⟨c3, hc3⟩ := zcc (acc0.toArray.push Value.none) c2 (·.pop)
  refine wpAny_updateSeq (hz := by simp; omega) hS2 rfl ?_
  have hS3 : ((s2.heap.update S (Obj.mapSeq (·.push Value.none))).update S (Obj.mapSeq (·.pop))).get? S = some (lstObj acc0 c3) := by
    rw [Heap.get?_update_self _ hS2 (by rw [hc3]; rfl), hc3]
    simp [lstObj]
  have oth : ∀ b o, b ≠ S → s2.heap.get? b = some o → ((s2.heap.update S (Obj.mapSeq (·.push Value.none))).update S (Obj.mapSeq (·.pop))).get? b = some o := fun b o hb e =>
    (Heap.get?_update_ne _ _ _ _ hb).trans ((Heap.get?_update_ne _ _ _ _ hb).trans e)
  exact wpAny_pure ⟨plainId_quiet F.plain_extend_loop _, key _ c3 (W.frame _ _ _ hst (fun b hb o e => oth b o (fun q => hSf (by rw [← q]; exact hb)) e) (by rw [(Heap.SameBut.update _ _ _).1, (Heap.SameBut.update _ _ _).1]; exact Nat.le_refl _)) hS3 oth⟩
theorem zl7 {s : Shared} {v : Value} {T : String} (hT : s.TypeIs v T) (hTl : (Value.type T == Value.type "list") = false) (hTt : (Value.type T == Value.type "tuple") = false)
    (hv : ∀ a, v = .ref a → a < s.heap.objs.size)
    (h : ∀ s0 : Shared, s0 = { s with heap := s.heap.push (lstObj [] 0) } → wpAny (model prog w) A.in1 (pyIter v) (fun it s1 => wpAny (model prog w) A.in1 (Builtin.List.listLengthHint v) (fun _ s2 => zob prog w A R s.heap.objs.size [] (.ref s.heap.objs.size) it s2) (fun e s' => R (.error e) s') s1) (fun e s' => R (.error e) s') s0) :
    codeAny (model prog w) A (.builtin "proto.collect" ⟨[v], []⟩) R s := by
  refine codeAny_builtin F.entry_proto_collect ?_
  rw [Around.under_plainId F.plain_proto_collect _]
  show wpAny _ A.in1 (newList [] >>= fun l => again (.builtin "list.__iadd__" ⟨[l, v], []⟩)) _ _ s
  refine wpAny_bind (wpAny_newObj_type ?_)
  refine wpAny_pure ⟨plainId_quiet F.plain_list_iadd _, codeAny_builtin F.entry_list_iadd ?_⟩
  rw [Around.under_plainId F.plain_list_iadd _]
  have hk : ∀ b o, s.heap.get? b = some o → (s.heap.push (lstObj [] 0)).get? b = some o := fun b o => Heap.get?_push_of_some _
  have hT' : Shared.TypeIs { s with heap := s.heap.push (lstObj [] 0) } v T := by
    cases v <;> try exact hT
    obtain ⟨o, ho, hc⟩ := hT
    exact ⟨o, hk _ _ ho, hc⟩
  have hne : Builtin.List.listSameRef (.ref s.heap.objs.size) v = false := by
    cases v <;> try rfl
    rename_i a
    have := hv a rfl
    simp [Builtin.List.listSameRef]
    exact Nat.ne_of_gt this
  show wpAny _ A.in1 (Builtin.List.listExtendWith (.ref s.heap.objs.size) v (.ref s.heap.objs.size)) _ _ _
  exact zn0 (acc0 := []) hT' hTl hTt hne (h _ rfl)
theorem zc5 {s : Shared} {v : Value} {T : String} {E : Value → Shared → Prop} {Q : List Value → Shared → Prop} (hT : s.TypeIs v T) (hTl : (Value.type T == Value.type "list") = false) (hTt : (Value.type T == Value.type "tuple") = false)
    (hv : ∀ a, v = .ref a → a < s.heap.objs.size)
    (h : ∀ E', wpAny (model prog w) A.in1 (pyIter v) (fun it s1 => wpAny (model prog w) A.in1 (Builtin.List.listLengthHint v) (fun _ s2 => zq8 prog w A Q s.heap.objs.size it s2) E' s1) E' { s with heap := s.heap.push (lstObj [] 0) }) :
    wpAny (model prog w) A (collect v) Q E s := by
  unfold collect
  refine wpAny_bind (wpAny_runValue (zl7 hT hTl hTt hv ?_))
  rintro s0 rfl
  refine wpAny_mono (h _) (fun it s1 h1 => wpAny_mono h1 (fun b s2 h2 => ?_) fun _ _ z => z) fun _ _ z => z
  obtain ⟨I, fp, wr, n, P, St, rfl, W, hst, hSf, hS, hn, hQ⟩ := h2
  refine ⟨I, fp, wr, n, P, St, 0, rfl, W, hst, hSf, hS, by rw [List.length_nil, Nat.zero_add]; exact hn, fun h' tk vs' c' hk' hS' hl hP => ?_⟩
  show wpAny _ A (load s.heap.objs.size >>= _) _ _ _
  refine wpAny_bind (wpAny_load hS' ?_)
  exact wpAny_pure (hQ h' tk vs' hk' hl hP)
end
end Mine
end
section
namespace Mine
section
variable {c : Cx} {sc : Scope} {d : Nat}
theorem zm1 {its its2 : Array Value} (h : its.size + its2.size ≤ BIG) : ¬(!its.isEmpty && Builtin.List.listTooLong (its.size + its2.size)) = true := by
  have : Builtin.List.listTooLong (its.size + its2.size) = false := by
    simp [Builtin.List.listTooLong, sizeLine]; unfold BIG at h; omega
  rw [this]; simp
theorem VRs.of_get {h : Heap} {φ : Phi} {vs : List Value} : ∀ {ms : List MV}, vs.length = ms.length → (∀ (j : Nat) (v : Value) (m : MV), vs[j]? = some v → ms[j]? = some m → VR h φ v m) → VRs h φ vs ms := by
  induction vs with
  | nil => intro ms hl hv; cases ms with
    | nil => exact .nil
    | cons => simp at hl
  | cons v vs ih => intro ms hl hv; cases ms with
    | nil => simp at hl
    | cons m ms => exact .cons (hv 0 v m rfl rfl) (ih (by simpa using hl) fun j v m h1 h2 => hv (j + 1) v m (by simpa using h1) (by simpa using h2))
theorem zng {A : Around} (hh : A.handled = none) (I : Addr) (a b : Int) : Walks c.prog c.w A I [I] [I] (b - a).toNat (fun i v => ∃ t, v = .int (a + i * 1) t) (fun i h => IsRangeIter h I (a + i * 1) (((b - a).toNat : Nat) - i) 1) :=
  Walks.range hh I a 1 (b - a).toNat
theorem zk6 {h : Heap} {I : Addr} {x y : Int} (e : h.get? I = some { cls := .type "range_iterator", data := .fields #[rawInt x, rawInt ((y - x).toNat : Int), rawInt 1] }) : IsRangeIter h I (x + ((0 : Nat) : Int) * 1) (((y - x).toNat : Nat) - ((0 : Nat) : Int)) 1 := by
  rw [show x + ((0 : Nat) : Int) * 1 = x by omega, show (((y - x).toNat : Nat) : Int) - ((0 : Nat) : Int) = ((y - x).toNat : Int) by omega]; exact e
theorem zff {h : Heap} {φ : Phi} {a b : Int} {vs : List Value} (hl : vs.length = (b - a).toNat) (hP : ∀ (j : Nat) v, vs[j]? = some v → ∃ t, v = Value.int (a + j * 1) t) : VRs h φ vs (rngL a b) := by
  refine VRs.of_get (by rw [hl, zez]) fun j v m e1 e2 => ?_
  obtain ⟨_, rfl⟩ := znh e2
  obtain ⟨t, rfl⟩ := hP j v e1
  rw [Int.mul_one]; exact .int _ _
theorem zkw {A : Around} {s : Shared} {a : Addr} {x y : Int} {t u v : Tok} {Q2 : Addr → Shared → Prop} {E : Value → Shared → Prop} (g : s.heap.get? a = some (rngObj x y t u v)) (hx : SmallI x) (hy : SmallI y) (hb : (y - x).toNat ≤ BIG)
    (o : ∀ tk, Q2 s.heap.objs.size { s with heap := s.heap.push { cls := .type "range_iterator", data := .fields #[rawInt x, rawInt ((y - x).toNat : Int), rawInt 1] }, toks := tk }) :
    wpAny c.M A (pyIter (.ref a)) (fun it s1 => wpAny c.M A (Builtin.List.listLengthHint (.ref a)) (fun _ s2 => ∃ I, it = .ref I ∧ Q2 I s2) E s1) E s := by
  obtain ⟨h3, h4⟩ := zex hx hy
  refine wpAny_pyIter_range (a := x) (b := y) (c := 1) (t := t) (u := u) (v := v) g h3 ?_
  rw [h4]
  refine wpAny_hint_range (n := (y - x).toNat) (Heap.get?_push_of_some _ g) h4 (by unfold BIG at hb; omega) ⟨_, rfl, ?_⟩
  exact o _
noncomputable def mExtend : MF := fun args Q mh => match args with
  | [.ref r, .ref t] => ∃ vs ws, mh[r]? = some (.list vs) ∧ mh[t]? = some (.list ws) ∧ vs.length + ws.length ≤ BIG ∧ Q .none (mh.set r (.list (vs ++ ws)))
  | [.ref r, .range a b] => ∃ vs, mh[r]? = some (.list vs) ∧ SmallI a ∧ SmallI b ∧ vs.length + (b - a).toNat ≤ BIG ∧ Q .none (mh.set r (.list (vs ++ rngL a b)))
  | _ => False
theorem zil : CallV c (d + 1) (.builtin "list.extend") mExtend := fun A φ mh s args margs Q P E hr H ra q o => by
  obtain ⟨rn, r, rfl⟩ := zkr (P := fun l => mExtend l Q mh) q id (fun _ => id) (fun _ _ => id) (fun _ _ => id) (fun _ _ => id) (fun _ _ => id) (fun _ _ _ => id) (fun _ _ => id)
  rcases args_rr (P := fun l => mExtend (.ref rn :: l) Q mh) q id (fun _ => id) (fun _ _ => id) (fun _ _ => id) (fun _ _ => id) (fun _ _ => id) (fun _ _ => id) with ⟨x, y, r, rfl⟩ | ⟨r2, r, rfl⟩
  · obtain rfl := nil_of (P := fun l => mExtend (.ref rn :: .range x y :: l) Q mh) q fun _ _ => id
    obtain ⟨vs, e1, hx, hy, hb, q⟩ := q
    obtain ⟨w1, w2, rfl, r1, r2⟩ := ra.inv_two
    obtain ⟨a1, xs, n, rfl, f3, g1, rr1⟩ := H.list_at r1 e1
    obtain ⟨a2, t, u, v, rfl, g2⟩ := r2.inv_range
    have hne : a1 ≠ a2 := fun hh => by
      subst hh
      have e := g1.symm.trans g2
      simp [lstObj, rngObj] at e
    have hlt : a1 < s.heap.objs.size := Heap.lt_size g1
    refine wpAny_call (codeAny_call_builtin PySem.F.slot_list_extend.plain PySem.F.entry_list_extend (PySem.F.slot_list_extend.check _ _ _ _ _ _ _ _ ⟨_, g1, rfl⟩ (PySem.F.args_list_extend_2 _ _) ?_))
    show wpAny _ A.in1 (Builtin.List.listExtendWith (.ref a1) (.ref a2) .none) _ _ _
    refine zn0 (A := A) (R := fun r s' => match r with | .ok (.ret v) => P v s' | .ok _ => False | .error e => E e s') (v := .ref a2) (S := a1) (acc0 := xs) (T := "range") (show s.TypeIs (.ref a2) "range" from ⟨_, g2, rfl⟩) (by decide) (by decide) (by simp [Builtin.List.listSameRef, hne]) ?_
    refine wpAny_mono (zkw (Q2 := fun I s2 => I = s.heap.objs.size ∧ ∃ tk, s2 = { s with heap := s.heap.push { cls := .type "range_iterator", data := .fields #[rawInt x, rawInt ((y - x).toNat : Int), rawInt 1] }, toks := tk }) g2 hx hy (by omega) fun tk => ⟨rfl, tk, rfl⟩) (fun it s1 h1 => wpAny_mono h1 (fun _ s2 h2 => ?_) fun _ _ z => z) fun _ _ z => z
    obtain ⟨I, rfl, rfl, tk, rfl⟩ := h2
    have k := zaj (h := s.heap) { cls := .type "range_iterator", data := .fields #[rawInt x, rawInt ((y - x).toNat : Int), rawInt 1] }
    have hI := Heap.get?_push_size s.heap (o := { cls := .type "range_iterator", data := .fields #[rawInt x, rawInt ((y - x).toNat : Int), rawInt 1] }) rfl
    refine ⟨s.heap.objs.size, [s.heap.objs.size], [s.heap.objs.size], (y - x).toNat, _, _, n, rfl, walks_H (zng (A := A.in1) hr.handled s.heap.objs.size x y), zk6 hI, by simpa using Nat.ne_of_lt hlt, k _ _ g1, by rw [rr1.length, sizeLine_eq]; unfold BIG at hb; omega, fun h' tk' vs' c' hk hS hl hP => ?_⟩
    obtain ⟨H2, x2⟩ := H.update (h' := h') (o := .list (vs ++ rngL x y)) f3
      (fun b ob hb e => hk b ob (fun q => hb (.inl q)) (by simpa using Nat.ne_of_lt (Heap.lt_size e)) (k _ _ e)) (fun hv => .list hS ((VRs.map hv rr1).append (zff hl hP)))
    exact o _ _ φ _ h' tk' q x2 H2 .none
  · obtain rfl := nil_of (P := fun l => mExtend (.ref rn :: .ref r2 :: l) Q mh) q fun _ _ => id
    obtain ⟨vs, ws, e1, e2, hb, q⟩ := q
    obtain ⟨w1, w2, rfl, r1, r2⟩ := ra.inv_two
    obtain ⟨a1, xs, n, rfl, f3, g1, rr1⟩ := H.list_at r1 e1
    obtain ⟨a2, ys, n2, rfl, f4, g2, rr2⟩ := H.list_at r2 e2
    have hz : xs.toArray.size + ys.toArray.size ≤ BIG := by simp [rr1.length, rr2.length]; omega
    refine call_meets PySem.F.slot_list_extend ⟨_, g1, rfl⟩ PySem.F.entry_list_extend (PySem.F.args_list_extend_2 _ _) (PySem.AutoSeq1.list_extend_list_list_0 a1 xs.toArray n a2 ys.toArray n2 (zm1 hz) (by have := zay hz; omega) (by have := zay hz; omega)) ⟨g1, g2, ?_⟩
    obtain ⟨n', hn'⟩ := zcc xs.toArray n (fun x => x ++ ys.toArray)
    have ge : (s.heap.update a1 (Obj.mapSeq fun x => x ++ ys.toArray)).get? a1 = some (lstObj (xs ++ ys) n') := by
      rw [Heap.get?_update_self _ g1 (by unfold lstObj; rw [hn']; rfl)]
      unfold lstObj; rw [hn']; simp
    obtain ⟨H2, x2⟩ := H.update (h' := s.heap.update a1 (Obj.mapSeq fun x => x ++ ys.toArray)) (o := .list (vs ++ ws)) f3
      (fun b ob hb e => (Heap.get?_update_ne _ _ _ _ (fun q => hb (.inl q))).trans e) (fun hv => .list ge (VRs.map hv (rr1.append rr2)))
    exact o _ _ φ _ _ s.toks q x2 H2 .none
end
end Mine
end
section
namespace Mine
section
variable {c : Cx} {sc : Scope} {d : Nat}
noncomputable def zfs (o : Option MO) (vs : List MV) : Prop := match o with
  | some (.list ws) => vs = ws ∧ ws.length ≤ BIG
  | some (.idict ks) => vs = ks.map (fun p => MV.int p.1) ∧ ks.length ≤ BIG
  | _ => False
noncomputable def zb9 (x : MV) (vs : List MV) (mh : MH) : Prop := match x with
  | .tuple ws => vs = ws ∧ ws.length ≤ BIG
  | .range a b => SmallI a ∧ SmallI b ∧ (b - a).toNat ≤ BIG ∧ vs = rngL a b
  | .ref r => zfs mh[r]? vs
  | _ => False
theorem zd6 {mv : MV} {vs : List MV} {mh : MH} (ok : zb9 mv vs mh) : (mv = .tuple vs ∧ vs.length ≤ BIG) ∨ (∃ a b, mv = .range a b ∧ SmallI a ∧ SmallI b ∧ (b - a).toNat ≤ BIG ∧ vs = rngL a b) ∨
    ∃ r, mv = .ref r ∧ ((mh[r]? = some (.list vs) ∧ vs.length ≤ BIG) ∨ ∃ ks, mh[r]? = some (.idict ks) ∧ ks.length ≤ BIG ∧ vs = ks.map (fun p => MV.int p.1)) := by
  cases mv with
  | tuple ws => obtain ⟨rfl, hb⟩ := ok; exact .inl ⟨rfl, hb⟩
  | range a b => obtain ⟨h1, h2, hb, h3⟩ := ok; exact .inr (.inl ⟨a, b, rfl, h1, h2, hb, h3⟩)
  | ref r =>
    replace ok : zfs mh[r]? vs := ok
    refine .inr (.inr ⟨r, rfl, ?_⟩)
    rcases MO.is_seq (P := fun o => zfs o vs) ok id (fun _ => id) (fun _ => id) (fun _ _ => id) with ⟨ws, e⟩ | ⟨ks, e⟩
    · rw [e] at ok; obtain ⟨rfl, hb⟩ := ok; exact .inl ⟨e, hb⟩
    · rw [e] at ok; obtain ⟨h, hb⟩ := ok; exact .inr ⟨ks, e, hb, h⟩
  | _ => exact False.elim ok
theorem zhc {n : Nat} (h : n ≤ BIG) : n < sizeLine := by rw [sizeLine_eq]; unfold BIG at h; omega
theorem zo2 {A : Around} {φ : Phi} {s : Shared} {Q : List Value → Shared → Prop} {E : Value → Shared → Prop} {a : Addr} {x y : Int} {t u w : Tok} (hh : A.handled = none) (g : s.heap.get? a = some (rngObj x y t u w)) (h1 : SmallI x) (h2 : SmallI y) (hb : (y - x).toNat ≤ BIG)
    (o : ∀ ws h' tk, VRs h' φ ws (rngL x y) → (∀ b ob, s.heap.get? b = some ob → h'.get? b = some ob) → Q ws { s with heap := h', toks := tk }) : wpAny c.M A (collect (.ref a)) Q E s := by
  refine zc5 (T := "range") ⟨_, g, rfl⟩ (by decide) (by decide) (fun b e => by cases e; exact Heap.lt_size g) fun E' => ?_
  have g0 : (s.heap.push (lstObj [] 0)).get? a = some (rngObj x y t u w) := Heap.get?_push_of_some _ g
  refine wpAny_mono (zkw (s := { s with heap := s.heap.push (lstObj [] 0) }) (Q2 := fun I s2 => I = s.heap.objs.size + 1 ∧ ∃ tk, s2 = { s with heap := (s.heap.push (lstObj [] 0)).push { cls := .type "range_iterator", data := .fields #[rawInt x, rawInt ((y - x).toNat : Int), rawInt 1] }, toks := tk }) g0 h1 h2 hb fun tk => ⟨by rw [Heap.size_push], tk, rfl⟩) (fun it s1 h1 => wpAny_mono h1 (fun _ s2 h2 => ?_) fun _ _ z => z) fun _ _ z => z
  obtain ⟨I, rfl, rfl, tk, rfl⟩ := h2
  have hI := Heap.get?_push_size (s.heap.push (lstObj [] 0)) (o := { cls := .type "range_iterator", data := .fields #[rawInt x, rawInt ((y - x).toNat : Int), rawInt 1] }) rfl
  rw [Heap.size_push] at hI
  have k0 := zaj (h := s.heap) (lstObj [] 0)
  have k := zaj (h := s.heap.push (lstObj [] 0)) { cls := .type "range_iterator", data := .fields #[rawInt x, rawInt ((y - x).toNat : Int), rawInt 1] }
  refine ⟨s.heap.objs.size + 1, [s.heap.objs.size + 1], [s.heap.objs.size + 1], (y - x).toNat, _, _, rfl, walks_H (zng (A := A.in1) hh (s.heap.objs.size + 1) x y), zk6 hI, by simp, k _ _ (Heap.get?_push_size _ rfl), zhc hb, fun h' tk' vs' hk hl hP => ?_⟩
  refine o vs' h' tk' (zff hl hP) fun b ob e => ?_
  have hlt := Heap.lt_size e
  exact hk b ob (Nat.ne_of_lt hlt) (by simpa using Nat.ne_of_lt (Nat.lt_succ_of_lt hlt)) (k _ _ (k0 _ _ e))
theorem zo3 {A : Around} {φ : Phi} {s : Shared} {Q : List Value → Shared → Prop} {E : Value → Shared → Prop} {a : Addr} {ks : List (Int × MV)} {kv : List (Int × Value)} (hh : A.handled = none) (hna : (a == sysModules) = false) (D : s.heap.DictOf (intKind c.prog c.w) a kv) (R : KvR s.heap φ kv ks) (hb : ks.length ≤ BIG)
    (o : ∀ ws h' tk, VRs h' φ ws (ks.map (fun p => MV.int p.1)) → (∀ b ob, s.heap.get? b = some ob → h'.get? b = some ob) → Q ws { s with heap := h', toks := tk }) : wpAny c.M A (collect (.ref a)) Q E s := by
  obtain ⟨ob, es, ep, hob, hD⟩ := D
  have hlt : a < s.heap.objs.size := Heap.lt_size hob
  have hT : Shared.TypeIs s (.ref a) "dict" := ⟨_, hob, hD.1.1⟩
  refine zc5 (T := "dict") hT (by decide) (by decide) (fun b e => by cases e; exact hlt) fun E' => ?_
  have k0 := zaj (h := s.heap) (lstObj [] 0)
  have D0 : (s.heap.push (lstObj [] 0)).DictAt (intKind c.prog c.w) a kv ep := ⟨ob, es, k0 _ _ hob, hD⟩
  refine wpAny_pyIter_dict (s := { s with heap := s.heap.push (lstObj [] 0) }) (hna) D0 ?_
  have k := zaj (h := s.heap.push (lstObj [] 0)) { cls := .type "dict_keyiterator", data := .fields #[.ref a, .int 0 0, .int kv.length 0, .int ep 0] }
  have hI := Heap.get?_push_size (s.heap.push (lstObj [] 0)) (o := { cls := .type "dict_keyiterator", data := .fields #[.ref a, .int 0 0, .int kv.length 0, .int ep 0] }) rfl
  refine kdl_hint_dict ⟨ob, k _ _ (k0 _ _ hob), hD.1.1⟩ ?_
  rw [Heap.size_push] at hI
  have hne : a ≠ s.heap.objs.size + 1 := Nat.ne_of_lt (Nat.lt_succ_of_lt hlt)
  refine ⟨s.heap.objs.size + 1, _, _, _, _, _, by rw [Heap.size_push], walks_H (Walks.dictKeys (knd := intKind c.prog c.w) (A := A.in1) hh (s.heap.objs.size + 1) a hne kv ep), ⟨⟨_, hI, rfl, rfl⟩, ⟨ob, es, k _ _ (k0 _ _ hob), hD⟩⟩, by simp; exact (Nat.ne_of_lt hlt).symm, k _ _ (Heap.get?_push_size _ rfl), by rw [R.length]; exact zhc hb, fun h' tk' vs' hk hl hP => ?_⟩
  refine o vs' h' tk' (VRs.of_get (by rw [hl, R.length]; simp) fun j v m e1 e2 => ?_) fun b ob e => ?_
  · obtain ⟨kk, xx, e3, e4⟩ := hP j v e1
    have e5 : (kv.map (·.1))[j]? = some kk := by rw [List.getElem?_map, e3]; rfl
    rw [R.keys] at e5
    rw [show ks.map (fun p => MV.int p.1) = (ks.map (·.1)).map MV.int by simp, List.getElem?_map, e5] at e2
    cases e2
    cases v <;> simp [intKind, Value.isInt] at e4
    subst e4
    exact .int _ _
  · have hlt := Heap.lt_size e
    exact hk b ob (Nat.ne_of_lt hlt) (by simpa using Nat.ne_of_lt (Nat.lt_succ_of_lt hlt)) (k _ _ (k0 _ _ e))
theorem gather {A : Around} {φ : Phi} {mh : MH} {s : Shared} {v : Value} {mv : MV} {vs : List MV} {Q : List Value → Shared → Prop} {E : Value → Shared → Prop} (hh : A.handled = none)
    (H : c.Hp φ mh s.heap) (r : VR s.heap φ v mv) (ok : zb9 mv vs mh)
    (o : ∀ ws h' tk, VRs h' φ ws vs → (∀ b ob, s.heap.get? b = some ob → h'.get? b = some ob) → Q ws { s with heap := h', toks := tk }) : wpAny c.M A (collect v) Q E s := by
  rcases zd6 ok with ⟨rfl, hb⟩ | ⟨x, y, rfl, h1, h2, hb, rfl⟩ | ⟨rn, rfl, ⟨e, hb⟩ | ⟨ks, e, hb, rfl⟩⟩
  · obtain ⟨a, ws, n, rfl, g, rs⟩ := r.inv_tuple
    refine wpAny_collect_seq (T := "tuple") (items := ws.toArray) (hsz := by simpa [rs.length] using zay hb) a (.inr rfl) g rfl rfl fun h' k => ?_
    exact o ws h' s.toks (H.vrs (.of_keep k) rs) k
  · obtain ⟨a, t, u, w, rfl, g⟩ := r.inv_range
    exact zo2 hh g h1 h2 hb o
  · obtain ⟨a, xs, n, rfl, f2, g, rs⟩ := H.list_at r e
    refine wpAny_collect_seq (T := "list") (items := xs.toArray) (hsz := by simpa [rs.length] using zay hb) a (.inl rfl) g rfl rfl fun h' k => ?_
    exact o xs h' s.toks (H.vrs (.of_keep k) rs) k
  · obtain ⟨a, kv, rfl, f2, D, R⟩ := H.idict_at r e
    exact zo3 hh (not_sys H (mem_addrs.mpr ⟨_, List.mem_of_getElem? f2, .inl rfl⟩)) D R hb o
end
end Mine
end
section
namespace Mine
section
variable {c : Cx} {sc : Scope} {d : Nat}
noncomputable def mTupleC : MF := fun args Q mh => match args with
  | [x] => ∃ vs, zb9 x vs mh ∧ Q (.tuple vs) mh
  | _ => False
theorem zdg {A : Around} {φ : Phi} {mh : MH} {s : Shared} {a : Addr} {T : String} {mv : MV} {vs : List MV} {P : Value → Shared → Prop} {E : Value → Shared → Prop} (hh : A.handled = none)
    (hT : s.TypeIs (.ref a) T) (hne : (Value.type T == Value.type "tuple") = false) (hsz : vs.length ≤ BIG) (H : c.Hp φ mh s.heap) (r : VR s.heap φ (.ref a) mv) (ok : zb9 mv vs mh)
    (o : ∀ v h' tk, VR h' φ v (.tuple vs) → (∀ b ob, s.heap.get? b = some ob → h'.get? b = some ob) → P v { s with heap := h', toks := tk }) :
    wpAny c.M A (call (.type "tuple") [.ref a]) P E s := by
  refine callType_codes (Q₁ := fun obj s₁ => s₁.TypeIs obj "tuple" ∧ P obj s₁) PySem.F.called_tuple (PySem.F.typeCall_tuple_1 _) PySem.F.entry_object_init ?_ fun obj s₁ h₁ =>
    ⟨h₁.1, PySem.F.args_object_init_2 obj _, object_init_meets PySem.F.called_tuple.init.lookup PySem.F.called_tuple.made (by decide) c.prog c.w A.in1 _ s₁ ⟨h₁.1, rfl, h₁.2⟩⟩
  refine codeAny_of_tree ?_
  show wpAny _ A.in1.in1 (do checkBuiltinCall "tuple.__new__" ⟨[.type "tuple", .ref a], []⟩; again (.builtin "tuple.__new__" ⟨[.type "tuple", .ref a], []⟩)) _ _ s
  refine wpAny_bind (wpAny_of_eq (PySem.F.newCall_tuple_1 _) (wpAny_pure ⟨plainId_quiet PySem.F.plain_tuple_new _, codeAny_builtin PySem.F.entry_tuple_new ?_⟩))
  rw [Around.under_plainId PySem.F.plain_tuple_new _]
  have hsub := sub_tuple_self
  have hinit := init_tuple_lookup
  have hmh := madeHere_tuple
  have G : ∀ {A' : Around} {Q' : List Value → Shared → Prop} {E' : Value → Shared → Prop}, A'.handled = none → (∀ ws h' tk, VRs h' φ ws vs → (∀ b ob, s.heap.get? b = some ob → h'.get? b = some ob) → Q' ws { s with heap := h', toks := tk }) → wpAny (model c.prog c.w) A' (collect (.ref a)) Q' E' s :=
    fun hh' o' => gather hh' H r ok o'
  wp_walk using wpAny_typeOf hT, G (A' := A.in1.in1) hh
  intro ws h' tk rr k
  show wpAny _ _ (Builtin.Tuple.tupleExact ws.toArray >>= fun v => ret v) _ _ _
  unfold Builtin.Tuple.tupleExact
  refine wpAny_bind (wpAny_newObj_type ?_ (by show ws.toArray.size ≤ sizeLine; simpa [rr.length] using zay hsz))
  have k2 := zaj (h := h') { cls := .type "tuple", data := .seq ws.toArray }
  have g := Heap.get?_push_size h' (o := { cls := .type "tuple", data := .seq ws.toArray }) rfl
  refine wpAny_pure ⟨⟨_, g, rfl⟩, ?_⟩
  exact o _ _ tk (.tuple (n := 0) g ((H.keep k).vrs (.of_keep k2) rr)) fun b ob e => k2 _ _ (k _ _ e)
theorem zlu {mv : MV} {vs : List MV} {mh : MH} (ok : zb9 mv vs mh) : vs.length ≤ BIG := by
  rcases zd6 ok with ⟨rfl, hb⟩ | ⟨x, y, rfl, h1, h2, hb, rfl⟩ | ⟨rn, rfl, ⟨e, hb⟩ | ⟨ks, e, hb, rfl⟩⟩
  · exact hb
  · rw [zez]; exact hb
  · exact hb
  · rw [List.length_map]; exact hb
theorem zct : CallV c (d + 1) (.type "tuple") mTupleC := fun A φ mh s args margs Q P E hr H ra q o => by
  obtain ⟨x, r, rfl⟩ := hd_of (P := fun l => mTupleC l Q mh) q id
  obtain rfl := nil_of (P := fun l => mTupleC (x :: l) Q mh) q fun _ _ => id
  obtain ⟨vs, ok, q⟩ := q
  obtain ⟨w0, rfl, r1⟩ := ra.inv_one
  have hsz := zlu ok
  rcases zd6 ok with ⟨rfl, hb⟩ | ⟨x, y, rfl, h1, h2, hb, rfl⟩ | ⟨rn, rfl, ⟨e, hb⟩ | ⟨ks, e, hb, rfl⟩⟩
  · obtain ⟨a, ws, n, rfl, g, rs⟩ := r1.inv_tuple
    exact call_tuple_same (items := ws.toArray) ⟨_, g, rfl, n, rfl⟩ (o.same' H q r1)
  · obtain ⟨a, t, u, w, rfl, g⟩ := r1.inv_range
    exact zdg (T := "range") hr.handled ⟨_, g, rfl⟩ (by decide) hsz H r1 ok fun v h' tk rv k => o _ _ φ mh h' tk q (.of_keep k) (H.keep k) rv
  · obtain ⟨a, xs, n, rfl, f2, g, rs⟩ := H.list_at r1 e
    refine call_tuple_list (items := xs.toArray) ⟨_, g, rfl, n, rfl⟩ (fun h' k => ?_) (by simpa [rs.length] using zay hb)
    have k3 : ∀ b ob, s.heap.get? b = some ob → (h'.push { cls := .type "tuple", data := .seq xs.toArray }).get? b = some ob := fun b ob e => zaj (h := h') _ _ _ (k _ _ e)
    exact o _ _ φ mh _ _ q (.of_keep k3) (H.keep k3) (.tuple (n := 0) (Heap.get?_push_size h' rfl) (H.vrs (.of_keep k3) rs))
  · obtain ⟨a, kv, rfl, f2, D, R⟩ := H.idict_at r1 e
    obtain ⟨ob, es, ep, hob, hD⟩ := D
    exact zdg (T := "dict") hr.handled ⟨_, hob, hD.1.1⟩ (by decide) hsz H r1 ok fun v h' tk rv k => o _ _ φ mh h' tk q (.of_keep k) (H.keep k) rv
noncomputable def mListC : MF := fun args Q mh => match args with
  | [.range a b] => SmallI a ∧ SmallI b ∧ (b - a).toNat ≤ BIG ∧ Q (.ref mh.length) (mh ++ [.list (rngL a b)])
  | [.ref r] => ∃ vs, mh[r]? = some (.list vs) ∧ vs.length ≤ BIG ∧ Q (.ref mh.length) (mh ++ [.list vs])
  | [.tuple vs] => vs.length ≤ BIG ∧ Q (.ref mh.length) (mh ++ [.list vs])
  | _ => False
theorem zpj : CallV c (d + 1) (.type "list") mListC := fun A φ mh s args margs Q P E hr H ra q o => by
  rcases zsy (P := fun l => mListC l Q mh) q id (fun _ => id) (fun _ _ => id) (fun _ _ => id) (fun _ _ => id) (fun _ _ => id) with ⟨vs, r, rfl⟩ | ⟨x, y, r, rfl⟩ | ⟨rn, r, rfl⟩
  · obtain rfl := nil_of (P := fun l => mListC (.tuple vs :: l) Q mh) q fun _ _ => id
    obtain ⟨hb, q⟩ := q
    obtain ⟨w0, rfl, r1⟩ := ra.inv_one
    obtain ⟨a, xs, n, rfl, g, rs⟩ := r1.inv_tuple
    refine call_list_seq a (T := "tuple") (items := xs.toArray) (.inr rfl) g rfl rfl (fun h' c' k e => ?_) (by simpa [rs.length] using zay hb)
    obtain ⟨H2, x2, r2⟩ := Hp.pushList (c := c) (a := s.heap.objs.size) (vs := xs) (n := c') H k (Nat.le_refl _) e rs
    exact o _ _ _ _ h' s.toks q x2 H2 r2
  · obtain rfl := nil_of (P := fun l => mListC (.range x y :: l) Q mh) q fun _ _ => id
    obtain ⟨h1, h2, hb, q⟩ := q
    obtain ⟨w0, rfl, r1⟩ := ra.inv_one
    obtain ⟨a, t, u, w, rfl, g⟩ := r1.inv_range
    obtain ⟨h3, h4⟩ := zex h1 h2
    refine call_list_range (a := x) (b := y) (c := 1) hr.handled g h3 h4 (by unfold BIG at hb; omega) fun h' tk acc c' k e hacc => ?_
    have rr : VRs h' φ acc.toList (rngL x y) := zff (by rw [Array.length_toList]; exact hacc.1) fun j v hj => hacc.2 j v (by rw [← Array.getElem?_toList]; exact hj)
    obtain ⟨H2, x2, r2⟩ := Hp.pushList (c := c) (a := s.heap.objs.size) (vs := acc.toList) (n := c') (H) k (Nat.le_refl _) (by simpa [lstObj] using e) (ms := rngL x y) (zff (by rw [Array.length_toList]; exact hacc.1) fun j v hj => hacc.2 j v (by rw [← Array.getElem?_toList]; exact hj))
    exact o _ _ _ _ h' tk q x2 H2 r2
  · obtain rfl := nil_of (P := fun l => mListC (.ref rn :: l) Q mh) q fun _ _ => id
    obtain ⟨vs, e, hb, q⟩ := q
    obtain ⟨w0, rfl, r1⟩ := ra.inv_one
    obtain ⟨a, xs, n, rfl, f2, g, rs⟩ := H.list_at r1 e
    refine call_list_seq a (T := "list") (items := xs.toArray) (.inl rfl) g rfl rfl (fun h' c' k e => ?_) (by simpa [rs.length] using zay hb)
    obtain ⟨H2, x2, r2⟩ := Hp.pushList (c := c) (a := s.heap.objs.size) (vs := xs) (n := c') H k (Nat.le_refl _) e rs
    exact o _ _ _ _ h' s.toks q x2 H2 r2
noncomputable def SortedL (ns : List Int) : Prop := ns.Pairwise (· ≤ ·)
noncomputable def mSorted : MF := fun args Q mh => match args with
  | [x] => ∃ is : List Int, zb9 x (is.map .int) mh ∧ is.length < 64 ∧ ∀ ns : List Int, ns.Perm is → SortedL ns → Q (.ref mh.length) (mh ++ [.list (ns.map .int)])
  | _ => False
theorem zik : CallV c (d + 1) (.builtin "sorted") mSorted := fun A φ mh s args margs Q P E hr H ra q o => by
  obtain ⟨x, r, rfl⟩ := hd_of (P := fun l => mSorted l Q mh) q id
  obtain rfl := nil_of (P := fun l => mSorted (x :: l) Q mh) q fun _ _ => id
  obtain ⟨is, ok, h64, q⟩ := q
  obtain ⟨_, rfl, r1⟩ := ra.inv_one
  refine Calls.call_function_entry kind_sorted plain_sorted entry_sorted (args_sorted1 _) ?_
  unfold Builtin.«sorted»
  refine wpAny_bind (m := checkCount "sorted" 1 1 _) (wpAny_pure ?_)
  refine wpAny_bind (gather (c := c) hr.handled H r1 ok fun ws h' tk rr k => ?_)
  have hI := rr.ints
  have hl : ws.length < 64 := by rw [rr.length]; simpa using h64
  refine wpAny_bind (wpAny_newList ?_)
  have k2 := zaj (h := h') (seqObj "list" ws.toArray 0)
  have hoL : (h'.push (seqObj "list" ws.toArray 0)).get? h'.objs.size = some (seqObj "list" ws.toArray 0) := Heap.get?_push_size _ rfl
  refine wpAny_bind (wpAny_holding (wpAny_call_entry slot_list_sort ⟨_, hoL, rfl⟩ entry_list_sort (list_sort_tree hoL hI hl fun out ns' a1 a2 a3 => ⟨_, rfl, ?_⟩) (args_list_sort _)))
  refine wpAny_pure ⟨_, rfl, ?_⟩
  obtain ⟨e, he⟩ := sortedHeap_at (vs := ws) (out := out) hoL
  have k3 : ∀ b ob, h'.get? b = some ob → (sortedHeap (h'.push (seqObj "list" ws.toArray 0)) h'.objs.size ws out).get? b = some ob := fun b ob e1 => by
    have hlt := Heap.lt_size e1
    rw [sortedHeap_old (Nat.ne_of_lt hlt) (by rw [Heap.size_push]; exact Nat.lt_succ_of_lt hlt)]
    exact k2 _ _ e1
  obtain ⟨H2, x2, r2⟩ := Hp.pushList (c := c) (a := h'.objs.size) (vs := out.toList) (n := e) (H.keep k) k3 (Nat.le_refl _) (by simpa [lstObj, seqObj] using he) (VRs.of_ints a1)
  exact o _ _ _ _ _ tk (q ns' a2 a3) ((Ext.of_keep k).trans x2) H2 r2
end
end Mine
end
section
namespace Mine
section
variable {c : Cx} {sc : Scope} {d : Nat}
noncomputable def partM (m : Option ME) : Loc → (Option Int → MH → Prop) → MH → Prop := match m with
  | none => fun _ Q mh => Q none mh
  | some m => fun loc Q mh => m loc (fun v mh => ∃ i : Int, v = .int i ∧ 0 ≤ i ∧ Q (some i) mh) mh
inductive SPart (c : Cx) (sc : Scope) (d : Nat) : Option Expr → Option ME → Prop
  | none : SPart c sc d none none
  | some {e : Expr} {m : ME} : SE c sc d e m → SPart c sc d (some e) (some m)
theorem zja {e : Option Expr} {m : Option ME} (hm : SPart c sc d e m) {A : Around} {env : Env} {loc : Loc} {φ : Phi} {mh : MH} {s : Shared} {Q : Option Int → MH → Prop} {P : Value → Shared → Prop} {E : Value → Shared → Prop}
    (hr : Room A d) (he : EnvOk env sc) (H : c.Hp φ mh s.heap) (F : FrR c env loc φ s.heap) (q : partM m loc Q mh)
    (o : ∀ v i φ' mh' h' tk, Q i mh' → IsPart v i → (∀ k, i = some k → 0 ≤ k) → Ext φ φ' s.heap h' → c.Hp φ' mh' h' → P v { s with heap := h', toks := tk }) : wpAny c.M A (evalPart e env) P E s := by
  cases hm with
  | none => exact wpAny_evalPart_none (o _ _ φ mh s.heap s.toks q .none (fun k hk => by cases hk) (.refl _ _) H)
  | some hm =>
    refine hm A env loc φ mh s _ P E hr he H F q fun v mv φ' mh' h' tk q' x H' r => ?_
    obtain ⟨i, rfl, h0, q'⟩ := q'
    cases r with
    | int _ t => exact o _ _ φ' mh' h' tk q' (.int i t) (fun k hk => by cases hk; exact h0) x H'
noncomputable def cutM (lo hi : Option Int) (vs : List MV) : List MV := match lo, hi with
  | none, none => vs
  | some a, none => vs.drop a.toNat
  | none, some b => vs.take b.toNat
  | some a, some b => (vs.drop a.toNat).take (b - a).toNat
theorem zjz {h : Heap} {φ : Phi} {ws : List Value} {vs : List MV} (r : VRs h φ ws vs) {lo hi : Option Int} (h1 : lo = none ∨ hi = none) (hl : ∀ k, lo = some k → 0 ≤ k) (hu : ∀ k, hi = some k → 0 ≤ k) :
    VRs h φ (slicePick ws.toArray lo hi none).toList (cutM lo hi vs) := by
  cases lo with
  | none =>
    cases hi with
    | none => rw [slicePick_all]; exact r
    | some b =>
      obtain ⟨n, rfl⟩ : ∃ n : Nat, b = n := ⟨b.toNat, by have := hu b rfl; omega⟩
      rw [slicePick_upto' ws.toArray n]
      simpa [cutM] using r.take n
  | some a =>
    obtain ⟨n, rfl⟩ : ∃ n : Nat, a = n := ⟨a.toNat, by have := hl a rfl; omega⟩
    obtain rfl : hi = none := by rcases h1 with h | h; cases h; exact h
    rw [slicePick_from' ws.toArray n]
    simpa [cutM] using r.drop n
noncomputable def mPairs : List (ME × ME) → Loc → (List (MV × MV) → MH → Prop) → MH → Prop
  | [] => fun _ Q mh => Q [] mh
  | (k, v) :: r => fun loc Q mh => k loc (fun kv mh => v loc (fun vv mh => mPairs r loc (fun rest mh => Q ((kv, vv) :: rest) mh) mh) mh) mh
inductive SPs (c : Cx) (sc : Scope) (d : Nat) : List (Option Expr) → List Expr → List (ME × ME) → Prop
  | nil : SPs c sc d [] [] []
  | cons {k v : Expr} {mk mv : ME} {ks : List (Option Expr)} {vs : List Expr} {ms : List (ME × ME)} : SE c sc d k mk → SE c sc d v mv → SPs c sc d ks vs ms → SPs c sc d (some k :: ks) (v :: vs) ((mk, mv) :: ms)
noncomputable def zcx (pos : Pos) (env : Env) : List (Option Expr) → List Expr → List (Sem Value × Sem Value)
  | some k :: ks, v :: vs => (eval k env, do let x ← eval v env; standAt pos; pure x) :: zcx pos env ks vs
  | _, _ => []
theorem zmk {ks : List (Option Expr)} {vs : List Expr} {ms : List (ME × ME)} (hm : SPs c sc d ks vs ms) (pos : Pos) (env : Env) :
    (evalEachOpt ks env).zip ((evalEach vs env).map fun v => do let x ← v; standAt pos; pure x) = (zcx pos env ks vs).map fun p => (some p.1, p.2) := by
  induction hm with
  | nil => rfl
  | cons h1 h2 _ ih => simp only [evalEachOpt, evalEach, List.map_cons, List.zip_cons_cons, zcx]; rw [← ih]; rfl
theorem zk8 {ks : List (Option Expr)} {vs : List Expr} {ms : List (ME × ME)} (hm : SPs c sc d ks vs ms) (pos : Pos) (env : Env) : (zcx pos env ks vs).length = ms.length := by
  induction hm with
  | nil => rfl
  | cons h1 h2 _ ih => simp [zcx, ih]
inductive VP (h : Heap) (φ : Phi) : List (Value × Value) → List (MV × MV) → Prop
  | nil : VP h φ [] []
  | cons {k v : Value} {mk mv : MV} {ks : List (Value × Value)} {ms : List (MV × MV)} : VR h φ k mk → VR h φ v mv → VP h φ ks ms → VP h φ ((k, v) :: ks) ((mk, mv) :: ms)
theorem zmj {ks : List (Option Expr)} {vs : List Expr} {ms : List (ME × ME)} (hm : SPs c sc d ks vs ms) {pos : Pos} {A : Around} {env : Env} (hr : Room A d) (he : EnvOk env sc) : ∀ {loc : Loc} {φ : Phi} {mh : MH} {s : Shared} {Q : List (MV × MV) → MH → Prop} {P : List (Value × Value) → Shared → Prop} {E : Value → Shared → Prop},
    c.Hp φ mh s.heap → FrR c env loc φ s.heap → mPairs ms loc Q mh →
    (∀ vs mvs φ' mh' h' tk, Q mvs mh' → Ext φ φ' s.heap h' → c.Hp φ' mh' h' → VP h' φ' vs mvs → P vs { s with heap := h', toks := tk }) → wpAny c.M A (evalPairs (zcx pos env ks vs)) P E s := by
  induction hm with
  | nil => intro loc φ mh s Q P E H F q o; exact wpAny_pure (o [] [] φ mh s.heap s.toks q (.refl _ _) H .nil)
  | @cons k v mk mv ks vs ms h1 h2 _ ih =>
    intro loc φ mh s Q P E H F q o
    show wpAny _ _ (eval k env >>= fun kv => holding [kv] (do let x ← eval v env; standAt pos; pure x) >>= fun vv => holding [kv, vv] (evalPairs (zcx pos env ks vs)) >>= fun r => pure ((kv, vv) :: r)) _ _ _
    refine wpAny_bind (h1 A env loc φ mh s _ _ E hr he H F q fun kv mkv φ1 mh1 hh1 tk1 q1 x1 H1 r1 => ?_)
    have F1 := F.ext H x1
    refine wpAny_bind (wpAny_holding (wpAny_bind (h2 A env loc φ1 mh1 _ _ _ E hr he H1 F1 q1 fun vv mvv φ2 mh2 hh2 tk2 q2 x2 H2 r2 => wpAny_bind (wpAny_standAt (wpAny_pure ?_)))))
    refine wpAny_bind (wpAny_holding (ih (s := { s with heap := hh2, toks := tk2 }) H2 (F1.ext H1 x2) q2 fun vs mvs φ3 mh3 hh3 tk3 q3 x3 H3 r3 => wpAny_pure ?_))
    exact o _ _ φ3 mh3 hh3 tk3 q3 (x1.trans (x2.trans x3)) H3 (.cons (H2.vr x3 (H1.vr x2 r1)) (H2.vr x3 r2) r3)
noncomputable def mDictI (ps : List (ME × ME)) : ME := fun loc Q mh => mPairs ps loc (fun kvs mh => ∃ ks : List (Int × MV), kvs = ks.map (fun p => (MV.int p.1, p.2)) ∧ (ks.map (·.1)).Nodup ∧ Q (.ref mh.length) (mh ++ [.idict ks])) mh
noncomputable def mDictS (ps : List (ME × ME)) : ME := fun loc Q mh => mPairs ps loc (fun kvs mh => ∃ ks : List (Str × MV), kvs = ks.map (fun p => (MV.str p.1, p.2)) ∧ (ks.map (·.1)).Nodup ∧ Q (.ref mh.length) (mh ++ [.sdict ks])) mh
theorem zjt {K : Type} [DecidableEq K] {knd : KeyKind c.prog c.w K} {mk : K → MV} (hk : ∀ h φ v k, VR h φ v (mk k) → knd.is k v = true) {h : Heap} {φ : Phi} : ∀ {ks : List (K × MV)} {vs : List (Value × Value)}, VP h φ vs (ks.map (fun p => (mk p.1, p.2))) →
    ∃ kvs : List (K × Value), Carries knd vs kvs ∧ KvR h φ kvs ks
  | [], vs, x => by cases x; exact ⟨[], trivial, .nil⟩
  | (k, m) :: ks, vs, x => by
    cases x with
    | cons a b r =>
      obtain ⟨kvs, h1, h2⟩ := zjt hk r
      exact ⟨(k, _) :: kvs, ⟨hk _ _ _ _ a, rfl, h1⟩, .cons b h2⟩
theorem zn4 {K : Type} [DecidableEq K] {knd : KeyKind c.prog c.w K} {mk : K → MV} {mo : List (K × MV) → MO} (hk : ∀ h φ v k, VR h φ v (mk k) → knd.is k v = true)
    (ho : ∀ h φ a ks ms, h.DictOf knd a ks → KvR h φ ks ms → OR c.prog c.w c.K h φ (a, none) (mo ms))
    {ks : List (Option Expr)} {vs : List Expr} {ms : List (ME × ME)} {pos : Pos} (hm : SPs c sc d ks vs ms) (h0 : ms ≠ []) (h1 : ms.length ≤ 15) :
    SE c sc d (.Dict ks vs pos) (fun loc Q mh => mPairs ms loc (fun kvs mh => ∃ ks : List (K × MV), kvs = ks.map (fun p => (mk p.1, p.2)) ∧ (ks.map (·.1)).Nodup ∧ Q (.ref mh.length) (mh ++ [mo ks])) mh) :=
  fun A env loc φ mh s Q P E hr he H F q o => by
    have hl := zk8 hm pos env
    refine wpAny_Dict_pairs (knd := knd) (pairs := zcx pos env ks vs) (zmk hm pos env) (fun e => h0 (List.length_eq_zero_iff.mp (by rw [← hl, e]; rfl))) (by rw [hl]; exact h1) ?_
    have k0 := zaj (h := s.heap) { cls := .type "dict", data := .dict #[] }
    have D0 : (s.heap.push { cls := .type "dict", data := .dict #[] }).DictOf knd s.heap.objs.size [] := Heap.DictOf.new s.heap
    have x0 : Ext φ φ s.heap (s.heap.push { cls := .type "dict", data := .dict #[] }) := .of_keep k0
    refine zmj (s := { s with heap := s.heap.push { cls := .type "dict", data := .dict #[] } }) hm hr he (H.keep k0) (F.ext H x0) q fun ws mvs φ' mh' h' tk q' x H' r => ?_
    obtain ⟨kk, rfl, hn, q'⟩ := q'
    obtain ⟨kvs, hC, hR⟩ := zjt hk r
    have hoff : s.heap.objs.size ∉ addrs φ := zbu H (Nat.le_refl _)
    have g0 := Heap.get?_push_size s.heap (o := { cls := .type "dict", data := .dict #[] }) rfl
    have hoff' : s.heap.objs.size ∉ addrs φ' := fun hq => by
      rcases x.new _ hq with h2 | h2
      · exact hoff h2
      · rw [g0] at h2; cases h2
    have g1 := x.keep _ _ hoff g0
    refine ⟨kvs, hC, D0.at fun o e => x.keep _ o hoff e, fun h2 hD hs => ?_⟩
    have xx := x0.trans x
    have hnone : ∀ a ∈ [s.heap.objs.size], s.heap.get? a = none := fun a ha => by simp at ha; subst ha; exact Mine.fresh_none (Nat.le_refl _)
    have ap : Apart c env φ' h' [s.heap.objs.size] := Apart.of H F fun a ha => ⟨hnone a ha, by simp at ha; subst ha; exact hoff', by simp at ha; subst ha; exact ⟨_, g1, zbt "dict" _ rfl (by decide) (by decide)⟩⟩
    have k : ∀ b ob, b ∉ [s.heap.objs.size] → h'.get? b = some ob → h2.get? b = some ob := fun b ob hb e => (hs.2 b (by simpa using hb)).trans e
    have F' := F.ext H xx
    obtain ⟨H2, F2⟩ := zcy H' F' ap k
    have KI := zbr ap k
    have hkv : kvs.map (·.1) = kk.map (·.1) := hR.keys
    rw [merged_nil_of_nodup kvs (by rw [hkv]; exact hn)] at hD
    obtain ⟨H3, r3⟩ := H2.pushAt hoff' (ap.base _ (by simp)) H.glob (ho _ _ _ _ _ hD (hR.map fun v m r => r.keepI KI))
    exact o _ _ _ _ h2 _ q' ((xx.own hnone k).pushAt (hnone _ (by simp))) H3 r3
theorem zrn {ks : List (Option Expr)} {vs : List Expr} {ms : List (ME × ME)} {pos : Pos} (hm : SPs c sc d ks vs ms) (h0 : ms ≠ []) (h1 : ms.length ≤ 15) : SE c sc d (.Dict ks vs pos) (mDictI ms) :=
  zn4 (knd := intKind c.prog c.w) (mk := .int) (mo := .idict) (fun h φ v k r => by cases r; simp [intKind, Value.isInt]) (fun h φ a ks ms D R => .idict D R) hm h0 h1
theorem zrm {ks : List (Option Expr)} {vs : List Expr} {ms : List (ME × ME)} {pos : Pos} (hm : SPs c sc d ks vs ms) (h0 : ms ≠ []) (h1 : ms.length ≤ 15) : SE c sc d (.Dict ks vs pos) (mDictS ms) :=
  zn4 (knd := PySem.strKind c.prog c.w) (mk := .str) (mo := .sdict) (fun h φ v k r => by cases r; simp [PySem.strKind, Value.isStrOf]) (fun h φ a ks ms D R => .sdict D R) hm h0 h1
noncomputable def mDict0 : ME := fun loc Q mh => Q (.ref mh.length) (mh ++ [.idict []])
theorem zj3 {pos : Pos} : SE c sc d (.Dict [] [] pos) mDict0 :=
  fun A env loc φ mh s Q P E hr he H F q o => by
    refine wpAny_Dict_empty ?_
    have k0 := zaj (h := s.heap) { cls := .type "dict", data := .dict #[] }
    have D0 : (s.heap.push { cls := .type "dict", data := .dict #[] }).DictOf (intKind c.prog c.w) s.heap.objs.size [] := Heap.DictOf.new s.heap
    have hn : s.heap.get? s.heap.objs.size = none := Mine.fresh_none (Nat.le_refl _)
    have hb : c.hB.get? s.heap.objs.size = none := by
      cases e : c.hB.get? s.heap.objs.size with
      | none => rfl
      | some ob => have := H.base _ _ e; rw [hn] at this; cases this
    obtain ⟨H3, r3⟩ := (H.keep k0).pushAt (zbu H (Nat.le_refl _)) hb H.glob (.idict D0 .nil)
    exact o _ _ _ _ _ s.toks q ((Ext.of_keep k0).pushAt hn) H3 r3
end
end Mine
end
section
namespace Mine
noncomputable def Rise (xs : Array Nat) : Prop := xs.toList.Pairwise (· < ·)
theorem Rise.lt {xs : Array Nat} (h : Rise xs) {i j : Nat} (hij : i < j) (hj : j < xs.size) : xs.getD i 0 < xs.getD j 0 := by
  have h1 := List.pairwise_iff_getElem.mp h i j (by simp; omega) (by simpa using hj) hij
  simpa [Array.getD, hj, show i < xs.size by omega] using h1
theorem Rise.le {xs : Array Nat} (h : Rise xs) {i j : Nat} (hij : i ≤ j) (hj : j < xs.size) : xs.getD i 0 ≤ xs.getD j 0 := by
  rcases Nat.lt_or_eq_of_le hij with h1 | h1
  · exact Nat.le_of_lt (h.lt h1 hj)
  · subst h1; exact Nat.le_refl _
structure Below (xs : Array Nat) (j r : Nat) : Prop where
  le : r ≤ xs.size
  lo : ∀ k, k < r → xs.getD k 0 < j
  hi : ∀ k, r ≤ k → k < xs.size → j ≤ xs.getD k 0
theorem zkq {xs : Array Nat} (h : Rise xs) {j : Nat} : ∀ (fuel lo hi : Nat), lo ≤ hi → hi ≤ xs.size → hi - lo ≤ fuel → (∀ k, k < lo → xs.getD k 0 < j) → (∀ k, hi ≤ k → k < xs.size → j ≤ xs.getD k 0) →
    Below xs j (SetTable.below.go xs j fuel lo hi)
  | 0, lo, hi, h1, h2, h3, h4, h5 => by
    have : lo = hi := by omega
    subst this
    exact ⟨h2, h4, h5⟩
  | fuel + 1, lo, hi, h1, h2, h3, h4, h5 => by
    unfold SetTable.below.go
    by_cases hlt : lo < hi
    · rw [if_pos hlt]
      have e : xs.getD ((lo + hi) / 2) j = xs.getD ((lo + hi) / 2) 0 := by simp [Array.getD, show (lo + hi) / 2 < xs.size by omega]
      dsimp only
      rw [e]
      by_cases hm : xs.getD ((lo + hi) / 2) 0 < j
      · rw [if_pos hm]
        exact zkq h fuel _ _ (by omega) h2 (by omega) (fun k hk => Nat.lt_of_le_of_lt (h.le (j := (lo + hi) / 2) (by omega) (by omega)) hm) h5
      · rw [if_neg hm]
        exact zkq h fuel _ _ (by omega) (by omega) (by omega) h4 (fun k hk hk2 => Nat.le_trans (by omega) (h.le (i := (lo + hi) / 2) (by omega) hk2))
    · rw [if_neg hlt]
      have : lo = hi := by omega
      subst this
      exact ⟨h2, h4, h5⟩
theorem zgb {xs : Array Nat} (h : Rise xs) (j : Nat) : Below xs j (SetTable.below xs j) :=
  zkq h xs.size 0 xs.size (Nat.zero_le _) (Nat.le_refl _) (by omega) (fun k hk => by omega) (fun k h1 h2 => by omega)
theorem Below.uniq {xs : Array Nat} {j r r' : Nat} (a : Below xs j r) (b : Below xs j r') : r = r' := by
  rcases Nat.lt_trichotomy r r' with h | h | h
  · have h1 := b.lo r h
    have h2 := a.hi r (Nat.le_refl _) (by have := b.le; omega)
    omega
  · exact h
  · have h1 := a.lo r' h
    have h2 := b.hi r' (Nat.le_refl _) (by have := a.le; omega)
    omega
theorem mem_getD {xs : Array Nat} {j : Nat} : j ∈ xs.toList ↔ ∃ k, k < xs.size ∧ xs.getD k 0 = j := by
  rw [List.mem_iff_getElem]
  constructor
  · rintro ⟨k, hk, e⟩
    have hk' : k < xs.size := by simpa using hk
    exact ⟨k, hk', by simpa [Array.getD, hk'] using e⟩
  · rintro ⟨k, hk, e⟩
    exact ⟨k, by simpa using hk, by simpa [Array.getD, hk] using e⟩
theorem hit_iff {xs : Array Nat} (h : Rise xs) (j : Nat) : xs[SetTable.below xs j]? = some j ↔ j ∈ xs.toList := by
  have b := zgb h j
  rw [mem_getD]
  constructor
  · intro e
    obtain ⟨hk, e'⟩ := Array.getElem?_eq_some_iff.mp e
    exact ⟨_, hk, by simpa [Array.getD, hk] using e'⟩
  · rintro ⟨k, hk, e⟩
    have h1 : k = SetTable.below xs j := by
      rcases Nat.lt_trichotomy k (SetTable.below xs j) with h2 | h2 | h2
      · have := b.lo k h2; omega
      · exact h2
      · have h3 := b.hi (SetTable.below xs j) (Nat.le_refl _) (by omega)
        have h4 := h.lt h2 hk
        omega
    subst h1
    rw [Array.getElem?_eq_getElem hk]
    simpa [Array.getD, hk] using e
theorem zpn {xs : Array Nat} (h : Rise xs) {i : Nat} (hi : i ≤ xs.size) : SetTable.below xs (if i = 0 then 0 else xs.getD (i - 1) 0 + 1) = i := by
  refine (zgb h _).uniq ⟨hi, fun k hk => ?_, fun k h1 h2 => ?_⟩
  · rw [if_neg (by omega)]
    have := h.le (i := k) (j := i - 1) (by omega) (by omega)
    omega
  · by_cases h0 : i = 0
    · rw [if_pos h0]; omega
    · rw [if_neg h0]
      have := h.lt (i := i - 1) (j := k) (by omega) h2
      omega
theorem zmx {xs : Array Nat} (h : Rise xs) {j : Nat} (hj : j ∉ xs.toList) : Rise (SetTable.insertAt xs (SetTable.below xs j) j) := by
  have b := zgb h j
  unfold Rise
  rw [SetTable.toList_insertAt, List.pairwise_append]
  have hn : ∀ k, SetTable.below xs j ≤ k → k < xs.size → j < xs.getD k 0 := fun k h1 h2 => by
    have h3 := b.hi k h1 h2
    rcases Nat.lt_or_eq_of_le h3 with h4 | h4
    · exact h4
    · exact absurd (mem_getD.mpr ⟨k, h2, h4.symm⟩) hj
  have gD : ∀ k (hk : k < xs.toList.length), xs.toList[k] = xs.getD k 0 := fun k hk => by
    have hk' : k < xs.size := by simpa using hk
    simp [Array.getD, hk']
  have hd : ∀ y ∈ xs.toList.drop (SetTable.below xs j), j < y := fun y hy => by
    obtain ⟨k, hk, rfl⟩ := List.mem_iff_getElem.mp hy
    rw [List.getElem_drop, gD]
    have : k < xs.toList.length - SetTable.below xs j := by simpa using hk
    exact hn _ (Nat.le_add_right _ _) (by have h5 : xs.toList.length = xs.size := by simp
                                          omega)
  have ht : ∀ y ∈ xs.toList.take (SetTable.below xs j), y < j := fun y hy => by
    obtain ⟨k, hk, rfl⟩ := List.mem_iff_getElem.mp hy
    rw [List.getElem_take, gD]
    exact b.lo k (by have h5 : k < min (SetTable.below xs j) xs.toList.length := by simpa using hk
                     omega)
  refine ⟨h.sublist (List.take_sublist _ _), List.pairwise_cons.mpr ⟨hd, h.sublist (List.drop_sublist _ _)⟩, fun a ha y hy => ?_⟩
  rcases List.mem_cons.mp hy with rfl | hy
  · exact ht a ha
  · exact Nat.lt_trans (ht a ha) (hd y hy)
noncomputable def STab (led : Bool) (mask moves : Nat) (place : Array Nat) : SetTable := { mask, place, dummies := #[], finger := 0, led, moves, plain := true }
noncomputable def adv (mask : Nat) (p : SetTable.Probe) : SetTable.Probe := (STab true mask 0 #[]).advance p
theorem adv_eq (led : Bool) (mask moves : Nat) (place : Array Nat) (p : SetTable.Probe) : (STab led mask moves place).advance p = adv mask p := rfl
theorem zq7 (mask : Nat) (p : SetTable.Probe) : (adv mask p).dummy = p.dummy := by
  unfold adv SetTable.advance
  split <;> rfl
noncomputable def advN (mask : Nat) : Nat → SetTable.Probe → SetTable.Probe
  | 0, p => p
  | n + 1, p => advN mask n (adv mask p)
theorem slot_eq {led : Bool} {mask moves : Nat} {place : Array Nat} (h : Rise place) (j : Nat) : (j ∈ place.toList ∧ ∃ i, (STab led mask moves place).slot j = .live i) ∨ (j ∉ place.toList ∧ (STab led mask moves place).slot j = .empty) := by
  unfold SetTable.slot
  have hit := hit_iff h j
  by_cases hj : j ∈ place.toList
  · refine .inl ⟨hj, SetTable.below place j, ?_⟩
    simp [STab, hit.mpr hj]
  · refine .inr ⟨hj, ?_⟩
    have hne : ¬ (place[SetTable.below place j]? = some j) := fun e => hj (hit.mp e)
    have h0 : SetTable.has #[] j = false := by simp [SetTable.has, SetTable.below, SetTable.below.go]
    simp [STab, hne, h0]
theorem go_free {led : Bool} {mask moves : Nat} {place : Array Nat} (hr : Rise place) (h : Int) : ∀ (m fuel : Nat) (p : SetTable.Probe), p.dummy = none → m < fuel → (advN mask m p).j ∉ place.toList →
    ∃ j m', m' ≤ m ∧ j = (advN mask m' p).j ∧ j ∉ place.toList ∧ SetTable.probe.go (STab led mask moves place) (fun _ => h + 1) h fuel p = some (.empty j none)
  | m, 0, p, hd, hm, hj => by omega
  | m, fuel + 1, p, hd, hm, hj => by
    unfold SetTable.probe.go
    rcases slot_eq (led := led) (mask := mask) (moves := moves) hr p.j with ⟨h1, i, h2⟩ | ⟨h1, h2⟩
    · rw [h2]
      dsimp only
      have hne : ((h + 1 : Int) == h) = false := by simp; omega
      rw [hne]
      simp only [Bool.false_eq_true, if_false]
      cases m with
      | zero => exact absurd h1 hj
      | succ m =>
        obtain ⟨j, m', e1, e2, e3, e4⟩ := go_free (led := led) (moves := moves) hr h m fuel (adv mask p) (by rw [zq7]; exact hd) (by omega) hj
        exact ⟨j, m' + 1, by omega, e2, e3, by rw [adv_eq]; exact e4⟩
    · rw [h2]
      exact ⟨p.j, 0, Nat.zero_le _, rfl, h1, by dsimp only; rw [hd]⟩
noncomputable def smallInts : List Int := [-4, -3, -2, -1, 0, 1, 2, 3, 4, 5, 6, 7, 8]
noncomputable def walkJs (mask : Nat) : Nat → SetTable.Probe → List Nat
  | 0, p => [p.j]
  | n + 1, p => p.j :: walkJs mask n (adv mask p)
theorem zi5 {mask : Nat} : ∀ {n : Nat} {p : SetTable.Probe} {j : Nat}, j ∈ walkJs mask n p → ∃ m, m ≤ n ∧ j = (advN mask m p).j
  | 0, p, j, h => ⟨0, Nat.le_refl _, by simpa [walkJs, advN] using h⟩
  | n + 1, p, j, h => by
    rcases List.mem_cons.mp h with h | h
    · exact ⟨0, Nat.zero_le _, h⟩
    · obtain ⟨m, h1, h2⟩ := zi5 h
      exact ⟨m + 1, by omega, h2⟩
theorem zi6 {mask : Nat} : ∀ {n m : Nat} {p : SetTable.Probe}, m ≤ n → (advN mask m p).j ∈ walkJs mask n p
  | 0, 0, p, h => by simp [walkJs, advN]
  | n + 1, 0, p, h => by simp [walkJs, advN]
  | n + 1, m + 1, p, h => List.mem_cons_of_mem _ (zi6 (by omega))
theorem walk7 : (smallInts.all fun x => (List.range 8).all (fun j => (walkJs 7 40 ((STab true 7 0 #[]).probeStart (hashInt x))).contains j) && (walkJs 7 40 ((STab true 7 0 #[]).probeStart (hashInt x))).all (· < 8)) = true := by decide +kernel
structure GoodT (led : Bool) (t : SetTable) (n : Nat) : Prop where
  eq : t = STab led 7 0 t.place
  rise : Rise t.place
  lt : ∀ j ∈ t.place.toList, j < 8
  size : t.place.size = n
  few : n ≤ 4
theorem zc0 {α : Type} [DecidableEq α] : ∀ {l ys : List α}, l.Nodup → (∀ x ∈ l, x ∈ ys) → l.length ≤ ys.length
  | [], ys, _, _ => Nat.zero_le _
  | a :: l, ys, hn, h => by
    obtain ⟨h1, h2⟩ := List.nodup_cons.mp hn
    have ha := h a (.head _)
    have := zc0 (l := l) (ys := ys.erase a) h2 fun x hx => (List.mem_erase_of_ne (show x ≠ a from fun e => h1 (by rw [← e]; exact hx))).mpr (h x (.tail _ hx))
    rw [List.length_erase_of_mem ha] at this
    have : 0 < ys.length := List.length_pos_of_mem ha
    simp; omega
theorem zm2 {xs : List Nat} (h : xs.length < 8) : ∃ j, j < 8 ∧ j ∉ xs := by
  refine Classical.byContradiction fun hn => ?_
  have h1 : ∀ j ∈ List.range 8, j ∈ xs := fun j hj => Classical.byContradiction fun h2 => hn ⟨j, List.mem_range.mp hj, h2⟩
  have := zc0 List.nodup_range h1
  simp at this; omega
theorem zqu {led : Bool} {t : SetTable} {n : Nat} {x : Int} (g : GoodT led t n) (hx : x ∈ smallInts) : ∃ j, j < 8 ∧ j ∉ t.place.toList ∧ t.freeSlot (hashInt x) = some (j, false) := by
  have h1 := List.all_eq_true.mp walk7 x hx
  simp only [Bool.and_eq_true] at h1
  obtain ⟨h1, h2⟩ := h1
  obtain ⟨j0, h3, h4⟩ := zm2 (xs := t.place.toList) (by have := g.size; have := g.few; rw [Array.length_toList]; omega)
  have h5 := List.contains_iff_mem.mp (List.all_eq_true.mp h1 j0 (List.mem_range.mpr h3))
  obtain ⟨m, h6, h7⟩ := zi5 h5
  have hp : t.probeStart (hashInt x) = (STab true 7 0 #[]).probeStart (hashInt x) := by rw [g.eq]; rfl
  obtain ⟨j, m', e1, e2, e3, e4⟩ := go_free (led := led) (mask := 7) (moves := 0) g.rise (hashInt x) m 220 (t.probeStart (hashInt x)) rfl (by omega) (by rw [hp, ← h7]; exact h4)
  refine ⟨j, ?_, e3, ?_⟩
  · have := List.all_eq_true.mp h2 j (by rw [e2, hp]; exact zi6 (by omega))
    simpa using this
  · unfold SetTable.freeSlot SetTable.probe
    have e5 : 10 * SetTable.turns t.mask = 220 := by rw [g.eq]; rfl
    rw [e5]
    rw [← g.eq] at e4
    rw [e4]; rfl
theorem zr7 {led : Bool} {t : SetTable} {n : Nat} {es : Array (Int × Value)} {x : Int} {v : Value} (g : GoodT led t n) (hn : n < 4) (hx : x ∈ smallInts) (he : es.size = n) :
    ∃ es' t', layNew t es (hashInt x) v = (es', t', false, false) ∧ GoodT led t' (n + 1) ∧ t'.tooFull = false ∧ t'.plain = true := by
  obtain ⟨j, h1, h2, h3⟩ := zqu g hx
  unfold layNew
  rw [h3]
  dsimp only
  have hput : t.put j = (STab led 7 0 (SetTable.insertAt t.place (SetTable.below t.place j) j), SetTable.below t.place j) := by
    have h0 : SetTable.has #[] j = false := by simp [SetTable.has, SetTable.below, SetTable.below.go]
    rw [g.eq]
    unfold SetTable.put STab
    simp [h0]
  rw [hput]
  dsimp only
  have hsz : (SetTable.insertAt es (SetTable.below t.place j) (hashInt x, v)).size = n + 1 := by
    have := (SetTable.insertAt_perm es (SetTable.below t.place j) (hashInt x, v)).length_eq
    simpa [he] using this
  have hp := SetTable.insertAt_perm t.place (SetTable.below t.place j) j
  have hps : (SetTable.insertAt t.place (SetTable.below t.place j) j).size = n + 1 := by
    have := hp.length_eq
    simpa [g.size] using this
  rw [hsz]
  have h6 : (STab led 7 0 (SetTable.insertAt t.place (SetTable.below t.place j) j)).fits (n + 1) = true := by
    simp [SetTable.fits, STab, SetTable.fill, hps]; omega
  refine ⟨_, STab led 7 0 (SetTable.insertAt t.place (SetTable.below t.place j) j), Prod.ext rfl (Prod.ext ?_ (Prod.ext rfl ?_)), ⟨rfl, zmx g.rise h2, fun k hk => ?_, hps, by omega⟩, ?_, rfl⟩
  · show SetTable.orStandIn _ _ = _
    unfold SetTable.orStandIn
    rw [if_pos h6]
  · show (!_) = false
    rw [h6]; rfl
  · have := hp.mem_iff.mp hk
    simp at this
    rcases this with h7 | rfl
    · exact g.lt k (by simpa using h7)
    · exact h1
  · unfold SetTable.tooFull SetTable.fill STab
    simp only [hps]
    simp; omega
theorem GoodT.fits {led : Bool} {t : SetTable} {n : Nat} (g : GoodT led t n) : t.fits n = true := by
  have h1 := g.size
  have h2 := g.few
  rw [g.eq]
  simp [SetTable.fits, STab, SetTable.fill]; omega
theorem GoodT.led {led : Bool} {t : SetTable} {n : Nat} (g : GoodT led t n) : t.led = led := by rw [g.eq]; rfl
theorem GoodT.plain {led : Bool} {t : SetTable} {n : Nat} (g : GoodT led t n) : t.plain = true := by rw [g.eq]; rfl
theorem GoodT.fresh (led : Bool) : GoodT led (.fresh 0 0 led) 0 := ⟨rfl, List.Pairwise.nil, fun j hj => by simp [SetTable.fresh] at hj, rfl, by omega⟩
theorem List.getElem_cons_eraseIdx_perm' {α : Type} : ∀ {l : List α} {i : Nat} (h : i < l.length), (l[i] :: l.eraseIdx i).Perm l
  | a :: l, 0, h => by simp
  | a :: l, i + 1, h => by
    have h' : i < l.length := by simpa using h
    simp only [List.getElem_cons_succ, List.eraseIdx_cons_succ]
    exact (List.Perm.swap _ _ _).trans ((List.getElem_cons_eraseIdx_perm' h').cons a)
theorem zhn {α : Type} (next : Nat → Nat) : ∀ (n k : Nat) (left : List α) (out : Array α), left.length ≤ n → (pickOrder.go next n k left out).toList.Perm (out.toList ++ left)
  | 0, k, left, out, h => by
    have : left = [] := List.length_eq_zero_iff.mp (by omega)
    subst this
    simp [pickOrder.go]
  | n + 1, k, left, out, h => by
    unfold pickOrder.go
    cases left with
    | nil => simp
    | cons a left =>
      have hl : next k % (a :: left).length < (a :: left).length := Nat.mod_lt _ (by simp)
      rw [List.getElem?_eq_getElem hl]
      dsimp only
      refine (zhn next n (k + 1) _ _ (by rw [List.length_eraseIdx_of_lt hl]; omega)).trans ?_
      rw [Array.toList_push, List.append_assoc]
      refine List.Perm.append_left _ ?_
      exact List.getElem_cons_eraseIdx_perm' hl
theorem zis {α : Type} (next : Nat → Nat) (xs : Array α) : (pickOrder next xs).toList.Perm xs.toList := by
  have := zhn next xs.size 0 xs.toList #[] (by simp)
  simpa [pickOrder] using this
end Mine
end
section
namespace Mine
noncomputable def keyE (e : Int × Value) : Int := match e.2 with
  | .int k _ => k
  | _ => 0
noncomputable def setObj (es : Array (Int × Value)) (ep : Nat) (t : SetTable) : Obj := { cls := .type "set", dict := none, data := .set es ep t, slots := #[] }
noncomputable def IntE (e : Int × Value) : Prop := ∃ k tok, e = (hashInt k, .int k tok)
structure SetAt (w : World) (h : Heap) (a : Addr) (es : Array (Int × Value)) (ep : Nat) (t : SetTable) (led : Bool) : Prop where
  get : h.get? a = some (setObj es ep t)
  elts : ∀ e ∈ es.toList, IntE e
  nodup : (es.toList.map keyE).Nodup
  good : GoodT led t es.size
  order : led = true ∨ w.params.followText "set-order" = true
section
variable {c : Cx} {sc : Scope} {d : Nat}
theorem IntE.elems {w : World} {es : Array (Int × Value)} (h : ∀ e ∈ es.toList, IntE e) : ElemsOf (intKind c.prog w) es.toList := fun e he => by
  obtain ⟨k, tok, rfl⟩ := h e he
  exact ⟨⟨k, by simp [intKind, Value.isInt], rfl⟩, rfl⟩
theorem SetAt.at {w : World} {h h' : Heap} {a : Addr} {es : Array (Int × Value)} {ep : Nat} {t : SetTable} {led : Bool} (x : SetAt w h a es ep t led) (e : ∀ o, h.get? a = some o → h'.get? a = some o) : SetAt w h' a es ep t led :=
  ⟨e _ x.get, x.elts, x.nodup, x.good, x.order⟩
theorem set_add {A : Around} {s : Shared} {S : Addr} {es : Array (Int × Value)} {ep : Nat} {t : SetTable} {led : Bool} {k : Int} {tok : Tok} {Q : Bool → Shared → Prop} {E : Value → Shared → Prop} (X : SetAt c.w s.heap S es ep t led) (hk : k ∈ smallInts)
    (hroom : k ∈ es.toList.map keyE ∨ es.size < 4)
    (o : ∀ b h' tk es' ep' t', SetAt c.w h' S es' ep' t' led → (∀ i, i ∈ es'.toList.map keyE ↔ (i ∈ es.toList.map keyE ∨ i = k)) → Heap.SameBut S s.heap h' → Q b { s with heap := h', toks := tk }) :
    wpAny c.M A (setAdd S (.int k tok)) Q E s := by
  have hd : (setObj es ep t).data = .set es ep t := rfl
  have hf := X.good.fits
  have hel := IntE.elems (c := c) (w := c.w) X.elts
  have hb : es.size < scanBound := by have := X.good.few; unfold scanBound; omega
  have hkey : (intKind c.prog c.w).is k (.int k tok) = true := by simp [intKind, Value.isInt]
  unfold setAdd
  refine wpAny_holding ?_
  refine wpAny_bind ((intKind c.prog c.w).pyHash (k := k) hkey ?_)
  unfold setAddHashed setAddHashedIn
  refine wpAny_holding (wpAny_bind (wpAny_setState_of X.get hd hf ?_))
  dsimp only
  rw [byScan_of (knd := intKind c.prog c.w) (x := .int k tok) rfl hb hel]
  simp only [↓reduceIte]
  unfold setAddByScan
  refine wpAny_bind ?_
  refine wpAny_bind (wpAny_rule ?_)
  refine wpAny_bind (wpAny_setScan_of (knd := intKind c.prog c.w) hkey X.get hd hf hel ?_)
  have isK : ∀ e ∈ es.toList, (intKind c.prog c.w).is k e.2 = true ↔ keyE e = k := fun e he => by
    obtain ⟨k', tok', rfl⟩ := X.elts e he
    simp [intKind, Value.isInt, keyE]
  cases hr : List.findIdx? (fun e => (intKind c.prog c.w).is k e.2) es.toList with
  | some j =>
    dsimp only
    obtain ⟨hj, hpj, _⟩ := List.findIdx?_eq_some_iff_getElem.mp hr
    have hin : k ∈ es.toList.map keyE := List.mem_map.mpr ⟨_, List.getElem_mem hj, (isK _ (List.getElem_mem hj)).mp hpj⟩
    refine wpAny_pure (wpAny_pure ?_)
    refine o _ s.heap _ es ep t X (fun i => ⟨.inl, fun h => ?_⟩) (Heap.SameBut.refl _ _)
    rcases h with h | rfl
    · exact h
    · exact hin
  | none =>
    dsimp only
    have hnot : k ∉ es.toList.map keyE := fun hin => by
      obtain ⟨e, he, hq⟩ := List.mem_map.mp hin
      have := List.findIdx?_eq_none_iff.mp hr e he
      rw [(isK e he).mpr hq] at this; cases this
    have hlt : es.size < 4 := hroom.resolve_left hnot
    obtain ⟨es', t', hL0, hg, hfull, hplain⟩ := zr7 (x := k) (es := es) (v := .int k tok) X.good hlt hk rfl
    have hperm := layNew_perm t es (hashInt k) (.int k tok)
    have hL : layNew t es ((intKind c.prog c.w).hash k) (.int k tok) = (es', t', false, false) := hL0
    rw [hL0] at hperm
    rw [hL]
    dsimp only at hperm ⊢
    rw [Array.toList_push] at hperm
    refine wpAny_bind (wpAny_pure ?_)
    rw [hplain]
    simp only [↓reduceIte]
    rw [hashByValue_scannable 8 (x := .int k tok) rfl]
    refine wpAny_bind (wpAny_pure ?_)
    have hsz : es'.size = es.size + 1 := by
      have := hperm.length_eq
      simpa using this
    refine wpAny_bind (wpAny_storeSet_of X.get hd ?_ (by rw [hsz, sizeLine_eq]; omega))
    simp only [plainKind, hfull, ↓reduceIte, Bool.and_false, Bool.false_eq_true]
    refine wpAny_pure (wpAny_pure ?_)
    have hm := hperm.map keyE
    have hg2 : (s.heap.update S (Obj.putSet es' t')).get? S = some (setObj es' (ep + 1) t') := by
      have := Heap.get?_update_self (Obj.putSet es' t') X.get (by rw [putSet_of es' t' hd]; rfl)
      rw [putSet_of es' t' hd] at this; exact this
    refine o _ _ _ es' (ep + 1) t' ⟨hg2, fun e he => ?_, ?_, by rw [hsz]; exact hg, X.order⟩ (fun i => ?_) (Heap.SameBut.update _ _ _)
    · rcases List.mem_append.mp (hperm.mem_iff.mp he) with h | h
      · exact X.elts e h
      · simp at h; exact ⟨k, tok, h⟩
    · rw [hm.nodup_iff, List.map_append, List.nodup_append]
      exact ⟨X.nodup, by simp, fun a ha b hb e => by simp [keyE] at hb; subst hb; subst e; exact hnot ha⟩
    · rw [hm.mem_iff]; simp [keyE]
end
end Mine
end
section
namespace Mine
theorem slot_setiter_next : Slot "set_iterator" "__next__" "set_iterator.__next__" :=
  .of (owner := "set_iterator") (n := "__next__") (by rw [typeLookup_type, builtinLookup_eq_fast]; kernel_rfl) (by decide +kernel) (by decide +kernel) (by decide +kernel)
    (by first | exact .inl (by decide +kernel) | exact .inr (by decide +kernel)) (by rw [isSubtype_type]; kernel_rfl)
theorem zc4 : entryFor table "set_iterator.__next__" = some Builtin.«set_iterator.__next__» := entryFor_of_tree (by kernel_rfl)
theorem ziy : entryFor table "set.__iter__" = some Builtin.«frozenset.__iter__» :=
  entryFor_alias (id' := "frozenset.__iter__") (by kernel_rfl) rfl (by decide +kernel) (by kernel_rfl)
theorem zfg : Manifest.owners.lookup (String.ofList ['r', 'o', 't', 'a', 'r', 'e', 't', 'i', '_', 't', 'e', 's'].reverse) = some Manifest.sig_set_iterator := by kernel_rfl
theorem zdh (a : Value) : argsOk "set_iterator.__next__" ⟨[a], []⟩ := by
  unfold argsOk; rw [signature?_of (id := "set_iterator.__next__") (n := ['_', '_', 't', 'x', 'e', 'n', '_', '_']) (o := ['r', 'o', 't', 'a', 'r', 'e', 't', 'i', '_', 't', 'e', 's']) (by kernel_rfl) zfg]; kernel_rfl
theorem zc7 : Slot "set_iterator" "__iter__" "set_iterator.__iter__" :=
  .of (owner := "set_iterator") (n := "__iter__") (by rw [typeLookup_type, builtinLookup_eq_fast]; kernel_rfl) (by decide +kernel) (by decide +kernel) (by decide +kernel)
    (by first | exact .inl (by decide +kernel) | exact .inr (by decide +kernel)) (by rw [isSubtype_type]; kernel_rfl)
theorem zfv : entryFor table "set_iterator.__iter__" = some Builtin.«dict_keyiterator.__iter__» :=
  entryFor_alias (id' := "dict_keyiterator.__iter__") (by kernel_rfl) rfl (by decide +kernel) (by kernel_rfl)
theorem zgd (a : Value) : argsOk "set_iterator.__iter__" ⟨[a], []⟩ := by
  unfold argsOk; rw [signature?_of (id := "set_iterator.__iter__") (n := ['_', '_', 'r', 'e', 't', 'i', '_', '_']) (o := ['r', 'o', 't', 'a', 'r', 'e', 't', 'i', '_', 't', 'e', 's']) (by kernel_rfl) zfg]; kernel_rfl
noncomputable abbrev SetIt (h : Heap) (I S : Addr) (slot i n ep : Nat) : Prop := h.get? I = some { cls := .type "set_iterator", dict := none, data := .fields #[rawInt slot, rawInt i, .ref S, rawInt n, rawInt ep], slots := #[] }
noncomputable def byText (w : World) : Bool := w.params.followText "set-order"
noncomputable def slotAt (w : World) (t : SetTable) (i : Nat) : Nat := if byText w then 0 else (if i = 0 then 0 else t.place.getD (i - 1) 0 + 1)
noncomputable def orderOf (w : World) (S ep : Nat) (es : Array (Int × Value)) : Array (Int × Value) := if byText w then pickOrder (w.params.setOrder S ep) es else es
theorem zgg (w : World) (S ep : Nat) (es : Array (Int × Value)) : (orderOf w S ep es).toList.Perm es.toList := by
  unfold orderOf; split
  · exact zis _ _
  · exact .refl _
theorem zcz (w : World) (S ep : Nat) (es : Array (Int × Value)) : (orderOf w S ep es).size = es.size := by
  have := (zgg w S ep es).length_eq
  simpa using this
section
variable {prog : Program} {w : World} {A : Around} {s : Shared} {S I : Addr} {es : Array (Int × Value)} {ep : Nat} {t : SetTable} {led : Bool}
theorem zrk {Q : Value → Shared → Prop} {E : Value → Shared → Prop} (X : SetAt w s.heap S es ep t led)
    (o : Q (.ref s.heap.objs.size) { s with heap := s.heap.push { cls := .type "set_iterator", data := .fields #[rawInt 0, rawInt 0, .ref S, rawInt es.size, rawInt ep] } }) :
    wpAny (model prog w) A (pyIter (.ref S)) Q E s := by
  have hT : s.TypeIs (.ref S) "set" := ⟨_, X.get, rfl⟩
  have hd : (setObj es ep t).data = .set es ep t := rfl
  have hf := X.good.fits
  refine wpAny_pyIter_slot hT PySem.F.slot_set_iter (wpAny_call_entry PySem.F.slot_set_iter hT ziy ?_ (PySem.F.args_set_iter_1 _))
  show wpAny _ _ (Builtin.Frozenset.sizeOf S >>= _) _ _ s
  refine wpAny_bind (wpAny_bind (wpAny_setEntries_of X.get hd hf (wpAny_pure ?_)))
  refine wpAny_bind ?_
  unfold setDrawn
  refine wpAny_bind (wpAny_setState_of X.get hd hf ?_)
  dsimp only
  unfold setsByText
  refine wpAny_bind (wpAny_bind (wpAny_askSetting (wpAny_pure ?_)))
  refine wpAny_pure ?_
  refine wpAny_ite_split (fun h => ?_) (fun _ => ?_)
  · exfalso
    simp only [Bool.and_eq_true] at h
    have h2 : (!t.plain && decide (es.size > 1)) = true := h.2
    rw [X.good.plain] at h2; cases h2
  · refine wpAny_bind (wpAny_pure ?_)
    refine wpAny_bind (wpAny_setEpoch_of X.get hd hf ?_)
    refine wpAny_bind ?_
    unfold newFields
    refine wpAny_newObj_type (wpAny_pure ⟨_, rfl, "set_iterator", _, ⟨_, Heap.get?_push_size _ rfl, rfl⟩, slot_setiter_next.lookup, o⟩)
theorem zeq {i : Nat} {Q : Option (Value × Nat) → Shared → Prop} {E : Value → Shared → Prop} (X : SetAt w s.heap S es ep t led) (hi : i ≤ es.size)
    (o : Q ((orderOf w S ep es)[i]?.map fun e => (e.2, slotAt w t (i + 1))) s) : wpAny (model prog w) A (setNext S (slotAt w t i) i ep) Q E s := by
  have hd : (setObj es ep t).data = .set es ep t := rfl
  have hf := X.good.fits
  unfold setNext
  refine wpAny_bind (wpAny_setState_of X.get hd hf ?_)
  dsimp only
  unfold setsByText
  refine wpAny_bind (wpAny_bind (wpAny_askSetting (wpAny_pure ?_)))
  refine wpAny_ite_split (fun h => ?_) (fun h => ?_)
  · have hb : byText w = true := h
    rw [if_neg (by simp)]
    refine wpAny_bind ?_
    unfold setWalk
    refine wpAny_bind (wpAny_setState_of X.get hd hf ?_)
    dsimp only
    unfold setsByText
    refine wpAny_bind (wpAny_bind (wpAny_askSetting (wpAny_pure ?_)))
    rw [if_pos (show _ = true from h)]
    refine wpAny_bind (wpAny_askSetting (wpAny_pure (wpAny_pure ?_)))
    have e1 : slotAt w t (i + 1) = slotAt w t i := by unfold slotAt; rw [hb]; rfl
    rw [e1] at o
    unfold orderOf at o
    rw [hb] at o
    exact o
  · have hb : byText w = false := by cases hc : byText w with | true => exact absurd hc h | false => rfl
    have hl : led = true := X.order.resolve_right (by unfold byText at hb; rw [hb]; simp)
    refine wpAny_ite_split (fun h => ?_) (fun _ => ?_)
    · exfalso
      have h2 : (!t.plain && decide (es.size > 1)) = true := h
      rw [X.good.plain] at h2; cases h2
    · refine wpAny_bind ?_
      have hml : (!t.led && !es.isEmpty) = false := by rw [X.good.led, hl]; rfl
      show wpAny _ _ (if (!t.led && !es.isEmpty) = true then _ else _) _ _ _
      rw [hml]
      refine wpAny_pure ?_
      have hs : SetTable.below t.place (slotAt w t i) = i := by
        unfold slotAt
        rw [hb]
        exact zpn X.good.rise (by rw [X.good.size]; exact hi)
      rw [hs]
      refine wpAny_pure ?_
      unfold orderOf at o
      rw [hb] at o
      simp only [Bool.false_eq_true, if_false] at o
      by_cases hlt : i < es.size
      · have hp : i < t.place.size := by rw [X.good.size]; exact hlt
        rw [Array.getElem?_eq_getElem hlt] at o ⊢
        rw [Array.getElem?_eq_getElem hp]
        have e2 : slotAt w t (i + 1) = t.place[i] + 1 := by
          unfold slotAt; rw [hb]; simp [Array.getD, hp]
        rw [e2] at o
        exact o
      · rw [Array.getElem?_eq_none (by omega)] at o ⊢
        exact o
theorem zj1 {i : Nat} {e : Int × Value} {Q : Option Value → Shared → Prop} {E : Value → Shared → Prop} (X : SetAt w s.heap S es ep t led) (hI : SetIt s.heap I S (slotAt w t i) i es.size ep) (he : (orderOf w S ep es)[i]? = some e)
    (o : ∀ h', SetIt h' I S (slotAt w t (i + 1)) (i + 1) es.size ep → Heap.SameBut I s.heap h' → Q (some e.2) { s with heap := h' }) : wpAny (model prog w) A (pyNext (.ref I)) Q E s := by
  have hT : s.TypeIs (.ref I) "set_iterator" := ⟨_, hI, rfl⟩
  have hd : (setObj es ep t).data = .set es ep t := rfl
  have hf := X.good.fits
  unfold pyNext
  refine wpAny_bind (wpAny_attempt (wpAny_callSpecial?_slot (name := Str.ofString "__next__") hT slot_setiter_next
    (wpAny_call_entry slot_setiter_next hT zc4 ?_ (zdh _))))
  show wpAny _ _ (fieldsOf (.ref I) >>= _) _ _ s
  refine wpAny_bind (wpAny_fieldsOf hI rfl ?_)
  show wpAny _ _ (setEntries S >>= _) _ _ s
  refine wpAny_bind (wpAny_setEntries_of X.get hd hf ?_)
  refine wpAny_ite_split (fun h => absurd h (by simp)) fun _ => ?_
  show wpAny _ _ (setNext S (slotAt w t i) i ep >>= _) _ _ s
  have hlt : i < es.size := by
    rw [← zcz w S ep es]
    exact (Array.getElem?_eq_some_iff.mp he).1
  refine wpAny_bind (zeq X (Nat.le_of_lt hlt) ?_)
  rw [he]
  show wpAny _ _ (setField (.ref I) 0 _ >>= _) _ _ s
  refine wpAny_bind (wpAny_setField_rec hI (by simp) fun h1 g1 s1 => ?_)
  refine wpAny_bind (wpAny_setField_rec g1 (by simp) fun h2 g2 s2 => ?_)
  refine wpAny_pure ⟨_, rfl, wpAny_pure ?_⟩
  refine o h2 ?_ (s1.trans s2)
  rw [show ((i : Int) + 1) = ((i + 1 : Nat) : Int) by omega] at g2
  exact g2
theorem zkz {i : Nat} {Q : Option Value → Shared → Prop} {E : Value → Shared → Prop} (hh : A.handled = none) (X : SetAt w s.heap S es ep t led) (hI : SetIt s.heap I S (slotAt w t i) i es.size ep) (he : i = es.size)
    (o : ∀ h', Heap.ExtBut I s.heap h' → Q none { s with heap := h' }) : wpAny (model prog w) A (pyNext (.ref I)) Q E s := by
  have hT : s.TypeIs (.ref I) "set_iterator" := ⟨_, hI, rfl⟩
  have hd : (setObj es ep t).data = .set es ep t := rfl
  have hf := X.good.fits
  unfold pyNext
  refine wpAny_bind (wpAny_attempt (wpAny_callSpecial?_slot (name := Str.ofString "__next__") hT slot_setiter_next
    (wpAny_call_entry slot_setiter_next hT zc4 ?_ (zdh _))))
  show wpAny _ _ (fieldsOf (.ref I) >>= _) _ _ s
  refine wpAny_bind (wpAny_fieldsOf hI rfl ?_)
  show wpAny _ _ (setEntries S >>= _) _ _ s
  refine wpAny_bind (wpAny_setEntries_of X.get hd hf ?_)
  refine wpAny_ite_split (fun h => absurd h (by simp)) fun _ => ?_
  show wpAny _ _ (setNext S (slotAt w t i) i ep >>= _) _ _ s
  refine wpAny_bind (zeq X (Nat.le_of_eq he) ?_)
  rw [Array.getElem?_eq_none (by rw [zcz]; omega)]
  show wpAny _ _ (setField (.ref I) 2 _ >>= _) _ _ s
  refine wpAny_bind (wpAny_setField_rec hI (by simp) fun h1 g1 s1 => ?_)
  refine wpAny_bind ?_
  unfold newExc newTuple
  refine wpAny_bind (wpAny_newObj_type ?_ (by size_fits))
  refine wpAny_bind (m := firstArgMember _ _) (wpAny_of_eq (a := Value.none) (by first | rfl | (simp only [firstArgMember]; rfl)) ?_)
  refine wpAny_newObj_type ?_ (by size_fits)
  simp only [raiseNew]
  refine wpAny_bind (wpAny_handled ?_)
  rw [show A.in1.handled = none from hh]
  refine wpAny_bind (wpAny_pure (wpAny_throw ?_))
  refine wpAny_bind (wpAny_isInstance (T := "StopIteration") (b := true) ⟨_, Heap.get?_push_size _ rfl, rfl⟩ isSubtype_stop ?_)
  exact wpAny_pure (o _ ((s1.extBut.push _).push _))
theorem Walks.set (hh : A.handled = none) (hne : S ≠ I) : Walks prog w A I [I, S] [I] es.size (fun i v => ∃ e, (orderOf w S ep es)[i]? = some e ∧ v = e.2) (fun i h => SetIt h I S (slotAt w t i) i es.size ep ∧ SetAt w h S es ep t led) where
  sub := fun b hb => by simp at hb; simp [hb]
  frame := fun _ _ _ st hk => ⟨hk I (by simp) _ st.1, st.2.at fun o e => hk S (by simp) o e⟩
  item := fun i s Q E hi st hQ => by
    have hlt : i < (orderOf w S ep es).size := by rw [zcz]; exact hi
    refine zj1 st.2 st.1 (Array.getElem?_eq_getElem hlt) fun h' h1 h2 => ?_
    exact hQ _ h' s.toks ⟨_, Array.getElem?_eq_getElem hlt, rfl⟩ ⟨h1, st.2.at fun o e => (h2.2 _ hne).trans e⟩ fun b o hb e => (h2.2 b (by simpa using hb)).trans e
  done := fun s Q E st hQ => zkz hh st.2 st.1 rfl fun h' he => hQ h' s.toks fun b o hb e => he b o (by simpa using hb) e
  self := fun i s Q E st hQ => by
    have hT : s.TypeIs (.ref I) "set_iterator" := ⟨_, st.1, rfl⟩
    refine wpAny_pyIter_slot hT zc7 (wpAny_call_entry zc7 hT zfv ?_ (zgd _))
    show wpAny _ _ (ret (.ref I)) _ _ s
    exact wpAny_pure ⟨_, rfl, "set_iterator", _, hT, slot_setiter_next.lookup, hQ⟩
theorem zsg {Q : Bool → Shared → Prop} {E : Value → Shared → Prop} (hT : s.TypeIs (.ref S) "set") (h : Q false s) : wpAny (model prog w) A (Builtin.List.listLengthHint (.ref S)) Q E s := by
  unfold Builtin.List.listLengthHint
  refine wpAny_bind (wpAny_specialOf hT PySem.F.slot_set_len.lookup ?_)
  generalize hid : ("set.__len__" : String) = id0
  wp_delta
  rw [show splitId id0 = some ("set", "__len__") from by subst hid; decide +kernel]
  subst hid
  refine wpAny_bind (wpAny_isInstance (T := "set") (b := true) hT (by rw [isSubtype_type]; kernel_rfl) ?_)
  refine wpAny_ite_split (fun hab => absurd hab (by decide)) (fun _ => ?_)
  refine wpAny_ite_split (fun _ => ?_) (fun hab => absurd (by decide +kernel) hab)
  refine wpAny_bind (wpAny_typeOf hT ?_)
  exact wpAny_pure h
end
end Mine
end
section
namespace Mine
theorem set_new {prog : Program} {w : World} {A : Around} {E : Value → Shared → Prop} {s : Shared} (a : Value) {Q₁ : Value → Shared → Prop}
    (h : Q₁ (.ref s.heap.objs.size) { s with heap := s.heap.push (setObj #[] 0 (.fresh 0 0 (!byText w))) }) :
    codeAny (model prog w) A (.call (.builtin "set.__new__") ⟨[.type "set", a], []⟩) (wants Q₁ E) s := by
  refine codeAny_of_tree ?_
  show wpAny _ A.in1 (do checkBuiltinCall "set.__new__" ⟨[.type "set", a], []⟩; again (.builtin "set.__new__" ⟨[.type "set", a], []⟩)) _ _ s
  refine wpAny_bind (wpAny_of_eq (PySem.F.newCall_set_1 a) (wpAny_pure ⟨plainId_quiet PySem.F.plain_set_new _, codeAny_builtin PySem.F.entry_set_new ?_⟩))
  rw [Around.under_plainId PySem.F.plain_set_new _]
  unfold Builtin.«set.__new__» Builtin.Frozenset.newClass
  have hsub := sub_set_self
  obtain ⟨hp, g, d, tk, os⟩ := s
  dsimp only
  wp_walk
  refine wpAny_askSetting (wpAny_pure ?_)
  dsimp only
  simp only [newObj]
  refine wpAny_bind (wpAny_alloc (wpAny_pure ?_))
  exact wpAny_pure h
section
variable {c : Cx} {sc : Scope} {d : Nat}
theorem zsb {vs : List Value} {is : List Int} (h : IntsAre vs is) : ∀ {j : Nat} {v : Value}, vs[j]? = some v → ∃ k t, v = .int k t ∧ is[j]? = some k := by
  induction h with
  | nil => intro j v e; simp at e
  | cons k t _ ih =>
    intro j v e
    cases j with
    | zero => simp at e; exact ⟨k, t, e.symm, rfl⟩
    | succ j => simpa using ih (by simpa using e)
theorem zrb {A : Around} {R : Result → Shared → Prop} (hh : A.handled = none) {S I l : Addr} {vs : List Value} {is few : List Int} {led : Bool} (hI : IntsAre vs is) (hsm : ∀ i ∈ is, i ∈ smallInts) (hf : few.length ≤ 4) (hin : ∀ i ∈ is, i ∈ few) (hSI : S ≠ I) (hSl : S ≠ l) (hlI : l ≠ I) :
    ∀ (k i : Nat) (s : Shared) (es : Array (Int × Value)) (ep : Nat) (t : SetTable), vs.length - i = k → i ≤ vs.length → s.heap.IsListIter I l i → s.heap.IsList l vs.toArray → SetAt c.w s.heap S es ep t led → (∀ x, x ∈ es.toList.map keyE ↔ x ∈ is.take i) →
      (∀ h' tk es' ep' t', SetAt c.w h' S es' ep' t' led → (∀ x, x ∈ es'.toList.map keyE ↔ x ∈ is) → (∀ b o, b ≠ S → b ≠ I → s.heap.get? b = some o → h'.get? b = some o) → R (.ok (.ret .none)) { s with heap := h', toks := tk }) →
      codeAny c.M A (.builtin "set.update.loop" ⟨[.ref S, .ref I], []⟩) R s := by
  have W := Walks.list (prog := c.prog) (w := c.w) (A := A.in1) hh I l hlI vs.toArray
  have hlen := hI.length
  intro k
  induction k with
  | zero =>
    intro i s es ep t hk hi hit hl X hm hR
    have hin : i = vs.length := by omega
    subst hin
    refine codeAny_builtin PyProof.Rows.F.entry_set_update_loop ?_
    rw [Around.under_plainId PyProof.Rows.F.plain_set_update_loop _]
    show wpAny _ A.in1 (pyNext (.ref I) >>= _) _ _ s
    refine wpAny_bind (W.done s _ _ (by simpa using ⟨hit, hl⟩) fun h' tk hmv => ?_)
    show wpAny _ A.in1 (ret Value.none) _ _ _
    refine wpAny_pure (hR h' tk es ep t (X.at fun o e => hmv _ o (by simpa using hSI) e) (fun x => ?_) fun b o _ hb e => hmv b o (by simpa using hb) e)
    rw [hm, List.take_of_length_le (by omega)]
  | succ k ih =>
    intro i s es ep t hk hi hit hl X hm hR
    have hlt : i < vs.length := by omega
    refine codeAny_builtin PyProof.Rows.F.entry_set_update_loop ?_
    rw [Around.under_plainId PyProof.Rows.F.plain_set_update_loop _]
    show wpAny _ A.in1 (pyNext (.ref I) >>= _) _ _ s
    refine wpAny_bind (W.item i s _ _ (by simpa using hlt) ⟨hit, hl⟩ fun v h1 tk1 hP hst hmv => ?_)
    obtain ⟨kk, tok, rfl, ek⟩ := zsb hI (j := i) (v := v) (by simpa using hP)
    have hkm := List.mem_of_getElem? ek
    have X1 : SetAt c.w h1 S es ep t led := X.at fun o e => hmv _ o (by simpa using hSI) e
    show wpAny _ A.in1 (holding [Value.int kk tok] (setAdd S (.int kk tok)) >>= _) _ _ _
    refine wpAny_bind (wpAny_holding ?_)
    have hroom : kk ∈ es.toList.map keyE ∨ es.size < 4 := by
      by_cases hc : kk ∈ es.toList.map keyE
      · exact .inl hc
      · refine .inr ?_
        have hnd : (kk :: es.toList.map keyE).Nodup := List.nodup_cons.mpr ⟨hc, X.nodup⟩
        have := zc0 hnd (ys := few) fun x hx => by
          rcases List.mem_cons.mp hx with rfl | hx
          · exact hin _ hkm
          · exact hin _ (List.mem_of_mem_take ((hm x).mp hx))
        simp at this
        omega
    refine set_add (c := c) (s := { s with heap := h1, toks := tk1 }) X1 (hsm _ hkm) hroom fun b h2 tk2 es2 ep2 t2 X2 hm2 hs2 => ?_
    refine wpAny_pure ⟨plainId_quiet PyProof.Rows.F.plain_set_update_loop _, ih (i + 1) _ es2 ep2 t2 (by omega) hlt ?_ ?_ X2 (fun x => ?_) fun h' tk' es' ep' t' X' hm' hk' => ?_⟩
    · obtain ⟨oo, eo, rr⟩ := hst.1
      exact ⟨oo, (hs2.2 _ hSI.symm).trans eo, rr⟩
    · obtain ⟨oo, eo, rr⟩ := hst.2
      exact ⟨oo, (hs2.2 _ hSl.symm).trans eo, rr⟩
    · rw [hm2, hm, List.take_add_one, ek]; simp
    · exact hR h' tk' es' ep' t' X' hm' fun b o hb hbI e => hk' b o hb hbI ((hs2.2 _ hb).trans (hmv b o (by simpa using hbI) e))
theorem zfw {M : Model} {A : Around} {cd : Code} {Q₁ : Value → Shared → Prop} {E : Value → Shared → Prop} {R : Result → Shared → Prop} {s : Shared} (h : codeAny M A cd (wants Q₁ E) s)
    (k : ∀ v s', Q₁ v s' → R (.ok (.ret v)) s') (e : ∀ x s', E x s' → R (.error x) s') : codeAny M A cd R s :=
  codeAny_mono h fun r s' hr => match r, hr with
    | .error x, hr => e x s' hr
    | .ok (.ret v), hr => k v s' hr
noncomputable abbrev newSet (w : World) : Obj := setObj #[] 0 (.fresh 0 0 (!byText w))
noncomputable def SetDone (c : Cx) (S : Addr) (is : List Int) (s s2 : Shared) : Prop :=
  X5 fun h' tk es ep t => N4 (s2 = { s with heap := h', toks := tk }) (SetAt c.w h' S es ep t (!byText c.w)) (∀ x, x ∈ es.toList.map keyE ↔ x ∈ is) (∀ b o, b ≠ S → s.heap.get? b = some o → h'.get? b = some o)
set_option maxHeartbeats 3200000 in
theorem zrl {A : Around} {s : Shared} {S l : Addr} {vs : List Value} {n : Nat} {is few : List Int} {E : Value → Shared → Prop} (hh : A.handled = none) (hS : s.heap.get? S = some (newSet c.w))
    (hl : s.heap.get? l = some (lstObj vs n)) (hlS : l ≠ S) (hI : IntsAre vs is) (hsm : ∀ i ∈ is, i ∈ smallInts) (hf : few.length ≤ 4) (hin : ∀ i ∈ is, i ∈ few) :
    codeAny c.M A (.call (.builtin "set.__init__") ⟨[.ref S, .ref l], []⟩) (wants (fun r s₂ => r = .none ∧ SetDone c S is s s₂) E) s := by
  have hT : s.TypeIs (.ref S) "set" := ⟨_, hS, rfl⟩
  refine codeAny_call_builtin PySem.F.called_set.init.plain PySem.F.entry_set_init (check_set_init_1 hT ?_)
  have hsls := PySem.F.sub_list_set
  have hslf := PySem.F.sub_list_frozenset
  have hne : (Value.type "list" == Value.type "dict") = false := by decide
  have hl1 : s.heap.IsList l vs.toArray := ⟨_, hl, rfl, n, rfl⟩
  have hTl : s.TypeIs (.ref l) "list" := ⟨_, hl, rfl⟩
  unfold Builtin.«set.__init__» noKeywords Builtin.Frozenset.updateFrom
  generalize hPI : pyIter = PI
  wp_walk
  subst hPI
  refine wpAny_pyIter_list hl1 ?_
  have k2 := zaj (h := s.heap) { cls := .type "list_iterator", data := .fields #[.ref l, .int 0 0] }
  have hit : (s.heap.push { cls := .type "list_iterator", data := .fields #[.ref l, .int 0 0] }).IsListIter s.heap.objs.size l 0 := ⟨_, Heap.get?_push_size _ rfl, rfl, rfl⟩
  refine wpAny_bind (wpAny_runValue ?_)
  refine zrb (c := c) (A := A.in1) hh (S := S) (I := s.heap.objs.size) (l := l) (led := !byText c.w) hI hsm hf hin (Nat.ne_of_lt (Heap.lt_size hS)) hlS.symm (Nat.ne_of_lt (Heap.lt_size hl)) (vs.length - 0) 0 _ #[] 0 (.fresh 0 0 (!byText c.w)) rfl (Nat.zero_le _) hit ⟨_, k2 _ _ hl, rfl, n, rfl⟩
    ⟨k2 _ _ hS, fun e he => by simp at he, List.Pairwise.nil, GoodT.fresh _, by
      unfold byText
      cases c.w.params.followText "set-order" <;> simp⟩ (fun x => by simp) fun h' tk es ep t X hm hk => ?_
  refine wpAny_pure ?_
  exact wpAny_pure ⟨rfl, h', tk, es, ep, t, rfl, X, hm, fun b o hb e => hk b o hb (Nat.ne_of_lt (Heap.lt_size e)) (k2 _ _ e)⟩
set_option maxHeartbeats 3200000 in
theorem zst {A : Around} {s : Shared} {l : Addr} {vs : List Value} {n : Nat} {is few : List Int} {Q : Value → Shared → Prop} {E : Value → Shared → Prop} (hh : A.handled = none)
    (hl : s.heap.get? l = some (lstObj vs n)) (hI : IntsAre vs is) (hsm : ∀ i ∈ is, i ∈ smallInts) (hf : few.length ≤ 4) (hin : ∀ i ∈ is, i ∈ few)
    (h : ∀ h' tk es ep t, SetAt c.w h' s.heap.objs.size es ep t (!byText c.w) → (∀ x, x ∈ es.toList.map keyE ↔ x ∈ is) → (∀ b o, s.heap.get? b = some o → h'.get? b = some o) → Q (.ref s.heap.objs.size) { s with heap := h', toks := tk }) :
    wpAny c.M A (call (.type "set") [.ref l]) Q E s := by
  obtain ⟨cc, tl, hmro⟩ := PySem.F.called_set.mro
  have hmade := PySem.F.called_set.made
  have hsub := PySem.F.called_set.sub
  have hli := PySem.F.called_set.init.lookup
  refine wpAny_call (codeAny_of_tree ?_)
  show wpAny _ _ (callAny (.type "set") _) _ _ _
  refine wpAny_pure ⟨Code.quiet_builtin _ (by decide +kernel), codeAny_builtin PySem.F.entry_type_call ?_⟩
  rw [Around.under_plain (weight_type_call_type "set" [.ref l] []) rfl]
  have h1 := PySem.F.called_set.notType
  have h2 := PySem.F.called_set.canCreate
  have hct := PySem.F.typeCall_set_1 (.ref l)
  have k1 := zaj (h := s.heap) (newSet c.w)
  have hS := Heap.get?_push_size s.heap (o := newSet c.w) rfl
  have fill : ∀ (A' : Around), A'.handled = none → codeAny c.M A' (.call (.builtin "set.__init__") ⟨[.ref s.heap.objs.size, .ref l], []⟩) (wants (fun r s₂ => r = .none ∧ SetDone c s.heap.objs.size is { s with heap := s.heap.push (newSet c.w) } s₂) E) { s with heap := s.heap.push (newSet c.w) } :=
    fun A' hh' => zrl hh' hS (k1 _ _ hl) (Nat.ne_of_lt (Heap.lt_size hl)) hI hsm hf hin
  have hT : Shared.TypeIs { s with heap := s.heap.push (newSet c.w) } (.ref s.heap.objs.size) "set" := ⟨_, hS, rfl⟩
  have hbi := PySem.F.called_set.init.bind (.ref s.heap.objs.size)
  repeat (any_goals (first | assumption | wp_step))
  refine zfw (set_new (.ref l) (E := E) (Q₁ := fun obj s₁ => obj = .ref s.heap.objs.size ∧ s₁ = { s with heap := s.heap.push (newSet c.w) }) ⟨rfl, rfl⟩) (fun obj s₁ hr => ?_) fun _ _ z => z
  obtain ⟨rfl, rfl⟩ := hr
  repeat (any_goals (first | assumption | wp_step))
  refine zfw (fill _ hh) (fun r s₂ hr₂ => ?_) fun _ _ z => z
  obtain ⟨rfl, h', tk, es, ep, t, rfl, hS', hm', hk'⟩ := hr₂
  repeat (any_goals (first | assumption | wp_step))
  exact h _ _ es ep t hS' hm' fun b o e => hk' b o (Nat.ne_of_lt (Heap.lt_size e)) (k1 _ _ e)
end
end Mine
end
section
namespace Mine
section
variable {c : Cx} {sc : Scope} {d : Nat}
theorem zlr {l : List (Int × Value)} (h : ∀ e ∈ l, IntE e) : IntsAre (l.map (·.2)) (l.map keyE) := by
  induction l with
  | nil => exact .nil
  | cons e l ih =>
    obtain ⟨k, t, rfl⟩ := h e (.head _)
    exact .cons k t (ih fun e he => h e (.tail _ he))
theorem zo1 {A : Around} {s : Shared} {S : Addr} {es : Array (Int × Value)} {ep : Nat} {t : SetTable} {led : Bool} {Q : List Value → Shared → Prop} {E : Value → Shared → Prop} (hh : A.handled = none)
    (X : SetAt c.w s.heap S es ep t led)
    (o : ∀ ws js h' tk, IntsAre ws js → js.Perm (es.toList.map keyE) → (∀ b ob, s.heap.get? b = some ob → h'.get? b = some ob) → Q ws { s with heap := h', toks := tk }) : wpAny c.M A (collect (.ref S)) Q E s := by
  have hlt : S < s.heap.objs.size := Heap.lt_size X.get
  have hT : Shared.TypeIs s (.ref S) "set" := ⟨_, X.get, rfl⟩
  refine zc5 (T := "set") hT (by decide) (by decide) (fun b e => by cases e; exact hlt) fun E' => ?_
  have k0 := zaj (h := s.heap) (lstObj [] 0)
  have X0 : SetAt c.w (s.heap.push (lstObj [] 0)) S es ep t led := X.at fun o e => k0 _ _ e
  refine zrk (s := { s with heap := s.heap.push (lstObj [] 0) }) X0 ?_
  have k := zaj (h := s.heap.push (lstObj [] 0)) { cls := .type "set_iterator", data := .fields #[rawInt 0, rawInt 0, .ref S, rawInt es.size, rawInt ep] }
  have hI := Heap.get?_push_size (s.heap.push (lstObj [] 0)) (o := { cls := .type "set_iterator", data := .fields #[rawInt 0, rawInt 0, .ref S, rawInt es.size, rawInt ep] }) rfl
  refine zsg ⟨_, k _ _ X0.get, rfl⟩ ?_
  rw [Heap.size_push] at hI
  have hne : S ≠ s.heap.objs.size + 1 := Nat.ne_of_lt (Nat.lt_succ_of_lt hlt)
  have hbig : es.size < sizeLine := by have := X.good.few; rw [sizeLine_eq]; omega
  have hit0 : SetIt ((s.heap.push (lstObj [] 0)).push { cls := .type "set_iterator", data := .fields #[rawInt 0, rawInt 0, .ref S, rawInt es.size, rawInt ep] }) (s.heap.objs.size + 1) S (slotAt c.w t 0) 0 es.size ep := by
    have : slotAt c.w t 0 = 0 := by unfold slotAt; split <;> simp
    rw [this]; exact hI
  refine ⟨s.heap.objs.size + 1, _, _, _, _, _, by rw [Heap.size_push], walks_H (Walks.set (A := A.in1) hh hne (ep := ep) (t := t) (led := led) (es := es)), ⟨hit0, X0.at fun o e => k _ _ e⟩, by simp; exact (Nat.ne_of_lt hlt).symm, k _ _ (Heap.get?_push_size _ rfl), hbig, fun h' tk' vs' hk hl hP => ?_⟩
  have hws : vs' = (orderOf c.w S ep es).toList.map (·.2) := by
    apply List.ext_getElem
    · rw [hl, List.length_map, Array.length_toList, zcz]
    · intro j h1 h2
      obtain ⟨e, e1, e2⟩ := hP j _ (List.getElem?_eq_getElem h1)
      obtain ⟨h3, e3⟩ := Array.getElem?_eq_some_iff.mp e1
      rw [e2, List.getElem_map, Array.getElem_toList, e3]
  have hperm := zgg c.w S ep es
  refine o vs' ((orderOf c.w S ep es).toList.map keyE) h' tk' ?_ (hperm.map keyE) fun b ob e => ?_
  · rw [hws]; exact zlr fun e he => X.elts e (hperm.mem_iff.mp he)
  · have hlt := Heap.lt_size e
    exact hk b ob (Nat.ne_of_lt hlt) (by simpa using Nat.ne_of_lt (Nat.lt_succ_of_lt hlt)) (k _ _ (k0 _ _ e))
noncomputable def setOk (is : List Int) : Prop := (∀ i ∈ is, i ∈ smallInts) ∧ ∃ few : List Int, few.length ≤ 4 ∧ ∀ i ∈ is, i ∈ few
theorem set_len {A : Around} {s : Shared} {S : Addr} {es : Array (Int × Value)} {ep : Nat} {t : SetTable} {led : Bool} {Q : Value → Shared → Prop} {E : Value → Shared → Prop} (X : SetAt c.w s.heap S es ep t led)
    (h : Q (.int es.size (s.toks + 1)) { s with toks := s.toks + 1 + 1 }) : wpAny c.M A (call (.builtin "len") [.ref S]) Q E s :=
  call_len_set X.get ⟨rfl, rfl, rfl⟩ rfl X.good.fits (by have := X.good.few; omega) h
theorem zog {A : Around} {s : Shared} {S : Addr} {es : Array (Int × Value)} {ep : Nat} {t : SetTable} {led : Bool} {Q : Value → Shared → Prop} {E : Value → Shared → Prop} (hh : A.handled = none) (X : SetAt c.w s.heap S es ep t led)
    (o : ∀ (l : Addr) (ws : List Value) (ns : List Int) (n : Nat) (h1 h' : Heap) (tk : Nat), (∀ b ob, s.heap.get? b = some ob → h1.get? b = some ob) → (∀ b ob, h1.get? b = some ob → h'.get? b = some ob) → h1.objs.size ≤ l → h'.get? l = some (lstObj ws n) → IntsAre ws ns → ns.Perm (es.toList.map keyE) → SortedL ns → Q (.ref l) { s with heap := h', toks := tk }) :
    wpAny c.M A (call (.builtin "sorted") [.ref S]) Q E s := by
  refine Calls.call_function_entry kind_sorted plain_sorted entry_sorted (args_sorted1 _) ?_
  unfold Builtin.«sorted»
  refine wpAny_bind (m := checkCount "sorted" 1 1 _) (wpAny_pure ?_)
  refine wpAny_bind (zo1 (c := c) (A := A.in1) hh X fun ws js h' tk hI hp k => ?_)
  have hl : ws.length < 64 := by
    rw [hI.length, hp.length_eq]; simp; have := X.good.few; omega
  refine wpAny_bind (wpAny_newList ?_)
  have k2 := zaj (h := h') (seqObj "list" ws.toArray 0)
  have hoL : (h'.push (seqObj "list" ws.toArray 0)).get? h'.objs.size = some (seqObj "list" ws.toArray 0) := Heap.get?_push_size _ rfl
  refine wpAny_bind (wpAny_holding (wpAny_call_entry slot_list_sort ⟨_, hoL, rfl⟩ entry_list_sort (list_sort_tree hoL hI hl fun out ns' a1 a2 a3 => ⟨_, rfl, ?_⟩) (args_list_sort _)))
  refine wpAny_pure ⟨_, rfl, ?_⟩
  obtain ⟨e, he⟩ := sortedHeap_at (vs := ws) (out := out) hoL
  have k3 : ∀ b ob, h'.get? b = some ob → (sortedHeap (h'.push (seqObj "list" ws.toArray 0)) h'.objs.size ws out).get? b = some ob := fun b ob e1 => by
    have hlt := Heap.lt_size e1
    rw [sortedHeap_old (Nat.ne_of_lt hlt) (by rw [Heap.size_push]; exact Nat.lt_succ_of_lt hlt)]
    exact k2 _ _ e1
  exact o h'.objs.size out.toList ns' e h' _ tk k k3 (Nat.le_refl _) (by simpa [lstObj, seqObj] using he) a1 (a2.trans hp) a3
structure IsBuiltinName (c : Cx) (sc : Scope) (x : Str) (v : Value) : Prop where
  kind : sc.names.lookup x = some .globalImplicit
  none : nsIn c.K mainGlobals x = some none
  boot : bootBuiltins x = some v
  name : x ≠ "__name__"
  debug : (x == ("__debug__" : Str)) = false
theorem zhe {f : Value} {e : Expr} {pos pos' : Pos} (hk : Keeps2 c f) (hs : ∀ env, starEach [e] env = (false, eval e env) :: starEach [] env)
    {A : Around} {env : Env} {s : Shared} {P : Value → Shared → Prop} {E : Value → Shared → Prop}
    (h : wpAny c.M A (eval e env) (fun v s₁ => c.K.In s₁.heap ∧ wpAny c.M A (call f [v]) P E s₁) E s) :
    wpAny c.M A (callWith pos f [] (backTo pos' (starEach [e] env)) []) P E s := by
  have sp : wpAny c.M A (spliced (backTo pos' (starEach [e] env))) (fun vs s₁ => c.K.In s₁.heap ∧ wpAny c.M A (call f ([] ++ vs)) P E s₁) E s :=
    wpAny_items_cons (wpAny_mono h (fun v s₁ h₁ => wpAny_items_nil ⟨h₁.1, h₁.2⟩) fun _ _ z => z) (hs env)
  refine callWith_of (P := fun h => c.K.In h) (M := c.M) (by rw [hs env]; rfl) hk ?_
  rw [hs env] at sp ⊢
  exact evalArgs_plain sp
@[reducible] noncomputable def mSetOf (m : ME) (k : List Int → MH → Prop) : Loc → MH → Prop := fun loc mh => m loc (fun v mh1 => ∃ r is, v = .ref r ∧ mh1[r]? = some (.list (is.map .int)) ∧ setOk is ∧ k is mh1) mh
theorem zne {e : Expr} {m : ME} {np pos : Pos} (hS : IsBuiltinName c sc ("set" : Str) (.type "set")) (hs : ∀ env, starEach [e] env = (false, eval e env) :: starEach [] env) (he : SE c sc d e m)
    {A : Around} {env : Env} {loc : Loc} {φ : Phi} {mh : MH} {s : Shared} {k : List Int → MH → Prop} {P : Value → Shared → Prop} {E : Value → Shared → Prop}
    (hr : Room A d) (hee : EnvOk env sc) (H : c.Hp φ mh s.heap) (F : FrR c env loc φ s.heap) (q : mSetOf m k loc mh)
    (o : ∀ S is φ' mh' h' tk es ep t, k is mh' → Ext φ φ' s.heap h' → c.Hp φ' mh' h' → SetAt c.w h' S es ep t (!byText c.w) → (∀ x, x ∈ es.toList.map keyE ↔ x ∈ is) → P (.ref S) { s with heap := h', toks := tk }) :
    wpAny c.M A (eval (.Call (.Name ("set" : Str) np) [e] [] pos) env) P E s := by
  refine wpAny_Call_ofName (zbo hee H hS.kind hS.none hS.boot hS.name hS.debug (zhe zal hs (he A env loc φ mh s _ _ E hr hee H F q fun v mv φ1 mh1 h1 tk1 q1 x1 H1 r1 => ⟨c.kin.keeps H1.base, ?_⟩)))
  obtain ⟨r, is, rfl, em, ⟨hsm, few, hf, hin⟩, hk⟩ := q1
  cases r1 with
  | @ref a1 d1 _ f1 =>
    obtain ⟨d', g1, o1⟩ := H1.deref (.ref f1) em
    obtain ⟨vs, n, _, g, rr⟩ := o1.inv_list
    refine zst (c := c) (s := { s with heap := h1, toks := tk1 }) hr.handled g rr.ints hsm hf hin fun h' tk es ep t X hm hk' => ?_
    exact o _ is φ1 mh1 h' tk es ep t hk (x1.trans (.of_keep hk')) (H1.keep hk') X hm
@[reducible] noncomputable def zf9 (m : ME) : ME := fun loc Q mh => mSetOf m (fun is mh1 => ∀ ns : List Int, ns.Nodup → SortedL ns → (∀ x, x ∈ ns ↔ x ∈ is) → Q (.ref mh1.length) (mh1 ++ [.list (ns.map .int)])) loc mh
theorem zgf {e : Expr} {m : ME} {np pos np' pos' : Pos} (hT : IsBuiltinName c sc ("sorted" : Str) (.builtin "sorted")) (hS : IsBuiltinName c sc ("set" : Str) (.type "set"))
    (hs : ∀ env, starEach [e] env = (false, eval e env) :: starEach [] env)
    (hs' : ∀ env, starEach [.Call (.Name ("set" : Str) np') [e] [] pos'] env = (false, eval (.Call (.Name ("set" : Str) np') [e] [] pos') env) :: starEach [] env) (he : SE c sc d e m) :
    SE c sc d (.Call (.Name ("sorted" : Str) np) [.Call (.Name ("set" : Str) np') [e] [] pos'] [] pos) (zf9 m) :=
  fun A env loc φ mh s Q P E hr hee H F q o => by
    refine wpAny_Call_ofName (zbo hee H hT.kind hT.none hT.boot hT.name hT.debug (zhe zai hs' (zne hS hs he hr hee H F q fun S is φ1 mh1 h1 tk1 es ep t q1 x1 H1 X hm => ⟨c.kin.keeps H1.base, ?_⟩)))
    refine zog (c := c) (s := { s with heap := h1, toks := tk1 }) hr.handled X fun l ws ns n h2 h' tk k2 k3 hl hg hI hp hso => ?_
    obtain ⟨H2, x2, r2⟩ := Hp.pushList (c := c) (a := l) (vs := ws) (n := n) (H1.keep k2) k3 hl hg (VRs.of_ints hI)
    refine o _ _ _ _ _ tk (q1 ns (hp.nodup_iff.mpr X.nodup) hso fun x => ?_) (x1.trans ((Ext.of_keep k2).trans x2)) H2 r2
    rw [hp.mem_iff, hm]
@[reducible] noncomputable def mLenSet (m : ME) : ME := fun loc Q mh => mSetOf m (fun is mh1 => ∀ ns : List Int, ns.Nodup → (∀ x, x ∈ ns ↔ x ∈ is) → Q (.int ns.length) mh1) loc mh
theorem zk1 {e : Expr} {m : ME} {np pos np' pos' : Pos} (hT : IsBuiltinName c sc ("len" : Str) (.builtin "len")) (hS : IsBuiltinName c sc ("set" : Str) (.type "set"))
    (hs : ∀ env, starEach [e] env = (false, eval e env) :: starEach [] env)
    (hs' : ∀ env, starEach [.Call (.Name ("set" : Str) np') [e] [] pos'] env = (false, eval (.Call (.Name ("set" : Str) np') [e] [] pos') env) :: starEach [] env) (he : SE c sc d e m) :
    SE c sc d (.Call (.Name ("len" : Str) np) [.Call (.Name ("set" : Str) np') [e] [] pos'] [] pos) (mLenSet m) :=
  fun A env loc φ mh s Q P E hr hee H F q o => by
    refine wpAny_Call_ofName (zbo hee H hT.kind hT.none hT.boot hT.name hT.debug (zhe zai hs' (zne hS hs he hr hee H F q fun S is φ1 mh1 h1 tk1 es ep t q1 x1 H1 X hm => ⟨c.kin.keeps H1.base, ?_⟩)))
    refine set_len (c := c) (s := { s with heap := h1, toks := tk1 }) X ?_
    have := q1 (es.toList.map keyE) X.nodup hm
    rw [List.length_map, Array.length_toList] at this
    exact o _ _ φ1 mh1 h1 _ this x1 H1 (.int _ _)
end
end Mine
end
section
namespace Mine
noncomputable abbrev ZipF (h : Heap) (z TI TO : Addr) (f0 : Value) (f1 : Bool) : Prop :=
  h.get? z = some { cls := .type "zip", dict := none, data := .fields #[f0, .bool f1, .bool false, .ref TI, .ref TO], slots := #[] }
section
variable {prog : Program} {w : World} {A : Around} {E : Value → Shared → Prop} {s : Shared}
theorem zf0 {a : Addr} {Q : Option Obj → Shared → Prop} (h : Q (s.heap.get? a) s) : wpAny (model prog w) A (loadIfAlive a) Q E s := fun _ _ _ => h
theorem zjb {z TI TO : Addr} {f0 : Value} {f1 : Bool} {Q : Bool → Shared → Prop} (hz : ZipF s.heap z TI TO f0 f1) (hf : f0 = .none ∨ ∃ T : Nat, f0 = rawInt T)
    (hQ : ∀ b f1' h', ZipF h' z TI TO f0 f1' → Heap.SameBut z s.heap h' → Q b { s with heap := h' }) : wpAny (model prog w) A (Builtin.SmallTypes.ownedTupleIsFree (.ref z)) Q E s := by
  unfold Builtin.SmallTypes.ownedTupleIsFree
  rcases hf with rfl | ⟨T, rfl⟩
  · refine wpAny_bind (wpAny_field hz rfl (x := .none) rfl (wpAny_pure ?_))
    exact hQ true f1 s.heap hz (Heap.SameBut.refl _ _)
  · refine wpAny_bind (wpAny_field hz rfl (x := rawInt T) rfl ?_)
    dsimp only [rawInt]
    refine wpAny_bind (zf0 ?_)
    cases hg : s.heap.get? (Int.toNat (T : Int)) with
    | none => exact wpAny_pure (hQ true f1 s.heap hz (Heap.SameBut.refl _ _))
    | some o =>
      refine wpAny_ite_split (fun h => by cases h) (fun _ => ?_)
      refine wpAny_bind (wpAny_field hz rfl (x := .bool f1) rfl ?_)
      refine wpAny_ite_split (fun _ => ?_) (fun _ => ?_)
      · refine wpAny_bind (wpAny_setField_rec hz (by simp) fun h₁ hz₁ hs₁ => wpAny_pure ?_)
        exact hQ false true h₁ hz₁ hs₁
      · exact wpAny_pure (hQ false f1 s.heap hz (Heap.SameBut.refl _ _))
noncomputable def ZipSt (h : Heap) (z TI TO i1 i2 l1 l2 : Addr) (xs ys : Array Value) (i : Nat) : Prop :=
  (∃ f0 f1, (f0 = .none ∨ ∃ T : Nat, f0 = rawInt T) ∧ ZipF h z TI TO f0 f1) ∧ IsPair h TI (.ref i1) (.ref i2) ∧ (∃ a b, IsPair h TO a b) ∧ h.IsListIter i1 l1 i ∧ h.IsListIter i2 l2 i ∧ h.IsList l1 xs ∧ h.IsList l2 ys
theorem zpp {z TI TO i1 i2 l1 l2 : Addr} {i : Nat} {xs ys : Array Value} {x y : Value} {Q : Value → Shared → Prop} (D : ZipApart z TI TO i1 i2 l1 l2)
    (hst : ZipSt s.heap z TI TO i1 i2 l1 l2 xs ys i) (hx : xs[i]? = some x) (hy : ys[i]? = some y)
    (hQ : ∀ h', ZipSt h' z TI TO i1 i2 l1 l2 xs ys (i + 1) → IsPair h' s.heap.objs.size x y → h'.objs.size = s.heap.objs.size + 1 →
      (∀ c o, c ≠ z → c ≠ TO → c ≠ i1 → c ≠ i2 → s.heap.get? c = some o → h'.get? c = some o) → Q (.ref s.heap.objs.size) { s with heap := h' }) :
    wpAny (model prog w) A (Builtin.«zip.__next__» ⟨[.ref z], []⟩) (fun fin s' => ∃ v, fin = .done (.ret v) ∧ Q v s') E s := by
  obtain ⟨⟨f0, f1, hf0, hz⟩, hTI, ⟨a, b, hTO⟩, h1, h2, hl1, hl2⟩ := hst
  show wpAny _ _ (field (.ref z) 2 >>= _) _ _ _
  refine wpAny_bind (wpAny_field hz rfl (x := .bool false) rfl ?_)
  show wpAny _ _ (field (.ref z) 3 >>= _) _ _ _
  refine wpAny_bind (wpAny_field hz rfl (x := .ref TI) rfl ?_)
  refine wpAny_bind (wpAny_seqItems hTI rfl ?_)
  show wpAny _ _ (Builtin.SmallTypes.ownedTupleIsFree (.ref z) >>= _) _ _ _
  refine wpAny_bind (zjb hz hf0 fun fr f1' h₀ hz₀ hs₀ => ?_)
  have e0 : ∀ c o, c ≠ z → s.heap.get? c = some o → h₀.get? c = some o := fun c o hc e => hs₀.extBut _ _ hc e
  have hTI0 : IsPair h₀ TI (.ref i1) (.ref i2) := e0 _ _ D.TIz hTI
  have hTO0 : IsPair h₀ TO a b := e0 _ _ D.TOz hTO
  have h10 := h1.extBut hs₀.extBut D.i1z
  have h20 := h2.extBut hs₀.extBut D.i2z
  have hl10 := hl1.extBut hs₀.extBut D.l1z
  have hl20 := hl2.extBut hs₀.extBut D.l2z
  have hs0 : h₀.objs.size = s.heap.objs.size := hs₀.1
  rw [← hs0] at hQ
  have hQ0 : ∀ h', ZipSt h' z TI TO i1 i2 l1 l2 xs ys (i + 1) → IsPair h' h₀.objs.size x y → h'.objs.size = h₀.objs.size + 1 →
      (∀ c o, c ≠ z → c ≠ TO → c ≠ i1 → c ≠ i2 → h₀.get? c = some o → h'.get? c = some o) → Q (.ref h₀.objs.size) { s with heap := h' } :=
    fun h' a1 a2 a3 a4 => hQ h' a1 a2 a3 fun c o c1 c2 c3 c4 e => a4 c o c1 c2 c3 c4 (e0 c o c1 e)
  clear hQ h1 h2 hl1 hl2 hz hTI hTO e0 hs0
  cases fr with
  | true =>
    simp only [if_true]
    refine wpAny_bind (wpAny_rule ?_)
    refine wpAny_bind (wpAny_field hz₀ rfl (x := .ref TO) rfl ?_)
    refine wpAny_bind (wpAny_setField_rec hz₀ (by simp) fun h₁ hz₁ hs₁ => ?_)
    replace hz₁ : ZipF h₁ z TI TO .ellipsis f1' := hz₁
    replace hs₁ : Heap.SameBut z h₀ h₁ := hs₁
    refine wpAny_bind ?_
    simp only [List.zipIdx_cons, List.zipIdx_nil, List.forIn_cons, List.forIn_nil]
    refine wpAny_bind (wpAny_bind (wpAny_onRaise ?_))
    show wpAny _ _ (Builtin.SmallTypes.nextOf (.ref i1) >>= _) _ _ _
    refine wpAny_bind (wpAny_nextOf_list_item (h10.extBut hs₁.extBut D.i1z) (hl10.extBut hs₁.extBut D.l1z) hx fun h₂ h1₂ hs₂ => wpAny_pure ?_)
    have hTO₂ : IsPair h₂ TO a b := hs₂.extBut _ _ D.TOi1 (hs₁.extBut _ _ D.TOz hTO0)
    refine wpAny_bind (wpAny_seqItems hTO₂ rfl ?_)
    refine wpAny_bind (wpAny_updateSeq_pair hTO₂ fun h₃ hTO₃ hs₃ => ?_)
    replace hTO₃ : IsPair h₃ TO x b := hTO₃
    refine wpAny_bind (wpAny_letGo (wpAny_pure ?_))
    refine wpAny_bind (wpAny_bind (wpAny_onRaise ?_))
    show wpAny _ _ (Builtin.SmallTypes.nextOf (.ref i2) >>= _) _ _ _
    refine wpAny_bind (wpAny_nextOf_list_item (((h20.extBut hs₁.extBut D.i2z).extBut hs₂.extBut D.i12.symm).extBut hs₃.extBut D.TOi2.symm)
      (((hl20.extBut hs₁.extBut D.l2z).extBut hs₂.extBut D.l2i1).extBut hs₃.extBut D.l2TO) hy fun h₄ h2₄ hs₄ => wpAny_pure ?_)
    have hTO₄ : IsPair h₄ TO x b := hs₄.extBut _ _ D.TOi2 hTO₃
    refine wpAny_bind (wpAny_seqItems hTO₄ rfl ?_)
    refine wpAny_bind (wpAny_updateSeq_pair hTO₄ fun h₅ hTO₅ hs₅ => ?_)
    replace hTO₅ : IsPair h₅ TO x y := hTO₅
    refine wpAny_bind (wpAny_letGo (wpAny_pure (wpAny_pure ?_)))
    refine wpAny_bind (wpAny_seqItems hTO₅ rfl ?_)
    refine wpAny_bind (wpAny_newTuple ?_)
    have hsz : h₅.objs.size = h₀.objs.size := by rw [hs₅.1, hs₄.1, hs₃.1, hs₂.1, hs₁.1]
    have hz₅ : ZipF h₅ z TI TO .ellipsis f1' := hs₅.extBut _ _ D.TOz.symm (hs₄.extBut _ _ D.i2z.symm (hs₃.extBut _ _ D.TOz.symm (hs₂.extBut _ _ D.i1z.symm hz₁)))
    have hk₅ : ∀ c o, c ≠ z → c ≠ TO → c ≠ i1 → c ≠ i2 → h₀.get? c = some o → h₅.get? c = some o := fun c o c1 c2 c3 c4 e =>
      hs₅.extBut _ _ c2 (hs₄.extBut _ _ c4 (hs₃.extBut _ _ c2 (hs₂.extBut _ _ c3 (hs₁.extBut _ _ c1 e))))
    have h1₅ : h₅.IsListIter i1 l1 (i + 1) := ((h1₂.extBut hs₃.extBut D.TOi1.symm).extBut hs₄.extBut D.i12).extBut hs₅.extBut D.TOi1.symm
    have h2₅ : h₅.IsListIter i2 l2 (i + 1) := h2₄.extBut hs₅.extBut D.TOi2.symm
    have hzlt : z < h₅.objs.size := Heap.lt_size hz₅
    show wpAny _ _ (Builtin.SmallTypes.ownedTupleHandOut (.ref z) (.ref h₅.objs.size) >>= _) _ _ _
    refine wpAny_bind ?_
    unfold Builtin.SmallTypes.ownedTupleHandOut
    have hz₆ : ZipF (h₅.push { cls := .type "tuple", data := .seq #[x, y] }) z TI TO .ellipsis f1' := Heap.get?_push_of_some _ hz₅
    refine wpAny_bind (wpAny_setField_rec hz₆ (by simp) fun h₇ hz₇ hs₇ => ?_)
    replace hz₇ : ZipF h₇ z TI TO (rawInt h₅.objs.size) f1' := hz₇
    refine wpAny_setField_rec hz₇ (by simp) fun h₈ hz₈ hs₈ => ?_
    replace hz₈ : ZipF h₈ z TI TO (rawInt h₅.objs.size) false := hz₈
    have up : ∀ c o, c ≠ z → h₅.get? c = some o → h₈.get? c = some o := fun c o c1 e => hs₈.extBut _ _ c1 (hs₇.extBut _ _ c1 (Heap.get?_push_of_some _ e))
    have hT₈ : IsPair h₈ h₅.objs.size x y := hs₈.extBut _ _ (Nat.ne_of_gt hzlt) (hs₇.extBut _ _ (Nat.ne_of_gt hzlt) (Heap.get?_push_size _ rfl))
    have hz8 : h₈.objs.size = h₅.objs.size + 1 := by rw [hs₈.1, hs₇.1, Heap.size_push]
    have hkk : ∀ c o, c ≠ z → c ≠ TO → c ≠ i1 → c ≠ i2 → h₀.get? c = some o → h₈.get? c = some o := fun c o c1 c2 c3 c4 e => up c o c1 (hk₅ c o c1 c2 c3 c4 e)
    rw [hsz] at hz₈ hT₈ hz8
    refine wpAny_pure ⟨_, rfl, ?_⟩
    show Q (.ref h₅.objs.size) _
    rw [hsz]
    refine hQ0 h₈ ⟨⟨_, _, .inr ⟨_, rfl⟩, hz₈⟩, hkk _ _ D.TIz D.TITO D.TIi1 D.TIi2 hTI0, ⟨x, y, up _ _ D.TOz hTO₅⟩, h1₅.at fun o e => up _ o D.i1z e, h2₅.at fun o e => up _ o D.i2z e, hl10.at fun o e => hkk _ o D.l1z D.l1TO D.l1i1 D.l1i2 e, hl20.at fun o e => hkk _ o D.l2z D.l2TO D.l2i1 D.l2i2 e⟩ hT₈ hz8 hkk
  | false =>
    simp only [Bool.false_eq_true, if_false]
    have ea : ∀ {β : Type} (b : β) (f : Value → β → Sem (ForInStep β)), forIn (#[Value.ref i1, Value.ref i2] : Array Value) b f = forIn [Value.ref i1, Value.ref i2] b f := fun b f => by rw [← Array.forIn_toList]
    rw [ea]
    simp only [List.forIn_cons, List.forIn_nil]
    refine wpAny_bind (wpAny_bind (wpAny_bind (wpAny_holding ?_)))
    show wpAny _ _ (Builtin.SmallTypes.nextOf (.ref i1) >>= _) _ _ _
    refine wpAny_bind (wpAny_nextOf_list_item h10 hl10 hx fun h₂ h1₂ hs₂ => wpAny_pure ?_)
    refine wpAny_pure ?_
    dsimp only
    refine wpAny_bind (wpAny_bind (wpAny_holding ?_))
    show wpAny _ _ (Builtin.SmallTypes.nextOf (.ref i2) >>= _) _ _ _
    refine wpAny_bind (wpAny_nextOf_list_item (h20.extBut hs₂.extBut D.i12.symm) (hl20.extBut hs₂.extBut D.l2i1) hy fun h₄ h2₄ hs₄ => wpAny_pure ?_)
    refine wpAny_pure ?_
    dsimp only
    refine wpAny_pure ?_
    refine wpAny_bind (wpAny_newTuple (hsz := by rw [sizeLine_eq]; show (2 : Nat) ≤ _; omega) ?_)
    refine wpAny_pure ⟨_, rfl, ?_⟩
    have hsz : h₄.objs.size = h₀.objs.size := by rw [hs₄.1, hs₂.1]
    have hk₄ : ∀ c o, c ≠ i1 → c ≠ i2 → h₀.get? c = some o → h₄.get? c = some o := fun c o c1 c2 e => hs₄.extBut _ _ c2 (hs₂.extBut _ _ c1 e)
    have hkk : ∀ c o, c ≠ i1 → c ≠ i2 → h₀.get? c = some o → (h₄.push { cls := .type "tuple", data := .seq #[x, y] }).get? c = some o := fun c o c1 c2 e => Heap.get?_push_of_some _ (hk₄ c o c1 c2 e)
    have hT : IsPair (h₄.push { cls := .type "tuple", data := .seq #[x, y] }) h₄.objs.size x y := Heap.get?_push_size _ rfl
    rw [hsz] at hT
    show Q (.ref h₄.objs.size) _
    rw [hsz]
    refine hQ0 _ ⟨⟨f0, f1', hf0, hkk _ _ D.i1z.symm D.i2z.symm hz₀⟩, hkk _ _ D.TIi1 D.TIi2 hTI0, ⟨a, b, hkk _ _ D.TOi1 D.TOi2 hTO0⟩, (h1₂.extBut hs₄.extBut D.i12).at fun o e => Heap.get?_push_of_some _ e, h2₄.at fun o e => Heap.get?_push_of_some _ e,
      hl10.at fun o e => hkk _ o D.l1i1 D.l1i2 e, hl20.at fun o e => hkk _ o D.l2i1 D.l2i2 e⟩ hT (by rw [Heap.size_push, hsz]) fun c o _ _ c3 c4 e => hkk c o c3 c4 e
theorem zq9 {z TI TO i1 i2 l1 l2 : Addr} {i : Nat} {xs ys : Array Value} {Q : Fin → Shared → Prop} (hh : A.handled = none) (D : ZipApart z TI TO i1 i2 l1 l2)
    (hst : ZipSt s.heap z TI TO i1 i2 l1 l2 xs ys i) (hx : xs[i]? = none)
    (hE : ∀ h' e, (∀ c o, c ≠ z → c ≠ TO → c ≠ i1 → c ≠ i2 → s.heap.get? c = some o → h'.get? c = some o) → (∃ o, h'.get? e = some o ∧ o.cls = .type "StopIteration") → E (.ref e) { s with heap := h' }) :
    wpAny (model prog w) A (Builtin.«zip.__next__» ⟨[.ref z], []⟩) Q E s := by
  obtain ⟨⟨f0, f1, hf0, hz⟩, hTI, ⟨a, b, hTO⟩, h1, h2, hl1, hl2⟩ := hst
  show wpAny _ _ (field (.ref z) 2 >>= _) _ _ _
  refine wpAny_bind (wpAny_field hz rfl (x := .bool false) rfl ?_)
  show wpAny _ _ (field (.ref z) 3 >>= _) _ _ _
  refine wpAny_bind (wpAny_field hz rfl (x := .ref TI) rfl ?_)
  refine wpAny_bind (wpAny_seqItems hTI rfl ?_)
  show wpAny _ _ (Builtin.SmallTypes.ownedTupleIsFree (.ref z) >>= _) _ _ _
  refine wpAny_bind (zjb hz hf0 fun fr f1' h₀ hz₀ hs₀ => ?_)
  have e0 : ∀ c o, c ≠ z → s.heap.get? c = some o → h₀.get? c = some o := fun c o hc e => hs₀.extBut _ _ hc e
  have h10 := h1.extBut hs₀.extBut D.i1z
  have hl10 := hl1.extBut hs₀.extBut D.l1z
  cases fr with
  | true =>
    simp only [if_true]
    refine wpAny_bind (wpAny_rule ?_)
    refine wpAny_bind (wpAny_field hz₀ rfl (x := .ref TO) rfl ?_)
    refine wpAny_bind (wpAny_setField_rec hz₀ (by simp) fun h₁ hz₁ hs₁ => ?_)
    replace hz₁ : ZipF h₁ z TI TO .ellipsis f1' := hz₁
    replace hs₁ : Heap.SameBut z h₀ h₁ := hs₁
    refine wpAny_bind ?_
    simp only [List.zipIdx_cons, List.zipIdx_nil, List.forIn_cons, List.forIn_nil]
    refine wpAny_bind (wpAny_bind (wpAny_onRaise ?_))
    show wpAny _ _ (Builtin.SmallTypes.nextOf (.ref i1) >>= _) _ _ _
    refine wpAny_bind (wpAny_nextOf_list_end hh (h10.extBut hs₁.extBut D.i1z) (hl10.extBut hs₁.extBut D.l1z) hx fun h₂ e hs₂ he => ?_)
    obtain ⟨oe, hoe, hce⟩ := he
    have hz₂ : ZipF h₂ z TI TO .ellipsis f1' := hs₂ _ _ D.i1z.symm hz₁
    have hez : e ≠ z := fun x => by subst x; rw [hz₂] at hoe; cases hoe; simp at hce
    exact wpAny_setField_rec hz₂ (by simp) fun h₃ _ hs₃ => hE h₃ e (fun c o c1 _ c3 _ x => hs₃.extBut _ _ c1 (hs₂ _ _ c3 (hs₁.extBut _ _ c1 (e0 _ _ c1 x)))) ⟨oe, hs₃.extBut _ _ hez hoe, hce⟩
  | false =>
    simp only [Bool.false_eq_true, if_false]
    have ea : ∀ {β : Type} (b : β) (f : Value → β → Sem (ForInStep β)), forIn (#[Value.ref i1, Value.ref i2] : Array Value) b f = forIn [Value.ref i1, Value.ref i2] b f := fun b f => by rw [← Array.forIn_toList]
    rw [ea]
    simp only [List.forIn_cons, List.forIn_nil]
    refine wpAny_bind (wpAny_bind (wpAny_bind (wpAny_holding ?_)))
    show wpAny _ _ (Builtin.SmallTypes.nextOf (.ref i1) >>= _) _ _ _
    refine wpAny_bind (wpAny_nextOf_list_end hh h10 hl10 hx fun h₂ e hs₂ he => ?_)
    exact hE h₂ e (fun c o c1 _ c3 _ x => hs₂ _ _ c3 (e0 _ _ c1 x)) he
end
end Mine
end
section
namespace Mine
theorem zqd : typeLookup (.type "zip") (Str.ofString "__len__") = pure none := by rw [typeLookup_type, builtinLookup_eq_fast]; kernel_rfl
theorem zot : typeLookup (.type "zip") (Str.ofString "__length_hint__") = pure none := by rw [typeLookup_type, builtinLookup_eq_fast]; kernel_rfl
section
variable {prog : Program} {w : World} {A : Around} {s : Shared}
theorem zsf {z : Addr} {Q : Bool → Shared → Prop} {E : Value → Shared → Prop} (hT : s.TypeIs (.ref z) "zip") (h : Q true s) : wpAny (model prog w) A (Builtin.List.listLengthHint (.ref z)) Q E s := by
  unfold Builtin.List.listLengthHint
  refine wpAny_bind (wpAny_specialOf hT zqd ?_)
  dsimp only
  refine wpAny_ite_split (fun hab => absurd hab (by decide)) (fun _ => ?_)
  refine wpAny_ite_split (fun hab => absurd hab (by decide)) (fun _ => ?_)
  refine wpAny_bind (wpAny_specialOf hT zot ?_)
  exact wpAny_pure h
noncomputable def zipP (S : Addr) (xs ys : List Value) (i : Nat) (v : Value) (h : Heap) : Prop := ∃ T x y, v = .ref T ∧ xs[i]? = some x ∧ ys[i]? = some y ∧ IsPair h T x y ∧ S < T
noncomputable def zipS (z TI TO i1 i2 l1 l2 S : Addr) (xs ys : List Value) (i : Nat) (h : Heap) : Prop := ZipSt h z TI TO i1 i2 l1 l2 xs.toArray ys.toArray i ∧ S < h.objs.size
theorem WalksH.zip {z TI TO i1 i2 l1 l2 S : Addr} {xs ys : List Value} (hh : A.handled = none) (D : ZipApart z TI TO i1 i2 l1 l2) (hlen : xs.length = ys.length) (hS : z < S) (hS1 : TO < S) (hS2 : i1 < S) (hS3 : i2 < S) :
    WalksH prog w A z S [z, TI, TO, i1, i2, l1, l2] [z, TO, i1, i2] xs.length (zipP S xs ys) (zipS z TI TO i1 i2 l1 l2 S xs ys) where
  sub := fun b hb => by
    rcases List.mem_cons.mp hb with rfl | hb
    · simp
    rcases List.mem_cons.mp hb with rfl | hb
    · simp
    rcases List.mem_cons.mp hb with rfl | hb
    · simp
    · have : b = i2 := by simpa using hb
      subst this; simp
  frame := fun i h h' st k hsz => by
    obtain ⟨⟨⟨f0, f1, hf0, hz⟩, hTI, ⟨a, b, hTO⟩, h1, h2, hl1, hl2⟩, hlt⟩ := st
    exact ⟨⟨⟨f0, f1, hf0, k z (by simp) _ hz⟩, k TI (by simp) _ hTI, ⟨a, b, k TO (by simp) _ hTO⟩, h1.at fun o e => k _ (by simp) o e, h2.at fun o e => k _ (by simp) o e, hl1.at fun o e => k _ (by simp) o e, hl2.at fun o e => k _ (by simp) o e⟩, Nat.lt_of_lt_of_le hlt hsz⟩
  pk := fun i v h h' hp k => by
    obtain ⟨T, x, y, rfl, hx, hy, ht, hST⟩ := hp
    refine ⟨T, x, y, rfl, hx, hy, k T _ (Nat.ne_of_gt hST) ?_ ht, hST⟩
    intro hm
    have hm' : T = z ∨ T = TO ∨ T = i1 ∨ T = i2 := by simpa using hm
    rcases hm' with rfl | rfl | rfl | rfl
    · exact absurd hST (Nat.not_lt.mpr (Nat.le_of_lt hS))
    · exact absurd hST (Nat.not_lt.mpr (Nat.le_of_lt hS1))
    · exact absurd hST (Nat.not_lt.mpr (Nat.le_of_lt hS2))
    · exact absurd hST (Nat.not_lt.mpr (Nat.le_of_lt hS3))
  item := fun i s Q E hi st hQ => by
    have hT : s.TypeIs (.ref z) "zip" := by obtain ⟨⟨⟨f0, f1, hf0, hz⟩, _⟩, _⟩ := st; exact ⟨_, hz, rfl⟩
    have hi' : i < ys.length := by omega
    unfold pyNext
    refine wpAny_bind (wpAny_attempt (wpAny_callSpecial?_slot (name := Str.ofString "__next__") hT F.slot_zip_next
      (wpAny_call_entry F.slot_zip_next hT F.entry_zip_next
        (zpp D st.1 (x := xs[i]) (y := ys[i]) (by simp [hi]) (by simp [hi']) fun h' a1 a2 a3 a4 => wpAny_pure ?_) (F.args_zip_next_1 _))))
    refine hQ _ h' s.toks ⟨_, xs[i], ys[i], rfl, by simp [hi], by simp [hi'], a2, st.2⟩ ⟨a1, by rw [a3]; exact Nat.lt_succ_of_lt st.2⟩ fun b o hb e => ?_
    have hb' : b ≠ z ∧ b ≠ TO ∧ b ≠ i1 ∧ b ≠ i2 := by simpa using hb
    exact a4 b o hb'.1 hb'.2.1 hb'.2.2.1 hb'.2.2.2 e
  done := fun s Q E st hQ => by
    have hT : s.TypeIs (.ref z) "zip" := by obtain ⟨⟨⟨f0, f1, hf0, hz⟩, _⟩, _⟩ := st; exact ⟨_, hz, rfl⟩
    unfold pyNext
    refine wpAny_bind (wpAny_attempt (wpAny_callSpecial?_slot (name := Str.ofString "__next__") hT F.slot_zip_next
      (wpAny_call_entry F.slot_zip_next hT F.entry_zip_next (zq9 hh D st.1 (by simp) fun h' e hk he => ?_) (F.args_zip_next_1 _))))
    obtain ⟨o, ho, hc⟩ := he
    refine wpAny_bind (wpAny_isInstance (T := "StopIteration") (b := true) ⟨o, ho, hc⟩ isSubtype_stop ?_)
    refine wpAny_pure (hQ _ _ fun b o hb e => ?_)
    have hb' : b ≠ z ∧ b ≠ TO ∧ b ≠ i1 ∧ b ≠ i2 := by simpa using hb
    exact hk b o hb'.1 hb'.2.1 hb'.2.2.1 hb'.2.2.2 e
end
noncomputable def zipM : List MV → List MV → List MV
  | a :: as, b :: bs => .tuple [a, b] :: zipM as bs
  | _, _ => []
theorem zeu : ∀ {as bs : List MV}, as.length = bs.length → (zipM as bs).length = as.length
  | [], _, _ => by simp [zipM]
  | a :: as, [], h => by simp at h
  | a :: as, b :: bs, h => by simp [zipM]; exact zeu (by simpa using h)
theorem znb : ∀ {as bs : List MV} {i : Nat} {x : MV}, (zipM as bs)[i]? = some x → ∃ a b, as[i]? = some a ∧ bs[i]? = some b ∧ x = .tuple [a, b]
  | [], _, i, x, h => by simp [zipM] at h
  | a :: as, [], i, x, h => by simp [zipM] at h
  | a :: as, b :: bs, 0, x, h => by simp [zipM] at h; subst h; exact ⟨a, b, rfl, rfl, rfl⟩
  | a :: as, b :: bs, i + 1, x, h => by
    obtain ⟨p, q, h1, h2, h3⟩ := znb (as := as) (bs := bs) (i := i) (by simpa [zipM] using h)
    exact ⟨p, q, by simpa using h1, by simpa using h2, h3⟩
section
variable {c : Cx} {sc : Scope} {d : Nat}
theorem zpq {s I l1 l2 : Nat} (h1 : l1 < I) (h2 : l2 < I) : ZipApart (I + 4) (I + 2) (I + 3) I (I + 1) l1 l2 := ktu_apart I l1 l2 h1 h2
theorem zo0 {A : Around} {φ : Phi} {s : Shared} {z TI TO i1 i2 l1 l2 : Addr} {vs ws : List Value} {xs ys : List MV} {Q : List Value → Shared → Prop} {E : Value → Shared → Prop} (hh : A.handled = none)
    (D : ZipApart z TI TO i1 i2 l1 l2) (hst : ZipSt s.heap z TI TO i1 i2 l1 l2 vs.toArray ws.toArray 0) (hlen : xs.length = ys.length) (hb : xs.length ≤ BIG) (rx : VRs s.heap φ vs xs) (ry : VRs s.heap φ ws ys)
    (keepx : ∀ h', (∀ b o, b ∉ [z, TO, i1, i2] → s.heap.get? b = some o → h'.get? b = some o) → VRs h' φ vs xs ∧ VRs h' φ ws ys)
    (o : ∀ us h' tk, VRs h' φ us (zipM xs ys) → (∀ b ob, b ∉ [z, TO, i1, i2] → s.heap.get? b = some ob → h'.get? b = some ob) → Q us { s with heap := h', toks := tk }) : wpAny c.M A (collect (.ref z)) Q E s := by
  have hlen' : vs.length = ws.length := by rw [rx.length, ry.length, hlen]
  obtain ⟨⟨f0, f1, hf0, hz⟩, hTI, ⟨a, b, hTO⟩, h1, h2, hl1, hl2⟩ := id hst
  have hzl := Heap.lt_size hz
  have hTOl := Heap.lt_size hTO
  have h1l : i1 < s.heap.objs.size := by obtain ⟨_, e, _⟩ := h1; exact Heap.lt_size e
  have h2l : i2 < s.heap.objs.size := by obtain ⟨_, e, _⟩ := h2; exact Heap.lt_size e
  have hTl := Heap.lt_size hTI
  have l1l : l1 < s.heap.objs.size := by obtain ⟨_, e, _⟩ := hl1; exact Heap.lt_size e
  have l2l : l2 < s.heap.objs.size := by obtain ⟨_, e, _⟩ := hl2; exact Heap.lt_size e
  refine zc5 (T := "zip") ⟨_, hz, rfl⟩ (by decide) (by decide) (fun b e => by cases e; exact hzl) fun E' => ?_
  have k0 := zaj (h := s.heap) (lstObj [] 0)
  have hz0 : ZipF (s.heap.push (lstObj [] 0)) z TI TO f0 f1 := k0 _ _ hz
  have hT0 : Shared.TypeIs { s with heap := s.heap.push (lstObj [] 0) } (.ref z) "zip" := ⟨_, hz0, rfl⟩
  refine wpAny_pyIter_slot hT0 F.slot_zip_iter (wpAny_call_entry F.slot_zip_iter hT0 F.entry_zip_iter ?_ (F.args_zip_iter_1 _))
  show wpAny _ _ (ret (.ref z)) _ _ _
  refine wpAny_pure ⟨_, rfl, "zip", _, hT0, F.slot_zip_next.lookup, ?_⟩
  refine zsf hT0 ?_
  refine ⟨z, _, _, _, _, _, rfl, WalksH.zip (A := A.in1) hh D hlen' hzl hTOl h1l h2l, ⟨⟨⟨f0, f1, hf0, hz0⟩, k0 _ _ hTI, ⟨a, b, k0 _ _ hTO⟩, h1.at fun o e => k0 _ _ e, h2.at fun o e => k0 _ _ e, hl1.at fun o e => k0 _ _ e, hl2.at fun o e => k0 _ _ e⟩, by rw [Heap.size_push]; exact Nat.lt_succ_self _⟩, ?_, Heap.get?_push_size _ rfl, by rw [rx.length]; exact zhc hb, fun h' tk us hk hl hP => ?_⟩
  · intro hm
    have hm' : s.heap.objs.size = z ∨ s.heap.objs.size = TI ∨ s.heap.objs.size = TO ∨ s.heap.objs.size = i1 ∨ s.heap.objs.size = i2 ∨ s.heap.objs.size = l1 ∨ s.heap.objs.size = l2 := by simpa using hm
    rcases hm' with e | e | e | e | e | e | e
    · exact Nat.ne_of_gt hzl e
    · exact Nat.ne_of_gt hTl e
    · exact Nat.ne_of_gt hTOl e
    · exact Nat.ne_of_gt h1l e
    · exact Nat.ne_of_gt h2l e
    · exact Nat.ne_of_gt l1l e
    · exact Nat.ne_of_gt l2l e
  · have hkk : ∀ b ob, b ∉ [z, TO, i1, i2] → s.heap.get? b = some ob → h'.get? b = some ob := fun b ob hb e => hk b ob (Nat.ne_of_lt (Heap.lt_size e)) hb (k0 _ _ e)
    obtain ⟨kx, ky⟩ := keepx h' hkk
    refine o us h' tk (VRs.of_get (by rw [hl, rx.length, zeu hlen]) fun j v m e1 e2 => ?_) hkk
    obtain ⟨T, x, y, rfl, hx, hy, ht, _⟩ := hP j v e1
    obtain ⟨p, q, hp, hq, rfl⟩ := znb e2
    obtain ⟨x', ex, rx'⟩ := kx.get hp
    obtain ⟨y', ey, ry'⟩ := ky.get hq
    rw [hx] at ex; cases ex
    rw [hy] at ey; cases ey
    exact .tuple (n := 0) (vs := [x, y]) ht (.cons rx' (.cons ry' .nil))
theorem zi0 {A : Around} {φ : Phi} {s : Shared} {z TI TO i1 i2 l1 l2 : Addr} {vs ws : List Value} {xs ys : List MV} {P : Value → Shared → Prop} {E : Value → Shared → Prop} (hh : A.handled = none)
    (D : ZipApart z TI TO i1 i2 l1 l2) (hst : ZipSt s.heap z TI TO i1 i2 l1 l2 vs.toArray ws.toArray 0) (hlen : xs.length = ys.length) (hb : xs.length ≤ BIG) (rx : VRs s.heap φ vs xs) (ry : VRs s.heap φ ws ys)
    (keepx : ∀ h', (∀ b o, b ∉ [z, TO, i1, i2] → s.heap.get? b = some o → h'.get? b = some o) → VRs h' φ vs xs ∧ VRs h' φ ws ys)
    (o : ∀ us h' a n tk, VRs h' φ us (zipM xs ys) → (h'.push { cls := .type "tuple", data := .seq us.toArray }).get? a = some (tupObj us n) → (∀ b ob, b ∉ [z, TO, i1, i2] → s.heap.get? b = some ob → h'.get? b = some ob) → P (.ref a) { s with heap := h'.push { cls := .type "tuple", data := .seq us.toArray }, toks := tk }) :
    wpAny c.M A (call (.type "tuple") [.ref z]) P E s := by
  have hT : s.TypeIs (.ref z) "zip" := by obtain ⟨⟨f0, f1, hf0, hz⟩, _⟩ := hst; exact ⟨_, hz, rfl⟩
  have hne : (Value.type "zip" == Value.type "tuple") = false := by decide
  refine callType_codes (Q₁ := fun obj s₁ => s₁.TypeIs obj "tuple" ∧ P obj s₁) PySem.F.called_tuple (PySem.F.typeCall_tuple_1 _) PySem.F.entry_object_init ?_ fun obj s₁ h₁ =>
    ⟨h₁.1, PySem.F.args_object_init_2 obj _, object_init_meets PySem.F.called_tuple.init.lookup PySem.F.called_tuple.made (by decide) c.prog c.w A.in1 _ s₁ ⟨h₁.1, rfl, h₁.2⟩⟩
  refine codeAny_of_tree ?_
  show wpAny _ A.in1.in1 (do checkBuiltinCall "tuple.__new__" ⟨[.type "tuple", .ref z], []⟩; again (.builtin "tuple.__new__" ⟨[.type "tuple", .ref z], []⟩)) _ _ s
  refine wpAny_bind (wpAny_of_eq (PySem.F.newCall_tuple_1 _) (wpAny_pure ⟨plainId_quiet PySem.F.plain_tuple_new _, codeAny_builtin PySem.F.entry_tuple_new ?_⟩))
  rw [Around.under_plainId PySem.F.plain_tuple_new _]
  have hsub := sub_tuple_self
  have hinit := init_tuple_lookup
  have hmh := madeHere_tuple
  have G : ∀ {A' : Around} {Q' : List Value → Shared → Prop} {E' : Value → Shared → Prop}, A'.handled = none → (∀ us h' tk, VRs h' φ us (zipM xs ys) → (∀ b ob, b ∉ [z, TO, i1, i2] → s.heap.get? b = some ob → h'.get? b = some ob) → Q' us { s with heap := h', toks := tk }) → wpAny (model c.prog c.w) A' (collect (.ref z)) Q' E' s :=
    fun hh' o' => zo0 hh' D hst hlen hb rx ry keepx o'
  wp_walk using wpAny_typeOf hT, G (A' := A.in1.in1) hh
  intro us h' tk rr k
  show wpAny _ _ (Builtin.Tuple.tupleExact us.toArray >>= fun v => ret v) _ _ _
  unfold Builtin.Tuple.tupleExact
  refine wpAny_bind (wpAny_newObj_type ?_ (by show us.toArray.size ≤ sizeLine; rw [List.size_toArray, rr.length, zeu hlen]; exact Nat.le_of_lt (zhc hb)))
  have g := Heap.get?_push_size h' (o := { cls := .type "tuple", data := .seq us.toArray }) rfl
  refine wpAny_pure ⟨⟨_, g, rfl⟩, ?_⟩
  exact o us h' _ 0 tk rr g k
theorem zg5 {h1 h2 h' : Heap} (hk : ∀ b ob, h1.get? b = some ob → h2.get? b = some ob) (k : ∀ b ob, b ∉ [h1.objs.size + 4, h1.objs.size + 3, h1.objs.size, h1.objs.size + 1] → h2.get? b = some ob → h'.get? b = some ob) :
    ∀ b ob, h1.get? b = some ob → h'.get? b = some ob := fun b ob e => k b ob (fun hm => by
  have hlt := Heap.lt_size e
  have big : ∀ n, ¬ h1.objs.size + n < h1.objs.size := fun n => Nat.not_lt.mpr (Nat.le_add_right _ _)
  rcases List.mem_cons.mp hm with rfl | hm
  · exact big 4 hlt
  rcases List.mem_cons.mp hm with rfl | hm
  · exact big 3 hlt
  rcases List.mem_cons.mp hm with rfl | hm
  · exact big 0 hlt
  rcases List.mem_cons.mp hm with rfl | hm
  · exact big 1 hlt
  · cases hm) (hk _ _ e)
noncomputable def zh4 (ms : List ME) : ME := fun loc Q mh => mList ms loc (fun as mh1 => ∃ r t xs ys, as = [.ref r, .ref t] ∧ mh1[r]? = some (.list xs) ∧ mh1[t]? = some (.list ys) ∧ xs.length = ys.length ∧ xs.length ≤ BIG ∧ Q (.tuple (zipM xs ys)) mh1) mh
theorem zmg {es : List Expr} {ms : List ME} {np pos np' pos' : Pos} (hT : IsBuiltinName c sc ("tuple" : Str) (.type "tuple")) (hS : IsBuiltinName c sc ("zip" : Str) (.type "zip"))
    (hs' : ∀ env, starEach [.Call (.Name ("zip" : Str) np') es [] pos'] env = (false, eval (.Call (.Name ("zip" : Str) np') es [] pos') env) :: starEach [] env) (hm : SEs c sc d es ms) :
    SE c sc d (.Call (.Name ("tuple" : Str) np) [.Call (.Name ("zip" : Str) np') es [] pos'] [] pos) (zh4 ms) :=
  fun A env loc φ mh s Q P E hr hee H F q o => by
    refine wpAny_Call_ofName (zbo hee H hT.kind hT.none hT.boot hT.name hT.debug (zhe zal hs' ?_))
    refine wpAny_Call_ofName (zbo hee H hS.kind hS.none hS.boot hS.name hS.debug (zd7 (first := []) zal hm hr hee H F q fun vs mvs φ1 mh1 h1 tk1 q1 x1 H1 r1 => ?_))
    obtain ⟨r, t, xs, ys, rfl, e1, e2, hlen, hb, q1⟩ := q1
    obtain ⟨v1, v2, rfl, ra, rb⟩ := r1.inv_two
    obtain ⟨l1, us, n1, rfl, _, hl1, rr1⟩ := H1.list_at ra e1
    obtain ⟨l2, ws, n2, rfl, _, hl2, rr2⟩ := H1.list_at rb e2
    refine call_zip_2 (s := { s with heap := h1, toks := tk1 }) (xs := us.toArray) (ys := ws.toArray) ⟨_, hl1, rfl, n1, rfl⟩ ⟨_, hl2, rfl, n2, rfl⟩ fun h2 hz hTI hTO hi1 hi2 hsz hk => ?_
    refine ⟨c.kin.keeps (H1.keep hk).base, ?_⟩
    refine zi0 (c := c) (φ := φ1) (s := { s with heap := h2, toks := tk1 }) hr.handled (zpq (s := 0) (Heap.lt_size hl1) (Heap.lt_size hl2)) ⟨⟨.none, false, .inl rfl, hz⟩, hTI, ⟨_, _, hTO⟩, hi1, hi2, ⟨_, hk _ _ hl1, rfl, n1, rfl⟩, ⟨_, hk _ _ hl2, rfl, n2, rfl⟩⟩ hlen hb (H1.vrs (.of_keep hk) rr1) (H1.vrs (.of_keep hk) rr2)
      (fun h' k => ⟨H1.vrs (.of_keep (zg5 hk k)) rr1, H1.vrs (.of_keep (zg5 hk k)) rr2⟩) fun us' h' a n tk rr g k => ?_
    have k3 : ∀ b ob, h1.get? b = some ob → (h'.push { cls := .type "tuple", data := .seq us'.toArray }).get? b = some ob := fun b ob e => zaj (h := h') _ _ _ (zg5 hk k _ _ e)
    exact o _ _ φ1 mh1 _ tk q1 (x1.trans (.of_keep k3)) (H1.keep k3) (.tuple g (((H1.keep (zg5 hk k)).vrs (.of_keep (zaj (h := h') _)) rr)))
end
end Mine
end
section
namespace Mine
section
variable {c : Cx} {sc : Scope} {d : Nat}
theorem zpk {q g : Addr} {self : Value} {es : List Expr} {ms : List ME} {pos pos' : Pos} (hf : fnIn c.K g = true) (hm : SEs c sc d es ms)
    {A : Around} {env : Env} {loc : Loc} {φ : Phi} {mh : MH} {s : Shared} {Q : List MV → MH → Prop} {P : Value → Shared → Prop} {E : Value → Shared → Prop}
    (hr : Room A d) (he : EnvOk env sc) (H : c.Hp φ mh s.heap) (F : FrR c env loc φ s.heap) (hq : s.heap.get? q = some (methodObj (.ref g) self)) (hqn : q ∉ addrs φ) (qq : mList ms loc Q mh)
    (o : ∀ vs mvs φ' mh' h' tk, Q mvs mh' → Ext φ φ' s.heap h' → c.Hp φ' mh' h' → VRs h' φ' vs mvs → wpAny c.M A (call (.ref q) vs) P E { s with heap := h', toks := tk }) :
    wpAny c.M A (callWith pos (.ref q) [] (backTo pos' (starEach es env)) []) P E s := by
  obtain ⟨h1, h2⟩ := zk0 hm pos' env
  refine callWith_of (P := fun h => MethP c.K q g self h) (M := c.M) (by rw [h1]; rfl) (fun h X => keeps_M hf h X) ?_
  have sp : wpAny c.M A (spliced (backTo pos' (starEach es env))) (fun vs s₁ => MethP c.K q g self s₁.heap ∧ wpAny c.M A (call (.ref q) ([] ++ vs)) P E s₁) E s :=
    zdj hm hr he H F qq fun vs mvs φ' mh' h' tk q' x H' r => ⟨⟨x.keep _ _ hqn hq, c.kin.keeps H'.base⟩, o vs mvs φ' mh' h' tk q' x H' r⟩
  cases es with
  | nil =>
    cases hm
    exact evalArgs_nil3 ⟨⟨hq, c.kin.keeps H.base⟩, by simpa using o [] [] φ mh s.heap s.toks qq (.refl _ _) H .nil⟩
  | cons e rest =>
    obtain ⟨x, r, hx⟩ := h2 e rest rfl
    rw [hx] at sp ⊢
    exact evalArgs_plain sp
structure SupOk (c : Cx) (cl : Str) (scope : Scope) (f f2 C D cc cda : Addr) (cd : Value) (name slf : Str) : Prop where
  at_ : clsAt c.K cl = some C
  code : cd = .ref cda
  codeo : ∃ ccl cdd vs ccs file tf, c.K.lookup cda = some ⟨ccl, cdd, .fields vs, ccs⟩ ∧ vs[2]? = some (.str file tf) ∧ ((c.prog.main.file : Str) == file) = true
  cell : ∃ cl cld csl, c.K.lookup cc = some ⟨cl, cld, .cell (some (.ref D)), csl⟩
  cls : ∃ cdD, clsIn c.K D = some cdD
  sub : mroIn c.K C (.ref D) = some true
  super : nsIn c.K mainGlobals "super" = some none
  opq : nsIn c.K cStatics "thirdparty.any" = some none
  meth : ks_superIn c.K C D name = some (some (.ref f2))
  fn : fnIn c.K f2 = true
  tfn : typeIn c.K (.ref f2) = some (.type "function")
  hn : (name == ("__class__" : Str)) = false
  hks : scope.names.lookup ("super" : Str) = some .globalImplicit
  hkc : scope.names.lookup ("__class__" : Str) = some .free
  hka : scope.names.lookup slf = some .local
  top : (c.prog.main.scope.names.lookup ("super" : Str)).isSome = false
theorem zrg {n : Nat} {scope : Scope} {cc : Addr} (hnd : (scope.names.map (·.1)).Nodup) (hkc : scope.names.lookup ("__class__" : Str) = some .free) :
    (cellsFrom n scope.names [("__class__", cc)]).lookup ("__class__" : Str) = some cc := by
  have hno : (cellsFrom n scope.names []).lookup ("__class__" : Str) = none := by
    rw [List.lookup_eq_none_iff]
    intro p hp'
    by_cases hpx : p.1 = ("__class__" : Str)
    · have h3 := zby (x := p.1) (a := p.2) hp'
      rw [hpx] at h3
      rw [zcd hnd h3] at hkc
      cases hkc
    · simpa using fun h => hpx h.symm
  rw [zaw, List.lookup_append, hno]
  rfl
theorem cls_obj {K : Frag} {D : Addr} {cd : ClassData} (e : clsIn K D = some cd) : ∃ oD, K.lookup D = some oD ∧ oD.data = .cls cd := by
  unfold clsIn at e
  split at e
  · rename_i ho
    cases e
    exact ⟨_, ho, rfl⟩
  · cases e
theorem sup_cls {K : Frag} {C D : Addr} {name : Str} {x : Option Value} (e : ks_superIn K C D name = some x) : ∃ cd, clsIn K C = some cd ∧ alongIn K name ((cd.mro.dropWhile (· != .ref D)).drop 1) = some x := by
  unfold ks_superIn at e
  cases hc : clsIn K C with
  | none => rw [hc] at e; cases e
  | some cd => rw [hc] at e; exact ⟨cd, rfl, e⟩
theorem fn_obj {K : Frag} {f : Addr} (e : typeIn K (.ref f) = some (.type "function")) : ∃ of, K.lookup f = some of ∧ of.cls = .type "function" := by
  have e : (K.lookup f).map (·.cls) = some (.type "function") := e
  cases z : K.lookup f with
  | none => rw [z] at e; cases e
  | some of => rw [z] at e; exact ⟨of, rfl, Option.some.inj e⟩
theorem zrf {φ : Phi} {mh : MH} {h : Heap} {v : Value} {r : Nat} {cl : Str} {fs : List (Str × MV)} {C : Addr} (H : c.Hp φ mh h) (em : mh[r]? = some (.inst cl fs)) (rv : VR h φ v (.ref r)) (hC : clsAt c.K cl = some C) :
    ∃ a d, v = .ref a ∧ h.get? a = some (instObj C d) := by
  obtain ⟨a, d, rfl, f1⟩ := rv.inv_ref
  have o1 := H.objs _ _ _ em f1
  cases o1 with
  | inst hc g2 g3 R => rw [hc] at hC; cases hC; exact ⟨_, _, rfl, g2⟩
theorem zre {C D f2 a d so : Addr} {name : Str} {h : Heap} {g dd t os} {pl : Sem Bool} {A : Around} {E : Value → Shared → Prop} {Q : Value × List Value → Shared → Prop} (X : c.K.In h)
    (hso : h.get? so = some { cls := .type "super", dict := none, data := .fields #[.ref D, .ref a, .ref C], slots := #[] }) (opq : nsIn c.K cStatics "thirdparty.any" = some none) (hm : ks_superIn c.K C D name = some (some (.ref f2)))
    (tfn : typeIn c.K (.ref f2) = some (.type "function")) (hi : h.get? a = some (instObj C d)) (hn : (name == ("__class__" : Str)) = false)
    (hq : Q (.ref h.objs.size, []) ⟨h.push { cls := .type "method", data := .fields #[.ref f2, .ref a] }, g, dd, t + 1, os⟩) : wpAny c.M A (getMethod (.ref so) name pl) Q E ⟨h, g, dd, t, os⟩ := by
  obtain ⟨cd, hc, ha⟩ := sup_cls hm
  obtain ⟨of, hof, hofc⟩ := fn_obj tfn
  refine ks_wpAny_getMethod_super hso (looks_opaque X opq) (l₀ := cd.mro) ?_ rfl X ha (X _ _ hof) hofc ?_ hn hq
  · exact fun A Q E s k q => wpAny_bind ((looks_clsIn X hc) A _ E s k (wpAny_pure q))
  · rintro rfl
    obtain ⟨oD, h1, h2⟩ := cls_obj hc
    have e := X _ _ h1
    rw [hi] at e
    cases e
    cases h2
theorem zrd {f f2 C D cc cda : Addr} {cl name slf : Str} {scope : Scope} {p0 p1 : Pos} {fd : FuncData} {oc : Value} {od : Option Addr} {osl : Array (Option Value)} {ar : Arg} {env : Env} {body : List Stmt} {whole : Sem Value} {pl : Sem Bool}
    {φ : Phi} {mh : MH} {h : Heap} {g dd t os} {loc : Loc} {r : Nat} {fs : List (Str × MV)} {A : Around} {E : Value → Shared → Prop} {G : Value × List Value → Shared → Prop}
    (hs : SupOk c cl scope f f2 C D cc cda fd.code name slf) (ho : c.K.lookup f = some ⟨oc, od, .func fd, osl⟩) (hp : (fd.params.posonlyargs ++ fd.params.args).head? = some ar) (har : ar.arg = slf)
    (he : EnvOk env scope) (hfu : env.func = some f) (hcd : env.code = fd.code) (hcl : env.cells.lookup ("__class__" : Str) = some cc) (H : c.Hp φ mh h) (F : FrR c env loc φ h)
    (hself : loc slf = some (.ref r)) (em : mh[r]? = some (.inst cl fs))
    (o : ∀ a q h' tk, (∀ b o, h.get? b = some o → h'.get? b = some o) → VR h φ (.ref a) (.ref r) → h'.get? q = some (methodObj (.ref f2) (.ref a)) → q ∉ addrs φ → G (.ref q, []) ⟨h', g, dd, tk, os⟩) :
    PySem.wpAt c.M A (.func body env) (attributeBase (.Call (.Name "super" p0) [] [] p1) name env whole) (fun ov s₁ => wpAny c.M A (getMethod ov name pl) G E s₁) E ⟨h, g, dd, t, os⟩ := by
  have X : c.K.In h := c.kin.keeps H.base
  have kof : ∀ x k, scope.names.lookup x = some k → env.kindOf x = some k := fun x k e => by show env.scope.names.lookup x = some k; rw [he.scope]; exact e
  obtain ⟨ccl, cdd, vs, ccs, file, tf, c1, c2, c3⟩ := hs.codeo
  obtain ⟨kl, kd, ksl, c4⟩ := hs.cell
  obtain ⟨cdD, c5⟩ := hs.cls
  obtain ⟨oD, hD1, hD2⟩ := cls_obj c5
  obtain ⟨mloc, hns, hl⟩ := F.ns
  obtain ⟨v, ev, rv⟩ := hl slf _ hself (kof _ _ hs.hka)
  obtain ⟨a, d, rfl, hi⟩ := zrf H em rv hs.at_
  refine ks_wpAt_super_base (of := ⟨oc, od, .func fd, osl⟩) (oc := ⟨ccl, cdd, .fields vs, ccs⟩) (kof _ _ hs.hks) (kof _ _ hs.hkc) hs.hn hfu (X _ _ ho) rfl hp (hcd.trans hs.code) (X _ _ c1) rfl c2 c3 hs.top ?_
  have hk : env.scope.kind = .function := by rw [he.scope]; exact he.kind
  refine ks_loadName_global hk (kof _ _ hs.hks) (loadGlobal_builtin (mg := c.mg) (mb := c.mb) (by rw [he.globals]; exact ns_at c.g fun o e => H.base _ o e) (mg_none_of c.kin c.g hs.super) (by rw [he.builtins]; exact ns_at c.b fun o e => H.base _ o e) ((c.builtins _ (by decide +kernel)).trans (by first | boot_by_name | rfl | kernel_rfl)) ⟨rfl, ?_⟩)
  refine wpAny_loadName_free (name := ("__class__" : Str)) hk (kof _ _ hs.hkc) hcl ⟨_, X _ _ c4, rfl⟩ ?_ (by decide +kernel)
  rw [har]
  refine wpAny_loadName_local hk (kof _ _ hs.hka) hns ev ?_
  refine ks_wpAny_isType_cls (X _ _ hD1) hD2 ⟨rfl, ?_⟩
  refine ks_wpAny_call_super (X _ _ hD1) hD2 hi rfl (fun c e => by cases e) (looks_mroIn X hs.sub) fun h3 e3 k3 => ?_
  have X3 : c.K.In h3 := c.kin.keeps (H.keep k3).base
  refine zre X3 e3 hs.opq hs.meth hs.tfn (k3 _ _ hi) hs.hn ?_
  exact o a h3.objs.size _ _ (fun b o e => Heap.get?_push_of_some _ (k3 b o e)) rv (Heap.get?_push_at rfl rfl) (zbu (H.keep k3) (Nat.le_refl _))
theorem zpi {f f2 C D cc cda : Addr} {qual cl name slf : Str} {params : Arguments} {es : List Expr} {scope : Scope} {ps : List Str} {t : MF} {ms : List ME} {p0 p1 p2 p3 p4 : Pos} {fd : FuncData} {oc : Value} {od : Option Addr} {osl : Array (Option Value)} {ar : Arg}
    (hf : FnIs c f qual params [.Expr (.Call (.Attribute (.Call (.Name "super" p0) [] [] p1) name p2) es [] p3) p4] scope ps [("__class__", cc)])
    (ho : c.K.lookup f = some ⟨oc, od, .func fd, osl⟩) (hp : (fd.params.posonlyargs ++ fd.params.args).head? = some ar) (har : ar.arg = slf)
    (hs : SupOk c cl scope f f2 C D cc cda fd.code name slf) (hm : SEs c scope d es ms) (ht : CodeV c d (.ref f2) t)
    (hsw : ∀ env, swapsWith (.Call (.Attribute (.Call (.Name "super" p0) [] [] p1) name p2) es [] p3) none p4.line env = pure false)
    (he' : ∀ env, ∃ pl, eval (.Call (.Attribute (.Call (.Name "super" p0) [] [] p1) name p2) es [] p3) env = (do
        let ov ← attributeBase (.Call (.Name "super" p0) [] [] p1) name env (eval (.Call (.Name "super" p0) [] [] p1) env)
        standAt p2.atName
        let (f, first) ← holding [ov] (getMethod ov name pl)
        callWith p3 f first (backTo p3 (starEach es env)) [])) :
    CodeV c (d + 1) (.ref f) (fun args Q mh => args.length = ps.length ∧ ∃ r fs, updAll ps args (fun _ => none) slf = some (.ref r) ∧ mh[r]? = some (.inst cl fs) ∧
      mList ms (updAll ps args fun _ => none) (fun vs mh1 => t (.ref r :: vs) (fun _ mh2 => Q .none mh2) mh1) mh) :=
  fun A φ mh s args margs Q P E hr H ra q o => by
    obtain ⟨hlen, r, fs, hself, em, q⟩ := q
    obtain ⟨oc', od', osl', fd', ho', e1, e2, e3, e4, e5, e6, hcd, hbind⟩ := hf.obj
    rw [ho] at ho'; cases ho'
    have X : c.K.In s.heap := c.kin.keeps H.base
    refine codeAny_call_function (by have := hr.depth; omega) (X _ _ ho) rfl (by rw [e3]; exact hf.co) (by rw [e3]; exact hf.gen) e2 (codeRec_of X hcd) ?_
    rw [hbind args (by rw [ra.length]; exact hlen)]
    refine wpAny_pure ?_
    rw [e3, e4, e5, e6]
    unfold newFunctionEnv
    refine wpAny_bind (wpAny_alloc ?_)
    refine wpAny_bind (wpAny_layCells _ (fun name kind cells => ?_) scope.names [("__class__", cc)] _ _ ?_)
    · rfl
    · dsimp only
      rw [Heap.size_push]
      obtain ⟨F1, he1, k1, hown⟩ := zny (qual := fd.qualname ++ ".<locals>.") (f := f) (cd := fd.code) hf.cl H
      have x1 : Ext φ φ s.heap (pushCells (s.heap.push { cls := .type "frame", data := .dict #[] }) scope.names) := .of_keep k1
      have H1 := H.keep k1
      refine wpAny_bind ?_
      refine zim (s := { s with heap := pushCells (s.heap.push { cls := .type "frame", data := .dict #[] }) scope.names }) (env := fnEnv scope s.heap.objs.size [("__class__", cc)] (fd.qualname ++ ".<locals>.") f fd.code) he1 ps hf.ps H1 F1 (H.vrs x1 ra) fun h2 tk2 x2 H2 F2 => ?_
      refine wpAny_pure ⟨c.nolimit.keeps H2.base, ks_codeAny_funcAt ?_⟩
      obtain ⟨pl, he2⟩ := he' (fnEnv scope s.heap.objs.size [("__class__", cc)] (fd.qualname ++ ".<locals>.") f fd.code)
      refine ks_wpAt_execs_cons (ks_wpAt_Expr_any (ks_wpAt_MethodCall (pl := pl) (zrd hs ho hp har he1 rfl rfl (zrg hf.cl.nodup hs.hkc) H2 F2 hself em fun a q' h' tk k4 r4 hq hqn => ?_) he2) ?_ (hsw _))
      · have x4 : Ext φ φ h2 h' := .of_keep k4
        have H4 := H2.keep k4
        refine zpk hs.fn hm hr.deeper he1 H4 (F2.ext H2 x4) hq hqn q fun vs mvs φ5 mh5 h5 tk5 q5 x5 H5 r5 => ?_
        refine wpAny_call (method_call (x5.keep _ _ hqn hq) (ht _ φ5 mh5 _ _ _ _ _ _ hr.deeper H5 (.cons (H4.vr x5 (H2.vr x4 r4)) r5) q5 fun v mv φ6 mh6 h6 tk6 q6 x6 H6 r7 => ?_))
        refine wpAt_of_wpAny (wpAny_execs_nil ?_)
        exact o _ _ φ6 mh6 h6 tk6 q6 (x1.thenW (x2.asW.trans ((x4.trans x5).trans x6 |>.toW (zan F2))) hown) H6 .none
      · unfold interactive; show (scope.kind == .module && _) = false; rw [hf.cl.kind]; rfl
end
end Mine
end
section
namespace Mine
noncomputable def lk (a : Nat) : Frag → Option Obj
  | [] => none
  | (b, o) :: r => bif Nat.beq a b then some o else lk a r
theorem lk_eq {a : Nat} : ∀ {K : Frag}, lk a K = K.lookup a
  | [] => rfl
  | (b, o) :: r => by
    unfold lk
    rw [List.lookup_cons, lk_eq]
    have h : Nat.beq a b = (a == b) := by
      rw [Bool.eq_iff_iff, Nat.beq_eq, beq_iff_eq]
    rw [h]
    cases a == b <;> rfl
noncomputable def fdOf (K : Frag) (f : Addr) : Option FuncData := match lk f K with
  | some ⟨_, _, .func fd, _⟩ => some fd
  | _ => none
noncomputable def bodyOf (K : Frag) (f : Addr) : List Stmt := match fdOf K f with
  | some fd => (match fd.body with | .stmts b => b | _ => [])
  | none => []
noncomputable def scopeOf (K : Frag) (f : Addr) : Scope := match fdOf K f with
  | some fd => fd.scope
  | none => default
noncomputable def isStmts : FuncBody → Bool
  | .stmts _ => true
  | _ => false
noncomputable def fnChk (K : Frag) (f : Addr) (cl : List (Str × Addr)) : Bool := match fdOf K f with
  | some fd => isStmts fd.body && fd.globals == mainGlobals && fd.closure == cl && fd.builtins == builtinsNs && codeIn K fd.code fd.qualname &&
      !fd.scope.isCoroutine && !fd.scope.isGenerator && fd.scope.kind == .function && decide (fd.scope.names.map (·.1)).Nodup
  | none => false
theorem zid {K : Frag} {f : Addr} {fd : FuncData} (h : fdOf K f = some fd) : ∃ oc od osl, K.lookup f = some ⟨oc, od, .func fd, osl⟩ := by
  unfold fdOf at h
  rw [lk_eq] at h
  split at h
  · rename_i a b fd' d e
    cases h
    exact ⟨_, _, _, e⟩
  · cases h
noncomputable def AllLen {α : Type} : Nat → (List α → Prop) → Prop
  | 0, p => p []
  | n + 1, p => ∀ a, AllLen n fun l => p (a :: l)
theorem AllLen.all {α : Type} {n : Nat} : ∀ {p : List α → Prop}, AllLen n p → ∀ vs : List α, vs.length = n → p vs := by
  induction n with
  | zero => intro p h vs e; rw [List.length_eq_zero_iff.mp e]; exact h
  | succ n ih => intro p h vs e; obtain ⟨a, l, rfl⟩ := List.exists_cons_of_length_eq_add_one e; exact ih (h a) l (Nat.succ.inj e)
noncomputable abbrev BindsTo (K : Frag) (f : Addr) (ps : List Str) : Prop := AllLen ps.length fun vs => (fdOf K f).map (fun fd => bindArgs fd ⟨vs, []⟩) = some (pure (ps.zip vs))
theorem BindsTo.of {K : Frag} {f : Addr} {ps : List Str} (h : BindsTo K f ps) {fd : FuncData} (e : fdOf K f = some fd) (vs : List Value) (hv : vs.length = ps.length) : bindArgs fd ⟨vs, []⟩ = pure (ps.zip vs) := by
  have := h.all vs hv
  rw [e] at this
  exact Option.some.inj this
theorem fn_is {c : Cx} {K : Frag} {f : Addr} {ps : List Str} (hK : c.K = K) (h : fnChk K f [] = true)
    (hb : BindsTo K f ps)
    (hp : ∀ x ∈ ps, (scopeOf K f).names.lookup x = some .local ∨ (scopeOf K f).names.lookup x = some .cell)
    (hfree : ((scopeOf K f).names.all fun p => p.2 != .free) = true) :
    ∃ q a, FnIs c f q a (bodyOf K f) (scopeOf K f) ps [] := by
  cases e : fdOf K f with
  | none => unfold fnChk at h; rw [e] at h; cases h
  | some fd =>
    unfold fnChk at h
    rw [e] at h
    simp only [Bool.and_eq_true, beq_iff_eq, Bool.not_eq_true', decide_eq_true_eq] at h
    obtain ⟨⟨⟨⟨⟨⟨⟨⟨h1, h2⟩, h3⟩, h4⟩, h5⟩, h6⟩, h7⟩, h8⟩, h9⟩ := h
    obtain ⟨oc, od, osl, ho⟩ := zid e
    have hs : scopeOf K f = fd.scope := by unfold scopeOf; rw [e]
    have hbd : fd.body = .stmts (bodyOf K f) := by
      unfold bodyOf; rw [e]
      dsimp only
      cases hh : fd.body with
      | stmts b => rfl
      | _ => rw [hh] at h1; simp [isStmts] at h1
    refine ⟨fd.qualname, fd.params, ⟨oc, od, osl, fd, by rw [hK]; exact ho, rfl, hbd, hs.symm, h2, h3, h4, by rw [hK]; exact h5, hb.of e⟩, by rw [hs]; exact h6, by rw [hs]; exact h7, ?_, hp⟩
    refine ⟨by rw [hs]; exact h8, by rw [hs]; exact h9, fun x b hx => (by cases hx), fun x y b hx => (by cases hx), fun x hx => ?_⟩
    rw [List.all_eq_true] at hfree
    have hm : (x, NameKind.free) ∈ (scopeOf K f).names := by
      obtain ⟨l1, l2, hl, _⟩ := List.lookup_eq_some_iff.mp hx
      rw [hl]; simp
    have := hfree _ hm
    simp at this
theorem code_of {c : Cx} {K : Frag} {f : Addr} {ps : List Str} {m : MS} {d : Nat} {t : MF} (hf : ∃ q a, FnIs c f q a (bodyOf K f) (scopeOf K f) ps []) (hb : SB c (scopeOf K f) d (bodyOf K f) m)
    (ht : ∀ args Q mh, t args Q mh → mFun ps m args Q mh) : CodeV c (d + 1) (.ref f) t :=
  let ⟨_, _, h⟩ := hf; (call_fn h hb).mono ht
noncomputable def tNo : MF := fun _ _ _ => False
theorem call_no {c : Cx} {d : Nat} {f : Value} : CallV c d f tNo := fun A φ mh s args margs Q P E hr H ra q o => q.elim
end Mine
end
section
namespace Mine
theorem str_inj {a b : String} : (Str.ofString a = Str.ofString b) ↔ a = b := by
  refine ⟨fun h => ?_, fun h => by rw [h]⟩
  rw [Str.ofString_eq_toList, Str.ofString_eq_toList] at h
  have h2 : (a.toList.map Char.toNat) = (b.toList.map Char.toNat) := by
    have := congrArg (fun s : Str => s.cps.toList) h
    simpa using this
  have h3 : a.toList = b.toList := by
    refine (List.map_inj_right ?_).mp h2
    intro x y e
    exact Char.ext (UInt32.toNat_inj.mp e)
  exact String.toList_inj.mp h3
theorem memn {α : Type} {P : α → Prop} : ∀ x ∈ ([] : List α), P x := fun _ h => by cases h
theorem memc {α : Type} {P : α → Prop} {a : α} {l : List α} (h : P a) (t : ∀ x ∈ l, P x) : ∀ x ∈ a :: l, P x := List.forall_mem_cons.mpr ⟨h, t⟩
section
variable {c : Cx} {sc : Scope} {d : Nat}
noncomputable def fldI (cl name : Str) (Q : MV → MH → Prop) (o : MV) (mh : MH) : Prop := ∃ r fs x, o = .ref r ∧ mh[r]? = some (.inst cl fs) ∧ fget fs name = some x ∧ Q x mh
@[reducible] noncomputable def mAttrF (cl name : Str) (m : ME) : ME := fun loc Q mh => m loc (fldI cl name Q) mh
theorem zau {value : Expr} {name cl : Str} {pos : Pos} {m : ME} (hm : SE c sc d value m) (ok : fldOk c.K cl name = true)
    (he' : ∀ env, eval (.Attribute value name pos) env = (do
      let o ← eval value env
      standAt pos.atName
      let r ← holding [o] (getAttr o name true)
      letTemporaryGo value o r
      pure r)) : SE c sc d (.Attribute value name pos) (mAttrF cl name m) :=
  fun A env loc φ mh s Q P E hr he H F q o => Attribute_any_ (hm A env loc φ mh s _ _ E hr he H F q fun v mv φ' mh' h' tk q' x H' rv => by
    obtain ⟨r, fs, y, rfl, e, g, q'⟩ := q'
    exact zkf (s := { s with heap := h', toks := tk }) H' rv e g ok fun v2 tk2 r2 => o v2 _ φ' mh' h' tk2 q' x H' r2) (he' env)
noncomputable def putI (cl name : Str) (v : MV) (Q : MH → Prop) (o : MV) (mh : MH) : Prop := ∃ r fs, o = .ref r ∧ mh[r]? = some (.inst cl fs) ∧ fs.length ≤ 900 ∧ Q (mh.set r (.inst cl (kset fs name v)))
@[reducible] noncomputable def aAttrF (cl name : Str) (m : ME) : MA := fun v Q loc mh => m loc (putI cl name v (Q loc)) mh
theorem zbb {value : Expr} {name cl : Str} {pos : Pos} {m : ME} (hm : SE c sc d value m) (ok : fldOk c.K cl name = true) : SA c sc d (.Attribute value name pos) (aAttrF cl name m) :=
  fun A env loc φ mh s v mv Q P E hr he H F r q o => by
    rw [assign_Attribute]
    refine wpAny_bind (wpAny_holding (wpAny_mono (hm A env loc φ mh s _ (fun ov s₁ => wpAny c.M A (setAttr ov name v) P E s₁) E hr he H F q fun a m1 φ1 mh1 h1 tk1 q1 x1 H1 r1 => ?_) (fun ov s₁ hh => ?_) fun _ _ z => z))
    · obtain ⟨rr, fs, rfl, e, hl, q1⟩ := q1
      refine zj0 (s := { s with heap := h1, toks := tk1 }) H1 r1 (H.vr x1 r) e ok hl fun h2 tk2 x2 H2 => ?_
      exact Ext.outA (s := s) o H F (x1.trans x2) H2 q1
    · exact wpAny_bind (wpAny_standAt (wpAny_bind (wpAny_holding (wpAny_mono hh (fun _ _ z => wpAny_release z) fun _ _ z => z))))
noncomputable def selfI (cl name : Str) (k : MV → MH → Prop) (o : MV) (mh : MH) : Prop := ∃ r fs, o = .ref r ∧ mh[r]? = some (.inst cl fs) ∧ fget fs name = none ∧ k o mh
@[reducible] noncomputable def mMethF (cl name : Str) (mo : ME) (t : MF) (ms : List ME) : ME := fun loc Q mh => mo loc (selfI cl name fun o mh => mList ms loc (fun vs mh => t (o :: vs) Q mh) mh) mh
theorem zba {o : Expr} {name cl : Str} {apos pos : Pos} {es : List Expr} {mo : ME} {ms : List ME} {t : MF} {f : Addr} {pl : Env → Sem Bool} (hmo : SE c sc d o mo) (hf : methAt c.K cl name = some f) (ht : CallV c d (.ref f) t) (hm : SEs c sc d es ms)
    (he' : ∀ env, eval (.Call (.Attribute o name apos) es [] pos) env = (do
      let ov ← eval o env
      standAt apos.atName
      let (f, first) ← holding [ov] (getMethod ov name (pl env))
      callWith pos f first (backTo pos (starEach es env)) [])) : SE c sc d (.Call (.Attribute o name apos) es [] pos) (mMethF cl name mo t ms) := se_meth hmo hf ht hm he'
noncomputable def restrF (fr : List Str) (loc : Loc) : Loc := fun x => if x ∈ fr then loc x else none
noncomputable def freesOf (scope : Scope) : List Str := (scope.names.filter fun p => p.2 == .free).map (·.1)
noncomputable def freesEq (scope : Scope) (fr : List Str) : Bool := ((freesOf scope).all fun x => decide (x ∈ fr)) && fr.all fun x => decide (x ∈ freesOf scope)
theorem zmz {scope : Scope} {fr : List Str} (h : freesEq scope fr = true) (x : Str) : x ∈ freesOf scope ↔ x ∈ fr := by
  unfold freesEq at h
  simp only [Bool.and_eq_true, List.all_eq_true, decide_eq_true_eq] at h
  exact ⟨h.1 x, h.2 x⟩
theorem zrp {scope sc : Scope} (h : zbe scope sc = true) {fr : List Str} (hf : freesEq scope fr = true) (loc : Loc) : restr scope loc = restrF fr loc := by
  funext x
  unfold restr restrF
  have hn := (CompScope.of h).nodup
  have : scope.names.lookup x = some .free ↔ x ∈ fr := by
    rw [← zmz hf]
    unfold freesOf
    simp only [List.mem_map, List.mem_filter, beq_iff_eq]
    constructor
    · intro e
      obtain ⟨l1, l2, hl, _⟩ := List.lookup_eq_some_iff.mp e
      exact ⟨(x, .free), ⟨by rw [hl]; simp, rfl⟩, rfl⟩
    · rintro ⟨⟨y, k⟩, ⟨hm, rfl⟩, rfl⟩
      exact zcd hn hm
  simp only [this]
@[reducible] noncomputable def mCompF (fr : List Str) (mi : MI) (t : Tgt) (test : MT) (inner : CI) (acc0 : MO) : ME := fun loc Q mh =>
  mi loc (fun x mh => ∃ vs, compI x vs t test inner vs (restrF fr loc) acc0 (fun _ acc mh => Q (.ref mh.length) (mh ++ [acc])) mh) mh
theorem mComp_F {scope sc : Scope} (h : zbe scope sc = true) {fr : List Str} (hf : freesEq scope fr = true) {mi : MI} {t : Tgt} {test : MT} {inner : CI} {acc0 : MO} : mComp scope mi t test inner acc0 = mCompF fr mi t test inner acc0 := by
  funext loc Q mh
  unfold mComp mCompF
  rw [zrp h hf]
theorem form1 {elt tgt iter : Expr} {ifs : List Expr} {scope : Scope} {pos : Pos} {mi : MI} {t : Tgt} {test : MT} {m : ME} {en : Bool} {fr : List Str} (hf : freesEq scope fr = true)
    (hsc : zbe scope sc = true) (hkind : sc.kind = .function) (hi : SI c sc d iter en mi) (hen : en = false ∨ ∃ es k p, tgt = .Tuple es k p) (htg : tgtOf tgt = some t)
    (hk : ∀ y ∈ t.names, scope.names.lookup y = some .local ∨ scope.names.lookup y = some .cell)
    (hT : TestS c (relab scope sc) d ifs test) (hm : SE c (relab scope sc) d elt m) (hs : ∀ env x, foldedSetIterable iter env x = pure x) :
    CompForm c sc d (.ListComp elt [⟨tgt, iter, ifs, 0⟩] scope pos) scope (newList []) iter (mCompF fr mi t test (ciElt m) (.list [])) := by
  rw [← mComp_F hsc hf]
  exact zo7 hsc hkind hi hen htg hk hT hm hs
theorem form2 {elt t1 i1 t2 i2 : Expr} {ifs1 ifs2 : List Expr} {scope : Scope} {pos : Pos} {mi1 mi2 : MI} {g1 g2 : Tgt} {test1 test2 : MT} {m : ME} {en1 en2 : Bool} {fr : List Str} (hf : freesEq scope fr = true)
    (hsc : zbe scope sc = true) (hkind : sc.kind = .function) (hi1 : SI c sc d i1 en1 mi1) (hen1 : en1 = false ∨ ∃ es k p, t1 = .Tuple es k p) (htg1 : tgtOf t1 = some g1)
    (hk1 : ∀ y ∈ g1.names, scope.names.lookup y = some .local ∨ scope.names.lookup y = some .cell)
    (hi2 : SI c (relab scope sc) d i2 en2 mi2) (hen2 : en2 = false ∨ ∃ es k p, t2 = .Tuple es k p) (htg2 : tgtOf t2 = some g2)
    (hk2 : ∀ y ∈ g2.names, scope.names.lookup y = some .local ∨ scope.names.lookup y = some .cell)
    (hT1 : TestS c (relab scope sc) d ifs1 test1) (hT2 : TestS c (relab scope sc) d ifs2 test2) (hm : SE c (relab scope sc) d elt m) (hs1 : ∀ env x, foldedSetIterable i1 env x = pure x) (hs2 : ∀ env x, foldedSetIterable i2 env x = pure x) :
    CompForm c sc d (.ListComp elt [⟨t1, i1, ifs1, 0⟩, ⟨t2, i2, ifs2, 0⟩] scope pos) scope (newList []) i1 (mCompF fr mi1 g1 test1 (ciNext mi2 g2 test2 (ciElt m)) (.list [])) := by
  rw [← mComp_F hsc hf]
  exact zo6 hsc hkind hi1 hen1 htg1 hk1 hi2 hen2 htg2 hk2 hT1 hT2 hm hs1 hs2
end
theorem bt_len : bootBuiltins "len" = some (.builtin "len") := by kernel_rfl
theorem bt_max : bootBuiltins "max" = some (.builtin "max") := by kernel_rfl
theorem bt_min : bootBuiltins "min" = some (.builtin "min") := by kernel_rfl
theorem zfy : bootBuiltins "sorted" = some (.builtin "sorted") := by kernel_rfl
theorem bt_int : bootBuiltins "int" = some (.type "int") := by kernel_rfl
theorem zb0 : bootBuiltins "range" = some (.type "range") := by kernel_rfl
theorem bt_list : bootBuiltins "list" = some (.type "list") := by kernel_rfl
theorem zei : bootBuiltins "tuple" = some (.type "tuple") := by kernel_rfl
theorem bt_set : bootBuiltins "set" = some (.type "set") := by kernel_rfl
theorem bt_zip : bootBuiltins "zip" = some (.type "zip") := by kernel_rfl
theorem nn_name (x : String) (h : x ≠ "__name__") : (Str.ofString x) ≠ "__name__" := fun e => h (str_inj.mp e)
end Mine
end
section
namespace Mine
section
variable {c : Cx} {sc : Scope} {d : Nat}
noncomputable def mSliceZ (L : Addr) (is : List Int) (ma : ME) (lo hi : Option ME) : ME := fun loc Q mh => ma loc (fun a mh => partM lo loc (fun l mh => partM hi loc (fun u mh => (l = none ∨ u = none) ∧ a = .frozen L ∧ is.length ≤ BIG ∧ Q (.ref mh.length) (mh ++ [.list (cutM l u (is.map .int))])) mh) mh) mh
theorem zp3 {L : Addr} {is : List Int} {xs : List Value} (hL : c.hB.IsList L xs.toArray) (hI : IntsAre xs is) {value : Expr} {lower upper : Option Expr} {p pos : Pos} {ma : ME} {lo hi : Option ME} (ha : SE c sc d value ma) (hl : SPart c sc d lower lo) (hu : SPart c sc d upper hi) :
    SE c sc d (.Subscript value (.Slice lower upper none p) pos) (mSliceZ L is ma lo hi) :=
  fun A env loc φ mh s Q P E hr he H F q o => by
    refine Subscript_ (ha A env loc φ mh s _ _ E hr he H F q fun a ma φ1 mh1 h1 tk1 q1 x1 H1 r1 => wpAny_Slice ?_)
    refine zja hl hr he H1 (F.ext H x1) q1 fun vl il φ2 mh2 h2 tk2 q2 pl bl x2 H2 => ?_
    refine zja (s := { s with heap := h2, toks := tk2 }) hu hr he H2 ((F.ext H x1).ext H1 x2) q2 fun vu iu φ3 mh3 h3 tk3 q3 pu bu x3 H3 => ?_
    rw [evalPart_none]
    refine wpAny_pure ?_
    obtain ⟨hone, rfl, hb, q3⟩ := q3
    cases r1
    obtain ⟨oL, g0, gc, n, gd⟩ := hL
    have g := H3.base _ _ g0
    have rs : VRs h3 φ3 xs (is.map .int) := .of_ints hI
    have hlen := rs.length
    have hsz : xs.toArray.size ≤ sizeLine := by
      have : xs.length ≤ BIG := by rw [hlen]; simpa using hb
      simpa using zay this
    obtain ⟨ops, hs⟩ := zdt (.Slice lower upper none p) (.ref L) (.ref h3.objs.size)
    have k1 := zaj (h := h3) { cls := .type "slice", data := .fields #[vl, vu, .none] }
    have hl : (h3.push { cls := .type "slice", data := .fields #[vl, vu, .none] }).IsList L xs.toArray := ⟨_, k1 _ _ g, gc, n, gd⟩
    refine tail_any (T := "list") (s := { s with heap := h3.push { cls := .type "slice", data := .fields #[vl, vu, .none] }, toks := tk3 }) ⟨_, k1 _ _ g, gc⟩ list_getitem_lookup (wpAny_getItem_list_slice hl (Heap.IsSliceOf.new ..) pl pu .none (by simp) ?_ hsz) hs
    have k2 := zaj (h := h3.push { cls := .type "slice", data := .fields #[vl, vu, .none] }) { cls := .type "list", data := .seq (slicePick xs.toArray il iu none) }
    obtain ⟨H4, x4, r4⟩ := Hp.pushList (c := c) (h' := (h3.push { cls := .type "slice", data := .fields #[vl, vu, .none] }).push { cls := .type "list", data := .seq (slicePick xs.toArray il iu none) }) (a := (h3.push { cls := .type "slice", data := .fields #[vl, vu, .none] }).objs.size) (vs := (slicePick xs.toArray il iu none).toList) (n := 0) (H3.keep k1) k2 (Nat.le_refl _)
      (Heap.get?_push_size _ rfl) ((H3.keep k1).vrs (.refl _ _) (zjz (H3.vrs (.of_keep k1) rs) hone bl bu))
    exact o _ _ _ _ _ tk3 q3 (x1.trans (x2.trans (x3.trans ((Ext.of_keep k1).trans x4)))) H4 r4
end
theorem fn_isC {c : Cx} {K : Frag} {f cc : Addr} {ps : List Str} (hK : c.K = K) (h : fnChk K f [("__class__", cc)] = true)
    (hb : BindsTo K f ps)
    (hp : ∀ x ∈ ps, (scopeOf K f).names.lookup x = some .local ∨ (scopeOf K f).names.lookup x = some .cell)
    (hfree : ((scopeOf K f).names.all fun p => p.2 != .free || decide (p.1 = ("__class__" : Str))) = true)
    (hcell : ∃ cl cld v csl, K.lookup cc = some ⟨cl, cld, .cell v, csl⟩) :
    ∃ q a, FnIs c f q a (bodyOf K f) (scopeOf K f) ps [("__class__", cc)] := by
  cases e : fdOf K f with
  | none => unfold fnChk at h; rw [e] at h; cases h
  | some fd =>
    unfold fnChk at h
    rw [e] at h
    simp only [Bool.and_eq_true, beq_iff_eq, Bool.not_eq_true', decide_eq_true_eq] at h
    obtain ⟨⟨⟨⟨⟨⟨⟨⟨h1, h2⟩, h3⟩, h4⟩, h5⟩, h6⟩, h7⟩, h8⟩, h9⟩ := h
    obtain ⟨oc, od, osl, ho⟩ := zid e
    have hs : scopeOf K f = fd.scope := by unfold scopeOf; rw [e]
    have hbd : fd.body = .stmts (bodyOf K f) := by
      unfold bodyOf; rw [e]
      dsimp only
      cases hh : fd.body with
      | stmts b => rfl
      | _ => rw [hh] at h1; simp [isStmts] at h1
    refine ⟨fd.qualname, fd.params, ⟨oc, od, osl, fd, by rw [hK]; exact ho, rfl, hbd, hs.symm, h2, h3, h4, by rw [hK]; exact h5, hb.of e⟩, by rw [hs]; exact h6, by rw [hs]; exact h7, ?_, hp⟩
    refine ⟨by rw [hs]; exact h8, by rw [hs]; exact h9, fun x b hx => ?_, fun x y b hx hy => ?_, fun x hx => ?_⟩
    · rw [List.lookup_cons] at hx
      split at hx
      · cases hx
        obtain ⟨cl, cld, v, csl, h⟩ := hcell
        exact ⟨v, _, c.kin _ _ (by rw [hK]; exact h), rfl⟩
      · cases hx
    · rw [List.lookup_cons] at hx hy
      split at hx
      · split at hy
        · rename_i _ e1 _ e2
          rw [beq_iff_eq] at e1 e2
          rw [e1, e2]
        · cases hy
      · cases hx
    · rw [List.all_eq_true] at hfree
      have hm : (x, NameKind.free) ∈ (scopeOf K f).names := by
        obtain ⟨l1, l2, hl, _⟩ := List.lookup_eq_some_iff.mp hx
        rw [hl]; simp
      have := hfree _ hm
      simp at this
      subst this
      rfl
end Mine
end
section
namespace Mine
section
variable {loc : Loc} {mh : MH} {Q : MV → MH → Prop} {QS : Fl → Loc → MH → Prop} {QB : Bool → MH → Prop} {QL : Loc → MH → Prop} {QI : MIt → MH → Prop} {QP : Bool → Prop} {QH : MH → Prop}
noncomputable def Cont (n : MS) (Q : Fl → Loc → MH → Prop) (fl : Fl) (loc : Loc) (mh : MH) : Prop := match fl with | .next => n loc Q mh | .ret v => Q (.ret v) loc mh
theorem seq_i {m n : MS} (h : m loc (Cont n QS) mh) : sSeq m n loc QS mh := h
theorem cont_i {n : MS} (h : n loc QS mh) : Cont n QS .next loc mh := h
theorem contr_i {n : MS} {v : MV} (h : QS (.ret v) loc mh) : Cont n QS (.ret v) loc mh := h
theorem swap2_i {a b : ME} {x y : Str} (h : a loc (fun v mh => b loc (fun w mh => QS .next (upd (upd loc y w) x v) mh) mh) mh) : sSwap (mTuple [a, b]) [x, y] loc QS mh := by
  have e : (fun v mh => b loc (fun w mh => QS .next (upd (upd loc y w) x v) mh) mh) = fun v mh => b loc (fun w mh => [v, w].length ≤ BIG ∧ ∃ vs, MV.tuple [v, w] = .tuple vs ∧ vs.length = [x, y].length ∧ QS .next (updAll [x, y].reverse vs.reverse loc) mh) mh := by
    funext v mh
    congr 1
    funext w mh
    exact propext ⟨fun h => ⟨by unfold BIG; simp, _, rfl, rfl, h⟩, fun ⟨_, vs, e, _, h⟩ => by cases e; exact h⟩
  rw [e] at h
  exact h
theorem swap3_i {a b c : ME} {x y z : Str} (h : a loc (fun v mh => b loc (fun w mh => c loc (fun u mh => QS .next (upd (upd (upd loc z u) y w) x v) mh) mh) mh) mh) : sSwap (mTuple [a, b, c]) [x, y, z] loc QS mh := by
  have e : (fun v mh => b loc (fun w mh => c loc (fun u mh => QS .next (upd (upd (upd loc z u) y w) x v) mh) mh) mh) = fun v mh => b loc (fun w mh => c loc (fun u mh => [v, w, u].length ≤ BIG ∧ ∃ vs, MV.tuple [v, w, u] = .tuple vs ∧ vs.length = [x, y, z].length ∧ QS .next (updAll [x, y, z].reverse vs.reverse loc) mh) mh) mh := by
    funext v mh
    congr 1
    funext w mh
    congr 1
    funext u mh
    exact propext ⟨fun h => ⟨by unfold BIG; simp, _, rfl, rfl, h⟩, fun ⟨_, vs, e, _, h⟩ => by cases e; exact h⟩
  rw [e] at h
  exact h
theorem name_i {x : Str} {v : MV} (h : loc x = some v) (k : Q v mh) : mName x loc Q mh := ⟨v, h, k⟩
theorem zlk {i : Int} (h : -4 ≤ i) (h2 : i ≤ 8) : i ∈ smallInts := by
  have k : ∀ n < 13, (-4 + (n : Nat) : Int) ∈ smallInts := by decide
  have e : i = -4 + ((i + 4).toNat : Nat) := by omega
  rw [e]
  exact k _ (by omega)
theorem big_of {n : Nat} (h : n ≤ 99999) : n ≤ BIG := by unfold BIG; omega
theorem tup0_i (h : Q (.tuple []) mh) : mTuple [] loc Q mh := ⟨big_of (by simp), h⟩
section
variable {a b c d e : ME}
theorem tup2_i (h : a loc (fun v mh => b loc (fun w mh => Q (.tuple [v, w]) mh) mh) mh) : mTuple [a, b] loc Q mh := by
  have e : (fun v mh => b loc (fun w mh => Q (.tuple [v, w]) mh) mh) = fun v mh => b loc (fun w mh => [v, w].length ≤ BIG ∧ Q (.tuple [v, w]) mh) mh := by funext v mh; congr 1; funext w mh; simp [BIG]
  rw [e] at h; exact h
theorem tup3_i (h : a loc (fun v mh => b loc (fun w mh => c loc (fun x mh => Q (.tuple [v, w, x]) mh) mh) mh) mh) : mTuple [a, b, c] loc Q mh := by
  have e : (fun v mh => b loc (fun w mh => c loc (fun x mh => Q (.tuple [v, w, x]) mh) mh) mh) = fun v mh => b loc (fun w mh => c loc (fun x mh => [v, w, x].length ≤ BIG ∧ Q (.tuple [v, w, x]) mh) mh) mh := by
    funext v mh; congr 1; funext w mh; congr 1; funext x mh; simp [BIG]
  rw [e] at h; exact h
theorem tup5_i (h : a loc (fun v mh => b loc (fun w mh => c loc (fun x mh => d loc (fun y mh => e loc (fun z mh => Q (.tuple [v, w, x, y, z]) mh) mh) mh) mh) mh) mh) : mTuple [a, b, c, d, e] loc Q mh := by
  have e' : (fun v mh => b loc (fun w mh => c loc (fun x mh => d loc (fun y mh => e loc (fun z mh => Q (.tuple [v, w, x, y, z]) mh) mh) mh) mh) mh) = fun v mh => b loc (fun w mh => c loc (fun x mh => d loc (fun y mh => e loc (fun z mh => [v, w, x, y, z].length ≤ BIG ∧ Q (.tuple [v, w, x, y, z]) mh) mh) mh) mh) mh := by
    funext v mh; congr 1; funext w mh; congr 1; funext x mh; congr 1; funext y mh; congr 1; funext z mh; simp [BIG]
  rw [e'] at h; exact h
theorem lst0_i {n : Nat} (hn : mh.length = n) (h : Q (.ref n) (mh ++ [.list []])) : mLst [] loc Q mh := by subst hn; exact ⟨big_of (by simp), h⟩
noncomputable def newI (Q : MV → MH → Prop) (o : MO) (mh : MH) : Prop := Q (.ref mh.length) (mh ++ [o])
theorem new_i {n : Nat} {o : MO} (hn : mh.length = n) (h : Q (.ref n) (mh ++ [o])) : newI Q o mh := by subst hn; exact h
theorem lst1_i (h : a loc (fun v mh => newI Q (.list [v]) mh) mh) : mLst [a] loc Q mh := by
  have e : (fun v mh => newI Q (.list [v]) mh) = fun v mh => [v].length ≤ BIG ∧ Q (.ref mh.length) (mh ++ [.list [v]]) := by funext v mh; simp [BIG, newI]
  rw [e] at h; exact h
theorem lst2_i (h : a loc (fun v mh => b loc (fun w mh => newI Q (.list [v, w]) mh) mh) mh) : mLst [a, b] loc Q mh := by
  have e : (fun v mh => b loc (fun w mh => newI Q (.list [v, w]) mh) mh) = fun v mh => b loc (fun w mh => [v, w].length ≤ BIG ∧ Q (.ref mh.length) (mh ++ [.list [v, w]])) mh := by funext v mh; congr 1; funext w mh; simp [BIG, newI]
  rw [e] at h; exact h
theorem dict0_i {n : Nat} (hn : mh.length = n) (h : Q (.ref n) (mh ++ [.idict []])) : mDict0 loc Q mh := by subst hn; exact h
noncomputable def newD (k w : MV) (Q : MV → MH → Prop) (mh : MH) : Prop := match k with
  | .int i => Q (.ref mh.length) (mh ++ [.idict [(i, w)]])
  | _ => False
theorem newd_i {n : Nat} {i : Int} {w : MV} (hn : mh.length = n) (h : Q (.ref n) (mh ++ [.idict [(i, w)]])) : newD (.int i) w Q mh := by subst hn; exact h
theorem dict1_i (h : a loc (fun k mh => b loc (fun w mh => newD k w Q mh) mh) mh) : mDictI [(a, b)] loc Q mh := by
  have e : (fun k mh => b loc (fun w mh => newD k w Q mh) mh) = fun k mh => b loc (fun w mh => ∃ ks : List (Int × MV), [(k, w)] = ks.map (fun p => (MV.int p.1, p.2)) ∧ (ks.map (·.1)).Nodup ∧ Q (.ref mh.length) (mh ++ [.idict ks])) mh := by
    funext k mh; congr 1; funext w mh
    refine propext ⟨fun h => ?_, ?_⟩
    · cases k <;> first | exact h.elim | exact ⟨[(_, w)], rfl, by simp, h⟩
    · rintro ⟨ks, e, -, h⟩
      match ks, e with
      | [(i, w')], e =>
        simp only [List.map_cons, List.map_nil, List.cons.injEq, Prod.mk.injEq, and_true] at e
        obtain ⟨rfl, rfl⟩ := e
        exact h
  rw [e] at h; exact h
variable {t : MF} {cl name : Str} {mo : ME} {r : Nat} {fs : List (Str × MV)} {vs : List MV}
theorem self_i {k : MV → MH → Prop} (h : mh[r]? = some (.inst cl fs)) (h2 : fget fs name = none) (q : k (.ref r) mh) : selfI cl name k (.ref r) mh := ⟨r, fs, rfl, h, h2, q⟩
theorem fld_i {x : MV} (h : mh[r]? = some (.inst cl fs)) (h2 : fget fs name = some x) (q : Q x mh) : fldI cl name Q (.ref r) mh := ⟨r, fs, x, rfl, h, h2, q⟩
theorem lself_i {k : MV → MH → Prop} (h : mh[r]? = some (.list vs)) (q : k (.ref r) mh) : lstI k (.ref r) mh := ⟨r, vs, rfl, h, q⟩
end
section
variable {m n : ME} {t u : MT} {ts : List MT} {ms : List ME} {op op1 op2 : CmpOp} {m1 m2 : ME}
theorem ls0_i {Q : List MV → MH → Prop} (h : Q [] mh) : mList [] loc Q mh := h
theorem ls1_i {a : ME} {Q : List MV → MH → Prop} (h : a loc (fun v mh => Q [v] mh) mh) : mList [a] loc Q mh := h
theorem ls2_i {a b : ME} {Q : List MV → MH → Prop} (h : a loc (fun v mh => b loc (fun w mh => Q [v, w] mh) mh) mh) : mList [a, b] loc Q mh := h
theorem ls3_i {a b c : ME} {Q : List MV → MH → Prop} (h : a loc (fun v mh => b loc (fun w mh => c loc (fun x mh => Q [v, w, x] mh) mh) mh) mh) : mList [a, b, c] loc Q mh := h
theorem ls5_i {a b c d e : ME} {Q : List MV → MH → Prop} (h : a loc (fun v mh => b loc (fun w mh => c loc (fun x mh => d loc (fun y mh => e loc (fun z mh => Q [v, w, x, y, z] mh) mh) mh) mh) mh) mh) : mList [a, b, c, d, e] loc Q mh := h
noncomputable def zipI (v w : MV) (Q : MV → MH → Prop) (mh1 : MH) : Prop := ∃ r t xs ys, [v, w] = [.ref r, .ref t] ∧ mh1[r]? = some (.list xs) ∧ mh1[t]? = some (.list ys) ∧ xs.length = ys.length ∧ xs.length ≤ BIG ∧ Q (.tuple (zipM xs ys)) mh1
theorem zip_i {a b : ME} (h : a loc (fun v mh => b loc (fun w mh => zipI v w Q mh) mh) mh) : zh4 [a, b] loc Q mh := h
theorem next_i {mi : MI} {t : Tgt} {test : MT} {inner : CI} {acc : MO} {QC : Loc → MO → MH → Prop} (h : mi loc (fun x mh => ∃ vs, compI x vs t test inner vs loc acc QC mh) mh) : ciNext mi t test inner loc acc QC mh := h
theorem zrr {Q : List (MV × MV) → MH → Prop} (h : Q [] mh) : mPairs [] loc Q mh := h
theorem zrq {k v : ME} {r : List (ME × ME)} {Q : List (MV × MV) → MH → Prop} (h : k loc (fun kv mh => v loc (fun vv mh => mPairs r loc (fun rest mh => Q ((kv, vv) :: rest) mh) mh) mh) mh) : mPairs ((k, v) :: r) loc Q mh := h
theorem dicts_i {ps : List (ME × ME)} (h : mPairs ps loc (fun kvs mh => ∃ ks : List (Str × MV), kvs = ks.map (fun p => (MV.str p.1, p.2)) ∧ (ks.map (·.1)).Nodup ∧ Q (.ref mh.length) (mh ++ [.sdict ks])) mh) : mDictS ps loc Q mh := h
theorem and1_i (h : m loc Q mh) : mAndV [m] loc Q mh := h
theorem andc_i (h : m loc (boolM fun b mh => if b = true then mAndV (n :: ms) loc Q mh else Q (.bool false) mh) mh) : mAndV (m :: n :: ms) loc Q mh := h
theorem tand0_i (h : QB true mh) : tAnd [] loc QB mh := h
theorem tandc_i (h : t loc (fun b mh => if b = true then tAnd ts loc QB mh else QB false mh) mh) : tAnd (t :: ts) loc QB mh := h
theorem tor0_i (h : QB false mh) : tOr [] loc QB mh := h
theorem torc_i (h : t loc (fun b mh => if b = true then QB true mh else tOr ts loc QB mh) mh) : tOr (t :: ts) loc QB mh := h
end
section
variable {x y : Int} {s z : Str} {a b : MV} {p q : Bool}
theorem ceqi_i (h : QP (decide (x = y))) : eqM (.int x) (.int y) QP mh := h
theorem ceqs_i (h : QP (decide (s = z))) : eqM (.str s) (.str z) QP mh := h
theorem ceqb_i (h : QP (p == q)) : eqM (.bool p) (.bool q) QP mh := h
theorem cis0_i (h : QP true) : isM .none .none QP := h
theorem cisi_i (h : QP false) : isM (.int x) .none QP := h
theorem cist_i {vs : List MV} (h : QP false) : isM (.tuple vs) .none QP := h
end
@[reducible] noncomputable def inO (a : MV) (o : MO) (QP : Bool → Prop) (mh : MH) : Prop := inMo (some o) a QP mh
section
variable {k x : Int} {r m : Nat} {is : List Int} {ks : List (Int × MV)} {ss : List (Str × MV)} {a v w : MV} {o : MO} {s : Str} {vs : List MV} {n : Nat} {P : MV → Prop}
theorem inr_i (h : mh[r]? = some o) (q : inO a o QP mh) : inM a (.ref r) QP mh := by
  show inMo mh[r]? a QP mh
  rw [h]; exact q
theorem inl_i (q : QP (decide (k ∈ is))) : inO (.int k) (.list (is.map .int)) QP mh := ⟨is, rfl, Eq.mpr (congrArg QP (decide_eq_decide.mpr Iff.rfl)) q⟩
theorem ind_i (q : QP (ks.any fun kv => kv.1 = k)) : inO (.int k) (.idict ks) QP mh := q
@[reducible] noncomputable def idxO (o : MO) (i : MV) (P : MV → Prop) : Prop := idxMo (some o) i P
theorem idxr_i (h : mh[r]? = some o) (q : idxO o a P) : idxM (.ref r) a P mh := by
  show idxMo mh[r]? a P
  rw [h]; exact q
theorem zcw {n : Int} (h : -1000000 ≤ n) (h2 : n ≤ 1000000) : SmallI n := by unfold SmallI; omega
theorem idx_nat {vs : List MV} {n : Nat} : pyIdx vs (n : Int) = vs[n]? := by unfold pyIdx; rw [if_pos (by omega)]; rfl
theorem ln_i (h1 : vs[n]? = some v) (h2 : n ≤ 1000000) (h : P v) : idxO (.list vs) (.int (n : Int)) P := ⟨zcw (by omega) (by omega), v, idx_nat.trans h1, h⟩
theorem l0_i (h1 : vs[0]? = some v) (h : P v) : idxO (.list vs) (.int 0) P := ln_i (n := 0) h1 (by omega) h
theorem lm_i (h1 : vs.getLast? = some v) (h : P v) : idxO (.list vs) (.int (-1)) P := by
  refine ⟨zcw (by omega) (by omega), v, ?_, h⟩
  rw [← h1, List.getLast?_eq_getElem?]
  unfold pyIdx
  rw [if_neg (by omega)]
  cases vs with
  | nil => cases h1
  | cons a r => rw [if_pos (by simp; omega)]; congr 1; simp; omega
theorem di_i (h1 : aget ks x = some v) (h : P v) : idxO (.idict ks) (.int x) P := ⟨v, h1, h⟩
theorem ds_i (h1 : aget ss s = some v) (h : P v) : idxO (.sdict ss) (.str s) P := ⟨v, h1, h⟩
@[reducible] noncomputable def setO (o : MO) (r : Nat) (i v : MV) (QH : MH → Prop) (mh : MH) : Prop := setMo r (some o) i v QH mh
theorem setr_i (h : mh[r]? = some o) (q : setO o r a v QH mh) : setM (.ref r) a v QH mh := by
  show setMo r mh[r]? a v QH mh
  rw [h]; exact q
theorem setl_i (h1 : n < vs.length) (h2 : n ≤ 1000000) (q : QH (mh.set r (.list (vs.set n v)))) : setO (.list vs) r (.int (n : Int)) v QH mh := ⟨zcw (by omega) (by omega), n, h1, .inl rfl, q⟩
theorem setd_i {gs : List (Int × MV)} (h1 : ks.length ≤ BIG) (h2 : kset ks x v = gs) (q : QH (mh.set r (.idict gs))) : setO (.idict ks) r (.int x) v QH mh := by subst h2; exact ⟨h1, q⟩
theorem sets_i {gs : List (Str × MV)} (h1 : ss.length ≤ BIG) (h2 : kset ss s v = gs) (q : QH (mh.set r (.sdict gs))) : setO (.sdict ss) r (.str s) v QH mh := by subst h2; exact ⟨h1, q⟩
@[reducible] noncomputable def lenO (o : MO) (Q : MV → MH → Prop) (mh : MH) : Prop := lenMo (some o) Q mh
theorem lenr_i (h : mh[r]? = some o) (q : lenO o Q mh) : mLen [.ref r] Q mh := by
  show lenMo mh[r]? Q mh
  rw [h]; exact q
theorem lenl_i (h1 : vs.length ≤ BIG) (h : Q (.int vs.length) mh) : lenO (.list vs) Q mh := ⟨h1, h⟩
noncomputable def tupO (o : MO) (Q : MV → MH → Prop) (mh : MH) : Prop := match o with
  | .list vs => vs.length ≤ BIG ∧ Q (.tuple vs) mh
  | .idict ks => ks.length ≤ BIG ∧ Q (.tuple (ks.map fun p => MV.int p.1)) mh
  | _ => False
theorem zh7 {vs : List MV} (h : mh[r]? = some o) (q : zfs (some o) vs) : zb9 (.ref r) vs mh := by
  show zfs mh[r]? vs
  rw [h]; exact q
theorem tupr_i (h : mh[r]? = some o) (q : tupO o Q mh) : mTupleC [.ref r] Q mh := by
  cases o with
  | list vs => exact ⟨_, zh7 h ⟨rfl, q.1⟩, q.2⟩
  | idict ks => exact ⟨_, zh7 h ⟨rfl, q.1⟩, q.2⟩
  | _ => exact False.elim q
theorem tupl_i (h1 : vs.length ≤ BIG) (h : Q (.tuple vs) mh) : tupO (.list vs) Q mh := ⟨h1, h⟩
end
section
variable {p : Prop} {A B : Prop} {bb : Bool}
theorem tt_i (h : A) : if true = true then A else B := h
theorem ff_i (h : B) : if false = true then A else B := h
theorem ntt_i (h : B) : if (!true) = true then A else B := h
theorem nff_i (h : A) : if (!false) = true then A else B := h
theorem yes_i [Decidable p] (hp : p) (h : A) : if decide p = true then A else B := by rw [decide_eq_true hp]; exact h
theorem no_i [Decidable p] (hp : ¬p) (h : B) : if decide p = true then A else B := by rw [decide_eq_false hp]; exact h
theorem nyes_i [Decidable p] (hp : p) (h : B) : if (!decide p) = true then A else B := by rw [decide_eq_true hp]; exact h
theorem nno_i [Decidable p] (hp : ¬p) (h : A) : if (!decide p) = true then A else B := by rw [decide_eq_false hp]; exact h
theorem syes_i {a : Str} (h : A) : if decide (a = a) = true then A else B := yes_i rfl h
theorem sno_i {a b : String} (hn : decide (a = b) = false) (h : B) : if decide ((a : Str) = (b : Str)) = true then A else B := no_i (fun e => of_decide_eq_false hn (str_inj.mp e)) h
theorem bnyes_i (hp : bb = true) (h : B) : if (!bb) = true then A else B := by rw [hp]; exact h
theorem bnno_i (hp : bb = false) (h : A) : if (!bb) = true then A else B := by rw [hp]; exact h
theorem b_i (h1 : bb = true → A) (h2 : bb = false → B) : if bb = true then A else B := by
  cases bb
  · exact h2 rfl
  · exact h1 rfl
theorem dec_i [Decidable p] (h1 : p → A) (h2 : ¬p → B) : if decide p = true then A else B := by
  by_cases h : p
  · rw [decide_eq_true h]; exact h1 h
  · rw [decide_eq_false h]; exact h2 h
theorem ndec_i [Decidable p] (h1 : ¬p → A) (h2 : p → B) : if (!decide p) = true then A else B := by
  by_cases h : p
  · rw [decide_eq_true h]; exact h2 h
  · rw [decide_eq_false h]; exact h1 h
end
section
variable {r t : Nat} {i : Int} {v w : MV} {vs ws : List MV} {x y : Int} {s : Str} {ks : List (Int × MV)} {ss : List (Str × MV)} {n : Nat} {ma mi : ME} {k : MV → Prop}
theorem atup2_i {x y : Str} (h : QL (upd (upd loc x v) y w) mh) : aTuple [x, y] (.tuple [v, w]) QL loc mh := ⟨_, rfl, rfl, h⟩
theorem atup3_i {x y z : Str} {u : MV} (h : QL (upd (upd (upd loc x v) y w) z u) mh) : aTuple [x, y, z] (.tuple [v, w, u]) QL loc mh := ⟨_, rfl, rfl, h⟩
theorem put_i {cl name : Str} {fs gs : List (Str × MV)} (h : mh[r]? = some (.inst cl fs)) (h1 : fs.length ≤ 900) (h2 : kset fs name v = gs) (q : QH (mh.set r (.inst cl gs))) : putI cl name v QH (.ref r) mh := ⟨r, fs, rfl, h, h1, h2 ▸ q⟩
theorem t0_i (h : k v) : idxM (.tuple (v :: vs)) (.int 0) k mh := ⟨zcw (by omega) (by omega), v, rfl, h⟩
theorem t1_i (h : k w) : idxM (.tuple (v :: w :: vs)) (.int 1) k mh := ⟨zcw (by omega) (by omega), w, rfl, h⟩
theorem t2_i {u : MV} (h : k u) : idxM (.tuple (v :: w :: u :: vs)) (.int 2) k mh := ⟨zcw (by omega) (by omega), u, rfl, h⟩
theorem tn_i (h1 : vs[n]? = some v) (h2 : n ≤ 1000000) (h : k v) : idxM (.tuple vs) (.int (n : Int)) k mh := ⟨zcw (by omega) (by omega), v, idx_nat.trans h1, h⟩
theorem addt_i (h1 : vs.length + ws.length ≤ BIG) (h : Q (.tuple (vs ++ ws)) mh) : mAdd (.tuple vs) (.tuple ws) Q mh := ⟨h1, h⟩
theorem muli_i (h1 : SmallI x) (h2 : SmallI y) (h : Q (.int (x * y)) mh) : mMul (.int x) (.int y) Q mh := ⟨h1, h2, h⟩
theorem mull_i {m : Nat} (e : mh[r]? = some (.list [v])) (h1 : n ≤ BIG) (hn : mh.length = m) (h : Q (.ref m) (mh ++ [.list (List.replicate n v)])) : mMul (.ref r) (.int (n : Int)) Q mh := by subst hn; exact ⟨v, e, by omega, by omega, h⟩
theorem modi_i (h1 : 0 < y) (h : Q (.int (x % y)) mh) : mMod (.int x) (.int y) Q mh := ⟨h1, h⟩
theorem divi_i (h1 : 0 < y) (h2 : SmallI x) (h3 : SmallI y) (h : Q (.int (x / y)) mh) : mDiv (.int x) (.int y) Q mh := ⟨h1, h2, h3, h⟩
theorem lent_i (h1 : vs.length ≤ BIG) (h : Q (.int vs.length) mh) : mLen [.tuple vs] Q mh := ⟨h1, h⟩
theorem zsz (e : mh[r]? = some (.list vs)) (h1 : vs.length ≤ BIG) (h : Q .none (mh.set r (.list (vs ++ [v])))) : mAppend [.ref r, v] Q mh := ⟨vs, e, h1, h⟩
theorem pop_i (e : mh[r]? = some (.list (vs ++ [v]))) (h1 : vs.length ≤ BIG) (h : Q v (mh.set r (.list vs))) : mPop [.ref r] Q mh := ⟨vs, v, e, h1, h⟩
theorem extl_i (e : mh[r]? = some (.list vs)) (e2 : mh[t]? = some (.list ws)) (h1 : vs.length + ws.length ≤ BIG) (h : Q .none (mh.set r (.list (vs ++ ws)))) : mExtend [.ref r, .ref t] Q mh := ⟨vs, ws, e, e2, h1, h⟩
theorem extr_i (e : mh[r]? = some (.list vs)) (h1 : SmallI x) (h2 : SmallI y) (h3 : vs.length + (y - x).toNat ≤ BIG) (h : Q .none (mh.set r (.list (vs ++ rngL x y)))) : mExtend [.ref r, .range x y] Q mh := ⟨vs, e, h1, h2, h3, h⟩
theorem tupt_i (h1 : vs.length ≤ BIG) (h : Q (.tuple vs) mh) : mTupleC [.tuple vs] Q mh := ⟨vs, ⟨rfl, h1⟩, h⟩
theorem listl_i {m : Nat} (e : mh[r]? = some (.list vs)) (h1 : vs.length ≤ BIG) (hn : mh.length = m) (h : Q (.ref m) (mh ++ [.list vs])) : mListC [.ref r] Q mh := by subst hn; exact ⟨vs, e, h1, h⟩
theorem itl_i (e : mh[r]? = some (.list vs)) (h : QI (.val (.ref r)) mh) : itI QI (.ref r) mh := ⟨⟨vs, e⟩, h⟩
theorem itt_i (h : QI (.val (.tuple vs)) mh) : itI QI (.tuple vs) mh := ⟨⟨vs, rfl⟩, h⟩
theorem itr_i (h1 : SmallI x) (h2 : SmallI y) (h : QI (.val (.range x y)) mh) : itI QI (.range x y) mh := ⟨⟨_, h1, h2, rfl⟩, h⟩
section
variable {a b c d e : Str} {u₁ u₂ u₃ u₄ u₅ : MV} {m : MS}
noncomputable def endF (Q : MV → MH → Prop) (fl : Fl) (_ : Loc) (mh : MH) : Prop := match fl with | .next => Q .none mh | .ret v => Q v mh
theorem endr_i (h : Q v mh) : endF Q (.ret v) loc mh := h
theorem endn_i (h : Q .none mh) : endF Q .next loc mh := h
theorem fun1_i (h : m (upd (fun _ => none) a u₁) (endF Q) mh) : mFun [a] m [u₁] Q mh := ⟨rfl, h⟩
theorem fun2_i (h : m (upd (upd (fun _ => none) a u₁) b u₂) (endF Q) mh) : mFun [a, b] m [u₁, u₂] Q mh := ⟨rfl, h⟩
theorem fun3_i (h : m (upd (upd (upd (fun _ => none) a u₁) b u₂) c u₃) (endF Q) mh) : mFun [a, b, c] m [u₁, u₂, u₃] Q mh := ⟨rfl, h⟩
theorem fun4_i (h : m (upd (upd (upd (upd (fun _ => none) a u₁) b u₂) c u₃) d u₄) (endF Q) mh) : mFun [a, b, c, d] m [u₁, u₂, u₃, u₄] Q mh := ⟨rfl, h⟩
theorem fun5_i (h : m (upd (upd (upd (upd (upd (fun _ => none) a u₁) b u₂) c u₃) d u₄) e u₅) (endF Q) mh) : mFun [a, b, c, d, e] m [u₁, u₂, u₃, u₄, u₅] Q mh := ⟨rfl, h⟩
end
theorem str_ne {a b : String} (h : decide (a = b) = false) : (a : Str) ≠ (b : Str) := fun e => of_decide_eq_false h (str_inj.mp e)
theorem hit {l : Loc} {x : Str} {v : MV} : upd l x v x = some v := if_pos rfl
theorem miss {l : Loc} {a b : String} {w : MV} {o : Option MV} (h : decide (a = b) = false) (k : l a = o) : upd l b w a = o := (if_neg (str_ne h)).trans k
theorem restr_i' {fr : List Str} {x : Str} {o : Option MV} (h : x ∈ fr) (k : loc x = o) : restrF fr loc x = o := (if_pos h).trans k
theorem len_set {mh : MH} {r n : Nat} {o : MO} (h : mh.length = n) : (mh.set r o).length = n := by simp [h]
theorem len_app {mh : MH} {n : Nat} {o : MO} (h : mh.length = n) : (mh ++ [o]).length = n + 1 := by simp [h]
theorem got_n {mh : MH} {n : Nat} {o : MO} (h : mh.length = n) : (mh ++ [o])[n]? = some o := by subst h; simp
theorem got {mh : MH} {o : MO} : (mh ++ [o])[mh.length]? = some o := by simp
theorem got_old {mh l : MH} {o : MO} (h : mh[r]? = some o) : (mh ++ l)[r]? = some o := by rw [List.getElem?_append_left (List.getElem?_eq_some_iff.mp h).1]; exact h
theorem got_set {mh : MH} {o o' : MO} (h : mh[r]? = some o') : (mh.set r o)[r]? = some o := by rw [List.getElem?_set_self (List.getElem?_eq_some_iff.mp h).1]
noncomputable def Df (a b : Nat) : Prop := a ≠ b
theorem df_ne {a b : Nat} (h : Df a b) : a ≠ b := h
theorem df_ne' {a b : Nat} (h : Df b a) : a ≠ b := Ne.symm h
theorem got_ne {mh : MH} {o o' : MO} (hn : r ≠ t) (h : mh[t]? = some o') : (mh.set r o)[t]? = some o' := by rw [List.getElem?_set_ne hn]; exact h
theorem fhit {x : Str} {v : MV} {fs : List (Str × MV)} : fget ((x, v) :: fs) x = some v := by simp [fget]
theorem fmiss {a b : String} {v : MV} {fs : List (Str × MV)} {o : Option MV} (h : decide (b = a) = false) (k : fget fs a = o) : fget (((b : Str), v) :: fs) a = o := by
  rw [← k]; simp [fget, List.find?_cons, str_ne h]
theorem fnil {x : Str} : fget [] x = none := rfl
theorem khit {x : Str} {v w : MV} {fs : List (Str × MV)} : kset ((x, v) :: fs) x w = (x, w) :: fs := by simp [kset]
theorem kmiss {a b : String} {v w : MV} {fs gs : List (Str × MV)} (h : decide (b = a) = false) (k : kset fs a w = gs) : kset (((b : Str), v) :: fs) a w = ((b : Str), v) :: gs := by
  rw [← k]; simp [kset, str_ne h]
theorem knil {x : Str} {w : MV} : kset [] x w = [(x, w)] := rfl
theorem ahit {x : Str} {v : MV} {fs : List (Str × MV)} : aget ((x, v) :: fs) x = some v := by simp [aget]
theorem amiss {a b : String} {v : MV} {fs : List (Str × MV)} {o : Option MV} (h : decide (b = a) = false) (k : aget fs (a : Str) = o) : aget (((b : Str), v) :: fs) (a : Str) = o := by
  rw [← k]; simp [aget, List.find?_cons, str_ne h]
theorem at0 {v : MV} {vs : List MV} : (v :: vs)[0]? = some v := rfl
theorem at_last {α : Type} {f : α → MV} {l : List α} {a : α} (h : l.getLast? = some a) : (l.map f).getLast? = some (f a) := by rw [List.getLast?_map, h]; rfl
theorem at_map {α : Type} {f : α → MV} {l : List α} {n : Nat} {a : α} (h : l[n]? = some a) : (l.map f)[n]? = some (f a) := by rw [List.getElem?_map, h]; rfl
end
end
end Mine
end
section
section
namespace Mine.H
noncomputable abbrev pw := PySem.Challenge.pw_pc0038_02
noncomputable def lf : Life := (@PySem.Life.mk [] [] [] 0 [] [] false #[] [] 0 false false false 0 [2000, 10, 10] false 0 true [] [] 0 false)
noncomputable abbrev kh := PyData.keyHash
noncomputable def dt (n : Str) : Arguments × List Stmt × Scope := (pw.theDef n).getD (default, [], default)
noncomputable def dm (c n : Str) : Arguments × List Stmt × Scope := match theClassW pw c with
  | some x => (theDefIn x.2.1 n).getD (default, [], default)
  | none => (default, [], default)
noncomputable def fn (n q : Str) (s : Arguments × List Stmt × Scope) (cl : List (Str × Addr)) (m : Str) (t c : Nat) (ct : Value) : Obj := ⟨.type "function", none, .func ⟨n, q, s.1, .stmts (s.2.1), s.2.2, 3, cl, .none, .none, .none, .str m t, none, .ref c, ct, 0⟩, #[]⟩
noncomputable def fr (n q : Str) (s : Arguments × List Stmt × Scope) : Obj := ⟨.none, none, .func ⟨n, q, s.1, .stmts (s.2.1), s.2.2, 0, [], .none, .none, .none, .none, none, .none, .none, 0⟩, #[]⟩
noncomputable def co (n q : Str) (t : Nat) (ln ac : Int) (r : Nat) (x y z w : Value) (u : Nat) : Obj := ⟨.type "code", none, .fields #[.str n t, .str q (t + 1), .str "/claim/cut.py" (t + 2), .int ln 0, .int ac 0, .int 0 0, .int 0 0, .int 3 0, .ref r, .bool true, .int 181 0, .ref (r + 1), x, y, z, w, .int u 0, .int ln 0, .str "/claim/cut.py" (u + 1)], #[]⟩
noncomputable def tp (v : Array Value) : Obj := ⟨.type "tuple", none, .seq v 0, #[]⟩
noncomputable def b0 (P : Params) : Obj := tp #[]
noncomputable def b1 (P : Params) : Obj := ⟨.none, none, (.fields #[]), #[]⟩
noncomputable def b2 (P : Params) : Obj := ⟨(.type "code"), none, (.fields #[(.str "<module>" 182), (.str "<module>" 183), (.str "/claim/cut.py" 184), (.int 1 0), (.int 0 0), (.int 0 0), (.int 0 0), (.int 0 0), (.ref 11), (.bool false), (.int 181 0), (.ref 12), .none, .none, .none, .none, (.int 185 0), (.int 1 0), (.str "/claim/cut.py" 186)]), #[]⟩
noncomputable def b3 (P : Params) : Obj := ⟨(.type "frame"), none, .plain, #[(some (.ref 13)), (some (.ref 3)), (some (.ref 3)), none, (some (.str "__main__" 164)), none, (some (.ref 0))]⟩
noncomputable def hA (P : Params) : Heap := ⟨⟨[boot_o_0 P, boot_o_1 P, boot_o_2 P, boot_o_3 P, boot_o_4 P, boot_o_5 P, boot_o_6 P, boot_o_7 P, boot_o_8 P, boot_o_9 P, boot_o_10 P, b0 P, b1 P, b2 P, b3 P]⟩, lf⟩
noncomputable def tr0 (P : Params) : BT := (.node (boot_o_0 P) (.node (boot_o_1 P) (.node (boot_o_3 P) (.node (boot_o_7 P) .nil .nil) (.node (b0 P) .nil .nil)) (.node (boot_o_5 P) (.node (boot_o_9 P) .nil .nil) (.node (b2 P) .nil .nil))) (.node (boot_o_2 P) (.node (boot_o_4 P) (.node (boot_o_8 P) .nil .nil) (.node (b1 P) .nil .nil)) (.node (boot_o_6 P) (.node (boot_o_10 P) .nil .nil) (.node (b3 P) .nil .nil))))
noncomputable def b4 (P : Params) : Obj := ⟨(.type "dict"), none, (.dict #[⟨(kh P "__name__"), .str "__name__" 165, (.str "fdsolve.store" 301)⟩, ⟨(kh P "__doc__"), .str "__doc__" 166, .none⟩, ⟨(kh P "__package__"), .str "__package__" 167, .none⟩, ⟨(kh P "__loader__"), .str "__loader__" 168, (.builtin "__main__.__loader__#opaque")⟩, ⟨(kh P "__spec__"), .str "__spec__" 169, .none⟩, ⟨(kh P "__annotations__"), .str "__annotations__" 170, (.ref 6)⟩, ⟨(kh P "__builtins__"), .str "__builtins__" 171, (.ref 4)⟩, ⟨(kh P "__file__"), .str "__file__" 173, (.str "/claim/cut.py" 172)⟩, ⟨(kh P "__cached__"), .str "__cached__" 174, .none⟩, ⟨(kh P "_wall"), .str "_wall" 193, (.ref 21)⟩, ⟨(kh P "least"), .str "least" 202, (.ref 28)⟩, ⟨(kh P "greatest"), .str "greatest" 209, (.ref 35)⟩, ⟨(kh P "next_from"), .str "next_from" 219, (.ref 42)⟩, ⟨(kh P "has"), .str "has" 227, (.ref 49)⟩, ⟨(kh P "has_domains"), .str "has_domains" 228, (.ref 49)⟩, ⟨(kh P "values"), .str "values" 238, (.ref 56)⟩, ⟨(kh P "up_to"), .str "up_to" 244, (.ref 61)⟩, ⟨(kh P "from_on"), .str "from_on" 250, (.ref 66)⟩, ⟨(kh P "without"), .str "without" 258, (.ref 73)⟩, ⟨(kh P "meet"), .str "meet" 271, (.ref 80)⟩, ⟨(kh P "negation"), .str "negation" 281, (.ref 87)⟩, ⟨(kh P "struck"), .str "struck" 291, (.ref 94)⟩, ⟨(kh P "said_of"), .str "said_of" 300, (.ref 101)⟩] 23), #[]⟩
noncomputable def b5 (P : Params) : Obj := ⟨.none, none, (.fields #[(.int 1 0), (.int 0 0), (.ref 20), (.int 5 0), (.int 0 0), (.ref 27), (.int 7 0), (.int 0 0), (.ref 34), (.int 9 0), (.int 0 0), (.ref 41), (.int 14 0), (.int 0 0), (.ref 48), (.int 17 0), (.int 0 0), (.ref 55), (.int 22 0), (.int 0 0), (.ref 60), (.int 24 0), (.int 0 0), (.ref 65), (.int 26 0), (.int 0 0), (.ref 72), (.int 28 0), (.int 0 0), (.ref 79), (.int 39 0), (.int 0 0), (.ref 86), (.int 46 0), (.int 0 0), (.ref 93), (.int 53 0), (.int 0 0), (.ref 100)]), #[]⟩
noncomputable def b6 (P : Params) : Obj := tp #[(.str "k" 190)]
noncomputable def b7 (P : Params) : Obj := fr "_wall" "_wall" (dt "_wall")
noncomputable def b8 (P : Params) : Obj := co "_wall" "_wall" 187 1 1 15 .none (.ref 17) (.ref 18) (.ref 19) 191
noncomputable def b9 (P : Params) : Obj := fn "_wall" "_wall" (dt "_wall") [] "__main__" 164 20 .none
noncomputable def b10 (P : Params) : Obj := tp #[(.str "d" 199)]
noncomputable def b11 (P : Params) : Obj := fr "least" "least" (dt "least")
noncomputable def b12 (P : Params) : Obj := co "least" "least" 196 5 1 22 .none (.ref 24) (.ref 25) (.ref 26) 200
noncomputable def b13 (P : Params) : Obj := fn "least" "least" (dt "least") [] "fdsolve.domains" 194 27 .none
noncomputable def b14 (P : Params) : Obj := tp #[(.str "d" 206)]
noncomputable def b15 (P : Params) : Obj := fr "greatest" "greatest" (dt "greatest")
noncomputable def b16 (P : Params) : Obj := co "greatest" "greatest" 203 7 1 29 .none (.ref 31) (.ref 32) (.ref 33) 207
noncomputable def b17 (P : Params) : Obj := fn "greatest" "greatest" (dt "greatest") [] "fdsolve.domains" 194 34 .none
noncomputable def b18 (P : Params) : Obj := tp #[(.str "d" 213), (.str "v" 214), (.str "low" 215), (.str "high" 216)]
noncomputable def b19 (P : Params) : Obj := fr "next_from" "next_from" (dt "next_from")
noncomputable def b20 (P : Params) : Obj := co "next_from" "next_from" 210 9 2 36 .none (.ref 38) (.ref 39) (.ref 40) 217
noncomputable def b21 (P : Params) : Obj := fn "next_from" "next_from" (dt "next_from") [] "fdsolve.domains" 194 41 .none
noncomputable def b22 (P : Params) : Obj := tp #[(.str "d" 223), (.str "v" 224)]
noncomputable def b23 (P : Params) : Obj := fr "has" "has" (dt "has")
noncomputable def b24 (P : Params) : Obj := co "has" "has" 220 14 2 43 .none (.ref 45) (.ref 46) (.ref 47) 225
noncomputable def b25 (P : Params) : Obj := fn "has" "has" (dt "has") [] "fdsolve.domains" 194 48 .none
noncomputable def b26 (P : Params) : Obj := tp #[(.str "d" 232), (.str "found" 233), (.str "low" 234), (.str "high" 235)]
noncomputable def b27 (P : Params) : Obj := fr "values" "values" (dt "values")
noncomputable def b28 (P : Params) : Obj := co "values" "values" 229 17 1 50 .none (.ref 52) (.ref 53) (.ref 54) 236
noncomputable def b29 (P : Params) : Obj := fn "values" "values" (dt "values") [] "fdsolve.domains" 194 55 .none
noncomputable def b30 (P : Params) : Obj := fr "up_to" "up_to" (dt "up_to")
noncomputable def b31 (P : Params) : Obj := co "up_to" "up_to" 239 22 2 57 .none .none .none (.ref 59) 242
noncomputable def b32 (P : Params) : Obj := fn "up_to" "up_to" (dt "up_to") [] "fdsolve.domains" 194 60 .none
noncomputable def b33 (P : Params) : Obj := fr "from_on" "from_on" (dt "from_on")
noncomputable def b34 (P : Params) : Obj := co "from_on" "from_on" 245 24 2 62 .none .none .none (.ref 64) 248
noncomputable def b35 (P : Params) : Obj := fn "from_on" "from_on" (dt "from_on") [] "fdsolve.domains" 194 65 .none
noncomputable def b36 (P : Params) : Obj := tp #[(.str "d" 254), (.str "v" 255)]
noncomputable def b37 (P : Params) : Obj := fr "without" "without" (dt "without")
noncomputable def b38 (P : Params) : Obj := co "without" "without" 251 26 2 67 .none (.ref 69) (.ref 70) (.ref 71) 256
noncomputable def b39 (P : Params) : Obj := fn "without" "without" (dt "without") [] "fdsolve.domains" 194 72 .none
noncomputable def b40 (P : Params) : Obj := tp #[(.str "d" 262), (.str "e" 263), (.str "found" 264), (.str "i" 265), (.str "j" 266), (.str "low" 267), (.str "high" 268)]
noncomputable def b41 (P : Params) : Obj := fr "meet" "meet" (dt "meet")
noncomputable def b42 (P : Params) : Obj := co "meet" "meet" 259 28 2 74 .none (.ref 76) (.ref 77) (.ref 78) 269
noncomputable def b43 (P : Params) : Obj := fn "meet" "meet" (dt "meet") [] "fdsolve.domains" 194 79 .none
noncomputable def b44 (P : Params) : Obj := tp #[(.str "literal" 275), (.str "x" 276), (.str "sign" 277), (.str "k" 278)]
noncomputable def b45 (P : Params) : Obj := fr "negation" "negation" (dt "negation")
noncomputable def b46 (P : Params) : Obj := co "negation" "negation" 272 39 1 81 .none (.ref 83) (.ref 84) (.ref 85) 279
noncomputable def b47 (P : Params) : Obj := fn "negation" "negation" (dt "negation") [] "fdsolve.domains" 194 86 .none
noncomputable def b48 (P : Params) : Obj := tp #[(.str "literal" 285), (.str "d" 286), (.str "sign" 287), (.str "k" 288)]
noncomputable def b49 (P : Params) : Obj := fr "struck" "struck" (dt "struck")
noncomputable def b50 (P : Params) : Obj := co "struck" "struck" 282 46 2 88 .none (.ref 90) (.ref 91) (.ref 92) 289
noncomputable def b51 (P : Params) : Obj := fn "struck" "struck" (dt "struck") [] "fdsolve.domains" 194 93 .none
noncomputable def b52 (P : Params) : Obj := tp #[(.str "literal" 295), (.str "d" 296), (.str "kept" 297)]
noncomputable def b53 (P : Params) : Obj := fr "said_of" "said_of" (dt "said_of")
noncomputable def b54 (P : Params) : Obj := co "said_of" "said_of" 292 53 2 95 .none (.ref 97) (.ref 98) (.ref 99) 298
noncomputable def b55 (P : Params) : Obj := fn "said_of" "said_of" (dt "said_of") [] "fdsolve.domains" 194 100 .none
noncomputable def tr1 (P : Params) : BT := (.node (boot_o_0 P) (.node (boot_o_1 P) (.node (b4 P) (.node (boot_o_7 P) (.node (b0 P) (.node (b14 P) (.node (b1 P) .nil .nil) (.node (b0 P) .nil .nil)) (.node (b23 P) (.node (b42 P) .nil .nil) .nil)) (.node (b1 P) (.node (b0 P) (.node (b37 P) .nil .nil) .nil) (.node (b28 P) (.node (b47 P) .nil .nil) .nil))) (.node (b0 P) (.node (b7 P) (.node (b17 P) (.node (b0 P) .nil .nil) (.node (b53 P) .nil .nil)) (.node (b1 P) (.node (b44 P) .nil .nil) .nil)) (.node (b12 P) (.node (b0 P) (.node (b1 P) .nil .nil) .nil) (.node (b30 P) (.node (b0 P) .nil .nil) .nil)))) (.node (boot_o_5 P) (.node (boot_o_9 P) (.node (b6 P) (.node (b15 P) (.node (b34 P) .nil .nil) (.node (b52 P) .nil .nil)) (.node (b25 P) (.node (b0 P) .nil .nil) .nil)) (.node (b0 P) (.node (b20 P) (.node (b39 P) .nil .nil) .nil) (.node (b0 P) (.node (b1 P) .nil .nil) .nil))) (.node (b2 P) (.node (b9 P) (.node (b1 P) (.node (b36 P) .nil .nil) (.node (b55 P) .nil .nil)) (.node (b0 P) (.node (b45 P) .nil .nil) .nil)) (.node (b0 P) (.node (b22 P) (.node (b0 P) .nil .nil) .nil) (.node (b32 P) (.node (b50 P) .nil .nil) .nil))))) (.node (boot_o_2 P) (.node (boot_o_4 P) (.node (boot_o_8 P) (.node (b1 P) (.node (b0 P) (.node (b33 P) .nil .nil) (.node (b1 P) .nil .nil)) (.node (b24 P) (.node (b43 P) .nil .nil) .nil)) (.node (b10 P) (.node (b19 P) (.node (b38 P) .nil .nil) .nil) (.node (b29 P) (.node (b0 P) .nil .nil) .nil))) (.node (b5 P) (.node (b8 P) (.node (b0 P) (.node (b1 P) .nil .nil) (.node (b54 P) .nil .nil)) (.node (b26 P) (.node (b0 P) .nil .nil) .nil)) (.node (b13 P) (.node (b1 P) (.node (b40 P) .nil .nil) .nil) (.node (b31 P) (.node (b49 P) .nil .nil) .nil)))) (.node (boot_o_6 P) (.node (boot_o_10 P) (.node (b0 P) (.node (b16 P) (.node (b35 P) .nil .nil) (.node (b0 P) .nil .nil)) (.node (b0 P) (.node (b1 P) .nil .nil) .nil)) (.node (b11 P) (.node (b21 P) (.node (b0 P) .nil .nil) .nil) (.node (b1 P) (.node (b48 P) .nil .nil) .nil))) (.node (b3 P) (.node (b0 P) (.node (b18 P) (.node (b0 P) .nil .nil) .nil) (.node (b27 P) (.node (b46 P) .nil .nil) .nil)) (.node (b1 P) (.node (b0 P) (.node (b41 P) .nil .nil) .nil) (.node (b0 P) (.node (b51 P) .nil .nil) .nil))))))
noncomputable def b56 (P : Params) : Obj := ⟨(.type "dict"), none, (.dict #[⟨(kh P "__name__"), .str "__name__" 165, (.str "fdsolve.store" 301)⟩, ⟨(kh P "__doc__"), .str "__doc__" 166, .none⟩, ⟨(kh P "__package__"), .str "__package__" 167, .none⟩, ⟨(kh P "__loader__"), .str "__loader__" 168, (.builtin "__main__.__loader__#opaque")⟩, ⟨(kh P "__spec__"), .str "__spec__" 169, .none⟩, ⟨(kh P "__annotations__"), .str "__annotations__" 170, (.ref 6)⟩, ⟨(kh P "__builtins__"), .str "__builtins__" 171, (.ref 4)⟩, ⟨(kh P "__file__"), .str "__file__" 173, (.str "/claim/cut.py" 172)⟩, ⟨(kh P "__cached__"), .str "__cached__" 174, .none⟩, ⟨(kh P "_wall"), .str "_wall" 193, (.ref 21)⟩, ⟨(kh P "least"), .str "least" 202, (.ref 28)⟩, ⟨(kh P "greatest"), .str "greatest" 209, (.ref 35)⟩, ⟨(kh P "next_from"), .str "next_from" 219, (.ref 42)⟩, ⟨(kh P "has"), .str "has" 227, (.ref 49)⟩, ⟨(kh P "has_domains"), .str "has_domains" 228, (.ref 49)⟩, ⟨(kh P "values"), .str "values" 238, (.ref 56)⟩, ⟨(kh P "up_to"), .str "up_to" 244, (.ref 61)⟩, ⟨(kh P "from_on"), .str "from_on" 250, (.ref 66)⟩, ⟨(kh P "without"), .str "without" 258, (.ref 73)⟩, ⟨(kh P "meet"), .str "meet" 271, (.ref 80)⟩, ⟨(kh P "negation"), .str "negation" 281, (.ref 87)⟩, ⟨(kh P "struck"), .str "struck" 291, (.ref 94)⟩, ⟨(kh P "said_of"), .str "said_of" 300, (.ref 101)⟩, ⟨(kh P "Store"), .str "Store" 494, (.ref 251)⟩] 24), #[]⟩
noncomputable def b57 (P : Params) : Obj := ⟨.none, none, (.fields #[(.int 1 0), (.int 0 0), (.ref 20), (.int 5 0), (.int 0 0), (.ref 27), (.int 7 0), (.int 0 0), (.ref 34), (.int 9 0), (.int 0 0), (.ref 41), (.int 14 0), (.int 0 0), (.ref 48), (.int 17 0), (.int 0 0), (.ref 55), (.int 22 0), (.int 0 0), (.ref 60), (.int 24 0), (.int 0 0), (.ref 65), (.int 26 0), (.int 0 0), (.ref 72), (.int 28 0), (.int 0 0), (.ref 79), (.int 39 0), (.int 0 0), (.ref 86), (.int 46 0), (.int 0 0), (.ref 93), (.int 53 0), (.int 0 0), (.ref 100), (.int 59 0), (.int 0 0), (.ref 107)]), #[]⟩
noncomputable def b58 (P : Params) : Obj := ⟨(.type "builtin_function_or_method"), none, (.fields #[(.builtin "type.__prepare__"), (.type "type")]), #[]⟩
noncomputable def b59 (P : Params) : Obj := ⟨(.type "dict"), none, (.dict #[⟨(kh P "__module__"), .str "__module__" 310, (.str "fdsolve.store" 301)⟩, ⟨(kh P "__qualname__"), .str "__qualname__" 312, (.str "Store" 311)⟩, ⟨(kh P "__firstlineno__"), .str "__firstlineno__" 314, (.int 59 313)⟩, ⟨(kh P "__init__"), .str "__init__" 321, (.ref 115)⟩, ⟨(kh P "new_var"), .str "new_var" 329, (.ref 122)⟩, ⟨(kh P "size"), .str "size" 336, (.ref 129)⟩, ⟨(kh P "dom"), .str "dom" 344, (.ref 136)⟩, ⟨(kh P "initial"), .str "initial" 352, (.ref 143)⟩, ⟨(kh P "low"), .str "low" 360, (.ref 150)⟩, ⟨(kh P "high"), .str "high" 368, (.ref 157)⟩, ⟨(kh P "has"), .str "has" 377, (.ref 164)⟩, ⟨(kh P "is_fixed"), .str "is_fixed" 385, (.ref 171)⟩, ⟨(kh P "value"), .str "value" 393, (.ref 178)⟩, ⟨(kh P "width"), .str "width" 401, (.ref 185)⟩, ⟨(kh P "holds"), .str "holds" 409, (.ref 192)⟩, ⟨(kh P "enter"), .str "enter" 422, (.ref 199)⟩, ⟨(kh P "strike"), .str "strike" 431, (.ref 206)⟩, ⟨(kh P "decide"), .str "decide" 439, (.ref 213)⟩, ⟨(kh P "fail"), .str "fail" 447, (.ref 220)⟩, ⟨(kh P "push"), .str "push" 454, (.ref 227)⟩, ⟨(kh P "pop"), .str "pop" 464, (.ref 234)⟩, ⟨(kh P "depth"), .str "depth" 471, (.ref 241)⟩, ⟨(kh P "changed"), .str "changed" 478, (.ref 248)⟩, ⟨(kh P "__static_attributes__"), .str "__static_attributes__" 487, (.ref 249)⟩] 24), #[]⟩
noncomputable def b60 (P : Params) : Obj := ⟨.none, none, (.fields #[(.int 61 0), (.int 4 0), (.ref 114), (.int 71 0), (.int 4 0), (.ref 121), (.int 78 0), (.int 4 0), (.ref 128), (.int 81 0), (.int 4 0), (.ref 135), (.int 84 0), (.int 4 0), (.ref 142), (.int 87 0), (.int 4 0), (.ref 149), (.int 90 0), (.int 4 0), (.ref 156), (.int 93 0), (.int 4 0), (.ref 163), (.int 96 0), (.int 4 0), (.ref 170), (.int 99 0), (.int 4 0), (.ref 177), (.int 102 0), (.int 4 0), (.ref 184), (.int 105 0), (.int 4 0), (.ref 191), (.int 108 0), (.int 4 0), (.ref 198), (.int 121 0), (.int 4 0), (.ref 205), (.int 124 0), (.int 4 0), (.ref 212), (.int 127 0), (.int 4 0), (.ref 219), (.int 132 0), (.int 4 0), (.ref 226), (.int 135 0), (.int 4 0), (.ref 233), (.int 147 0), (.int 4 0), (.ref 240), (.int 150 0), (.int 4 0), (.ref 247)]), #[]⟩
noncomputable def b61 (P : Params) : Obj := ⟨(.type "code"), none, (.fields #[(.str "Store" 305), (.str "Store" 306), (.str "/claim/cut.py" 307), (.int 59 0), (.int 0 0), (.int 0 0), (.int 0 0), (.int 0 0), (.ref 105), (.bool false), (.int 181 0), (.ref 106), .none, .none, .none, .none, (.int 308 0), (.int 59 0), (.str "/claim/cut.py" 309)]), #[]⟩
noncomputable def b62 (P : Params) : Obj := ⟨(.type "frame"), none, .plain, #[(some (.ref 107)), (some (.ref 3)), (some (.ref 104)), none, (some (.str "fdsolve.store" 301)), none, (some (.ref 0))]⟩
noncomputable def b63 (P : Params) : Obj := tp #[(.str "self" 318)]
noncomputable def b64 (P : Params) : Obj := fr "__init__" "Store.__init__" (dm "Store" "__init__")
noncomputable def b65 (P : Params) : Obj := co "__init__" "Store.__init__" 315 61 1 109 .none (.ref 111) (.ref 112) (.ref 113) 319
noncomputable def b66 (P : Params) : Obj := fn "__init__" "Store.__init__" (dm "Store" "__init__") [] "fdsolve.store" 301 114 .none
noncomputable def b67 (P : Params) : Obj := tp #[(.str "self" 325), (.str "domain" 326)]
noncomputable def b68 (P : Params) : Obj := fr "new_var" "Store.new_var" (dm "Store" "new_var")
noncomputable def b69 (P : Params) : Obj := co "new_var" "Store.new_var" 322 71 2 116 .none (.ref 118) (.ref 119) (.ref 120) 327
noncomputable def b70 (P : Params) : Obj := fn "new_var" "Store.new_var" (dm "Store" "new_var") [] "fdsolve.store" 301 121 .none
noncomputable def b71 (P : Params) : Obj := tp #[(.str "self" 333)]
noncomputable def b72 (P : Params) : Obj := fr "size" "Store.size" (dm "Store" "size")
noncomputable def b73 (P : Params) : Obj := co "size" "Store.size" 330 78 1 123 .none (.ref 125) (.ref 126) (.ref 127) 334
noncomputable def b74 (P : Params) : Obj := fn "size" "Store.size" (dm "Store" "size") [] "fdsolve.store" 301 128 .none
noncomputable def b75 (P : Params) : Obj := tp #[(.str "self" 340), (.str "x" 341)]
noncomputable def b76 (P : Params) : Obj := fr "dom" "Store.dom" (dm "Store" "dom")
noncomputable def b77 (P : Params) : Obj := co "dom" "Store.dom" 337 81 2 130 .none (.ref 132) (.ref 133) (.ref 134) 342
noncomputable def b78 (P : Params) : Obj := fn "dom" "Store.dom" (dm "Store" "dom") [] "fdsolve.store" 301 135 .none
noncomputable def b79 (P : Params) : Obj := tp #[(.str "self" 348), (.str "x" 349)]
noncomputable def b80 (P : Params) : Obj := fr "initial" "Store.initial" (dm "Store" "initial")
noncomputable def b81 (P : Params) : Obj := co "initial" "Store.initial" 345 84 2 137 .none (.ref 139) (.ref 140) (.ref 141) 350
noncomputable def b82 (P : Params) : Obj := fn "initial" "Store.initial" (dm "Store" "initial") [] "fdsolve.store" 301 142 .none
noncomputable def b83 (P : Params) : Obj := tp #[(.str "self" 356), (.str "x" 357)]
noncomputable def b84 (P : Params) : Obj := fr "low" "Store.low" (dm "Store" "low")
noncomputable def b85 (P : Params) : Obj := co "low" "Store.low" 353 87 2 144 .none (.ref 146) (.ref 147) (.ref 148) 358
noncomputable def b86 (P : Params) : Obj := fn "low" "Store.low" (dm "Store" "low") [] "fdsolve.store" 301 149 .none
noncomputable def b87 (P : Params) : Obj := tp #[(.str "self" 364), (.str "x" 365)]
noncomputable def b88 (P : Params) : Obj := fr "high" "Store.high" (dm "Store" "high")
noncomputable def b89 (P : Params) : Obj := co "high" "Store.high" 361 90 2 151 .none (.ref 153) (.ref 154) (.ref 155) 366
noncomputable def b90 (P : Params) : Obj := fn "high" "Store.high" (dm "Store" "high") [] "fdsolve.store" 301 156 .none
noncomputable def b91 (P : Params) : Obj := tp #[(.str "self" 372), (.str "x" 373), (.str "v" 374)]
noncomputable def b92 (P : Params) : Obj := fr "has" "Store.has" (dm "Store" "has")
noncomputable def b93 (P : Params) : Obj := co "has" "Store.has" 369 93 3 158 .none (.ref 160) (.ref 161) (.ref 162) 375
noncomputable def b94 (P : Params) : Obj := fn "has" "Store.has" (dm "Store" "has") [] "fdsolve.store" 301 163 .none
noncomputable def b95 (P : Params) : Obj := tp #[(.str "self" 381), (.str "x" 382)]
noncomputable def b96 (P : Params) : Obj := fr "is_fixed" "Store.is_fixed" (dm "Store" "is_fixed")
noncomputable def b97 (P : Params) : Obj := co "is_fixed" "Store.is_fixed" 378 96 2 165 .none (.ref 167) (.ref 168) (.ref 169) 383
noncomputable def b98 (P : Params) : Obj := fn "is_fixed" "Store.is_fixed" (dm "Store" "is_fixed") [] "fdsolve.store" 301 170 .none
noncomputable def b99 (P : Params) : Obj := tp #[(.str "self" 389), (.str "x" 390)]
noncomputable def b100 (P : Params) : Obj := fr "value" "Store.value" (dm "Store" "value")
noncomputable def b101 (P : Params) : Obj := co "value" "Store.value" 386 99 2 172 .none (.ref 174) (.ref 175) (.ref 176) 391
noncomputable def b102 (P : Params) : Obj := fn "value" "Store.value" (dm "Store" "value") [] "fdsolve.store" 301 177 .none
noncomputable def b103 (P : Params) : Obj := tp #[(.str "self" 397), (.str "x" 398)]
noncomputable def b104 (P : Params) : Obj := fr "width" "Store.width" (dm "Store" "width")
noncomputable def b105 (P : Params) : Obj := co "width" "Store.width" 394 102 2 179 .none (.ref 181) (.ref 182) (.ref 183) 399
noncomputable def b106 (P : Params) : Obj := fn "width" "Store.width" (dm "Store" "width") [] "fdsolve.store" 301 184 .none
noncomputable def b107 (P : Params) : Obj := tp #[(.str "self" 405), (.str "literal" 406)]
noncomputable def b108 (P : Params) : Obj := fr "holds" "Store.holds" (dm "Store" "holds")
noncomputable def b109 (P : Params) : Obj := co "holds" "Store.holds" 402 105 2 186 .none (.ref 188) (.ref 189) (.ref 190) 407
noncomputable def b110 (P : Params) : Obj := fn "holds" "Store.holds" (dm "Store" "holds") [] "fdsolve.store" 301 191 .none
noncomputable def b111 (P : Params) : Obj := tp #[(.str "self" 413), (.str "literal" 414), (.str "reasons" 415), (.str "speaker" 416), (.str "x" 417), (.str "old" 418), (.str "fresh" 419)]
noncomputable def b112 (P : Params) : Obj := fr "enter" "Store.enter" (dm "Store" "enter")
noncomputable def b113 (P : Params) : Obj := co "enter" "Store.enter" 410 108 4 193 .none (.ref 195) (.ref 196) (.ref 197) 420
noncomputable def b114 (P : Params) : Obj := fn "enter" "Store.enter" (dm "Store" "enter") [] "fdsolve.store" 301 198 .none
noncomputable def b115 (P : Params) : Obj := tp #[(.str "self" 426), (.str "literal" 427), (.str "reasons" 428)]
noncomputable def b116 (P : Params) : Obj := fr "strike" "Store.strike" (dm "Store" "strike")
noncomputable def b117 (P : Params) : Obj := co "strike" "Store.strike" 423 121 3 200 .none (.ref 202) (.ref 203) (.ref 204) 429
noncomputable def b118 (P : Params) : Obj := fn "strike" "Store.strike" (dm "Store" "strike") [] "fdsolve.store" 301 205 .none
noncomputable def b119 (P : Params) : Obj := tp #[(.str "self" 435), (.str "literal" 436)]
noncomputable def b120 (P : Params) : Obj := fr "decide" "Store.decide" (dm "Store" "decide")
noncomputable def b121 (P : Params) : Obj := co "decide" "Store.decide" 432 124 2 207 .none (.ref 209) (.ref 210) (.ref 211) 437
noncomputable def b122 (P : Params) : Obj := fn "decide" "Store.decide" (dm "Store" "decide") [] "fdsolve.store" 301 212 .none
noncomputable def b123 (P : Params) : Obj := tp #[(.str "self" 443), (.str "reasons" 444)]
noncomputable def b124 (P : Params) : Obj := fr "fail" "Store.fail" (dm "Store" "fail")
noncomputable def b125 (P : Params) : Obj := co "fail" "Store.fail" 440 127 2 214 .none (.ref 216) (.ref 217) (.ref 218) 445
noncomputable def b126 (P : Params) : Obj := fn "fail" "Store.fail" (dm "Store" "fail") [] "fdsolve.store" 301 219 .none
noncomputable def b127 (P : Params) : Obj := tp #[(.str "self" 451)]
noncomputable def b128 (P : Params) : Obj := fr "push" "Store.push" (dm "Store" "push")
noncomputable def b129 (P : Params) : Obj := co "push" "Store.push" 448 132 1 221 .none (.ref 223) (.ref 224) (.ref 225) 452
noncomputable def b130 (P : Params) : Obj := fn "push" "Store.push" (dm "Store" "push") [] "fdsolve.store" 301 226 .none
noncomputable def b131 (P : Params) : Obj := tp #[(.str "self" 458), (.str "n" 459), (.str "mark" 460), (.str "entry" 461)]
noncomputable def b132 (P : Params) : Obj := fr "pop" "Store.pop" (dm "Store" "pop")
noncomputable def b133 (P : Params) : Obj := co "pop" "Store.pop" 455 135 2 228 .none (.ref 230) (.ref 231) (.ref 232) 462
noncomputable def b134 (P : Params) : Obj := fn "pop" "Store.pop" (dm "Store" "pop") [] "fdsolve.store" 301 233 .none
noncomputable def b135 (P : Params) : Obj := tp #[(.str "self" 468)]
noncomputable def b136 (P : Params) : Obj := fr "depth" "Store.depth" (dm "Store" "depth")
noncomputable def b137 (P : Params) : Obj := co "depth" "Store.depth" 465 147 1 235 .none (.ref 237) (.ref 238) (.ref 239) 469
noncomputable def b138 (P : Params) : Obj := fn "depth" "Store.depth" (dm "Store" "depth") [] "fdsolve.store" 301 240 .none
noncomputable def b139 (P : Params) : Obj := tp #[(.str "self" 475)]
noncomputable def b140 (P : Params) : Obj := fr "changed" "Store.changed" (dm "Store" "changed")
noncomputable def b141 (P : Params) : Obj := co "changed" "Store.changed" 472 150 1 242 .none (.ref 244) (.ref 245) (.ref 246) 476
noncomputable def b142 (P : Params) : Obj := fn "changed" "Store.changed" (dm "Store" "changed") [] "fdsolve.store" 301 247 .none
noncomputable def b143 (P : Params) : Obj := tp #[(.str "clash" 479), (.str "domains" 480), (.str "firsts" 481), (.str "is_failed" 482), (.str "marks" 483), (.str "news" 484), (.str "speaker" 485), (.str "trail" 486)]
noncomputable def b144 (P : Params) : Obj := ⟨(.type "dict"), none, (.dict #[⟨(kh P "__module__"), .str "__module__" 310, (.str "fdsolve.store" 301)⟩, ⟨(kh P "__firstlineno__"), .str "__firstlineno__" 314, (.int 59 313)⟩, ⟨(kh P "__init__"), .str "__init__" 321, (.ref 115)⟩, ⟨(kh P "new_var"), .str "new_var" 329, (.ref 122)⟩, ⟨(kh P "size"), .str "size" 336, (.ref 129)⟩, ⟨(kh P "dom"), .str "dom" 344, (.ref 136)⟩, ⟨(kh P "initial"), .str "initial" 352, (.ref 143)⟩, ⟨(kh P "low"), .str "low" 360, (.ref 150)⟩, ⟨(kh P "high"), .str "high" 368, (.ref 157)⟩, ⟨(kh P "has"), .str "has" 377, (.ref 164)⟩, ⟨(kh P "is_fixed"), .str "is_fixed" 385, (.ref 171)⟩, ⟨(kh P "value"), .str "value" 393, (.ref 178)⟩, ⟨(kh P "width"), .str "width" 401, (.ref 185)⟩, ⟨(kh P "holds"), .str "holds" 409, (.ref 192)⟩, ⟨(kh P "enter"), .str "enter" 422, (.ref 199)⟩, ⟨(kh P "strike"), .str "strike" 431, (.ref 206)⟩, ⟨(kh P "decide"), .str "decide" 439, (.ref 213)⟩, ⟨(kh P "fail"), .str "fail" 447, (.ref 220)⟩, ⟨(kh P "push"), .str "push" 454, (.ref 227)⟩, ⟨(kh P "pop"), .str "pop" 464, (.ref 234)⟩, ⟨(kh P "depth"), .str "depth" 471, (.ref 241)⟩, ⟨(kh P "changed"), .str "changed" 478, (.ref 248)⟩, ⟨(kh P "__static_attributes__"), .str "__static_attributes__" 487, (.ref 249)⟩, ⟨(kh P "__dict__"), .str "__dict__" 489, (.ref 252)⟩, ⟨(kh P "__weakref__"), .str "__weakref__" 491, (.ref 253)⟩, ⟨(kh P "__doc__"), .str "__doc__" 492, .none⟩] 4), #[]⟩
noncomputable def b145 (P : Params) : Obj := ⟨(.type "type"), none, (.cls ⟨"Store", [(.type "object")], [(.ref 251), (.type "object")], 250, "Store", true, [], [], false, none, false⟩), #[none, none, (some (.str "Store" 303)), (some (.str "Store" 311)), (some (.builtin "object.__new__")), (some (.bool true))]⟩
noncomputable def b146 (P : Params) : Obj := ⟨(.type "getset_descriptor"), none, (.fields #[(.str "__dict__" 488), (.ref 251), (.builtin "function.__dict__"), (.builtin "function.__dict__#set")]), #[]⟩
noncomputable def b147 (P : Params) : Obj := ⟨(.type "getset_descriptor"), none, (.fields #[(.str "__weakref__" 490), (.ref 251), (.builtin "ExceptionGroup.__weakref__"), .none]), #[]⟩
noncomputable def b148 (P : Params) : Obj := ⟨(.type "super"), none, (.fields #[(.ref 251), (.ref 251), (.ref 251)]), #[]⟩
noncomputable def b149 (P : Params) : Obj := ⟨(.type "builtin_function_or_method"), none, (.fields #[(.builtin "object.__init_subclass__"), (.ref 251)]), #[]⟩
noncomputable def tr2 (P : Params) : BT := (.node (boot_o_0 P) (.node (boot_o_1 P) (.node (b56 P) (.node (boot_o_7 P) (.node (b0 P) (.node (b14 P) (.node (b1 P) (.node (b72 P) (.node (b149 P) .nil .nil) .nil) (.node (b109 P) .nil .nil)) (.node (b0 P) (.node (b1 P) .nil .nil) (.node (b127 P) .nil .nil))) (.node (b23 P) (.node (b42 P) (.node (b82 P) .nil .nil) (.node (b0 P) .nil .nil)) (.node (b63 P) (.node (b0 P) .nil .nil) (.node (b136 P) .nil .nil)))) (.node (b1 P) (.node (b0 P) (.node (b37 P) (.node (b77 P) .nil .nil) (.node (b114 P) .nil .nil)) (.node (b58 P) (.node (b95 P) .nil .nil) (.node (b0 P) .nil .nil))) (.node (b28 P) (.node (b47 P) (.node (b0 P) .nil .nil) (.node (b1 P) .nil .nil)) (.node (b0 P) (.node (b104 P) .nil .nil) (.node (b141 P) .nil .nil))))) (.node (b0 P) (.node (b7 P) (.node (b17 P) (.node (b0 P) (.node (b1 P) .nil .nil) (.node (b111 P) .nil .nil)) (.node (b53 P) (.node (b93 P) .nil .nil) (.node (b130 P) .nil .nil))) (.node (b1 P) (.node (b44 P) (.node (b0 P) .nil .nil) (.node (b120 P) .nil .nil)) (.node (b66 P) (.node (b0 P) .nil .nil) (.node (b1 P) .nil .nil)))) (.node (b12 P) (.node (b0 P) (.node (b1 P) (.node (b79 P) .nil .nil) (.node (b0 P) .nil .nil)) (.node (b61 P) (.node (b98 P) .nil .nil) (.node (b0 P) .nil .nil))) (.node (b30 P) (.node (b0 P) (.node (b88 P) .nil .nil) (.node (b125 P) .nil .nil)) (.node (b0 P) (.node (b1 P) .nil .nil) (.node (b145 P) .nil .nil)))))) (.node (boot_o_5 P) (.node (boot_o_9 P) (.node (b6 P) (.node (b15 P) (.node (b34 P) (.node (b74 P) .nil .nil) (.node (b0 P) .nil .nil)) (.node (b52 P) (.node (b0 P) .nil .nil) (.node (b128 P) .nil .nil))) (.node (b25 P) (.node (b0 P) (.node (b1 P) .nil .nil) (.node (b119 P) .nil .nil)) (.node (b64 P) (.node (b101 P) .nil .nil) (.node (b138 P) .nil .nil)))) (.node (b0 P) (.node (b20 P) (.node (b39 P) (.node (b0 P) .nil .nil) (.node (b1 P) .nil .nil)) (.node (b0 P) (.node (b96 P) .nil .nil) (.node (b133 P) .nil .nil))) (.node (b0 P) (.node (b1 P) (.node (b87 P) .nil .nil) (.node (b0 P) .nil .nil)) (.node (b69 P) (.node (b106 P) .nil .nil) (.node (b143 P) .nil .nil))))) (.node (b2 P) (.node (b9 P) (.node (b1 P) (.node (b36 P) (.node (b0 P) .nil .nil) (.node (b112 P) .nil .nil)) (.node (b55 P) (.node (b0 P) .nil .nil) (.node (b1 P) .nil .nil))) (.node (b0 P) (.node (b45 P) (.node (b85 P) .nil .nil) (.node (b122 P) .nil .nil)) (.node (b1 P) (.node (b103 P) .nil .nil) (.node (b0 P) .nil .nil)))) (.node (b0 P) (.node (b22 P) (.node (b0 P) (.node (b80 P) .nil .nil) (.node (b117 P) .nil .nil)) (.node (b0 P) (.node (b1 P) .nil .nil) (.node (b135 P) .nil .nil))) (.node (b32 P) (.node (b50 P) (.node (b90 P) .nil .nil) (.node (b0 P) .nil .nil)) (.node (b71 P) (.node (b0 P) .nil .nil) (.node (b147 P) .nil .nil))))))) (.node (boot_o_2 P) (.node (boot_o_4 P) (.node (boot_o_8 P) (.node (b1 P) (.node (b0 P) (.node (b33 P) (.node (b73 P) .nil .nil) (.node (b110 P) .nil .nil)) (.node (b1 P) (.node (b91 P) .nil .nil) (.node (b0 P) .nil .nil))) (.node (b24 P) (.node (b43 P) (.node (b0 P) .nil .nil) (.node (b1 P) .nil .nil)) (.node (b0 P) (.node (b100 P) .nil .nil) (.node (b137 P) .nil .nil)))) (.node (b10 P) (.node (b19 P) (.node (b38 P) (.node (b78 P) .nil .nil) (.node (b0 P) .nil .nil)) (.node (b59 P) (.node (b0 P) .nil .nil) (.node (b132 P) .nil .nil))) (.node (b29 P) (.node (b0 P) (.node (b1 P) .nil .nil) (.node (b123 P) .nil .nil)) (.node (b68 P) (.node (b105 P) .nil .nil) (.node (b142 P) .nil .nil))))) (.node (b57 P) (.node (b8 P) (.node (b0 P) (.node (b1 P) (.node (b75 P) .nil .nil) (.node (b0 P) .nil .nil)) (.node (b54 P) (.node (b94 P) .nil .nil) (.node (b0 P) .nil .nil))) (.node (b26 P) (.node (b0 P) (.node (b84 P) .nil .nil) (.node (b121 P) .nil .nil)) (.node (b0 P) (.node (b1 P) .nil .nil) (.node (b139 P) .nil .nil)))) (.node (b13 P) (.node (b1 P) (.node (b40 P) (.node (b0 P) .nil .nil) (.node (b116 P) .nil .nil)) (.node (b62 P) (.node (b0 P) .nil .nil) (.node (b1 P) .nil .nil))) (.node (b31 P) (.node (b49 P) (.node (b89 P) .nil .nil) (.node (b126 P) .nil .nil)) (.node (b1 P) (.node (b107 P) .nil .nil) (.node (b146 P) .nil .nil)))))) (.node (boot_o_6 P) (.node (boot_o_10 P) (.node (b0 P) (.node (b16 P) (.node (b35 P) (.node (b0 P) .nil .nil) (.node (b1 P) .nil .nil)) (.node (b0 P) (.node (b92 P) .nil .nil) (.node (b129 P) .nil .nil))) (.node (b0 P) (.node (b1 P) (.node (b83 P) .nil .nil) (.node (b0 P) .nil .nil)) (.node (b65 P) (.node (b102 P) .nil .nil) (.node (b0 P) .nil .nil)))) (.node (b11 P) (.node (b21 P) (.node (b0 P) (.node (b1 P) .nil .nil) (.node (b115 P) .nil .nil)) (.node (b60 P) (.node (b97 P) .nil .nil) (.node (b134 P) .nil .nil))) (.node (b1 P) (.node (b48 P) (.node (b0 P) .nil .nil) (.node (b124 P) .nil .nil)) (.node (b70 P) (.node (b0 P) .nil .nil) (.node (b144 P) .nil .nil))))) (.node (b3 P) (.node (b0 P) (.node (b18 P) (.node (b0 P) (.node (b76 P) .nil .nil) (.node (b113 P) .nil .nil)) (.node (b0 P) (.node (b1 P) .nil .nil) (.node (b131 P) .nil .nil))) (.node (b27 P) (.node (b46 P) (.node (b86 P) .nil .nil) (.node (b0 P) .nil .nil)) (.node (b67 P) (.node (b0 P) .nil .nil) (.node (b140 P) .nil .nil)))) (.node (b1 P) (.node (b0 P) (.node (b41 P) (.node (b81 P) .nil .nil) (.node (b118 P) .nil .nil)) (.node (b1 P) (.node (b99 P) .nil .nil) (.node (b0 P) .nil .nil))) (.node (b0 P) (.node (b51 P) (.node (b0 P) .nil .nil) (.node (b1 P) .nil .nil)) (.node (b0 P) (.node (b108 P) .nil .nil) (.node (b148 P) .nil .nil))))))))
noncomputable def b150 (P : Params) : Obj := ⟨(.type "dict"), none, (.dict #[⟨(kh P "__name__"), .str "__name__" 165, (.str "fdsolve.alldiff" 550)⟩, ⟨(kh P "__doc__"), .str "__doc__" 166, .none⟩, ⟨(kh P "__package__"), .str "__package__" 167, .none⟩, ⟨(kh P "__loader__"), .str "__loader__" 168, (.builtin "__main__.__loader__#opaque")⟩, ⟨(kh P "__spec__"), .str "__spec__" 169, .none⟩, ⟨(kh P "__annotations__"), .str "__annotations__" 170, (.ref 6)⟩, ⟨(kh P "__builtins__"), .str "__builtins__" 171, (.ref 4)⟩, ⟨(kh P "__file__"), .str "__file__" 173, (.str "/claim/cut.py" 172)⟩, ⟨(kh P "__cached__"), .str "__cached__" 174, .none⟩, ⟨(kh P "_wall"), .str "_wall" 193, (.ref 21)⟩, ⟨(kh P "least"), .str "least" 202, (.ref 28)⟩, ⟨(kh P "greatest"), .str "greatest" 209, (.ref 35)⟩, ⟨(kh P "next_from"), .str "next_from" 219, (.ref 42)⟩, ⟨(kh P "has"), .str "has" 227, (.ref 49)⟩, ⟨(kh P "has_domains"), .str "has_domains" 228, (.ref 49)⟩, ⟨(kh P "values"), .str "values" 238, (.ref 56)⟩, ⟨(kh P "up_to"), .str "up_to" 244, (.ref 61)⟩, ⟨(kh P "from_on"), .str "from_on" 250, (.ref 66)⟩, ⟨(kh P "without"), .str "without" 258, (.ref 73)⟩, ⟨(kh P "meet"), .str "meet" 271, (.ref 80)⟩, ⟨(kh P "negation"), .str "negation" 281, (.ref 87)⟩, ⟨(kh P "struck"), .str "struck" 291, (.ref 94)⟩, ⟨(kh P "said_of"), .str "said_of" 300, (.ref 101)⟩, ⟨(kh P "Store"), .str "Store" 494, (.ref 251)⟩, ⟨(kh P "Propagator"), .str "Propagator" 549, (.ref 293)⟩, ⟨(kh P "Matching"), .str "Matching" 616, (.ref 333)⟩] 26), #[]⟩
noncomputable def b151 (P : Params) : Obj := ⟨.none, none, (.fields #[(.int 1 0), (.int 0 0), (.ref 20), (.int 5 0), (.int 0 0), (.ref 27), (.int 7 0), (.int 0 0), (.ref 34), (.int 9 0), (.int 0 0), (.ref 41), (.int 14 0), (.int 0 0), (.ref 48), (.int 17 0), (.int 0 0), (.ref 55), (.int 22 0), (.int 0 0), (.ref 60), (.int 24 0), (.int 0 0), (.ref 65), (.int 26 0), (.int 0 0), (.ref 72), (.int 28 0), (.int 0 0), (.ref 79), (.int 39 0), (.int 0 0), (.ref 86), (.int 46 0), (.int 0 0), (.ref 93), (.int 53 0), (.int 0 0), (.ref 100), (.int 59 0), (.int 0 0), (.ref 107), (.int 152 0), (.int 0 0), (.ref 261), (.int 168 0), (.int 0 0), (.ref 303)]), #[]⟩
noncomputable def b152 (P : Params) : Obj := ⟨(.type "dict"), none, (.dict #[⟨(kh P "__module__"), .str "__module__" 502, (.str "fdsolve.store" 301)⟩, ⟨(kh P "__qualname__"), .str "__qualname__" 504, (.str "Propagator" 503)⟩, ⟨(kh P "__firstlineno__"), .str "__firstlineno__" 506, (.int 152 505)⟩, ⟨(kh P "__init__"), .str "__init__" 515, (.ref 269)⟩, ⟨(kh P "propagate"), .str "propagate" 523, (.ref 276)⟩, ⟨(kh P "check"), .str "check" 531, (.ref 283)⟩, ⟨(kh P "told"), .str "told" 538, (.ref 290)⟩, ⟨(kh P "__static_attributes__"), .str "__static_attributes__" 542, (.ref 291)⟩] 8), #[]⟩
noncomputable def b153 (P : Params) : Obj := ⟨.none, none, (.fields #[(.int 154 0), (.int 4 0), (.ref 268), (.int 159 0), (.int 4 0), (.ref 275), (.int 162 0), (.int 4 0), (.ref 282), (.int 165 0), (.int 4 0), (.ref 289)]), #[]⟩
noncomputable def b154 (P : Params) : Obj := ⟨(.type "code"), none, (.fields #[(.str "Propagator" 497), (.str "Propagator" 498), (.str "/claim/cut.py" 499), (.int 152 0), (.int 0 0), (.int 0 0), (.int 0 0), (.int 0 0), (.ref 259), (.bool false), (.int 181 0), (.ref 260), .none, .none, .none, .none, (.int 500 0), (.int 152 0), (.str "/claim/cut.py" 501)]), #[]⟩
noncomputable def b155 (P : Params) : Obj := ⟨(.type "frame"), none, .plain, #[(some (.ref 261)), (some (.ref 3)), (some (.ref 258)), none, (some (.str "fdsolve.store" 301)), none, (some (.ref 0))]⟩
noncomputable def b156 (P : Params) : Obj := tp #[(.str "self" 510), (.str "scope" 511), (.str "strength" 512)]
noncomputable def b157 (P : Params) : Obj := fr "__init__" "Propagator.__init__" (dm "Propagator" "__init__")
noncomputable def b158 (P : Params) : Obj := co "__init__" "Propagator.__init__" 507 154 3 263 .none (.ref 265) (.ref 266) (.ref 267) 513
noncomputable def b159 (P : Params) : Obj := fn "__init__" "Propagator.__init__" (dm "Propagator" "__init__") [] "fdsolve.store" 301 268 .none
noncomputable def b160 (P : Params) : Obj := tp #[(.str "self" 519), (.str "store" 520)]
noncomputable def b161 (P : Params) : Obj := fr "propagate" "Propagator.propagate" (dm "Propagator" "propagate")
noncomputable def b162 (P : Params) : Obj := co "propagate" "Propagator.propagate" 516 159 2 270 .none (.ref 272) (.ref 273) (.ref 274) 521
noncomputable def b163 (P : Params) : Obj := fn "propagate" "Propagator.propagate" (dm "Propagator" "propagate") [] "fdsolve.store" 301 275 .none
noncomputable def b164 (P : Params) : Obj := tp #[(.str "self" 527), (.str "values" 528)]
noncomputable def b165 (P : Params) : Obj := fr "check" "Propagator.check" (dm "Propagator" "check")
noncomputable def b166 (P : Params) : Obj := co "check" "Propagator.check" 524 162 2 277 .none (.ref 279) (.ref 280) (.ref 281) 529
noncomputable def b167 (P : Params) : Obj := fn "check" "Propagator.check" (dm "Propagator" "check") [] "fdsolve.store" 301 282 .none
noncomputable def b168 (P : Params) : Obj := tp #[(.str "self" 535)]
noncomputable def b169 (P : Params) : Obj := fr "told" "Propagator.told" (dm "Propagator" "told")
noncomputable def b170 (P : Params) : Obj := co "told" "Propagator.told" 532 165 1 284 .none (.ref 286) (.ref 287) (.ref 288) 536
noncomputable def b171 (P : Params) : Obj := fn "told" "Propagator.told" (dm "Propagator" "told") [] "fdsolve.store" 301 289 .none
noncomputable def b172 (P : Params) : Obj := tp #[(.str "number" 539), (.str "scope" 540), (.str "strength" 541)]
noncomputable def b173 (P : Params) : Obj := ⟨(.type "dict"), none, (.dict #[⟨(kh P "__module__"), .str "__module__" 502, (.str "fdsolve.store" 301)⟩, ⟨(kh P "__firstlineno__"), .str "__firstlineno__" 506, (.int 152 505)⟩, ⟨(kh P "__init__"), .str "__init__" 515, (.ref 269)⟩, ⟨(kh P "propagate"), .str "propagate" 523, (.ref 276)⟩, ⟨(kh P "check"), .str "check" 531, (.ref 283)⟩, ⟨(kh P "told"), .str "told" 538, (.ref 290)⟩, ⟨(kh P "__static_attributes__"), .str "__static_attributes__" 542, (.ref 291)⟩, ⟨(kh P "__dict__"), .str "__dict__" 544, (.ref 294)⟩, ⟨(kh P "__weakref__"), .str "__weakref__" 546, (.ref 295)⟩, ⟨(kh P "__doc__"), .str "__doc__" 547, .none⟩] 4), #[]⟩
noncomputable def b174 (P : Params) : Obj := ⟨(.type "type"), none, (.cls ⟨"Propagator", [(.type "object")], [(.ref 293), (.type "object")], 292, "Propagator", true, [], [], false, none, false⟩), #[none, none, (some (.str "Propagator" 495)), (some (.str "Propagator" 503)), (some (.builtin "object.__new__")), (some (.bool true))]⟩
noncomputable def b175 (P : Params) : Obj := ⟨(.type "getset_descriptor"), none, (.fields #[(.str "__dict__" 543), (.ref 293), (.builtin "function.__dict__"), (.builtin "function.__dict__#set")]), #[]⟩
noncomputable def b176 (P : Params) : Obj := ⟨(.type "getset_descriptor"), none, (.fields #[(.str "__weakref__" 545), (.ref 293), (.builtin "ExceptionGroup.__weakref__"), .none]), #[]⟩
noncomputable def b177 (P : Params) : Obj := ⟨(.type "super"), none, (.fields #[(.ref 293), (.ref 293), (.ref 293)]), #[]⟩
noncomputable def b178 (P : Params) : Obj := ⟨(.type "builtin_function_or_method"), none, (.fields #[(.builtin "object.__init_subclass__"), (.ref 293)]), #[]⟩
noncomputable def b179 (P : Params) : Obj := ⟨(.type "dict"), none, (.dict #[⟨(kh P "__module__"), .str "__module__" 559, (.str "fdsolve.alldiff" 550)⟩, ⟨(kh P "__qualname__"), .str "__qualname__" 561, (.str "Matching" 560)⟩, ⟨(kh P "__firstlineno__"), .str "__firstlineno__" 563, (.int 168 562)⟩, ⟨(kh P "__init__"), .str "__init__" 569, (.ref 309)⟩, ⟨(kh P "seat"), .str "seat" 581, (.ref 316)⟩, ⟨(kh P "hand_on"), .str "hand_on" 592, (.ref 323)⟩, ⟨(kh P "closed_from"), .str "closed_from" 605, (.ref 330)⟩, ⟨(kh P "__static_attributes__"), .str "__static_attributes__" 609, (.ref 331)⟩] 8), #[]⟩
noncomputable def b180 (P : Params) : Obj := ⟨.none, none, (.fields #[(.int 170 0), (.int 4 0), (.ref 308), (.int 175 0), (.int 4 0), (.ref 315), (.int 188 0), (.int 4 0), (.ref 322), (.int 196 0), (.int 4 0), (.ref 329)]), #[]⟩
noncomputable def b181 (P : Params) : Obj := ⟨(.type "code"), none, (.fields #[(.str "Matching" 554), (.str "Matching" 555), (.str "/claim/cut.py" 556), (.int 168 0), (.int 0 0), (.int 0 0), (.int 0 0), (.int 0 0), (.ref 301), (.bool false), (.int 181 0), (.ref 302), .none, .none, .none, .none, (.int 557 0), (.int 168 0), (.str "/claim/cut.py" 558)]), #[]⟩
noncomputable def b182 (P : Params) : Obj := ⟨(.type "frame"), none, .plain, #[(some (.ref 303)), (some (.ref 3)), (some (.ref 300)), none, (some (.str "fdsolve.alldiff" 550)), none, (some (.ref 0))]⟩
noncomputable def b183 (P : Params) : Obj := fr "__init__" "Matching.__init__" (dm "Matching" "__init__")
noncomputable def b184 (P : Params) : Obj := co "__init__" "Matching.__init__" 564 170 3 305 .none .none .none (.ref 307) 567
noncomputable def b185 (P : Params) : Obj := fn "__init__" "Matching.__init__" (dm "Matching" "__init__") [] "fdsolve.alldiff" 550 308 .none
noncomputable def b186 (P : Params) : Obj := tp #[(.str "self" 573), (.str "place" 574), (.str "came" 575), (.str "places" 576), (.str "k" 577), (.str "v" 578)]
noncomputable def b187 (P : Params) : Obj := fr "seat" "Matching.seat" (dm "Matching" "seat")
noncomputable def b188 (P : Params) : Obj := co "seat" "Matching.seat" 570 175 2 310 .none (.ref 312) (.ref 313) (.ref 314) 579
noncomputable def b189 (P : Params) : Obj := fn "seat" "Matching.seat" (dm "Matching" "seat") [] "fdsolve.alldiff" 550 315 .none
noncomputable def b190 (P : Params) : Obj := tp #[(.str "self" 585), (.str "v" 586), (.str "came" 587), (.str "p" 588), (.str "left" 589)]
noncomputable def b191 (P : Params) : Obj := fr "hand_on" "Matching.hand_on" (dm "Matching" "hand_on")
noncomputable def b192 (P : Params) : Obj := co "hand_on" "Matching.hand_on" 582 188 3 317 .none (.ref 319) (.ref 320) (.ref 321) 590
noncomputable def b193 (P : Params) : Obj := fn "hand_on" "Matching.hand_on" (dm "Matching" "hand_on") [] "fdsolve.alldiff" 550 322 .none
noncomputable def b194 (P : Params) : Obj := tp #[(.str "self" 596), (.str "v" 597), (.str "places" 598), (.str "seen" 599), (.str "stack" 600), (.str "w" 601), (.str "u" 602)]
noncomputable def b195 (P : Params) : Obj := fr "closed_from" "Matching.closed_from" (dm "Matching" "closed_from")
noncomputable def b196 (P : Params) : Obj := co "closed_from" "Matching.closed_from" 593 196 2 324 .none (.ref 326) (.ref 327) (.ref 328) 603
noncomputable def b197 (P : Params) : Obj := fn "closed_from" "Matching.closed_from" (dm "Matching" "closed_from") [] "fdsolve.alldiff" 550 329 .none
noncomputable def b198 (P : Params) : Obj := tp #[(.str "choices" 606), (.str "mate" 607), (.str "owner" 608)]
noncomputable def b199 (P : Params) : Obj := ⟨(.type "dict"), none, (.dict #[⟨(kh P "__module__"), .str "__module__" 559, (.str "fdsolve.alldiff" 550)⟩, ⟨(kh P "__firstlineno__"), .str "__firstlineno__" 563, (.int 168 562)⟩, ⟨(kh P "__init__"), .str "__init__" 569, (.ref 309)⟩, ⟨(kh P "seat"), .str "seat" 581, (.ref 316)⟩, ⟨(kh P "hand_on"), .str "hand_on" 592, (.ref 323)⟩, ⟨(kh P "closed_from"), .str "closed_from" 605, (.ref 330)⟩, ⟨(kh P "__static_attributes__"), .str "__static_attributes__" 609, (.ref 331)⟩, ⟨(kh P "__dict__"), .str "__dict__" 611, (.ref 334)⟩, ⟨(kh P "__weakref__"), .str "__weakref__" 613, (.ref 335)⟩, ⟨(kh P "__doc__"), .str "__doc__" 614, .none⟩] 4), #[]⟩
noncomputable def b200 (P : Params) : Obj := ⟨(.type "type"), none, (.cls ⟨"Matching", [(.type "object")], [(.ref 333), (.type "object")], 332, "Matching", true, [], [], false, none, false⟩), #[none, none, (some (.str "Matching" 552)), (some (.str "Matching" 560)), (some (.builtin "object.__new__")), (some (.bool true))]⟩
noncomputable def b201 (P : Params) : Obj := ⟨(.type "getset_descriptor"), none, (.fields #[(.str "__dict__" 610), (.ref 333), (.builtin "function.__dict__"), (.builtin "function.__dict__#set")]), #[]⟩
noncomputable def b202 (P : Params) : Obj := ⟨(.type "getset_descriptor"), none, (.fields #[(.str "__weakref__" 612), (.ref 333), (.builtin "ExceptionGroup.__weakref__"), .none]), #[]⟩
noncomputable def b203 (P : Params) : Obj := ⟨(.type "super"), none, (.fields #[(.ref 333), (.ref 333), (.ref 333)]), #[]⟩
noncomputable def b204 (P : Params) : Obj := ⟨(.type "builtin_function_or_method"), none, (.fields #[(.builtin "object.__init_subclass__"), (.ref 333)]), #[]⟩
noncomputable def tr3 (P : Params) : BT := (.node (boot_o_0 P) (.node (boot_o_1 P) (.node (b150 P) (.node (boot_o_7 P) (.node (b0 P) (.node (b14 P) (.node (b1 P) (.node (b72 P) (.node (b149 P) .nil .nil) .nil) (.node (b109 P) (.node (b190 P) .nil .nil) .nil)) (.node (b0 P) (.node (b1 P) (.node (b0 P) .nil .nil) .nil) (.node (b127 P) .nil .nil))) (.node (b23 P) (.node (b42 P) (.node (b82 P) (.node (b1 P) .nil .nil) .nil) (.node (b0 P) (.node (b202 P) .nil .nil) .nil)) (.node (b63 P) (.node (b0 P) (.node (b181 P) .nil .nil) .nil) (.node (b136 P) .nil .nil)))) (.node (b1 P) (.node (b0 P) (.node (b37 P) (.node (b77 P) (.node (b0 P) .nil .nil) .nil) (.node (b114 P) (.node (b0 P) .nil .nil) .nil)) (.node (b58 P) (.node (b95 P) (.node (b176 P) .nil .nil) .nil) (.node (b0 P) .nil .nil))) (.node (b28 P) (.node (b47 P) (.node (b0 P) (.node (b164 P) .nil .nil) .nil) (.node (b1 P) .nil .nil)) (.node (b0 P) (.node (b104 P) (.node (b1 P) .nil .nil) .nil) (.node (b141 P) .nil .nil))))) (.node (b0 P) (.node (b7 P) (.node (b17 P) (.node (b0 P) (.node (b1 P) (.node (b0 P) .nil .nil) .nil) (.node (b111 P) (.node (b193 P) .nil .nil) .nil)) (.node (b53 P) (.node (b93 P) (.node (b172 P) .nil .nil) .nil) (.node (b130 P) .nil .nil))) (.node (b1 P) (.node (b44 P) (.node (b0 P) (.node (b162 P) .nil .nil) .nil) (.node (b120 P) .nil .nil)) (.node (b66 P) (.node (b0 P) (.node (b183 P) .nil .nil) .nil) (.node (b1 P) .nil .nil)))) (.node (b12 P) (.node (b0 P) (.node (b1 P) (.node (b79 P) (.node (b157 P) .nil .nil) .nil) (.node (b0 P) (.node (b198 P) .nil .nil) .nil)) (.node (b61 P) (.node (b98 P) (.node (b58 P) .nil .nil) .nil) (.node (b0 P) .nil .nil))) (.node (b30 P) (.node (b0 P) (.node (b88 P) (.node (b167 P) .nil .nil) .nil) (.node (b125 P) .nil .nil)) (.node (b0 P) (.node (b1 P) (.node (b188 P) .nil .nil) .nil) (.node (b145 P) .nil .nil)))))) (.node (boot_o_5 P) (.node (boot_o_9 P) (.node (b6 P) (.node (b15 P) (.node (b34 P) (.node (b74 P) (.node (b58 P) .nil .nil) .nil) (.node (b0 P) (.node (b191 P) .nil .nil) .nil)) (.node (b52 P) (.node (b0 P) (.node (b170 P) .nil .nil) .nil) (.node (b128 P) .nil .nil))) (.node (b25 P) (.node (b0 P) (.node (b1 P) (.node (b0 P) .nil .nil) .nil) (.node (b119 P) (.node (b204 P) .nil .nil) .nil)) (.node (b64 P) (.node (b101 P) (.node (b0 P) .nil .nil) .nil) (.node (b138 P) .nil .nil)))) (.node (b0 P) (.node (b20 P) (.node (b39 P) (.node (b0 P) (.node (b156 P) .nil .nil) .nil) (.node (b1 P) (.node (b196 P) .nil .nil) .nil)) (.node (b0 P) (.node (b96 P) (.node (b178 P) .nil .nil) .nil) (.node (b133 P) .nil .nil))) (.node (b0 P) (.node (b1 P) (.node (b87 P) (.node (b165 P) .nil .nil) .nil) (.node (b0 P) .nil .nil)) (.node (b69 P) (.node (b106 P) (.node (b0 P) .nil .nil) .nil) (.node (b143 P) .nil .nil))))) (.node (b2 P) (.node (b9 P) (.node (b1 P) (.node (b36 P) (.node (b0 P) (.node (b154 P) .nil .nil) .nil) (.node (b112 P) (.node (b1 P) .nil .nil) .nil)) (.node (b55 P) (.node (b0 P) (.node (b174 P) .nil .nil) .nil) (.node (b1 P) .nil .nil))) (.node (b0 P) (.node (b45 P) (.node (b85 P) (.node (b0 P) .nil .nil) .nil) (.node (b122 P) .nil .nil)) (.node (b1 P) (.node (b103 P) (.node (b185 P) .nil .nil) .nil) (.node (b0 P) .nil .nil)))) (.node (b0 P) (.node (b22 P) (.node (b0 P) (.node (b80 P) (.node (b159 P) .nil .nil) .nil) (.node (b117 P) (.node (b200 P) .nil .nil) .nil)) (.node (b0 P) (.node (b1 P) (.node (b0 P) .nil .nil) .nil) (.node (b135 P) .nil .nil))) (.node (b32 P) (.node (b50 P) (.node (b90 P) (.node (b1 P) .nil .nil) .nil) (.node (b0 P) .nil .nil)) (.node (b71 P) (.node (b0 P) (.node (b0 P) .nil .nil) .nil) (.node (b147 P) .nil .nil))))))) (.node (boot_o_2 P) (.node (boot_o_4 P) (.node (boot_o_8 P) (.node (b1 P) (.node (b0 P) (.node (b33 P) (.node (b73 P) (.node (b0 P) .nil .nil) .nil) (.node (b110 P) (.node (b0 P) .nil .nil) .nil)) (.node (b1 P) (.node (b91 P) (.node (b169 P) .nil .nil) .nil) (.node (b0 P) .nil .nil))) (.node (b24 P) (.node (b43 P) (.node (b0 P) (.node (b160 P) .nil .nil) .nil) (.node (b1 P) (.node (b203 P) .nil .nil) .nil)) (.node (b0 P) (.node (b100 P) (.node (b182 P) .nil .nil) .nil) (.node (b137 P) .nil .nil)))) (.node (b10 P) (.node (b19 P) (.node (b38 P) (.node (b78 P) (.node (b1 P) .nil .nil) .nil) (.node (b0 P) (.node (b195 P) .nil .nil) .nil)) (.node (b59 P) (.node (b0 P) (.node (b177 P) .nil .nil) .nil) (.node (b132 P) .nil .nil))) (.node (b29 P) (.node (b0 P) (.node (b1 P) (.node (b0 P) .nil .nil) .nil) (.node (b123 P) .nil .nil)) (.node (b68 P) (.node (b105 P) (.node (b186 P) .nil .nil) .nil) (.node (b142 P) .nil .nil))))) (.node (b151 P) (.node (b8 P) (.node (b0 P) (.node (b1 P) (.node (b75 P) (.node (b153 P) .nil .nil) .nil) (.node (b0 P) (.node (b0 P) .nil .nil) .nil)) (.node (b54 P) (.node (b94 P) (.node (b173 P) .nil .nil) .nil) (.node (b0 P) .nil .nil))) (.node (b26 P) (.node (b0 P) (.node (b84 P) (.node (b163 P) .nil .nil) .nil) (.node (b121 P) .nil .nil)) (.node (b0 P) (.node (b1 P) (.node (b184 P) .nil .nil) .nil) (.node (b139 P) .nil .nil)))) (.node (b13 P) (.node (b1 P) (.node (b40 P) (.node (b0 P) (.node (b158 P) .nil .nil) .nil) (.node (b116 P) (.node (b199 P) .nil .nil) .nil)) (.node (b62 P) (.node (b0 P) (.node (b179 P) .nil .nil) .nil) (.node (b1 P) .nil .nil))) (.node (b31 P) (.node (b49 P) (.node (b89 P) (.node (b0 P) .nil .nil) .nil) (.node (b126 P) .nil .nil)) (.node (b1 P) (.node (b107 P) (.node (b189 P) .nil .nil) .nil) (.node (b146 P) .nil .nil)))))) (.node (boot_o_6 P) (.node (boot_o_10 P) (.node (b0 P) (.node (b16 P) (.node (b35 P) (.node (b0 P) (.node (b152 P) .nil .nil) .nil) (.node (b1 P) (.node (b192 P) .nil .nil) .nil)) (.node (b0 P) (.node (b92 P) (.node (b171 P) .nil .nil) .nil) (.node (b129 P) .nil .nil))) (.node (b0 P) (.node (b1 P) (.node (b83 P) (.node (b161 P) .nil .nil) .nil) (.node (b0 P) .nil .nil)) (.node (b65 P) (.node (b102 P) (.node (b1 P) .nil .nil) .nil) (.node (b0 P) .nil .nil)))) (.node (b11 P) (.node (b21 P) (.node (b0 P) (.node (b1 P) (.node (b0 P) .nil .nil) .nil) (.node (b115 P) (.node (b197 P) .nil .nil) .nil)) (.node (b60 P) (.node (b97 P) (.node (b0 P) .nil .nil) .nil) (.node (b134 P) .nil .nil))) (.node (b1 P) (.node (b48 P) (.node (b0 P) (.node (b166 P) .nil .nil) .nil) (.node (b124 P) .nil .nil)) (.node (b70 P) (.node (b0 P) (.node (b187 P) .nil .nil) .nil) (.node (b144 P) .nil .nil))))) (.node (b3 P) (.node (b0 P) (.node (b18 P) (.node (b0 P) (.node (b76 P) (.node (b155 P) .nil .nil) .nil) (.node (b113 P) (.node (b194 P) .nil .nil) .nil)) (.node (b0 P) (.node (b1 P) (.node (b175 P) .nil .nil) .nil) (.node (b131 P) .nil .nil))) (.node (b27 P) (.node (b46 P) (.node (b86 P) (.node (b1 P) .nil .nil) .nil) (.node (b0 P) .nil .nil)) (.node (b67 P) (.node (b0 P) (.node (b0 P) .nil .nil) .nil) (.node (b140 P) .nil .nil)))) (.node (b1 P) (.node (b0 P) (.node (b41 P) (.node (b81 P) (.node (b0 P) .nil .nil) .nil) (.node (b118 P) (.node (b201 P) .nil .nil) .nil)) (.node (b1 P) (.node (b99 P) (.node (b180 P) .nil .nil) .nil) (.node (b0 P) .nil .nil))) (.node (b0 P) (.node (b51 P) (.node (b0 P) (.node (b168 P) .nil .nil) .nil) (.node (b1 P) .nil .nil)) (.node (b0 P) (.node (b108 P) (.node (b1 P) .nil .nil) .nil) (.node (b148 P) .nil .nil))))))))
noncomputable def b205 (P : Params) : Obj := ⟨(.type "dict"), none, (.dict #[⟨(kh P "__name__"), .str "__name__" 165, (.str "law_pc0038_02" 680)⟩, ⟨(kh P "__doc__"), .str "__doc__" 166, .none⟩, ⟨(kh P "__package__"), .str "__package__" 167, .none⟩, ⟨(kh P "__loader__"), .str "__loader__" 168, (.builtin "__main__.__loader__#opaque")⟩, ⟨(kh P "__spec__"), .str "__spec__" 169, .none⟩, ⟨(kh P "__annotations__"), .str "__annotations__" 170, (.ref 6)⟩, ⟨(kh P "__builtins__"), .str "__builtins__" 171, (.ref 4)⟩, ⟨(kh P "__file__"), .str "__file__" 173, (.str "/claim/cut.py" 172)⟩, ⟨(kh P "__cached__"), .str "__cached__" 174, .none⟩, ⟨(kh P "_wall"), .str "_wall" 193, (.ref 21)⟩, ⟨(kh P "least"), .str "least" 202, (.ref 28)⟩, ⟨(kh P "greatest"), .str "greatest" 209, (.ref 35)⟩, ⟨(kh P "next_from"), .str "next_from" 219, (.ref 42)⟩, ⟨(kh P "has"), .str "has" 227, (.ref 49)⟩, ⟨(kh P "has_domains"), .str "has_domains" 228, (.ref 49)⟩, ⟨(kh P "values"), .str "values" 238, (.ref 56)⟩, ⟨(kh P "up_to"), .str "up_to" 244, (.ref 61)⟩, ⟨(kh P "from_on"), .str "from_on" 250, (.ref 66)⟩, ⟨(kh P "without"), .str "without" 258, (.ref 73)⟩, ⟨(kh P "meet"), .str "meet" 271, (.ref 80)⟩, ⟨(kh P "negation"), .str "negation" 281, (.ref 87)⟩, ⟨(kh P "struck"), .str "struck" 291, (.ref 94)⟩, ⟨(kh P "said_of"), .str "said_of" 300, (.ref 101)⟩, ⟨(kh P "Store"), .str "Store" 494, (.ref 251)⟩, ⟨(kh P "Propagator"), .str "Propagator" 549, (.ref 293)⟩, ⟨(kh P "Matching"), .str "Matching" 616, (.ref 333)⟩, ⟨(kh P "AllDifferentValues"), .str "AllDifferentValues" 679, (.ref 384)⟩, ⟨(kh P "_law_sip"), .str "_law_sip" 690, (.ref 393)⟩, ⟨(kh P "_law_keeps"), .str "_law_keeps" 698, (.ref 400)⟩, ⟨(kh P "_law_left"), .str "_law_left" 704, (.ref 405)⟩, ⟨(kh P "_law_is_said"), .str "_law_is_said" 710, (.ref 410)⟩, ⟨(kh P "_law_matched_right"), .str "_law_matched_right" 727, (.ref 417)⟩, ⟨(kh P "_law_is_so"), .str "_law_is_so" 733, (.ref 422)⟩, ⟨(kh P "law"), .str "law" 739, (.ref 427)⟩] 34), #[]⟩
noncomputable def b206 (P : Params) : Obj := ⟨.none, none, (.fields #[(.int 1 0), (.int 0 0), (.ref 20), (.int 5 0), (.int 0 0), (.ref 27), (.int 7 0), (.int 0 0), (.ref 34), (.int 9 0), (.int 0 0), (.ref 41), (.int 14 0), (.int 0 0), (.ref 48), (.int 17 0), (.int 0 0), (.ref 55), (.int 22 0), (.int 0 0), (.ref 60), (.int 24 0), (.int 0 0), (.ref 65), (.int 26 0), (.int 0 0), (.ref 72), (.int 28 0), (.int 0 0), (.ref 79), (.int 39 0), (.int 0 0), (.ref 86), (.int 46 0), (.int 0 0), (.ref 93), (.int 53 0), (.int 0 0), (.ref 100), (.int 59 0), (.int 0 0), (.ref 107), (.int 152 0), (.int 0 0), (.ref 261), (.int 168 0), (.int 0 0), (.ref 303), (.int 208 0), (.int 0 0), (.ref 344), (.int 232 0), (.int 0 0), (.ref 392), (.int 237 0), (.int 0 0), (.ref 399), (.int 241 0), (.int 0 0), (.ref 404), (.int 243 0), (.int 0 0), (.ref 409), (.int 251 0), (.int 0 0), (.ref 416), (.int 265 0), (.int 0 0), (.ref 421), (.int 269 0), (.int 0 0), (.ref 426)]), #[]⟩
noncomputable def b207 (P : Params) : Obj := ⟨(.type "type"), none, (.cls ⟨"Propagator", [(.type "object")], [(.ref 293), (.type "object")], 292, "Propagator", true, [], [(.ref 384)], false, none, false⟩), #[none, none, (some (.str "Propagator" 495)), (some (.str "Propagator" 503)), (some (.builtin "object.__new__")), (some (.bool true))]⟩
noncomputable def b208 (P : Params) : Obj := tp #[(.ref 293)]
noncomputable def b209 (P : Params) : Obj := ⟨(.type "dict"), none, (.dict #[⟨(kh P "__module__"), .str "__module__" 624, (.str "fdsolve.alldiff" 550)⟩, ⟨(kh P "__qualname__"), .str "__qualname__" 626, (.str "AllDifferentValues" 625)⟩, ⟨(kh P "__firstlineno__"), .str "__firstlineno__" 628, (.int 208 627)⟩, ⟨(kh P "__init__"), .str "__init__" 637, (.ref 353)⟩, ⟨(kh P "told"), .str "told" 644, (.ref 360)⟩, ⟨(kh P "check"), .str "check" 652, (.ref 367)⟩, ⟨(kh P "propagate"), .str "propagate" 660, (.ref 374)⟩, ⟨(kh P "walls"), .str "walls" 674, (.ref 381)⟩, ⟨(kh P "__static_attributes__"), .str "__static_attributes__" 675, (.ref 382)⟩, ⟨(kh P "__classcell__"), .str "__classcell__" 676, (.ref 341)⟩] 10), #[]⟩
noncomputable def b210 (P : Params) : Obj := ⟨(.type "cell"), none, (.cell (some (.ref 384))), #[]⟩
noncomputable def b211 (P : Params) : Obj := ⟨.none, none, (.fields #[(.int 210 0), (.int 4 0), (.ref 352), (.int 213 0), (.int 4 0), (.ref 359), (.int 216 0), (.int 4 0), (.ref 366), (.int 219 0), (.int 4 0), (.ref 373), (.int 222 0), (.int 4 0), (.ref 380)]), #[]⟩
noncomputable def b212 (P : Params) : Obj := ⟨(.type "code"), none, (.fields #[(.str "AllDifferentValues" 619), (.str "AllDifferentValues" 620), (.str "/claim/cut.py" 621), (.int 208 0), (.int 0 0), (.int 0 0), (.int 0 0), (.int 0 0), (.ref 342), (.bool false), (.int 181 0), (.ref 343), .none, .none, .none, .none, (.int 622 0), (.int 208 0), (.str "/claim/cut.py" 623)]), #[]⟩
noncomputable def b213 (P : Params) : Obj := ⟨(.type "frame"), none, .plain, #[(some (.ref 344)), (some (.ref 3)), (some (.ref 340)), none, (some (.str "fdsolve.alldiff" 550)), none, (some (.ref 0))]⟩
noncomputable def b214 (P : Params) : Obj := tp #[(.ref 341)]
noncomputable def b215 (P : Params) : Obj := tp #[(.str "__class__" 632)]
noncomputable def b216 (P : Params) : Obj := tp #[(.str "self" 633), (.str "row" 634)]
noncomputable def b217 (P : Params) : Obj := fr "__init__" "AllDifferentValues.__init__" (dm "AllDifferentValues" "__init__")
noncomputable def b218 (P : Params) : Obj := co "__init__" "AllDifferentValues.__init__" 629 210 2 347 .none (.ref 349) (.ref 350) (.ref 351) 635
noncomputable def b219 (P : Params) : Obj := fn "__init__" "AllDifferentValues.__init__" (dm "AllDifferentValues" "__init__") [("__class__", 341)] "fdsolve.alldiff" 550 352 (.ref 346)
noncomputable def b220 (P : Params) : Obj := tp #[(.str "self" 641)]
noncomputable def b221 (P : Params) : Obj := fr "told" "AllDifferentValues.told" (dm "AllDifferentValues" "told")
noncomputable def b222 (P : Params) : Obj := co "told" "AllDifferentValues.told" 638 213 1 354 .none (.ref 356) (.ref 357) (.ref 358) 642
noncomputable def b223 (P : Params) : Obj := fn "told" "AllDifferentValues.told" (dm "AllDifferentValues" "told") [] "fdsolve.alldiff" 550 359 .none
noncomputable def b224 (P : Params) : Obj := tp #[(.str "self" 648), (.str "found" 649)]
noncomputable def b225 (P : Params) : Obj := fr "check" "AllDifferentValues.check" (dm "AllDifferentValues" "check")
noncomputable def b226 (P : Params) : Obj := co "check" "AllDifferentValues.check" 645 216 2 361 .none (.ref 363) (.ref 364) (.ref 365) 650
noncomputable def b227 (P : Params) : Obj := fn "check" "AllDifferentValues.check" (dm "AllDifferentValues" "check") [] "fdsolve.alldiff" 550 366 .none
noncomputable def b228 (P : Params) : Obj := tp #[(.str "self" 656), (.str "store" 657)]
noncomputable def b229 (P : Params) : Obj := fr "propagate" "AllDifferentValues.propagate" (dm "AllDifferentValues" "propagate")
noncomputable def b230 (P : Params) : Obj := co "propagate" "AllDifferentValues.propagate" 653 219 2 368 .none (.ref 370) (.ref 371) (.ref 372) 658
noncomputable def b231 (P : Params) : Obj := fn "propagate" "AllDifferentValues.propagate" (dm "AllDifferentValues" "propagate") [] "fdsolve.alldiff" 550 373 .none
noncomputable def b232 (P : Params) : Obj := tp #[(.str "self" 664), (.str "store" 665), (.str "places" 666), (.str "few" 667), (.str "found" 668), (.str "place" 669), (.str "x" 670), (.str "v" 671)]
noncomputable def b233 (P : Params) : Obj := fr "walls" "AllDifferentValues.walls" (dm "AllDifferentValues" "walls")
noncomputable def b234 (P : Params) : Obj := co "walls" "AllDifferentValues.walls" 661 222 4 375 .none (.ref 377) (.ref 378) (.ref 379) 672
noncomputable def b235 (P : Params) : Obj := fn "walls" "AllDifferentValues.walls" (dm "AllDifferentValues" "walls") [] "fdsolve.alldiff" 550 380 .none
noncomputable def b236 (P : Params) : Obj := ⟨(.type "dict"), none, (.dict #[⟨(kh P "__module__"), .str "__module__" 624, (.str "fdsolve.alldiff" 550)⟩, ⟨(kh P "__firstlineno__"), .str "__firstlineno__" 628, (.int 208 627)⟩, ⟨(kh P "__init__"), .str "__init__" 637, (.ref 353)⟩, ⟨(kh P "told"), .str "told" 644, (.ref 360)⟩, ⟨(kh P "check"), .str "check" 652, (.ref 367)⟩, ⟨(kh P "propagate"), .str "propagate" 660, (.ref 374)⟩, ⟨(kh P "walls"), .str "walls" 674, (.ref 381)⟩, ⟨(kh P "__static_attributes__"), .str "__static_attributes__" 675, (.ref 382)⟩, ⟨(kh P "__doc__"), .str "__doc__" 677, .none⟩] 3), #[]⟩
noncomputable def b237 (P : Params) : Obj := ⟨(.type "type"), none, (.cls ⟨"AllDifferentValues", [(.ref 293)], [(.ref 384), (.ref 293), (.type "object")], 383, "AllDifferentValues", true, [], [], false, none, false⟩), #[(some (.ref 338)), none, (some (.str "AllDifferentValues" 617)), (some (.str "AllDifferentValues" 625)), (some (.builtin "object.__new__")), (some (.bool true))]⟩
noncomputable def b238 (P : Params) : Obj := ⟨(.type "super"), none, (.fields #[(.ref 384), (.ref 384), (.ref 384)]), #[]⟩
noncomputable def b239 (P : Params) : Obj := ⟨(.type "builtin_function_or_method"), none, (.fields #[(.builtin "object.__init_subclass__"), (.ref 384)]), #[]⟩
noncomputable def b240 (P : Params) : Obj := tp #[(.str "cask" 685), (.str "many" 686), (.str "place" 687)]
noncomputable def b241 (P : Params) : Obj := fr "_law_sip" "_law_sip" (dt "_law_sip")
noncomputable def b242 (P : Params) : Obj := co "_law_sip" "_law_sip" 682 232 2 387 .none (.ref 389) (.ref 390) (.ref 391) 688
noncomputable def b243 (P : Params) : Obj := fn "_law_sip" "_law_sip" (dt "_law_sip") [] "law_pc0038_02" 680 392 .none
noncomputable def b244 (P : Params) : Obj := tp #[(.str "literal" 694), (.str "v" 695)]
noncomputable def b245 (P : Params) : Obj := fr "_law_keeps" "_law_keeps" (dt "_law_keeps")
noncomputable def b246 (P : Params) : Obj := co "_law_keeps" "_law_keeps" 691 237 2 394 .none (.ref 396) (.ref 397) (.ref 398) 696
noncomputable def b247 (P : Params) : Obj := fn "_law_keeps" "_law_keeps" (dt "_law_keeps") [] "law_pc0038_02" 680 399 .none
noncomputable def b248 (P : Params) : Obj := fr "_law_left" "_law_left" (dt "_law_left")
noncomputable def b249 (P : Params) : Obj := co "_law_left" "_law_left" 699 241 3 401 .none .none .none (.ref 403) 702
noncomputable def b250 (P : Params) : Obj := fn "_law_left" "_law_left" (dt "_law_left") [] "law_pc0038_02" 680 404 .none
noncomputable def b251 (P : Params) : Obj := fr "_law_is_said" "_law_is_said" (dt "_law_is_said")
noncomputable def b252 (P : Params) : Obj := co "_law_is_said" "_law_is_said" 705 243 5 406 .none .none .none (.ref 408) 708
noncomputable def b253 (P : Params) : Obj := fn "_law_is_said" "_law_is_said" (dt "_law_is_said") [] "law_pc0038_02" 680 409 .none
noncomputable def b254 (P : Params) : Obj := tp #[(.str "store" 714), (.str "ask" 715), (.str "scope" 716), (.str "firsts" 717), (.str "now" 718), (.str "board" 719), (.str "place" 720), (.str "lack" 721), (.str "told" 722), (.str "v" 723), (.str "found" 724)]
noncomputable def b255 (P : Params) : Obj := fr "_law_matched_right" "_law_matched_right" (dt "_law_matched_right")
noncomputable def b256 (P : Params) : Obj := co "_law_matched_right" "_law_matched_right" 711 251 5 411 .none (.ref 413) (.ref 414) (.ref 415) 725
noncomputable def b257 (P : Params) : Obj := fn "_law_matched_right" "_law_matched_right" (dt "_law_matched_right") [] "law_pc0038_02" 680 416 .none
noncomputable def b258 (P : Params) : Obj := fr "_law_is_so" "_law_is_so" (dt "_law_is_so")
noncomputable def b259 (P : Params) : Obj := co "_law_is_so" "_law_is_so" 728 265 5 418 .none .none .none (.ref 420) 731
noncomputable def b260 (P : Params) : Obj := fn "_law_is_so" "_law_is_so" (dt "_law_is_so") [] "law_pc0038_02" 680 421 .none
noncomputable def b261 (P : Params) : Obj := fr "law" "law" (dt "law")
noncomputable def b262 (P : Params) : Obj := co "law" "law" 734 269 1 423 .none .none .none (.ref 425) 737
noncomputable def b263 (P : Params) : Obj := fn "law" "law" (dt "law") [] "law_pc0038_02" 680 426 .none
noncomputable def tr4 (P : Params) : BT := (.node (boot_o_0 P) (.node (boot_o_1 P) (.node (b205 P) (.node (boot_o_7 P) (.node (b0 P) (.node (b14 P) (.node (b1 P) (.node (b72 P) (.node (b149 P) .nil .nil) (.node (b236 P) .nil .nil)) (.node (b109 P) (.node (b190 P) .nil .nil) .nil)) (.node (b0 P) (.node (b1 P) (.node (b0 P) .nil .nil) (.node (b255 P) .nil .nil)) (.node (b127 P) (.node (b217 P) .nil .nil) .nil))) (.node (b23 P) (.node (b42 P) (.node (b82 P) (.node (b1 P) .nil .nil) (.node (b246 P) .nil .nil)) (.node (b0 P) (.node (b202 P) .nil .nil) .nil)) (.node (b63 P) (.node (b0 P) (.node (b181 P) .nil .nil) .nil) (.node (b136 P) (.node (b227 P) .nil .nil) .nil)))) (.node (b1 P) (.node (b0 P) (.node (b37 P) (.node (b77 P) (.node (b0 P) .nil .nil) (.node (b241 P) .nil .nil)) (.node (b114 P) (.node (b0 P) .nil .nil) .nil)) (.node (b58 P) (.node (b95 P) (.node (b176 P) .nil .nil) (.node (b0 P) .nil .nil)) (.node (b0 P) (.node (b222 P) .nil .nil) .nil))) (.node (b28 P) (.node (b47 P) (.node (b0 P) (.node (b164 P) .nil .nil) (.node (b1 P) .nil .nil)) (.node (b1 P) (.node (b211 P) .nil .nil) .nil)) (.node (b0 P) (.node (b104 P) (.node (b1 P) .nil .nil) .nil) (.node (b141 P) (.node (b0 P) .nil .nil) .nil))))) (.node (b0 P) (.node (b7 P) (.node (b17 P) (.node (b0 P) (.node (b1 P) (.node (b0 P) .nil .nil) (.node (b0 P) .nil .nil)) (.node (b111 P) (.node (b193 P) .nil .nil) .nil)) (.node (b53 P) (.node (b93 P) (.node (b172 P) .nil .nil) (.node (b1 P) .nil .nil)) (.node (b130 P) (.node (b1 P) .nil .nil) .nil))) (.node (b1 P) (.node (b44 P) (.node (b0 P) (.node (b162 P) .nil .nil) (.node (b248 P) .nil .nil)) (.node (b120 P) (.node (b58 P) .nil .nil) .nil)) (.node (b66 P) (.node (b0 P) (.node (b183 P) .nil .nil) .nil) (.node (b1 P) (.node (b0 P) .nil .nil) .nil)))) (.node (b12 P) (.node (b0 P) (.node (b1 P) (.node (b79 P) (.node (b157 P) .nil .nil) (.node (b1 P) .nil .nil)) (.node (b0 P) (.node (b198 P) .nil .nil) .nil)) (.node (b61 P) (.node (b98 P) (.node (b58 P) .nil .nil) (.node (b263 P) .nil .nil)) (.node (b0 P) (.node (b224 P) .nil .nil) .nil))) (.node (b30 P) (.node (b0 P) (.node (b88 P) (.node (b167 P) .nil .nil) (.node (b0 P) .nil .nil)) (.node (b125 P) (.node (b215 P) .nil .nil) .nil)) (.node (b0 P) (.node (b1 P) (.node (b188 P) .nil .nil) .nil) (.node (b145 P) (.node (b233 P) .nil .nil) .nil)))))) (.node (boot_o_5 P) (.node (boot_o_9 P) (.node (b6 P) (.node (b15 P) (.node (b34 P) (.node (b74 P) (.node (b58 P) .nil .nil) (.node (b238 P) .nil .nil)) (.node (b0 P) (.node (b191 P) .nil .nil) .nil)) (.node (b52 P) (.node (b0 P) (.node (b170 P) .nil .nil) (.node (b257 P) .nil .nil)) (.node (b128 P) (.node (b219 P) .nil .nil) .nil))) (.node (b25 P) (.node (b0 P) (.node (b1 P) (.node (b0 P) .nil .nil) (.node (b0 P) .nil .nil)) (.node (b119 P) (.node (b204 P) .nil .nil) .nil)) (.node (b64 P) (.node (b101 P) (.node (b0 P) .nil .nil) .nil) (.node (b138 P) (.node (b1 P) .nil .nil) .nil)))) (.node (b0 P) (.node (b20 P) (.node (b39 P) (.node (b0 P) (.node (b156 P) .nil .nil) (.node (b243 P) .nil .nil)) (.node (b1 P) (.node (b196 P) .nil .nil) .nil)) (.node (b0 P) (.node (b96 P) (.node (b178 P) .nil .nil) (.node (b261 P) .nil .nil)) (.node (b133 P) (.node (b0 P) .nil .nil) .nil))) (.node (b0 P) (.node (b1 P) (.node (b87 P) (.node (b165 P) .nil .nil) (.node (b252 P) .nil .nil)) (.node (b0 P) (.node (b213 P) .nil .nil) .nil)) (.node (b69 P) (.node (b106 P) (.node (b0 P) .nil .nil) .nil) (.node (b143 P) (.node (b232 P) .nil .nil) .nil))))) (.node (b2 P) (.node (b9 P) (.node (b1 P) (.node (b36 P) (.node (b0 P) (.node (b154 P) .nil .nil) (.node (b240 P) .nil .nil)) (.node (b112 P) (.node (b1 P) .nil .nil) .nil)) (.node (b55 P) (.node (b0 P) (.node (b207 P) .nil .nil) (.node (b259 P) .nil .nil)) (.node (b1 P) (.node (b0 P) .nil .nil) .nil))) (.node (b0 P) (.node (b45 P) (.node (b85 P) (.node (b0 P) .nil .nil) (.node (b250 P) .nil .nil)) (.node (b122 P) (.node (b210 P) .nil .nil) .nil)) (.node (b1 P) (.node (b103 P) (.node (b185 P) .nil .nil) .nil) (.node (b0 P) (.node (b230 P) .nil .nil) .nil)))) (.node (b0 P) (.node (b22 P) (.node (b0 P) (.node (b80 P) (.node (b159 P) .nil .nil) (.node (b0 P) .nil .nil)) (.node (b117 P) (.node (b200 P) .nil .nil) .nil)) (.node (b0 P) (.node (b1 P) (.node (b0 P) .nil .nil) .nil) (.node (b135 P) (.node (b225 P) .nil .nil) .nil))) (.node (b32 P) (.node (b50 P) (.node (b90 P) (.node (b1 P) .nil .nil) (.node (b254 P) .nil .nil)) (.node (b0 P) (.node (b216 P) .nil .nil) .nil)) (.node (b71 P) (.node (b0 P) (.node (b0 P) .nil .nil) .nil) (.node (b147 P) (.node (b235 P) .nil .nil) .nil))))))) (.node (boot_o_2 P) (.node (boot_o_4 P) (.node (boot_o_8 P) (.node (b1 P) (.node (b0 P) (.node (b33 P) (.node (b73 P) (.node (b0 P) .nil .nil) (.node (b237 P) .nil .nil)) (.node (b110 P) (.node (b0 P) .nil .nil) .nil)) (.node (b1 P) (.node (b91 P) (.node (b169 P) .nil .nil) (.node (b256 P) .nil .nil)) (.node (b0 P) (.node (b218 P) .nil .nil) .nil))) (.node (b24 P) (.node (b43 P) (.node (b0 P) (.node (b160 P) .nil .nil) (.node (b247 P) .nil .nil)) (.node (b1 P) (.node (b203 P) .nil .nil) .nil)) (.node (b0 P) (.node (b100 P) (.node (b182 P) .nil .nil) .nil) (.node (b137 P) (.node (b0 P) .nil .nil) .nil)))) (.node (b10 P) (.node (b19 P) (.node (b38 P) (.node (b78 P) (.node (b1 P) .nil .nil) (.node (b242 P) .nil .nil)) (.node (b0 P) (.node (b195 P) .nil .nil) .nil)) (.node (b59 P) (.node (b0 P) (.node (b177 P) .nil .nil) (.node (b1 P) .nil .nil)) (.node (b132 P) (.node (b223 P) .nil .nil) .nil))) (.node (b29 P) (.node (b0 P) (.node (b1 P) (.node (b0 P) .nil .nil) (.node (b251 P) .nil .nil)) (.node (b123 P) (.node (b212 P) .nil .nil) .nil)) (.node (b68 P) (.node (b105 P) (.node (b186 P) .nil .nil) .nil) (.node (b142 P) (.node (b1 P) .nil .nil) .nil))))) (.node (b206 P) (.node (b8 P) (.node (b0 P) (.node (b1 P) (.node (b75 P) (.node (b153 P) .nil .nil) (.node (b1 P) .nil .nil)) (.node (b0 P) (.node (b0 P) .nil .nil) .nil)) (.node (b54 P) (.node (b94 P) (.node (b173 P) .nil .nil) (.node (b258 P) .nil .nil)) (.node (b0 P) (.node (b220 P) .nil .nil) .nil))) (.node (b26 P) (.node (b0 P) (.node (b84 P) (.node (b163 P) .nil .nil) (.node (b249 P) .nil .nil)) (.node (b121 P) (.node (b209 P) .nil .nil) .nil)) (.node (b0 P) (.node (b1 P) (.node (b184 P) .nil .nil) .nil) (.node (b139 P) (.node (b229 P) .nil .nil) .nil)))) (.node (b13 P) (.node (b1 P) (.node (b40 P) (.node (b0 P) (.node (b158 P) .nil .nil) (.node (b244 P) .nil .nil)) (.node (b116 P) (.node (b199 P) .nil .nil) .nil)) (.node (b62 P) (.node (b0 P) (.node (b179 P) .nil .nil) .nil) (.node (b1 P) (.node (b0 P) .nil .nil) .nil))) (.node (b31 P) (.node (b49 P) (.node (b89 P) (.node (b0 P) .nil .nil) (.node (b1 P) .nil .nil)) (.node (b126 P) (.node (b1 P) .nil .nil) .nil)) (.node (b1 P) (.node (b107 P) (.node (b189 P) .nil .nil) .nil) (.node (b146 P) (.node (b234 P) .nil .nil) .nil)))))) (.node (boot_o_6 P) (.node (boot_o_10 P) (.node (b0 P) (.node (b16 P) (.node (b35 P) (.node (b0 P) (.node (b152 P) .nil .nil) (.node (b239 P) .nil .nil)) (.node (b1 P) (.node (b192 P) .nil .nil) .nil)) (.node (b0 P) (.node (b92 P) (.node (b171 P) .nil .nil) (.node (b0 P) .nil .nil)) (.node (b129 P) (.node (b0 P) .nil .nil) .nil))) (.node (b0 P) (.node (b1 P) (.node (b83 P) (.node (b161 P) .nil .nil) (.node (b1 P) .nil .nil)) (.node (b0 P) (.node (b208 P) .nil .nil) .nil)) (.node (b65 P) (.node (b102 P) (.node (b1 P) .nil .nil) .nil) (.node (b0 P) (.node (b228 P) .nil .nil) .nil)))) (.node (b11 P) (.node (b21 P) (.node (b0 P) (.node (b1 P) (.node (b0 P) .nil .nil) (.node (b0 P) .nil .nil)) (.node (b115 P) (.node (b197 P) .nil .nil) .nil)) (.node (b60 P) (.node (b97 P) (.node (b0 P) .nil .nil) (.node (b262 P) .nil .nil)) (.node (b134 P) (.node (b1 P) .nil .nil) .nil))) (.node (b1 P) (.node (b48 P) (.node (b0 P) (.node (b166 P) .nil .nil) (.node (b253 P) .nil .nil)) (.node (b124 P) (.node (b214 P) .nil .nil) .nil)) (.node (b70 P) (.node (b0 P) (.node (b187 P) .nil .nil) .nil) (.node (b144 P) (.node (b0 P) .nil .nil) .nil))))) (.node (b3 P) (.node (b0 P) (.node (b18 P) (.node (b0 P) (.node (b76 P) (.node (b155 P) .nil .nil) (.node (b0 P) .nil .nil)) (.node (b113 P) (.node (b194 P) .nil .nil) .nil)) (.node (b0 P) (.node (b1 P) (.node (b175 P) .nil .nil) (.node (b260 P) .nil .nil)) (.node (b131 P) (.node (b221 P) .nil .nil) .nil))) (.node (b27 P) (.node (b46 P) (.node (b86 P) (.node (b1 P) .nil .nil) (.node (b0 P) .nil .nil)) (.node (b0 P) (.node (b0 P) .nil .nil) .nil)) (.node (b67 P) (.node (b0 P) (.node (b0 P) .nil .nil) .nil) (.node (b140 P) (.node (b231 P) .nil .nil) .nil)))) (.node (b1 P) (.node (b0 P) (.node (b41 P) (.node (b81 P) (.node (b0 P) .nil .nil) (.node (b245 P) .nil .nil)) (.node (b118 P) (.node (b201 P) .nil .nil) .nil)) (.node (b1 P) (.node (b99 P) (.node (b180 P) .nil .nil) .nil) (.node (b0 P) (.node (b226 P) .nil .nil) .nil))) (.node (b0 P) (.node (b51 P) (.node (b0 P) (.node (b168 P) .nil .nil) (.node (b0 P) .nil .nil)) (.node (b1 P) (.node (b0 P) .nil .nil) .nil)) (.node (b0 P) (.node (b108 P) (.node (b1 P) .nil .nil) .nil) (.node (b148 P) (.node (b0 P) .nil .nil) .nil))))))))
noncomputable def hF (P : Params) : Heap := ⟨⟨[boot_o_0 P, boot_o_1 P, boot_o_2 P, b205 P, boot_o_4 P, boot_o_5 P, boot_o_6 P, boot_o_7 P, boot_o_8 P, boot_o_9 P, boot_o_10 P, b0 P, b206 P, b2 P, b3 P, b0 P, b1 P, b6 P, b0 P, b7 P, b8 P, b9 P, b0 P, b1 P, b10 P, b0 P, b11 P, b12 P, b13 P, b0 P, b1 P, b14 P, b0 P, b15 P, b16 P, b17 P, b0 P, b1 P, b18 P, b0 P, b19 P, b20 P, b21 P, b0 P, b1 P, b22 P, b0 P, b23 P, b24 P, b25 P, b0 P, b1 P, b26 P, b0 P, b27 P, b28 P, b29 P, b0 P, b1 P, b30 P, b31 P, b32 P, b0 P, b1 P, b33 P, b34 P, b35 P, b0 P, b1 P, b36 P, b0 P, b37 P, b38 P, b39 P, b0 P, b1 P, b40 P, b0 P, b41 P, b42 P, b43 P, b0 P, b1 P, b44 P, b0 P, b45 P, b46 P, b47 P, b0 P, b1 P, b48 P, b0 P, b49 P, b50 P, b51 P, b0 P, b1 P, b52 P, b0 P, b53 P, b54 P, b55 P, b0 P, b58 P, b59 P, b0 P, b60 P, b61 P, b62 P, b0 P, b1 P, b63 P, b0 P, b64 P, b65 P, b66 P, b0 P, b1 P, b67 P, b0 P, b68 P, b69 P, b70 P, b0 P, b1 P, b71 P, b0 P, b72 P, b73 P, b74 P, b0 P, b1 P, b75 P, b0 P, b76 P, b77 P, b78 P, b0 P, b1 P, b79 P, b0 P, b80 P, b81 P, b82 P, b0 P, b1 P, b83 P, b0 P, b84 P, b85 P, b86 P, b0 P, b1 P, b87 P, b0 P, b88 P, b89 P, b90 P, b0 P, b1 P, b91 P, b0 P, b92 P, b93 P, b94 P, b0 P, b1 P, b95 P, b0 P, b96 P, b97 P, b98 P, b0 P, b1 P, b99 P, b0 P, b100 P, b101 P, b102 P, b0 P, b1 P, b103 P, b0 P, b104 P, b105 P, b106 P, b0 P, b1 P, b107 P, b0 P, b108 P, b109 P, b110 P, b0 P, b1 P, b111 P, b0 P, b112 P, b113 P, b114 P, b0 P, b1 P, b115 P, b0 P, b116 P, b117 P, b118 P, b0 P, b1 P, b119 P, b0 P, b120 P, b121 P, b122 P, b0 P, b1 P, b123 P, b0 P, b124 P, b125 P, b126 P, b0 P, b1 P, b127 P, b0 P, b128 P, b129 P, b130 P, b0 P, b1 P, b131 P, b0 P, b132 P, b133 P, b134 P, b0 P, b1 P, b135 P, b0 P, b136 P, b137 P, b138 P, b0 P, b1 P, b139 P, b0 P, b140 P, b141 P, b142 P, b143 P, b144 P, b145 P, b146 P, b147 P, b148 P, b149 P, b0 P, b58 P, b152 P, b0 P, b153 P, b154 P, b155 P, b0 P, b1 P, b156 P, b0 P, b157 P, b158 P, b159 P, b0 P, b1 P, b160 P, b0 P, b161 P, b162 P, b163 P, b0 P, b1 P, b164 P, b0 P, b165 P, b166 P, b167 P, b0 P, b1 P, b168 P, b0 P, b169 P, b170 P, b171 P, b172 P, b173 P, b207 P, b175 P, b176 P, b177 P, b178 P, b0 P, b58 P, b179 P, b0 P, b180 P, b181 P, b182 P, b0 P, b1 P, b183 P, b184 P, b185 P, b0 P, b1 P, b186 P, b0 P, b187 P, b188 P, b189 P, b0 P, b1 P, b190 P, b0 P, b191 P, b192 P, b193 P, b0 P, b1 P, b194 P, b0 P, b195 P, b196 P, b197 P, b198 P, b199 P, b200 P, b201 P, b202 P, b203 P, b204 P, b208 P, b58 P, b209 P, b210 P, b0 P, b211 P, b212 P, b213 P, b214 P, b215 P, b1 P, b216 P, b0 P, b217 P, b218 P, b219 P, b0 P, b1 P, b220 P, b0 P, b221 P, b222 P, b223 P, b0 P, b1 P, b224 P, b0 P, b225 P, b226 P, b227 P, b0 P, b1 P, b228 P, b0 P, b229 P, b230 P, b231 P, b0 P, b1 P, b232 P, b0 P, b233 P, b234 P, b235 P, b0 P, b236 P, b237 P, b238 P, b239 P, b0 P, b1 P, b240 P, b0 P, b241 P, b242 P, b243 P, b0 P, b1 P, b244 P, b0 P, b245 P, b246 P, b247 P, b0 P, b1 P, b248 P, b249 P, b250 P, b0 P, b1 P, b251 P, b252 P, b253 P, b0 P, b1 P, b254 P, b0 P, b255 P, b256 P, b257 P, b0 P, b1 P, b258 P, b259 P, b260 P, b0 P, b1 P, b261 P, b262 P, b263 P]⟩, lf⟩
noncomputable def kk0 : List (Nat × (Params → Obj)) := [(2, boot_o_2), (3, b205), (15, b0), (17, b6), (18, b0), (20, b8), (21, b9), (22, b0), (24, b10), (25, b0), (27, b12), (28, b13), (29, b0), (31, b14), (32, b0), (34, b16), (35, b17), (36, b0), (38, b18), (39, b0), (41, b20), (42, b21), (43, b0), (45, b22), (46, b0), (48, b24), (49, b25), (50, b0), (52, b26), (53, b0), (55, b28), (56, b29), (57, b0), (60, b31), (61, b32), (62, b0), (65, b34), (66, b35), (67, b0), (69, b36), (70, b0), (72, b38), (73, b39), (74, b0), (76, b40), (77, b0), (79, b42), (80, b43), (81, b0), (83, b44), (84, b0), (86, b46), (87, b47), (88, b0), (90, b48), (91, b0), (93, b50), (94, b51), (95, b0), (97, b52), (98, b0), (100, b54), (101, b55), (109, b0), (111, b63), (112, b0), (114, b65), (115, b66), (116, b0), (118, b67), (119, b0), (121, b69), (122, b70), (123, b0), (125, b71), (126, b0), (128, b73), (129, b74), (130, b0), (132, b75), (133, b0), (135, b77), (136, b78), (137, b0), (139, b79), (140, b0), (142, b81), (143, b82), (144, b0), (146, b83), (147, b0), (149, b85), (150, b86), (151, b0), (153, b87), (154, b0), (156, b89), (157, b90), (158, b0), (160, b91), (161, b0), (163, b93), (164, b94), (165, b0), (167, b95), (168, b0), (170, b97), (171, b98), (172, b0), (174, b99), (175, b0), (177, b101), (178, b102), (179, b0), (181, b103), (182, b0), (184, b105), (185, b106), (186, b0), (188, b107), (189, b0), (191, b109), (192, b110), (193, b0), (195, b111), (196, b0), (198, b113), (199, b114), (200, b0), (202, b115), (203, b0), (205, b117), (206, b118), (207, b0), (209, b119), (210, b0), (212, b121), (213, b122), (214, b0), (216, b123), (217, b0), (219, b125), (220, b126), (221, b0), (223, b127), (224, b0), (226, b129), (227, b130), (228, b0), (230, b131), (231, b0), (233, b133), (234, b134), (235, b0), (237, b135), (238, b0), (240, b137), (241, b138), (242, b0), (244, b139), (245, b0), (247, b141), (248, b142), (249, b143), (250, b144), (251, b145), (252, b146), (253, b147), (263, b0), (265, b156), (266, b0), (268, b158), (269, b159), (270, b0), (272, b160), (273, b0), (275, b162), (276, b163), (277, b0), (279, b164), (280, b0), (282, b166), (283, b167), (284, b0), (286, b168), (287, b0), (289, b170), (290, b171), (291, b172), (292, b173), (293, b207), (294, b175), (295, b176), (305, b0), (308, b184), (309, b185), (310, b0), (312, b186), (313, b0), (315, b188), (316, b189), (317, b0), (319, b190), (320, b0), (322, b192), (323, b193), (324, b0), (326, b194), (327, b0), (329, b196), (330, b197), (331, b198), (332, b199), (333, b200), (334, b201), (335, b202), (338, b208), (341, b210), (346, b214), (347, b215), (349, b216), (350, b0), (352, b218), (353, b219), (354, b0), (356, b220), (357, b0), (359, b222), (360, b223), (361, b0), (363, b224), (364, b0), (366, b226), (367, b227), (368, b0), (370, b228), (371, b0), (373, b230), (374, b231), (375, b0), (377, b232), (378, b0), (380, b234), (381, b235), (382, b0), (383, b236), (384, b237), (387, b0), (389, b240), (390, b0), (392, b242), (393, b243), (394, b0), (396, b244), (397, b0), (399, b246), (400, b247), (401, b0), (404, b249), (405, b250), (406, b0), (409, b252), (410, b253), (411, b0), (413, b254), (414, b0), (416, b256), (417, b257), (418, b0), (421, b259), (422, b260), (423, b0), (426, b262), (427, b263)]
noncomputable def KK (P : Params) : Frag := kk0.map fun x => (x.1, x.2 P)
noncomputable def kAs : List Nat := kk0.map (·.1)
noncomputable def en : Env := { scope := pw.main.scope, locals := mainNs, globals := mainNs, cells := [], code := (.ref 13), frame := some 14 }
noncomputable def bE : List Stmt := behindTheImports pw
noncomputable def cE : Code := .body bE en
noncomputable def grp (i n : Nat) : List Stmt := (pw.main.body.drop i).take n
noncomputable abbrev BB : List Frame := [topFrame (Pos.mk 0 0 0 0)]
noncomputable abbrev an : Option Value := (some (.ref 6))
noncomputable abbrev S0 (w : World) (os : OsState) : Shared := ⟨boot_heap w.params, Array.mk [], boot_drawn, boot_toks, os⟩
noncomputable def SA (w : World) (os : OsState) : Shared := ⟨hA w.params, Array.mk [], ⟨0, 0, 0, 0⟩, 187, os⟩
noncomputable def SS (t : Params → BT) (n k : Nat) (w : World) (os : OsState) : SharedT := ⟨t w.params, n, lf, Array.mk [], ⟨0, 0, 0, 0⟩, k, os⟩
noncomputable def SF (w : World) (os : OsState) : Shared := ⟨hF w.params, Array.mk [], ⟨0, 0, 0, 0⟩, 740, os⟩
theorem run_pre (w : World) (os : OsState) : topGo treeTable pw w 11 an 12 (S0 w os) (topStub pw) = some (SA w os, ⟨denote treeTable cE, cE, (Pos.mk 0 0 0 0), BB⟩) := by
  rw [PySem.W.Fast.te15667345088766844465, PySem.W.Fast.te14364793385576792824, PySem.W.Fast.te11892475500146522536]; kernel_rfl
theorem zp6 (w : World) (os : OsState) : segRun treeTable pw w 11 an 1 1 (SA w os) (blockOf bE en cE (Pos.mk 0 0 0 0) BB) = some (.next, (SS tr0 15 187 w os).abs, cE, (Pos.mk 0 0 0 0)) := by
  rw [PySem.W.Fast.te14374325043358763698, PySem.W.Fast.te14364793385576792824]; kernel_rfl
theorem run_0 (w : World) (os : OsState) : segRunT treeTable pw w 11 an 1 422 (SS tr0 15 187 w os) ⟨(execs (grp 0 16) en).wrap doneF deadEnd id id, cE, (Pos.mk 0 0 0 0), BB⟩ = some (.next, SS tr1 102 303 w os, cE, (Pos.mk 58 0 58 8)) := by
  rw [PySem.W.Fast.te10110043849684766642, PySem.W.Fast.te14364793385576792824, PySem.W.Fast.te12563942051412417395]; kernel_rfl
theorem run_1 (w : World) (os : OsState) : segRunT treeTable pw w 11 an 1 842 (SS tr1 102 303 w os) ⟨(execs (grp 16 1) en).wrap doneF deadEnd id id, cE, (Pos.mk 58 0 58 8), BB⟩ = some (.next, SS tr2 256 495 w os, cE, (Pos.mk 59 0 151 16)) := by
  rw [PySem.W.Fast.te10110043849684766642, PySem.W.Fast.te14364793385576792824, PySem.W.Fast.te12563942051412417395]; kernel_rfl
theorem run_2 (w : World) (os : OsState) : segRunT treeTable pw w 11 an 1 658 (SS tr2 256 495 w os) ⟨(execs (grp 17 3) en).wrap doneF deadEnd id id, cE, (Pos.mk 59 0 151 16), BB⟩ = some (.next, SS tr3 338 617 w os, cE, (Pos.mk 168 0 207 37)) := by
  rw [PySem.W.Fast.te10110043849684766642, PySem.W.Fast.te14364793385576792824, PySem.W.Fast.te12563942051412417395]; kernel_rfl
theorem run_3 (w : World) (os : OsState) : segRunT treeTable pw w 11 an 1 607 (SS tr3 338 617 w os) ⟨(execs (grp 20 9) en).wrap doneF deadEnd id id, cE, (Pos.mk 168 0 207 37), BB⟩ = some (.next, SS tr4 428 740 w os, cE, (Pos.mk 269 0 293 79)) := by
  rw [PySem.W.Fast.te10110043849684766642, PySem.W.Fast.te14364793385576792824, PySem.W.Fast.te12563942051412417395]; kernel_rfl
theorem run_fin (w : World) (os : OsState) : topRun treeTable pw w 11 an 2 (SS tr4 428 740 w os).abs ⟨doneF .next, cE, (Pos.mk 269 0 293 79), BB⟩ = some (SF w os) := by
  rw [PySem.W.Fast.te14082659384304107361, PySem.W.Fast.te14364793385576792824]; kernel_rfl
noncomputable def MM : Nat := Nat.add 12 (Nat.add 1 (Nat.add 422 (Nat.add 842 (Nat.add 658 (Nat.add 607 (2))))))
theorem bE_eq : (grp 0 16 ++ (grp 16 1 ++ (grp 17 3 ++ (grp 20 9 ++ [])))) = bE := by kernel_rfl
theorem run_all (w : World) (os : OsState) : topRun treeTable pw w 11 an MM (S0 w os) (topStub pw) = some (SF w os) :=
  go_top (run_pre w os) (piece_block (b := bE) (zp6 w os) (Eq.subst (motive := fun x => topRun treeTable pw w 11 an (Nat.add 422 (Nat.add 842 (Nat.add 658 (Nat.add 607 (2))))) (SS tr0 15 187 w os).abs (restOf x en cE (Pos.mk 0 0 0 0) BB) = some (SF w os)) bE_eq (piece_app (l := grp 0 16) (rest := (grp 16 1 ++ (grp 17 3 ++ (grp 20 9 ++ [])))) (segRun_of (run_0 w os)) (piece_app (l := grp 16 1) (rest := (grp 17 3 ++ (grp 20 9 ++ []))) (segRun_of (run_1 w os)) (piece_app (l := grp 17 3) (rest := (grp 20 9 ++ [])) (segRun_of (run_2 w os)) (piece_app (l := grp 20 9) (rest := []) (segRun_of (run_3 w os)) (run_fin w os)))))))
noncomputable def q0 : Program := view pw [0, 2, 3, 4, 5, 6, 7, 8, 9, 10, 11, 12, 13, 14, 16, 17, 19, 20, 22, 23, 24, 25, 26, 27, 28]
noncomputable def lo : List Str := ["has_domains"]
abbrev rr : OpenRow := PySem.Challenge.rw_pc0038_02.row
theorem kAs_eq (P : Params) : kAs = (KK P).map (·.1) := by kernel_rfl
noncomputable abbrev HK : Hook := kHook KK kAs kAs_eq
noncomputable def xt (s : Shared) : Bool := xlAt q0 [] s && recOk (RowW.records rr.toRowW) s
theorem open_eq : opening pw = plainProg pw.main.scope.names := by kernel_rfl
theorem zsk (s : Shared) : fenceModules? pw s = some s := by kernel_rfl
theorem size_eq (w : World) : ((boot_heap w.params).isNs mainGlobals && (Array.mk [] : Array GenState).size == 0, (boot_heap w.params).objs.size, (boot_heap w.params).nsMap mainGlobals "__annotations__") = (true, 11, an) := by kernel_rfl
theorem look_a (w : World) (os : OsState) : (staticsOk (importedModules pw.main.body) (boot_heap w.params) (hF w.params) && namesBound pw (hF w.params) && gensDone (SF w os) && laidKept (boot_heap w.params) (hF w.params)) = true := by kernel_rfl
theorem look_b (w : World) (os : OsState) : openSeen q0 lo (importedModules pw.main.body) xt true (SF w os) = openGood q0 lo := by
  rw [PySem.W.Fast.te4187177175401517315]; kernel_rfl
theorem look_c (w : World) (os : OsState) : HK.obs (SF w os) = HK.val w := by kernel_rfl
theorem left_ : LeftO pw q0 lo xt HK.obs HK.val 5176 :=
  LeftO.of_pieces (boot_open open_eq rfl zsk) size_eq run_all (by decide) fun w => funext fun os => looks_pair (look_a w os) (looks_pair (look_b w os) (look_c w os))
noncomputable def dd : DefRec := ⟨"law", (dt "law").1, (dt "law").2.1, (dt "law").2.2, ⟨269, 0, 293, 79⟩⟩
theorem dd_eq : defOf q0 rr.name = some (dd, []) := by kernel_rfl
theorem dd_at : rr.prog.theDef rr.name = some (dd.params, dd.body, dd.scope) := by kernel_rfl
theorem dd_kw : kwWritten? dd.params.kwonlyargs dd.params.kw_defaults = some [] := by kernel_rfl
theorem said : PySem.Challenge.rw_pc0038_02.wellSaid = true := by
  rw [PySem.W.Fast.te9446332074065402090]; kernel_rfl
theorem good_ok : (chainsOk q0 && opensWell rr.prog && (PySem.W.frees rr.toRowW && rr.within.isEmpty)) = true := by kernel_rfl
theorem bare_ok : rr.prog.bare := ⟨rfl, rfl, rfl, rfl, rfl, by decide +kernel⟩
theorem wit_ok : rr.toRowW.promised := by w_witness2
theorem hd_ (hc : WalkO q0 lo (XL q0 []) HK.says rr.toRowW dd [] (fun f vs => PySem.call f vs)) : PySem.Challenge.rw_pc0038_02.Holds :=
  holds_law said fun sd => holds_open (r := rr) (q := q0) (loose := lo) (Xt := xt) (XP := XL q0 []) (Yf := HK.obs) (Ya := HK.val) (YP := HK.says) (N := 5176) left_ (Hook.of HK) (Hook.keeps HK) (fun s e => xl_of s (Bool.and_eq_true_iff.mp e).1) XL.keeps dd_eq dd_at dd_kw (fun s e => recFacts_of (Bool.and_eq_true_iff.mp e).2) rfl sd good_ok bare_ok wit_ok hc
end Mine.H
end
end
section
namespace Mine
@[reducible] noncomputable def zmd : MS := sExpr (mMethL (mName "found") mExtend [mCall mRange [mName "low", mBin mAdd (mName "high") (mConst (.int 1))]])
@[reducible] noncomputable def zno : MS := sSeq (sAssign (mLst []) (aName "found")) (sSeq (sFor (mIterV (mName "d")) (aTuple ["low", "high"]) zmd) (sRet (mName "found")))
@[reducible] noncomputable def zq2 : MT := tCmp .LtE (mName "low") (mName "k")
@[reducible] noncomputable def zq4 : CI := ciElt (mTuple [mName "low", mCall mMin [mName "high", mName "k"]])
@[reducible] noncomputable def m_up_to : MS := sRet (mCall mTupleC [mCompF ["k"] (mIterV (mName "d")) (.many ["low", "high"]) zq2 zq4 (.list [])])
@[reducible] noncomputable def zm6 : MT := tCmp .GtE (mName "high") (mName "k")
@[reducible] noncomputable def zna : CI := ciElt (mTuple [mCall mMax [mName "low", mName "k"], mName "high"])
@[reducible] noncomputable def zln : MS := sRet (mCall mTupleC [mCompF ["k"] (mIterV (mName "d")) (.many ["low", "high"]) zm6 zna (.list [])])
@[reducible] noncomputable def zll (t_up_to za1 : MF) : MS := sRet (mBin mAdd (mCall t_up_to [mName "d", mBin mSub (mName "v") (mConst (.int 1))]) (mCall za1 [mName "d", mBin mAdd (mName "v") (mConst (.int 1))]))
@[reducible] noncomputable def znp (t_up_to za1 t_meet zca : MF) : MS := sSeq (sSwap (mTuple [mSub2 (mName "literal") (mConst (.int 1)), mSub2 (mName "literal") (mConst (.int 2))]) ["sign", "k"]) (sSeq (sIf (tCmp .Eq (mName "sign") (mConst (.str "<="))) (sRet (mCall t_up_to [mName "d", mName "k"])) (sPass)) (sSeq (sIf (tCmp .Eq (mName "sign") (mConst (.str ">="))) (sRet (mCall za1 [mName "d", mName "k"])) (sPass)) (sRet (mIf (tCmp .Eq (mName "sign") (mConst (.str "="))) (mCall t_meet [mName "d", mTuple [mTuple [mName "k", mName "k"]]]) (mCall zca [mName "d", mName "k"])))))
@[reducible] noncomputable def zd2 : MS := sSeq (sAssign (mLst []) (aAttrF "Store" "domains" (mName "self"))) (sSeq (sAssign (mLst []) (aAttrF "Store" "firsts" (mName "self"))) (sSeq (sAssign (mLst []) (aAttrF "Store" "trail" (mName "self"))) (sSeq (sAssign (mLst []) (aAttrF "Store" "marks" (mName "self"))) (sSeq (sAssign (mDict0) (aAttrF "Store" "news" (mName "self"))) (sSeq (sAssign (mNeg (mConst (.int 1))) (aAttrF "Store" "speaker" (mName "self"))) (sSeq (sAssign (mConst (.bool false)) (aAttrF "Store" "is_failed" (mName "self"))) (sAssign (mTuple []) (aAttrF "Store" "clash" (mName "self")))))))))
@[reducible] noncomputable def zd0 (t_Store_fail : MF) : MS := sSeq (sExpr (mMethL (mAttrF "Store" "domains" (mName "self")) mAppend [mName "domain"])) (sSeq (sExpr (mMethL (mAttrF "Store" "firsts" (mName "self")) mAppend [mName "domain"])) (sSeq (sIf (tCmp .Eq (mName "domain") (mTuple [])) (sExpr (mMethF "Store" "fail" (mName "self") t_Store_fail [mTuple []])) (sPass)) (sRet (mBin mSub (mCall mLen [mAttrF "Store" "domains" (mName "self")]) (mConst (.int 1))))))
@[reducible] noncomputable def zh3 : MS := sRet (mSub2 (mAttrF "Store" "domains" (mName "self")) (mName "x"))
@[reducible] noncomputable def zd1 : MS := sRet (mSub2 (mAttrF "Store" "firsts" (mName "self")) (mName "x"))
@[reducible] noncomputable def zfr (zcv t_negation t_Store_fail : MF) : MS := sSeq (sAssign (mSub2 (mName "literal") (mConst (.int 0))) (aName "x")) (sSeq (sAssign (mSub2 (mAttrF "Store" "domains" (mName "self")) (mName "x")) (aName "old")) (sSeq (sAssign (mCall zcv [mName "literal", mName "old"]) (aName "fresh")) (sSeq (sIf (tCmp .Eq (mName "fresh") (mTuple [])) (sRet (mMethF "Store" "fail" (mName "self") t_Store_fail [mBin mAdd (mIf (tCmp .Is (mName "reasons") (mConst .none)) (mTuple []) (mName "reasons")) (mTuple [mCall t_negation [mName "literal"]])])) (sPass)) (sSeq (sIf (tCmp .Eq (mName "fresh") (mName "old")) (sRet (mConst (.bool true))) (sPass)) (sSeq (sExpr (mMethL (mAttrF "Store" "trail" (mName "self")) mAppend [mTuple [mName "x", mName "old", mName "literal", mName "reasons", mName "speaker"]])) (sSeq (sAssign (mName "fresh") (aSub (mAttrF "Store" "domains" (mName "self")) (mName "x"))) (sSeq (sAssign (mConst (.bool true)) (aSub (mAttrF "Store" "news" (mName "self")) (mName "x"))) (sRet (mConst (.bool true))))))))))
@[reducible] noncomputable def zes (za2 : MF) : MS := sRet (mMethF "Store" "enter" (mName "self") za2 [mName "literal", mConst .none, mNeg (mConst (.int 1))])
@[reducible] noncomputable def zdd : MS := sSeq (sAssign (mNeg (mConst (.int 1))) (aAttrF "AllDifferentValues" "number" (mName "self"))) (sSeq (sAssign (mCall mTupleC [mName "scope"]) (aAttrF "AllDifferentValues" "scope" (mName "self"))) (sAssign (mName "strength") (aAttrF "AllDifferentValues" "strength" (mName "self"))))
@[reducible] noncomputable def zdf (zad zav : MF) : CI := ciElt (mCall zav [mMethF "Store" "dom" (mName "store") zad [mName "x"]])
@[reducible] noncomputable def zcq (zad zav : MF) : MS := sSeq (sAssign (mCompF ["store"] (mIterV (mName "scope")) (.one "x") tTrue (zdf zad zav) (.list [])) (aAttrF "Matching" "choices" (mName "self"))) (sSeq (sAssign (mBin mMul (mLst [mConst .none]) (mCall mLen [mName "scope"])) (aAttrF "Matching" "mate" (mName "self"))) (sAssign (mDict0) (aAttrF "Matching" "owner" (mName "self"))))
@[reducible] noncomputable def zdr (t_Matching_hand_on : MF) : MS := sIf (tCmp .NotIn (mName "v") (mName "came")) (sSeq (sAssign (mSub2 (mName "places") (mName "k")) (aSub (mName "came") (mName "v"))) (sSeq (sIf (tCmp .NotIn (mName "v") (mAttrF "Matching" "owner" (mName "self"))) (sSeq (sExpr (mMethF "Matching" "hand_on" (mName "self") t_Matching_hand_on [mName "v", mName "came"])) (sRet (mConst .none))) (sPass)) (sExpr (mMethL (mName "places") mAppend [mSub2 (mAttrF "Matching" "owner" (mName "self")) (mName "v")])))) (sPass)
@[reducible] noncomputable def zgo : MT := tCmp .Lt (mName "k") (mCall mLen [mName "places"])
@[reducible] noncomputable def zg4 (t_Matching_hand_on : MF) : MS := sSeq (sFor (mIterV (mSub2 (mAttrF "Matching" "choices" (mName "self")) (mSub2 (mName "places") (mName "k")))) (aName "v") (zdr t_Matching_hand_on)) (sAssign (mBin mAdd (mName "k") (mConst (.int 1))) (aName "k"))
@[reducible] noncomputable def zd3 (t_Matching_hand_on : MF) : MS := sSeq (sSwap (mTuple [mDict0, mLst [mName "place"], mConst (.int 0)]) ["came", "places", "k"]) (sSeq (sWhile zgo (zg4 t_Matching_hand_on)) (sRet (mTuple [mName "places", mCall mSorted [mName "came"]])))
@[reducible] noncomputable def zev : MT := tCmp .IsNot (mName "v") (mConst .none)
@[reducible] noncomputable def ze9 : MS := sSeq (sAssign (mSub2 (mName "came") (mName "v")) (aName "p")) (sSeq (sAssign (mSub2 (mAttrF "Matching" "mate" (mName "self")) (mName "p")) (aName "left")) (sSeq (sAssign (mName "v") (aSub (mAttrF "Matching" "mate" (mName "self")) (mName "p"))) (sSeq (sAssign (mName "p") (aSub (mAttrF "Matching" "owner" (mName "self")) (mName "v"))) (sAssign (mName "left") (aName "v")))))
@[reducible] noncomputable def zc3 : MS := sWhile zev ze9
@[reducible] noncomputable def zb1 : MS := sIf (tCmp .NotIn (mName "u") (mName "seen")) (sSeq (sAssign (mConst (.bool true)) (aSub (mName "seen") (mName "u"))) (sExpr (mMethL (mName "stack") mAppend [mName "u"]))) (sPass)
@[reducible] noncomputable def zdi : MT := tCmp .NotEq (mName "stack") (mLst [])
@[reducible] noncomputable def zdq : MS := sSeq (sAssign (mMethL (mName "stack") mPop []) (aName "w")) (sSeq (sIf (tCmp .NotIn (mName "w") (mAttrF "Matching" "owner" (mName "self"))) (sRet (mConst .none)) (sPass)) (sSeq (sExpr (mMethL (mName "places") mAppend [mSub2 (mAttrF "Matching" "owner" (mName "self")) (mName "w")])) (sFor (mIterV (mSub2 (mAttrF "Matching" "choices" (mName "self")) (mSub2 (mAttrF "Matching" "owner" (mName "self")) (mName "w")))) (aName "u") zb1)))
@[reducible] noncomputable def zb2 : MS := sSeq (sSwap (mTuple [mLst [], mDictI [(mName "v", mConst (.bool true))], mLst [mName "v"]]) ["places", "seen", "stack"]) (sSeq (sWhile zdi zdq) (sRet (mTuple [mName "places", mCall mSorted [mName "seen"]])))
@[reducible] noncomputable def zbg : MS := sIf (tAnd [tCmp2 .Lt .Lt (mSub2 (mName "few") (mConst (.int 0))) (mName "v") (mSub2 (mName "few") (mNeg (mConst (.int 1)))), tCmp .NotIn (mName "v") (mName "few")]) (sExpr (mMethL (mName "found") mAppend [mTuple [mName "x", mConst (.str "!="), mName "v"]])) (sPass)
@[reducible] noncomputable def zcu (zaq zav : MF) : MS := sSeq (sAssign (mSub2 (mAttrF "AllDifferentValues" "scope" (mName "self")) (mName "place")) (aName "x")) (sSeq (sExpr (mMethL (mName "found") mExtend [mLst [mTuple [mName "x", mConst (.str ">="), mSub2 (mName "few") (mConst (.int 0))], mTuple [mName "x", mConst (.str "<="), mSub2 (mName "few") (mNeg (mConst (.int 1)))]]])) (sFor (mIterV (mCall zav [mMethF "Store" "initial" (mName "store") zaq [mName "x"]])) (aName "v") zbg))
@[reducible] noncomputable def zbj (zaq zav : MF) : MS := sSeq (sAssign (mLst []) (aName "found")) (sSeq (sFor (mIterV (mName "places")) (aName "place") (zcu zaq zav)) (sRet (mCall mTupleC [mName "found"])))
end Mine
end
section
namespace Mine
@[reducible] noncomputable def zlm : MS := sSeq (znf (mBin mAdd (mSub2 (mName "cask") (mConst (.str "drunk"))) (mConst (.int 1))) (aName "place") (aSub (mName "cask") (mConst (.str "drunk")))) (sSeq (sIf (tCmp .LtE (mName "place") (mCall mLen [mSub2 (mName "cask") (mConst (.str "cells"))])) (sRet (mBin mMod (mSub2 (mSub2 (mName "cask") (mConst (.str "cells"))) (mBin mSub (mName "place") (mConst (.int 1)))) (mName "many"))) (sPass)) (sRet (mBin mMod (mBin mDiv (mBin mAdd (mBin mAdd (mBin mAdd (mBin mMul (mBin mMul (mConst (.int 5)) (mName "place")) (mName "place")) (mBin mMul (mConst (.int 7)) (mName "place"))) (mConst (.int 3))) (mBin mMul (mConst (.int 2)) (mCall mLen [mSub2 (mName "cask") (mConst (.str "cells"))]))) (mConst (.int 2))) (mName "many"))))
@[reducible] noncomputable def zh1 : MS := sSeq (sIf (tOr [tCmp .Eq (mSub2 (mName "literal") (mConst (.int 1))) (mConst (.str "=")), tCmp .Eq (mSub2 (mName "literal") (mConst (.int 1))) (mConst (.str "!="))]) (sRet (mCmp .Eq (mCmp .Eq (mName "v") (mSub2 (mName "literal") (mConst (.int 2)))) (mCmp .Eq (mSub2 (mName "literal") (mConst (.int 1))) (mConst (.str "="))))) (sPass)) (sRet (mIf (tCmp .Eq (mSub2 (mName "literal") (mConst (.int 1))) (mConst (.str "<="))) (mCmp .LtE (mName "v") (mSub2 (mName "literal") (mConst (.int 2)))) (mCmp .GtE (mName "v") (mSub2 (mName "literal") (mConst (.int 2))))))
@[reducible] noncomputable def zl4 (t_law_keeps : MF) : MT := tAnd [tCmp .Eq (mSub2 (mName "one") (mConst (.int 0))) (mName "x"), tNot (tVal (mCall t_law_keeps [mName "one", mName "v"]))]
@[reducible] noncomputable def zmc : CI := ciElt (mConst (.int 1))
@[reducible] noncomputable def zl3 (t_law_keeps : MF) : MT := tCmp .Eq (mCompF ["v", "x"] (mIterV (mName "literals")) (.one "one") (zl4 t_law_keeps) zmc (.list [])) (mLst [])
@[reducible] noncomputable def zmb : CI := ciElt (mName "v")
@[reducible] noncomputable def zjo (t_law_keeps : MF) : MS := sRet (mCompF ["literals", "x"] (mIterV (mName "numbers")) (.one "v") (zl3 t_law_keeps) zmb (.list []))
@[reducible] noncomputable def zij : CI := ciElt (mSub2 (mName "scope") (mName "place"))
@[reducible] noncomputable def zig : MT := tCmp .NotIn (mSub2 (mName "one") (mConst (.int 0))) (mName "named")
@[reducible] noncomputable def zii : CI := ciElt (mConst (.int 1))
@[reducible] noncomputable def zif : MT := tCmp .In (mName "v") (mName "few")
@[reducible] noncomputable def zih : CI := ciElt (mName "v")
@[reducible] noncomputable def zi1 (t_law_left : MF) : MS := sIf (tCmp .NotEq (mCall t_law_left [mSub2 (mName "firsts") (mName "x"), mName "told", mName "x"]) (mCompF ["few"] (mIterV (mSub2 (mName "firsts") (mName "x"))) (.one "v") zif zih (.list []))) (sRet (mConst (.bool false))) (sPass)
@[reducible] noncomputable def zfq (t_law_left : MF) : MS := sSeq (sAssign (mCompF ["scope"] (mIterV (mName "places")) (.one "place") tTrue zij (.list [])) (aName "named")) (sSeq (sIf (tCmp .NotEq (mCompF ["named"] (mIterV (mName "told")) (.one "one") zig zii (.list [])) (mLst [])) (sRet (mConst (.bool false))) (sPass)) (sSeq (sFor (mIterV (mName "named")) (aName "x") (zi1 t_law_left)) (sRet (mConst (.bool true)))))
@[reducible] noncomputable def zeo (t_Matching_seat t_AllDifferentValues_walls t_law_is_so : MF) : MS := sSeq (sAssign (mMethF "Matching" "seat" (mName "board") t_Matching_seat [mName "place"]) (aName "lack")) (sIf (tCmp .IsNot (mName "lack") (mConst .none)) (sSeq (sAssign (mMethF "AllDifferentValues" "walls" (mName "ask") t_AllDifferentValues_walls [mName "store", mSub2 (mName "lack") (mConst (.int 0)), mSub2 (mName "lack") (mConst (.int 1))]) (aName "told")) (sRet (mAndV [mCmp .Gt (mLenSet (mSub2 (mName "lack") (mConst (.int 0)))) (mCall mLen [mSub2 (mName "lack") (mConst (.int 1))]), mCall t_law_is_so [mName "told", mName "scope", mName "lack", mName "firsts", mName "now"]]))) (sPass))
@[reducible] noncomputable def zen (t_AllDifferentValues_walls t_law_is_so t_Matching_closed_from : MF) : MS := sSeq (sAssign (mIf (tCmp .In (mName "v") (mAttrF "Matching" "owner" (mName "board"))) (mMethF "Matching" "closed_from" (mName "board") t_Matching_closed_from [mName "v"]) (mConst .none)) (aName "found")) (sIf (tCmp .IsNot (mName "found") (mConst .none)) (sSeq (sAssign (mMethF "AllDifferentValues" "walls" (mName "ask") t_AllDifferentValues_walls [mName "store", mSub2 (mName "found") (mConst (.int 0)), mSub2 (mName "found") (mConst (.int 1))]) (aName "told")) (sIf (tOr [tCmp .NotEq (mLenSet (mSub2 (mName "found") (mConst (.int 0)))) (mCall mLen [mSub2 (mName "found") (mConst (.int 1))]), tNot (tVal (mCall t_law_is_so [mName "told", mName "scope", mName "found", mName "firsts", mName "now"]))]) (sRet (mConst (.bool false))) (sPass))) (sPass))
@[reducible] noncomputable def zcp (zbm t_Matching_seat t_AllDifferentValues_walls t_law_is_so t_Matching_closed_from : MF) : MS := sSeq (sAssign (mCall zbm [mName "store", mName "scope"]) (aName "board")) (sSeq (sFor (mIterV (mCall mRange [mCall mLen [mName "scope"]])) (aName "place") (zeo t_Matching_seat t_AllDifferentValues_walls t_law_is_so)) (sSeq (sFor (mIterV (mCall mRange [mNeg (mConst (.int 3)), mConst (.int 5)])) (aName "v") (zen t_AllDifferentValues_walls t_law_is_so t_Matching_closed_from)) (sRet (mConst (.bool true)))))
@[reducible] noncomputable def zkk (t_law_left : MF) : MT := tCmp .NotEq (mCall t_law_left [mSub2 (mName "now") (mSub2 (mName "one") (mConst (.int 0))), mLst [mName "one"], mSub2 (mName "one") (mConst (.int 0))]) (mSub2 (mName "now") (mSub2 (mName "one") (mConst (.int 0))))
@[reducible] noncomputable def zkp : CI := ciElt (mConst (.int 1))
@[reducible] noncomputable def zh2 (t_law_left t_law_is_said : MF) : MS := sSeq (sIf (tCmp .NotEq (mCompF ["now"] (mIterV (mName "told")) (.one "one") (zkk t_law_left) zkp (.list [])) (mLst [])) (sRet (mConst (.bool false))) (sPass)) (sRet (mCall t_law_is_said [mName "told", mName "scope", mSub2 (mName "found") (mConst (.int 0)), mSub2 (mName "found") (mConst (.int 1)), mName "firsts"]))
@[reducible] noncomputable def ce1_law : CI := ciElt (mBin mMod (mCall mInt [mName "cell"]) (mConst (.int 5040)))
@[reducible] noncomputable def ce2_law (t_law_sip : MF) : CI := ciElt (mBin mSub (mCall t_law_sip [mName "cask", mConst (.int 8)]) (mConst (.int 3)))
@[reducible] noncomputable def ct3_law : MT := tCmp .NotIn (mBin mSub (mName "v") (mConst (.int 1))) (mSub2 (mName "firsts") (mName "x"))
@[reducible] noncomputable def ce4_law : CI := ciElt (mName "v")
@[reducible] noncomputable def ct5_law : MT := tCmp .NotIn (mBin mAdd (mName "v") (mConst (.int 1))) (mSub2 (mName "firsts") (mName "x"))
@[reducible] noncomputable def ce6_law : CI := ciElt (mName "v")
@[reducible] noncomputable def b7_law (t_law_sip zag : MF) : MS := sSeq (sExpr (mMethL (mName "firsts") mAppend [zf9 (mCompF ["cask"] (mIterV (mCall mRange [mBin mAdd (mConst (.int 1)) (mCall t_law_sip [mName "cask", mConst (.int 4)])])) (.one "turn") tTrue (ce2_law t_law_sip) (.list []))])) (sSeq (sAssign (mCompF ["firsts", "x"] (mIterV (mSub2 (mName "firsts") (mName "x"))) (.one "v") ct3_law ce4_law (.list [])) (aName "runs")) (sSeq (sAssign (mCompF ["firsts", "x"] (mIterV (mSub2 (mName "firsts") (mName "x"))) (.one "v") ct5_law ce6_law (.list [])) (aName "ends")) (sExpr (mMethF "Store" "new_var" (mName "store") zag [zh4 [mName "runs", mName "ends"]]))))
@[reducible] noncomputable def ce8_law : CI := ciElt (mCall mListC [mName "one"])
@[reducible] noncomputable def b9_law (t_law_sip t_law_left zaf : MF) : MS := sSeq (sAssign (mTuple [mCall t_law_sip [mName "cask", mName "many"], mSub2 (mTuple [mConst (.str "!="), mConst (.str "<="), mConst (.str ">=")]) (mCall t_law_sip [mName "cask", mConst (.int 3)])]) (aTuple ["x", "sign"])) (sSeq (sAssign (mTuple [mName "x", mName "sign", mSub2 (mSub2 (mName "firsts") (mName "x")) (mCall t_law_sip [mName "cask", mCall mLen [mSub2 (mName "firsts") (mName "x")]])]) (aName "literal")) (sIf (tCmp .NotEq (mCall t_law_left [mSub2 (mName "now") (mName "x"), mLst [mName "literal"], mName "x"]) (mLst [])) (sSeq (sAssign (mCall t_law_left [mSub2 (mName "now") (mName "x"), mLst [mName "literal"], mName "x"]) (aSub (mName "now") (mName "x"))) (sExpr (mMethF "Store" "decide" (mName "store") zaf [mName "literal"]))) (sPass)))
@[reducible] noncomputable def zss : CI := ciElt (mBin mMod (mBin mAdd (mName "begin") (mName "k")) (mName "many"))
@[reducible] noncomputable def zoa (t_law_sip : MF) : CI := ciElt (mCall t_law_sip [mName "cask", mName "many"])
@[reducible] noncomputable def zn9 (t_law_sip : MF) : CI := ciElt (mBin mSub (mCall t_law_sip [mName "cask", mConst (.int 9)]) (mConst (.int 4)))
@[reducible] noncomputable def zsr : CI := ciElt (mName "v")
@[reducible] noncomputable def zn8 : CI := ciNext (mIterV (mCall mRange [mName "low", mBin mAdd (mName "high") (mConst (.int 1))])) (.one "v") tTrue zsr
@[reducible] noncomputable def zn7 (zad : MF) : CI := ciElt (mCompF [] (mIterV (mMethF "Store" "dom" (mName "store") zad [mName "x"])) (.many ["low", "high"]) tTrue zn8 (.list []))
@[reducible] noncomputable def k16_law : MS := sRet (mAndV [mCmp .Eq (mName "after") (mName "now"), mCmp .Eq (mCall mLen [mAttrF "Store" "trail" (mName "store")]) (mName "trail"), mNot (mAttrF "Store" "is_failed" (mName "store"))])
@[reducible] noncomputable def k17_law (zad : MF) : MS := sSeq (sAssign (mCompF ["store"] (mIterV (mCall mRange [mName "many"])) (.one "x") tTrue (zn7 zad) (.list [])) (aName "after")) (k16_law)
@[reducible] noncomputable def k18_law (t_law_matched_right zad : MF) : MS := sSeq (sIf (tNot (tVal (mCall t_law_matched_right [mName "store", mName "ask", mName "scope", mName "firsts", mName "now"]))) (sRet (mConst (.bool false))) (sPass)) ((k17_law zad))
@[reducible] noncomputable def k19_law (t_AllDifferentValues_walls t_law_is_said t_law_matched_right zad : MF) : MS := sSeq (sIf (tNot (tVal (mCall t_law_is_said [mMethF "AllDifferentValues" "walls" (mName "ask") t_AllDifferentValues_walls [mName "store", mName "places", mName "few"], mName "scope", mName "places", mName "few", mName "firsts"]))) (sRet (mConst (.bool false))) (sPass)) ((k18_law t_law_matched_right zad))
@[reducible] noncomputable def k20_law (t_law_sip t_AllDifferentValues_walls t_law_is_said t_law_matched_right zad : MF) : MS := sSeq (sAssign (zf9 (mCompF ["cask"] (mIterV (mCall mRange [mBin mAdd (mConst (.int 1)) (mCall t_law_sip [mName "cask", mConst (.int 4)])])) (.one "turn") tTrue (zn9 t_law_sip) (.list []))) (aName "few")) ((k19_law t_AllDifferentValues_walls t_law_is_said t_law_matched_right zad))
@[reducible] noncomputable def k21_law (t_law_sip zac t_AllDifferentValues_walls t_law_is_said t_law_matched_right zad : MF) : MS := sSeq (sSwap (mTuple [mCall zac [mName "scope"], mCompF ["cask", "many"] (mIterV (mCall mRange [mBin mAdd (mConst (.int 1)) (mCall t_law_sip [mName "cask", mConst (.int 3)])])) (.one "turn") tTrue (zoa t_law_sip) (.list [])]) ["ask", "places"]) ((k20_law t_law_sip t_AllDifferentValues_walls t_law_is_said t_law_matched_right zad))
@[reducible] noncomputable def k22_law (t_law_sip zac t_AllDifferentValues_walls t_law_is_said t_law_matched_right zad : MF) : MS := sSeq (sAssign (mCall mTupleC [mCompF ["begin", "many"] (mIterV (mCall mRange [mName "many"])) (.one "k") tTrue zss (.list [])]) (aName "scope")) ((k21_law t_law_sip zac t_AllDifferentValues_walls t_law_is_said t_law_matched_right zad))
@[reducible] noncomputable def k23_law (t_law_sip zac t_AllDifferentValues_walls t_law_is_said t_law_matched_right zad : MF) : MS := sSeq (sAssign (mTuple [mCall t_law_sip [mName "cask", mName "many"], mCall mLen [mAttrF "Store" "trail" (mName "store")]]) (aTuple ["begin", "trail"])) ((k22_law t_law_sip zac t_AllDifferentValues_walls t_law_is_said t_law_matched_right zad))
@[reducible] noncomputable def k24_law (t_law_sip t_law_left zaf zac t_AllDifferentValues_walls t_law_is_said t_law_matched_right zad : MF) : MS := sSeq (sFor (mIterV (mCall mRange [mCall t_law_sip [mName "cask", mConst (.int 3)]])) (aName "turn") (b9_law t_law_sip t_law_left zaf)) ((k23_law t_law_sip zac t_AllDifferentValues_walls t_law_is_said t_law_matched_right zad))
@[reducible] noncomputable def k25_law (t_law_sip t_law_left zaf zac t_AllDifferentValues_walls t_law_is_said t_law_matched_right zad : MF) : MS := sSeq (sAssign (mCompF [] (mIterV (mName "firsts")) (.one "one") tTrue ce8_law (.list [])) (aName "now")) ((k24_law t_law_sip t_law_left zaf zac t_AllDifferentValues_walls t_law_is_said t_law_matched_right zad))
@[reducible] noncomputable def k26_law (t_law_sip zag t_law_left zaf zac t_AllDifferentValues_walls t_law_is_said t_law_matched_right zad : MF) : MS := sSeq (sFor (mIterV (mCall mRange [mName "many"])) (aName "x") (b7_law t_law_sip zag)) ((k25_law t_law_sip t_law_left zaf zac t_AllDifferentValues_walls t_law_is_said t_law_matched_right zad))
@[reducible] noncomputable def k27_law (t_law_sip zag t_law_left zaf zac t_AllDifferentValues_walls t_law_is_said t_law_matched_right zad : MF) : MS := sSeq (sAssign (mBin mAdd (mConst (.int 2)) (mCall t_law_sip [mName "cask", mConst (.int 3)])) (aName "many")) ((k26_law t_law_sip zag t_law_left zaf zac t_AllDifferentValues_walls t_law_is_said t_law_matched_right zad))
@[reducible] noncomputable def m_law (m_script : ME) (t_Store t_law_sip zag t_law_left zaf zac t_AllDifferentValues_walls t_law_is_said t_law_matched_right zad : MF) : MS := sSeq (sAssign (mTuple [mDictS [(mConst (.str "cells"), mCompF [] (mIterV (m_script)) (.one "cell") tTrue ce1_law (.list [])), (mConst (.str "drunk"), mConst (.int 0))], mCall t_Store [], mLst []]) (aTuple ["cask", "store", "firsts"])) ((k27_law t_law_sip zag t_law_left zaf zac t_AllDifferentValues_walls t_law_is_said t_law_matched_right zad))
end Mine
end
section
namespace Mine
noncomputable abbrev KK (P : Params) : Frag := H.KK P
noncomputable abbrev NL (P : Params) (a : Addr) (x : Str) (k : NameKind) : Prop := (scopeOf (KK P) a).names.lookup x = some k
variable {P : Params} {c : Cx} {d : Nat}
theorem zch (hK : c.K = KK c.w.params) : fldOk c.K "AllDifferentValues" "number" = true := by rw [hK]; kernel_rfl
theorem zbc (hK : c.K = KK c.w.params) : fldOk c.K "AllDifferentValues" "scope" = true := by rw [hK]; kernel_rfl
theorem zb7 (hK : c.K = KK c.w.params) : fldOk c.K "AllDifferentValues" "strength" = true := by rw [hK]; kernel_rfl
theorem zbk (hK : c.K = KK c.w.params) : fldOk c.K "Matching" "choices" = true := by rw [hK]; kernel_rfl
theorem zb6 (hK : c.K = KK c.w.params) : fldOk c.K "Matching" "mate" = true := by rw [hK]; kernel_rfl
theorem zap (hK : c.K = KK c.w.params) : fldOk c.K "Matching" "owner" = true := by rw [hK]; kernel_rfl
theorem zic (hK : c.K = KK c.w.params) : fldOk c.K "Store" "clash" = true := by rw [hK]; kernel_rfl
theorem zaz (hK : c.K = KK c.w.params) : fldOk c.K "Store" "domains" = true := by rw [hK]; kernel_rfl
theorem zcg (hK : c.K = KK c.w.params) : fldOk c.K "Store" "firsts" = true := by rw [hK]; kernel_rfl
theorem zcs (hK : c.K = KK c.w.params) : fldOk c.K "Store" "is_failed" = true := by rw [hK]; kernel_rfl
theorem zib (hK : c.K = KK c.w.params) : fldOk c.K "Store" "marks" = true := by rw [hK]; kernel_rfl
theorem zet (hK : c.K = KK c.w.params) : fldOk c.K "Store" "news" = true := by rw [hK]; kernel_rfl
theorem zga (hK : c.K = KK c.w.params) : fldOk c.K "Store" "speaker" = true := by rw [hK]; kernel_rfl
theorem zbw (hK : c.K = KK c.w.params) : fldOk c.K "Store" "trail" = true := by rw [hK]; kernel_rfl
theorem za0 (hK : c.K = KK c.w.params) : methAt c.K "AllDifferentValues" "walls" = some 381 := by rw [hK]; kernel_rfl
theorem zdo (hK : c.K = KK c.w.params) : methAt c.K "Matching" "closed_from" = some 330 := by rw [hK]; kernel_rfl
theorem ze6 (hK : c.K = KK c.w.params) : methAt c.K "Matching" "hand_on" = some 323 := by rw [hK]; kernel_rfl
theorem zgx (hK : c.K = KK c.w.params) : methAt c.K "Matching" "seat" = some 316 := by rw [hK]; kernel_rfl
theorem zh0 (hK : c.K = KK c.w.params) : methAt c.K "Store" "decide" = some 213 := by rw [hK]; kernel_rfl
theorem zgl (hK : c.K = KK c.w.params) : methAt c.K "Store" "dom" = some 136 := by rw [hK]; kernel_rfl
theorem ziv (hK : c.K = KK c.w.params) : methAt c.K "Store" "enter" = some 199 := by rw [hK]; kernel_rfl
theorem zfp (hK : c.K = KK c.w.params) : methAt c.K "Store" "fail" = some 220 := by rw [hK]; kernel_rfl
theorem zgw (hK : c.K = KK c.w.params) : methAt c.K "Store" "initial" = some 143 := by rw [hK]; kernel_rfl
theorem zgv (hK : c.K = KK c.w.params) : methAt c.K "Store" "new_var" = some 122 := by rw [hK]; kernel_rfl
theorem b_int (hK : c.K = KK c.w.params) : nsIn c.K mainGlobals "int" = some none := by rw [hK]; kernel_rfl
theorem b_len (hK : c.K = KK c.w.params) : nsIn c.K mainGlobals "len" = some none := by rw [hK]; kernel_rfl
theorem b_list (hK : c.K = KK c.w.params) : nsIn c.K mainGlobals "list" = some none := by rw [hK]; kernel_rfl
theorem b_max (hK : c.K = KK c.w.params) : nsIn c.K mainGlobals "max" = some none := by rw [hK]; kernel_rfl
theorem b_min (hK : c.K = KK c.w.params) : nsIn c.K mainGlobals "min" = some none := by rw [hK]; kernel_rfl
theorem b_range (hK : c.K = KK c.w.params) : nsIn c.K mainGlobals "range" = some none := by rw [hK]; kernel_rfl
theorem b_set (hK : c.K = KK c.w.params) : nsIn c.K mainGlobals "set" = some none := by rw [hK]; kernel_rfl
theorem zhf (hK : c.K = KK c.w.params) : nsIn c.K mainGlobals "sorted" = some none := by rw [hK]; kernel_rfl
theorem b_tuple (hK : c.K = KK c.w.params) : nsIn c.K mainGlobals "tuple" = some none := by rw [hK]; kernel_rfl
theorem b_zip (hK : c.K = KK c.w.params) : nsIn c.K mainGlobals "zip" = some none := by rw [hK]; kernel_rfl
theorem zel (hK : c.K = KK c.w.params) : nsIn c.K mainGlobals "AllDifferentValues" = some (some (.ref 384)) := by rw [hK]; kernel_rfl
theorem gk_384 (hK : c.K = KK c.w.params) : Keeps2 c (.ref 384) := zas (by rw [hK]; kernel_rfl)
theorem zo5 (hK : c.K = KK c.w.params) : nsIn c.K mainGlobals "Matching" = some (some (.ref 333)) := by rw [hK]; kernel_rfl
theorem gk_333 (hK : c.K = KK c.w.params) : Keeps2 c (.ref 333) := zas (by rw [hK]; kernel_rfl)
theorem g_Store (hK : c.K = KK c.w.params) : nsIn c.K mainGlobals "Store" = some (some (.ref 251)) := by rw [hK]; kernel_rfl
theorem gk_251 (hK : c.K = KK c.w.params) : Keeps2 c (.ref 251) := zas (by rw [hK]; kernel_rfl)
theorem zft (hK : c.K = KK c.w.params) : nsIn c.K mainGlobals "_law_is_said" = some (some (.ref 410)) := by rw [hK]; kernel_rfl
theorem gk_410 (hK : c.K = KK c.w.params) : Keeps2 c (.ref 410) := zas (by rw [hK]; kernel_rfl)
theorem zh8 (hK : c.K = KK c.w.params) : nsIn c.K mainGlobals "_law_is_so" = some (some (.ref 422)) := by rw [hK]; kernel_rfl
theorem gk_422 (hK : c.K = KK c.w.params) : Keeps2 c (.ref 422) := zas (by rw [hK]; kernel_rfl)
theorem zmy (hK : c.K = KK c.w.params) : nsIn c.K mainGlobals "_law_keeps" = some (some (.ref 400)) := by rw [hK]; kernel_rfl
theorem gk_400 (hK : c.K = KK c.w.params) : Keeps2 c (.ref 400) := zas (by rw [hK]; kernel_rfl)
theorem zeh (hK : c.K = KK c.w.params) : nsIn c.K mainGlobals "_law_left" = some (some (.ref 405)) := by rw [hK]; kernel_rfl
theorem gk_405 (hK : c.K = KK c.w.params) : Keeps2 c (.ref 405) := zas (by rw [hK]; kernel_rfl)
theorem ze7 (hK : c.K = KK c.w.params) : nsIn c.K mainGlobals "_law_matched_right" = some (some (.ref 417)) := by rw [hK]; kernel_rfl
theorem gk_417 (hK : c.K = KK c.w.params) : Keeps2 c (.ref 417) := zas (by rw [hK]; kernel_rfl)
theorem za8 (hK : c.K = KK c.w.params) : nsIn c.K mainGlobals "_law_sip" = some (some (.ref 393)) := by rw [hK]; kernel_rfl
theorem gk_393 (hK : c.K = KK c.w.params) : Keeps2 c (.ref 393) := zas (by rw [hK]; kernel_rfl)
theorem zlv (hK : c.K = KK c.w.params) : nsIn c.K mainGlobals "from_on" = some (some (.ref 66)) := by rw [hK]; kernel_rfl
theorem gk_66 (hK : c.K = KK c.w.params) : Keeps2 c (.ref 66) := zas (by rw [hK]; kernel_rfl)
theorem g_meet (hK : c.K = KK c.w.params) : nsIn c.K mainGlobals "meet" = some (some (.ref 80)) := by rw [hK]; kernel_rfl
theorem gk_80 (hK : c.K = KK c.w.params) : Keeps2 c (.ref 80) := zas (by rw [hK]; kernel_rfl)
theorem zo4 (hK : c.K = KK c.w.params) : nsIn c.K mainGlobals "negation" = some (some (.ref 87)) := by rw [hK]; kernel_rfl
theorem gk_87 (hK : c.K = KK c.w.params) : Keeps2 c (.ref 87) := zas (by rw [hK]; kernel_rfl)
theorem zsi (hK : c.K = KK c.w.params) : nsIn c.K mainGlobals "struck" = some (some (.ref 94)) := by rw [hK]; kernel_rfl
theorem gk_94 (hK : c.K = KK c.w.params) : Keeps2 c (.ref 94) := zas (by rw [hK]; kernel_rfl)
theorem g_up_to (hK : c.K = KK c.w.params) : nsIn c.K mainGlobals "up_to" = some (some (.ref 61)) := by rw [hK]; kernel_rfl
theorem gk_61 (hK : c.K = KK c.w.params) : Keeps2 c (.ref 61) := zas (by rw [hK]; kernel_rfl)
theorem znw (hK : c.K = KK c.w.params) : nsIn c.K mainGlobals "values" = some (some (.ref 56)) := by rw [hK]; kernel_rfl
theorem gk_56 (hK : c.K = KK c.w.params) : Keeps2 c (.ref 56) := zas (by rw [hK]; kernel_rfl)
theorem zqs (hK : c.K = KK c.w.params) : nsIn c.K mainGlobals "without" = some (some (.ref 73)) := by rw [hK]; kernel_rfl
theorem gk_73 (hK : c.K = KK c.w.params) : Keeps2 c (.ref 73) := zas (by rw [hK]; kernel_rfl)
theorem n56_d : NL P 56 "d" .local := by kernel_rfl
theorem zhr : NL P 56 "found" .local := by kernel_rfl
theorem znj : NL P 56 "high" .local := by kernel_rfl
theorem n56_low : NL P 56 "low" .local := by kernel_rfl
theorem zqi : NL P 56 "range" .globalImplicit := by kernel_rfl
theorem zqv (hK : c.K = KK c.w.params) : ∃ q a, FnIs c 56 q a (bodyOf (KK c.w.params) 56) (scopeOf (KK c.w.params) 56) ["d"] [] :=
  fn_is hK (by kernel_rfl) (fun _ => by show _ = _; kernel_rfl) (memc (.inl n56_d) memn) (by kernel_rfl)
theorem zp4 (hK : c.K = KK c.w.params) : SB c (scopeOf (KK c.w.params) 56) (d + 1) (bodyOf (KK c.w.params) 56) (zno) :=
  (sb_cons (zae (se_list SEs.nil) (sa_name (.inl zhr)) (fun _ => rfl) (by kernel_rfl) (by kernel_rfl))
  (sb_cons (ss_for (si_val (zaa n56_d (by kernel_rfl))) (zg8 (xs := ["low", "high"]) (by kernel_rfl) (memc (.inl n56_low) (memc (.inl znj) memn))) (sb_one (ss_expr (zbq (id := "list.extend") (zaa zhr (by kernel_rfl)) F.slot_list_extend (by kernel_rfl) zil (SEs.cons (zam zqi (b_range hK) zb0 (nn_name _ (by decide)) (by kernel_rfl) zal za5 (SEs.cons (zaa n56_low (by kernel_rfl)) (SEs.cons (se_bin op_add (zaa znj (by kernel_rfl)) se_int) SEs.nil (fun _ => rfl)) (fun _ => rfl))) SEs.nil (fun _ => rfl)) (fun _ => rfl)) (by kernel_rfl))) (fun _ _ => rfl))
  (sb_one (zah (zaa zhr (by kernel_rfl))))))
theorem n61_d : NL P 61 "d" .local := by kernel_rfl
theorem n61_k : NL P 61 "k" .cell := by kernel_rfl
theorem zqh : NL P 61 "tuple" .globalImplicit := by kernel_rfl
theorem k61 : (scopeOf (KK P) 61).kind = .function := by kernel_rfl
theorem zsj (hK : c.K = KK c.w.params) : ∃ q a, FnIs c 61 q a (bodyOf (KK c.w.params) 61) (scopeOf (KK c.w.params) 61) ["d", "k"] [] :=
  fn_is hK (by kernel_rfl) (fun _ _ => by show _ = _; kernel_rfl) (memc (.inl n61_d) (memc (.inr n61_k) memn)) (by kernel_rfl)
theorem zro (hK : c.K = KK c.w.params) : SB c (scopeOf (KK c.w.params) 61) (d + 1) (bodyOf (KK c.w.params) 61) (m_up_to) :=
  (sb_one (zah (zam zqh (b_tuple hK) zei (nn_name _ (by decide)) (by kernel_rfl) zal zct (SEs.cons (se_comp (form1 (fr := ["k"]) (by kernel_rfl) (by kernel_rfl) k61 (si_val (zaa n61_d (by kernel_rfl))) (.inl rfl) (t := (.many ["low", "high"])) rfl (memc (.inl (by kernel_rfl)) (memc (.inl (by kernel_rfl)) memn)) (zbp (st_cmp (by kernel_rfl) (zaa (by kernel_rfl) (by kernel_rfl)) (zab (by kernel_rfl) (by kernel_rfl)))) (zar (SEs.cons (zaa (by kernel_rfl) (by kernel_rfl)) (SEs.cons (zam (by kernel_rfl) (b_min hK) bt_min (nn_name _ (by decide)) (by kernel_rfl) zai zsv (SEs.cons (zaa (by kernel_rfl) (by kernel_rfl)) (SEs.cons (zab (by kernel_rfl) (by kernel_rfl)) SEs.nil (fun _ => rfl)) (fun _ => rfl))) SEs.nil (fun _ => rfl)) (fun _ => rfl))) (fun _ _ => rfl)) (fun _ => rfl)) SEs.nil (fun _ => rfl)))))
theorem n66_d : NL P 66 "d" .local := by kernel_rfl
theorem n66_k : NL P 66 "k" .cell := by kernel_rfl
theorem zqg : NL P 66 "tuple" .globalImplicit := by kernel_rfl
theorem k66 : (scopeOf (KK P) 66).kind = .function := by kernel_rfl
theorem zpa (hK : c.K = KK c.w.params) : ∃ q a, FnIs c 66 q a (bodyOf (KK c.w.params) 66) (scopeOf (KK c.w.params) 66) ["d", "k"] [] :=
  fn_is hK (by kernel_rfl) (fun _ _ => by show _ = _; kernel_rfl) (memc (.inl n66_d) (memc (.inr n66_k) memn)) (by kernel_rfl)
theorem zol (hK : c.K = KK c.w.params) : SB c (scopeOf (KK c.w.params) 66) (d + 1) (bodyOf (KK c.w.params) 66) (zln) :=
  (sb_one (zah (zam zqg (b_tuple hK) zei (nn_name _ (by decide)) (by kernel_rfl) zal zct (SEs.cons (se_comp (form1 (fr := ["k"]) (by kernel_rfl) (by kernel_rfl) k66 (si_val (zaa n66_d (by kernel_rfl))) (.inl rfl) (t := (.many ["low", "high"])) rfl (memc (.inl (by kernel_rfl)) (memc (.inl (by kernel_rfl)) memn)) (zbp (st_cmp (by kernel_rfl) (zaa (by kernel_rfl) (by kernel_rfl)) (zab (by kernel_rfl) (by kernel_rfl)))) (zar (SEs.cons (zam (by kernel_rfl) (b_max hK) bt_max (nn_name _ (by decide)) (by kernel_rfl) zai zsw (SEs.cons (zaa (by kernel_rfl) (by kernel_rfl)) (SEs.cons (zab (by kernel_rfl) (by kernel_rfl)) SEs.nil (fun _ => rfl)) (fun _ => rfl))) (SEs.cons (zaa (by kernel_rfl) (by kernel_rfl)) SEs.nil (fun _ => rfl)) (fun _ => rfl))) (fun _ _ => rfl)) (fun _ => rfl)) SEs.nil (fun _ => rfl)))))
theorem n73_d : NL P 73 "d" .local := by kernel_rfl
theorem zmr : NL P 73 "from_on" .globalImplicit := by kernel_rfl
theorem zqf : NL P 73 "up_to" .globalImplicit := by kernel_rfl
theorem n73_v : NL P 73 "v" .local := by kernel_rfl
theorem zo8 (hK : c.K = KK c.w.params) : ∃ q a, FnIs c 73 q a (bodyOf (KK c.w.params) 73) (scopeOf (KK c.w.params) 73) ["d", "v"] [] :=
  fn_is hK (by kernel_rfl) (fun _ _ => by show _ = _; kernel_rfl) (memc (.inl n73_d) (memc (.inl n73_v) memn)) (by kernel_rfl)
theorem zoj (hK : c.K = KK c.w.params) {t_up_to za1 : MF} (ht_up_to : CallV c (d + 1) (.ref 61) t_up_to) (ht_from_on : CallV c (d + 1) (.ref 66) za1) : SB c (scopeOf (KK c.w.params) 73) (d + 1) (bodyOf (KK c.w.params) 73) (zll t_up_to za1) :=
  (sb_one (zah (se_bin op_add (se_call zqf (g_up_to hK) (by kernel_rfl) (gk_61 hK) ht_up_to (SEs.cons (zaa n73_d (by kernel_rfl)) (SEs.cons (se_bin op_sub (zaa n73_v (by kernel_rfl)) se_int) SEs.nil (fun _ => rfl)) (fun _ => rfl))) (se_call zmr (zlv hK) (by kernel_rfl) (gk_66 hK) ht_from_on (SEs.cons (zaa n73_d (by kernel_rfl)) (SEs.cons (se_bin op_add (zaa n73_v (by kernel_rfl)) se_int) SEs.nil (fun _ => rfl)) (fun _ => rfl))))))
theorem n94_d : NL P 94 "d" .local := by kernel_rfl
theorem zmq : NL P 94 "from_on" .globalImplicit := by kernel_rfl
theorem n94_k : NL P 94 "k" .local := by kernel_rfl
theorem ze1 : NL P 94 "literal" .local := by kernel_rfl
theorem zry : NL P 94 "meet" .globalImplicit := by kernel_rfl
theorem zha : NL P 94 "sign" .local := by kernel_rfl
theorem zqe : NL P 94 "up_to" .globalImplicit := by kernel_rfl
theorem zmp : NL P 94 "without" .globalImplicit := by kernel_rfl
theorem zqw (hK : c.K = KK c.w.params) : ∃ q a, FnIs c 94 q a (bodyOf (KK c.w.params) 94) (scopeOf (KK c.w.params) 94) ["literal", "d"] [] :=
  fn_is hK (by kernel_rfl) (fun _ _ => by show _ = _; kernel_rfl) (memc (.inl ze1) (memc (.inl n94_d) memn)) (by kernel_rfl)
theorem zp5 (hK : c.K = KK c.w.params) {t_up_to za1 t_meet zca : MF} (ht_up_to : CallV c (d + 1) (.ref 61) t_up_to) (ht_from_on : CallV c (d + 1) (.ref 66) za1) (ht_meet : CallV c (d + 1) (.ref 80) t_meet) (ht_without : CallV c (d + 1) (.ref 73) zca) : SB c (scopeOf (KK c.w.params) 94) (d + 1) (bodyOf (KK c.w.params) 94) (znp t_up_to za1 t_meet zca) :=
  (sb_cons (ss_swap (xs := ["sign", "k"]) (zar (SEs.cons (se_sub (zaa ze1 (by kernel_rfl)) se_int) (SEs.cons (se_sub (zaa ze1 (by kernel_rfl)) se_int) SEs.nil (fun _ => rfl)) (fun _ => rfl))) (by kernel_rfl) (by kernel_rfl) (memc (.inl zha) (memc (.inl n94_k) memn)))
  (sb_cons (ss_if (st_cmp (by kernel_rfl) (zaa zha (by kernel_rfl)) se_str) (sb_one (zah (se_call zqe (g_up_to hK) (by kernel_rfl) (gk_61 hK) ht_up_to (SEs.cons (zaa n94_d (by kernel_rfl)) (SEs.cons (zaa n94_k (by kernel_rfl)) SEs.nil (fun _ => rfl)) (fun _ => rfl))))) sb_nil)
  (sb_cons (ss_if (st_cmp (by kernel_rfl) (zaa zha (by kernel_rfl)) se_str) (sb_one (zah (se_call zmq (zlv hK) (by kernel_rfl) (gk_66 hK) ht_from_on (SEs.cons (zaa n94_d (by kernel_rfl)) (SEs.cons (zaa n94_k (by kernel_rfl)) SEs.nil (fun _ => rfl)) (fun _ => rfl))))) sb_nil)
  (sb_one (zah (se_if (st_cmp (by kernel_rfl) (zaa zha (by kernel_rfl)) se_str) (se_call zry (g_meet hK) (by kernel_rfl) (gk_80 hK) ht_meet (SEs.cons (zaa n94_d (by kernel_rfl)) (SEs.cons (zar (SEs.cons (zar (SEs.cons (zaa n94_k (by kernel_rfl)) (SEs.cons (zaa n94_k (by kernel_rfl)) SEs.nil (fun _ => rfl)) (fun _ => rfl))) SEs.nil (fun _ => rfl))) SEs.nil (fun _ => rfl)) (fun _ => rfl))) (se_call zmp (zqs hK) (by kernel_rfl) (gk_73 hK) ht_without (SEs.cons (zaa n94_d (by kernel_rfl)) (SEs.cons (zaa n94_k (by kernel_rfl)) SEs.nil (fun _ => rfl)) (fun _ => rfl)))))))))
theorem zbs : NL P 115 "self" .local := by kernel_rfl
theorem zkg (hK : c.K = KK c.w.params) : ∃ q a, FnIs c 115 q a (bodyOf (KK c.w.params) 115) (scopeOf (KK c.w.params) 115) ["self"] [] :=
  fn_is hK (by kernel_rfl) (fun _ => by show _ = _; kernel_rfl) (memc (.inl zbs) memn) (by kernel_rfl)
theorem zj4 (hK : c.K = KK c.w.params) : SB c (scopeOf (KK c.w.params) 115) (d + 1) (bodyOf (KK c.w.params) 115) (zd2) :=
  (sb_cons (zae (se_list SEs.nil) (zbb (zaa zbs (by kernel_rfl)) (zaz hK)) (fun _ => rfl) (by kernel_rfl) (by kernel_rfl))
  (sb_cons (zae (se_list SEs.nil) (zbb (zaa zbs (by kernel_rfl)) (zcg hK)) (fun _ => rfl) (by kernel_rfl) (by kernel_rfl))
  (sb_cons (zae (se_list SEs.nil) (zbb (zaa zbs (by kernel_rfl)) (zbw hK)) (fun _ => rfl) (by kernel_rfl) (by kernel_rfl))
  (sb_cons (zae (se_list SEs.nil) (zbb (zaa zbs (by kernel_rfl)) (zib hK)) (fun _ => rfl) (by kernel_rfl) (by kernel_rfl))
  (sb_cons (zae zj3 (zbb (zaa zbs (by kernel_rfl)) (zet hK)) (fun _ => rfl) (by kernel_rfl) (by kernel_rfl))
  (sb_cons (zae (se_neg se_int) (zbb (zaa zbs (by kernel_rfl)) (zga hK)) (fun _ => rfl) (by kernel_rfl) (by kernel_rfl))
  (sb_cons (zae se_bool (zbb (zaa zbs (by kernel_rfl)) (zcs hK)) (fun _ => rfl) (by kernel_rfl) (by kernel_rfl))
  (sb_one (zae (zar SEs.nil) (zbb (zaa zbs (by kernel_rfl)) (zic hK)) (fun _ => rfl) (by kernel_rfl) (by kernel_rfl))))))))))
theorem zdn : NL P 122 "domain" .local := by kernel_rfl
theorem zr4 : NL P 122 "len" .globalImplicit := by kernel_rfl
theorem zdz : NL P 122 "self" .local := by kernel_rfl
theorem zgz (hK : c.K = KK c.w.params) : ∃ q a, FnIs c 122 q a (bodyOf (KK c.w.params) 122) (scopeOf (KK c.w.params) 122) ["self", "domain"] [] :=
  fn_is hK (by kernel_rfl) (fun _ _ => by show _ = _; kernel_rfl) (memc (.inl zdz) (memc (.inl zdn) memn)) (by kernel_rfl)
theorem zgp (hK : c.K = KK c.w.params) {t_Store_fail : MF} (ht_Store_fail : CallV c (d + 1) (.ref 220) t_Store_fail) : SB c (scopeOf (KK c.w.params) 122) (d + 1) (bodyOf (KK c.w.params) 122) (zd0 t_Store_fail) :=
  (sb_cons (ss_expr (zbq (id := "list.append") (zau (zaa zdz (by kernel_rfl)) (zaz hK) (fun _ => rfl)) F.slot_list_append (by kernel_rfl) zbf (SEs.cons (zaa zdn (by kernel_rfl)) SEs.nil (fun _ => rfl)) (fun _ => rfl)) (by kernel_rfl))
  (sb_cons (ss_expr (zbq (id := "list.append") (zau (zaa zdz (by kernel_rfl)) (zcg hK) (fun _ => rfl)) F.slot_list_append (by kernel_rfl) zbf (SEs.cons (zaa zdn (by kernel_rfl)) SEs.nil (fun _ => rfl)) (fun _ => rfl)) (by kernel_rfl))
  (sb_cons (ss_if (st_cmp (by kernel_rfl) (zaa zdn (by kernel_rfl)) (zar SEs.nil)) (sb_one (ss_expr (zba (zaa zdz (by kernel_rfl)) (zfp hK) ht_Store_fail (SEs.cons (zar SEs.nil) SEs.nil (fun _ => rfl)) (fun _ => rfl)) (by kernel_rfl))) sb_nil)
  (sb_one (zah (se_bin op_sub (zam zr4 (b_len hK) bt_len (nn_name _ (by decide)) (by kernel_rfl) zai zbz (SEs.cons (zau (zaa zdz (by kernel_rfl)) (zaz hK) (fun _ => rfl)) SEs.nil (fun _ => rfl))) se_int))))))
theorem zlj : NL P 136 "self" .local := by kernel_rfl
theorem n136_x : NL P 136 "x" .local := by kernel_rfl
theorem zly (hK : c.K = KK c.w.params) : ∃ q a, FnIs c 136 q a (bodyOf (KK c.w.params) 136) (scopeOf (KK c.w.params) 136) ["self", "x"] [] :=
  fn_is hK (by kernel_rfl) (fun _ _ => by show _ = _; kernel_rfl) (memc (.inl zlj) (memc (.inl n136_x) memn)) (by kernel_rfl)
theorem zk4 (hK : c.K = KK c.w.params) : SB c (scopeOf (KK c.w.params) 136) (d + 1) (bodyOf (KK c.w.params) 136) (zh3) :=
  (sb_one (zah (se_sub (zau (zaa zlj (by kernel_rfl)) (zaz hK) (fun _ => rfl)) (zaa n136_x (by kernel_rfl)))))
theorem zli : NL P 143 "self" .local := by kernel_rfl
theorem n143_x : NL P 143 "x" .local := by kernel_rfl
theorem zg0 (hK : c.K = KK c.w.params) : ∃ q a, FnIs c 143 q a (bodyOf (KK c.w.params) 143) (scopeOf (KK c.w.params) 143) ["self", "x"] [] :=
  fn_is hK (by kernel_rfl) (fun _ _ => by show _ = _; kernel_rfl) (memc (.inl zli) (memc (.inl n143_x) memn)) (by kernel_rfl)
theorem zgq (hK : c.K = KK c.w.params) : SB c (scopeOf (KK c.w.params) 143) (d + 1) (bodyOf (KK c.w.params) 143) (zd1) :=
  (sb_one (zah (se_sub (zau (zaa zli (by kernel_rfl)) (zcg hK) (fun _ => rfl)) (zaa n143_x (by kernel_rfl)))))
theorem zef : NL P 199 "fresh" .local := by kernel_rfl
theorem zcb : NL P 199 "literal" .local := by kernel_rfl
theorem zkd : NL P 199 "negation" .globalImplicit := by kernel_rfl
theorem zhb : NL P 199 "old" .local := by kernel_rfl
theorem zc2 : NL P 199 "reasons" .local := by kernel_rfl
theorem zdc : NL P 199 "self" .local := by kernel_rfl
theorem zgk : NL P 199 "speaker" .local := by kernel_rfl
theorem zmv : NL P 199 "struck" .globalImplicit := by kernel_rfl
theorem n199_x : NL P 199 "x" .local := by kernel_rfl
theorem zix (hK : c.K = KK c.w.params) : ∃ q a, FnIs c 199 q a (bodyOf (KK c.w.params) 199) (scopeOf (KK c.w.params) 199) ["self", "literal", "reasons", "speaker"] [] :=
  fn_is hK (by kernel_rfl) (fun _ _ _ _ => by show _ = _; kernel_rfl) (memc (.inl zdc) (memc (.inl zcb) (memc (.inl zc2) (memc (.inl zgk) memn)))) (by kernel_rfl)
theorem zir (hK : c.K = KK c.w.params) {zcv t_negation t_Store_fail : MF} (ht_struck : CallV c (d + 1) (.ref 94) zcv) (ht_negation : CallV c (d + 1) (.ref 87) t_negation) (ht_Store_fail : CallV c (d + 1) (.ref 220) t_Store_fail) : SB c (scopeOf (KK c.w.params) 199) (d + 1) (bodyOf (KK c.w.params) 199) (zfr zcv t_negation t_Store_fail) :=
  (sb_cons (zae (se_sub (zaa zcb (by kernel_rfl)) se_int) (sa_name (.inl n199_x)) (fun _ => rfl) (by kernel_rfl) (by kernel_rfl))
  (sb_cons (zae (se_sub (zau (zaa zdc (by kernel_rfl)) (zaz hK) (fun _ => rfl)) (zaa n199_x (by kernel_rfl))) (sa_name (.inl zhb)) (fun _ => rfl) (by kernel_rfl) (by kernel_rfl))
  (sb_cons (zae (se_call zmv (zsi hK) (by kernel_rfl) (gk_94 hK) ht_struck (SEs.cons (zaa zcb (by kernel_rfl)) (SEs.cons (zaa zhb (by kernel_rfl)) SEs.nil (fun _ => rfl)) (fun _ => rfl))) (sa_name (.inl zef)) (fun _ => rfl) (by kernel_rfl) (by kernel_rfl))
  (sb_cons (ss_if (st_cmp (by kernel_rfl) (zaa zef (by kernel_rfl)) (zar SEs.nil)) (sb_one (zah (zba (zaa zdc (by kernel_rfl)) (zfp hK) ht_Store_fail (SEs.cons (se_bin op_add (se_if (st_cmp (by kernel_rfl) (zaa zc2 (by kernel_rfl)) se_none) (zar SEs.nil) (zaa zc2 (by kernel_rfl))) (zar (SEs.cons (se_call zkd (zo4 hK) (by kernel_rfl) (gk_87 hK) ht_negation (SEs.cons (zaa zcb (by kernel_rfl)) SEs.nil (fun _ => rfl))) SEs.nil (fun _ => rfl)))) SEs.nil (fun _ => rfl)) (fun _ => rfl)))) sb_nil)
  (sb_cons (ss_if (st_cmp (by kernel_rfl) (zaa zef (by kernel_rfl)) (zaa zhb (by kernel_rfl))) (sb_one (zah se_bool)) sb_nil)
  (sb_cons (ss_expr (zbq (id := "list.append") (zau (zaa zdc (by kernel_rfl)) (zbw hK) (fun _ => rfl)) F.slot_list_append (by kernel_rfl) zbf (SEs.cons (zar (SEs.cons (zaa n199_x (by kernel_rfl)) (SEs.cons (zaa zhb (by kernel_rfl)) (SEs.cons (zaa zcb (by kernel_rfl)) (SEs.cons (zaa zc2 (by kernel_rfl)) (SEs.cons (zaa zgk (by kernel_rfl)) SEs.nil (fun _ => rfl)) (fun _ => rfl)) (fun _ => rfl)) (fun _ => rfl)) (fun _ => rfl))) SEs.nil (fun _ => rfl)) (fun _ => rfl)) (by kernel_rfl))
  (sb_cons (zae (zaa zef (by kernel_rfl)) (sa_sub (zau (zaa zdc (by kernel_rfl)) (zaz hK) (fun _ => rfl)) (zaa n199_x (by kernel_rfl))) (fun _ => rfl) (by kernel_rfl) (by kernel_rfl))
  (sb_cons (zae se_bool (sa_sub (zau (zaa zdc (by kernel_rfl)) (zet hK) (fun _ => rfl)) (zaa n199_x (by kernel_rfl))) (fun _ => rfl) (by kernel_rfl) (by kernel_rfl))
  (sb_one (zah se_bool))))))))))
theorem zgj : NL P 213 "literal" .local := by kernel_rfl
theorem zlh : NL P 213 "self" .local := by kernel_rfl
theorem zia (hK : c.K = KK c.w.params) : ∃ q a, FnIs c 213 q a (bodyOf (KK c.w.params) 213) (scopeOf (KK c.w.params) 213) ["self", "literal"] [] :=
  fn_is hK (by kernel_rfl) (fun _ _ => by show _ = _; kernel_rfl) (memc (.inl zlh) (memc (.inl zgj) memn)) (by kernel_rfl)
theorem zhk (hK : c.K = KK c.w.params) {za2 : MF} (ht_Store_enter : CallV c (d + 1) (.ref 199) za2) : SB c (scopeOf (KK c.w.params) 213) (d + 1) (bodyOf (KK c.w.params) 213) (zes za2) :=
  (sb_one (zah (zba (zaa zlh (by kernel_rfl)) (ziv hK) ht_Store_enter (SEs.cons (zaa zgj (by kernel_rfl)) (SEs.cons se_none (SEs.cons (se_neg se_int) SEs.nil (fun _ => rfl)) (fun _ => rfl)) (fun _ => rfl)) (fun _ => rfl))))
theorem zjn : NL P 269 "scope" .local := by kernel_rfl
theorem zfo : NL P 269 "self" .local := by kernel_rfl
theorem zfn : NL P 269 "strength" .local := by kernel_rfl
theorem zoz : NL P 269 "tuple" .globalImplicit := by kernel_rfl
theorem zfu (hK : c.K = KK c.w.params) : ∃ q a, FnIs c 269 q a (bodyOf (KK c.w.params) 269) (scopeOf (KK c.w.params) 269) ["self", "scope", "strength"] [] :=
  fn_is hK (by kernel_rfl) (fun _ _ _ => by show _ = _; kernel_rfl) (memc (.inl zfo) (memc (.inl zjn) (memc (.inl zfn) memn))) (by kernel_rfl)
theorem zfd (hK : c.K = KK c.w.params) : SB c (scopeOf (KK c.w.params) 269) (d + 1) (bodyOf (KK c.w.params) 269) (zdd) :=
  (sb_cons (zae (se_neg se_int) (zbb (zaa zfo (by kernel_rfl)) (zch hK)) (fun _ => rfl) (by kernel_rfl) (by kernel_rfl))
  (sb_cons (zae (zam zoz (b_tuple hK) zei (nn_name _ (by decide)) (by kernel_rfl) zal zct (SEs.cons (zaa zjn (by kernel_rfl)) SEs.nil (fun _ => rfl))) (zbb (zaa zfo (by kernel_rfl)) (zbc hK)) (fun _ => rfl) (by kernel_rfl) (by kernel_rfl))
  (sb_one (zae (zaa zfn (by kernel_rfl)) (zbb (zaa zfo (by kernel_rfl)) (zb7 hK)) (fun _ => rfl) (by kernel_rfl) (by kernel_rfl)))))
theorem zr3 : NL P 309 "len" .globalImplicit := by kernel_rfl
theorem zf8 : NL P 309 "scope" .local := by kernel_rfl
theorem zfm : NL P 309 "self" .local := by kernel_rfl
theorem zoy : NL P 309 "store" .cell := by kernel_rfl
theorem k309 : (scopeOf (KK P) 309).kind = .function := by kernel_rfl
theorem zg2 (hK : c.K = KK c.w.params) : ∃ q a, FnIs c 309 q a (bodyOf (KK c.w.params) 309) (scopeOf (KK c.w.params) 309) ["self", "store", "scope"] [] :=
  fn_is hK (by kernel_rfl) (fun _ _ _ => by show _ = _; kernel_rfl) (memc (.inl zfm) (memc (.inr zoy) (memc (.inl zf8) memn))) (by kernel_rfl)
theorem zgs (hK : c.K = KK c.w.params) {zad zav : MF} (ht_Store_dom : CallV c (d + 1) (.ref 136) zad) (ht_values : CallV c (d + 1) (.ref 56) zav) : SB c (scopeOf (KK c.w.params) 309) (d + 1) (bodyOf (KK c.w.params) 309) (zcq zad zav) :=
  (sb_cons (zae (se_comp (form1 (fr := ["store"]) (by kernel_rfl) (by kernel_rfl) k309 (si_val (zaa zf8 (by kernel_rfl))) (.inl rfl) (t := (.one "x")) rfl (memc (.inl (by kernel_rfl)) memn) zbd (se_call (by kernel_rfl) (znw hK) (by kernel_rfl) (gk_56 hK) ht_values (SEs.cons (zba (zab (by kernel_rfl) (by kernel_rfl)) (zgl hK) ht_Store_dom (SEs.cons (zaa (by kernel_rfl) (by kernel_rfl)) SEs.nil (fun _ => rfl)) (fun _ => rfl)) SEs.nil (fun _ => rfl))) (fun _ _ => rfl)) (fun _ => rfl)) (zbb (zaa zfm (by kernel_rfl)) (zbk hK)) (fun _ => rfl) (by kernel_rfl) (by kernel_rfl))
  (sb_cons (zae (se_bin op_mul (se_list (SEs.cons se_none SEs.nil (fun _ => rfl))) (zam zr3 (b_len hK) bt_len (nn_name _ (by decide)) (by kernel_rfl) zai zbz (SEs.cons (zaa zf8 (by kernel_rfl)) SEs.nil (fun _ => rfl)))) (zbb (zaa zfm (by kernel_rfl)) (zb6 hK)) (fun _ => rfl) (by kernel_rfl) (by kernel_rfl))
  (sb_one (zae zj3 (zbb (zaa zfm (by kernel_rfl)) (zap hK)) (fun _ => rfl) (by kernel_rfl) (by kernel_rfl)))))
theorem zdy : NL P 316 "came" .local := by kernel_rfl
theorem n316_k : NL P 316 "k" .local := by kernel_rfl
theorem zr2 : NL P 316 "len" .globalImplicit := by kernel_rfl
theorem zjm : NL P 316 "place" .local := by kernel_rfl
theorem zb5 : NL P 316 "places" .local := by kernel_rfl
theorem zdx : NL P 316 "self" .local := by kernel_rfl
theorem zmu : NL P 316 "sorted" .globalImplicit := by kernel_rfl
theorem n316_v : NL P 316 "v" .local := by kernel_rfl
theorem zg1 (hK : c.K = KK c.w.params) : ∃ q a, FnIs c 316 q a (bodyOf (KK c.w.params) 316) (scopeOf (KK c.w.params) 316) ["self", "place"] [] :=
  fn_is hK (by kernel_rfl) (fun _ _ => by show _ = _; kernel_rfl) (memc (.inl zdx) (memc (.inl zjm) memn)) (by kernel_rfl)
theorem zgr (hK : c.K = KK c.w.params) {t_Matching_hand_on : MF} (ht_Matching_hand_on : CallV c (d + 1) (.ref 323) t_Matching_hand_on) : SB c (scopeOf (KK c.w.params) 316) (d + 1) (bodyOf (KK c.w.params) 316) (zd3 t_Matching_hand_on) :=
  (sb_cons (ss_swap (xs := ["came", "places", "k"]) (zar (SEs.cons zj3 (SEs.cons (se_list (SEs.cons (zaa zjm (by kernel_rfl)) SEs.nil (fun _ => rfl))) (SEs.cons se_int SEs.nil (fun _ => rfl)) (fun _ => rfl)) (fun _ => rfl))) (by kernel_rfl) (by kernel_rfl) (memc (.inl zdy) (memc (.inl zb5) (memc (.inl n316_k) memn))))
  (sb_cons (zjy (st_cmp (by kernel_rfl) (zaa n316_k (by kernel_rfl)) (zam zr2 (b_len hK) bt_len (nn_name _ (by decide)) (by kernel_rfl) zai zbz (SEs.cons (zaa zb5 (by kernel_rfl)) SEs.nil (fun _ => rfl)))) (sb_cons (ss_for (si_val (se_sub (zau (zaa zdx (by kernel_rfl)) (zbk hK) (fun _ => rfl)) (se_sub (zaa zb5 (by kernel_rfl)) (zaa n316_k (by kernel_rfl))))) (sa_name (.inl n316_v)) (sb_one (ss_if (st_cmp (by kernel_rfl) (zaa n316_v (by kernel_rfl)) (zaa zdy (by kernel_rfl))) (sb_cons (zae (se_sub (zaa zb5 (by kernel_rfl)) (zaa n316_k (by kernel_rfl))) (sa_sub (zaa zdy (by kernel_rfl)) (zaa n316_v (by kernel_rfl))) (fun _ => rfl) (by kernel_rfl) (by kernel_rfl))
  (sb_cons (ss_if (st_cmp (by kernel_rfl) (zaa n316_v (by kernel_rfl)) (zau (zaa zdx (by kernel_rfl)) (zap hK) (fun _ => rfl))) (sb_cons (ss_expr (zba (zaa zdx (by kernel_rfl)) (ze6 hK) ht_Matching_hand_on (SEs.cons (zaa n316_v (by kernel_rfl)) (SEs.cons (zaa zdy (by kernel_rfl)) SEs.nil (fun _ => rfl)) (fun _ => rfl)) (fun _ => rfl)) (by kernel_rfl))
  (sb_one (zah se_none))) sb_nil)
  (sb_one (ss_expr (zbq (id := "list.append") (zaa zb5 (by kernel_rfl)) F.slot_list_append (by kernel_rfl) zbf (SEs.cons (se_sub (zau (zaa zdx (by kernel_rfl)) (zap hK) (fun _ => rfl)) (zaa n316_v (by kernel_rfl))) SEs.nil (fun _ => rfl)) (fun _ => rfl)) (by kernel_rfl))))) sb_nil)) (fun _ _ => rfl))
  (sb_one (zae (se_bin op_add (zaa n316_k (by kernel_rfl)) se_int) (sa_name (.inl n316_k)) (fun _ => rfl) (by kernel_rfl) (by kernel_rfl)))))
  (sb_one (zah (zar (SEs.cons (zaa zb5 (by kernel_rfl)) (SEs.cons (zam zmu (zhf hK) zfy (nn_name _ (by decide)) (by kernel_rfl) zai zik (SEs.cons (zaa zdy (by kernel_rfl)) SEs.nil (fun _ => rfl))) SEs.nil (fun _ => rfl)) (fun _ => rfl)))))))
theorem zlg : NL P 323 "came" .local := by kernel_rfl
theorem zlf : NL P 323 "left" .local := by kernel_rfl
theorem n323_p : NL P 323 "p" .local := by kernel_rfl
theorem zfl : NL P 323 "self" .local := by kernel_rfl
theorem n323_v : NL P 323 "v" .local := by kernel_rfl
theorem ze8 (hK : c.K = KK c.w.params) : ∃ q a, FnIs c 323 q a (bodyOf (KK c.w.params) 323) (scopeOf (KK c.w.params) 323) ["self", "v", "came"] [] :=
  fn_is hK (by kernel_rfl) (fun _ _ _ => by show _ = _; kernel_rfl) (memc (.inl zfl) (memc (.inl n323_v) (memc (.inl zlg) memn))) (by kernel_rfl)
theorem zey (hK : c.K = KK c.w.params) : SB c (scopeOf (KK c.w.params) 323) (d + 1) (bodyOf (KK c.w.params) 323) (zc3) :=
  (sb_one (zjy (st_cmp (by kernel_rfl) (zaa n323_v (by kernel_rfl)) se_none) (sb_cons (zae (se_sub (zaa zlg (by kernel_rfl)) (zaa n323_v (by kernel_rfl))) (sa_name (.inl n323_p)) (fun _ => rfl) (by kernel_rfl) (by kernel_rfl))
  (sb_cons (zae (se_sub (zau (zaa zfl (by kernel_rfl)) (zb6 hK) (fun _ => rfl)) (zaa n323_p (by kernel_rfl))) (sa_name (.inl zlf)) (fun _ => rfl) (by kernel_rfl) (by kernel_rfl))
  (sb_cons (zae (zaa n323_v (by kernel_rfl)) (sa_sub (zau (zaa zfl (by kernel_rfl)) (zb6 hK) (fun _ => rfl)) (zaa n323_p (by kernel_rfl))) (fun _ => rfl) (by kernel_rfl) (by kernel_rfl))
  (sb_cons (zae (zaa n323_p (by kernel_rfl)) (sa_sub (zau (zaa zfl (by kernel_rfl)) (zap hK) (fun _ => rfl)) (zaa n323_v (by kernel_rfl))) (fun _ => rfl) (by kernel_rfl) (by kernel_rfl))
  (sb_one (zae (zaa zlf (by kernel_rfl)) (sa_name (.inl n323_v)) (fun _ => rfl) (by kernel_rfl) (by kernel_rfl)))))))))
theorem ze5 : NL P 330 "places" .local := by kernel_rfl
theorem zfk : NL P 330 "seen" .local := by kernel_rfl
theorem zdw : NL P 330 "self" .local := by kernel_rfl
theorem zmt : NL P 330 "sorted" .globalImplicit := by kernel_rfl
theorem zee : NL P 330 "stack" .local := by kernel_rfl
theorem n330_u : NL P 330 "u" .local := by kernel_rfl
theorem n330_v : NL P 330 "v" .local := by kernel_rfl
theorem n330_w : NL P 330 "w" .local := by kernel_rfl
theorem zdp (hK : c.K = KK c.w.params) : ∃ q a, FnIs c 330 q a (bodyOf (KK c.w.params) 330) (scopeOf (KK c.w.params) 330) ["self", "v"] [] :=
  fn_is hK (by kernel_rfl) (fun _ _ => by show _ = _; kernel_rfl) (memc (.inl zdw) (memc (.inl n330_v) memn)) (by kernel_rfl)
theorem zdk (hK : c.K = KK c.w.params) : SB c (scopeOf (KK c.w.params) 330) (d + 1) (bodyOf (KK c.w.params) 330) (zb2) :=
  (sb_cons (ss_swap (xs := ["places", "seen", "stack"]) (zar (SEs.cons (se_list SEs.nil) (SEs.cons (zrn (SPs.cons (zaa n330_v (by kernel_rfl)) se_bool SPs.nil) (by simp) (Nat.le_of_ble_eq_true rfl)) (SEs.cons (se_list (SEs.cons (zaa n330_v (by kernel_rfl)) SEs.nil (fun _ => rfl))) SEs.nil (fun _ => rfl)) (fun _ => rfl)) (fun _ => rfl))) (by kernel_rfl) (by kernel_rfl) (memc (.inl ze5) (memc (.inl zfk) (memc (.inl zee) memn))))
  (sb_cons (zjy (st_cmp (by kernel_rfl) (zaa zee (by kernel_rfl)) (se_list SEs.nil)) (sb_cons (zae (zbq (id := "list.pop") (zaa zee (by kernel_rfl)) F.slot_list_pop (by kernel_rfl) zsu SEs.nil (fun _ => rfl)) (sa_name (.inl n330_w)) (fun _ => rfl) (by kernel_rfl) (by kernel_rfl))
  (sb_cons (ss_if (st_cmp (by kernel_rfl) (zaa n330_w (by kernel_rfl)) (zau (zaa zdw (by kernel_rfl)) (zap hK) (fun _ => rfl))) (sb_one (zah se_none)) sb_nil)
  (sb_cons (ss_expr (zbq (id := "list.append") (zaa ze5 (by kernel_rfl)) F.slot_list_append (by kernel_rfl) zbf (SEs.cons (se_sub (zau (zaa zdw (by kernel_rfl)) (zap hK) (fun _ => rfl)) (zaa n330_w (by kernel_rfl))) SEs.nil (fun _ => rfl)) (fun _ => rfl)) (by kernel_rfl))
  (sb_one (ss_for (si_val (se_sub (zau (zaa zdw (by kernel_rfl)) (zbk hK) (fun _ => rfl)) (se_sub (zau (zaa zdw (by kernel_rfl)) (zap hK) (fun _ => rfl)) (zaa n330_w (by kernel_rfl))))) (sa_name (.inl n330_u)) (sb_one (ss_if (st_cmp (by kernel_rfl) (zaa n330_u (by kernel_rfl)) (zaa zfk (by kernel_rfl))) (sb_cons (zae se_bool (sa_sub (zaa zfk (by kernel_rfl)) (zaa n330_u (by kernel_rfl))) (fun _ => rfl) (by kernel_rfl) (by kernel_rfl))
  (sb_one (ss_expr (zbq (id := "list.append") (zaa zee (by kernel_rfl)) F.slot_list_append (by kernel_rfl) zbf (SEs.cons (zaa n330_u (by kernel_rfl)) SEs.nil (fun _ => rfl)) (fun _ => rfl)) (by kernel_rfl)))) sb_nil)) (fun _ _ => rfl)))))))
  (sb_one (zah (zar (SEs.cons (zaa ze5 (by kernel_rfl)) (SEs.cons (zam zmt (zhf hK) zfy (nn_name _ (by decide)) (by kernel_rfl) zai zik (SEs.cons (zaa zfk (by kernel_rfl)) SEs.nil (fun _ => rfl))) SEs.nil (fun _ => rfl)) (fun _ => rfl)))))))
theorem zed : NL P 381 "few" .local := by kernel_rfl
theorem zec : NL P 381 "found" .local := by kernel_rfl
theorem zjl : NL P 381 "place" .local := by kernel_rfl
theorem zhz : NL P 381 "places" .local := by kernel_rfl
theorem zle : NL P 381 "self" .local := by kernel_rfl
theorem zjk : NL P 381 "store" .local := by kernel_rfl
theorem zox : NL P 381 "tuple" .globalImplicit := by kernel_rfl
theorem n381_v : NL P 381 "v" .local := by kernel_rfl
theorem zms : NL P 381 "values" .globalImplicit := by kernel_rfl
theorem n381_x : NL P 381 "x" .local := by kernel_rfl
theorem zcr (hK : c.K = KK c.w.params) : ∃ q a, FnIs c 381 q a (bodyOf (KK c.w.params) 381) (scopeOf (KK c.w.params) 381) ["self", "store", "places", "few"] [] :=
  fn_is hK (by kernel_rfl) (fun _ _ _ _ => by show _ = _; kernel_rfl) (memc (.inl zle) (memc (.inl zjk) (memc (.inl zhz) (memc (.inl zed) memn)))) (by kernel_rfl)
theorem zcl (hK : c.K = KK c.w.params) {zaq zav : MF} (ht_Store_initial : CallV c (d + 1) (.ref 143) zaq) (ht_values : CallV c (d + 1) (.ref 56) zav) : SB c (scopeOf (KK c.w.params) 381) (d + 1) (bodyOf (KK c.w.params) 381) (zbj zaq zav) :=
  (sb_cons (zae (se_list SEs.nil) (sa_name (.inl zec)) (fun _ => rfl) (by kernel_rfl) (by kernel_rfl))
  (sb_cons (ss_for (si_val (zaa zhz (by kernel_rfl))) (sa_name (.inl zjl)) (sb_cons (zae (se_sub (zau (zaa zle (by kernel_rfl)) (zbc hK) (fun _ => rfl)) (zaa zjl (by kernel_rfl))) (sa_name (.inl n381_x)) (fun _ => rfl) (by kernel_rfl) (by kernel_rfl))
  (sb_cons (ss_expr (zbq (id := "list.extend") (zaa zec (by kernel_rfl)) F.slot_list_extend (by kernel_rfl) zil (SEs.cons (se_list (SEs.cons (zar (SEs.cons (zaa n381_x (by kernel_rfl)) (SEs.cons se_str (SEs.cons (se_sub (zaa zed (by kernel_rfl)) se_int) SEs.nil (fun _ => rfl)) (fun _ => rfl)) (fun _ => rfl))) (SEs.cons (zar (SEs.cons (zaa n381_x (by kernel_rfl)) (SEs.cons se_str (SEs.cons (se_sub (zaa zed (by kernel_rfl)) (se_neg se_int)) SEs.nil (fun _ => rfl)) (fun _ => rfl)) (fun _ => rfl))) SEs.nil (fun _ => rfl)) (fun _ => rfl))) SEs.nil (fun _ => rfl)) (fun _ => rfl)) (by kernel_rfl))
  (sb_one (ss_for (si_val (se_call zms (znw hK) (by kernel_rfl) (gk_56 hK) ht_values (SEs.cons (zba (zaa zjk (by kernel_rfl)) (zgw hK) ht_Store_initial (SEs.cons (zaa n381_x (by kernel_rfl)) SEs.nil (fun _ => rfl)) (fun _ => rfl)) SEs.nil (fun _ => rfl)))) (sa_name (.inl n381_v)) (sb_one (ss_if (st_and (STs.cons (st_cmp2 (by kernel_rfl) (se_sub (zaa zed (by kernel_rfl)) se_int) (zaa n381_v (by kernel_rfl)) (se_sub (zaa zed (by kernel_rfl)) (se_neg se_int))) (STs.cons (st_cmp (by kernel_rfl) (zaa n381_v (by kernel_rfl)) (zaa zed (by kernel_rfl))) STs.nil))) (sb_one (ss_expr (zbq (id := "list.append") (zaa zec (by kernel_rfl)) F.slot_list_append (by kernel_rfl) zbf (SEs.cons (zar (SEs.cons (zaa n381_x (by kernel_rfl)) (SEs.cons se_str (SEs.cons (zaa n381_v (by kernel_rfl)) SEs.nil (fun _ => rfl)) (fun _ => rfl)) (fun _ => rfl))) SEs.nil (fun _ => rfl)) (fun _ => rfl)) (by kernel_rfl))) sb_nil)) (fun _ _ => rfl))))) (fun _ _ => rfl))
  (sb_one (zah (zam zox (b_tuple hK) zei (nn_name _ (by decide)) (by kernel_rfl) zal zct (SEs.cons (zaa zec (by kernel_rfl)) SEs.nil (fun _ => rfl)))))))
theorem zdb : NL P 393 "cask" .local := by kernel_rfl
theorem znm : NL P 393 "len" .globalImplicit := by kernel_rfl
theorem zhy : NL P 393 "many" .local := by kernel_rfl
theorem zci : NL P 393 "place" .local := by kernel_rfl
theorem zo9 (hK : c.K = KK c.w.params) : ∃ q a, FnIs c 393 q a (bodyOf (KK c.w.params) 393) (scopeOf (KK c.w.params) 393) ["cask", "many"] [] :=
  fn_is hK (by kernel_rfl) (fun _ _ => by show _ = _; kernel_rfl) (memc (.inl zdb) (memc (.inl zhy) memn)) (by kernel_rfl)
theorem zok (hK : c.K = KK c.w.params) : SB c (scopeOf (KK c.w.params) 393) (d + 1) (bodyOf (KK c.w.params) 393) (zlm) :=
  (sb_cons (zof (se_bin op_add (se_sub (zaa zdb (by kernel_rfl)) se_str) se_int) (sa_name (.inl zci)) (sa_sub (zaa zdb (by kernel_rfl)) se_str) (fun _ => rfl) (by kernel_rfl))
  (sb_cons (ss_if (st_cmp (by kernel_rfl) (zaa zci (by kernel_rfl)) (zam znm (b_len hK) bt_len (nn_name _ (by decide)) (by kernel_rfl) zai zbz (SEs.cons (se_sub (zaa zdb (by kernel_rfl)) se_str) SEs.nil (fun _ => rfl)))) (sb_one (zah (se_bin op_mod (se_sub (se_sub (zaa zdb (by kernel_rfl)) se_str) (se_bin op_sub (zaa zci (by kernel_rfl)) se_int)) (zaa zhy (by kernel_rfl))))) sb_nil)
  (sb_one (zah (se_bin op_mod (se_bin op_div (se_bin op_add (se_bin op_add (se_bin op_add (se_bin op_mul (se_bin op_mul se_int (zaa zci (by kernel_rfl))) (zaa zci (by kernel_rfl))) (se_bin op_mul se_int (zaa zci (by kernel_rfl)))) se_int) (se_bin op_mul se_int (zam znm (b_len hK) bt_len (nn_name _ (by decide)) (by kernel_rfl) zai zbz (SEs.cons (se_sub (zaa zdb (by kernel_rfl)) se_str) SEs.nil (fun _ => rfl))))) se_int) (zaa zhy (by kernel_rfl)))))))
theorem za6 : NL P 400 "literal" .local := by kernel_rfl
theorem n400_v : NL P 400 "v" .local := by kernel_rfl
theorem zlw (hK : c.K = KK c.w.params) : ∃ q a, FnIs c 400 q a (bodyOf (KK c.w.params) 400) (scopeOf (KK c.w.params) 400) ["literal", "v"] [] :=
  fn_is hK (by kernel_rfl) (fun _ _ => by show _ = _; kernel_rfl) (memc (.inl za6) (memc (.inl n400_v) memn)) (by kernel_rfl)
theorem zk2 (hK : c.K = KK c.w.params) : SB c (scopeOf (KK c.w.params) 400) (d + 1) (bodyOf (KK c.w.params) 400) (zh1) :=
  (sb_cons (ss_if (st_or (STs.cons (st_cmp (by kernel_rfl) (se_sub (zaa za6 (by kernel_rfl)) se_int) se_str) (STs.cons (st_cmp (by kernel_rfl) (se_sub (zaa za6 (by kernel_rfl)) se_int) se_str) STs.nil))) (sb_one (zah (se_cmp (by kernel_rfl) (se_cmp (by kernel_rfl) (zaa n400_v (by kernel_rfl)) (se_sub (zaa za6 (by kernel_rfl)) se_int)) (se_cmp (by kernel_rfl) (se_sub (zaa za6 (by kernel_rfl)) se_int) se_str)))) sb_nil)
  (sb_one (zah (se_if (st_cmp (by kernel_rfl) (se_sub (zaa za6 (by kernel_rfl)) se_int) se_str) (se_cmp (by kernel_rfl) (zaa n400_v (by kernel_rfl)) (se_sub (zaa za6 (by kernel_rfl)) se_int)) (se_cmp (by kernel_rfl) (zaa n400_v (by kernel_rfl)) (se_sub (zaa za6 (by kernel_rfl)) se_int))))))
theorem zkc : NL P 405 "literals" .cell := by kernel_rfl
theorem zgi : NL P 405 "numbers" .local := by kernel_rfl
theorem n405_x : NL P 405 "x" .cell := by kernel_rfl
theorem k405 : (scopeOf (KK P) 405).kind = .function := by kernel_rfl
theorem zm0 (hK : c.K = KK c.w.params) : ∃ q a, FnIs c 405 q a (bodyOf (KK c.w.params) 405) (scopeOf (KK c.w.params) 405) ["numbers", "literals", "x"] [] :=
  fn_is hK (by kernel_rfl) (fun _ _ _ => by show _ = _; kernel_rfl) (memc (.inl zgi) (memc (.inr zkc) (memc (.inr n405_x) memn))) (by kernel_rfl)
theorem zmh (hK : c.K = KK c.w.params) {t_law_keeps : MF} (ht_law_keeps : CallV c (d + 1) (.ref 400) t_law_keeps) : SB c (scopeOf (KK c.w.params) 405) (d + 1) (bodyOf (KK c.w.params) 405) (zjo t_law_keeps) :=
  (sb_one (zah (se_comp (form1 (fr := ["literals", "x"]) (by kernel_rfl) (by kernel_rfl) k405 (si_val (zaa zgi (by kernel_rfl))) (.inl rfl) (t := (.one "v")) rfl (memc (.inr (by kernel_rfl)) memn) (zbp (st_cmp (by kernel_rfl) (se_comp (form1 (fr := ["v", "x"]) (by kernel_rfl) (by kernel_rfl) (by kernel_rfl) (si_val (zab (by kernel_rfl) (by kernel_rfl))) (.inl rfl) (t := (.one "one")) rfl (memc (.inl (by kernel_rfl)) memn) (zbp (st_and (STs.cons (st_cmp (by kernel_rfl) (se_sub (zaa (by kernel_rfl) (by kernel_rfl)) se_int) (zab (by kernel_rfl) (by kernel_rfl))) (STs.cons (st_not (st_val (se_call (by kernel_rfl) (zmy hK) (by kernel_rfl) (gk_400 hK) ht_law_keeps (SEs.cons (zaa (by kernel_rfl) (by kernel_rfl)) (SEs.cons (zab (by kernel_rfl) (by kernel_rfl)) SEs.nil (fun _ => rfl)) (fun _ => rfl))) (fun _ _ => rfl))) STs.nil)))) se_int (fun _ _ => rfl)) (fun _ => rfl)) (se_list SEs.nil))) (zab (by kernel_rfl) (by kernel_rfl)) (fun _ _ => rfl)) (fun _ => rfl))))
theorem ziu : NL P 410 "_law_left" .globalImplicit := by kernel_rfl
theorem zr1 : NL P 410 "few" .cell := by kernel_rfl
theorem ze4 : NL P 410 "firsts" .local := by kernel_rfl
theorem zjj : NL P 410 "named" .cell := by kernel_rfl
theorem zhx : NL P 410 "places" .local := by kernel_rfl
theorem zow : NL P 410 "scope" .cell := by kernel_rfl
theorem zhw : NL P 410 "told" .local := by kernel_rfl
theorem n410_x : NL P 410 "x" .local := by kernel_rfl
theorem k410 : (scopeOf (KK P) 410).kind = .function := by kernel_rfl
theorem ziw (hK : c.K = KK c.w.params) : ∃ q a, FnIs c 410 q a (bodyOf (KK c.w.params) 410) (scopeOf (KK c.w.params) 410) ["told", "scope", "places", "few", "firsts"] [] :=
  fn_is hK (by kernel_rfl) (fun _ _ _ _ _ => by show _ = _; kernel_rfl) (memc (.inl zhw) (memc (.inr zow) (memc (.inl zhx) (memc (.inr zr1) (memc (.inl ze4) memn))))) (by kernel_rfl)
theorem ziq (hK : c.K = KK c.w.params) {t_law_left : MF} (ht_law_left : CallV c (d + 1) (.ref 405) t_law_left) : SB c (scopeOf (KK c.w.params) 410) (d + 1) (bodyOf (KK c.w.params) 410) (zfq t_law_left) :=
  (sb_cons (zae (se_comp (form1 (fr := ["scope"]) (by kernel_rfl) (by kernel_rfl) k410 (si_val (zaa zhx (by kernel_rfl))) (.inl rfl) (t := (.one "place")) rfl (memc (.inl (by kernel_rfl)) memn) zbd (se_sub (zab (by kernel_rfl) (by kernel_rfl)) (zaa (by kernel_rfl) (by kernel_rfl))) (fun _ _ => rfl)) (fun _ => rfl)) (sa_name (.inr zjj)) (fun _ => rfl) (by kernel_rfl) (by kernel_rfl))
  (sb_cons (ss_if (st_cmp (by kernel_rfl) (se_comp (form1 (fr := ["named"]) (by kernel_rfl) (by kernel_rfl) k410 (si_val (zaa zhw (by kernel_rfl))) (.inl rfl) (t := (.one "one")) rfl (memc (.inl (by kernel_rfl)) memn) (zbp (st_cmp (by kernel_rfl) (se_sub (zaa (by kernel_rfl) (by kernel_rfl)) se_int) (zab (by kernel_rfl) (by kernel_rfl)))) se_int (fun _ _ => rfl)) (fun _ => rfl)) (se_list SEs.nil)) (sb_one (zah se_bool)) sb_nil)
  (sb_cons (ss_for (si_val (zab zjj (by kernel_rfl))) (sa_name (.inl n410_x)) (sb_one (ss_if (st_cmp (by kernel_rfl) (se_call ziu (zeh hK) (by kernel_rfl) (gk_405 hK) ht_law_left (SEs.cons (se_sub (zaa ze4 (by kernel_rfl)) (zaa n410_x (by kernel_rfl))) (SEs.cons (zaa zhw (by kernel_rfl)) (SEs.cons (zaa n410_x (by kernel_rfl)) SEs.nil (fun _ => rfl)) (fun _ => rfl)) (fun _ => rfl))) (se_comp (form1 (fr := ["few"]) (by kernel_rfl) (by kernel_rfl) k410 (si_val (se_sub (zaa ze4 (by kernel_rfl)) (zaa n410_x (by kernel_rfl)))) (.inl rfl) (t := (.one "v")) rfl (memc (.inl (by kernel_rfl)) memn) (zbp (st_cmp (by kernel_rfl) (zaa (by kernel_rfl) (by kernel_rfl)) (zab (by kernel_rfl) (by kernel_rfl)))) (zaa (by kernel_rfl) (by kernel_rfl)) (fun _ _ => rfl)) (fun _ => rfl))) (sb_one (zah se_bool)) sb_nil)) (fun _ _ => rfl))
  (sb_one (zah se_bool)))))
theorem zkb : NL P 417 "Matching" .globalImplicit := by kernel_rfl
theorem zdv : NL P 417 "_law_is_so" .globalImplicit := by kernel_rfl
theorem zka : NL P 417 "ask" .local := by kernel_rfl
theorem zeb : NL P 417 "board" .local := by kernel_rfl
theorem ze3 : NL P 417 "firsts" .local := by kernel_rfl
theorem zb4 : NL P 417 "found" .local := by kernel_rfl
theorem zco : NL P 417 "lack" .local := by kernel_rfl
theorem zfj : NL P 417 "len" .globalImplicit := by kernel_rfl
theorem zj9 : NL P 417 "now" .local := by kernel_rfl
theorem zji : NL P 417 "place" .local := by kernel_rfl
theorem zjh : NL P 417 "range" .globalImplicit := by kernel_rfl
theorem zda : NL P 417 "scope" .local := by kernel_rfl
theorem znl : NL P 417 "set" .globalImplicit := by kernel_rfl
theorem zea : NL P 417 "store" .local := by kernel_rfl
theorem zfi : NL P 417 "told" .local := by kernel_rfl
theorem n417_v : NL P 417 "v" .local := by kernel_rfl
theorem zem (hK : c.K = KK c.w.params) : ∃ q a, FnIs c 417 q a (bodyOf (KK c.w.params) 417) (scopeOf (KK c.w.params) 417) ["store", "ask", "scope", "firsts", "now"] [] :=
  fn_is hK (by kernel_rfl) (fun _ _ _ _ _ => by show _ = _; kernel_rfl) (memc (.inl zea) (memc (.inl zka) (memc (.inl zda) (memc (.inl ze3) (memc (.inl zj9) memn))))) (by kernel_rfl)
theorem zek (hK : c.K = KK c.w.params) {zbm t_Matching_seat t_AllDifferentValues_walls t_law_is_so t_Matching_closed_from : MF} (ht_Matching : CallV c (d + 1) (.ref 333) zbm) (ht_Matching_seat : CallV c (d + 1) (.ref 316) t_Matching_seat) (ht_AllDifferentValues_walls : CallV c (d + 1) (.ref 381) t_AllDifferentValues_walls) (ht_law_is_so : CallV c (d + 1) (.ref 422) t_law_is_so) (ht_Matching_closed_from : CallV c (d + 1) (.ref 330) t_Matching_closed_from) : SB c (scopeOf (KK c.w.params) 417) (d + 1) (bodyOf (KK c.w.params) 417) (zcp zbm t_Matching_seat t_AllDifferentValues_walls t_law_is_so t_Matching_closed_from) :=
  (sb_cons (zae (se_call zkb (zo5 hK) (by kernel_rfl) (gk_333 hK) ht_Matching (SEs.cons (zaa zea (by kernel_rfl)) (SEs.cons (zaa zda (by kernel_rfl)) SEs.nil (fun _ => rfl)) (fun _ => rfl))) (sa_name (.inl zeb)) (fun _ => rfl) (by kernel_rfl) (by kernel_rfl))
  (sb_cons (ss_for (si_val (zam zjh (b_range hK) zb0 (nn_name _ (by decide)) (by kernel_rfl) zal za5 (SEs.cons (zam zfj (b_len hK) bt_len (nn_name _ (by decide)) (by kernel_rfl) zai zbz (SEs.cons (zaa zda (by kernel_rfl)) SEs.nil (fun _ => rfl))) SEs.nil (fun _ => rfl)))) (sa_name (.inl zji)) (sb_cons (zae (zba (zaa zeb (by kernel_rfl)) (zgx hK) ht_Matching_seat (SEs.cons (zaa zji (by kernel_rfl)) SEs.nil (fun _ => rfl)) (fun _ => rfl)) (sa_name (.inl zco)) (fun _ => rfl) (by kernel_rfl) (by kernel_rfl))
  (sb_one (ss_if (st_cmp (by kernel_rfl) (zaa zco (by kernel_rfl)) se_none) (sb_cons (zae (zba (zaa zka (by kernel_rfl)) (za0 hK) ht_AllDifferentValues_walls (SEs.cons (zaa zea (by kernel_rfl)) (SEs.cons (se_sub (zaa zco (by kernel_rfl)) se_int) (SEs.cons (se_sub (zaa zco (by kernel_rfl)) se_int) SEs.nil (fun _ => rfl)) (fun _ => rfl)) (fun _ => rfl)) (fun _ => rfl)) (sa_name (.inl zfi)) (fun _ => rfl) (by kernel_rfl) (by kernel_rfl))
  (sb_one (zah (se_andv (SEs.cons (se_cmp (by kernel_rfl) (zk1 ⟨zfj, b_len hK, bt_len, nn_name _ (by decide), (by kernel_rfl)⟩ ⟨znl, b_set hK, bt_set, nn_name _ (by decide), (by kernel_rfl)⟩ (fun _ => rfl) (fun _ => rfl) (se_sub (zaa zco (by kernel_rfl)) se_int)) (zam zfj (b_len hK) bt_len (nn_name _ (by decide)) (by kernel_rfl) zai zbz (SEs.cons (se_sub (zaa zco (by kernel_rfl)) se_int) SEs.nil (fun _ => rfl)))) (SEs.cons (se_call zdv (zh8 hK) (by kernel_rfl) (gk_422 hK) ht_law_is_so (SEs.cons (zaa zfi (by kernel_rfl)) (SEs.cons (zaa zda (by kernel_rfl)) (SEs.cons (zaa zco (by kernel_rfl)) (SEs.cons (zaa ze3 (by kernel_rfl)) (SEs.cons (zaa zj9 (by kernel_rfl)) SEs.nil (fun _ => rfl)) (fun _ => rfl)) (fun _ => rfl)) (fun _ => rfl)) (fun _ => rfl))) SEs.nil (fun _ => rfl)) (fun _ => rfl)))))) sb_nil))) (fun _ _ => rfl))
  (sb_cons (ss_for (si_val (zam zjh (b_range hK) zb0 (nn_name _ (by decide)) (by kernel_rfl) zal za5 (SEs.cons (se_neg se_int) (SEs.cons se_int SEs.nil (fun _ => rfl)) (fun _ => rfl)))) (sa_name (.inl n417_v)) (sb_cons (zae (se_if (st_cmp (by kernel_rfl) (zaa n417_v (by kernel_rfl)) (zau (zaa zeb (by kernel_rfl)) (zap hK) (fun _ => rfl))) (zba (zaa zeb (by kernel_rfl)) (zdo hK) ht_Matching_closed_from (SEs.cons (zaa n417_v (by kernel_rfl)) SEs.nil (fun _ => rfl)) (fun _ => rfl)) se_none) (sa_name (.inl zb4)) (fun _ => rfl) (by kernel_rfl) (by kernel_rfl))
  (sb_one (ss_if (st_cmp (by kernel_rfl) (zaa zb4 (by kernel_rfl)) se_none) (sb_cons (zae (zba (zaa zka (by kernel_rfl)) (za0 hK) ht_AllDifferentValues_walls (SEs.cons (zaa zea (by kernel_rfl)) (SEs.cons (se_sub (zaa zb4 (by kernel_rfl)) se_int) (SEs.cons (se_sub (zaa zb4 (by kernel_rfl)) se_int) SEs.nil (fun _ => rfl)) (fun _ => rfl)) (fun _ => rfl)) (fun _ => rfl)) (sa_name (.inl zfi)) (fun _ => rfl) (by kernel_rfl) (by kernel_rfl))
  (sb_one (ss_if (st_or (STs.cons (st_cmp (by kernel_rfl) (zk1 ⟨zfj, b_len hK, bt_len, nn_name _ (by decide), (by kernel_rfl)⟩ ⟨znl, b_set hK, bt_set, nn_name _ (by decide), (by kernel_rfl)⟩ (fun _ => rfl) (fun _ => rfl) (se_sub (zaa zb4 (by kernel_rfl)) se_int)) (zam zfj (b_len hK) bt_len (nn_name _ (by decide)) (by kernel_rfl) zai zbz (SEs.cons (se_sub (zaa zb4 (by kernel_rfl)) se_int) SEs.nil (fun _ => rfl)))) (STs.cons (st_not (st_val (se_call zdv (zh8 hK) (by kernel_rfl) (gk_422 hK) ht_law_is_so (SEs.cons (zaa zfi (by kernel_rfl)) (SEs.cons (zaa zda (by kernel_rfl)) (SEs.cons (zaa zb4 (by kernel_rfl)) (SEs.cons (zaa ze3 (by kernel_rfl)) (SEs.cons (zaa zj9 (by kernel_rfl)) SEs.nil (fun _ => rfl)) (fun _ => rfl)) (fun _ => rfl)) (fun _ => rfl)) (fun _ => rfl))) (fun _ _ => rfl))) STs.nil))) (sb_one (zah se_bool)) sb_nil))) sb_nil))) (fun _ _ => rfl))
  (sb_one (zah se_bool)))))
theorem zf7 : NL P 422 "_law_is_said" .globalImplicit := by kernel_rfl
theorem zhv : NL P 422 "firsts" .local := by kernel_rfl
theorem zf6 : NL P 422 "found" .local := by kernel_rfl
theorem zr0 : NL P 422 "now" .cell := by kernel_rfl
theorem zjg : NL P 422 "scope" .local := by kernel_rfl
theorem zhu : NL P 422 "told" .local := by kernel_rfl
theorem k422 : (scopeOf (KK P) 422).kind = .function := by kernel_rfl
theorem zlx (hK : c.K = KK c.w.params) : ∃ q a, FnIs c 422 q a (bodyOf (KK c.w.params) 422) (scopeOf (KK c.w.params) 422) ["told", "scope", "found", "firsts", "now"] [] :=
  fn_is hK (by kernel_rfl) (fun _ _ _ _ _ => by show _ = _; kernel_rfl) (memc (.inl zhu) (memc (.inl zjg) (memc (.inl zf6) (memc (.inl zhv) (memc (.inr zr0) memn))))) (by kernel_rfl)
theorem zk3 (hK : c.K = KK c.w.params) {t_law_left t_law_is_said : MF} (ht_law_left : CallV c (d + 1) (.ref 405) t_law_left) (ht_law_is_said : CallV c (d + 1) (.ref 410) t_law_is_said) : SB c (scopeOf (KK c.w.params) 422) (d + 1) (bodyOf (KK c.w.params) 422) (zh2 t_law_left t_law_is_said) :=
  (sb_cons (ss_if (st_cmp (by kernel_rfl) (se_comp (form1 (fr := ["now"]) (by kernel_rfl) (by kernel_rfl) k422 (si_val (zaa zhu (by kernel_rfl))) (.inl rfl) (t := (.one "one")) rfl (memc (.inl (by kernel_rfl)) memn) (zbp (st_cmp (by kernel_rfl) (se_call (by kernel_rfl) (zeh hK) (by kernel_rfl) (gk_405 hK) ht_law_left (SEs.cons (se_sub (zab (by kernel_rfl) (by kernel_rfl)) (se_sub (zaa (by kernel_rfl) (by kernel_rfl)) se_int)) (SEs.cons (se_list (SEs.cons (zaa (by kernel_rfl) (by kernel_rfl)) SEs.nil (fun _ => rfl))) (SEs.cons (se_sub (zaa (by kernel_rfl) (by kernel_rfl)) se_int) SEs.nil (fun _ => rfl)) (fun _ => rfl)) (fun _ => rfl))) (se_sub (zab (by kernel_rfl) (by kernel_rfl)) (se_sub (zaa (by kernel_rfl) (by kernel_rfl)) se_int)))) se_int (fun _ _ => rfl)) (fun _ => rfl)) (se_list SEs.nil)) (sb_one (zah se_bool)) sb_nil)
  (sb_one (zah (se_call zf7 (zft hK) (by kernel_rfl) (gk_410 hK) ht_law_is_said (SEs.cons (zaa zhu (by kernel_rfl)) (SEs.cons (zaa zjg (by kernel_rfl)) (SEs.cons (se_sub (zaa zf6 (by kernel_rfl)) se_int) (SEs.cons (se_sub (zaa zf6 (by kernel_rfl)) se_int) (SEs.cons (zaa zhv (by kernel_rfl)) SEs.nil (fun _ => rfl)) (fun _ => rfl)) (fun _ => rfl)) (fun _ => rfl)) (fun _ => rfl))))))
theorem zdm : NL P 427 "AllDifferentValues" .globalImplicit := by kernel_rfl
theorem zov : NL P 427 "Store" .globalImplicit := by kernel_rfl
theorem zf5 : NL P 427 "_law_is_said" .globalImplicit := by kernel_rfl
theorem zer : NL P 427 "_law_left" .globalImplicit := by kernel_rfl
theorem zdl : NL P 427 "_law_matched_right" .globalImplicit := by kernel_rfl
theorem zax : NL P 427 "_law_sip" .globalImplicit := by kernel_rfl
theorem zjf : NL P 427 "after" .local := by kernel_rfl
theorem zj8 : NL P 427 "ask" .local := by kernel_rfl
theorem zou : NL P 427 "begin" .cell := by kernel_rfl
theorem zbl : NL P 427 "cask" .cell := by kernel_rfl
theorem zld : NL P 427 "ends" .local := by kernel_rfl
theorem zj7 : NL P 427 "few" .local := by kernel_rfl
theorem za7 : NL P 427 "firsts" .cell := by kernel_rfl
theorem zj6 : NL P 427 "len" .globalImplicit := by kernel_rfl
theorem zc1 : NL P 427 "literal" .local := by kernel_rfl
theorem zc9 : NL P 427 "many" .cell := by kernel_rfl
theorem zd9 : NL P 427 "now" .local := by kernel_rfl
theorem ze2 : NL P 427 "places" .local := by kernel_rfl
theorem zb3 : NL P 427 "range" .globalImplicit := by kernel_rfl
theorem zlc : NL P 427 "runs" .local := by kernel_rfl
theorem zd8 : NL P 427 "scope" .local := by kernel_rfl
theorem zht : NL P 427 "script" .local := by kernel_rfl
theorem znk : NL P 427 "set" .globalImplicit := by kernel_rfl
theorem zlb : NL P 427 "sign" .local := by kernel_rfl
theorem zhs : NL P 427 "sorted" .globalImplicit := by kernel_rfl
theorem zbn : NL P 427 "store" .cell := by kernel_rfl
theorem zje : NL P 427 "trail" .local := by kernel_rfl
theorem zjd : NL P 427 "tuple" .globalImplicit := by kernel_rfl
theorem zqj : NL P 427 "turn" .local := by kernel_rfl
theorem n427_x : NL P 427 "x" .cell := by kernel_rfl
theorem zrz : NL P 427 "zip" .globalImplicit := by kernel_rfl
theorem k427 : (scopeOf (KK P) 427).kind = .function := by kernel_rfl
theorem fn_law (hK : c.K = KK c.w.params) : ∃ q a, FnIs c 427 q a (bodyOf (KK c.w.params) 427) (scopeOf (KK c.w.params) 427) ["script"] [] :=
  fn_is hK (by kernel_rfl) (fun _ => by show _ = _; kernel_rfl) (memc (.inl zht) memn) (by kernel_rfl)
theorem sb_law (hK : c.K = KK c.w.params) {t_Store t_law_sip zag t_law_left zaf zac t_AllDifferentValues_walls t_law_is_said t_law_matched_right zad : MF} {m_script : ME} (ht_Store : CallV c (d + 1) (.ref 251) t_Store) (ht_law_sip : CallV c (d + 1) (.ref 393) t_law_sip) (ht_Store_new_var : CallV c (d + 1) (.ref 122) zag) (ht_law_left : CallV c (d + 1) (.ref 405) t_law_left) (ht_Store_decide : CallV c (d + 1) (.ref 213) zaf) (ht_AllDifferentValues : CallV c (d + 1) (.ref 384) zac) (ht_AllDifferentValues_walls : CallV c (d + 1) (.ref 381) t_AllDifferentValues_walls) (ht_law_is_said : CallV c (d + 1) (.ref 410) t_law_is_said) (ht_law_matched_right : CallV c (d + 1) (.ref 417) t_law_matched_right) (ht_Store_dom : CallV c (d + 1) (.ref 136) zad) (hm_script : ∀ {p1 p2 p3 p4 : Pos} {k : Nat}, SE c (scopeOf (KK c.w.params) 427) (d + 1) (.Subscript (.Name "script" p1) (.Slice none (some (.Constant (.int 50) k p2)) none p3) p4) m_script) : SB c (scopeOf (KK c.w.params) 427) (d + 1) (bodyOf (KK c.w.params) 427) (m_law m_script t_Store t_law_sip zag t_law_left zaf zac t_AllDifferentValues_walls t_law_is_said t_law_matched_right zad) :=
  (sb_cons (zae (zar (SEs.cons (zrm (SPs.cons se_str (se_comp (form1 (fr := []) (by kernel_rfl) (by kernel_rfl) k427 (si_val hm_script) (.inl rfl) (t := (.one "cell")) rfl (memc (.inl (by kernel_rfl)) memn) zbd (se_bin op_mod (zam (by kernel_rfl) (b_int hK) bt_int (nn_name _ (by decide)) (by kernel_rfl) zal zsx (SEs.cons (zaa (by kernel_rfl) (by kernel_rfl)) SEs.nil (fun _ => rfl))) se_int) (fun _ _ => rfl)) (fun _ => rfl)) (SPs.cons se_str se_int SPs.nil)) (by simp) (Nat.le_of_ble_eq_true rfl)) (SEs.cons (se_call zov (g_Store hK) (by kernel_rfl) (gk_251 hK) ht_Store SEs.nil) (SEs.cons (se_list SEs.nil) SEs.nil (fun _ => rfl)) (fun _ => rfl)) (fun _ => rfl))) (zg8 (xs := ["cask", "store", "firsts"]) (by kernel_rfl) (memc (.inr zbl) (memc (.inr zbn) (memc (.inr za7) memn)))) (fun _ => rfl) (by kernel_rfl) (by kernel_rfl))
  (sb_cons (zae (se_bin op_add se_int (se_call zax (za8 hK) (by kernel_rfl) (gk_393 hK) ht_law_sip (SEs.cons (zab zbl (by kernel_rfl)) (SEs.cons se_int SEs.nil (fun _ => rfl)) (fun _ => rfl)))) (sa_name (.inr zc9)) (fun _ => rfl) (by kernel_rfl) (by kernel_rfl))
  (sb_cons (ss_for (si_val (zam zb3 (b_range hK) zb0 (nn_name _ (by decide)) (by kernel_rfl) zal za5 (SEs.cons (zab zc9 (by kernel_rfl)) SEs.nil (fun _ => rfl)))) (sa_name (.inr n427_x)) (sb_cons (ss_expr (zbq (id := "list.append") (zab za7 (by kernel_rfl)) F.slot_list_append (by kernel_rfl) zbf (SEs.cons (zgf ⟨zhs, zhf hK, zfy, nn_name _ (by decide), (by kernel_rfl)⟩ ⟨znk, b_set hK, bt_set, nn_name _ (by decide), (by kernel_rfl)⟩ (fun _ => rfl) (fun _ => rfl) (se_comp (form1 (fr := ["cask"]) (by kernel_rfl) (by kernel_rfl) k427 (si_val (zam zb3 (b_range hK) zb0 (nn_name _ (by decide)) (by kernel_rfl) zal za5 (SEs.cons (se_bin op_add se_int (se_call zax (za8 hK) (by kernel_rfl) (gk_393 hK) ht_law_sip (SEs.cons (zab zbl (by kernel_rfl)) (SEs.cons se_int SEs.nil (fun _ => rfl)) (fun _ => rfl)))) SEs.nil (fun _ => rfl)))) (.inl rfl) (t := (.one "turn")) rfl (memc (.inl (by kernel_rfl)) memn) zbd (se_bin op_sub (se_call (by kernel_rfl) (za8 hK) (by kernel_rfl) (gk_393 hK) ht_law_sip (SEs.cons (zab (by kernel_rfl) (by kernel_rfl)) (SEs.cons se_int SEs.nil (fun _ => rfl)) (fun _ => rfl))) se_int) (fun _ _ => rfl)) (fun _ => rfl))) SEs.nil (fun _ => rfl)) (fun _ => rfl)) (by kernel_rfl))
  (sb_cons (zb8 (form1 (fr := ["firsts", "x"]) (by kernel_rfl) (by kernel_rfl) k427 (si_val (se_sub (zab za7 (by kernel_rfl)) (zab n427_x (by kernel_rfl)))) (.inl rfl) (t := (.one "v")) rfl (memc (.inl (by kernel_rfl)) memn) (zbp (st_cmp (by kernel_rfl) (se_bin op_sub (zaa (by kernel_rfl) (by kernel_rfl)) se_int) (se_sub (zab (by kernel_rfl) (by kernel_rfl)) (zab (by kernel_rfl) (by kernel_rfl))))) (zaa (by kernel_rfl) (by kernel_rfl)) (fun _ _ => rfl)) (by kernel_rfl) (.inl zlc) (fun _ _ => rfl))
  (sb_cons (zb8 (form1 (fr := ["firsts", "x"]) (by kernel_rfl) (by kernel_rfl) k427 (si_val (se_sub (zab za7 (by kernel_rfl)) (zab n427_x (by kernel_rfl)))) (.inl rfl) (t := (.one "v")) rfl (memc (.inl (by kernel_rfl)) memn) (zbp (st_cmp (by kernel_rfl) (se_bin op_add (zaa (by kernel_rfl) (by kernel_rfl)) se_int) (se_sub (zab (by kernel_rfl) (by kernel_rfl)) (zab (by kernel_rfl) (by kernel_rfl))))) (zaa (by kernel_rfl) (by kernel_rfl)) (fun _ _ => rfl)) (by kernel_rfl) (.inl zld) (fun _ _ => rfl))
  (sb_one (ss_expr (zba (zab zbn (by kernel_rfl)) (zgv hK) ht_Store_new_var (SEs.cons (zmg ⟨zjd, b_tuple hK, zei, nn_name _ (by decide), (by kernel_rfl)⟩ ⟨zrz, b_zip hK, bt_zip, nn_name _ (by decide), (by kernel_rfl)⟩ (fun _ => rfl) (SEs.cons (zaa zlc (by kernel_rfl)) (SEs.cons (zaa zld (by kernel_rfl)) SEs.nil (fun _ => rfl)) (fun _ => rfl))) SEs.nil (fun _ => rfl)) (fun _ => rfl)) (by kernel_rfl)))))) (fun _ _ => rfl))
  (sb_cons (zb8 (form1 (fr := []) (by kernel_rfl) (by kernel_rfl) k427 (si_val (zab za7 (by kernel_rfl))) (.inl rfl) (t := (.one "one")) rfl (memc (.inl (by kernel_rfl)) memn) zbd (zam (by kernel_rfl) (b_list hK) bt_list (nn_name _ (by decide)) (by kernel_rfl) zal zpj (SEs.cons (zaa (by kernel_rfl) (by kernel_rfl)) SEs.nil (fun _ => rfl))) (fun _ _ => rfl)) (by kernel_rfl) (.inl zd9) (fun _ _ => rfl))
  (sb_cons (ss_for (si_val (zam zb3 (b_range hK) zb0 (nn_name _ (by decide)) (by kernel_rfl) zal za5 (SEs.cons (se_call zax (za8 hK) (by kernel_rfl) (gk_393 hK) ht_law_sip (SEs.cons (zab zbl (by kernel_rfl)) (SEs.cons se_int SEs.nil (fun _ => rfl)) (fun _ => rfl))) SEs.nil (fun _ => rfl)))) (sa_name (.inl zqj)) (sb_cons (zae (zar (SEs.cons (se_call zax (za8 hK) (by kernel_rfl) (gk_393 hK) ht_law_sip (SEs.cons (zab zbl (by kernel_rfl)) (SEs.cons (zab zc9 (by kernel_rfl)) SEs.nil (fun _ => rfl)) (fun _ => rfl))) (SEs.cons (se_sub (zar (SEs.cons se_str (SEs.cons se_str (SEs.cons se_str SEs.nil (fun _ => rfl)) (fun _ => rfl)) (fun _ => rfl))) (se_call zax (za8 hK) (by kernel_rfl) (gk_393 hK) ht_law_sip (SEs.cons (zab zbl (by kernel_rfl)) (SEs.cons se_int SEs.nil (fun _ => rfl)) (fun _ => rfl)))) SEs.nil (fun _ => rfl)) (fun _ => rfl))) (zg8 (xs := ["x", "sign"]) (by kernel_rfl) (memc (.inr n427_x) (memc (.inl zlb) memn))) (fun _ => rfl) (by kernel_rfl) (by kernel_rfl))
  (sb_cons (zae (zar (SEs.cons (zab n427_x (by kernel_rfl)) (SEs.cons (zaa zlb (by kernel_rfl)) (SEs.cons (se_sub (se_sub (zab za7 (by kernel_rfl)) (zab n427_x (by kernel_rfl))) (se_call zax (za8 hK) (by kernel_rfl) (gk_393 hK) ht_law_sip (SEs.cons (zab zbl (by kernel_rfl)) (SEs.cons (zam zj6 (b_len hK) bt_len (nn_name _ (by decide)) (by kernel_rfl) zai zbz (SEs.cons (se_sub (zab za7 (by kernel_rfl)) (zab n427_x (by kernel_rfl))) SEs.nil (fun _ => rfl))) SEs.nil (fun _ => rfl)) (fun _ => rfl)))) SEs.nil (fun _ => rfl)) (fun _ => rfl)) (fun _ => rfl))) (sa_name (.inl zc1)) (fun _ => rfl) (by kernel_rfl) (by kernel_rfl))
  (sb_one (ss_if (st_cmp (by kernel_rfl) (se_call zer (zeh hK) (by kernel_rfl) (gk_405 hK) ht_law_left (SEs.cons (se_sub (zaa zd9 (by kernel_rfl)) (zab n427_x (by kernel_rfl))) (SEs.cons (se_list (SEs.cons (zaa zc1 (by kernel_rfl)) SEs.nil (fun _ => rfl))) (SEs.cons (zab n427_x (by kernel_rfl)) SEs.nil (fun _ => rfl)) (fun _ => rfl)) (fun _ => rfl))) (se_list SEs.nil)) (sb_cons (zae (se_call zer (zeh hK) (by kernel_rfl) (gk_405 hK) ht_law_left (SEs.cons (se_sub (zaa zd9 (by kernel_rfl)) (zab n427_x (by kernel_rfl))) (SEs.cons (se_list (SEs.cons (zaa zc1 (by kernel_rfl)) SEs.nil (fun _ => rfl))) (SEs.cons (zab n427_x (by kernel_rfl)) SEs.nil (fun _ => rfl)) (fun _ => rfl)) (fun _ => rfl))) (sa_sub (zaa zd9 (by kernel_rfl)) (zab n427_x (by kernel_rfl))) (fun _ => rfl) (by kernel_rfl) (by kernel_rfl))
  (sb_one (ss_expr (zba (zab zbn (by kernel_rfl)) (zh0 hK) ht_Store_decide (SEs.cons (zaa zc1 (by kernel_rfl)) SEs.nil (fun _ => rfl)) (fun _ => rfl)) (by kernel_rfl)))) sb_nil)))) (fun _ _ => rfl))
  (sb_cons (zae (zar (SEs.cons (se_call zax (za8 hK) (by kernel_rfl) (gk_393 hK) ht_law_sip (SEs.cons (zab zbl (by kernel_rfl)) (SEs.cons (zab zc9 (by kernel_rfl)) SEs.nil (fun _ => rfl)) (fun _ => rfl))) (SEs.cons (zam zj6 (b_len hK) bt_len (nn_name _ (by decide)) (by kernel_rfl) zai zbz (SEs.cons (zau (zab zbn (by kernel_rfl)) (zbw hK) (fun _ => rfl)) SEs.nil (fun _ => rfl))) SEs.nil (fun _ => rfl)) (fun _ => rfl))) (zg8 (xs := ["begin", "trail"]) (by kernel_rfl) (memc (.inr zou) (memc (.inl zje) memn))) (fun _ => rfl) (by kernel_rfl) (by kernel_rfl))
  (sb_cons (zae (zam zjd (b_tuple hK) zei (nn_name _ (by decide)) (by kernel_rfl) zal zct (SEs.cons (se_comp (form1 (fr := ["begin", "many"]) (by kernel_rfl) (by kernel_rfl) k427 (si_val (zam zb3 (b_range hK) zb0 (nn_name _ (by decide)) (by kernel_rfl) zal za5 (SEs.cons (zab zc9 (by kernel_rfl)) SEs.nil (fun _ => rfl)))) (.inl rfl) (t := (.one "k")) rfl (memc (.inl (by kernel_rfl)) memn) zbd (se_bin op_mod (se_bin op_add (zab (by kernel_rfl) (by kernel_rfl)) (zaa (by kernel_rfl) (by kernel_rfl))) (zab (by kernel_rfl) (by kernel_rfl))) (fun _ _ => rfl)) (fun _ => rfl)) SEs.nil (fun _ => rfl))) (sa_name (.inl zd8)) (fun _ => rfl) (by kernel_rfl) (by kernel_rfl))
  (sb_cons (ss_swap (xs := ["ask", "places"]) (zar (SEs.cons (se_call zdm (zel hK) (by kernel_rfl) (gk_384 hK) ht_AllDifferentValues (SEs.cons (zaa zd8 (by kernel_rfl)) SEs.nil (fun _ => rfl))) (SEs.cons (se_comp (form1 (fr := ["cask", "many"]) (by kernel_rfl) (by kernel_rfl) k427 (si_val (zam zb3 (b_range hK) zb0 (nn_name _ (by decide)) (by kernel_rfl) zal za5 (SEs.cons (se_bin op_add se_int (se_call zax (za8 hK) (by kernel_rfl) (gk_393 hK) ht_law_sip (SEs.cons (zab zbl (by kernel_rfl)) (SEs.cons se_int SEs.nil (fun _ => rfl)) (fun _ => rfl)))) SEs.nil (fun _ => rfl)))) (.inl rfl) (t := (.one "turn")) rfl (memc (.inl (by kernel_rfl)) memn) zbd (se_call (by kernel_rfl) (za8 hK) (by kernel_rfl) (gk_393 hK) ht_law_sip (SEs.cons (zab (by kernel_rfl) (by kernel_rfl)) (SEs.cons (zab (by kernel_rfl) (by kernel_rfl)) SEs.nil (fun _ => rfl)) (fun _ => rfl))) (fun _ _ => rfl)) (fun _ => rfl)) SEs.nil (fun _ => rfl)) (fun _ => rfl))) (by kernel_rfl) (by kernel_rfl) (memc (.inl zj8) (memc (.inl ze2) memn)))
  (sb_cons (zae (zgf ⟨zhs, zhf hK, zfy, nn_name _ (by decide), (by kernel_rfl)⟩ ⟨znk, b_set hK, bt_set, nn_name _ (by decide), (by kernel_rfl)⟩ (fun _ => rfl) (fun _ => rfl) (se_comp (form1 (fr := ["cask"]) (by kernel_rfl) (by kernel_rfl) k427 (si_val (zam zb3 (b_range hK) zb0 (nn_name _ (by decide)) (by kernel_rfl) zal za5 (SEs.cons (se_bin op_add se_int (se_call zax (za8 hK) (by kernel_rfl) (gk_393 hK) ht_law_sip (SEs.cons (zab zbl (by kernel_rfl)) (SEs.cons se_int SEs.nil (fun _ => rfl)) (fun _ => rfl)))) SEs.nil (fun _ => rfl)))) (.inl rfl) (t := (.one "turn")) rfl (memc (.inl (by kernel_rfl)) memn) zbd (se_bin op_sub (se_call (by kernel_rfl) (za8 hK) (by kernel_rfl) (gk_393 hK) ht_law_sip (SEs.cons (zab (by kernel_rfl) (by kernel_rfl)) (SEs.cons se_int SEs.nil (fun _ => rfl)) (fun _ => rfl))) se_int) (fun _ _ => rfl)) (fun _ => rfl))) (sa_name (.inl zj7)) (fun _ => rfl) (by kernel_rfl) (by kernel_rfl))
  (sb_cons (ss_if (st_not (st_val (se_call zf5 (zft hK) (by kernel_rfl) (gk_410 hK) ht_law_is_said (SEs.cons (zba (zaa zj8 (by kernel_rfl)) (za0 hK) ht_AllDifferentValues_walls (SEs.cons (zab zbn (by kernel_rfl)) (SEs.cons (zaa ze2 (by kernel_rfl)) (SEs.cons (zaa zj7 (by kernel_rfl)) SEs.nil (fun _ => rfl)) (fun _ => rfl)) (fun _ => rfl)) (fun _ => rfl)) (SEs.cons (zaa zd8 (by kernel_rfl)) (SEs.cons (zaa ze2 (by kernel_rfl)) (SEs.cons (zaa zj7 (by kernel_rfl)) (SEs.cons (zab za7 (by kernel_rfl)) SEs.nil (fun _ => rfl)) (fun _ => rfl)) (fun _ => rfl)) (fun _ => rfl)) (fun _ => rfl))) (fun _ _ => rfl))) (sb_one (zah se_bool)) sb_nil)
  (sb_cons (ss_if (st_not (st_val (se_call zdl (ze7 hK) (by kernel_rfl) (gk_417 hK) ht_law_matched_right (SEs.cons (zab zbn (by kernel_rfl)) (SEs.cons (zaa zj8 (by kernel_rfl)) (SEs.cons (zaa zd8 (by kernel_rfl)) (SEs.cons (zab za7 (by kernel_rfl)) (SEs.cons (zaa zd9 (by kernel_rfl)) SEs.nil (fun _ => rfl)) (fun _ => rfl)) (fun _ => rfl)) (fun _ => rfl)) (fun _ => rfl))) (fun _ _ => rfl))) (sb_one (zah se_bool)) sb_nil)
  (sb_cons (zb8 (form1 (fr := ["store"]) (by kernel_rfl) (by kernel_rfl) k427 (si_val (zam zb3 (b_range hK) zb0 (nn_name _ (by decide)) (by kernel_rfl) zal za5 (SEs.cons (zab zc9 (by kernel_rfl)) SEs.nil (fun _ => rfl)))) (.inl rfl) (t := (.one "x")) rfl (memc (.inl (by kernel_rfl)) memn) zbd (se_comp (form2 (fr := []) (by kernel_rfl) (by kernel_rfl) (by kernel_rfl) (si_val (zba (zab (by kernel_rfl) (by kernel_rfl)) (zgl hK) ht_Store_dom (SEs.cons (zaa (by kernel_rfl) (by kernel_rfl)) SEs.nil (fun _ => rfl)) (fun _ => rfl))) (.inl rfl) (g1 := (.many ["low", "high"])) rfl (memc (.inl (by kernel_rfl)) (memc (.inl (by kernel_rfl)) memn)) (si_val (zam (by kernel_rfl) (b_range hK) zb0 (nn_name _ (by decide)) (by kernel_rfl) zal za5 (SEs.cons (zaa (by kernel_rfl) (by kernel_rfl)) (SEs.cons (se_bin op_add (zaa (by kernel_rfl) (by kernel_rfl)) se_int) SEs.nil (fun _ => rfl)) (fun _ => rfl)))) (.inl rfl) (g2 := (.one "v")) rfl (memc (.inl (by kernel_rfl)) memn) zbd zbd (zaa (by kernel_rfl) (by kernel_rfl)) (fun _ _ => rfl) (fun _ _ => rfl)) (fun _ => rfl)) (fun _ _ => rfl)) (by kernel_rfl) (.inl zjf) (fun _ _ => rfl))
  (sb_one (zah (se_andv (SEs.cons (se_cmp (by kernel_rfl) (zaa zjf (by kernel_rfl)) (zaa zd9 (by kernel_rfl))) (SEs.cons (se_cmp (by kernel_rfl) (zam zj6 (b_len hK) bt_len (nn_name _ (by decide)) (by kernel_rfl) zai zbz (SEs.cons (zau (zab zbn (by kernel_rfl)) (zbw hK) (fun _ => rfl)) SEs.nil (fun _ => rfl))) (zaa zje (by kernel_rfl))) (SEs.cons (se_not (zau (zab zbn (by kernel_rfl)) (zcs hK) (fun _ => rfl))) SEs.nil (fun _ => rfl)) (fun _ => rfl)) (fun _ => rfl)))))))))))))))))
end Mine
end
section
namespace Mine
structure Same (S : List Nat) (mh mh' : MH) : Prop where
  le : mh.length ≤ mh'.length
  get : ∀ i, i < mh.length → i ∉ S → mh'[i]? = mh[i]?
theorem Same.refl {S : List Nat} {mh : MH} : Same S mh mh := ⟨Nat.le_refl _, fun _ _ _ => rfl⟩
theorem Same.trans {S : List Nat} {a b c : MH} (x : Same S a b) (y : Same S b c) : Same S a c :=
  ⟨Nat.le_trans x.le y.le, fun i hi hn => (y.get i (Nat.lt_of_lt_of_le hi x.le) hn).trans (x.get i hi hn)⟩
theorem Same.mono {S T : List Nat} {a b : MH} (x : Same S a b) (h : ∀ i ∈ S, i ∈ T) : Same T a b := ⟨x.le, fun i hi hn => x.get i hi fun q => hn (h i q)⟩
theorem Same.push {S : List Nat} {a : MH} {o : MO} : Same S a (a ++ [o]) := ⟨by simp, fun i hi _ => by rw [List.getElem?_append_left hi]⟩
theorem Same.set {S : List Nat} {a : MH} {r : Nat} {o : MO} (h : r ∈ S) : Same S a (a.set r o) := ⟨by simp, fun i hi hn => by rw [List.getElem?_set_ne]; rintro rfl; exact hn h⟩
theorem zak {mh : MH} {r : Nat} {o : MO} (h : mh[r]? = some o) : r < mh.length := (List.getElem?_eq_some_iff.mp h).1
theorem Same.at {S : List Nat} {a b : MH} (x : Same S a b) {r : Nat} {o : MO} (h : a[r]? = some o) (hn : r ∉ S) : b[r]? = some o := (x.get r (zak h) hn).trans h
theorem Same.old {S T : List Nat} {a b : MH} (x : Same S a b) (h : ∀ i ∈ S, i ∈ T ∨ a.length ≤ i) : Same T a b := ⟨x.le, fun i hi hn => x.get i hi fun q => (h i q).elim hn fun h2 => absurd hi (Nat.not_lt.mpr h2)⟩
theorem Same.app {S : List Nat} {a b l : MH} (x : Same S a b) : Same S a (b ++ l) := ⟨by simp; have := x.le; omega, fun i hi hn => by rw [List.getElem?_append_left (Nat.lt_of_lt_of_le hi x.le)]; exact x.get i hi hn⟩
theorem Same.put {S : List Nat} {a b : MH} {r : Nat} {o : MO} (x : Same S a b) (h : r ∈ S ∨ a.length ≤ r) : Same S a (b.set r o) := ⟨by simp; exact x.le, fun i hi hn => by rw [List.getElem?_set_ne (by rintro rfl; rcases h with h | h; exact hn h; omega)]; exact x.get i hi hn⟩
theorem zao {mh : MH} {o : MO} : (mh ++ [o])[mh.length]? = some o := by simp
theorem get_set {mh : MH} {r : Nat} {o o' : MO} (h : mh[r]? = some o') : (mh.set r o)[r]? = some o := by rw [List.getElem?_set_self (zak h)]
@[reducible] noncomputable def intsV (l : List Int) : List MV := l.map .int
@[reducible] noncomputable def pairV (p : Int × Int) : MV := .tuple [.int p.1, .int p.2]
@[reducible] noncomputable def domV (d : List (Int × Int)) : MV := .tuple (d.map pairV)
noncomputable def span (p : Int × Int) : List Int := (List.range (p.2 + 1 - p.1).toNat).map fun (i : Nat) => p.1 + i
noncomputable def vals (d : List (Int × Int)) : List Int := d.flatMap span
structure SmD (d : List (Int × Int)) : Prop where
  len : d.length ≤ 40
  run : ∀ p ∈ d, -20 ≤ p.1 ∧ p.1 ≤ p.2 ∧ p.2 ≤ 20
theorem zck (p : Int × Int) : (span p).length = (p.2 + 1 - p.1).toNat := by simp [span]
theorem zhl (p : Int × Int) : rngL p.1 (p.2 + 1) = intsV (span p) := by simp [rngL, intsV, span]
theorem zcj {d : List (Int × Int)} (h : ∀ p ∈ d, -20 ≤ p.1 ∧ p.1 ≤ p.2 ∧ p.2 ≤ 20) : (vals d).length ≤ d.length * 41 := by
  induction d with
  | nil => simp [vals]
  | cons p d ih =>
    have h1 := h p (.head _)
    have h2 := ih fun p hp => h p (.tail _ hp)
    have : vals (p :: d) = span p ++ vals d := rfl
    rw [this, List.length_append, zck, List.length_cons]
    omega
theorem zbv {x : MIt} {all : List MV} {bind : MA} {body : MS} {Q : Fl → Loc → MH → Prop} (I : List MV → Loc → MH → Prop) (hok : ∀ rest loc mh, I rest loc mh → iterOk x all mh)
    (hstep : ∀ v rest loc mh (K : Loc → MH → Prop), (∀ loc mh, I rest loc mh → K loc mh) → I (v :: rest) loc mh →
      bind v (fun loc mh => body loc (fun fl loc mh => match fl with | .next => K loc mh | .ret r => Q (.ret r) loc mh) mh) loc mh)
    (hend : ∀ loc mh, I [] loc mh → Q .next loc mh) : ∀ rest loc mh, I rest loc mh → forI x all bind body rest loc Q mh
  | [], loc, mh, h => ⟨hok _ _ _ h, hend _ _ h⟩
  | v :: rest, loc, mh, h => ⟨hok _ _ _ h, hstep v rest loc mh _ (fun loc mh h => zbv I hok hstep hend rest loc mh h) h⟩
theorem zce {x : MIt} {all : List MV} {t : Tgt} {test : MT} {inner : CI} {Q : Loc → MO → MH → Prop} (I : List MV → Loc → MO → MH → Prop) (hok : ∀ rest loc acc mh, I rest loc acc mh → iterOk x all mh)
    (hstep : ∀ v rest loc acc mh (K : Loc → MO → MH → Prop), (∀ loc acc mh, I rest loc acc mh → K loc acc mh) → I (v :: rest) loc acc mh →
      ∃ loc', bindT t v loc = some loc' ∧ test loc' (fun b mh => if b = true then inner loc' acc K mh else K loc' acc mh) mh)
    (hend : ∀ loc acc mh, I [] loc acc mh → Q loc acc mh) : ∀ rest loc acc mh, I rest loc acc mh → compI x all t test inner rest loc acc Q mh
  | [], loc, acc, mh, h => ⟨hok _ _ _ _ h, hend _ _ _ h⟩
  | v :: rest, loc, acc, mh, h => ⟨hok _ _ _ _ h, hstep v rest loc acc mh _ (fun loc acc mh h => zce I hok hstep hend rest loc acc mh h) h⟩
theorem zlp {α : Type} [DecidableEq α] {k x : α} {v w : MV} {fs : List (α × MV)} : kset ((k, v) :: fs) x w = if k = x then (k, w) :: fs else (k, v) :: kset fs x w := rfl
theorem zq6 {α : Type} [DecidableEq α] {k x : α} {v : MV} {fs : List (α × MV)} : aget ((k, v) :: fs) x = if k = x then some v else aget fs x := by
  unfold aget
  by_cases h : k = x
  · simp [h]
  · simp [List.find?_cons, h]
theorem ap_set0 {mh l : MH} {o : MO} : (mh ++ l).set mh.length o = mh ++ l.set 0 o := by rw [List.set_append_right _ _ (Nat.le_refl _)]; simp
local macro_rules | `(tactic| walk_at "df") => `(tactic| first | (with_reducible assumption) | ((with_reducible apply df_ne); (with_reducible assumption)) | ((with_reducible apply df_ne'); (with_reducible assumption)) | exact Ne.symm (by (with_reducible assumption)) | omega | (simp only [List.length_append, List.length_set, List.length_cons, List.length_nil]; omega))
local macro_rules | `(tactic| walk_at "ne") => `(tactic| first | (with_reducible first | apply hit | apply fhit | apply ahit | apply khit | apply fnil | apply knil | apply got | apply at0 | apply idx_nat) | ((with_reducible apply got_n); walk_at "ln") | ((with_reducible (first | apply miss | apply fmiss | apply amiss | apply kmiss)); (focus kernel_rfl!); walk_at "ne") | ((with_reducible apply got_ne); (focus walk_at "df"); walk_at "ne") | (with_reducible assumption) | ((with_reducible (first | apply got_set | apply got_old | apply at_map | apply at_last)); walk_at "ne") | ((with_reducible apply restr_i'); (focus simp); walk_at "ne") | (with_reducible exact rfl) | kernel_rfl!)
local macro_rules | `(tactic| walk_at "le") => `(tactic| first | (with_reducible assumption) | omega | ((with_reducible apply Nat.le_of_ble_eq_true); kernel_rfl!) | (apply big_of; first | omega | (simp only [List.length_append, List.length_set, List.length_cons, List.length_nil, List.length_map]; omega)) | (simp only [List.length_append, List.length_set, List.length_cons, List.length_nil, List.length_map]; omega))
local macro_rules | `(tactic| walk_at "ln") => `(tactic| first | ((with_reducible apply len_set); walk_at "ln") | ((with_reducible apply len_app); walk_at "ln") | (with_reducible exact rfl))
local macro_rules | `(tactic| walk_at "sd") => `(tactic| first | (show List.length (α := MO) _ = _; walk_at "ln") | (show _ = _; walk_at "ne") | (show SmallI _; first | (with_reducible assumption) | (apply zcw <;> omega)) | (show _ ≤ _; walk_at "le") | (show _ < _; walk_at "le"))
local macro_rules | `(tactic| walk_at "sm") => `(tactic| first | (with_reducible assumption) | (with_reducible apply Same.refl) | ((with_reducible apply Same.app); walk_at "sm") | ((with_reducible apply Same.put); (focus walk_at "sm"); first | (apply Or.inl; simp; done) | (apply Or.inr; (try simp only [List.length_append, List.length_set, List.length_cons, List.length_nil]); omega)))
local macro_rules | `(tactic| walk_at "w") => `(tactic| repeat ((with_reducible first | apply name_i | apply self_i | apply fld_i | apply lself_i | apply ls1_i | apply ls2_i | apply ls3_i | apply ls0_i | apply ls5_i | apply tup0_i | apply tup2_i | apply tup3_i | apply tup5_i | apply zip_i | apply next_i | apply zrr | apply zrq | apply dicts_i | apply lst0_i | apply dict0_i | apply dict1_i | apply newd_i | apply new_i | apply lst1_i | apply lst2_i | apply endr_i | apply contr_i | apply endn_i | apply tt_i | apply ff_i | apply ntt_i | apply nff_i | apply syes_i | apply sno_i | apply put_i | apply t0_i | apply t1_i | apply t2_i | apply idxr_i | apply ln_i | apply l0_i | apply lm_i | apply di_i | apply ds_i | apply tn_i | apply ceqi_i | apply ceqs_i | apply ceqb_i | apply inr_i | apply inl_i | apply ind_i | apply cis0_i | apply cisi_i | apply cist_i | apply setr_i | apply setl_i | apply setd_i | apply sets_i | apply addt_i | apply lenr_i | apply lenl_i | apply lent_i | apply zsz | apply pop_i | apply extl_i | apply extr_i | apply tupr_i | apply tupl_i | apply tupt_i | apply listl_i | apply itl_i | apply itt_i | apply itr_i | apply and1_i | apply andc_i | apply tand0_i | apply tandc_i | apply tor0_i | apply torc_i | apply modi_i | apply divi_i | apply muli_i | apply mull_i | apply swap2_i | apply swap3_i | apply atup2_i | apply atup3_i) <;> try walk_at "sd"))
local macro_rules | `(tactic| walk_at "s") => `(tactic| (with_reducible apply seq_i); walk_at "w")
local macro_rules | `(tactic| walk_at "n") => `(tactic| (with_reducible apply cont_i); first | walk_at "s" | walk_at "w")
theorem zmf {all : List MV} {Q : Fl → Loc → MH → Prop} {mh0 : MH} {r : Nat} (d : List (Int × Int)) {loc : Loc} (h1 : ∀ p ∈ d, -20 ≤ p.1 ∧ p.1 ≤ p.2 ∧ p.2 ≤ 20) (h2 : (vals d).length ≤ BIG)
    (h3 : loc "found" = some (.ref r)) (h4 : mh0[r]? = some (.list [])) (o : ∀ loc' mh', loc' "found" = some (.ref r) → mh'[r]? = some (.list (intsV (vals d))) → Same [r] mh0 mh' → Q .next loc' mh') :
    forI (.val (.tuple all)) all (aTuple ["low", "high"]) zmd (d.map pairV) loc Q mh0 := by
  refine zbv (fun rest loc mh => X2 fun acc d' => N6 (rest = d'.map pairV) ((∀ p ∈ d', -20 ≤ p.1 ∧ p.1 ≤ p.2 ∧ p.2 ≤ 20)) (acc ++ vals d' = vals d) (loc "found" = some (.ref r)) (mh[r]? = some (.list (intsV acc))) (Same [r] mh0 mh)) ?_ ?_ ?_ _ _ _ ⟨[], d, rfl, h1, rfl, h3, h4, .refl⟩
  · rintro rest loc mh ⟨acc, d', -⟩; rfl
  · rintro v rest loc mh K hK ⟨acc, d', hr, hd, ha, hl, hm, hs⟩
    cases d' with
    | nil => cases hr
    | cons p d' =>
      cases hr
      have hp := hd p (.head _)
      have hv : acc ++ (span p ++ vals d') = vals d := ha
      have hlen := congrArg List.length hv
      simp only [List.length_append, zck] at hlen
      have hb : (intsV acc).length + (p.2 + 1 - p.1).toNat ≤ BIG := by simp [intsV]; omega
      walk_at "w"
      rw [zhl]
      exact hK _ _ ⟨acc ++ span p, d', rfl, fun q hq => hd q (.tail _ hq), by simpa using hv, by walk_at "ne", by rw [get_set hm]; simp [intsV], hs.trans (.set (by simp))⟩
  · rintro loc mh ⟨acc, d', hr, hd, ha, hl, hm, hs⟩
    cases d' with
    | nil => exact o loc mh hl (by simp [vals] at ha; rw [ha] at hm; exact hm) hs
    | cons p d' => cases hr
noncomputable def zav : MF := fun args Q mh => Exists fun d => N3 (args = [domV d]) (SmD d) (∀ mh' r, Same [] mh mh' → mh'[r]? = some (.list (intsV (vals d))) → mh.length ≤ r → Q (.ref r) mh')
theorem zp8 : ∀ args Q mh, zav args Q mh → mFun ["d"] zno args Q mh := by
  rintro args Q mh ⟨d, rfl, hd, o⟩
  have hl := zcj hd.run
  have hl2 := hd.len
  apply fun1_i
  walk_at "s"
  walk_at "n"
  refine ⟨_, zmf d hd.run (by unfold BIG; omega) (by walk_at "ne") zao fun loc' mh' e1 e2 hs => ?_⟩
  walk_at "n"
  exact o _ _ ((Same.push.trans hs).old (by simp)) e2 (Nat.le_refl _)
theorem zd4 {x : MIt} {vs : List MV} {mh mh' : MH} (h : iterOk x vs mh) (s : Same [] mh mh') : iterOk x vs mh' := by
  cases x with
  | val v =>
    cases v with
    | ref r => exact s.at h (by simp)
    | _ => exact h
  | enum r => obtain ⟨ws, h1, h2⟩ := h; exact ⟨ws, s.at h1 (by simp), h2⟩
theorem za9 {α : Type} {x : MIt} {all : List MV} {t : Tgt} {test : MT} {m : ME} {Q : Loc → MO → MH → Prop} {mh0 : MH} (L : Loc → Prop) (enc : α → MV) (p : α → Bool) (g : α → MV) (items : List α) (hI : iterOk x all mh0) (hlen : items.length ≤ BIG)
    (hb : ∀ a ∈ items, ∀ loc, L loc → ∃ loc', bindT t (enc a) loc = some loc' ∧ L loc' ∧ ∀ mh, Same [] mh0 mh →
      (∀ R : Bool → MH → Prop, (∀ mh', Same [] mh mh' → R (p a) mh') → test loc' R mh) ∧ (p a = true → ∀ R : MV → MH → Prop, (∀ mh', Same [] mh mh' → R (g a) mh') → m loc' R mh))
    {loc : Loc} (hL : L loc) (o : ∀ loc' mh', Same [] mh0 mh' → Q loc' (.list ((items.filter p).map g)) mh') : compI x all t test (ciElt m) (items.map enc) loc (.list []) Q mh0 := by
  refine zce (fun rest loc acc mh => X2 fun done items' => N5 (items = done ++ items') (rest = items'.map enc) (L loc) (acc = .list ((done.filter p).map g)) (Same [] mh0 mh)) ?_ ?_ ?_ _ _ _ _ ⟨[], items, rfl, rfl, hL, rfl, .refl⟩
  · rintro rest loc acc mh ⟨done, items', -, -, -, -, hs⟩
    exact zd4 hI hs
  · rintro v rest loc acc mh K hK ⟨done, items', h1, h2, h3, rfl, hs⟩
    cases items' with
    | nil => cases h2
    | cons a items' =>
      cases h2
      obtain ⟨loc', e1, e2, e3⟩ := hb a (by rw [h1]; simp) loc h3
      refine ⟨loc', e1, (e3 mh hs).1 _ fun mh1 hs1 => ?_⟩
      cases hp : p a with
      | false =>
        simp only [Bool.false_eq_true, if_false]
        exact hK _ _ _ ⟨done ++ [a], items', by rw [h1]; simp, rfl, e2, by simp [hp], hs.trans hs1⟩
      | true =>
        simp only [if_true]
        refine (e3 mh1 (hs.trans hs1)).2 hp _ fun mh2 hs2 => ⟨?_, hK _ _ _ ⟨done ++ [a], items', by rw [h1]; simp, rfl, e2, by simp [hp], (hs.trans hs1).trans hs2⟩⟩
        have : (done.filter p).length ≤ done.length := List.length_filter_le _ _
        rw [h1] at hlen
        simp only [List.length_append, List.length_map] at hlen ⊢
        omega
  · rintro loc acc mh ⟨done, items', h1, h2, -, rfl, hs⟩
    cases items' with
    | nil => simp at h1; subst h1; exact o _ _ hs
    | cons a r => cases h2
theorem zh6 {mh : MH} {r : Nat} {ks : List (Int × MV)} (h : mh[r]? = some (.idict ks)) (hl : ks.length ≤ BIG) : zb9 (.ref r) (ks.map fun p => MV.int p.1) mh := zh7 h ⟨rfl, hl⟩
noncomputable def upToD (d : List (Int × Int)) (k : Int) : List (Int × Int) := (d.filter fun p => decide (p.1 ≤ k)).map fun p => (p.1, min p.2 k)
noncomputable def fromD (d : List (Int × Int)) (k : Int) : List (Int × Int) := (d.filter fun p => decide (k ≤ p.2)).map fun p => (max p.1 k, p.2)
noncomputable def zfa (d : List (Int × Int)) (k : Int) : List (Int × Int) := upToD d (k - 1) ++ fromD d (k + 1)
noncomputable def t_up_to : MF := fun args Q mh => X2 fun d k => N3 (args = [domV d, .int k]) (SmD d) (∀ mh', Same [] mh mh' → Q (domV (upToD d k)) mh')
theorem zrt : ∀ args Q mh, t_up_to args Q mh → mFun ["d", "k"] m_up_to args Q mh := by
  rintro args Q mh ⟨d, k, rfl, hd, o⟩
  have hlen := hd.len
  apply fun2_i
  walk_at "w"
  refine ⟨_, za9 (fun loc => loc "k" = some (.int k)) pairV (fun p => decide (p.1 ≤ k)) (fun p => pairV (p.1, min p.2 k)) d ?_ ?_ ?_ ?_ ?_⟩
  · rfl
  · unfold BIG; omega
  · refine fun p hp loc hL => ⟨upd (upd loc "low" (.int p.1)) "high" (.int p.2), rfl, ?_, fun mh hs => ⟨fun R o => ?_, fun hp R o => ?_⟩⟩
    · walk_at "ne"
    · walk_at "w"
      exact o _ .refl
    · walk_at "w"
      exact o _ .refl
  · walk_at "ne"
  · intro loc' mh' hs
    have h1 : (d.filter fun p => decide (p.1 ≤ k)).length ≤ d.length := List.length_filter_le _ _
    walk_at "w"
    have := o _ (hs.trans (.push (o := .list (List.map (fun p => pairV (p.fst, min p.snd k)) (List.filter (fun p => decide (p.fst ≤ k)) d)))))
    simpa [domV, upToD, List.map_map, Function.comp_def] using this
noncomputable def za1 : MF := fun args Q mh => X2 fun d k => N3 (args = [domV d, .int k]) (SmD d) (∀ mh', Same [] mh mh' → Q (domV (fromD d k)) mh')
theorem zoq : ∀ args Q mh, za1 args Q mh → mFun ["d", "k"] zln args Q mh := by
  rintro args Q mh ⟨d, k, rfl, hd, o⟩
  have hlen := hd.len
  apply fun2_i
  walk_at "w"
  refine ⟨_, za9 (fun loc => loc "k" = some (.int k)) pairV (fun p => decide (k ≤ p.2)) (fun p => pairV (max p.1 k, p.2)) d ?_ ?_ ?_ ?_ ?_⟩
  · rfl
  · unfold BIG; omega
  · refine fun p hp loc hL => ⟨upd (upd loc "low" (.int p.1)) "high" (.int p.2), rfl, ?_, fun mh hs => ⟨fun R o => ?_, fun hp R o => ?_⟩⟩
    · walk_at "ne"
    · walk_at "w"
      exact o _ .refl
    · walk_at "w"
      exact o _ .refl
  · walk_at "ne"
  · intro loc' mh' hs
    have h1 : (d.filter fun p => decide (k ≤ p.2)).length ≤ d.length := List.length_filter_le _ _
    walk_at "w"
    have := o _ (hs.trans (.push (o := .list (List.map (fun p => pairV (max p.1 k, p.2)) (List.filter (fun p => decide (k ≤ p.2)) d)))))
    simpa [domV, fromD, List.map_map, Function.comp_def] using this
theorem zpu (d : List (Int × Int)) (k : Int) : (upToD d k).length ≤ d.length := by unfold upToD; rw [List.length_map]; exact List.length_filter_le _ _
theorem zqt (d : List (Int × Int)) (k : Int) : (fromD d k).length ≤ d.length := by unfold fromD; rw [List.length_map]; exact List.length_filter_le _ _
noncomputable def zca : MF := fun args Q mh => X2 fun d k => N3 (args = [domV d, .int k]) (SmD d) (∀ mh', Same [] mh mh' → Q (domV (zfa d k)) mh')
theorem zom : ∀ args Q mh, zca args Q mh → mFun ["d", "v"] (zll t_up_to za1) args Q mh := by
  rintro args Q mh ⟨d, k, rfl, hd, o⟩
  have hlen := hd.len
  apply fun2_i
  have h1 := zpu d (k - 1)
  have h2 := zqt d (k + 1)
  walk_at "w"
  refine ⟨d, k - 1, rfl, hd, fun mh1 hs1 => ?_⟩
  walk_at "w"
  refine ⟨d, k + 1, rfl, hd, fun mh2 hs2 => ?_⟩
  walk_at "w"
  have := o _ (hs1.trans hs2)
  simpa only [domV, zfa, List.map_append] using this
structure Lit where
  x : Int
  sign : Str
  k : Int
@[reducible] noncomputable def Lit.v (l : Lit) : MV := .tuple [.int l.x, .str l.sign, .int l.k]
noncomputable def struckD (l : Lit) (d : List (Int × Int)) : List (Int × Int) := if l.sign = ("<=" : Str) then upToD d l.k else if l.sign = (">=" : Str) then fromD d l.k else zfa d l.k
noncomputable def Lit.plain (l : Lit) : Prop := l.sign = ("<=" : Str) ∨ l.sign = (">=" : Str) ∨ l.sign = ("!=" : Str)
noncomputable def zcv : MF := fun args Q mh => X2 fun l d => N4 (args = [l.v, domV d]) (l.plain) (SmD d) (∀ mh', Same [] mh mh' → Q (domV (struckD l d)) mh')
theorem zp9 : ∀ args Q mh, zcv args Q mh → mFun ["literal", "d"] (znp t_up_to za1 tNo zca) args Q mh := by
  rintro args Q mh ⟨⟨x, sign, k⟩, d, rfl, hl, hd, o⟩
  apply fun2_i
  simp only [Lit.plain] at hl
  rcases hl with rfl | rfl | rfl
  · walk_at "s"
    walk_at "n"
    exact ⟨d, k, rfl, hd, o⟩
  · walk_at "s"
    walk_at "n"
    walk_at "n"
    exact ⟨d, k, rfl, hd, o⟩
  · walk_at "s"
    walk_at "n"
    walk_at "n"
    walk_at "n"
    exact ⟨d, k, rfl, hd, o⟩
theorem zri {α : Type} {l : List α} {i : Nat} {a : α} (h : l[i]? = some a) : l.set i a = l := by
  obtain ⟨h1, rfl⟩ := List.getElem?_eq_some_iff.mp h
  exact List.set_getElem_self h1
structure SR where
  r : Nat
  d : Nat
  f : Nat
  t : Nat
  m : Nat
  n : Nat
noncomputable abbrev Dom := List (Int × Int)
@[reducible] noncomputable def storeO (R : SR) (fl : Bool) (cl : MV) : MO := .inst "Store" [("domains", .ref R.d), ("firsts", .ref R.f), ("trail", .ref R.t), ("marks", .ref R.m), ("news", .ref R.n), ("speaker", .int (-1)), ("is_failed", .bool fl), ("clash", cl)]
structure StoreIs (mh : MH) (R : SR) (doms firsts : List Dom) (tr marks : List MV) (fl : Bool) (cl : MV) : Prop where
  inst : mh[R.r]? = some (storeO R fl cl)
  doms : mh[R.d]? = some (.list (doms.map domV))
  firsts : mh[R.f]? = some (.list (firsts.map domV))
  trail : mh[R.t]? = some (.list tr)
  marks : mh[R.m]? = some (.list marks)
  news : ∃ ks, mh[R.n]? = some (MO.idict ks) ∧ ks.length ≤ tr.length
noncomputable def SR.refs (R : SR) : List Nat := [R.r, R.d, R.f, R.t, R.m, R.n]
structure SR.Ap (R : SR) : Prop where
  rd : Df R.r R.d
  rf : Df R.r R.f
  rt : Df R.r R.t
  rm : Df R.r R.m
  rn : Df R.r R.n
  df : Df R.d R.f
  dt : Df R.d R.t
  dm : Df R.d R.m
  dn : Df R.d R.n
  ft : Df R.f R.t
  fm : Df R.f R.m
  fn : Df R.f R.n
  tm : Df R.t R.m
  tn : Df R.t R.n
  mn : Df R.m R.n
theorem SR.ap {R : SR} (h : R.refs.Nodup) : R.Ap := by
  simp only [SR.refs, List.nodup_cons, List.mem_cons, not_or, List.not_mem_nil, not_false_eq_true, List.nodup_nil, and_true] at h
  obtain ⟨⟨hrd, hrf, hrt, hrm, hrn⟩, ⟨hdf, hdt, hdm, hdn⟩, ⟨hft, hfm, hfn⟩, ⟨htm, htn⟩, hmn⟩ := h
  exact ⟨hrd, hrf, hrt, hrm, hrn, hdf, hdt, hdm, hdn, hft, hfm, hfn, htm, htn, hmn⟩
theorem StoreIs.same {S : List Nat} {mh mh' : MH} {R : SR} {doms firsts : List Dom} {trail marks : List MV} {fl : Bool} {cl : MV} (x : StoreIs mh R doms firsts trail marks fl cl) (s : Same S mh mh') (h : ∀ i ∈ S, i ∉ R.refs) : StoreIs mh' R doms firsts trail marks fl cl := by
  have n : ∀ i ∈ R.refs, i ∉ S := fun i hi hs => h i hs hi
  unfold SR.refs at n
  obtain ⟨ks, h1, h2⟩ := x.news
  exact ⟨s.at x.inst (n _ (by simp)), s.at x.doms (n _ (by simp)), s.at x.firsts (n _ (by simp)), s.at x.trail (n _ (by simp)), s.at x.marks (n _ (by simp)), ks, s.at h1 (n _ (by simp)), h2⟩
noncomputable def t_Store : MF := fun args Q mh => args = [] ∧ ∀ mh' R, Same [] mh mh' → StoreIs mh' R [] [] [] [] false (.tuple []) → (∀ i ∈ R.refs, mh.length ≤ i) → R.refs.Nodup → Q (.ref R.r) mh'
theorem zrw : ∀ args Q mh, t_Store args Q mh → mNew "Store" (mFun ["self"] zd2) args Q mh := by
  rintro args Q mh ⟨rfl, o⟩
  apply fun1_i
  walk_at "s"
  iterate 7 walk_at "n"
  refine ⟨rfl, o _ ⟨mh.length, mh.length + 1, mh.length + 1 + 1, mh.length + 1 + 1 + 1, mh.length + 1 + 1 + 1 + 1, mh.length + 1 + 1 + 1 + 1 + 1⟩ ?_ ⟨?_, ?_, ?_, ?_, ?_, [], ?_, Nat.le_refl _⟩ (by simp [SR.refs]; omega) (by simp [SR.refs]; omega)⟩
  · walk_at "sm"
  · walk_at "ne"
  · show _ = some (MO.list []); walk_at "ne"
  · show _ = some (MO.list []); walk_at "ne"
  all_goals walk_at "ne"
noncomputable def zad : MF := fun args Q mh => X9 fun R doms firsts trail marks fl cl d (x : Nat) => N5 (args = [.ref R.r, .int x]) (StoreIs mh R doms firsts trail marks fl cl) (x ≤ 1000) (doms[x]? = some d) (Q (domV d) mh)
theorem zk9 : ∀ args Q mh, zad args Q mh → mFun ["self", "x"] zh3 args Q mh := by
  rintro args Q mh ⟨R, doms, firsts, trail, marks, fl, cl, d, x, rfl, S, h1, hd, q⟩
  have e1 := S.inst
  have e2 := S.doms
  apply fun2_i
  walk_at "w"
  exact q
noncomputable def zaq : MF := fun args Q mh => X9 fun R doms firsts trail marks fl cl d (x : Nat) => N5 (args = [.ref R.r, .int x]) (StoreIs mh R doms firsts trail marks fl cl) (x ≤ 1000) (firsts[x]? = some d) (Q (domV d) mh)
theorem zgu : ∀ args Q mh, zaq args Q mh → mFun ["self", "x"] zd1 args Q mh := by
  rintro args Q mh ⟨R, doms, firsts, trail, marks, fl, cl, d, x, rfl, S, h1, hd, q⟩
  have e1 := S.inst
  have e2 := S.firsts
  apply fun2_i
  walk_at "w"
  exact q
noncomputable def pairDat (p : Int × Int) : Dat := .tuple [.int p.1, .int p.2]
noncomputable def domDat (d : Dom) : Dat := .tuple (d.map pairDat)
theorem DRs.map {α : Type} {mh : MH} {f : α → MV} {g : α → Dat} (h : ∀ a, DR mh (f a) (g a)) : ∀ l : List α, DRs mh (l.map f) (l.map g)
  | [] => .nil
  | a :: l => .cons (h a) (DRs.map h l)
theorem dr_pair {mh : MH} (p : Int × Int) : DR mh (pairV p) (pairDat p) := .tuple (.cons (.int _) (.cons (.int _) .nil))
theorem dr_dom {mh : MH} (d : Dom) : DR mh (domV d) (domDat d) := .tuple (.map dr_pair d)
theorem dr_ints {mh : MH} (l : List Int) : DRs mh (intsV l) (l.map .int) := .map .int l
theorem zml {p q : Int × Int} (h : pairDat p = pairDat q) : p = q := by
  simp only [pairDat, Dat.tuple.injEq, List.cons.injEq, Dat.int.injEq] at h
  exact Prod.ext h.1 h.2.1
theorem zpb {d e : Dom} : domDat d = domDat e ↔ d = e := by
  refine ⟨fun h => ?_, fun h => by rw [h]⟩
  simp only [domDat, Dat.tuple.injEq] at h
  exact (List.map_inj_right fun _ _ => zml).mp h
theorem ints_inj {a b : List Int} : (Dat.list (a.map .int) = Dat.list (b.map .int)) ↔ a = b := by
  refine ⟨fun h => ?_, fun h => by rw [h]⟩
  simp only [Dat.list.injEq] at h
  exact (List.map_inj_right fun _ _ e => Dat.int.inj e).mp h
theorem ok_dom (d : Dom) {n : Nat} : kqdOk (n + 2) (domDat d) = true := by
  simp only [domDat, kqdOk, List.all_map, List.all_eq_true]
  intro p _
  simp [pairDat, kqdOk]
theorem ok_ints (l : List Int) {n : Nat} : kqdOk (n + 1) (.list (l.map .int)) = true := by
  simp [kqdOk]
theorem eq_dom {d e : Dom} {Q : Bool → Prop} {mh : MH} (q : Q (decide (d = e))) : eqM (domV d) (domV e) Q mh := by
  refine ⟨domDat d, domDat e, dr_dom d, dr_dom e, ok_dom d, ok_dom e, ?_⟩
  simpa only [zpb] using q
theorem eq_dom0 {d : Dom} {Q : Bool → Prop} {mh : MH} (q : Q (decide (d = []))) : eqM (domV d) (.tuple []) Q mh := eq_dom (e := []) q
theorem eq_list {r s : Nat} {a b : List Int} {Q : Bool → Prop} {mh : MH} (h1 : mh[r]? = some (.list (intsV a))) (h2 : mh[s]? = some (.list (intsV b))) (q : Q (decide (a = b))) : eqM (.ref r) (.ref s) Q mh := by
  refine ⟨.list (a.map .int), .list (b.map .int), .list h1 (dr_ints a), .list h2 (dr_ints b), ok_ints a, ok_ints b, ?_⟩
  simpa only [ints_inj] using q
noncomputable def zag : MF := fun args Q mh => X8 fun R doms firsts trail marks fl cl d => N7 (args = [.ref R.r, domV d]) (StoreIs mh R doms firsts trail marks fl cl) (R.refs.Nodup) (doms.length ≤ 1000) (firsts.length ≤ 1000) (d ≠ []) (∀ mh', Same [R.d, R.f] mh mh' → StoreIs mh' R (doms ++ [d]) (firsts ++ [d]) trail marks fl cl → Q (.int doms.length) mh')
theorem zgt : ∀ args Q mh, zag args Q mh → mFun ["self", "domain"] (zd0 tNo) args Q mh := by
  rintro args Q mh ⟨R, doms, firsts, trail, marks, fl, cl, d, rfl, S, nd, l1, l2, hd, o⟩
  have e1 := S.inst
  have e2 := S.doms
  have e3 := S.firsts
  have ap := SR.ap nd
  have n1 := ap.rd
  have n2 := ap.rf
  have n3 := ap.df
  apply fun2_i
  walk_at "s"
  walk_at "n"
  walk_at "n"
  refine eq_dom0 (no_i hd ?_)
  walk_at "n"
  have ee : (((doms.map domV ++ [domV d]).length : Nat) : Int) - 1 = doms.length := by simp
  rw [ee]
  obtain ⟨ks, h1, h2⟩ := S.news
  have e4 := S.trail
  have e5 := S.marks
  have := ap.dt
  have := ap.ft
  have := ap.dm
  have := ap.fm
  have := ap.dn
  have := ap.fn
  refine o _ (by walk_at "sm") ⟨by walk_at "ne", ?_, ?_, by walk_at "ne", by walk_at "ne", ks, by walk_at "ne", h2⟩
  · rw [List.map_append]; show _ = some (MO.list (_ ++ [domV d])); walk_at "ne"
  · rw [List.map_append]; show _ = some (MO.list (_ ++ [domV d])); walk_at "ne"
theorem kset_le {α : Type} [DecidableEq α] {ks : List (α × MV)} {k : α} {v : MV} : (kset ks k v).length ≤ ks.length + 1 := by
  induction ks with
  | nil => simp [kset]
  | cons p ks ih =>
    obtain ⟨y, w⟩ := p
    unfold kset
    split <;> simp
    exact ih
@[reducible] noncomputable def entryV (x : Nat) (d : Dom) (l : Lit) (reasons sp : MV) : MV := .tuple [.int x, domV d, l.v, reasons, sp]
noncomputable def za2 : MF := fun args Q mh => X12 fun R doms firsts trail marks fl cl l d reasons sp (x : Nat) => N11 (args = [.ref R.r, l.v, reasons, sp]) (l.x = (x : Int)) (l.plain) (StoreIs mh R doms firsts trail marks fl cl) (R.refs.Nodup) (x ≤ 1000) (doms[x]? = some d) (SmD d) (struckD l d ≠ []) (trail.length ≤ 1000) (∀ mh', Same [R.d, R.t, R.n] mh mh' → StoreIs mh' R (doms.set x (struckD l d)) firsts (if struckD l d = d then trail else trail ++ [entryV x d l reasons sp]) marks fl cl → Q (.bool true) mh')
theorem zit : ∀ args Q mh, za2 args Q mh → mFun ["self", "literal", "reasons", "speaker"] (zfr zcv tNo tNo) args Q mh := by
  rintro args Q mh ⟨R, doms, firsts, trail, marks, fl, cl, ⟨lx, sign, k⟩, d, reasons, sp, x, rfl, hx, hl, S, nd, l1, hd, sm, hne, l2, o⟩
  simp only at hx; subst hx
  have e1 := S.inst
  have e2 := S.doms
  apply fun4_i
  walk_at "s"
  walk_at "n"
  walk_at "n"
  refine ⟨⟨x, sign, k⟩, d, rfl, hl, sm, fun mh1 hs1 => ?_⟩
  have S1 := S.same hs1 (by simp)
  clear S e1 e2
  walk_at "w"
  walk_at "n"
  refine eq_dom0 (no_i hne ?_)
  walk_at "w"
  walk_at "n"
  refine eq_dom (dec_i (fun he => ?_) fun he => ?_)
  · walk_at "w"
    refine o mh1 (hs1.mono (by simp)) ?_
    rw [if_pos he, he]
    rw [zri hd]; exact S1
  · have e1 := S1.inst
    have e2 := S1.doms
    have e3 := S1.trail
    have e4 := S1.firsts
    have e5 := S1.marks
    obtain ⟨ks, e6, l3⟩ := S1.news
    have ap := SR.ap nd
    have n1 := ap.rd
    have n2 := ap.rt
    have n3 := ap.rn
    have n4 := ap.dt
    have n5 := ap.dn
    have n6 := ap.tn
    have n7 := ap.df
    have n8 := ap.ft
    have n9 := ap.fn
    have m1 := ap.dm
    have m2 := ap.tm
    have m3 := ap.mn
    have hlt : x < (doms.map domV).length := by rw [List.length_map]; exact (List.getElem?_eq_some_iff.mp hd).1
    walk_at "w"
    walk_at "n"
    walk_at "n"
    walk_at "n"
    walk_at "n"
    refine o _ ((hs1.mono (by simp)).trans ?_) ?_
    · walk_at "sm"
    rw [if_neg he]
    refine ⟨?_, ?_, ?_, ?_, ?_, kset ks x (.bool true), ?_, ?_⟩
    · walk_at "ne"
    · rw [List.map_set]; walk_at "ne"
    · walk_at "ne"
    · walk_at "ne"
    · walk_at "ne"
    · walk_at "ne"
    · have := kset_le (ks := ks) (k := (x : Int)) (v := .bool true)
      simp only [List.length_append, List.length_cons, List.length_nil]
      omega
noncomputable def zaf : MF := fun args Q mh => X10 fun R doms firsts trail marks fl cl l d (x : Nat) => N11 (args = [.ref R.r, l.v]) (l.x = (x : Int)) (l.plain) (StoreIs mh R doms firsts trail marks fl cl) (R.refs.Nodup) (x ≤ 1000) (doms[x]? = some d) (SmD d) (struckD l d ≠ []) (trail.length ≤ 1000) (∀ mh', Same [R.d, R.t, R.n] mh mh' → StoreIs mh' R (doms.set x (struckD l d)) firsts (if struckD l d = d then trail else trail ++ [entryV x d l .none (.int (-1))]) marks fl cl → Q (.bool true) mh')
theorem zho : ∀ args Q mh, zaf args Q mh → mFun ["self", "literal"] (zes za2) args Q mh := by
  rintro args Q mh ⟨R, doms, firsts, trail, marks, fl, cl, l, d, x, rfl, hx, hl, S, nd, l1, hd, sm, hne, l2, o⟩
  have e1 := S.inst
  apply fun2_i
  walk_at "w"
  exact ⟨R, doms, firsts, trail, marks, fl, cl, l, d, .none, .int (-1), x, rfl, hx, hl, S, nd, l1, hd, sm, hne, l2, o⟩
@[reducible] noncomputable def advO (vs : List MV) : MO := .inst "AllDifferentValues" [("number", .int (-1)), ("scope", .tuple vs), ("strength", .str "values")]
structure MR where
  r : Nat
  c : Nat
  m : Nat
  o : Nat
  cs : List Nat
@[reducible] noncomputable def matchO (M : MR) : MO := .inst "Matching" [("choices", .ref M.c), ("mate", .ref M.m), ("owner", .ref M.o)]
noncomputable def optV : Option Int → MV
  | none => .none
  | some v => .int v
theorem Same.append {S : List Nat} {a l : MH} : Same S a (a ++ l) := ⟨by simp, fun i hi _ => by rw [List.getElem?_append_left hi]⟩
noncomputable def zbh : MF := fun args Q mh => X3 fun r vs s => N5 (args = [.ref r, .tuple vs, .str s]) (s = ("values" : Str)) (vs.length ≤ BIG) (mh[r]? = some (.inst "AllDifferentValues" [])) (Q .none (mh.set r (advO vs)))
theorem zfh : ∀ args Q mh, zbh args Q mh → mFun ["self", "scope", "strength"] zdd args Q mh := by
  rintro args Q mh ⟨r, vs, s, rfl, rfl, hl, e, q⟩
  apply fun3_i
  walk_at "s"
  walk_at "n"
  walk_at "n"
  rw [List.set_set, List.set_set]; exact q
noncomputable def supMF (cl : Str) (ps : List Str) (slf : Str) (ms : List ME) (t : MF) : MF := fun args Q mh => args.length = ps.length ∧ ∃ r fs, updAll ps args (fun _ => none) slf = some (.ref r) ∧ mh[r]? = some (.inst cl fs) ∧
      mList ms (updAll ps args fun _ => none) (fun vs mh1 => t (.ref r :: vs) (fun _ mh2 => Q .none mh2) mh1) mh
noncomputable def zac : MF := fun args Q mh => Exists fun vs => N3 (args = [.tuple vs]) (vs.length ≤ BIG) (Q (.ref mh.length) (mh ++ [advO vs]))
theorem zdu : ∀ args Q mh, zac args Q mh → mNew "AllDifferentValues" (supMF "AllDifferentValues" ["self", "row"] "self" [mName "row", mConst (.str "values")] zbh) args Q mh := by
  rintro args Q mh ⟨vs, rfl, hl, q⟩
  refine ⟨rfl, mh.length, [], rfl, zao, ?_⟩
  show mList _ (upd (upd (fun _ => none) "self" _) "row" _) _ _
  walk_at "w"
  refine ⟨_, vs, _, rfl, rfl, hl, zao, rfl, ?_⟩
  rw [ap_set0]; exact q
structure Lists (mh : MH) (cs : List Nat) (ch : List (List Int)) : Prop where
  len : cs.length = ch.length
  at_ : ∀ i r : Nat, cs[i]? = some r → ∃ l, ch[i]? = some l ∧ mh[r]? = some (MO.list (intsV l))
theorem Lists.nil {mh : MH} : Lists mh [] [] := ⟨rfl, fun i r h => by simp at h⟩
theorem Lists.same {mh mh' : MH} {cs : List Nat} {ch : List (List Int)} {S : List Nat} (x : Lists mh cs ch) (s : Same S mh mh') (h : ∀ i ∈ cs, i ∉ S) : Lists mh' cs ch :=
  ⟨x.len, fun i r hr => let ⟨l, h1, h2⟩ := x.at_ i r hr; ⟨l, h1, s.at h2 (h _ (List.mem_of_getElem? hr))⟩⟩
theorem Lists.snoc {mh : MH} {cs : List Nat} {ch : List (List Int)} {r : Nat} {l : List Int} (x : Lists mh cs ch) (h : mh[r]? = some (.list (intsV l))) : Lists mh (cs ++ [r]) (ch ++ [l]) := by
  refine ⟨by simp [x.len], fun i q hq => ?_⟩
  by_cases hi : i < cs.length
  · rw [List.getElem?_append_left hi] at hq
    obtain ⟨l', h1, h2⟩ := x.at_ i q hq
    exact ⟨l', by rw [List.getElem?_append_left (by rw [← x.len]; exact hi)]; exact h1, h2⟩
  · have he : i = cs.length := by
      have := (List.getElem?_eq_some_iff.mp hq).1
      simp at this
      omega
    subst he
    simp at hq
    subst hq
    exact ⟨l, by rw [x.len]; simp, h⟩
theorem Lists.lt {mh : MH} {cs : List Nat} {ch : List (List Int)} (x : Lists mh cs ch) : ∀ i ∈ cs, i < mh.length := fun r hr => by
  obtain ⟨i, hi, rfl⟩ := List.mem_iff_getElem.mp hr
  obtain ⟨l, _, h⟩ := x.at_ i _ (List.getElem?_eq_getElem hi)
  exact zak h
theorem Lists.get {mh : MH} {cs : List Nat} {ch : List (List Int)} (x : Lists mh cs ch) {i : Nat} {l : List Int} (h : ch[i]? = some l) : ∃ r, cs[i]? = some r ∧ mh[r]? = some (MO.list (intsV l)) := by
  have hi : i < cs.length := by rw [x.len]; exact (List.getElem?_eq_some_iff.mp h).1
  obtain ⟨l', h1, h2⟩ := x.at_ i cs[i] (List.getElem?_eq_getElem hi)
  rw [h] at h1; cases h1
  exact ⟨cs[i], List.getElem?_eq_getElem hi, h2⟩
@[reducible] noncomputable def ownV (ks : List (Int × Nat)) : List (Int × MV) := ks.map fun p => (p.1, .int (p.2 : Int))
structure MatchIs (mh : MH) (M : MR) (ch : List (List Int)) (mate : List (Option Int)) (own : List (Int × Nat)) : Prop where
  inst : mh[M.r]? = some (matchO M)
  choices : mh[M.c]? = some (.list (M.cs.map .ref))
  lists : Lists mh M.cs ch
  mate : mh[M.m]? = some (.list (mate.map optV))
  owner : mh[M.o]? = some (.idict (ownV own))
noncomputable def MR.refs (M : MR) : List Nat := M.r :: M.c :: M.m :: M.o :: M.cs
structure MR.Ok (M : MR) : Prop where
  m : M.m ∉ M.o :: M.r :: M.c :: M.cs
  o : M.o ∉ M.m :: M.r :: M.c :: M.cs
theorem MatchIs.same {S : List Nat} {mh mh' : MH} {M : MR} {ch : List (List Int)} {mate : List (Option Int)} {own : List (Int × Nat)} (x : MatchIs mh M ch mate own) (s : Same S mh mh') (h : ∀ i ∈ S, i ∉ M.refs) : MatchIs mh' M ch mate own := by
  have n : ∀ i ∈ M.refs, i ∉ S := fun i hi hs => h i hs hi
  unfold MR.refs at n
  exact ⟨s.at x.inst (n _ (by simp)), s.at x.choices (n _ (by simp)), x.lists.same s fun i hi => n i (by simp [hi]), s.at x.mate (n _ (by simp)), s.at x.owner (n _ (by simp))⟩
@[reducible] noncomputable def natsV (xs : List Nat) : List MV := xs.map fun (x : Nat) => MV.int (x : Int)
noncomputable def zat (doms : List Dom) (xs : List Nat) : List (List Int) := xs.map fun x => vals (doms.getD x [])
theorem zma {R : SR} {doms firsts : List Dom} {trail marks : List MV} {fl : Bool} {cl : MV} {mh0 : MH} {all : List MV} {Q : Loc → MO → MH → Prop} (xs : List Nat) (S : StoreIs mh0 R doms firsts trail marks fl cl) (hx : ∀ x ∈ xs, x ≤ 1000 ∧ ∃ d, doms[x]? = some d ∧ SmD d) (hl : xs.length ≤ 1000)
    {loc : Loc} (hs : loc "store" = some (.ref R.r)) (o : ∀ loc' mh' cs, Same [] mh0 mh' → Lists mh' cs (zat doms xs) → (∀ i ∈ cs, mh0.length ≤ i) → Q loc' (.list (cs.map .ref)) mh') :
    compI (.val (.tuple all)) all (.one "x") tTrue (zdf zad zav) (natsV xs) loc (.list []) Q mh0 := by
  refine zce (fun rest loc acc mh => X3 fun done xs' cs => N7 (xs = done ++ xs') (rest = natsV xs') (loc "store" = some (.ref R.r)) (acc = .list (cs.map .ref)) (Lists mh cs (zat doms done)) ((∀ i ∈ cs, mh0.length ≤ i)) (Same [] mh0 mh)) ?_ ?_ ?_ _ _ _ _ ⟨[], xs, [], rfl, rfl, hs, rfl, .nil, by simp, .refl⟩
  · rintro rest loc acc mh ⟨done, xs', cs, -⟩; rfl
  · rintro v rest loc acc mh K hK ⟨done, xs', cs, h1, h2, h3, rfl, h5, h6, hs⟩
    cases xs' with
    | nil => cases h2
    | cons x xs' =>
      cases h2
      obtain ⟨hx1, d, hd, sm⟩ := hx x (by rw [h1]; simp)
      have S1 := S.same hs (by simp)
      have e1 := S1.inst
      refine ⟨upd loc "x" (.int (x : Int)), rfl, ?_⟩
      walk_at "w"
      refine ⟨R, doms, firsts, trail, marks, fl, cl, d, x, rfl, S1, hx1, hd, d, rfl, sm, fun mh1 r hs1 hr hrl => ⟨?_, ?_⟩⟩
      · have := congrArg List.length h1
        have hle := h5.len
        simp [zat] at this hle
        simp
        unfold BIG
        omega
      · refine hK _ _ _ ⟨done ++ [x], xs', cs ++ [r], by rw [h1]; simp, rfl, by walk_at "ne", by simp, ?_, ?_, hs.trans hs1⟩
        · have := (h5.same hs1 (by simp)).snoc hr
          simpa [zat, hd] using this
        · intro i hi
          rcases List.mem_append.mp hi with h | h
          · exact h6 i h
          · simp at h; subst h; exact Nat.le_trans hs.le hrl
  · rintro loc acc mh ⟨done, xs', cs, h1, h2, h3, rfl, h5, h6, hs⟩
    cases xs' with
    | nil => simp at h1; subst h1; exact o _ _ _ hs h5 h6
    | cons a r => cases h2
noncomputable def zbm : MF := fun args Q mh => X8 fun R doms firsts trail marks fl cl xs => N5 (args = [.ref R.r, .tuple (natsV xs)]) (StoreIs mh R doms firsts trail marks fl cl) ((∀ x ∈ xs, x ≤ 1000 ∧ ∃ d, doms[x]? = some d ∧ SmD d)) (xs.length ≤ 1000) (∀ mh' M, Same [] mh mh' → M.Ok → (∀ i ∈ M.refs, mh.length ≤ i) → MatchIs mh' M (zat doms xs) (List.replicate xs.length none) [] → Q (.ref M.r) mh')
theorem zmm : ∀ args Q mh, zbm args Q mh → mNew "Matching" (mFun ["self", "store", "scope"] (zcq zad zav)) args Q mh := by
  rintro args Q mh ⟨R, doms, firsts, trail, marks, fl, cl, xs, rfl, S, hx, hl, o⟩
  have hn : (natsV xs).length = xs.length := by simp
  apply fun3_i
  walk_at "s"
  have hs0 : Same [] mh (mh ++ [.inst "Matching" []]) := .push
  refine ⟨_, zma xs (S.same hs0 (by simp)) hx hl (by walk_at "ne") fun loc' mh1 cs hs1 hL hcs => ?_⟩
  have e0 : mh1[mh.length]? = some (.inst "Matching" []) := hs1.at zao (by simp)
  have g0 := zak e0
  have hs2 := hs0.trans hs1
  walk_at "w"
  walk_at "n"
  walk_at "n"
  have hlt := hL.lt
  simp only [List.length_append, List.length_cons, List.length_nil] at hcs
  refine ⟨rfl, o _ ⟨mh.length, mh1.length, mh1.length + 1 + 1, mh1.length + 1 + 1 + 1, cs⟩ ?_ ⟨?_, ?_⟩ ?_ ⟨?_, ?_, ?_, ?_, ?_⟩⟩
  · walk_at "sm"
  · simp only [List.mem_cons, not_or]
    exact ⟨by omega, by omega, by omega, fun h => by have := hlt _ h; omega⟩
  · simp only [List.mem_cons, not_or]
    exact ⟨by omega, by omega, by omega, fun h => by have := hlt _ h; omega⟩
  · simp only [MR.refs, List.mem_cons]
    rintro i (rfl | rfl | rfl | rfl | hi)
    · omega
    · omega
    · omega
    · omega
    · have := hcs _ hi; omega
  · walk_at "ne"
  · walk_at "ne"
  · refine hL.same (S := [mh.length]) ?_ fun i hi => by have := hcs i hi; simp; omega
    walk_at "sm"
  · have e : (List.replicate xs.length none).map optV = List.replicate (natsV xs).length MV.none := by rw [hn, List.map_replicate]; rfl
    rw [e]; walk_at "ne"
  · show _ = some (MO.idict []); walk_at "ne"
theorem while_i {t : MT} {body : MS} {Q : Fl → Loc → MH → Prop} (I : Nat → Loc → MH → Prop)
    (hstep : ∀ n loc mh (K : Loc → MH → Prop), (∀ loc mh, I n loc mh → K loc mh) → I (n + 1) loc mh →
      t loc (fun b mh => if b = true then body loc (fun fl loc mh => match fl with | .next => K loc mh | .ret v => Q (.ret v) loc mh) mh else Q .next loc mh) mh)
    (h0 : ∀ loc mh, ¬ I 0 loc mh) : ∀ n loc mh, I n loc mh → whileN t body n loc Q mh
  | 0, loc, mh, h => absurd h (h0 loc mh)
  | n + 1, loc, mh, h => hstep n loc mh _ (fun loc mh h => while_i I hstep h0 n loc mh h) h
noncomputable def ag (l : List (Int × Nat)) (v : Int) : Option Nat := (l.find? fun p => p.1 = v).map (·.2)
noncomputable def ks : List (Int × Nat) → Int → Nat → List (Int × Nat)
  | [], x, v => [(x, v)]
  | (y, w) :: fs, x, v => if y = x then (y, v) :: fs else (y, w) :: ks fs x v
theorem ag_nil {v : Int} : ag [] v = none := rfl
theorem ag_cons {k x : Int} {v : Nat} {fs : List (Int × Nat)} : ag ((k, v) :: fs) x = if k = x then some v else ag fs x := by
  unfold ag
  by_cases h : k = x
  · simp [h]
  · simp [List.find?_cons, h]
theorem ag_ks {l : List (Int × Nat)} {v w : Int} {p : Nat} : ag (ks l v p) w = if v = w then some p else ag l w := by
  induction l with
  | nil => simp [ks, ag_cons, ag_nil]
  | cons q l ih =>
    obtain ⟨y, z⟩ := q
    unfold ks
    split
    · rename_i h
      subst h
      simp only [ag_cons]
      split <;> rfl
    · rename_i h
      simp only [ag_cons, ih]
      by_cases h1 : y = w
      · subst h1
        simp
        exact fun e => absurd e.symm h
      · simp [h1]
theorem ag_none {l : List (Int × Nat)} {v : Int} : ag l v = none ↔ v ∉ l.map (·.1) := by
  induction l with
  | nil => simp [ag_nil]
  | cons q l ih =>
    obtain ⟨y, z⟩ := q
    rw [ag_cons]
    by_cases h : y = v
    · simp [h]
    · simp only [h, if_false, ih, List.map_cons, List.mem_cons, not_or]
      exact ⟨fun h2 => ⟨fun e => h e.symm, h2⟩, fun h2 => h2.2⟩
theorem ks_keys {l : List (Int × Nat)} {v : Int} {p : Nat} : (ks l v p).map (·.1) = if v ∈ l.map (·.1) then l.map (·.1) else l.map (·.1) ++ [v] := by
  induction l with
  | nil => simp [ks]
  | cons q l ih =>
    obtain ⟨y, z⟩ := q
    unfold ks
    split
    · rename_i h; simp [h]
    · rename_i h
      simp only [List.map_cons, ih, List.mem_cons]
      by_cases h1 : v ∈ l.map (·.1)
      · simp [h1]
      · simp only [h1, if_false, or_false, List.cons_append]
        rw [if_neg (fun e => h e.symm)]
theorem zr8 {l : List (Int × Nat)} {v : Int} {p : Nat} (h : ag l v = none) : ks l v p = l ++ [(v, p)] := by
  induction l with
  | nil => rfl
  | cons q l ih =>
    obtain ⟨y, z⟩ := q
    rw [ag_cons] at h
    unfold ks
    by_cases h1 : y = v
    · simp [h1] at h
    · simp only [h1, if_false] at h ⊢
      rw [ih h]; rfl
theorem zin {l : List (Int × Nat)} {v : Int} : aget (ownV l) v = (ag l v).map fun (p : Nat) => MV.int (p : Int) := by
  induction l with
  | nil => rfl
  | cons q l ih =>
    obtain ⟨y, z⟩ := q
    show aget ((y, MV.int (z : Int)) :: ownV l) v = _
    rw [zq6, ag_cons, ih]
    split <;> rfl
theorem zks {l : List (Int × Nat)} {v : Int} : ((ownV l).any fun kv => decide (kv.1 = v)) = (ag l v).isSome := by
  induction l with
  | nil => rfl
  | cons q l ih =>
    obtain ⟨y, z⟩ := q
    show (decide (y = v) || (ownV l).any _) = _
    rw [ih, ag_cons]
    by_cases h : y = v <;> simp [h]
theorem zlo {l : List (Int × Nat)} {v : Int} {p : Nat} : kset (ownV l) v (.int (p : Int)) = ownV (ks l v p) := by
  induction l with
  | nil => rfl
  | cons q l ih =>
    obtain ⟨y, z⟩ := q
    show kset ((y, MV.int (z : Int)) :: ownV l) v _ = _
    rw [zlp]
    unfold ks
    split
    · rfl
    · rw [ih]; rfl
theorem ze0 {l : List (Int × Nat)} : (ownV l).length = l.length := by simp [ownV]
theorem zcn {l : List Int} (h : l.Nodup) (hb : ∀ v ∈ l, -20 ≤ v ∧ v ≤ 20) : l.length ≤ 41 := by
  have := zc0 (ys := (List.range 41).map fun (i : Nat) => (i : Int) - 20) h fun v hv => by
    obtain ⟨h1, h2⟩ := hb v hv
    exact List.mem_map.mpr ⟨(v + 20).toNat, List.mem_range.mpr (by omega), by omega⟩
  simpa using this
noncomputable def inCh (ch : List (List Int)) (v : Int) (p : Nat) : Prop := ∃ l, ch[p]? = some l ∧ v ∈ l
structure MInv (ch : List (List Int)) (mate : List (Option Int)) (own : List (Int × Nat)) : Prop where
  len : mate.length = ch.length
  agree : ∀ v p, ag own v = some p ↔ mate[p]? = some (some v)
  sub : ∀ v p, ag own v = some p → inCh ch v p
  keys : (own.map (·.1)).Nodup
noncomputable def SmC (ch : List (List Int)) : Prop := ch.length ≤ 1000 ∧ ∀ l ∈ ch, ∀ v ∈ l, -20 ≤ v ∧ v ≤ 20
theorem inCh.small {ch : List (List Int)} {v : Int} {p : Nat} (h : inCh ch v p) (s : SmC ch) : -20 ≤ v ∧ v ≤ 20 := let ⟨l, h1, h2⟩ := h; s.2 l (List.mem_of_getElem? h1) v h2
inductive Path (ch : List (List Int)) (came : List (Int × Nat)) (mate : List (Option Int)) (root : Nat) : List Nat → Int → Prop
  | last {v : Int} : ag came v = some root → inCh ch v root → mate[root]? = some none → Path ch came mate root [root] v
  | step {v u : Int} {p : Nat} {ps : List Nat} : ag came v = some p → inCh ch v p → mate[p]? = some (some u) → Path ch came mate root ps u → p ∉ ps → Path ch came mate root (p :: ps) v
theorem Path.set {ch : List (List Int)} {came : List (Int × Nat)} {mate : List (Option Int)} {root p : Nat} {x : Option Int} : ∀ {ps : List Nat} {v : Int}, Path ch came mate root ps v → p ∉ ps → Path ch came (mate.set p x) root ps v
  | _, _, .last h1 h2 h3, hp => .last h1 h2 (by rw [List.getElem?_set_ne (by rintro rfl; simp at hp)]; exact h3)
  | _, _, .step h1 h2 h3 h4 h5, hp => .step h1 h2 (by rw [List.getElem?_set_ne (by rintro rfl; simp at hp)]; exact h3) (h4.set fun h => hp (.tail _ h)) h5
structure HInv (ch : List (List Int)) (mate0 : List (Option Int)) (own0 : List (Int × Nat)) (v0 : Int) (mate : List (Option Int)) (own : List (Int × Nat)) (v : Int) : Prop where
  len : mate.length = ch.length
  agree : ∀ w, w ≠ v → ∀ p, ag own w = some p ↔ mate[p]? = some (some w)
  out : ∀ p : Nat, mate[p]? ≠ some (some v)
  sub : ∀ w, w ≠ v → ∀ p, ag own w = some p → inCh ch w p
  keys : (own.map (·.1)).Nodup
  small : ∀ w ∈ own.map (·.1), -20 ≤ w ∧ w ≤ 20
  nones : ∀ p : Nat, mate[p]? = some none ↔ mate0[p]? = some none
  some_ : ∀ w, ((ag own w).isSome ∨ w = v) ↔ ((ag own0 w).isSome ∨ w = v0)
theorem HInv.step {ch : List (List Int)} {mate0 mate : List (Option Int)} {own0 own : List (Int × Nat)} {v0 v u : Int} {p : Nat} (h : HInv ch mate0 own0 v0 mate own v) (hs : SmC ch) (hv : inCh ch v p) (hm : mate[p]? = some (some u)) :
    HInv ch mate0 own0 v0 (mate.set p (some v)) (ks own v p) u := by
  have hlt : p < mate.length := (List.getElem?_eq_some_iff.mp hm).1
  have huv : u ≠ v := by rintro rfl; exact h.out p hm
  have hu : ag own u = some p := (h.agree u huv p).mpr hm
  refine ⟨by simp [h.len], fun w hw q => ?_, fun q => ?_, fun w hw q => ?_, ?_, ?_, fun q => ?_, fun w => ?_⟩
  · rw [ag_ks]
    by_cases hvw : v = w
    · subst hvw
      simp only [if_true]
      by_cases hq : p = q
      · subst hq; simp [List.getElem?_set_self hlt]
      · rw [List.getElem?_set_ne hq]
        simp only [Option.some.injEq, hq, false_iff]
        exact h.out q
    · rw [if_neg hvw]
      by_cases hq : p = q
      · subst hq
        rw [List.getElem?_set_self hlt, h.agree w (fun e => hvw e.symm) p, hm]
        simp only [Option.some.injEq]
        exact ⟨fun e => absurd e.symm hw, fun e => absurd e hvw⟩
      · rw [List.getElem?_set_ne hq, h.agree w (fun e => hvw e.symm) q]
  · by_cases hq : p = q
    · subst hq; rw [List.getElem?_set_self hlt]; simp only [ne_eq, Option.some.injEq]; exact fun e => huv e.symm
    · rw [List.getElem?_set_ne hq]
      intro e
      have := (h.agree u huv q).mpr e
      rw [hu] at this
      exact hq (Option.some.inj this)
  · rw [ag_ks]
    by_cases hvw : v = w
    · subst hvw
      simp only [if_true, Option.some.injEq]
      rintro rfl; exact hv
    · rw [if_neg hvw]; exact h.sub w (fun e => hvw e.symm) q
  · rw [ks_keys]
    split
    · exact h.keys
    · rename_i hn
      rw [List.nodup_append]
      exact ⟨h.keys, by simp, fun a ha b hb e => by simp at hb; subst hb; subst e; exact hn ha⟩
  · rw [ks_keys]
    split
    · exact h.small
    · intro w hw
      rcases List.mem_append.mp hw with h1 | h1
      · exact h.small w h1
      · simp at h1; subst h1; exact hv.small hs
  · by_cases hq : p = q
    · subst hq; rw [List.getElem?_set_self hlt, ← h.nones p, hm]; simp
    · rw [List.getElem?_set_ne hq]; exact h.nones q
  · rw [← h.some_ w, ag_ks]
    by_cases hvw : v = w
    · subst hvw; simp
    · rw [if_neg hvw]
      constructor
      · rintro (h1 | rfl)
        · exact .inl h1
        · exact .inl (by rw [hu]; rfl)
      · rintro (h1 | rfl)
        · exact .inl h1
        · exact absurd rfl hvw
structure HEnd (ch : List (List Int)) (mate0 : List (Option Int)) (own0 : List (Int × Nat)) (v0 : Int) (root : Nat) (mate : List (Option Int)) (own : List (Int × Nat)) : Prop where
  inv : MInv ch mate own
  nones : ∀ p : Nat, mate[p]? = some none ↔ (mate0[p]? = some none ∧ p ≠ root)
  some_ : ∀ w, (ag own w).isSome ↔ ((ag own0 w).isSome ∨ w = v0)
theorem HInv.last {ch : List (List Int)} {mate0 mate : List (Option Int)} {own0 own : List (Int × Nat)} {v0 v : Int} {p : Nat} (h : HInv ch mate0 own0 v0 mate own v) (hv : inCh ch v p) (hm : mate[p]? = some none) :
    HEnd ch mate0 own0 v0 p (mate.set p (some v)) (ks own v p) := by
  have hlt : p < mate.length := (List.getElem?_eq_some_iff.mp hm).1
  refine ⟨⟨by simp [h.len], fun w q => ?_, fun w q => ?_, ?_⟩, fun q => ?_, fun w => ?_⟩
  · rw [ag_ks]
    by_cases hvw : v = w
    · subst hvw
      simp only [if_true]
      by_cases hq : p = q
      · subst hq; simp [List.getElem?_set_self hlt]
      · rw [List.getElem?_set_ne hq]
        simp only [Option.some.injEq, hq, false_iff]
        exact h.out q
    · rw [if_neg hvw]
      by_cases hq : p = q
      · subst hq
        rw [List.getElem?_set_self hlt, h.agree w (fun e => hvw e.symm) p, hm]
        simp only [Option.some.injEq, reduceCtorEq, false_iff]
        exact hvw
      · rw [List.getElem?_set_ne hq, h.agree w (fun e => hvw e.symm) q]
  · rw [ag_ks]
    by_cases hvw : v = w
    · subst hvw
      simp only [if_true, Option.some.injEq]
      rintro rfl; exact hv
    · rw [if_neg hvw]; exact h.sub w (fun e => hvw e.symm) q
  · rw [ks_keys]
    split
    · exact h.keys
    · rename_i hn
      rw [List.nodup_append]
      exact ⟨h.keys, by simp, fun a ha b hb e => by simp at hb; subst hb; subst e; exact hn ha⟩
  · by_cases hq : p = q
    · subst hq; rw [List.getElem?_set_self hlt]; simp
    · rw [List.getElem?_set_ne hq, h.nones q]
      exact ⟨fun e => ⟨e, fun e2 => hq e2.symm⟩, fun e => e.1⟩
  · rw [← h.some_ w, ag_ks]
    by_cases hvw : v = w
    · subst hvw; simp
    · rw [if_neg hvw]
      constructor
      · exact .inl
      · rintro (h1 | rfl)
        · exact h1
        · exact absurd rfl hvw
theorem MInv.start {ch : List (List Int)} {mate : List (Option Int)} {own : List (Int × Nat)} {v : Int} (h : MInv ch mate own) (hs : SmC ch) (hv : ag own v = none) : HInv ch mate own v mate own v where
  len := h.len
  agree := fun w _ p => h.agree w p
  out := fun p e => by have := (h.agree v p).mpr e; rw [hv] at this; cases this
  sub := fun w _ => h.sub w
  keys := h.keys
  small := fun w hw => by
    cases e : ag own w with
    | none => exact absurd hw (ag_none.mp e)
    | some p => exact (h.sub w p e).small hs
  nones := fun p => Iff.rfl
  some_ := fun w => Iff.rfl
theorem MR.dfs {M : MR} (h : M.Ok) : Df M.m M.o ∧ Df M.o M.m ∧ Df M.m M.r ∧ Df M.o M.r ∧ Df M.m M.c ∧ Df M.o M.c := by
  have h1 := h.m
  have h2 := h.o
  simp only [List.mem_cons, not_or] at h1 h2
  exact ⟨h1.1, h2.1, h1.2.1, h2.2.1, h1.2.2.1, h2.2.2.1⟩
theorem MatchIs.write {mh mh' : MH} {M : MR} {ch : List (List Int)} {mate mate' : List (Option Int)} {own own' : List (Int × Nat)} (x : MatchIs mh M ch mate own) (ok : M.Ok) (s : Same [M.m, M.o] mh mh')
    (h1 : mh'[M.m]? = some (.list (mate'.map optV))) (h2 : mh'[M.o]? = some (.idict (ownV own'))) : MatchIs mh' M ch mate' own' := by
  have a := ok.m
  have b := ok.o
  simp only [List.mem_cons, not_or] at a b
  refine ⟨s.at x.inst ?_, s.at x.choices ?_, x.lists.same s fun i hi => ?_, h1, h2⟩
  · simp; exact ⟨fun e => a.2.1 e.symm, fun e => b.2.1 e.symm⟩
  · simp; exact ⟨fun e => a.2.2.1 e.symm, fun e => b.2.2.1 e.symm⟩
  · simp; exact ⟨fun e => a.2.2.2 (e ▸ hi), fun e => b.2.2.2 (e ▸ hi)⟩
noncomputable def zfc : MF := fun args Q mh => X9 fun M ch mate own came rc v root ps => N11 (args = [.ref M.r, .int v, .ref rc]) (MatchIs mh M ch mate own) (M.Ok) (mh[rc]? = some (.idict (ownV came))) (Df M.m rc) (Df M.o rc) (SmC ch) (MInv ch mate own) (ag own v = none) (Path ch came mate root ps v) (∀ mh' mate' own', Same [M.m, M.o] mh mh' → MatchIs mh' M ch mate' own' → HEnd ch mate own v root mate' own' → Q .none mh')
theorem Path.head {ch : List (List Int)} {came : List (Int × Nat)} {mate : List (Option Int)} {root : Nat} {ps : List Nat} {v : Int} (h : Path ch came mate root ps v) : ∃ p, ag came v = some p ∧ inCh ch v p ∧
    ((mate[p]? = some none ∧ p = root ∧ ps = [p]) ∨ ∃ u ps', mate[p]? = some (some u) ∧ ps = p :: ps' ∧ Path ch came mate root ps' u ∧ p ∉ ps') := by
  cases h with
  | last h1 h2 h3 => exact ⟨_, h1, h2, .inl ⟨h3, rfl, rfl⟩⟩
  | step h1 h2 h3 h4 h5 => exact ⟨_, h1, h2, .inr ⟨_, _, h3, rfl, h4, h5⟩⟩
theorem Path.small {ch : List (List Int)} {came : List (Int × Nat)} {mate : List (Option Int)} {root : Nat} {ps : List Nat} {v : Int} (h : Path ch came mate root ps v) : True := trivial
theorem zop : ∀ args Q mh, zfc args Q mh → mFun ["self", "v", "came"] zc3 args Q mh := by
  rintro args Q mh0 ⟨M, ch, mate0, own0, came, rc, v0, root, ps0, rfl, X0, ok, hc0, dm, do_, sc, I0, hv0, P0, o⟩
  apply fun3_i
  obtain ⟨_, _, _, _, _, _⟩ := MR.dfs ok
  have hlen := I0.len
  have hsc := sc.1
  refine ⟨ps0.length + 1, while_i (fun n loc mh => loc "self" = some (.ref M.r) ∧ loc "came" = some (.ref rc) ∧ Same [M.m, M.o] mh0 mh ∧
    ((∃ v ps mate own, loc "v" = some (.int v) ∧ n = ps.length + 1 ∧ MatchIs mh M ch mate own ∧ HInv ch mate0 own0 v0 mate own v ∧ Path ch came mate root ps v) ∨
      ∃ mate own, n = 1 ∧ loc "v" = some .none ∧ MatchIs mh M ch mate own ∧ HEnd ch mate0 own0 v0 root mate own)) ?_ ?_ _ _ _ ?_⟩
  · rintro n loc mh K hK ⟨h1, h2, hs, ⟨v, ps, mate, own, h3, h4, X, H, P⟩ | ⟨mate, own, h3, h4, X, H⟩⟩
    · have e1 := X.inst
      have e2 := X.mate
      have e3 := X.owner
      have e4 : mh[rc]? = some (.idict (ownV came)) := hs.at hc0 (by simp; exact ⟨fun e => dm e.symm, fun e => do_ e.symm⟩)
      have g2 := zak e2
      have g3 := zak e3
      obtain ⟨p, hp, hin, hcase⟩ := P.head
      have hpl : p < mate.length := by rcases hcase with ⟨h, _⟩ | ⟨u, ps', h, _⟩ <;> exact (List.getElem?_eq_some_iff.mp h).1
      have hps : p ≤ 1000 := by have := H.len; omega
      have hag : aget (ownV came) v = some (.int (p : Int)) := by rw [zin, hp]; rfl
      have hol : (ownV own).length ≤ BIG := by
        rw [ze0]
        have := zcn H.keys H.small
        simp at this
        unfold BIG; omega
      have hks : kset (ownV own) v (.int (p : Int)) = ownV (ks own v p) := zlo
      obtain ⟨x, hx⟩ : ∃ x, mate[p]? = some x := ⟨_, List.getElem?_eq_getElem hpl⟩
      walk_at "w"
      walk_at "s"
      walk_at "n"
      walk_at "n"
      walk_at "n"
      walk_at "n"
      have hmm : (mate.map optV).set p (.int v) = (mate.set p (some v)).map optV := by rw [List.map_set]; rfl
      have hS : Same [M.m, M.o] mh ((mh.set M.m (.list ((mate.map optV).set p (.int v)))).set M.o (.idict (ownV (ks own v p)))) := by walk_at "sm"
      have X' : MatchIs ((mh.set M.m (.list ((mate.map optV).set p (.int v)))).set M.o (.idict (ownV (ks own v p)))) M ch (mate.set p (some v)) (ks own v p) := X.write ok hS (by rw [← hmm]; walk_at "ne") (by walk_at "ne")
      rcases hcase with ⟨hn, rfl, rfl⟩ | ⟨u, ps', hu, rfl, P', hnp⟩
      · rw [hx] at hn; cases hn
        refine hK _ _ ⟨by walk_at "ne", by walk_at "ne", hs.trans hS, .inr ⟨_, _, by simpa using h4, hit, X', H.last hin hx⟩⟩
      · rw [hx] at hu; cases hu
        refine hK _ _ ⟨by walk_at "ne", by walk_at "ne", hs.trans hS, .inl ⟨u, ps', _, _, hit, by simpa using h4, X', H.step sc hin hx, P'.set hnp⟩⟩
    · walk_at "w"
      exact o _ _ _ hs X H
  · rintro loc mh ⟨-, -, -, ⟨v, ps, mate, own, -, h, -⟩ | ⟨mate, own, h, -⟩⟩ <;> omega
  · exact ⟨by walk_at "ne", by walk_at "ne", .refl, .inl ⟨v0, ps0, mate0, own0, by walk_at "ne", rfl, X0, I0.start sc hv0, P0⟩⟩
theorem nd_iff {α : Type} {l : List α} : l.Nodup ↔ ∀ (i j : Nat) (x : α), i < j → l[i]? = some x → l[j]? = some x → False := by
  unfold List.Nodup
  rw [List.pairwise_iff_getElem]
  constructor
  · intro h i j x hij h1 h2
    obtain ⟨a, e1⟩ := List.getElem?_eq_some_iff.mp h1
    obtain ⟨b, e2⟩ := List.getElem?_eq_some_iff.mp h2
    exact h i j a b hij (e1.trans e2.symm)
  · intro h i j hi hj hij e
    exact h i j l[i] hij (by simp [hi]) (by rw [e]; simp [hj])
structure Bfs (ch : List (List Int)) (mate : List (Option Int)) (own : List (Int × Nat)) (root : Nat) (came : List (Int × Nat)) (places : List Nat) : Prop where
  len : places.length = came.length + 1
  head : places[0]? = some root
  zip : ∀ (i : Nat) v p, came[i]? = some (v, p) → ∃ q, ag own v = some q ∧ places[i + 1]? = some q
  keys : (came.map (·.1)).Nodup
  inch : ∀ v p, (v, p) ∈ came → inCh ch v p
  parent : ∀ (i : Nat) v p, came[i]? = some (v, p) → ∃ j, j ≤ i ∧ places[j]? = some p
theorem ag_mem {l : List (Int × Nat)} (h : (l.map (·.1)).Nodup) {v : Int} {p : Nat} (hm : (v, p) ∈ l) : ag l v = some p := by
  induction l with
  | nil => cases hm
  | cons q l ih =>
    obtain ⟨y, z⟩ := q
    rw [ag_cons]
    simp only [List.map_cons, List.nodup_cons] at h
    rcases List.mem_cons.mp hm with e | e
    · cases e; simp
    · rw [if_neg (fun e2 => h.1 (List.mem_map.mpr ⟨_, e, e2.symm⟩))]
      exact ih h.2 e
theorem mem_ag {l : List (Int × Nat)} {v : Int} {p : Nat} (h : ag l v = some p) : (v, p) ∈ l := by
  induction l with
  | nil => cases h
  | cons q l ih =>
    obtain ⟨y, z⟩ := q
    rw [ag_cons] at h
    split at h
    · rename_i e; cases h; subst e; exact .head _
    · exact .tail _ (ih h)
theorem Bfs.place {ch : List (List Int)} {mate : List (Option Int)} {own : List (Int × Nat)} {root : Nat} {came : List (Int × Nat)} {places : List Nat} (b : Bfs ch mate own root came places) {j q : Nat} (h : places[j + 1]? = some q) :
    ∃ v p, came[j]? = some (v, p) ∧ ag own v = some q := by
  have hj : j < came.length := by
    have := (List.getElem?_eq_some_iff.mp h).1
    rw [b.len] at this; omega
  have hc : came[j]? = some (came[j].1, came[j].2) := by simp [hj]
  obtain ⟨q', h1, h2⟩ := b.zip j came[j].1 came[j].2 hc
  rw [h] at h2; cases h2
  exact ⟨_, _, hc, h1⟩
theorem Bfs.nodup {ch : List (List Int)} {mate : List (Option Int)} {own : List (Int × Nat)} {root : Nat} {came : List (Int × Nat)} {places : List Nat} (b : Bfs ch mate own root came places) (I : MInv ch mate own) (hr : mate[root]? = some none) :
    places.Nodup := by
  rw [nd_iff]
  have inj : ∀ (i j q : Nat), i < j → places[i]? = some q → places[j]? = some q → False := by
    intro i j q hij h1 h2
    cases j with
    | zero => omega
    | succ j =>
      obtain ⟨v, p, e1, e2⟩ := b.place h2
      have m2 := (I.agree v q).mp e2
      cases i with
      | zero =>
        rw [b.head] at h1; cases h1
        rw [hr] at m2; cases m2
      | succ i =>
        obtain ⟨v', p', e3, e4⟩ := b.place h1
        have m4 := (I.agree v' q).mp e4
        rw [m2] at m4
        simp only [Option.some.injEq] at m4
        subst m4
        have hi : i < came.length := (List.getElem?_eq_some_iff.mp e3).1
        have hj : j < came.length := (List.getElem?_eq_some_iff.mp e1).1
        exact nd_iff.mp b.keys i j v (by omega) (by rw [List.getElem?_map, e3]; rfl) (by rw [List.getElem?_map, e1]; rfl)
  exact inj
theorem Bfs.path {ch : List (List Int)} {mate : List (Option Int)} {own : List (Int × Nat)} {root : Nat} {came : List (Int × Nat)} {places : List Nat} (b : Bfs ch mate own root came places) (I : MInv ch mate own) (hr : mate[root]? = some none) (came' : List (Int × Nat))
    (hc : ∀ v p, ag came v = some p → ag came' v = some p) : ∀ (n j : Nat), j < n → ∀ (v : Int) (p : Nat), places[j]? = some p → ag came' v = some p → inCh ch v p → ∃ ps, Path ch came' mate root ps v ∧ ∀ q ∈ ps, ∃ i, i ≤ j ∧ places[i]? = some q
  | 0, j, h, v, p, h1, h2, h3 => by omega
  | n + 1, 0, h, v, p, h1, h2, h3 => by
    rw [b.head] at h1; cases h1
    exact ⟨[root], .last h2 h3 hr, fun q hq => ⟨0, Nat.le_refl _, by simp at hq; subst hq; exact b.head⟩⟩
  | n + 1, j + 1, h, v, p, h1, h2, h3 => by
    obtain ⟨u, pu, e1, e2⟩ := b.place h1
    have hm := List.mem_of_getElem? e1
    obtain ⟨i, hi, e3⟩ := b.parent j u pu e1
    obtain ⟨ps, P, hps⟩ := Bfs.path b I hr came' hc n i (by omega) u pu e3 (hc u pu (ag_mem b.keys hm)) (b.inch u pu hm)
    refine ⟨p :: ps, .step h2 h3 ((I.agree u p).mp e2) P fun hp => ?_, fun q hq => ?_⟩
    · obtain ⟨i', hi', e4⟩ := hps p hp
      exact nd_iff.mp (b.nodup I hr) i' (j + 1) p (by omega) e4 h1
    · rcases List.mem_cons.mp hq with rfl | hq
      · exact ⟨j + 1, Nat.le_refl _, h1⟩
      · obtain ⟨i', hi', e4⟩ := hps q hq
        exact ⟨i', by omega, e4⟩
theorem Bfs.start {ch : List (List Int)} {mate : List (Option Int)} {own : List (Int × Nat)} {root : Nat} : Bfs ch mate own root [] [root] :=
  ⟨rfl, rfl, fun i v p h => (by simp at h), List.nodup_nil, fun v p h => (by cases h), fun i v p h => (by simp at h)⟩
theorem Bfs.snoc {ch : List (List Int)} {mate : List (Option Int)} {own : List (Int × Nat)} {root : Nat} {came : List (Int × Nat)} {places : List Nat} (b : Bfs ch mate own root came places) {v : Int} {p q k : Nat} (hv : ag came v = none) (hq : ag own v = some q) (hi : inCh ch v p) (hk : places[k]? = some p) :
    Bfs ch mate own root (came ++ [(v, p)]) (places ++ [q]) := by
  have hlen := b.len
  have hkl : k < places.length := (List.getElem?_eq_some_iff.mp hk).1
  refine ⟨by simp [hlen], ?_, fun i w r h => ?_, ?_, fun w r h => ?_, fun i w r h => ?_⟩
  · rw [List.getElem?_append_left (by omega)]; exact b.head
  · by_cases hic : i < came.length
    · rw [List.getElem?_append_left hic] at h
      obtain ⟨q', h1, h2⟩ := b.zip i w r h
      exact ⟨q', h1, by rw [List.getElem?_append_left (by omega)]; exact h2⟩
    · have : i = came.length := by
        have := (List.getElem?_eq_some_iff.mp h).1
        simp at this; omega
      subst this
      simp at h
      obtain ⟨rfl, rfl⟩ := h
      exact ⟨q, hq, by rw [← hlen]; simp⟩
  · rw [List.map_append, List.nodup_append]
    refine ⟨b.keys, by simp, fun a ha c hc e => ?_⟩
    simp at hc; subst hc; subst e
    exact ag_none.mp hv ha
  · rcases List.mem_append.mp h with h | h
    · exact b.inch w r h
    · simp at h; obtain ⟨rfl, rfl⟩ := h; exact hi
  · by_cases hic : i < came.length
    · rw [List.getElem?_append_left hic] at h
      obtain ⟨j, h1, h2⟩ := b.parent i w r h
      exact ⟨j, h1, by rw [List.getElem?_append_left (by omega)]; exact h2⟩
    · have : i = came.length := by
        have := (List.getElem?_eq_some_iff.mp h).1
        simp at this; omega
      subst this
      simp at h
      obtain ⟨rfl, rfl⟩ := h
      exact ⟨k, by omega, by rw [List.getElem?_append_left hkl]; exact hk⟩
structure Lack (ch : List (List Int)) (root : Nat) (places : List Nat) (few : List Int) : Prop where
  len : places.length = few.length + 1
  nodup : places.Nodup
  fnodup : few.Nodup
  sorted : SortedL few
  root : root ∈ places
  shut : ∀ p ∈ places, ∃ l, ch[p]? = some l ∧ ∀ v ∈ l, v ∈ few
  near : ∀ v ∈ few, ∃ p ∈ places, inCh ch v p
theorem zjc {xs : List Nat} {n : Nat} : natsV xs ++ [.int (n : Int)] = natsV (xs ++ [n]) := by simp [natsV]
structure SeatSt (mh0 : MH) (M : MR) (ch : List (List Int)) (mate : List (Option Int)) (own : List (Int × Nat)) (root rcm rp k : Nat) (loc : Loc) (mh : MH) (came : List (Int × Nat)) (places : List Nat) : Prop where
  self : loc "self" = some (.ref M.r)
  lc : loc "came" = some (.ref rcm)
  lp : loc "places" = some (.ref rp)
  lk : loc "k" = some (.int (k : Int))
  same : Same [] mh0 mh
  mc : mh[rcm]? = some (.idict (ownV came))
  mp : mh[rp]? = some (.list (natsV places))
  bfs : Bfs ch mate own root came places
  done : ∀ i, i < k → ∀ p, places[i]? = some p → ∀ v, inCh ch v p → (ag came v).isSome
noncomputable def t_seat : MF := fun args Q mh => X5 fun M ch mate own (pl : Nat) => N9 (args = [.ref M.r, .int (pl : Int)]) (MatchIs mh M ch mate own) (M.Ok) ((∀ i ∈ M.refs, i < mh.length)) (SmC ch) (MInv ch mate own) (mate[pl]? = some none) ((∀ mh' mate' own' v, Same [M.m, M.o] mh mh' → MatchIs mh' M ch mate' own' → HEnd ch mate own v pl mate' own' → Q .none mh')) (∀ mh' r1 r2 places few, Same [] mh mh' → mh'[r1]? = some (.list (natsV places)) → mh'[r2]? = some (.list (intsV few)) → mh.length ≤ r1 → mh.length ≤ r2 → Lack ch pl places few → Q (.tuple [.ref r1, .ref r2]) mh')
theorem zp2 {mh0 : MH} {M : MR} {ch : List (List Int)} {mate : List (Option Int)} {own : List (Int × Nat)} {root rcm rp k : Nat} {Q : Fl → Loc → MH → Prop} (X0 : MatchIs mh0 M ch mate own) (ok : M.Ok) (hrefs : ∀ i ∈ M.refs, i < mh0.length) (sc : SmC ch) (I0 : MInv ch mate own) (hr : mate[root]? = some none)
    (h1 : mh0.length ≤ rcm) (h2 : mh0.length ≤ rp) (h3 : rcm ≠ rp) {p rl : Nat} {l : List Int} (hl : ch[p]? = some l) (hrl : mh0[rl]? = some (.list (intsV l)))
    {loc : Loc} {mh : MH} {came : List (Int × Nat)} {places : List Nat} (s : SeatSt mh0 M ch mate own root rcm rp k loc mh came places) (hk : places[k]? = some p)
    (on : ∀ loc mh came places, SeatSt mh0 M ch mate own root rcm rp k loc mh came places → places[k]? = some p → (∀ v ∈ l, (ag came v).isSome) → Q .next loc mh)
    (or : ∀ loc mh' mate' own' v, Same [M.m, M.o] mh0 mh' → MatchIs mh' M ch mate' own' → HEnd ch mate own v root mate' own' → Q (.ret .none) loc mh') :
    forI (.val (.ref rl)) (intsV l) (aName "v") (zdr zfc) (intsV l) loc Q mh := by
  refine zbv (fun rest loc mh => X4 fun came places dn rest' => N5 (l = dn ++ rest') (rest = intsV rest') (SeatSt mh0 M ch mate own root rcm rp k loc mh came places) (places[k]? = some p) (∀ v ∈ dn, (ag came v).isSome)) ?_ ?_ ?_ _ _ _ ⟨came, places, [], l, rfl, rfl, s, hk, by simp⟩
  · rintro rest loc mh ⟨came, places, dn, rest', -, -, s, -⟩
    exact s.same.at hrl (by simp)
  · rintro v rest loc mh K hK ⟨came, places, dn, rest', e1, e2, s, hk, hdn⟩
    cases rest' with
    | nil => cases e2
    | cons u rest' =>
      cases e2
      have hin : inCh ch u p := ⟨l, hl, by rw [e1]; simp⟩
      have hu := hin.small sc
      have X := X0.same s.same (by simp)
      have f1 := X.inst
      have f2 := X.owner
      have f3 := s.mc
      have f4 := s.mp
      have f5 := s.self
      have f6 := s.lc
      have f7 := s.lp
      have f8 := s.lk
      have g3 := zak f3
      have g4 := zak f4
      have hb : came.length ≤ 41 := by
        have := zcn s.bfs.keys fun w hw => by
          obtain ⟨⟨w', q⟩, hm, rfl⟩ := List.mem_map.mp hw
          exact (s.bfs.inch w' q hm).small sc
        simpa using this
      have hkk : k ≤ 1000 := by
        have := (List.getElem?_eq_some_iff.mp hk).1
        rw [s.bfs.len] at this; omega
      have hbig : (ownV came).length ≤ BIG := by rw [ze0]; unfold BIG; omega
      walk_at "w"
      rw [zks]
      cases hcu : ag came u with
      | some q =>
        refine bnyes_i rfl ?_
        refine hK _ _ ⟨came, places, dn ++ [u], rest', by rw [e1]; simp, rfl, ⟨?_, ?_, ?_, ?_, s.same, f3, f4, s.bfs, s.done⟩, hk, ?_⟩
        · walk_at "ne"
        · walk_at "ne"
        · walk_at "ne"
        · walk_at "ne"
        · intro w hw
          rcases List.mem_append.mp hw with h | h
          · exact hdn w h
          · simp at h; subst h; rw [hcu]; rfl
      | none =>
        refine bnno_i rfl ?_
        have d1 : Df rcm rp := h3
        have d2 : Df rp rcm := fun e => h3 e.symm
        have hm := hrefs M.m (by simp [MR.refs])
        have ho := hrefs M.o (by simp [MR.refs])
        have hrr := hrefs M.r (by simp [MR.refs])
        have d3 : Df rcm M.r := fun e => by omega
        have d4 : Df rcm M.o := fun e => by omega
        have d5 : Df rp M.r := fun e => by omega
        have d6 : Df rp M.o := fun e => by omega
        have hcn : ks came u p = came ++ [(u, p)] := zr8 hcu
        have hks : kset (ownV came) u (.int (p : Int)) = ownV (came ++ [(u, p)]) := by rw [zlo, hcn]
        walk_at "s"
        have hag : ∀ w r, ag came w = some r → ag (came ++ [(u, p)]) w = some r := fun w r h => by
          rw [← hcn, ag_ks]
          split
          · rename_i e; subst e; rw [hcu] at h; cases h
          · exact h
        have hagu : ag (came ++ [(u, p)]) u = some p := by rw [← hcn, ag_ks]; simp
        have hS : Same [rcm] mh (mh.set rcm (.idict (ownV (came ++ [(u, p)])))) := .set (by simp)
        have hS0 : Same [] mh0 (mh.set rcm (.idict (ownV (came ++ [(u, p)])))) := (((s.same.mono (by simp)).trans hS).old (by simp [h1]))
        walk_at "n"
        rw [zks]
        cases hou : ag own u with
        | none =>
          refine bnno_i rfl ?_
          obtain ⟨ps, P, -⟩ := s.bfs.path I0 hr _ hag (k + 1) k (by omega) u p hk hagu hin
          walk_at "s"
          have X1 := X0.same hS0 (by simp)
          refine ⟨M, ch, mate, own, came ++ [(u, p)], rcm, u, root, ps, rfl, X1, ok, by rw [get_set f3], ?_, ?_, sc, I0, hou, P, fun mh' mate' own' hs' X' H' => ?_⟩
          · exact fun e => by omega
          · exact fun e => by omega
          · walk_at "n"
            exact or _ _ _ _ _ ((hS0.mono (by simp)).trans hs') X' H'
        | some q =>
          refine bnyes_i rfl ?_
          have hb2 : (natsV places).length ≤ BIG := by simp only [List.length_map, s.bfs.len]; unfold BIG; omega
          have hao : aget (ownV own) u = some (.int (q : Int)) := by rw [zin, hou]; rfl
          walk_at "n"
          rw [zjc]
          refine hK _ _ ⟨came ++ [(u, p)], places ++ [q], dn ++ [u], rest', by rw [e1]; simp, rfl, ⟨?_, ?_, ?_, ?_, ?_, ?_, ?_, s.bfs.snoc hcu hou hin hk, ?_⟩, ?_, ?_⟩
          · walk_at "ne"
          · walk_at "ne"
          · walk_at "ne"
          · walk_at "ne"
          · exact ((hS0.mono (by simp)).trans (Same.set (S := [rp]) (by simp))).old (by simp [h2])
          · rw [List.getElem?_set_ne d2, get_set f3]
          · have : (mh.set rcm (.idict (ownV (came ++ [(u, p)]))))[rp]? = some (.list (natsV places)) := by rw [List.getElem?_set_ne d1]; exact f4
            rw [get_set this]
          · intro i hi r hr' w hw
            have hil : i < places.length := by have := (List.getElem?_eq_some_iff.mp hk).1; omega
            rw [List.getElem?_append_left hil] at hr'
            cases e : ag came w with
            | none => have := s.done i hi r hr' w hw; rw [e] at this; cases this
            | some z => rw [hag w z e]; rfl
          · rw [List.getElem?_append_left (List.getElem?_eq_some_iff.mp hk).1]; exact hk
          · intro w hw
            rcases List.mem_append.mp hw with h | h
            · cases e : ag came w with
              | none => have := hdn w h; rw [e] at this; cases this
              | some z => rw [hag w z e]; rfl
            · simp at h; subst h; rw [hagu]; rfl
  · rintro loc mh ⟨came, places, dn, rest', e1, e2, s, hk, hdn⟩
    cases rest' with
    | nil => simp at e1; subst e1; exact on _ _ _ _ s hk hdn
    | cons u rest' => cases e2
theorem SeatSt.lack {mh0 mh : MH} {M : MR} {ch : List (List Int)} {mate : List (Option Int)} {own : List (Int × Nat)} {root rcm rp k : Nat} {loc : Loc} {came : List (Int × Nat)} {places : List Nat} (s : SeatSt mh0 M ch mate own root rcm rp k loc mh came places) (sc : SmC ch) (I : MInv ch mate own) (hr : mate[root]? = some none)
    (hk : places.length ≤ k) {few : List Int} (hp : few.Perm (came.map (·.1))) (hs : SortedL few) : Lack ch root places few where
  len := by rw [s.bfs.len, hp.length_eq]; simp
  nodup := s.bfs.nodup I hr
  fnodup := hp.nodup_iff.mpr s.bfs.keys
  sorted := hs
  root := List.mem_of_getElem? s.bfs.head
  shut := fun p hp' => by
    obtain ⟨i, hi, rfl⟩ := List.mem_iff_getElem.mp hp'
    have hpi : places[i]? = some places[i] := by simp [hi]
    have hlt : places[i] < ch.length := by
      cases i with
      | zero =>
        have := s.bfs.head
        rw [hpi] at this
        rw [Option.some.inj this, ← I.len]
        exact (List.getElem?_eq_some_iff.mp hr).1
      | succ j =>
        obtain ⟨v, q, e1, e2⟩ := s.bfs.place hpi
        obtain ⟨l, h1, h2⟩ := I.sub v _ e2
        exact (List.getElem?_eq_some_iff.mp h1).1
    refine ⟨ch[places[i]], by simp [hlt], fun v hv => ?_⟩
    have := s.done i (by omega) _ hpi v ⟨_, by simp [hlt], hv⟩
    rw [hp.mem_iff]
    cases e : ag came v with
    | none => rw [e] at this; cases this
    | some z => exact List.mem_map.mpr ⟨_, mem_ag e, rfl⟩
  near := fun v hv => by
    rw [hp.mem_iff] at hv
    obtain ⟨⟨v', q⟩, hm, rfl⟩ := List.mem_map.mp hv
    obtain ⟨i, hi⟩ := List.getElem?_of_mem hm
    obtain ⟨j, _, hj⟩ := s.bfs.parent i _ _ hi
    exact ⟨q, List.mem_of_getElem? hj, s.bfs.inch _ _ hm⟩
theorem ok_seat : ∀ args Q mh, t_seat args Q mh → mFun ["self", "place"] (zd3 zfc) args Q mh := by
  rintro args Q mh0 ⟨M, ch, mate, own, root, rfl, X0, ok, hrefs, sc, I0, hr, o1, o2⟩
  apply fun2_i
  apply seq_i
  refine swap3_i ?_
  walk_at "w"
  apply cont_i
  apply seq_i
  have hd : mh0.length ≠ mh0.length + 1 := by omega
  have hrl : root < ch.length := by rw [← I0.len]; exact (List.getElem?_eq_some_iff.mp hr).1
  refine ⟨43, while_i (fun n loc mh => X3 fun came places k => N3 (n + k = 43) (k ≤ places.length) (SeatSt mh0 M ch mate own root mh0.length (mh0.length + 1) k loc mh came places)) ?_ ?_ _ _ _ ?_⟩
  · rintro n loc mh K hK ⟨came, places, k, hn, hkl, s⟩
    have hb : came.length ≤ 41 := by
      have := zcn s.bfs.keys fun w hw => by
        obtain ⟨⟨w', q⟩, hm, rfl⟩ := List.mem_map.mp hw
        exact (s.bfs.inch w' q hm).small sc
      simpa using this
    have X := X0.same s.same (by simp)
    have f1 := X.inst
    have f3 := s.mc
    have f4 := s.mp
    have f5 := s.self
    have f6 := s.lc
    have f7 := s.lp
    have f8 := s.lk
    have f9 := X.choices
    have hnl : (natsV places).length = places.length := by simp [natsV]
    have hpl := s.bfs.len
    walk_at "w"
    rw [hnl]
    refine dec_i (fun hk => ?_) fun hk => ?_
    · have hk' : k < places.length := by omega
      have hpk : places[k]? = some places[k] := by simp [hk']
      have hlt : places[k] < ch.length := by
        cases k with
        | zero =>
          have := s.bfs.head
          rw [hpk] at this
          rw [Option.some.inj this]; exact hrl
        | succ j =>
          obtain ⟨v, q, e1, e2⟩ := s.bfs.place hpk
          obtain ⟨l, h1, h2⟩ := I0.sub v _ e2
          exact (List.getElem?_eq_some_iff.mp h1).1
      have hp1000 : places[k] ≤ 1000 := by have := sc.1; omega
      have hch : ch[places[k]]? = some ch[places[k]] := by simp [hlt]
      obtain ⟨rl, hc1, hc2⟩ := X0.lists.get hch
      have hc3 := s.same.at hc2 (by simp)
      walk_at "s"
      refine ⟨_, zp2 X0 ok hrefs sc I0 hr (Nat.le_refl _) (Nat.le_succ _) hd hch hc2 s hpk (fun loc mh came places s' hk2 hall => ?_) (fun loc mh' mate' own' v hs' X' H' => ?_)⟩
      · have f8' := s'.lk
        walk_at "n"
        refine hK _ _ ⟨came, places, k + 1, by omega, ?_, ⟨?_, ?_, ?_, ?_, s'.same, s'.mc, s'.mp, s'.bfs, ?_⟩⟩
        · exact (List.getElem?_eq_some_iff.mp hk2).1
        · exact (miss rfl s'.self)
        · exact (miss rfl s'.lc)
        · exact (miss rfl s'.lp)
        · exact hit
        · intro i hi p hp v hv
          by_cases hik : i < k
          · exact s'.done i hik p hp v hv
          · have : i = k := by omega
            subst this
            rw [hk2] at hp; cases hp
            obtain ⟨l, e1, e2⟩ := hv
            rw [hch] at e1; cases e1
            exact hall v e2
      · apply contr_i
        exact o1 _ _ _ _ hs' X' H'
    · walk_at "n"
      have hgk : zb9 (.ref mh0.length) ((came.map (·.1)).map MV.int) mh := by
        have := zh6 f3 (by rw [ze0]; unfold BIG; omega)
        simpa [ownV, List.map_map, Function.comp_def] using this
      refine ⟨came.map (·.1), hgk, by simp; omega, fun ns hp hs => ?_⟩
      walk_at "w"
      refine o2 _ _ _ places ns (s.same.trans .append) ?_ zao (Nat.le_succ _) ?_ (s.lack sc I0 hr (by omega) hp hs)
      · rw [List.getElem?_append_left (zak f4)]; exact f4
      · exact s.same.le
  · rintro loc mh ⟨came, places, k, h1, h2, s⟩
    have hb : came.length ≤ 41 := by
      have := zcn s.bfs.keys fun w hw => by
        obtain ⟨⟨w', q⟩, hm, rfl⟩ := List.mem_map.mp hw
        exact (s.bfs.inch w' q hm).small sc
      simpa using this
    have := s.bfs.len
    omega
  · refine ⟨[], [root], 0, rfl, by simp, ?_, ?_, ?_, ?_, Same.append.trans .append, ?_, ?_, .start, by simp⟩
    · walk_at "ne"
    · walk_at "ne"
    · walk_at "ne"
    · show _ = some (MV.int 0); walk_at "ne"
    · show _ = some (MO.idict []); walk_at "ne"
    · show _ = some (MO.list [.int (root : Int)]); walk_at "ne"
noncomputable def seenV (l : List Int) : List (Int × MV) := l.map fun v => (v, MV.bool true)
theorem zs0 {l : List Int} {v : Int} : ((seenV l).any fun kv => decide (kv.1 = v)) = decide (v ∈ l) := by
  induction l with
  | nil => simp [seenV]
  | cons y l ih =>
    show (decide (y = v) || (seenV l).any _) = _
    rw [ih]
    by_cases h : y = v
    · simp [h]
    · simp [h]
      exact fun e => absurd e.symm h
theorem zql {l : List Int} {v : Int} (h : v ∉ l) : kset (seenV l) v (.bool true) = seenV (l ++ [v]) := by
  induction l with
  | nil => rfl
  | cons y l ih =>
    show kset ((y, MV.bool true) :: seenV l) v _ = _
    rw [zlp, if_neg (fun e => h (by simp [e])), ih (fun e => h (.tail _ e))]
    rfl
inductive Leads (ch : List (List Int)) (own : List (Int × Nat)) : Int → Prop
  | free {v : Int} : ag own v = none → Leads ch own v
  | step {v u : Int} {p : Nat} : ag own v = some p → inCh ch u p → Leads ch own u → Leads ch own v
structure Shut (ch : List (List Int)) (own : List (Int × Nat)) (v : Int) (places : List Nat) (few : List Int) : Prop where
  len : places.length = few.length
  nodup : places.Nodup
  fnodup : few.Nodup
  sorted : SortedL few
  mem : v ∈ few
  owned : ∀ w ∈ few, ∃ p ∈ places, ag own w = some p
  back : ∀ p ∈ places, ∃ w ∈ few, ag own w = some p
  shut : ∀ p ∈ places, ∃ l, ch[p]? = some l ∧ ∀ u ∈ l, u ∈ few
structure ClInv (ch : List (List Int)) (own : List (Int × Nat)) (v : Int) (dn seen st : List Int) (places : List Nat) : Prop where
  nodup : seen.Nodup
  perm : (dn ++ st).Perm seen
  small : ∀ w ∈ seen, -20 ≤ w ∧ w ≤ 20
  mem : v ∈ seen
  reach : ∀ w ∈ seen, Leads ch own w → Leads ch own v
  places : dn.map (ag own) = places.map some
structure ClSt (mh0 : MH) (M : MR) (ch : List (List Int)) (own : List (Int × Nat)) (v : Int) (rp rs rk : Nat) (loc : Loc) (mh : MH) (dn seen st : List Int) (places : List Nat) : Prop where
  self : loc "self" = some (.ref M.r)
  lp : loc "places" = some (.ref rp)
  ls : loc "seen" = some (.ref rs)
  lk : loc "stack" = some (.ref rk)
  same : Same [] mh0 mh
  mp : mh[rp]? = some (.list (natsV places))
  ms : mh[rs]? = some (.idict (seenV seen))
  mst : mh[rk]? = some (.list (intsV st))
  inv : ClInv ch own v dn seen st places
theorem ClInv.len {ch : List (List Int)} {own : List (Int × Nat)} {v : Int} {dn seen st : List Int} {places : List Nat} (h : ClInv ch own v dn seen st places) : places.length = dn.length ∧ dn.length + st.length = seen.length ∧ seen.length ≤ 41 := by
  have h1 := congrArg List.length h.places
  have h2 := h.perm.length_eq
  have h3 := zcn h.nodup h.small
  simp at h1 h2
  omega
theorem ClInv.push {ch : List (List Int)} {own : List (Int × Nat)} {v u w : Int} {p : Nat} {dn seen st : List Int} {places : List Nat} (h : ClInv ch own v dn seen st places) (sc : SmC ch) (hw : w ∈ seen) (hp : ag own w = some p) (hu : inCh ch u p) (hn : u ∉ seen) :
    ClInv ch own v dn (seen ++ [u]) (st ++ [u]) places where
  nodup := by rw [List.nodup_append]; exact ⟨h.nodup, by simp, fun a ha b hb e => by simp at hb; subst hb; subst e; exact hn ha⟩
  perm := by rw [← List.append_assoc]; exact h.perm.append_right _
  small := fun x hx => by
    rcases List.mem_append.mp hx with h1 | h1
    · exact h.small x h1
    · simp at h1; subst h1; exact hu.small sc
  mem := by simp [h.mem]
  reach := fun x hx hl => by
    rcases List.mem_append.mp hx with h1 | h1
    · exact h.reach x h1 hl
    · simp at h1; subst h1; exact h.reach w hw (.step hp hu hl)
  places := h.places
theorem zm9 {mh0 : MH} {M : MR} {ch : List (List Int)} {own : List (Int × Nat)} {v : Int} {rp rs rk : Nat} {Q : Fl → Loc → MH → Prop} (sc : SmC ch) (h1 : mh0.length ≤ rp) (h2 : mh0.length ≤ rs) (h3 : mh0.length ≤ rk) (d1 : rp ≠ rs) (d2 : rp ≠ rk) (d3 : rs ≠ rk)
    {w : Int} {p rl : Nat} {l : List Int} (hp : ag own w = some p) (hl : ch[p]? = some l) (hrl : mh0[rl]? = some (.list (intsV l)))
    {loc : Loc} {mh : MH} {dn seen st : List Int} {places : List Nat} (s : ClSt mh0 M ch own v rp rs rk loc mh dn seen st places) (hw : w ∈ dn) (hsh : ∀ z ∈ dn, z ≠ w → ∀ q, ag own z = some q → ∀ u, inCh ch u q → u ∈ seen)
    (on : ∀ loc mh seen st, ClSt mh0 M ch own v rp rs rk loc mh dn seen st places → (∀ z ∈ dn, ∀ q, ag own z = some q → ∀ u, inCh ch u q → u ∈ seen) → Q .next loc mh) :
    forI (.val (.ref rl)) (intsV l) (aName "u") zb1 (intsV l) loc Q mh := by
  refine zbv (fun rest loc mh => X4 fun seen st ld rest' => N5 (l = ld ++ rest') (rest = intsV rest') (ClSt mh0 M ch own v rp rs rk loc mh dn seen st places) ((∀ z ∈ dn, z ≠ w → ∀ q, ag own z = some q → ∀ u, inCh ch u q → u ∈ seen)) (∀ u ∈ ld, u ∈ seen)) ?_ ?_ ?_ _ _ _ ⟨seen, st, [], l, rfl, rfl, s, hsh, by simp⟩
  · rintro rest loc mh ⟨seen, st, ld, rest', -, -, s, -⟩
    exact s.same.at hrl (by simp)
  · rintro x rest loc mh K hK ⟨seen, st, ld, rest', e1, e2, s, hsh, hld⟩
    cases rest' with
    | nil => cases e2
    | cons u rest' =>
      cases e2
      have hin : inCh ch u p := ⟨l, hl, by rw [e1]; simp⟩
      have f2 := s.ls
      have f3 := s.lk
      have f4 := s.ms
      have f5 := s.mst
      have hlen := s.inv.len
      have hsl : (seenV seen).length ≤ BIG := by simp [seenV]; unfold BIG; omega
      have hkl : (intsV st).length ≤ BIG := by simp [intsV]; unfold BIG; omega
      have hws : w ∈ seen := s.inv.perm.mem_iff.mp (by simp [hw])
      walk_at "w"
      rw [zs0]
      refine ndec_i (fun hu => ?_) fun hu => ?_
      rotate_left
      · refine hK _ _ ⟨seen, st, ld ++ [u], rest', by rw [e1]; simp, rfl, ⟨?_, ?_, ?_, ?_, s.same, s.mp, f4, f5, s.inv⟩, hsh, ?_⟩
        · exact miss rfl s.self
        · exact miss rfl s.lp
        · exact miss rfl f2
        · exact miss rfl f3
        · intro z hz
          rcases List.mem_append.mp hz with h | h
          · exact hld z h
          · simp at h; subst h; exact hu
      · have dd1 : Df rs rk := d3
        have dd2 : Df rk rs := fun e => d3 e.symm
        have dd3 : Df rs rp := fun e => d1 e.symm
        have dd4 : Df rk rp := fun e => d2 e.symm
        have hks := zql hu
        walk_at "s"
        walk_at "n"
        have hS : Same [rs, rk] mh ((mh.set rs (.idict (seenV (seen ++ [u])))).set rk (.list (intsV st ++ [.int u]))) := (Same.set (by simp)).trans (.set (by simp))
        have g4 := zak f4
        have g5 := zak f5
        refine hK _ _ ⟨seen ++ [u], st ++ [u], ld ++ [u], rest', by rw [e1]; simp, rfl, ⟨?_, ?_, ?_, ?_, ?_, ?_, ?_, ?_, s.inv.push sc hws hp hin hu⟩, ?_, ?_⟩
        · exact miss rfl s.self
        · exact miss rfl s.lp
        · exact miss rfl f2
        · exact miss rfl f3
        · exact ((s.same.mono (by simp)).trans hS).old (by simp [h2, h3])
        · have := s.mp; walk_at "ne"
        · walk_at "ne"
        · rw [show intsV (st ++ [u]) = intsV st ++ [.int u] by simp]; walk_at "ne"
        · intro z hz hzw q hq x hx
          exact List.mem_append_left _ (hsh z hz hzw q hq x hx)
        · intro z hz
          rcases List.mem_append.mp hz with h | h
          · exact List.mem_append_left _ (hld z h)
          · simp at h; subst h; simp
  · rintro loc mh ⟨seen, st, ld, rest', e1, e2, s, hsh, hld⟩
    cases rest' with
    | nil =>
      simp at e1; subst e1
      refine on _ _ _ _ s fun z hz q hq u hu => ?_
      by_cases hzw : z = w
      · subst hzw
        rw [hp] at hq; cases hq
        obtain ⟨l', e3, e4⟩ := hu
        rw [hl] at e3; cases e3
        exact hld u e4
      · exact hsh z hz hzw q hq u hu
    | cons u rest' => cases e2
theorem MatchIs.refs_lt {mh : MH} {M : MR} {ch : List (List Int)} {mate : List (Option Int)} {own : List (Int × Nat)} (x : MatchIs mh M ch mate own) : ∀ i ∈ M.refs, i < mh.length := by
  intro i hi
  simp only [MR.refs, List.mem_cons] at hi
  rcases hi with rfl | rfl | rfl | rfl | hi
  · exact zak x.inst
  · exact zak x.choices
  · exact zak x.mate
  · exact zak x.owner
  · exact x.lists.lt i hi
noncomputable def zjv : MF := fun args Q mh => X5 fun M ch mate own v => N8 (args = [.ref M.r, .int v]) (MatchIs mh M ch mate own) (SmC ch) (MInv ch mate own) (-20 ≤ v) (v ≤ 20) ((∀ mh', Same [] mh mh' → Leads ch own v → Q .none mh')) (∀ mh' r1 r2 places few, Same [] mh mh' → mh'[r1]? = some (.list (natsV places)) → mh'[r2]? = some (.list (intsV few)) → mh.length ≤ r1 → mh.length ≤ r2 → Shut ch own v places few → Q (.tuple [.ref r1, .ref r2]) mh')
theorem ClInv.pop {ch : List (List Int)} {own : List (Int × Nat)} {v w : Int} {p : Nat} {dn seen st : List Int} {places : List Nat} (h : ClInv ch own v dn seen (st ++ [w]) places) (hp : ag own w = some p) : ClInv ch own v (dn ++ [w]) seen st (places ++ [p]) where
  nodup := h.nodup
  perm := by
    refine List.Perm.trans ?_ h.perm
    rw [List.append_assoc]
    exact List.Perm.append_left _ List.perm_append_comm
  small := h.small
  mem := h.mem
  reach := h.reach
  places := by simp [h.places, hp]
theorem ClInv.shut {ch : List (List Int)} {own : List (Int × Nat)} {v : Int} {mate : List (Option Int)} {dn seen : List Int} {places : List Nat} (h : ClInv ch own v dn seen [] places) (I : MInv ch mate own)
    (hs : ∀ z ∈ dn, ∀ q, ag own z = some q → ∀ u, inCh ch u q → u ∈ seen) {few : List Int} (hp : few.Perm seen) (so : SortedL few) : Shut ch own v places few := by
  have hd : dn.Perm seen := by simpa using h.perm
  have hdn : dn.Nodup := hd.nodup_iff.mpr h.nodup
  have hl := h.len
  have get : ∀ (i : Nat) p, places[i]? = some p → ∃ w, dn[i]? = some w ∧ ag own w = some p := by
    intro i p e
    have h1 : (dn.map (ag own))[i]? = (places.map some)[i]? := by rw [h.places]
    rw [List.getElem?_map, List.getElem?_map, e] at h1
    cases z : dn[i]? with
    | none => rw [z] at h1; cases h1
    | some w => rw [z] at h1; exact ⟨w, rfl, by simpa using h1⟩
  refine ⟨?_, ?_, hp.nodup_iff.mpr h.nodup, so, hp.mem_iff.mpr h.mem, fun w hw => ?_, fun p hp' => ?_, fun p hp' => ?_⟩
  · rw [hp.length_eq]; simp at hl; omega
  · rw [nd_iff]
    intro i j p hij e1 e2
    obtain ⟨w1, a1, b1⟩ := get i p e1
    obtain ⟨w2, a2, b2⟩ := get j p e2
    have c1 := (I.agree w1 p).mp b1
    have c2 := (I.agree w2 p).mp b2
    rw [c1] at c2
    simp only [Option.some.injEq] at c2
    subst c2
    exact nd_iff.mp hdn i j w1 hij a1 a2
  · have hw' : w ∈ dn := hd.mem_iff.mpr (hp.mem_iff.mp hw)
    obtain ⟨i, hi⟩ := List.getElem?_of_mem hw'
    have h1 : (dn.map (ag own))[i]? = (places.map some)[i]? := by rw [h.places]
    rw [List.getElem?_map, List.getElem?_map, hi] at h1
    cases z : places[i]? with
    | none => rw [z] at h1; cases h1
    | some p => rw [z] at h1; exact ⟨p, List.mem_of_getElem? z, by simpa using h1⟩
  · obtain ⟨i, hi⟩ := List.getElem?_of_mem hp'
    obtain ⟨w, a, b⟩ := get i p hi
    exact ⟨w, hp.mem_iff.mpr (hd.mem_iff.mp (List.mem_of_getElem? a)), b⟩
  · obtain ⟨i, hi⟩ := List.getElem?_of_mem hp'
    obtain ⟨w, a, b⟩ := get i p hi
    obtain ⟨l, e1, e2⟩ := I.sub w p b
    exact ⟨l, e1, fun u hu => hp.mem_iff.mpr (hs w (List.mem_of_getElem? a) p b u ⟨l, e1, hu⟩)⟩
theorem zqa : ∀ args Q mh, zjv args Q mh → mFun ["self", "v"] zb2 args Q mh := by
  rintro args Q mh0 ⟨M, ch, mate, own, v, rfl, X0, sc, I0, hv1, hv2, o1, o2⟩
  apply fun2_i
  walk_at "s"
  apply cont_i
  apply seq_i
  have a1 : mh0.length ≠ mh0.length + 1 := by omega
  have a2 : mh0.length ≠ mh0.length + 1 + 1 := by omega
  have a3 : mh0.length + 1 ≠ mh0.length + 1 + 1 := by omega
  refine ⟨43, while_i (fun n loc mh => X4 fun dn seen st places => N3 (n + dn.length = 43) (ClSt mh0 M ch own v mh0.length (mh0.length + 1) (mh0.length + 1 + 1) loc mh dn seen st places) ((∀ z ∈ dn, ∀ q, ag own z = some q → ∀ u, inCh ch u q → u ∈ seen))) ?_ ?_ _ _ _ ?_⟩
  · rintro n loc mh K hK ⟨dn, seen, st, places, hn, s, hsh⟩
    have hlen := s.inv.len
    have X := X0.same s.same (by simp)
    have f1 := X.inst
    have f2 := s.self
    have f3 := s.lp
    have f4 := s.ls
    have f5 := s.lk
    have f6 := s.mp
    have f7 := s.ms
    have f8 := s.mst
    have f9 := X.choices
    have f10 := X.owner
    walk_at "w"
    have k1 : Same [] mh (mh ++ [MO.list []]) := .append
    refine eq_list (b := []) (k1.at f8 (by simp)) zao ?_
    rcases List.eq_nil_or_concat st with rfl | ⟨st', w, rfl⟩
    · refine nyes_i rfl ?_
      have f7' := k1.at f7 (by simp)
      have f6' := k1.at f6 (by simp)
      walk_at "n"
      have hgk : zb9 (.ref (mh0.length + 1)) (seen.map MV.int) (mh ++ [MO.list []]) := by
        have := zh6 f7' (by simp [seenV]; unfold BIG; omega)
        simpa [seenV, List.map_map, Function.comp_def] using this
      refine ⟨seen, hgk, by omega, fun ns hp hs => ?_⟩
      walk_at "w"
      refine o2 _ _ _ places ns ((s.same.trans k1).trans .append) ?_ zao (Nat.le_refl _) ?_ (s.inv.shut I0 hsh hp hs)
      · rw [List.getElem?_append_left (zak f6')]; exact f6'
      · exact Nat.le_trans s.same.le k1.le
    · have hne : ¬ (st' ++ [w] = ([] : List Int)) := by simp
      simp only [List.concat_eq_append] at *
      refine nno_i hne ?_
      have k1' := s.same.trans k1
      replace f1 := k1.at f1 (by simp)
      replace f6 := k1.at f6 (by simp)
      replace f7 := k1.at f7 (by simp)
      replace f8 := k1.at f8 (by simp)
      replace f9 := k1.at f9 (by simp)
      replace f10 := k1.at f10 (by simp)
      clear X
      generalize mh ++ [MO.list []] = mh1 at *
      have hst : intsV (st' ++ [w]) = intsV st' ++ [.int w] := by simp [intsV]
      rw [hst] at f8
      have hc := X0.refs_lt
      have hcr := hc M.r (by simp [MR.refs])
      have hco := hc M.o (by simp [MR.refs])
      have hcc := hc M.c (by simp [MR.refs])
      have g8 := zak f8
      have g6 := zak f6
      have d1 : Df (mh0.length + 1 + 1) M.r := fun e => by omega
      have d2 : Df (mh0.length + 1 + 1) M.o := fun e => by omega
      have d3 : Df (mh0.length + 1 + 1) M.c := fun e => by omega
      have d4 : Df (mh0.length + 1 + 1) mh0.length := fun e => by omega
      have d5 : Df (mh0.length + 1 + 1) (mh0.length + 1) := fun e => by omega
      have d6 : Df mh0.length M.r := fun e => by omega
      have d7 : Df mh0.length M.o := fun e => by omega
      have d8 : Df mh0.length M.c := fun e => by omega
      have d9 : Df mh0.length (mh0.length + 1) := fun e => by omega
      have d10 : Df mh0.length (mh0.length + 1 + 1) := fun e => by omega
      have hws : w ∈ seen := s.inv.perm.mem_iff.mp (by simp)
      have hbs : (intsV st').length ≤ BIG := by simp [intsV] at hlen ⊢; unfold BIG; omega
      walk_at "s"
      have hS1 : Same [mh0.length + 1 + 1] mh1 (mh1.set (mh0.length + 1 + 1) (.list (intsV st'))) := .set (by simp)
      walk_at "n"
      rw [zks]
      cases how : ag own w with
      | none =>
        refine bnno_i rfl ?_
        walk_at "w"
        exact o1 _ (((k1'.mono (by simp)).trans hS1).old (by simp; omega)) (s.inv.reach w hws (.free how))
      | some p =>
        refine bnyes_i rfl ?_
        obtain ⟨l, hl1, hl2⟩ := I0.sub w p how
        obtain ⟨rl, hc1, hc2⟩ := X0.lists.get hl1
        have hp1000 : p ≤ 1000 := by have := (List.getElem?_eq_some_iff.mp hl1).1; have := sc.1; omega
        have hnp : (natsV places).length ≤ BIG := by simp [natsV]; unfold BIG; omega
        have hao : aget (ownV own) w = some (.int (p : Int)) := by rw [zin, how]; rfl
        walk_at "w"
        walk_at "n"
        rw [zjc]
        have hS2 : Same [mh0.length + 1 + 1, mh0.length] mh1 ((mh1.set (mh0.length + 1 + 1) (.list (intsV st'))).set mh0.length (.list (natsV (places ++ [p])))) := (Same.set (by simp)).trans (.set (by simp))
        have hS0 : Same [] mh0 ((mh1.set (mh0.length + 1 + 1) (.list (intsV st'))).set mh0.length (.list (natsV (places ++ [p])))) := ((k1'.mono (by simp)).trans hS2).old (by simp; omega)
        have hc3 := hS0.at hc2 (by simp)
        walk_at "n"
        refine ⟨_, zm9 (M := M) (w := w) sc (Nat.le_refl _) (Nat.le_succ _) (by omega) a1 a2 a3 how hl1 hc2 (seen := seen) (st := st') (dn := dn ++ [w]) (places := places ++ [p]) ⟨?_, ?_, ?_, ?_, hS0, ?_, ?_, ?_, s.inv.pop how⟩ (by simp) ?_ ?_⟩
        · exact miss rfl f2
        · exact miss rfl f3
        · exact miss rfl f4
        · exact miss rfl f5
        · walk_at "ne"
        · walk_at "ne"
        · walk_at "ne"
        · intro z hz hzw q hq u hu
          rcases List.mem_append.mp hz with h | h
          · exact hsh z h q hq u hu
          · simp at h; exact absurd h hzw
        · intro loc mh seen st s' hsh'
          exact hK _ _ ⟨dn ++ [w], seen, st, places ++ [p], by simp; omega, s', hsh'⟩
  · rintro loc mh ⟨dn, seen, st, places, h1, s, -⟩
    have := s.inv.len
    omega
  · refine ⟨[], [v], [v], [], rfl, ⟨?_, ?_, ?_, ?_, (Same.append.trans .append).trans .append, ?_, ?_, ?_, ⟨by simp, by simp, by simp; omega, by simp, fun w hw h => ?_, rfl⟩⟩, by simp⟩
    · walk_at "ne"
    · walk_at "ne"
    · walk_at "ne"
    · walk_at "ne"
    · show _ = some (MO.list []); walk_at "ne"
    · show _ = some (MO.idict [(v, .bool true)]); walk_at "ne"
    · show _ = some (MO.list [.int v]); walk_at "ne"
    · simp at hw; subst hw; exact h
noncomputable def neL (x : Nat) (v : Int) : Lit := ⟨x, "!=", v⟩
noncomputable def wallIn (few : List Int) (a b : Int) (v : Int) : Bool := decide (a < v) && decide (v < b) && decide (v ∉ few)
noncomputable def wallOf (few : List Int) (a b : Int) (x : Nat) (l : List Int) : List Lit := [⟨x, ">=", a⟩, ⟨x, "<=", b⟩] ++ (l.filter (wallIn few a b)).map (neL x)
noncomputable def wallsOf (firsts : List Dom) (xs places : List Nat) (few : List Int) (a b : Int) : List Lit := places.flatMap fun p => wallOf few a b (xs.getD p 0) (vals (firsts.getD (xs.getD p 0) []))
theorem zra {Q : Fl → Loc → MH → Prop} {mh0 : MH} {few l : List Int} {a b : Int} {x rf rv rfo : Nat} {acc : List Lit} {loc : Loc} (h0 : few[0]? = some a) (hz : few.getLast? = some b) (hl1 : loc "few" = some (.ref rf)) (hl2 : loc "x" = some (.int (x : Int))) (hl3 : loc "found" = some (.ref rfo))
    (m1 : mh0[rf]? = some (.list (intsV few))) (m2 : mh0[rv]? = some (.list (intsV l))) (m3 : mh0[rfo]? = some (.list (acc.map Lit.v))) (d1 : rf ≠ rfo) (d2 : rv ≠ rfo) (hbig : acc.length + l.length ≤ BIG)
    (o : ∀ loc' mh', loc' "few" = some (.ref rf) → loc' "found" = some (.ref rfo) → (∀ y : Str, y ≠ "v" → loc' y = loc y) → Same [rfo] mh0 mh' → mh'[rfo]? = some (.list ((acc ++ (l.filter (wallIn few a b)).map (neL x)).map Lit.v)) → Q .next loc' mh') :
    forI (.val (.ref rv)) (intsV l) (aName "v") zbg (intsV l) loc Q mh0 := by
  refine zbv (fun rest loc' mh => X2 fun dn rest' => N5 (l = dn ++ rest') (rest = intsV rest') ((∀ y : Str, y ≠ "v" → loc' y = loc y)) (Same [rfo] mh0 mh) (mh[rfo]? = some (.list ((acc ++ (dn.filter (wallIn few a b)).map (neL x)).map Lit.v)))) ?_ ?_ ?_ _ _ _ ⟨[], l, rfl, rfl, fun _ _ => rfl, .refl, by simpa using m3⟩
  · rintro rest loc' mh ⟨dn, rest', -, -, -, hs, -⟩
    exact hs.at m2 (by simp; exact d2)
  · rintro v rest loc' mh K hK ⟨dn, rest', e1, e2, hloc, hs, hm⟩
    cases rest' with
    | nil => cases e2
    | cons u rest' =>
      cases e2
      have f1 : loc' "few" = some (.ref rf) := by rw [hloc _ (by simp [str_inj])]; exact hl1
      have f2 : loc' "x" = some (.int (x : Int)) := by rw [hloc _ (by simp [str_inj])]; exact hl2
      have f3 : loc' "found" = some (.ref rfo) := by rw [hloc _ (by simp [str_inj])]; exact hl3
      have f4 := hs.at m1 (by simp; exact d1)
      have hlc : ∀ y : Str, y ≠ "v" → (upd loc' "v" (.int u)) y = loc y := fun y hy => by rw [← hloc y hy]; simp [upd, hy]
      have hle : (acc ++ (dn.filter (wallIn few a b)).map (neL x)).length ≤ BIG := by
        have h1 := List.length_filter_le (wallIn few a b) dn
        have h2 := congrArg List.length e1
        simp at h2 ⊢
        omega
      have fin0 : wallIn few a b u = false → K (upd loc' "v" (.int u)) mh := fun hw => hK _ _ ⟨dn ++ [u], rest', by rw [e1]; simp, rfl, hlc, hs, by simpa [hw] using hm⟩
      clear hloc m3 hbig
      have hle' : ((acc ++ (dn.filter (wallIn few a b)).map (neL x)).map Lit.v).length ≤ BIG := by rw [List.length_map]; exact hle
      walk_at "w"
      refine dec_i (fun c1 => ?_) fun c1 => ?_
      · walk_at "w"
        refine dec_i (fun c2 => ?_) fun c2 => ?_
        · walk_at "w"
          refine ndec_i (fun c3 => ?_) fun c3 => ?_
          · have hw : wallIn few a b u = true := by simp [wallIn, c1, c2, c3]
            walk_at "w"
            refine hK _ _ ⟨dn ++ [u], rest', by rw [e1]; simp, rfl, hlc, hs.trans (.set (by simp)), ?_⟩
            rw [get_set hm]
            simp [hw, neL, Lit.v]
          · walk_at "w"
            exact fin0 (by simp [wallIn, c3])
        · walk_at "w"
          exact fin0 (by simp [wallIn, c2])
      · walk_at "w"
        exact fin0 (by simp [wallIn, c1])
  · rintro loc' mh ⟨dn, rest', e1, e2, hloc, hs, hm⟩
    cases rest' with
    | nil =>
      simp at e1; subst e1
      exact o _ _ (by rw [hloc _ (by simp [str_inj])]; exact hl1) (by rw [hloc _ (by simp [str_inj])]; exact hl3) hloc hs hm
    | cons u rest' => cases e2
theorem zfb {few l : List Int} {a b : Int} {x : Nat} : (wallOf few a b x l).length ≤ 2 + l.length := by
  have := List.length_filter_le (wallIn few a b) l
  simp [wallOf]; omega
theorem zds {firsts : List Dom} {xs ps : List Nat} {p : Nat} {few : List Int} {a b : Int} : wallsOf firsts xs (p :: ps) few a b = wallOf few a b (xs.getD p 0) (vals (firsts.getD (xs.getD p 0) [])) ++ wallsOf firsts xs ps few a b := rfl
theorem zep {firsts : List Dom} {xs ps qs : List Nat} {few : List Int} {a b : Int} : wallsOf firsts xs (ps ++ qs) few a b = wallsOf firsts xs ps few a b ++ wallsOf firsts xs qs few a b := by simp [wallsOf]
noncomputable def t_walls : MF := fun args Q mh => X15 fun ar R doms firsts trail marks fl cl xs rp places rf few a b => N10 (args = [.ref ar, .ref R.r, .ref rp, .ref rf]) (mh[ar]? = some (advO (natsV xs))) (StoreIs mh R doms firsts trail marks fl cl) (mh[rp]? = some (.list (natsV places))) (mh[rf]? = some (.list (intsV few))) (few[0]? = some a) (few.getLast? = some b) (places.length ≤ 50) ((∀ p ∈ places, p ≤ 1000 ∧ ∃ x, xs[p]? = some x ∧ x ≤ 1000 ∧ ∃ d, firsts[x]? = some d ∧ SmD d)) (∀ mh', Same [] mh mh' → Q (.tuple ((wallsOf firsts xs places few a b).map Lit.v)) mh')
theorem zrs : ∀ args Q mh, t_walls args Q mh → mFun ["self", "store", "places", "few"] (zbj zaq zav) args Q mh := by
  rintro args Q mh0 ⟨ar, R, doms, firsts, trail, marks, fl, cl, xs, rp, places, rf, few, a, b, rfl, hA, S0, hp, hf, h0, hz, hl, hpl, o⟩
  apply fun4_i
  walk_at "s"
  walk_at "n"
  have hs0 : Same [] mh0 (mh0 ++ [MO.list []]) := .append
  refine ⟨_, zbv (fun rest loc mh => X2 fun dn rest' => N9 (places = dn ++ rest') (rest = natsV rest') (loc "self" = some (.ref ar)) (loc "store" = some (.ref R.r)) (loc "few" = some (.ref rf)) (loc "found" = some (.ref mh0.length)) (Same [] mh0 mh) (mh[mh0.length]? = some (.list ((wallsOf firsts xs dn few a b).map Lit.v))) ((wallsOf firsts xs dn few a b).length ≤ dn.length * 1642)) ?_ ?_ ?_ _ _ _ ⟨[], places, rfl, rfl, ?_, ?_, ?_, ?_, hs0, zao, by simp [wallsOf]⟩⟩
  · rintro rest loc mh ⟨dn, rest', -, -, -, -, -, -, hs, -⟩
    exact hs.at hp (by simp)
  · rintro v rest loc mh K hK ⟨dn, rest', e1, e2, l1, l2, l3, l4, hs, hm, hle⟩
    cases rest' with
    | nil => cases e2
    | cons p rest' =>
      cases e2
      obtain ⟨hp1, x, hx, hx1, d, hd, sm⟩ := hpl p (by rw [e1]; simp)
      have S := S0.same hs (by simp)
      have hA' := hs.at hA (by simp)
      have hf' := hs.at hf (by simp)
      have e3 := S.inst
      have hvl := zcj sm.run
      have hdl := sm.len
      have hdn := congrArg List.length e1
      simp only [List.length_append, List.length_cons] at hdn
      have g := zak hm
      walk_at "s"
      walk_at "n"
      generalize hmh1 : ((mh ++ _).set mh0.length _) = mh1
      have hS1 : Same [mh0.length] mh mh1 := by rw [← hmh1]; exact Same.append.trans (.set (by simp))
      have hm1 : mh1[mh0.length]? = some (.list ((wallsOf firsts xs dn few a b ++ [Lit.mk x ">=" a, Lit.mk x "<=" b]).map Lit.v)) := by
        rw [← hmh1, get_set (got_old hm)]
        simp [Lit.v]
      clear hmh1
      have hs1 : Same [] mh0 mh1 := ((hs.mono (by simp)).trans hS1).old (by simp)
      have S1 := S0.same hs1 (by simp)
      have e3 := S1.inst
      walk_at "n"
      refine ⟨R, doms, firsts, trail, marks, fl, cl, d, x, rfl, S1, hx1, hd, d, rfl, sm, fun mh2 rv hs2 hrv hrvl => ?_⟩
      walk_at "w"
      have hm2 := hs2.at hm1 (by simp)
      have hsx : Same [] mh0 mh2 := hs1.trans hs2
      have hg : firsts.getD x [] = d := by simp [hd]
      have hgx : xs.getD p 0 = x := by simp [hx]
      have l0 : mh0.length < mh1.length := zak hm1
      have l9 := zak hf
      refine ⟨_, zra (x := x) (rf := rf) (rfo := mh0.length) h0 hz (by walk_at "ne") (by walk_at "ne") (by walk_at "ne") (hsx.at hf (by simp)) hrv hm2 (by omega) (by omega) (by simp; unfold BIG; omega) fun loc' mh' k1 k2 k3 k4 k5 => ?_⟩
      refine hK _ _ ⟨dn ++ [p], rest', by rw [e1]; simp, rfl, ?_, ?_, k1, k2, ((hsx.mono (by simp)).trans k4).old (by simp), ?_, ?_⟩
      · rw [k3 _ (by simp [str_inj])]; exact miss rfl l1
      · rw [k3 _ (by simp [str_inj])]; exact miss rfl l2
      · rw [k5, zep, zds, hgx, hg]
        simp [wallOf, wallsOf]
      · rw [zep, zds, hgx, hg]
        have := zfb (few := few) (l := vals d) (a := a) (b := b) (x := x)
        have hw0 : wallsOf firsts xs [] few a b = [] := rfl
        simp only [hw0, List.length_append, List.length_cons, List.length_nil]
        omega
  · rintro loc mh ⟨dn, rest', e1, e2, l1, l2, l3, l4, hs, hm, hle⟩
    cases rest' with
    | nil =>
      simp at e1; subst e1
      have hb : ((wallsOf firsts xs places few a b).map Lit.v).length ≤ BIG := by rw [List.length_map]; unfold BIG; omega
      walk_at "n"
      exact o _ hs
    | cons u rest' => cases e2
  · walk_at "ne"
  · walk_at "ne"
  · walk_at "ne"
  · walk_at "ne"
noncomputable def keepsB (l : Lit) (v : Int) : Bool := if l.sign = ("!=" : Str) then decide (v ≠ l.k) else if l.sign = ("<=" : Str) then decide (v ≤ l.k) else decide (l.k ≤ v)
noncomputable def t_keeps : MF := fun args Q mh => X2 fun l v => N3 (args = [Lit.v l, .int v]) (l.plain) (Q (.bool (keepsB l v)) mh)
theorem zru : ∀ args Q mh, t_keeps args Q mh → mFun ["literal", "v"] zh1 args Q mh := by
  rintro args Q mh ⟨⟨x, sign, k⟩, v, rfl, hp, q⟩
  apply fun2_i
  simp only [Lit.plain] at hp
  simp only [keepsB] at q
  rcases hp with rfl | rfl | rfl
  · simp only [str_inj, String.reduceEq, if_false, if_true] at q
    walk_at "s"
    walk_at "n"
    exact q
  · simp only [str_inj, String.reduceEq, if_false, if_true] at q
    walk_at "s"
    walk_at "n"
    exact q
  · simp only [str_inj, String.reduceEq, if_false, if_true] at q
    walk_at "s"
    have : (decide (v = k) == false) = decide (v ≠ k) := by by_cases h : v = k <;> simp [h]
    have e : decide (("!=" : Str) = ("=" : Str)) = false := decide_eq_false (str_ne (by kernel_rfl!))
    rw [e, this]; exact q
noncomputable def leftL (nums : List Int) (ls : List Lit) (x : Int) : List Int := nums.filter fun v => (ls.filter fun l => decide (l.x = x) && !keepsB l v).isEmpty
noncomputable def t_left : MF := fun args Q mh => X5 fun rn nums lv ls x => N7 (args = [.ref rn, lv, .int x]) (mh[rn]? = some (.list (intsV nums))) (iterOk (.val lv) (ls.map Lit.v) mh) ((∀ l ∈ ls, l.plain)) (nums.length ≤ BIG) (ls.length ≤ BIG) (∀ mh' r, Same [] mh mh' → mh'[r]? = some (.list (intsV (leftL nums ls x))) → mh.length ≤ r → Q (.ref r) mh')
theorem ok_left : ∀ args Q mh, t_left args Q mh → mFun ["numbers", "literals", "x"] (zjo t_keeps) args Q mh := by
  rintro args Q mh0 ⟨rn, nums, lv, ls, x, rfl, hn, hi, hp, l1, l2, o⟩
  apply fun3_i
  walk_at "w"
  refine ⟨_, za9 (fun loc => loc "literals" = some lv ∧ loc "x" = some (.int x)) MV.int (fun v => (ls.filter fun l => decide (l.x = x) && !keepsB l v).isEmpty) MV.int nums ?_ l1 ?_ ?_ ?_⟩
  · exact hn
  · rintro v hv loc ⟨e1, e2⟩
    refine ⟨upd loc "v" (.int v), rfl, ⟨miss rfl e1, miss rfl e2⟩, fun mh hs => ⟨fun R o => ?_, fun _ R o => ?_⟩⟩
    · walk_at "w"
      refine ⟨⟨_, zd4 hi hs⟩, ls.map Lit.v, ?_⟩
      refine za9 (fun loc => loc "v" = some (.int v) ∧ loc "x" = some (.int x)) Lit.v (fun l => decide (l.x = x) && !keepsB l v) (fun _ => .int 1) ls (zd4 hi hs) l2 ?_ ?_ ?_
      · rintro l hl loc ⟨e1, e2⟩
        refine ⟨upd loc "one" l.v, rfl, ⟨miss rfl e1, miss rfl e2⟩, fun mh hs => ⟨fun R o => ?_, fun _ R o => ?_⟩⟩
        · have hpl := hp l hl
          walk_at "w"
          refine dec_i (fun hx => ?_) fun hx => ?_
          · have o1 : R (!keepsB l v) mh := by simpa [hx] using o mh .refl
            walk_at "w"
            refine ⟨l, v, rfl, hpl, ?_⟩
            cases hkb : keepsB l v
            · rw [hkb] at o1; walk_at "w"; exact o1
            · rw [hkb] at o1; walk_at "w"; exact o1
          · have o1 : R false mh := by simpa [hx] using o mh .refl
            walk_at "w"
            exact o1
        · walk_at "w"
          exact o _ .refl
      · exact ⟨by walk_at "ne", by walk_at "ne"⟩
      · intro loc' mh' hs'
        walk_at "w"
        refine eq_list (a := (ls.filter fun l => decide (l.x = x) && !keepsB l v).map fun _ => 1) (b := []) ?_ ?_ ?_
        · rw [show intsV ((ls.filter fun l => decide (l.x = x) && !keepsB l v).map fun _ => 1) = (ls.filter fun l => decide (l.x = x) && !keepsB l v).map fun _ => MV.int 1 by simp]; walk_at "ne"
        · show _ = some (MO.list []); walk_at "ne"
        · have : decide (((ls.filter fun l => decide (l.x = x) && !keepsB l v).map fun _ => (1 : Int)) = []) = (ls.filter fun l => decide (l.x = x) && !keepsB l v).isEmpty := by
            cases (ls.filter fun l => decide (l.x = x) && !keepsB l v) <;> simp
          rw [this]
          exact o _ (hs'.trans (Same.append.trans .append))
    · walk_at "w"
      exact o _ .refl
  · exact ⟨by walk_at "ne", by walk_at "ne"⟩
  · intro loc' mh' hs
    walk_at "w"
    exact o _ _ (hs.trans .append) zao hs.le
structure Rows (mh : MH) (r : Nat) (cs : List Nat) (F : List (List Int)) : Prop where
  row : mh[r]? = some (.list (cs.map .ref))
  lists : Lists mh cs F
theorem Rows.same {mh mh' : MH} {r : Nat} {cs : List Nat} {F : List (List Int)} {S : List Nat} (x : Rows mh r cs F) (s : Same S mh mh') (h : ∀ i ∈ r :: cs, i ∉ S) : Rows mh' r cs F :=
  ⟨s.at x.row (h _ (.head _)), x.lists.same s fun i hi => h i (.tail _ hi)⟩
theorem Rows.get {mh : MH} {r : Nat} {cs : List Nat} {F : List (List Int)} (x : Rows mh r cs F) {i : Nat} {l : List Int} (h : F[i]? = some l) : ∃ q, cs[i]? = some q ∧ mh[q]? = some (MO.list (intsV l)) := x.lists.get h
structure SmL (ls : List Lit) : Prop where
  len : ls.length ≤ BIG
  plain : ∀ l ∈ ls, l.plain
noncomputable def saidOk (ls : List Lit) (xs ps : List Nat) (few : List Int) (F : List (List Int)) : Prop :=
  (∀ l ∈ ls, ∃ p ∈ ps, ∃ x : Nat, xs[p]? = some x ∧ l.x = x) ∧ ∀ p ∈ ps, ∃ x : Nat, xs[p]? = some x ∧ ∃ l, F[x]? = some l ∧ leftL l ls x = l.filter fun v => decide (v ∈ few)
noncomputable def za4 : MF := fun args Q mh => X9 fun ls xs rp ps rf few rF cs F => N11 (args = [.tuple (ls.map Lit.v), .tuple (natsV xs), .ref rp, .ref rf, .ref rF]) (mh[rp]? = some (.list (natsV ps))) (mh[rf]? = some (.list (intsV few))) (Rows mh rF cs F) (SmL ls) (ps.length ≤ 1000) ((∀ p ∈ ps, p ≤ 1000)) ((∀ x ∈ xs, x ≤ 1000)) ((∀ l ∈ F, l.length ≤ 2000)) (saidOk ls xs ps few F) (∀ mh', Same [] mh mh' → Q (.bool true) mh')
theorem zoo : ∀ args Q mh, za4 args Q mh → mFun ["told", "scope", "places", "few", "firsts"] (zfq t_left) args Q mh := by
  rintro args Q mh0 ⟨ls, xs, rp, ps, rf, few, rF, cs, F, rfl, hp, hf, hF, sl, l1, l2, l3, l4, ⟨k1, k2⟩, o⟩
  apply fun5_i
  walk_at "s"
  refine ⟨_, za9 (fun loc => loc "scope" = some (.tuple (natsV xs))) (fun (p : Nat) => MV.int (p : Int)) (fun _ => true) (fun p => .int ((xs.getD p 0 : Nat) : Int)) ps ?_ (by unfold BIG; omega) ?_ ?_ ?_⟩
  · exact hp
  · intro p hpm loc e1
    refine ⟨upd loc "place" (.int (p : Int)), rfl, miss rfl e1, fun mh hs => ⟨fun R o => o _ .refl, fun _ R o => ?_⟩⟩
    obtain ⟨x, hx, -⟩ := k2 p hpm
    have := l2 p hpm
    walk_at "w"
    have := o _ .refl
    simpa [hx] using this
  · walk_at "ne"
  · intro loc' mh1 hs1
    apply cont_i
    have hfl : List.filter (fun _ => true) ps = ps := by simp
    rw [hfl]
    have hnm : (ps.map fun p => MV.int ((xs.getD p 0 : Nat) : Int)) = intsV (ps.map fun p => ((xs.getD p 0 : Nat) : Int)) := by simp [intsV]
    rw [hnm]
    have hsn : Same [] mh0 (mh1 ++ [MO.list (intsV (ps.map fun p => ((xs.getD p 0 : Nat) : Int)))]) := hs1.trans .append
    have hN : (mh1 ++ [MO.list (intsV (ps.map fun p => ((xs.getD p 0 : Nat) : Int)))])[mh1.length]? = some (.list (intsV (ps.map fun p => ((xs.getD p 0 : Nat) : Int)))) := zao
    have hlt := zak hN
    generalize mh1 ++ [MO.list (intsV (ps.map fun p => ((xs.getD p 0 : Nat) : Int)))] = mh2 at *
    generalize mh1.length = rn at *
    walk_at "s"
    refine ⟨_, za9 (fun loc => loc "named" = some (.ref rn)) Lit.v (fun _ => false) (fun _ => .int 1) ls ?_ sl.len ?_ ?_ ?_⟩
    · rfl
    · rintro ⟨lx, sg, k⟩ hl loc e1
      refine ⟨upd loc "one" (Lit.v ⟨lx, sg, k⟩), rfl, miss rfl e1, fun mh hs => ⟨fun R o => ?_, fun h => by cases h⟩⟩
      have hN' := hs.at hN (by simp)
      walk_at "w"
      have hin : lx ∈ ps.map fun p => ((xs.getD p 0 : Nat) : Int) := by
        obtain ⟨p, h1, x, h2, h3⟩ := k1 _ hl
        exact List.mem_map.mpr ⟨p, h1, by simp only at h3; rw [h3]; simp [h2]⟩
      simp only [hin, decide_true, Bool.not_true]
      exact o _ .refl
    · walk_at "ne"
    · intro loc3 mh3 hs3
      have hfl : (ls.filter fun _ => false) = [] := by simp
      rw [hfl]
      walk_at "w"
      refine eq_list (a := []) (b := []) (by show _ = some (MO.list (List.map (fun _ => MV.int 1) ([] : List Lit))); walk_at "ne") (by show _ = some (MO.list []); walk_at "ne") (nyes_i rfl ?_)
      walk_at "w"
      apply cont_i
      have hs4 : Same [] mh2 (mh3 ++ [MO.list (List.map (fun _ => MV.int 1) ([] : List Lit))] ++ [MO.list []]) := (hs3.trans .append).trans .append
      have hs5 := hsn.trans hs4
      have hN' := hs4.at hN (by simp)
      generalize mh3 ++ [MO.list (List.map (fun _ => MV.int 1) ([] : List Lit))] ++ [MO.list []] = mh4 at *
      walk_at "s"
      refine ⟨_, zbv (fun rest loc mh => X2 fun dn rest' => N6 (ps = dn ++ rest') (rest = intsV (rest'.map fun p => ((xs.getD p 0 : Nat) : Int))) (loc "told" = some (.tuple (ls.map Lit.v))) (loc "few" = some (.ref rf)) (loc "firsts" = some (.ref rF)) (Same [] mh4 mh)) ?_ ?_ ?_ _ _ _ ⟨[], ps, rfl, rfl, ?_, ?_, ?_, .refl⟩⟩
      · rintro rest loc mh ⟨dn, rest', -, -, -, -, -, hs⟩
        exact hs.at hN' (by simp)
      · rintro v rest loc mh K hK ⟨dn, rest', e1, e2, g1, g2, g3, hs⟩
        cases rest' with
        | nil => cases e2
        | cons p rest' =>
          cases e2
          obtain ⟨x, hx, l, hl, heq⟩ := k2 p (by rw [e1]; simp)
          have hxg : xs.getD p 0 = x := by simp [hx]
          simp only [hxg]
          have hs6 := hs5.trans hs
          have hx3 := l3 x (List.mem_of_getElem? hx)
          have hF' := hF.same hs6 (by simp)
          have hf' := hs6.at hf (by simp)
          have hrow := hF'.row
          obtain ⟨q, hq1, hq2⟩ := hF'.get hl
          have hll := l4 l (List.mem_of_getElem? hl)
          walk_at "w"
          refine ⟨q, l, .tuple (ls.map Lit.v), ls, x, rfl, hq2, rfl, sl.plain, by unfold BIG; omega, sl.len, fun mh5 r hs7 hr hrl => ?_⟩
          have hF5 := hF'.same hs7 (by simp)
          have hrow5 := hF5.row
          have hq5 := hs7.at hq2 (by simp)
          have hf5 := hs7.at hf' (by simp)
          walk_at "w"
          refine ⟨_, za9 (fun loc => loc "few" = some (.ref rf)) MV.int (fun v => decide (v ∈ few)) MV.int l ?_ (by unfold BIG; omega) ?_ ?_ ?_⟩
          · exact hq5
          · intro v hv loc g1
            refine ⟨upd loc "v" (.int v), rfl, miss rfl g1, fun mh hs => ⟨fun R o => ?_, fun _ R o => ?_⟩⟩
            · have hf6 := hs.at hf5 (by simp)
              walk_at "w"
              exact o _ .refl
            · walk_at "w"
              exact o _ .refl
          · walk_at "ne"
          · intro loc7 mh7 hs8
            refine eq_list (a := leftL l ls x) (b := l.filter fun v => decide (v ∈ few)) ?_ zao ?_
            · exact (hs8.trans .append).at hr (by simp)
            · refine nyes_i heq ?_
              exact hK _ _ ⟨dn ++ [p], rest', by rw [e1]; simp, rfl, miss rfl g1, miss rfl g2, miss rfl g3, hs.trans (hs7.trans (hs8.trans .append))⟩
      · rintro loc mh ⟨dn, rest', e1, e2, -, -, -, hs⟩
        walk_at "n"
        exact o _ (hs5.trans hs)
      · walk_at "ne"
      · walk_at "ne"
      · walk_at "ne"
noncomputable def t_is_so : MF := fun args Q mh => X12 fun ls xs rp ps rf few rF cs F rN ds N => N14 (args = [.tuple (ls.map Lit.v), .tuple (natsV xs), .tuple [.ref rp, .ref rf], .ref rF, .ref rN]) (mh[rp]? = some (.list (natsV ps))) (mh[rf]? = some (.list (intsV few))) (Rows mh rF cs F) (Rows mh rN ds N) (SmL ls) (ps.length ≤ 1000) ((∀ p ∈ ps, p ≤ 1000)) ((∀ x ∈ xs, x ≤ 1000)) ((∀ l ∈ F, l.length ≤ 2000)) ((∀ l ∈ N, l.length ≤ 2000)) (saidOk ls xs ps few F) ((∀ l ∈ ls, ∃ x : Nat, l.x = x ∧ x ≤ 1000 ∧ ∃ row, N[x]? = some row ∧ leftL row [l] x = row)) (∀ mh', Same [] mh mh' → Q (.bool true) mh')
theorem zrv : ∀ args Q mh, t_is_so args Q mh → mFun ["told", "scope", "found", "firsts", "now"] (zh2 t_left za4) args Q mh := by
  rintro args Q mh0 ⟨ls, xs, rp, ps, rf, few, rF, cs, F, rN, ds, N, rfl, hp, hf, hF, hN, sl, l1, l2, l3, l4, l5, hsaid, k3, o⟩
  apply fun5_i
  walk_at "s"
  refine ⟨_, za9 (fun loc => loc "now" = some (.ref rN)) Lit.v (fun _ => false) (fun _ => .int 1) ls ?_ sl.len ?_ ?_ ?_⟩
  · rfl
  · rintro ⟨lx, sg, k⟩ hl loc e1
    obtain ⟨x, hx, hx1, row, hr, heq⟩ := k3 _ hl
    have hpl := sl.plain _ hl
    refine ⟨upd loc "one" (Lit.v ⟨lx, sg, k⟩), rfl, miss rfl e1, fun mh hs => ⟨fun R o => ?_, fun h => by cases h⟩⟩
    have hN' := hN.same hs (by simp)
    have hrow := hN'.row
    obtain ⟨q, hq1, hq2⟩ := hN'.get hr
    have hrl := l5 row (List.mem_of_getElem? hr)
    simp only at hx; subst hx
    walk_at "w"
    have hs1 : Same [] mh (mh ++ [MO.list [MV.tuple [.int x, .str sg, .int k]]]) := .append
    refine ⟨q, row, .ref mh.length, [⟨x, sg, k⟩], x, rfl, hs1.at hq2 (by simp), zao, by simpa using hpl, by unfold BIG; omega, by simp; unfold BIG; omega, fun mh2 r hs2 h2 hrl2 => ?_⟩
    have hN2 := hN'.same (hs1.trans hs2) (by simp)
    have hrow2 := hN2.row
    walk_at "w"
    refine eq_list (a := leftL row [⟨x, sg, k⟩] x) (b := row) h2 ((hs1.trans hs2).at hq2 (by simp)) ?_
    simp only [heq, decide_true, Bool.not_true]
    exact o _ (hs1.trans hs2)
  · walk_at "ne"
  · intro loc3 mh3 hs3
    have hfl : (ls.filter fun _ => false) = [] := by simp
    rw [hfl]
    walk_at "w"
    refine eq_list (a := []) (b := []) (by show _ = some (MO.list (List.map (fun _ => MV.int 1) ([] : List Lit))); walk_at "ne") (by show _ = some (MO.list []); walk_at "ne") (nyes_i rfl ?_)
    walk_at "w"
    have hs4 : Same [] mh0 (mh3 ++ [MO.list (List.map (fun _ => MV.int 1) ([] : List Lit))] ++ [MO.list []]) := (hs3.trans .append).trans .append
    generalize mh3 ++ [MO.list (List.map (fun _ => MV.int 1) ([] : List Lit))] ++ [MO.list []] = mh4 at *
    walk_at "n"
    exact ⟨ls, xs, rp, ps, rf, few, rF, cs, F, rfl, hs4.at hp (by simp), hs4.at hf (by simp), hF.same hs4 (by simp), sl, l1, l2, l3, l4, hsaid, fun mh' hs => o _ (hs4.trans hs)⟩
structure Cask (mh : MH) (r rc : Nat) (cells : List Int) (n : Nat) : Prop where
  cask : mh[r]? = some (.sdict [("cells", .ref rc), ("drunk", .int (n : Int))])
  cells : mh[rc]? = some (.list (intsV cells))
theorem Cask.same {mh mh' : MH} {r rc : Nat} {cells : List Int} {n : Nat} {S : List Nat} (x : Cask mh r rc cells n) (s : Same S mh mh') (h1 : r ∉ S) (h2 : rc ∉ S) : Cask mh' r rc cells n := ⟨s.at x.cask h1, s.at x.cells h2⟩
noncomputable def t_sip : MF := fun args Q mh => X5 fun r rc cells n (m : Nat) => N8 (args = [.ref r, .int (m : Int)]) (Cask mh r rc cells n) (r ≠ rc) (n ≤ 5000) (cells.length ≤ 1000) ((∀ v ∈ cells, SmallI v)) (0 < m) (∀ (v : Nat) mh', v < m → Same [r] mh mh' → Cask mh' r rc cells (n + 1) → Q (.int (v : Int)) mh')
theorem ok_sip : ∀ args Q mh, t_sip args Q mh → mFun ["cask", "many"] zlm args Q mh := by
  rintro args Q mh0 ⟨r, rc, cells, n, m, rfl, ⟨c1, c2⟩, hne, hn, hl, hsm, hm, o⟩
  have d1 : Df r rc := hne
  apply fun2_i
  walk_at "s"
  have hlc : (intsV cells).length = cells.length := by simp [intsV]
  have hS : Same [r] mh0 (mh0.set r (.sdict [("cells", .ref rc), ("drunk", .int ((n : Int) + 1))])) := .set (by simp)
  have e1 : (mh0.set r (.sdict [("cells", .ref rc), ("drunk", .int ((n : Int) + 1))]))[r]? = some (.sdict [("cells", .ref rc), ("drunk", .int ((n : Int) + 1))]) := get_set c1
  have e2 : (mh0.set r (.sdict [("cells", .ref rc), ("drunk", .int ((n : Int) + 1))]))[rc]? = some (.list (intsV cells)) := by rw [List.getElem?_set_ne d1]; exact c2
  have C : Cask (mh0.set r (.sdict [("cells", .ref rc), ("drunk", .int ((n : Int) + 1))])) r rc cells (n + 1) := ⟨e1, e2⟩
  generalize mh0.set r (.sdict [("cells", .ref rc), ("drunk", .int ((n : Int) + 1))]) = mh1 at *
  have fin : ∀ z : Int, Q (.int (z % (m : Int))) mh1 := fun z => by
    have h1 := Int.emod_nonneg z (show (m : Int) ≠ 0 by omega)
    have h2 := Int.emod_lt_of_pos z (show (0 : Int) < m by omega)
    have := o (z % (m : Int)).toNat mh1 (by omega) hS C
    rwa [Int.toNat_of_nonneg h1] at this
  have hmp : (0 : Int) < m := by omega
  clear hS C c1
  apply cont_i
  by_cases hc : n + 1 ≤ cells.length
  · have hx : cells[n]? = some cells[n] := by simp
    have hsub : (n : Int) + 1 - 1 = n := by omega
    walk_at "s"
    refine yes_i (by omega) ?_
    walk_at "w"
    rw [hsub]
    walk_at "w"
    exact fin _
  · have hb : SmallI (5 * ((n : Int) + 1) * ((n : Int) + 1) + 7 * ((n : Int) + 1) + 3 + 2 * ((intsV cells).length : Int)) := by
      have hn5 : (n : Int) + 1 ≤ 5001 := by omega
      have hn0 : (0 : Int) ≤ (n : Int) + 1 := by omega
      have h1 := Int.mul_le_mul hn5 hn5 hn0 (by omega)
      have h2 := Int.mul_nonneg hn0 hn0
      rw [Int.mul_assoc]
      unfold SmallI
      generalize ((n : Int) + 1) * ((n : Int) + 1) = z at *
      omega
    walk_at "s"
    refine no_i (by omega) ?_
    walk_at "w"
    walk_at "n"
    exact fin _
theorem zjp {few : List Int} {a b : Int} (hs : SortedL few) (h0 : few[0]? = some a) (hz : few.getLast? = some b) : a ∈ few ∧ b ∈ few ∧ ∀ v ∈ few, a ≤ v ∧ v ≤ b := by
  refine ⟨List.mem_of_getElem? h0, List.mem_of_getLast? hz, fun v hv => ?_⟩
  obtain ⟨i, hi⟩ := List.getElem?_of_mem hv
  rw [List.getLast?_eq_getElem?] at hz
  have hil := (List.getElem?_eq_some_iff.mp hi).1
  unfold SortedL at hs
  rw [List.pairwise_iff_getElem] at hs
  obtain ⟨z0, e0⟩ := List.getElem?_eq_some_iff.mp h0
  obtain ⟨z1, e1⟩ := List.getElem?_eq_some_iff.mp hi
  obtain ⟨z2, e2⟩ := List.getElem?_eq_some_iff.mp hz
  constructor
  · by_cases h : i = 0
    · subst h; rw [h0] at hi; cases hi; exact Int.le_refl _
    · have := hs 0 i z0 z1 (by omega)
      rw [e0, e1] at this; exact this
  · by_cases h : i = few.length - 1
    · subst h; rw [hz] at hi; cases hi; exact Int.le_refl _
    · have := hs i (few.length - 1) z1 z2 (by omega)
      rw [e1, e2] at this; exact this
theorem znt {x a v : Int} : keepsB ⟨x, ">=", a⟩ v = decide (a ≤ v) := by simp [keepsB, str_inj]
theorem zns {x a v : Int} : keepsB ⟨x, "<=", a⟩ v = decide (v ≤ a) := by simp [keepsB, str_inj]
theorem znr {x : Nat} {a v : Int} : keepsB (neL x a) v = decide (v ≠ a) := by by_cases h : v = a <;> simp [keepsB, neL, h]
theorem mem_wallOf {few : List Int} {a b : Int} {x : Nat} {l : List Int} {t : Lit} : t ∈ wallOf few a b x l ↔ t = ⟨x, ">=", a⟩ ∨ t = ⟨x, "<=", b⟩ ∨ ∃ u ∈ l, wallIn few a b u = true ∧ t = neL x u := by
  simp only [wallOf, List.mem_append, List.mem_cons, List.not_mem_nil, or_false, List.mem_map, List.mem_filter, or_assoc]
  constructor
  · rintro (h | h | ⟨u, ⟨h1, h2⟩, rfl⟩)
    · exact .inl h
    · exact .inr (.inl h)
    · exact .inr (.inr ⟨u, h1, h2, rfl⟩)
  · rintro (h | h | ⟨u, h1, h2, rfl⟩)
    · exact .inl h
    · exact .inr (.inl h)
    · exact .inr (.inr ⟨u, ⟨h1, h2⟩, rfl⟩)
theorem zi4 {few : List Int} {a b : Int} (hs : SortedL few) (h0 : few[0]? = some a) (hz : few.getLast? = some b) {x : Nat} {l : List Int} {t : Lit} (ht : t ∈ wallOf few a b x l) {v : Int} (hv : v ∈ few) : keepsB t v = true := by
  obtain ⟨ha, hb, hab⟩ := zjp hs h0 hz
  rcases mem_wallOf.mp ht with rfl | rfl | ⟨u, h1, h2, rfl⟩
  · rw [znt]; simpa using (hab v hv).1
  · rw [zns]; simpa using (hab v hv).2
  · rw [znr]
    simp only [wallIn, Bool.and_eq_true, decide_eq_true_eq] at h2
    simp only [ne_eq, decide_eq_true_eq]
    rintro rfl; exact h2.2 hv
theorem zps {few : List Int} {a b : Int} (hs : SortedL few) (h0 : few[0]? = some a) (hz : few.getLast? = some b) {x : Nat} {l : List Int} {v : Int} (hl : v ∈ l) (hv : v ∉ few) : ∃ t ∈ wallOf few a b x l, t.x = x ∧ keepsB t v = false := by
  obtain ⟨ha, hb, hab⟩ := zjp hs h0 hz
  by_cases h1 : a ≤ v
  · by_cases h2 : v ≤ b
    · have h3 : v ≠ a := fun e => hv (e ▸ ha)
      have h4 : v ≠ b := fun e => hv (e ▸ hb)
      refine ⟨neL x v, mem_wallOf.mpr (.inr (.inr ⟨v, hl, ?_, rfl⟩)), rfl, by rw [znr]; simp⟩
      simp only [wallIn, Bool.and_eq_true, decide_eq_true_eq]
      exact ⟨⟨by omega, by omega⟩, hv⟩
    · exact ⟨⟨x, "<=", b⟩, mem_wallOf.mpr (.inr (.inl rfl)), rfl, by rw [zns]; simpa using h2⟩
  · exact ⟨⟨x, ">=", a⟩, mem_wallOf.mpr (.inl rfl), rfl, by rw [znt]; simpa using h1⟩
theorem zju {few : List Int} {a b : Int} {x : Nat} {l : List Int} {t : Lit} (h : t ∈ wallOf few a b x l) : t.x = x ∧ t.plain := by
  rcases mem_wallOf.mp h with rfl | rfl | ⟨u, _, _, rfl⟩
  · exact ⟨rfl, .inr (.inl rfl)⟩
  · exact ⟨rfl, .inl rfl⟩
  · exact ⟨rfl, .inr (.inr rfl)⟩
theorem mem_wallsOf {firsts : List Dom} {xs ps : List Nat} {few : List Int} {a b : Int} {t : Lit} : t ∈ wallsOf firsts xs ps few a b ↔ ∃ p ∈ ps, t ∈ wallOf few a b (xs.getD p 0) (vals (firsts.getD (xs.getD p 0) [])) := by
  simp only [wallsOf, List.mem_flatMap]
theorem left_eq {l : List Int} {ls : List Lit} {x : Int} {few : List Int} (h : ∀ v ∈ l, v ∈ few ↔ ∀ t ∈ ls, t.x = x → keepsB t v = true) : leftL l ls x = l.filter fun v => decide (v ∈ few) := by
  unfold leftL
  refine List.filter_congr fun v hv => ?_
  rw [Bool.eq_iff_iff, List.isEmpty_iff, List.filter_eq_nil_iff, decide_eq_true_eq, h v hv]
  constructor
  · intro h1 t ht hx
    have := h1 t ht
    simpa [hx] using this
  · intro h1 t ht
    by_cases hx : t.x = x
    · simp [hx, h1 t ht hx]
    · simp [hx]
theorem zi3 {firsts : List Dom} {xs ps : List Nat} {few : List Int} {a b : Int} {F : List (List Int)} (hs : SortedL few) (h0 : few[0]? = some a) (hz : few.getLast? = some b) (hF : F = firsts.map vals) (hp : ∀ p ∈ ps, ∃ x, xs[p]? = some x ∧ x < firsts.length) :
    saidOk (wallsOf firsts xs ps few a b) xs ps few F := by
  refine ⟨fun l hl => ?_, fun p hpm => ?_⟩
  · obtain ⟨p, hpm, ht⟩ := mem_wallsOf.mp hl
    obtain ⟨x, hx, hlt⟩ := hp p hpm
    have hg : xs.getD p 0 = x := by simp [hx]
    rw [hg] at ht
    exact ⟨p, hpm, x, hx, (zju ht).1⟩
  · obtain ⟨x, hx, hlt⟩ := hp p hpm
    refine ⟨x, hx, vals firsts[x], by rw [hF]; simp [hlt], left_eq fun v hv => ⟨fun hvf t ht htx => ?_, fun hall => ?_⟩⟩
    · obtain ⟨q, hq, ht'⟩ := mem_wallsOf.mp ht
      exact zi4 hs h0 hz ht' hvf
    · by_cases hvf : v ∈ few
      · exact hvf
      · obtain ⟨t, ht, htx, hk⟩ := zps hs h0 hz (x := x) hv hvf
        have hg : xs.getD p 0 = x := by simp [hx]
        have := hall t (mem_wallsOf.mpr ⟨p, hpm, by rw [hg]; simpa [hlt] using ht⟩) htx
        rw [hk] at this; cases this
theorem zhg {firsts : List Dom} {xs ps : List Nat} {few : List Int} {a b : Int} (hl : ps.length ≤ 50) (hf : ∀ d ∈ firsts, SmD d) : SmL (wallsOf firsts xs ps few a b) := by
  refine ⟨?_, fun l hl => ?_⟩
  · have : ∀ qs : List Nat, (wallsOf firsts xs qs few a b).length ≤ qs.length * 1642 := by
      intro qs
      induction qs with
      | nil => simp [wallsOf]
      | cons q qs ih =>
        rw [zds, List.length_append, List.length_cons]
        have h1 := zfb (few := few) (l := vals (firsts.getD (xs.getD q 0) [])) (a := a) (b := b) (x := xs.getD q 0)
        have h2 : (vals (firsts.getD (xs.getD q 0) [])).length ≤ 1640 := by
          by_cases h : xs.getD q 0 < firsts.length
          · have sm := hf firsts[xs.getD q 0] (List.getElem_mem h)
            have h3 := zcj sm.run
            have h4 := sm.len
            have : firsts.getD (xs.getD q 0) [] = firsts[xs.getD q 0] := by
              rw [List.getD_eq_getElem?_getD, List.getElem?_eq_getElem h]; rfl
            rw [this]; omega
          · have : firsts.getD (xs.getD q 0) [] = [] := by
              rw [List.getD_eq_getElem?_getD, List.getElem?_eq_none (by omega)]; rfl
            rw [this]; simp [vals]
        omega
    have := this ps
    unfold BIG; omega
  · obtain ⟨p, _, ht⟩ := mem_wallsOf.mp hl
    exact (zju ht).2
theorem zoc {firsts : List Dom} {xs ps : List Nat} {few : List Int} {a b : Int} {N : List (List Int)} (hs : SortedL few) (h0 : few[0]? = some a) (hz : few.getLast? = some b) (hp : ∀ p ∈ ps, ∃ x, xs[p]? = some x ∧ x ≤ 1000 ∧ ∃ row, N[x]? = some row ∧ ∀ v ∈ row, v ∈ few) :
    ∀ l ∈ wallsOf firsts xs ps few a b, ∃ x : Nat, l.x = x ∧ x ≤ 1000 ∧ ∃ row, N[x]? = some row ∧ leftL row [l] x = row := by
  intro l hl
  obtain ⟨p, hpm, ht⟩ := mem_wallsOf.mp hl
  obtain ⟨x, hx, hx1, row, hrow, hall⟩ := hp p hpm
  have hg : xs.getD p 0 = x := by simp [hx]
  rw [hg] at ht
  refine ⟨x, (zju ht).1, hx1, row, hrow, ?_⟩
  have := left_eq (l := row) (ls := [l]) (x := x) (few := few) fun v hv => ⟨fun hvf t ht' _ => ?_, fun _ => hall v hv⟩
  · rw [this]; exact List.filter_eq_self.mpr fun v hv => by simpa using hall v hv
  · simp at ht'; subst ht'; exact zi4 hs h0 hz ht hvf
theorem zqb {α : Type} [DecidableEq α] {a b : List α} (ha : a.Nodup) (hb : b.Nodup) (h : ∀ x, x ∈ a ↔ x ∈ b) : a.length = b.length :=
  Nat.le_antisymm (zc0 ha fun x hx => (h x).mp hx) (zc0 hb fun x hx => (h x).mpr hx)
theorem rngL_nats {n : Nat} : rngL 0 (n : Int) = natsV (List.range n) := by
  unfold rngL natsV
  simp
theorem zcm {n p : Nat} {dn r : List Nat} (h : List.range n = dn ++ p :: r) : p = dn.length ∧ dn.length < n := by
  have hl := congrArg List.length h
  simp at hl
  have h1 : (List.range n)[dn.length]? = (dn ++ p :: r)[dn.length]? := by rw [h]
  simp at h1
  have h2 : dn.length < n := by omega
  simp [List.getElem?_range h2] at h1
  exact ⟨h1.symm, h2⟩
structure Cond (xs : List Nat) (doms firsts : List Dom) : Prop where
  len : firsts.length = doms.length
  four : doms.length ≤ 4
  xlen : xs.length ≤ 4
  xs : ∀ x ∈ xs, x < doms.length
  sd : ∀ d ∈ doms, SmD d
  sf : ∀ d ∈ firsts, SmD d
  some_ : ∀ d ∈ doms, vals d ≠ []
structure Scene (mh : MH) (R : SR) (ar : Nat) (xs : List Nat) (rF : Nat) (cs : List Nat) (rN : Nat) (ds : List Nat) (doms firsts : List Dom) (tr marks : List MV) (fl : Bool) (cl : MV) : Prop where
  st : StoreIs mh R doms firsts tr marks fl cl
  adv : mh[ar]? = some (advO (natsV xs))
  F : Rows mh rF cs (firsts.map vals)
  N : Rows mh rN ds (doms.map vals)
theorem Scene.same0 {mh mh' : MH} {R : SR} {ar : Nat} {xs : List Nat} {rF : Nat} {cs : List Nat} {rN : Nat} {ds : List Nat} {doms firsts : List Dom} {tr marks : List MV} {fl : Bool} {cl : MV} (x : Scene mh R ar xs rF cs rN ds doms firsts tr marks fl cl) (s : Same [] mh mh') : Scene mh' R ar xs rF cs rN ds doms firsts tr marks fl cl :=
  ⟨x.st.same s (by simp), s.at x.adv (by simp), x.F.same s (by simp), x.N.same s (by simp)⟩
theorem zi7 {p : Int × Int} {v : Int} (h : v ∈ span p) : p.1 ≤ v ∧ v ≤ p.2 := by
  simp only [span, List.mem_map, List.mem_range] at h
  obtain ⟨i, h1, h2⟩ := h
  omega
theorem zod {d : Dom} (sm : SmD d) {v : Int} (h : v ∈ vals d) : -20 ≤ v ∧ v ≤ 20 := by
  simp only [vals, List.mem_flatMap] at h
  obtain ⟨p, hp, hv⟩ := h
  have := sm.run p hp
  have := zi7 hv
  omega
theorem Cond.smc {xs : List Nat} {doms firsts : List Dom} (c : Cond xs doms firsts) : SmC (zat doms xs) := by
  refine ⟨by simp [zat]; have := c.xlen; omega, fun l hl v hv => ?_⟩
  simp only [zat, List.mem_map] at hl
  obtain ⟨x, hx, rfl⟩ := hl
  have hlt := c.xs x hx
  have he : doms.getD x [] = doms[x] := by rw [List.getD_eq_getElem?_getD, List.getElem?_eq_getElem hlt]; rfl
  rw [he] at hv
  exact zod (c.sd _ (List.getElem_mem hlt)) hv
theorem Cond.at_ {xs : List Nat} {doms firsts : List Dom} (c : Cond xs doms firsts) {p : Nat} {l : List Int} (h : (zat doms xs)[p]? = some l) : ∃ x, xs[p]? = some x ∧ ∃ hx : x < doms.length, l = vals doms[x] := by
  simp only [zat, List.getElem?_map] at h
  cases e : xs[p]? with
  | none => rw [e] at h; cases h
  | some x =>
    rw [e] at h
    have hlt := c.xs x (List.mem_of_getElem? e)
    have he : doms.getD x [] = doms[x] := by rw [List.getD_eq_getElem?_getD, List.getElem?_eq_getElem hlt]; rfl
    simp only [Option.map_some, Option.some.injEq, he] at h
    exact ⟨x, rfl, hlt, h.symm⟩
structure Good (xs : List Nat) (doms firsts : List Dom) (ps : List Nat) (few : List Int) : Prop where
  sorted : SortedL few
  some_ : few ≠ []
  nodup : ps.Nodup
  shut : ∀ p ∈ ps, ∃ l, (zat doms xs)[p]? = some l ∧ ∀ v ∈ l, v ∈ few
theorem Good.lt {xs : List Nat} {doms firsts : List Dom} {ps : List Nat} {few : List Int} (g : Good xs doms firsts ps few) (c : Cond xs doms firsts) : ∀ p ∈ ps, p < 4 := by
  intro p hp
  obtain ⟨l, h1, _⟩ := g.shut p hp
  have := (List.getElem?_eq_some_iff.mp h1).1
  simp [zat] at this
  have := c.xlen
  omega
theorem Good.len {xs : List Nat} {doms firsts : List Dom} {ps : List Nat} {few : List Int} (g : Good xs doms firsts ps few) (c : Cond xs doms firsts) : ps.length ≤ 4 := by
  have := zc0 (ys := List.range 4) g.nodup fun p hp => List.mem_range.mpr (g.lt c p hp)
  simpa using this
theorem Good.setOk {xs : List Nat} {doms firsts : List Dom} {ps : List Nat} {few : List Int} (g : Good xs doms firsts ps few) (c : Cond xs doms firsts) : setOk (ps.map fun (p : Nat) => (p : Int)) := by
  have h : ∀ i ∈ ps.map fun (p : Nat) => (p : Int), i ∈ [0, 1, 2, 3] := by
    intro i hi
    obtain ⟨p, hp, rfl⟩ := List.mem_map.mp hi
    have := g.lt c p hp
    simp only [List.mem_cons, List.not_mem_nil, or_false]
    omega
  refine ⟨fun i hi => ?_, [0, 1, 2, 3], by simp, h⟩
  obtain ⟨p, hp, rfl⟩ := List.mem_map.mp hi
  have := g.lt c p hp
  exact zlk (by omega) (by omega)
theorem Good.walls {mh : MH} {R : SR} {ar : Nat} {xs : List Nat} {rF : Nat} {cs : List Nat} {rN : Nat} {ds : List Nat} {doms firsts : List Dom} {tr marks : List MV} {fl : Bool} {cl : MV} {ps : List Nat} {few : List Int} {r1 r2 : Nat} {Q : MV → MH → Prop} (g : Good xs doms firsts ps few) (c : Cond xs doms firsts)
    (X : Scene mh R ar xs rF cs rN ds doms firsts tr marks fl cl) (h1 : mh[r1]? = some (.list (natsV ps))) (h2 : mh[r2]? = some (.list (intsV few)))
    (o : ∀ (ls : List Lit) (mh' : MH), Same [] mh mh' → (∀ mh2, Same [] mh' mh2 → ∀ Q' : MV → MH → Prop, (∀ mh3, Same [] mh2 mh3 → Q' (.bool true) mh3) → t_is_so [.tuple (ls.map Lit.v), .tuple (natsV xs), .tuple [.ref r1, .ref r2], .ref rF, .ref rN] Q' mh2) → Q (.tuple (ls.map Lit.v)) mh') :
    t_walls [.ref ar, .ref R.r, .ref r1, .ref r2] Q mh := by
  obtain ⟨a, ha⟩ : ∃ a, few[0]? = some a := by
    cases few with
    | nil => exact absurd rfl g.some_
    | cons a r => exact ⟨a, rfl⟩
  obtain ⟨b, hb⟩ : ∃ b, few.getLast? = some b := by
    cases h : few.getLast? with
    | none => exact absurd (List.getLast?_eq_none_iff.mp h) g.some_
    | some b => exact ⟨b, rfl⟩
  have hlen := g.len c
  have hlt := g.lt c
  have hx : ∀ p ∈ ps, ∃ x, xs[p]? = some x ∧ ∃ hx : x < doms.length, ∀ v ∈ vals doms[x], v ∈ few := fun p hp => by
    obtain ⟨l, h1, h2⟩ := g.shut p hp
    obtain ⟨x, e1, e2, rfl⟩ := c.at_ h1
    exact ⟨x, e1, e2, h2⟩
  have h4 := c.four
  refine ⟨ar, R, doms, firsts, tr, marks, fl, cl, xs, r1, ps, r2, few, a, b, rfl, X.adv, X.st, h1, h2, ha, hb, by omega, fun p hp => ?_, fun mh' hs => ?_⟩
  · obtain ⟨x, e1, e2, _⟩ := hx p hp
    have hf : x < firsts.length := by rw [c.len]; exact e2
    have := hlt p hp
    exact ⟨by omega, x, e1, by omega, firsts[x], by simp [hf], c.sf _ (List.getElem_mem hf)⟩
  · refine o (wallsOf firsts xs ps few a b) mh' hs fun mh2 hs2 Q' q => ?_
    have X2 := X.same0 (hs.trans hs2)
    have hbig : ∀ (D : List Dom), (∀ d ∈ D, SmD d) → ∀ l ∈ D.map vals, l.length ≤ 2000 := by
      intro D hD l hl
      obtain ⟨d, hd, rfl⟩ := List.mem_map.mp hl
      have sm := hD d hd
      have h5 := zcj sm.run
      have h6 := sm.len
      omega
    refine ⟨wallsOf firsts xs ps few a b, xs, r1, ps, r2, few, rF, cs, firsts.map vals, rN, ds, doms.map vals, rfl, (hs.trans hs2).at h1 (by simp), (hs.trans hs2).at h2 (by simp), X2.F, X2.N, zhg (by omega) c.sf, by omega, fun p hp => by have := hlt p hp; omega, fun x hx => by have := c.xs x hx; omega,
      hbig _ c.sf, hbig _ c.sd, zi3 g.sorted ha hb rfl fun p hp => ?_, zoc g.sorted ha hb fun p hp => ?_, q⟩
    · obtain ⟨x, e1, e2, _⟩ := hx p hp
      exact ⟨x, e1, by rw [c.len]; exact e2⟩
    · obtain ⟨x, e1, e2, e3⟩ := hx p hp
      exact ⟨x, e1, by omega, vals doms[x], by simp [e2], e3⟩
theorem Lack.good {xs : List Nat} {doms firsts : List Dom} {root : Nat} {ps : List Nat} {few : List Int} (c : Cond xs doms firsts) (L : Lack (zat doms xs) root ps few) : Good xs doms firsts ps few := by
  refine ⟨L.sorted, ?_, L.nodup, L.shut⟩
  rintro rfl
  obtain ⟨l, h1, h2⟩ := L.shut root L.root
  obtain ⟨x, e1, e2, rfl⟩ := c.at_ h1
  cases h : vals doms[x] with
  | nil => exact c.some_ _ (List.getElem_mem e2) h
  | cons v r => exact absurd (h2 v (by rw [h]; simp)) (by simp)
theorem Shut.good {xs : List Nat} {doms firsts : List Dom} {own : List (Int × Nat)} {v : Int} {ps : List Nat} {few : List Int} (L : Shut (zat doms xs) own v ps few) : Good xs doms firsts ps few :=
  ⟨L.sorted, fun e => (by have := L.mem; rw [e] at this; cases this), L.nodup, L.shut⟩
theorem zi8 {ps : List Nat} {ns : List Int} (hn : ps.Nodup) (h1 : ns.Nodup) (h2 : ∀ x, x ∈ ns ↔ x ∈ ps.map fun (p : Nat) => (p : Int)) : ns.length = ps.length := by
  have : (ps.map fun (p : Nat) => (p : Int)).Nodup := by
    unfold List.Nodup
    rw [List.pairwise_map]
    exact hn.imp fun h e => h (by omega)
  rw [zqb h1 this h2, List.length_map]
noncomputable def za3 : MF := fun args Q mh => X13 fun R ar xs rF cs rN ds doms firsts tr marks fl cl => N4 (args = [.ref R.r, .ref ar, .tuple (natsV xs), .ref rF, .ref rN]) (Cond xs doms firsts) (Scene mh R ar xs rF cs rN ds doms firsts tr marks fl cl) (∀ mh', Same [] mh mh' → Q (.bool true) mh')
theorem zon : ∀ args Q mh, za3 args Q mh → mFun ["store", "ask", "scope", "firsts", "now"] (zcp zbm t_seat t_walls t_is_so zjv) args Q mh := by
  rintro args Q mh0 ⟨R, ar, xs, rF, cs, rN, ds, doms, firsts, tr, marks, fl, cl, rfl, c, X0, o⟩
  have hx4 := c.xlen
  have hd4 := c.four
  apply fun5_i
  walk_at "s"
  refine ⟨R, doms, firsts, tr, marks, fl, cl, xs, rfl, X0.st, fun x hx => ?_, by omega, fun mh1 M hs1 ok hrefs hM => ?_⟩
  · have := c.xs x hx
    exact ⟨by omega, doms[x], by simp [this], c.sd _ (List.getElem_mem this)⟩
  have hml := hM.refs_lt
  have hnx : (natsV xs).length = xs.length := by simp [natsV]
  walk_at "n"
  rw [hnx]
  refine ⟨natsV (List.range xs.length), zbv (fun rest loc mh => X4 fun dn rest' mate own => N13 (List.range xs.length = dn ++ rest') (rest = natsV rest') (loc "store" = some (.ref R.r)) (loc "ask" = some (.ref ar)) (loc "scope" = some (.tuple (natsV xs))) (loc "firsts" = some (.ref rF)) (loc "now" = some (.ref rN)) (loc "board" = some (.ref M.r)) (Same [] mh0 mh) (mh1.length ≤ mh.length) (MatchIs mh M (zat doms xs) mate own) (MInv (zat doms xs) mate own) (∀ q, dn.length ≤ q → q < xs.length → mate[q]? = some none)) ?_ ?_ ?_ _ _ _ ⟨[], List.range xs.length, List.replicate xs.length none, [], rfl, rfl, ?_, ?_, ?_, ?_, ?_, ?_, hs1, Nat.le_refl _, hM, ?_, fun q _ h => by simp [h]⟩⟩
  · rintro rest loc mh -
    exact ⟨by unfold SmallI; omega, by unfold SmallI; omega, rngL_nats.symm⟩
  · rintro v rest loc mh K hK ⟨dn, rest', mate, own, e1, e2, g1, g2, g3, g4, g5, g6, hs, hle, X, I, hfree⟩
    cases rest' with
    | nil => cases e2
    | cons p rest' =>
      cases e2
      obtain ⟨rfl, hlt⟩ := zcm e1
      have hinst := X.inst
      walk_at "s"
      refine ⟨M, zat doms xs, mate, own, dn.length, rfl, X, ok, fun i hi => Nat.lt_of_lt_of_le (hml i hi) hle, c.smc, I, hfree _ (Nat.le_refl _) hlt, fun mh' mate' own' v hs' X' H' => ?_, fun mh' r1 r2 ps few hs' h1 h2 _ _ L => ?_⟩
      · walk_at "n"
        refine hK _ _ ⟨dn ++ [dn.length], rest', mate', own', by rw [e1]; simp, rfl, ?_, ?_, ?_, ?_, ?_, ?_, ((hs.mono (by simp)).trans hs').old ?_, Nat.le_trans hle hs'.le, X', H'.inv, fun q h1 h2 => ?_⟩
        · walk_at "ne"
        · walk_at "ne"
        · walk_at "ne"
        · walk_at "ne"
        · walk_at "ne"
        · walk_at "ne"
        · have a1 := hrefs M.m (by simp [MR.refs])
          have a2 := hrefs M.o (by simp [MR.refs])
          simp [a1, a2]
        · simp at h1
          exact (H'.nones q).mpr ⟨hfree q (by omega) h2, by omega⟩
      · have G : Good xs doms firsts ps few := L.good c
        have Sc := X0.same0 (hs.trans hs')
        have hadv := Sc.adv
        walk_at "n"
        walk_at "s"
        refine G.walls c Sc h1 h2 fun ls mh2 hs2 hso => ?_
        have h1' := hs2.at h1 (by simp)
        have h2' := hs2.at h2 (by simp)
        have hfl : (intsV few).length = few.length := by simp [intsV]
        have hLl := L.len
        have hGl := G.len c
        walk_at "n"
        refine ⟨r1, ps.map fun (p : Nat) => (p : Int), rfl, by rw [List.map_map]; exact h1', G.setOk c, fun ns n1 n2 => ?_⟩
        have hnl := zi8 G.nodup n1 n2
        walk_at "w"
        refine yes_i (by rw [hfl, hnl]; omega) ?_
        walk_at "w"
        exact hso mh2 .refl _ fun mh3 hs3 => o _ (((hs.trans hs').trans hs2).trans hs3)
  · rintro loc mh ⟨dn, rest', mate, own, e1, e2, g1, g2, g3, g4, g5, g6, hs, hle, X, I, hfree⟩
    clear e1 e2 hfree
    walk_at "n"
    refine ⟨intsV [-3, -2, -1, 0, 1, 2, 3, 4], zbv (fun rest loc mh => X2 fun (dn rest' : List Int) => N10 ([-3, -2, -1, 0, 1, 2, 3, 4] = dn ++ rest') (rest = intsV rest') (loc "store" = some (.ref R.r)) (loc "ask" = some (.ref ar)) (loc "scope" = some (.tuple (natsV xs))) (loc "firsts" = some (.ref rF)) (loc "now" = some (.ref rN)) (loc "board" = some (.ref M.r)) (Same [] mh0 mh) (MatchIs mh M (zat doms xs) mate own)) ?_ ?_ ?_ _ _ _ ⟨[], [-3, -2, -1, 0, 1, 2, 3, 4], rfl, rfl, g1, g2, g3, g4, g5, g6, hs, X⟩⟩
    · rintro rest loc mh -
      exact ⟨by unfold SmallI; omega, by unfold SmallI; omega, rfl⟩
    · rintro v rest loc mh K hK ⟨dn, rest', e1, e2, g1, g2, g3, g4, g5, g6, hs, X⟩
      cases rest' with
      | nil => cases e2
      | cons v rest' =>
        cases e2
        have hv : v ∈ ([-3, -2, -1, 0, 1, 2, 3, 4] : List Int) := by rw [e1]; simp
        have hv2 : -20 ≤ v ∧ v ≤ 20 := by simp at hv; omega
        have hinst := X.inst
        have hown := X.owner
        have next : ∀ mh' x, Same [] mh mh' → K (upd (upd loc "v" (.int v)) "found" x) mh' := fun mh' x hs' => hK _ _ ⟨dn ++ [v], rest', by rw [e1]; simp, rfl, by walk_at "ne", by walk_at "ne", by walk_at "ne", by walk_at "ne", by walk_at "ne", by walk_at "ne", hs.trans hs', X.same hs' (by simp)⟩
        have next2 : ∀ mh' x y, Same [] mh mh' → K (upd (upd (upd loc "v" (.int v)) "found" x) "told" y) mh' := fun mh' x y hs' => hK _ _ ⟨dn ++ [v], rest', by rw [e1]; simp, rfl, by walk_at "ne", by walk_at "ne", by walk_at "ne", by walk_at "ne", by walk_at "ne", by walk_at "ne", hs.trans hs', X.same hs' (by simp)⟩
        clear e1 hv
        walk_at "s"
        refine b_i (fun _ => ?_) fun _ => ?_
        · walk_at "w"
          refine ⟨M, zat doms xs, mate, own, v, rfl, X, c.smc, I, hv2.1, hv2.2, fun mh' hs' _ => ?_, fun mh' r1 r2 ps few hs' h1 h2 _ _ L => ?_⟩
          · walk_at "n"
            exact next _ _ hs'
          · have G : Good xs doms firsts ps few := L.good
            have Sc := X0.same0 (hs.trans hs')
            have hadv := Sc.adv
            walk_at "n"
            walk_at "s"
            refine G.walls c Sc h1 h2 fun ls mh2 hs2 hso => ?_
            have h1' := hs2.at h1 (by simp)
            have h2' := hs2.at h2 (by simp)
            have hfl : (intsV few).length = few.length := by simp [intsV]
            have hLl := L.len
            have hGl := G.len c
            walk_at "n"
            refine ⟨r1, ps.map fun (p : Nat) => (p : Int), rfl, by rw [List.map_map]; exact h1', G.setOk c, fun ns n1 n2 => ?_⟩
            have hnl := zi8 G.nodup n1 n2
            have he : ((ns.length : Int) = ((intsV few).length : Int)) := by rw [hfl, hnl]; omega
            walk_at "w"
            refine nyes_i he ?_
            walk_at "w"
            refine hso mh2 .refl _ fun mh3 hs3 => ?_
            walk_at "w"
            exact next2 _ _ _ ((hs'.trans hs2).trans hs3)
        · walk_at "w"
          walk_at "n"
          exact next _ _ .refl
    · rintro loc mh ⟨dn, rest', e1, e2, g1, g2, g3, g4, g5, g6, hs, X⟩
      walk_at "n"
      exact o _ hs
  · walk_at "ne"
  · walk_at "ne"
  · walk_at "ne"
  · walk_at "ne"
  · walk_at "ne"
  · walk_at "ne"
  · refine ⟨by simp [zat], fun v p => ?_, fun v p h => (by cases h), List.nodup_nil⟩
    rw [ag_nil]
    constructor
    · intro h; cases h
    · intro h
      by_cases hp : p < xs.length
      · simp [hp] at h
      · rw [List.getElem?_eq_none (by simpa using hp)] at h; cases h
noncomputable def spans : List Int → Dom
  | [] => []
  | a :: l => match spans l with
    | [] => [(a, a)]
    | (b, e) :: r => if a + 1 = b then (a, e) :: r else (a, a) :: (b, e) :: r
noncomputable def runsOf (l : List Int) : List Int := l.filter fun v => decide (v - 1 ∉ l)
noncomputable def endsOf (l : List Int) : List Int := l.filter fun v => decide (v + 1 ∉ l)
noncomputable def Asc (l : List Int) : Prop := l.Pairwise (· < ·)
theorem zf2 {a : Int} {l : List Int} : ∃ e r, spans (a :: l) = (a, e) :: r := by
  unfold spans
  split
  · exact ⟨_, _, rfl⟩
  · split <;> exact ⟨_, _, rfl⟩
theorem spans_nil {l : List Int} : spans l = [] ↔ l = [] := by
  cases l with
  | nil => simp [spans]
  | cons a l => obtain ⟨e, r, h⟩ := zf2 (a := a) (l := l); simp [h]
theorem zi9 : ∀ {l : List Int}, Asc l → runsOf l = (spans l).map (·.1)
  | [], _ => rfl
  | a :: l, h => by
    have h1 : ∀ x ∈ l, a < x := (List.pairwise_cons.mp h).1
    have h2 : Asc l := (List.pairwise_cons.mp h).2
    have ih := zi9 h2
    have ha : a - 1 ∉ a :: l := by
      intro hm
      rcases List.mem_cons.mp hm with e | e
      · omega
      · have := h1 _ e; omega
    have hr : runsOf (a :: l) = a :: l.filter fun v => decide (v - 1 ∉ a :: l) := by
      unfold runsOf
      rw [List.filter_cons_of_pos (by simpa using ha)]
    rw [hr]
    cases l with
    | nil => rfl
    | cons b l =>
      obtain ⟨e, r, hs⟩ := zf2 (a := b) (l := l)
      have hb : ∀ x ∈ l, b < x := (List.pairwise_cons.mp h2).1
      have hab : a < b := h1 b (.head _)
      have hrun : runsOf (b :: l) = b :: l.filter fun v => decide (v - 1 ∉ b :: l) := by
        unfold runsOf
        rw [List.filter_cons_of_pos]
        simp only [List.mem_cons, decide_eq_true_eq]
        rintro (e | e)
        · omega
        · have := hb _ e; omega
      have hr2 : (l.filter fun v => decide (v - 1 ∉ a :: b :: l)) = l.filter fun v => decide (v - 1 ∉ b :: l) := by
        refine List.filter_congr fun v hv => ?_
        have := hb v hv
        rw [decide_eq_decide]
        simp only [List.mem_cons, not_or]
        constructor
        · exact fun h => h.2
        · exact fun h => ⟨by omega, h⟩
      rw [hrun, hs] at ih
      simp only [List.map_cons, List.cons.injEq, true_and] at ih
      have hsp : spans (a :: b :: l) = if a + 1 = b then (a, e) :: r else (a, a) :: (b, e) :: r := by
        rw [spans, hs]
      rw [hsp]
      by_cases hab1 : a + 1 = b
      · rw [if_pos hab1, List.filter_cons_of_neg (by simp; intro h1; omega), hr2, ih]
        rfl
      · rw [if_neg hab1, List.filter_cons_of_pos, hr2, ih]
        · rfl
        · simp only [List.mem_cons, decide_eq_true_eq]
          rintro (e | e | e)
          · omega
          · omega
          · have := hb _ e; omega
theorem zjq : ∀ {l : List Int}, Asc l → endsOf l = (spans l).map (·.2)
  | [], _ => rfl
  | a :: l, h => by
    have h1 : ∀ x ∈ l, a < x := (List.pairwise_cons.mp h).1
    have h2 : Asc l := (List.pairwise_cons.mp h).2
    have ih := zjq h2
    have hr2 : (l.filter fun v => decide (v + 1 ∉ a :: l)) = endsOf l := by
      refine List.filter_congr fun v hv => ?_
      have := h1 v hv
      rw [decide_eq_decide]
      simp only [List.mem_cons, not_or]
      constructor
      · exact fun h => h.2
      · exact fun h => ⟨by omega, h⟩
    cases l with
    | nil =>
      simp [endsOf, spans]
      omega
    | cons b l =>
      obtain ⟨e, r, hs⟩ := zf2 (a := b) (l := l)
      have hb : ∀ x ∈ l, b < x := (List.pairwise_cons.mp h2).1
      have hab : a < b := h1 b (.head _)
      have hsp : spans (a :: b :: l) = if a + 1 = b then (a, e) :: r else (a, a) :: (b, e) :: r := by
        rw [spans, hs]
      have hd : endsOf (a :: b :: l) = (if a + 1 = b then [] else [a]) ++ endsOf (b :: l) := by
        unfold endsOf at hr2 ⊢
        by_cases hab1 : a + 1 = b
        · rw [if_pos hab1, List.filter_cons_of_neg (by simp; intro h1 h2; exact absurd hab1 h2), hr2]; rfl
        · rw [if_neg hab1, List.filter_cons_of_pos, hr2]
          · rfl
          · simp only [List.mem_cons, decide_eq_true_eq]
            rintro (e | e | e)
            · omega
            · omega
            · have := hb _ e; omega
      rw [hd, ih, hsp, hs]
      by_cases hab1 : a + 1 = b
      · rw [if_pos hab1, if_pos hab1]; rfl
      · rw [if_neg hab1, if_neg hab1]; rfl
theorem zky {a b : Int} (h : a ≤ b) : span (a, b) = a :: span (a + 1, b) := by
  unfold span
  have e : (b + 1 - a).toNat = (b + 1 - (a + 1)).toNat + 1 := by omega
  simp only [e, List.range_succ_eq_map, List.map_cons, List.map_map]
  congr 1
  · simp
  · refine List.map_congr_left fun i _ => ?_
    simp only [Function.comp_apply]
    push_cast
    omega
theorem znd {a : Int} : span (a, a) = [a] := by rw [zky (Int.le_refl _)]; simp [span]
theorem zhi : ∀ {l : List Int}, Asc l → ∀ p ∈ spans l, p.1 ≤ p.2 ∧ p.1 ∈ l ∧ p.2 ∈ l
  | [], _, p, hp => by simp [spans] at hp
  | a :: l, h, p, hp => by
    have h1 : ∀ x ∈ l, a < x := (List.pairwise_cons.mp h).1
    have h2 : Asc l := (List.pairwise_cons.mp h).2
    have ih := zhi h2
    unfold spans at hp
    split at hp
    · simp at hp; subst hp; simp
    · rename_i b e r hs
      rw [hs] at ih
      split at hp
      · rcases List.mem_cons.mp hp with rfl | hp
        · obtain ⟨h3, h4, h5⟩ := ih (b, e) (.head _)
          simp only at h3 h4 h5
          exact ⟨by have := h1 _ h5; simp only; omega, by simp, by simp [h5]⟩
        · obtain ⟨h3, h4, h5⟩ := ih p (.tail _ hp)
          exact ⟨h3, by simp [h4], by simp [h5]⟩
      · rcases List.mem_cons.mp hp with rfl | hp
        · simp
        · obtain ⟨h3, h4, h5⟩ := ih p hp
          exact ⟨h3, by simp [h4], by simp [h5]⟩
theorem zc6 : ∀ {l : List Int}, Asc l → vals (spans l) = l
  | [], _ => rfl
  | a :: l, h => by
    have h2 : Asc l := (List.pairwise_cons.mp h).2
    have ih := zc6 h2
    have hrun := zhi h2
    unfold spans
    split
    · rename_i hs
      rw [hs] at ih
      simp only [vals, List.flatMap_nil] at ih
      rw [← ih]
      simp [vals, znd]
    · rename_i b e r hs
      rw [hs] at ih hrun
      have hbe := (hrun (b, e) (.head _)).1
      simp only at hbe
      have ih' : span (b, e) ++ vals r = l := ih
      split
      · rename_i hab
        show span (a, e) ++ vals r = a :: l
        rw [zky (by omega), hab, List.cons_append, ih']
      · show span (a, a) ++ (span (b, e) ++ vals r) = a :: l
        rw [znd, ih']; rfl
theorem zkx : ∀ {l : List Int}, (spans l).length ≤ l.length
  | [] => by simp [spans]
  | a :: l => by
    have ih := zkx (l := l)
    unfold spans
    split
    · simp
    · rename_i b e r hs
      rw [hs] at ih
      simp only [List.length_cons] at ih ⊢
      split <;> simp only [List.length_cons] <;> omega
theorem asc_of {l : List Int} (h1 : l.Nodup) (h2 : SortedL l) : Asc l := by
  unfold Asc SortedL at *
  unfold List.Nodup at h1
  refine (h1.and h2).imp fun h => ?_
  obtain ⟨a, b⟩ := h
  omega
theorem zi2 : ∀ d : Dom, zipM (intsV (d.map (·.1))) (intsV (d.map (·.2))) = d.map pairV
  | [] => rfl
  | p :: d => by
    show MV.tuple _ :: zipM (intsV (d.map (·.1))) (intsV (d.map (·.2))) = _
    rw [zi2 d]
    rfl
theorem asc_ext : ∀ {a b : List Int}, Asc a → Asc b → (∀ x, x ∈ a ↔ x ∈ b) → a = b
  | [], [], _, _, _ => rfl
  | [], y :: b, _, _, h => by have := (h y).mpr (.head _); cases this
  | x :: a, [], _, _, h => by have := (h x).mp (.head _); cases this
  | x :: a, y :: b, ha, hb, h => by
    have ha1 := (List.pairwise_cons.mp ha).1
    have hb1 := (List.pairwise_cons.mp hb).1
    have hxy : x = y := by
      rcases List.mem_cons.mp ((h x).mp (.head _)) with e | e
      · exact e
      · rcases List.mem_cons.mp ((h y).mpr (.head _)) with e2 | e2
        · exact e2.symm
        · have := hb1 x e; have := ha1 y e2; omega
    subst hxy
    have : a = b := asc_ext (List.pairwise_cons.mp ha).2 (List.pairwise_cons.mp hb).2 fun z => by
      have hz := h z
      simp only [List.mem_cons] at hz
      constructor
      · intro hm
        rcases hz.mp (.inr hm) with e | e
        · subst e; have := ha1 _ hm; omega
        · exact e
      · intro hm
        rcases hz.mpr (.inr hm) with e | e
        · subst e; have := hb1 _ hm; omega
        · exact e
    rw [this]
theorem mem_span {p : Int × Int} {v : Int} : v ∈ span p ↔ p.1 ≤ v ∧ v ≤ p.2 := by
  refine ⟨zi7, fun h => ?_⟩
  simp only [span, List.mem_map, List.mem_range]
  exact ⟨(v - p.1).toNat, by omega, by omega⟩
theorem zg7 (p : Int × Int) : Asc (span p) := by
  unfold Asc span
  rw [List.pairwise_map]
  refine List.pairwise_lt_range.imp fun h => by omega
theorem zgc {l : List Int} {f : Int → Bool} (h : Asc l) : Asc (l.filter f) := List.Pairwise.filter f h
theorem zkt {d : Dom} {k : Int} : vals (upToD d k) = (vals d).filter fun v => decide (v ≤ k) := by
  induction d with
  | nil => rfl
  | cons p d ih =>
    have h1 : vals (p :: d) = span p ++ vals d := rfl
    rw [h1, List.filter_append, ← ih]
    have h2 : (span p).filter (fun v => decide (v ≤ k)) = if p.1 ≤ k then span (p.1, min p.2 k) else [] := by
      split
      · refine asc_ext (zgc (zg7 _)) (zg7 _) fun x => ?_
        simp only [List.mem_filter, mem_span, decide_eq_true_eq]
        omega
      · rw [List.filter_eq_nil_iff]
        intro v hv
        have := mem_span.mp hv
        simp; omega
    rw [h2]
    unfold upToD
    split
    · rename_i h; rw [List.filter_cons_of_pos (by simpa using h)]; rfl
    · rename_i h; rw [List.filter_cons_of_neg (by simpa using h)]; rfl
theorem zku {d : Dom} {k : Int} : vals (fromD d k) = (vals d).filter fun v => decide (k ≤ v) := by
  induction d with
  | nil => rfl
  | cons p d ih =>
    have h1 : vals (p :: d) = span p ++ vals d := rfl
    rw [h1, List.filter_append, ← ih]
    have h2 : (span p).filter (fun v => decide (k ≤ v)) = if k ≤ p.2 then span (max p.1 k, p.2) else [] := by
      split
      · refine asc_ext (zgc (zg7 _)) (zg7 _) fun x => ?_
        simp only [List.mem_filter, mem_span, decide_eq_true_eq]
        omega
      · rw [List.filter_eq_nil_iff]
        intro v hv
        have := mem_span.mp hv
        simp; omega
    rw [h2]
    unfold fromD
    split
    · rename_i h; rw [List.filter_cons_of_pos (by simpa using h)]; rfl
    · rename_i h; rw [List.filter_cons_of_neg (by simpa using h)]; rfl
theorem zgn : ∀ {l : List Int} {v : Int}, Asc l → l.filter (fun x => decide (x ≤ v - 1)) ++ l.filter (fun x => decide (v + 1 ≤ x)) = l.filter fun x => decide (x ≠ v)
  | [], v, _ => rfl
  | a :: l, v, h => by
    have h1 := (List.pairwise_cons.mp h).1
    have ih := zgn (v := v) (List.pairwise_cons.mp h).2
    by_cases ha : a ≤ v - 1
    · rw [List.filter_cons_of_pos (by simpa using ha), List.filter_cons_of_neg (by simp; omega), List.filter_cons_of_pos (by simp; omega), ← ih]
      rfl
    · have h2 : l.filter (fun x => decide (x ≤ v - 1)) = [] := by
        rw [List.filter_eq_nil_iff]; intro x hx; have := h1 x hx; simp; omega
      rw [h2] at ih
      simp only [List.nil_append] at ih
      rw [List.filter_cons_of_neg (by simpa using ha), h2]
      by_cases hav : a = v
      · rw [List.filter_cons_of_neg (by simp; omega), List.filter_cons_of_neg (by simp [hav]), ← ih]; rfl
      · rw [List.filter_cons_of_pos (by simp; omega), List.filter_cons_of_pos (by simpa using hav), ← ih]; rfl
structure OkD (d : Dom) : Prop where
  asc : Asc (vals d)
  run : ∀ p ∈ d, p.1 ≤ p.2
theorem OkD.len {d : Dom} (h : ∀ p ∈ d, p.1 ≤ p.2) : d.length ≤ (vals d).length := by
  induction d with
  | nil => simp
  | cons p d ih =>
    have h1 : vals (p :: d) = span p ++ vals d := rfl
    have h2 := h p (.head _)
    have h3 := ih fun q hq => h q (.tail _ hq)
    rw [h1, List.length_append, zck, List.length_cons]
    omega
theorem OkD.ends {d : Dom} (h : ∀ p ∈ d, p.1 ≤ p.2) {p : Int × Int} (hp : p ∈ d) : p.1 ∈ vals d ∧ p.2 ∈ vals d := by
  have := h p hp
  simp only [vals, List.mem_flatMap]
  exact ⟨⟨p, hp, mem_span.mpr ⟨Int.le_refl _, this⟩⟩, ⟨p, hp, mem_span.mpr ⟨this, Int.le_refl _⟩⟩⟩
theorem OkD.sm {d : Dom} (h : OkD d) (hl : (vals d).length ≤ 40) (hb : ∀ v ∈ vals d, -20 ≤ v ∧ v ≤ 20) : SmD d :=
  ⟨Nat.le_trans (OkD.len h.run) hl, fun p hp => ⟨(hb _ (OkD.ends h.run hp).1).1, h.run p hp, (hb _ (OkD.ends h.run hp).2).2⟩⟩
theorem OkD.nil {d : Dom} (h : ∀ p ∈ d, p.1 ≤ p.2) : vals d = [] ↔ d = [] := by
  constructor
  · intro e
    have := OkD.len h
    rw [e] at this
    simpa using this
  · rintro rfl; rfl
theorem znc {d : Dom} (h : ∀ p ∈ d, p.1 ≤ p.2) {k : Int} : ∀ p ∈ upToD d k, p.1 ≤ p.2 := by
  intro p hp
  simp only [upToD, List.mem_map, List.mem_filter, decide_eq_true_eq] at hp
  obtain ⟨q, ⟨h1, h2⟩, rfl⟩ := hp
  have := h q h1
  simp only; omega
theorem znx {d : Dom} (h : ∀ p ∈ d, p.1 ≤ p.2) {k : Int} : ∀ p ∈ fromD d k, p.1 ≤ p.2 := by
  intro p hp
  simp only [fromD, List.mem_map, List.mem_filter, decide_eq_true_eq] at hp
  obtain ⟨q, ⟨h1, h2⟩, rfl⟩ := hp
  have := h q h1
  simp only; omega
theorem zew {d : Dom} (h : OkD d) {l : Lit} (hp : l.plain) : vals (struckD l d) = (vals d).filter (keepsB l) ∧ ∀ p ∈ struckD l d, p.1 ≤ p.2 := by
  obtain ⟨x, sg, k⟩ := l
  simp only [Lit.plain] at hp
  unfold struckD keepsB
  rcases hp with rfl | rfl | rfl
  · simp only [str_inj, String.reduceEq, if_true, if_false]
    exact ⟨zkt, znc h.run⟩
  · simp only [str_inj, String.reduceEq, if_true, if_false]
    exact ⟨zku, znx h.run⟩
  · simp only [str_inj, String.reduceEq, if_true, if_false]
    refine ⟨?_, ?_⟩
    · have : vals (zfa d k) = vals (upToD d (k - 1)) ++ vals (fromD d (k + 1)) := by simp [zfa, vals]
      rw [this, zkt, zku]
      exact zgn h.asc
    · intro p hp
      rcases List.mem_append.mp hp with h1 | h1
      · exact znc h.run p h1
      · exact znx h.run p h1
theorem zpw {d : Dom} (h : OkD d) {l : Lit} (hp : l.plain) : OkD (struckD l d) := by
  obtain ⟨h1, h2⟩ := zew h hp
  exact ⟨by rw [h1]; exact zgc h.asc, h2⟩
theorem zrh {l : List Int} (h : Asc l) : OkD (spans l) := ⟨by rw [zc6 h]; exact h, fun p hp => (zhi h p hp).1⟩
theorem znq {row : List Int} {l : Lit} {x : Int} (h : l.x = x) : leftL row [l] x = row.filter (keepsB l) := by
  unfold leftL
  refine List.filter_congr fun v _ => ?_
  cases hk : keepsB l v <;> simp [h, hk]
structure CkS (rc rcl : Nat) (cells : List Int) : Prop where
  ne : rc ≠ rcl
  len : cells.length ≤ 1000
  small : ∀ v ∈ cells, SmallI v
theorem sip_of {rc rcl n : Nat} {cells : List Int} {mh : MH} {Q : MV → MH → Prop} (s : CkS rc rcl cells) (C : Cask mh rc rcl cells n) (hn : n ≤ 5000) {m : Nat} (hm : 0 < m) {k : Int} (hk : k = (m : Int)) (o : ∀ (v : Nat) mh', v < m → Same [rc] mh mh' → Cask mh' rc rcl cells (n + 1) → Q (.int (v : Int)) mh') : t_sip [.ref rc, .int k] Q mh := by
  subst hk
  exact ⟨rc, rcl, cells, n, m, rfl, C, s.ne, hn, s.len, s.small, hm, o⟩
theorem zie {rc rcl : Nat} {cells : List Int} {inner : CI} {P : Int → Prop} (L : Loc → Prop) (hL : ∀ loc v, L loc → L (upd loc "turn" v))
    (hin : ∀ loc mh n vs Qc, L loc → Cask mh rc rcl cells n → n ≤ 5000 → vs.length ≤ BIG → (∀ (v : Int) mh', P v → Same [rc] mh mh' → Cask mh' rc rcl cells (n + 1) → Qc loc (.list (vs ++ [.int v])) mh') → inner loc (.list vs) Qc mh)
    {t n : Nat} {b : Int} (hb : b = (t : Int)) (ht : t ≤ 100) (hn : n ≤ 1000) {mh0 : MH} {loc : Loc} {Q : Loc → MO → MH → Prop} (C : Cask mh0 rc rcl cells n) (h : L loc)
    (o : ∀ loc' mh' ls, ls.length = t → (∀ v ∈ ls, P v) → Same [rc] mh0 mh' → Cask mh' rc rcl cells (n + t) → Q loc' (.list (intsV ls)) mh') :
    compI (.val (.range 0 b)) (rngL 0 b) (.one "turn") tTrue inner (rngL 0 b) loc (.list []) Q mh0 := by
  subst hb
  rw [rngL_nats]
  refine zce (fun rest loc acc mh => X3 fun dn rest' ls => N8 (List.range t = dn ++ rest') (rest = natsV rest') (L loc) (acc = .list (intsV ls)) (ls.length = dn.length) ((∀ v ∈ ls, P v)) (Same [rc] mh0 mh) (Cask mh rc rcl cells (n + dn.length))) ?_ ?_ ?_ _ _ _ _ ⟨[], List.range t, [], rfl, rfl, h, rfl, rfl, by simp, .refl, C⟩
  · rintro rest loc acc mh -
    exact ⟨by unfold SmallI; omega, by unfold SmallI; omega, rngL_nats.symm⟩
  · rintro v rest loc acc mh K hK ⟨dn, rest', ls, e1, e2, h1, rfl, h3, h4, hs, C'⟩
    cases rest' with
    | nil => cases e2
    | cons p rest' =>
      cases e2
      obtain ⟨rfl, hlt⟩ := zcm e1
      refine ⟨upd loc "turn" (.int (dn.length : Int)), rfl, ?_⟩
      walk_at "w"
      refine hin _ _ _ _ _ (hL _ _ h1) C' (by omega) (by simp [intsV]; unfold BIG; omega) fun v mh' hv hs' C2 => ?_
      exact hK _ _ _ ⟨dn ++ [dn.length], rest', ls ++ [v], by rw [e1]; simp, rfl, hL _ _ h1, by simp [intsV], by simp [h3], fun w hw => by
        rcases List.mem_append.mp hw with h | h
        · exact h4 w h
        · simp at h; subst h; exact hv, hs.trans hs', by simpa [Nat.add_assoc] using C2⟩
  · rintro loc acc mh ⟨dn, rest', ls, e1, e2, h1, rfl, h3, h4, hs, C'⟩
    cases rest' with
    | nil =>
      have hl := congrArg List.length e1
      simp at hl
      exact o _ _ _ (by omega) h4 hs (by rw [hl]; exact C')
    | cons p r => cases e2
structure RowOk (l : List Int) : Prop where
  asc : Asc l
  some_ : l ≠ []
  len : l.length ≤ 4
  bound : ∀ v ∈ l, -3 ≤ v ∧ v ≤ 4
structure Sta (L0 rc rcl : Nat) (R : SR) (rF : Nat) (cells : List Int) : Prop where
  ck : CkS rc rcl cells
  nodup : (rc :: rcl :: rF :: R.refs).Nodup
  lt : ∀ i ∈ rc :: rcl :: rF :: R.refs, i < L0
structure LS (L0 rc rcl : Nat) (R : SR) (rF : Nat) (cells : List Int) (loc : Loc) (mh : MH) (cs : List Nat) (F : List (List Int)) (doms firsts : List Dom) (tr : List MV) (n : Nat) : Prop where
  l1 : loc "cask" = some (.ref rc)
  l2 : loc "store" = some (.ref R.r)
  l3 : loc "firsts" = some (.ref rF)
  ck : Cask mh rc rcl cells n
  st : StoreIs mh R doms firsts tr [] false (.tuple [])
  rows : Rows mh rF cs F
  ge : ∀ i ∈ cs, L0 ≤ i
  le : L0 ≤ mh.length
theorem Sta.apart {L0 rc rcl : Nat} {R : SR} {rF : Nat} {cells : List Int} (s : Sta L0 rc rcl R rF cells) : rc ≠ rcl ∧ rc ≠ rF ∧ rc ∉ R.refs ∧ rcl ≠ rF ∧ rcl ∉ R.refs ∧ rF ∉ R.refs ∧ R.refs.Nodup := by
  have := s.nodup
  simp only [List.nodup_cons, List.mem_cons, not_or] at this
  exact ⟨this.1.1, this.1.2.1, this.1.2.2, this.2.1.1, this.2.1.2, this.2.2.1, this.2.2.2⟩
theorem LS.step {L0 rc rcl : Nat} {R : SR} {rF : Nat} {cells : List Int} {loc loc' : Loc} {mh mh' : MH} {cs : List Nat} {F : List (List Int)} {doms firsts : List Dom} {tr : List MV} {n n' : Nat} (x : LS L0 rc rcl R rF cells loc mh cs F doms firsts tr n) (s : Sta L0 rc rcl R rF cells)
    (h : Same [rc] mh mh') (c : Cask mh' rc rcl cells n') (g1 : loc' "cask" = loc "cask") (g2 : loc' "store" = loc "store") (g3 : loc' "firsts" = loc "firsts") : LS L0 rc rcl R rF cells loc' mh' cs F doms firsts tr n' := by
  obtain ⟨a1, a2, a3, a4, a5, a6, a7⟩ := s.apart
  have hlt := s.lt
  refine ⟨g1.trans x.l1, g2.trans x.l2, g3.trans x.l3, c, x.st.same h (by simpa using a3), x.rows.same h fun i hi => ?_, x.ge, Nat.le_trans x.le h.le⟩
  rcases List.mem_cons.mp hi with rfl | hi
  · simpa using fun e => a2 e.symm
  · have h1 := x.ge i hi
    have h2 := hlt rc (by simp)
    simp; omega
theorem LS.step0 {L0 rc rcl : Nat} {R : SR} {rF : Nat} {cells : List Int} {loc loc' : Loc} {mh mh' : MH} {cs : List Nat} {F : List (List Int)} {doms firsts : List Dom} {tr : List MV} {n : Nat} (x : LS L0 rc rcl R rF cells loc mh cs F doms firsts tr n) (s : Sta L0 rc rcl R rF cells)
    (h : Same [] mh mh') (g1 : loc' "cask" = loc "cask") (g2 : loc' "store" = loc "store") (g3 : loc' "firsts" = loc "firsts") : LS L0 rc rcl R rF cells loc' mh' cs F doms firsts tr n :=
  x.step s (h.mono (by simp)) (x.ck.same h (by simp) (by simp)) g1 g2 g3
theorem LS.push {L0 rc rcl : Nat} {R : SR} {rF : Nat} {cells : List Int} {loc : Loc} {mh : MH} {cs : List Nat} {F : List (List Int)} {doms firsts : List Dom} {tr : List MV} {n r : Nat} {l : List Int} (x : LS L0 rc rcl R rF cells loc mh cs F doms firsts tr n) (s : Sta L0 rc rcl R rF cells)
    (h : mh[r]? = some (.list (intsV l))) (hr : L0 ≤ r) : LS L0 rc rcl R rF cells loc (mh.set rF (.list (cs.map MV.ref ++ [.ref r]))) (cs ++ [r]) (F ++ [l]) doms firsts tr n := by
  obtain ⟨a1, a2, a3, a4, a5, a6, a7⟩ := s.apart
  have hs : Same [rF] mh (mh.set rF (.list (cs.map MV.ref ++ [.ref r]))) := .set (by simp)
  have hlt := s.lt rF (by simp)
  refine ⟨x.l1, x.l2, x.l3, x.ck.same hs (by simpa using a2) (by simpa using a4), x.st.same hs (by simpa using a6), ⟨?_, ?_⟩, fun i hi => ?_, by simpa using x.le⟩
  · rw [get_set x.rows.row]; simp
  · refine (x.rows.lists.same hs fun i hi => ?_).snoc (hs.at h (by simp; omega))
    have := x.ge i hi
    simp; omega
  · rcases List.mem_append.mp hi with h1 | h1
    · exact x.ge i h1
    · simp at h1; subst h1; exact hr
theorem LS.grow {L0 rc rcl : Nat} {R : SR} {rF : Nat} {cells : List Int} {loc : Loc} {mh mh' : MH} {cs : List Nat} {F : List (List Int)} {doms firsts doms' firsts' : List Dom} {tr tr' : List MV} {n : Nat} {S : List Nat} (x : LS L0 rc rcl R rF cells loc mh cs F doms firsts tr n) (s : Sta L0 rc rcl R rF cells)
    (h : Same S mh mh') (st : StoreIs mh' R doms' firsts' tr' [] false (.tuple [])) (hS : ∀ i ∈ S, i ∈ R.refs := by simp [SR.refs]) : LS L0 rc rcl R rF cells loc mh' cs F doms' firsts' tr' n := by
  obtain ⟨a1, a2, a3, a4, a5, a6, a7⟩ := s.apart
  have hlt := s.lt
  refine ⟨x.l1, x.l2, x.l3, x.ck.same h (fun e => a3 (hS _ e)) (fun e => a5 (hS _ e)), st, x.rows.same h fun i hi e => ?_, x.ge, Nat.le_trans x.le h.le⟩
  rcases List.mem_cons.mp hi with rfl | hi
  · exact a6 (hS _ e)
  · have h1 := x.ge i hi
    have h2 := hlt i (by simp [hS _ e])
    omega
theorem zhj {ls : List Int} (h1 : ls.length ≤ 4) (h2 : ∀ v ∈ ls, -4 ≤ v ∧ v ≤ 8) : setOk ls :=
  ⟨fun i hi => zlk (h2 i hi).1 (h2 i hi).2, ls, h1, fun i hi => hi⟩
theorem zk5 {rF x : Nat} {cs : List Nat} {F : List (List Int)} {l : List Int} {mh0 : MH} {Q : Loc → MO → MH → Prop} {q : Nat} {loc : Loc} (hR : Rows mh0 rF cs F) (hx : x ≤ 1000) (hl : F[x]? = some l) (hll : l.length ≤ 4) (hq1 : cs[x]? = some q) (hq : mh0[q]? = some (.list (intsV l)))
    (g1 : loc "firsts" = some (.ref rF)) (g2 : loc "x" = some (.int (x : Int))) :
    ((∀ loc' mh', Same [] mh0 mh' → Q loc' (.list (intsV (runsOf l))) mh') → compI (.val (.ref q)) (intsV l) (.one "v") ct3_law ce4_law (intsV l) loc (.list []) Q mh0) ∧
    ((∀ loc' mh', Same [] mh0 mh' → Q loc' (.list (intsV (endsOf l))) mh') → compI (.val (.ref q)) (intsV l) (.one "v") ct5_law ce6_law (intsV l) loc (.list []) Q mh0) := by
  constructor
  · intro o
    refine za9 (fun loc => loc "firsts" = some (.ref rF) ∧ loc "x" = some (.int (x : Int))) MV.int (fun v => decide (v - 1 ∉ l)) MV.int l ?_ (by unfold BIG; omega) ?_ ⟨g1, g2⟩ o
    · exact hq
    · rintro v hv loc ⟨g1, g2⟩
      refine ⟨upd loc "v" (.int v), rfl, ⟨miss rfl g1, miss rfl g2⟩, fun mh hs => ⟨fun R' o => ?_, fun _ R' o => ?_⟩⟩
      · have hrow := (hR.same hs (by simp)).row
        have hq' := hs.at hq (by simp)
        walk_at "w"
        have := o _ .refl
        simpa using this
      · walk_at "w"
        exact o _ .refl
  · intro o
    refine za9 (fun loc => loc "firsts" = some (.ref rF) ∧ loc "x" = some (.int (x : Int))) MV.int (fun v => decide (v + 1 ∉ l)) MV.int l ?_ (by unfold BIG; omega) ?_ ⟨g1, g2⟩ o
    · exact hq
    · rintro v hv loc ⟨g1, g2⟩
      refine ⟨upd loc "v" (.int v), rfl, ⟨miss rfl g1, miss rfl g2⟩, fun mh hs => ⟨fun R' o => ?_, fun _ R' o => ?_⟩⟩
      · have hrow := (hR.same hs (by simp)).row
        have hq' := hs.at hq (by simp)
        walk_at "w"
        have := o _ .refl
        simpa using this
      · walk_at "w"
        exact o _ .refl
theorem draw8 {rc rcl : Nat} {cells : List Int} (s : CkS rc rcl cells) (loc : Loc) (mh : MH) (n : Nat) (vs : List MV) (Qc : Loc → MO → MH → Prop) (h : loc "cask" = some (.ref rc)) (C : Cask mh rc rcl cells n) (hn : n ≤ 5000) (hv : vs.length ≤ BIG)
    (o : ∀ (v : Int) mh', (-3 ≤ v ∧ v ≤ 4) → Same [rc] mh mh' → Cask mh' rc rcl cells (n + 1) → Qc loc (.list (vs ++ [.int v])) mh') : ce2_law t_sip loc (.list vs) Qc mh := by
  walk_at "w"
  refine sip_of s C hn (m := 8) (by omega) rfl fun v mh' hlt hs C' => ?_
  walk_at "w"
  exact ⟨hv, o _ mh' (by omega) hs C'⟩
theorem zpt {L0 rc rcl : Nat} {R : SR} {rF : Nat} {cells : List Int} {many : Nat} {Q : Fl → Loc → MH → Prop} {loc : Loc} {mh0 : MH} (s : Sta L0 rc rcl R rF cells) (hm : many ≤ 4) (hmany : loc "many" = some (.int (many : Int)))
    (x0 : LS L0 rc rcl R rF cells loc mh0 [] [] [] [] [] 1)
    (o : ∀ loc mh cs F n, LS L0 rc rcl R rF cells loc mh cs F (F.map spans) (F.map spans) [] n → loc "many" = some (.int (many : Int)) → F.length = many → (∀ l ∈ F, RowOk l) → n ≤ 21 → Q .next loc mh) :
    forI (.val (.range 0 (many : Int))) (rngL 0 (many : Int)) (aName "x") (b7_law t_sip zag) (rngL 0 (many : Int)) loc Q mh0 := by
  rw [rngL_nats]
  refine zbv (fun rest loc mh => X5 fun dn rest' cs F n => N7 (List.range many = dn ++ rest') (rest = natsV rest') (LS L0 rc rcl R rF cells loc mh cs F (F.map spans) (F.map spans) [] n) (loc "many" = some (.int (many : Int))) (F.length = dn.length) ((∀ l ∈ F, RowOk l)) (n ≤ 1 + 5 * dn.length)) ?_ ?_ ?_ _ _ _ ⟨[], List.range many, [], [], 1, rfl, rfl, x0, hmany, rfl, by simp, by simp⟩
  · rintro rest loc mh -
    exact ⟨by unfold SmallI; omega, by unfold SmallI; omega, rngL_nats.symm⟩
  · rintro v rest loc mh K hK ⟨dn, rest', cs, F, n, e1, e2, x, g4, hF, hrow, hn⟩
    cases rest' with
    | nil => cases e2
    | cons p rest' =>
      cases e2
      obtain ⟨rfl, hlt⟩ := zcm e1
      obtain ⟨a1, a2, a3, a4, a5, a6, a7⟩ := s.apart
      have f1 := x.l1
      have f2 := x.l2
      have f3 := x.l3
      have f4 := x.rows.row
      have f5 := x.ck.cask
      have e1' := e1
      clear e1
      walk_at "s"
      refine sip_of s.ck x.ck (by omega) (m := 4) (by omega) rfl fun v4 mh1 hv4 hs1 C1 => ?_
      have x1 := x.step s hs1 C1 (loc' := upd loc "x" (.int (dn.length : Int))) (by walk_at "ne") (by walk_at "ne") (by walk_at "ne")
      walk_at "w"
      refine ⟨rngL 0 (1 + (v4 : Int)), zie (fun loc => loc "cask" = some (.ref rc)) (fun loc v h => miss rfl h) (draw8 s.ck) (t := 1 + v4) (by omega) (by omega) (by omega) C1 (by walk_at "ne") fun loc2 mh2 ls hls hP hs2 C2 => ?_⟩
      have x2 := x1.step s hs2 C2 (loc' := upd loc "x" (.int (dn.length : Int))) rfl rfl rfl
      refine ⟨mh2.length, ls, rfl, zao, zhj (by omega) fun v hv => by have := hP v hv; omega, fun ns n1 n2 n3 => ?_⟩
      have hk : Same [] mh2 (mh2 ++ [MO.list (intsV ls)] ++ [MO.list (ns.map MV.int)]) := Same.append.trans .append
      have x3 := x2.step0 s hk (loc' := upd loc "x" (.int (dn.length : Int))) rfl rfl rfl
      have hnew : (mh2 ++ [MO.list (intsV ls)] ++ [MO.list (ns.map MV.int)])[(mh2 ++ [MO.list (intsV ls)]).length]? = some (.list (intsV ns)) := zao
      have hge : L0 ≤ (mh2 ++ [MO.list (intsV ls)]).length := by rw [List.length_append]; exact Nat.le_succ_of_le x2.le
      have hnr : RowOk ns := by
        refine ⟨asc_of n1 n2, ?_, ?_, fun v hv => hP v ((n3 v).mp hv)⟩
        · rintro rfl
          cases ls with
          | nil => simp at hls; omega
          | cons a r => have := (n3 a).mpr (by simp); cases this
        · have := zc0 n1 fun v hv => (n3 v).mp hv
          omega
      generalize mh2 ++ [MO.list (intsV ls)] ++ [MO.list (ns.map MV.int)] = mh3 at *
      generalize (mh2 ++ [MO.list (intsV ls)]).length = rnew at *
      have f4' := x3.rows.row
      have hcl := x3.rows.lists.len
      have g4' := zak f4'
      have hcs : (cs.map MV.ref).length ≤ BIG := by simp [hcl]; unfold BIG; omega
      walk_at "w"
      have x4 := x3.push s hnew hge
      have eF : (F ++ [ns])[dn.length]? = some ns := by rw [← hF]; simp
      have ec : (cs ++ [rnew])[dn.length]? = some rnew := by rw [← hF, ← hcl]; simp
      have hS4 : mh3.length ≤ (mh3.set rF (.list (cs.map MV.ref ++ [.ref rnew]))).length := by simp
      have hnew4 : (mh3.set rF (.list (cs.map MV.ref ++ [.ref rnew])))[rnew]? = some (.list (intsV ns)) := by
        have := (x4.rows.lists.at_ _ _ ec)
        obtain ⟨l, e3, e4⟩ := this
        rw [eF] at e3; cases e3; exact e4
      clear hcs g4' f4' hS4
      generalize mh3.set rF (.list (cs.map MV.ref ++ [.ref rnew])) = mh4 at *
      have f6 := x4.rows.row
      walk_at "n"
      refine ⟨intsV ns, (zk5 x4.rows (by omega) eF hnr.len ec hnew4 (by walk_at "ne") (by walk_at "ne")).1 fun loc5 mh5 hs5 => ?_⟩
      apply cont_i
      have hk5 : Same [] mh5 (mh5 ++ [MO.list (intsV (runsOf ns))]) := .append
      have x5 := x4.step0 s (hs5.trans hk5) (loc' := upd (upd loc "x" (.int (dn.length : Int))) "runs" (.ref mh5.length)) (by walk_at "ne") (by walk_at "ne") (by walk_at "ne")
      have hruns : (mh5 ++ [MO.list (intsV (runsOf ns))])[mh5.length]? = some (.list (intsV (runsOf ns))) := zao
      have hnew5 := (hs5.trans hk5).at hnew4 (by simp)
      generalize mh5 ++ [MO.list (intsV (runsOf ns))] = mh6 at *
      generalize mh5.length = rr at *
      have f7 := x5.rows.row
      walk_at "s"
      refine ⟨intsV ns, (zk5 x5.rows (by omega) eF hnr.len ec hnew5 (by walk_at "ne") (by walk_at "ne")).2 fun loc6 mh7 hs7 => ?_⟩
      apply cont_i
      have hk7 : Same [] mh7 (mh7 ++ [MO.list (intsV (endsOf ns))]) := .append
      have x7 := x5.step0 s (hs7.trans hk7) (loc' := upd (upd (upd loc "x" (.int (dn.length : Int))) "runs" (.ref rr)) "ends" (.ref mh7.length)) (by walk_at "ne") (by walk_at "ne") (by walk_at "ne")
      have hruns7 := (hs7.trans hk7).at hruns (by simp)
      have hends : (mh7 ++ [MO.list (intsV (endsOf ns))])[mh7.length]? = some (.list (intsV (endsOf ns))) := zao
      generalize mh7 ++ [MO.list (intsV (endsOf ns))] = mh8 at *
      generalize mh7.length = re at *
      have f8 := x7.st.inst
      rw [zi9 hnr.asc] at hruns7
      rw [zjq hnr.asc] at hends
      have hsl : (spans ns).length ≤ 4 := Nat.le_trans zkx hnr.len
      walk_at "w"
      refine ⟨rr, re, intsV ((spans ns).map (·.1)), intsV ((spans ns).map (·.2)), rfl, hruns7, hends, by simp [intsV], by simp [intsV]; unfold BIG; omega, ?_⟩
      rw [zi2]
      have hFl : (F.map spans).length ≤ 1000 := by simp; omega
      refine ⟨R, F.map spans, F.map spans, [], [], false, .tuple [], spans ns, rfl, x7.st, a7, hFl, hFl, fun e => hnr.some_ (spans_nil.mp e), fun mh9 hs9 S9 => ?_⟩
      have x9 := x7.grow s hs9 (by simpa using S9)
      refine hK _ _ ⟨dn ++ [dn.length], rest', cs ++ [rnew], F ++ [ns], n + 1 + (1 + v4), by rw [e1']; simp, rfl, by simpa using x9, ?_, by simp [hF], ?_, by simp; omega⟩
      · walk_at "ne"
      · intro l hl
        rcases List.mem_append.mp hl with h | h
        · exact hrow l h
        · simp at h; subst h; exact hnr
  · rintro loc mh ⟨dn, rest', cs, F, n, e1, e2, x, g4, hF, hrow, hn⟩
    cases rest' with
    | nil =>
      have hl := congrArg List.length e1
      simp at hl
      exact o _ _ cs F n x g4 (by omega) hrow (by omega)
    | cons p r => cases e2
structure DomOk (d : Dom) : Prop where
  ok : OkD d
  some_ : vals d ≠ []
  len : (vals d).length ≤ 4
  bound : ∀ v ∈ vals d, -3 ≤ v ∧ v ≤ 4
theorem DomOk.sm {d : Dom} (h : DomOk d) : SmD d := h.ok.sm (by have := h.len; omega) fun v hv => by have := h.bound v hv; omega
theorem RowOk.dom {l : List Int} (h : RowOk l) : DomOk (spans l) := by
  refine ⟨zrh h.asc, ?_, ?_, ?_⟩ <;> rw [zc6 h.asc]
  · exact h.some_
  · exact h.len
  · exact h.bound
theorem DomOk.struck {d : Dom} (h : DomOk d) {l : Lit} (hp : l.plain) (hn : (vals d).filter (keepsB l) ≠ []) : DomOk (struckD l d) := by
  obtain ⟨h1, h2⟩ := zew h.ok hp
  refine ⟨zpw h.ok hp, by rw [h1]; exact hn, ?_, fun v hv => ?_⟩
  · rw [h1]; exact Nat.le_trans (List.length_filter_le _ _) h.len
  · rw [h1] at hv; exact h.bound v (List.mem_filter.mp hv).1
theorem LS.away {L0 rc rcl : Nat} {R : SR} {rF : Nat} {cells : List Int} {loc : Loc} {mh mh' : MH} {cs : List Nat} {F : List (List Int)} {doms firsts : List Dom} {tr : List MV} {n : Nat} {S : List Nat} (x : LS L0 rc rcl R rF cells loc mh cs F doms firsts tr n) (s : Sta L0 rc rcl R rF cells)
    (h : Same S mh mh') (hS : ∀ i ∈ S, L0 ≤ i ∧ i ∉ cs) : LS L0 rc rcl R rF cells loc mh' cs F doms firsts tr n := by
  have hlt := s.lt
  have ho : ∀ i ∈ rc :: rcl :: rF :: R.refs, i ∉ S := fun i hi e => by have := (hS i e).1; have := hlt i hi; omega
  refine ⟨x.l1, x.l2, x.l3, x.ck.same h (ho _ (by simp)) (ho _ (by simp)), x.st.same h fun i hi e => ho i (by simp [e]) hi, x.rows.same h fun i hi e => ?_, x.ge, Nat.le_trans x.le h.le⟩
  rcases List.mem_cons.mp hi with rfl | hi
  · exact ho _ (by simp) e
  · exact (hS i e).2 hi
structure LN (L0 rc rcl : Nat) (R : SR) (rF : Nat) (cells : List Int) (rN : Nat) (loc : Loc) (mh : MH) (cs ds : List Nat) (F : List (List Int)) (doms : List Dom) (tr : List MV) (n : Nat) : Prop where
  ls : LS L0 rc rcl R rF cells loc mh cs F doms (F.map spans) tr n
  l4 : loc "now" = some (.ref rN)
  N : Rows mh rN ds (doms.map vals)
  nge : L0 ≤ rN
  dge : ∀ i ∈ ds, L0 ≤ i
  nds : rN ∉ ds
  ncs : rN ∉ cs
  okd : ∀ d ∈ doms, DomOk d
  rowsF : ∀ l ∈ F, RowOk l
  len : doms.length = F.length
theorem Rows.set {mh : MH} {r q x : Nat} {cs : List Nat} {F : List (List Int)} {l : List Int} (h : Rows mh r cs F) (hx : x < F.length) (hq : mh[q]? = some (.list (intsV l))) (h1 : r ∉ cs) (h2 : q ≠ r) :
    Rows (mh.set r (.list ((cs.map MV.ref).set x (.ref q)))) r (cs.set x q) (F.set x l) := by
  have hs : Same [r] mh (mh.set r (.list ((cs.map MV.ref).set x (.ref q)))) := .set (by simp)
  refine ⟨by rw [get_set h.row, List.map_set], by simp [h.lists.len], fun i p hp => ?_⟩
  by_cases hi : x = i
  · subst hi
    rw [List.getElem?_set_self (by rw [h.lists.len]; exact hx)] at hp
    cases hp
    exact ⟨l, List.getElem?_set_self hx, hs.at hq (by simpa using h2)⟩
  · rw [List.getElem?_set_ne hi] at hp
    obtain ⟨l', e1, e2⟩ := h.lists.at_ i p hp
    exact ⟨l', by rw [List.getElem?_set_ne hi]; exact e1, hs.at e2 (by simp; rintro rfl; exact h1 (List.mem_of_getElem? hp))⟩
theorem LN.step {L0 rc rcl : Nat} {R : SR} {rF : Nat} {cells : List Int} {rN : Nat} {loc loc' : Loc} {mh mh' : MH} {cs ds : List Nat} {F : List (List Int)} {doms : List Dom} {tr : List MV} {n n' : Nat} (x : LN L0 rc rcl R rF cells rN loc mh cs ds F doms tr n) (s : Sta L0 rc rcl R rF cells)
    (h : Same [rc] mh mh') (c : Cask mh' rc rcl cells n') (g1 : loc' "cask" = loc "cask") (g2 : loc' "store" = loc "store") (g3 : loc' "firsts" = loc "firsts") (g4 : loc' "now" = loc "now") : LN L0 rc rcl R rF cells rN loc' mh' cs ds F doms tr n' := by
  have hlt := s.lt rc (by simp)
  refine ⟨x.ls.step s h c g1 g2 g3, g4.trans x.l4, x.N.same h fun i hi => ?_, x.nge, x.dge, x.nds, x.ncs, x.okd, x.rowsF, x.len⟩
  rcases List.mem_cons.mp hi with rfl | hi
  · have := x.nge; simp; omega
  · have := x.dge i hi; simp; omega
theorem LN.step0 {L0 rc rcl : Nat} {R : SR} {rF : Nat} {cells : List Int} {rN : Nat} {loc loc' : Loc} {mh mh' : MH} {cs ds : List Nat} {F : List (List Int)} {doms : List Dom} {tr : List MV} {n : Nat} (x : LN L0 rc rcl R rF cells rN loc mh cs ds F doms tr n) (s : Sta L0 rc rcl R rF cells)
    (h : Same [] mh mh') (g1 : loc' "cask" = loc "cask") (g2 : loc' "store" = loc "store") (g3 : loc' "firsts" = loc "firsts") (g4 : loc' "now" = loc "now") : LN L0 rc rcl R rF cells rN loc' mh' cs ds F doms tr n :=
  x.step s (h.mono (by simp)) (x.ls.ck.same h (by simp) (by simp)) g1 g2 g3 g4
theorem sign_of {v : Nat} (h : v < 3) : ∃ sg : Str, ([MV.str "!=", MV.str "<=", MV.str ">="] : List MV)[v]? = some (.str sg) ∧ (sg = ("<=" : Str) ∨ sg = (">=" : Str) ∨ sg = ("!=" : Str)) := by
  match v, h with
  | 0, _ => exact ⟨_, rfl, .inr (.inr rfl)⟩
  | 1, _ => exact ⟨_, rfl, .inl rfl⟩
  | 2, _ => exact ⟨_, rfl, .inr (.inl rfl)⟩
theorem zm3 {L0 rc rcl : Nat} {R : SR} {rF : Nat} {cells : List Int} {rN many turns n0 : Nat} {Q : Fl → Loc → MH → Prop} {loc : Loc} {mh0 : MH} {cs ds : List Nat} {F : List (List Int)} {doms : List Dom} (s : Sta L0 rc rcl R rF cells) (hm : 0 < many ∧ many ≤ 4) (hF : F.length = many) (ht : turns ≤ 3) (hn0 : n0 ≤ 100) (hmany : loc "many" = some (.int (many : Int)))
    (x0 : LN L0 rc rcl R rF cells rN loc mh0 cs ds F doms [] n0)
    (o : ∀ loc mh ds doms tr n, LN L0 rc rcl R rF cells rN loc mh cs ds F doms tr n → loc "many" = some (.int (many : Int)) → n ≤ 200 → tr.length ≤ 3 → Q .next loc mh) :
    forI (.val (.range 0 (turns : Int))) (rngL 0 (turns : Int)) (aName "turn") (b9_law t_sip t_left zaf) (rngL 0 (turns : Int)) loc Q mh0 := by
  rw [rngL_nats]
  refine zbv (fun rest loc mh => X6 fun dn rest' ds doms tr n => N6 (List.range turns = dn ++ rest') (rest = natsV rest') (LN L0 rc rcl R rF cells rN loc mh cs ds F doms tr n) (loc "many" = some (.int (many : Int))) (n ≤ n0 + 3 * dn.length) (tr.length ≤ dn.length)) ?_ ?_ ?_ _ _ _ ⟨[], List.range turns, ds, doms, [], n0, rfl, rfl, x0, hmany, by simp, by simp⟩
  · rintro rest loc mh -
    exact ⟨by unfold SmallI; omega, by unfold SmallI; omega, rngL_nats.symm⟩
  · rintro v rest loc mh K hK ⟨dn, rest', ds, doms, tr, n, e1, e2, x, g5, hn, htr⟩
    cases rest' with
    | nil => cases e2
    | cons p rest' =>
      cases e2
      obtain ⟨rfl, hlt⟩ := zcm e1
      obtain ⟨a1, a2, a3, a4, a5, a6, a7⟩ := s.apart
      have f1 := x.ls.l1
      have f2 := x.ls.l2
      have f3 := x.ls.l3
      have f4 := x.l4
      have e1' := e1
      clear e1
      walk_at "s"
      refine sip_of s.ck x.ls.ck (by omega) hm.1 rfl fun xv mh1 hxv hs1 C1 => ?_
      have x1 := x.step s hs1 C1 (loc' := upd loc "turn" (.int (dn.length : Int))) (by walk_at "ne") (by walk_at "ne") (by walk_at "ne") (by walk_at "ne")
      walk_at "w"
      refine sip_of s.ck C1 (by omega) (m := 3) (by omega) rfl fun sv mh2 hsv hs2 C2 => ?_
      have x2 := x1.step s hs2 C2 (loc' := upd loc "turn" (.int (dn.length : Int))) rfl rfl rfl rfl
      obtain ⟨sg, hsg, hpl⟩ := sign_of hsv
      have hsm : sv ≤ 100000 := by omega
      walk_at "w"
      obtain ⟨l, hl⟩ : ∃ l, F[xv]? = some l := ⟨F[xv], by simp⟩
      obtain ⟨q, hq1, hq2⟩ := x2.ls.rows.get hl
      have hrl := x2.rowsF l (List.mem_of_getElem? hl)
      have hlen := hrl.len
      have hfr := x2.ls.rows.row
      have hxs : xv ≤ 100000 := by omega
      have hil : (intsV l).length = l.length := by simp [intsV]
      walk_at "n"
      have hl0 : 0 < l.length := List.length_pos_iff.mpr hrl.some_
      refine sip_of s.ck C2 (by omega) hl0 (by rw [hil]) fun kv mh3 hkv hs3 C3 => ?_
      have x3 := x2.step s hs3 C3 (loc' := upd loc "turn" (.int (dn.length : Int))) rfl rfl rfl rfl
      have hq3 := hs3.at hq2 (by have := x2.ls.ge q (List.mem_of_getElem? hq1); have := s.lt rc (by simp); simp; omega)
      have hlk : l[kv]? = some l[kv] := by simp [hkv]
      have hks : kv ≤ 100000 := by omega
      walk_at "w"
      have hdl : xv < doms.length := by rw [x3.len, hF]; exact hxv
      have hN : (doms.map vals)[xv]? = some (vals doms[xv]) := by simp [hdl]
      obtain ⟨qn, hn1, hn2⟩ := x3.N.get hN
      have hnr := x3.N.row
      have hdok := x3.okd doms[xv] (List.getElem_mem hdl)
      generalize l[kv] = kk at *
      apply cont_i
      walk_at "w"
      have hvl : (vals doms[xv]).length ≤ BIG := by have := hdok.len; unfold BIG; omega
      have hplain : (Lit.mk (xv : Int) sg kk).plain := hpl
      have k3 : Same [] mh3 (mh3 ++ [MO.list [MV.tuple [.int (xv : Int), .str sg, .int kk]]]) := .append
      refine ⟨qn, vals doms[xv], .ref mh3.length, [⟨xv, sg, kk⟩], xv, rfl, k3.at hn2 (by simp), zao, by simpa using hplain, hvl, by simp; unfold BIG; omega, fun mh4 r hs4 hr hrl => ?_⟩
      rw [znq rfl] at hr
      walk_at "w"
      have k4 : Same [] mh4 (mh4 ++ [MO.list []]) := .append
      refine eq_list (b := []) (k4.at hr (by simp)) zao ?_
      have hS3 : Same [] mh3 (mh4 ++ [MO.list []]) := (k3.trans hs4).trans k4
      have x4 := x3.step0 s hS3 (loc' := upd (upd (upd (upd loc "turn" (.int (dn.length : Int))) "x" (.int (xv : Int))) "sign" (.str sg)) "literal" (.tuple [.int (xv : Int), .str sg, .int kk])) (by walk_at "ne") (by walk_at "ne") (by walk_at "ne") (by walk_at "ne")
      have hn4 := hS3.at hn2 (by simp)
      clear k3 k4 hS3 hs4 hr hrl
      generalize mh4 ++ [MO.list []] = mh5 at *
      have hmany5 : (upd (upd (upd (upd loc "turn" (.int (dn.length : Int))) "x" (.int (xv : Int))) "sign" (.str sg)) "literal" (.tuple [.int (xv : Int), .str sg, .int kk])) "many" = some (.int (many : Int)) := by walk_at "ne"
      by_cases hemp : (vals doms[xv]).filter (keepsB ⟨xv, sg, kk⟩) = []
      · refine nyes_i hemp ?_
        exact hK _ _ ⟨dn ++ [dn.length], rest', ds, doms, tr, n + 1 + 1 + 1, by rw [e1']; simp, rfl, x4, hmany5, by simp; omega, by simp; omega⟩
      · refine nno_i hemp ?_
        have hnr4 := x4.N.row
        walk_at "s"
        have k5 : Same [] mh5 (mh5 ++ [MO.list [MV.tuple [.int (xv : Int), .str sg, .int kk]]]) := .append
        refine ⟨qn, vals doms[xv], .ref mh5.length, [⟨xv, sg, kk⟩], xv, rfl, k5.at hn4 (by simp), zao, by simpa using hplain, hvl, by simp; unfold BIG; omega, fun mh6 r hs6 hr hrl => ?_⟩
        rw [znq rfl] at hr
        have x6 := x4.step0 s (k5.trans hs6) rfl rfl rfl rfl
        have hnr6 := x6.N.row
        have hrge : rN < r := by
          have h1 := zak hnr4
          simp at hrl; omega
        have hrl0 : L0 ≤ r := by have := x6.nge; omega
        clear hrl hs6 k5
        have hdsl : ds.length = doms.length := by rw [x6.N.lists.len]; simp
        walk_at "w"
        have hrow7 := x6.N.set (l := (vals doms[xv]).filter (keepsB ⟨xv, sg, kk⟩)) (x := xv) (by simpa using hdl) hr x6.nds (by omega)
        have hs7 : Same [rN] mh6 (mh6.set rN (.list ((ds.map MV.ref).set xv (.ref r)))) := .set (by simp)
        have x7 := x6.ls.away s hs7 (by simp; exact ⟨x6.nge, x6.ncs⟩)
        generalize mh6.set rN (.list ((ds.map MV.ref).set xv (.ref r))) = mh7 at *
        have hst := x7.st.inst
        have hdg : doms[xv]? = some doms[xv] := by simp [hdl]
        obtain ⟨hsv, hsr⟩ := zew hdok.ok hplain
        walk_at "n"
        refine ⟨R, doms, F.map spans, tr, [], false, .tuple [], ⟨xv, sg, kk⟩, doms[xv], xv, rfl, rfl, hplain, x7.st, a7, by omega, hdg, hdok.sm, ?_, by omega, fun mh8 hs8 S8 => ?_⟩
        · intro e
          rw [e] at hsv
          exact hemp hsv.symm
        · have x8 := x7.grow s hs8 S8
          have hnotR : ∀ i ∈ rN :: ds.set xv r, i ∉ [R.d, R.t, R.n] := by
            intro i hi hm
            have h1 : i < L0 := s.lt i (by simp only [List.mem_cons, SR.refs]; simp at hm; rcases hm with h | h | h <;> simp [h])
            rcases List.mem_cons.mp hi with rfl | hi
            · have := x6.nge; omega
            · rcases List.mem_or_eq_of_mem_set hi with h | rfl
              · have := x6.dge i h; omega
              · omega
          refine hK _ _ ⟨dn ++ [dn.length], rest', ds.set xv r, doms.set xv (struckD ⟨xv, sg, kk⟩ doms[xv]), _, n + 1 + 1 + 1, by rw [e1']; simp, rfl, ⟨x8, x6.l4, ?_, x6.nge, fun i hi => ?_, fun hm => ?_, x6.ncs, fun d hd => ?_, x6.rowsF, by simp [x6.len]⟩, hmany5, by simp; omega, ?_⟩
          · rw [List.map_set, hsv]
            exact hrow7.same hs8 hnotR
          · rcases List.mem_or_eq_of_mem_set hi with h | rfl
            · exact x6.dge i h
            · exact hrl0
          · rcases List.mem_or_eq_of_mem_set hm with h | h
            · exact x6.nds h
            · omega
          · rcases List.mem_or_eq_of_mem_set hd with h | rfl
            · exact x6.okd d h
            · exact hdok.struck hplain hemp
          · split
            · simp; omega
            · simp; omega
  · rintro loc mh ⟨dn, rest', ds, doms, tr, n, e1, e2, x, g5, hn, htr⟩
    cases rest' with
    | nil =>
      have hl := congrArg List.length e1
      simp at hl
      exact o _ _ ds doms tr n x g5 (by omega) (by omega)
    | cons p r => cases e2
theorem zrx {rF : Nat} {cs : List Nat} {F : List (List Int)} {mh0 : MH} {Q : Loc → MO → MH → Prop} {loc : Loc} (hR : Rows mh0 rF cs F) (hF : F.length ≤ 1000) (hl : ∀ l ∈ F, l.length ≤ 1000)
    (o : ∀ loc' mh' ds, Same [] mh0 mh' → Lists mh' ds F → (∀ i ∈ ds, mh0.length ≤ i) → Q loc' (.list (ds.map .ref)) mh') :
    compI (.val (.ref rF)) (cs.map .ref) (.one "one") tTrue ce8_law (cs.map .ref) loc (.list []) Q mh0 := by
  have hcl := hR.lists.len
  refine zce (fun rest loc acc mh => X2 fun k ds => N6 (k ≤ F.length) (rest = (cs.drop k).map .ref) (acc = .list (ds.map .ref)) (Lists mh ds (F.take k)) ((∀ i ∈ ds, mh0.length ≤ i)) (Same [] mh0 mh)) ?_ ?_ ?_ _ _ _ _ ⟨0, [], Nat.zero_le _, rfl, rfl, .nil, by simp, .refl⟩
  · rintro rest loc acc mh ⟨k, ds, -, -, -, -, -, hs⟩
    exact hs.at hR.row (by simp)
  · rintro v rest loc acc mh K hK ⟨k, ds, hk, e2, rfl, hL, hge, hs⟩
    by_cases hkl : k < cs.length
    · rw [List.drop_eq_getElem_cons hkl] at e2
      simp only [List.map_cons, List.cons.injEq] at e2
      obtain ⟨rfl, rfl⟩ := e2
      have hFk : F[k]? = some F[k] := by rw [List.getElem?_eq_getElem]
      obtain ⟨q, h1, h2⟩ := hR.lists.get hFk
      rw [List.getElem?_eq_getElem hkl] at h1; cases h1
      have h3 := hs.at h2 (by simp)
      have hll := hl _ (List.getElem_mem (show k < F.length by omega))
      have hdl := hL.len
      simp only [List.length_take] at hdl
      have hil : (intsV F[k]).length = F[k].length := by simp [intsV]
      refine ⟨upd loc "one" (.ref cs[k]), rfl, ?_⟩
      walk_at "w"
      refine ⟨by rw [List.length_map]; unfold BIG; omega, ?_⟩
      have hk1 : Same [] mh (mh ++ [MO.list (intsV F[k])]) := .append
      refine hK _ _ _ ⟨k + 1, ds ++ [mh.length], by omega, rfl, by simp, ?_, fun i hi => ?_, hs.trans hk1⟩
      · have := (hL.same hk1 (by simp)).snoc (zao (o := MO.list (intsV F[k])))
        rwa [List.take_append_getElem] at this
      · rcases List.mem_append.mp hi with h | h
        · exact hge i h
        · simp at h; subst h; exact hs.le
    · rw [List.drop_eq_nil_of_le (by omega)] at e2; cases e2
  · rintro loc acc mh ⟨k, ds, hk, e2, rfl, hL, hge, hs⟩
    have : k = F.length := by
      by_cases hkl : k < cs.length
      · rw [List.drop_eq_getElem_cons hkl] at e2; cases e2
      · omega
    subst this
    rw [List.take_length] at hL
    exact o _ _ _ hs hL hge
theorem zsm {d : Dom} (sm : SmD d) {all : List MV} {mh0 : MH} {Q : Loc → MO → MH → Prop} {loc : Loc} (o : ∀ loc', Q loc' (.list (intsV (vals d))) mh0) :
    compI (.val (.tuple all)) all (.many ["low", "high"]) tTrue zn8 (d.map pairV) loc (.list []) Q mh0 := by
  have hvl := zcj sm.run
  have hdl := sm.len
  refine zce (fun rest loc acc mh => X2 fun dn d' => N4 (d = dn ++ d') (rest = d'.map pairV) (acc = .list (intsV (vals dn))) (mh = mh0)) ?_ ?_ ?_ _ _ _ _ ⟨[], d, rfl, rfl, rfl, rfl⟩
  · rintro rest loc acc mh -; rfl
  · rintro v rest loc acc mh K hK ⟨dn, d', e1, e2, rfl, rfl⟩
    cases d' with
    | nil => cases e2
    | cons p d' =>
      cases e2
      have hp := sm.run p (by rw [e1]; simp)
      have hv : vals d = vals dn ++ (span p ++ vals d') := by rw [e1]; simp [vals]
      have hlen := congrArg List.length hv
      simp only [List.length_append, zck] at hlen
      refine ⟨upd (upd loc "low" (.int p.1)) "high" (.int p.2), rfl, ?_⟩
      walk_at "w"
      refine ⟨rngL p.1 (p.2 + 1), ?_⟩
      rw [zhl]
      refine zce (fun rest loc acc mh' => X2 fun sn s' => N4 (span p = sn ++ s') (rest = intsV s') (acc = .list (intsV (vals dn ++ sn))) (mh' = mh)) ?_ ?_ ?_ _ _ _ _ ⟨[], span p, rfl, rfl, by simp, rfl⟩
      · rintro rest loc acc mh' -
        exact ⟨by unfold SmallI; omega, by unfold SmallI; omega, (zhl p).symm⟩
      · rintro v rest loc acc mh' K' hK' ⟨sn, s', e3, e4, rfl, rfl⟩
        cases s' with
        | nil => cases e4
        | cons u s' =>
          cases e4
          have hsl := congrArg List.length e3
          simp only [zck, List.length_append, List.length_cons] at hsl
          refine ⟨upd loc "v" (.int u), rfl, ?_⟩
          walk_at "w"
          refine ⟨by simp [intsV]; unfold BIG; omega, hK' _ _ _ ⟨sn ++ [u], s', by rw [e3]; simp, rfl, by simp [intsV], rfl⟩⟩
      · rintro loc acc mh' ⟨sn, s', e3, e4, rfl, rfl⟩
        cases s' with
        | nil =>
          simp at e3
          refine hK _ _ _ ⟨dn ++ [p], d', by rw [e1]; simp, rfl, ?_, rfl⟩
          rw [← e3]
          simp [vals]
        | cons u s' => cases e4
  · rintro loc acc mh ⟨dn, d', e1, e2, rfl, rfl⟩
    cases d' with
    | nil => simp at e1; subst e1; exact o _
    | cons p d' => cases e2
theorem zpo {R : SR} {doms firsts : List Dom} {tr marks : List MV} {fl : Bool} {cl : MV} {mh0 : MH} {Q : Loc → MO → MH → Prop} {loc : Loc} (S : StoreIs mh0 R doms firsts tr marks fl cl) (hd : doms.length ≤ 1000) (hs : ∀ d ∈ doms, SmD d) (h1 : loc "store" = some (.ref R.r))
    (o : ∀ loc' mh' as, Same [] mh0 mh' → Lists mh' as (doms.map vals) → Q loc' (.list (as.map .ref)) mh') {b : Int} (hb : b = (doms.length : Int)) :
    compI (.val (.range 0 b)) (rngL 0 b) (.one "x") tTrue (zn7 zad) (rngL 0 b) loc (.list []) Q mh0 := by
  subst hb
  rw [rngL_nats]
  refine zce (fun rest loc acc mh => X3 fun dn rest' as => N6 (List.range doms.length = dn ++ rest') (rest = natsV rest') (loc "store" = some (.ref R.r)) (acc = .list (as.map .ref)) (Lists mh as ((doms.take dn.length).map vals)) (Same [] mh0 mh)) ?_ ?_ ?_ _ _ _ _ ⟨[], List.range doms.length, [], rfl, rfl, h1, rfl, .nil, .refl⟩
  · rintro rest loc acc mh -
    exact ⟨by unfold SmallI; omega, by unfold SmallI; omega, rngL_nats.symm⟩
  · rintro v rest loc acc mh K hK ⟨dn, rest', as, e1, e2, h1, rfl, hL, hsm⟩
    cases rest' with
    | nil => cases e2
    | cons p rest' =>
      cases e2
      obtain ⟨rfl, hlt⟩ := zcm e1
      have S' := S.same hsm (by simp)
      have hi := S'.inst
      have hal := hL.len
      simp only [List.length_map, List.length_take] at hal
      refine ⟨upd loc "x" (.int (dn.length : Int)), rfl, ?_⟩
      walk_at "w"
      have hdg : doms[dn.length]? = some doms[dn.length] := by simp [hlt]
      refine ⟨R, doms, firsts, tr, marks, fl, cl, doms[dn.length], dn.length, rfl, S', by omega, hdg, ?_⟩
      walk_at "w"
      refine ⟨_, zsm (hs _ (List.getElem_mem hlt)) fun loc' => ⟨by rw [List.length_map]; unfold BIG; omega, ?_⟩⟩
      have hk1 : Same [] mh (mh ++ [MO.list (intsV (vals doms[dn.length]))]) := .append
      refine hK _ _ _ ⟨dn ++ [dn.length], rest', as ++ [mh.length], by rw [e1]; simp, rfl, miss rfl h1, by simp, ?_, hsm.trans hk1⟩
      have := (hL.same hk1 (by simp)).snoc (zao (o := MO.list (intsV (vals doms[dn.length]))))
      rw [show (dn ++ [dn.length]).length = dn.length + 1 by simp, ← List.take_append_getElem hlt, List.map_append]
      exact this
  · rintro loc acc mh ⟨dn, rest', as, e1, e2, h1, rfl, hL, hsm⟩
    cases rest' with
    | nil =>
      have hl := congrArg List.length e1
      simp at hl
      rw [← hl, List.take_length] at hL
      exact o _ _ _ hsm hL
    | cons p r => cases e2
theorem zkh {mh : MH} : ∀ {cs : List Nat} {F : List (List Int)}, Lists mh cs F → DRs mh (cs.map .ref) (F.map fun l => Dat.list (l.map .int))
  | [], [], _ => .nil
  | [], _ :: _, h => by have := h.len; simp at this
  | _ :: _, [], h => by have := h.len; simp at this
  | c :: cs, l :: F, h => by
    obtain ⟨l', h1, h2⟩ := h.at_ 0 c rfl
    simp at h1; subst h1
    exact .cons (.list h2 (dr_ints l)) (zkh ⟨by have := h.len; simpa using this, fun i r hr => by have := h.at_ (i + 1) r (by simpa using hr); simpa using this⟩)
theorem eq_rows {mh : MH} {r s : Nat} {cs ds : List Nat} {F G : List (List Int)} {Q : Bool → Prop} (h1 : mh[r]? = some (.list (cs.map .ref))) (h2 : mh[s]? = some (.list (ds.map .ref))) (L1 : Lists mh cs F) (L2 : Lists mh ds G) (q : Q (decide (F = G))) : eqM (.ref r) (.ref s) Q mh := by
  refine ⟨.list (F.map fun l => Dat.list (l.map .int)), .list (G.map fun l => Dat.list (l.map .int)), .list h1 (zkh L1), .list h2 (zkh L2), ?_, ?_, ?_⟩
  · simp [kqdOk]
  · simp [kqdOk]
  · have : (Dat.list (F.map fun l => Dat.list (l.map .int)) = Dat.list (G.map fun l => Dat.list (l.map .int))) ↔ F = G := by
      refine ⟨fun h => ?_, fun h => by rw [h]⟩
      simp only [Dat.list.injEq] at h
      exact (List.map_inj_right fun _ _ e => ints_inj.mp e).mp h
    simpa only [this] using q
theorem draw9 {rc rcl : Nat} {cells : List Int} (s : CkS rc rcl cells) (loc : Loc) (mh : MH) (n : Nat) (vs : List MV) (Qc : Loc → MO → MH → Prop) (h : loc "cask" = some (.ref rc)) (C : Cask mh rc rcl cells n) (hn : n ≤ 5000) (hv : vs.length ≤ BIG)
    (o : ∀ (v : Int) mh', (-4 ≤ v ∧ v ≤ 4) → Same [rc] mh mh' → Cask mh' rc rcl cells (n + 1) → Qc loc (.list (vs ++ [.int v])) mh') : zn9 t_sip loc (.list vs) Qc mh := by
  walk_at "w"
  refine sip_of s C hn (m := 9) (by omega) rfl fun v mh' hlt hs C' => ?_
  walk_at "w"
  exact ⟨hv, o _ mh' (by omega) hs C'⟩
theorem drawM {rc rcl many : Nat} {cells : List Int} (s : CkS rc rcl cells) (hm : 0 < many) (loc : Loc) (mh : MH) (n : Nat) (vs : List MV) (Qc : Loc → MO → MH → Prop) (h : loc "cask" = some (.ref rc) ∧ loc "many" = some (.int (many : Int))) (C : Cask mh rc rcl cells n) (hn : n ≤ 5000) (hv : vs.length ≤ BIG)
    (o : ∀ (v : Int) mh', (0 ≤ v ∧ v < many) → Same [rc] mh mh' → Cask mh' rc rcl cells (n + 1) → Qc loc (.list (vs ++ [.int v])) mh') : zoa t_sip loc (.list vs) Qc mh := by
  obtain ⟨h1, h2⟩ := h
  walk_at "w"
  exact sip_of s C hn (m := many) hm rfl fun v mh' hlt hs C' => ⟨hv, o _ mh' (by omega) hs C'⟩
section
variable {L0 rc rcl : Nat} {R : SR} {rF : Nat} {cells : List Int} {rN many n : Nat} {QS : Fl → Loc → MH → Prop} {loc : Loc} {mh : MH} {cs ds : List Nat} {F : List (List Int)} {doms : List Dom} {tr : List MV}
theorem tail16 (x : LN L0 rc rcl R rF cells rN loc mh cs ds F doms tr n) {ra : Nat} {as : List Nat} (h1 : loc "after" = some (.ref ra)) (h2 : mh[ra]? = some (.list (as.map .ref))) (h3 : Lists mh as (doms.map vals)) (h4 : loc "trail" = some (.int (tr.length : Int))) (ht : tr.length ≤ 1000)
    (o : ∀ loc mh, QS (.ret (.bool true)) loc mh) : k16_law loc QS mh := by
  have f1 := x.ls.st.inst
  have f2 := x.ls.st.trail
  have f3 := x.ls.l2
  have f4 := x.l4
  walk_at "w"
  refine eq_rows h2 x.N.row h3 x.N.lists (yes_i rfl ?_)
  walk_at "w"
  refine yes_i rfl ?_
  walk_at "w"
  exact o _ _
structure LT (L0 rc rcl : Nat) (R : SR) (rF : Nat) (cells : List Int) (rN many : Nat) (loc : Loc) (mh : MH) (cs ds : List Nat) (F : List (List Int)) (doms : List Dom) (tr : List MV) (n : Nat) : Prop where
  ln : LN L0 rc rcl R rF cells rN loc mh cs ds F doms tr n
  l5 : loc "many" = some (.int (many : Int))
  l6 : loc "trail" = some (.int (tr.length : Int))
  hm : 0 < many ∧ many ≤ 4
  hF : F.length = many
  ht : tr.length ≤ 1000
theorem LT.step0 (x : LT L0 rc rcl R rF cells rN many loc mh cs ds F doms tr n) (s : Sta L0 rc rcl R rF cells) {loc' : Loc} {mh' : MH} (h : Same [] mh mh') (g1 : loc' "cask" = loc "cask") (g2 : loc' "store" = loc "store") (g3 : loc' "firsts" = loc "firsts") (g4 : loc' "now" = loc "now") (g5 : loc' "many" = loc "many") (g6 : loc' "trail" = loc "trail") :
    LT L0 rc rcl R rF cells rN many loc' mh' cs ds F doms tr n := ⟨x.ln.step0 s h g1 g2 g3 g4, g5.trans x.l5, g6.trans x.l6, x.hm, x.hF, x.ht⟩
theorem LT.step (x : LT L0 rc rcl R rF cells rN many loc mh cs ds F doms tr n) (s : Sta L0 rc rcl R rF cells) {loc' : Loc} {mh' : MH} {n' : Nat} (h : Same [rc] mh mh') (c : Cask mh' rc rcl cells n') (g1 : loc' "cask" = loc "cask") (g2 : loc' "store" = loc "store") (g3 : loc' "firsts" = loc "firsts") (g4 : loc' "now" = loc "now") (g5 : loc' "many" = loc "many") (g6 : loc' "trail" = loc "trail") :
    LT L0 rc rcl R rF cells rN many loc' mh' cs ds F doms tr n' := ⟨x.ln.step s h c g1 g2 g3 g4, g5.trans x.l5, g6.trans x.l6, x.hm, x.hF, x.ht⟩
theorem tail17 (s : Sta L0 rc rcl R rF cells) (x : LT L0 rc rcl R rF cells rN many loc mh cs ds F doms tr n) (o : ∀ loc mh, QS (.ret (.bool true)) loc mh) : k17_law zad loc QS mh := by
  have f3 := x.ln.ls.l2
  have f5 := x.l5
  have hm := x.hm
  have hdl := x.ln.len
  have hF := x.hF
  have f6 := x.l6
  walk_at "s"
  refine ⟨rngL 0 (many : Int), zpo x.ln.ls.st (by omega) (fun d hd => (x.ln.okd d hd).sm) (by walk_at "ne") (fun loc' mh' as hs hL => ?_) (by omega)⟩
  have hk : Same [] mh' (mh' ++ [MO.list (as.map MV.ref)]) := .append
  apply cont_i
  exact tail16 (x.ln.step0 s (hs.trans hk) (by walk_at "ne") (by walk_at "ne") (by walk_at "ne") (by walk_at "ne")) hit zao (hL.same hk (by simp)) (by walk_at "ne") x.ht o
theorem LT.cond (x : LT L0 rc rcl R rF cells rN many loc mh cs ds F doms tr n) {xs : List Nat} (hx : ∀ i ∈ xs, i < many) (hl : xs.length ≤ 4) : Cond xs doms (F.map spans) := by
  have hm := x.hm
  have hdl := x.ln.len
  have hF := x.hF
  refine ⟨by simp; omega, by omega, hl, fun i hi => by have := hx i hi; omega, fun d hd => (x.ln.okd d hd).sm, fun d hd => ?_, fun d hd => (x.ln.okd d hd).some_⟩
  obtain ⟨l, h1, rfl⟩ := List.mem_map.mp hd
  exact (x.ln.rowsF l h1).dom.sm
theorem LT.rows (x : LT L0 rc rcl R rF cells rN many loc mh cs ds F doms tr n) : (F.map spans).map vals = F := by
  rw [List.map_map]
  refine (List.map_congr_left fun l hl => ?_).trans (List.map_id _)
  exact zc6 (x.ln.rowsF l hl).asc
theorem tail18 (s : Sta L0 rc rcl R rF cells) (x : LT L0 rc rcl R rF cells rN many loc mh cs ds F doms tr n) {ar : Nat} {xs : List Nat} (h1 : loc "ask" = some (.ref ar)) (h2 : mh[ar]? = some (advO (natsV xs))) (h3 : loc "scope" = some (.tuple (natsV xs))) (hx : ∀ i ∈ xs, i < many) (hl : xs.length ≤ 4)
    (o : ∀ loc mh, QS (.ret (.bool true)) loc mh) : k18_law za3 zad loc QS mh := by
  have f1 := x.ln.ls.l2
  have f2 := x.ln.ls.l3
  have f3 := x.ln.l4
  walk_at "s"
  refine ⟨R, ar, xs, rF, cs, rN, ds, doms, F.map spans, tr, [], false, .tuple [], rfl, x.cond hx hl, ⟨x.ln.ls.st, h2, by rw [x.rows]; exact x.ln.ls.rows, x.ln.N⟩, fun mh' hs => ?_⟩
  walk_at "w"
  apply cont_i
  exact tail17 s (x.step0 s hs rfl rfl rfl rfl rfl rfl) o
theorem tail19 (s : Sta L0 rc rcl R rF cells) (x : LT L0 rc rcl R rF cells rN many loc mh cs ds F doms tr n) {ar rp rf : Nat} {xs ps : List Nat} {few : List Int} (h1 : loc "ask" = some (.ref ar)) (h2 : mh[ar]? = some (advO (natsV xs))) (h3 : loc "scope" = some (.tuple (natsV xs))) (hx : ∀ i ∈ xs, i < many) (hl : xs.length ≤ 4)
    (h4 : loc "places" = some (.ref rp)) (h5 : mh[rp]? = some (.list (natsV ps))) (hp : ∀ p ∈ ps, p < xs.length) (hpl : ps.length ≤ 50) (h6 : loc "few" = some (.ref rf)) (h7 : mh[rf]? = some (.list (intsV few))) (hs : SortedL few) (hf : few ≠ [])
    (o : ∀ loc mh, QS (.ret (.bool true)) loc mh) : k19_law t_walls za4 za3 zad loc QS mh := by
  have f1 := x.ln.ls.l2
  have f2 := x.ln.ls.l3
  have f3 := x.ln.l4
  have hm := x.hm
  have hF := x.hF
  have C := x.cond hx hl
  obtain ⟨a, ha⟩ : ∃ a, few[0]? = some a := by
    cases few with
    | nil => exact absurd rfl hf
    | cons a r => exact ⟨a, rfl⟩
  obtain ⟨b, hb⟩ : ∃ b, few.getLast? = some b := by
    cases h : few.getLast? with
    | none => exact absurd (List.getLast?_eq_none_iff.mp h) hf
    | some b => exact ⟨b, rfl⟩
  have hpx : ∀ p ∈ ps, ∃ y, xs[p]? = some y ∧ y < (F.map spans).length := fun p hp' => by
    have := hp p hp'
    have h9 : xs[p]? = some xs[p] := by simp [this]
    exact ⟨xs[p], h9, by simp; have := hx _ (List.getElem_mem this); omega⟩
  walk_at "s"
  refine ⟨ar, R, doms, F.map spans, tr, [], false, .tuple [], xs, rp, ps, rf, few, a, b, rfl, h2, x.ln.ls.st, h5, h7, ha, hb, hpl, fun p hp' => ?_, fun mh' hs' => ?_⟩
  · obtain ⟨y, e1, e2⟩ := hpx p hp'
    have h8 := hp p hp'
    have h10 : (F.map spans)[y]? = some (F.map spans)[y] := List.getElem?_eq_getElem e2
    exact ⟨by omega, y, e1, by simp at e2; omega, _, h10, C.sf _ (List.getElem_mem e2)⟩
  · have x' := x.step0 s hs' rfl rfl rfl rfl rfl rfl (loc' := loc)
    have hpl2 : ∀ p ∈ ps, p ≤ 1000 := fun p hp' => by have := hp p hp'; omega
    walk_at "w"
    refine ⟨wallsOf (F.map spans) xs ps few a b, xs, rp, ps, rf, few, rF, cs, F, rfl, hs'.at h5 (by simp), hs'.at h7 (by simp), x'.ln.ls.rows, zhg hpl C.sf, by omega, hpl2, fun i hi => by have := hx i hi; omega, fun l hl' => by have := (x.ln.rowsF l hl').len; omega, zi3 hs ha hb x.rows.symm hpx, fun mh2 hs2 => ?_⟩
    walk_at "w"
    apply cont_i
    exact tail18 s (x'.step0 s hs2 rfl rfl rfl rfl rfl rfl) h1 ((hs'.trans hs2).at h2 (by simp)) h3 hx hl o
end
theorem ft {α : Type} {l : List α} : (l.filter fun _ => true) = l := List.filter_eq_self.mpr fun _ _ => rfl
section
variable {L0 rc rcl : Nat} {R : SR} {rF : Nat} {cells : List Int} {rN many n : Nat} {QS : Fl → Loc → MH → Prop} {loc : Loc} {mh : MH} {cs ds : List Nat} {F : List (List Int)} {doms : List Dom} {tr : List MV}
theorem rc_lt (s : Sta L0 rc rcl R rF cells) (x : LT L0 rc rcl R rF cells rN many loc mh cs ds F doms tr n) : rc < mh.length := zak x.ln.ls.ck.cask
theorem tail20 (s : Sta L0 rc rcl R rF cells) (x : LT L0 rc rcl R rF cells rN many loc mh cs ds F doms tr n) (hn : n ≤ 900) {ar rp : Nat} {xs ps : List Nat} (h1 : loc "ask" = some (.ref ar)) (h2 : mh[ar]? = some (advO (natsV xs))) (h3 : loc "scope" = some (.tuple (natsV xs))) (hx : ∀ i ∈ xs, i < many) (hl : xs.length ≤ 4)
    (h4 : loc "places" = some (.ref rp)) (h5 : mh[rp]? = some (.list (natsV ps))) (hp : ∀ p ∈ ps, p < xs.length) (hpl : ps.length ≤ 50) (d1 : rc ≠ ar) (d2 : rc ≠ rp)
    (o : ∀ loc mh, QS (.ret (.bool true)) loc mh) : k20_law t_sip t_walls za4 za3 zad loc QS mh := by
  have f1 := x.ln.ls.l1
  walk_at "s"
  refine sip_of s.ck x.ln.ls.ck (by omega) (m := 4) (by omega) rfl fun v4 mh1 hv4 hs1 C1 => ?_
  walk_at "w"
  refine ⟨rngL 0 (1 + (v4 : Int)), zie (fun loc => loc "cask" = some (.ref rc)) (fun loc v h => miss rfl h) (draw9 s.ck) (t := 1 + v4) (by omega) (by omega) (by omega) C1 (by walk_at "ne") fun loc2 mh2 ls hls hP hs2 C2 => ?_⟩
  refine ⟨mh2.length, ls, rfl, zao, zhj (by omega) fun v hv => by have := hP v hv; omega, fun ns n1 n2 n3 => ?_⟩
  have hs12 := hs1.trans hs2
  have hk : Same [] mh2 (mh2 ++ [MO.list (intsV ls)] ++ [MO.list (ns.map MV.int)]) := Same.append.trans .append
  have hsx := hs12.trans (hk.mono (T := [rc]) (by simp))
  apply cont_i
  refine tail19 s (x.step s hsx (C2.same hk (by simp) (by simp)) (by walk_at "ne") (by walk_at "ne") (by walk_at "ne") (by walk_at "ne") (by walk_at "ne") (by walk_at "ne")) (ar := ar) (rp := rp) (rf := (mh2 ++ [MO.list (intsV ls)]).length) (xs := xs) (ps := ps) (few := ns)
    (by walk_at "ne") (hsx.at h2 (by simpa using fun e => d1 e.symm)) (by walk_at "ne") hx hl (by walk_at "ne") (hsx.at h5 (by simpa using fun e => d2 e.symm)) hp hpl hit zao n2 ?_ o
  rintro rfl
  cases ls with
  | nil => simp at hls; omega
  | cons a r => have := (n3 a).mpr (by simp); cases this
theorem zls : ∀ {ls : List Int}, (∀ v ∈ ls, 0 ≤ v ∧ v < (many : Int)) → ∃ ps : List Nat, intsV ls = natsV ps ∧ ps.length = ls.length ∧ ∀ p ∈ ps, p < many
  | [], _ => ⟨[], rfl, rfl, by simp⟩
  | v :: ls, h => by
    obtain ⟨ps, h1, h2, h3⟩ := zls (ls := ls) fun w hw => h w (.tail _ hw)
    have hv := h v (.head _)
    refine ⟨v.toNat :: ps, ?_, by simp [h2], fun p hp => ?_⟩
    · show MV.int v :: intsV ls = MV.int _ :: natsV ps
      rw [h1, Int.toNat_of_nonneg hv.1]
    · rcases List.mem_cons.mp hp with rfl | hp
      · omega
      · exact h3 p hp
theorem tail21 (s : Sta L0 rc rcl R rF cells) (x : LT L0 rc rcl R rF cells rN many loc mh cs ds F doms tr n) (hn : n ≤ 800) {xs : List Nat} (h3 : loc "scope" = some (.tuple (natsV xs))) (hx : ∀ i ∈ xs, i < many) (hl : xs.length = many)
    (o : ∀ loc mh, QS (.ret (.bool true)) loc mh) : k21_law t_sip zac t_walls za4 za3 zad loc QS mh := by
  have f1 := x.ln.ls.l1
  have f5 := x.l5
  have hm := x.hm
  have hrc := rc_lt s x
  have hnl : (natsV xs).length = xs.length := by simp [natsV]
  walk_at "s"
  refine ⟨natsV xs, rfl, by rw [hnl]; unfold BIG; omega, ?_⟩
  walk_at "w"
  have hk : Same [] mh (mh ++ [advO (natsV xs)]) := .append
  have x1 := x.step0 s hk (loc' := loc) rfl rfl rfl rfl rfl rfl
  have hadv : (mh ++ [advO (natsV xs)])[mh.length]? = some (advO (natsV xs)) := zao
  refine sip_of s.ck x1.ln.ls.ck (by omega) (m := 3) (by omega) rfl fun v3 mh1 hv3 hs1 C1 => ?_
  walk_at "w"
  refine ⟨rngL 0 (1 + (v3 : Int)), zie (fun loc => loc "cask" = some (.ref rc) ∧ loc "many" = some (.int (many : Int))) (fun loc v h => ⟨miss rfl h.1, miss rfl h.2⟩) (drawM s.ck hm.1) (t := 1 + v3) (by omega) (by omega) (by omega) C1 ⟨by walk_at "ne", by walk_at "ne"⟩ fun loc2 mh2 ls hls hP hs2 C2 => ?_⟩
  obtain ⟨ps, e1, e2, e3⟩ := zls (many := many) hP
  have hk2 : Same [] mh2 (mh2 ++ [MO.list (intsV ls)]) := .append
  have hs12 := (hs1.trans hs2).trans (hk2.mono (T := [rc]) (by simp))
  have x2 := x1.step s hs12 (C2.same hk2 (by simp) (by simp)) (loc' := loc) rfl rfl rfl rfl rfl rfl
  have hadv2 := hs12.at hadv (by simp; omega)
  have hpl : (mh2 ++ [MO.list (intsV ls)])[mh2.length]? = some (.list (natsV ps)) := by rw [e1]; exact zao
  have hge : mh.length < mh2.length := Nat.lt_of_lt_of_le (by simp) (hs1.trans hs2).le
  apply cont_i
  generalize mh2 ++ [MO.list (intsV ls)] = mh3 at *
  refine tail20 s (x2.step0 s .refl (by walk_at "ne") (by walk_at "ne") (by walk_at "ne") (by walk_at "ne") (by walk_at "ne") (by walk_at "ne")) (by omega) (ar := mh.length) (rp := mh2.length) (xs := xs) (ps := ps)
    (by walk_at "ne") hadv2 (by walk_at "ne") hx (by omega) (by walk_at "ne") hpl (fun p hp => by have := e3 p hp; omega) (by omega) (by omega) (by omega) o
theorem tail22 (s : Sta L0 rc rcl R rF cells) (x : LT L0 rc rcl R rF cells rN many loc mh cs ds F doms tr n) (hn : n ≤ 800) {b : Nat} (h1 : loc "begin" = some (.int (b : Int))) (hb : b < many)
    (o : ∀ loc mh, QS (.ret (.bool true)) loc mh) : k22_law t_sip zac t_walls za4 za3 zad loc QS mh := by
  have f5 := x.l5
  have hm := x.hm
  walk_at "s"
  refine ⟨rngL 0 (many : Int), ?_⟩
  rw [rngL_nats]
  refine za9 (fun loc => loc "begin" = some (.int (b : Int)) ∧ loc "many" = some (.int (many : Int))) (fun (k : Nat) => MV.int (k : Int)) (fun _ => true) (fun k => MV.int (((b + k) % many : Nat) : Int)) (List.range many) ?_ (by simp; unfold BIG; omega) ?_ ?_ ?_
  · exact ⟨by unfold SmallI; omega, by unfold SmallI; omega, rngL_nats.symm⟩
  · rintro k hk loc ⟨g1, g2⟩
    refine ⟨upd loc "k" (.int (k : Int)), rfl, ⟨miss rfl g1, miss rfl g2⟩, fun mh hs => ⟨fun R' o => o _ .refl, fun _ R' o => ?_⟩⟩
    walk_at "w"
    have := o _ .refl
    simpa using this
  · exact ⟨by walk_at "ne", by walk_at "ne"⟩
  · intro loc' mh' hs
    have hfl : ((List.range many).filter fun _ => true).map (fun (k : Nat) => MV.int (((b + k) % many : Nat) : Int)) = natsV ((List.range many).map fun k => (b + k) % many) := by rw [ft]; simp [natsV, Function.comp_def]
    rw [hfl]
    have hk : Same [] mh' (mh' ++ [MO.list (natsV ((List.range many).map fun k => (b + k) % many))]) := .append
    have hl : (natsV ((List.range many).map fun k => (b + k) % many)).length ≤ BIG := by simp [natsV]; unfold BIG; omega
    walk_at "w"
    apply cont_i
    refine tail21 s (x.step0 s (hs.trans hk) (by walk_at "ne") (by walk_at "ne") (by walk_at "ne") (by walk_at "ne") (by walk_at "ne") (by walk_at "ne")) hn (xs := (List.range many).map fun k => (b + k) % many) hit (fun i hi => ?_) (by simp) o
    obtain ⟨k, _, rfl⟩ := List.mem_map.mp hi
    exact Nat.mod_lt _ hm.1
structure LU (L0 rc rcl : Nat) (R : SR) (rF : Nat) (cells : List Int) (rN many : Nat) (loc : Loc) (mh : MH) (cs ds : List Nat) (F : List (List Int)) (doms : List Dom) (tr : List MV) (n : Nat) : Prop where
  ln : LN L0 rc rcl R rF cells rN loc mh cs ds F doms tr n
  l5 : loc "many" = some (.int (many : Int))
  hm : 0 < many ∧ many ≤ 4
  hF : F.length = many
  ht : tr.length ≤ 1000
theorem tail23 (s : Sta L0 rc rcl R rF cells) (x : LU L0 rc rcl R rF cells rN many loc mh cs ds F doms tr n) (hn : n ≤ 700) 
    (o : ∀ loc mh, QS (.ret (.bool true)) loc mh) : k23_law t_sip zac t_walls za4 za3 zad loc QS mh := by
  have f1 := x.ln.ls.l1
  have f2 := x.ln.ls.l2
  have f5 := x.l5
  have hm := x.hm
  have ht := x.ht
  walk_at "s"
  refine sip_of s.ck x.ln.ls.ck (by omega) hm.1 rfl fun b mh1 hb hs1 C1 => ?_
  have x1 := x.ln.step s hs1 C1 (loc' := loc) rfl rfl rfl rfl
  have g1 := x1.ls.st.inst
  have g2 := x1.ls.st.trail
  walk_at "w"
  apply cont_i
  exact tail22 s ⟨x1.step0 s .refl (by walk_at "ne") (by walk_at "ne") (by walk_at "ne") (by walk_at "ne"), by walk_at "ne", hit, hm, x.hF, ht⟩ (by omega) (b := b) (by walk_at "ne") hb o
theorem tail24 {F : List (List Int)} (s : Sta L0 rc rcl R rF cells) (x : LU L0 rc rcl R rF cells rN many loc mh cs ds F doms [] n) (hn : n ≤ 90) 
    (o : ∀ loc mh, QS (.ret (.bool true)) loc mh) : k24_law t_sip t_left zaf zac t_walls za4 za3 zad loc QS mh := by
  have f1 := x.ln.ls.l1
  have f5 := x.l5
  have hm := x.hm
  walk_at "s"
  refine sip_of s.ck x.ln.ls.ck (by omega) (m := 3) (by omega) rfl fun t mh1 ht hs1 C1 => ?_
  have x1 := x.ln.step s hs1 C1 (loc' := loc) rfl rfl rfl rfl
  walk_at "w"
  refine ⟨rngL 0 (t : Int), zm3 s hm x.hF (by omega) (by omega) f5 x1 fun loc2 mh2 ds2 doms2 tr2 n2 x2 g5 hn2 htr => ?_⟩
  apply cont_i
  exact tail23 s ⟨x2, g5, hm, x.hF, by omega⟩ (by omega) o
theorem tail25 {F : List (List Int)} (s : Sta L0 rc rcl R rF cells) (x : LS L0 rc rcl R rF cells loc mh cs F (F.map spans) (F.map spans) [] n) (h5 : loc "many" = some (.int (many : Int))) (hm : 0 < many ∧ many ≤ 4) (hF : F.length = many) (hrow : ∀ l ∈ F, RowOk l) (hn : n ≤ 90) 
    (o : ∀ loc mh, QS (.ret (.bool true)) loc mh) : k25_law t_sip t_left zaf zac t_walls za4 za3 zad loc QS mh := by
  have f3 := x.l3
  have f4 := x.rows.row
  walk_at "s"
  refine ⟨_, zrx x.rows (by omega) (fun l hl => by have := (hrow l hl).len; omega) fun loc' mh' ds hs hL hge => ?_⟩
  have hk : Same [] mh' (mh' ++ [MO.list (ds.map MV.ref)]) := .append
  have x1 := x.step0 s (hs.trans hk) (loc' := upd loc "now" (.ref mh'.length)) (by walk_at "ne") (by walk_at "ne") (by walk_at "ne")
  have hlt := x.rows.lists.lt
  have hdl := hL.lt
  have hle := x.le
  have hsl := hs.le
  apply cont_i
  refine tail24 s ⟨⟨x1, hit, ⟨zao, ?_⟩, by omega, fun i hi => by have := hge i hi; omega, fun h => by have := hdl _ h; omega, fun h => by have := hlt _ h; omega, fun d hd => ?_, hrow, by simp⟩, by walk_at "ne", hm, hF, by simp⟩ hn o
  · have : (F.map spans).map vals = F := by
      rw [List.map_map]
      exact (List.map_congr_left fun l hl => zc6 (hrow l hl).asc).trans (List.map_id _)
    rw [this]
    exact hL.same hk (by simp)
  · obtain ⟨l, h1, rfl⟩ := List.mem_map.mp hd
    exact (hrow l h1).dom
theorem tail26 (s : Sta L0 rc rcl R rF cells) (x : LS L0 rc rcl R rF cells loc mh [] [] [] [] [] 1) (h5 : loc "many" = some (.int (many : Int))) (hm : 0 < many ∧ many ≤ 4)
    (o : ∀ loc mh, QS (.ret (.bool true)) loc mh) : k26_law t_sip zag t_left zaf zac t_walls za4 za3 zad loc QS mh := by
  walk_at "s"
  refine ⟨rngL 0 (many : Int), zpt s hm.2 h5 x fun loc mh cs F n x h5 hF hrow hn => ?_⟩
  apply cont_i
  exact tail25 s x h5 hm hF hrow (by omega) o
theorem tail27 (s : Sta L0 rc rcl R rF cells) (x : LS L0 rc rcl R rF cells loc mh [] [] [] [] [] 0)
    (o : ∀ loc mh, QS (.ret (.bool true)) loc mh) : k27_law t_sip zag t_left zaf zac t_walls za4 za3 zad loc QS mh := by
  have f1 := x.l1
  walk_at "s"
  refine sip_of s.ck x.ck (by omega) (m := 3) (by omega) rfl fun t mh1 ht hs1 C1 => ?_
  walk_at "w"
  have x1 := x.step s hs1 C1 (loc' := upd loc "many" (.int (2 + (t : Int)))) (by walk_at "ne") (by walk_at "ne") (by walk_at "ne")
  apply cont_i
  exact tail26 s x1 (many := 2 + t) (by simp [upd]) (by omega) o
end
noncomputable def zScript (L : Addr) (is : List Int) : ME := mSliceZ L is (mName "script") none (some (mConst (.int 50)))
theorem zpr {L : Addr} {is : List Int} {loc : Loc} {Q : MV → MH → Prop} {mh : MH} (h : loc "script" = some (.frozen L)) (hl : is.length ≤ BIG) (q : Q (.ref mh.length) (mh ++ [.list (intsV (is.take 50))])) : zScript L is loc Q mh := by
  refine ⟨_, h, _, rfl, by omega, .inl rfl, rfl, hl, ?_⟩
  have hcut : cutM none (some 50) (is.map MV.int) = intsV (is.take 50) := by simp [cutM, intsV]
  rw [hcut]; exact q
noncomputable abbrev law2 (m_script : ME) : MS := m_law m_script t_Store t_sip zag t_left zaf zac t_walls za4 za3 zad
theorem ok_law {L : Addr} {script : List Int} {Q : MV → MH → Prop} {mh0 : MH} (hl : script.length ≤ 1000) (o : ∀ mh', Q (.bool true) mh') : mFun ["script"] (law2 (zScript L script)) [.frozen L] Q mh0 := by
  have hlen : (script.take 50).length ≤ 50 := by simp; omega
  apply fun1_i
  walk_at "s"
  refine zpr (by walk_at "ne") (by unfold BIG; omega) ?_
  walk_at "w"
  refine ⟨_, za9 (fun _ => True) MV.int (fun _ => true) (fun c => MV.int (c % 5040)) (script.take 50) ?_ (by unfold BIG; omega) ?_ trivial ?_⟩
  · exact zao
  · rintro c hc loc -
    refine ⟨upd loc "cell" (.int c), rfl, trivial, fun mh hs => ⟨fun R o => o _ .refl, fun _ R o => ?_⟩⟩
    walk_at "w"
    exact o _ .refl
  · intro loc' mh1 hs1
    have hfl : ((script.take 50).filter fun _ => true).map (fun c => MV.int (c % 5040)) = intsV ((script.take 50).map fun c => c % 5040) := by rw [ft]; simp only [intsV, List.map_map, Function.comp_def]
    rw [hfl]
    have hln : (mh1 ++ [MO.list (intsV ((script.take 50).map fun c => c % 5040))]).length = mh1.length + 1 := by simp
    walk_at "w"
    refine ⟨[("cells", .ref mh1.length), ("drunk", .int 0)], rfl, by simp [str_inj], ?_⟩
    rw [hln]
    walk_at "w"
    refine ⟨rfl, fun mh2 R hs2 S2 hge hnd => ?_⟩
    walk_at "w"
    apply cont_i
    have hk : Same [] mh2 (mh2 ++ [MO.list []]) := .append
    have hl2 := hs2.le
    simp only [List.length_append, List.length_cons, List.length_nil] at hl2 hge
    have hcl : ∀ v ∈ (script.take 50).map fun c => c % 5040, SmallI v := by
      intro v hv
      obtain ⟨c, _, rfl⟩ := List.mem_map.mp hv
      have h1 := Int.emod_nonneg c (show (5040 : Int) ≠ 0 by omega)
      have h2 := Int.emod_lt_of_pos c (show (0 : Int) < 5040 by omega)
      unfold SmallI; omega
    have hst := S2.inst
    have hlt : ∀ i ∈ R.refs, i < mh2.length := by
      intro i hi
      obtain ⟨ks, k1, _⟩ := S2.news
      simp only [SR.refs, List.mem_cons, List.not_mem_nil, or_false] at hi
      rcases hi with rfl | rfl | rfl | rfl | rfl | rfl
      · exact zak S2.inst
      · exact zak S2.doms
      · exact zak S2.firsts
      · exact zak S2.trail
      · exact zak S2.marks
      · exact zak k1
    refine tail27 (L0 := mh2.length + 1) (rc := mh1.length + 1) (rcl := mh1.length) (R := R) (rF := mh2.length) (cells := (script.take 50).map fun c => c % 5040) ⟨⟨by omega, by simp; omega, hcl⟩, ?_, ?_⟩ ⟨?_, ?_, ?_, ⟨?_, ?_⟩, S2.same hk (by simp), ⟨zao, .nil⟩, by simp, by simp⟩ fun loc mh => o mh
    · simp only [List.nodup_cons, List.mem_cons, not_or]
      exact ⟨⟨by omega, by omega, fun h => by have := hge _ h; omega⟩, ⟨by omega, fun h => by have := hge _ h; omega⟩, fun h => by have := hlt _ h; omega, hnd⟩
    · simp only [List.mem_cons]
      rintro i (rfl | rfl | rfl | hi)
      · omega
      · omega
      · omega
      · have := hlt i hi; omega
    · walk_at "ne"
    · walk_at "ne"
    · walk_at "ne"
    · refine (hs2.trans hk).at (o := MO.sdict [("cells", .ref mh1.length), ("drunk", .int 0)]) ?_ (by simp); walk_at "ne"
    · refine (hs2.trans hk).at ?_ (by simp); walk_at "ne"
end Mine
end
section
namespace Mine
variable {c : Cx}
theorem lf {d e : Nat} {f : Value} {t : MF} (h : CodeV c d f t) (hl : d ≤ e) : CallV c e f t := (h.le hl).call
theorem zl2 (hK : c.K = KK c.w.params) : CodeV c 2 (.ref 56) zav := code_of (zqv hK) (zp4 (d := 0) hK) zp8
theorem zn6 (hK : c.K = KK c.w.params) : CodeV c 2 (.ref 61) t_up_to := code_of (zsj hK) (zro (d := 0) hK) zrt
theorem zjs (hK : c.K = KK c.w.params) : CodeV c 2 (.ref 66) za1 := code_of (zpa hK) (zol (d := 0) hK) zoq
theorem zpc (hK : c.K = KK c.w.params) : CodeV c 3 (.ref 73) zca := code_of (zo8 hK) (zoj (d := 1) hK (lf (zn6 hK) (by decide)) (lf (zjs hK) (by decide))) zom
theorem zqz (hK : c.K = KK c.w.params) : CodeV c 4 (.ref 94) zcv := code_of (zqw hK) (zp5 (d := 2) hK (lf (zn6 hK) (by decide)) (lf (zjs hK) (by decide)) call_no (lf (zpc hK) (by decide))) zp9
theorem zki (hK : c.K = KK c.w.params) : CodeV c 2 (.ref 115) (mFun ["self"] zd2) := code_of (zkg hK) (zj4 (d := 0) hK) fun _ _ _ h => h
theorem zq3 (hK : c.K = KK c.w.params) : ClsIs c "Store" 251 115 := ⟨by rw [hK]; kernel_rfl, by rw [hK]; kernel_rfl, by rw [hK]; kernel_rfl, by rw [hK]; kernel_rfl, by rw [hK]; kernel_rfl⟩
theorem zsq (hK : c.K = KK c.w.params) : CodeV c 3 (.ref 251) t_Store := (zkn (zq3 hK) (zki hK)).mono zrw
theorem zpd (hK : c.K = KK c.w.params) : CodeV c 2 (.ref 122) zag := code_of (zgz hK) (zgp (d := 0) hK call_no) zgt
theorem cv_dom (hK : c.K = KK c.w.params) : CodeV c 2 (.ref 136) zad := code_of (zly hK) (zk4 (d := 0) hK) zk9
theorem zpf (hK : c.K = KK c.w.params) : CodeV c 2 (.ref 143) zaq := code_of (zg0 hK) (zgq (d := 0) hK) zgu
theorem zsp (hK : c.K = KK c.w.params) : CodeV c 5 (.ref 199) za2 := code_of (zix hK) (zir (d := 3) hK (lf (zqz hK) (by decide)) call_no call_no) zit
theorem zq0 (hK : c.K = KK c.w.params) : CodeV c 6 (.ref 213) zaf := code_of (zia hK) (zhk (d := 4) hK (lf (zsp hK) (by decide))) zho
theorem zkj (hK : c.K = KK c.w.params) : CodeV c 2 (.ref 269) zbh := code_of (zfu hK) (zfd (d := 0) hK) zfh
theorem zg3 (hK : c.K = KK c.w.params) : CodeV c 3 (.ref 309) (mFun ["self", "store", "scope"] (zcq zad zav)) := code_of (zg2 hK) (zgs (d := 1) hK (lf (cv_dom hK) (by decide)) (lf (zl2 hK) (by decide))) fun _ _ _ h => h
theorem zl8 (hK : c.K = KK c.w.params) : ClsIs c "Matching" 333 309 := ⟨by rw [hK]; kernel_rfl, by rw [hK]; kernel_rfl, by rw [hK]; kernel_rfl, by rw [hK]; kernel_rfl, by rw [hK]; kernel_rfl⟩
theorem zm5 (hK : c.K = KK c.w.params) : CodeV c 4 (.ref 333) zbm := (zkn (zl8 hK) (zg3 hK)).mono zmm
theorem zpg (hK : c.K = KK c.w.params) : CodeV c 2 (.ref 323) zfc := code_of (ze8 hK) (zey (d := 0) hK) zop
theorem cv_seat (hK : c.K = KK c.w.params) : CodeV c 3 (.ref 316) t_seat := code_of (zg1 hK) (zgr (d := 1) hK (lf (zpg hK) (by decide))) ok_seat
theorem zq1 (hK : c.K = KK c.w.params) : CodeV c 2 (.ref 330) zjv := code_of (zdp hK) (zdk (d := 0) hK) zqa
theorem zn5 (hK : c.K = KK c.w.params) : CodeV c 3 (.ref 381) t_walls := code_of (zcr hK) (zcl (d := 1) hK (lf (zpf hK) (by decide)) (lf (zl2 hK) (by decide))) zrs
theorem cv_sip (hK : c.K = KK c.w.params) : CodeV c 2 (.ref 393) t_sip := code_of (zo9 hK) (zok (d := 0) hK) ok_sip
theorem zsn (hK : c.K = KK c.w.params) : CodeV c 2 (.ref 400) t_keeps := code_of (zlw hK) (zk2 (d := 0) hK) zru
theorem cv_left (hK : c.K = KK c.w.params) : CodeV c 3 (.ref 405) t_left := code_of (zm0 hK) (zmh (d := 1) hK (lf (zsn hK) (by decide))) ok_left
theorem zjr (hK : c.K = KK c.w.params) : CodeV c 4 (.ref 410) za4 := code_of (ziw hK) (ziq (d := 2) hK (lf (cv_left hK) (by decide))) zoo
theorem zso (hK : c.K = KK c.w.params) : CodeV c 5 (.ref 422) t_is_so := code_of (zlx hK) (zk3 (d := 3) hK (lf (cv_left hK) (by decide)) (lf (zjr hK) (by decide))) zrv
theorem zpe (hK : c.K = KK c.w.params) : CodeV c 6 (.ref 417) za3 := code_of (zem hK) (zek (d := 4) hK (lf (zm5 hK) (by decide)) (lf (cv_seat hK) (by decide)) (lf (zn5 hK) (by decide)) (lf (zso hK) (by decide)) (lf (zq1 hK) (by decide))) zon
theorem zqk {P : Params} : (scopeOf (KK P) 353).names.lookup ("self" : Str) = some .local := by kernel_rfl
theorem znn {P : Params} : (scopeOf (KK P) 353).names.lookup ("row" : Str) = some .local := by kernel_rfl
theorem fn_adv (hK : c.K = KK c.w.params) : ∃ q a, FnIs c 353 q a (bodyOf (KK c.w.params) 353) (scopeOf (KK c.w.params) 353) ["self", "row"] [("__class__", 341)] :=
  fn_isC hK (by kernel_rfl) (fun _ _ => by show _ = _; kernel_rfl) (memc (.inl zqk) (memc (.inl znn) memn)) (by kernel_rfl) ⟨_, _, _, _, rfl⟩
theorem zm4 (hK : c.K = KK c.w.params) (hp : c.prog = PySem.Challenge.rw_pc0038_02.row.prog) : CodeV c 3 (.ref 353) (supMF "AllDifferentValues" ["self", "row"] "self" [mName "row", mConst (.str "values")] zbh) := by
  obtain ⟨q, a, hf⟩ := fn_adv hK
  obtain ⟨oc, od, osl, ho⟩ := zid (show fdOf (KK c.w.params) 353 = some _ from rfl)
  refine zpi (f := 353) (f2 := 269) (C := 384) (D := 384) (cc := 341) (cda := 352) (cl := "AllDifferentValues") (name := "__init__") (slf := "self") hf (by rw [hK]; exact ho) rfl rfl ?_
    (SEs.cons (zaa znn (by kernel_rfl)) (SEs.cons se_str SEs.nil (fun _ => rfl)) (fun _ => rfl)) (zkj hK) (fun _ => rfl) (fun _ => ⟨_, rfl⟩)
  refine ⟨by rw [hK]; kernel_rfl, rfl, ?_, ?_, ?_, by rw [hK]; kernel_rfl, by rw [hK]; kernel_rfl, by rw [hK]; kernel_rfl, by rw [hK]; kernel_rfl, by rw [hK]; kernel_rfl, by rw [hK]; kernel_rfl, by kernel_rfl, by kernel_rfl, by kernel_rfl, by kernel_rfl, by rw [hp]; kernel_rfl⟩
  · rw [hK, hp]; exact ⟨_, _, _, _, _, _, rfl, rfl, by kernel_rfl⟩
  · rw [hK]; exact ⟨_, _, _, rfl⟩
  · rw [hK]; exact ⟨_, rfl⟩
theorem cls_adv (hK : c.K = KK c.w.params) : ClsIs c "AllDifferentValues" 384 353 := ⟨by rw [hK]; kernel_rfl, by rw [hK]; kernel_rfl, by rw [hK]; kernel_rfl, by rw [hK]; kernel_rfl, by rw [hK]; kernel_rfl⟩
theorem cv_adv (hK : c.K = KK c.w.params) (hp : c.prog = PySem.Challenge.rw_pc0038_02.row.prog) : CodeV c 4 (.ref 384) zac := (zkn (cls_adv hK) (zm4 hK hp)).mono zdu
theorem cv_law (hK : c.K = KK c.w.params) (hp : c.prog = PySem.Challenge.rw_pc0038_02.row.prog) {L : Addr} {script : List Int} {vs : List Value} (hL : c.hB.IsList L vs.toArray) (hI : IntsAre vs script) (hl : script.length ≤ 1000) :
    CodeV c 7 (.ref 427) (fun args Q mh => args = [.frozen L] ∧ ∀ mh', Q (.bool true) mh') :=
  code_of (m := law2 (zScript L script)) (fn_law hK) (sb_law (d := 5) hK (lf (zsq hK) (by decide)) (lf (cv_sip hK) (by decide)) (lf (zpd hK) (by decide)) (lf (cv_left hK) (by decide)) (lf (zq0 hK) (by decide)) (lf (cv_adv hK hp) (by decide)) (lf (zn5 hK) (by decide))
    (lf (zjr hK) (by decide)) (lf (zpe hK) (by decide)) (lf (cv_dom hK) (by decide)) (zp3 hL hI (zaa zht (by kernel_rfl)) SPart.none (SPart.some se_int))) fun args Q mh h => by
      obtain ⟨rfl, h⟩ := h
      exact ok_law hl h
end Mine
end
section
namespace Mine
theorem law427 (P : Params) : nsIn (KK P) mainGlobals ("law" : Str) = some (some (.ref 427)) := by kernel_rfl
theorem hp_nil {c : Cx} : c.Hp [] [] c.hB := ⟨fun b o e => e, rfl, fun i o p h => by simp at h, List.nodup_nil, fun a h => by cases h⟩
end Mine
end
open Mine
theorem PySem.Challenge.cw_pc0038_02_holds : PySem.Challenge.rw_pc0038_02.Holds := by
  refine H.hd_ ?_
  intro w s₀ s₁ mg mb G Y fa o pm cd doc dV kV ho hd hcd hD hmg hg args vals as hpre hlay hrd hwl hlo
  have KX := kIn_of Y
  have V := (Ground.X G).2
  have GL := glob_more (Ground.glob G (by decide +kernel) (by decide +kernel)) V
  have hfa := (mg_of KX GL.g (law427 w.params)).symm.trans hmg
  cases hfa
  refine Ground.open G ?_
  intro T B D TE TW
  clear hmg hd hD
  wrow_args hpre hlay hrd hwl hlo
  refine enter_call ?_
  rename_i script hs hlay0 hL1 hr1 hl2 as4 as3 L vs as1 hL ra w1 r0 hI hr0 hcond hcond2
  let c : Cx := ⟨PySem.Challenge.rw_pc0038_02.row.prog, w, KK w.params, s₁.heap, KX, mg, mb, GL.g, GL.b, GL.nolimit, GL.builtins⟩
  have cv := cv_law (c := c) rfl rfl hL hI (by omega)
  have H0 : c.Hp [] [] s₁.heap := hp_nil (c := c)
  refine codeAny_mono (cv callerA [] [] s₁ [.ref L] [.frozen L] (fun v _ => v = .bool true) (fun v s' => GoodWG PySem.Challenge.rw_pc0038_02.row.claim (classAt s₀.heap) (ExcName.means s₀.heap) [ofPy (PyData.list (List.map PyData.int script))] s₁ (.ok (.ret v)) s')
    (fun e s' => GoodWG PySem.Challenge.rw_pc0038_02.row.claim (classAt s₀.heap) (ExcName.means s₀.heap) [ofPy (PyData.list (List.map PyData.int script))] s₁ (.error e) s') ⟨rfl, by rw [depth_caller]; decide, by rw [units_caller, cLine_is]; decide⟩ H0 (.cons (.frozen L) .nil) ⟨rfl, fun _ => rfl⟩ ?_) ?_
  · rintro v mv φ' mh' h' tk rfl x H r
    cases r
    exact ⟨.inl ⟨.bool true, .bool true, [], rfl, fun _ => rfl, .bool true, (by first | kernel_rfl | decide +kernel | simp), fun _ => ⟨List.nodup_nil, by simp⟩⟩, .of_keep fun b o e => H.base b o e, rfl, .of_eq hg⟩
  · intro r s' hh
    cases r with
    | error e => exact hh
    | ok f =>
      cases f with
      | ret v => exact hh
      | _ => exact hh.elim
