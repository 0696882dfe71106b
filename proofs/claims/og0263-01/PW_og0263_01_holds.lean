import PyProof.Rows.All
import Wide.All
import OpenK.AllK
import Wide.FinOn
import KE.KBytesWalk
import OpenK.KMore
import Lean
import PySem.Challenge.RW_og0263_01
set_option Elab.async false
set_option linter.unusedSimpArgs false
set_option linter.unusedVariables false
set_option maxRecDepth 100000
set_option tactic.hygienic false
namespace Og
open PySem PySem.Calls PySem.Spec PyProof.Rows

inductive D where
  | none
  | bool (b : Bool)
  | int (i : Int)
  | bytes (b : Array UInt8)
  | tup (ds : List D)
  | lst (ds : List D)
  | dic (ks : List Int) (ds : List D)
  | obj (C : Addr) (xs : List Str) (ds : List D)

inductive Ents : List DictEntry → List Int → List Value → Prop
  | nil : Ents [] [] []
  | cons {k : Int} {t : Tok} {v : Value} {es : List DictEntry} {ks : List Int} {vs : List Value} : Ents es ks vs → Ents (⟨hashInt k, .int k t, v⟩ :: es) (k :: ks) (v :: vs)

inductive FE : List DictEntry → List Str → List Value → Prop
  | nil : FE [] [] []
  | cons {hs : Int} {x : Str} {t : Tok} {v : Value} {es : List DictEntry} {xs : List Str} {vs : List Value} : FE es xs vs → FE (⟨hs, .str x t, v⟩ :: es) (x :: xs) (v :: vs)

mutual
inductive Rep (av : List Addr) (h : Heap) : Value → D → Prop
  | none : Rep av h .none .none
  | bool (b : Bool) : Rep av h (.bool b) (.bool b)
  | int (i : Int) (t : Tok) : Rep av h (.int i t) (.int i)
  | bytes (b : Array UInt8) (t : Tok) : Rep av h (.bytes b t) (.bytes b)
  | tup {a : Addr} {vs : List Value} {n : Nat} {ds : List D} : a ∉ av → h.get? a = some { cls := .type "tuple", data := .seq vs.toArray n } → RepAll av h vs ds → Rep av h (.ref a) (.tup ds)
  | lst {a : Addr} {vs : List Value} {n : Nat} {ds : List D} : a ∉ av → h.get? a = some { cls := .type "list", data := .seq vs.toArray n } → RepAll av h vs ds → Rep av h (.ref a) (.lst ds)
  | dic {a : Addr} {es : Array DictEntry} {n : Nat} {ks : List Int} {vs : List Value} {ds : List D} : a ∉ av → (a == sysModules) = false → h.get? a = some { cls := .type "dict", data := .dict es n } → Ents es.toList ks vs → ks.Nodup → RepAll av h vs ds →
      Rep av h (.ref a) (.dic ks ds)
  | obj {a dx C : Addr} {es : List DictEntry} {n : Nat} {xs : List Str} {vs : List Value} {ds : List D} : a ∉ av → dx ∉ av → h.get? a = some { cls := .ref C, dict := some dx, data := .plain } → h.get? dx = some { cls := .type "dict", data := .dict es.toArray n } → FE es xs vs → xs.Nodup → RepAll av h vs ds →
      Rep av h (.ref a) (.obj C xs ds)
inductive RepAll (av : List Addr) (h : Heap) : List Value → List D → Prop
  | nil : RepAll av h [] []
  | cons {v : Value} {vs : List Value} {d : D} {ds : List D} : Rep av h v d → RepAll av h vs ds → RepAll av h (v :: vs) (d :: ds)
end

mutual
theorem Rep.mono {av av' : List Addr} {h h' : Heap} (hk : ∀ a o, a ∉ av → h.get? a = some o → h'.get? a = some o ∧ a ∉ av') : ∀ {v : Value} {d : D}, Rep av h v d → Rep av' h' v d
  | _, _, .none => .none
  | _, _, .bool b => .bool b
  | _, _, .int i t => .int i t
  | _, _, .bytes b t => .bytes b t
  | _, _, .tup ha ho r => .tup (hk _ _ ha ho).2 (hk _ _ ha ho).1 (RepAll.mono hk r)
  | _, _, .lst ha ho r => .lst (hk _ _ ha ho).2 (hk _ _ ha ho).1 (RepAll.mono hk r)
  | _, _, .dic ha hm ho he hn r => .dic (hk _ _ ha ho).2 hm (hk _ _ ha ho).1 he hn (RepAll.mono hk r)
  | _, _, .obj ha hd ho hod he hn r => .obj (hk _ _ ha ho).2 (hk _ _ hd hod).2 (hk _ _ ha ho).1 (hk _ _ hd hod).1 he hn (RepAll.mono hk r)
theorem RepAll.mono {av av' : List Addr} {h h' : Heap} (hk : ∀ a o, a ∉ av → h.get? a = some o → h'.get? a = some o ∧ a ∉ av') : ∀ {vs : List Value} {ds : List D}, RepAll av h vs ds → RepAll av' h' vs ds
  | _, _, .nil => .nil
  | _, _, .cons a r => .cons (Rep.mono hk a) (RepAll.mono hk r)
end

section
variable {av : List Addr} {h : Heap} {v : Value} {d : D} {vs ws : List Value} {ds es : List D}
theorem RepAll.length (x : RepAll av h vs ds) : vs.length = ds.length := by
  induction vs generalizing ds with
  | nil => cases x; rfl
  | cons v vs ih => cases x with | cons _ r => rw [List.length_cons, List.length_cons, ih r]
theorem RepAll.append (x : RepAll av h vs ds) (y : RepAll av h ws es) : RepAll av h (vs ++ ws) (ds ++ es) := by
  induction vs generalizing ds with
  | nil => cases x; exact y
  | cons v vs ih => cases x with | cons a r => exact .cons a (ih r)
theorem RepAll.get (x : RepAll av h vs ds) {k : Nat} {d : D} (hk : ds[k]? = some d) : ∃ v, vs[k]? = some v ∧ Rep av h v d := by
  induction vs generalizing ds k with
  | nil => cases x; simp at hk
  | cons v vs ih =>
    cases x with
    | cons a r =>
      cases k with
      | zero => simp at hk; subst hk; exact ⟨v, rfl, a⟩
      | succ k => simp at hk; simpa using ih r hk
theorem RepAll.get' (x : RepAll av h vs ds) {k : Nat} {v : Value} (hk : vs[k]? = some v) : ∃ d, ds[k]? = some d ∧ Rep av h v d := by
  induction vs generalizing ds k with
  | nil => simp at hk
  | cons v vs ih =>
    cases x with
    | cons a r =>
      cases k with
      | zero => simp at hk; subst hk; exact ⟨_, rfl, a⟩
      | succ k => simp at hk; simpa using ih r hk
theorem RepAll.drop (x : RepAll av h vs ds) (k : Nat) : RepAll av h (vs.drop k) (ds.drop k) := by
  induction k generalizing vs ds with
  | zero => simpa using x
  | succ k ih => cases x with
    | nil => simpa using RepAll.nil
    | cons a r => simpa using ih r
theorem RepAll.take (x : RepAll av h vs ds) (k : Nat) : RepAll av h (vs.take k) (ds.take k) := by
  induction k generalizing vs ds with
  | zero => simpa using RepAll.nil
  | succ k ih => cases x with
    | nil => simpa using RepAll.nil
    | cons a r => simpa using RepAll.cons a (ih r)
theorem RepAll.reverse (x : RepAll av h vs ds) : RepAll av h vs.reverse ds.reverse := by
  induction vs generalizing ds with
  | nil => cases x; exact .nil
  | cons v vs ih => cases x with
    | cons a r => simpa using (ih r).append (.cons a .nil)
end

noncomputable def Ext (own : List Addr) (h h' : Heap) : Prop := ∀ a o, a ∉ own → h.get? a = some o → h'.get? a = some o
theorem Ext.refl {own : List Addr} {h : Heap} : Ext own h h := fun _ _ _ e => e
theorem Ext.trans {own : List Addr} {h h' h'' : Heap} (x : Ext own h h') (y : Ext own h' h'') : Ext own h h'' := fun a o ha e => y a o ha (x a o ha e)
theorem Ext.keeps {own : List Addr} {h h' : Heap} (x : ∀ a o, h.get? a = some o → h'.get? a = some o) : Ext own h h' := fun a o _ e => x a o e
theorem Ext.push {own : List Addr} {h : Heap} (o : Obj) : Ext own h (h.push o) := fun _ _ _ e => Heap.get?_push_of_some o e
theorem Rep.ext {own fz : List Addr} {h h' : Heap} {v : Value} {d : D} (x : Ext own h h') (r : Rep (own ++ fz) h v d) : Rep (own ++ fz) h' v d :=
  r.mono fun a o ha e => ⟨x a o (fun q => ha (List.mem_append_left _ q)) e, ha⟩
theorem RepAll.ext {own fz : List Addr} {h h' : Heap} {vs : List Value} {ds : List D} (x : Ext own h h') (r : RepAll (own ++ fz) h vs ds) : RepAll (own ++ fz) h' vs ds :=
  r.mono fun a o ha e => ⟨x a o (fun q => ha (List.mem_append_left _ q)) e, ha⟩

inductive Loc where
  | un
  | d (d : D)
  | v (v : Value)
  | own (a : Addr) (ds : List D)
noncomputable def Holds (own fz : List Addr) (h : Heap) (mv : Option Value) : Loc → Prop
  | .un => True
  | .d d => ∃ v, mv = some v ∧ Rep (own ++ fz) h v d
  | .v v => mv = some v
  | .own a ds => mv = some (.ref a) ∧ a ∈ own ∧ ∃ vs n, h.get? a = some { cls := .type "list", data := .seq vs.toArray n } ∧ RepAll (own ++ fz) h vs ds

structure Step (own : List Addr) (h : Heap) (own' : List Addr) (h' : Heap) : Prop where
  ext : Ext own h h'
  sub : ∀ a ∈ own, a ∈ own'
  new : ∀ a ∈ own', a ∈ own ∨ h.get? a = none
theorem Step.refl {own : List Addr} {h : Heap} : Step own h own h := ⟨.refl, fun _ h => h, fun _ h => .inl h⟩
theorem Step.ofExt {own : List Addr} {h h' : Heap} (x : Ext own h h') : Step own h own h' := ⟨x, fun _ h => h, fun _ h => .inl h⟩
theorem Step.trans {o₁ o₂ o₃ : List Addr} {h₁ h₂ h₃ : Heap} (x : Step o₁ h₁ o₂ h₂) (y : Step o₂ h₂ o₃ h₃) : Step o₁ h₁ o₃ h₃ where
  ext := fun a o ha e => by
    refine y.ext a o (fun q => ?_) (x.ext a o ha e)
    rcases x.new a q with q | q
    · exact ha q
    · rw [q] at e; cases e
  sub := fun a ha => y.sub a (x.sub a ha)
  new := fun a ha => by
    rcases y.new a ha with q | q
    · exact x.new a q
    · by_cases z : a ∈ o₁
      · exact .inl z
      · refine .inr ?_
        cases e : h₁.get? a with
        | none => rfl
        | some o => rw [x.ext a o z e] at q; cases q
theorem Rep.step {own own' fz : List Addr} {h h' : Heap} {v : Value} {d : D} (x : Step own h own' h') (r : Rep (own ++ fz) h v d) : Rep (own' ++ fz) h' v d :=
  r.mono fun a o ha e => ⟨x.ext a o (fun q => ha (List.mem_append_left _ q)) e, fun q => by
    rcases List.mem_append.mp q with q | q
    · rcases x.new a q with q | q
      · exact ha (List.mem_append_left _ q)
      · rw [q] at e; cases e
    · exact ha (List.mem_append_right _ q)⟩
theorem RepAll.step {own own' fz : List Addr} {h h' : Heap} {vs : List Value} {ds : List D} (x : Step own h own' h') (r : RepAll (own ++ fz) h vs ds) : RepAll (own' ++ fz) h' vs ds :=
  r.mono fun a o ha e => ⟨x.ext a o (fun q => ha (List.mem_append_left _ q)) e, fun q => by
    rcases List.mem_append.mp q with q | q
    · rcases x.new a q with q | q
      · exact ha (List.mem_append_left _ q)
      · rw [q] at e; cases e
    · exact ha (List.mem_append_right _ q)⟩

noncomputable def Loc.OwnKept (h h' : Heap) : Loc → Prop
  | .own a _ => ∀ o, h.get? a = some o → h'.get? a = some o
  | _ => True
theorem Loc.ownKept {h h' : Heap} (hk : ∀ a o, h.get? a = some o → h'.get? a = some o) (l : Loc) : l.OwnKept h h' := by
  cases l <;> first | trivial | exact fun o e => hk _ o e
theorem Holds.step {own own' fz : List Addr} {h h' : Heap} (x : Step own h own' h') {mv : Option Value} {l : Loc} (ho : l.OwnKept h h') (r : Holds own fz h mv l) : Holds own' fz h' mv l := by
  cases l with
  | un => trivial
  | d d => obtain ⟨v, e, r⟩ := r; exact ⟨v, e, r.step x⟩
  | v v => exact r
  | own a ds => obtain ⟨e, ha, vs, n, ho', r⟩ := r; exact ⟨e, x.sub a ha, vs, n, ho _ ho', r.step x⟩

inductive Vars (own fz : List Addr) (h : Heap) (m : Str → Option Value) : List Str → List Loc → Prop
  | nil : Vars own fz h m [] []
  | cons {x : Str} {l : Loc} {xs : List Str} {ls : List Loc} : Holds own fz h (m x) l → Vars own fz h m xs ls → Vars own fz h m (x :: xs) (l :: ls)
theorem Vars.step {own own' fz : List Addr} {h h' : Heap} (x : Step own h own' h') {m : Str → Option Value} {xs : List Str} {ls : List Loc} (ho : ∀ l ∈ ls, l.OwnKept h h')
    (X : Vars own fz h m xs ls) : Vars own' fz h' m xs ls := by
  induction X with
  | nil => exact .nil
  | cons a _ ih => exact .cons (a.step x (ho _ (.head _))) (ih fun l hl => ho l (.tail _ hl))
theorem Vars.mono {own own' fz fz' : List Addr} {h h' : Heap} (hk : ∀ a o, a ∉ own ++ fz → h.get? a = some o → h'.get? a = some o ∧ a ∉ own' ++ fz') (hsub : ∀ a ∈ own, a ∈ own') {m : Str → Option Value} {xs : List Str} {ls : List Loc}
    (ho : ∀ l ∈ ls, l.OwnKept h h') (X : Vars own fz h m xs ls) : Vars own' fz' h' m xs ls := by
  induction X with
  | nil => exact .nil
  | @cons x l _ _ a _ ih =>
    refine .cons ?_ (ih fun l hl => ho l (.tail _ hl))
    have hl := ho l (.head _)
    cases l with
    | un => trivial
    | d d => obtain ⟨v, e, r⟩ := a; exact ⟨v, e, r.mono hk⟩
    | v v => exact a
    | own b es => obtain ⟨e, hb, vs, n, ho', r⟩ := a; exact ⟨e, hsub b hb, vs, n, hl _ ho', r.mono hk⟩
theorem Vars.ownMem {own fz : List Addr} {h : Heap} {m : Str → Option Value} {xs : List Str} {ls : List Loc} (X : Vars own fz h m xs ls) {a : Addr} {es : List D} (hm : Loc.own a es ∈ ls) : a ∈ own := by
  induction X with
  | nil => cases hm
  | cons q _ ih =>
    rcases List.mem_cons.mp hm with e | e
    · subst e; exact q.2.1
    · exact ih e
theorem Vars.length {own fz : List Addr} {h : Heap} {m : Str → Option Value} {xs : List Str} {ls : List Loc} (X : Vars own fz h m xs ls) : xs.length = ls.length := by
  induction X with
  | nil => rfl
  | cons _ _ ih => simp [ih]
theorem Vars.get {own fz : List Addr} {h : Heap} {m : Str → Option Value} {xs : List Str} {ls : List Loc} (X : Vars own fz h m xs ls) {i : Nat} {x : Str} {l : Loc} (hx : xs[i]? = some x) (hl : ls[i]? = some l) :
    Holds own fz h (m x) l := by
  induction X generalizing i with
  | nil => simp at hx
  | cons a _ ih =>
    cases i with
    | zero => simp at hx hl; subst hx; subst hl; exact a
    | succ i => simp at hx hl; exact ih hx hl
theorem Vars.keep {own fz : List Addr} {h : Heap} {m m' : Str → Option Value} {xs : List Str} {ls : List Loc} (X : Vars own fz h m xs ls) (hm : ∀ x ∈ xs, m' x = m x) : Vars own fz h m' xs ls := by
  induction X with
  | nil => exact .nil
  | cons a _ ih => exact .cons (by rw [hm _ (.head _)]; exact a) (ih fun x hx => hm x (.tail _ hx))
theorem Vars.set {own fz : List Addr} {h : Heap} {m : Str → Option Value} {xs : List Str} {ls : List Loc} (X : Vars own fz h m xs ls) (hn : xs.Nodup) {i : Nat} {x : Str} {l : Loc} {v : Value} (hx : xs[i]? = some x)
    (hl : Holds own fz h (some v) l) : Vars own fz h (fun y => if y = x then some v else m y) xs (ls.set i l) := by
  induction X generalizing i with
  | nil => simp at hx
  | @cons y l' xs ls a q ih =>
    have hnd := List.nodup_cons.mp hn
    cases i with
    | zero =>
      simp at hx; subst hx
      refine .cons (by rw [if_pos rfl]; exact hl) (q.keep fun z hz => ?_)
      rw [if_neg]; intro e; subst e; exact hnd.1 hz
    | succ i =>
      simp at hx
      have hm : x ∈ xs := List.mem_of_getElem? hx
      refine .cons ?_ (ih hnd.2 hx)
      rw [if_neg (show ¬ y = x from fun e => hnd.1 (e ▸ hm))]
      exact a
theorem Vars.turn {own fz : List Addr} {h h' : Heap} {m : Str → Option Value} {xs : List Str} {ls : List Loc} (X : Vars own fz h m xs ls) {a : Addr} (ha : a ∈ own) (hs : Heap.SameBut a h h') {i : Nat} {l : Loc}
    (hne : ∀ j b es, j ≠ i → ls[j]? = some (.own b es) → b ≠ a) (hl : ∀ x, xs[i]? = some x → Holds own fz h' (m x) l) : Vars own fz h' m xs (ls.set i l) := by
  have hst : Step own h own h' := Step.ofExt fun b o hb e => hs.extBut b o (fun q => hb (q ▸ ha)) e
  induction X generalizing i with
  | nil => exact .nil
  | @cons y l' xs ls q r ih =>
    cases i with
    | zero =>
      refine .cons (hl y rfl) (r.step hst fun l hm => ?_)
      obtain ⟨j, hj⟩ := List.mem_iff_getElem?.mp hm
      cases l with
      | own b es => exact fun o e => hs.extBut b o (hne (j + 1) b es (Nat.succ_ne_zero _) (by simpa using hj)) e
      | _ => trivial
    | succ i =>
      refine .cons (q.step hst ?_) (ih (fun j b es hj e => hne (j + 1) b es (fun z => hj (Nat.succ.inj z)) (by simpa using e)) fun x hx => hl x (by simpa using hx))
      cases l' with
      | own b es => exact fun o e => hs.extBut b o (hne 0 b es (Nat.succ_ne_zero _).symm rfl) e
      | _ => trivial

structure Gl where
  hb : Heap
  mg : Str → Option Value
  mb : Str → Option Value
  g : hb.Ns mainGlobals mg
  b : hb.Ns builtinsNs mb
  bb : ∀ x : Str, x ≠ "__name__" → mb x = bootBuiltins x
  nolimit : hb.NoLimit

structure Fc where
  env : Env
  h₀ : Heap
  mt : List Addr
  fz : List Addr
  s₀ : Shared

structure Same (s s' : Shared) : Prop where
  gens : s'.gens = s.gens
  drawn : s'.drawn = s.drawn
  os : s'.os = s.os
theorem Same.trans {s s' s'' : Shared} (x : Same s s') (y : Same s' s'') : Same s s'' := ⟨y.gens.trans x.gens, y.drawn.trans x.drawn, y.os.trans x.os⟩
theorem Same.eq {s s' : Shared} (x : Same s s') : s' = { s with heap := s'.heap, toks := s'.toks } := by
  obtain ⟨h, g, d, t, o⟩ := s
  obtain ⟨h', g', d', t', o'⟩ := s'
  obtain ⟨x1, x2, x3⟩ := x
  simp only at x1 x2 x3
  subst x1 x2 x3
  rfl

structure Inv where
  P : Heap → Prop
  ad : List Addr
  keep : ∀ h h', P h → (∀ a ∈ ad, ∀ o, h.get? a = some o → h'.get? a = some o) → P h'
noncomputable def Inv.none : Inv := ⟨fun _ => True, [], fun _ _ _ _ => trivial⟩

structure St (G : Gl) (names : List Str) (I : Inv) (c : Fc) (own : List Addr) (vals : List Loc) (s : Shared) : Prop where
  kind : c.env.scope.kind = .function
  glob : c.env.globals = mainGlobals
  blt : c.env.builtins = builtinsNs
  loc : ∀ x ∈ names, c.env.kindOf x = some .local ∧ (x == ("__debug__" : Str)) = false
  nodup : names.Nodup
  base : ∀ b o, G.hb.get? b = some o → s.heap.get? b = some o
  ns : ∃ m, s.heap.Ns c.env.locals m ∧ Vars own c.fz s.heap m names vals
  lown : c.env.locals ∈ own
  alive : ∀ a ∈ own ++ c.fz, ∃ o, s.heap.get? a = some o
  ext : ∀ b o, b ∉ c.mt → c.h₀.get? b = some o → s.heap.get? b = some o
  fresh : ∀ a ∈ own, a ∈ c.mt ∨ c.h₀.get? a = none
  apart : ∀ a ∈ own ++ c.fz, G.hb.get? a = none
  inv : I.P s.heap
  iown : ∀ a ∈ I.ad, a ∈ own ∧ a ≠ c.env.locals
  same : Same c.s₀ s

section
variable {G : Gl} {names : List Str} {I : Inv} {c : Fc} {own : List Addr} {vals : List Loc} {s : Shared}

theorem St.keeps (S : St G names I c own vals s) {s' : Shared} (hk : ∀ b o, s.heap.get? b = some o → s'.heap.get? b = some o) (hs : Same s s') : St G names I c own vals s' where
  kind := S.kind
  glob := S.glob
  blt := S.blt
  loc := S.loc
  nodup := S.nodup
  base := fun b o e => hk b o (S.base b o e)
  ns := by
    obtain ⟨m, h1, h2⟩ := S.ns
    exact ⟨m, h1.keeps hk, h2.step (Step.ofExt (Ext.keeps hk)) fun l _ => l.ownKept hk⟩
  lown := S.lown
  alive := fun a ha => by obtain ⟨o, e⟩ := S.alive a ha; exact ⟨o, hk _ _ e⟩
  ext := fun b o hb e => hk b o (S.ext b o hb e)
  fresh := S.fresh
  apart := S.apart
  inv := I.keep _ _ S.inv fun a _ o e => hk a o e
  iown := S.iown
  same := S.same.trans hs

theorem St.new (S : St G names I c own vals s) {a : Addr} (ha : s.heap.get? a = none) : a ∉ own ++ c.fz := fun hm => by
  obtain ⟨o, e⟩ := S.alive a hm
  rw [ha] at e; cases e

theorem St.store (S : St G names I c own vals s) {h' : Heap} {t : Nat} {i : Nat} {x : Str} {l : Loc} {v : Value} {m : Str → Option Value} (hn : s.heap.Ns c.env.locals m) (hv : Vars own c.fz s.heap m names vals)
    (hn' : h'.Ns c.env.locals (fun y => if y = x then some v else m y)) (hs : Heap.SameBut c.env.locals s.heap h') (hx : names[i]? = some x) (hl : Holds own c.fz h' (some v) l) :
    St G names I c own (vals.set i l) { s with heap := h', toks := t } where
  kind := S.kind
  glob := S.glob
  blt := S.blt
  loc := S.loc
  nodup := S.nodup
  base := fun b o e => hs.extBut b o (fun q => by have := S.apart _ (List.mem_append_left _ S.lown); rw [← q, e] at this; cases this) (S.base b o e)
  ns := by
    refine ⟨_, hn', ?_⟩
    refine Vars.set (hv.step (Step.ofExt fun b o hb e => hs.extBut b o (fun q => hb (q ▸ S.lown)) e) fun l' hm => ?_) S.nodup hx hl
    cases l' with
    | own b es =>
      intro o e
      refine hs.extBut b o (fun q => ?_) e
      obtain ⟨j, hj⟩ := List.mem_iff_getElem?.mp hm
      have hlt : j < names.length := by
        have h1 : j < vals.length := (List.getElem?_eq_some_iff.mp hj).1
        have h2 := hv.length
        omega
      have hh := hv.get (List.getElem?_eq_getElem hlt) hj
      obtain ⟨_, _, vs, n, ho, _⟩ := hh
      obtain ⟨oL, es', ep, hoL, hd, _⟩ := hn
      rw [q, hoL] at ho
      cases ho
      cases hd
    | _ => trivial
  lown := S.lown
  alive := fun a ha => by
    obtain ⟨o, e⟩ := S.alive a ha
    by_cases q : a = c.env.locals
    · obtain ⟨o', _, _, ho', _⟩ := hn'
      exact ⟨o', q ▸ ho'⟩
    · exact ⟨o, hs.extBut a o q e⟩
  ext := fun b o hb e => hs.extBut b o (fun q => by
      rcases S.fresh _ S.lown with z | z
      · exact hb (q ▸ z)
      · rw [← q, e] at z; cases z) (S.ext b o hb e)
  fresh := S.fresh
  apart := S.apart
  inv := I.keep _ _ S.inv fun a ha o e => hs.extBut a o (S.iown a ha).2 e
  iown := S.iown
  same := S.same.trans ⟨rfl, rfl, rfl⟩
end
end Og
namespace Og
open PySem PySem.Calls PySem.Spec PyProof.Rows

noncomputable def noStar : Expr → Bool
  | .Starred _ _ => false
  | _ => true
theorem star_plain {e : Expr} {es : List Expr} {env : Env} (h : noStar e = true) : starEach (e :: es) env = (false, eval e env) :: starEach es env := by
  cases e <;> first | rfl | cases h
theorem back_cons {pos : Pos} {b : Bool} {t : Sem Value} {r : List (Bool × Sem Value)} : backTo pos ((b, t) :: r) = (b, if b then do let v ← t; standAt pos; pure v else t) :: backTo pos r := rfl
theorem stars_none {pos : Pos} {env : Env} : ∀ {es : List Expr}, es.all noStar = true → (backTo pos (starEach es env)).any (·.1) = false
  | [], _ => rfl
  | e :: es, h => by
    rw [List.all_cons, Bool.and_eq_true] at h
    rw [star_plain h.1, back_cons, List.any_cons, stars_none h.2]
    rfl
theorem star_one {pos : Pos} {env : Env} {e : Expr} (h : noStar e = true) : backTo pos (starEach [e] env) = [(false, eval e env)] := by rw [star_plain h]; rfl
theorem star_two {pos : Pos} {env : Env} {e f : Expr} (h : noStar e = true) (g : noStar f = true) : backTo pos (starEach [e, f] env) = [(false, eval e env), (false, eval f env)] := by rw [star_plain h, star_plain g]; rfl

structure Sc where
  scope : Scope
  cells : List (Str × Addr) := []
noncomputable abbrev EnvIs (env : Env) (sc : Sc) : Prop := env.scope = sc.scope ∧ env.cells = sc.cells

structure Room (n : Nat) (A : Around) : Prop where
  hand : A.handled = none
  depth : A.depth + n < recursionLimit
  units : A.units + 16 * n + 128 < cLine
theorem Room.le {n m : Nat} {A : Around} (R : Room n A) (h : m ≤ n) : Room m A := ⟨R.hand, by have := R.depth; omega, by have := R.units; omega⟩
theorem Room.deeper {n : Nat} {A : Around} {env : Env} (R : Room (n + 1) A) : Room n (A.deeper env) := ⟨R.hand, by have := R.depth; show A.depth + 1 + n < _; omega, by have := R.units; show A.units + 3 + 16 * n + 128 < _; omega⟩
theorem Room.small {n : Nat} {A : Around} (R : Room n A) : A.units + 64 < cLine := by have := R.units; omega

section
variable (prog : Program) (w : World)

structure EvE (G : Gl) (I : Inv) (sc : Sc) (names : List Str) (n : Nat) (vals : List Loc) (e : Expr) (d : D) : Prop where
  go : ∀ (c : Fc) (own : List Addr) (s : Shared) (A : Around) (Q : Value → Shared → Prop) (E : Value → Shared → Prop), EnvIs c.env sc → Room n A → St G names I c own vals s →
    (∀ v s', St G names I c own vals s' → Ext own s.heap s'.heap → Rep (own ++ c.fz) s'.heap v d → Q v s') → wpAny (model prog w) A (eval e c.env) Q E s
structure EvL (G : Gl) (I : Inv) (sc : Sc) (names : List Str) (n : Nat) (vals : List Loc) (es : List Expr) (ds : List D) : Prop where
  go : ∀ (c : Fc) (own : List Addr) (s : Shared) (A : Around) (pos : Pos) (Q : List Value → Shared → Prop) (E : Value → Shared → Prop), EnvIs c.env sc → Room n A → St G names I c own vals s →
    (∀ vs s', St G names I c own vals s' → Ext own s.heap s'.heap → RepAll (own ++ c.fz) s'.heap vs ds → Q vs s') → wpAny (model prog w) A (spliced (backTo pos (starEach es c.env))) Q E s
structure EvB (G : Gl) (I : Inv) (sc : Sc) (names : List Str) (n : Nat) (vals : List Loc) (e : Expr) (b : Bool) : Prop where
  go : ∀ (c : Fc) (own : List Addr) (s : Shared) (A : Around) (Q : Bool → Shared → Prop) (E : Value → Shared → Prop), EnvIs c.env sc → Room n A → St G names I c own vals s →
    (∀ s', St G names I c own vals s' → Ext own s.heap s'.heap → Q b s') → wpAny (model prog w) A (isTrue e c.env (eval e c.env)) Q E s

noncomputable def OpOk (t : Value → Value → Sem Value) (d₁ d₂ d : D) : Prop :=
  ∀ (av : List Addr) (s : Shared) (A : Around) (v₁ v₂ : Value) (Q : Value → Shared → Prop) (E : Value → Shared → Prop), A.handled = none → A.units + 64 < cLine → (∀ a ∈ av, ∃ o, s.heap.get? a = some o) → (∃ a m, s.heap.Ns a m) → Rep av s.heap v₁ d₁ → Rep av s.heap v₂ d₂ →
    (∀ v h' tk, (∀ b o, s.heap.get? b = some o → h'.get? b = some o) → Rep av h' v d → Q v { s with heap := h', toks := tk }) → wpAny (model prog w) A (t v₁ v₂) Q E s
noncomputable def CmpOk (op : CmpOp) (d₁ d₂ : D) (b : Bool) : Prop :=
  ∀ (av : List Addr) (s : Shared) (A : Around) (v₁ v₂ : Value) (Q : Value → Shared → Prop) (E : Value → Shared → Prop), A.handled = none → A.units + 64 < cLine → Rep av s.heap v₁ d₁ → Rep av s.heap v₂ d₂ →
    (∀ h' tk, (∀ b o, s.heap.get? b = some o → h'.get? b = some o) → Q (.bool b) { s with heap := h', toks := tk }) → wpAny (model prog w) A (compareOp op v₁ v₂) Q E s
noncomputable def TruOk (d : D) (b : Bool) : Prop :=
  ∀ (av : List Addr) (s : Shared) (A : Around) (v : Value) (Q : Bool → Shared → Prop) (E : Value → Shared → Prop), A.units + 64 < cLine → Rep av s.heap v d →
    (∀ tk, Q b { s with toks := tk }) → wpAny (model prog w) A (truthy v) Q E s
end

section
variable {prog : Program} {w : World} {G : Gl} {I : Inv} {sc : Sc} {names : List Str} {n : Nat} {vals : List Loc}


theorem EvE.name {x : Str} {p : Pos} {d : D} (i : Nat) (hx : names[i]? = some x) (hl : vals[i]? = some (.d d)) : EvE prog w G I sc names n vals (.Name x p) d := by
  constructor
  intro c own s A Q E hsc R S k
  obtain ⟨m, hn, hv⟩ := S.ns
  obtain ⟨v, hm, r⟩ := hv.get hx hl
  have hl := S.loc x (List.mem_of_getElem? hx)
  exact wpAny_Name (wpAny_loadName_local S.kind hl.1 hn hm (k v s S .refl r)) hl.2

theorem EvE.cInt {i : Int} {k : Nat} {p : Pos} : EvE prog w G I sc names n vals (.Constant (.int i) k p) (.int i) :=
  ⟨fun _ _ _ _ _ _ _ _ S k => wpAny_Constant_int (k _ _ (S.keeps (fun _ _ e => e) ⟨rfl, rfl, rfl⟩) .refl (.int _ _))⟩
theorem EvE.cNone {k : Nat} {p : Pos} : EvE prog w G I sc names n vals (.Constant .none k p) .none :=
  ⟨fun _ _ _ _ _ _ _ _ S k => wpAny_Constant_none (k _ _ S .refl .none)⟩
theorem EvE.cBool {b : Bool} {k : Nat} {p : Pos} : EvE prog w G I sc names n vals (.Constant (.bool b) k p) (.bool b) :=
  ⟨fun _ _ _ _ _ _ _ _ S k => wpAny_Constant_bool (k _ _ S .refl (.bool b))⟩

theorem EvE.bin {op : Operator} {l r : Expr} {p : Pos} {d₁ d₂ d : D} (hl : EvE prog w G I sc names n vals l d₁) (hr : EvE prog w G I sc names n vals r d₂) (h : OpOk prog w (binaryOp op) d₁ d₂ d) :
    EvE prog w G I sc names n vals (.BinOp l op r p) d := by
  constructor
  intro c own s A Q E hsc R S k
  refine wpAny_BinOp (hl.go c own s A _ E hsc R S fun v₁ s₁ S₁ x₁ r₁ => hr.go c own s₁ A _ E hsc R S₁ fun v₂ s₂ S₂ x₂ r₂ => ?_)
  refine h (own ++ c.fz) s₂ A v₁ v₂ Q E R.hand R.small S₂.alive (let ⟨m, hn, _⟩ := S₂.ns; ⟨_, m, hn⟩) (r₁.ext x₂) r₂ fun v h' tk hk rv => ?_
  exact k v _ (S₂.keeps hk ⟨rfl, rfl, rfl⟩) ((x₁.trans x₂).trans (Ext.keeps hk)) rv

theorem EvE.cmp {op : CmpOp} {l r : Expr} {p : Pos} {d₁ d₂ : D} {b : Bool} (hl : EvE prog w G I sc names n vals l d₁) (hr : EvE prog w G I sc names n vals r d₂) (h : CmpOk prog w op d₁ d₂ b)
    (hm : behindInMarks op r = false := by with_unfolding_all rfl) : EvE prog w G I sc names n vals (.Compare l [op] [r] p) (.bool b) := by
  constructor
  intro c own s A Q E hsc R S k
  refine wpAny_Compare1 (hl.go c own s A _ E hsc R S fun v₁ s₁ S₁ x₁ r₁ => hr.go c own s₁ A _ E hsc R S₁ fun v₂ s₂ S₂ x₂ r₂ => ?_) hm
  refine h (own ++ c.fz) s₂ A v₁ v₂ Q E R.hand R.small (r₁.ext x₂) r₂ fun h' tk hk => ?_
  exact k _ _ (S₂.keeps hk ⟨rfl, rfl, rfl⟩) ((x₁.trans x₂).trans (Ext.keeps hk)) (.bool b)

theorem EvB.cmp {op : CmpOp} {l r : Expr} {p : Pos} {d₁ d₂ : D} {b : Bool} (hl : EvE prog w G I sc names n vals l d₁) (hr : EvE prog w G I sc names n vals r d₂) (h : CmpOk prog w op d₁ d₂ b)
    (hm : behindInMarks op r = false := by with_unfolding_all rfl) : EvB prog w G I sc names n vals (.Compare l [op] [r] p) b := by
  constructor
  intro c own s A Q E hsc R S k
  refine wpAny_isTrue_Compare1 (hl.go c own s A _ E hsc R S fun v₁ s₁ S₁ x₁ r₁ => hr.go c own s₁ A _ E hsc R S₁ fun v₂ s₂ S₂ x₂ r₂ => ?_) hm
  refine h (own ++ c.fz) s₂ A v₁ v₂ _ E R.hand R.small (r₁.ext x₂) r₂ fun h' tk hk => wpAny_truthy_bool ?_
  exact k _ (S₂.keeps hk ⟨rfl, rfl, rfl⟩) ((x₁.trans x₂).trans (Ext.keeps hk))

theorem EvB.of {e : Expr} {d : D} {b : Bool} (he : EvE prog w G I sc names n vals e d) (ht : TruOk prog w d b)
    (hp : ∀ env whole, isTrue e env whole = (do let v ← whole; standAt e.pos; holding [v] (truthy v)) := by intro _ _; rfl) : EvB prog w G I sc names n vals e b := by
  constructor
  intro c own s A Q E hsc R S k
  refine wpAny_isTrue_value (he.go c own s A _ E hsc R S fun v s₁ S₁ x₁ r₁ => ht _ s₁ A v Q E R.small r₁ fun tk => ?_) (hp _ _)
  exact k _ (S₁.keeps (fun _ _ e => e) ⟨rfl, rfl, rfl⟩) x₁

theorem EvB.not {e : Expr} {p : Pos} {b : Bool} (he : EvB prog w G I sc names n vals e b) : EvB prog w G I sc names n vals (.UnaryOp .Not e p) (!b) := by
  constructor
  intro c own s A Q E hsc R S k
  exact wpAny_isTrue_Not (he.go c own s A _ E hsc R S fun s₁ S₁ x₁ => k s₁ S₁ x₁)

inductive EvAll (prog : Program) (w : World) (G : Gl) (I : Inv) (sc : Sc) (names : List Str) (n : Nat) (vals : List Loc) : BoolOp → List Expr → Bool → Prop
  | nil {op : BoolOp} : EvAll prog w G I sc names n vals op [] (op == .And)
  | stopA {e : Expr} {es : List Expr} : EvB prog w G I sc names n vals e false → EvAll prog w G I sc names n vals .And (e :: es) false
  | goA {e : Expr} {es : List Expr} {b : Bool} : EvB prog w G I sc names n vals e true → EvAll prog w G I sc names n vals .And es b → EvAll prog w G I sc names n vals .And (e :: es) b
  | stopO {e : Expr} {es : List Expr} : EvB prog w G I sc names n vals e true → EvAll prog w G I sc names n vals .Or (e :: es) true
  | goO {e : Expr} {es : List Expr} {b : Bool} : EvB prog w G I sc names n vals e false → EvAll prog w G I sc names n vals .Or es b → EvAll prog w G I sc names n vals .Or (e :: es) b

theorem allTrue_go {op : BoolOp} {es : List Expr} {b : Bool} (x : EvAll prog w G I sc names n vals op es b) : ∀ (c : Fc) (own : List Addr) (s : Shared) (A : Around) (Q : Bool → Shared → Prop) (E : Value → Shared → Prop), EnvIs c.env sc → Room n A → St G names I c own vals s →
    (∀ s', St G names I c own vals s' → Ext own s.heap s'.heap → Q b s') → wpAny (model prog w) A (allTrue op es c.env) Q E s := by
  induction x with
  | nil => intro c own s A Q E hsc R S k; exact wpAny_pure (k s S .refl)
  | stopA he =>
    intro c own s A Q E hsc R S k
    exact wpAny_allTrue_And_cons (he.go c own s A _ E hsc R S fun s₁ S₁ x₁ => k s₁ S₁ x₁)
  | goA he _ ih =>
    intro c own s A Q E hsc R S k
    exact wpAny_allTrue_And_cons (he.go c own s A _ E hsc R S fun s₁ S₁ x₁ => ih c own s₁ A Q E hsc R S₁ fun s₂ S₂ x₂ => k s₂ S₂ (x₁.trans x₂))
  | stopO he =>
    intro c own s A Q E hsc R S k
    exact wpAny_allTrue_Or_cons (he.go c own s A _ E hsc R S fun s₁ S₁ x₁ => k s₁ S₁ x₁)
  | goO he _ ih =>
    intro c own s A Q E hsc R S k
    exact wpAny_allTrue_Or_cons (he.go c own s A _ E hsc R S fun s₁ S₁ x₁ => ih c own s₁ A Q E hsc R S₁ fun s₂ S₂ x₂ => k s₂ S₂ (x₁.trans x₂))
theorem EvB.all {op : BoolOp} {es : List Expr} {p : Pos} {b : Bool} (x : EvAll prog w G I sc names n vals op es b) : EvB prog w G I sc names n vals (.BoolOp op es p) b :=
  ⟨fun c own s A Q E hsc R S k => wpAny_isTrue_BoolOp (allTrue_go x c own s A Q E hsc R S k)⟩

theorem EvE.ifT {t b o : Expr} {p : Pos} {d : D} (ht : EvB prog w G I sc names n vals t true) (hb : EvE prog w G I sc names n vals b d) : EvE prog w G I sc names n vals (.IfExp t b o p) d := by
  constructor
  intro c own s A Q E hsc R S k
  exact wpAny_IfExp (ht.go c own s A _ E hsc R S fun s₁ S₁ x₁ => hb.go c own s₁ A Q E hsc R S₁ fun v s₂ S₂ x₂ r => k v s₂ S₂ (x₁.trans x₂) r)
theorem EvE.ifF {t b o : Expr} {p : Pos} {d : D} (ht : EvB prog w G I sc names n vals t false) (hb : EvE prog w G I sc names n vals o d) : EvE prog w G I sc names n vals (.IfExp t b o p) d := by
  constructor
  intro c own s A Q E hsc R S k
  exact wpAny_IfExp (ht.go c own s A _ E hsc R S fun s₁ S₁ x₁ => hb.go c own s₁ A Q E hsc R S₁ fun v s₂ S₂ x₂ r => k v s₂ S₂ (x₁.trans x₂) r)

theorem EvE.and2T {x y : Expr} {p : Pos} {d d' : D} (hx : EvE prog w G I sc names n vals x d) (ht : TruOk prog w d true) (hy : EvE prog w G I sc names n vals y d') : EvE prog w G I sc names n vals (.BoolOp .And [x, y] p) d' := by
  constructor
  intro c own s A Q E hsc R S k
  refine wpAny_And2 (hx.go c own s A _ E hsc R S fun v s₁ S₁ x₁ r₁ => ht _ s₁ A v _ E R.small r₁ fun tk => ?_)
  exact hy.go c own _ A Q E hsc R (S₁.keeps (fun _ _ e => e) ⟨rfl, rfl, rfl⟩) fun v s₂ S₂ x₂ r₂ => k v s₂ S₂ (x₁.trans x₂) r₂
theorem EvE.or2T {x y : Expr} {p : Pos} {d : D} (hx : EvE prog w G I sc names n vals x d) (ht : TruOk prog w d true) : EvE prog w G I sc names n vals (.BoolOp .Or [x, y] p) d := by
  constructor
  intro c own s A Q E hsc R S k
  refine wpAny_Or2 (hx.go c own s A _ E hsc R S fun v s₁ S₁ x₁ r₁ => ht _ s₁ A v _ E R.small r₁ fun tk => ?_)
  exact k v _ (S₁.keeps (fun _ _ e => e) ⟨rfl, rfl, rfl⟩) x₁ r₁
theorem EvE.or2F {x y : Expr} {p : Pos} {d d' : D} (hx : EvE prog w G I sc names n vals x d) (ht : TruOk prog w d false) (hy : EvE prog w G I sc names n vals y d') : EvE prog w G I sc names n vals (.BoolOp .Or [x, y] p) d' := by
  constructor
  intro c own s A Q E hsc R S k
  refine wpAny_Or2 (hx.go c own s A _ E hsc R S fun v s₁ S₁ x₁ r₁ => ht _ s₁ A v _ E R.small r₁ fun tk => ?_)
  exact hy.go c own _ A Q E hsc R (S₁.keeps (fun _ _ e => e) ⟨rfl, rfl, rfl⟩) fun v s₂ S₂ x₂ r₂ => k v s₂ S₂ (x₁.trans x₂) r₂

theorem EvL.nil : EvL prog w G I sc names n vals [] [] := ⟨fun _ _ s _ _ _ _ _ _ S k => args_nil (k [] s S .refl .nil)⟩
theorem EvL.cons {e : Expr} {es : List Expr} {d : D} {ds : List D} (he : EvE prog w G I sc names n vals e d) (hs : EvL prog w G I sc names n vals es ds)
    (hst : ∀ env, starEach (e :: es) env = (false, eval e env) :: starEach es env := by exact fun _ => star_plain rfl) : EvL prog w G I sc names n vals (e :: es) (d :: ds) := by
  constructor
  intro c own s A pos Q E hsc R S k
  refine args_cons (he.go c own s A _ E hsc R S fun v s₁ S₁ x₁ r₁ => hs.go c own s₁ A pos _ E hsc R S₁ fun vs s₂ S₂ x₂ r₂ => ?_) (hst _)
  exact k _ s₂ S₂ (x₁.trans x₂) (.cons (r₁.ext x₂) r₂)

theorem St.push (o : Obj) {c : Fc} {own : List Addr} {s : Shared} (S : St G names I c own vals s) : St G names I c own vals { s with heap := s.heap.push o } :=
  S.keeps (fun _ _ e => Heap.get?_push_of_some o e) ⟨rfl, rfl, rfl⟩
theorem none_size {h : Heap} : h.get? h.objs.size = none := by
  cases e : h.get? h.objs.size with
  | none => rfl
  | some o => exact absurd (Heap.lt_size e) (Nat.lt_irrefl _)
theorem RepAll.push {own fz : List Addr} {h : Heap} (o : Obj) {vs : List Value} {ds : List D} (r : RepAll (own ++ fz) h vs ds) : RepAll (own ++ fz) (h.push o) vs ds := r.ext (Ext.push o)

theorem EvE.tuple {es : List Expr} {k : Nat} {p : Pos} {ds : List D} (h : EvL prog w G I sc names n vals es ds) (hz : ds.length ≤ sizeLine := by exact Nat.le_of_ble_eq_true rfl) : EvE prog w G I sc names n vals (.Tuple es k p) (.tup ds) := by
  constructor
  intro c own s A Q E hsc R S k
  refine wpAny_Tuple (h.go c own s A p _ E hsc R S fun vs s₁ S₁ x₁ r₁ => ⟨by rw [r₁.length]; exact hz, ?_⟩)
  exact k _ _ (S₁.push _) (x₁.trans (Ext.push _)) (.tup (S₁.new none_size) (Heap.get?_push_size _ rfl) (r₁.push _))
theorem EvE.list {es : List Expr} {p : Pos} {ds : List D} (h : EvL prog w G I sc names n vals es ds) (hz : ds.length ≤ sizeLine := by exact Nat.le_of_ble_eq_true rfl) : EvE prog w G I sc names n vals (.List es p) (.lst ds) := by
  constructor
  intro c own s A Q E hsc R S k
  refine wpAny_List (h.go c own s A p _ E hsc R S fun vs s₁ S₁ x₁ r₁ => ⟨by rw [r₁.length]; exact hz, ?_⟩)
  exact k _ _ (S₁.push _) (x₁.trans (Ext.push _)) (.lst (S₁.new none_size) (Heap.get?_push_size _ rfl) (r₁.push _))

noncomputable def GData (G : Gl) (x : Str) (d : D) : Prop := ∃ v, G.mg x = some v ∧ Rep [] G.hb v d
theorem EvE.glob {x : Str} {p : Pos} {d : D} (h : GData G x d) (hx : sc.scope.names.lookup x = some .globalImplicit := by rfl) (hd : (x == ("__debug__" : Str)) = false := by decide) : EvE prog w G I sc names n vals (.Name x p) d := by
  constructor
  intro c own s A Q E hsc R S k
  obtain ⟨v, hv, r⟩ := h
  refine Name_function_global S.kind (by unfold Env.kindOf; rw [hsc.1]; exact hx) (loadGlobal_global (mg := G.mg) (by rw [S.glob]; exact G.g.keeps S.base) hv ?_) hd
  refine k v s S .refl (r.mono fun a o _ e => ⟨S.base a o e, fun q => ?_⟩)
  rw [S.apart a q] at e; cases e
end
end Og
namespace Og
open PySem PySem.Calls PySem.Spec PyProof.Rows

section
variable {prog : Program} {w : World}

theorem OpOk.ofInt {t : Value → Value → Sem Value} {a b r : Int} (h : ∀ (s : Shared) (A : Around) (u₁ u₂ : Tok) (Q : Value → Shared → Prop) (E : Value → Shared → Prop), Q (.int r s.toks) { s with toks := s.toks + 1 } →
    wpAny (model prog w) A (t (.int a u₁) (.int b u₂)) Q E s) : OpOk prog w t (.int a) (.int b) (.int r) := by
  intro av s A v₁ v₂ Q E _ _ _ _ r₁ r₂ k
  cases r₁; cases r₂
  exact h s A _ _ Q E (k _ _ _ (fun _ _ e => e) (.int _ _))
theorem op_add (a b : Int) : OpOk prog w (binaryOp .Add) (.int a) (.int b) (.int (a + b)) := .ofInt fun _ _ _ _ _ _ h => PyProof.Rows.add_int h
theorem op_sub (a b : Int) : OpOk prog w (binaryOp .Sub) (.int a) (.int b) (.int (a - b)) := .ofInt fun _ _ _ _ _ _ h => PyProof.Rows.sub_int h
theorem op_mul {a b : Int} (hm : IntMulOk a b) : OpOk prog w (binaryOp .Mult) (.int a) (.int b) (.int (a * b)) := .ofInt fun _ _ _ _ _ _ h => PyProof.Rows.mul_int h hm
theorem op_and (a b : Int) : OpOk prog w (binaryOp .BitAnd) (.int a) (.int b) (.int (Builtin.bitAnd a b)) := .ofInt fun _ _ _ _ _ _ h => PyProof.Rows.and_int h
theorem op_or (a b : Int) : OpOk prog w (binaryOp .BitOr) (.int a) (.int b) (.int (Builtin.bitOr a b)) := .ofInt fun _ _ _ _ _ _ h => PyProof.Rows.or_int h
theorem op_shr {a b : Int} (hb : 0 ≤ b) : OpOk prog w (binaryOp .RShift) (.int a) (.int b) (.int (a.fdiv (2 ^ b.toNat))) := .ofInt fun _ _ _ _ _ _ h => PyProof.Rows.rshift_int hb h
theorem op_shl {a b : Int} (hb : 0 ≤ b) (hb2 : b ≤ 1000000) (ha : a.natAbs < 2 ^ 64) : OpOk prog w (binaryOp .LShift) (.int a) (.int b) (.int (a * 2 ^ b.toNat)) :=
  .ofInt fun _ _ _ _ _ _ h => PyProof.Rows.lshift_int_small hb hb2 ha h
theorem op_mod {a b : Int} (hb : b ≠ 0) : OpOk prog w (binaryOp .Mod) (.int a) (.int b) (.int (a.fmod b)) := .ofInt fun _ _ _ _ _ _ h => PyProof.Rows.mod_int hb h
theorem op_div {a b : Int} (hb : b ≠ 0) (hp : Builtin.divisionGoesByPylong a b = false) : OpOk prog w (binaryOp .FloorDiv) (.int a) (.int b) (.int (a.fdiv b)) :=
  .ofInt fun _ _ _ _ _ _ h => PyProof.Rows.floordiv_int hb h (.inl hp)
theorem op_iadd (a b : Int) : OpOk prog w (inplaceOp .Add) (.int a) (.int b) (.int (a + b)) := .ofInt fun _ _ _ _ _ _ h => wpAny_iadd_int h

theorem CmpOk.ofInt {op : CmpOp} {a b : Int} {r : Bool} (h : ∀ (s : Shared) (A : Around) (u₁ u₂ : Tok) (Q : Value → Shared → Prop) (E : Value → Shared → Prop), Q (.bool r) s →
    wpAny (model prog w) A (compareOp op (.int a u₁) (.int b u₂)) Q E s) : CmpOk prog w op (.int a) (.int b) r := by
  intro av s A v₁ v₂ Q E _ _ r₁ r₂ k
  cases r₁; cases r₂
  exact h s A _ _ Q E (k s.heap s.toks (fun _ _ e => e))
theorem cmp_lt (a b : Int) : CmpOk prog w .Lt (.int a) (.int b) (decide (a < b)) := .ofInt fun _ _ _ _ _ _ h => PyProof.Rows.lt_int h
theorem cmp_le (a b : Int) : CmpOk prog w .LtE (.int a) (.int b) (decide (a ≤ b)) := .ofInt fun _ _ _ _ _ _ h => PyProof.Rows.le_int h
theorem cmp_gt (a b : Int) : CmpOk prog w .Gt (.int a) (.int b) (decide (b < a)) := .ofInt fun _ _ _ _ _ _ h => PyProof.Rows.gt_int h
theorem cmp_ge (a b : Int) : CmpOk prog w .GtE (.int a) (.int b) (decide (b ≤ a)) := .ofInt fun _ _ _ _ _ _ h => PyProof.Rows.ge_int h
theorem cmp_eqI (a b : Int) : CmpOk prog w .Eq (.int a) (.int b) (a == b) := .ofInt fun _ _ _ _ _ _ h => PyProof.Rows.eq_int h
theorem cmp_neI (a b : Int) : CmpOk prog w .NotEq (.int a) (.int b) (a != b) := .ofInt fun _ _ _ _ _ _ h => PyProof.Rows.ne_int h
theorem CmpOk.eq {op : CmpOp} {a b : D} {r r' : Bool} (h : CmpOk prog w op a b r) (e : r = r') : CmpOk prog w op a b r' := e ▸ h

theorem is_none_int {op : CmpOp} (a : Int) (r : Bool) (h : op = .Is ∧ r = false ∨ op = .IsNot ∧ r = true) : CmpOk prog w op (.int a) .none r := by
  intro av s A v₁ v₂ Q E _ _ r₁ r₂ k
  cases r₁; cases r₂
  rcases h with ⟨rfl, rfl⟩ | ⟨rfl, rfl⟩
  · exact wpAny_is_other rfl (by intro e; cases e) (k s.heap s.toks (fun _ _ e => e))
  · exact wpAny_isNot_other rfl (by intro e; cases e) (k s.heap s.toks (fun _ _ e => e))
theorem cmp_isInt (a : Int) : CmpOk prog w .Is (.int a) .none false := is_none_int a _ (.inl ⟨rfl, rfl⟩)
theorem cmp_isNotInt (a : Int) : CmpOk prog w .IsNot (.int a) .none true := is_none_int a _ (.inr ⟨rfl, rfl⟩)
theorem cmp_isNone : CmpOk prog w .Is .none .none true := by
  intro av s A v₁ v₂ Q E _ _ r₁ r₂ k
  cases r₁; cases r₂
  exact wpAny_is_plain rfl (k s.heap s.toks (fun _ _ e => e))
theorem cmp_isList (ds : List D) : CmpOk prog w .Is (.lst ds) .none false := by
  intro av s A v₁ v₂ Q E _ _ r₁ r₂ k
  cases r₁; cases r₂
  exact wpAny_is_other rfl (by intro e; cases e) (k s.heap s.toks (fun _ _ e => e))

theorem tru_bool (b : Bool) : TruOk prog w (.bool b) b := by
  intro av s A v Q E _ r k
  cases r
  exact wpAny_truthy_bool (k s.toks)
theorem tru_int (a : Int) : TruOk prog w (.int a) (a != 0) := by
  intro av s A v Q E _ r k
  cases r
  exact P.truthy_int (k s.toks)

mutual
noncomputable def D.py : D → PyData
  | .none => .none
  | .bool b => .bool b
  | .int i => .int i
  | .bytes _ => .none
  | .tup ds => .tuple (D.pys ds)
  | .lst ds => .list (D.pys ds)
  | .dic _ _ => .none
  | .obj _ _ _ => .none
noncomputable def D.pys : List D → List PyData
  | [] => []
  | d :: ds => d.py :: D.pys ds
end
noncomputable def D.ok : Nat → D → Bool
  | _, .none => true
  | _, .int _ => true
  | n + 1, .tup ds => ds.all (D.ok n)
  | n + 1, .lst ds => ds.all (D.ok n)
  | _, _ => false
mutual
theorem rep_reads {av : List Addr} {h : Heap} : ∀ {v : Value} {d : D} (n : Nat), Rep av h v d → d.ok n = true → ∃ as, Reads h v d.py as
  | _, _, _, .none, _ => ⟨_, Reads.none⟩
  | _, _, _, .bool b, _ => ⟨_, Reads.bool b⟩
  | _, _, _, .int i t, _ => ⟨_, Reads.int i t⟩
  | _, _, n, .bytes _ _, hk => by cases n <;> simp [D.ok] at hk
  | _, _, n, .dic _ _ _ _ _ _, hk => by cases n <;> simp [D.ok] at hk
  | _, _, n, .obj _ _ _ _ _ _ _, hk => by cases n <;> simp [D.ok] at hk
  | _, _, n, .tup _ ho r, hk => by
    cases n with
    | zero => simp [D.ok] at hk
    | succ n =>
      obtain ⟨as, q⟩ := reps_reads n r (by simpa [D.ok] using hk)
      rw [D.py]
      exact ⟨as, reads_tuple_at ho rfl rfl (by simpa using q)⟩
  | _, _, n, .lst _ ho r, hk => by
    cases n with
    | zero => simp [D.ok] at hk
    | succ n =>
      obtain ⟨as, q⟩ := reps_reads n r (by simpa [D.ok] using hk)
      rw [D.py]
      exact ⟨_, reads_list_at ho rfl rfl (by simpa using q)⟩
theorem reps_reads {av : List Addr} {h : Heap} : ∀ {vs : List Value} {ds : List D} (n : Nat), RepAll av h vs ds → (∀ d ∈ ds, d.ok n = true) → ∃ as, ReadsAll h vs (D.pys ds) as
  | _, _, _, .nil, _ => ⟨_, ReadsAll.nil⟩
  | _, _, n, .cons hd r, hk => by
    obtain ⟨as, q⟩ := rep_reads n hd (hk _ (.head _))
    obtain ⟨bs, p⟩ := reps_reads n r fun d hm => hk d (.tail _ hm)
    rw [D.pys]
    exact ⟨_, ReadsAll.cons q p⟩
end
theorem ok_lay : ∀ (n : Nat) (d : D), d.ok n = true → d.py.canLay0 = true ∧ d.py.depth ≤ n := by
  have all : ∀ (n : Nat), (∀ d : D, d.ok n = true → d.py.canLay0 = true ∧ d.py.depth ≤ n) → ∀ ds : List D, (∀ d ∈ ds, d.ok n = true) → PyData.canLayAll0 (D.pys ds) = true ∧ PyData.depthAll (D.pys ds) ≤ n := by
    intro n ih ds
    induction ds with
    | nil => intro _; simp [D.pys, PyData.canLayAll0, PyData.depthAll]
    | cons d ds hi =>
      intro h
      have h1 := ih d (h d (.head _))
      have h2 := hi fun e he => h e (.tail _ he)
      simp only [D.pys, PyData.canLayAll0, PyData.depthAll, h1.1, h2.1, Bool.and_self, true_and]
      have a1 := h1.2
      have a2 := h2.2
      omega
  intro n
  induction n with
  | zero =>
    intro d h
    cases d <;> simp_all [D.ok, D.py, PyData.canLay0, PyData.depth]
  | succ n ih =>
    intro d h
    cases d with
    | none => simp [D.py, PyData.canLay0, PyData.depth]
    | bool b => simp [D.ok] at h
    | int i => simp [D.py, PyData.canLay0, PyData.depth]
    | bytes b => simp [D.ok] at h
    | dic ks ds => simp [D.ok] at h
    | obj C xs ds => simp [D.ok] at h
    | tup ds =>
      have q := all n ih ds (by simpa [D.ok] using h)
      have q2 := q.2
      simp only [D.py, PyData.canLay0, PyData.depth, q.1, true_and]
      omega
    | lst ds =>
      have q := all n ih ds (by simpa [D.ok] using h)
      have q2 := q.2
      simp only [D.py, PyData.canLay0, PyData.depth, q.1, true_and]
      omega
theorem ok_eqv : ∀ (n : Nat) (d e : D) (k : Nat), d.ok n = true → e.ok k = true → (PyData.eqv d.py e.py = true ↔ d = e) := by
  have all : ∀ (n : Nat), (∀ (d e : D) k, d.ok n = true → e.ok k = true → (PyData.eqv d.py e.py = true ↔ d = e)) → ∀ (k : Nat) (ds es : List D), (∀ d ∈ ds, d.ok n = true) → (∀ d ∈ es, d.ok k = true) →
      (PyData.eqvAll (D.pys ds) (D.pys es) = true ↔ ds = es) := by
    intro n ih k ds
    induction ds with
    | nil => intro es _ _; cases es <;> simp [D.pys, PyData.eqvAll]
    | cons d ds hi =>
      intro es h1 h2
      cases es with
      | nil => simp [D.pys, PyData.eqvAll]
      | cons e es =>
        have q1 := ih d e k (h1 d (.head _)) (h2 e (.head _))
        have q2 := hi es (fun x hx => h1 x (.tail _ hx)) fun x hx => h2 x (.tail _ hx)
        simp only [D.pys, PyData.eqvAll, Bool.and_eq_true, q1, q2, List.cons.injEq]
  intro n
  induction n with
  | zero =>
    intro d e k h1 h2
    cases d <;> cases e <;> cases k <;> simp_all [D.ok, D.py, PyData.eqv]
  | succ n ih =>
    intro d e k h1 h2
    cases d with
    | tup ds =>
      cases e with
      | tup es =>
        cases k with
        | zero => simp [D.ok] at h2
        | succ k =>
          simp only [D.py, PyData.eqv, D.tup.injEq]
          exact all n ih k ds es (by simpa [D.ok] using h1) (by simpa [D.ok] using h2)
      | _ => cases k <;> simp_all [D.ok, D.py, PyData.eqv]
    | lst ds =>
      cases e with
      | lst es =>
        cases k with
        | zero => simp [D.ok] at h2
        | succ k =>
          simp only [D.py, PyData.eqv, D.lst.injEq]
          exact all n ih k ds es (by simpa [D.ok] using h1) (by simpa [D.ok] using h2)
      | _ => cases k <;> simp_all [D.ok, D.py, PyData.eqv]
    | _ => cases e <;> cases k <;> simp_all [D.ok, D.py, PyData.eqv]
theorem cmp_eq {a b : D} {r : Bool} (ha : a.ok 8 = true) (hb : b.ok 8 = true) (h : r = true ↔ a = b) : CmpOk prog w .Eq a b r := by
  intro av s A v₁ v₂ Q E _ hu r₁ r₂ k
  obtain ⟨as, ra⟩ := rep_reads 8 r₁ ha
  obtain ⟨bs, rb⟩ := rep_reads 8 r₂ hb
  have la := ok_lay 8 a ha
  have lb := ok_lay 8 b hb
  refine eq_dataH ra rb ?_ ?_ hu ?_
  · unfold SeqAt.shaped; rw [la.1, Bool.true_and]; exact decide_eq_true (Nat.le_trans la.2 (by decide))
  · unfold SeqAt.shaped; rw [lb.1, Bool.true_and]; exact decide_eq_true (Nat.le_trans lb.2 (by decide))
  · have q := ok_eqv 8 a b 8 ha hb
    have : PyData.eqv a.py b.py = r := by
      cases hr : r with
      | true => exact q.mpr (h.mp hr)
      | false => exact Bool.eq_false_iff.mpr fun x => by rw [h.mpr (q.mp x)] at hr; cases hr
    rw [this]
    exact k s.heap s.toks fun _ _ e => e
theorem cmp_ne {a b : D} {r : Bool} (ha : a.ok 8 = true) (hb : b.ok 8 = true) (h : r = true ↔ a ≠ b) : CmpOk prog w .NotEq a b r := by
  intro av s A v₁ v₂ Q E _ hu r₁ r₂ k
  obtain ⟨as, ra⟩ := rep_reads 8 r₁ ha
  obtain ⟨bs, rb⟩ := rep_reads 8 r₂ hb
  have la := ok_lay 8 a ha
  have lb := ok_lay 8 b hb
  refine ne_dataH ra rb ?_ ?_ hu ?_
  · unfold SeqAt.shaped; rw [la.1, Bool.true_and]; exact decide_eq_true (Nat.le_trans la.2 (by decide))
  · unfold SeqAt.shaped; rw [lb.1, Bool.true_and]; exact decide_eq_true (Nat.le_trans lb.2 (by decide))
  · have q := ok_eqv 8 a b 8 ha hb
    have : (!PyData.eqv a.py b.py) = r := by
      cases hr : r with
      | true =>
        have : PyData.eqv a.py b.py = false := Bool.eq_false_iff.mpr fun x => (h.mp hr) (q.mp x)
        rw [this]; rfl
      | false =>
        have : PyData.eqv a.py b.py = true := q.mpr (Classical.byContradiction fun z => by rw [h.mpr z] at hr; cases hr)
        rw [this]; rfl
    rw [this]
    exact k s.heap s.toks fun _ _ e => e
theorem cmp_eqB (b c : Array UInt8) {r : Bool} (h : r = true ↔ b.toList = c.toList) : CmpOk prog w .Eq (.bytes b) (.bytes c) r := by
  intro av s A v₁ v₂ Q E _ hu r₁ r₂ k
  cases r₁; cases r₂
  refine PySem.W.eq_bytes ?_
  have : (b.toList == c.toList) = r := by
    cases hr : r with
    | true => exact beq_iff_eq.mpr (h.mp hr)
    | false => exact Bool.eq_false_iff.mpr fun x => by rw [h.mpr (beq_iff_eq.mp x)] at hr; cases hr
  rw [this]
  exact k s.heap s.toks fun _ _ e => e

theorem av_new {av : List Addr} {h : Heap} (hv : ∀ a ∈ av, ∃ o, h.get? a = some o) : h.objs.size ∉ av := fun hm => by
  obtain ⟨o, e⟩ := hv _ hm
  exact absurd (Heap.lt_size e) (Nat.lt_irrefl _)
theorem RepAll.push' {av : List Addr} {h : Heap} (o : Obj) {vs : List Value} {ds : List D} (r : RepAll av h vs ds) : RepAll av (h.push o) vs ds := r.mono fun _ _ ha e => ⟨Heap.get?_push_of_some _ e, ha⟩

theorem op_catL {xs ys : List D} (hz : xs.length + ys.length ≤ sizeLine) : OpOk prog w (binaryOp .Add) (.lst xs) (.lst ys) (.lst (xs ++ ys)) := by
  intro av s A v₁ v₂ Q E _ _ hv _ r₁ r₂ k
  cases r₁ with | lst h1 o1 q1 => cases r₂ with | lst h2 o2 q2 =>
  refine P.add_list o1 o2 ?_ (by simp only [List.size_toArray]; rw [q1.length, q2.length]; exact hz)
  rw [List.append_toArray]
  refine k _ _ s.toks (fun _ _ e => Heap.get?_push_of_some _ e) ?_
  exact .lst (av_new hv) (Heap.get?_push_size _ rfl) ((q1.append q2).push' _)
theorem op_catT {xs ys : List D} (hz : xs.length + ys.length ≤ sizeLine) : OpOk prog w (binaryOp .Add) (.tup xs) (.tup ys) (.tup (xs ++ ys)) := by
  intro av s A v₁ v₂ Q E _ _ hv hn r₁ r₂ k
  cases r₁ with | @tup a1 vs n1 _ h1 o1 q1 => cases r₂ with | @tup a2 ws n2 _ h2 o2 q2 =>
  have l1 := q1.length
  have l2 := q2.length
  have e : vs.toArray ++ ws.toArray = (vs ++ ws).toArray := by simp
  by_cases hv0 : vs = []
  · refine concat_meets ⟨_, o1, rfl⟩ ⟨_, o2, rfl⟩ noFill_tuple_add seq_tuple_add PySem.F.slot_tuple_add PySem.F.entry_tuple_add (PySem.F.args_tuple_add_2 _ _)
      (tuple_addW0 a1 a2 vs.toArray ws.toArray n1 n2 Option.none Option.none #[] #[] (by simp [hv0])) ⟨o1, o2, ?_⟩
    have : xs = [] := by rw [hv0] at l1; exact List.eq_nil_of_length_eq_zero l1.symm
    rw [this] at k
    exact k _ _ s.toks (fun _ _ e => e) (.tup h2 o2 q2)
  · by_cases hw : ws = []
    · refine concat_meets ⟨_, o1, rfl⟩ ⟨_, o2, rfl⟩ noFill_tuple_add seq_tuple_add PySem.F.slot_tuple_add PySem.F.entry_tuple_add (PySem.F.args_tuple_add_2 _ _)
        (tuple_addW1 a1 a2 vs.toArray ws.toArray n1 n2 Option.none Option.none #[] #[] (by simpa using hv0) (by simp [hw])) ⟨o1, o2, ?_⟩
      have : ys = [] := by rw [hw] at l2; exact List.eq_nil_of_length_eq_zero l2.symm
      rw [this, List.append_nil] at k
      exact k _ _ s.toks (fun _ _ e => e) (.tup h1 o1 q1)
    · refine concat_meets ⟨_, o1, rfl⟩ ⟨_, o2, rfl⟩ noFill_tuple_add seq_tuple_add PySem.F.slot_tuple_add PySem.F.entry_tuple_add (PySem.F.args_tuple_add_2 _ _)
        (tuple_addW2 a1 a2 vs.toArray ws.toArray n1 n2 Option.none Option.none #[] #[] (by simpa using hv0) (by simpa using hw) (by rw [List.size_toArray, List.size_toArray, l1, l2]; exact hz)) ⟨o1, o2, ?_⟩
      rw [e]
      refine k _ _ s.toks (fun _ _ e => Heap.get?_push_of_some _ e) ?_
      exact .tup (av_new hv) (Heap.get?_push_size _ rfl) ((q1.append q2).push' _)


noncomputable def cut {α : Type} (lo hi : Option Nat) (l : List α) : List α := (l.take (hi.getD l.length)).drop (lo.getD 0)
theorem cut_eq {α : Type} (lo hi : Option Nat) (l : List α) : cut lo hi l = (l.drop (lo.getD 0)).take (hi.getD l.length - lo.getD 0) := by
  unfold cut; rw [List.drop_take]
theorem cut_clip {α : Type} (lo hi : Option Nat) (l : List α) : cut lo hi l = (l.drop (min (lo.getD 0) l.length)).take (min (hi.getD l.length) l.length - min (lo.getD 0) l.length) := by
  rw [cut_eq]
  generalize lo.getD 0 = a
  generalize hi.getD l.length = b
  by_cases h : a ≤ l.length
  · rw [Nat.min_eq_left h]
    by_cases g : b ≤ l.length
    · rw [Nat.min_eq_left g]
    · rw [Nat.min_eq_right (Nat.le_of_lt (Nat.lt_of_not_le g)), List.take_of_length_le (by rw [List.length_drop]; omega), List.take_of_length_le (by rw [List.length_drop]; omega)]
  · have h' := Nat.le_of_lt (Nat.lt_of_not_le h)
    rw [Nat.min_eq_right h', List.drop_of_length_le h', List.drop_of_length_le (Nat.le_refl _)]
    simp
theorem RepAll.cut {av : List Addr} {h : Heap} {vs : List Value} {ds : List D} (r : RepAll av h vs ds) (lo hi : Option Nat) : RepAll av h (Og.cut lo hi vs) (Og.cut lo hi ds) := by
  unfold Og.cut
  rw [r.length]
  exact (r.take _).drop _
theorem cut_length_le {α : Type} (lo hi : Option Nat) (l : List α) : (cut lo hi l).length ≤ l.length := by
  unfold cut
  rw [List.length_drop, List.length_take]
  omega

theorem slicePick_cut (items : Array Value) (lo hi : Option Nat) : slicePick items (lo.map Int.ofNat) (hi.map Int.ofNat) none = (cut lo hi items.toList).toArray := by
  have e : sliceBounds (lo.map Int.ofNat) (hi.map Int.ofNat) none items.size = (((min (lo.getD 0) items.size : Nat) : Int), ((min (hi.getD items.size) items.size : Nat) : Int), 1) := by
    simp only [sliceBounds, Option.getD_none]
    have h1 : (1 : Int) > 0 := by decide
    congr 1
    · cases lo with
      | none => simp
      | some a =>
        have h2 : ¬ (Int.ofNat a < 0) := by simp
        simp only [Option.map_some, h2, if_false, h1, if_true, Option.getD_some, Int.ofNat_eq_natCast]
        omega
    · congr 1
      cases hi with
      | none => simp
      | some a =>
        have h2 : ¬ (Int.ofNat a < 0) := by simp
        simp only [Option.map_some, h2, if_false, h1, if_true, Option.getD_some, Int.ofNat_eq_natCast]
        omega
  unfold slicePick
  rw [e]
  simp only [sliceRange_one, pick_run]
  rw [cut_clip]
  simp

noncomputable def EvP (prog : Program) (w : World) (G : Gl) (I : Inv) (sc : Sc) (names : List Str) (n : Nat) (vals : List Loc) (e : Option Expr) (k : Option Nat) : Prop :=
  match e, k with
  | Option.none, Option.none => True
  | some e, some k => EvE prog w G I sc names n vals e (.int (k : Int))
  | _, _ => False
variable {G : Gl} {I : Inv} {sc : Sc} {names : List Str} {n : Nat} {vals : List Loc}
theorem EvP.go {e : Option Expr} {k : Option Nat} (x : EvP prog w G I sc names n vals e k) : ∀ (c : Fc) (own : List Addr) (s : Shared) (A : Around) (Q : Value → Shared → Prop) (E : Value → Shared → Prop), EnvIs c.env sc → Room n A → St G names I c own vals s →
    (∀ v s', St G names I c own vals s' → Ext own s.heap s'.heap → IsPart v (k.map Int.ofNat) → Q v s') → wpAny (model prog w) A (evalPart e c.env) Q E s := by
  intro c own s A Q E hsc R S q
  cases e with
  | none => cases k with
    | none => exact wpAny_evalPart_none (q _ s S .refl .none)
    | some k => cases x
  | some e => cases k with
    | none => cases x
    | some k => exact wpAny_evalPart_some (EvE.go x c own s A Q E hsc R S fun v s' S' x' r => by cases r; exact q _ s' S' x' (.int _ _))
theorem EvP.no : EvP prog w G I sc names n vals Option.none Option.none := True.intro
theorem EvP.at {e : Expr} {k : Nat} (x : EvE prog w G I sc names n vals e (.int (k : Int))) : EvP prog w G I sc names n vals (some e) (some k) := x

theorem adjust_cut (lo hi : Option Nat) (n : Nat) : Builtin.Slice.sliceAdjust (lo.map Int.ofNat) (hi.map Int.ofNat) 1 (n : Int) = (((min (lo.getD 0) n : Nat) : Int), ((min (hi.getD n) n : Nat) : Int)) := by
  unfold Builtin.Slice.sliceAdjust
  have h1 : ¬ ((1 : Int) < 0) := by omega
  simp only [h1, if_false]
  congr 1
  · cases lo with
    | none => simp
    | some a =>
      have h2 : ¬ (Int.ofNat a < 0) := by simp
      simp only [Option.map_some, h2, if_false, Option.getD_some, Int.ofNat_eq_natCast]; omega
  · cases hi with
    | none => simp
    | some a =>
      have h2 : ¬ (Int.ofNat a < 0) := by simp
      simp only [Option.map_some, h2, if_false, Option.getD_some, Int.ofNat_eq_natCast]; omega
theorem places_cut (a b : Nat) : Builtin.Slice.slicePlaces (a : Int) (b : Int) 1 = b - a := by
  unfold Builtin.Slice.slicePlaces
  have h1 : (1 : Int) > 0 := by omega
  simp only [h1, if_true, Int.ediv_one]
  split <;> omega
theorem slicePart_is {v : Value} {k : Option Int} {A : Around} {E : Value → Shared → Prop} {s : Shared} {Q : Option Int → Shared → Prop} (p : IsPart v k) (h : Q k s) : wpAny (model prog w) A (Builtin.Slice.slicePartIndex v) Q E s := by
  cases p with
  | none => exact slicePart_none h
  | int i t => exact slicePart_int h
theorem sliceApplied_cut {sl : Addr} {n : Nat} {vl vu : Value} {lo hi : Option Nat} {A : Around} {E : Value → Shared → Prop} {s : Shared} {Q : Int × Int × Nat → Shared → Prop} (hs : s.heap.IsSliceOf sl vl vu .none)
    (pl : IsPart vl (lo.map Int.ofNat)) (pu : IsPart vu (hi.map Int.ofNat)) (h : Q (((min (lo.getD 0) n : Nat) : Int), 1, min (hi.getD n) n - min (lo.getD 0) n) s) :
    wpAny (model prog w) A (Builtin.Slice.sliceApplied (.ref sl) (pure (n : Int))) Q E s := by
  obtain ⟨os, hos, hcs, hds⟩ := id hs
  unfold Builtin.Slice.sliceApplied Builtin.Slice.sliceFields
  refine wpAny_bind (wpAny_bind (wpAny_field hos hds (x := vl) rfl (wpAny_bind (wpAny_field hos hds (x := vu) rfl (wpAny_bind (wpAny_field hos hds (x := .none) rfl (wpAny_pure ?_)))))))
  refine wpAny_bind (slicePart_none ?_)
  show wpAny _ _ (if ((1 : Int) == 0) = true then _ else _) _ _ s
  rw [if_neg (by decide)]
  refine wpAny_bind (slicePart_is pl (wpAny_bind (slicePart_is pu (wpAny_bind (wpAny_pure ?_)))))
  show wpAny _ _ (match Builtin.Slice.sliceAdjust (lo.map Int.ofNat) (hi.map Int.ofNat) 1 (n : Int) with | (lo, hi) => pure (lo, (1 : Int), Builtin.Slice.slicePlaces lo hi 1)) _ _ s
  rw [adjust_cut]
  show wpAny _ _ (pure (_, (1 : Int), Builtin.Slice.slicePlaces _ _ 1)) _ _ s
  rw [places_cut]
  exact wpAny_pure h
theorem pick_cut (xs : Array Value) (a k : Nat) : ((List.range k).filterMap fun (j : Nat) => xs[((a : Int) + (j : Int) * 1).toNat]?).toArray = ((xs.toList.drop a).take k).toArray := by
  have e : (fun (j : Nat) => xs[((a : Int) + (j : Int) * 1).toNat]?) = fun j => xs[a + j]? := by
    funext j
    have : ((a : Int) + (j : Int) * 1).toNat = a + j := by omega
    rw [this]
  rw [e]
  have := pick_run xs a k
  rw [List.filterMap_map] at this
  have e2 : ((fun x => xs[x]?) ∘ fun x => a + x) = fun k => xs[a + k]? := rfl
  rw [e2] at this
  rw [this]

theorem getItem_tuple_cut {t sl : Addr} {items : Array Value} {vl vu : Value} {lo hi : Option Nat} {A : Around} {E : Value → Shared → Prop} {s : Shared} {Q : Value → Shared → Prop} {n : Nat}
    (ht : s.heap.get? t = some { cls := .type "tuple", data := .seq items n }) (hs : s.heap.IsSliceOf sl vl vu .none) (pl : IsPart vl (lo.map Int.ofNat)) (pu : IsPart vu (hi.map Int.ofNat))
    (h0 : cut lo hi items.toList = items.toList → Q (.ref t) s)
    (h : Q (.ref s.heap.objs.size) { s with heap := s.heap.push { cls := .type "tuple", data := .seq (cut lo hi items.toList).toArray } })
    (hsz : items.size ≤ sizeLine) : wpAny (model prog w) A (getItem (.ref t) (.ref sl)) Q E s := by
  have htt : IsTup s.heap t items := ⟨_, ht, rfl, n, rfl⟩
  have hdrop : sizeOk (.seq (cut lo hi items.toList).toArray) := by
    show (cut lo hi items.toList).length ≤ sizeLine
    exact Nat.le_trans (cut_length_le lo hi items.toList) (by simpa using hsz)
  obtain ⟨os, hos, hcs, hds⟩ := id hs
  have hTs : s.TypeIs (.ref sl) "slice" := ⟨os, hos, hcs⟩
  unfold getItem
  try with_reducible refine wpAny_holding ?_
  first | refine wpAny_bind (wpAny_pure ?_) | skip
  refine wpAny_bind (wpAny_sequenceKey htt.typeIs (by decide) ?_)
  refine wpAny_bind (wpAny_callSpecial?_slot (name := Str.ofString "__getitem__") htt.typeIs PySem.F.slot_tuple_getitem
    (wpAny_call_entry PySem.F.slot_tuple_getitem htt.typeIs entry_tuple_getitem ?_ (args_tuple_getitem _ _)))
  show wpAny _ _ (Builtin.Tuple.tupleItemsOf (.ref t) >>= _) _ _ s
  refine wpAny_bind (tupleItemsOf_ htt ?_)
  refine wpAny_bind (wpAny_typeOf hTs ?_)
  rw [if_pos (by decide)]
  refine wpAny_bind (sliceApplied_cut hs pl pu ?_)
  have hcc := cut_clip lo hi items.toList
  rw [Array.length_toList] at hcc
  by_cases hw : (((min (lo.getD 0) items.size : Nat) : Int) == 0 && (1 : Int) == 1 && (min (hi.getD items.size) items.size - min (lo.getD 0) items.size) == items.size) = true
  · show wpAny _ _ (if (((min (lo.getD 0) items.size : Nat) : Int) == 0 && (1 : Int) == 1 && (min (hi.getD items.size) items.size - min (lo.getD 0) items.size) == items.size) = true then _ else _) _ _ s
    rw [if_pos hw]
    have hex : wpAny (model prog w) A.in1 (Builtin.Tuple.tupleIsExact (.ref t)) (fun b s' => b = true ∧ s' = s) E s := by
      unfold Builtin.Tuple.tupleIsExact
      refine wpAny_bind (wpAny_typeOf htt.typeIs (wpAny_pure ?_))
      exact ⟨rfl, rfl⟩
    refine wpAny_bind (wpAny_mono hex (fun b s' hb => ?_) fun _ _ e => e)
    obtain ⟨rfl, rfl⟩ := hb
    rw [if_pos rfl]
    refine wpAny_bind (wpAny_rule ?_)
    have he : cut lo hi items.toList = items.toList := by
      simp only [Bool.and_eq_true, beq_iff_eq] at hw
      have h1 : min (lo.getD 0) items.size = 0 := by omega
      rw [hcc, hw.2, h1, List.drop_zero]
      exact List.take_of_length_le (by simp)
    exact wpAny_bind (wpAny_pure (wpAny_pure ⟨_, rfl, wpAny_pure (h0 he)⟩))
  · show wpAny _ _ (if (((min (lo.getD 0) items.size : Nat) : Int) == 0 && (1 : Int) == 1 && (min (hi.getD items.size) items.size - min (lo.getD 0) items.size) == items.size) = true then _ else _) _ _ s
    rw [if_neg hw, pick_cut, ← hcc]
    first
      | exact wpAny_bind (m := Builtin.Tuple.tupleExact _) (wpAny_newObj_type (wpAny_pure ⟨_, rfl, wpAny_pure h⟩) hdrop)
      | exact wpAny_bind (m := Builtin.Tuple.tupleExact _) (wpAny_newObj_type (wpAny_bind (wpAny_pure (wpAny_pure ⟨_, rfl, wpAny_pure h⟩))) hdrop)
      | exact wpAny_bind (wpAny_bind (m := Builtin.Tuple.tupleExact _) (wpAny_newObj_type (wpAny_pure (wpAny_pure ⟨_, rfl, wpAny_pure h⟩)) hdrop))
      | exact wpAny_bind (wpAny_bind (m := Builtin.Tuple.tupleExact _) (wpAny_newObj_type (wpAny_pure ⟨_, rfl, wpAny_pure h⟩) hdrop))
end
end Og
namespace Og
open PySem PySem.Calls PySem.Spec PyProof.Rows

theorem keeps_of_ext {h h' : Heap} (x : Heap.ExtBut h.objs.size h h') : ∀ b o, h.get? b = some o → h'.get? b = some o := fun b o e => x b o (Nat.ne_of_lt (Heap.lt_size e)) e

section
variable {prog : Program} {w : World} {G : Gl} {I : Inv} {sc : Sc} {names : List Str} {n : Nat} {vals : List Loc}

theorem EvE.cutL {value : Expr} {lo hi : Option Expr} {p pos : Pos} {a b : Option Nat} {ds : List D} (hv : EvE prog w G I sc names n vals value (.lst ds)) (hl : EvP prog w G I sc names n vals lo a) (hu : EvP prog w G I sc names n vals hi b)
    (hz : ds.length ≤ sizeLine) : EvE prog w G I sc names n vals (.Subscript value (.Slice lo hi Option.none p) pos) (.lst (cut a b ds)) := by
  constructor
  intro c own s A Q E hsc R S k
  refine Subscript_ (hv.go c own s A _ E hsc R S fun v s₁ S₁ x₁ r₁ => wpAny_Slice (hl.go c own s₁ A _ E hsc R S₁ fun vl s₂ S₂ x₂ pl => hu.go c own s₂ A _ E hsc R S₂ fun vu s₃ S₃ x₃ pu => wpAny_evalPart_none ?_))
  have r₃ := (r₁.ext x₂).ext x₃
  cases r₃ with | @lst l vs m _ ha ho rs =>
  have hl' : (s₃.heap.push { cls := .type "slice", data := .fields #[vl, vu, .none] }).IsList l vs.toArray := ⟨_, Heap.get?_push_of_some _ ho, rfl, m, rfl⟩
  refine tail_any (T := "list") (Heap.IsList.typeIs (s := { s₃ with heap := s₃.heap.push _ }) hl') list_getitem_lookup (wpAny_getItem_list_slice (s := { s₃ with heap := s₃.heap.push _ }) hl' (Heap.IsSliceOf.new ..) pl pu .none (by simp) ?_ (by simp only [List.size_toArray]; rw [rs.length]; exact hz)) rfl
  rw [slicePick_cut]
  refine k _ _ ((S₃.push _).push _) (((x₁.trans x₂).trans x₃).trans ((Ext.push _).trans (Ext.push _))) ?_
  exact .lst ((S₃.push _).new none_size) (Heap.get?_push_size _ rfl) (((rs.push _).push _).cut a b)

theorem EvE.cutT {value : Expr} {lo hi : Option Expr} {p pos : Pos} {a b : Option Nat} {ds : List D} (hv : EvE prog w G I sc names n vals value (.tup ds)) (hl : EvP prog w G I sc names n vals lo a) (hu : EvP prog w G I sc names n vals hi b)
    (hz : ds.length ≤ sizeLine) : EvE prog w G I sc names n vals (.Subscript value (.Slice lo hi Option.none p) pos) (.tup (cut a b ds)) := by
  constructor
  intro c own s A Q E hsc R S k
  refine Subscript_ (hv.go c own s A _ E hsc R S fun v s₁ S₁ x₁ r₁ => wpAny_Slice (hl.go c own s₁ A _ E hsc R S₁ fun vl s₂ S₂ x₂ pl => hu.go c own s₂ A _ E hsc R S₂ fun vu s₃ S₃ x₃ pu => wpAny_evalPart_none ?_))
  have r₃ := (r₁.ext x₂).ext x₃
  cases r₃ with | @tup l vs m _ ha ho rs =>
  have ho' : (s₃.heap.push { cls := .type "slice", data := .fields #[vl, vu, .none] }).get? l = some { cls := .type "tuple", data := .seq vs.toArray m } := Heap.get?_push_of_some _ ho
  have hcl : RepAll (own ++ c.fz) s₃.heap (cut a b vs) (cut a b ds) := rs.cut a b
  refine tail_any (T := "tuple") (IsTup.typeIs (s := { s₃ with heap := s₃.heap.push _ }) ⟨_, ho', rfl, m, rfl⟩) PySem.F.slot_tuple_getitem.lookup (getItem_tuple_cut (s := { s₃ with heap := s₃.heap.push _ }) ho' (Heap.IsSliceOf.new ..) pl pu (fun he => ?_) ?_ (by simp only [List.size_toArray]; rw [rs.length]; exact hz)) rfl
  · refine k _ _ (S₃.push _) (((x₁.trans x₂).trans x₃).trans (Ext.push _)) ?_
    have he' : cut a b vs = vs := by simpa using he
    exact .tup ha ho' (by rw [he'] at hcl; exact hcl.push _)
  · refine k _ _ ((S₃.push _).push _) (((x₁.trans x₂).trans x₃).trans ((Ext.push _).trans (Ext.push _))) ?_
    exact .tup ((S₃.push _).new none_size) (Heap.get?_push_size _ rfl) ((hcl.push _).push _)

theorem EvE.itemL {value slice : Expr} {pos : Pos} {ds : List D} {i : Int} {d : D} (hv : EvE prog w G I sc names n vals value (.lst ds)) (hi : EvE prog w G I sc names n vals slice (.int i)) (h0 : 0 ≤ i) (hd : ds[i.toNat]? = some d) (hf : ds.length ≤ sizeLine)
    (hs : ∀ o j, subscripted slice false o j = operate [o, j] (getItem o j) := by intro _ _; rfl) : EvE prog w G I sc names n vals (.Subscript value slice pos) d := by
  constructor
  intro c own s A Q E hsc R S k
  refine Subscript_ (hv.go c own s A _ E hsc R S fun v s₁ S₁ x₁ r₁ => hi.go c own s₁ A _ E hsc R S₁ fun j s₂ S₂ x₂ r₂ => ?_)
  have r₃ := r₁.ext x₂
  cases r₂
  cases r₃ with | @lst l vs m _ ha ho rs =>
  obtain ⟨x, hx, rx⟩ := rs.get hd
  have hlt : i.toNat < ds.length := (List.getElem?_eq_some_iff.mp hd).1
  have h63 : i < 2 ^ 63 := by
    have : sizeLine = 16777216 := rfl
    omega
  have hl' : s₂.heap.IsList l vs.toArray := ⟨_, ho, rfl, m, rfl⟩
  exact tail_any hl'.typeIs list_getitem_lookup (wpAny_getItem_list hl' h0 h63 (by simpa using hx) (k x s₂ S₂ (x₁.trans x₂) rx)) (hs _ _)

theorem EvE.itemT {value slice : Expr} {pos : Pos} {ds : List D} {i : Int} {d : D} (hv : EvE prog w G I sc names n vals value (.tup ds)) (hi : EvE prog w G I sc names n vals slice (.int i)) (h0 : 0 ≤ i) (hd : ds[i.toNat]? = some d) (hf : ds.length ≤ sizeLine)
    (hs : ∀ o j, subscripted slice false o j = operate [o, j] (getItem o j) := by intro _ _; rfl) : EvE prog w G I sc names n vals (.Subscript value slice pos) d := by
  constructor
  intro c own s A Q E hsc R S k
  refine Subscript_ (hv.go c own s A _ E hsc R S fun v s₁ S₁ x₁ r₁ => hi.go c own s₁ A _ E hsc R S₁ fun j s₂ S₂ x₂ r₂ => ?_)
  have r₃ := r₁.ext x₂
  cases r₂
  cases r₃ with | @tup l vs m _ ha ho rs =>
  obtain ⟨x, hx, rx⟩ := rs.get hd
  have hlt : i.toNat < ds.length := (List.getElem?_eq_some_iff.mp hd).1
  have hlv := rs.length
  have h63 : i < 2 ^ 63 := by
    have : sizeLine = 16777216 := rfl
    omega
  have ht : IsTup s₂.heap l vs.toArray := ⟨_, ho, rfl, m, rfl⟩
  have hj : seqIndex? i vs.length = some i.toNat := by
    have hn : ¬ i < 0 := by omega
    have h1 : i < (vs.length : Int) := by omega
    simp [seqIndex?, hn, h0, h1]
  exact item_tupleT ht (by omega) h63 hj hx (k x s₂ S₂ (x₁.trans x₂) rx) (hs _ _)

noncomputable def Spec (prog : Program) (w : World) (G : Gl) (n : Nat) (f : Str) (ds : List D) (d : D) : Prop :=
  ∃ a o fd, G.mg f = some (.ref a) ∧ G.hb.get? a = some o ∧ o.data = .func fd ∧
    ∀ (av : List Addr) (s : Shared) (A : Around) (vs : List Value) (Q : Value → Shared → Prop) (E : Value → Shared → Prop), Room n A → (∀ b o, G.hb.get? b = some o → s.heap.get? b = some o) →
      (∀ x ∈ av, ∃ o, s.heap.get? x = some o) → (∀ x ∈ av, G.hb.get? x = none) → RepAll av s.heap vs ds →
      (∀ v h' tk, (∀ b o, s.heap.get? b = some o → h'.get? b = some o) → Rep av h' v d → Q v { s with heap := h', toks := tk }) → wpAny (model prog w) A (call (.ref a) vs) Q E s

theorem EvE.fnName {f : Str} {p : Pos} {a : Addr} {c : Fc} {own : List Addr} {s : Shared} {A : Around} {Q : Value → Shared → Prop} {E : Value → Shared → Prop} (hsc : EnvIs c.env sc) (S : St G names I c own vals s) (hf : G.mg f = some (.ref a)) (k : Q (.ref a) s)
    (hx : sc.scope.names.lookup f = some .globalImplicit) (hd : (f == ("__debug__" : Str)) = false) : wpAny (model prog w) A (eval (.Name f p) c.env) Q E s :=
  Name_function_global S.kind (by unfold Env.kindOf; rw [hsc.1]; exact hx) (loadGlobal_global (mg := G.mg) (by rw [S.glob]; exact G.g.keeps S.base) hf k) hd

theorem EvE.call {f : Str} {p pos : Pos} {e : Expr} {es : List Expr} {m : Nat} {ds : List D} {d : D} (hS : Spec prog w G m f ds d) (ha : EvL prog w G I sc names n vals (e :: es) ds) (hm : m ≤ n := by omega)
    (hx : sc.scope.names.lookup f = some .globalImplicit := by rfl) (hd : (f == ("__debug__" : Str)) = false := by decide)
    (he : ∀ env, starEach (e :: es) env = (false, eval e env) :: starEach es env := by exact fun _ => star_plain rfl) : EvE prog w G I sc names n vals (.Call (.Name f p) (e :: es) [] pos) d := by
  constructor
  intro c own s A Q E hsc R S k
  obtain ⟨a, o, fd, h1, h2, h3, hc⟩ := hS
  refine Call_ (EvE.fnName hsc S h1 ?_ hx hd)
  refine callWith_def h3 (ha.go c own s A pos _ E hsc R S fun vs s₁ S₁ x₁ r₁ => ⟨S₁.base _ _ h2, ?_⟩) (he _)
  refine hc (own ++ c.fz) s₁ A vs Q E (R.le hm) S₁.base S₁.alive S₁.apart r₁ fun v h' tk hk rv => ?_
  exact k v _ (S₁.keeps hk ⟨rfl, rfl, rfl⟩) (x₁.trans (Ext.keeps hk)) rv

theorem EvE.call0 {f : Str} {p pos : Pos} {m : Nat} {d : D} (hS : Spec prog w G m f [] d) (hm : m ≤ n := by omega)
    (hx : sc.scope.names.lookup f = some .globalImplicit := by rfl) (hd : (f == ("__debug__" : Str)) = false := by decide) : EvE prog w G I sc names n vals (.Call (.Name f p) [] [] pos) d := by
  constructor
  intro c own s A Q E hsc R S k
  obtain ⟨a, o, fd, h1, h2, h3, hc⟩ := hS
  refine Call_ (EvE.fnName hsc S h1 ?_ hx hd)
  refine callWith_function (o := o) (fd := fd) (PyProof.Rows.evalArgs_none ⟨⟨S.base _ _ h2, h3⟩, ?_⟩)
  refine hc (own ++ c.fz) s A [] Q E (R.le hm) S.base S.alive S.apart .nil fun v h' tk hk rv => ?_
  exact k v _ (S.keeps hk ⟨rfl, rfl, rfl⟩) (Ext.keeps hk) rv

noncomputable def CallOk (prog : Program) (w : World) (f : Value) (ds : List D) (d : D) : Prop :=
  ∀ (av : List Addr) (s : Shared) (A : Around) (vs : List Value) (Q : Value → Shared → Prop) (E : Value → Shared → Prop), A.handled = none → A.units + 64 < cLine → (∀ x ∈ av, ∃ o, s.heap.get? x = some o) → (∃ a m, s.heap.Ns a m) → RepAll av s.heap vs ds →
    (∀ v h' tk, (∀ b o, s.heap.get? b = some o → h'.get? b = some o) → Rep av h' v d → Q v { s with heap := h', toks := tk }) → wpAny (model prog w) A (PySem.call f vs) Q E s
noncomputable def BAt (G : Gl) (x : Str) (v : Value) : Prop := G.mg x = none ∧ x ≠ "__name__" ∧ bootBuiltins x = some v
theorem EvE.bName {x : Str} {p : Pos} {v : Value} {c : Fc} {own : List Addr} {s : Shared} {A : Around} {Q : Value → Shared → Prop} {E : Value → Shared → Prop} (hsc : EnvIs c.env sc) (S : St G names I c own vals s) (hb : BAt G x v) (k : Q v s)
    (hx : sc.scope.names.lookup x = some .globalImplicit) (hd : (x == ("__debug__" : Str)) = false) : wpAny (model prog w) A (eval (.Name x p) c.env) Q E s :=
  Name_function_global S.kind (by unfold Env.kindOf; rw [hsc.1]; exact hx) (loadGlobal_builtin (mg := G.mg) (mb := G.mb) (by rw [S.glob]; exact G.g.keeps S.base) hb.1 (by rw [S.blt]; exact G.b.keeps S.base) ((G.bb x hb.2.1).trans hb.2.2) k) hd

theorem EvE.callB {x : Str} {id : String} {p pos : Pos} {e : Expr} {es : List Expr} {ds : List D} {d : D} (hb : BAt G x (.builtin id)) (hc : CallOk prog w (.builtin id) ds d) (ha : EvL prog w G I sc names n vals (e :: es) ds)
    (hx : sc.scope.names.lookup x = some .globalImplicit := by rfl) (hd : (x == ("__debug__" : Str)) = false := by decide)
    (he : ∀ env, starEach (e :: es) env = (false, eval e env) :: starEach es env := by exact fun _ => star_plain rfl) (hpl : ∀ pos env, (backTo pos (starEach es env)).any (·.1) = false := by exact fun _ _ => stars_none rfl) :
    EvE prog w G I sc names n vals (.Call (.Name x p) (e :: es) [] pos) d := by
  constructor
  intro c own s A Q E hsc R S k
  refine Call_ (EvE.bName hsc S hb ?_ hx hd)
  refine callWith_builtin1 (ha.go c own s A pos _ E hsc R S fun vs s₁ S₁ x₁ r₁ => ?_) (he _) (hpl _ _)
  refine hc (own ++ c.fz) s₁ A vs Q E R.hand R.small S₁.alive (let ⟨m, hn, _⟩ := S₁.ns; ⟨_, m, hn⟩) r₁ fun v h' tk hk rv => ?_
  exact k v _ (S₁.keeps hk ⟨rfl, rfl, rfl⟩) (x₁.trans (Ext.keeps hk)) rv
theorem EvE.callT {x : Str} {T : String} {p pos : Pos} {e : Expr} {es : List Expr} {ds : List D} {d : D} (hb : BAt G x (.type T)) (hc : CallOk prog w (.type T) ds d) (ha : EvL prog w G I sc names n vals (e :: es) ds)
    (hx : sc.scope.names.lookup x = some .globalImplicit := by rfl) (hd : (x == ("__debug__" : Str)) = false := by decide)
    (he : ∀ env, starEach (e :: es) env = (false, eval e env) :: starEach es env := by exact fun _ => star_plain rfl) (hpl : ∀ pos env, (backTo pos (starEach (e :: es) env)).any (·.1) = false := by exact fun _ _ => stars_none rfl) :
    EvE prog w G I sc names n vals (.Call (.Name x p) (e :: es) [] pos) d := by
  constructor
  intro c own s A Q E hsc R S k
  refine Call_ (EvE.bName hsc S hb ?_ hx hd)
  refine PyProof.Rows.callWith_type (hpl _ _) ?_
  have hh := ha.go c own s A pos (fun vs s₁ => wpAny (model prog w) A (PySem.call (.type T) ([] ++ vs) []) Q E s₁) E hsc R S fun vs s₁ S₁ x₁ r₁ => ?_
  · rw [he] at hh ⊢
    exact evalArgs_plain hh
  · refine hc (own ++ c.fz) s₁ A vs Q E R.hand R.small S₁.alive (let ⟨m, hn, _⟩ := S₁.ns; ⟨_, m, hn⟩) r₁ fun v h' tk hk rv => ?_
    exact k v _ (S₁.keeps hk ⟨rfl, rfl, rfl⟩) (x₁.trans (Ext.keeps hk)) rv

theorem len_L {ds : List D} (hz : ds.length ≤ sizeLine) : CallOk prog w (.builtin "len") [.lst ds] (.int ds.length) := by
  intro av s A vs Q E _ _ hv _ r k
  have hsl : sizeLine = 16777216 := rfl
  cases r with | cons r₁ rn => cases rn; cases r₁ with | @lst l ws m _ ha ho rs =>
  refine PyProof.Rows.len_list (items := ws.toArray) ⟨_, ho, rfl, m, rfl⟩ (by simp only [List.size_toArray]; rw [rs.length]; omega) ?_
  have := k (.int ds.length (s.toks + 1)) s.heap (s.toks + 1 + 1) (fun _ _ e => e) (.int _ _)
  simp only [List.size_toArray]; rw [rs.length]; exact this
theorem len_B {b : Array UInt8} (hz : b.size ≤ sizeLine) : CallOk prog w (.builtin "len") [.bytes b] (.int b.size) := by
  intro av s A vs Q E _ _ hv _ r k
  have hsl : sizeLine = 16777216 := rfl
  cases r with | cons r₁ rn =>
  cases rn; cases r₁
  exact PySem.W.len_bytes (by omega) (k _ s.heap _ (fun _ _ e => e) (.int _ _))

inductive Out where
  | next (vals : List Loc)
  | brk (vals : List Loc)
  | cont (vals : List Loc)
  | ret (d : D)
noncomputable def OutOk (G : Gl) (names : List Str) (I : Inv) (c : Fc) (own : List Addr) (h : Heap) : Out → Flow → Shared → Prop
  | .next vals, .next, s' => ∃ own', Step own h own' s'.heap ∧ St G names I c own' vals s'
  | .brk vals, .brk, s' => ∃ own', Step own h own' s'.heap ∧ St G names I c own' vals s'
  | .cont vals, .cont, s' => ∃ own', Step own h own' s'.heap ∧ St G names I c own' vals s'
  | .ret d, .ret v, s' => ∃ own' vals, Step own h own' s'.heap ∧ St G names I c own' vals s' ∧ Rep (own' ++ c.fz) s'.heap v d
  | _, _, _ => False
theorem OutOk.step {c : Fc} {own own₁ : List Addr} {h h₁ : Heap} (x : Step own h own₁ h₁) {o : Out} {f : Flow} {s' : Shared} (q : OutOk G names I c own₁ h₁ o f s') : OutOk G names I c own h o f s' := by
  cases o <;> cases f <;> first
    | (obtain ⟨own', y, S⟩ := q; exact ⟨own', x.trans y, S⟩)
    | (obtain ⟨own', vals, y, S⟩ := q; exact ⟨own', vals, x.trans y, S⟩)
    | exact q.elim

structure Ex1 (prog : Program) (w : World) (G : Gl) (I : Inv) (sc : Sc) (names : List Str) (n : Nat) (vals : List Loc) (st : Stmt) (o : Out) : Prop where
  go : ∀ (c : Fc) (own : List Addr) (s : Shared) (A : Around) (Q : Flow → Shared → Prop) (E : Value → Shared → Prop), EnvIs c.env sc → Room n A → St G names I c own vals s →
    (∀ f s', OutOk G names I c own s.heap o f s' → Q f s') → wpAny (model prog w) A (exec st c.env) Q E s
structure ExS (prog : Program) (w : World) (G : Gl) (I : Inv) (sc : Sc) (names : List Str) (n : Nat) (vals : List Loc) (sts : List Stmt) (o : Out) : Prop where
  go : ∀ (c : Fc) (own : List Addr) (s : Shared) (A : Around) (Q : Flow → Shared → Prop) (E : Value → Shared → Prop), EnvIs c.env sc → Room n A → St G names I c own vals s →
    (∀ f s', OutOk G names I c own s.heap o f s' → Q f s') → wpAny (model prog w) A (execs sts c.env) Q E s

theorem ExS.nil : ExS prog w G I sc names n vals [] (.next vals) := ⟨fun c own s A Q E hsc R S k => wpAny_execs_nil (k .next s ⟨own, .refl, S⟩)⟩
theorem ExS.cons {st : Stmt} {sts : List Stmt} {v₁ : List Loc} {o : Out} (h : Ex1 prog w G I sc names n vals st (.next v₁)) (hr : ExS prog w G I sc names n v₁ sts o) : ExS prog w G I sc names n vals (st :: sts) o := by
  constructor
  intro c own s A Q E hsc R S k
  refine wpAny_execs_cons (h.go c own s A _ E hsc R S fun f s' q => ?_)
  cases f <;> first
    | (obtain ⟨own', x, S'⟩ := q; exact hr.go c own' s' A Q E hsc R S' fun f s'' q' => k f s'' (q'.step x))
    | exact q.elim
noncomputable def Out.stops : Out → Bool
  | .next _ => false
  | _ => true
theorem ExS.stop {st : Stmt} {sts : List Stmt} {o : Out} (h : Ex1 prog w G I sc names n vals st o) (ho : o.stops = true := by rfl) : ExS prog w G I sc names n vals (st :: sts) o := by
  constructor
  intro c own s A Q E hsc R S k
  refine wpAny_execs_cons (h.go c own s A _ E hsc R S fun f s' q => ?_)
  cases o with
  | next => cases ho
  | brk => cases f <;> first | exact k _ _ q | exact q.elim
  | cont => cases f <;> first | exact k _ _ q | exact q.elim
  | ret => cases f <;> first | exact k _ _ q | exact q.elim

theorem Ex1.ret {e : Expr} {p : Pos} {d : D} (h : EvE prog w G I sc names n vals e d) : Ex1 prog w G I sc names n vals (.Return (some e) p) (.ret d) := by
  constructor
  intro c own s A Q E hsc R S k
  exact wpAny_Return_some (h.go c own s A _ E hsc R S fun v s₁ S₁ x₁ r₁ => k (.ret v) s₁ ⟨own, vals, Step.ofExt x₁, S₁, r₁⟩)
theorem Ex1.ifT {t : Expr} {b o : List Stmt} {p : Pos} {r : Out} (ht : EvB prog w G I sc names n vals t true) (hb : ExS prog w G I sc names n vals b r) : Ex1 prog w G I sc names n vals (.If t b o p) r := by
  constructor
  intro c own s A Q E hsc R S k
  exact wpAny_If (ht.go c own s A _ E hsc R S fun s₁ S₁ x₁ => hb.go c own s₁ A Q E hsc R S₁ fun f s' q => k f s' (q.step (Step.ofExt x₁)))
theorem Ex1.ifF {t : Expr} {b o : List Stmt} {p : Pos} {r : Out} (ht : EvB prog w G I sc names n vals t false) (hb : ExS prog w G I sc names n vals o r) : Ex1 prog w G I sc names n vals (.If t b o p) r := by
  constructor
  intro c own s A Q E hsc R S k
  exact wpAny_If (ht.go c own s A _ E hsc R S fun s₁ S₁ x₁ => hb.go c own s₁ A Q E hsc R S₁ fun f s' q => k f s' (q.step (Step.ofExt x₁)))

theorem St.bind {c : Fc} {own : List Addr} {s : Shared} {A : Around} {E : Value → Shared → Prop} {Q : Unit → Shared → Prop} (hsc : EnvIs c.env sc) (S : St G names I c own vals s) {i : Nat} {x : Str} {v : Value} {d : D} (hx : names[i]? = some x) (r : Rep (own ++ c.fz) s.heap v d)
    (k : ∀ s', St G names I c own (vals.set i (.d d)) s' → Ext own s.heap s'.heap → Q () s') : wpAny (model prog w) A (storeName c.env x v) Q E s := by
  obtain ⟨m, hn, hv⟩ := S.ns
  refine wpAny_storeName_local (S.loc x (List.mem_of_getElem? hx)).1 hn (fun h' hn' hs => ?_) (by rw [S.kind]; rfl)
  have xe : Ext own s.heap h' := fun b o hb e => hs.extBut b o (fun q => hb (q ▸ S.lown)) e
  exact k _ (S.store hn hv hn' hs hx ⟨v, rfl, r.ext xe⟩) xe

theorem Ex1.assign {value : Expr} {x : Str} {p pos : Pos} {d : D} (i : Nat) (hx : names[i]? = some x) (h : EvE prog w G I sc names n vals value d)
    (hs : ∀ env, swapsWith value (some (.Name x p)) pos.line env = pure false := by intro _; rfl) : Ex1 prog w G I sc names n vals (.Assign [.Name x p] value pos) (.next (vals.set i (.d d))) := by
  constructor
  intro c own s A Q E hsc R S k
  refine wpAny_Assign_Name (h.go c own s A _ E hsc R S fun v s₁ S₁ x₁ r₁ => S₁.bind hsc hx r₁ fun s₂ S₂ x₂ => ?_) (hs _)
  exact k .next s₂ ⟨own, Step.ofExt (x₁.trans x₂), S₂⟩
theorem Ex1.aug {value : Expr} {op : Operator} {x : Str} {p pos : Pos} {d₀ d₁ d : D} (i : Nat) (hx : names[i]? = some x) (hl : vals[i]? = some (.d d₀)) (h : EvE prog w G I sc names n vals value d₁) (ho : OpOk prog w (inplaceOp op) d₀ d₁ d) :
    Ex1 prog w G I sc names n vals (.AugAssign (.Name x p) op value pos) (.next (vals.set i (.d d))) := by
  constructor
  intro c own s A Q E hsc R S k
  obtain ⟨m, hn, hv⟩ := S.ns
  obtain ⟨v₀, hm, r₀⟩ := hv.get hx hl
  refine wpAny_AugAssign_Name (wpAny_loadName_local S.kind (S.loc x (List.mem_of_getElem? hx)).1 hn hm (h.go c own s A _ E hsc R S fun v s₁ S₁ x₁ r₁ => ?_))
  refine ho (own ++ c.fz) s₁ A v₀ v _ E R.hand R.small S₁.alive (let ⟨m, hn, _⟩ := S₁.ns; ⟨_, m, hn⟩) (r₀.ext x₁) r₁ fun r h' tk hk rr => ?_
  have S' : St G names I c own vals { s₁ with heap := h', toks := tk } := S₁.keeps hk ⟨rfl, rfl, rfl⟩
  refine S'.bind hsc hx rr fun s₂ S₂ x₂ => ?_
  exact k .next s₂ ⟨own, Step.ofExt ((x₁.trans (Ext.keeps hk)).trans x₂), S₂⟩

noncomputable def RepX (top : Bool) (av : List Addr) (h : Heap) (v : Value) (d : D) : Prop := match top with
  | false => Rep av h v d
  | true => ∃ a vs m ds, v = .ref a ∧ d = .tup ds ∧ h.get? a = some { cls := .type "tuple", data := .seq vs.toArray m } ∧ RepAll av h vs ds
structure AsT (top : Bool) (prog : Program) (w : World) (G : Gl) (I : Inv) (sc : Sc) (names : List Str) (n : Nat) (vals : List Loc) (t : Expr) (d : D) (vals' : List Loc) : Prop where
  go : ∀ (c : Fc) (own : List Addr) (s : Shared) (A : Around) (v : Value) (Q : Unit → Shared → Prop) (E : Value → Shared → Prop), EnvIs c.env sc → Room n A → St G names I c own vals s → RepX top (own ++ c.fz) s.heap v d →
    (∀ s', St G names I c own vals' s' → Ext own s.heap s'.heap → Q () s') → wpAny (model prog w) A (assign t c.env v) Q E s
structure AsTs (prog : Program) (w : World) (G : Gl) (I : Inv) (sc : Sc) (names : List Str) (n : Nat) (vals : List Loc) (ts : List Expr) (ds : List D) (vals' : List Loc) : Prop where
  go : ∀ (c : Fc) (own : List Addr) (s : Shared) (A : Around) (vs : List Value) (Q : Unit → Shared → Prop) (E : Value → Shared → Prop), EnvIs c.env sc → Room n A → St G names I c own vals s → RepAll (own ++ c.fz) s.heap vs ds →
    (∀ s', St G names I c own vals' s' → Ext own s.heap s'.heap → Q () s') → wpAny (model prog w) A (assignInOrder ((assignEach ts c.env).map (·.2)) vs) Q E s
theorem AsT.name {x : Str} {p : Pos} {d : D} (i : Nat) (hx : names[i]? = some x) : AsT false prog w G I sc names n vals (.Name x p) d (vals.set i (.d d)) := by
  constructor
  intro c own s A v Q E hsc R S r k
  exact wpAny_assign_Name (S.bind hsc hx r k)
theorem AsTs.nil : AsTs prog w G I sc names n vals [] [] vals := by
  constructor
  intro c own s A vs Q E hsc R S r k
  cases r
  exact wpAny_assignInOrder_none (k s S .refl)
theorem AsTs.cons {t : Expr} {ts : List Expr} {d : D} {ds : List D} {v₁ v₂ : List Loc} (h : AsT false prog w G I sc names n vals t d v₁) (hs : AsTs prog w G I sc names n v₁ ts ds v₂)
    (he : ∀ env, (assignEach (t :: ts) env).map (·.2) = assign t env :: (assignEach ts env).map (·.2) := by intro _; rfl) : AsTs prog w G I sc names n vals (t :: ts) (d :: ds) v₂ := by
  constructor
  intro c own s A vs Q E hsc R S r k
  cases r with | cons r₁ rn =>
  rw [he]
  refine wpAny_assignInOrder_more (h.go c own s A _ _ E hsc R S r₁ fun s₁ S₁ x₁ => hs.go c own s₁ A _ Q E hsc R S₁ (rn.ext x₁) fun s₂ S₂ x₂ => ?_)
  exact k s₂ S₂ (x₁.trans x₂)
theorem AsT.tuple {top : Bool} {ts : List Expr} {j : Nat} {p : Pos} {ds : List D} {v₁ : List Loc} (h : AsTs prog w G I sc names n vals ts ds v₁) (hl : ∀ env, (assignEach ts env).length = ds.length := by intro _; rfl)
    (hst : ∀ env, (assignEach ts env).findIdx? (·.1) = none := by intro _; rfl) : AsT top prog w G I sc names n vals (.Tuple ts j p) (.tup ds) v₁ := by
  constructor
  intro c own s A v Q E hsc R S r k
  have r' : ∃ l vs m, v = .ref l ∧ s.heap.get? l = some { cls := .type "tuple", data := .seq vs.toArray m } ∧ RepAll (own ++ c.fz) s.heap vs ds := by
    cases top with
    | false => cases r with | @tup l vs m _ ha ho rs => exact ⟨l, vs, m, rfl, ho, rs⟩
    | true =>
      obtain ⟨l, vs, m, ds', e, ed, ho, rs⟩ := r
      cases ed
      exact ⟨l, vs, m, e, ho, rs⟩
  obtain ⟨l, vs, m, rfl, ho, rs⟩ := r'
  refine wpAny_assign_Tuple R.hand ⟨_, ho, rfl, m, rfl⟩ (by rw [hl, List.size_toArray, rs.length]) (hst _) fun h' hk => ?_
  have hk' := keeps_of_ext hk
  have S' : St G names I c own vals { s with heap := h' } := S.keeps hk' ⟨rfl, rfl, rfl⟩
  refine h.go c own _ A _ Q E hsc R S' (rs.ext (Ext.keeps hk')) fun s₁ S₁ x₁ => ?_
  exact k s₁ S₁ ((Ext.keeps hk').trans x₁)

theorem env_sc {env : Env} (h : env.scope = sc.scope) : env = { env with scope := sc.scope } := by cases env; simp only at h; subst h; rfl
theorem Ex1.assignT {elts : List Expr} {j : Nat} {value : Expr} {tp pos : Pos} {d : D} {v₁ : List Loc} (h : EvE prog w G I sc names n vals value d) (ht : AsT false prog w G I sc names n vals (.Tuple elts j tp) d v₁)
    (hs : ∀ env, swapsWithSole [.Tuple elts j tp] value pos.line env = pure false := by intro _; rfl)
    (hw : ∀ env : Env, swappedStores [.Tuple elts j tp] value { env with scope := sc.scope } = pure none := by intro _; rfl) : Ex1 prog w G I sc names n vals (.Assign [.Tuple elts j tp] value pos) (.next v₁) := by
  constructor
  intro c own s A Q E hsc R S k
  refine Assign_Tuple (h.go c own s A _ E hsc R S fun v s₁ S₁ x₁ r₁ => ht.go c own s₁ A v _ E hsc R S₁ r₁ fun s₂ S₂ x₂ => ?_) (hs _) (by rw [env_sc hsc.1]; exact hw _)
  exact k .next s₂ ⟨own, Step.ofExt (x₁.trans x₂), S₂⟩
theorem Ex1.assign2 {elts : List Expr} {j : Nat} {value : Expr} {tp pos : Pos} {x y : Str} {d e : D} (i₁ i₂ : Nat) (h₁ : names[i₁]? = some x) (h₂ : names[i₂]? = some y) (h : EvE prog w G I sc names n vals value (.tup [d, e]))
    (hs : ∀ env, swapsWithSole [.Tuple elts j tp] value pos.line env = pure false := by intro _; rfl)
    (hw : ∀ env : Env, swappedStores [.Tuple elts j tp] value { env with scope := sc.scope } = pure (some [x, y]) := by intro _; rfl) : Ex1 prog w G I sc names n vals (.Assign [.Tuple elts j tp] value pos) (.next ((vals.set i₂ (.d e)).set i₁ (.d d))) := by
  constructor
  intro c own s A Q E hsc R S k
  refine Assign_Tuple_swapped (names := [x, y]) (h.go c own s A _ E hsc R S fun v s₁ S₁ x₁ r₁ => ?_) (hs _) (by rw [env_sc hsc.1]; exact hw _)
  cases r₁ with | @tup l vs m _ ha ho rs =>
  cases rs with | cons q₁ rs => cases rs with | cons q₂ rs =>
  cases rs
  refine wpAny_unpackItems_tuple (items := #[_, _]) R.hand ⟨_, ho, rfl, m, rfl⟩ fun h' hk => ?_
  have hk' := keeps_of_ext hk
  have S' : St G names I c own vals { s₁ with heap := h' } := S₁.keeps hk' ⟨rfl, rfl, rfl⟩
  refine wpAny_assignInOrder_more (wpAny_bindName (S'.bind hsc h₂ (q₂.ext (Ext.keeps hk')) fun s₂ S₂ x₂ => wpAny_assignInOrder_more (wpAny_bindName (S₂.bind hsc h₁ ((q₁.ext (Ext.keeps hk')).ext x₂) fun s₃ S₃ x₃ => wpAny_assignInOrder_none ?_))))
  exact k .next s₃ ⟨own, Step.ofExt (((x₁.trans (Ext.keeps hk')).trans x₂).trans x₃), S₃⟩
end
end Og
namespace Og
open PySem PySem.Calls PySem.Spec PyProof.Rows

section
variable {prog : Program} {w : World} {G : Gl} {I : Inv} {sc : Sc} {names : List Str} {n : Nat} {vals : List Loc}


noncomputable def Fc.with (c : Fc) (wr : List Addr) : Fc := { c with fz := wr ++ c.fz }
theorem mem3 {own fz wr : List Addr} {a : Addr} : a ∈ own ++ (wr ++ fz) ↔ a ∈ own ∨ a ∈ wr ∨ a ∈ fz := by simp

theorem St.freeze {c : Fc} {own : List Addr} {s s' : Shared} (S : St G names I c own vals s) {wr : List Addr} (hk : ∀ b o, s.heap.get? b = some o → s'.heap.get? b = some o) (hs : Same s s') (hn : ∀ b ∈ wr, s.heap.get? b = none)
    (hl : ∀ b ∈ wr, ∃ o, s'.heap.get? b = some o) : St G names I (c.with wr) own vals s' where
  kind := S.kind
  glob := S.glob
  blt := S.blt
  loc := S.loc
  nodup := S.nodup
  base := fun b o e => hk b o (S.base b o e)
  ns := by
    obtain ⟨m, h1, h2⟩ := S.ns
    refine ⟨m, h1.keeps hk, h2.mono (fun a o ha e => ⟨hk a o e, fun q => ?_⟩) (fun _ h => h) fun l _ => l.ownKept hk⟩
    rcases mem3.mp q with q | q | q
    · exact ha (List.mem_append_left _ q)
    · rw [hn a q] at e; cases e
    · exact ha (List.mem_append_right _ q)
  lown := S.lown
  alive := fun a ha => by
    rcases mem3.mp ha with q | q | q
    · obtain ⟨o, e⟩ := S.alive a (List.mem_append_left _ q); exact ⟨o, hk _ _ e⟩
    · exact hl a q
    · obtain ⟨o, e⟩ := S.alive a (List.mem_append_right _ q); exact ⟨o, hk _ _ e⟩
  ext := fun b o hb e => hk b o (S.ext b o hb e)
  fresh := S.fresh
  apart := fun a ha => by
    rcases mem3.mp ha with q | q | q
    · exact S.apart a (List.mem_append_left _ q)
    · cases e : G.hb.get? a with
      | none => rfl
      | some o => have := S.base a o e; rw [hn a q] at this; cases this
    · exact S.apart a (List.mem_append_right _ q)
  inv := I.keep _ _ S.inv fun a _ o e => hk a o e
  iown := S.iown
  same := S.same.trans hs

theorem St.off {c : Fc} {own wr : List Addr} {s : Shared} (S : St G names I (c.with wr) own vals s) {h' : Heap} {t : Nat} (hd : ∀ b ∈ wr, b ∉ own) (h0 : ∀ b ∈ wr, b ∉ c.mt → c.h₀.get? b = none)
    (hk : ∀ b o, b ∉ wr → s.heap.get? b = some o → h'.get? b = some o) (hl : ∀ b ∈ wr, ∃ o, h'.get? b = some o) : St G names I (c.with wr) own vals { s with heap := h', toks := t } where
  kind := S.kind
  glob := S.glob
  blt := S.blt
  loc := S.loc
  nodup := S.nodup
  base := fun b o e => hk b o (fun q => by have := S.apart b (mem3.mpr (.inr (.inl q))); rw [e] at this; cases this) (S.base b o e)
  ns := by
    obtain ⟨m, ⟨oL, es, ep, hL, r⟩, h2⟩ := S.ns
    refine ⟨m, ⟨oL, es, ep, hk _ _ (fun q => hd _ q S.lown) hL, r⟩, h2.mono (fun a o ha e => ⟨hk a o (fun q => ha (mem3.mpr (.inr (.inl q)))) e, ha⟩) (fun _ h => h) fun l hm => ?_⟩
    cases l with
    | own a es => exact fun o e => hk a o (fun q => hd a q (h2.ownMem hm)) e
    | _ => trivial
  lown := S.lown
  alive := fun a ha => by
    by_cases q : a ∈ wr
    · exact hl a q
    · obtain ⟨o, e⟩ := S.alive a ha; exact ⟨o, hk a o q e⟩
  ext := fun b o hb e => by
    by_cases q : b ∈ wr
    · have h1 : c.h₀.get? b = none := h0 b q hb
      have h2 : c.h₀.get? b = some o := e
      rw [h1] at h2; cases h2
    · exact hk b o q (S.ext b o hb e)
  fresh := S.fresh
  apart := S.apart
  inv := I.keep _ _ S.inv fun a ha o e => hk a o (fun q => hd a q (S.iown a ha).1) e
  iown := S.iown
  same := S.same.trans ⟨rfl, rfl, rfl⟩

theorem St.thaw {c : Fc} {own wr : List Addr} {s : Shared} (S : St G names I (c.with wr) own vals s) {h' : Heap} {t : Nat} (hd : ∀ b ∈ wr, b ∉ own) (hf : ∀ b ∈ wr, b ∉ c.fz) (h0 : ∀ b ∈ wr, b ∉ c.mt → c.h₀.get? b = none)
    (hk : ∀ b o, b ∉ wr → s.heap.get? b = some o → h'.get? b = some o) : St G names I c own vals { s with heap := h', toks := t } where
  kind := S.kind
  glob := S.glob
  blt := S.blt
  loc := S.loc
  nodup := S.nodup
  base := fun b o e => hk b o (fun q => by have := S.apart b (mem3.mpr (.inr (.inl q))); rw [e] at this; cases this) (S.base b o e)
  ns := by
    obtain ⟨m, ⟨oL, es, ep, hL, r⟩, h2⟩ := S.ns
    refine ⟨m, ⟨oL, es, ep, hk _ _ (fun q => hd _ q S.lown) hL, r⟩, h2.mono (fun a o ha e => ⟨hk a o (fun q => ha (mem3.mpr (.inr (.inl q)))) e, fun q => ha ?_⟩) (fun _ h => h) fun l hm => ?_⟩
    · rcases List.mem_append.mp q with q | q
      · exact mem3.mpr (.inl q)
      · exact mem3.mpr (.inr (.inr q))
    · cases l with
      | own a es => exact fun o e => hk a o (fun q => hd a q (h2.ownMem hm)) e
      | _ => trivial
  lown := S.lown
  alive := fun a ha => by
    rcases List.mem_append.mp ha with q | q
    · obtain ⟨o, e⟩ := S.alive a (mem3.mpr (.inl q)); exact ⟨o, hk a o (fun z => hd a z q) e⟩
    · obtain ⟨o, e⟩ := S.alive a (mem3.mpr (.inr (.inr q))); exact ⟨o, hk a o (fun z => hf a z q) e⟩
  ext := fun b o hb e => by
    by_cases q : b ∈ wr
    · have h1 : c.h₀.get? b = none := h0 b q hb
      rw [h1] at e; cases e
    · exact hk b o q (S.ext b o hb e)
  fresh := S.fresh
  apart := fun a ha => S.apart a (by
    rcases List.mem_append.mp ha with q | q
    · exact mem3.mpr (.inl q)
    · exact mem3.mpr (.inr (.inr q)))
  inv := I.keep _ _ S.inv fun a ha o e => hk a o (fun q => hd a q (S.iown a ha).1) e
  iown := S.iown
  same := S.same.trans ⟨rfl, rfl, rfl⟩

structure Iter (prog : Program) (w : World) (A : Around) (it : Value) (top : Bool) (t : Expr) (fz wr : List Addr) (ds : List D) (X : List Addr → Nat → Heap → Prop) : Prop where
  step : ∀ own i h own' h', X own i h → Step own h own' h' → X own' i h'
  item : ∀ own i d (s : Shared) (Q : Value → Shared → Prop) (E : Value → Shared → Prop), ds[i]? = some d → X own i s.heap → (∀ a ∈ own ++ (wr ++ fz), ∃ o, s.heap.get? a = some o) →
    (∀ v h' tk, X own (i + 1) h' → (∀ b o, b ∉ wr → s.heap.get? b = some o → h'.get? b = some o) → (∀ b ∈ wr, ∃ o, h'.get? b = some o) → RepX top (own ++ (wr ++ fz)) h' v d → Q v { s with heap := h', toks := tk }) →
    wpAny (model prog w) A (pyNext it) (fun r s₁ => ∃ v, r = some v ∧ wpAny (model prog w) A (letOwnedTupleGo t it v) (fun _ s₂ => Q v s₂) E s₁) E s
  self : ∀ own i (s : Shared) (Q : Value → Shared → Prop) (E : Value → Shared → Prop), X own i s.heap → Q it s → wpAny (model prog w) A (pyIter it) Q E s
  done : ∀ own (s : Shared) (Q : Option Value → Shared → Prop) (E : Value → Shared → Prop), X own ds.length s.heap →
    (∀ h' tk, (∀ b o, b ∉ wr → s.heap.get? b = some o → h'.get? b = some o) → Q none { s with heap := h', toks := tk }) → wpAny (model prog w) A (pyNext it) Q E s

structure EvI (prog : Program) (w : World) (G : Gl) (I : Inv) (sc : Sc) (names : List Str) (n : Nat) (vals : List Loc) (e : Expr) (t : Expr) (top : Bool) (ds : List D) : Prop where
  go : ∀ (c : Fc) (own : List Addr) (s : Shared) (A : Around) (Q : Value → Shared → Prop) (E : Value → Shared → Prop), EnvIs c.env sc → Room n A → St G names I c own vals s →
    (∀ it s' wr X, St G names I (c.with wr) own vals s' → Ext own s.heap s'.heap → Iter prog w A it top t c.fz wr ds X → X own 0 s'.heap → (∀ b ∈ wr, s.heap.get? b = none) → Q it s') →
    wpAny (model prog w) A (eval e c.env) (fun x s₁ => wpAny (model prog w) A (pyIter x) Q E s₁) E s

theorem iter_list {A : Around} (hA : A.handled = none) {t : Expr} {fz : List Addr} {it l : Addr} (hne : l ≠ it) {ds : List D} (hlf : l ∉ fz) :
    Iter prog w A (.ref it) false t fz [it] ds (fun own i h => h.IsListIter it l i ∧ it ∉ own ∧ l ∉ own ∧ ∃ vs m, h.get? l = some { cls := .type "list", data := .seq vs.toArray m } ∧ RepAll (own ++ ([it] ++ fz)) h vs ds) where
  step := fun own i h own' h' x st => by
    obtain ⟨hi, hn, hl, vs, m, ho, rs⟩ := x
    have him := hi
    obtain ⟨o, hio, hr⟩ := hi
    refine ⟨⟨o, st.ext _ _ hn hio, hr⟩, fun q => ?_, fun q => ?_, vs, m, st.ext _ _ hl ho, rs.step st⟩
    · rcases st.new _ q with q | q
      · exact hn q
      · rw [hio] at q; cases q
    · rcases st.new _ q with q | q
      · exact hl q
      · rw [ho] at q; cases q
  item := fun own i d s Q E hd x hal k => by
    obtain ⟨hi, hn, hl, vs, m, ho, rs⟩ := x
    obtain ⟨v, hv, r⟩ := rs.get hd
    refine wpAny_pyNext_list_item hi ⟨_, ho, rfl, m, rfl⟩ (x := v) (by simpa using hv) fun h' hi' hs => ⟨v, rfl, letGo_listiter hi' ?_⟩
    have hk : ∀ b o, b ∉ [it] → s.heap.get? b = some o → h'.get? b = some o := fun b o hb e => hs.extBut b o (fun q => hb (by simp [q])) e
    have hk2 : ∀ a o, a ∉ own ++ ([it] ++ fz) → s.heap.get? a = some o → h'.get? a = some o ∧ a ∉ own ++ ([it] ++ fz) := fun a o ha e => ⟨hk a o (fun q => ha (mem3.mpr (.inr (.inl q)))) e, ha⟩
    refine k v h' s.toks ⟨hi', hn, hl, vs, m, hk _ _ (by simpa using hne) ho, rs.mono hk2⟩ hk (fun b hb => ?_) (r.mono hk2)
    obtain rfl : b = it := by simpa using hb
    obtain ⟨o, e, _⟩ := hi'
    exact ⟨o, e⟩
  self := fun own i s Q E x k => wpAny_pyIter_listiter x.1 k
  done := fun own s Q E x k => by
    obtain ⟨hi, hn, hl, vs, m, ho, rs⟩ := x
    exact wpAny_pyNext_list_end hA hi ⟨_, ho, rfl, m, rfl⟩ (by simp [rs.length]) fun h' hx => k h' s.toks fun b o hb e => hx b o (fun q => hb (by simp [q])) e

theorem iter_tuple {A : Around} (hA : A.handled = none) {t : Expr} {fz : List Addr} {it l : Addr} (hne : l ≠ it) {ds : List D} (hlf : l ∉ fz) :
    Iter prog w A (.ref it) false t fz [it] ds (fun own i h => h.IsTupleIter it l i ∧ it ∉ own ∧ l ∉ own ∧ ∃ vs m, h.get? l = some { cls := .type "tuple", data := .seq vs.toArray m } ∧ RepAll (own ++ ([it] ++ fz)) h vs ds) where
  step := fun own i h own' h' x st => by
    obtain ⟨hi, hn, hl, vs, m, ho, rs⟩ := x
    have him := hi
    obtain ⟨o, hio, hr⟩ := hi
    refine ⟨⟨o, st.ext _ _ hn hio, hr⟩, fun q => ?_, fun q => ?_, vs, m, st.ext _ _ hl ho, rs.step st⟩
    · rcases st.new _ q with q | q
      · exact hn q
      · rw [hio] at q; cases q
    · rcases st.new _ q with q | q
      · exact hl q
      · rw [ho] at q; cases q
  item := fun own i d s Q E hd x hal k => by
    obtain ⟨hi, hn, hl, vs, m, ho, rs⟩ := x
    obtain ⟨v, hv, r⟩ := rs.get hd
    refine wpAny_pyNext_tuple_item hi ⟨_, ho, rfl, m, rfl⟩ (x := v) (by simpa using hv) fun h' hi' hs => ⟨v, rfl, letGo_tupleiter hi' ?_⟩
    have hk : ∀ b o, b ∉ [it] → s.heap.get? b = some o → h'.get? b = some o := fun b o hb e => hs.extBut b o (fun q => hb (by simp [q])) e
    have hk2 : ∀ a o, a ∉ own ++ ([it] ++ fz) → s.heap.get? a = some o → h'.get? a = some o ∧ a ∉ own ++ ([it] ++ fz) := fun a o ha e => ⟨hk a o (fun q => ha (mem3.mpr (.inr (.inl q)))) e, ha⟩
    refine k v h' s.toks ⟨hi', hn, hl, vs, m, hk _ _ (by simpa using hne) ho, rs.mono hk2⟩ hk (fun b hb => ?_) (r.mono hk2)
    obtain rfl : b = it := by simpa using hb
    obtain ⟨o, e, _⟩ := hi'
    exact ⟨o, e⟩
  self := fun own i s Q E x k => wpAny_pyIter_tupleiter x.1 k
  done := fun own s Q E x k => by
    obtain ⟨hi, hn, hl, vs, m, ho, rs⟩ := x
    exact wpAny_pyNext_tuple_end hA hi ⟨_, ho, rfl, m, rfl⟩ (by simp [rs.length]) fun h' hx => k h' s.toks fun b o hb e => hx b o (fun q => hb (by simp [q])) e

theorem EvI.list {e t : Expr} {ds : List D} (h : EvE prog w G I sc names n vals e (.lst ds)) : EvI prog w G I sc names n vals e t false ds := by
  constructor
  intro c own s A Q E hsc R S k
  refine h.go c own s A _ E hsc R S fun v s₁ S₁ x₁ r₁ => ?_
  cases r₁ with | @lst l vs m _ ha ho rs =>
  have hlt := Heap.lt_size ho
  have hn : s₁.heap.get? s₁.heap.objs.size = none := none_size
  refine wpAny_pyIter_list ⟨_, ho, rfl, m, rfl⟩ (k _ _ [s₁.heap.objs.size] _ ?_ (x₁.trans (Ext.push _)) (iter_list R.hand (l := l) (Nat.ne_of_lt hlt) (fun q => ha (List.mem_append_right _ q))) ?_ ?_)
  · refine S₁.freeze (fun b o e => Heap.get?_push_of_some _ e) ⟨rfl, rfl, rfl⟩ (fun b hb => ?_) (fun b hb => ?_)
    · obtain rfl : b = _ := by simpa using hb
      exact hn
    · obtain rfl : b = _ := by simpa using hb
      exact ⟨_, Heap.get?_push_size _ rfl⟩
  · refine ⟨⟨_, Heap.get?_push_size _ rfl, rfl, rfl⟩, fun q => (S₁.new hn) (List.mem_append_left _ q), fun q => ha (List.mem_append_left _ q), vs, m, Heap.get?_push_of_some _ ho, rs.mono fun a o hq e => ⟨Heap.get?_push_of_some _ e, fun z => ?_⟩⟩
    rcases mem3.mp z with z | z | z
    · exact hq (List.mem_append_left _ z)
    · obtain rfl : a = _ := by simpa using z
      rw [hn] at e; cases e
    · exact hq (List.mem_append_right _ z)
  · intro b hb
    obtain rfl : b = _ := by simpa using hb
    cases e : s.heap.get? s₁.heap.objs.size with
    | none => rfl
    | some o =>
      by_cases q : s₁.heap.objs.size ∈ own
      · exact absurd (List.mem_append_left _ q) (S₁.new hn)
      · have := x₁ _ o q e; rw [hn] at this; cases this
theorem EvI.tuple {e t : Expr} {ds : List D} (h : EvE prog w G I sc names n vals e (.tup ds)) : EvI prog w G I sc names n vals e t false ds := by
  constructor
  intro c own s A Q E hsc R S k
  refine h.go c own s A _ E hsc R S fun v s₁ S₁ x₁ r₁ => ?_
  cases r₁ with | @tup l vs m _ ha ho rs =>
  have hlt := Heap.lt_size ho
  have hn : s₁.heap.get? s₁.heap.objs.size = none := none_size
  refine wpAny_pyIter_tuple ⟨_, ho, rfl, m, rfl⟩ (k _ _ [s₁.heap.objs.size] _ ?_ (x₁.trans (Ext.push _)) (iter_tuple R.hand (l := l) (Nat.ne_of_lt hlt) (fun q => ha (List.mem_append_right _ q))) ?_ ?_)
  · refine S₁.freeze (fun b o e => Heap.get?_push_of_some _ e) ⟨rfl, rfl, rfl⟩ (fun b hb => ?_) (fun b hb => ?_)
    · obtain rfl : b = _ := by simpa using hb
      exact hn
    · obtain rfl : b = _ := by simpa using hb
      exact ⟨_, Heap.get?_push_size _ rfl⟩
  · refine ⟨⟨_, Heap.get?_push_size _ rfl, rfl, rfl⟩, fun q => (S₁.new hn) (List.mem_append_left _ q), fun q => ha (List.mem_append_left _ q), vs, m, Heap.get?_push_of_some _ ho, rs.mono fun a o hq e => ⟨Heap.get?_push_of_some _ e, fun z => ?_⟩⟩
    rcases mem3.mp z with z | z | z
    · exact hq (List.mem_append_left _ z)
    · obtain rfl : a = _ := by simpa using z
      rw [hn] at e; cases e
    · exact hq (List.mem_append_right _ z)
  · intro b hb
    obtain rfl : b = _ := by simpa using hb
    cases e : s.heap.get? s₁.heap.objs.size with
    | none => rfl
    | some o =>
      by_cases q : s₁.heap.objs.size ∈ own
      · exact absurd (List.mem_append_left _ q) (S₁.new hn)
      · have := x₁ _ o q e; rw [hn] at this; cases this

inductive ForOk (prog : Program) (w : World) (G : Gl) (I : Inv) (sc : Sc) (names : List Str) (n : Nat) (top : Bool) (t : Expr) (body : List Stmt) : List Loc → List D → Out → Prop
  | nil {vals : List Loc} : ForOk prog w G I sc names n top t body vals [] (.next vals)
  | next {vals v₁ v₂ : List Loc} {d : D} {ds : List D} {o : Out} : AsT top prog w G I sc names n vals t d v₁ → ExS prog w G I sc names n v₁ body (.next v₂) → ForOk prog w G I sc names n top t body v₂ ds o → ForOk prog w G I sc names n top t body vals (d :: ds) o
  | cont {vals v₁ v₂ : List Loc} {d : D} {ds : List D} {o : Out} : AsT top prog w G I sc names n vals t d v₁ → ExS prog w G I sc names n v₁ body (.cont v₂) → ForOk prog w G I sc names n top t body v₂ ds o → ForOk prog w G I sc names n top t body vals (d :: ds) o
  | brk {vals v₁ v₂ : List Loc} {d : D} {ds : List D} : AsT top prog w G I sc names n vals t d v₁ → ExS prog w G I sc names n v₁ body (.brk v₂) → ForOk prog w G I sc names n top t body vals (d :: ds) (.next v₂)
  | ret {vals v₁ : List Loc} {d r : D} {ds : List D} : AsT top prog w G I sc names n vals t d v₁ → ExS prog w G I sc names n v₁ body (.ret r) → ForOk prog w G I sc names n top t body vals (d :: ds) (.ret r)

theorem Ex1.for {t iter : Expr} {body : List Stmt} {p : Pos} {top : Bool} {ds : List D} {o : Out} (hi : EvI prog w G I sc names n vals iter t top ds) (hf : ForOk prog w G I sc names n top t body vals ds o)
    (hs : ∀ env x, foldedSetIterable iter env x = pure x := by intro _ _; rfl) : Ex1 prog w G I sc names n vals (.For t iter body [] p) o := by
  constructor
  intro c own s A Q E hsc R S k
  refine wpAny_For (hi.go c own s A _ E hsc R S fun it s₁ wr X S₁ x₁ W hX hwr => ?_) (hs _)
  have hsc' : EnvIs (c.with wr).env sc := hsc
  have h0 : ∀ b ∈ wr, b ∉ c.mt → c.h₀.get? b = none := fun b hb hm => by
    cases e : c.h₀.get? b with
    | none => rfl
    | some o => have := S.ext b o hm e; rw [hwr b hb] at this; cases this
  have hfz : ∀ b ∈ wr, b ∉ c.fz := fun b hb q => by
    obtain ⟨o, e⟩ := S.alive b (List.mem_append_right _ q)
    rw [hwr b hb] at e; cases e
  have hown : ∀ b ∈ wr, b ∉ own := fun b hb q => by
    obtain ⟨o, e⟩ := S.alive b (List.mem_append_left _ q)
    rw [hwr b hb] at e; cases e
  -- a change of what is frozen is no step of the frame
  have hoff : ∀ {own' : List Addr} {h₁ h₂ : Heap}, Step own s.heap own' h₁ → (∀ b o, b ∉ wr → h₁.get? b = some o → h₂.get? b = some o) → Step own s.heap own' h₂ := fun st hk =>
    ⟨fun a o ha e => hk a o (fun q => by rw [hwr a q] at e; cases e) (st.ext a o ha e), st.sub, st.new⟩
  refine codeAny_forLoop_any (fun k' s' => ∃ i own' vals', ds.length = i + k' ∧ St G names I (c.with wr) own' vals' s' ∧ X own' i s'.heap ∧ Step own s.heap own' s'.heap ∧ (∀ b ∈ wr, b ∉ own') ∧ ForOk prog w G I sc names n top t body vals' (ds.drop i) o) ?_ ds.length
    ⟨0, own, vals, by omega, S₁, hX, Step.ofExt x₁, hown, by simpa using hf⟩
  rintro k' s' ⟨i, own', vals', hlen, S', hX', hst, hdis, hf'⟩
  by_cases hk : k' = 0
  · subst hk
    have hi : i = ds.length := by omega
    subst hi
    rw [List.drop_length] at hf'
    refine W.done own' s' _ _ hX' fun h' tk hkeep => wpAny_execs_nil ?_
    cases hf'
    exact k .next _ ⟨own', hoff hst hkeep, S'.thaw hdis hfz h0 hkeep⟩
  · have hi : i < ds.length := by omega
    have hd : ds[i]? = some ds[i] := List.getElem?_eq_getElem hi
    have hdrop : ds.drop i = ds[i] :: ds.drop (i + 1) := List.drop_eq_getElem_cons hi
    rw [hdrop] at hf'
    refine wpAny_mono (W.item own' i ds[i] s' (fun v s₂ => wpAny (model prog w) A (PySem.assign t c.env v) (fun _ s₃ => wpAny (model prog w) A (execs body c.env) (fun f s₄ => match f with
      | .next | .cont => ∃ m, m < k' ∧ ∃ i own' vals', ds.length = i + m ∧ St G names I (c.with wr) own' vals' s₄ ∧ X own' i s₄.heap ∧ Step own s.heap own' s₄.heap ∧ (∀ b ∈ wr, b ∉ own') ∧ ForOk prog w G I sc names n top t body vals' (ds.drop i) o
      | .brk => Q .next s₄
      | .ret v => Q (.ret v) s₄) (notedBy (model prog w) A c.env fun e s' => cameBackBy (model prog w) A c.env E e s') s₃) (notedBy (model prog w) A c.env fun e s' => cameBackBy (model prog w) A c.env E e s') s₂) _ hd hX' S'.alive fun v h' tk hX2 hkeep hlive hrep => ?_) (fun r s₂ hr => ?_) fun _ _ e => e
    · have S2 : St G names I (c.with wr) own' vals' { s' with heap := h', toks := tk } := S'.off hdis h0 hkeep hlive
      have st2 := hoff hst hkeep
      -- the target, then the body
      have go : ∀ {v₁ : List Loc} {Q' : Unit → Shared → Prop} {E' : Value → Shared → Prop}, AsT top prog w G I sc names n vals' t ds[i] v₁ →
          (∀ s₃, St G names I (c.with wr) own' v₁ s₃ → X own' (i + 1) s₃.heap → Step own s.heap own' s₃.heap → Q' () s₃) → wpAny (model prog w) A (PySem.assign t c.env v) Q' E' { s' with heap := h', toks := tk } := by
        intro v₁ Q' E' ha hQ'
        refine ha.go (c.with wr) own' _ A v Q' E' hsc' R S2 hrep fun s₃ S₃ x₃ => hQ' s₃ S₃ (W.step _ _ _ _ _ hX2 (Step.ofExt x₃)) (st2.trans (Step.ofExt x₃))
      have out : ∀ {own'' : List Addr} {vals'' : List Loc} {s₃ s₄ : Shared}, St G names I (c.with wr) own'' vals'' s₄ → (∃ vals₃, St G names I (c.with wr) own' vals₃ s₃) → Step own' s₃.heap own'' s₄.heap → Step own s.heap own' s₃.heap →
          Step own s.heap own'' s₄.heap ∧ (∀ b ∈ wr, b ∉ own'') := by
        rintro own'' vals'' s₃ s₄ S₄ ⟨vals₃, S₃⟩ y z
        refine ⟨z.trans y, fun b hb q => ?_⟩
        rcases y.new b q with q | q
        · exact hdis b hb q
        · obtain ⟨o, e⟩ := S₃.alive b (mem3.mpr (.inr (.inl hb)))
          rw [q] at e; cases e
      cases hf' with
      | next ha hb hr =>
        refine go ha fun s₃ S₃ hX3 st3 => hb.go (c.with wr) own' s₃ A _ _ hsc' R S₃ fun f s₄ q => ?_
        cases f <;> first
          | (obtain ⟨own'', y, S₄⟩ := q
             obtain ⟨y1, y2⟩ := out S₄ ⟨_, S₃⟩ y st3
             exact ⟨k' - 1, by omega, i + 1, own'', _, by omega, S₄, W.step _ _ _ _ _ hX3 y, y1, y2, hr⟩)
          | exact q.elim
      | cont ha hb hr =>
        refine go ha fun s₃ S₃ hX3 st3 => hb.go (c.with wr) own' s₃ A _ _ hsc' R S₃ fun f s₄ q => ?_
        cases f <;> first
          | (obtain ⟨own'', y, S₄⟩ := q
             obtain ⟨y1, y2⟩ := out S₄ ⟨_, S₃⟩ y st3
             exact ⟨k' - 1, by omega, i + 1, own'', _, by omega, S₄, W.step _ _ _ _ _ hX3 y, y1, y2, hr⟩)
          | exact q.elim
      | brk ha hb =>
        refine go ha fun s₃ S₃ hX3 st3 => hb.go (c.with wr) own' s₃ A _ _ hsc' R S₃ fun f s₄ q => ?_
        cases f <;> first
          | (obtain ⟨own'', y, S₄⟩ := q
             obtain ⟨y1, y2⟩ := out S₄ ⟨_, S₃⟩ y st3
             exact k .next s₄ ⟨own'', y1, S₄.thaw (h' := s₄.heap) (t := s₄.toks) y2 hfz h0 fun _ _ _ e => e⟩)
          | exact q.elim
      | ret ha hb =>
        refine go ha fun s₃ S₃ hX3 st3 => hb.go (c.with wr) own' s₃ A _ _ hsc' R S₃ fun f s₄ q => ?_
        cases f <;> first
          | (obtain ⟨own'', vals'', y, S₄, r⟩ := q
             obtain ⟨y1, y2⟩ := out S₄ ⟨_, S₃⟩ y st3
             refine k (.ret _) s₄ ⟨own'', vals'', y1, S₄.thaw (h' := s₄.heap) (t := s₄.toks) y2 hfz h0 fun _ _ _ e => e, r.mono fun a o ha e => ⟨e, fun z => ha ?_⟩⟩
             rcases List.mem_append.mp z with z | z
             · exact mem3.mpr (.inl z)
             · exact mem3.mpr (.inr (.inr z)))
          | exact q.elim
    · obtain ⟨v, rfl, hv⟩ := hr
      exact hv
end
end Og
namespace Og
open PySem PySem.Calls PySem.Spec PyProof.Rows

theorem len1 {α : Type} {l : List α} (h : l.length = 1) : ∃ a, l = [a] := match l, h with
  | [a], _ => ⟨a, rfl⟩
theorem len2 {α : Type} {l : List α} (h : l.length = 2) : ∃ a b, l = [a, b] := match l, h with
  | [a, b], _ => ⟨a, b, rfl⟩
theorem len3 {α : Type} {l : List α} (h : l.length = 3) : ∃ a b c, l = [a, b, c] := match l, h with
  | [a, b, c], _ => ⟨a, b, c, rfl⟩
theorem len0 {α : Type} {l : List α} (h : l.length = 0) : l = [] := List.eq_nil_of_length_eq_zero h
noncomputable def dfd (name : Str) (params : Arguments) (body : List Stmt) (scope : Scope) (pm code doc dV : Value) : FuncData := { docDef name params body scope pm code doc with defaults := dV }
noncomputable def DflIs (h : Heap) (dV : Value) : Option (Array Value) → Prop
  | none => dV = .none
  | some items => ∃ T oT m, dV = .ref T ∧ h.get? T = some oT ∧ oT.data = .seq items m
structure FnAt (G : Gl) (name : Str) (params : Arguments) (body : List Stmt) (scope : Scope) (dfl : Option (Array Value)) : Prop where
  ex : ∃ a o pm code doc dV, G.mg name = some (.ref a) ∧ G.hb.get? a = some o ∧ o.data = .func (dfd name params body scope pm code doc dV) ∧ G.hb.CodeRec code name ∧ DflIs G.hb dV dfl

theorem lookup_mem {l : List (Str × Value)} (hn : (l.map (·.1)).Nodup) {x : Str} {v : Value} (h : (x, v) ∈ l) : l.lookup x = some v := by
  induction l with
  | nil => cases h
  | cons p r ih =>
    obtain ⟨y, u⟩ := p
    rw [List.map_cons] at hn
    have hnd := List.nodup_cons.mp hn
    rw [List.lookup_cons]
    rcases List.mem_cons.mp h with e | e
    · cases e; simp
    · have : (x == y) = false := by
        rw [beq_eq_false_iff_ne]
        rintro rfl
        exact hnd.1 (List.mem_map.mpr ⟨_, e, rfl⟩)
      rw [this]; exact ih hnd.2 e
theorem lookup_rev {l : List (Str × Value)} (hn : (l.map (·.1)).Nodup) {x : Str} {v : Value} (h : (x, v) ∈ l) : l.reverse.lookup x = some v :=
  lookup_mem (by rw [List.map_reverse]; unfold List.Nodup; rw [List.pairwise_reverse]; exact hn.imp fun h => Ne.symm h) (List.mem_reverse.mpr h)

theorem vars_un {own fz : List Addr} {h : Heap} {m : Str → Option Value} : ∀ (rest : List Str), Vars own fz h m rest (List.replicate rest.length Loc.un)
  | [] => .nil
  | _ :: r => .cons True.intro (vars_un r)
theorem vars_args {own fz : List Addr} {h : Heap} {m : Str → Option Value} {rest : List Str} : ∀ {ps : List Str} {vs : List Value} {ds : List D}, (∀ p ∈ ps.zip vs, m p.1 = some p.2) → ps.length = vs.length → RepAll (own ++ fz) h vs ds →
    Vars own fz h m (ps ++ rest) (ds.map Loc.d ++ List.replicate rest.length Loc.un)
  | [], [], _, _, _, r => by
    cases r
    exact vars_un rest
  | p :: ps, v :: vs, _, hm, hl, r => by
    cases r with | cons r rs =>
    exact .cons ⟨v, hm _ (.head _), r⟩ (vars_args (fun q hq => hm q (.tail _ hq)) (Nat.succ.inj hl) rs)
  | [], _ :: _, _, _, hl, _ => by cases hl
  | _ :: _, [], _, _, hl, _ => by cases hl

noncomputable def okNames (sc : Scope) (names : List Str) : Bool := names.all (fun x => decide (sc.names.lookup x = some .local) && !(x == ("__debug__" : Str))) && decide names.Nodup
theorem okNames_loc {sc : Scope} {names : List Str} (h : okNames sc names = true) : ∀ x ∈ names, sc.names.lookup x = some .local ∧ (x == ("__debug__" : Str)) = false := fun x hx => by
  have h1 := List.all_eq_true.mp (Bool.and_eq_true_iff.mp h).1 x hx
  obtain ⟨a, b⟩ := Bool.and_eq_true_iff.mp h1
  exact ⟨of_decide_eq_true a, by simpa using b⟩
theorem okNames_nodup {sc : Scope} {names : List Str} (h : okNames sc names = true) : names.Nodup := of_decide_eq_true (Bool.and_eq_true_iff.mp h).2

section
variable {prog : Program} {w : World} {G : Gl}

theorem Spec.intro {name : Str} {params : Arguments} {body : List Stmt} {scope : Scope} {dfl : Option (Array Value)} {n : Nat} {ps rest : List Str} {ds : List D} {d : D} (F : FnAt G name params body scope dfl)
    (hb : ∀ (s : Shared) pm code doc dV (vs : List Value), vs.length = ps.length → DflIs s.heap dV dfl →
      BindsTo s (dfd name params body scope pm code doc dV) ⟨vs, []⟩ (ps.zip vs))
    (hps : ps.length = ds.length) (hok : okNames scope (ps ++ rest) = true)
    (hx : ExS prog w G Inv.none ⟨scope, []⟩ (ps ++ rest) n (ds.map Loc.d ++ List.replicate rest.length Loc.un) body (.ret d))
    (hcell : (scope.names.all fun x => x.2 != .cell) = true := by decide +kernel) (hco : scope.isCoroutine = false := by rfl) (hgen : scope.isGenerator = false := by rfl) (hk : scope.kind = .function := by rfl) :
    Spec prog w G (n + 1) name ds d := by
  obtain ⟨a, o, pm, code, doc, dV, h1, h2, h3, h4, h5⟩ := F.ex
  refine ⟨a, o, _, h1, h2, h3, fun av s A vs Q E R base hal hap r k => ?_⟩
  have hlen : vs.length = ps.length := by rw [r.length, hps]
  have hnd := okNames_nodup hok
  have hndp : ps.Nodup := (List.nodup_append.mp hnd).1
  have hzip : (ps.zip vs).map (·.1) = ps := by rw [List.map_fst_zip (by omega)]
  have hd5 : DflIs s.heap dV dfl := by
    cases dfl with
    | none => exact h5
    | some items => obtain ⟨T, oT, m, e, g, e2⟩ := h5; exact ⟨T, oT, m, e, base _ _ g, e2⟩
  refine wpAny_call (codeAny_call_def (by have := R.depth; omega) (base _ _ h2) h3 (G.nolimit.keeps base) (h4.keeps base) rfl (hb s pm code doc dV vs hlen hd5) ?_ ?_ ?_ hco hgen hk)
  · intro x hx e
    have := List.all_eq_true.mp hcell x hx
    rw [e] at this
    exact absurd this (by decide)
  · intro x hx
    exact (okNames_loc hok x.1 (List.mem_append_left _ (by rw [← hzip]; exact List.mem_map.mpr ⟨x, hx, rfl⟩))).1
  · intro h₁ hn hkeep
    let fd := dfd name params body scope pm code doc dV
    let c : Fc := { env := callEnv fd s.heap.objs.size a, h₀ := s.heap, mt := [], fz := av, s₀ := s }
    have hL : s.heap.get? s.heap.objs.size = none := none_size
    have S : St G (ps ++ rest) Inv.none c [s.heap.objs.size] (ds.map Loc.d ++ List.replicate rest.length Loc.un) { s with heap := h₁, toks := s.toks + (ps.zip vs).length } :=
      { kind := hk
        glob := rfl
        blt := rfl
        loc := okNames_loc hok
        nodup := hnd
        base := fun b o e => hkeep b o (base b o e)
        ns := by
          refine ⟨_, hn, vars_args (fun p hp => lookup_rev (by rw [hzip]; exact hndp) hp) hlen.symm (r.mono fun a o ha e => ⟨hkeep a o e, fun q => ?_⟩)⟩
          rcases List.mem_append.mp q with q | q
          · rw [List.mem_singleton.mp q, hL] at e; cases e
          · exact ha q
        lown := List.mem_singleton.mpr rfl
        alive := fun x hx => by
          rcases List.mem_append.mp hx with q | q
          · obtain rfl := List.mem_singleton.mp q
            obtain ⟨o', _, _, ho', _⟩ := hn
            exact ⟨o', ho'⟩
          · obtain ⟨o', e⟩ := hal x q; exact ⟨o', hkeep _ _ e⟩
        ext := fun b o _ e => hkeep b o e
        fresh := fun x hx => .inr (by rw [List.mem_singleton.mp hx]; exact hL)
        apart := fun x hx => by
          rcases List.mem_append.mp hx with q | q
          · obtain rfl := List.mem_singleton.mp q
            cases e : G.hb.get? s.heap.objs.size with
            | none => rfl
            | some o => have := base _ _ e; rw [hL] at this; cases this
          · exact hap x q
        inv := trivial
        iown := fun _ hx => nomatch hx
        same := ⟨rfl, rfl, rfl⟩ }
    refine hx.go c _ _ _ _ _ ⟨rfl, rfl⟩ R.deeper S fun f s' q => ?_
    cases f <;> first
      | exact q.elim
      | (obtain ⟨own', vals', _, S', rr⟩ := q
         have := k _ s'.heap s'.toks (fun b o e => S'.ext b o (fun z => nomatch z) e) (rr.mono fun a o ha e => ⟨e, fun z => ha (List.mem_append_right _ z)⟩)
         rw [← S'.same.eq] at this
         exact this)
end

section
variable {prog : Program} {w : World} {G : Gl} {I : Inv} {sc : Sc} {names : List Str} {n : Nat} {vals : List Loc}

inductive WhOk (prog : Program) (w : World) (G : Gl) (I : Inv) (sc : Sc) (names : List Str) (n : Nat) (t : Expr) (body : List Stmt) : Nat → List Loc → Out → Prop
  | done {vals : List Loc} : EvB prog w G I sc names n vals t false → WhOk prog w G I sc names n t body 0 vals (.next vals)
  | turn {k : Nat} {vals v₁ : List Loc} {o : Out} : EvB prog w G I sc names n vals t true → ExS prog w G I sc names n vals body (.next v₁) → WhOk prog w G I sc names n t body k v₁ o → WhOk prog w G I sc names n t body (k + 1) vals o

theorem Ex1.while {t : Expr} {body : List Stmt} {p : Pos} {k : Nat} {o : Out} (h : WhOk prog w G I sc names n t body k vals o) : Ex1 prog w G I sc names n vals (.While t body [] p) o := by
  constructor
  intro c own s A Q E hsc R S kk
  refine wpAny_While (codeAny_whileLoop (fun m s' => ∃ own' vals', Step own s.heap own' s'.heap ∧ St G names I c own' vals' s' ∧ WhOk prog w G I sc names n t body m vals' o) ?_ k ⟨own, vals, .refl, S, h⟩)
  rintro m s' ⟨own', vals', st, S', h'⟩
  cases h' with
  | done hb =>
    exact hb.go c own' s' A _ _ hsc R S' fun s₁ S₁ x₁ => wpAny_execs_nil (kk .next s₁ ⟨own', st.trans (Step.ofExt x₁), S₁⟩)
  | turn hb hx hr =>
    refine hb.go c own' s' A _ _ hsc R S' fun s₁ S₁ x₁ => hx.go c own' s₁ A _ _ hsc R S₁ fun f s₂ q => ?_
    cases f <;> first
      | (obtain ⟨own'', y, S₂⟩ := q
         exact ⟨_, Nat.lt_succ_self _, own'', _, (st.trans (Step.ofExt x₁)).trans y, S₂, hr⟩)
      | exact q.elim
end
end Og
namespace Og
open PySem PySem.Calls PySem.Spec PyProof.Rows

section
variable {prog : Program} {w : World} {G : Gl} {I : Inv} {sc : Sc} {names : List Str} {n : Nat} {vals : List Loc}

theorem St.via {c : Fc} {own ow : List Addr} {s : Shared} (S : St G names I c own vals s) {h' : Heap} {t : Nat} (hx : Ext ow s.heap h') (how : ∀ a ∈ ow, a ∈ own ∧ a ≠ c.env.locals) (hlive : ∀ a ∈ ow, ∃ o, h'.get? a = some o) (hinv : I.P h')
    (ho : ∀ a es, Loc.own a es ∈ vals → a ∉ ow) : St G names I c own vals { s with heap := h', toks := t } where
  kind := S.kind
  glob := S.glob
  blt := S.blt
  loc := S.loc
  nodup := S.nodup
  base := fun b o e => hx b o (fun q => by have := S.apart b (List.mem_append_left _ (how b q).1); rw [e] at this; cases this) (S.base b o e)
  ns := by
    obtain ⟨m, ⟨oL, es, ep, hL, r⟩, h2⟩ := S.ns
    refine ⟨m, ⟨oL, es, ep, hx _ _ (fun q => (how _ q).2 rfl) hL, r⟩, h2.mono (fun a o ha e => ⟨hx a o (fun q => ha (List.mem_append_left _ (how a q).1)) e, ha⟩) (fun _ h => h) fun l hm => ?_⟩
    cases l with
    | own a es => exact fun o e => hx a o (ho a es hm) e
    | _ => trivial
  lown := S.lown
  alive := fun a ha => by
    by_cases q : a ∈ ow
    · exact hlive a q
    · obtain ⟨o, e⟩ := S.alive a ha; exact ⟨o, hx a o q e⟩
  ext := fun b o hb e => by
    by_cases q : b ∈ ow
    · rcases S.fresh b (how b q).1 with z | z
      · exact absurd z hb
      · rw [z] at e; cases e
    · exact hx b o q (S.ext b o hb e)
  fresh := S.fresh
  apart := S.apart
  inv := hinv
  iown := S.iown
  same := S.same.trans ⟨rfl, rfl, rfl⟩

theorem St.widen {c : Fc} {own wd : List Addr} {s s' : Shared} (S : St G names I c own vals s) (hk : ∀ b o, s.heap.get? b = some o → s'.heap.get? b = some o) (hs : Same s s') (hn : ∀ b ∈ wd, s.heap.get? b = none)
    (hl : ∀ b ∈ wd, ∃ o, s'.heap.get? b = some o) : St G names I c (wd ++ own) vals s' where
  kind := S.kind
  glob := S.glob
  blt := S.blt
  loc := S.loc
  nodup := S.nodup
  base := fun b o e => hk b o (S.base b o e)
  ns := by
    obtain ⟨m, h1, h2⟩ := S.ns
    refine ⟨m, h1.keeps hk, h2.mono (fun a o ha e => ⟨hk a o e, fun q => ?_⟩) (fun _ h => List.mem_append_right _ h) fun l _ => l.ownKept hk⟩
    rcases List.mem_append.mp q with q | q
    · rcases List.mem_append.mp q with q | q
      · rw [hn a q] at e; cases e
      · exact ha (List.mem_append_left _ q)
    · exact ha (List.mem_append_right _ q)
  lown := List.mem_append_right _ S.lown
  alive := fun a ha => by
    rcases List.mem_append.mp ha with q | q
    · rcases List.mem_append.mp q with q | q
      · exact hl a q
      · obtain ⟨o, e⟩ := S.alive a (List.mem_append_left _ q); exact ⟨o, hk _ _ e⟩
    · obtain ⟨o, e⟩ := S.alive a (List.mem_append_right _ q); exact ⟨o, hk _ _ e⟩
  ext := fun b o hb e => hk b o (S.ext b o hb e)
  fresh := fun a ha => by
    rcases List.mem_append.mp ha with q | q
    · by_cases z : a ∈ c.mt
      · exact .inl z
      · refine .inr ?_
        cases e : c.h₀.get? a with
        | none => rfl
        | some o => have := S.ext a o z e; rw [hn a q] at this; cases this
    · exact S.fresh a q
  apart := fun a ha => by
    rcases List.mem_append.mp ha with q | q
    · rcases List.mem_append.mp q with q | q
      · cases e : G.hb.get? a with
        | none => rfl
        | some o => have := S.base a o e; rw [hn a q] at this; cases this
      · exact S.apart a (List.mem_append_left _ q)
    · exact S.apart a (List.mem_append_right _ q)
  inv := I.keep _ _ S.inv fun a _ o e => hk a o e
  iown := fun a ha => ⟨List.mem_append_right _ (S.iown a ha).1, (S.iown a ha).2⟩
  same := S.same.trans hs

theorem St.narrow {c : Fc} {own own' : List Addr} {s : Shared} (S : St G names I c own' vals s) (hsub : ∀ a ∈ own, a ∈ own') (hl : c.env.locals ∈ own) (hi : ∀ a ∈ I.ad, a ∈ own) (ho : ∀ a es, Loc.own a es ∈ vals → a ∈ own) :
    St G names I c own vals s where
  kind := S.kind
  glob := S.glob
  blt := S.blt
  loc := S.loc
  nodup := S.nodup
  base := S.base
  ns := by
    obtain ⟨m, h1, h2⟩ := S.ns
    refine ⟨m, h1, ?_⟩
    clear h1
    generalize names = xs at h2
    generalize hv : vals = ls at h2 ho
    clear hv
    induction h2 with
    | nil => exact .nil
    | @cons x l _ _ a _ ih =>
      refine .cons ?_ (ih fun a es hm => ho a es (.tail _ hm))
      have hk : ∀ a o, a ∉ own' ++ c.fz → s.heap.get? a = some o → s.heap.get? a = some o ∧ a ∉ own ++ c.fz := fun a o ha e => ⟨e, fun q => ha (by
        rcases List.mem_append.mp q with q | q
        · exact List.mem_append_left _ (hsub a q)
        · exact List.mem_append_right _ q)⟩
      cases l with
      | un => trivial
      | d d => obtain ⟨v, e, r⟩ := a; exact ⟨v, e, r.mono hk⟩
      | v v => exact a
      | own b es => obtain ⟨e, hb, vs, n, ho', r⟩ := a; exact ⟨e, ho b es (.head _), vs, n, ho', r.mono hk⟩
  lown := hl
  alive := fun a ha => by
    rcases List.mem_append.mp ha with q | q
    · exact S.alive a (List.mem_append_left _ (hsub a q))
    · exact S.alive a (List.mem_append_right _ q)
  ext := S.ext
  fresh := fun a ha => S.fresh a (hsub a ha)
  apart := fun a ha => by
    rcases List.mem_append.mp ha with q | q
    · exact S.apart a (List.mem_append_left _ (hsub a q))
    · exact S.apart a (List.mem_append_right _ q)
  inv := S.inv
  iown := fun a ha => ⟨hi a ha, (S.iown a ha).2⟩
  same := S.same

theorem list_append_obj {A : Around} {E : Value → Shared → Prop} {s : Shared} {l : Addr} {vs : List Value} {m : Nat} {x : Value} {Q : Value → Shared → Prop} (ho : s.heap.get? l = some { cls := .type "list", data := .seq vs.toArray m })
    (hQ : ∀ h' m', h'.get? l = some { cls := .type "list", data := .seq (vs ++ [x]).toArray m' } → Heap.SameBut l s.heap h' → Q .none { s with heap := h' }) (hz : vs.length ≤ sizeLine) :
    wpAny (model prog w) A (PySem.call (.builtin "list.append") [.ref l, x]) Q E s := by
  have hl : s.heap.IsList l vs.toArray := ⟨_, ho, rfl, m, rfl⟩
  refine wpAny_call_entry slot_list_append hl.typeIs entry_list_append ?_ (args_list_append _ _)
  show wpAny _ _ (updateSeq l (·.push x) >>= fun _ => ret .none) _ _ s
  refine wpAny_bind ?_
  refine wpAny_updateSeq ho rfl (wpAny_pure ⟨.none, rfl, ?_⟩) (by show vs.toArray.size ≤ sizeLine; rw [List.size_toArray]; exact hz)
  have hpush : vs.toArray.push x = (vs ++ [x]).toArray := by simp
  have hobj : (Obj.mapSeq (·.push x) { cls := .type "list", data := .seq vs.toArray m } : Obj) = { cls := .type "list", data := .seq (vs ++ [x]).toArray (if (vs.toArray.push x).size == vs.toArray.size then m else m + 1) } := by
    unfold Obj.mapSeq
    simp
  exact hQ _ _ (by rw [Heap.get?_update_self _ ho (by rw [hobj]; rfl), hobj]) (Heap.SameBut.update ..)

structure Made (G : Gl) (I : Inv) (names : List Str) (vals : List Loc) (c : Fc) (own : List Addr) (hs : Heap) (es : List D) (D C : Addr) (s' : Shared) : Prop where
  st : St G names I c (D :: C :: own) vals s'
  step : Step own hs (D :: C :: own) s'.heap
  fD : hs.get? D = none
  fC : hs.get? C = none
  dl : D ∉ c.fz ∧ D ∉ own ∧ C ∉ own ∧ C ∉ c.fz
  ne : D ≠ C
  lst : ∃ vs m, s'.heap.get? D = some { cls := .type "list", data := .seq vs.toArray m } ∧ RepAll ((D :: C :: own) ++ c.fz) s'.heap vs es
  ns : ∃ m, s'.heap.Ns C m

theorem comp_loop {sc₂ : Sc} {elt iter : Expr} {x : Str} {px pos : Pos} {scope : Scope} {c : Fc} {own wr : List Addr} {s₂ : Shared} {A : Around} {E : Value → Shared → Prop} {ds : List D} {f : D → D} {cl : List (Str × Addr)} {it : Value}
    {X : List Addr → Nat → Heap → Prop} {RR : Value → Addr → Result → Shared → Prop} {hs : Heap} (hsc : EnvIs c.env sc) (hst : Step own hs own s₂.heap) (hwS : ∀ b ∈ wr, hs.get? b = none) (R : Room n A) (S : St G names I (c.with wr) own vals s₂) (hX : X own 0 s₂.heap) (W : Iter prog w A it false (.Name x px) c.fz wr ds X)
    (hwo : ∀ b ∈ wr, b ∉ own) (hwf : ∀ b ∈ wr, b ∉ c.fz) (hwm : ∀ b ∈ wr, b ∉ c.mt → c.h₀.get? b = none) (ho : ∀ a es, Loc.own a es ∈ vals → a ∉ I.ad)
    (hre : relabel scope c.env = sc₂.scope) (hcl : cl = sc₂.cells) (hkind : scope.kind = .function) (hnc : ∀ y ∈ scope.names, y.2 ≠ .cell) (hx : scope.names.lookup x = some .local) (hxd : (x == ("__debug__" : Str)) = false) (hz : ds.length ≤ sizeLine)
    (he : ∀ d ∈ ds, EvE prog w G I sc₂ [x] n [.d d] elt (f d))
    (hRR : ∀ D C s', Made G I names vals c own hs (ds.map f) D C s' → RR (.ref D) C (.ok .next) s') :
    wpAny (model prog w) A (newList []) (fun acc s₃ => wpAny (model prog w) A (newFunctionEnv scope c.env.globals cl [] c.env.qual none .none (some c.env)) (fun cenv s₄ =>
      codeAny (model prog w) A (.compStart (.ListComp elt [⟨.Name x px, iter, [], 0⟩] scope pos) 0 it acc { cenv with scope := relabel scope c.env }) (RR acc cenv.locals) s₄) E s₃) E s₂ := by
  refine wpAny_newObj_type (wpAny_newFunctionEnv hnc (by intro y hy; simp at hy) (fun h₁ hns₁ hsb₁ => ?_) hkind)
  dsimp only at hns₁ hsb₁ ⊢
  have hD0 : s₂.heap.get? s₂.heap.objs.size = none := none_size
  generalize hH2 : s₂.heap.push { cls := .type "list", dict := Option.none, data := .seq ([] : List Value).toArray } = H2 at hns₁ hsb₁ ⊢
  have hC : H2.objs.size = s₂.heap.objs.size + 1 := by rw [← hH2, Heap.size_push]
  have hC0 : s₂.heap.get? H2.objs.size = none := by
    cases e : s₂.heap.get? H2.objs.size with
    | none => rfl
    | some o => have := Heap.lt_size e; rw [hC] at this; exact absurd this (Nat.not_lt.mpr (Nat.le_succ _))
  have hDC : s₂.heap.objs.size ≠ H2.objs.size := by rw [hC]; exact Nat.ne_of_lt (Nat.lt_succ_self _)
  have old : ∀ b o, s₂.heap.get? b = some o → h₁.get? b = some o := fun b o e => hsb₁.extBut b o (fun q => by rw [q, hC0] at e; cases e) (Heap.get?_push_of_some _ (hH2 ▸ Heap.get?_push_of_some _ e))
  have hD1 : h₁.get? s₂.heap.objs.size = some { cls := .type "list", data := .seq ([] : List Value).toArray } := hsb₁.extBut _ _ hDC (Heap.get?_push_of_some _ (hH2 ▸ Heap.get?_push_size _ rfl))
  generalize hDe : s₂.heap.objs.size = Da at *
  generalize hCe : H2.objs.size = Ca at *
  clear hH2 hC hDe hCe
  let own' : List Addr := Da :: Ca :: own
  let cenv : Env := compEnvC scope cl Ca c.env
  have hsub : ∀ a ∈ own, a ∈ own' := fun a ha => .tail _ (.tail _ ha)
  have S1 : St G names I (c.with wr) own' vals { s₂ with heap := h₁, toks := s₂.toks + ([] : List (Str × Value)).length } := by
    refine S.widen (wd := [Da, Ca]) old ⟨rfl, rfl, rfl⟩ (fun b hb => ?_) (fun b hb => ?_)
    · simp at hb; rcases hb with rfl | rfl <;> assumption
    · simp at hb; rcases hb with rfl | rfl
      · exact ⟨_, hD1⟩
      · obtain ⟨o, _, _, e, _⟩ := hns₁; exact ⟨o, e⟩
  have st1 : Step own s₂.heap own' h₁ := ⟨Ext.keeps old, hsub, fun a ha => by
    simp [own'] at ha
    rcases ha with rfl | rfl | ha
    · exact .inr hD0
    · exact .inr hC0
    · exact .inl ha⟩
  have hCl : Ca ≠ c.env.locals := fun q => by
    obtain ⟨o, e⟩ := S.alive c.env.locals (List.mem_append_left _ S.lown)
    rw [← q, hC0] at e; cases e
  have hDl : Da ≠ c.env.locals := fun q => by
    obtain ⟨o, e⟩ := S.alive c.env.locals (List.mem_append_left _ S.lown)
    rw [← q, hD0] at e; cases e
  have hCad : Ca ∉ I.ad := fun q => by
    obtain ⟨o, e⟩ := S.alive Ca (List.mem_append_left _ (S.iown Ca q).1)
    rw [hC0] at e; cases e
  have hDad : Da ∉ I.ad := fun q => by
    obtain ⟨o, e⟩ := S.alive Da (List.mem_append_left _ (S.iown Da q).1)
    rw [hD0] at e; cases e
  have hvo : ∀ a es, Loc.own a es ∈ vals → a ∈ own := fun a es hm => by obtain ⟨m, _, h2⟩ := S.ns; exact h2.ownMem hm
  have hCv : ∀ a es, Loc.own a es ∈ vals → a ≠ Ca := fun a es hm q => by
    obtain ⟨o, e⟩ := S.alive a (List.mem_append_left _ (hvo a es hm))
    rw [q, hC0] at e; cases e
  have hDv : ∀ a es, Loc.own a es ∈ vals → a ≠ Da := fun a es hm q => by
    obtain ⟨o, e⟩ := S.alive a (List.mem_append_left _ (hvo a es hm))
    rw [q, hD0] at e; cases e
  have hwo' : ∀ b ∈ wr, b ∉ own' := fun b hb q => by
    obtain ⟨o, e⟩ := S.alive b (mem3.mpr (.inr (.inl hb)))
    simp [own'] at q
    rcases q with rfl | rfl | q
    · rw [hD0] at e; cases e
    · rw [hC0] at e; cases e
    · exact hwo b hb q
  have hkl : cenv.kindOf x = some .local := lookup_relabel_local hx
  have hkp : (cenv.scope.kind == .class || (cenv.scope.kind == .module && cenv.locals != cenv.globals)) = false := by
    have : cenv.scope.kind = .function := hkind
    rw [this]; rfl
  have hback : ∀ {a : Addr}, s₂.heap.get? a = none → a ∉ own → hs.get? a = none := fun {a} e q => by
    cases e' : hs.get? a with
    | none => rfl
    | some o => rw [hst.ext a o q e'] at e; cases e
  have hDn : Da ∉ own := fun q => by obtain ⟨o, e⟩ := S.alive Da (List.mem_append_left _ q); rw [hD0] at e; cases e
  have hCn : Ca ∉ own := fun q => by obtain ⟨o, e⟩ := S.alive Ca (List.mem_append_left _ q); rw [hC0] at e; cases e
  have hDf : Da ∉ (c.with wr).fz := fun q => by obtain ⟨o, e⟩ := S.alive Da (List.mem_append_right _ q); rw [hD0] at e; cases e
  have hCf : Ca ∉ (c.with wr).fz := fun q => by obtain ⟨o, e⟩ := S.alive Ca (List.mem_append_right _ q); rw [hC0] at e; cases e
  -- a change of what is frozen is no step of the frame
  have hoff : ∀ {o₁ : List Addr} {h₁ h₂ : Heap}, Step own hs o₁ h₁ → (∀ b o, b ∉ wr → h₁.get? b = some o → h₂.get? b = some o) → Step own hs o₁ h₂ := fun st hk =>
    ⟨fun a o ha e => hk a o (fun q => by rw [hwS a q] at e; cases e) (st.ext a o ha e), st.sub, st.new⟩
  have loop : ∀ s₃ : Shared, s₃ = { s₂ with heap := h₁, toks := s₂.toks + ([] : List (Str × Value)).length } →
      codeAny (model prog w) A (.compLoop (.ListComp elt [⟨.Name x px, iter, [], 0⟩] scope pos) 0 it (.ref Da) cenv) (RR (.ref Da) Ca) s₃ := by
    rintro s₃ rfl
    refine codeAny_compLoop_list (fun k s' => ∃ i, ds.length = i + k ∧ X own' i s'.heap ∧ Made G I names vals (c.with wr) own hs ((ds.take i).map f) Da Ca s') ?_ ds.length
      ⟨0, by omega, W.step _ _ _ _ _ hX st1, S1, hst.trans st1, hback hD0 hDn, hback hC0 hCn, ⟨hDf, hDn, hCn, hCf⟩, hDC, ⟨[], 0, hD1, by simpa using RepAll.nil⟩, ⟨_, hns₁⟩⟩
    rintro k s' ⟨i, hlen, hX', MM⟩
    obtain ⟨S', st', _, _, _, _, ⟨vsd, md, hDo, hDr⟩, ⟨mC, hnC⟩⟩ := MM
    by_cases hk : k = 0
    · subst hk
      have hi : i = ds.length := by omega
      subst hi
      rw [List.take_length] at hDr
      refine W.done own' s' _ _ hX' fun h' tk hkeep => ?_
      refine hRR Da Ca _ ⟨S'.thaw hwo' hwf hwm hkeep, hoff st' hkeep, hback hD0 hDn, hback hC0 hCn, ⟨fun q => hDf (List.mem_append_right _ q), hDn, hCn, fun q => hCf (List.mem_append_right _ q)⟩, hDC,
        ⟨vsd, md, hkeep _ _ (fun q => hwo' _ q (.head _)) hDo, hDr.mono fun a o ha e => ⟨hkeep a o (fun q => ha (mem3.mpr (.inr (.inl q)))) e, fun q => ha ?_⟩⟩, ⟨mC, ?_⟩⟩
      · rcases List.mem_append.mp q with q | q
        · exact mem3.mpr (.inl q)
        · exact mem3.mpr (.inr (.inr q))
      · obtain ⟨oC, es, ep, e, r⟩ := hnC
        exact ⟨oC, es, ep, hkeep _ _ (fun q => hwo' _ q (.tail _ (.head _))) e, r⟩
    · have hi : i < ds.length := by omega
      have hd : ds[i]? = some ds[i] := List.getElem?_eq_getElem hi
      have htk : (ds.take (i + 1)).map f = (ds.take i).map f ++ [f ds[i]] := by rw [List.take_add_one, hd, Option.toList_some, List.map_append]; rfl
      refine wpAny_mono (W.item own' i ds[i] s' (fun v s₃ => wpAny (model prog w) A (PySem.assign (.Name x px) cenv v) (fun _ s₄ => wpAny (model prog w) A (eval elt cenv) (fun y s₅ =>
          wpAny (model prog w) A (PySem.call (.builtin "list.append") [.ref Da, y]) (fun _ s₆ => ∃ m, m < k ∧ ∃ i, ds.length = i + m ∧ X own' i s₆.heap ∧ Made G I names vals (c.with wr) own hs ((ds.take i).map f) Da Ca s₆)
            (notedBy (model prog w) A cenv fun e s' => RR (.ref Da) Ca (.error e) s') s₅)
          (notedBy (model prog w) A cenv fun e s' => RR (.ref Da) Ca (.error e) s') s₄) (notedBy (model prog w) A cenv fun e s' => RR (.ref Da) Ca (.error e) s') s₃) _ hd hX' S'.alive fun v h' tk hX2 hkeep hlive hrep => ?_) (fun r s₂ hr => ?_) fun _ _ e => e
      · have S2 : St G names I (c.with wr) own' vals { s' with heap := h', toks := tk } := S'.off hwo' hwm hkeep hlive
        have hn2 : h'.Ns Ca mC := by
          obtain ⟨oC, es, ep, e, r⟩ := hnC
          exact ⟨oC, es, ep, hkeep _ _ (fun q => hwo' _ q (.tail _ (.head _))) e, r⟩
        have hDo2 := hkeep _ _ (fun q => hwo' _ q (.head _)) hDo
        have hDr2 : RepAll (own' ++ (c.with wr).fz) h' vsd ((ds.take i).map f) := hDr.mono fun a o ha e => ⟨hkeep a o (fun q => ha (mem3.mpr (.inr (.inl q)))) e, ha⟩
        refine wpAny_assign_Name (wpAny_storeName_local hkl hn2 (fun h₃ hn₃ hs₃ => ?_) hkp)
        -- the name is stored
        have x3 : Ext [Ca] h' h₃ := fun b o hb e => hs₃.extBut b o (fun q => hb (by rw [q]; exact .head _)) e
        have S3 : St G names I (c.with wr) own' vals { s' with heap := h₃, toks := tk + 1 } := by
          refine S2.via (ow := [Ca]) x3 (fun a ha => ?_) (fun a ha => ?_) (I.keep _ _ S2.inv fun a ha o e => hs₃.extBut a o (fun q => hCad (by have q' : a = Ca := q; rw [← q']; exact ha)) e) fun a es hm q => hCv a es hm (by simpa using q)
          · obtain rfl : a = Ca := by simpa using ha
            exact ⟨.tail _ (.head _), hCl⟩
          · obtain rfl : a = Ca := by simpa using ha
            obtain ⟨o, _, _, e, _⟩ := hn₃
            exact ⟨o, e⟩
        have e3 : Ext own' h' h₃ := fun b o hb e => x3 b o (fun q => hb (by obtain rfl : b = Ca := (by simpa using q); exact .tail _ (.head _))) e
        have hDo3 := x3 _ _ (by simpa using hDC) hDo2
        have hDr3 : RepAll (own' ++ (c.with wr).fz) h₃ vsd ((ds.take i).map f) := hDr2.ext e3
        -- the item, in a frame of its own
        let ow : List Addr := Ca :: I.ad
        let c₂ : Fc := { env := cenv, h₀ := h₃, mt := ow, fz := own' ++ (c.with wr).fz, s₀ := { s' with heap := h₃, toks := tk + 1 } }
        have hsub2 : ∀ a ∈ ow, a ∈ own' := fun a ha => by
          rcases List.mem_cons.mp ha with rfl | ha
          · exact .tail _ (.head _)
          · exact hsub a (S.iown a ha).1
        have hri : Rep (own' ++ (c.with wr).fz) h₃ v ds[i] := Rep.ext e3 hrep
        have Si : St G [x] I c₂ ow [.d ds[i]] { s' with heap := h₃, toks := tk + 1 } :=
          { kind := hkind
            glob := S.glob
            blt := S.blt
            loc := fun y hy => by obtain rfl : y = x := by simpa using hy
                                  exact ⟨hkl, hxd⟩
            nodup := by simp
            base := S3.base
            ns := ⟨_, hn₃, .cons ⟨v, by simp, hri.mono fun a o ha e => ⟨e, fun q => ha (by
              rcases List.mem_append.mp q with q | q
              · exact List.mem_append_left _ (hsub2 a q)
              · exact q)⟩⟩ .nil⟩
            lown := .head _
            alive := fun a ha => by
              rcases List.mem_append.mp ha with q | q
              · exact S3.alive a (List.mem_append_left _ (hsub2 a q))
              · exact S3.alive a q
            ext := fun b o _ e => e
            fresh := fun a ha => .inl ha
            apart := fun a ha => by
              rcases List.mem_append.mp ha with q | q
              · exact S3.apart a (List.mem_append_left _ (hsub2 a q))
              · exact S3.apart a q
            inv := S3.inv
            iown := fun a ha => ⟨.tail _ ha, fun q => hCad (by have q' : a = Ca := q; rw [← q']; exact ha)⟩
            same := ⟨rfl, rfl, rfl⟩ }
        refine (he ds[i] (List.getElem_mem hi)).go c₂ ow _ A _ _ ⟨hre, hcl⟩ R Si fun y s₅ S₅ x₅ r₅ => ?_
        have hDow : Da ∉ ow := fun q => by
          rcases List.mem_cons.mp q with q | q
          · exact hDC q
          · exact hDad q
        have S5 : St G names I (c.with wr) own' vals { ({ s' with heap := h₃, toks := tk + 1 } : Shared) with heap := s₅.heap, toks := s₅.toks } := by
          refine S3.via (ow := ow) x₅ (fun a ha => ⟨hsub2 a ha, ?_⟩) (fun a ha => S₅.alive a (List.mem_append_left _ ha)) S₅.inv fun a es hm q => ?_
          · rcases List.mem_cons.mp ha with rfl | ha
            · exact hCl
            · exact (S.iown a ha).2
          · rcases List.mem_cons.mp q with q | q
            · exact hCv a es hm q
            · exact ho a es hm q
        have e5 : Ext own' h₃ s₅.heap := fun b o hb e => x₅ b o (fun q => hb (hsub2 b q)) e
        have hs5 : s₅ = { ({ s' with heap := h₃, toks := tk + 1 } : Shared) with heap := s₅.heap, toks := s₅.toks } := S₅.same.eq
        have hDo5 := x₅ _ _ hDow hDo3
        have hDr5 : RepAll (own' ++ (c.with wr).fz) s₅.heap vsd ((ds.take i).map f) := hDr3.ext e5
        have r5 : Rep (own' ++ (c.with wr).fz) s₅.heap y (f ds[i]) := r₅.mono fun a o ha e => ⟨e, fun q => ha (List.mem_append_right _ q)⟩
        refine list_append_obj hDo5 (fun h₆ m₆ hDo6 hs₆ => ?_) ?_
        · have x6 : Ext [Da] s₅.heap h₆ := fun b o hb e => hs₆.extBut b o (fun q => hb (by rw [q]; exact .head _)) e
          have e6 : Ext own' s₅.heap h₆ := fun b o hb e => x6 b o (fun q => hb (by obtain rfl : b = Da := (by simpa using q); exact .head _)) e
          have S6 : St G names I (c.with wr) own' vals { ({ ({ s' with heap := h₃, toks := tk + 1 } : Shared) with heap := s₅.heap, toks := s₅.toks } : Shared) with heap := h₆, toks := s₅.toks } := by
            refine S5.via (ow := [Da]) x6 (fun a ha => ?_) (fun a ha => ?_) (I.keep _ _ S5.inv fun a ha o e => hs₆.extBut a o (fun q => hDad (q ▸ ha)) e) fun a es hm q => hDv a es hm (by simpa using q)
            · obtain rfl : a = Da := by simpa using ha
              exact ⟨.head _, hDl⟩
            · obtain rfl : a = Da := by simpa using ha
              exact ⟨_, hDo6⟩
          have hS6 : ({ s₅ with heap := h₆ } : Shared) = { ({ ({ s' with heap := h₃, toks := tk + 1 } : Shared) with heap := s₅.heap, toks := s₅.toks } : Shared) with heap := h₆, toks := s₅.toks } := by
            rw [hs5]
          rw [hS6]
          have allx : Ext own' h' h₆ := (e3.trans e5).trans e6
          refine ⟨k - 1, by omega, i + 1, by omega, W.step _ _ _ _ _ hX2 (Step.ofExt allx), S6, (hoff st' hkeep).trans (Step.ofExt allx), hback hD0 hDn, hback hC0 hCn, ⟨hDf, hDn, hCn, hCf⟩, hDC,
            ⟨vsd ++ [y], m₆, hDo6, by rw [htk]; exact (hDr5.append (.cons r5 .nil)).ext e6⟩, ?_⟩
          obtain ⟨m5, h5, _⟩ := S₅.ns
          exact ⟨m5, h5.sameBut hs₆ (Ne.symm hDC)⟩
        · rw [hDr5.length]
          simp
          omega
      · obtain ⟨v, rfl, hv⟩ := hr
        exact fun Γ p hΓ => (hv Γ p hΓ : wpAny (model prog w) A (PySem.assign (.Name x px) cenv v) _ _ _) Γ p hΓ
  show codeAny (model prog w) A (.compStart (.ListComp elt [⟨.Name x px, iter, [], 0⟩] scope pos) 0 it (.ref Da) cenv) (RR (.ref Da) Ca) _
  refine codeAny_compStart_list (loop _ rfl) (W.self own' 0 _ _ _ (W.step _ _ _ _ _ hX st1) (loop _ rfl))

theorem St.drop {c : Fc} {own own' : List Addr} {s : Shared} (S : St G names I c own' vals s) {C : Addr} {h' : Heap} {t : Nat} (x : Ext [C] s.heap h') (hC : C ∈ own') (hCn : C ∉ own) (hCf : C ∉ c.fz) (hsub : ∀ a ∈ own, a ∈ own') (hl : c.env.locals ∈ own)
    (hi : ∀ a ∈ I.ad, a ∈ own) (ho : ∀ a es, Loc.own a es ∈ vals → a ∈ own) : St G names I c own vals { s with heap := h', toks := t } where
  kind := S.kind
  glob := S.glob
  blt := S.blt
  loc := S.loc
  nodup := S.nodup
  base := fun b o e => x b o (fun q => by
    obtain rfl : b = C := by simpa using q
    have := S.apart b (List.mem_append_left _ hC)
    rw [e] at this; cases this) (S.base b o e)
  ns := by
    obtain ⟨m, ⟨oL, es, ep, hL, r⟩, h2⟩ := S.ns
    refine ⟨m, ⟨oL, es, ep, x _ _ (fun q => hCn (by
      have q' : c.env.locals = C := by simpa using q
      rw [← q']; exact hl)) hL, r⟩, ?_⟩
    clear hL r
    generalize names = xs at h2
    generalize hv : vals = ls at h2 ho
    clear hv
    induction h2 with
    | nil => exact .nil
    | @cons y l _ _ a _ ih =>
      refine .cons ?_ (ih fun a es hm => ho a es (.tail _ hm))
      have hk : ∀ a o, a ∉ own' ++ c.fz → s.heap.get? a = some o → h'.get? a = some o ∧ a ∉ own ++ c.fz := fun a o ha e => ⟨x a o (fun q => ha (by
        obtain rfl : a = C := (by simpa using q)
        exact List.mem_append_left _ hC)) e, fun q => ha (by
        rcases List.mem_append.mp q with q | q
        · exact List.mem_append_left _ (hsub a q)
        · exact List.mem_append_right _ q)⟩
      cases l with
      | un => trivial
      | d d => obtain ⟨v, e, r⟩ := a; exact ⟨v, e, r.mono hk⟩
      | v v => exact a
      | own b es =>
        obtain ⟨e, hb, vs, n, ho', r⟩ := a
        exact ⟨e, ho b es (.head _), vs, n, x _ _ (fun q => hCn (by
          have q' : b = C := by simpa using q
          rw [← q']; exact ho b es (.head _))) ho', r.mono hk⟩
  lown := hl
  alive := fun a ha => by
    have hne : a ∉ [C] := fun q => by
      obtain rfl : a = C := by simpa using q
      rcases List.mem_append.mp ha with z | z
      · exact hCn z
      · exact hCf z
    have : a ∈ own' ++ c.fz := by
      rcases List.mem_append.mp ha with q | q
      · exact List.mem_append_left _ (hsub a q)
      · exact List.mem_append_right _ q
    obtain ⟨o, e⟩ := S.alive a this
    exact ⟨o, x a o hne e⟩
  ext := fun b o hb e => x b o (fun q => by
    obtain rfl : b = C := by simpa using q
    rcases S.fresh b hC with z | z
    · exact hb z
    · rw [z] at e; cases e) (S.ext b o hb e)
  fresh := fun a ha => S.fresh a (hsub a ha)
  apart := fun a ha => S.apart a (by
    rcases List.mem_append.mp ha with q | q
    · exact List.mem_append_left _ (hsub a q)
    · exact List.mem_append_right _ q)
  inv := I.keep _ _ S.inv fun a ha o e => x a o (fun q => hCn (by
    have q' : a = C := by simpa using q
    rw [← q']; exact hi a ha)) e
  iown := fun a ha => ⟨hi a ha, (S.iown a ha).2⟩
  same := S.same.trans ⟨rfl, rfl, rfl⟩

theorem Made.back {c : Fc} {own : List Addr} {hs : Heap} {es : List D} {D C : Addr} {s' : Shared} (M : Made G I names vals c own hs es D C s') {h' : Heap} {t : Nat} (hC : Heap.SameBut C s'.heap h') (hl : c.env.locals ∈ own) (hi : ∀ a ∈ I.ad, a ∈ own)
    (hvo : ∀ a es, Loc.own a es ∈ vals → a ∈ own) : St G names I c own vals { s' with heap := h', toks := t } ∧ Ext own hs h' ∧ Rep (own ++ c.fz) h' (.ref D) (.lst es) := by
  obtain ⟨S', st, fD, fC, ⟨d1, d2, d3, d4⟩, ne, ⟨vs, m, hD, hr⟩, _⟩ := M
  have x : Ext [C] s'.heap h' := fun b o hb e => hC.extBut b o (fun q => hb (by rw [q]; exact .head _)) e
  refine ⟨S'.drop x (.tail _ (.head _)) d3 d4 (fun a ha => .tail _ (.tail _ ha)) hl hi hvo, fun a o ha e => ?_, .lst (fun q => ?_) (x _ _ (by simpa using ne) hD) (hr.mono fun a o ha e => ⟨x a o (fun q => ha ?_) e, fun q => ha ?_⟩)⟩
  · have hDa : a ≠ D := fun q => by rw [q, fD] at e; cases e
    have hCa : a ≠ C := fun q => by rw [q, fC] at e; cases e
    exact x a o (by simpa using hCa) (st.ext a o ha e)
  · rcases List.mem_append.mp q with q | q
    · exact d2 q
    · exact d1 q
  · obtain rfl : a = C := by simpa using q
    exact List.mem_append_left _ (.tail _ (.head _))
  · rcases List.mem_append.mp q with q | q
    · exact List.mem_append_left _ (.tail _ (.tail _ q))
    · exact List.mem_append_right _ q

noncomputable def plainScope (scope : Scope) (x : Str) : Bool := scope.kind == .function && (scope.names.all fun y => y.2 != .cell && y.2 != .free && (y.2 != .local || decide (scope.names.lookup y.1 = some .local))) && decide (scope.names.lookup x = some .local) && !(x == ("__debug__" : Str))
structure PlainScope (scope : Scope) (x : Str) : Prop where
  kind : scope.kind = .function
  nc : ∀ y ∈ scope.names, y.2 ≠ .cell
  nf : ∀ y ∈ scope.names, y.2 ≠ .free
  loc : ∀ y ∈ scope.names, y.2 = .local → scope.names.lookup y.1 = some .local
  hx : scope.names.lookup x = some .local
  xd : (x == ("__debug__" : Str)) = false
theorem plainScope_is {scope : Scope} {x : Str} (h : plainScope scope x = true) : PlainScope scope x := by
  unfold plainScope at h
  simp only [Bool.and_eq_true, List.all_eq_true, decide_eq_true_eq, Bool.not_eq_true', Bool.or_eq_true, bne_iff_ne, beq_iff_eq] at h
  obtain ⟨⟨⟨h1, h2⟩, h3⟩, h4⟩ := h
  exact ⟨h1, fun y hy => (h2 y hy).1.1, fun y hy => (h2 y hy).1.2, fun y hy hl => (h2 y hy).2.resolve_left (fun z => z hl), h3, h4⟩

theorem comp_src {use : Option (Value → Sem Unit)} {sc₂ : Sc} {elt iter : Expr} {x : Str} {px pos p₂ : Pos} {scope : Scope} {c : Fc} {own : List Addr} {s : Shared} {A : Around} {Q : Value → Shared → Prop} {E : Value → Shared → Prop} {ds : List D} {f : D → D} {cl : List (Str × Addr)}
    (hi : EvI prog w G I sc names n vals iter (.Name x px) false ds) (hsc : EnvIs c.env sc) (R : Room n A) (S : St G names I c own vals s)
    (hclos : closureFor scope c.env = pure cl) (ho : ∀ a es, Loc.own a es ∈ vals → a ∉ I.ad)
    (hre : relabel scope c.env = sc₂.scope) (hcl : cl = sc₂.cells) (hkind : scope.kind = .function) (hnc : ∀ y ∈ scope.names, y.2 ≠ .cell) (hnames : ∀ y ∈ scope.names, y.2 = .local → scope.names.lookup y.1 = some .local)
    (hx : scope.names.lookup x = some .local) (hxd : (x == ("__debug__" : Str)) = false) (hz : ds.length ≤ sizeLine)
    (he : ∀ d ∈ ds, EvE prog w G I sc₂ [x] n [.d d] elt (f d)) (hfold : ∀ y, foldedSetIterable iter c.env y = pure y)
    (hQ : ∀ D C s', Made G I names vals c own s.heap (ds.map f) D C s' → compPost (model prog w) A E use Q (.ref D) C (.ok .next) s') :
    wpAny (model prog w) A (comprehension (.ListComp elt [⟨.Name x px, iter, [], 0⟩] scope pos) scope c.env p₂ (newList []) false (eval iter c.env) use) Q E s := by
  refine wpAny_comprehension_free rfl hfold hclos hkind hnames (hi.go c own s A _ E hsc R S fun it s₂ wr X S₂ x₂ W hX hwr => ?_)
  have h0 : ∀ b ∈ wr, b ∉ c.mt → c.h₀.get? b = none := fun b hb hm => by
    cases e : c.h₀.get? b with
    | none => rfl
    | some o => have := S.ext b o hm e; rw [hwr b hb] at this; cases this
  have hfz : ∀ b ∈ wr, b ∉ c.fz := fun b hb q => by
    obtain ⟨o, e⟩ := S.alive b (List.mem_append_right _ q)
    rw [hwr b hb] at e; cases e
  have hown : ∀ b ∈ wr, b ∉ own := fun b hb q => by
    obtain ⟨o, e⟩ := S.alive b (List.mem_append_left _ q)
    rw [hwr b hb] at e; cases e
  exact comp_loop hsc (Step.ofExt x₂) hwr R S₂ hX W hown hfz h0 ho hre hcl hkind hnc hx hxd hz he hQ

theorem relabel_plain {scope : Scope} {env : Env} (h : ∀ y ∈ scope.names, y.2 ≠ .free) : relabel scope env = scope := by
  unfold relabel
  rw [map_eq_self (l := scope.names) (fun x hx => by
    obtain ⟨n, k⟩ := x
    have : (k == NameKind.free) = false := by simpa using h _ hx
    simp [this])]

theorem EvE.comp {elt iter : Expr} {x : Str} {px pos : Pos} {scope : Scope} {ds : List D} {f : D → D} (hi : EvI prog w G I sc names n vals iter (.Name x px) false ds) (hsp : plainScope scope x = true) (hz : ds.length ≤ sizeLine)
    (he : ∀ d ∈ ds, EvE prog w G I ⟨scope, []⟩ [x] n [.d d] elt (f d)) (ho : ∀ a es, Loc.own a es ∈ vals → a ∉ I.ad)
    (hfold : ∀ env y, foldedSetIterable iter env y = pure y := by intro _ _; rfl) : EvE prog w G I sc names n vals (.ListComp elt [⟨.Name x px, iter, [], 0⟩] scope pos) (.lst (ds.map f)) := by
  constructor
  intro c own s A Q E hsc R S k
  have P := plainScope_is hsp
  rw [eval_ListComp]
  have hvo : ∀ a es, Loc.own a es ∈ vals → a ∈ own := fun a es hm => by obtain ⟨m, _, h2⟩ := S.ns; exact h2.ownMem hm
  refine comp_src (use := Option.none) (sc₂ := ⟨scope, []⟩) hi hsc R S (closureFor_none P.nf) ho (relabel_plain P.nf) rfl P.kind P.nc P.loc P.hx P.xd hz he (hfold _) fun D C s' M => ?_
  obtain ⟨m, hn⟩ := M.ns
  refine ⟨m, hn, fun h' hs' => ?_⟩
  obtain ⟨S', x', r'⟩ := M.back (t := s'.toks) hs' S.lown (fun a ha => (S.iown a ha).1) hvo
  exact k _ _ S' x' r'

theorem Ex1.assignComp {elt iter : Expr} {x y : Str} {px py pos spos : Pos} {scope : Scope} {ds : List D} {f : D → D} (i : Nat) (hy : names[i]? = some y) (hi : EvI prog w G I sc names n vals iter (.Name x px) false ds) (hsp : plainScope scope x = true) (hz : ds.length ≤ sizeLine)
    (he : ∀ d ∈ ds, EvE prog w G I ⟨scope, []⟩ [x] n [.d d] elt (f d)) (ho : ∀ a es, Loc.own a es ∈ vals → a ∉ I.ad)
    (hsw : ∀ env : Env, swapsWith (.ListComp elt [⟨.Name x px, iter, [], 0⟩] scope pos) (some (.Name y py)) spos.line { env with scope := sc.scope } = pure true := by intro _; rfl)
    (hfold : ∀ env y, foldedSetIterable iter env y = pure y := by intro _ _; rfl) :
    Ex1 prog w G I sc names n vals (.Assign [.Name y py] (.ListComp elt [⟨.Name x px, iter, [], 0⟩] scope pos) spos) (.next (vals.set i (.d (.lst (ds.map f))))) := by
  constructor
  intro c own s A Q E hsc R S k
  have P := plainScope_is hsp
  have hvo : ∀ a es, Loc.own a es ∈ vals → a ∈ own := fun a es hm => by obtain ⟨m, _, h2⟩ := S.ns; exact h2.ownMem hm
  rw [exec_Assign_Name_used _ _ _ _ (by rw [env_sc hsc.1]; exact hsw _)]
  refine wpAny_bind (wpAny_standAt (wpAny_bind ?_))
  show wpAny _ A (do let _ ← comprehension (.ListComp elt [⟨.Name x px, iter, [], 0⟩] scope pos) scope c.env _ (newList []) false (eval iter c.env) (some (PySem.assign (.Name y py) c.env))) _ _ s
  refine wpAny_bind (wpAny_mono (comp_src (Q := fun _ s' => Q .next s') (use := some (PySem.assign (.Name y py) c.env)) (sc₂ := ⟨scope, []⟩) hi hsc R S (closureFor_none P.nf) ho (relabel_plain P.nf) rfl P.kind P.nc P.loc P.hx P.xd hz he (hfold _) fun D C s' M => ?_)
    (fun _ s' hq => wpAny_pure (wpAny_pure hq)) fun _ _ e => e)
  show wpAny _ A (PySem.assign (.Name y py) c.env (.ref D)) _ _ _
  obtain ⟨S', st, fD, fC, ⟨d1, d2, d3, d4⟩, ne, ⟨vs, m, hD, hr⟩, ⟨mC, hnC⟩⟩ := M
  have hCl : C ≠ c.env.locals := fun q => d3 (q ▸ S.lown)
  have S1 : St G names I c (C :: own) vals s' := S'.narrow (fun a ha => .tail _ ha) (.tail _ S.lown) (fun a ha => .tail _ (S.iown a ha).1) fun a es hm => .tail _ (hvo a es hm)
  have r1 : Rep ((C :: own) ++ c.fz) s'.heap (.ref D) (.lst (ds.map f)) := .lst (fun q => by
    rcases List.mem_append.mp q with q | q
    · rcases List.mem_cons.mp q with q | q
      · exact ne q
      · exact d2 q
    · exact d1 q) hD (hr.mono fun a o ha e => ⟨e, fun q => ha (.tail _ q)⟩)
  obtain ⟨mL, hnL, hvL⟩ := S1.ns
  refine wpAny_assign_Name (wpAny_storeName_local (S1.loc y (List.mem_of_getElem? hy)).1 hnL (fun h' hn' hs' => ?_) (by rw [S1.kind]; rfl))
  have xe : Ext (C :: own) s'.heap h' := fun b o hb e => hs'.extBut b o (fun q => hb (q ▸ S1.lown)) e
  have S2 := S1.store (t := s'.toks + 1) (l := .d (.lst (ds.map f))) hnL hvL hn' hs' hy ⟨.ref D, rfl, r1.ext xe⟩
  refine ⟨mC, hnC.sameBut hs' hCl, fun h'' hs'' => ?_⟩
  have x2 : Ext [C] h' h'' := fun b o hb e => hs''.extBut b o (fun q => hb (by rw [q]; exact .head _)) e
  have hvo2 : ∀ a es, Loc.own a es ∈ vals.set i (.d (.lst (ds.map f))) → a ∈ own := fun a es hm => by
    rcases List.mem_or_eq_of_mem_set hm with q | q
    · exact hvo a es q
    · cases q
  refine k .next _ ⟨own, ⟨fun a o ha e => ?_, fun _ h => h, fun _ h => .inl h⟩, S2.drop (t := s'.toks + 1) x2 (.head _) d3 d4 (fun a ha => .tail _ ha) S.lown (fun a ha => (S.iown a ha).1) hvo2⟩
  have hDa : a ≠ D := fun q => by rw [q, fD] at e; cases e
  have hCa : a ≠ C := fun q => by rw [q, fC] at e; cases e
  exact x2 a o (by simpa using hCa) (hs'.extBut a o (fun q => ha (q ▸ S.lown)) (st.ext a o ha e))
end
end Og
namespace Og
open PySem PySem.Calls PySem.Spec PyProof.Rows

section
variable {prog : Program} {w : World} {G : Gl} {I : Inv} {sc : Sc} {names : List Str} {n : Nat} {vals : List Loc}

theorem EvE.eq {e : Expr} {d d' : D} (x : EvE prog w G I sc names n vals e d) (h : d = d') : EvE prog w G I sc names n vals e d' := h ▸ x
theorem EvB.eq {e : Expr} {d d' : Bool} (x : EvB prog w G I sc names n vals e d) (h : d = d') : EvB prog w G I sc names n vals e d' := h ▸ x

theorem EvB.chainT {op₁ op₂ : CmpOp} {l r₁ r₂ : Expr} {p : Pos} {d d₁ d₂ : D} {b : Bool} (hl : EvE prog w G I sc names n vals l d) (h₁ : EvE prog w G I sc names n vals r₁ d₁) (h₂ : EvE prog w G I sc names n vals r₂ d₂) (c₁ : CmpOk prog w op₁ d d₁ true) (c₂ : CmpOk prog w op₂ d₁ d₂ b)
    (hm : lastMarks [op₁, op₂] [r₁, r₂] = false := by with_unfolding_all rfl) : EvB prog w G I sc names n vals (.Compare l [op₁, op₂] [r₁, r₂] p) b := by
  constructor
  intro c own s A Q E hsc R S k
  refine isTrue_chain (hl.go c own s A _ E hsc R S fun v s₁ S₁ x₁ q => ?_) hm
  refine test_link (h₁.go c own s₁ A _ E hsc R S₁ fun v₁ s₂ S₂ x₂ q₁ => ?_)
  refine c₁ (own ++ c.fz) s₂ A v v₁ _ E R.hand R.small (q.ext x₂) q₁ fun h' tk hk => wpAny_truthy_bool ?_
  have S₃ : St G names I c own vals { s₂ with heap := h', toks := tk } := S₂.keeps hk ⟨rfl, rfl, rfl⟩
  rw [if_pos rfl]
  refine test_last (h₂.go c own _ A _ E hsc R S₃ fun v₂ s₄ S₄ x₄ q₂ => ?_)
  refine c₂ (own ++ c.fz) s₄ A v₁ v₂ _ E R.hand R.small ((q₁.ext (Ext.keeps hk)).ext x₄) q₂ fun h'' tk' hk' => wpAny_truthy_bool ?_
  exact k _ (S₄.keeps hk' ⟨rfl, rfl, rfl⟩) ((((x₁.trans x₂).trans (Ext.keeps hk)).trans x₄).trans (Ext.keeps hk'))
theorem EvB.chainF {op₁ op₂ : CmpOp} {l r₁ r₂ : Expr} {p : Pos} {d d₁ : D} (hl : EvE prog w G I sc names n vals l d) (h₁ : EvE prog w G I sc names n vals r₁ d₁) (c₁ : CmpOk prog w op₁ d d₁ false)
    (hm : lastMarks [op₁, op₂] [r₁, r₂] = false := by with_unfolding_all rfl) : EvB prog w G I sc names n vals (.Compare l [op₁, op₂] [r₁, r₂] p) false := by
  constructor
  intro c own s A Q E hsc R S k
  refine isTrue_chain (hl.go c own s A _ E hsc R S fun v s₁ S₁ x₁ q => ?_) hm
  refine test_link (h₁.go c own s₁ A _ E hsc R S₁ fun v₁ s₂ S₂ x₂ q₁ => ?_)
  refine c₁ (own ++ c.fz) s₂ A v v₁ _ E R.hand R.small (q.ext x₂) q₁ fun h' tk hk => wpAny_truthy_bool ?_
  rw [if_neg Bool.false_ne_true]
  exact k _ (S₂.keeps hk ⟨rfl, rfl, rfl⟩) ((x₁.trans x₂).trans (Ext.keeps hk))

theorem ents_of {es : List DictEntry} {kvs : List (Int × Value)} (h : Pairs (intKind prog w) es kvs) (hk : ∀ e ∈ es, ∃ k, (intKind prog w).is k e.key = true ∧ e.hash = (intKind prog w).hash k) : Ents es (kvs.map (·.1)) (kvs.map (·.2)) := by
  induction h with
  | nil => exact .nil
  | @cons e kv es kvs h1 h2 _ ih =>
    obtain ⟨k, h3, h4⟩ := hk e (.head _)
    obtain ⟨t, ht⟩ := Value.isInt_shape h1
    have hk' : k = kv.1 := (intKind prog w).inj _ _ _ h3 h1
    obtain ⟨hh, key, val⟩ := e
    simp only at h2 h4 ht
    subst h2 h4 ht hk'
    exact .cons (ih fun e he => hk e (.tail _ he))
theorem Ents.pairs {es : List DictEntry} {ks : List Int} {vs : List Value} (h : Ents es ks vs) : Pairs (intKind prog w) es (ks.zip vs) := by
  induction h with
  | nil => exact .nil
  | cons _ ih => exact .cons (by simp [intKind, Value.isInt]) rfl ih
theorem Ents.keys {es : List DictEntry} {ks : List Int} {vs : List Value} (h : Ents es ks vs) : ∀ e ∈ es, ∃ k, (intKind prog w).is k e.key = true ∧ e.hash = (intKind prog w).hash k := by
  induction h with
  | nil => intro e he; cases he
  | @cons k t v es ks vs _ ih =>
    intro e he
    rcases List.mem_cons.mp he with rfl | he
    · exact ⟨k, by simp [intKind, Value.isInt], rfl⟩
    · exact ih e he
theorem dic_mapOf {h : Heap} {a : Addr} {es : Array DictEntry} {m : Nat} {ks : List Int} {vs : List Value} (ho : h.get? a = some { cls := .type "dict", data := .dict es m }) (he : Ents es.toList ks vs) : h.MapOf (intKind prog w) a (valueAt (ks.zip vs)) := by
  refine ⟨_, es, m, ho, ⟨rfl, rfl, rfl⟩, rfl, fun e hm => he.keys e (by simpa using hm), fun k => ?_⟩
  have := (he.pairs (prog := prog) (w := w)).find k
  rw [← this]
  unfold findBy
  rw [← Array.find?_toList]
noncomputable def look (ks : List Int) (ds : List D) (k : Int) : Option D := ((ks.zip ds).find? fun p => p.1 = k).map (·.2)
theorem look_value {av : List Addr} {h : Heap} {k : Int} : ∀ {ks : List Int} {vs : List Value} {ds : List D}, RepAll av h vs ds → (match look ks ds k with | some d => ∃ v, valueAt (ks.zip vs) k = some v ∧ Rep av h v d | none => valueAt (ks.zip vs) k = none)
  | [], _, _, _ => by simp [look, valueAt]
  | _ :: _, _, _, .nil => by simp [look, valueAt]
  | k' :: ks, v :: vs, d :: ds, .cons r rs => by
    by_cases hk : k' = k
    · subst hk; simp [look, valueAt, r]
    · have := look_value (k := k) (ks := ks) rs
      simp only [look, valueAt, List.zip_cons_cons, List.find?_cons, hk, decide_false] at this ⊢
      exact this

structure EvD (prog : Program) (w : World) (G : Gl) (I : Inv) (sc : Sc) (names : List Str) (n : Nat) (vals : List Loc) (keys : List (Option Expr)) (values : List Expr) (ks : List Int) (ds : List D) : Prop where
  go : ∀ (c : Fc) (own : List Addr) (s : Shared) (A : Around) (pos : Pos) (Q : List (Value × Value) → Shared → Prop) (E : Value → Shared → Prop), EnvIs c.env sc → Room n A → St G names I c own vals s →
    (∀ ps vs s', St G names I c own vals s' → Ext own s.heap s'.heap → Carries (intKind prog w) ps (ks.zip vs) → ps.length = ks.length → RepAll (own ++ c.fz) s'.heap vs ds → Q ps s') → wpAny (model prog w) A (evalPairs (pairTrees keys values c.env pos)) Q E s
theorem EvD.nil : EvD prog w G I sc names n vals [] [] [] [] := ⟨fun c own s A pos Q E hsc R S k => pairTrees_nil_walk (k [] [] s S .refl trivial rfl .nil)⟩
theorem EvD.cons {ke ve : Expr} {keys : List (Option Expr)} {values : List Expr} {k₁ : Int} {ks : List Int} {d : D} {ds : List D} (hk : EvE prog w G I sc names n vals ke (.int k₁)) (hv : EvE prog w G I sc names n vals ve d) (hr : EvD prog w G I sc names n vals keys values ks ds) :
    EvD prog w G I sc names n vals (some ke :: keys) (ve :: values) (k₁ :: ks) (d :: ds) := by
  constructor
  intro c own s A pos Q E hsc R S k
  refine pairTrees_cons_walk (hk.go c own s A _ E hsc R S fun kv s₁ S₁ x₁ q₁ => hv.go c own s₁ A _ E hsc R S₁ fun vv s₂ S₂ x₂ q₂ => hr.go c own s₂ A pos _ E hsc R S₂ fun ps vs s₃ S₃ x₃ hc hl q₃ => ?_)
  cases q₁
  exact k _ (vv :: vs) s₃ S₃ ((x₁.trans x₂).trans x₃) ⟨by simp [intKind, Value.isInt], rfl, hc⟩ (by simp [hl]) (.cons (q₂.ext x₃) q₃)
theorem zip_fst {ks : List Int} {vs : List Value} (h : ks.length = vs.length) : (ks.zip vs).map (·.1) = ks := List.map_fst_zip (by omega)
theorem zip_snd {ks : List Int} {vs : List Value} (h : ks.length = vs.length) : (ks.zip vs).map (·.2) = vs := List.map_snd_zip (by omega)

theorem EvE.dict {keys : List (Option Expr)} {values : List Expr} {pos : Pos} {ks : List Int} {ds : List D} (h : EvD prog w G I sc names n vals keys values ks ds) (hn : ks.Nodup) (hkd : ks.length = ds.length)
    (hall : keys.all (·.isSome) = true := by rfl) (hl : keys.length = values.length := by rfl) (h0 : keys ≠ [] := by exact List.cons_ne_nil _ _) (hlen : keys.length ≤ 15 := by decide) : EvE prog w G I sc names n vals (.Dict keys values pos) (.dic ks ds) := by
  constructor
  intro c own s A Q E hsc R S k
  have hsz : s.heap.get? s.heap.objs.size = none := none_size
  have hmod : (s.heap.objs.size == sysModules) = false := by
    have := modules_low (G.nolimit.keeps S.base)
    rw [beq_eq_false_iff_ne]; exact fun q => absurd this (by rw [q]; exact Nat.lt_irrefl _)
  refine wpAny_Dict_walk (knd := intKind prog w) hall hl h0 hlen ?_
  have S1 : St G names I (c.with [s.heap.objs.size]) own vals { s with heap := s.heap.push { cls := .type "dict", data := .dict #[] } } := by
    refine S.freeze (fun b o e => Heap.get?_push_of_some _ e) ⟨rfl, rfl, rfl⟩ (fun b hb => ?_) (fun b hb => ?_)
    · obtain rfl : b = _ := by simpa using hb
      exact hsz
    · obtain rfl : b = _ := by simpa using hb
      exact ⟨_, Heap.get?_push_size _ rfl⟩
  have hso : s.heap.objs.size ∉ own := fun q => S.new hsz (List.mem_append_left _ q)
  have hsf : s.heap.objs.size ∉ c.fz := fun q => S.new hsz (List.mem_append_right _ q)
  refine h.go (c.with [s.heap.objs.size]) own _ A pos _ E hsc R S1 fun ps vs s₁ S₁ x₁ hc hl r₁ => ?_
  have hdz : s₁.heap.get? s.heap.objs.size = some { cls := .type "dict", data := .dict #[] } := x₁ _ _ hso (Heap.get?_push_size _ rfl)
  have hkv : ks.length = vs.length := by rw [r₁.length, hkd]
  have hnz : ((ks.zip vs).map (·.1)).Nodup := by rw [zip_fst hkv]; exact hn
  refine ⟨ks.zip vs, hc, ⟨_, #[], 0, hdz, ⟨rfl, rfl, rfl⟩, rfl, fun e he => by simp at he, .nil, by simp⟩, fun h' hd hs => ?_⟩
  rw [merged_nil_of_nodup _ hnz] at hd
  obtain ⟨⟨cls, dd, dt, sl⟩, es, ep, ho, ⟨hc1, hc2, hc3⟩, hd2, hk2, hp2, _⟩ := hd
  simp only at hc1 hc2 hc3 hd2
  subst hc1 hc2 hc3 hd2
  have hents := ents_of hp2 fun e he => hk2 e (by simpa using he)
  rw [zip_fst hkv, zip_snd hkv] at hents
  have hkeep : ∀ b o, b ∉ [s.heap.objs.size] → s₁.heap.get? b = some o → h'.get? b = some o := fun b o hb e => hs.extBut b o (fun q => hb (by simp [q])) e
  refine k _ _ (S₁.thaw (fun b hb => ?_) (fun b hb => ?_) (fun b hb hm => ?_) hkeep) (fun a o ha e => ?_) (.dic (fun q => ?_) hmod ho hents hn (r₁.mono fun a o ha e => ⟨hkeep a o (fun q => ha ?_) e, fun q => ha ?_⟩))
  · obtain rfl : b = _ := by simpa using hb
    exact hso
  · obtain rfl : b = _ := by simpa using hb
    exact hsf
  · obtain rfl : b = _ := by simpa using hb
    cases e : c.h₀.get? s.heap.objs.size with
    | none => rfl
    | some o => have := S.ext _ o hm e; rw [hsz] at this; cases this
  · have hne : a ≠ s.heap.objs.size := fun q => by rw [q, hsz] at e; cases e
    exact hkeep a o (by simpa using hne) (x₁ a o ha (Heap.get?_push_of_some _ e))
  · rcases List.mem_append.mp q with q | q
    · exact hso q
    · exact hsf q
  · exact mem3.mpr (.inr (.inl q))
  · rcases List.mem_append.mp q with q | q
    · exact mem3.mpr (.inl q)
    · exact mem3.mpr (.inr (.inr q))

theorem EvE.dictItem {value slice : Expr} {pos : Pos} {ks : List Int} {ds : List D} {i : Int} {d : D} (hv : EvE prog w G I sc names n vals value (.dic ks ds)) (hi : EvE prog w G I sc names n vals slice (.int i)) (hd : look ks ds i = some d)
    (hs : ∀ o j, subscripted slice false o j = operate [o, j] (getItem o j) := by intro _ _; rfl) : EvE prog w G I sc names n vals (.Subscript value slice pos) d := by
  constructor
  intro c own s A Q E hsc R S k
  refine Subscript_ (hv.go c own s A _ E hsc R S fun v s₁ S₁ x₁ r₁ => hi.go c own s₁ A _ E hsc R S₁ fun j s₂ S₂ x₂ r₂ => ?_)
  have r₃ := r₁.ext x₂
  cases r₂ with | int i t =>
  cases r₃ with | @dic a es m _ vs _ ha hm ho he hn rs =>
  have hl := look_value (k := i) (ks := ks) rs
  rw [hd] at hl
  obtain ⟨x, hx, rx⟩ := hl
  have hM := dic_mapOf (prog := prog) (w := w) ho he
  refine tail_any (T := "dict") ⟨_, ho, rfl⟩ F.slot_dict_getitem.lookup (wpAny_getItem_of (knd := intKind prog w) (k := i) (by simp [intKind, Value.isInt]) hM hx ?_) (hs _ _)
  exact k x _ (S₂.keeps (fun _ _ e => e) ⟨rfl, rfl, rfl⟩) (x₁.trans x₂) rx

theorem cmp_in {ks : List Int} {ds : List D} {i : Int} {b : Bool} (hb : (look ks ds i).isSome = b) : CmpOk prog w .In (.int i) (.dic ks ds) b := by
  intro av s A v₁ v₂ Q E hA hu r₁ r₂ k
  cases r₁ with | int i t =>
  cases r₂ with | @dic a es m _ vs _ ha hm ho he hn rs =>
  have hl := look_value (k := i) (ks := ks) rs
  have hM := dic_mapOf (prog := prog) (w := w) ho he
  refine wpAny_in_of (knd := intKind prog w) (k := i) (by simp [intKind, Value.isInt]) hm hM ?_
  have : (valueAt (ks.zip vs) i).isSome = b := by
    rw [← hb]
    cases e : look ks ds i with
    | none => rw [e] at hl; simp [hl]
    | some d => rw [e] at hl; obtain ⟨x, hx, _⟩ := hl; simp [hx]
  rw [this]
  exact k s.heap _ fun _ _ e => e
theorem cmp_notIn {ks : List Int} {ds : List D} {i : Int} {b : Bool} (hb : (!(look ks ds i).isSome) = b) : CmpOk prog w .NotIn (.int i) (.dic ks ds) b := by
  intro av s A v₁ v₂ Q E hA hu r₁ r₂ k
  cases r₁ with | int i t =>
  cases r₂ with | @dic a es m _ vs _ ha hm ho he hn rs =>
  have hl := look_value (k := i) (ks := ks) rs
  have hM := dic_mapOf (prog := prog) (w := w) ho he
  refine wpAny_notIn_of (knd := intKind prog w) (k := i) (by simp [intKind, Value.isInt]) hm hM ?_
  have : (!(valueAt (ks.zip vs) i).isSome) = b := by
    rw [← hb]
    cases e : look ks ds i with
    | none => rw [e] at hl; simp [hl]
    | some d => rw [e] at hl; obtain ⟨x, hx, _⟩ := hl; simp [hx]
  rw [this]
  exact k s.heap _ fun _ _ e => e

theorem EvE.dictGet {o e f : Expr} {apos pos : Pos} {ks : List Int} {ds : List D} {i : Int} {d d' : D} (ho : EvE prog w G I sc names n vals o (.dic ks ds)) (he : EvE prog w G I sc names n vals e (.int i)) (hf : EvE prog w G I sc names n vals f d') (hd : (look ks ds i).getD d' = d)
    (hbase : ∀ env, attributeBase o "get" env (eval o env) = eval o env := by intro _; rfl)
    (hfew : ∀ env, ((backTo pos (starEach [e, f] env)).all (fun x => !x.1) && (backToKw pos (keywordEach [] env)).all (fun x => x.1.isSome)
      && decide (([e, f] : List Expr).length + ([] : List Keyword).length + (if ([] : List Keyword).isEmpty then 0 else 1) < 30)) = true := by intro _; rw [star_two rfl rfl]; rfl)
    (hline : (apos.endLine == pos.line) = true := by rfl) (htrees : ∀ env, backTo pos (starEach [e, f] env) = [(false, eval e env), (false, eval f env)] := by exact fun _ => star_two rfl rfl) :
    EvE prog w G I sc names n vals (.Call (.Attribute o "get" apos) [e, f] [] pos) d := by
  constructor
  intro c own s A Q E hsc R S k
  refine wpAny_Call_method (T := "dict") (hbase _) (hfew _) hline F.plainAttrs_dict F.slot_dict_get F.type_dict_get (ho.go c own s A _ E hsc R S fun v s₁ S₁ x₁ r₁ => ?_)
  cases r₁ with | @dic a es m _ vs _ ha hm hob hen hn rs =>
  refine ⟨⟨_, hob, rfl⟩, fun b hb => by cases hb; exact ⟨_, hob, rfl⟩, ?_⟩
  rw [htrees]
  refine wpAny_dict_get2 (knd := intKind prog w) hm (he.go c own s₁ A _ E hsc R S₁ fun kv s₂ S₂ x₂ r₂ => hf.go c own s₂ A _ E hsc R S₂ fun dv s₃ S₃ x₃ r₃ => ?_)
  cases r₂ with | int i t =>
  have hao : a ∉ own := fun q => ha (List.mem_append_left _ q)
  have hob3 := x₃ _ _ hao (x₂ _ _ hao hob)
  refine ⟨i, _, by simp [intKind, Value.isInt], dic_mapOf (prog := prog) (w := w) hob3 hen, ?_⟩
  have hl := look_value (k := i) (ks := ks) ((rs.ext x₂).ext x₃)
  refine k _ _ (S₃.keeps (fun _ _ e => e) ⟨rfl, rfl, rfl⟩) ((x₁.trans x₂).trans x₃) ?_
  cases hlk : look ks ds i with
  | none =>
    rw [hlk] at hl hd
    simp only [Option.getD_none] at hd
    subst hd
    rw [hl]; exact r₃
  | some d₁ =>
    rw [hlk] at hl hd
    simp only [Option.getD_some] at hd
    subst hd
    obtain ⟨x, hx, rx⟩ := hl
    rw [hx]; exact rx
end
end Og
namespace Og
open PySem PySem.Calls PySem.Spec PyProof.Rows

section
variable {prog : Program} {w : World} {G : Gl} {I : Inv} {sc : Sc} {names : List Str} {n : Nat} {vals : List Loc}

theorem St.ownAlive {c : Fc} {own : List Addr} {s : Shared} (S : St G names I c own vals s) {b : Addr} {es : List D} (hm : Loc.own b es ∈ vals) : ∃ o, s.heap.get? b = some o := by
  obtain ⟨m, _, h2⟩ := S.ns
  exact S.alive b (List.mem_append_left _ (h2.ownMem hm))

theorem St.bindOwn {c : Fc} {own : List Addr} {s : Shared} {A : Around} {E : Value → Shared → Prop} {Q : Unit → Shared → Prop} (hsc : EnvIs c.env sc) (S : St G names I c own vals s) {i : Nat} {x : Str} {a : Addr} {ds : List D} {vs : List Value} {m : Nat} (hx : names[i]? = some x)
    (ha : a ∈ own) (hl : a ≠ c.env.locals) (ho : s.heap.get? a = some { cls := .type "list", data := .seq vs.toArray m }) (r : RepAll (own ++ c.fz) s.heap vs ds)
    (k : ∀ s', St G names I c own (vals.set i (.own a ds)) s' → Heap.SameBut c.env.locals s.heap s'.heap → Q () s') : wpAny (model prog w) A (storeName c.env x (.ref a)) Q E s := by
  obtain ⟨mm, hn, hv⟩ := S.ns
  refine wpAny_storeName_local (S.loc x (List.mem_of_getElem? hx)).1 hn (fun h' hn' hs => ?_) (by rw [S.kind]; rfl)
  have xe : Ext own s.heap h' := fun b o hb e => hs.extBut b o (fun q => hb (q ▸ S.lown)) e
  exact k _ (S.store (l := .own a ds) hn hv hn' hs hx ⟨rfl, ha, vs, m, hs.extBut _ _ hl ho, r.ext xe⟩) hs

theorem ExS.assignOwn {es : List Expr} {lp p pos : Pos} {x : Str} {rest : List Stmt} {o : Out} {ds : List D} (i : Nat) (hx : names[i]? = some x) (hL : EvL prog w G I sc names n vals es ds)
    (hr : ∀ a, (∀ (j : Nat) b es', vals[j]? = some (Loc.own b es') → b ≠ a) → ExS prog w G I sc names n (vals.set i (.own a ds)) rest o) (hz : ds.length ≤ sizeLine := by exact Nat.le_of_ble_eq_true rfl) :
    ExS prog w G I sc names n vals (.Assign [.Name x p] (.List es lp) pos :: rest) o := by
  constructor
  intro c own s A Q E hsc R S k
  refine wpAny_execs_cons (wpAny_Assign_Name (wpAny_List (hL.go c own s A lp _ E hsc R S fun vs s₁ S₁ x₁ r₁ => ⟨by rw [r₁.length]; exact hz, ?_⟩)))
  have hn : s₁.heap.get? s₁.heap.objs.size = none := none_size
  generalize ha : s₁.heap.objs.size = a at *
  have S2 : St G names I c ([a] ++ own) vals { s₁ with heap := s₁.heap.push { cls := .type "list", data := .seq vs.toArray } } := by
    refine S₁.widen (fun b o e => Heap.get?_push_of_some _ e) ⟨rfl, rfl, rfl⟩ (fun b hb => ?_) (fun b hb => ?_)
    · obtain rfl : b = _ := by simpa using hb
      exact hn
    · obtain rfl : b = _ := by simpa using hb
      exact ⟨_, ha ▸ Heap.get?_push_size _ rfl⟩
  have hal : a ≠ c.env.locals := fun q => by
    obtain ⟨o, e⟩ := S₁.alive c.env.locals (List.mem_append_left _ S₁.lown)
    rw [← q, hn] at e; cases e
  have r2 : RepAll (([a] ++ own) ++ c.fz) (s₁.heap.push { cls := .type "list", data := .seq vs.toArray }) vs ds := r₁.mono fun b o hb e => ⟨Heap.get?_push_of_some _ e, fun q => by
    rcases List.mem_append.mp q with q | q
    · rcases List.mem_append.mp q with q | q
      · obtain rfl : b = a := by simpa using q
        rw [hn] at e; cases e
      · exact hb (List.mem_append_left _ q)
    · exact hb (List.mem_append_right _ q)⟩
  refine S2.bindOwn hsc hx (List.mem_append_left _ (.head _)) hal (ha ▸ Heap.get?_push_size _ rfl) r2 fun s₃ S₃ hs₃ => ?_
  refine (hr a (fun j b es' hj q => ?_)).go c _ s₃ A Q E hsc R S₃ fun f s' q => k f s' (q.step ?_)
  · obtain ⟨o, e⟩ := S₁.ownAlive (List.mem_of_getElem? hj)
    rw [q, hn] at e; cases e
  · refine ⟨fun b o hb e => hs₃.extBut b o (fun q => hb (q ▸ S.lown)) (Heap.get?_push_of_some _ (x₁ b o hb e)), fun b hb => List.mem_append_right _ hb, fun b hb => ?_⟩
    rcases List.mem_append.mp hb with q | q
    · obtain rfl : b = a := by simpa using q
      refine .inr ?_
      cases e : s.heap.get? b with
      | none => rfl
      | some o =>
        by_cases z : b ∈ own
        · obtain ⟨o', e'⟩ := S₁.alive b (List.mem_append_left _ z)
          rw [hn] at e'; cases e'
        · rw [x₁ b o z e] at hn; cases hn
    · exact .inl q

theorem Ex1.append {e : Expr} {x : Str} {p apos cpos pos : Pos} {a : Addr} {ds : List D} {d : D} (i : Nat) (hx : names[i]? = some x) (hl : vals[i]? = some (.own a ds)) (he : EvE prog w G I sc names n vals e d)
    (hne : ∀ (j : Nat) b es, j ≠ i → vals[j]? = some (Loc.own b es) → b ≠ a) (hai : a ∉ I.ad) (hz : ds.length ≤ sizeLine)
    (hbase : ∀ env, attributeBase (.Name x p) "append" env (eval (.Name x p) env) = eval (.Name x p) env := by intro _; rfl)
    (hfew : ∀ env, ((backTo cpos (starEach [e] env)).all (fun x => !x.1) && (backToKw cpos (keywordEach [] env)).all (fun x => x.1.isSome)
      && decide (([e] : List Expr).length + ([] : List Keyword).length + (if ([] : List Keyword).isEmpty then 0 else 1) < 30)) = true := by intro _; rw [star_one rfl]; rfl)
    (hline : (apos.endLine == cpos.line) = true := by rfl) (htrees : ∀ env, backTo cpos (starEach [e] env) = [(false, eval e env)] := by exact fun _ => star_one rfl)
    (hsw : ∀ env, swapsWith (.Call (.Attribute (.Name x p) "append" apos) [e] [] cpos) none pos.line env = pure false := by intro _; rfl) :
    Ex1 prog w G I sc names n vals (.Expr (.Call (.Attribute (.Name x p) "append" apos) [e] [] cpos) pos) (.next (vals.set i (.own a (ds ++ [d])))) := by
  constructor
  intro c own s A Q E hsc R S k
  obtain ⟨m, hn, hv⟩ := S.ns
  obtain ⟨hm, ha, vs, mm, ho, rs⟩ := hv.get hx hl
  have hlx := S.loc x (List.mem_of_getElem? hx)
  have hint : interactive c.env = false := by unfold interactive; rw [S.kind]; rfl
  refine wpAny_Expr (wpAny_Call_append (hbase _) (hfew _) hline (htrees _) (wpAny_Name (wpAny_loadName_local S.kind hlx.1 hn hm ⟨a, vs.toArray, rfl, ⟨_, mm, ho, rfl, rfl, rfl⟩, he.go c own s A _ E hsc R S fun y s₁ S₁ x₁ r₁ => ?_⟩) hlx.2)) hint (hsw _)
  obtain ⟨m₁, hn₁, hv₁⟩ := S₁.ns
  obtain ⟨hm₁, _, vs₁, mm₁, ho₁, rs₁⟩ := hv₁.get hx hl
  refine list_append_obj ho₁ (fun h' m' ho' hs' => ?_) (by rw [rs₁.length]; exact hz)
  have hal : a ≠ c.env.locals := fun q => by
    obtain ⟨oL, _, _, e, hd, _⟩ := hn₁
    rw [← q, ho₁] at e; cases e; cases hd
  have xe : Ext own s₁.heap h' := fun b o hb e => hs'.extBut b o (fun q => hb (q ▸ ha)) e
  refine k .next _ ⟨own, Step.ofExt (x₁.trans xe), ?_⟩
  exact {
    kind := S₁.kind
    glob := S₁.glob
    blt := S₁.blt
    loc := S₁.loc
    nodup := S₁.nodup
    base := fun b o e => hs'.extBut b o (fun q => by have := S₁.apart b (List.mem_append_left _ (q ▸ ha)); rw [e] at this; cases this) (S₁.base b o e)
    ns := by
      refine ⟨m₁, ?_, ?_⟩
      · obtain ⟨oL, es, ep, e, r⟩ := hn₁
        exact ⟨oL, es, ep, hs'.extBut _ _ (Ne.symm hal) e, r⟩
      · refine hv₁.turn ha hs' hne fun x' hx' => ?_
        rw [hx] at hx'
        cases hx'
        exact ⟨hm₁, ha, vs₁ ++ [y], m', ho', (rs₁.append (.cons r₁ .nil)).ext xe⟩
    lown := S₁.lown
    alive := fun b hb => by
      by_cases q : b = a
      · exact ⟨_, q ▸ ho'⟩
      · obtain ⟨o, e⟩ := S₁.alive b hb
        exact ⟨o, hs'.extBut b o q e⟩
    ext := fun b o hb e => hs'.extBut b o (fun q => by
      rcases S₁.fresh a ha with z | z
      · exact hb (q ▸ z)
      · rw [q, z] at e; cases e) (S₁.ext b o hb e)
    fresh := S₁.fresh
    apart := S₁.apart
    inv := I.keep _ _ S₁.inv fun b hb o e => hs'.extBut b o (fun q => hai (q ▸ hb)) e
    iown := S₁.iown
    same := S₁.same.trans ⟨rfl, rfl, rfl⟩ }

theorem EvE.addOwn {x y : Str} {p q pos : Pos} {a b : Addr} {ds es : List D} (i j : Nat) (hx : names[i]? = some x) (hl : vals[i]? = some (.own a ds)) (hy : names[j]? = some y) (hl' : vals[j]? = some (.own b es)) (hz : ds.length + es.length ≤ sizeLine) :
    EvE prog w G I sc names n vals (.BinOp (.Name x p) .Add (.Name y q) pos) (.lst (ds ++ es)) := by
  constructor
  intro c own s A Q E hsc R S k
  obtain ⟨m, hn, hv⟩ := S.ns
  obtain ⟨hm, ha, vs, mm, ho, rs⟩ := hv.get hx hl
  obtain ⟨hm', hb, ws, mm', ho', rs'⟩ := hv.get hy hl'
  have hlx := S.loc x (List.mem_of_getElem? hx)
  have hly := S.loc y (List.mem_of_getElem? hy)
  refine wpAny_BinOp (wpAny_Name (wpAny_loadName_local S.kind hlx.1 hn hm (wpAny_Name (wpAny_loadName_local S.kind hly.1 hn hm' ?_) hly.2)) hlx.2)
  refine P.add_list ho ho' ?_ (by simp only [List.size_toArray]; rw [rs.length, rs'.length]; exact hz)
  rw [List.append_toArray]
  exact k _ _ (S.push _) (Ext.push _) (.lst (S.new none_size) (Heap.get?_push_size _ rfl) ((rs.append rs').push _))
theorem EvE.itemOwn {x : Str} {p pos : Pos} {slice : Expr} {a : Addr} {ds : List D} {k : Int} {d : D} (i : Nat) (hx : names[i]? = some x) (hl : vals[i]? = some (.own a ds)) (hi : EvE prog w G I sc names n vals slice (.int k)) (h0 : 0 ≤ k) (hd : ds[k.toNat]? = some d) (hf : ds.length ≤ sizeLine)
    (hs : ∀ o j, subscripted slice false o j = operate [o, j] (getItem o j) := by intro _ _; rfl) : EvE prog w G I sc names n vals (.Subscript (.Name x p) slice pos) d := by
  constructor
  intro c own s A Q E hsc R S kk
  obtain ⟨m, hn, hv⟩ := S.ns
  obtain ⟨hm, ha, vs, mm, ho, rs⟩ := hv.get hx hl
  have hlx := S.loc x (List.mem_of_getElem? hx)
  refine Subscript_ (wpAny_Name (wpAny_loadName_local S.kind hlx.1 hn hm (hi.go c own s A _ E hsc R S fun j s₂ S₂ x₂ r₂ => ?_)) hlx.2)
  obtain ⟨m₂, hn₂, hv₂⟩ := S₂.ns
  obtain ⟨hm₂, _, vs, mm, ho, rs⟩ := hv₂.get hx hl
  cases r₂
  obtain ⟨y, hy, ry⟩ := rs.get hd
  have hlt : k.toNat < ds.length := (List.getElem?_eq_some_iff.mp hd).1
  have h63 : k < 2 ^ 63 := by
    have : sizeLine = 16777216 := rfl
    omega
  have hl' : s₂.heap.IsList a vs.toArray := ⟨_, ho, rfl, mm, rfl⟩
  exact tail_any hl'.typeIs list_getitem_lookup (wpAny_getItem_list hl' h0 h63 (by simpa using hy) (kk y s₂ S₂ x₂ ry)) (hs _ _)

theorem rev_tail {value : Expr} {p : Pos} {c : Fc} {own : List Addr} {s : Shared} {A : Around} {Q : Value → Shared → Prop} {E : Value → Shared → Prop} {l : Addr} {vs : List Value} {m : Nat} {ds : List D} {cp q : Pos} {j : Nat} (S : St G names I c own vals s)
    (ho : s.heap.get? l = some { cls := .type "list", data := .seq vs.toArray m }) (rs : RepAll (own ++ c.fz) s.heap vs ds) (hz : ds.length ≤ sizeLine)
    (k : ∀ v s', St G names I c own vals s' → (∀ b o, s.heap.get? b = some o → s'.heap.get? b = some o) → Rep (own ++ c.fz) s'.heap v (.lst ds.reverse) → Q v s') :
    wpAny (model prog w) A (eval (.Slice none none (some (.UnaryOp .USub (.Constant (.int 1) j cp) q)) p) c.env) (fun i s₂ => wpAny (model prog w) A (subscriptTail value (.Slice none none (some (.UnaryOp .USub (.Constant (.int 1) j cp) q)) p) (.ref l) i) Q E s₂) E s := by
  refine wpAny_Slice (wpAny_evalPart_none (wpAny_evalPart_none (wpAny_evalPart_some (wpAny_UnaryOp (wpAny_Constant_int (PyProof.Rows.neg_int ?_))))))
  have S1 : St G names I c own vals { s with toks := s.toks + 1 + 1 } := S.keeps (fun _ _ e => e) ⟨rfl, rfl, rfl⟩
  have hl' : (s.heap.push { cls := .type "slice", data := .fields #[.none, .none, .int (-1) (s.toks + 1)] }).IsList l vs.toArray := ⟨_, Heap.get?_push_of_some _ ho, rfl, m, rfl⟩
  refine tail_any (T := "list") (Heap.IsList.typeIs (s := { s with heap := s.heap.push _, toks := _ }) hl') list_getitem_lookup (wpAny_getItem_list_slice (s := { s with heap := s.heap.push _, toks := _ }) hl' (Heap.IsSliceOf.new ..) .none .none (.int (-1) _) (by simp) ?_ (by simp only [List.size_toArray]; rw [rs.length]; exact hz)) rfl
  rw [PySem.W.krv_pick]
  refine k _ _ ((S1.push _).push _) (fun b o e => Heap.get?_push_of_some _ (Heap.get?_push_of_some _ e)) ?_
  exact .lst ((S1.push _).new none_size) (Heap.get?_push_size _ rfl) (by simpa using ((rs.push _).push _).reverse)
theorem EvE.revOwn {x : Str} {xp p pos cp q : Pos} {j : Nat} {a : Addr} {ds : List D} (i : Nat) (hx : names[i]? = some x) (hl : vals[i]? = some (.own a ds)) (hz : ds.length ≤ sizeLine) :
    EvE prog w G I sc names n vals (.Subscript (.Name x xp) (.Slice none none (some (.UnaryOp .USub (.Constant (.int 1) j cp) q)) p) pos) (.lst ds.reverse) := by
  constructor
  intro c own s A Q E hsc R S k
  obtain ⟨m, hn, hv⟩ := S.ns
  obtain ⟨hm, ha, vs, mm, ho, rs⟩ := hv.get hx hl
  have hlx := S.loc x (List.mem_of_getElem? hx)
  refine Subscript_ (wpAny_Name (wpAny_loadName_local S.kind hlx.1 hn hm ?_) hlx.2)
  exact rev_tail S ho rs hz fun v s' S' hk r => k v s' S' (Ext.keeps hk) r

theorem EvE.neg {e : Expr} {p : Pos} {a : Int} (h : EvE prog w G I sc names n vals e (.int a)) : EvE prog w G I sc names n vals (.UnaryOp .USub e p) (.int (-a)) := by
  constructor
  intro c own s A Q E hsc R S k
  refine wpAny_UnaryOp (h.go c own s A _ E hsc R S fun v s₁ S₁ x₁ r₁ => ?_)
  cases r₁
  exact PyProof.Rows.neg_int (k _ _ (S₁.keeps (fun _ _ e => e) ⟨rfl, rfl, rfl⟩) x₁ (.int _ _))
theorem EvE.inv {e : Expr} {p : Pos} {a : Int} (h : EvE prog w G I sc names n vals e (.int a)) : EvE prog w G I sc names n vals (.UnaryOp .Invert e p) (.int (Builtin.bitNot a)) := by
  constructor
  intro c own s A Q E hsc R S k
  refine wpAny_UnaryOp (h.go c own s A _ E hsc R S fun v s₁ S₁ x₁ r₁ => ?_)
  cases r₁
  exact PyProof.Rows.invert_int (k _ _ (S₁.keeps (fun _ _ e => e) ⟨rfl, rfl, rfl⟩) x₁ (.int _ _))

theorem EvE.bytes {b : List UInt8} {k : Nat} {p : Pos} : EvE prog w G I sc names n vals (.Constant (.bytes b) k p) (.bytes b.toArray) :=
  ⟨fun _ _ _ _ _ _ _ _ S k => PySem.W.Constant_bytes (k _ _ (S.keeps (fun _ _ e => e) ⟨rfl, rfl, rfl⟩) .refl (.bytes _ _))⟩
theorem op_catB {b c : Array UInt8} (hz : b.size + c.size ≤ sizeLine) : OpOk prog w (binaryOp .Add) (.bytes b) (.bytes c) (.bytes (b ++ c)) := by
  intro av s A v₁ v₂ Q E _ _ hv _ r₁ r₂ k
  cases r₁; cases r₂
  exact PySem.W.KBy.add_bytes hz fun t' k' => k _ s.heap k' (fun _ _ e => e) (.bytes _ _)

theorem reps_ints {av : List Addr} {h : Heap} : ∀ {vs : List Value} {ns : List Int}, RepAll av h vs (ns.map D.int) → IntsAre vs ns
  | [], [], _ => .nil
  | _ :: _, _ :: _, .cons r rs => by
    cases r
    exact .cons _ _ (reps_ints rs)
theorem bytes_ints {ns : List Int} (hr : ∀ n ∈ ns, 0 ≤ n ∧ n < 256) (hz : ns.length ≤ sizeLine) : CallOk prog w (.type "bytes") [.lst (ns.map D.int)] (.bytes (byteArr ns)) := by
  intro av s A vs Q E hA _ hv _ r k
  cases r with | cons r₁ rn =>
  cases rn
  cases r₁ with | @lst l ws m _ ha ho rs =>
  have hi := reps_ints rs
  exact call_bytes_ints ⟨_, ho, rfl, m, rfl⟩ hi hr (by rw [rs.length, List.length_map]; exact hz) hA fun h' t kk hk => k _ h' kk hk (.bytes _ _)
end
end Og
namespace Og
open PySem PySem.Calls PySem.Spec PyProof.Rows
noncomputable abbrev PP : Program := Challenge.pw_og0263_01
noncomputable def stOf (k : Nat) : Stmt := (PP.main.body[k]?).getD (.Pass ⟨0,0,0,0⟩)
noncomputable def nameOf : Stmt → Str
  | .FunctionDef n _ _ _ _ _ _ _ _ _ => n
  | _ => ""
noncomputable def paramsOf : Stmt → Arguments
  | .FunctionDef _ a _ _ _ _ _ _ _ _ => a
  | _ => ⟨[], [], none, [], [], none, []⟩
noncomputable def bodyOf : Stmt → List Stmt
  | .FunctionDef _ _ b _ _ _ _ _ _ _ => b
  | _ => []
noncomputable def scopeOf : Stmt → Scope
  | .FunctionDef _ _ _ _ _ _ s _ _ _ => s
  | _ => default
noncomputable abbrev Fn (G : Gl) (k : Nat) (dfl : Option (Array Value)) : Prop := FnAt G (nameOf (stOf k)) (paramsOf (stOf k)) (bodyOf (stOf k)) (scopeOf (stOf k)) dfl

noncomputable def nums : List (Str × Int) := [("BOLD", 1), ("FAINT", 2), ("ITALIC", 4), ("BLINK", 8), ("FAST", 16), ("INVERSE", 32), ("HIDDEN", 64), ("STRUCK", 128), ("OVERLINE", 256), ("UNDER_SHIFT", 9), ("UNDER_MASK", 3584), ("NO_COLOUR", -1), ("DIRECT", 16777216),
  ("FLAGS", 0), ("FORE", 1), ("BACK", 2), ("UNDER", 3), ("LINK", 4), ("FIGURE_FIRST", 48), ("FIGURE_LAST", 57), ("COLON", 58), ("SEMICOLON", 59), ("SGR_RESET", 0), ("SGR_FORE", 38), ("SGR_BACK", 48), ("SGR_UNDER", 58), ("FIRST_BRIGHT", 8), ("MOST_COLOUR", 255)]
noncomputable def iD (l : List Int) : List D := l.map D.int
structure Top (G : Gl) : Prop where
  num : ∀ p ∈ nums, GData G p.1 (.int p.2)
  plain : GData G "PLAIN" (.tup (iD [0, -1, -1, -1, 0]))
  fns : ∀ k ∈ [20, 21, 22, 23, 24, 25, 26, 34, 35, 46, 47, 48, 49, 50, 51, 52, 53, 54, 55, 56, 59, 68, 69, 70, 71, 72, 73, 74], Fn G k none
  fnd : ∀ k ∈ [57, 58], Fn G k (some #[.bool true])
  blt : ∀ p ∈ ([("len", .builtin "len"), ("bytes", .type "bytes"), ("max", .builtin "max"), ("min", .builtin "min"), ("list", .type "list"), ("zip", .type "zip"), ("range", .type "range"), ("int", .type "int")] : List (Str × Value)), BAt G p.1 p.2

section
variable {w : World} {G : Gl} {I : Inv} {sc : Sc} {names : List Str} {n : Nat} {vals : List Loc}

theorem EvE.num (T : Top G) {x : Str} {p : Pos} (i : Int) (h : (x, i) ∈ nums := by decide +kernel) (hx : sc.scope.names.lookup x = some .globalImplicit := by rfl) (hd : (x == ("__debug__" : Str)) = false := by decide) : EvE PP w G I sc names n vals (.Name x p) (.int i) :=
  EvE.glob (T.num _ h) hx hd

theorem pen_with_spec (T : Top G) (ds : List D) (k : Nat) (d : D) (hk : k < ds.length) (hz : ds.length ≤ 100) : Spec PP w G 2 "pen_with" [.tup ds, .int k, d] (.tup (ds.set k d)) := by
  refine Spec.intro (ps := ["pen", "place", "value"]) (rest := []) (T.fns 21 (by decide)) (fun s pm code doc dV vs hl hd => ?_) rfl (by decide +kernel) ?_
  · obtain ⟨a, b, c, rfl⟩ := len3 hl
    exact BindsTo.of_eq (by cases hd; rfl)
  · have hs : sizeLine = 16777216 := rfl
    have e : ds.set k d = (cut none (some k) ds ++ [d]) ++ cut (some (k + 1)) none ds := by
      simp [cut, List.set_eq_take_append_cons_drop, hk]
    rw [e]
    have l1 := cut_length_le none (some k) ds
    have l2 := cut_length_le (some (k + 1)) none ds
    exact ExS.stop (Ex1.ret (EvE.bin (EvE.bin (EvE.cutT (EvE.name 0 rfl rfl) EvP.no (EvP.at (EvE.name 1 rfl rfl)) (by omega)) (EvE.tuple (EvL.cons (EvE.name 2 rfl rfl) EvL.nil)) (op_catT (by simp; omega)))
      (EvE.cutT (EvE.name 0 rfl rfl) (EvP.at (k := k + 1) (EvE.bin (EvE.name 1 rfl rfl) EvE.cInt (op_add _ _))) EvP.no (by omega)) (op_catT (by simp; omega))))
theorem under_of_spec (T : Top G) (f : Int) : Spec PP w G 2 "under_of" [.int f] (.int ((Builtin.bitAnd f 3584).fdiv 512)) := by
  refine Spec.intro (ps := ["flags"]) (rest := []) (T.fns 22 (by decide)) (fun s pm code doc dV vs hl hd => ?_) rfl (by decide +kernel) ?_
  · obtain ⟨a, rfl⟩ := len1 hl
    exact BindsTo.of_eq (by cases hd; rfl)
  · exact ExS.stop (Ex1.ret (EvE.bin (EvE.bin (EvE.name 0 rfl rfl) (EvE.num T 3584) (op_and _ _)) (EvE.num T 9) (op_shr (b := 9) (by decide))))
theorem flags_with_under_spec (T : Top G) (f k : Int) (hk : k.natAbs < 2 ^ 64) : Spec PP w G 2 "flags_with_under" [.int f, .int k] (.int (Builtin.bitOr (Builtin.bitAnd f (-3585)) (k * 512))) := by
  refine Spec.intro (ps := ["flags", "kind"]) (rest := []) (T.fns 23 (by decide)) (fun s pm code doc dV vs hl hd => ?_) rfl (by decide +kernel) ?_
  · obtain ⟨a, b, rfl⟩ := len2 hl
    exact BindsTo.of_eq (by cases hd; rfl)
  · exact ExS.stop (Ex1.ret (EvE.bin (EvE.bin (EvE.name 0 rfl rfl) (EvE.inv (EvE.num T 3584)) (op_and _ _)) (EvE.bin (EvE.name 1 rfl rfl) (EvE.num T 9) (op_shl (b := 9) (by decide) (by decide) hk)) (op_or _ _)))
theorem is_direct_spec (T : Top G) (c : Int) : Spec PP w G 2 "is_direct" [.int c] (.bool (decide (16777216 ≤ c))) := by
  refine Spec.intro (ps := ["colour"]) (rest := []) (T.fns 24 (by decide)) (fun s pm code doc dV vs hl hd => ?_) rfl (by decide +kernel) ?_
  · obtain ⟨a, rfl⟩ := len1 hl
    exact BindsTo.of_eq (by cases hd; rfl)
  · exact ExS.stop (Ex1.ret (EvE.cmp (EvE.name 0 rfl rfl) (EvE.num T 16777216) (cmp_ge _ _)))
theorem rgb_of_spec (T : Top G) (c : Int) : Spec PP w G 2 "rgb_of" [.int c] (.tup (iD [Builtin.bitAnd (c.fdiv 65536) 255, Builtin.bitAnd (c.fdiv 256) 255, Builtin.bitAnd c 255])) := by
  refine Spec.intro (ps := ["colour"]) (rest := []) (T.fns 25 (by decide)) (fun s pm code doc dV vs hl hd => ?_) rfl (by decide +kernel) ?_
  · obtain ⟨a, rfl⟩ := len1 hl
    exact BindsTo.of_eq (by cases hd; rfl)
  · exact ExS.stop (Ex1.ret (EvE.tuple (EvL.cons (EvE.bin (EvE.bin (EvE.name 0 rfl rfl) EvE.cInt (op_shr (b := 16) (by decide))) EvE.cInt (op_and _ _)) (EvL.cons (EvE.bin (EvE.bin (EvE.name 0 rfl rfl) EvE.cInt (op_shr (b := 8) (by decide))) EvE.cInt (op_and _ _))
      (EvL.cons (EvE.bin (EvE.name 0 rfl rfl) EvE.cInt (op_and _ _)) EvL.nil)))))
theorem direct_colour_spec (T : Top G) (r g b : Int) (hr : r.natAbs < 2 ^ 64) (hg : g.natAbs < 2 ^ 64) : Spec PP w G 2 "direct_colour" [.int r, .int g, .int b] (.int (16777216 + Builtin.bitOr (Builtin.bitOr (r * 65536) (g * 256)) b)) := by
  refine Spec.intro (ps := ["red", "green", "blue"]) (rest := []) (T.fns 26 (by decide)) (fun s pm code doc dV vs hl hd => ?_) rfl (by decide +kernel) ?_
  · obtain ⟨a, b, c, rfl⟩ := len3 hl
    exact BindsTo.of_eq (by cases hd; rfl)
  · exact ExS.stop (Ex1.ret (EvE.bin (EvE.num T 16777216) (EvE.bin (EvE.bin (EvE.bin (EvE.name 0 rfl rfl) EvE.cInt (op_shl (b := 16) (by decide) (by decide) hr)) (EvE.bin (EvE.name 1 rfl rfl) EvE.cInt (op_shl (b := 8) (by decide) (by decide) hg)) (op_or _ _)) (EvE.name 2 rfl rfl) (op_or _ _)) (op_add _ _)))
end
end Og
namespace Og
open PySem PySem.Calls PySem.Spec PyProof.Rows

noncomputable def digs (n : Nat) : List Int := (48 + (n : Int) % 10) :: (if h : 0 < n / 10 then digs (n / 10) else [])
termination_by n
decreasing_by omega
theorem digs_eq (n : Nat) : digs n = (48 + (n : Int) % 10) :: (if 0 < n / 10 then digs (n / 10) else []) := by
  rw [digs]; split <;> simp_all
theorem digs_range (n : Nat) : ∀ x ∈ digs n, 0 ≤ x ∧ x < 256 := by
  induction n using Nat.strongRecOn with
  | ind n ih =>
    intro x hx
    rw [digs_eq] at hx
    rcases List.mem_cons.mp hx with rfl | hx
    · omega
    · split at hx
      · exact ih _ (by omega) x hx
      · cases hx
theorem digs_length (n : Nat) : (digs n).length ≤ n + 1 := by
  induction n using Nat.strongRecOn with
  | ind n ih =>
    rw [digs_eq]
    split
    · have := ih (n / 10) (by omega)
      simp only [List.length_cons]; omega
    · simp
noncomputable def decB (n : Nat) : Array UInt8 := byteArr (digs n).reverse

section
variable {prog : Program} {w : World} {G : Gl} {I : Inv} {sc : Sc} {names : List Str} {n : Nat} {vals : List Loc}
inductive Wk : List Loc → List Loc → Prop
  | nil : Wk [] []
  | same {l : Loc} {a b : List Loc} : Wk a b → Wk (l :: a) (l :: b)
  | un {l : Loc} {a b : List Loc} : Wk a b → Wk (l :: a) (.un :: b)
theorem Wk.refl : ∀ (a : List Loc), Wk a a
  | [] => .nil
  | _ :: r => .same (Wk.refl r)
theorem Vars.wk {own fz : List Addr} {h : Heap} {m : Str → Option Value} {xs : List Str} {a b : List Loc} (X : Vars own fz h m xs a) (k : Wk a b) : Vars own fz h m xs b := by
  induction X generalizing b with
  | nil => cases k; exact .nil
  | cons q _ ih => cases k with
    | same k => exact .cons q (ih k)
    | un k => exact .cons True.intro (ih k)
theorem St.wk {c : Fc} {own : List Addr} {s : Shared} {a b : List Loc} (S : St G names I c own a s) (k : Wk a b) : St G names I c own b s :=
  { S with ns := by obtain ⟨m, h1, h2⟩ := S.ns; exact ⟨m, h1, h2.wk k⟩ }
theorem ExS.wkO {vals v v' : List Loc} {b : List Stmt} (h : ExS prog w G I sc names n vals b (.next v)) (k : Wk v v') : ExS prog w G I sc names n vals b (.next v') := by
  constructor
  intro c own s A Q E hsc R S kk
  refine h.go c own s A Q E hsc R S fun f s' q => ?_
  cases f <;> first
    | (obtain ⟨own', x, S'⟩ := q; exact kk .next s' ⟨own', x, S'.wk k⟩)
    | exact q.elim
theorem Ex1.eqV {vals vals' : List Loc} {b : Stmt} {o : Out} (h : Ex1 prog w G I sc names n vals' b o) (k : vals = vals') : Ex1 prog w G I sc names n vals b o := k ▸ h
theorem ExS.eqO {vals : List Loc} {b : List Stmt} {o o' : Out} (h : ExS prog w G I sc names n vals b o) (k : o = o') : ExS prog w G I sc names n vals b o' := k ▸ h
theorem Ex1.eqO {vals : List Loc} {b : Stmt} {o o' : Out} (h : Ex1 prog w G I sc names n vals b o) (k : o = o') : Ex1 prog w G I sc names n vals b o' := k ▸ h
theorem WhOk.fam {σ : Type} {t : Expr} {body : List Stmt} (V : σ → List Loc) (O : σ → Out) (P : σ → Prop) (m : σ → Nat)
    (step : ∀ x, P x → (EvB prog w G I sc names n (V x) t false ∧ O x = .next (V x)) ∨ (∃ y, m y < m x ∧ P y ∧ EvB prog w G I sc names n (V x) t true ∧ ExS prog w G I sc names n (V x) body (.next (V y)) ∧ O y = O x)) :
    ∀ x, P x → ∃ k, WhOk prog w G I sc names n t body k (V x) (O x) := by
  have : ∀ (k : Nat) (x : σ), m x ≤ k → P x → ∃ k, WhOk prog w G I sc names n t body k (V x) (O x) := by
    intro k
    induction k with
    | zero =>
      intro x hx hp
      rcases step x hp with ⟨h1, h2⟩ | ⟨y, h1, _⟩
      · exact ⟨0, h2 ▸ .done h1⟩
      · omega
    | succ k ih =>
      intro x hx hp
      rcases step x hp with ⟨h1, h2⟩ | ⟨y, h1, hp', h2, h3, h4⟩
      · exact ⟨0, h2 ▸ .done h1⟩
      · obtain ⟨j, hj⟩ := ih y (by omega) hp'
        exact ⟨j + 1, .turn h2 h3 (h4 ▸ hj)⟩
  exact fun x hp => this (m x) x (Nat.le_refl _) hp
theorem Ex1.whileFam {σ : Type} {t : Expr} {body : List Stmt} {p : Pos} (V : σ → List Loc) (O : σ → Out) (P : σ → Prop) (m : σ → Nat) (x : σ) {o : Out} (hv : vals = V x) (hx : P x) (ho : O x = o)
    (step : ∀ x, P x → (EvB prog w G I sc names n (V x) t false ∧ O x = .next (V x)) ∨ (∃ y, m y < m x ∧ P y ∧ EvB prog w G I sc names n (V x) t true ∧ ExS prog w G I sc names n (V x) body (.next (V y)) ∧ O y = O x)) :
    Ex1 prog w G I sc names n vals (.While t body [] p) o := by
  subst hv
  subst ho
  obtain ⟨k, h⟩ := WhOk.fam V O P m step x hx
  exact Ex1.while h
theorem ForOk.fam {σ α : Type} {top : Bool} {t : Expr} {body : List Stmt} (g : α → D) (V : σ → List Loc) (f : σ → α → σ) (P : σ → Prop) : ∀ (ls : List α)
    (_ : ∀ x a, a ∈ ls → P x → P (f x a) ∧ ∃ v₁ v₂, AsT top prog w G I sc names n (V x) t (g a) v₁ ∧ Wk v₂ (V (f x a)) ∧ (ExS prog w G I sc names n v₁ body (.next v₂) ∨ ExS prog w G I sc names n v₁ body (.cont v₂) ∧ v₂ = V (f x a))) (x : σ) (_ : P x), ForOk prog w G I sc names n top t body (V x) (ls.map g) (.next (V (ls.foldl f x)))
  | [], _, x, _ => .nil
  | a :: ls, step, x, hp => by
    obtain ⟨h1, v₁, v₂, h2, h3, h4⟩ := step x a (.head _) hp
    have := ForOk.fam g V f P ls (fun x d hd => step x d (.tail _ hd)) (f x a) h1
    rcases h4 with h4 | ⟨h4, rfl⟩
    · exact .next h2 (h4.wkO h3) this
    · exact .cont h2 h4 this
end

section
variable {w : World} {G : Gl} {I : Inv} {sc : Sc} {names : List Str} {n : Nat} {vals : List Loc}

theorem EvB.lt {l r : Expr} {p : Pos} {a b : Int} {t : Bool} (hl : EvE PP w G I sc names n vals l (.int a)) (hr : EvE PP w G I sc names n vals r (.int b)) (h : decide (a < b) = t) (hm : behindInMarks .Lt r = false := by with_unfolding_all rfl) : EvB PP w G I sc names n vals (.Compare l [.Lt] [r] p) t := EvB.cmp hl hr (h ▸ cmp_lt a b) hm
theorem EvB.gt {l r : Expr} {p : Pos} {a b : Int} {t : Bool} (hl : EvE PP w G I sc names n vals l (.int a)) (hr : EvE PP w G I sc names n vals r (.int b)) (h : decide (b < a) = t) (hm : behindInMarks .Gt r = false := by with_unfolding_all rfl) : EvB PP w G I sc names n vals (.Compare l [.Gt] [r] p) t := EvB.cmp hl hr (h ▸ cmp_gt a b) hm
theorem EvB.le {l r : Expr} {p : Pos} {a b : Int} {t : Bool} (hl : EvE PP w G I sc names n vals l (.int a)) (hr : EvE PP w G I sc names n vals r (.int b)) (h : decide (a ≤ b) = t) (hm : behindInMarks .LtE r = false := by with_unfolding_all rfl) : EvB PP w G I sc names n vals (.Compare l [.LtE] [r] p) t := EvB.cmp hl hr (h ▸ cmp_le a b) hm
theorem EvB.ge {l r : Expr} {p : Pos} {a b : Int} {t : Bool} (hl : EvE PP w G I sc names n vals l (.int a)) (hr : EvE PP w G I sc names n vals r (.int b)) (h : decide (b ≤ a) = t) (hm : behindInMarks .GtE r = false := by with_unfolding_all rfl) : EvB PP w G I sc names n vals (.Compare l [.GtE] [r] p) t := EvB.cmp hl hr (h ▸ cmp_ge a b) hm
theorem EvB.eqI {l r : Expr} {p : Pos} {a b : Int} {t : Bool} (hl : EvE PP w G I sc names n vals l (.int a)) (hr : EvE PP w G I sc names n vals r (.int b)) (h : (a == b) = t) (hm : behindInMarks .Eq r = false := by with_unfolding_all rfl) : EvB PP w G I sc names n vals (.Compare l [.Eq] [r] p) t := EvB.cmp hl hr (h ▸ cmp_eqI a b) hm

theorem div_small {a b : Int} (h : b.natAbs < 2 ^ 64) : Builtin.divisionGoesByPylong a b = false := by
  unfold Builtin.divisionGoesByPylong
  have : (if b == 0 then 0 else b.natAbs.log2 / 30 + 1) ≤ 300 := by
    split
    · omega
    · rename_i hb
      have hb0 : b.natAbs ≠ 0 := by simpa using hb
      have : b.natAbs.log2 < 64 := (Nat.log2_lt hb0).mpr h
      omega
  simp only [Bool.and_eq_false_iff, decide_eq_false_iff_not]
  left
  exact Nat.not_lt.mpr this

theorem decimal_octets_spec (T : Top G) (m : Nat) (hm : m ≤ 100000) : Spec PP w G 2 "decimal_octets" [.int m] (.bytes (decB m)) := by
  have hsl : sizeLine = 16777216 := rfl
  refine Spec.intro (ps := ["number"]) (rest := ["rest", "found"]) (T.fns 20 (by decide)) (fun s pm code doc dV vs hl hd => ?_) rfl (by decide +kernel) ?_
  · obtain ⟨a, rfl⟩ := len1 hl
    exact BindsTo.of_eq (by cases hd; rfl)
  · refine ExS.cons (Ex1.assign 1 rfl (EvE.ifT (EvB.ge (EvE.name 0 rfl rfl) EvE.cInt (by simp)) (EvE.name 0 rfl rfl))) ?_
    refine ExS.assignOwn 2 rfl (EvL.cons (EvE.bin EvE.cInt (EvE.bin (EvE.name 1 rfl rfl) EvE.cInt (op_mod (b := 10) (by decide))) (op_add _ _)) EvL.nil) fun a ha => ?_
    refine ExS.cons (Ex1.assign 1 rfl (EvE.bin (EvE.name 1 rfl rfl) EvE.cInt (op_div (b := 10) (by decide) (div_small (by decide))))) ?_
    refine ExS.cons (v₁ := [.d (.int m), .d (.int 0), .own a (iD (digs m))]) (Ex1.whileFam (fun x : Nat × List Int => [.d (.int m), .d (.int x.1), .own a (iD x.2)])
      (fun x => .next [.d (.int m), .d (.int 0), .own a (iD (x.2 ++ if 0 < x.1 then digs x.1 else []))]) (fun x => x.1 ≤ 100000 ∧ x.2.length + x.1 ≤ 200000) (fun x => x.1) (m / 10, [48 + (m : Int) % 10]) ?_ ⟨by omega, by simp; omega⟩ ?_ fun x hx => ?_) ?_
    · have e1 : (m : Int).fdiv 10 = ((m / 10 : Nat) : Int) := by rw [Int.fdiv_eq_ediv_of_nonneg _ (by decide)]; omega
      have e2 : (m : Int).fmod 10 = (m : Int) % 10 := Int.fmod_eq_emod_of_nonneg _ (by decide)
      rw [e1, e2]
      rfl
    · dsimp only
      rw [digs_eq m]
      simp
    · obtain ⟨k, ds⟩ := x
      obtain ⟨h1, h2⟩ := hx
      dsimp only at h1 h2 ⊢
      by_cases hk : k = 0
      · left
        subst hk
        exact ⟨EvB.gt (EvE.name 1 rfl rfl) EvE.cInt (by decide), by simp⟩
      · right
        refine ⟨(k / 10, ds ++ [48 + (k : Int) % 10]), by dsimp only; omega, ⟨by dsimp only; omega, by simp; omega⟩, EvB.gt (EvE.name 1 rfl rfl) EvE.cInt (by simp; omega), ?_, ?_⟩
        · refine ExS.cons (Ex1.append 2 rfl rfl (EvE.bin EvE.cInt (EvE.bin (EvE.name 1 rfl rfl) EvE.cInt (op_mod (b := 10) (by decide))) (op_add _ _)) (fun j b es hj he => ?_) (fun h => nomatch h) (by simp [iD]; omega)) ?_
          · match j, he with
            | 2, _ => exact absurd rfl hj
          · refine ExS.cons (Ex1.assign 1 rfl (EvE.bin (EvE.name 1 rfl rfl) EvE.cInt (op_div (b := 10) (by decide) (div_small (by decide))))) ?_
            have e1 : (k : Int).fdiv 10 = ((k / 10 : Nat) : Int) := by rw [Int.fdiv_eq_ediv_of_nonneg _ (by decide)]; omega
            have e2 : (k : Int).fmod 10 = (k : Int) % 10 := Int.fmod_eq_emod_of_nonneg _ (by decide)
            rw [e1, e2]
            simpa [iD] using ExS.nil
        · dsimp only
          rw [if_pos (by omega : 0 < k), digs_eq k]
          simp
    · refine ExS.cons (Ex1.ifF (EvB.lt (EvE.name 0 rfl rfl) EvE.cInt (by simp)) ExS.nil) ?_
      have hlen := digs_length m
      refine ExS.stop (Ex1.ret (EvE.callT (T.blt ("bytes", _) (by simp)) (bytes_ints (ns := (digs m).reverse) (fun x hx => digs_range m x (by simpa using hx)) (by simp; omega)) (EvL.cons ((EvE.revOwn 2 rfl rfl (by simp [iD]; omega)).eq (by simp [iD])) EvL.nil)))
end
end Og
namespace Og
open PySem PySem.Calls PySem.Spec PyProof.Rows

structure Pen where
  f : Int
  a : Int
  b : Int
  u : Int
  l : Int
noncomputable def Pen.get (p : Pen) : Nat → Int
  | 0 => p.f
  | 1 => p.a
  | 2 => p.b
  | 3 => p.u
  | _ => p.l
noncomputable def Pen.set (p : Pen) (k : Nat) (v : Int) : Pen := match k with
  | 0 => { p with f := v }
  | 1 => { p with a := v }
  | 2 => { p with b := v }
  | 3 => { p with u := v }
  | _ => { p with l := v }
noncomputable def penD (p : Pen) : D := .tup (iD [p.f, p.a, p.b, p.u, p.l])
noncomputable def plainPen (l : Int) : Pen := ⟨0, -1, -1, -1, l⟩
noncomputable def BITS : List (Int × Int × Int) := [(1, 1, 22), (2, 2, 22), (4, 3, 23), (8, 5, 25), (16, 6, 25), (32, 7, 27), (64, 8, 28), (128, 9, 29), (256, 53, 55)]
noncomputable def bitD (x : Int × Int × Int) : D := .tup (iD [x.1, x.2.1, x.2.2])
noncomputable def underF (f k : Int) : Int := Builtin.bitOr (Builtin.bitAnd f (-3585)) (k * 512)
noncomputable def colCh (p : Pen) (k : Nat) (first n : Int) : Option Pen :=
  if first ≤ n ∧ n ≤ first + 7 then some (p.set k (n - first))
  else if n = first + 9 then some (p.set k (-1))
  else if first + 60 ≤ n ∧ n ≤ first + 67 then some (p.set k (n - first - 60 + 8)) else none
noncomputable def bitCh (n f : Int) (x : Int × Int × Int) : Int := if n = x.2.1 then Builtin.bitOr f x.1 else if n = x.2.2 then Builtin.bitAnd f (Builtin.bitNot x.1) else f
noncomputable def plainCh (p : Pen) (n : Int) : Pen :=
  if n = 0 then plainPen p.l
  else if n = 4 then { p with f := underF p.f 1 }
  else if n = 21 then { p with f := underF p.f 2 }
  else if n = 24 then { p with f := underF p.f 0 }
  else match colCh p 1 30 n with
    | some q => q
    | none => match colCh p 2 40 n with
      | some q => q
      | none => if n = 59 then p.set 3 (-1) else { p with f := BITS.foldl (bitCh n) p.f }

noncomputable def nth (l : List Stmt) (k : Nat) : Stmt := (l[k]?).getD (.Pass ⟨0, 0, 0, 0⟩)
noncomputable def inner : Stmt → List Stmt
  | .For _ _ b _ _ => b
  | .While _ b _ _ => b
  | .If _ b _ _ => b
  | _ => []
noncomputable def iterOf : Stmt → Expr
  | .For _ i _ _ _ => i
  | _ => .Constant .none 0 ⟨0, 0, 0, 0⟩
section
variable {w : World} {G : Gl} {I : Inv} {sc : Sc} {names : List Str} {n : Nat} {vals : List Loc}

theorem op_ior (a b : Int) : OpOk PP w (inplaceOp .BitOr) (.int a) (.int b) (.int (Builtin.bitOr a b)) := .ofInt fun _ _ _ _ _ _ h => PyProof.Rows.ior_int h
theorem op_iand (a b : Int) : OpOk PP w (inplaceOp .BitAnd) (.int a) (.int b) (.int (Builtin.bitAnd a b)) := .ofInt fun _ _ _ _ _ _ h => PyProof.Rows.iand_int h

theorem pen_with_pen (T : Top G) (p : Pen) (k : Nat) (v : Int) (hk : k < 5) : Spec PP w G 2 "pen_with" [penD p, .int k, .int v] (penD (p.set k v)) := by
  have := pen_with_spec (w := w) T (iD [p.f, p.a, p.b, p.u, p.l]) k (.int v) (by simpa [iD] using hk) (by simp [iD])
  have e : (iD [p.f, p.a, p.b, p.u, p.l]).set k (.int v) = iD [(p.set k v).f, (p.set k v).a, (p.set k v).b, (p.set k v).u, (p.set k v).l] := by
    have : k = 0 ∨ k = 1 ∨ k = 2 ∨ k = 3 ∨ k = 4 := by omega
    rcases this with rfl | rfl | rfl | rfl | rfl <;> simp [iD, Pen.set]
  rw [e] at this; exact this
theorem EvE.penItem {value slice : Expr} {pos : Pos} {p : Pen} {k : Nat} (hv : EvE PP w G I sc names n vals value (penD p)) (hi : EvE PP w G I sc names n vals slice (.int k)) (hk : k < 5) (hs : ∀ o j, subscripted slice false o j = operate [o, j] (getItem o j) := by intro _ _; rfl) :
    EvE PP w G I sc names n vals (.Subscript value slice pos) (.int (p.get k)) := by
  have e : (iD [p.f, p.a, p.b, p.u, p.l])[(k : Int).toNat]? = some (.int (p.get k)) := by
    have : k = 0 ∨ k = 1 ∨ k = 2 ∨ k = 3 ∨ k = 4 := by omega
    rcases this with rfl | rfl | rfl | rfl | rfl <;> simp [iD, Pen.get]
  exact EvE.itemT hv hi (by omega) e (by simp [iD, sizeLine]) hs

theorem pen_bits_spec (T : Top G) : Spec PP w G 1 "pen_bits" [] (.tup (BITS.map bitD)) := by
  refine Spec.intro (ps := []) (rest := []) (T.fns 46 (by decide)) (fun s pm code doc dV vs hl hd => ?_) rfl (by decide +kernel) ?_
  · obtain rfl := len0 hl
    exact BindsTo.of_eq (by cases hd; rfl)
  · refine ExS.stop (Ex1.ret (EvE.tuple (ds := BITS.map bitD) ?_))
    refine EvL.cons (EvE.tuple (EvL.cons (EvE.num T 1) (EvL.cons EvE.cInt (EvL.cons EvE.cInt EvL.nil)))) ?_
    refine EvL.cons (EvE.tuple (EvL.cons (EvE.num T 2) (EvL.cons EvE.cInt (EvL.cons EvE.cInt EvL.nil)))) ?_
    refine EvL.cons (EvE.tuple (EvL.cons (EvE.num T 4) (EvL.cons EvE.cInt (EvL.cons EvE.cInt EvL.nil)))) ?_
    refine EvL.cons (EvE.tuple (EvL.cons (EvE.num T 8) (EvL.cons EvE.cInt (EvL.cons EvE.cInt EvL.nil)))) ?_
    refine EvL.cons (EvE.tuple (EvL.cons (EvE.num T 16) (EvL.cons EvE.cInt (EvL.cons EvE.cInt EvL.nil)))) ?_
    refine EvL.cons (EvE.tuple (EvL.cons (EvE.num T 32) (EvL.cons EvE.cInt (EvL.cons EvE.cInt EvL.nil)))) ?_
    refine EvL.cons (EvE.tuple (EvL.cons (EvE.num T 64) (EvL.cons EvE.cInt (EvL.cons EvE.cInt EvL.nil)))) ?_
    refine EvL.cons (EvE.tuple (EvL.cons (EvE.num T 128) (EvL.cons EvE.cInt (EvL.cons EvE.cInt EvL.nil)))) ?_
    exact EvL.cons (EvE.tuple (EvL.cons (EvE.num T 256) (EvL.cons EvE.cInt (EvL.cons EvE.cInt EvL.nil)))) EvL.nil

theorem eqT {a b : Int} (h : a = b) : (a == b) = true := by simp [h]
theorem eqF {a b : Int} (h : a ≠ b) : (a == b) = false := by simp [h]

theorem plain_data (T : Top G) : GData G "PLAIN" (penD (plainPen 0)) := T.plain
theorem colBody (T : Top G) (p : Pen) (k : Int) (j : Nat) (first : Int) (l2 l3 l4 l5 l6 l7 : Loc) (hj : j < 5) : ExS PP w G Inv.none ⟨scopeOf (stOf 47), []⟩ [("pen" : Str), "number", "flags", "place", "first", "bit", "sets", "clears"] 2
    [.d (penD p), .d (.int k), l2, .d (.int j), .d (.int first), l5, l6, l7] (inner (nth (bodyOf (stOf 47)) 3)) (match colCh p j first k with | some q => .ret (penD q) | none => .next [.d (penD p), .d (.int k), l2, .d (.int j), .d (.int first), l5, l6, l7]) := by
  have hpw := fun (q : Pen) (j : Nat) (v : Int) (hj : j < 5) => pen_with_pen (w := w) T q j v hj
  unfold colCh
  by_cases h1 : first ≤ k ∧ k ≤ first + 7
  · rw [if_pos h1]
    exact ExS.stop (Ex1.ifT (EvB.chainT (EvE.name 4 rfl rfl) (EvE.name 1 rfl rfl) (EvE.bin (EvE.name 4 rfl rfl) EvE.cInt (op_add _ _)) ((cmp_le _ _).eq (decide_eq_true h1.1)) ((cmp_le _ _).eq (decide_eq_true h1.2)))
      (ExS.stop (Ex1.ret (EvE.call (hpw p j _ hj) (EvL.cons (EvE.name 0 rfl rfl) (EvL.cons (EvE.name 3 rfl rfl) (EvL.cons (EvE.bin (EvE.name 1 rfl rfl) (EvE.name 4 rfl rfl) (op_sub _ _)) EvL.nil)))))))
  rw [if_neg h1]
  have t1 : ∀ {pos : Pos} {p1 p2 p3 p4 p5 : Pos} {c : Nat}, EvB PP w G Inv.none ⟨scopeOf (stOf 47), []⟩ [("pen" : Str), "number", "flags", "place", "first", "bit", "sets", "clears"] 2 [.d (penD p), .d (.int k), l2, .d (.int j), .d (.int first), l5, l6, l7]
      (.Compare (.Name "first" p1) [.LtE, .LtE] [.Name "number" p2, .BinOp (.Name "first" p3) .Add (.Constant (.int 7) c p4) p5] pos) false := by
    intro pos p1 p2 p3 p4 p5 c
    by_cases h : first ≤ k
    · exact EvB.chainT (EvE.name 4 rfl rfl) (EvE.name 1 rfl rfl) (EvE.bin (EvE.name 4 rfl rfl) EvE.cInt (op_add _ _)) ((cmp_le _ _).eq (decide_eq_true h)) ((cmp_le _ _).eq (decide_eq_false fun g => h1 ⟨h, g⟩))
    · exact EvB.chainF (EvE.name 4 rfl rfl) (EvE.name 1 rfl rfl) ((cmp_le _ _).eq (decide_eq_false h))
  refine ExS.cons (Ex1.ifF t1 ExS.nil) ?_
  by_cases h2 : k = first + 9
  · rw [if_pos h2]
    exact ExS.stop (Ex1.ifT (EvB.eqI (EvE.name 1 rfl rfl) (EvE.bin (EvE.name 4 rfl rfl) EvE.cInt (op_add _ _)) (eqT h2)) (ExS.stop (Ex1.ret (EvE.call (hpw p j _ hj) (EvL.cons (EvE.name 0 rfl rfl) (EvL.cons (EvE.name 3 rfl rfl) (EvL.cons (EvE.num T (-1)) EvL.nil)))))))
  rw [if_neg h2]
  refine ExS.cons (Ex1.ifF (EvB.eqI (EvE.name 1 rfl rfl) (EvE.bin (EvE.name 4 rfl rfl) EvE.cInt (op_add _ _)) (eqF h2)) ExS.nil) ?_
  by_cases h3 : first + 60 ≤ k ∧ k ≤ first + 67
  · rw [if_pos h3]
    exact ExS.stop (Ex1.ifT (EvB.chainT (EvE.bin (EvE.name 4 rfl rfl) EvE.cInt (op_add _ _)) (EvE.name 1 rfl rfl) (EvE.bin (EvE.name 4 rfl rfl) EvE.cInt (op_add _ _)) ((cmp_le _ _).eq (decide_eq_true h3.1)) ((cmp_le _ _).eq (decide_eq_true h3.2)))
      (ExS.stop (Ex1.ret (EvE.call (hpw p j _ hj) (EvL.cons (EvE.name 0 rfl rfl) (EvL.cons (EvE.name 3 rfl rfl) (EvL.cons (EvE.bin (EvE.bin (EvE.bin (EvE.name 1 rfl rfl) (EvE.name 4 rfl rfl) (op_sub _ _)) EvE.cInt (op_sub _ _)) (EvE.num T 8) (op_add _ _)) EvL.nil)))))))
  rw [if_neg h3]
  by_cases h : first + 60 ≤ k
  · exact ExS.cons (Ex1.ifF (EvB.chainT (EvE.bin (EvE.name 4 rfl rfl) EvE.cInt (op_add _ _)) (EvE.name 1 rfl rfl) (EvE.bin (EvE.name 4 rfl rfl) EvE.cInt (op_add _ _)) ((cmp_le _ _).eq (decide_eq_true h)) ((cmp_le _ _).eq (decide_eq_false fun g => h3 ⟨h, g⟩))) ExS.nil) ExS.nil
  · exact ExS.cons (Ex1.ifF (EvB.chainF (EvE.bin (EvE.name 4 rfl rfl) EvE.cInt (op_add _ _)) (EvE.name 1 rfl rfl) ((cmp_le _ _).eq (decide_eq_false h))) ExS.nil) ExS.nil

set_option maxHeartbeats 1000000 in
theorem pen_plain_changed_spec (T : Top G) (p : Pen) (k : Int) : Spec PP w G 3 "pen_plain_changed" [penD p, .int k] (penD (plainCh p k)) := by
  have hpw := fun (q : Pen) (j : Nat) (v : Int) (hj : j < 5) => pen_with_pen (w := w) T q j v hj
  refine Spec.intro (ps := ["pen", "number"]) (rest := ["flags", "place", "first", "bit", "sets", "clears"]) (T.fns 47 (by decide)) (fun s pm code doc dV vs hl hd => ?_) rfl (by decide +kernel) ?_
  · obtain ⟨a, b, rfl⟩ := len2 hl
    exact BindsTo.of_eq (by cases hd; rfl)
  · refine ExS.cons (Ex1.assign (d := .int p.f) 2 rfl (EvE.penItem (k := 0) (EvE.name 0 rfl rfl) (EvE.num T 0) (by decide))) ?_
    by_cases h0 : k = 0
    · have e : plainCh p k = plainPen p.l := by unfold plainCh; rw [if_pos h0]
      have e2 : (plainPen 0).set 4 p.l = plainPen p.l := rfl
      rw [e, ← e2]
      refine ExS.stop (Ex1.ifT (EvB.eqI (EvE.name 1 rfl rfl) (EvE.num T 0) (eqT h0)) (ExS.stop (Ex1.ret (EvE.call (hpw (plainPen 0) 4 p.l (by decide)) (EvL.cons (EvE.glob (plain_data T)) (EvL.cons (EvE.num T 4) (EvL.cons (EvE.penItem (k := 4) (EvE.name 0 rfl rfl) (EvE.num T 4) (by decide)) EvL.nil)))))))
    refine ExS.cons (Ex1.ifF (EvB.eqI (EvE.name 1 rfl rfl) (EvE.num T 0) (eqF h0)) ExS.nil) ?_
    by_cases h4 : k = 4 ∨ k = 21 ∨ k = 24
    · obtain ⟨v, hv, e⟩ : ∃ v, look [4, 21, 24] (iD [1, 2, 0]) k = some (.int v) ∧ plainCh p k = p.set 0 (underF p.f v) ∧ v.natAbs < 2 ^ 64 := by
        unfold plainCh
        rcases h4 with rfl | rfl | rfl
        · exact ⟨1, rfl, by simp [Pen.set], by decide⟩
        · exact ⟨2, rfl, by simp [Pen.set], by decide⟩
        · exact ⟨0, rfl, by simp [Pen.set], by decide⟩
      rw [e.1]
      refine ExS.stop (Ex1.ifT (EvB.all ?_) (ExS.stop (Ex1.ret (EvE.call (hpw p 0 _ (by decide)) (EvL.cons (EvE.name 0 rfl rfl) (EvL.cons (EvE.num T 0) (EvL.cons (EvE.call (flags_with_under_spec T p.f v e.2) (EvL.cons (EvE.name 2 rfl rfl)
        (EvL.cons ?_ EvL.nil))) EvL.nil)))))))
      rotate_left
      · refine EvE.dictItem (ks := [4, 21, 24]) (ds := iD [1, 2, 0]) ?_ (EvE.name 1 rfl rfl) hv
        refine EvE.dict ?_ (by decide) rfl
        exact EvD.cons EvE.cInt EvE.cInt (EvD.cons EvE.cInt EvE.cInt (EvD.cons EvE.cInt EvE.cInt EvD.nil))
      by_cases a4 : k = 4
      · exact .stopO (EvB.eqI (EvE.name 1 rfl rfl) EvE.cInt (eqT a4))
      by_cases a21 : k = 21
      · exact .goO (EvB.eqI (EvE.name 1 rfl rfl) EvE.cInt (eqF a4)) (.stopO (EvB.eqI (EvE.name 1 rfl rfl) EvE.cInt (eqT a21)))
      · exact .goO (EvB.eqI (EvE.name 1 rfl rfl) EvE.cInt (eqF a4)) (.goO (EvB.eqI (EvE.name 1 rfl rfl) EvE.cInt (eqF a21)) (.stopO (EvB.eqI (EvE.name 1 rfl rfl) EvE.cInt (eqT (by omega)))))
    have a4 : k ≠ 4 := fun h => h4 (.inl h)
    have a21 : k ≠ 21 := fun h => h4 (.inr (.inl h))
    have a24 : k ≠ 24 := fun h => h4 (.inr (.inr h))
    refine ExS.cons (Ex1.ifF (EvB.all (.goO (EvB.eqI (EvE.name 1 rfl rfl) EvE.cInt (eqF a4)) (.goO (EvB.eqI (EvE.name 1 rfl rfl) EvE.cInt (eqF a21)) (.goO (EvB.eqI (EvE.name 1 rfl rfl) EvE.cInt (eqF a24)) .nil)))) ExS.nil) ?_
    have src : ∀ {vals : List Loc} {t : Expr}, EvI PP w G Inv.none ⟨scopeOf (stOf 47), []⟩ [("pen" : Str), "number", "flags", "place", "first", "bit", "sets", "clears"] 2 vals _ t false [.tup (iD [1, 30]), .tup (iD [2, 40])] := fun {vals t} =>
      EvI.tuple (e := iterOf (nth (bodyOf (stOf 47)) 3)) (EvE.tuple (EvL.cons (EvE.tuple (EvL.cons (EvE.num T 1) (EvL.cons EvE.cInt EvL.nil))) (EvL.cons (EvE.tuple (EvL.cons (EvE.num T 2) (EvL.cons EvE.cInt EvL.nil))) EvL.nil)))
    have e0 : plainCh p k = match colCh p 1 30 k with
      | some q => q
      | none => match colCh p 2 40 k with
        | some q => q
        | none => if k = 59 then p.set 3 (-1) else { p with f := BITS.foldl (bitCh k) p.f } := by unfold plainCh; rw [if_neg h0, if_neg a4, if_neg a21, if_neg a24]
    rw [e0]
    have tgt := fun (vals : List Loc) (a b : Int) => (AsT.tuple (top := false) (prog := PP) (w := w) (G := G) (I := Inv.none) (sc := ⟨scopeOf (stOf 47), []⟩) (n := 2) (names := [("pen" : Str), "number", "flags", "place", "first", "bit", "sets", "clears"]) (vals := vals) (j := 0) (p := ⟨122, 8, 122, 20⟩)
      (AsTs.cons (AsT.name (p := ⟨122, 8, 122, 13⟩) (d := .int a) 3 rfl) (AsTs.cons (AsT.name (p := ⟨122, 15, 122, 20⟩) (d := .int b) 4 rfl) AsTs.nil)))
    cases c1 : colCh p 1 30 k with
    | some q =>
      have := colBody (w := w) T p k 1 30 (.d (.int p.f)) .un .un .un .un .un (by decide)
      rw [c1] at this
      exact ExS.stop (Ex1.for src (.ret (tgt _ 1 30) this))
    | none =>
      have b1 := colBody (w := w) T p k 1 30 (.d (.int p.f)) .un .un .un .un .un (by decide)
      rw [c1] at b1
      have b2 := colBody (w := w) T p k 2 40 (.d (.int p.f)) .un .un .un .un .un (by decide)
      cases c2 : colCh p 2 40 k with
      | some q =>
        rw [c2] at b2
        exact ExS.stop (Ex1.for src (.next (tgt _ 1 30) b1 (.ret (tgt _ 2 40) b2)))
      | none =>
        rw [c2] at b2
        refine ExS.cons (Ex1.for src (.next (tgt _ 1 30) b1 (.next (tgt _ 2 40) b2 .nil))) ?_
        dsimp only
        by_cases h59 : k = 59
        · rw [if_pos h59]
          exact ExS.stop (Ex1.ifT (EvB.eqI (EvE.name 1 rfl rfl) EvE.cInt (eqT h59)) (ExS.stop (Ex1.ret (EvE.call (hpw p 3 (-1) (by decide)) (EvL.cons (EvE.name 0 rfl rfl) (EvL.cons (EvE.num T 3) (EvL.cons (EvE.num T (-1)) EvL.nil)))))))
        rw [if_neg h59]
        refine ExS.cons (Ex1.ifF (EvB.eqI (EvE.name 1 rfl rfl) EvE.cInt (eqF h59)) ExS.nil) ?_
        refine ExS.cons (Ex1.for (top := false) (EvI.tuple (EvE.call0 (pen_bits_spec T))) (ForOk.fam (σ := Int) bitD (fun f => [.d (penD p), .d (.int k), .d (.int f), .d (.int 2), .d (.int 40), .un, .un, .un]) (bitCh k) (fun _ => True) BITS (fun f x hx _ => ⟨trivial, ?_⟩) p.f trivial)) ?_
        · obtain ⟨b, s, c⟩ := x
          refine ⟨_, [.d (penD p), .d (.int k), .d (.int (bitCh k f (b, s, c))), .d (.int 2), .d (.int 40), .d (.int b), .d (.int s), .d (.int c)], AsT.tuple (AsTs.cons (AsT.name 5 rfl) (AsTs.cons (AsT.name 6 rfl) (AsTs.cons (AsT.name 7 rfl) AsTs.nil))),
            .same (.same (.same (.same (.same (.un (.un (.un .nil))))))), .inl ?_⟩
          unfold bitCh
          dsimp only
          by_cases q1 : k = s
          · rw [if_pos q1]
            exact ExS.cons (Ex1.ifT (EvB.eqI (EvE.name 1 rfl rfl) (EvE.name 6 rfl rfl) (eqT q1)) (ExS.cons (Ex1.aug 2 rfl rfl (EvE.name 5 rfl rfl) (op_ior _ _)) ExS.nil)) ExS.nil
          rw [if_neg q1]
          by_cases q2 : k = c
          · rw [if_pos q2]
            exact ExS.cons (Ex1.ifF (EvB.eqI (EvE.name 1 rfl rfl) (EvE.name 6 rfl rfl) (eqF q1)) (ExS.cons (Ex1.ifT (EvB.eqI (EvE.name 1 rfl rfl) (EvE.name 7 rfl rfl) (eqT q2)) (ExS.cons (Ex1.aug 2 rfl rfl (EvE.inv (EvE.name 5 rfl rfl)) (op_iand _ _)) ExS.nil)) ExS.nil)) ExS.nil
          rw [if_neg q2]
          exact ExS.cons (Ex1.ifF (EvB.eqI (EvE.name 1 rfl rfl) (EvE.name 6 rfl rfl) (eqF q1)) (ExS.cons (Ex1.ifF (EvB.eqI (EvE.name 1 rfl rfl) (EvE.name 7 rfl rfl) (eqF q2)) ExS.nil) ExS.nil)) ExS.nil
        · exact ExS.stop (Ex1.ret (EvE.call (hpw p 0 _ (by decide)) (EvL.cons (EvE.name 0 rfl rfl) (EvL.cons (EvE.num T 0) (EvL.cons (EvE.name 2 rfl rfl) EvL.nil)))))
end
end Og
namespace Og
open PySem PySem.Calls PySem.Spec PyProof.Rows

noncomputable def optD : Option Int → D
  | none => .none
  | some i => .int i
noncomputable def num0 (o : Option Int) : Int := o.getD 0
noncomputable def directOf (a b c : Int) : Int := 16777216 + Builtin.bitOr (Builtin.bitOr (a * 65536) (b * 256)) c
noncomputable def colourOf (kind : Int) (ns : List Int) : Option Int :=
  if kind = 5 then (match ns with | a :: _ => if a ≤ 255 then some a else none | [] => none)
  else if kind = 2 then (match ns with | a :: b :: c :: _ => if max (max a b) c ≤ 255 then some (directOf a b c) else none | _ => none) else none

section
variable {w : World} {G : Gl} {I : Inv} {sc : Sc} {names : List Str} {n : Nat} {vals : List Loc}

set_option tactic.hygienic true in
theorem items_ints {vs : List Value} {ns : List Int} (h : IntsAre vs ns) : ∃ ts : List Tok, vs.toArray = intItems ((ns.zip ts).toArray) ∧ ts.length = ns.length := by
  induction h with
  | nil => exact ⟨[], by simp [intItems], rfl⟩
  | cons x u h ih =>
    rename_i vs ns
    obtain ⟨ts, e, hl⟩ := ih
    refine ⟨u :: ts, ?_, by simp [hl]⟩
    have e' : vs = (ns.zip ts).map fun p => Value.int p.1 p.2 := by
      have := congrArg Array.toList e
      simpa [intItems] using this
    simp [intItems, e']
theorem max3 {a b c : Int} : CallOk PP w (.builtin "max") [.lst (iD [a, b, c])] (.int (max (max a b) c)) := by
  intro av s A vs Q E hA _ hv _ r k
  cases r with | cons r₁ rn =>
  cases rn
  cases r₁ with | @lst l ws m _ ha ho rs =>
  have hi : IntsAre ws [a, b, c] := reps_ints rs
  obtain ⟨ts, e, hl⟩ := items_ints hi
  match ts, hl with
  | [t, u, v], _ =>
    refine max_intList (xs := ([a, b, c].zip [t, u, v]).toArray) hA ⟨_, e ▸ ho, rfl, m, rfl⟩ (by simp) fun v' h' tk hp hk => ?_
    refine k v' h' tk hk ?_
    have : ∃ z, v' = .int (max (max a b) c) z := by
      have e0 : numAt ([a, b, c].zip [t, u, v]).toArray 0 = a := rfl
      have e1 : numAt ([a, b, c].zip [t, u, v]).toArray 1 = b := rfl
      have e2 : numAt ([a, b, c].zip [t, u, v]).toArray 2 = c := rfl
      have f0 : (intItems ([a, b, c].zip [t, u, v]).toArray)[0]? = some (.int a t) := by simp [intItems]
      have f1 : (intItems ([a, b, c].zip [t, u, v]).toArray)[1]? = some (.int b u) := by simp [intItems]
      have f2 : (intItems ([a, b, c].zip [t, u, v]).toArray)[2]? = some (.int c v) := by simp [intItems]
      have hsz : ([a, b, c].zip [t, u, v]).toArray.size - 1 = 2 := rfl
      rw [hsz] at hp
      generalize hX : ([a, b, c].zip [t, u, v]).toArray = X at *
      simp only [argBest, e0, e1] at hp
      by_cases h1 : b > a
      · by_cases h2 : c > b
        · simp [h2, e0, e1, e2, f0, f1, f2, h1] at hp
          exact ⟨v, by rw [← hp]; congr 1; omega⟩
        · simp [h2, e0, e1, e2, f0, f1, f2, h1] at hp
          exact ⟨u, by rw [← hp]; congr 1; omega⟩
      · by_cases h2 : c > a
        · simp [h2, e0, e1, e2, f0, f1, f2, h1] at hp
          exact ⟨v, by rw [← hp]; congr 1; omega⟩
        · simp [h2, e0, e1, e2, f0, f1, f2, h1] at hp
          exact ⟨t, by rw [← hp]; congr 1; omega⟩
    obtain ⟨z, rfl⟩ := this
    exact .int _ _

theorem pen_colour_of_spec (T : Top G) (kind : Int) (parts : List (Option Int)) (hp : ∀ i ∈ parts.map num0, 0 ≤ i ∧ i < 2 ^ 32) (hz : parts.length ≤ 1000) : Spec PP w G 3 "pen_colour_of" [.int kind, .lst (parts.map optD)] (optD (colourOf kind (parts.map num0))) := by
  have hsl : sizeLine = 16777216 := rfl
  refine Spec.intro (ps := ["kind", "parts"]) (rest := ["numbers"]) (T.fns 48 (by decide)) (fun s pm code doc dV vs hl hd => ?_) rfl (by decide +kernel) ?_
  · obtain ⟨a, b, rfl⟩ := len2 hl
    exact BindsTo.of_eq (by cases hd; rfl)
  · refine ExS.cons (Ex1.assignComp (f := fun d => match d with | .int i => .int i | _ => .int 0) 2 rfl (EvI.list (EvE.name 1 rfl rfl)) (by decide +kernel) (by simp; omega) (fun d hd => ?_) (fun a es hm => by simp at hm)) ?_
    · obtain ⟨o, _, rfl⟩ := List.mem_map.mp hd
      cases o with
      | none => exact EvE.ifT (EvB.cmp (EvE.name 0 rfl rfl) EvE.cNone cmp_isNone) EvE.cInt
      | some i => exact EvE.ifF (EvB.cmp (EvE.name 0 rfl rfl) EvE.cNone (cmp_isInt i)) (EvE.name 0 rfl rfl)
    have e : (parts.map optD).map (fun d => match d with | .int i => D.int i | _ => .int 0) = iD (parts.map num0) := by
      simp only [iD, List.map_map]
      refine List.map_congr_left fun o _ => ?_
      cases o <;> rfl
    rw [e]
    have hl : (parts.map num0).length ≤ 1000 := by simpa using hz
    generalize parts.map num0 = ns at *
    have hlen : (iD ns).length = ns.length := by simp [iD]
    have len0 : ∀ (vs : List Loc) {pf pn pos : Pos}, vs[2]? = some (.d (.lst (iD ns))) → EvE PP w G Inv.none ⟨scopeOf (stOf 48), []⟩ [("kind" : Str), "parts", "numbers"] 2 vs (.Call (.Name "len" pf) [.Name "numbers" pn] [] pos) (.int ns.length) := fun vs {pf pn pos} hv => by
      have := EvE.callB (G := G) (I := Inv.none) (sc := ⟨scopeOf (stOf 48), []⟩) (names := [("kind" : Str), "parts", "numbers"]) (n := 2) (vals := vs) (p := pf) (pos := pos) (e := .Name "numbers" pn) (es := []) (T.blt ("len", _) (by simp)) (len_L (prog := PP) (w := w) (ds := iD ns) (by omega)) (EvL.cons (EvE.name 2 rfl hv) EvL.nil)
      rw [hlen] at this
      exact this
    have item : ∀ (vs : List Loc) {pn pc pos : Pos} {k : Nat} (j : Nat) (x : Int), vs[2]? = some (.d (.lst (iD ns))) → ns[j]? = some x → EvE PP w G Inv.none ⟨scopeOf (stOf 48), []⟩ [("kind" : Str), "parts", "numbers"] 2 vs (.Subscript (.Name "numbers" pn) (.Constant (.int j) k pc) pos) (.int x) := fun vs {pn pc pos k} j x hv hx =>
      EvE.itemL (EvE.name 2 rfl hv) EvE.cInt (by omega) (by simp [iD, hx]) (by omega)
    have noDirect : kind = 5 → ∀ {vs : List Loc}, vs[0]? = some (.d (.int kind)) → ExS PP w G Inv.none ⟨scopeOf (stOf 48), []⟩ [("kind" : Str), "parts", "numbers"] 2 vs ((bodyOf (stOf 48)).drop 2) (.ret .none) := fun h5 {vs} hv =>
      ExS.cons (Ex1.ifF (EvB.all (.stopA (EvB.eqI (EvE.name 0 rfl hv) EvE.cInt (eqF (by omega))))) ExS.nil) (ExS.stop (Ex1.ret EvE.cNone))
    unfold colourOf
    by_cases h5 : kind = 5
    · rw [if_pos h5]
      match ns, hlen, len0, item with
      | [], hlen, len0, item =>
        exact ExS.cons (Ex1.ifF (EvB.all (.goA (EvB.eqI (EvE.name 0 rfl rfl) EvE.cInt (eqT h5)) (.stopA (EvB.ge (len0 _ rfl) EvE.cInt (by decide))))) ExS.nil) (noDirect h5 rfl)
      | x :: r, hlen, len0, item =>
        dsimp only
        by_cases hx : x ≤ 255
        · rw [if_pos hx]
          exact ExS.stop (Ex1.ifT (EvB.all (.goA (EvB.eqI (EvE.name 0 rfl rfl) EvE.cInt (eqT h5)) (.goA (EvB.ge (len0 _ rfl) EvE.cInt (by simp; omega)) (.goA (EvB.le (item _ 0 x rfl rfl) (EvE.num T 255) (decide_eq_true hx)) .nil)))) (ExS.stop (Ex1.ret (item _ 0 x rfl rfl))))
        · rw [if_neg hx]
          exact ExS.cons (Ex1.ifF (EvB.all (.goA (EvB.eqI (EvE.name 0 rfl rfl) EvE.cInt (eqT h5)) (.goA (EvB.ge (len0 _ rfl) EvE.cInt (by simp; omega)) (.stopA (EvB.le (item _ 0 x rfl rfl) (EvE.num T 255) (decide_eq_false hx)))))) ExS.nil) (noDirect h5 rfl)
    rw [if_neg h5]
    refine ExS.cons (Ex1.ifF (EvB.all (.stopA (EvB.eqI (EvE.name 0 rfl rfl) EvE.cInt (eqF h5)))) ExS.nil) ?_
    by_cases h2 : kind = 2
    · rw [if_pos h2]
      match ns, hlen, len0, item with
      | [], hlen, len0, item => exact ExS.cons (Ex1.ifF (EvB.all (.goA (EvB.eqI (EvE.name 0 rfl rfl) EvE.cInt (eqT h2)) (.stopA (EvB.ge (len0 _ rfl) EvE.cInt (by decide))))) ExS.nil) (ExS.stop (Ex1.ret EvE.cNone))
      | [x], hlen, len0, item => exact ExS.cons (Ex1.ifF (EvB.all (.goA (EvB.eqI (EvE.name 0 rfl rfl) EvE.cInt (eqT h2)) (.stopA (EvB.ge (len0 _ rfl) EvE.cInt (by simp))))) ExS.nil) (ExS.stop (Ex1.ret EvE.cNone))
      | [x, y], hlen, len0, item => exact ExS.cons (Ex1.ifF (EvB.all (.goA (EvB.eqI (EvE.name 0 rfl rfl) EvE.cInt (eqT h2)) (.stopA (EvB.ge (len0 _ rfl) EvE.cInt (by simp))))) ExS.nil) (ExS.stop (Ex1.ret EvE.cNone))
      | x :: y :: z :: r, hlen, len0, item =>
        have mx : ∀ (vs : List Loc) {p1 p2 p3 p4 p5 p6 : Pos} {k : Nat}, vs[2]? = some (.d (.lst (iD (x :: y :: z :: r)))) → EvE PP w G Inv.none ⟨scopeOf (stOf 48), []⟩ [("kind" : Str), "parts", "numbers"] 2 vs (.Call (.Name "max" p1) [.Subscript (.Name "numbers" p2) (.Slice Option.none (some (.Constant (.int 3) k p3)) Option.none p4) p5] [] p6) (.int (max (max x y) z)) := fun vs {p1 p2 p3 p4 p5 p6 k} hv =>
          EvE.callB (T.blt ("max", _) (by simp)) (max3 (a := x) (b := y) (c := z)) (EvL.cons ((EvE.cutL (b := some 3) (EvE.name 2 rfl hv) EvP.no (EvP.at EvE.cInt) (by omega)).eq (by simp [cut, iD])) EvL.nil)
        have b1 := hp x (by simp)
        have b2 := hp y (by simp)
        dsimp only
        by_cases hx : max (max x y) z ≤ 255
        · rw [if_pos hx]
          exact ExS.stop (Ex1.ifT (EvB.all (.goA (EvB.eqI (EvE.name 0 rfl rfl) EvE.cInt (eqT h2)) (.goA (EvB.ge (len0 _ rfl) EvE.cInt (by simp; omega)) (.goA (EvB.le (mx _ rfl) (EvE.num T 255) (decide_eq_true hx)) .nil))))
            (ExS.stop (Ex1.ret (EvE.call (direct_colour_spec T x y z (by omega) (by omega)) (EvL.cons (item _ 0 x rfl rfl) (EvL.cons (item _ 1 y rfl rfl) (EvL.cons (item _ 2 z rfl rfl) EvL.nil)))))))
        · rw [if_neg hx]
          exact ExS.cons (Ex1.ifF (EvB.all (.goA (EvB.eqI (EvE.name 0 rfl rfl) EvE.cInt (eqT h2)) (.goA (EvB.ge (len0 _ rfl) EvE.cInt (by simp; omega)) (.stopA (EvB.le (mx _ rfl) (EvE.num T 255) (decide_eq_false hx)))))) ExS.nil) (ExS.stop (Ex1.ret EvE.cNone))
    · rw [if_neg h2]
      exact ExS.cons (Ex1.ifF (EvB.all (.stopA (EvB.eqI (EvE.name 0 rfl rfl) EvE.cInt (eqF h2)))) ExS.nil) (ExS.stop (Ex1.ret EvE.cNone))
end
end Og
namespace Og
open PySem PySem.Calls PySem.Spec PyProof.Rows

noncomputable def placeOf (n : Int) : Option Nat := if n = 38 then some 1 else if n = 48 then some 2 else if n = 58 then some 3 else none
noncomputable def withC (p : Pen) (k : Nat) (c : Option Int) : Pen := match c with
  | none => p
  | some c => p.set k c
noncomputable def subCh (p : Pen) (number s0 : Int) (rest : List Int) : Pen :=
  if number = 4 then (if rest = [] ∧ s0 ≤ 5 then { p with f := underF p.f s0 } else p)
  else match placeOf number with
    | none => p
    | some k => withC p k (colourOf s0 (if s0 = 2 ∧ 3 < rest.length then rest.drop 1 else rest))

section
variable {w : World} {G : Gl} {I : Inv} {sc : Sc} {names : List Str} {n : Nat} {vals : List Loc}

theorem cut_from {α : Type} (a : Nat) (l : List α) : cut (some a) none l = l.drop a := by simp [cut]
theorem cut_to {α : Type} (a : Nat) (l : List α) : cut none (some a) l = l.take a := by simp [cut]
theorem EvE.places (T : Top G) {p1 p2 p3 p4 p5 p6 pos : Pos} (h1 : sc.scope.names.lookup ("SGR_FORE" : Str) = some .globalImplicit := by rfl) (h2 : sc.scope.names.lookup ("FORE" : Str) = some .globalImplicit := by rfl) (h3 : sc.scope.names.lookup ("SGR_BACK" : Str) = some .globalImplicit := by rfl)
    (h4 : sc.scope.names.lookup ("BACK" : Str) = some .globalImplicit := by rfl) (h5 : sc.scope.names.lookup ("SGR_UNDER" : Str) = some .globalImplicit := by rfl) (h6 : sc.scope.names.lookup ("UNDER" : Str) = some .globalImplicit := by rfl) :
    EvE PP w G I sc names n vals (.Dict [some (.Name "SGR_FORE" p1), some (.Name "SGR_BACK" p2), some (.Name "SGR_UNDER" p3)] [.Name "FORE" p4, .Name "BACK" p5, .Name "UNDER" p6] pos) (.dic [38, 48, 58] (iD [1, 2, 3])) := by
  refine EvE.dict ?_ (by decide) rfl rfl rfl (List.cons_ne_nil _ _) (Nat.le_of_ble_eq_true rfl)
  exact EvD.cons (EvE.num T 38 (hx := h1)) (EvE.num T 1 (hx := h2)) (EvD.cons (EvE.num T 48 (hx := h3)) (EvE.num T 2 (hx := h4)) (EvD.cons (EvE.num T 58 (hx := h5)) (EvE.num T 3 (hx := h6)) EvD.nil))
theorem look_place (k : Int) : look [38, 48, 58] (iD [1, 2, 3]) k = (placeOf k).map fun j => D.int j := by
  unfold placeOf
  by_cases h1 : k = 38
  · subst h1; rfl
  by_cases h2 : k = 48
  · subst h2; rfl
  by_cases h3 : k = 58
  · subst h3; rfl
  simp [look, iD, h1, h2, h3]
  omega
theorem placeOf_lt {k : Int} {j : Nat} (h : placeOf k = some j) : j < 5 := by
  unfold placeOf at h
  split at h
  · cases h; decide
  · split at h
    · cases h; decide
    · split at h <;> cases h
      decide
theorem iD_some (l : List Int) : iD l = (l.map some).map optD := by simp [iD, optD]
theorem num0_some (l : List Int) : (l.map some).map num0 = l := by simp [num0, Function.comp_def]
theorem iD_length (l : List Int) : (iD l).length = l.length := by simp [iD]

theorem pen_sub_changed_spec (T : Top G) (p : Pen) (k s0 : Int) (rest : List Int) (hp : ∀ i ∈ s0 :: rest, 0 ≤ i ∧ i < 2 ^ 32) (hz : rest.length ≤ 900) : Spec PP w G 4 "pen_sub_changed" [penD p, .lst (iD (k :: s0 :: rest))] (penD (subCh p k s0 rest)) := by
  have hsl : sizeLine = 16777216 := rfl
  have l0 := iD_length (k :: s0 :: rest)
  have l1 := iD_length (s0 :: rest)
  have l2 := iD_length rest
  simp only [List.length_cons] at l0 l1
  refine Spec.intro (ps := ["pen", "param"]) (rest := ["number", "subs", "places", "parts", "colour"]) (T.fns 49 (by decide)) (fun s pm code doc dV vs hl hd => ?_) rfl (by decide +kernel) ?_
  · obtain ⟨a, b, rfl⟩ := len2 hl
    exact BindsTo.of_eq (by cases hd; rfl)
  · refine ExS.cons (Ex1.assign2 (d := .int k) (e := .lst (iD (s0 :: rest))) 2 3 rfl rfl (EvE.tuple (EvL.cons (EvE.itemL (EvE.name 1 rfl rfl) EvE.cInt (by decide) rfl (by omega)) (EvL.cons ((EvE.cutL (a := some 1) (EvE.name 1 rfl rfl) (EvP.at EvE.cInt) EvP.no (by omega)).eq (by simp [cut_from, iD])) EvL.nil)))) ?_
    have hs0 := hp s0 (by simp)
    unfold subCh
    by_cases h4 : k = 4
    · rw [if_pos h4]
      refine ExS.stop (Ex1.ifT (EvB.eqI (EvE.name 2 rfl rfl) EvE.cInt (eqT h4)) ?_)
      by_cases hr : rest = []
      · by_cases h5 : s0 ≤ 5
        · rw [if_pos ⟨hr, h5⟩]
          exact ExS.stop (Ex1.ifT (EvB.all (.goA (EvB.eqI (EvE.callB (T.blt ("len", _) (by simp)) (len_L (ds := iD (s0 :: rest)) (by omega)) (EvL.cons (EvE.name 3 rfl rfl) EvL.nil)) EvE.cInt (by rw [l1, hr]; rfl)) (.goA (EvB.cmp (EvE.itemL (EvE.name 3 rfl rfl) EvE.cInt (by decide) rfl (by omega)) EvE.cNone (cmp_isNotInt s0))
            (.goA (EvB.le (EvE.itemL (EvE.name 3 rfl rfl) EvE.cInt (by decide) rfl (by omega)) EvE.cInt (decide_eq_true h5)) .nil)))) (ExS.stop (Ex1.ret (EvE.call (pen_with_pen T p 0 _ (by decide)) (EvL.cons (EvE.name 0 rfl rfl) (EvL.cons (EvE.num T 0) (EvL.cons (EvE.call (flags_with_under_spec T p.f s0 (by omega)) (EvL.cons (EvE.penItem (k := 0) (EvE.name 0 rfl rfl) (EvE.num T 0) (by decide)) (EvL.cons (EvE.itemL (EvE.name 3 rfl rfl) EvE.cInt (by decide) rfl (by omega)) EvL.nil))) EvL.nil)))))))
        · rw [if_neg (fun h => h5 h.2)]
          exact ExS.cons (Ex1.ifF (EvB.all (.goA (EvB.eqI (EvE.callB (T.blt ("len", _) (by simp)) (len_L (ds := iD (s0 :: rest)) (by omega)) (EvL.cons (EvE.name 3 rfl rfl) EvL.nil)) EvE.cInt (by rw [l1, hr]; rfl)) (.goA (EvB.cmp (EvE.itemL (EvE.name 3 rfl rfl) EvE.cInt (by decide) rfl (by omega)) EvE.cNone (cmp_isNotInt s0))
            (.stopA (EvB.le (EvE.itemL (EvE.name 3 rfl rfl) EvE.cInt (by decide) rfl (by omega)) EvE.cInt (decide_eq_false h5)))))) ExS.nil) (ExS.stop (Ex1.ret (EvE.name 0 rfl rfl)))
      · rw [if_neg (fun h => hr h.1)]
        exact ExS.cons (Ex1.ifF (EvB.all (.stopA (EvB.eqI (EvE.callB (T.blt ("len", _) (by simp)) (len_L (ds := iD (s0 :: rest)) (by omega)) (EvL.cons (EvE.name 3 rfl rfl) EvL.nil)) EvE.cInt (eqF (by
          rw [l1]
          have : rest.length ≠ 0 := fun h => hr (List.eq_nil_of_length_eq_zero h)
          omega))))) ExS.nil) (ExS.stop (Ex1.ret (EvE.name 0 rfl rfl)))
    rw [if_neg h4]
    refine ExS.cons (Ex1.ifF (EvB.eqI (EvE.name 2 rfl rfl) EvE.cInt (eqF h4)) ExS.nil) ?_
    refine ExS.cons (Ex1.assign 4 rfl (EvE.places T)) ?_
    have hlk := look_place k
    cases hk : placeOf k with
    | none =>
      rw [hk] at hlk
      exact ExS.stop (Ex1.ifT (EvB.cmp (EvE.name 2 rfl rfl) (EvE.name 4 rfl rfl) (cmp_notIn (by rw [hlk]; rfl))) (ExS.stop (Ex1.ret (EvE.name 0 rfl rfl))))
    | some j =>
      rw [hk] at hlk
      have hj := placeOf_lt hk
      refine ExS.cons (Ex1.ifF (EvB.cmp (EvE.name 2 rfl rfl) (EvE.name 4 rfl rfl) (cmp_notIn (by rw [hlk]; rfl))) ExS.nil) ?_
      refine ExS.cons (Ex1.assign (d := .lst (iD rest)) 5 rfl ((EvE.cutL (a := some 1) (EvE.name 3 rfl rfl) (EvP.at EvE.cInt) EvP.no (by omega)).eq (by simp [cut_from, iD]))) ?_
      dsimp only
      have tail : ∀ (ps : List Int), (∀ i ∈ ps, 0 ≤ i ∧ i < 2 ^ 32) → ps.length ≤ 900 → ExS PP w G Inv.none ⟨scopeOf (stOf 49), []⟩ [("pen" : Str), "param", "number", "subs", "places", "parts", "colour"] 3
          [.d (penD p), .d (.lst (iD (k :: s0 :: rest))), .d (.int k), .d (.lst (iD (s0 :: rest))), .d (.dic [38, 48, 58] (iD [1, 2, 3])), .d (.lst (iD ps)), .un] ((bodyOf (stOf 49)).drop 6) (.ret (penD (withC p j (colourOf s0 ps)))) := by
        intro ps hps hlp
        have hc := pen_colour_of_spec (w := w) T s0 (ps.map some) (by rw [num0_some]; exact hps) (by simp; omega)
        rw [num0_some, ← iD_some] at hc
        refine ExS.cons (Ex1.assign 6 rfl (EvE.call hc (EvL.cons (EvE.itemL (EvE.name 3 rfl rfl) EvE.cInt (by decide) rfl (by omega)) (EvL.cons (EvE.name 5 rfl rfl) EvL.nil)))) ?_
        cases colourOf s0 ps with
        | none => exact ExS.stop (Ex1.ret (EvE.ifT (EvB.cmp (EvE.name 6 rfl rfl) EvE.cNone cmp_isNone) (EvE.name 0 rfl rfl)))
        | some c => exact ExS.stop (Ex1.ret (EvE.ifF (EvB.cmp (EvE.name 6 rfl rfl) EvE.cNone (cmp_isInt c)) (EvE.call (pen_with_pen T p j c hj) (EvL.cons (EvE.name 0 rfl rfl) (EvL.cons (EvE.dictItem (EvE.name 4 rfl rfl) (EvE.name 2 rfl rfl) (by rw [hlk]; rfl)) (EvL.cons (EvE.name 6 rfl rfl) EvL.nil))))))
      by_cases h2 : s0 = 2
      · by_cases h3 : 3 < rest.length
        · rw [if_pos ⟨h2, h3⟩]
          refine ExS.cons (Ex1.ifT (EvB.all (.goA (EvB.eqI (EvE.itemL (EvE.name 3 rfl rfl) EvE.cInt (by decide) rfl (by omega)) EvE.cInt (eqT h2)) (.goA (EvB.gt (EvE.callB (T.blt ("len", _) (by simp)) (len_L (ds := iD rest) (by omega)) (EvL.cons (EvE.name 5 rfl rfl) EvL.nil)) EvE.cInt (by rw [l2]; simp; omega)) .nil)))
            (ExS.cons (Ex1.assign (d := .lst (iD (rest.drop 1))) 5 rfl ((EvE.cutL (a := some 1) (EvE.name 5 rfl rfl) (EvP.at EvE.cInt) EvP.no (by omega)).eq (by simp [cut_from, iD]))) ExS.nil)) ?_
          exact tail (rest.drop 1) (fun i hi => hp i (.tail _ (List.mem_of_mem_drop hi))) (by simp; omega)
        · rw [if_neg (fun h => h3 h.2)]
          refine ExS.cons (Ex1.ifF (EvB.all (.goA (EvB.eqI (EvE.itemL (EvE.name 3 rfl rfl) EvE.cInt (by decide) rfl (by omega)) EvE.cInt (eqT h2)) (.stopA (EvB.gt (EvE.callB (T.blt ("len", _) (by simp)) (len_L (ds := iD rest) (by omega)) (EvL.cons (EvE.name 5 rfl rfl) EvL.nil)) EvE.cInt (by rw [l2]; simp; omega))))) ExS.nil) ?_
          exact tail rest (fun i hi => hp i (.tail _ hi)) hz
      · rw [if_neg (fun h => h2 h.1)]
        refine ExS.cons (Ex1.ifF (EvB.all (.stopA (EvB.eqI (EvE.itemL (EvE.name 3 rfl rfl) EvE.cInt (by decide) rfl (by omega)) EvE.cInt (eqF h2)))) ExS.nil) ?_
        exact tail rest (fun i hi => hp i (.tail _ hi)) hz
end
end Og
namespace Og
open PySem PySem.Calls PySem.Spec PyProof.Rows

noncomputable abbrev Row := List (Option Int)
noncomputable def rowD (r : Row) : D := .lst (r.map optD)
noncomputable def rowsD (rs : List Row) : D := .lst (rs.map rowD)
noncomputable def hd0 (r : Row) : Option Int := r.headD none
noncomputable def manyOf (v : Int) : Nat := if v = 5 then 1 else if v = 2 then 3 else 0
noncomputable def told (rest : List Row) : Option Int × Nat := match (rest.take 4).map hd0 with
  | [] => (none, 0)
  | v :: vs => (colourOf (num0 v) ((vs.take (manyOf (num0 v))).map num0), 1 + manyOf (num0 v))
structure RowOk (r : Row) : Prop where
  ne : r ≠ []
  len : r.length ≤ 900
  all : 1 < r.length → ∀ o ∈ r, o ≠ none
  lo : ∀ i, some i ∈ r → 0 ≤ i ∧ i < 2 ^ 32
theorem RowOk.cons {r : Row} (h : RowOk r) : ∃ o q, r = o :: q := by
  cases r with
  | nil => exact absurd rfl h.ne
  | cons o q => exact ⟨o, q, rfl⟩
theorem RowOk.hd {r : Row} (h : RowOk r) : 0 ≤ num0 (hd0 r) ∧ num0 (hd0 r) < 2 ^ 32 := by
  obtain ⟨o, q, rfl⟩ := h.cons
  cases o with
  | none => simp [hd0, num0]
  | some i => exact h.lo i (.head _)

section
variable {w : World} {G : Gl} {I : Inv} {sc : Sc} {names : List Str} {n : Nat} {vals : List Loc}

noncomputable def headOf : D → D
  | .lst (x :: _) => x
  | _ => .none
theorem headOf_row {r : Row} (h : RowOk r) : headOf (rowD r) = optD (hd0 r) := by
  obtain ⟨o, q, rfl⟩ := h.cons
  rfl
theorem look_many (v : Int) : (look [5, 2] (iD [1, 3]) v).getD (.int 0) = .int (manyOf v) := by
  unfold manyOf
  by_cases h1 : v = 5
  · subst h1; rfl
  by_cases h2 : v = 2
  · subst h2; rfl
  rw [if_neg h1, if_neg h2]
  have a : ¬ 5 = v := fun h => h1 h.symm
  have b : ¬ 2 = v := fun h => h2 h.symm
  simp [look, iD, a, b]
theorem EvE.lenL (T : Top G) {e : Expr} {pf pos : Pos} {ds : List D} (h : EvE PP w G I sc names n vals e (.lst ds)) (hz : ds.length ≤ sizeLine) (hx : sc.scope.names.lookup ("len" : Str) = some .globalImplicit := by rfl)
    (hst : noStar e = true := by rfl) : EvE PP w G I sc names n vals (.Call (.Name "len" pf) [e] [] pos) (.int ds.length) :=
  EvE.callB (T.blt ("len", _) (by simp)) (len_L hz) (EvL.cons h EvL.nil (fun _ => star_plain hst)) hx (by decide) (fun _ => star_plain hst)

theorem pen_told_apart_spec (T : Top G) (rows : List Row) (at' : Nat) (hok : ∀ r ∈ rows, RowOk r) (hh : ∀ r, rows[at' + 1]? = some r → hd0 r ≠ none) (hz : rows.length ≤ 10000) :
    Spec PP w G 4 "pen_told_apart" [rowsD rows, .int at'] (.tup [optD (told (rows.drop (at' + 1))).1, .int ((at' + 1 + (told (rows.drop (at' + 1))).2 : Nat) : Int)]) := by
  have hsl : sizeLine = 16777216 := rfl
  refine Spec.intro (ps := ["params", "at"]) (rest := ["values", "many"]) (T.fns 50 (by decide)) (fun s pm code doc dV vs hl hd => ?_) rfl (by decide +kernel) ?_
  · obtain ⟨a, b, rfl⟩ := len2 hl
    exact BindsTo.of_eq (by cases hd; rfl)
  · have hcut : cut (some (at' + 1)) (some (at' + 5)) (rows.map rowD) = ((rows.drop (at' + 1)).take 4).map rowD := by
      rw [cut_eq]
      simp only [Option.getD_some]
      rw [← List.map_drop, ← List.map_take]
      congr 2
      omega
    have hmem : ∀ r ∈ (rows.drop (at' + 1)).take 4, RowOk r := fun r hr => hok r (List.mem_of_mem_drop (List.mem_of_mem_take hr))
    refine ExS.cons (Ex1.assignComp (f := headOf) 2 rfl (EvI.list ((EvE.cutL (a := some (at' + 1)) (b := some (at' + 5)) (EvE.name 0 rfl rfl) (EvP.at (EvE.bin (EvE.name 1 rfl rfl) EvE.cInt (op_add _ _))) (EvP.at (EvE.bin (EvE.name 1 rfl rfl) EvE.cInt (op_add _ _))) (by simp; omega)).eq (by rw [hcut])))
      (by decide +kernel) (by simp; omega) (fun d hd => ?_) (fun a es hm => by simp at hm)) ?_
    · obtain ⟨r, hr, rfl⟩ := List.mem_map.mp hd
      have ho := hmem r hr
      have hlr := ho.len
      obtain ⟨o, q, rfl⟩ := ho.cons
      exact EvE.itemL (EvE.name 0 rfl rfl) EvE.cInt (by decide) rfl (by simp at hlr ⊢; omega)
    have e : (((rows.drop (at' + 1)).take 4).map rowD).map headOf = (((rows.drop (at' + 1)).take 4).map hd0).map optD := by
      rw [List.map_map, List.map_map]
      exact List.map_congr_left fun r hr => headOf_row (hmem r hr)
    rw [e]
    have hnum : ∀ o ∈ ((rows.drop (at' + 1)).take 4).map hd0, 0 ≤ num0 o ∧ num0 o < 2 ^ 32 := fun o ho => by
      obtain ⟨r, hr, rfl⟩ := List.mem_map.mp ho
      exact (hmem r hr).hd
    have hfirst : ∀ v vs, ((rows.drop (at' + 1)).take 4).map hd0 = v :: vs → v ≠ none := by
      intro v vs hv
      cases hr : rows.drop (at' + 1) with
      | nil => rw [hr] at hv; cases hv
      | cons r rs =>
        rw [hr] at hv
        simp at hv
        rw [← hv.1]
        exact hh r (by have q := List.getElem?_drop (xs := rows) (i := at' + 1) (j := 0); rw [hr] at q; simpa using q.symm)
    have hl4 : (((rows.drop (at' + 1)).take 4).map hd0).length ≤ 4 := by simp; omega
    unfold told
    generalize ((rows.drop (at' + 1)).take 4).map hd0 = values at *
    cases values with
    | nil => exact ExS.stop (Ex1.ifT (EvB.eqI (EvE.lenL T (EvE.name 2 rfl rfl) (by simp)) EvE.cInt (by simp)) (ExS.stop (Ex1.ret (EvE.tuple (EvL.cons EvE.cNone (EvL.cons (EvE.bin (EvE.name 1 rfl rfl) EvE.cInt (op_add _ _)) EvL.nil))))))
    | cons v vs =>
      obtain ⟨i, rfl⟩ : ∃ i, v = some i := by
        cases v with
        | none => exact absurd rfl (hfirst _ _ rfl)
        | some i => exact ⟨i, rfl⟩
      refine ExS.cons (Ex1.ifF (EvB.eqI (EvE.lenL T (EvE.name 2 rfl rfl) (by simp at hl4 ⊢; omega)) EvE.cInt (by simp; omega)) ExS.nil) ?_
      have hv0 : ∀ {ws : List Loc} {p1 p2 p3 : Pos} {k : Nat}, ws[2]? = some (.d (.lst ((some i :: vs).map optD))) → EvE PP w G Inv.none ⟨scopeOf (stOf 50), []⟩ [("params" : Str), "at", "values", "many"] 3 ws (.Subscript (.Name "values" p1) (.Constant (.int 0) k p2) p3) (.int i) := fun hw => EvE.itemL (EvE.name 2 rfl hw) EvE.cInt (by decide) rfl (by simp at hl4 ⊢; omega)
      refine ExS.cons (Ex1.assign (d := .int (manyOf i)) 3 rfl (EvE.dictGet (ks := [5, 2]) (ds := iD [1, 3]) (EvE.dict (EvD.cons EvE.cInt EvE.cInt (EvD.cons EvE.cInt EvE.cInt EvD.nil)) (by decide) rfl rfl rfl (List.cons_ne_nil _ _) (Nat.le_of_ble_eq_true rfl)) (hv0 rfl) EvE.cInt (look_many i))) ?_
      have hc := pen_colour_of_spec (w := w) T i (vs.take (manyOf i)) (fun x hx => by
        obtain ⟨o, ho, rfl⟩ := List.mem_map.mp hx
        exact hnum o (.tail _ (List.mem_of_mem_take ho))) (by simp at hl4 ⊢; omega)
      refine ExS.stop (Ex1.ret ((EvE.tuple (EvL.cons (EvE.call hc (EvL.cons (hv0 rfl) (EvL.cons ((EvE.cutL (a := some 1) (b := some (1 + manyOf i)) (EvE.name 2 rfl rfl) (EvP.at EvE.cInt) (EvP.at (EvE.bin EvE.cInt (EvE.name 3 rfl rfl) (op_add _ _))) (by simp at hl4 ⊢; omega)).eq ?_) EvL.nil)))
        (EvL.cons (EvE.bin (EvE.bin (EvE.name 1 rfl rfl) EvE.cInt (op_add _ _)) (EvE.name 3 rfl rfl) (op_add _ _)) EvL.nil))).eq ?_))
      · rw [cut_eq]
        simp [List.map_take]
      · simp [num0, optD]
        omega
end
end Og
namespace Og
open PySem PySem.Calls PySem.Spec PyProof.Rows

noncomputable def testOf : Stmt → Expr
  | .While t _ _ _ => t
  | .If t _ _ _ => t
  | _ => .Constant .none 0 ⟨0, 0, 0, 0⟩
noncomputable def subRow (p : Pen) (r : Row) : Pen := match r.map num0 with
  | k :: s0 :: rest => subCh p k s0 rest
  | _ => p
noncomputable def app (p : Pen) : List Row → Pen
  | [] => p
  | r :: rest => if 1 < r.length then app (subRow p r) rest
    else match placeOf (num0 (hd0 r)) with
      | some k => app (withC p k (told rest).1) (rest.drop (told rest).2)
      | none => app (plainCh p (num0 (hd0 r))) rest
termination_by l => l.length
decreasing_by
  all_goals simp only [List.length_cons, List.length_drop]
  all_goals omega
theorem app_nil (p : Pen) : app p [] = p := by rw [app]
theorem app_cons (p : Pen) (r : Row) (rest : List Row) : app p (r :: rest) = if 1 < r.length then app (subRow p r) rest
    else match placeOf (num0 (hd0 r)) with
      | some k => app (withC p k (told rest).1) (rest.drop (told rest).2)
      | none => app (plainCh p (num0 (hd0 r))) rest := by rw [app]

noncomputable def isPlace (r : Row) : Bool := r.length == 1 && (placeOf (num0 (hd0 r))).isSome
structure RowsOk (rs : List Row) : Prop where
  all : ∀ r ∈ rs, RowOk r
  adj : ∀ (i : Nat) r r', rs[i]? = some r → rs[i + 1]? = some r' → isPlace r = true → hd0 r' ≠ none
  len : rs.length ≤ 10000

section
variable {prog : Program} {w : World} {G : Gl} {I : Inv} {sc : Sc} {names : List Str} {n : Nat} {vals : List Loc}
inductive OutWk : Out → Out → Prop
  | refl {o : Out} : OutWk o o
  | next {a b : List Loc} : Wk a b → OutWk (.next a) (.next b)
theorem Ex1.wkO {vals : List Loc} {st : Stmt} {o o' : Out} (h : Ex1 prog w G I sc names n vals st o) (k : OutWk o o') : Ex1 prog w G I sc names n vals st o' := by
  cases k with
  | refl => exact h
  | next k =>
    constructor
    intro c own s A Q E hsc R S kk
    refine h.go c own s A Q E hsc R S fun f s' q => ?_
    cases f <;> first
      | (obtain ⟨own', x, S'⟩ := q; exact kk .next s' ⟨own', x, S'.wk k⟩)
      | exact q.elim
theorem WhOk.famW {σ : Type} {t : Expr} {body : List Stmt} (V : σ → List Loc) (O : σ → Out) (P : σ → Prop) (m : σ → Nat)
    (step : ∀ x, P x → (EvB prog w G I sc names n (V x) t false ∧ OutWk (.next (V x)) (O x)) ∨ (∃ y, m y < m x ∧ P y ∧ EvB prog w G I sc names n (V x) t true ∧ ExS prog w G I sc names n (V x) body (.next (V y)) ∧ O y = O x)) :
    ∀ x, P x → ∃ k o, WhOk prog w G I sc names n t body k (V x) o ∧ OutWk o (O x) := by
  have : ∀ (k : Nat) (x : σ), m x ≤ k → P x → ∃ k o, WhOk prog w G I sc names n t body k (V x) o ∧ OutWk o (O x) := by
    intro k
    induction k with
    | zero =>
      intro x hx hp
      rcases step x hp with ⟨h1, h2⟩ | ⟨y, h1, _⟩
      · exact ⟨0, _, .done h1, h2⟩
      · omega
    | succ k ih =>
      intro x hx hp
      rcases step x hp with ⟨h1, h2⟩ | ⟨y, h1, hp', h2, h3, h4⟩
      · exact ⟨0, _, .done h1, h2⟩
      · obtain ⟨j, o, hj, ho⟩ := ih y (by omega) hp'
        exact ⟨j + 1, o, .turn h2 h3 hj, h4 ▸ ho⟩
  exact fun x hp => this (m x) x (Nat.le_refl _) hp
theorem Ex1.whileW {σ : Type} {t : Expr} {body : List Stmt} {p : Pos} (V : σ → List Loc) (O : σ → Out) (P : σ → Prop) (m : σ → Nat) (x : σ) {o : Out} (hv : vals = V x) (hx : P x) (ho : O x = o)
    (step : ∀ x, P x → (EvB prog w G I sc names n (V x) t false ∧ OutWk (.next (V x)) (O x)) ∨ (∃ y, m y < m x ∧ P y ∧ EvB prog w G I sc names n (V x) t true ∧ ExS prog w G I sc names n (V x) body (.next (V y)) ∧ O y = O x)) :
    Ex1 prog w G I sc names n vals (.While t body [] p) o := by
  subst hv
  subst ho
  obtain ⟨k, o, h, ho⟩ := WhOk.famW V O P m step x hx
  exact (Ex1.while h).wkO ho
end
section
variable {w : World} {G : Gl} {I : Inv} {sc : Sc} {names : List Str} {n : Nat} {vals : List Loc}

theorem all_some {r : Row} (h : ∀ o ∈ r, o ≠ none) : r.map optD = iD (r.map num0) := by
  simp only [iD, List.map_map]
  refine List.map_congr_left fun o ho => ?_
  cases o with
  | none => exact absurd rfl (h _ ho)
  | some i => rfl

theorem apply_sgr_spec (T : Top G) (p : Pen) (ps : List Row) (h : RowsOk ps) : Spec PP w G 6 "apply_sgr" [penD p, rowsD ps] (penD (app p (if ps = [] then [[none]] else ps))) := by
  have hsl : sizeLine = 16777216 := rfl
  refine Spec.intro (ps := ["pen", "params"]) (rest := ["found", "at", "rows", "places", "param", "number", "colour"]) (T.fns 51 (by decide)) (fun s pm code doc dV vs hl hd => ?_) rfl (by decide +kernel) ?_
  · obtain ⟨a, b, rfl⟩ := len2 hl
    exact BindsTo.of_eq (by cases hd; rfl)
  · refine ExS.cons (Ex1.assign2 (d := penD p) (e := .int 0) 2 3 rfl rfl (EvE.tuple (EvL.cons (EvE.name 0 rfl rfl) (EvL.cons EvE.cInt EvL.nil)))) ?_
    have hrows : ∃ rows, rows = (if ps = [] then [[none]] else ps) ∧ RowsOk rows := by
      refine ⟨_, rfl, ?_⟩
      by_cases e : ps = []
      · rw [if_pos e]
        exact ⟨fun r hr => by
          obtain rfl : r = [none] := by simpa using hr
          exact ⟨by simp, by simp, by simp, fun i hi => by simp at hi⟩, fun i r r' _ h2 => by simp at h2, by simp⟩
      · rw [if_neg e]; exact h
    obtain ⟨rows, hre, hok⟩ := hrows
    refine ExS.cons (v₁ := [.d (penD p), .d (rowsD ps), .d (penD p), .d (.int 0), .d (rowsD rows), .un, .un, .un, .un]) (Ex1.assign 4 rfl ?_) ?_
    · have hlen := h.len
      by_cases e : ps = []
      · rw [hre, if_pos e]
        exact EvE.ifF (EvB.gt (EvE.lenL T (EvE.name 1 rfl rfl) (by simp; omega)) EvE.cInt (by simp [e])) (EvE.list (ds := [rowD [none]]) (EvL.cons (EvE.list (EvL.cons EvE.cNone EvL.nil)) EvL.nil))
      · rw [hre, if_neg e]
        have : ps.length ≠ 0 := fun q => e (List.eq_nil_of_length_eq_zero q)
        exact EvE.ifT (EvB.gt (EvE.lenL T (EvE.name 1 rfl rfl) (by simp; omega)) EvE.cInt (by simp; omega)) (EvE.name 1 rfl rfl)
    rw [← hre]
    clear hre
    refine ExS.cons (Ex1.assign 5 rfl (EvE.places T)) ?_
    refine ExS.cons (v₁ := [.d (penD p), .d (rowsD ps), .d (penD (app p rows)), .un, .d (rowsD rows), .d (.dic [38, 48, 58] (iD [1, 2, 3])), .un, .un, .un]) ?_ (ExS.stop (Ex1.ret (EvE.name 2 rfl rfl)))
    refine Ex1.whileW (fun x : Pen × Nat => [.d (penD p), .d (rowsD ps), .d (penD x.1), .d (.int x.2), .d (rowsD rows), .d (.dic [38, 48, 58] (iD [1, 2, 3])), .un, .un, .un])
      (fun x => .next [.d (penD p), .d (rowsD ps), .d (penD (app x.1 (rows.drop x.2))), .un, .d (rowsD rows), .d (.dic [38, 48, 58] (iD [1, 2, 3])), .un, .un, .un]) (fun _ => True) (fun x => rows.length - x.2) (p, 0) rfl trivial rfl fun x _ => ?_
    obtain ⟨q, i⟩ := x
    dsimp only
    have hlen := hok.len
    have hrl : (rows.map rowD).length = rows.length := by simp
    by_cases hi : rows.length ≤ i
    · left
      refine ⟨EvB.lt (EvE.name 3 rfl rfl) (EvE.lenL T (EvE.name 4 rfl rfl) (by omega)) (by rw [hrl]; simp; omega), ?_⟩
      rw [List.drop_of_length_le hi, app_nil]
      exact .next (.same (.same (.same (.un (Wk.refl _)))))
    · right
      have hi' : i < rows.length := by omega
      obtain ⟨r, hr⟩ : ∃ r, rows[i]? = some r := ⟨_, List.getElem?_eq_getElem hi'⟩
      have hdrop : rows.drop i = r :: rows.drop (i + 1) := by
        rw [List.drop_eq_getElem_cons hi']
        rw [List.getElem?_eq_getElem hi'] at hr
        rw [Option.some.inj hr]
      have hro := hok.all r (List.mem_of_getElem? hr)
      have hrlen := hro.len
      have hcond : EvB PP w G Inv.none ⟨scopeOf (stOf 51), []⟩ [("pen" : Str), "params", "found", "at", "rows", "places", "param", "number", "colour"] 5 [.d (penD p), .d (rowsD ps), .d (penD q), .d (.int i), .d (rowsD rows), .d (.dic [38, 48, 58] (iD [1, 2, 3])), .un, .un, .un] (testOf (nth (bodyOf (stOf 51)) 3)) true :=
        EvB.lt (EvE.name 3 rfl rfl) (EvE.lenL T (EvE.name 4 rfl rfl) (by omega)) (by rw [hrl]; simp; omega)
      -- the row, its number
      have start : ∀ {o : Out}, ExS PP w G Inv.none ⟨scopeOf (stOf 51), []⟩ [("pen" : Str), "params", "found", "at", "rows", "places", "param", "number", "colour"] 5
          [.d (penD p), .d (rowsD ps), .d (penD q), .d (.int i), .d (rowsD rows), .d (.dic [38, 48, 58] (iD [1, 2, 3])), .d (rowD r), .d (.int (num0 (hd0 r))), .un] ((inner (nth (bodyOf (stOf 51)) 3)).drop 2) o →
          ExS PP w G Inv.none ⟨scopeOf (stOf 51), []⟩ [("pen" : Str), "params", "found", "at", "rows", "places", "param", "number", "colour"] 5 [.d (penD p), .d (rowsD ps), .d (penD q), .d (.int i), .d (rowsD rows), .d (.dic [38, 48, 58] (iD [1, 2, 3])), .un, .un, .un] (inner (nth (bodyOf (stOf 51)) 3)) o := by
        intro o hx
        refine ExS.cons (Ex1.assign (d := rowD r) 6 rfl (EvE.itemL (EvE.name 4 rfl rfl) (EvE.name 3 rfl rfl) (by omega) (by simp [hr]) (by omega))) ?_
        refine ExS.cons (Ex1.assign (d := .int (num0 (hd0 r))) 7 rfl ?_) hx
        have hit : ∀ {ws : List Loc} {p1 p2 p3 : Pos} {k : Nat}, ws[6]? = some (.d (rowD r)) → EvE PP w G Inv.none ⟨scopeOf (stOf 51), []⟩ [("pen" : Str), "params", "found", "at", "rows", "places", "param", "number", "colour"] 5 ws (.Subscript (.Name "param" p1) (.Constant (.int 0) k p2) p3) (optD (hd0 r)) := by
          intro ws p1 p2 p3 k hw
          refine EvE.itemL (ds := r.map optD) (EvE.name 6 rfl hw) EvE.cInt (by decide) ?_ (by simp; omega)
          obtain ⟨o, t, rfl⟩ := hro.cons
          rfl
        cases hh : hd0 r with
        | none =>
          rw [hh] at hit
          exact EvE.ifT (EvB.cmp (hit rfl) EvE.cNone cmp_isNone) (EvE.num T 0)
        | some j =>
          rw [hh] at hit
          exact EvE.ifF (EvB.cmp (hit rfl) EvE.cNone (cmp_isInt j)) (hit rfl)
      have hlr : (r.map optD).length = r.length := by simp
      rw [hdrop, app_cons]
      have hn := hro.hd
      by_cases h1 : 1 < r.length
      · rw [if_pos h1]
        refine ⟨(subRow q r, i + 1), by dsimp only; omega, trivial, hcond, start ?_, rfl⟩
        obtain ⟨k, s0, t, hkt⟩ : ∃ k s0 t, r.map num0 = k :: s0 :: t := by
          match r, h1 with
          | a :: b :: t, _ => exact ⟨_, _, _, rfl⟩
        have hsr : subRow q r = subCh q k s0 t := by unfold subRow; rw [hkt]
        have hrd : rowD r = .lst (iD (k :: s0 :: t)) := by unfold rowD; rw [all_some (hro.all h1), hkt]
        have hlt : (r.map num0).length = r.length := by simp
        rw [hkt] at hlt
        simp only [List.length_cons] at hlt
        have hb : ∀ x ∈ s0 :: t, 0 ≤ x ∧ x < 2 ^ 32 := fun x hx => by
          have : x ∈ r.map num0 := by rw [hkt]; exact .tail _ hx
          obtain ⟨o, ho, rfl⟩ := List.mem_map.mp this
          cases o with
          | none => simp [num0]
          | some j => exact hro.lo j ho
        have hcall := pen_sub_changed_spec (w := w) T q k s0 t hb (by omega)
        rw [← hsr, ← hrd] at hcall
        refine ExS.wkO (v := [.d (penD p), .d (rowsD ps), .d (penD (subRow q r)), .d (.int (i + 1)), .d (rowsD rows), .d (.dic [38, 48, 58] (iD [1, 2, 3])), .d (rowD r), .d (.int (num0 (hd0 r))), .un]) ?_ (.same (.same (.same (.same (.same (.same (.un (.un (.same .nil)))))))))
        exact ExS.cons (Ex1.ifT (EvB.gt (EvE.lenL T (EvE.name 6 rfl rfl) (by omega)) EvE.cInt (by rw [hlr]; simp; omega)) (ExS.cons (Ex1.assign 2 rfl (EvE.call hcall (EvL.cons (EvE.name 2 rfl rfl) (EvL.cons (EvE.name 6 rfl rfl) EvL.nil)))) (ExS.cons (Ex1.aug 3 rfl rfl EvE.cInt (op_iadd _ _)) ExS.nil))) ExS.nil
      · rw [if_neg h1]
        have hnl : EvB PP w G Inv.none ⟨scopeOf (stOf 51), []⟩ [("pen" : Str), "params", "found", "at", "rows", "places", "param", "number", "colour"] 5
          [.d (penD p), .d (rowsD ps), .d (penD q), .d (.int i), .d (rowsD rows), .d (.dic [38, 48, 58] (iD [1, 2, 3])), .d (rowD r), .d (.int (num0 (hd0 r))), .un] (testOf (nth (inner (nth (bodyOf (stOf 51)) 3)) 2)) false :=
          EvB.gt (EvE.lenL T (EvE.name 6 rfl rfl) (by omega)) EvE.cInt (by rw [hlr]; simp; omega)
        have hlk := look_place (num0 (hd0 r))
        cases hk : placeOf (num0 (hd0 r)) with
        | none =>
          rw [hk] at hlk
          refine ⟨(plainCh q (num0 (hd0 r)), i + 1), by dsimp only; omega, trivial, hcond, start ?_, rfl⟩
          refine ExS.wkO (v := [.d (penD p), .d (rowsD ps), .d (penD (plainCh q (num0 (hd0 r)))), .d (.int (i + 1)), .d (rowsD rows), .d (.dic [38, 48, 58] (iD [1, 2, 3])), .d (rowD r), .d (.int (num0 (hd0 r))), .un]) ?_ (.same (.same (.same (.same (.same (.same (.un (.un (.same .nil)))))))))
          exact ExS.cons (Ex1.ifF hnl (ExS.cons (Ex1.ifF (EvB.cmp (EvE.name 7 rfl rfl) (EvE.name 5 rfl rfl) (cmp_in (by rw [hlk]; rfl))) (ExS.cons (Ex1.assign 2 rfl (EvE.call (pen_plain_changed_spec T q _) (EvL.cons (EvE.name 2 rfl rfl) (EvL.cons (EvE.name 7 rfl rfl) EvL.nil)))) (ExS.cons (Ex1.aug 3 rfl rfl EvE.cInt (op_iadd _ _)) ExS.nil))) ExS.nil)) ExS.nil
        | some j =>
          rw [hk] at hlk
          have hj := placeOf_lt hk
          have hpl : isPlace r = true := by
            obtain ⟨o, t, rfl⟩ := hro.cons
            have : t.length = 0 := by simp at h1; simp [h1]
            simp [isPlace, hk, this]
          have hta := pen_told_apart_spec (w := w) T rows i hok.all (fun r' hr' => hok.adj i r r' hr hr' hpl) hlen
          refine ⟨(withC q j (told (rows.drop (i + 1))).1, i + 1 + (told (rows.drop (i + 1))).2), by dsimp only; omega, trivial, hcond, start ?_, by dsimp only; rw [List.drop_drop]⟩
          refine ExS.wkO (v := [.d (penD p), .d (rowsD ps), .d (penD (withC q j (told (rows.drop (i + 1))).1)), .d (.int ((i + 1 + (told (rows.drop (i + 1))).2 : Nat) : Int)), .d (rowsD rows), .d (.dic [38, 48, 58] (iD [1, 2, 3])), .d (rowD r), .d (.int (num0 (hd0 r))), .d (optD (told (rows.drop (i + 1))).1)]) ?_ (.same (.same (.same (.same (.same (.same (.un (.un (.un .nil)))))))))
          generalize (told (rows.drop (i + 1))) = tl at *
          obtain ⟨col, jump⟩ := tl
          dsimp only at hta ⊢
          refine ExS.cons (Ex1.ifF hnl (ExS.cons (Ex1.ifT (EvB.cmp (EvE.name 7 rfl rfl) (EvE.name 5 rfl rfl) (cmp_in (by rw [hlk]; rfl))) (ExS.cons (Ex1.assignT (EvE.call hta (EvL.cons (EvE.name 4 rfl rfl) (EvL.cons (EvE.name 3 rfl rfl) EvL.nil))) (AsT.tuple (AsTs.cons (AsT.name 8 rfl) (AsTs.cons (AsT.name 3 rfl) AsTs.nil))))
            (ExS.cons (Ex1.assign (d := penD (withC q j col)) 2 rfl ?_) ExS.nil))) ExS.nil)) ExS.nil
          cases col with
          | none => exact EvE.ifT (EvB.cmp (EvE.name 8 rfl rfl) EvE.cNone cmp_isNone) (EvE.name 2 rfl rfl)
          | some c => exact EvE.ifF (EvB.cmp (EvE.name 8 rfl rfl) EvE.cNone (cmp_isInt c)) (EvE.call (pen_with_pen T q j c hj) (EvL.cons (EvE.name 2 rfl rfl) (EvL.cons (EvE.dictItem (EvE.name 5 rfl rfl) (EvE.name 7 rfl rfl) (by rw [hlk]; rfl)) (EvL.cons (EvE.name 8 rfl rfl) EvL.nil))))
end
end Og
namespace Og
open PySem PySem.Calls PySem.Spec PyProof.Rows

noncomputable def one (i : Int) : Row := [some i]
noncomputable def firstOf (place : Nat) : Int := if place = 1 then 30 else if place = 2 then 40 else 50
noncomputable def redOf (c : Int) : Int := Builtin.bitAnd (c.fdiv 65536) 255
noncomputable def greenOf (c : Int) : Int := Builtin.bitAnd (c.fdiv 256) 255
noncomputable def blueOf (c : Int) : Int := Builtin.bitAnd c 255
noncomputable def colPar (place : Nat) (c : Int) : List Row :=
  if c = -1 then [one (firstOf place + 9)]
  else if 16777216 ≤ c then [one (firstOf place + 8), one 2, one (redOf c), one (greenOf c), one (blueOf c)]
  else if place = 3 ∨ 16 ≤ c then [one (firstOf place + 8), one 5, one c]
  else [one (if c < 8 then firstOf place + c else firstOf place + 60 + c - 8)]
noncomputable def mateCh (other h : Int) (y : Int × Int × Int) : Int := if y.2.2 = other then Builtin.bitAnd h (Builtin.bitNot y.1) else h
noncomputable def clearStep (new : Int) (st : List Row × Int) (x : Int × Int × Int) : List Row × Int :=
  if Builtin.bitAnd st.2 x.1 ≠ 0 ∧ Builtin.bitAnd new x.1 = 0 then (st.1 ++ [one x.2.2], BITS.foldl (mateCh x.2.2) st.2) else st
noncomputable def setStep (new here : Int) (l : List Row) (x : Int × Int × Int) : List Row :=
  if Builtin.bitAnd new x.1 ≠ 0 ∧ Builtin.bitAnd here x.1 = 0 then l ++ [one x.2.1] else l
noncomputable def bitPar (old new : Int) : List Row :=
  (BITS.foldl (clearStep new) ([], old)).1 ++ BITS.foldl (setStep new (BITS.foldl (clearStep new) ([], old)).2) []
noncomputable def underPar (old new : Int) : List Row :=
  if old = new then [] else [if new = 0 then one 24 else if new = 1 then one 4 else if new = 2 then one 21 else [some 4, some new]]
noncomputable def underOf (f : Int) : Int := (Builtin.bitAnd f 3584).fdiv 512
noncomputable def changesP (old new : Pen) : List Row :=
  (((bitPar old.f new.f ++ underPar (underOf old.f) (underOf new.f)) ++ (if old.a ≠ new.a then colPar 1 new.a else [])) ++ (if old.b ≠ new.b then colPar 2 new.b else [])) ++ (if old.u ≠ new.u then colPar 3 new.u else [])

section
variable {prog : Program} {w : World} {G : Gl} {I : Inv} {sc : Sc} {names : List Str} {n : Nat} {vals : List Loc}

noncomputable abbrev nilList : Obj := { cls := .type "list", data := .seq ([] : List Value).toArray }
theorem St.newOwn {c : Fc} {own : List Addr} {s : Shared} (S : St G names I c own vals s) : St G names I c (s.heap.objs.size :: own) vals { s with heap := s.heap.push nilList } := by
  have hn₁ : s.heap.get? s.heap.objs.size = none := none_size
  refine S.widen (wd := [s.heap.objs.size]) (fun b o e => Heap.get?_push_of_some _ e) ⟨rfl, rfl, rfl⟩ (fun b hb => ?_) (fun b hb => ?_)
  · obtain rfl : b = _ := by simpa using hb
    exact hn₁
  · obtain rfl : b = _ := by simpa using hb
    exact ⟨_, Heap.get?_push_size _ rfl⟩
theorem St.bindS {c : Fc} {own : List Addr} {s : Shared} {A : Around} {E : Value → Shared → Prop} {Q : Unit → Shared → Prop} (hsc : EnvIs c.env sc) (S : St G names I c own vals s) {i : Nat} {x : Str} {v : Value} {d : D} (hx : names[i]? = some x) (r : Rep (own ++ c.fz) s.heap v d)
    (k : ∀ s', St G names I c own (vals.set i (.d d)) s' → Heap.SameBut c.env.locals s.heap s'.heap → Q () s') : wpAny (model prog w) A (storeName c.env x v) Q E s := by
  obtain ⟨m, hn, hv⟩ := S.ns
  refine wpAny_storeName_local (S.loc x (List.mem_of_getElem? hx)).1 hn (fun h' hn' hs => ?_) (by rw [S.kind]; rfl)
  have xe : Ext own s.heap h' := fun b o hb e => hs.extBut b o (fun q => hb (q ▸ S.lown)) e
  exact k _ (S.store hn hv hn' hs hx ⟨v, rfl, r.ext xe⟩) hs

theorem ExS.assign3Own {lp lq tp pos vp px py pz pu : Pos} {j k : Nat} {x y z u : Str} {rest : List Stmt} {o : Out} {d : D} (i₁ i₂ i₃ i₄ : Nat) (h₁ : names[i₁]? = some x) (h₂ : names[i₂]? = some y) (h₃ : names[i₃]? = some z) (h₄ : names[i₄]? = some u) (hd : vals[i₄]? = some (.d d))
    (hr : ∀ a b, a ≠ b → (∀ (j : Nat) c es', vals[j]? = some (Loc.own c es') → c ≠ a ∧ c ≠ b) → a ∉ I.ad ∧ b ∉ I.ad → ExS prog w G I sc names n (((vals.set i₃ (.d d)).set i₂ (.own b [])).set i₁ (.own a [])) rest o)
    (hs : ∀ env, swapsWithSole [.Tuple [.Name x px, .Name y py, .Name z pz] j tp] (.Tuple [.List [] lp, .List [] lq, .Name u pu] k vp) pos.line env = pure false := by intro _; rfl)
    (hw : ∀ env : Env, swappedStores [.Tuple [.Name x px, .Name y py, .Name z pz] j tp] (.Tuple [.List [] lp, .List [] lq, .Name u pu] k vp) { env with scope := sc.scope } = pure (some [x, y, z]) := by intro _; rfl) :
    ExS prog w G I sc names n vals (.Assign [.Tuple [.Name x px, .Name y py, .Name z pz] j tp] (.Tuple [.List [] lp, .List [] lq, .Name u pu] k vp) pos :: rest) o := by
  constructor
  intro c own s A Q E hsc R S kk
  have hz0 : ([] : List Value).length ≤ sizeLine := Nat.le_of_ble_eq_true rfl
  have hn₁ : s.heap.get? s.heap.objs.size = none := none_size
  have S1 := S.newOwn
  have S2 := S1.newOwn
  have hsz1 : (s.heap.push nilList).objs.size = s.heap.objs.size + 1 := Heap.size_push ..
  obtain ⟨m, hn, hv⟩ := S2.ns
  obtain ⟨v, hm, r⟩ := hv.get h₄ hd
  have hlu := S2.loc u (List.mem_of_getElem? h₄)
  refine wpAny_execs_cons (Assign_Tuple_swapped (names := [x, y, z]) (wpAny_Tuple (args_cons (wpAny_List (args_nil ⟨hz0, args_cons (wpAny_List (args_nil ⟨hz0, args_cons (wpAny_Name (wpAny_loadName_local S2.kind hlu.1 hn hm (args_nil ⟨Nat.le_of_ble_eq_true rfl, ?_⟩)) hlu.2) (star_plain rfl)⟩)) (star_plain rfl)⟩)) (star_plain rfl))) (hs _) (by rw [env_sc hsc.1]; exact hw _))
  have S3 := S2.push { cls := .type "tuple", data := .seq [Value.ref s.heap.objs.size, .ref (s.heap.push nilList).objs.size, v].toArray }
  refine wpAny_unpackItems_tuple (items := #[.ref s.heap.objs.size, .ref (s.heap.push nilList).objs.size, v]) R.hand ⟨_, Heap.get?_push_size _ rfl, rfl, _, rfl⟩ fun h' hk => ?_
  have hk' := keeps_of_ext hk
  have S4 : St G names I c _ vals { ({ s with heap := ((s.heap.push nilList).push nilList).push { cls := .type "tuple", data := .seq [Value.ref s.heap.objs.size, .ref (s.heap.push nilList).objs.size, v].toArray } } : Shared) with heap := h' } := S3.keeps hk' ⟨rfl, rfl, rfl⟩
  have upA : h'.get? s.heap.objs.size = some { cls := .type "list", data := .seq ([] : List Value).toArray } := hk' _ _ (Heap.get?_push_of_some _ (Heap.get?_push_of_some _ (Heap.get?_push_size _ rfl)))
  have upB : h'.get? (s.heap.push nilList).objs.size = some { cls := .type "list", data := .seq ([] : List Value).toArray } := hk' _ _ (Heap.get?_push_of_some _ (Heap.get?_push_size _ rfl))
  have old : ∀ b o, s.heap.get? b = some o → h'.get? b = some o := fun b o e => hk' b o (Heap.get?_push_of_some _ (Heap.get?_push_of_some _ (Heap.get?_push_of_some _ e)))
  have hnb : s.heap.get? (s.heap.push nilList).objs.size = none := by
    cases e : s.heap.get? (s.heap.push nilList).objs.size with
    | none => rfl
    | some o => exact absurd (hsz1 ▸ Heap.lt_size e) (Nat.not_lt.mpr (Nat.le_succ _))
  have hab : s.heap.objs.size ≠ (s.heap.push nilList).objs.size := by rw [hsz1]; exact Nat.ne_of_lt (Nat.lt_succ_self _)
  have r4 : Rep ((s.heap.push nilList).objs.size :: s.heap.objs.size :: own ++ c.fz) h' v d := (r.mono fun a o ha e => ⟨Heap.get?_push_of_some _ e, ha⟩ : Rep _ (Heap.push _ _) v d).mono fun a o ha e => ⟨hk' a o e, ha⟩
  clear S1 S2 S3 hn hv hm r hk hk' hsz1
  generalize (s.heap.push nilList).objs.size = b at *
  generalize s.heap.objs.size = a at *
  have hal : ∀ {q : Addr}, s.heap.get? q = none → q ≠ c.env.locals := fun {q} hq e => by
    obtain ⟨o, e'⟩ := S.alive c.env.locals (List.mem_append_left _ S.lown)
    rw [← e, hq] at e'; cases e'
  refine wpAny_assignInOrder_more (wpAny_bindName (S4.bindS hsc h₃ r4 fun s₅ S₅ x₅ => ?_))
  refine wpAny_assignInOrder_more (wpAny_bindName (S₅.bindOwn (ds := []) (vs := []) hsc h₂ (.head _) (hal hnb) (x₅.extBut _ _ (hal hnb) upB) .nil fun s₆ S₆ x₆ => ?_))
  refine wpAny_assignInOrder_more (wpAny_bindName (S₆.bindOwn (ds := []) (vs := []) hsc h₁ (.tail _ (.head _)) (hal hn₁) (x₆.extBut _ _ (hal hn₁) (x₅.extBut _ _ (hal hn₁) upA)) .nil fun s₇ S₇ x₇ => wpAny_assignInOrder_none ?_))
  have hI : ∀ {q : Addr}, s.heap.get? q = none → q ∉ I.ad := fun {q} hq hm => by
    obtain ⟨o, e⟩ := S.alive q (List.mem_append_left _ (S.iown q hm).1)
    rw [hq] at e; cases e
  refine (hr a b hab (fun j c' es' hj => ?_) ⟨hI hn₁, hI hnb⟩).go c _ s₇ A Q E hsc R S₇ fun f s' q => kk f s' (q.step ?_)
  · obtain ⟨o, e⟩ := S.ownAlive (List.mem_of_getElem? hj)
    exact ⟨(fun q => by rw [q, hn₁] at e; cases e), (fun q => by rw [q, hnb] at e; cases e)⟩
  · refine ⟨fun q o hq e => ?_, fun q hq => .tail _ (.tail _ hq), fun q hq => ?_⟩
    · have hl : q ≠ c.env.locals := fun z => hq (z ▸ S.lown)
      exact x₇.extBut q o hl (x₆.extBut q o hl (x₅.extBut q o hl (old q o e)))
    · rcases List.mem_cons.mp hq with rfl | hq
      · exact .inr hnb
      · rcases List.mem_cons.mp hq with rfl | hq
        · exact .inr hn₁
        · exact .inl hq
end
end Og
namespace Og
open PySem PySem.Calls PySem.Spec PyProof.Rows
section
variable {prog : Program} {w : World} {G : Gl} {I : Inv} {sc : Sc} {names : List Str} {n : Nat}
theorem ForOk.famP {σ α : Type} {top : Bool} {t : Expr} {body : List Stmt} (g : α → D) (V : σ → List Loc) (f : σ → α → σ) (ls : List α) (x₀ : σ)
    (step : ∀ pre a post, ls = pre ++ a :: post → ∃ v₁ v₂, AsT top prog w G I sc names n (V (pre.foldl f x₀)) t (g a) v₁ ∧ Wk v₂ (V (f (pre.foldl f x₀) a)) ∧ ExS prog w G I sc names n v₁ body (.next v₂)) :
    ForOk prog w G I sc names n top t body (V x₀) (ls.map g) (.next (V (ls.foldl f x₀))) := by
  have : ∀ (post pre : List α), ls = pre ++ post → ForOk prog w G I sc names n top t body (V (pre.foldl f x₀)) (post.map g) (.next (V (ls.foldl f x₀))) := by
    intro post
    induction post with
    | nil =>
      intro pre h
      rw [List.append_nil] at h
      subst h
      exact .nil
    | cons a post ih =>
      intro pre h
      obtain ⟨v₁, v₂, h1, h2, h3⟩ := step pre a post h
      have := ih (pre ++ [a]) (by simp [h])
      rw [List.foldl_append] at this
      exact .next h1 (h3.wkO h2) this
  exact this ls [] rfl
end
section
variable {w : World} {G : Gl} {I : Inv} {sc : Sc} {names : List Str} {n : Nat} {vals : List Loc}
theorem EvB.nz {e : Expr} {x : Int} {t : Bool} (he : EvE PP w G I sc names n vals e (.int x)) (h : (x != 0) = t) (hp : ∀ env whole, isTrue e env whole = (do let v ← whole; standAt e.pos; holding [v] (truthy v)) := by intro _ _; rfl) : EvB PP w G I sc names n vals e t :=
  EvB.of he (h ▸ tru_int x) hp
theorem EvB.tr {e : Expr} {t : Bool} (he : EvE PP w G I sc names n vals e (.bool t)) (hp : ∀ env whole, isTrue e env whole = (do let v ← whole; standAt e.pos; holding [v] (truthy v)) := by intro _ _; rfl) : EvB PP w G I sc names n vals e t :=
  EvB.of he (tru_bool t) hp
theorem nzT {x : Int} (h : x ≠ 0) : (x != 0) = true := by simp [h]
theorem nzF {x : Int} (h : x = 0) : (x != 0) = false := by simp [h]
theorem one_row (e : Int) : rowD (one e) = .lst [.int e] := rfl

noncomputable abbrev N53 : List Str := ["old", "new", "clears", "sets", "here", "bit", "one", "other", "mate", "unused", "clear"]
noncomputable def ownsAt : Nat → List Loc → List (Nat × Addr)
  | _, [] => []
  | k, .own c _ :: l => (k, c) :: ownsAt (k + 1) l
  | k, _ :: l => ownsAt (k + 1) l
theorem own_at {c : Addr} {es : List D} : ∀ {l : List Loc} {k q : Nat}, l[q]? = some (Loc.own c es) → (k + q, c) ∈ ownsAt k l
  | [], _, _, h => by cases h
  | x :: l, k, 0, h => by
    cases h
    exact .head _
  | x :: l, k, q + 1, h => by
    have h2 := own_at (l := l) (k := k + 1) (q := q) h
    rw [show k + (q + 1) = k + 1 + q by omega]
    cases x with
    | own _ _ => exact .tail _ h2
    | _ => exact h2
theorem own_two {a b c : Addr} {es : List D} {l : List Loc} {q : Nat} (h : l[q]? = some (Loc.own c es)) (e : ownsAt 0 l = [(2, a), (3, b)]) : (q = 2 ∧ c = a) ∨ (q = 3 ∧ c = b) := by
  have h2 := own_at (k := 0) h
  rw [e, Nat.zero_add] at h2
  rcases List.mem_cons.mp h2 with h2 | h2
  · cases h2; exact .inl ⟨rfl, rfl⟩
  · cases List.mem_singleton.mp h2; exact .inr ⟨rfl, rfl⟩
theorem bit_body1 (T : Top G) (old new here : Int) (x : Int × Int × Int) (l : List Row) (a b : Addr) (hab : a ≠ b) (hl : l.length ≤ 100) :
    ExS PP w G Inv.none ⟨scopeOf (stOf 53), []⟩ N53 1 [.d (.int old), .d (.int new), .own a (l.map rowD), .own b [], .d (.int here), .d (.int x.1), .d (.int x.2.1), .d (.int x.2.2), .un, .un, .un] (inner (nth (bodyOf (stOf 53)) 1))
      (.next [.d (.int old), .d (.int new), .own a ((clearStep new (l, here) x).1.map rowD), .own b [], .d (.int (clearStep new (l, here) x).2), .d (.int x.1), .d (.int x.2.1), .d (.int x.2.2), .un, .un, .un]) := by
  have hsl : sizeLine = 16777216 := rfl
  have hne : ∀ {q : Nat} {c : Addr} {es : List D} {v0 v1 v4 v5 v6 v7 : D} {ds : List D}, q ≠ 2 → ([.d v0, .d v1, .own a ds, .own b [], .d v4, .d v5, .d v6, .d v7, .un, .un, .un] : List Loc)[q]? = some (Loc.own c es) → c ≠ a := by
    intro q c es v0 v1 v4 v5 v6 v7 ds hq he
    rcases own_two (a := a) (b := b) he rfl with ⟨r, _⟩ | ⟨_, r⟩
    · exact absurd r hq
    · rw [r]; exact hab.symm
  unfold clearStep
  dsimp only
  by_cases h1 : Builtin.bitAnd here x.1 = 0
  · rw [if_neg (fun h => h.1 h1)]
    exact ExS.cons (Ex1.ifF (EvB.all (.stopA (EvB.nz (EvE.bin (EvE.name 4 rfl rfl) (EvE.name 5 rfl rfl) (op_and _ _)) (nzF h1)))) ExS.nil) ExS.nil
  by_cases h2 : Builtin.bitAnd new x.1 = 0
  · rw [if_pos ⟨h1, h2⟩]
    dsimp only
    refine ExS.cons (Ex1.ifT (EvB.all (.goA (EvB.nz (EvE.bin (EvE.name 4 rfl rfl) (EvE.name 5 rfl rfl) (op_and _ _)) (nzT h1)) (.goA (EvB.not (EvB.nz (EvE.bin (EvE.name 1 rfl rfl) (EvE.name 5 rfl rfl) (op_and _ _)) (nzF h2))) .nil))) ?_) ExS.nil
    refine ExS.cons (Ex1.append 2 rfl rfl (EvE.list (EvL.cons (EvE.name 7 rfl rfl) EvL.nil)) (fun q c es hq he => hne hq he) (fun h => nomatch h) (by simp; omega)) ?_
    refine ExS.cons (v₁ := [.d (.int old), .d (.int new), .own a ((l ++ [one x.2.2]).map rowD), .own b [], .d (.int (BITS.foldl (mateCh x.2.2) here)), .d (.int x.1), .d (.int x.2.1), .d (.int x.2.2), .un, .un, .un]) ?_ ExS.nil
    have e : (l.map rowD) ++ [.lst [.int x.2.2]] = (l ++ [one x.2.2]).map rowD := by simp [one_row]
    refine Ex1.eqV (vals' := [.d (.int old), .d (.int new), .own a ((l ++ [one x.2.2]).map rowD), .own b [], .d (.int here), .d (.int x.1), .d (.int x.2.1), .d (.int x.2.2), .un, .un, .un]) ?_ (by rw [← e]; rfl)
    refine Ex1.for (top := false) (EvI.tuple (EvE.call0 (pen_bits_spec T))) (ForOk.fam (σ := Int) bitD (fun h => [.d (.int old), .d (.int new), .own a ((l ++ [one x.2.2]).map rowD), .own b [], .d (.int h), .d (.int x.1), .d (.int x.2.1), .d (.int x.2.2), .un, .un, .un]) (mateCh x.2.2) (fun _ => True) BITS (fun h y hy _ => ⟨trivial, ?_⟩) here trivial)
    obtain ⟨m, u, c⟩ := y
    refine ⟨_, [.d (.int old), .d (.int new), .own a ((l ++ [one x.2.2]).map rowD), .own b [], .d (.int (mateCh x.2.2 h (m, u, c))), .d (.int x.1), .d (.int x.2.1), .d (.int x.2.2), .d (.int m), .d (.int u), .d (.int c)], AsT.tuple (AsTs.cons (AsT.name 8 rfl) (AsTs.cons (AsT.name 9 rfl) (AsTs.cons (AsT.name 10 rfl) AsTs.nil))),
      .same (.same (.same (.same (.same (.same (.same (.same (.un (.un (.un .nil)))))))))), .inl ?_⟩
    unfold mateCh
    dsimp only
    by_cases hc : c = x.2.2
    · rw [if_pos hc]
      exact ExS.cons (Ex1.ifT (EvB.eqI (EvE.name 10 rfl rfl) (EvE.name 7 rfl rfl) (eqT hc)) (ExS.cons (Ex1.aug 4 rfl rfl (EvE.inv (EvE.name 8 rfl rfl)) (op_iand _ _)) ExS.nil)) ExS.nil
    · rw [if_neg hc]
      exact ExS.cons (Ex1.ifF (EvB.eqI (EvE.name 10 rfl rfl) (EvE.name 7 rfl rfl) (eqF hc)) ExS.nil) ExS.nil
  · rw [if_neg (fun h => h2 h.2)]
    exact ExS.cons (Ex1.ifF (EvB.all (.goA (EvB.nz (EvE.bin (EvE.name 4 rfl rfl) (EvE.name 5 rfl rfl) (op_and _ _)) (nzT h1)) (.stopA (EvB.not (EvB.nz (EvE.bin (EvE.name 1 rfl rfl) (EvE.name 5 rfl rfl) (op_and _ _)) (nzT h2)))))) ExS.nil) ExS.nil
theorem bit_body2 (T : Top G) (old new here : Int) (x : Int × Int × Int) (lc l : List Row) (a b : Addr) (hab : a ≠ b) (hl : l.length ≤ 100) :
    ExS PP w G Inv.none ⟨scopeOf (stOf 53), []⟩ N53 1 [.d (.int old), .d (.int new), .own a (lc.map rowD), .own b (l.map rowD), .d (.int here), .d (.int x.1), .d (.int x.2.1), .d (.int x.2.2), .un, .un, .un] (inner (nth (bodyOf (stOf 53)) 2))
      (.next [.d (.int old), .d (.int new), .own a (lc.map rowD), .own b ((setStep new here l x).map rowD), .d (.int here), .d (.int x.1), .d (.int x.2.1), .d (.int x.2.2), .un, .un, .un]) := by
  have hsl : sizeLine = 16777216 := rfl
  unfold setStep
  by_cases h1 : Builtin.bitAnd new x.1 = 0
  · rw [if_neg (fun h => h.1 h1)]
    exact ExS.cons (Ex1.ifF (EvB.all (.stopA (EvB.nz (EvE.bin (EvE.name 1 rfl rfl) (EvE.name 5 rfl rfl) (op_and _ _)) (nzF h1)))) ExS.nil) ExS.nil
  by_cases h2 : Builtin.bitAnd here x.1 = 0
  · rw [if_pos ⟨h1, h2⟩]
    refine ExS.cons (Ex1.ifT (EvB.all (.goA (EvB.nz (EvE.bin (EvE.name 1 rfl rfl) (EvE.name 5 rfl rfl) (op_and _ _)) (nzT h1)) (.goA (EvB.not (EvB.nz (EvE.bin (EvE.name 4 rfl rfl) (EvE.name 5 rfl rfl) (op_and _ _)) (nzF h2))) .nil))) ?_) ExS.nil
    have e : (l.map rowD) ++ [.lst [.int x.2.1]] = (l ++ [one x.2.1]).map rowD := by simp [one_row]
    refine ExS.eqO (ExS.cons (Ex1.append 3 rfl rfl (EvE.list (EvL.cons (EvE.name 6 rfl rfl) EvL.nil)) (fun q c es hq he => ?_) (fun h => nomatch h) (by simp; omega)) ExS.nil) (by rw [← e]; rfl)
    rcases own_two (a := a) (b := b) he rfl with ⟨_, r⟩ | ⟨r, _⟩
    · rw [r]; exact hab
    · exact absurd r hq
  · rw [if_neg (fun h => h2 h.2)]
    exact ExS.cons (Ex1.ifF (EvB.all (.goA (EvB.nz (EvE.bin (EvE.name 1 rfl rfl) (EvE.name 5 rfl rfl) (op_and _ _)) (nzT h1)) (.stopA (EvB.not (EvB.nz (EvE.bin (EvE.name 4 rfl rfl) (EvE.name 5 rfl rfl) (op_and _ _)) (nzT h2)))))) ExS.nil) ExS.nil

theorem clear_len (new : Int) : ∀ (ls : List (Int × Int × Int)) (st : List Row × Int), (ls.foldl (clearStep new) st).1.length ≤ st.1.length + ls.length
  | [], st => by simp
  | x :: ls, st => by
    have := clear_len new ls (clearStep new st x)
    have h2 : (clearStep new st x).1.length ≤ st.1.length + 1 := by unfold clearStep; split <;> simp
    simp only [List.foldl_cons, List.length_cons]; omega
theorem set_len (new here : Int) : ∀ (ls : List (Int × Int × Int)) (l : List Row), (ls.foldl (setStep new here) l).length ≤ l.length + ls.length
  | [], l => by simp
  | x :: ls, l => by
    have := set_len new here ls (setStep new here l x)
    have h2 : (setStep new here l x).length ≤ l.length + 1 := by unfold setStep; split <;> simp
    simp only [List.foldl_cons, List.length_cons]; omega

theorem sgr_bit_params_spec (T : Top G) (old new : Int) : Spec PP w G 2 "sgr_bit_params" [.int old, .int new] (rowsD (bitPar old new)) := by
  have hsl : sizeLine = 16777216 := rfl
  have hbl : BITS.length = 9 := rfl
  refine Spec.intro (ps := ["old", "new"]) (rest := ["clears", "sets", "here", "bit", "one", "other", "mate", "unused", "clear"]) (T.fns 53 (by decide)) (fun s pm code doc dV vs hl hd => ?_) rfl (by decide +kernel) ?_
  · obtain ⟨a, b, rfl⟩ := len2 hl
    exact BindsTo.of_eq (by cases hd; rfl)
  · refine ExS.assign3Own 2 3 4 0 rfl rfl rfl rfl rfl fun a b hab _ _ => ?_
    refine ExS.cons (Ex1.for (top := false) (EvI.tuple (EvE.call0 (pen_bits_spec T))) (ForOk.famP (σ := List Row × Int) bitD (fun st => [.d (.int old), .d (.int new), .own a (st.1.map rowD), .own b [], .d (.int st.2), .un, .un, .un, .un, .un, .un])
      (clearStep new) BITS ([], old) (fun pre x post hpre => ?_))) ?_
    · have hcl := clear_len new pre ([], old)
      have hpl : pre.length ≤ 9 := by rw [← hbl, hpre]; simp
      simp only [List.length_nil, Nat.zero_add] at hcl
      generalize pre.foldl (clearStep new) ([], old) = st at *
      obtain ⟨l, here⟩ := st
      obtain ⟨m, u, c⟩ := x
      exact ⟨_, _, AsT.tuple (AsTs.cons (AsT.name 5 rfl) (AsTs.cons (AsT.name 6 rfl) (AsTs.cons (AsT.name 7 rfl) AsTs.nil))), .same (.same (.same (.same (.same (.un (.un (.un (Wk.refl _)))))))), bit_body1 T old new here (m, u, c) l a b hab (by simp at hcl; omega)⟩
    · have hcl := clear_len new BITS ([], old)
      simp only [List.length_nil, Nat.zero_add] at hcl
      have hsl2 := set_len new (BITS.foldl (clearStep new) ([], old)).2 BITS []
      unfold bitPar
      generalize BITS.foldl (clearStep new) ([], old) = st at *
      obtain ⟨lc, here⟩ := st
      dsimp only at hcl hsl2 ⊢
      refine ExS.cons (Ex1.for (top := false) (EvI.tuple (EvE.call0 (pen_bits_spec T))) (ForOk.famP (σ := List Row) bitD (fun l => [.d (.int old), .d (.int new), .own a (lc.map rowD), .own b (l.map rowD), .d (.int here), .un, .un, .un, .un, .un, .un])
        (setStep new here) BITS [] (fun pre x post hpre => ?_))) ?_
      · have hcl2 := set_len new here pre []
        have hpl : pre.length ≤ 9 := by rw [← hbl, hpre]; simp
        simp only [List.length_nil, Nat.zero_add] at hcl2
        generalize pre.foldl (setStep new here) [] = l at *
        obtain ⟨m, u, c⟩ := x
        exact ⟨_, _, AsT.tuple (AsTs.cons (AsT.name 5 rfl) (AsTs.cons (AsT.name 6 rfl) (AsTs.cons (AsT.name 7 rfl) AsTs.nil))), .same (.same (.same (.same (.same (.un (.un (.un (Wk.refl _)))))))), bit_body2 T old new here (m, u, c) lc l a b hab (by omega)⟩
      · refine ExS.stop (Ex1.ret ((EvE.addOwn 2 3 rfl rfl rfl rfl (by simp at hsl2 ⊢; omega)).eq ?_))
        simp [rowsD]
end
end Og
namespace Og
open PySem PySem.Calls PySem.Spec PyProof.Rows
section
variable {w : World} {G : Gl} {I : Inv} {sc : Sc} {names : List Str} {n : Nat} {vals : List Loc}

theorem EvL.row {e : Expr} {i : Int} (h : EvE PP w G I sc names n vals e (.int i)) (hst : noStar e = true := by rfl) : EvL PP w G I sc names n vals [e] [.int i] := EvL.cons h EvL.nil (fun _ => star_plain hst)

theorem sgr_colour_params_spec (T : Top G) (place : Nat) (c : Int) (hp : place = 1 ∨ place = 2 ∨ place = 3) : Spec PP w G 3 "sgr_colour_params" [.int place, .int c] (rowsD (colPar place c)) := by
  refine Spec.intro (ps := ["place", "colour"]) (rest := ["first", "red", "green", "blue"]) (T.fns 52 (by decide)) (fun s pm code doc dV vs hl hd => ?_) rfl (by decide +kernel) ?_
  · obtain ⟨a, b, rfl⟩ := len2 hl
    exact BindsTo.of_eq (by cases hd; rfl)
  · have hlk : look [1, 2, 3] (iD [30, 40, 50]) (place : Int) = some (.int (firstOf place)) := by rcases hp with rfl | rfl | rfl <;> rfl
    refine ExS.cons (Ex1.assign (d := .int (firstOf place)) 2 rfl (EvE.dictItem (ks := [1, 2, 3]) (ds := iD [30, 40, 50]) (EvE.dict (EvD.cons (EvE.num T 1) EvE.cInt (EvD.cons (EvE.num T 2) EvE.cInt (EvD.cons (EvE.num T 3) EvE.cInt EvD.nil))) (by decide) rfl rfl rfl (List.cons_ne_nil _ _) (Nat.le_of_ble_eq_true rfl)) (EvE.name 0 rfl rfl) hlk)) ?_
    unfold colPar
    by_cases h1 : c = -1
    · rw [if_pos h1]
      exact ExS.stop (Ex1.ifT (EvB.eqI (EvE.name 1 rfl rfl) (EvE.num T (-1)) (eqT h1)) (ExS.stop (Ex1.ret (EvE.list (ds := [rowD _]) (EvL.cons (EvE.list (EvL.row (EvE.bin (EvE.name 2 rfl rfl) EvE.cInt (op_add _ _)))) EvL.nil)))))
    rw [if_neg h1]
    refine ExS.cons (Ex1.ifF (EvB.eqI (EvE.name 1 rfl rfl) (EvE.num T (-1)) (eqF h1)) ExS.nil) ?_
    by_cases h2 : 16777216 ≤ c
    · rw [if_pos h2]
      refine ExS.stop (Ex1.ifT (EvB.tr (EvE.call (decide_eq_true h2 ▸ is_direct_spec T c) (EvL.cons (EvE.name 1 rfl rfl) EvL.nil))) ?_)
      refine ExS.cons (Ex1.assignT (EvE.call (rgb_of_spec T c) (EvL.cons (EvE.name 1 rfl rfl) EvL.nil)) (AsT.tuple (AsTs.cons (AsT.name 3 rfl) (AsTs.cons (AsT.name 4 rfl) (AsTs.cons (AsT.name 5 rfl) AsTs.nil))))) ?_
      refine ExS.stop (Ex1.ret (EvE.list (ds := [rowD _, rowD _, rowD _, rowD _, rowD _]) ?_))
      exact EvL.cons (EvE.list (EvL.row (EvE.bin (EvE.name 2 rfl rfl) EvE.cInt (op_add _ _)))) (EvL.cons (EvE.list (EvL.row EvE.cInt)) (EvL.cons (EvE.list (EvL.row (EvE.name 3 rfl rfl))) (EvL.cons (EvE.list (EvL.row (EvE.name 4 rfl rfl))) (EvL.cons (EvE.list (EvL.row (EvE.name 5 rfl rfl))) EvL.nil))))
    rw [if_neg h2]
    refine ExS.cons (Ex1.ifF (EvB.tr (EvE.call (decide_eq_false h2 ▸ is_direct_spec T c) (EvL.cons (EvE.name 1 rfl rfl) EvL.nil))) ExS.nil) ?_
    have fin : ∀ {ws : List Loc}, ws[1]? = some (.d (.int c)) → ws[2]? = some (.d (.int (firstOf place))) → ExS PP w G Inv.none ⟨scopeOf (stOf 52), []⟩ [("place" : Str), "colour", "first", "red", "green", "blue"] 2 ws (inner (nth (bodyOf (stOf 52)) 3)) (.ret (rowsD [one (firstOf place + 8), one 5, one c])) := fun w1 w2 => by
      refine ExS.stop (Ex1.ret (EvE.list (ds := [rowD _, rowD _, rowD _]) ?_))
      exact EvL.cons (EvE.list (EvL.row (EvE.bin (EvE.name 2 rfl w2) EvE.cInt (op_add _ _)))) (EvL.cons (EvE.list (EvL.row EvE.cInt)) (EvL.cons (EvE.list (EvL.row (EvE.name 1 rfl w1))) EvL.nil))
    by_cases h3 : place = 3
    · rw [if_pos (.inl h3)]
      exact ExS.stop (Ex1.ifT (EvB.all (.stopO (EvB.eqI (EvE.name 0 rfl rfl) (EvE.num T 3) (eqT (by omega))))) (fin rfl rfl))
    by_cases h4 : 16 ≤ c
    · rw [if_pos (.inr h4)]
      exact ExS.stop (Ex1.ifT (EvB.all (.goO (EvB.eqI (EvE.name 0 rfl rfl) (EvE.num T 3) (eqF (by omega))) (.stopO (EvB.ge (EvE.name 1 rfl rfl) EvE.cInt (decide_eq_true h4))))) (fin rfl rfl))
    rw [if_neg (fun h => h.elim h3 h4)]
    refine ExS.cons (Ex1.ifF (EvB.all (.goO (EvB.eqI (EvE.name 0 rfl rfl) (EvE.num T 3) (eqF (by omega))) (.goO (EvB.ge (EvE.name 1 rfl rfl) EvE.cInt (decide_eq_false h4)) .nil))) ExS.nil) ?_
    refine ExS.stop (Ex1.ret (EvE.list (ds := [rowD (one _)]) (EvL.cons (EvE.list (EvL.row ?_)) EvL.nil)))
    by_cases h8 : c < 8
    · rw [if_pos h8]
      exact EvE.ifT (EvB.lt (EvE.name 1 rfl rfl) (EvE.num T 8) (decide_eq_true h8)) (EvE.bin (EvE.name 2 rfl rfl) (EvE.name 1 rfl rfl) (op_add _ _))
    · rw [if_neg h8]
      exact EvE.ifF (EvB.lt (EvE.name 1 rfl rfl) (EvE.num T 8) (decide_eq_false h8)) (EvE.bin (EvE.bin (EvE.bin (EvE.name 2 rfl rfl) EvE.cInt (op_add _ _)) (EvE.name 1 rfl rfl) (op_add _ _)) (EvE.num T 8) (op_sub _ _))

theorem sgr_under_params_spec (T : Top G) (old new : Int) : Spec PP w G 2 "sgr_under_params" [.int old, .int new] (rowsD (underPar old new)) := by
  refine Spec.intro (ps := ["old", "new"]) (rest := ["plain"]) (T.fns 54 (by decide)) (fun s pm code doc dV vs hl hd => ?_) rfl (by decide +kernel) ?_
  · obtain ⟨a, b, rfl⟩ := len2 hl
    exact BindsTo.of_eq (by cases hd; rfl)
  · unfold underPar
    by_cases h : old = new
    · rw [if_pos h]
      exact ExS.stop (Ex1.ifT (EvB.eqI (EvE.name 0 rfl rfl) (EvE.name 1 rfl rfl) (eqT h)) (ExS.stop (Ex1.ret (EvE.list EvL.nil))))
    rw [if_neg h]
    refine ExS.cons (Ex1.ifF (EvB.eqI (EvE.name 0 rfl rfl) (EvE.name 1 rfl rfl) (eqF h)) ExS.nil) ?_
    refine ExS.cons (Ex1.assign (d := .dic [0, 1, 2] [rowD (one 24), rowD (one 4), rowD (one 21)]) 2 rfl (EvE.dict (EvD.cons EvE.cInt (EvE.list (EvL.row EvE.cInt)) (EvD.cons EvE.cInt (EvE.list (EvL.row EvE.cInt)) (EvD.cons EvE.cInt (EvE.list (EvL.row EvE.cInt)) EvD.nil))) (by decide) rfl rfl rfl (List.cons_ne_nil _ _) (Nat.le_of_ble_eq_true rfl))) ?_
    have tt : ∀ r, look [0, 1, 2] [rowD (one 24), rowD (one 4), rowD (one 21)] new = some (rowD r) → ExS PP w G Inv.none ⟨scopeOf (stOf 54), []⟩ [("old" : Str), "new", "plain"] 1 [.d (.int old), .d (.int new), .d (.dic [0, 1, 2] [rowD (one 24), rowD (one 4), rowD (one 21)])] ((bodyOf (stOf 54)).drop 2) (.ret (rowsD [r])) := fun r hr =>
      ExS.stop (Ex1.ret (EvE.list (ds := [rowD r]) (EvL.cons (EvE.ifT (EvB.cmp (EvE.name 1 rfl rfl) (EvE.name 2 rfl rfl) (cmp_in (by rw [hr]; rfl))) (EvE.dictItem (EvE.name 2 rfl rfl) (EvE.name 1 rfl rfl) hr)) EvL.nil)))
    by_cases h0 : new = 0
    · rw [if_pos h0]; exact tt _ (by rw [h0]; rfl)
    rw [if_neg h0]
    by_cases h1 : new = 1
    · rw [if_pos h1]; exact tt _ (by rw [h1]; rfl)
    rw [if_neg h1]
    by_cases h2 : new = 2
    · rw [if_pos h2]; exact tt _ (by rw [h2]; rfl)
    rw [if_neg h2]
    have hn : look [0, 1, 2] [rowD (one 24), rowD (one 4), rowD (one 21)] new = none := by
      have a0 : ¬ 0 = new := fun h => h0 h.symm
      have a1 : ¬ 1 = new := fun h => h1 h.symm
      have a2 : ¬ 2 = new := fun h => h2 h.symm
      simp [look, a0, a1, a2]
    exact ExS.stop (Ex1.ret (EvE.list (ds := [rowD [some 4, some new]]) (EvL.cons (EvE.ifF (EvB.cmp (EvE.name 1 rfl rfl) (EvE.name 2 rfl rfl) (cmp_in (by rw [hn]; rfl))) (EvE.list (EvL.cons EvE.cInt (EvL.cons (EvE.name 1 rfl rfl) EvL.nil)))) EvL.nil)))

theorem op_rows {A B : List Row} (hz : A.length + B.length ≤ sizeLine) : OpOk PP w (binaryOp .Add) (rowsD A) (rowsD B) (rowsD (A ++ B)) := by
  have := op_catL (prog := PP) (w := w) (xs := A.map rowD) (ys := B.map rowD) (by simpa using hz)
  rw [← List.map_append] at this
  exact this
theorem bitPar_len (a b : Int) : (bitPar a b).length ≤ 18 := by
  have h1 := clear_len b BITS ([], a)
  have h2 := set_len b (BITS.foldl (clearStep b) ([], a)).2 BITS []
  have h3 : BITS.length = 9 := rfl
  unfold bitPar
  simp at h1 h2 ⊢
  omega
theorem underPar_len (a b : Int) : (underPar a b).length ≤ 1 := by unfold underPar; split <;> simp
theorem colPar_len (k : Nat) (c : Int) : (colPar k c).length ≤ 5 := by unfold colPar; split <;> (try split) <;> (try split) <;> simp
noncomputable def colIf (old new : Pen) (k : Nat) : List Row := if old.get k ≠ new.get k then colPar k (new.get k) else []
theorem colIf_len (old new : Pen) (k : Nat) : (colIf old new k).length ≤ 5 := by unfold colIf; split; exact colPar_len _ _; simp
theorem changesP_eq (old new : Pen) : changesP old new = [1, 2, 3].foldl (fun l k => l ++ colIf old new k) (bitPar old.f new.f ++ underPar (underOf old.f) (underOf new.f)) := rfl
theorem changesP_len (old new : Pen) : (changesP old new).length ≤ 34 := by
  rw [changesP_eq]
  have h1 := bitPar_len old.f new.f
  have h2 := underPar_len (underOf old.f) (underOf new.f)
  have h3 := colIf_len old new 1
  have h4 := colIf_len old new 2
  have h5 := colIf_len old new 3
  simp only [List.foldl_cons, List.foldl_nil, List.length_append]
  omega

theorem sgr_changes_spec (T : Top G) (old new : Pen) : Spec PP w G 4 "sgr_changes" [penD old, penD new] (rowsD (changesP old new)) := by
  have hsl : sizeLine = 16777216 := rfl
  have h1 := bitPar_len old.f new.f
  have h2 := underPar_len (underOf old.f) (underOf new.f)
  refine Spec.intro (ps := ["old", "new"]) (rest := ["found", "place"]) (T.fns 55 (by decide)) (fun s pm code doc dV vs hl hd => ?_) rfl (by decide +kernel) ?_
  · obtain ⟨a, b, rfl⟩ := len2 hl
    exact BindsTo.of_eq (by cases hd; rfl)
  · refine ExS.cons (Ex1.assign 2 rfl (EvE.call (sgr_bit_params_spec T old.f new.f) (EvL.cons (EvE.penItem (k := 0) (EvE.name 0 rfl rfl) (EvE.num T 0) (by decide)) (EvL.cons (EvE.penItem (k := 0) (EvE.name 1 rfl rfl) (EvE.num T 0) (by decide)) EvL.nil)))) ?_
    refine ExS.cons (Ex1.assign 2 rfl (EvE.bin (EvE.name 2 rfl rfl) (EvE.call (sgr_under_params_spec T (underOf old.f) (underOf new.f)) (EvL.cons (EvE.call (under_of_spec T old.f) (EvL.cons (EvE.penItem (k := 0) (EvE.name 0 rfl rfl) (EvE.num T 0) (by decide)) EvL.nil))
      (EvL.cons (EvE.call (under_of_spec T new.f) (EvL.cons (EvE.penItem (k := 0) (EvE.name 1 rfl rfl) (EvE.num T 0) (by decide)) EvL.nil)) EvL.nil))) (op_rows (by omega)))) ?_
    rw [changesP_eq]
    refine ExS.cons (Ex1.for (top := false) (EvI.tuple (ds := [1, 2, 3].map fun k : Nat => D.int k) (EvE.tuple (EvL.cons (EvE.num T 1) (EvL.cons (EvE.num T 2) (EvL.cons (EvE.num T 3) EvL.nil))))) (ForOk.famP (fun k : Nat => D.int k) (fun l => [.d (penD old), .d (penD new), .d (rowsD l), .un])
      (fun l k => l ++ colIf old new k) [1, 2, 3] (bitPar old.f new.f ++ underPar (underOf old.f) (underOf new.f)) (fun pre k post hpre => ?_))) (ExS.stop (Ex1.ret (EvE.name 2 rfl rfl)))
    refine ⟨_, [.d (penD old), .d (penD new), .d (rowsD (pre.foldl (fun l k => l ++ colIf old new k) (bitPar old.f new.f ++ underPar (underOf old.f) (underOf new.f)) ++ colIf old new k)), .d (.int k)], AsT.name 3 rfl, .same (.same (.same (.un .nil))), ?_⟩
    have hk : k = 1 ∨ k = 2 ∨ k = 3 := by
      have : k ∈ [1, 2, 3] := by rw [hpre]; simp
      simpa using this
    have hl : ∀ (pre : List Nat) (l : List Row), (pre.foldl (fun l k => l ++ colIf old new k) l).length ≤ l.length + 5 * pre.length := by
      intro pre
      induction pre with
      | nil => intro l; simp
      | cons a pre ih =>
        intro l
        have := ih (l ++ colIf old new a)
        have := colIf_len old new a
        simp only [List.foldl_cons, List.length_append, List.length_cons] at *
        omega
    have hpl : pre.length ≤ 3 := by
      have : ([1, 2, 3] : List Nat).length = (pre ++ k :: post).length := by rw [hpre]
      simp at this; omega
    have hll := hl pre (bitPar old.f new.f ++ underPar (underOf old.f) (underOf new.f))
    have hci := colIf_len old new k
    simp only [List.length_append] at hll
    generalize pre.foldl (fun l k => l ++ colIf old new k) (bitPar old.f new.f ++ underPar (underOf old.f) (underOf new.f)) = l at *
    have hk5 : k < 5 := by omega
    have it : ∀ {p1 p2 p3 : Pos} {ws : List Loc} {q : Pen} {x : Str} (j : Nat), [("old" : Str), "new", "found", "place"][j]? = some x → ws[j]? = some (.d (penD q)) → ws[3]? = some (.d (.int k)) → EvE PP w G Inv.none ⟨scopeOf (stOf 55), []⟩ [("old" : Str), "new", "found", "place"] 3 ws (.Subscript (.Name x p1) (.Name "place" p2) p3) (.int (q.get k)) :=
      fun j hx hw h3 => EvE.penItem (EvE.name j hx hw) (EvE.name 3 rfl h3) hk5
    unfold colIf at hci ⊢
    by_cases hne : old.get k = new.get k
    · rw [if_neg (fun h => h hne), List.append_nil]
      exact ExS.cons (Ex1.ifF (EvB.cmp (it 0 rfl rfl rfl) (it 1 rfl rfl rfl) ((cmp_neI _ _).eq (by simp [hne]))) ExS.nil) ExS.nil
    · rw [if_pos hne] at hci ⊢
      exact ExS.cons (Ex1.ifT (EvB.cmp (it 0 rfl rfl rfl) (it 1 rfl rfl rfl) ((cmp_neI _ _).eq (by simp [hne]))) (ExS.cons (Ex1.assign 2 rfl (EvE.bin (EvE.name 2 rfl rfl) (EvE.call (sgr_colour_params_spec T k _ hk) (EvL.cons (EvE.name 3 rfl rfl) (EvL.cons (it 1 rfl rfl rfl) EvL.nil))) (op_rows (by omega)))) ExS.nil)) ExS.nil
end
end Og
namespace Og
open PySem PySem.Calls PySem.Spec PyProof.Rows

namespace JB
theorem slot : Slot "bytes" "join" "bytes.join" :=
  .of (owner := "bytes") (n := "join") (by rw [typeLookup_type, builtinLookup_eq_fast]; kernel_rfl) (by decide +kernel) (by decide +kernel) (by decide +kernel)
    (by first | exact .inl (by decide +kernel) | exact .inr (by decide +kernel)) (by rw [isSubtype_type]; kernel_rfl)
theorem type : typeOf (.builtin "bytes.join") = pure (.type "method_descriptor") := by show builtinType _ = _; rw [builtinType_eq_fast]; kernel_rfl
theorem entry : entryFor table "bytes.join" = some Builtin.«bytes.join» := entryFor_of_tree (by kernel_rfl)
theorem args (a b : Value) : argsOk "bytes.join" ⟨[a, b], []⟩ := by
  unfold argsOk; rw [signature?_of (id := "bytes.join") (n := ['n', 'i', 'o', 'j']) (o := ['s', 'e', 't', 'y', 'b']) (by kernel_rfl) PySem.W.FB.owner_bytes]; kernel_rfl
open Builtin PySem.W.KBy in
theorem take_eq {id : String} {b : Array UInt8} {t : Tok} : Bytes.takeBufferQuiet? id (.bytes b t) 0 = pure (some (b, none)) := by
  unfold Bytes.takeBufferQuiet? Bytes.takeBuffer?
  rw [special_eq look_buffer, own_buffer]
  have e : ((0 : Int) == Bytes.fullReadOnly) = false := by decide
  rw [e, buffer_eq]
  kernel_rfl
end JB
section
variable {w : World} {G : Gl} {I : Inv} {sc : Sc} {names : List Str} {n : Nat} {vals : List Loc}

theorem foldl_size (parts : List (Array UInt8)) (a : Nat) : parts.foldl (fun x1 x2 => x1 + x2.size) a = a + (parts.map (·.size)).sum := by
  induction parts generalizing a with
  | nil => simp
  | cons p r ih => simp [ih]; omega
theorem sum_le (parts : List (Array UInt8)) (m : Nat) (h : ∀ p ∈ parts, p.size ≤ m) : (parts.map (·.size)).sum ≤ parts.length * m := by
  induction parts with
  | nil => simp
  | cons p r ih =>
    have h1 := h p (.head _)
    have h2 := ih fun q hq => h q (.tail _ hq)
    simp only [List.map_cons, List.sum_cons, List.length_cons, Nat.add_mul, Nat.one_mul]
    omega
noncomputable def glue (sep : List UInt8) : List (List UInt8) → List UInt8
  | [] => []
  | [p] => p
  | p :: r => p ++ (sep ++ glue sep r)
theorem glue_cons (sep p : List UInt8) (q : List UInt8) (r : List (List UInt8)) : glue sep (p :: q :: r) = p ++ (sep ++ glue sep (q :: r)) := rfl
theorem joined_from (sep : Array UInt8) : ∀ (parts : List (Array UInt8)) (k : Nat) (acc : Array UInt8), 0 < k → ((parts.zipIdx k).foldl (fun out (p, i) => (if i > 0 then out ++ sep else out) ++ p) acc).toList = acc.toList ++ (parts.map fun p => sep.toList ++ p.toList).flatten
  | [], k, acc, _ => by simp
  | p :: r, k, acc, hk => by
    have := joined_from sep r (k + 1) ((acc ++ sep) ++ p) (Nat.succ_pos _)
    simp only [List.zipIdx_cons, List.foldl_cons, gt_iff_lt, hk, if_true]
    rw [this]
    simp
theorem glue_flat (sep : List UInt8) : ∀ (p : List UInt8) (r : List (List UInt8)), glue sep (p :: r) = p ++ (r.map fun q => sep ++ q).flatten
  | p, [] => by simp [glue]
  | p, q :: r => by rw [glue_cons, glue_flat sep q r]; simp
theorem joined_glue (sep : Array UInt8) (parts : List (Array UInt8)) : (Builtin.Bytes.joined sep parts).toList = glue sep.toList (parts.map (·.toList)) := by
  cases parts with
  | nil => simp [Builtin.Bytes.joined, glue]
  | cons p r =>
    unfold Builtin.Bytes.joined
    simp only [List.zipIdx_cons, List.foldl_cons, Nat.zero_add]
    rw [joined_from sep r 1 _ Nat.one_pos, List.map_cons, glue_flat]
    simp [List.map_map, Function.comp_def]
theorem flat_len (sep : Array UInt8) (r : List (Array UInt8)) : ((r.map (·.toList)).map fun q => sep.toList ++ q).flatten.length = sep.size * r.length + (r.map (·.size)).sum := by
  induction r with
  | nil => simp
  | cons q r ih =>
    simp only [List.map_cons, List.flatten_cons, List.length_append, ih, Array.length_toList, List.sum_cons, List.length_cons, Nat.mul_add, Nat.mul_one]
    omega
theorem joined_size (sep : Array UInt8) (parts : List (Array UInt8)) : (Builtin.Bytes.joined sep parts).size ≤ sep.size * (parts.length - 1) + (parts.map (·.size)).sum := by
  have h := congrArg List.length (joined_glue sep parts)
  rw [Array.length_toList] at h
  rw [h]
  cases parts with
  | nil => simp [glue]
  | cons p r =>
    rw [List.map_cons, glue_flat]
    simp only [List.length_append, Array.length_toList, List.length_cons, Nat.add_sub_cancel, List.map_cons, List.sum_cons]
    have := flat_len sep r
    omega
theorem join_B {sep : Array UInt8} {parts : List (Array UInt8)} (hz : parts.length ≤ 1000 ∧ (∀ p ∈ parts, p.size ≤ 10000) ∧ sep.size ≤ 10) : CallOk PP w (.builtin "bytes.join") [.bytes sep, .lst (parts.map D.bytes)] (.bytes (Builtin.Bytes.joined sep parts)) := by
  intro av s A vs Q E hA hu hv _ r k
  cases r with | cons r₁ rn =>
  cases r₁ with | bytes _ tS =>
  cases rn with | cons r₂ rn =>
  cases rn
  cases r₂ with | @lst l ws m _ ha ho rs =>
  refine wpAny_call_entry JB.slot (PySem.W.typeIs_bytes s sep tS) JB.entry ?_ (JB.args _ _)
  show wpAny _ _ (Builtin.Bytes.joinM .bytes ⟨[.bytes sep tS, .ref l], []⟩) _ _ s
  unfold Builtin.Bytes.joinM
  refine wpAny_bind (wpAny_of_eq (a := (Value.bytes sep tS, Value.ref l)) rfl ?_)
  have hT : s.TypeIs (.ref l) "list" := ⟨_, ho, rfl⟩
  show wpAny _ _ (Builtin.Bytes.joinItems (.ref l) >>= _) _ _ s
  refine wpAny_bind ?_
  unfold Builtin.Bytes.joinItems
  refine wpAny_bind (wpAny_typeOf hT ?_)
  refine bm_if_true (by decide) (wpAny_pure ?_)
  refine wpAny_bind (wpAny_seqItems ho rfl ?_)
  dsimp only
  refine bm_if_true (by decide) ?_
  have hlen : ws.length = parts.length := by rw [rs.length, List.length_map]
  have hitem : ∀ i, i < ws.length → ∃ p t, parts[i]? = some p ∧ ws.toArray.getD i .none = .bytes p t ∧ ws[i]? = some (.bytes p t) := fun i hi => by
    obtain ⟨v, hv⟩ : ∃ v, ws[i]? = some v := ⟨ws[i], List.getElem?_eq_getElem hi⟩
    obtain ⟨d, hd, r⟩ := rs.get' hv
    rw [List.getElem?_map] at hd
    cases hp : parts[i]? with
    | none => rw [hp] at hd; cases hd
    | some p =>
      rw [hp] at hd
      cases hd
      cases r with | bytes b t =>
      exact ⟨p, t, rfl, by simp [Array.getD, hi]; rw [List.getElem?_eq_getElem hi] at hv; exact Option.some.inj hv, hv⟩
  by_cases h1 : ∃ x, ws = [x]
  · obtain ⟨x, hws⟩ := h1
    subst hws
    obtain ⟨p, t, hp, _, hv⟩ := hitem 0 (by simp)
    cases hv
    have : parts = [p] := by
      match parts, hlen, hp with
      | [q], _, hp => cases hp; rfl
    subst this
    refine wpAny_bind (wpAny_of_eq (a := Value.type "bytes") rfl ?_)
    refine bm_if_true (by decide) ?_
    refine wpAny_bind (wpAny_rule (wpAny_pure ⟨_, rfl, ?_⟩))
    have hj : Builtin.Bytes.joined sep [p] = p := by simp [Builtin.Bytes.joined]
    rw [hj] at k
    exact k _ s.heap s.toks (fun _ _ e => e) (.bytes _ _)
  · have loop : ∀ {β : Type} {f : Nat → β → Sem (ForInStep β)} {b : β} {K : β → Sem PySem.Fin} {post : PySem.Fin → Shared → Prop} (J : Nat → β → Prop) (h0 : J 0 b)
        (turn : ∀ i b, i < ws.length → J i b → wpAny (model PP w) A.in1 (f i b) (fun r s' => s' = s ∧ ∃ b', r = .yield b' ∧ J (i + 1) b') E s)
        (fin : ∀ b, J ws.length b → wpAny (model PP w) A.in1 (K b) post E s), wpAny (model PP w) A.in1 (forIn [:ws.toArray.size] b f >>= K) post E s := by
      intro β f b K post J h0 turn fin
      rw [Std.Legacy.Range.forIn_eq_forIn_range']
      refine wpAny_bind (wpAny_forIn_list f (fun rest b s' => s' = s ∧ ∃ i, rest = List.range' i (ws.length - i) ∧ i ≤ ws.length ∧ J i b) (fun b s' => wpAny (model PP w) A.in1 (K b) post E s') ?_ ?_ _ _ ⟨rfl, 0, by simp [Std.Legacy.Range.size], Nat.zero_le _, h0⟩)
      · rintro x rest b s' ⟨rfl, i, hr, hi, hJ⟩
        cases hk : ws.length - i with
        | zero => rw [hk] at hr; simp at hr
        | succ j =>
          rw [hk, List.range'_succ] at hr
          cases hr
          refine wpAny_mono (turn _ b (by omega) hJ) (fun r s'' hr => ?_) fun _ _ e => e
          obtain ⟨rfl, b', rfl, hJ'⟩ := hr
          have : j = ws.length - (x + 1) := by omega
          exact ⟨rfl, x + 1, by rw [this], by omega, hJ'⟩
      · rintro b s' ⟨rfl, i, hr, hi, hJ⟩
        cases hk : ws.length - i with
        | zero => have : i = ws.length := by omega
                  exact fin b (this ▸ hJ)
        | succ j => rw [hk, List.range'_succ] at hr; cases hr
    have hsz : ∀ b : Array (Array UInt8) × List (Value × Option Value), b.1 = (parts.take ws.length).toArray → b.1.toList = parts := fun b hb => by rw [hb, hlen]; simp
    have htot : Builtin.Bytes.tooLong (Array.foldl (fun x1 x2 => x1 + x2.size) (sep.size * (parts.toArray.size - 1)) parts.toArray) = false ∧ (Builtin.Bytes.joined sep parts).size ≤ sizeLine := by
      have hsl : sizeLine = 16777216 := rfl
      have hj := joined_size sep parts
      have hs := sum_le parts 10000 hz.2.1
      have hf : Array.foldl (fun x1 x2 => x1 + x2.size) (sep.size * (parts.toArray.size - 1)) parts.toArray = sep.size * (parts.length - 1) + (parts.map (·.size)).sum := by
        rw [List.foldl_toArray]; exact foldl_size parts _
      have hm : sep.size * (parts.length - 1) ≤ 10 * 1000 := Nat.mul_le_mul hz.2.2 (by omega)
      have hm2 : parts.length * 10000 ≤ 1000 * 10000 := Nat.mul_le_mul_right _ hz.1
      refine ⟨PySem.W.KBy.tooLong_not (by rw [hf]; omega), by omega⟩
    have turnP : ∀ (i : Nat) (b : Array (Array UInt8) × List (Value × Option Value)), i < ws.length → b.1 = (parts.take i).toArray ∧ (∀ p ∈ b.2, p.1.onHeap = false ∧ p.2 = none) → (Builtin.Bytes.Kind.bytes == Builtin.Bytes.Kind.bytearray || b.2.any fun x => x.fst.onHeap) = false := fun i b hi hJ => by
      simp only [Bool.or_eq_false_iff, List.any_eq_false]
      exact ⟨by decide, fun p hp => by rw [(hJ.2 p hp).1]; simp⟩
    have letGo : ∀ (l : List (Value × Option Value)) (keep : List Value) (s' : Shared) (Q' : Unit → Shared → Prop), (∀ p ∈ l, p.1.onHeap = false ∧ p.2 = none) → Q' () s' → wpAny (model PP w) A.in1 (Builtin.Bytes.joinLetGo l keep) Q' E s' := by
      intro l
      induction l with
      | nil => intro keep s' Q' _ h; exact wpAny_pure h
      | cons p l ih =>
        intro keep s' Q' hl h
        obtain ⟨v, u⟩ := p
        have := hl _ (.head _)
        obtain ⟨_, rfl⟩ := this
        unfold Builtin.Bytes.joinLetGo
        exact wpAny_bind (wpAny_letGo (ih _ _ _ (fun p hp => hl p (.tail _ hp)) h))
    rcases ws with _ | ⟨x, _ | ⟨y, r⟩⟩
    rotate_left
    · exact absurd ⟨x, rfl⟩ h1
    all_goals
      refine loop (fun i b => b.1 = (parts.take i).toArray ∧ ∀ p ∈ b.2, p.1.onHeap = false ∧ p.2 = none) ⟨by simp, fun p hp => nomatch hp⟩ (fun i b hi hJ => ?_) (fun b hJ => ?_)
      · refine wpAny_bind (wpAny_seqItems ho rfl ?_)
        dsimp only
        refine bm_if_false (turnP i b hi hJ) ?_
        obtain ⟨p, t, hp, hg, _⟩ := hitem i hi
        rw [hg]
        refine wpAny_bind (wpAny_holding (wpAny_of_eq JB.take_eq ?_))
        refine wpAny_bind (wpAny_seqItems ho rfl ?_)
        refine bm_if_false (by simp) ?_
        refine wpAny_pure ⟨rfl, _, rfl, by rw [hJ.1, List.take_add_one, hp]; simp, fun q hq => ?_⟩
        rcases List.mem_append.mp hq with hq | hq
        · exact hJ.2 q hq
        · obtain rfl := List.mem_singleton.mp hq
          exact ⟨rfl, rfl⟩
      · have hb := hsz b hJ.1
        refine wpAny_bind (wpAny_of_eq (a := sep) rfl ?_)
        have hb' : b.1 = parts.toArray := by rw [← hb]
        rw [hb']
        refine bm_if_false htot.1 ?_
        refine wpAny_bind (wpAny_mkBytes ?_ htot.2)
        refine wpAny_bind (wpAny_holding (wpAny_point ?_))
        refine wpAny_bind (letGo _ _ _ _ hJ.2 ?_)
        refine wpAny_pure ⟨_, rfl, ?_⟩
        exact k _ s.heap _ (fun _ _ e => e) (.bytes _ _)
end
end Og
namespace Og
open PySem PySem.Calls PySem.Spec PyProof.Rows

noncomputable def partB : Option Int → List UInt8
  | none => []
  | some i => (decB i.toNat).toList
noncomputable def rowB (r : Row) : List UInt8 := glue [58] (r.map partB)
noncomputable def paramsB (rs : List Row) : List UInt8 := glue [59] (rs.map rowB)
structure ParOk (r : Row) : Prop where
  len : r.length ≤ 50
  lo : ∀ i, some i ∈ r → 0 ≤ i ∧ i ≤ 65535

theorem digs_len (k : Nat) : ∀ n, n < 10 ^ (k + 1) → (digs n).length ≤ k + 1 := by
  induction k with
  | zero =>
    intro n h
    rw [digs_eq, if_neg (by simp at h; omega)]
    simp
  | succ k ih =>
    intro n h
    rw [digs_eq]
    split
    · have := ih (n / 10) (by rw [Nat.pow_succ] at h; omega)
      simp only [List.length_cons]; omega
    · simp
theorem partB_len {o : Option Int} (h : ∀ i, o = some i → 0 ≤ i ∧ i ≤ 65535) : (partB o).length ≤ 5 := by
  cases o with
  | none => simp [partB]
  | some i =>
    have := h i rfl
    have h5 := digs_len 4 i.toNat (by omega)
    simp only [partB, decB, Array.length_toList, byteArr_size, List.length_reverse]
    exact h5

theorem glue_len (sep : List UInt8) (m : Nat) : ∀ (l : List (List UInt8)), (∀ p ∈ l, p.length ≤ m) → (glue sep l).length ≤ l.length * (m + sep.length)
  | [], _ => by simp [glue]
  | [p], h => by have := h p (.head _); simp [glue]; omega
  | p :: q :: r, h => by
    have h1 := h p (.head _)
    have h2 := glue_len sep m (q :: r) fun x hx => h x (.tail _ hx)
    rw [glue_cons]
    simp only [List.length_append, List.length_cons, Nat.add_mul, Nat.one_mul] at h2 ⊢
    omega
theorem rowB_len {r : Row} (h : ParOk r) : (rowB r).length ≤ 300 := by
  have := glue_len [58] 5 (r.map partB) fun p hp => by
    obtain ⟨o, ho, rfl⟩ := List.mem_map.mp hp
    exact partB_len fun i hi => h.lo i (hi ▸ ho)
  have h2 := h.len
  simp at this
  unfold rowB
  omega
section
variable {w : World} {G : Gl} {I : Inv} {sc : Sc} {names : List Str} {n : Nat} {vals : List Loc}

theorem EvE.compF {α : Type} {elt iter : Expr} {x : Str} {px pos : Pos} {scope : Scope} (g f : α → D) (ls : List α) (hi : EvI PP w G I sc names n vals iter (.Name x px) false (ls.map g)) (hsp : plainScope scope x = true) (hz : ls.length ≤ sizeLine)
    (he : ∀ a ∈ ls, EvE PP w G I ⟨scope, []⟩ [x] n [.d (g a)] elt (f a)) (inj : ∀ a ∈ ls, ∀ b ∈ ls, g a = g b → f a = f b) (ho : ∀ a es, Loc.own a es ∈ vals → a ∉ I.ad)
    (hfold : ∀ env y, foldedSetIterable iter env y = pure y := by intro _ _; rfl) : EvE PP w G I sc names n vals (.ListComp elt [⟨.Name x px, iter, [], 0⟩] scope pos) (.lst (ls.map f)) := by
  classical
  let F : D → D := fun d => if h : ∃ a, a ∈ ls ∧ g a = d then f h.choose else .none
  have hF : ∀ a ∈ ls, F (g a) = f a := fun a ha => by
    have h : ∃ b, b ∈ ls ∧ g b = g a := ⟨a, ha, rfl⟩
    show (if h : ∃ b, b ∈ ls ∧ g b = g a then f h.choose else .none) = f a
    rw [dif_pos h]
    exact inj _ h.choose_spec.1 _ ha h.choose_spec.2
  have := EvE.comp (elt := elt) (f := F) (pos := pos) hi hsp (by simpa using hz) (fun d hd => by
    obtain ⟨a, ha, rfl⟩ := List.mem_map.mp hd
    rw [hF a ha]; exact he a ha) ho hfold
  rw [List.map_map] at this
  have e : ls.map (F ∘ g) = ls.map f := List.map_congr_left fun a ha => hF a ha
  rw [e] at this
  exact this
theorem optD_inj : ∀ {a b : Option Int}, optD a = optD b → a = b
  | none, none, _ => rfl
  | some i, some j, h => by cases h; rfl
theorem map_optD_inj : ∀ {a b : Row}, a.map optD = b.map optD → a = b
  | [], [], _ => rfl
  | x :: a, y :: b, h => by
    simp only [List.map_cons, List.cons.injEq] at h
    rw [optD_inj h.1, map_optD_inj h.2]
theorem rowD_inj {a b : Row} (h : rowD a = rowD b) : a = b := map_optD_inj (by simpa [rowD] using h)
theorem EvE.joinB {o e : Expr} {apos pos : Pos} {sep : Array UInt8} {parts : List (Array UInt8)} (ho : EvE PP w G I sc names n vals o (.bytes sep)) (he : EvE PP w G I sc names n vals e (.lst (parts.map D.bytes))) (hz : parts.length ≤ 1000 ∧ (∀ p ∈ parts, p.size ≤ 10000) ∧ sep.size ≤ 10)
    (hbase : ∀ env, attributeBase o "join" env (eval o env) = eval o env := by intro _; rfl) (hst : noStar e = true := by rfl) (hline : (apos.endLine == pos.line) = true := by rfl) :
    EvE PP w G I sc names n vals (.Call (.Attribute o "join" apos) [e] [] pos) (.bytes (Builtin.Bytes.joined sep parts)) := by
  constructor
  intro c own s A Q E hsc R S k
  refine wpAny_Call_method (T := "bytes") (hbase _) (by rw [star_one hst]; rfl) hline PySem.W.FB.plainAttrs_bytes JB.slot JB.type (ho.go c own s A _ E hsc R S fun v s₁ S₁ x₁ r₁ => ?_)
  cases r₁ with | bytes _ t =>
  refine ⟨PySem.W.typeIs_bytes s₁ sep t, (fun a ha => by cases ha), ?_⟩
  rw [star_one hst]
  refine Calls.callWith_builtin rfl (Calls.evalArgs_plain (Calls.spliced_cons (he.go c own s₁ A _ E hsc R S₁ fun v₂ s₂ S₂ x₂ r₂ => Calls.spliced_nil ?_)))
  refine join_B hz (own ++ c.fz) s₂ A _ Q E R.hand R.small S₂.alive (let ⟨m, hn, _⟩ := S₂.ns; ⟨_, m, hn⟩) (.cons (.bytes _ t) (.cons r₂ .nil)) fun v h' tk hk rv => ?_
  exact k v _ (S₂.keeps hk ⟨rfl, rfl, rfl⟩) ((x₁.trans x₂).trans (Ext.keeps hk)) rv

theorem part_octets_spec (T : Top G) (o : Option Int) (h : ∀ i, o = some i → 0 ≤ i ∧ i ≤ 65535) : Spec PP w G 3 "part_octets" [optD o] (.bytes (partB o).toArray) := by
  refine Spec.intro (ps := ["value"]) (rest := []) (T.fns 34 (by decide)) (fun s pm code doc dV vs hl hd => ?_) rfl (by decide +kernel) ?_
  · obtain ⟨a, rfl⟩ := len1 hl
    exact BindsTo.of_eq (by cases hd; rfl)
  · cases o with
    | none => exact ExS.stop (Ex1.ret (EvE.ifT (EvB.cmp (EvE.name 0 rfl rfl) EvE.cNone cmp_isNone) EvE.bytes))
    | some i =>
      have hi := h i rfl
      have hd := decimal_octets_spec (w := w) T i.toNat (by omega)
      rw [show ((i.toNat : Nat) : Int) = i by omega] at hd
      exact ExS.stop (Ex1.ret ((EvE.ifF (EvB.cmp (EvE.name 0 rfl rfl) EvE.cNone (cmp_isInt i)) (EvE.call hd (EvL.cons (EvE.name 0 rfl rfl) EvL.nil))).eq (by simp [partB])))

theorem params_octets_spec (T : Top G) (rs : List Row) (h : ∀ r ∈ rs, ParOk r) (hl : rs.length ≤ 100) : Spec PP w G 4 "params_octets" [rowsD rs] (.bytes (paramsB rs).toArray) := by
  have hsl : sizeLine = 16777216 := rfl
  refine Spec.intro (ps := ["params"]) (rest := []) (T.fns 35 (by decide)) (fun s pm code doc dV vs hl hd => ?_) rfl (by decide +kernel) ?_
  · obtain ⟨a, rfl⟩ := len1 hl
    exact BindsTo.of_eq (by cases hd; rfl)
  · refine ExS.stop (Ex1.ret ?_)
    refine (EvE.joinB (parts := rs.map fun r => (rowB r).toArray) EvE.bytes ?_ ⟨by simp; omega, ?_, by simp⟩).eq ?_
    · refine (EvE.compF rowD (fun r => .bytes (rowB r).toArray) rs (EvI.list (EvE.name 0 rfl rfl)) (by decide +kernel) (by omega) (fun r hr => ?_) (fun a _ b _ q => by rw [rowD_inj q]) (fun a es hm => by simp at hm)).eq (by simp)
      have hp := h r hr
      have hpl := hp.len
      refine (EvE.joinB (parts := r.map fun o => (partB o).toArray) EvE.bytes ?_ ⟨by simp; omega, ?_, by simp⟩).eq ?_
      · refine (EvE.compF optD (fun o => .bytes (partB o).toArray) r (EvI.list (EvE.name 0 rfl rfl)) (by decide +kernel) (by omega) (fun o ho => ?_) (fun a _ b _ q => by rw [optD_inj q]) (fun a es hm => by simp at hm)).eq (by simp)
        exact EvE.call (part_octets_spec T o fun i hi => hp.lo i (hi ▸ ho)) (EvL.cons (EvE.name 0 rfl rfl) EvL.nil)
      · intro q hq
        obtain ⟨o, ho, rfl⟩ := List.mem_map.mp hq
        have := partB_len (o := o) fun i hi => hp.lo i (hi ▸ ho)
        simp; omega
      · congr 1
        apply Array.toList_inj.mp
        rw [joined_glue]
        simp [rowB, Function.comp_def]
    · intro q hq
      obtain ⟨r, hr, rfl⟩ := List.mem_map.mp hq
      have hp := h r hr
      have := rowB_len hp
      simp; omega
    · congr 1
      apply Array.toList_inj.mp
      rw [joined_glue]
      simp [paramsB, Function.comp_def]
end
end Og
namespace Og
open PySem PySem.Calls PySem.Spec PyProof.Rows

noncomputable def toldPen (p : Pen) : Pen := { p with l := 0 }
noncomputable def colOk (c : Int) : Prop := c = -1 ∨ (0 ≤ c ∧ c ≤ 255) ∨ 16777216 ≤ c
structure PenOk (p : Pen) : Prop where
  f : 0 ≤ p.f ∧ p.f < 3072
  a : colOk p.a
  b : colOk p.b
  u : colOk p.u
theorem and255 {x : Int} (h : 0 ≤ x) : 0 ≤ Builtin.bitAnd x 255 ∧ Builtin.bitAnd x 255 ≤ 255 := by
  unfold Builtin.bitAnd
  simp only [h, decide_true]
  have : x.toNat &&& 255 ≤ 255 := Nat.and_le_right
  constructor
  · exact Int.natCast_nonneg _
  · show ((x.toNat &&& (255 : Int).toNat : Nat) : Int) ≤ 255
    have e : (255 : Int).toNat = 255 := rfl
    rw [e]; omega
theorem one_ok {i : Int} (h : 0 ≤ i ∧ i ≤ 65535) : ParOk (one i) := ⟨by simp [one], fun j hj => by
  have : j = i := by simpa [one] using hj
  rw [this]; exact h⟩
theorem colPar_ok {k : Nat} {c : Int} (h : colOk c) : ∀ r ∈ colPar k c, ParOk r := by
  have hf : 30 ≤ firstOf k ∧ firstOf k ≤ 50 := by unfold firstOf; split; omega; split <;> omega
  intro r hr
  unfold colPar at hr
  split at hr
  · obtain rfl := List.mem_singleton.mp hr
    exact one_ok (by omega)
  · split at hr
    · rename_i h1 h2
      have hr1 := and255 (x := c.fdiv 65536) (by rw [Int.fdiv_eq_ediv_of_nonneg _ (by decide)]; omega)
      have hr2 := and255 (x := c.fdiv 256) (by rw [Int.fdiv_eq_ediv_of_nonneg _ (by decide)]; omega)
      have hr3 := and255 (x := c) (by omega)
      simp only [List.mem_cons, List.not_mem_nil, or_false] at hr
      rcases hr with rfl | rfl | rfl | rfl | rfl
      · exact one_ok (by omega)
      · exact one_ok (by omega)
      · exact one_ok (by unfold redOf; omega)
      · exact one_ok (by unfold greenOf; omega)
      · exact one_ok (by unfold blueOf; omega)
    · rename_i h1 h2
      have hc : 0 ≤ c ∧ c ≤ 255 := by rcases h with h | h | h <;> first | exact absurd h h1 | exact h | exact absurd h h2
      split at hr
      · simp only [List.mem_cons, List.not_mem_nil, or_false] at hr
        rcases hr with rfl | rfl | rfl <;> exact one_ok (by omega)
      · obtain rfl := List.mem_singleton.mp hr
        refine one_ok ?_
        split <;> omega
theorem bits_small : ∀ x ∈ BITS, (0 ≤ x.2.1 ∧ x.2.1 ≤ 65535) ∧ 0 ≤ x.2.2 ∧ x.2.2 ≤ 65535 := by decide
theorem clear_ok (new : Int) : ∀ (ls : List (Int × Int × Int)) (st : List Row × Int), (∀ x ∈ ls, 0 ≤ x.2.2 ∧ x.2.2 ≤ 65535) → (∀ r ∈ st.1, ParOk r) → ∀ r ∈ (ls.foldl (clearStep new) st).1, ParOk r
  | [], st, _, h => h
  | x :: ls, st, hx, h => clear_ok new ls _ (fun y hy => hx y (.tail _ hy)) (by
    unfold clearStep
    split
    · intro r hr
      rcases List.mem_append.mp hr with hr | hr
      · exact h r hr
      · obtain rfl := List.mem_singleton.mp hr
        exact one_ok (hx x (.head _))
    · exact h)
theorem set_ok (new here : Int) : ∀ (ls : List (Int × Int × Int)) (l : List Row), (∀ x ∈ ls, 0 ≤ x.2.1 ∧ x.2.1 ≤ 65535) → (∀ r ∈ l, ParOk r) → ∀ r ∈ ls.foldl (setStep new here) l, ParOk r
  | [], l, _, h => h
  | x :: ls, l, hx, h => set_ok new here ls _ (fun y hy => hx y (.tail _ hy)) (by
    unfold setStep
    split
    · intro r hr
      rcases List.mem_append.mp hr with hr | hr
      · exact h r hr
      · obtain rfl := List.mem_singleton.mp hr
        exact one_ok (hx x (.head _))
    · exact h)
theorem bitPar_ok (a b : Int) : ∀ r ∈ bitPar a b, ParOk r := by
  intro r hr
  unfold bitPar at hr
  rcases List.mem_append.mp hr with hr | hr
  · exact clear_ok b BITS _ (fun x hx => (bits_small x hx).2) (by simp) r hr
  · exact set_ok b _ BITS _ (fun x hx => (bits_small x hx).1) (by simp) r hr
theorem underOf_range {f : Int} (h : 0 ≤ f) : 0 ≤ underOf f ∧ underOf f ≤ 7 := by
  unfold underOf Builtin.bitAnd
  simp only [h, decide_true]
  have : f.toNat &&& 3584 ≤ 3584 := Nat.and_le_right
  show 0 ≤ Int.fdiv ((f.toNat &&& (3584 : Int).toNat : Nat) : Int) 512 ∧ Int.fdiv ((f.toNat &&& (3584 : Int).toNat : Nat) : Int) 512 ≤ 7
  have e : (3584 : Int).toNat = 3584 := rfl
  rw [e, Int.fdiv_eq_ediv_of_nonneg _ (by decide)]
  omega
theorem underPar_ok {a b : Int} (h : 0 ≤ b ∧ b ≤ 65535) : ∀ r ∈ underPar a b, ParOk r := by
  intro r hr
  unfold underPar at hr
  split at hr
  · cases hr
  · obtain rfl := List.mem_singleton.mp hr
    split
    · exact one_ok (by omega)
    · split
      · exact one_ok (by omega)
      · split
        · exact one_ok (by omega)
        · exact ⟨by simp, fun i hi => by
            rcases List.mem_cons.mp hi with hi | hi
            · cases hi; omega
            · have := List.mem_singleton.mp hi
              cases this; exact h⟩
theorem changesP_ok {old new : Pen} (h : PenOk new) : ∀ r ∈ changesP old new, ParOk r := by
  have hu := underOf_range h.f.1
  intro r hr
  unfold changesP at hr
  rcases List.mem_append.mp hr with hr | hr
  · rcases List.mem_append.mp hr with hr | hr
    · rcases List.mem_append.mp hr with hr | hr
      · rcases List.mem_append.mp hr with hr | hr
        · exact bitPar_ok _ _ r hr
        · exact underPar_ok (by omega) r hr
      · split at hr
        · exact colPar_ok h.a r hr
        · cases hr
    · split at hr
      · exact colPar_ok h.b r hr
      · cases hr
  · split at hr
    · exact colPar_ok h.u r hr
    · cases hr

section
variable {w : World} {G : Gl} {I : Inv} {sc : Sc} {names : List Str} {n : Nat} {vals : List Loc}

theorem pen_told_spec (T : Top G) (p : Pen) (cd : Bool) (h : cd = true ∨ p.a < 16777216 ∧ p.b < 16777216 ∧ p.u < 16777216) : Spec PP w G 3 "pen_told" [penD p, .bool cd] (penD (toldPen p)) := by
  have hsl : sizeLine = 16777216 := rfl
  refine Spec.intro (ps := ["pen", "can_direct"]) (rest := ["colours", "colour"]) (T.fns 56 (by decide)) (fun s pm code doc dV vs hl hd => ?_) rfl (by decide +kernel) ?_
  · obtain ⟨a, b, rfl⟩ := len2 hl
    exact BindsTo.of_eq (by cases hd; rfl)
  · refine ExS.assignOwn 2 rfl EvL.nil fun a ha => ?_
    refine ExS.cons (Ex1.for (top := false) (EvI.tuple (ds := [p.a, p.b, p.u].map D.int) ((EvE.cutT (a := some 1) (b := some 4) (EvE.name 0 rfl rfl) (EvP.at (EvE.num T 1)) (EvP.at (EvE.bin (EvE.num T 3) EvE.cInt (op_add _ _))) (by simp [iD]; omega)).eq (by simp [cut, iD])))
      (ForOk.famP D.int (fun l : List Int => [.d (penD p), .d (.bool cd), .own a (iD l), .un]) (fun l c => l ++ [c]) [p.a, p.b, p.u] [] (fun pre c post hpre => ?_))) ?_
    · have hpl : pre.length ≤ 3 := by
        have : ([p.a, p.b, p.u] : List Int).length = (pre ++ c :: post).length := by rw [hpre]
        simp at this; omega
      have hc : cd = true ∨ c < 16777216 := by
        rcases h with h | h
        · exact .inl h
        · right
          have : c ∈ [p.a, p.b, p.u] := by rw [hpre]; simp
          simp at this
          omega
      have hfold : pre.foldl (fun l c => l ++ [c]) [] = pre := by
        have : ∀ (q : List Int) (l : List Int), q.foldl (fun l c => l ++ [c]) l = l ++ q := by
          intro q
          induction q with
          | nil => intro l; simp
          | cons x q ih => intro l; simp [ih]
        simpa using this pre []
      rw [hfold]
      refine ⟨_, [.d (penD p), .d (.bool cd), .own a (iD (pre ++ [c])), .d (.int c)], AsT.name 3 rfl, .same (.same (.same (.un .nil))), ?_⟩
      have e : iD (pre ++ [c]) = iD pre ++ [.int c] := by simp [iD]
      rw [e]
      refine ExS.cons (Ex1.append (d := .int c) 2 rfl rfl ?_ (fun q b es hq he => ?_) (fun h => nomatch h) (by simp [iD]; omega)) ExS.nil
      · by_cases hd : 16777216 ≤ c
        · have hcd : cd = true := by rcases hc with h | h; exact h; omega
          subst hcd
          exact EvE.ifF (EvB.all (.goA (EvB.tr (EvE.call (decide_eq_true hd ▸ is_direct_spec T c) (EvL.cons (EvE.name 3 rfl rfl) EvL.nil))) (.stopA ((EvB.not (b := true) (EvB.tr (EvE.name 1 rfl rfl))).eq rfl)))) (EvE.name 3 rfl rfl)
        · exact EvE.ifF (EvB.all (.stopA (EvB.tr (EvE.call (decide_eq_false hd ▸ is_direct_spec T c) (EvL.cons (EvE.name 3 rfl rfl) EvL.nil))))) (EvE.name 3 rfl rfl)
      · match q, he with
        | 2, _ => exact absurd rfl hq
        | k + 4, he => simp at he
    · refine ExS.stop (Ex1.ret (EvE.tuple (ds := [.int p.f, .int p.a, .int p.b, .int p.u, .int 0]) ?_))
      exact EvL.cons (EvE.penItem (k := 0) (EvE.name 0 rfl rfl) (EvE.num T 0) (by decide)) (EvL.cons (EvE.itemOwn 2 rfl rfl EvE.cInt (by decide) rfl (by simp [iD]; omega)) (EvL.cons (EvE.itemOwn 2 rfl rfl EvE.cInt (by decide) rfl (by simp [iD]; omega)) (EvL.cons (EvE.itemOwn 2 rfl rfl EvE.cInt (by decide) rfl (by simp [iD]; omega)) (EvL.cons EvE.cInt EvL.nil))))
end
end Og
namespace Og
open PySem PySem.Calls PySem.Spec PyProof.Rows

noncomputable def anewP (t : Pen) : List Row := if changesP (plainPen 0) t = [] then [] else one 0 :: changesP (plainPen 0) t
noncomputable def chosen (h t : Pen) : List Row := if (paramsB (changesP h t)).length ≤ (paramsB (anewP t)).length then changesP h t else anewP t
open Classical in
noncomputable def sgrP (old new : Pen) : Option (List Row) := if toldPen old = toldPen new then none else some (chosen (toldPen old) (toldPen new))
noncomputable def orD : Option (List Row) → D
  | none => .none
  | some rs => rowsD rs
theorem penD_inj {p q : Pen} (h : penD p = penD q) : p = q := by
  unfold penD iD at h
  simp at h
  cases p; cases q
  simp_all
theorem penD_ok (p : Pen) : (penD p).ok 8 = true := rfl
theorem anewP_ok {t : Pen} (h : PenOk t) : ∀ r ∈ anewP t, ParOk r := by
  intro r hr
  unfold anewP at hr
  split at hr
  · cases hr
  · rcases List.mem_cons.mp hr with rfl | hr
    · exact one_ok (by omega)
    · exact changesP_ok h r hr
theorem anewP_len (t : Pen) : (anewP t).length ≤ 35 := by
  have := changesP_len (plainPen 0) t
  unfold anewP
  split <;> simp
  omega
theorem PenOk.told {p : Pen} (h : PenOk p) : PenOk (toldPen p) := ⟨h.f, h.a, h.b, h.u⟩
noncomputable def retOf : Stmt → Expr
  | .Return (some e) _ => e
  | _ => .Constant .none 0 ⟨0, 0, 0, 0⟩
noncomputable def canTell (cd : Bool) (p : Pen) : Prop := cd = true ∨ p.a < 16777216 ∧ p.b < 16777216 ∧ p.u < 16777216

section
variable {w : World} {G : Gl} {I : Inv} {sc : Sc} {names : List Str} {n : Nat} {vals : List Loc}

theorem EvE.lenB (T : Top G) {e : Expr} {pf pos : Pos} {b : Array UInt8} (h : EvE PP w G I sc names n vals e (.bytes b)) (hz : b.size ≤ sizeLine) (hx : sc.scope.names.lookup ("len" : Str) = some .globalImplicit := by rfl)
    (hst : noStar e = true := by rfl) : EvE PP w G I sc names n vals (.Call (.Name "len" pf) [e] [] pos) (.int b.size) :=
  EvE.callB (T.blt ("len", _) (by simp)) (len_B hz) (EvL.cons h EvL.nil (fun _ => star_plain hst)) hx (by decide) (fun _ => star_plain hst)

theorem paramsB_len {rs : List Row} (h : ∀ r ∈ rs, ParOk r) (hl : rs.length ≤ 100) : (paramsB rs).length ≤ 31000 := by
  have := glue_len [59] 300 (rs.map rowB) fun p hp => by
    obtain ⟨r, hr, rfl⟩ := List.mem_map.mp hp
    exact rowB_len (h r hr)
  simp at this
  unfold paramsB
  omega

theorem sgr_params_spec (T : Top G) (old new : Pen) (cd : Bool) (ho : PenOk old) (hn : PenOk new) (h1 : canTell cd old) (h2 : canTell cd new) : Spec PP w G 6 "sgr_params" [penD old, penD new, .bool cd] (orD (sgrP old new)) := by
  have hsl : sizeLine = 16777216 := rfl
  have hF := T.fnd 57 (by decide)
  refine Spec.intro (ps := ["old", "new", "can_direct"]) (rest := ["here", "there", "changes", "anew"]) hF (fun s pm code doc dV vs hl hd => ?_) rfl (by decide +kernel) ?_
  · obtain ⟨a, b, c, rfl⟩ := len3 hl
    obtain ⟨T', oT, m, rfl, hT', hS'⟩ := hd
    exact BindsTo.of_defaults rfl hT' hS' rfl rfl
  · refine ExS.cons (Ex1.assign2 (d := penD (toldPen old)) (e := penD (toldPen new)) 3 4 rfl rfl (EvE.tuple (EvL.cons (EvE.call (pen_told_spec T old cd h1) (EvL.cons (EvE.name 0 rfl rfl) (EvL.cons (EvE.name 2 rfl rfl) EvL.nil))) (EvL.cons (EvE.call (pen_told_spec T new cd h2) (EvL.cons (EvE.name 1 rfl rfl) (EvL.cons (EvE.name 2 rfl rfl) EvL.nil))) EvL.nil)))) ?_
    unfold sgrP
    by_cases he : toldPen old = toldPen new
    · rw [if_pos he]
      exact ExS.stop (Ex1.ifT (EvB.cmp (EvE.name 3 rfl rfl) (EvE.name 4 rfl rfl) (cmp_eq (penD_ok _) (penD_ok _) (by simp [he]))) (ExS.stop (Ex1.ret EvE.cNone)))
    rw [if_neg he]
    have hne : penD (toldPen old) ≠ penD (toldPen new) := fun h => he (penD_inj h)
    refine ExS.cons (Ex1.ifF (EvB.cmp (EvE.name 3 rfl rfl) (EvE.name 4 rfl rfl) (cmp_eq (penD_ok _) (penD_ok _) (by simp [hne]))) ExS.nil) ?_
    have ht := hn.told
    generalize toldPen old = h at *
    generalize toldPen new = t at *
    have hcl := changesP_len h t
    have hal := changesP_len (plainPen 0) t
    have hal2 := anewP_len t
    refine ExS.cons (Ex1.assign 5 rfl (EvE.call (sgr_changes_spec T h t) (EvL.cons (EvE.name 3 rfl rfl) (EvL.cons (EvE.name 4 rfl rfl) EvL.nil)))) ?_
    refine ExS.cons (Ex1.assign 6 rfl (EvE.call (sgr_changes_spec T (plainPen 0) t) (EvL.cons (EvE.glob (plain_data T)) (EvL.cons (EvE.name 4 rfl rfl) EvL.nil)))) ?_
    refine ExS.cons (Ex1.assign (d := rowsD (anewP t)) 6 rfl ?_) ?_
    · unfold anewP
      by_cases hz : changesP (plainPen 0) t = []
      · rw [if_pos hz, hz]
        exact EvE.ifT (EvB.eqI (EvE.lenL T (EvE.name 6 rfl rfl) (by simp)) EvE.cInt (by simp)) (EvE.list EvL.nil)
      · rw [if_neg hz]
        have : (changesP (plainPen 0) t).length ≠ 0 := fun q => hz (List.eq_nil_of_length_eq_zero q)
        exact EvE.ifF (EvB.eqI (EvE.lenL T (EvE.name 6 rfl rfl) (by simp; omega)) EvE.cInt (eqF (by simp; omega))) (EvE.bin (EvE.list (ds := [rowD (one 0)]) (EvL.cons (EvE.list (EvL.row (EvE.num T 0))) EvL.nil)) (EvE.name 6 rfl rfl) (op_rows (A := [one 0]) (by simp; omega)))
    · have hc1 := params_octets_spec (w := w) T (changesP h t) (changesP_ok ht) (by omega)
      have hc2 := params_octets_spec (w := w) T (anewP t) (anewP_ok ht) (by omega)
      have hb1 := paramsB_len (changesP_ok (old := h) ht) (by omega)
      have hb2 := paramsB_len (anewP_ok ht) (by omega)
      have cond : EvE PP w G Inv.none ⟨scopeOf (stOf 57), []⟩ [("old" : Str), "new", "can_direct", "here", "there", "changes", "anew"] 5 [.d (penD old), .d (penD new), .d (.bool cd), .d (penD h), .d (penD t), .d (rowsD (changesP h t)), .d (rowsD (anewP t))] (retOf (nth (bodyOf (stOf 57)) 5)) (rowsD (chosen h t)) := by
        unfold chosen
        by_cases hl : (paramsB (changesP h t)).length ≤ (paramsB (anewP t)).length
        · rw [if_pos hl]
          exact EvE.ifT (EvB.le (EvE.lenB T (EvE.call hc1 (EvL.cons (EvE.name 5 rfl rfl) EvL.nil)) (by simp; omega)) (EvE.lenB T (EvE.call hc2 (EvL.cons (EvE.name 6 rfl rfl) EvL.nil)) (by simp; omega)) (by simpa using hl)) (EvE.name 5 rfl rfl)
        · rw [if_neg hl]
          exact EvE.ifF (EvB.le (EvE.lenB T (EvE.call hc1 (EvL.cons (EvE.name 5 rfl rfl) EvL.nil)) (by simp; omega)) (EvE.lenB T (EvE.call hc2 (EvL.cons (EvE.name 6 rfl rfl) EvL.nil)) (by simp; omega)) (by simpa using hl)) (EvE.name 6 rfl rfl)
      exact ExS.stop (Ex1.ret cond)

noncomputable def octB : Option (List Row) → List UInt8
  | none => []
  | some rs => 27 :: 91 :: (paramsB rs ++ [109])
theorem chosen_ok {h t : Pen} (ht : PenOk t) : (∀ r ∈ chosen h t, ParOk r) ∧ (chosen h t).length ≤ 40 := by
  have h1 := changesP_len h t
  have h2 := anewP_len t
  unfold chosen
  split
  · exact ⟨changesP_ok ht, by omega⟩
  · exact ⟨anewP_ok ht, by omega⟩
theorem sgr_octets_spec (T : Top G) (old new : Pen) (cd : Bool) (ho : PenOk old) (hn : PenOk new) (h1 : canTell cd old) (h2 : canTell cd new) : Spec PP w G 7 "sgr_octets" [penD old, penD new, .bool cd] (.bytes (octB (sgrP old new)).toArray) := by
  have hsl : sizeLine = 16777216 := rfl
  have hF := T.fnd 58 (by decide)
  refine Spec.intro (ps := ["old", "new", "can_direct"]) (rest := ["params"]) hF (fun s pm code doc dV vs hl hd => ?_) rfl (by decide +kernel) ?_
  · obtain ⟨a, b, c, rfl⟩ := len3 hl
    obtain ⟨T', oT, m, rfl, hT', hS'⟩ := hd
    exact BindsTo.of_defaults rfl hT' hS' rfl rfl
  · refine ExS.cons (Ex1.assign 3 rfl (EvE.call (sgr_params_spec T old new cd ho hn h1 h2) (EvL.cons (EvE.name 0 rfl rfl) (EvL.cons (EvE.name 1 rfl rfl) (EvL.cons (EvE.name 2 rfl rfl) EvL.nil))))) ?_
    unfold sgrP
    by_cases he : toldPen old = toldPen new
    · rw [if_pos he]
      exact ExS.stop (Ex1.ret (EvE.ifT (EvB.cmp (EvE.name 3 rfl rfl) EvE.cNone cmp_isNone) EvE.bytes))
    · rw [if_neg he]
      have hc := chosen_ok (h := toldPen old) hn.told
      have hb := paramsB_len hc.1 (by omega)
      refine ExS.stop (Ex1.ret ((EvE.ifF (EvB.cmp (EvE.name 3 rfl rfl) EvE.cNone (cmp_isList _)) (EvE.bin (EvE.bin EvE.bytes (EvE.call (params_octets_spec T _ hc.1 (by omega)) (EvL.cons (EvE.name 3 rfl rfl) EvL.nil)) (op_catB (by simp; omega))) EvE.bytes (op_catB (by simp; omega)))).eq ?_))
      simp [octB]

noncomputable def penB (p : Pen) : List UInt8 := paramsB (one 0 :: changesP (plainPen 0) (toldPen p))
theorem pen_octets_spec (T : Top G) (p : Pen) (h : PenOk p) : Spec PP w G 6 "pen_octets" [penD p] (.bytes (penB p).toArray) := by
  have hsl : sizeLine = 16777216 := rfl
  refine Spec.intro (ps := ["pen"]) (rest := []) (T.fns 59 (by decide)) (fun s pm code doc dV vs hl hd => ?_) rfl (by decide +kernel) ?_
  · obtain ⟨a, rfl⟩ := len1 hl
    exact BindsTo.of_eq (by cases hd; rfl)
  · have hcl := changesP_len (plainPen 0) (toldPen p)
    refine ExS.stop (Ex1.ret (EvE.call (params_octets_spec T (one 0 :: changesP (plainPen 0) (toldPen p)) (fun r hr => ?_) (by simp; omega)) (EvL.cons (EvE.bin (EvE.list (ds := [rowD (one 0)]) (EvL.cons (EvE.list (EvL.row (EvE.num T 0))) EvL.nil))
      (EvE.call (sgr_changes_spec T (plainPen 0) (toldPen p)) (EvL.cons (EvE.glob (plain_data T)) (EvL.cons (EvE.call (pen_told_spec T p true (.inl rfl)) (EvL.cons (EvE.name 0 rfl rfl) (EvL.cons EvE.cBool EvL.nil))) EvL.nil))) (op_rows (A := [one 0]) (by simp; omega))) EvL.nil)))
    rcases List.mem_cons.mp hr with rfl | hr
    · exact one_ok (by omega)
    · exact changesP_ok h.told r hr
end
end Og
namespace Og
open PySem PySem.Calls PySem.Spec PyProof.Rows

theorem FE.keyNot {es : List DictEntry} {xs : List Str} {vs : List Value} (h : FE es xs vs) : es.any (·.refKey) = false := by
  induction h with
  | nil => rfl
  | cons _ ih => rw [List.any_cons, ih]; rfl
theorem FE.getL_none {es : List DictEntry} {xs : List Str} {vs : List Value} (h : FE es xs vs) {y : Str} (hy : y ∉ xs) : W.getL y es = some none := by
  have hn := h.keyNot
  unfold W.getL
  have : es.find? (·.key.isStr y) = none := by
    clear hn
    induction h with
    | nil => rfl
    | @cons hs x t v es xs vs _ ih =>
      have h1 : (x == y) = false := by
        rw [beq_eq_false_iff_ne]; rintro rfl; exact hy (.head _)
      rw [List.find?_cons]
      simp only [Value.isStr, h1]
      exact ih fun q => hy (.tail _ q)
  rw [this, hn]
  rfl
theorem FE.getL_some {es : List DictEntry} {xs : List Str} {vs : List Value} (h : FE es xs vs) (hn : xs.Nodup) {i : Nat} {y : Str} {v : Value} (hx : xs[i]? = some y) (hv : vs[i]? = some v) : W.getL y es = some (some v) := by
  unfold W.getL
  have : ∃ e, es.find? (·.key.isStr y) = some e ∧ e.val = v := by
    induction h generalizing i with
    | nil => simp at hx
    | @cons hs x t u es xs vs _ ih =>
      have hnd := List.nodup_cons.mp hn
      rw [List.find?_cons]
      cases i with
      | zero =>
        simp at hx hv
        subst hx; subst hv
        exact ⟨⟨hs, .str x t, u⟩, by simp [Value.isStr], rfl⟩
      | succ i =>
        simp at hx hv
        have hm : y ∈ xs := List.mem_of_getElem? hx
        have h1 : (x == y) = false := by rw [beq_eq_false_iff_ne]; rintro rfl; exact hnd.1 hm
        simp only [Value.isStr, h1]
        exact ih hnd.2 hx hv
  obtain ⟨e, he, hv⟩ := this
  rw [he]
  simp [hv]
theorem FE.put_old {es : List DictEntry} {xs : List Str} {vs : List Value} (h : FE es xs vs) {i : Nat} {y : Str} {hs : Int} {t : Tok} {v : Value} (hx : xs[i]? = some y) (hn : xs.Nodup) : FE (W.putL y hs (.str y t) v es) xs (vs.set i v) := by
  induction h generalizing i with
  | nil => simp at hx
  | @cons hs' x t' u es xs vs hr ih =>
    have hnd := List.nodup_cons.mp hn
    unfold W.putL
    cases i with
    | zero =>
      simp at hx; subst hx
      rw [if_pos (by simp [Value.isStr])]
      exact .cons hr
    | succ i =>
      simp at hx
      have h1 : (x == y) = false := by rw [beq_eq_false_iff_ne]; rintro rfl; exact hnd.1 (List.mem_of_getElem? hx)
      rw [if_neg (by simp [Value.isStr, h1])]
      exact .cons (ih hx hnd.2)
theorem FE.put_new {es : List DictEntry} {xs : List Str} {vs : List Value} (h : FE es xs vs) {y : Str} {hs : Int} {t : Tok} {v : Value} (hy : y ∉ xs) : FE (W.putL y hs (.str y t) v es) (xs ++ [y]) (vs ++ [v]) := by
  induction h with
  | nil => exact .cons .nil
  | @cons hs' x t' u es xs vs hr ih =>
    unfold W.putL
    have h1 : (x == y) = false := by rw [beq_eq_false_iff_ne]; rintro rfl; exact hy (.head _)
    rw [if_neg (by simp [Value.isStr, h1])]
    exact .cons (ih fun q => hy (.tail _ q))
theorem FE.length {es : List DictEntry} {xs : List Str} {vs : List Value} (h : FE es xs vs) : es.length = xs.length := by
  induction h with
  | nil => rfl
  | cons _ ih => simp [ih]

structure ObjAt (C : Addr) (x dx : Addr) (xs : List Str) (vs : List Value) (h : Heap) : Prop where
  inst : h.get? x = some { cls := .ref C, dict := some dx, data := .plain }
  fld : ∃ es n, h.get? dx = some { cls := .type "dict", data := .dict es.toArray n } ∧ FE es xs vs
  nd : xs.Nodup
theorem ObjAt.keeps {C x dx : Addr} {xs : List Str} {vs : List Value} {h h' : Heap} (O : ObjAt C x dx xs vs h) (hx : ∀ o, h.get? x = some o → h'.get? x = some o) (hd : ∀ o, h.get? dx = some o → h'.get? dx = some o) : ObjAt C x dx xs vs h' :=
  ⟨hx _ O.inst, let ⟨es, n, e, f⟩ := O.fld; ⟨es, n, hd _ e, f⟩, O.nd⟩

noncomputable abbrev FS : List Str := ["most", "limit", "found", "parts", "value", "is_begun"]
structure RdK (K : W.Frag) (C fI fC fP fQ fR fS : Addr) : Prop where
  get : W.plainGet K C "most" = true
  dict : W.hasDictIn K C = true
  seta : W.findIn K (.ref C) "__setattr__" = some (some (.builtin "object.__setattr__"))
  over : W.plainOver K C = true
  fields : ∀ x ∈ FS, W.findIn K (.ref C) x = some none
  makes : W.makesIn K C = true
  keepC : W.keepIn K (.ref C) = true
  meth : ∀ p ∈ ([("__init__", fI), ("clear", fC), ("put", fP), ("close_part", fQ), ("close_parameter", fR), ("params", fS)] : List (Str × Addr)), W.findIn K (.ref C) p.1 = some (some (.ref p.2)) ∧ W.typeIn K (.ref p.2) = some (.type "function") ∧ W.keepIn K (.ref p.2) = true

section
variable {prog : Program} {w : World} {K : W.Frag} {C fI fC fP fQ fR fS : Addr} {A : Around} {E : Value → Shared → Prop} {s : Shared} {x dx : Addr} {xs : List Str} {vs : List Value}

theorem ObjAt.at' (O : ObjAt C x dx xs vs s.heap) : ∃ es n, FE es xs vs ∧ W.InstAt s.heap x { cls := .ref C, dict := some dx, data := .plain } C (some (W.dictOf es n)) ∧ s.heap.get? dx = some (W.dictOf es n) := by
  obtain ⟨es, n, e, f⟩ := O.fld
  exact ⟨es, n, f, ⟨O.inst, rfl, rfl, e⟩, e⟩

theorem get_field (X : K.In s.heap) (RK : RdK K C fI fC fP fQ fR fS) (O : ObjAt C x dx xs vs s.heap) {name : Str} {expr : Bool} {v : Value} {i : Nat} {Q : Value → Shared → Prop} (hf : name ∈ FS) (hx : xs[i]? = some name) (hv : vs[i]? = some v) (hh : W.handedIn v = true)
    (h : Q v { s with toks := s.toks + 1 }) : wpAny (model prog w) A (getAttr (.ref x) name expr) Q E s := by
  obtain ⟨es, n, f, I, hd⟩ := O.at'
  exact W.get_value X I (W.plainGet_of RK.get).1 (W.findObj_own RK.dict (RK.fields name hf) rfl (by rw [W.lookIn_dict]; exact f.getL_some O.nd hx hv)) hh h

theorem get_meth (X : K.In s.heap) (RK : RdK K C fI fC fP fQ fR fS) (O : ObjAt C x dx xs vs s.heap) {name : Str} {f : Addr} {pl : Sem Bool} {Q : Value × List Value → Shared → Prop} (hm : (name, f) ∈ ([("__init__", fI), ("clear", fC), ("put", fP), ("close_part", fQ), ("close_parameter", fR), ("params", fS)] : List (Str × Addr)))
    (hx : name ∉ xs) (h : Q (.ref f, [.ref x]) s) : wpAny (model prog w) A (getMethod (.ref x) name pl) Q E s := by
  obtain ⟨es, n, fe, I, hd⟩ := O.at'
  have := RK.meth _ hm
  exact W.method_fn X I (W.plainGet_of RK.get).1 (W.plainGet_of RK.get).2 this.1 this.2.1 (by show (W.lookIn name (W.dictOf es n)).map _ = _; rw [W.lookIn_dict, fe.getL_none hx]; rfl) h

theorem set_field (X : K.In s.heap) (RK : RdK K C fI fC fP fQ fR fS) (O : ObjAt C x dx xs vs s.heap) {name : Str} {v : Value} {Q : Unit → Shared → Prop} (hf : name ∈ FS) (hz : xs.length ≤ 100)
    (hne : x ≠ dx) {xs' : List Str} {vs' : List Value} (hxv : (∃ i, xs[i]? = some name ∧ xs' = xs ∧ vs' = vs.set i v) ∨ (name ∉ xs ∧ xs' = xs ++ [name] ∧ vs' = vs ++ [v]))
    (h : ∀ h' tk, ObjAt C x dx xs' vs' h' → Heap.SameBut dx s.heap h' → Q () { s with heap := h', toks := tk }) :
    wpAny (model prog w) A (setAttr (.ref x) name v) Q E s := by
  obtain ⟨es, n, fe, I, hd⟩ := O.at'
  obtain ⟨H, g, d, t, os⟩ := s
  dsimp only at X O I hd h
  refine W.set_plain (s := ⟨H, g, d, t, os⟩) X I RK.seta ?_
  refine W.osa_open (s := ⟨H, g, d, t + 1, os⟩) X I RK.over (r := none) (by unfold W.takerIn; rw [RK.fields name hf]; rfl) fun b => ?_
  obtain ⟨cd, hc, hd'⟩ := W.any_some RK.dict
  obtain ⟨hx, hcl, hn, -⟩ := I
  refine wpAny_bind (wpAny_pure (wpAny_bind (wpAny_bind (wpAny_loadPart hx (wpAny_bind ((W.looks_clsIn X hc).here ?_))))))
  rw [hd']
  refine wpAny_pure (a := some dx) (wpAny_bind (wpAny_pure (wpAny_bind ?_)))
  unfold nsSet
  refine wpAny_bind (wpAny_bind (wpAny_askSetting (wpAny_pure (wpAny_bind (wpAny_mkText (wpAny_bind (wpAny_loadPart hd ?_)))))))
  dsimp only
  have c : (!es.toArray.any (·.key.isStr name) && es.toArray.any (·.refKey)) = false := by
    rw [List.any_toArray, List.any_toArray, fe.keyNot, Bool.and_false]
  rw [aRefKeyMayBeTheName_at, c]
  have hput := W.putName_dict name (PyData.keyHash w.params name) (.str name (t + 1)) v es n
  have D' : (H.update dx (Obj.putName name (PyData.keyHash w.params name) (.str name (t + 1)) v)).get? dx = some (W.dictOf (W.putL name (PyData.keyHash w.params name) (.str name (t + 1)) v es) (W.putN name es n)) := by
    rw [Heap.get?_update_self _ hd (by rw [hput]; rfl), hput]
  refine wpAny_updatePart hd ?_
  refine wpAny_bind (wpAny_lookBehind D' (pastItsLine_dict ?_) ?_)
  · rw [List.size_toArray, sizeLine_eq]
    have h1 := fe.length
    have h2 : (W.putL name (PyData.keyHash w.params name) (.str name (t + 1)) v es).length ≤ es.length + 1 := by
      clear hput D' h1 c fe hd
      induction es with
      | nil => simp [W.putL]
      | cons e r ih => unfold W.putL; split <;> simp <;> exact ih
    omega
  · have hs := Heap.SameBut.update H dx (Obj.putName name (PyData.keyHash w.params name) (.str name (t + 1)) v)
    refine wpAny_pure (h _ _ ⟨hs.extBut _ _ hne O.inst, ?_, ?_⟩ hs)
    · rcases hxv with ⟨i, hi, rfl, rfl⟩ | ⟨hni, rfl, rfl⟩
      · exact ⟨_, _, D', fe.put_old hi O.nd⟩
      · exact ⟨_, _, D', fe.put_new hni⟩
    · rcases hxv with ⟨i, hi, rfl, rfl⟩ | ⟨hni, rfl, rfl⟩
      · exact O.nd
      · rw [List.nodup_append]
        exact ⟨O.nd, by simp, fun a ha b hb q => by
          obtain rfl := List.mem_singleton.mp hb
          exact hni (q ▸ ha)⟩
end
end Og
namespace Og
open PySem PySem.Calls PySem.Spec PyProof.Rows

section
variable {prog : Program} {w : World} {G : Gl} {I : Inv} {sc : Sc} {names : List Str} {n : Nat} {vals : List Loc}

theorem St.after {c : Fc} {own : List Addr} {s : Shared} (S : St G names I c own vals s) {h' : Heap} {t : Nat} {I' : Inv} (hx : Ext I.ad s.heap h') (hal : ∀ a ∈ I.ad, ∃ o, h'.get? a = some o)
    (hn : ∀ a ∈ I'.ad, (∃ o, h'.get? a = some o) ∧ (a ∈ I.ad ∨ s.heap.get? a = none)) (hP : I'.P h') (hov : ∀ a es, Loc.own a es ∈ vals → a ∉ I.ad) :
    St G names I' c (I'.ad ++ own) vals { s with heap := h', toks := t } ∧ Step own s.heap (I'.ad ++ own) h' := by
  have hIo : ∀ a ∈ I.ad, a ∈ own := fun a ha => (S.iown a ha).1
  have keep : ∀ a o, a ∉ own → s.heap.get? a = some o → h'.get? a = some o := fun a o ha e => hx a o (fun q => ha (hIo a q)) e
  have hll : c.env.locals ∉ I.ad := fun q => (S.iown _ q).2 rfl
  have hnl : ∀ a ∈ I'.ad, a ≠ c.env.locals := fun a ha q => by
    rcases (hn a ha).2 with z | z
    · exact hll (q ▸ z)
    · obtain ⟨o, e⟩ := S.alive _ (List.mem_append_left _ S.lown)
      rw [← q, z] at e; cases e
  refine ⟨{
    kind := S.kind
    glob := S.glob
    blt := S.blt
    loc := S.loc
    nodup := S.nodup
    base := fun b o e => hx b o (fun q => by have := S.apart b (List.mem_append_left _ (hIo b q)); rw [e] at this; cases this) (S.base b o e)
    ns := by
      obtain ⟨m, ⟨oL, es, ep, hL, r⟩, h2⟩ := S.ns
      refine ⟨m, ⟨oL, es, ep, hx _ _ hll hL, r⟩, h2.mono (fun a o ha e => ⟨keep a o (fun q => ha (List.mem_append_left _ q)) e, fun q => ?_⟩) (fun _ h => List.mem_append_right _ h) fun l hm => ?_⟩
      · rcases List.mem_append.mp q with q | q
        · rcases List.mem_append.mp q with q | q
          · rcases (hn a q).2 with z | z
            · exact ha (List.mem_append_left _ (hIo a z))
            · rw [z] at e; cases e
          · exact ha (List.mem_append_left _ q)
        · exact ha (List.mem_append_right _ q)
      · cases l with
        | own a es => exact fun o e => hx a o (hov a es hm) e
        | _ => trivial
    lown := List.mem_append_right _ S.lown
    alive := fun a ha => by
      rcases List.mem_append.mp ha with q | q
      · rcases List.mem_append.mp q with q | q
        · exact (hn a q).1
        · by_cases z : a ∈ I.ad
          · exact hal a z
          · obtain ⟨o, e⟩ := S.alive a (List.mem_append_left _ q); exact ⟨o, hx a o z e⟩
      · by_cases z : a ∈ I.ad
        · exact hal a z
        · obtain ⟨o, e⟩ := S.alive a (List.mem_append_right _ q); exact ⟨o, hx a o z e⟩
    ext := fun b o hb e => by
      by_cases q : b ∈ I.ad
      · rcases S.fresh b (hIo b q) with z | z
        · exact absurd z hb
        · rw [z] at e; cases e
      · exact hx b o q (S.ext b o hb e)
    fresh := fun a ha => by
      rcases List.mem_append.mp ha with q | q
      · rcases (hn a q).2 with z | z
        · exact S.fresh a (hIo a z)
        · by_cases y : a ∈ c.mt
          · exact .inl y
          · refine .inr ?_
            cases e : c.h₀.get? a with
            | none => rfl
            | some o => have := S.ext a o y e; rw [z] at this; cases this
      · exact S.fresh a q
    apart := fun a ha => by
      rcases List.mem_append.mp ha with q | q
      · rcases List.mem_append.mp q with q | q
        · rcases (hn a q).2 with z | z
          · exact S.apart a (List.mem_append_left _ (hIo a z))
          · cases e : G.hb.get? a with
            | none => rfl
            | some o => have := S.base a o e; rw [z] at this; cases this
        · exact S.apart a (List.mem_append_left _ q)
      · exact S.apart a (List.mem_append_right _ q)
    inv := hP
    iown := fun a ha => ⟨List.mem_append_left _ ha, hnl a ha⟩
    same := S.same.trans ⟨rfl, rfl, rfl⟩ }, ⟨fun a o ha e => keep a o ha e, fun a ha => List.mem_append_right _ ha, fun a ha => ?_⟩⟩
  rcases List.mem_append.mp ha with q | q
  · rcases (hn a q).2 with z | z
    · exact .inl (hIo a z)
    · exact .inr z
  · exact .inl q

noncomputable def NewAd (I I' : Inv) (h : Heap) : Prop := ∀ a ∈ I'.ad, a ∈ I.ad ∨ h.get? a = none
theorem NewAd.refl {I : Inv} {h : Heap} : NewAd I I h := fun _ ha => .inl ha
theorem NewAd.trans {c : Fc} {own own' : List Addr} {s s' : Shared} {I I' I'' : Inv} {v₁ : List Loc} (x : NewAd I I' s.heap) (S : St G names I c own vals s) (st : Step own s.heap own' s'.heap) (S' : St G names I' c own' v₁ s') (y : NewAd I' I'' s'.heap) : NewAd I I'' s.heap := by
  intro a ha
  rcases y a ha with q | q
  · exact x a q
  · refine .inr ?_
    cases e : s.heap.get? a with
    | none => rfl
    | some o =>
      by_cases z : a ∈ own
      · obtain ⟨o', e'⟩ := S'.alive a (List.mem_append_left _ (st.sub a z))
        rw [q] at e'; cases e'
      · rw [st.ext a o z e] at q; cases q
theorem NewAd.step {c : Fc} {own own' : List Addr} {s s' : Shared} {I I'' : Inv} {v₁ : List Loc} (S : St G names I c own vals s) (st : Step own s.heap own' s'.heap) (S' : St G names I c own' v₁ s') (y : NewAd I I'' s'.heap) : NewAd I I'' s.heap :=
  NewAd.trans .refl S st S' y

structure ExT (prog : Program) (w : World) (G : Gl) (I : Inv) (sc : Sc) (names : List Str) (n : Nat) (vals : List Loc) (sts : List Stmt) (J : Inv → Prop) (o : Out) : Prop where
  go : ∀ (c : Fc) (own : List Addr) (s : Shared) (A : Around) (Q : Flow → Shared → Prop) (E : Value → Shared → Prop), EnvIs c.env sc → Room n A → St G names I c own vals s →
    (∀ f s' I', J I' → NewAd I I' s.heap → OutOk G names I' c own s.heap o f s' → Q f s') → wpAny (model prog w) A (execs sts c.env) Q E s
structure Ex1T (prog : Program) (w : World) (G : Gl) (I : Inv) (sc : Sc) (names : List Str) (n : Nat) (vals : List Loc) (st : Stmt) (J : Inv → Prop) (v₁ : List Loc) : Prop where
  go : ∀ (c : Fc) (own : List Addr) (s : Shared) (A : Around) (Q : Flow → Shared → Prop) (E : Value → Shared → Prop), EnvIs c.env sc → Room n A → St G names I c own vals s →
    (∀ s' I' own', J I' → NewAd I I' s.heap → Step own s.heap own' s'.heap → St G names I' c own' v₁ s' → Q .next s') → wpAny (model prog w) A (exec st c.env) Q E s
theorem ExT.cons {st : Stmt} {sts : List Stmt} {J₁ J : Inv → Prop} {v₁ : List Loc} {o : Out} (h : Ex1T prog w G I sc names n vals st J₁ v₁) (hr : ∀ I', J₁ I' → ExT prog w G I' sc names n v₁ sts J o) : ExT prog w G I sc names n vals (st :: sts) J o := by
  constructor
  intro c own s A Q E hsc R S k
  refine wpAny_execs_cons (h.go c own s A _ E hsc R S fun s' I' own' hJ hN x S' => ?_)
  exact (hr I' hJ).go c own' s' A Q E hsc R S' fun f s'' I'' hJ' hN' q => k f s'' I'' hJ' (hN.trans S x S' hN') (q.step x)
theorem ExT.lift {st : Stmt} {sts : List Stmt} {J : Inv → Prop} {v₁ : List Loc} {o : Out} (h : Ex1 prog w G I sc names n vals st (.next v₁)) (hr : ExT prog w G I sc names n v₁ sts J o) : ExT prog w G I sc names n vals (st :: sts) J o := by
  constructor
  intro c own s A Q E hsc R S k
  refine wpAny_execs_cons (h.go c own s A _ E hsc R S fun f s' q => ?_)
  cases f <;> first
    | (obtain ⟨own', x, S'⟩ := q; exact hr.go c own' s' A Q E hsc R S' fun f s'' I' hJ hN q' => k f s'' I' hJ (NewAd.step S x S' hN) (q'.step x))
    | exact q.elim
theorem ExT.ofS {sts : List Stmt} {J : Inv → Prop} {o : Out} (h : ExS prog w G I sc names n vals sts o) (hJ : J I) : ExT prog w G I sc names n vals sts J o :=
  ⟨fun c own s A Q E hsc R S k => h.go c own s A Q E hsc R S fun f s' q => k f s' I hJ .refl q⟩
theorem ExT.nil {J : Inv → Prop} (hJ : J I) : ExT prog w G I sc names n vals [] J (.next vals) := .ofS .nil hJ
theorem Ex1T.ifT {t : Expr} {b o : List Stmt} {p : Pos} {J : Inv → Prop} {v₁ : List Loc} (ht : EvB prog w G I sc names n vals t true) (hb : ExT prog w G I sc names n vals b J (.next v₁)) : Ex1T prog w G I sc names n vals (.If t b o p) J v₁ := by
  constructor
  intro c own s A Q E hsc R S k
  refine wpAny_If (ht.go c own s A _ E hsc R S fun s₁ S₁ x₁ => hb.go c own s₁ A Q E hsc R S₁ fun f s' I' hJ hN q => ?_)
  cases f <;> first
    | (obtain ⟨own', x, S'⟩ := q; exact k s' I' own' hJ (NewAd.step S (Step.ofExt x₁) S₁ hN) ((Step.ofExt x₁).trans x) S')
    | exact q.elim
theorem Ex1T.ifF {t : Expr} {b o : List Stmt} {p : Pos} {J : Inv → Prop} {v₁ : List Loc} (ht : EvB prog w G I sc names n vals t false) (hb : ExT prog w G I sc names n vals o J (.next v₁)) : Ex1T prog w G I sc names n vals (.If t b o p) J v₁ := by
  constructor
  intro c own s A Q E hsc R S k
  refine wpAny_If (ht.go c own s A _ E hsc R S fun s₁ S₁ x₁ => hb.go c own s₁ A Q E hsc R S₁ fun f s' I' hJ hN q => ?_)
  cases f <;> first
    | (obtain ⟨own', x, S'⟩ := q; exact k s' I' own' hJ (NewAd.step S (Step.ofExt x₁) S₁ hN) ((Step.ofExt x₁).trans x) S')
    | exact q.elim

inductive ArgsAt (av : List Addr) (h : Heap) : List Value → List Loc → Prop
  | nil : ArgsAt av h [] []
  | d {v : Value} {d : D} {vs : List Value} {ls : List Loc} : Rep av h v d → ArgsAt av h vs ls → ArgsAt av h (v :: vs) (.d d :: ls)
  | v {v : Value} {vs : List Value} {ls : List Loc} : ArgsAt av h vs ls → ArgsAt av h (v :: vs) (.v v :: ls)
theorem ArgsAt.length {av : List Addr} {h : Heap} {vs : List Value} {ls : List Loc} (a : ArgsAt av h vs ls) : vs.length = ls.length := by
  induction a <;> simp [*]
theorem ArgsAt.mono {av av' : List Addr} {h h' : Heap} (hk : ∀ a o, a ∉ av → h.get? a = some o → h'.get? a = some o ∧ a ∉ av') {vs : List Value} {ls : List Loc} (a : ArgsAt av h vs ls) : ArgsAt av' h' vs ls := by
  induction a with
  | nil => exact .nil
  | d r _ ih => exact .d (r.mono hk) ih
  | v _ ih => exact .v ih
theorem vars_argsAt {own fz : List Addr} {h : Heap} {m : Str → Option Value} {rest : List Str} : ∀ {ps : List Str} {vs : List Value} {ls : List Loc}, (∀ p ∈ ps.zip vs, m p.1 = some p.2) → ps.length = vs.length → ArgsAt (own ++ fz) h vs ls →
    Vars own fz h m (ps ++ rest) (ls ++ List.replicate rest.length Loc.un)
  | [], [], _, _, _, r => by
    cases r
    exact vars_un rest
  | p :: ps, v :: vs, _, hm, hl, r => by
    cases r with
    | d r rs => exact .cons ⟨v, hm _ (.head _), r⟩ (vars_argsAt (fun q hq => hm q (.tail _ hq)) (Nat.succ.inj hl) rs)
    | v rs => exact .cons (hm _ (.head _)) (vars_argsAt (fun q hq => hm q (.tail _ hq)) (Nat.succ.inj hl) rs)
  | [], _ :: _, _, _, hl, _ => by cases hl
  | _ :: _, [], _, _, hl, _ => by cases hl

structure MAt (G : Gl) (f : Addr) (body : List Stmt) (scope : Scope) (ps : List Str) : Prop where
  ex : ∃ o fd, G.hb.get? f = some o ∧ o.data = .func fd ∧ fd.body = .stmts body ∧ fd.scope = scope ∧ fd.globals = mainGlobals ∧ fd.builtins = builtinsNs ∧ fd.closure = [] ∧ G.hb.CodeRec fd.code fd.qualname ∧
    ∀ (s : Shared), (∀ b o, G.hb.get? b = some o → s.heap.get? b = some o) → ∀ vs : List Value, vs.length = ps.length → BindsTo s fd ⟨vs, []⟩ (ps.zip vs)

noncomputable def MSpec (prog : Program) (w : World) (G : Gl) (n : Nat) (f : Addr) (I : Inv) (ls : List Loc) (J : Inv → Prop) (d : D) : Prop :=
  ∀ (av : List Addr) (s : Shared) (A : Around) (vs : List Value) (B : Result → Shared → Prop), Room n A → (∀ b o, G.hb.get? b = some o → s.heap.get? b = some o) →
    (∀ x ∈ I.ad ++ av, ∃ o, s.heap.get? x = some o) → (∀ x ∈ I.ad ++ av, G.hb.get? x = none) → I.P s.heap → ArgsAt (I.ad ++ av) s.heap vs ls →
    (∀ v h' tk I', J I' → I'.P h' → Ext I.ad s.heap h' → (∀ a ∈ I.ad, ∃ o, h'.get? a = some o) → (∀ a ∈ I'.ad, (∃ o, h'.get? a = some o) ∧ (a ∈ I.ad ∨ s.heap.get? a = none)) → Rep (I'.ad ++ av) h' v d → B (.ok (.ret v)) { s with heap := h', toks := tk }) →
    codeAny (model prog w) A (.call (.ref f) ⟨vs, []⟩) B s

noncomputable def outD : Out → Option D
  | .ret d => some d
  | .next _ => some .none
  | _ => none
theorem MSpec.intro {f : Addr} {body : List Stmt} {scope : Scope} {ps rest : List Str} {ls : List Loc} {J : Inv → Prop} {o : Out} {d : D} (F : MAt G f body scope ps) (hps : ps.length = ls.length) (hno : ∀ a es, Loc.own a es ∉ ls) (hok : okNames scope (ps ++ rest) = true)
    (hx : ExT prog w G I ⟨scope, []⟩ (ps ++ rest) n (ls ++ List.replicate rest.length Loc.un) body J o) (hd : outD o = some d)
    (hcell : (scope.names.all fun x => x.2 != .cell) = true := by decide +kernel) (hco : scope.isCoroutine = false := by rfl) (hgen : scope.isGenerator = false := by rfl) (hk : scope.kind = .function := by rfl) :
    MSpec prog w G (n + 1) f I ls J d := by
  intro av s A vs B R base hal hap hP ha k
  obtain ⟨of, fd, h1, h2, h3, h4, h5, h6, h7, h8, h9⟩ := F.ex
  have hlen : vs.length = ps.length := by rw [ha.length, hps]
  have hnd := okNames_nodup hok
  have hndp : ps.Nodup := (List.nodup_append.mp hnd).1
  have hzip : (ps.zip vs).map (·.1) = ps := by rw [List.map_fst_zip (by omega)]
  refine codeAny_call_def (fd := fd) (body := body) (binds := ps.zip vs) (by have := R.depth; omega) (base _ _ h1) h2 (G.nolimit.keeps base) (h8.keeps base) h3 (h9 s base vs hlen) ?_ ?_ ?_ (h4 ▸ hco) (h4 ▸ hgen) (h4 ▸ hk)
  · intro x hx e
    rw [h4] at hx
    have := List.all_eq_true.mp hcell x hx
    rw [e] at this
    exact absurd this (by decide)
  · intro x hx
    rw [h4]
    exact (okNames_loc hok x.1 (List.mem_append_left _ (by rw [← hzip]; exact List.mem_map.mpr ⟨x, hx, rfl⟩))).1
  · intro h₁ hn hkeep
    let c : Fc := { env := callEnv fd s.heap.objs.size f, h₀ := s.heap, mt := I.ad, fz := av, s₀ := s }
    have hL : s.heap.get? s.heap.objs.size = none := none_size
    have hLn : s.heap.objs.size ∉ I.ad ++ av := fun q => by obtain ⟨o', e⟩ := hal _ q; rw [hL] at e; cases e
    have hsub : ∀ {x : Addr}, x ∈ (s.heap.objs.size :: I.ad) ++ c.fz → x = s.heap.objs.size ∨ x ∈ I.ad ++ av := fun {x} hx => by
      rcases List.mem_append.mp hx with q | q
      · rcases List.mem_cons.mp q with q | q
        · exact .inl q
        · exact .inr (List.mem_append_left _ q)
      · exact .inr (List.mem_append_right _ q)
    have S : St G (ps ++ rest) I c (s.heap.objs.size :: I.ad) (ls ++ List.replicate rest.length Loc.un) { s with heap := h₁, toks := s.toks + (ps.zip vs).length } :=
      { kind := by show fd.scope.kind = _; rw [h4]; exact hk
        glob := h5
        blt := h6
        loc := fun x hx => by
          have := okNames_loc hok x hx
          exact ⟨by show fd.scope.names.lookup x = _; rw [h4]; exact this.1, this.2⟩
        nodup := hnd
        base := fun b o e => hkeep b o (base b o e)
        ns := by
          refine ⟨_, hn, vars_argsAt (fun p hp => lookup_rev (by rw [hzip]; exact hndp) hp) hlen.symm (ha.mono fun a o ha e => ⟨hkeep a o e, fun q => ?_⟩)⟩
          rcases hsub q with q | q
          · rw [q, hL] at e; cases e
          · exact ha q
        lown := .head _
        alive := fun x hx => by
          rcases hsub hx with q | q
          · rw [q]; obtain ⟨o', _, _, ho', _⟩ := hn; exact ⟨o', ho'⟩
          · obtain ⟨o', e⟩ := hal x q; exact ⟨o', hkeep _ _ e⟩
        ext := fun b o _ e => hkeep b o e
        fresh := fun x hx => by
          rcases List.mem_cons.mp hx with q | q
          · rw [q]; exact .inr hL
          · exact .inl q
        apart := fun x hx => by
          rcases hsub hx with q | q
          · rw [q]
            cases e : G.hb.get? s.heap.objs.size with
            | none => rfl
            | some o => have := base _ _ e; rw [hL] at this; cases this
          · exact hap x q
        inv := I.keep _ _ hP fun a ha o e => hkeep a o e
        iown := fun a ha => ⟨.tail _ ha, fun q => hLn (List.mem_append_left _ (by have q' : a = s.heap.objs.size := q; rw [← q']; exact ha))⟩
        same := ⟨rfl, rfl, rfl⟩ }
    have fin : ∀ {own' : List Addr} {vals' : List Loc} {s' : Shared} {I' : Inv} {v : Value}, J I' → Step (s.heap.objs.size :: I.ad) h₁ own' s'.heap → St G (ps ++ rest) I' c own' vals' s' → Rep (own' ++ av) s'.heap v d → B (.ok (.ret v)) s' := by
      intro own' vals' s' I' v hJ st S' rr
      have := k v s'.heap s'.toks I' hJ S'.inv (fun b o hb e => S'.ext b o hb e) (fun a ha => S'.alive a (List.mem_append_left _ (st.sub a (.tail _ ha)))) (fun a ha => ⟨S'.alive a (List.mem_append_left _ (S'.iown a ha).1), S'.fresh a (S'.iown a ha).1⟩)
        (rr.mono fun a o ha e => ⟨e, fun z => ha (by
          rcases List.mem_append.mp z with z | z
          · exact List.mem_append_left _ (S'.iown a z).1
          · exact List.mem_append_right _ z)⟩)
      rw [← S'.same.eq] at this
      exact this
    refine hx.go c _ _ _ _ _ ⟨h4, h7⟩ R.deeper S fun fl s' I' hJ hN q => ?_
    cases o with
    | next vv =>
      cases hd
      cases fl <;> first
        | (obtain ⟨own', st, S'⟩ := q; exact fin hJ st S' .none)
        | exact q.elim
    | ret d' =>
      cases hd
      cases fl <;> first
        | (obtain ⟨own', vals', st, S', rr⟩ := q; exact fin hJ st S' rr)
        | exact q.elim
    | brk _ => cases hd
    | cont _ => cases hd
end
end Og
namespace Og
open PySem PySem.Calls PySem.Spec PyProof.Rows

noncomputable abbrev OL := List (Addr × List Value)
structure ObjP (C x dx : Addr) (xs : List Str) (vs : List Value) (ls : OL) (h : Heap) : Prop where
  obj : ObjAt C x dx xs vs h
  nd : (x :: dx :: ls.map (·.1)).Nodup
  lst : ∀ p ∈ ls, ∃ m, h.get? p.1 = some { cls := .type "list", data := .seq p.2.toArray m }
noncomputable def objI (C x dx : Addr) (xs : List Str) (vs : List Value) (ls : OL) : Inv :=
  ⟨ObjP C x dx xs vs ls, x :: dx :: ls.map (·.1), fun h h' P hk => ⟨P.obj.keeps (fun o e => hk x (.head _) o e) (fun o e => hk dx (.tail _ (.head _)) o e), P.nd, fun p hp => let ⟨m, e⟩ := P.lst p hp; ⟨m, hk p.1 (.tail _ (.tail _ (List.mem_map.mpr ⟨p, hp, rfl⟩))) _ e⟩⟩⟩
noncomputable def updL (ls : OL) (a : Addr) (us : List Value) : OL := ls.map fun p => if p.1 = a then (a, us) else p
theorem updL_fst (ls : OL) (a : Addr) (us : List Value) : (updL ls a us).map (·.1) = ls.map (·.1) := by
  unfold updL
  rw [List.map_map]
  refine List.map_congr_left fun p _ => ?_
  simp only [Function.comp]
  split <;> simp_all
theorem updL_other {ls : OL} {a b : Addr} {us vs : List Value} (h : (b, vs) ∈ ls) (hb : b ≠ a) : (b, vs) ∈ updL ls a us := List.mem_map.mpr ⟨_, h, by rw [if_neg hb]⟩
theorem updL_self {ls : OL} {a : Addr} {us vs : List Value} (h : (a, vs) ∈ ls) : (a, us) ∈ updL ls a us := List.mem_map.mpr ⟨_, h, by rw [if_pos rfl]⟩

noncomputable def Imm (v : Value) (d : D) : Prop := ∀ av h, Rep av h v d
noncomputable def immD : D → Bool
  | .none | .bool _ | .int _ => true
  | _ => false
theorem Rep.imm {av : List Addr} {h : Heap} {v : Value} {d : D} (r : Rep av h v d) (hd : immD d = true) : Imm v d := by
  cases r <;> first
    | exact fun _ _ => .none
    | exact fun _ _ => .bool _
    | exact fun _ _ => .int _ _
    | cases hd
theorem Rep.handed {av : List Addr} {h : Heap} {v : Value} {d : D} (r : Rep av h v d) : W.handedIn v = true := by cases r <;> rfl
theorem Imm.handed {v : Value} {d : D} (r : Imm v d) : W.handedIn v = true := (r [] default).handed

section
variable {prog : Program} {w : World} {G : Gl} {I : Inv} {sc : Sc} {names : List Str} {n : Nat} {vals : List Loc} {K : W.Frag} {C fI fC fP fQ fR fS : Addr} {x dx : Addr} {xs : List Str} {vs : List Value} {ls : OL}

structure EvR (prog : Program) (w : World) (G : Gl) (I : Inv) (sc : Sc) (names : List Str) (n : Nat) (vals : List Loc) (e : Expr) (v : Value) : Prop where
  go : ∀ (c : Fc) (own : List Addr) (s : Shared) (A : Around) (Q : Value → Shared → Prop) (E : Value → Shared → Prop), EnvIs c.env sc → Room n A → St G names I c own vals s →
    (∀ s', St G names I c own vals s' → Ext own s.heap s'.heap → Q v s') → wpAny (model prog w) A (eval e c.env) Q E s
theorem EvR.ev {e : Expr} {v : Value} {d : D} (h : EvR prog w G I sc names n vals e v) (hd : Imm v d) : EvE prog w G I sc names n vals e d :=
  ⟨fun c own s A Q E hsc R S k => h.go c own s A Q E hsc R S fun s' S' x => k v s' S' x (hd _ _)⟩
theorem EvR.name {y : Str} {p : Pos} {v : Value} (i : Nat) (hx : names[i]? = some y) (hl : vals[i]? = some (.v v)) : EvR prog w G I sc names n vals (.Name y p) v := by
  constructor
  intro c own s A Q E hsc R S k
  obtain ⟨m, hn, hv⟩ := S.ns
  have hm := hv.get hx hl
  have hl := S.loc y (List.mem_of_getElem? hx)
  exact wpAny_Name (wpAny_loadName_local S.kind hl.1 hn hm (k s S .refl)) hl.2
theorem name_go {c : Fc} {own : List Addr} {s : Shared} {A : Around} {Q : Value → Shared → Prop} {E : Value → Shared → Prop} (S : St G names I c own vals s) {y : Str} {p : Pos} {v : Value} {i : Nat} (hx : names[i]? = some y) (hl : vals[i]? = some (.v v)) (k : Q v s) : wpAny (model prog w) A (eval (.Name y p) c.env) Q E s := by
  obtain ⟨m, hn, hv⟩ := S.ns
  have hm := hv.get hx hl
  have hl := S.loc y (List.mem_of_getElem? hx)
  exact wpAny_Name (wpAny_loadName_local S.kind hl.1 hn hm k) hl.2
theorem St.adopt {c : Fc} {own ow : List Addr} {s : Shared} (S : St G names I c own vals s) {h' : Heap} {t : Nat} {I' : Inv} (hx : Ext ow s.heap h') (how : ∀ a ∈ ow, a ∈ own ∧ a ≠ c.env.locals) (hlive : ∀ a ∈ ow, ∃ o, h'.get? a = some o) (hi : ∀ a ∈ I'.ad, a ∈ own ∧ a ≠ c.env.locals) (hinv : I'.P h')
    (ho : ∀ a es, Loc.own a es ∈ vals → a ∉ ow) : St G names I' c own vals { s with heap := h', toks := t } :=
  { kind := S.kind
    glob := S.glob
    blt := S.blt
    loc := S.loc
    nodup := S.nodup
    base := fun b o e => hx b o (fun q => by have := S.apart b (List.mem_append_left _ (how b q).1); rw [e] at this; cases this) (S.base b o e)
    ns := by
      obtain ⟨m, ⟨oL, es, ep, hL, r⟩, h2⟩ := S.ns
      refine ⟨m, ⟨oL, es, ep, hx _ _ (fun q => (how _ q).2 rfl) hL, r⟩, h2.mono (fun a o ha e => ⟨hx a o (fun q => ha (List.mem_append_left _ (how a q).1)) e, ha⟩) (fun _ h => h) fun l hm => ?_⟩
      cases l with
      | own a es => exact fun o e => hx a o (ho a es hm) e
      | _ => trivial
    lown := S.lown
    alive := fun a ha => by
      by_cases q : a ∈ ow
      · exact hlive a q
      · obtain ⟨o, e⟩ := S.alive a ha; exact ⟨o, hx a o q e⟩
    ext := fun b o hb e => by
      by_cases q : b ∈ ow
      · rcases S.fresh b (how b q).1 with z | z
        · exact absurd z hb
        · rw [z] at e; cases e
      · exact hx b o q (S.ext b o hb e)
    fresh := S.fresh
    apart := S.apart
    inv := hinv
    iown := hi
    same := S.same.trans ⟨rfl, rfl, rfl⟩ }
theorem inK (hK : K.In G.hb) {c : Fc} {own : List Addr} {s : Shared} (S : St G names I c own vals s) : K.In s.heap := fun a o e => S.base a o (hK a o e)

theorem EvR.fld (hK : K.In G.hb) (RK : RdK K C fI fC fP fQ fR fS) {y : Str} {p pos : Pos} {name : Str} {v : Value} (i j : Nat) (hx : names[i]? = some y) (hl : vals[i]? = some (.v (.ref x))) (hf : name ∈ FS) (hj : xs[j]? = some name) (hv : vs[j]? = some v) (hh : W.handedIn v = true)
    (he : ∀ env, eval (.Attribute (.Name y p) name pos) env = (do
      let o ← eval (.Name y p) env
      standAt pos.atName
      let r ← holding [o] (getAttr o name true)
      letTemporaryGo (.Name y p) o r
      pure r) := by intro _; with_unfolding_all rfl) : EvR prog w G (objI C x dx xs vs ls) sc names n vals (.Attribute (.Name y p) name pos) v := by
  constructor
  intro c own s A Q E hsc R S k
  refine Attribute_Name_ ((EvR.name i hx hl).go c own s A _ E hsc R S fun s₁ S₁ x₁ => ?_) (he _)
  exact get_field (inK hK S₁) RK S₁.inv.obj hf hj hv hh (k _ (S₁.keeps (fun _ _ e => e) ⟨rfl, rfl, rfl⟩) x₁)

theorem Ex1T.set (hK : K.In G.hb) (RK : RdK K C fI fC fP fQ fR fS) {y : Str} {p apos pos : Pos} {name : Str} {value : Expr} {d : D} (i : Nat) (hx : names[i]? = some y) (hl : vals[i]? = some (.v (.ref x))) (hf : name ∈ FS) (h : EvE prog w G (objI C x dx xs vs ls) sc names n vals value d) (hd : immD d = true)
    (hno : ∀ a es, Loc.own a es ∉ vals) {xs' : List Str} {put : Value → List Value} (hz : xs.length ≤ 100) (hxv : ∀ v, (∃ i, xs[i]? = some name ∧ xs' = xs ∧ put v = vs.set i v) ∨ (name ∉ xs ∧ xs' = xs ++ [name] ∧ put v = vs ++ [v]))
    (hs : ∀ env, swapsWith value (some (.Attribute (.Name y p) name apos)) pos.line env = pure false := by intro _; rfl) :
    Ex1T prog w G (objI C x dx xs vs ls) sc names n vals (.Assign [.Attribute (.Name y p) name apos] value pos) (fun I' => ∃ v, Imm v d ∧ I' = objI C x dx xs' (put v) ls) vals := by
  constructor
  intro c own s A Q E hsc R S k
  refine plainObj_wpAny_Assign_Attribute (h.go c own s A _ E hsc R S fun v s₁ S₁ x₁ r₁ => (EvR.name i hx hl).go c own s₁ A _ E hsc R S₁ fun s₂ S₂ x₂ => ?_) (hs _)
  have P := S₂.inv
  have hnd := P.nd
  have hne : x ≠ dx := fun q => by subst q; exact (List.nodup_cons.mp hnd).1 (.head _)
  refine set_field (inK hK S₂) RK P.obj hf hz hne (hxv v) fun h' tk O' hs' => ?_
  have hdx : dx ∉ ls.map (·.1) := (List.nodup_cons.mp (List.nodup_cons.mp hnd).2).1
  have hother : ∀ a, a ≠ dx → ∀ o, s₂.heap.get? a = some o → h'.get? a = some o := fun a ha o e => hs'.extBut a o ha e
  obtain ⟨es', n', hdx', -⟩ := O'.fld
  have hlst : ∀ p ∈ ls, ∃ m, h'.get? p.1 = some { cls := .type "list", data := .seq p.2.toArray m } := fun p hp => by
    obtain ⟨m, e⟩ := P.lst p hp
    exact ⟨m, hother _ (fun q => hdx (q ▸ List.mem_map.mpr ⟨p, hp, rfl⟩)) _ e⟩
  have hal : ∀ a ∈ x :: dx :: ls.map (·.1), ∃ o, h'.get? a = some o := fun a ha => by
    rcases List.mem_cons.mp ha with rfl | ha
    · exact ⟨_, O'.inst⟩
    rcases List.mem_cons.mp ha with rfl | ha
    · exact ⟨_, hdx'⟩
    obtain ⟨p, hp, rfl⟩ := List.mem_map.mp ha
    obtain ⟨m, e⟩ := hlst p hp
    exact ⟨_, e⟩
  obtain ⟨S', st⟩ := S₂.after (I' := objI C x dx xs' (put v) ls) (t := tk) (h' := h') (fun a o ha e => hother a (fun q => ha (q ▸ .tail _ (.head _))) o e) hal (fun a ha => ⟨hal a ha, .inl ha⟩) ⟨O', hnd, hlst⟩ (fun a es hm => absurd hm (hno a es))
  exact k _ _ _ ⟨v, r₁.imm hd, rfl⟩ (fun a ha => .inl ha) ((Step.ofExt (x₁.trans x₂)).trans st) S'

theorem Ex1T.setNil (hK : K.In G.hb) (RK : RdK K C fI fC fP fQ fR fS) {y : Str} {p apos lp pos : Pos} {name : Str} (i : Nat) (hx : names[i]? = some y) (hl : vals[i]? = some (.v (.ref x))) (hf : name ∈ FS)
    (hno : ∀ a es, Loc.own a es ∉ vals) {xs' : List Str} {put : Value → List Value} (hz : xs.length ≤ 100) (hxv : ∀ v, (∃ i, xs[i]? = some name ∧ xs' = xs ∧ put v = vs.set i v) ∨ (name ∉ xs ∧ xs' = xs ++ [name] ∧ put v = vs ++ [v]))
    (hs : ∀ env, swapsWith (.List [] lp) (some (.Attribute (.Name y p) name apos)) pos.line env = pure false := by intro _; rfl) :
    Ex1T prog w G (objI C x dx xs vs ls) sc names n vals (.Assign [.Attribute (.Name y p) name apos] (.List [] lp) pos) (fun I' => ∃ a, a ∉ x :: dx :: ls.map (·.1) ∧ I' = objI C x dx xs' (put (.ref a)) ((a, []) :: ls)) vals := by
  constructor
  intro c own s A Q E hsc R S k
  refine plainObj_wpAny_Assign_Attribute (wpAny_List (EvL.nil.go c own s A lp _ E hsc R S fun us s₁ S₁ x₁ r₁ => ⟨by rw [r₁.length]; exact Nat.zero_le _, ?_⟩)) (hs _)
  cases r₁
  have hn : s₁.heap.get? s₁.heap.objs.size = none := none_size
  have hkp : ∀ b o, s₁.heap.get? b = some o → (s₁.heap.push { cls := .type "list", data := .seq ([] : List Value).toArray }).get? b = some o := fun _ _ e => Heap.get?_push_of_some _ e
  have hnew : (s₁.heap.push { cls := .type "list", data := .seq ([] : List Value).toArray }).get? s₁.heap.objs.size = some { cls := .type "list", data := .seq ([] : List Value).toArray } := Heap.get?_push_size _ rfl
  generalize hH : s₁.heap.push { cls := .type "list", dict := Option.none, data := .seq ([] : List Value).toArray } = H1 at *
  generalize ha : s₁.heap.objs.size = a at *
  have hao : a ∉ own := fun q => by obtain ⟨o, e⟩ := S₁.alive a (List.mem_append_left _ q); rw [hn] at e; cases e
  have S₂ : St G names (objI C x dx xs vs ls) c ([a] ++ own) vals { s₁ with heap := H1 } := by
    refine S₁.widen hkp ⟨rfl, rfl, rfl⟩ (fun b hb => ?_) (fun b hb => ?_)
    · obtain rfl := List.mem_singleton.mp hb; exact hn
    · obtain rfl := List.mem_singleton.mp hb; exact ⟨_, hnew⟩
  refine name_go S₂ hx hl ?_
  have P := S₂.inv
  have hnd := P.nd
  have hne : x ≠ dx := fun q => by subst q; exact (List.nodup_cons.mp hnd).1 (.head _)
  have hai : a ∉ x :: dx :: ls.map (·.1) := fun q => hao (S₁.iown a q).1
  refine set_field (inK hK S₂) RK P.obj hf hz hne (hxv (.ref a)) fun h' tk O' hs' => ?_
  have hdx : dx ∉ ls.map (·.1) := (List.nodup_cons.mp (List.nodup_cons.mp hnd).2).1
  have hadx : a ≠ dx := fun q => hai (q ▸ .tail _ (.head _))
  have hother : ∀ b, b ≠ dx → ∀ o, H1.get? b = some o → h'.get? b = some o := fun b hb o e => hs'.extBut b o hb e
  obtain ⟨es', n', hdx', -⟩ := O'.fld
  have hlst : ∀ p ∈ (a, []) :: ls, ∃ m, h'.get? p.1 = some { cls := .type "list", data := .seq p.2.toArray m } := fun p hp => by
    rcases List.mem_cons.mp hp with rfl | hp
    · exact ⟨_, hother a hadx _ hnew⟩
    obtain ⟨m, e⟩ := P.lst p hp
    exact ⟨m, hother _ (fun q => hdx (q ▸ List.mem_map.mpr ⟨p, hp, rfl⟩)) _ e⟩
  have hnd' : (x :: dx :: ((a, []) :: ls : OL).map (·.1)).Nodup := by
    simp only [List.map_cons, List.nodup_cons, List.mem_cons] at hnd hai ⊢
    simp only [not_or] at hnd hai ⊢
    exact ⟨⟨hnd.1.1, fun q => hai.1 q.symm, hnd.1.2⟩, ⟨fun q => hai.2.1 q.symm, hnd.2.1⟩, hai.2.2, hnd.2.2⟩
  have hal : a ≠ c.env.locals := fun q => hao (q ▸ S₁.lown)
  have hi' : ∀ b ∈ x :: dx :: ((a, []) :: ls : OL).map (·.1), (b = a ∨ b ∈ (objI C x dx xs vs ls).ad) := fun b hb => by
    show b = a ∨ b ∈ x :: dx :: ls.map (·.1)
    simp only [List.mem_cons, List.map_cons] at hb ⊢
    rcases hb with q | q | q | q
    · exact .inr (.inl q)
    · exact .inr (.inr (.inl q))
    · exact .inl q
    · exact .inr (.inr (.inr q))
  have S' := S₂.adopt (ow := [dx]) (t := tk) (h' := h') (I' := objI C x dx xs' (put (.ref a)) ((a, []) :: ls)) (fun b o hb e => hother b (by simpa using hb) o e)
    (fun b hb => by obtain rfl := List.mem_singleton.mp hb; exact S₂.iown _ (.tail _ (.head _))) (fun b hb => by obtain rfl := List.mem_singleton.mp hb; exact ⟨_, hdx'⟩)
    (fun b hb => by
      rcases hi' b hb with rfl | q
      · exact ⟨List.mem_append_left _ (.head _), hal⟩
      · exact S₂.iown b q) ⟨O', hnd', hlst⟩ (fun a es hm => absurd hm (hno a es))
  have hs0 : s.heap.get? a = none := by
    cases e : s.heap.get? a with
    | none => rfl
    | some o => have := x₁ a o hao e; rw [hn] at this; cases this
  refine k _ _ _ ⟨a, hai, rfl⟩ (fun b hb => ?_) ⟨fun b o hb e => ?_, fun b hb => List.mem_append_right _ hb, fun b hb => ?_⟩ S'
  · rcases hi' b hb with rfl | q
    · exact .inr hs0
    · exact .inl q
  · exact hother b (fun q => hb (q ▸ (S₁.iown dx (.tail _ (.head _))).1)) o (hkp _ _ (x₁ b o hb e))
  · rcases List.mem_append.mp hb with q | q
    · obtain rfl := List.mem_singleton.mp q; exact .inr hs0
    · exact .inl q

theorem Rep.noRef {av : List Addr} {h : Heap} {v : Value} {d : D} (r : Rep av h v d) (hd : immD d = true) : ∀ a, v ≠ .ref a := by
  cases r <;> first
    | (intro a e; cases e; done)
    | (cases hd; done)

theorem Ex1T.appendF {name : Str} {o e : Expr} {apos cpos pos : Pos} {a : Addr} {us : List Value} {v : Value} (ho : EvR prog w G (objI C x dx xs vs ls) sc names n vals o (.ref a)) (he : EvR prog w G (objI C x dx xs vs ls) sc names n vals e v) (ha : (a, us) ∈ ls)
    (hno : ∀ a es, Loc.own a es ∉ vals) (hz : us.length ≤ sizeLine)
    (hbase : ∀ env, attributeBase o "append" env (eval o env) = eval o env := by intro _; rfl)
    (hfew : ∀ env, ((backTo cpos (starEach [e] env)).all (fun x => !x.1) && (backToKw cpos (keywordEach [] env)).all (fun x => x.1.isSome)
      && decide (([e] : List Expr).length + ([] : List Keyword).length + (if ([] : List Keyword).isEmpty then 0 else 1) < 30)) = true := by intro _; rw [star_one rfl]; rfl)
    (hline : (apos.endLine == cpos.line) = true := by rfl) (htrees : ∀ env, backTo cpos (starEach [e] env) = [(false, eval e env)] := by exact fun _ => star_one rfl)
    (hsw : ∀ env, swapsWith (.Call (.Attribute o "append" apos) [e] [] cpos) none pos.line env = pure false := by intro _; rfl) :
    Ex1T prog w G (objI C x dx xs vs ls) sc names n vals (.Expr (.Call (.Attribute o "append" apos) [e] [] cpos) pos) (fun I' => I' = objI C x dx xs vs (updL ls a (us ++ [v]))) vals := by
  constructor
  intro c own s A Q E hsc R S k
  have hint : interactive c.env = false := by unfold interactive; rw [S.kind]; rfl
  refine wpAny_Expr (wpAny_Call_append (hbase _) (hfew _) hline (htrees _) (ho.go c own s A _ E hsc R S fun s₁ S₁ x₁ => ?_)) hint (hsw _)
  obtain ⟨mm, hob⟩ := S₁.inv.lst _ ha
  refine ⟨a, us.toArray, rfl, ⟨_, mm, hob, rfl, rfl, rfl⟩, he.go c own s₁ A _ E hsc R S₁ fun s₂ S₂ x₂ => ?_⟩
  have P := S₂.inv
  obtain ⟨m2, hob2⟩ := P.lst _ ha
  refine list_append_obj hob2 (fun h' m' ho' hs' => ?_) hz
  have hnd := P.nd
  have ham : a ∈ ls.map (·.1) := List.mem_map.mpr ⟨_, ha, rfl⟩
  have hax : a ≠ x := fun q => by subst q; exact (List.nodup_cons.mp hnd).1 (.tail _ ham)
  have hadx : a ≠ dx := fun q => by subst q; exact (List.nodup_cons.mp (List.nodup_cons.mp hnd).2).1 ham
  have hother : ∀ b, b ≠ a → ∀ o, s₂.heap.get? b = some o → h'.get? b = some o := fun b hb o e => hs'.extBut b o hb e
  have hfst := updL_fst ls a (us ++ [v])
  have P' : ObjP C x dx xs vs (updL ls a (us ++ [v])) h' := by
    refine ⟨P.obj.keeps (hother x (Ne.symm hax)) (hother dx (Ne.symm hadx)), by rw [hfst]; exact hnd, fun p hp => ?_⟩
    obtain ⟨q, hq, e⟩ := List.mem_map.mp hp
    by_cases z : q.1 = a
    · rw [if_pos z] at e
      subst e
      exact ⟨m', ho'⟩
    · rw [if_neg z] at e
      subst e
      obtain ⟨m, e⟩ := P.lst q hq
      exact ⟨m, hother _ z _ e⟩
  have had : (objI C x dx xs vs (updL ls a (us ++ [v]))).ad = (objI C x dx xs vs ls).ad := by show x :: dx :: _ = x :: dx :: _; rw [hfst]
  have S' := S₂.adopt (ow := [a]) (t := s₂.toks) (h' := h') (I' := objI C x dx xs vs (updL ls a (us ++ [v]))) (fun b o hb e => hother b (by simpa using hb) o e)
    (fun b hb => by obtain rfl := List.mem_singleton.mp hb; exact S₂.iown _ (.tail _ (.tail _ ham))) (fun b hb => by obtain rfl := List.mem_singleton.mp hb; exact ⟨_, ho'⟩)
    (fun b hb => S₂.iown b (had ▸ hb)) P' (fun a es hm => absurd hm (hno a es))
  refine k _ _ own rfl (fun b hb => .inl (had ▸ hb)) ⟨fun b o hb e => ?_, fun _ h => h, fun _ h => .inl h⟩ S'
  exact hother b (fun q => hb (q ▸ (S₂.iown a (.tail _ (.tail _ ham))).1)) o ((x₁.trans x₂) b o hb e)

theorem EvE.lenR (hb : BAt G "len" (.builtin "len")) {p pos : Pos} {e : Expr} {a : Addr} {us : List Value} (he : EvR prog w G (objI C x dx xs vs ls) sc names n vals e (.ref a)) (ha : (a, us) ∈ ls) (hz : us.length ≤ sizeLine)
    (hx : sc.scope.names.lookup ("len" : Str) = some .globalImplicit := by rfl) (hst : ∀ env, starEach [e] env = (false, eval e env) :: starEach [] env := by exact fun _ => star_plain rfl) :
    EvE prog w G (objI C x dx xs vs ls) sc names n vals (.Call (.Name "len" p) [e] [] pos) (.int us.length) := by
  constructor
  intro c own s A Q E hsc R S k
  refine Call_ (EvE.bName hsc S hb ?_ hx (by decide))
  refine callWith_builtin1 (args_cons (he.go c own s A _ E hsc R S fun s₁ S₁ x₁ => args_nil ?_) (hst _)) (hst _) rfl
  obtain ⟨m, ho⟩ := S₁.inv.lst _ ha
  have hsl : sizeLine = 16777216 := rfl
  refine PyProof.Rows.len_list (items := us.toArray) ⟨_, ho, rfl, m, rfl⟩ (by simp only [List.size_toArray]; omega) ?_
  have := k (.int us.length (s₁.toks + 1)) { s₁ with heap := s₁.heap, toks := s₁.toks + 1 + 1 } (S₁.keeps (fun _ _ e => e) ⟨rfl, rfl, rfl⟩) x₁ (.int _ _)
  simp only [List.size_toArray]; exact this

theorem argsAt_own {c : Fc} {own : List Addr} {I : Inv} {s : Shared} (S : St G names I c own vals s) {vs : List Value} {ls : List Loc} (a : ArgsAt (own ++ c.fz) s.heap vs ls) : ArgsAt (I.ad ++ (own ++ c.fz)) s.heap vs ls :=
  a.mono fun b o hb e => ⟨e, fun q => hb (by
    rcases List.mem_append.mp q with q | q
    · exact List.mem_append_left _ (S.iown b q).1
    · exact q)⟩
theorem MSpec.use {f : Addr} {m : Nat} {ls : List Loc} {J : Inv → Prop} {d : D} (hS : MSpec prog w G m f I ls J d) (hm : m ≤ n) {c : Fc} {own : List Addr} {s : Shared} {A : Around} {vs : List Value} {Q : Value → Shared → Prop} {E : Value → Shared → Prop} (R : Room n A)
    (S : St G names I c own vals s) (ha : ArgsAt (own ++ c.fz) s.heap vs ls) (hov : ∀ a es, Loc.own a es ∈ vals → a ∉ I.ad)
    (k : ∀ v s' I' own', J I' → NewAd I I' s.heap → Step own s.heap own' s'.heap → St G names I' c own' vals s' → Rep (own' ++ c.fz) s'.heap v d → Q v s') : wpAny (model prog w) A (call (.ref f) vs) Q E s := by
  refine wpAny_call (hS (own ++ c.fz) s A vs _ (R.le hm) S.base (fun b hb => ?_) (fun b hb => ?_) S.inv (argsAt_own S ha) fun v h' tk I' hJ hP hx hal hn r => ?_)
  · rcases List.mem_append.mp hb with q | q
    · exact S.alive b (List.mem_append_left _ (S.iown b q).1)
    · exact S.alive b q
  · rcases List.mem_append.mp hb with q | q
    · exact S.apart b (List.mem_append_left _ (S.iown b q).1)
    · exact S.apart b q
  · obtain ⟨S', st⟩ := S.after (t := tk) hx hal hn hP hov
    exact k v _ I' _ hJ (fun b hb => (hn b hb).2) st S' (by rw [List.append_assoc]; exact r)

theorem Ex1T.call0 (hK : K.In G.hb) (RK : RdK K C fI fC fP fQ fR fS) {y m : Str} {p apos cpos pos : Pos} {f : Addr} {k : Nat} {J : Inv → Prop} {d : D} (i : Nat) (hx : names[i]? = some y) (hl : vals[i]? = some (.v (.ref x)))
    (hm : (m, f) ∈ ([("__init__", fI), ("clear", fC), ("put", fP), ("close_part", fQ), ("close_parameter", fR), ("params", fS)] : List (Str × Addr))) (hmx : m ∉ xs) (hS : MSpec prog w G k f (objI C x dx xs vs ls) [.v (.ref x)] J d) (hd : immD d = true) (hk : k ≤ n) (hno : ∀ a es, Loc.own a es ∉ vals)
    (pl : Env → Sem Bool)
    (he : ∀ env, eval (.Call (.Attribute (.Name y p) m apos) [] [] cpos) env = (do
      let ov ← eval (.Name y p) env
      standAt apos.atName
      let (f, first) ← holding [ov] (getMethod ov m (pl env))
      callWith cpos f first (backTo cpos (starEach [] env)) (backToKw cpos (keywordEach [] env))))
    (hsw : ∀ env, swapsWith (.Call (.Attribute (.Name y p) m apos) [] [] cpos) none pos.line env = pure false := by intro _; rfl) :
    Ex1T prog w G (objI C x dx xs vs ls) sc names n vals (.Expr (.Call (.Attribute (.Name y p) m apos) [] [] cpos) pos) J vals := by
  constructor
  intro c own s A Q E hsc R S kk
  have hint : interactive c.env = false := by unfold interactive; rw [S.kind]; rfl
  refine wpAny_Expr (W.methodCall_KW (name_go S hx hl (get_meth (inK hK S) RK S.inv.obj hm hmx ?_)) (he _)) hint (hsw _)
  refine W.callWith_K0 (inK hK S) (RK.meth _ hm).2.2 ?_
  refine hS.use hk R S (.v .nil) (fun a es q => absurd q (hno a es)) fun v s' I' own' hJ hN st S' r => ?_
  have hr := r.noRef hd
  have kk := kk s' I' own' hJ hN st S'
  clear r
  cases v <;> first
    | exact kk
    | exact absurd rfl (hr _)
theorem Ex1T.call1 (hK : K.In G.hb) (RK : RdK K C fI fC fP fQ fR fS) {y m : Str} {p apos cpos pos : Pos} {e : Expr} {f : Addr} {k : Nat} {J : Inv → Prop} {d d₁ : D} (i : Nat) (hx : names[i]? = some y) (hl : vals[i]? = some (.v (.ref x)))
    (hm : (m, f) ∈ ([("__init__", fI), ("clear", fC), ("put", fP), ("close_part", fQ), ("close_parameter", fR), ("params", fS)] : List (Str × Addr))) (hmx : m ∉ xs) (hE : EvE prog w G (objI C x dx xs vs ls) sc names n vals e d₁) (hS : MSpec prog w G k f (objI C x dx xs vs ls) [.v (.ref x), .d d₁] J d) (hd : immD d = true) (hk : k ≤ n) (hno : ∀ a es, Loc.own a es ∉ vals)
    {pl : Env → Sem Bool}
    (he : ∀ env, eval (.Call (.Attribute (.Name y p) m apos) [e] [] cpos) env = (do
      let ov ← eval (.Name y p) env
      standAt apos.atName
      let (f, first) ← holding [ov] (getMethod ov m (pl env))
      callWith cpos f first (backTo cpos (starEach [e] env)) (backToKw cpos (keywordEach [] env))) := by intro _; rfl)
    (hst : ∀ env, starEach [e] env = (false, eval e env) :: starEach [] env := by exact fun _ => star_plain rfl)
    (hsw : ∀ env, swapsWith (.Call (.Attribute (.Name y p) m apos) [e] [] cpos) none pos.line env = pure false := by intro _; rfl) :
    Ex1T prog w G (objI C x dx xs vs ls) sc names n vals (.Expr (.Call (.Attribute (.Name y p) m apos) [e] [] cpos) pos) J vals := by
  constructor
  intro c own s A Q E hsc R S kk
  have hint : interactive c.env = false := by unfold interactive; rw [S.kind]; rfl
  refine wpAny_Expr (W.methodCall_KW (name_go S hx hl (get_meth (inK hK S) RK S.inv.obj hm hmx ?_)) (he _)) hint (hsw _)
  refine W.callWith_K (inK hK S) (RK.meth _ hm).2.2 ?_ (hst _) rfl
  refine args_cons (hE.go c own s A _ E hsc R S fun v₁ s₁ S₁ x₁ r₁ => args_nil ⟨inK hK S₁, ?_⟩) (hst _)
  refine hS.use hk R S₁ (.v (.d r₁ .nil)) (fun a es q => absurd q (hno a es)) fun v s' I' own' hJ hN st S' r => ?_
  have hr := r.noRef hd
  have kk := kk s' I' own' hJ (NewAd.step S (Step.ofExt x₁) S₁ hN) ((Step.ofExt x₁).trans st) S'
  clear r
  cases v <;> first
    | exact kk
    | exact absurd rfl (hr _)
end
end Og
namespace Og
open PySem PySem.Calls PySem.Spec PyProof.Rows

noncomputable def clsOf : Stmt → List Stmt
  | .ClassDef _ _ _ b _ _ _ _ _ _ _ => b
  | _ => []
noncomputable def meth (k : Nat) : Stmt := ((clsOf (stOf 32))[k]?).getD (.Pass ⟨0,0,0,0⟩)

structure Rd where
  found : List Row
  parts : Row
  value : Option Int
  begun : Bool
noncomputable def ImmAll (us : List Value) (r : Row) : Prop := ∀ av h, RepAll av h us (r.map optD)
theorem ImmAll.nil : ImmAll [] [] := fun _ _ => .nil
theorem ImmAll.snoc {us : List Value} {r : Row} {v : Value} {o : Option Int} (h : ImmAll us r) (hv : Imm v (optD o)) : ImmAll (us ++ [v]) (r ++ [o]) := fun av hh => by
  rw [List.map_append]
  exact (h av hh).append (.cons (hv av hh) .nil)
theorem ImmAll.length {us : List Value} {r : Row} (h : ImmAll us r) : us.length = r.length := by
  have := (h [] default).length
  rw [List.length_map] at this
  exact this
inductive RowsAt (ls : OL) : List Addr → List Row → Prop
  | nil : RowsAt ls [] []
  | cons {a : Addr} {us : List Value} {r : Row} {ras : List Addr} {rs : List Row} : (a, us) ∈ ls → ImmAll us r → RowsAt ls ras rs → RowsAt ls (a :: ras) (r :: rs)
theorem RowsAt.length {ls : OL} {ras : List Addr} {rs : List Row} (h : RowsAt ls ras rs) : ras.length = rs.length := by
  induction h <;> simp [*]
theorem RowsAt.mono {ls ls' : OL} {ras : List Addr} {rs : List Row} (h : RowsAt ls ras rs) (hk : ∀ a ∈ ras, ∀ us, (a, us) ∈ ls → (a, us) ∈ ls') : RowsAt ls' ras rs := by
  induction h with
  | nil => exact .nil
  | cons a b _ ih => exact .cons (hk _ (.head _) _ a) b (ih fun a ha us hu => hk a (.tail _ ha) us hu)
theorem RowsAt.snoc {ls : OL} {ras : List Addr} {rs : List Row} {a : Addr} {us : List Value} {r : Row} (h : RowsAt ls ras rs) (ha : (a, us) ∈ ls) (hr : ImmAll us r) : RowsAt ls (ras ++ [a]) (rs ++ [r]) := by
  induction h with
  | nil => exact .cons ha hr .nil
  | cons a b _ ih => exact .cons a b ih

theorem RowsAt.notin {ls : OL} {ras : List Addr} {rs : List Row} (h : RowsAt ls ras rs) {na : Addr} (hn : ∀ us, (na, us) ∉ ls) : na ∉ ras := by
  induction h with
  | nil => simp
  | cons a b _ ih =>
    intro q
    rcases List.mem_cons.mp q with q | q
    · exact hn _ (q ▸ a)
    · exact ih q

structure RdI' (C x : Addr) (r : Rd) (I : Inv) (dx fa pa : Addr) (ras : List Addr) (vm vl vv : Value) (us : List Value) (ls : OL) : Prop where
  eq : I = objI C x dx FS [vm, vl, .ref fa, .ref pa, vv, .bool r.begun] ls
  hm : Imm vm (.int 32)
  hl : Imm vl (.int 65535)
  hv : Imm vv (optD r.value)
  lf : (fa, ras.map Value.ref) ∈ ls
  lp : (pa, us) ∈ ls
  hus : ImmAll us r.parts
  ne : fa ≠ pa
  nf : fa ∉ ras
  np : pa ∉ ras
  rows : RowsAt ls ras r.found
noncomputable def RdI (C x : Addr) (r : Rd) (I : Inv) : Prop := ∃ dx fa pa ras vm vl vv us ls, RdI' C x r I dx fa pa ras vm vl vv us ls

structure RdTop (G : Gl) (K : W.Frag) (C fI fC fP fQ fR fS : Addr) : Prop where
  hK : K.In G.hb
  RK : RdK K C fI fC fP fQ fR fS
  mI : MAt G fI (bodyOf (meth 0)) (scopeOf (meth 0)) ["self", "most", "limit"]
  mC : MAt G fC (bodyOf (meth 1)) (scopeOf (meth 1)) ["self"]
  mP : MAt G fP (bodyOf (meth 2)) (scopeOf (meth 2)) ["self", "octet"]
  mQ : MAt G fQ (bodyOf (meth 3)) (scopeOf (meth 3)) ["self"]
  mR : MAt G fR (bodyOf (meth 4)) (scopeOf (meth 4)) ["self"]
  mS : MAt G fS (bodyOf (meth 5)) (scopeOf (meth 5)) ["self"]

section
variable {w : World} {G : Gl} {I : Inv} {sc : Sc} {names : List Str} {n : Nat} {vals : List Loc} {K : W.Frag} {C fI fC fP fQ fR fS : Addr} {x dx : Addr}

theorem no1 {v : Value} : ∀ a es, Loc.own a es ∉ [Loc.v v] := by intro a es h; simp at h
theorem Imm.int (i : Int) (t : Tok) : Imm (.int i t) (.int i) := fun _ _ => .int _ _
theorem Imm.none : Imm .none .none := fun _ _ => .none
theorem Imm.isBool {v : Value} {b : Bool} (h : Imm v (.bool b)) : v = .bool b := by cases h [] default; rfl
theorem Imm.isNone {v : Value} (h : Imm v .none) : v = .none := by cases h [] default; rfl

theorem setOld {xs : List Str} {vs : List Value} {name : Str} (i : Nat) (hx : xs[i]? = some name) (v : Value) : (∃ j, xs[j]? = some name ∧ xs = xs ∧ vs.set i v = vs.set j v) ∨ (name ∉ xs ∧ xs = xs ++ [name] ∧ vs.set i v = vs ++ [v]) := .inl ⟨i, hx, rfl, rfl⟩
theorem setNew {xs : List Str} {vs : List Value} {name : Str} (hx : name ∉ xs) (v : Value) : (∃ i, xs[i]? = some name ∧ xs ++ [name] = xs ∧ vs ++ [v] = vs.set i v) ∨ (name ∉ xs ∧ xs ++ [name] = xs ++ [name] ∧ vs ++ [v] = vs ++ [v]) := .inr ⟨hx, rfl, rfl⟩

theorem clear_spec (T : Top G) (RT : RdTop G K C fI fC fP fQ fR fS) {vm vl : Value} (hm : Imm vm (.int 32)) (hl : Imm vl (.int 65535)) : MSpec PP w G 2 fC (objI C x dx ["most", "limit"] [vm, vl] []) [.v (.ref x)] (RdI C x ⟨[], [], none, false⟩) .none := by
  refine MSpec.intro (rest := []) RT.mC rfl no1 (by decide +kernel) ?_ (o := .next [.v (.ref x)]) rfl
  refine ExT.cons (Ex1T.setNil RT.hK RT.RK 0 rfl rfl (by decide) no1 (by decide) (setNew (by decide))) ?_
  rintro _ ⟨fa, hfa, rfl⟩
  refine ExT.cons (Ex1T.setNil RT.hK RT.RK 0 rfl rfl (by decide) no1 (by decide) (setNew (by decide))) ?_
  rintro _ ⟨pa, hpa, rfl⟩
  refine ExT.cons (Ex1T.set RT.hK RT.RK 0 rfl rfl (by decide) EvE.cNone rfl no1 (by decide) (setNew (by decide))) ?_
  rintro _ ⟨vn, hvn, rfl⟩
  refine ExT.cons (Ex1T.set RT.hK RT.RK 0 rfl rfl (by decide) EvE.cBool rfl no1 (by decide) (setNew (by decide))) ?_
  rintro _ ⟨vb, hvb, rfl⟩
  refine ExT.nil ?_
  obtain rfl := hvb.isBool
  obtain rfl := hvn.isNone
  simp only [List.mem_cons, List.map_cons, List.map_nil, not_or] at hpa hfa
  exact ⟨dx, fa, pa, [], vm, vl, _, [], _, rfl, hm, hl, .none, .tail _ (.head _), .head _, .nil, fun q => hpa.2.2.1 q.symm, by simp, by simp, .nil⟩

theorem close_part_spec (T : Top G) (RT : RdTop G K C fI fC fP fQ fR fS) {r : Rd} (hI : RdI C x r I) (hp : r.parts.length < 32) : MSpec PP w G 2 fQ I [.v (.ref x)] (RdI C x ⟨r.found, r.parts ++ [r.value], none, r.begun⟩) .none := by
  obtain ⟨dx, fa, pa, ras, vm, vl, vv, us, ls, H⟩ := hI
  obtain rfl := H.eq
  have hul := H.hus.length
  have hsl : sizeLine = 16777216 := rfl
  refine MSpec.intro (rest := []) RT.mQ rfl no1 (by decide +kernel) ?_ (o := .next [.v (.ref x)]) rfl
  refine ExT.cons (Ex1T.ifT (J := fun I' => I' = objI C x dx FS [vm, vl, .ref fa, .ref pa, vv, .bool r.begun] (updL ls pa (us ++ [vv]))) (EvB.lt (EvE.lenR (T.blt ("len", _) (by simp)) (EvR.fld RT.hK RT.RK 0 3 rfl rfl (by decide) rfl rfl rfl) H.lp (by omega)) ((EvR.fld RT.hK RT.RK 0 0 rfl rfl (by decide) rfl rfl H.hm.handed).ev H.hm) (by rw [hul]; exact decide_eq_true (by omega)))
    (ExT.cons (Ex1T.appendF (name := "append") (EvR.fld RT.hK RT.RK 0 3 rfl rfl (by decide) rfl rfl rfl) (EvR.fld RT.hK RT.RK 0 4 rfl rfl (by decide) rfl rfl H.hv.handed) H.lp no1 (by omega)) fun I' hI' => ExT.nil hI')) ?_
  rintro _ rfl
  refine ExT.cons (Ex1T.set RT.hK RT.RK 0 rfl rfl (by decide) EvE.cNone rfl no1 (by decide) (setOld 4 rfl)) ?_
  rintro _ ⟨vn, hvn, rfl⟩
  exact ExT.nil ⟨dx, fa, pa, ras, vm, vl, vn, us ++ [vv], _, rfl, H.hm, H.hl, hvn, updL_other H.lf H.ne, updL_self H.lp, H.hus.snoc H.hv, H.ne, H.nf, H.np, H.rows.mono fun a ha us' hu => updL_other hu fun q => H.np (q ▸ ha)⟩

theorem close_parameter_spec (T : Top G) (RT : RdTop G K C fI fC fP fQ fR fS) {r : Rd} (hI : RdI C x r I) (hp : r.found.length < 32) : MSpec PP w G 2 fR I [.v (.ref x)] (RdI C x ⟨r.found ++ [r.parts], [], r.value, r.begun⟩) .none := by
  obtain ⟨dx, fa, pa, ras, vm, vl, vv, us, ls, H⟩ := hI
  obtain rfl := H.eq
  have hul := H.rows.length
  have hsl : sizeLine = 16777216 := rfl
  refine MSpec.intro (rest := []) RT.mR rfl no1 (by decide +kernel) ?_ (o := .next [.v (.ref x)]) rfl
  refine ExT.cons (Ex1T.ifT (J := fun I' => I' = objI C x dx FS [vm, vl, .ref fa, .ref pa, vv, .bool r.begun] (updL ls fa (ras.map Value.ref ++ [.ref pa]))) (EvB.lt (EvE.lenR (T.blt ("len", _) (by simp)) (EvR.fld RT.hK RT.RK 0 2 rfl rfl (by decide) rfl rfl rfl) H.lf (by rw [List.length_map]; omega)) ((EvR.fld RT.hK RT.RK 0 0 rfl rfl (by decide) rfl rfl H.hm.handed).ev H.hm) (by rw [List.length_map, hul]; exact decide_eq_true (by omega)))
    (ExT.cons (Ex1T.appendF (name := "append") (EvR.fld RT.hK RT.RK 0 2 rfl rfl (by decide) rfl rfl rfl) (EvR.fld RT.hK RT.RK 0 3 rfl rfl (by decide) rfl rfl rfl) H.lf no1 (by rw [List.length_map]; omega)) fun I' hI' => ExT.nil hI')) ?_
  rintro _ rfl
  refine ExT.cons (Ex1T.setNil RT.hK RT.RK 0 rfl rfl (by decide) no1 (by decide) (setOld 3 rfl)) ?_
  rintro _ ⟨na, hna, rfl⟩
  rw [updL_fst] at hna
  simp only [List.mem_cons, not_or] at hna
  have hin : ∀ {a : Addr} {us : List Value}, (a, us) ∈ ls → a ≠ na := fun h q => hna.2.2 (q ▸ List.mem_map.mpr ⟨_, h, rfl⟩)
  have hras := H.rows.notin fun us q => hin q rfl
  refine ExT.nil ⟨dx, fa, na, ras ++ [pa], vm, vl, vv, [], _, rfl, H.hm, H.hl, H.hv, .tail _ (by rw [List.map_append]; exact updL_self H.lf), .head _, .nil, hin H.lf, ?_, ?_, ?_⟩
  · intro q
    rcases List.mem_append.mp q with q | q
    · exact H.nf q
    · exact H.ne (List.mem_singleton.mp q)
  · intro q
    rcases List.mem_append.mp q with q | q
    · exact hras q
    · exact hin H.lp (List.mem_singleton.mp q).symm
  · refine RowsAt.snoc (H.rows.mono fun a ha us' hu => .tail _ (updL_other hu fun q => H.nf (q ▸ ha))) (.tail _ (updL_other H.lp (Ne.symm H.ne))) H.hus
noncomputable def putP (r : Rd) (o : Int) : Rd :=
  if 48 ≤ o ∧ o ≤ 57 then ⟨r.found, r.parts, some (min 65535 (num0 r.value * 10 + o - 48)), true⟩
  else if o = 58 then ⟨r.found, r.parts ++ [r.value], none, true⟩
  else ⟨r.found ++ [r.parts ++ [r.value]], [], none, true⟩

set_option tactic.hygienic true in
theorem min2 (a b : Int) : CallOk PP w (.builtin "min") [.int a, .int b] (.int (min a b)) := by
  intro av s A vs Q E hA _ hv _ r k
  cases r with | cons r₁ rn =>
  cases rn with | cons r₂ rn =>
  cases rn; cases r₁; cases r₂
  rename_i t u
  refine min_two_ints hA fun h' tk hk => ?_
  by_cases h : b < a
  · rw [if_pos h]
    exact k _ h' tk hk (by rw [show min a b = b by omega]; exact .int _ _)
  · rw [if_neg h]
    exact k _ h' tk hk (by rw [show min a b = a by omega]; exact .int _ _)

theorem no2 {v : Value} {d : D} : ∀ a es, Loc.own a es ∉ [Loc.v v, .d d, .un] := by intro a es h; simp at h
theorem no3 {v : Value} {d d' : D} : ∀ a es, Loc.own a es ∉ [Loc.v v, .d d, .d d'] := by intro a es h; simp at h

theorem none_is' (d : Option Int) : CmpOk PP w .Is (optD d) .none d.isNone := by
  cases d with
  | none => exact cmp_isNone
  | some i => exact cmp_isInt i
theorem begun_set (RT : RdTop G K C fI fC fP fQ fR fS) {r : Rd} (hI : RdI C x r I) {p p' apos pos : Pos} (i : Nat) {y : Str} (hx : names[i]? = some y) (hl : vals[i]? = some (.v (.ref x))) (hno : ∀ a es, Loc.own a es ∉ vals) {k : Nat}
    (hs : ∀ env, swapsWith (.Constant (.bool true) k p) (some (.Attribute (.Name y p') "is_begun" apos)) pos.line env = pure false := by intro _; rfl) :
    Ex1T PP w G I sc names n vals (.Assign [.Attribute (.Name y p') "is_begun" apos] (.Constant (.bool true) k p) pos) (RdI C x ⟨r.found, r.parts, r.value, true⟩) vals := by
  obtain ⟨dx, fa, pa, ras, vm, vl, vv, us, ls, H⟩ := hI
  obtain rfl := H.eq
  have h := Ex1T.set (prog := PP) (w := w) (sc := sc) (n := n) (pos := pos) (apos := apos) (p := p') RT.hK RT.RK i hx hl (name := "is_begun") (dx := dx) (xs := FS) (by decide) (EvE.cBool (b := true) (k := k) (p := p)) rfl hno (by decide) (setOld (vs := [vm, vl, Value.ref fa, Value.ref pa, vv, Value.bool r.begun]) 5 rfl) hs (ls := ls)
  refine ⟨fun c own s A Q E hsc R S kk => h.go c own s A Q E hsc R S fun s' I' own' hJ hN st S' => kk s' I' own' ?_ hN st S'⟩
  obtain ⟨vb, hvb, rfl⟩ := hJ
  obtain rfl := hvb.isBool
  exact ⟨dx, fa, pa, ras, vm, vl, vv, us, ls, rfl, H.hm, H.hl, H.hv, H.lf, H.lp, H.hus, H.ne, H.nf, H.np, H.rows⟩

theorem close_call (T : Top G) (RT : RdTop G K C fI fC fP fQ fR fS) {r : Rd} (hI : RdI C x r I) (hp : r.parts.length < 32) {p apos cpos pos : Pos} (i : Nat) {y : Str} (hx : names[i]? = some y) (hl : vals[i]? = some (.v (.ref x))) (hno : ∀ a es, Loc.own a es ∉ vals) (hn : 2 ≤ n := by omega)
    {pl : Env → Sem Bool} (he : ∀ env, eval (.Call (.Attribute (.Name y p) "close_part" apos) [] [] cpos) env = (do
      let ov ← eval (.Name y p) env
      standAt apos.atName
      let (f, first) ← holding [ov] (getMethod ov "close_part" (pl env))
      callWith cpos f first (backTo cpos (starEach [] env)) (backToKw cpos (keywordEach [] env))) := by intro _; rfl)
    (hsw : ∀ env, swapsWith (.Call (.Attribute (.Name y p) "close_part" apos) [] [] cpos) none pos.line env = pure false := by intro _; rfl) :
    Ex1T PP w G I sc names n vals (.Expr (.Call (.Attribute (.Name y p) "close_part" apos) [] [] cpos) pos) (RdI C x ⟨r.found, r.parts ++ [r.value], none, r.begun⟩) vals := by
  have hs := close_part_spec (w := w) T RT hI hp
  obtain ⟨dx, fa, pa, ras, vm, vl, vv, us, ls, H⟩ := hI
  obtain rfl := H.eq
  exact Ex1T.call0 RT.hK RT.RK i hx hl (by simp) (by decide) hs rfl hn hno pl he hsw
theorem close_call' (T : Top G) (RT : RdTop G K C fI fC fP fQ fR fS) {r : Rd} (hI : RdI C x r I) (hp : r.found.length < 32) {p apos cpos pos : Pos} (i : Nat) {y : Str} (hx : names[i]? = some y) (hl : vals[i]? = some (.v (.ref x))) (hno : ∀ a es, Loc.own a es ∉ vals) (hn : 2 ≤ n := by omega)
    {pl : Env → Sem Bool} (he : ∀ env, eval (.Call (.Attribute (.Name y p) "close_parameter" apos) [] [] cpos) env = (do
      let ov ← eval (.Name y p) env
      standAt apos.atName
      let (f, first) ← holding [ov] (getMethod ov "close_parameter" (pl env))
      callWith cpos f first (backTo cpos (starEach [] env)) (backToKw cpos (keywordEach [] env))) := by intro _; rfl)
    (hsw : ∀ env, swapsWith (.Call (.Attribute (.Name y p) "close_parameter" apos) [] [] cpos) none pos.line env = pure false := by intro _; rfl) :
    Ex1T PP w G I sc names n vals (.Expr (.Call (.Attribute (.Name y p) "close_parameter" apos) [] [] cpos) pos) (RdI C x ⟨r.found ++ [r.parts], [], r.value, r.begun⟩) vals := by
  have hs := close_parameter_spec (w := w) T RT hI hp
  obtain ⟨dx, fa, pa, ras, vm, vl, vv, us, ls, H⟩ := hI
  obtain rfl := H.eq
  exact Ex1T.call0 RT.hK RT.RK i hx hl (by simp) (by decide) hs rfl hn hno pl he hsw

theorem put_spec (T : Top G) (RT : RdTop G K C fI fC fP fQ fR fS) {r : Rd} {o : Int} (hI : RdI C x r I) (h1 : 48 ≤ o) (h2 : o ≤ 59) (hp : r.parts.length < 32) (hf : r.found.length < 32) : MSpec PP w G 4 fP I [.v (.ref x), .d (.int o)] (RdI C x (putP r o)) (.bool true) := by
  refine MSpec.intro (rest := ["ahead"]) RT.mP rfl (by intro a es h; simp at h) (by decide +kernel) ?_ (o := .ret (.bool true)) rfl
  by_cases hd : o ≤ 57
  · have hI' := hI
    obtain ⟨dx, fa, pa, ras, vm, vl, vv, us, ls, H⟩ := hI
    obtain rfl := H.eq
    have hah : ∀ {p1 p2 p3 p4 p5 p6 p7 p8 : Pos} {k1 k2 : Nat}, EvE PP w G (objI C x dx FS [vm, vl, .ref fa, .ref pa, vv, .bool r.begun] ls) ⟨scopeOf (meth 2), []⟩ ["self", "octet", "ahead"] 3 [.v (.ref x), .d (.int o), .un] (.IfExp (.Compare (.Attribute (.Name "self" p1) "value" p2) [.Is] [.Constant .none k1 p3] p4) (.Constant (.int 0) k2 p5) (.Attribute (.Name "self" p6) "value" p7) p8) (.int (num0 r.value)) := by
      intro p1 p2 p3 p4 p5 p6 p7 p8 k1 k2
      have hv := H.hv
      have fl : ∀ {p1 p2 : Pos}, EvE PP w G (objI C x dx FS [vm, vl, .ref fa, .ref pa, vv, .bool r.begun] ls) ⟨scopeOf (meth 2), []⟩ ["self", "octet", "ahead"] 3 [.v (.ref x), .d (.int o), .un] (.Attribute (.Name "self" p1) "value" p2) (optD r.value) := fun {p1 p2} =>
        (EvR.fld RT.hK RT.RK 0 4 rfl rfl (by decide) rfl rfl H.hv.handed).ev H.hv
      have ci := none_is' (w := w) r.value
      generalize r.value = rv at *
      cases rv with
      | none => exact EvE.ifT (EvB.cmp fl EvE.cNone ci) EvE.cInt
      | some j => exact EvE.ifF (EvB.cmp fl EvE.cNone ci) fl
    refine ExT.cons (Ex1T.ifT (J := RdI C x ⟨r.found, r.parts, some (min 65535 (num0 r.value * 10 + o - 48)), r.begun⟩) (v₁ := [.v (.ref x), .d (.int o), .d (.int (num0 r.value))])
      (EvB.chainT (EvE.num T 48) (EvE.name 1 rfl rfl) (EvE.num T 57) (by have := cmp_le (prog := PP) (w := w) 48 o; rw [decide_eq_true h1] at this; exact this) (by have := cmp_le (prog := PP) (w := w) o 57; rw [decide_eq_true hd] at this; exact this))
      (ExT.lift (Ex1.assign 2 rfl hah) (ExT.cons (Ex1T.set RT.hK RT.RK 0 rfl rfl (by decide)
        (EvE.callB (T.blt ("min", _) (by simp)) (min2 _ _) (EvL.cons ((EvR.fld RT.hK RT.RK 0 1 rfl rfl (by decide) rfl rfl H.hl.handed).ev H.hl)
          (EvL.cons (EvE.bin (EvE.bin (EvE.bin (EvE.name 2 rfl rfl) EvE.cInt (op_mul (IntMulOk.of_right (by decide)))) (EvE.name 1 rfl rfl) (op_add _ _)) (EvE.num T 48) (op_sub _ _)) EvL.nil))) rfl no3 (by decide) (setOld 4 rfl)) (fun I' hI' => ExT.nil ?_)))) ?_
    · obtain ⟨v, hv, rfl⟩ := hI'
      exact ⟨dx, fa, pa, ras, vm, vl, v, us, ls, rfl, H.hm, H.hl, hv, H.lf, H.lp, H.hus, H.ne, H.nf, H.np, H.rows⟩
    · intro I' hI'
      refine ExT.cons (begun_set RT hI' 0 rfl rfl no3) fun I'' hI'' => ExT.ofS (ExS.stop (Ex1.ret EvE.cBool)) ?_
      rw [show putP r o = ⟨r.found, r.parts, some (min 65535 (num0 r.value * 10 + o - 48)), true⟩ by unfold putP; rw [if_pos ⟨h1, hd⟩]]
      exact hI''
  · by_cases hc : o = 58
    · subst hc
      refine ExT.cons (Ex1T.ifF (J := RdI C x ⟨r.found, r.parts ++ [r.value], none, r.begun⟩) (v₁ := [.v (.ref x), .d (.int 58), .un])
        (EvB.chainT (EvE.num T 48) (EvE.name 1 rfl rfl) (EvE.num T 57) (cmp_le 48 58) (cmp_le 58 57))
        (ExT.cons (Ex1T.ifT (EvB.eqI (EvE.name 1 rfl rfl) (EvE.num T 58) rfl) (ExT.cons (close_call T RT hI hp 0 rfl rfl no2) fun I' hI' => ExT.nil hI')) fun I' hI' => ExT.nil hI')) ?_
      intro I' hI'
      exact ExT.cons (begun_set RT hI' 0 rfl rfl no2) fun I'' hI'' => ExT.ofS (ExS.stop (Ex1.ret EvE.cBool)) hI''
    · obtain rfl : o = 59 := by omega
      refine ExT.cons (Ex1T.ifF (J := RdI C x ⟨r.found ++ [r.parts ++ [r.value]], [], none, r.begun⟩) (v₁ := [.v (.ref x), .d (.int 59), .un])
        (EvB.chainT (EvE.num T 48) (EvE.name 1 rfl rfl) (EvE.num T 57) (cmp_le 48 59) (cmp_le 59 57))
        (ExT.cons (Ex1T.ifF (EvB.eqI (EvE.name 1 rfl rfl) (EvE.num T 58) rfl) (ExT.cons (Ex1T.ifT (EvB.eqI (EvE.name 1 rfl rfl) (EvE.num T 59) rfl)
          (ExT.cons (close_call T RT hI hp 0 rfl rfl no2) fun I' hI' => ExT.cons (close_call' T RT hI' hf 0 rfl rfl no2) fun I'' hI'' => ExT.nil hI'')) fun I' hI' => ExT.nil hI')) fun I' hI' => ExT.nil hI')) ?_
      intro I' hI'
      exact ExT.cons (begun_set RT hI' 0 rfl rfl no2) fun I'' hI'' => ExT.ofS (ExS.stop (Ex1.ret EvE.cBool)) hI''
end
end Og
namespace Og
open PySem PySem.Calls PySem.Spec PyProof.Rows

section
variable {prog : Program} {w : World} {G : Gl} {I : Inv} {sc : Sc} {names : List Str} {n : Nat} {vals : List Loc} {K : W.Frag} {C fI fC fP fQ fR fS : Addr} {x dx : Addr}

noncomputable def NoClash (vals : List Loc) (a : Addr) : Prop := ∀ (j : Nat) b es', vals[j]? = some (Loc.own b es') → b ≠ a
theorem St.bindNew {c : Fc} {own : List Addr} {s : Shared} {A : Around} {E : Value → Shared → Prop} {Q : Unit → Shared → Prop} (hsc : EnvIs c.env sc) (S : St G names I c own vals s) {i : Nat} {x : Str} {H' : Heap} {tk m : Nat} {a : Addr} {vs : List Value} {ds : List D} (hx : names[i]? = some x)
    (hk : ∀ b o, s.heap.get? b = some o → H'.get? b = some o) (hn : s.heap.get? a = none) (ho : H'.get? a = some { cls := .type "list", data := .seq vs.toArray m }) (r : RepAll (([a] ++ own) ++ c.fz) H' vs ds)
    (k : ∀ s', NoClash vals a → St G names I c ([a] ++ own) (vals.set i (.own a ds)) s' → Step own s.heap ([a] ++ own) s'.heap → Q () s') : wpAny (model prog w) A (storeName c.env x (.ref a)) Q E { s with heap := H', toks := tk } := by
  have S2 : St G names I c ([a] ++ own) vals { s with heap := H', toks := tk } := by
    refine S.widen hk ⟨rfl, rfl, rfl⟩ (fun b hb => ?_) (fun b hb => ?_)
    · obtain rfl := List.mem_singleton.mp hb; exact hn
    · obtain rfl := List.mem_singleton.mp hb; exact ⟨_, ho⟩
  have hal : a ≠ c.env.locals := fun q => by
    obtain ⟨o, e⟩ := S.alive c.env.locals (List.mem_append_left _ S.lown)
    rw [← q, hn] at e; cases e
  refine S2.bindOwn hsc hx (List.mem_append_left _ (.head _)) hal ho r fun s₃ S₃ hs₃ => k s₃ (fun j b es' hj q => ?_) S₃ ⟨fun b o hb e => hs₃.extBut b o (fun q => hb (q ▸ S.lown)) (hk b o e), fun b hb => List.mem_append_right _ hb, fun b hb => ?_⟩
  · obtain ⟨o, e⟩ := S.ownAlive (List.mem_of_getElem? hj)
    rw [q, hn] at e; cases e
  · rcases List.mem_append.mp hb with q | q
    · obtain rfl := List.mem_singleton.mp q; exact .inr hn
    · exact .inl q

structure Mk1 (prog : Program) (w : World) (G : Gl) (I : Inv) (sc : Sc) (names : List Str) (n : Nat) (vals : List Loc) (st : Stmt) (i : Nat) (ds : List D) : Prop where
  go : ∀ (c : Fc) (own : List Addr) (s : Shared) (A : Around) (Q : Flow → Shared → Prop) (E : Value → Shared → Prop), EnvIs c.env sc → Room n A → St G names I c own vals s →
    (∀ s' a, NoClash vals a → s.heap.get? a = none → St G names I c ([a] ++ own) (vals.set i (.own a ds)) s' → Step own s.heap ([a] ++ own) s'.heap → Q .next s') → wpAny (model prog w) A (exec st c.env) Q E s
theorem Vars.free {own own' fz : List Addr} {h : Heap} {m : Str → Option Value} {xs : List Str} {ls : List Loc} (X : Vars own fz h m xs ls) (hno : ∀ b es, Loc.own b es ∉ ls) (hk : ∀ a o, a ∉ own ++ fz → h.get? a = some o → h.get? a = some o ∧ a ∉ own' ++ fz) : Vars own' fz h m xs ls := by
  induction X with
  | nil => exact .nil
  | @cons x l _ _ a _ ih =>
    refine .cons ?_ (ih fun b es hm => hno b es (.tail _ hm))
    cases l with
    | un => trivial
    | d d => obtain ⟨v, e, r⟩ := a; exact ⟨v, e, r.mono hk⟩
    | v v => exact a
    | own b es => exact absurd (.head _) (hno b es)
theorem Vars.reset {own fz : List Addr} {h : Heap} {m : Str → Option Value} {xs : List Str} {ls : List Loc} {i : Nat} {l l' : Loc} (X : Vars own fz h m xs (ls.set i l)) (hl : ∀ x, xs[i]? = some x → Holds own fz h (m x) l') : Vars own fz h m xs (ls.set i l') := by
  induction ls generalizing xs i with
  | nil => simpa using X
  | cons q ls ih =>
    cases i with
    | zero =>
      simp only [List.set_cons_zero] at X ⊢
      cases X with | cons a r => exact .cons (hl _ rfl) r
    | succ i =>
      simp only [List.set_cons_succ] at X ⊢
      cases X with | cons a r => exact .cons a (ih r fun x hx => hl x (by simpa using hx))
theorem St.settle {c : Fc} {own' : List Addr} {s : Shared} {i : Nat} {a : Addr} {ds : List D} {x : Str} (S : St G names I c own' (vals.set i (.own a ds)) s) (hx : names[i]? = some x) (hi : i < vals.length) (hno : ∀ b es, Loc.own b es ∉ vals) (hai : a ∉ I.ad) (haf : a ∉ c.fz) :
    St G names I c (own'.filter (· != a)) (vals.set i (.d (.lst ds))) s := by
  obtain ⟨m, hn, hv⟩ := S.ns
  have hh := hv.get hx (l := .own a ds) (by rw [List.getElem?_set_self hi])
  obtain ⟨hm, ha, vs, mm, ho, rs⟩ := hh
  have hsub : ∀ b ∈ own'.filter (· != a), b ∈ own' := fun b hb => (List.mem_filter.mp hb).1
  have hk : ∀ b o, b ∉ own' ++ c.fz → s.heap.get? b = some o → s.heap.get? b = some o ∧ b ∉ own'.filter (· != a) ++ c.fz := fun b o hb e => ⟨e, fun q => hb (by
    rcases List.mem_append.mp q with q | q
    · exact List.mem_append_left _ (hsub b q)
    · exact List.mem_append_right _ q)⟩
  have hal : a ≠ c.env.locals := fun q => by
    obtain ⟨oL, _, _, e, hd, _⟩ := hn
    rw [← q, ho] at e; cases e; cases hd
  have hno' : ∀ b es, Loc.own b es ∉ vals.set i .un := fun b es hm => by
    rcases List.mem_or_eq_of_mem_set hm with q | q
    · exact hno b es q
    · cases q
  exact {
    kind := S.kind
    glob := S.glob
    blt := S.blt
    loc := S.loc
    nodup := S.nodup
    base := S.base
    ns := by
      refine ⟨m, hn, ?_⟩
      refine Vars.reset (l := .un) ((hv.reset (l' := .un) fun _ _ => trivial).free hno' hk) fun y hy => ?_
      rw [hx] at hy; cases hy
      exact ⟨_, hm, .lst (fun q => by
        rcases List.mem_append.mp q with q | q
        · have := (List.mem_filter.mp q).2; simp at this
        · exact haf q) ho (rs.mono hk)⟩
    lown := List.mem_filter.mpr ⟨S.lown, by simpa using Ne.symm hal⟩
    alive := fun b hb => by
      rcases List.mem_append.mp hb with q | q
      · exact S.alive b (List.mem_append_left _ (hsub b q))
      · exact S.alive b (List.mem_append_right _ q)
    ext := S.ext
    fresh := fun b hb => S.fresh b (hsub b hb)
    apart := fun b hb => by
      rcases List.mem_append.mp hb with q | q
      · exact S.apart b (List.mem_append_left _ (hsub b q))
      · exact S.apart b (List.mem_append_right _ q)
    inv := S.inv
    iown := fun b hb => ⟨List.mem_filter.mpr ⟨(S.iown b hb).1, by simpa using fun q : b = a => hai (q ▸ hb)⟩, (S.iown b hb).2⟩
    same := S.same }
theorem ExS.settle {st st₂ : Stmt} {rest : List Stmt} {i : Nat} {x : Str} {ds ds' : List D} {v₁ : List Loc} {o : Out} (h : Mk1 prog w G I sc names n vals st i ds) (hx : names[i]? = some x) (hv : i < v₁.length) (hno : ∀ a es, Loc.own a es ∉ v₁)
    (hp : ∀ a, NoClash vals a → a ∉ I.ad → Ex1 prog w G I sc names n (vals.set i (.own a ds)) st₂ (.next (v₁.set i (.own a ds')))) (hr : ExS prog w G I sc names n (v₁.set i (.d (.lst ds'))) rest o) : ExS prog w G I sc names n vals (st :: st₂ :: rest) o := by
  constructor
  intro c own s A Q E hsc R S k
  refine wpAny_execs_cons (h.go c own s A _ E hsc R S fun s' a hc hn S' x => ?_)
  have hao : a ∉ own := fun q => by obtain ⟨o, e⟩ := S.alive a (List.mem_append_left _ q); rw [hn] at e; cases e
  have haf : a ∉ c.fz := fun q => by obtain ⟨o, e⟩ := S.alive a (List.mem_append_right _ q); rw [hn] at e; cases e
  have hai : a ∉ I.ad := fun q => hao (S.iown a q).1
  refine wpAny_execs_cons ((hp a hc hai).go c _ s' A _ E hsc R S' fun f s'' q => ?_)
  cases f with
  | next =>
    obtain ⟨own', y, S''⟩ := q
    have z := x.trans y
    have hh : ∀ b ∈ own, b ∈ own'.filter (· != a) := fun b hb => List.mem_filter.mpr ⟨z.sub b hb, by
      have : b ≠ a := fun q => hao (q ▸ hb)
      simpa using this⟩
    exact hr.go c _ s'' A Q E hsc R (S''.settle hx hv hno hai haf) fun f s₃ q => k f s₃ (q.step ⟨z.ext, hh, fun b hb => z.new b (List.mem_filter.mp hb).1⟩)
  | _ => exact q.elim

theorem Mk1.copy {e : Expr} {lp cp p pos : Pos} {y : Str} {ds : List D} (i : Nat) (hy : names[i]? = some y) (hb : BAt G "list" (.type "list")) (he : EvE prog w G I sc names n vals e (.lst ds)) (hz : ds.length ≤ sizeLine)
    (hx : sc.scope.names.lookup ("list" : Str) = some .globalImplicit := by rfl) (hst : ∀ env, starEach [e] env = (false, eval e env) :: starEach [] env := by exact fun _ => star_plain rfl)
    (hs : ∀ env, swapsWith (.Call (.Name "list" lp) [e] [] cp) (some (.Name y p)) pos.line env = pure false := by intro _; rfl) :
    Mk1 prog w G I sc names n vals (.Assign [.Name y p] (.Call (.Name "list" lp) [e] [] cp) pos) i ds := by
  constructor
  intro c own s A Q E hsc R S k
  refine wpAny_Assign_Name (Call_ (EvE.bName hsc S hb ?_ hx (by decide))) (hs _)
  refine PyProof.Rows.callWith_type (by rw [hst]; rfl) ?_
  have hh : wpAny (model prog w) A (spliced (backTo cp (starEach [e] c.env))) (fun vs s₁ => wpAny (model prog w) A (PySem.call (.type "list") ([] ++ vs) []) (fun v s₁ => wpAny (model prog w) A (storeName c.env y v) (fun _ => Q .next) E s₁) E s₁) E s := by
    refine args_cons (he.go c own s A _ E hsc R S fun v s₁ S₁ x₁ r₁ => args_nil ?_) (hst _)
    cases r₁ with | @lst l ws m _ ha ho rs =>
    refine PySem.call_list_seq l (.inl rfl) ho rfl rfl (fun h' c' hk ho' => ?_) (by rw [List.size_toArray, rs.length]; exact hz)
    have hn : s₁.heap.get? s₁.heap.objs.size = none := none_size
    have hn0 : s.heap.get? s₁.heap.objs.size = none := by
      cases e : s.heap.get? s₁.heap.objs.size with
      | none => rfl
      | some o =>
        by_cases z : s₁.heap.objs.size ∈ own
        · exact absurd (List.mem_append_left _ z) (S₁.new hn)
        · have := x₁ _ o z e; rw [hn] at this; cases this
    refine S₁.bindNew (tk := s₁.toks) hsc hy hk hn ho' (rs.mono fun b o hb e => ⟨hk b o e, fun q => ?_⟩) fun s₂ hcl S₂ st => ?_
    · rcases List.mem_append.mp q with q | q
      · rcases List.mem_append.mp q with q | q
        · rw [List.mem_singleton.mp q, hn] at e; cases e
        · exact hb (List.mem_append_left _ q)
      · exact hb (List.mem_append_right _ q)
    · exact k s₂ _ hcl hn0 S₂ ((Step.ofExt x₁).trans st)
  rw [hst] at hh ⊢
  exact evalArgs_plain hh

theorem Mk1.comp {elt iter : Expr} {x y : Str} {px py pos spos : Pos} {scope : Scope} {ds : List D} {f : D → D} (i : Nat) (hy : names[i]? = some y) (hi : EvI prog w G I sc names n vals iter (.Name x px) false ds) (hsp : plainScope scope x = true) (hz : ds.length ≤ sizeLine)
    (he : ∀ d ∈ ds, EvE prog w G I ⟨scope, []⟩ [x] n [.d d] elt (f d)) (ho : ∀ a es, Loc.own a es ∈ vals → a ∉ I.ad)
    (hsw : ∀ env : Env, swapsWith (.ListComp elt [⟨.Name x px, iter, [], 0⟩] scope pos) (some (.Name y py)) spos.line { env with scope := sc.scope } = pure true := by intro _; rfl)
    (hfold : ∀ env y, foldedSetIterable iter env y = pure y := by intro _ _; rfl) :
    Mk1 prog w G I sc names n vals (.Assign [.Name y py] (.ListComp elt [⟨.Name x px, iter, [], 0⟩] scope pos) spos) i (ds.map f) := by
  constructor
  intro c own s A Q E hsc R S k
  have P := plainScope_is hsp
  have hvo : ∀ a es, Loc.own a es ∈ vals → a ∈ own := fun a es hm => by obtain ⟨m, _, h2⟩ := S.ns; exact h2.ownMem hm
  rw [exec_Assign_Name_used _ _ _ _ (by rw [env_sc hsc.1]; exact hsw _)]
  refine wpAny_bind (wpAny_standAt (wpAny_bind ?_))
  show wpAny _ A (do let _ ← comprehension (.ListComp elt [⟨.Name x px, iter, [], 0⟩] scope pos) scope c.env _ (newList []) false (eval iter c.env) (some (PySem.assign (.Name y py) c.env))) _ _ s
  refine wpAny_bind (wpAny_mono (comp_src (Q := fun _ s' => Q .next s') (use := some (PySem.assign (.Name y py) c.env)) (sc₂ := ⟨scope, []⟩) hi hsc R S (closureFor_none P.nf) ho (relabel_plain P.nf) rfl P.kind P.nc P.loc P.hx P.xd hz he (hfold _) fun D C s' M => ?_)
    (fun _ s' hq => wpAny_pure (wpAny_pure hq)) fun _ _ e => e)
  show wpAny _ A (PySem.assign (.Name y py) c.env (.ref D)) _ _ _
  obtain ⟨S', st, fD, fC, ⟨d1, d2, d3, d4⟩, ne, ⟨vs, m, hD, hrr⟩, ⟨mC, hnC⟩⟩ := M
  have hCl : C ≠ c.env.locals := fun q => d3 (q ▸ S.lown)
  have hDl : D ≠ c.env.locals := fun q => d2 (q ▸ S.lown)
  obtain ⟨mL, hnL, hvL⟩ := S'.ns
  refine wpAny_assign_Name (wpAny_storeName_local (S'.loc y (List.mem_of_getElem? hy)).1 hnL (fun h' hn' hs' => ?_) (by rw [S'.kind]; rfl))
  have xe : Ext (D :: C :: own) s'.heap h' := fun b o hb e => hs'.extBut b o (fun q => hb (q ▸ S'.lown)) e
  have S2 := S'.store (t := s'.toks + 1) (l := .own D (ds.map f)) hnL hvL hn' hs' hy ⟨rfl, .head _, vs, m, hs'.extBut _ _ hDl hD, hrr.ext xe⟩
  refine ⟨mC, hnC.sameBut hs' hCl, fun h'' hs'' => ?_⟩
  have x2 : Ext [C] h' h'' := fun b o hb e => hs''.extBut b o (fun q => hb (by rw [q]; exact .head _)) e
  have hCn : C ∉ [D] ++ own := fun q => by
    rcases List.mem_append.mp q with q | q
    · exact ne (List.mem_singleton.mp q).symm
    · exact d3 q
  have hvo2 : ∀ a es, Loc.own a es ∈ vals.set i (.own D (ds.map f)) → a ∈ [D] ++ own := fun a es hm => by
    rcases List.mem_or_eq_of_mem_set hm with q | q
    · exact List.mem_append_right _ (hvo a es q)
    · cases q; exact .head _
  have hclash : NoClash vals D := fun j b es' hj q => d2 (q ▸ hvo b es' (List.mem_of_getElem? hj))
  have S3 := S2.drop (own := [D] ++ own) (t := s'.toks + 1) x2 (.tail _ (.head _)) hCn d4 (fun a ha => by
    rcases List.mem_append.mp ha with q | q
    · rw [List.mem_singleton.mp q]; exact .head _
    · exact .tail _ (.tail _ q)) (List.mem_append_right _ S.lown) (fun a ha => List.mem_append_right _ (S.iown a ha).1) hvo2
  refine k _ D hclash fD S3 ⟨fun a o ha e => ?_, fun a ha => List.mem_append_right _ ha, fun a ha => ?_⟩
  · have hDa : a ≠ D := fun q => by rw [q, fD] at e; cases e
    have hCa : a ≠ C := fun q => by rw [q, fC] at e; cases e
    exact x2 a o (by simpa using hCa) (hs'.extBut a o (fun q => ha (q ▸ S.lown)) (st.ext a o (by exact ha) e))
  · rcases List.mem_append.mp ha with q | q
    · rw [List.mem_singleton.mp q]; exact .inr fD
    · exact .inl q

theorem list_L {ds : List D} (hz : ds.length ≤ sizeLine) : CallOk prog w (.type "list") [.lst ds] (.lst ds) := by
  intro av s A vs Q E _ _ hv _ r k
  cases r with | cons r₁ rn =>
  cases rn
  cases r₁ with | @lst l ws m _ ha ho rs =>
  refine PySem.call_list_seq l (.inl rfl) ho rfl rfl (fun h' c' hk ho' => ?_) (by rw [List.size_toArray, rs.length]; exact hz)
  exact k _ h' s.toks hk (.lst (av_new hv) ho' (rs.mono fun b o hb e => ⟨hk b o e, hb⟩))

theorem EvE.lenOwn {y : Str} {p np pos : Pos} {a : Addr} {ds : List D} (hb : BAt G "len" (.builtin "len")) (i : Nat) (hy : names[i]? = some y) (hl : vals[i]? = some (.own a ds)) (hz : ds.length ≤ sizeLine) (hx : sc.scope.names.lookup ("len" : Str) = some .globalImplicit := by rfl) :
    EvE prog w G I sc names n vals (.Call (.Name "len" np) [.Name y p] [] pos) (.int ds.length) := by
  constructor
  intro c own s A Q E hsc R S k
  obtain ⟨m, hn, hv⟩ := S.ns
  obtain ⟨hm, ha, vs, mm, ho, rs⟩ := hv.get hy hl
  have hly := S.loc y (List.mem_of_getElem? hy)
  refine Call_ (EvE.bName hsc S hb ?_ hx (by decide))
  refine callWith_builtin1 (args_cons (wpAny_Name (wpAny_loadName_local S.kind hly.1 hn hm (args_nil ?_)) hly.2) (star_plain rfl)) (star_plain rfl) rfl
  have hsl : sizeLine = 16777216 := rfl
  refine PyProof.Rows.len_list (items := vs.toArray) ⟨_, ho, rfl, mm, rfl⟩ (by simp only [List.size_toArray]; rw [rs.length]; omega) ?_
  have := k (.int ds.length (s.toks + 1)) { s with heap := s.heap, toks := s.toks + 1 + 1 } (S.keeps (fun _ _ e => e) ⟨rfl, rfl, rfl⟩) .refl (.int _ _)
  simp only [List.size_toArray]; rw [rs.length]; exact this

end
end Og
namespace Og
open PySem PySem.Calls PySem.Spec PyProof.Rows

section
variable {prog : Program} {w : World} {G : Gl} {I : Inv} {sc : Sc} {names : List Str} {n : Nat} {vals : List Loc} {K : W.Frag} {C fI fC fP fQ fR fS : Addr} {x dx : Addr}

theorem EvE.attr (hK : K.In G.hb) (RK : RdK K C fI fC fP fQ fR fS) {y : Str} {p pos : Pos} {name : Str} {xs : List Str} {ds : List D} {d : D} (i j : Nat) (hx : names[i]? = some y) (hl : vals[i]? = some (.d (.obj C xs ds))) (hf : name ∈ FS) (hj : xs[j]? = some name) (hd : ds[j]? = some d)
    (he : ∀ env, eval (.Attribute (.Name y p) name pos) env = (do
      let o ← eval (.Name y p) env
      standAt pos.atName
      let r ← holding [o] (getAttr o name true)
      letTemporaryGo (.Name y p) o r
      pure r) := by intro _; with_unfolding_all rfl) : EvE prog w G I sc names n vals (.Attribute (.Name y p) name pos) d := by
  constructor
  intro c own s A Q E hsc R S k
  refine Attribute_Name_ ((EvE.name i hx hl).go c own s A _ E hsc R S fun v s₁ S₁ x₁ r₁ => ?_) (he _)
  cases r₁ with | @obj a dx _ es nn _ vs _ ha hd1 ho hod hfe hnd rs =>
  obtain ⟨v, hv, r⟩ := rs.get hd
  exact get_field (inK hK S₁) RK ⟨ho, ⟨_, _, hod, hfe⟩, hnd⟩ hf hj hv r.handed (k v _ (S₁.keeps (fun _ _ e => e) ⟨rfl, rfl, rfl⟩) x₁ r)

noncomputable def objD (C : Addr) (r : Rd) : D := .obj C FS [.int 32, .int 65535, rowsD r.found, rowD r.parts, optD r.value, .bool r.begun]
noncomputable def doneP (r : Rd) : List Row := r.found ++ [r.parts ++ [r.value]]

theorem params_spec (T : Top G) (RT : RdTop G K C fI fC fP fQ fR fS) {r : Rd} (hb : r.begun = true) (hp : r.parts.length < 32) (hf : r.found.length < 32) (hr : ∀ q ∈ r.found, q.length ≤ 1000) : MSpec PP w G 3 fS Inv.none [.d (objD C r)] (fun _ => True) (rowsD (doneP r)) := by
  have hsl : sizeLine = 16777216 := rfl
  refine MSpec.intro (rest := ["parts", "found"]) RT.mS rfl (by intro a es h; simp [objD] at h) (by decide +kernel) (ExT.ofS ?_ trivial) (o := .ret (rowsD (doneP r))) rfl
  refine ExS.cons (Ex1.ifF (EvB.not (EvB.of (EvE.attr RT.hK RT.RK 0 5 rfl rfl (by decide) rfl (d := .bool true) (by rw [← hb]; rfl)) (tru_bool true))) ExS.nil) ?_
  refine ExS.settle (x := "parts") (ds' := (r.parts ++ [r.value]).map optD) (v₁ := [.d (objD C r), .un, .un]) (Mk1.copy 1 rfl (T.blt ("list", _) (by simp)) (EvE.attr RT.hK RT.RK 0 3 rfl rfl (by decide) rfl rfl) (by rw [List.length_map]; omega)) rfl (by simp) (by intro a es h; simp at h) (fun a hcl hai => ?_) ?_
  · refine Ex1.ifT (EvB.lt (EvE.lenOwn (T.blt ("len", _) (by simp)) 1 rfl rfl (by rw [List.length_map]; omega)) (EvE.attr RT.hK RT.RK 0 0 rfl rfl (by decide) rfl rfl) (by rw [List.length_map]; exact decide_eq_true (by omega))) ?_
    rw [List.map_append]
    exact ExS.cons (Ex1.append 1 rfl rfl (EvE.attr RT.hK RT.RK 0 4 rfl rfl (by decide) rfl rfl) (fun j b es hj h => by rcases j with _ | _ | _ | j <;> simp_all) hai (by rw [List.length_map]; omega)) ExS.nil
  refine ExS.settle (x := "found") (ds' := (doneP r).map rowD) (v₁ := [.d (objD C r), .d (.lst ((r.parts ++ [r.value]).map optD)), .un]) (Mk1.comp 2 rfl (f := fun d => d) (EvI.list (EvE.attr RT.hK RT.RK 0 2 rfl rfl (by decide) rfl rfl)) (by decide +kernel) (by rw [List.length_map]; omega) (fun d hd => ?_) (by intro a es h; simp at h)) rfl (by simp) (by intro a es h; simp at h) (fun a hcl hai => ?_) ?_
  · obtain ⟨q, hq, rfl⟩ := List.mem_map.mp hd
    exact EvE.callT (T.blt ("list", _) (by simp)) (list_L (by rw [List.length_map]; have := hr q hq; omega)) (EvL.cons (EvE.name 0 rfl rfl) EvL.nil)
  · rw [List.map_id']
    refine Ex1.ifT (EvB.lt (EvE.lenOwn (T.blt ("len", _) (by simp)) 2 rfl rfl (by rw [List.length_map]; omega)) (EvE.attr RT.hK RT.RK 0 0 rfl rfl (by decide) rfl rfl) (by rw [List.length_map]; exact decide_eq_true (by omega))) ?_
    rw [show (doneP r).map rowD = r.found.map rowD ++ [.lst ((r.parts ++ [r.value]).map optD)] by rw [doneP, List.map_append]; rfl]
    exact ExS.cons (Ex1.append 2 rfl rfl (EvE.name 1 rfl rfl) (fun j b es hj h => by rcases j with _ | _ | _ | j <;> simp_all) hai (by rw [List.length_map]; omega)) ExS.nil
  exact ExS.stop (Ex1.ret (EvE.name 2 rfl rfl))

theorem init_spec (T : Top G) (RT : RdTop G K C fI fC fP fQ fR fS) : MSpec PP w G 3 fI (objI C x dx [] [] []) [.v (.ref x), .d (.int 32), .d (.int 65535)] (RdI C x ⟨[], [], none, false⟩) .none := by
  have no : ∀ a es, Loc.own a es ∉ [Loc.v (.ref x), .d (.int 32), .d (.int 65535)] := by intro a es h; simp at h
  refine MSpec.intro (rest := []) RT.mI rfl no (by decide +kernel) ?_ (o := .next [.v (.ref x), .d (.int 32), .d (.int 65535)]) rfl
  refine ExT.cons (Ex1T.set RT.hK RT.RK 0 rfl rfl (by decide) (EvE.name 1 rfl rfl) rfl no (by decide) (setNew (by decide))) ?_
  rintro _ ⟨vm, hm, rfl⟩
  refine ExT.cons (Ex1T.set RT.hK RT.RK 0 rfl rfl (by decide) (EvE.name 2 rfl rfl) rfl no (by decide) (setNew (by decide))) ?_
  rintro _ ⟨vl, hl, rfl⟩
  exact ExT.cons (Ex1T.call0 RT.hK RT.RK 0 rfl rfl (by simp) (by decide) (clear_spec T RT hm hl) rfl (by omega) no _ (fun _ => rfl)) fun I' hI' => ExT.nil hI'
end
end Og
namespace Og
open PySem PySem.Calls PySem.Spec PyProof.Rows

section
variable {prog : Program} {w : World} {G : Gl} {I : Inv} {sc : Sc} {names : List Str} {n : Nat} {vals : List Loc} {K : W.Frag} {C fI fC fP fQ fR fS : Addr} {x dx : Addr}

theorem under_room {A : Around} {m : Nat} (R : Room (m + 1) A) (C : Addr) (vs : List Value) : Room m (A.under (.builtin "type.__call__" ⟨.ref C :: vs, []⟩)) := by
  refine ⟨R.hand, ?_, ?_⟩
  · have h : (A.under (.builtin "type.__call__" ⟨.ref C :: vs, []⟩)).depth = A.depth + 1 := rfl
    rw [h]; have := R.depth; omega
  · have h : (A.under (.builtin "type.__call__" ⟨.ref C :: vs, []⟩)).units = A.units + (Code.builtin "type.__call__" ⟨.ref C :: vs, []⟩).cUnits := rfl
    have h2 : (Code.builtin "type.__call__" ⟨.ref C :: vs, []⟩).cUnits ≤ 16 := Nat.le_of_ble_eq_true rfl
    rw [h]; have := R.units; omega

theorem St.bindV {c : Fc} {own : List Addr} {s : Shared} {A : Around} {E : Value → Shared → Prop} {Q : Unit → Shared → Prop} (hsc : EnvIs c.env sc) (S : St G names I c own vals s) {i : Nat} {x : Str} {v : Value} (hx : names[i]? = some x)
    (k : ∀ s', St G names I c own (vals.set i (.v v)) s' → Ext own s.heap s'.heap → Q () s') : wpAny (model prog w) A (storeName c.env x v) Q E s := by
  obtain ⟨m, hn, hv⟩ := S.ns
  refine wpAny_storeName_local (S.loc x (List.mem_of_getElem? hx)).1 hn (fun h' hn' hs => ?_) (by rw [S.kind]; rfl)
  have xe : Ext own s.heap h' := fun b o hb e => hs.extBut b o (fun q => hb (q ▸ S.lown)) e
  exact k _ (S.store (l := .v v) hn hv hn' hs hx rfl) xe

theorem make_go (T : Top G) (RT : RdTop G K C fI fC fP fQ fR fS) (hC : G.mg "ParamReader" = some (.ref C)) {e₁ e₂ : Expr} {np cp p pos : Pos} {y : Str} (i : Nat) (hy : names[i]? = some y)
    (h1 : EvE PP w G Inv.none sc names n vals e₁ (.int 32)) (h2 : EvE PP w G Inv.none sc names n vals e₂ (.int 65535)) (hn4 : 4 ≤ n) (hno : ∀ a es, Loc.own a es ∉ vals)
    {c : Fc} {own : List Addr} {s : Shared} {A : Around} {Q : Flow → Shared → Prop} {E : Value → Shared → Prop} (hsc : EnvIs c.env sc) (R : Room n A) (S : St G names Inv.none c own vals s)
    (k : ∀ x s' I' own', RdI C x ⟨[], [], none, false⟩ I' → NewAd Inv.none I' s.heap → Step own s.heap own' s'.heap → St G names I' c own' (vals.set i (.v (.ref x))) s' → Q .next s')
    (hx : sc.scope.names.lookup ("ParamReader" : Str) = some .globalImplicit := by rfl) (hst : ∀ env, starEach [e₁, e₂] env = (false, eval e₁ env) :: starEach [e₂] env := by exact fun _ => star_plain rfl) (hst2 : ∀ env, starEach [e₂] env = (false, eval e₂ env) :: starEach [] env := by exact fun _ => star_plain rfl)
    (hs : ∀ env, swapsWith (.Call (.Name "ParamReader" np) [e₁, e₂] [] cp) (some (.Name y p)) pos.line env = pure false := by intro _; rfl) :
    wpAny (model PP w) A (exec (.Assign [.Name y p] (.Call (.Name "ParamReader" np) [e₁, e₂] [] cp) pos) c.env) Q E s := by
  refine wpAny_Assign_Name (Call_ (EvE.fnName hsc S hC ?_ hx (by decide))) (hs _)
  refine W.callWith_K RT.hK RT.RK.keepC ?_ (hst _) (by rw [hst2]; rfl)
  refine (EvL.cons h1 (EvL.cons h2 EvL.nil hst2) hst).go c own s A cp _ E hsc R S fun vs s₁ S₁ x₁ rs => ⟨inK RT.hK S₁, ?_⟩
  rw [List.nil_append]
  refine wpAny_call ?_
  have hX := inK RT.hK S₁
  have hmeth := RT.RK.meth ("__init__", fI) (by simp)
  have hes : ({ s₁ with heap := s₁.heap } : Shared) = s₁ := rfl
  obtain ⟨H, g, d, t, os⟩ := s₁
  dsimp only at hX x₁ rs
  refine W.make_core (W.makes_of hX RT.RK.makes) (W.looks_findIn hX hmeth.1) (fun self => W.bind_fn hX self hmeth.2.1) (.inl rfl) ?_
  have hkeep : ∀ b o, H.get? b = some o → ((H.push W.emptyDict).push (W.instObj C H.objs.size)).get? b = some o := fun b o e => Heap.get?_push_of_some _ (Heap.get?_push_of_some _ e)
  have hn0 : H.get? H.objs.size = none := none_size
  have hn1 : H.get? (H.objs.size + 1) = none := by
    cases e : H.get? (H.objs.size + 1) with
    | none => rfl
    | some o => exact absurd (Heap.lt_size e) (Nat.not_lt.mpr (Nat.le_succ _))
  have hdx : ((H.push W.emptyDict).push (W.instObj C H.objs.size)).get? H.objs.size = some W.emptyDict := Heap.get?_push_of_some _ (Heap.get?_push_size _ rfl)
  have hxx : ((H.push W.emptyDict).push (W.instObj C H.objs.size)).get? (H.objs.size + 1) = some (W.instObj C H.objs.size) := by
    have h := Heap.get?_push_size (h := H.push W.emptyDict) (o := W.instObj C H.objs.size) rfl
    rw [Heap.size_push] at h
    exact h
  generalize hH2 : (H.push W.emptyDict).push (W.instObj C H.objs.size) = H2 at *
  generalize hd0 : H.objs.size = dx at *
  clear hd0 hH2
  have hP : (objI C (dx + 1) dx [] [] []).P H2 := ⟨⟨hxx, ⟨[], 0, hdx, .nil⟩, by simp⟩, by simp, by simp⟩
  have hdead : ∀ a ∈ (objI C (dx + 1) dx [] [] []).ad, H.get? a = none := fun a ha => by
    have : a = dx + 1 ∨ a = dx := by simpa [objI] using ha
    rcases this with rfl | rfl <;> assumption
  refine init_spec T RT (x := dx + 1) (dx := dx) (own ++ c.fz) ⟨H2, g, d, t, os⟩ _ (.ref (dx + 1) :: vs) _ (under_room (R.le hn4) _ _) (fun b o e => hkeep b o (S₁.base b o e)) (fun a ha => ?_) (fun a ha => ?_) hP ?_ fun v h' tk I' hJ hP' hx' hal hnn rv => ?_
  · rcases List.mem_append.mp ha with q | q
    · have : a = dx + 1 ∨ a = dx := by simpa [objI] using q
      rcases this with rfl | rfl
      · exact ⟨_, hxx⟩
      · exact ⟨_, hdx⟩
    · obtain ⟨o, e⟩ := S₁.alive a q; exact ⟨o, hkeep _ _ e⟩
  · rcases List.mem_append.mp ha with q | q
    · cases e : G.hb.get? a with
      | none => rfl
      | some o => have h1 := S₁.base a o e; have h2 := hdead a q; dsimp only at h1; rw [h2] at h1; cases h1
    · exact S₁.apart a q
  · have rs' : RepAll ((objI C (dx + 1) dx [] [] []).ad ++ (own ++ c.fz)) H2 vs [.int 32, .int 65535] := rs.mono fun b o hb e => ⟨hkeep b o e, fun q => by
      rcases List.mem_append.mp q with q | q
      · rw [hdead b q] at e; cases e
      · exact hb q⟩
    cases rs' with | cons r1 rs' => cases rs' with | cons r2 rs' =>
    cases rs'
    exact .v (.d r1 (.d r2 .nil))
  · cases rv
    refine ⟨rfl, ?_⟩
    have hadn : ∀ a ∈ I'.ad, H.get? a = none := fun a ha => by
      rcases (hnn a ha).2 with q | q
      · exact hdead a q
      · cases e : H.get? a with
        | none => rfl
        | some o => rw [hkeep a o e] at q; cases q
    obtain ⟨S', st⟩ := S₁.after (t := tk) (h' := h') (I' := I') (fun b o hb e => hx' b o (fun q => by rw [hdead b q] at e; cases e) (hkeep b o e)) (fun a ha => nomatch ha) (fun a ha => ⟨(hnn a ha).1, .inr (hadn a ha)⟩) hP' (fun a es hm => absurd hm (hno a es))
    refine S'.bindV hsc hy fun s₂ S₂ x₂ => ?_
    have stt : Step own s.heap (I'.ad ++ own) s₂.heap := ((Step.ofExt x₁).trans st).trans (Step.ofExt x₂)
    refine k (dx + 1) s₂ I' _ hJ (fun a ha => .inr ?_) stt S₂
    cases e : s.heap.get? a with
    | none => rfl
    | some o =>
      by_cases z : a ∈ own
      · obtain ⟨o', e'⟩ := S₁.alive a (List.mem_append_left _ z)
        dsimp only at e'
        rw [hadn a ha] at e'; cases e'
      · have := x₁ a o z e; rw [hadn a ha] at this; cases this
end
end Og
namespace Og
open PySem PySem.Calls PySem.Spec PyProof.Rows

section
variable {prog : Program} {w : World} {G : Gl} {I : Inv} {sc : Sc} {names : List Str} {n : Nat} {vals : List Loc} {K : W.Frag} {C fI fC fP fQ fR fS : Addr} {x dx : Addr}

noncomputable def bytesD (b : Array UInt8) : List D := b.toList.map fun c => D.int c.toNat

theorem iter_bytes {A : Around} (hA : A.handled = none) {x : Str} {px : Pos} {fz : List Addr} {it : Addr} {b : Array UInt8} {t : Tok} :
    Iter prog w A (.ref it) false (.Name x px) fz [it] (bytesD b) (fun own i h => W.KBw.IsBytesIter h it b t i ∧ it ∉ own) where
  step := fun own i h own' h' x st => by
    obtain ⟨⟨o, hio, hr⟩, hn⟩ := x
    refine ⟨⟨o, st.ext _ _ hn hio, hr⟩, fun q => ?_⟩
    rcases st.new _ q with q | q
    · exact hn q
    · rw [hio] at q; cases q
  item := fun own i d s Q E hd x hal k => by
    obtain ⟨hi, hn⟩ := x
    obtain ⟨c, hc, rfl⟩ : ∃ c, b[i]? = some c ∧ d = .int c.toNat := by
      simp only [bytesD, List.getElem?_map, Array.getElem?_toList] at hd
      cases e : b[i]? with
      | none => rw [e] at hd; cases hd
      | some c => rw [e] at hd; exact ⟨c, rfl, by simpa using hd.symm⟩
    refine W.KBw.next_item hi hc fun h' hi' hs => ⟨_, rfl, ?_⟩
    have hk : ∀ b o, b ∉ [it] → s.heap.get? b = some o → h'.get? b = some o := fun b o hb e => hs.extBut b o (fun q => hb (by simp [q])) e
    have fin := k (.int c.toNat s.toks) h' (s.toks + 1) ⟨hi', hn⟩ hk (fun b hb => by
      obtain rfl : b = it := by simpa using hb
      obtain ⟨o, e, _⟩ := hi'
      exact ⟨o, e⟩) (.int _ _)
    unfold letOwnedTupleGo
    exact wpAny_pure fin
  self := fun own i s Q E x k => W.KBw.pyIter_self x.1 k
  done := fun own s Q E x k => by
    refine W.KBw.next_end hA x.1 (by simp [bytesD]) fun h' hx => k h' s.toks fun b o hb e => hx b o (fun q => hb (by simp [q])) e

theorem EvI.bytes {e : Expr} {x : Str} {px : Pos} {b : Array UInt8} (h : EvE prog w G I sc names n vals e (.bytes b)) : EvI prog w G I sc names n vals e (.Name x px) false (bytesD b) := by
  constructor
  intro c own s A Q E hsc R S k
  refine h.go c own s A _ E hsc R S fun v s₁ S₁ x₁ r₁ => ?_
  cases r₁ with | bytes _ t =>
  have hn : s₁.heap.get? s₁.heap.objs.size = none := none_size
  refine W.KBw.pyIter_bytes (k _ _ [s₁.heap.objs.size] _ ?_ (x₁.trans (Ext.push _)) (iter_bytes R.hand (t := t)) ?_ ?_)
  · refine S₁.freeze (fun b o e => Heap.get?_push_of_some _ e) ⟨rfl, rfl, rfl⟩ (fun b hb => ?_) (fun b hb => ?_)
    · obtain rfl : b = _ := by simpa using hb
      exact hn
    · obtain rfl : b = _ := by simpa using hb
      exact ⟨_, Heap.get?_push_size _ rfl⟩
  · exact ⟨⟨_, Heap.get?_push_size _ rfl, rfl, rfl⟩, fun q => (S₁.new hn) (List.mem_append_left _ q)⟩
  · intro b hb
    obtain rfl : b = _ := by simpa using hb
    cases e : s.heap.get? s₁.heap.objs.size with
    | none => rfl
    | some o =>
      by_cases q : s₁.heap.objs.size ∈ own
      · exact absurd (List.mem_append_left _ q) (S₁.new hn)
      · have := x₁ _ o q e; rw [hn] at this; cases this

theorem wk_set : ∀ (V : List Loc) (i : Nat) (l : Loc), Wk (V.set i l) (V.set i .un)
  | [], _, _ => .nil
  | _ :: r, 0, _ => .un (Wk.refl r)
  | _ :: r, i + 1, l => .same (wk_set r i l)
theorem Ex1T.for {x : Str} {px p : Pos} {iter : Expr} {body : List Stmt} {ds : List D} {V : List Loc} (i : Nat) (hx : names[i]? = some x) (hi : EvI prog w G I sc names n (V.set i .un) iter (.Name x px) false ds) (J : Nat → Inv → Prop) (h0 : J 0 I) (hno : ∀ l : Loc, (∀ a es, l ≠ .own a es) → ∀ a es, Loc.own a es ∉ V.set i l)
    (hb : ∀ j d I', ds[j]? = some d → J j I' → ExT prog w G I' sc names n (V.set i (.d d)) body (J (j + 1)) (.next (V.set i (.d d))))
    (hs : ∀ env x, foldedSetIterable iter env x = pure x := by intro _ _; rfl) : Ex1T prog w G I sc names n (V.set i .un) (.For (.Name x px) iter body [] p) (J ds.length) (V.set i .un) := by
  constructor
  intro c own s A Q E hsc R S k
  refine wpAny_For (hi.go c own s A _ E hsc R S fun it s₁ wr X S₁ x₁ W hX hwr => ?_) (hs _)
  have hsc' : EnvIs (c.with wr).env sc := hsc
  have h0m : ∀ b ∈ wr, b ∉ c.mt → c.h₀.get? b = none := fun b hb hm => by
    cases e : c.h₀.get? b with
    | none => rfl
    | some o => have := S.ext b o hm e; rw [hwr b hb] at this; cases this
  have hfz : ∀ b ∈ wr, b ∉ c.fz := fun b hb q => by
    obtain ⟨o, e⟩ := S.alive b (List.mem_append_right _ q)
    rw [hwr b hb] at e; cases e
  have hown : ∀ b ∈ wr, b ∉ own := fun b hb q => by
    obtain ⟨o, e⟩ := S.alive b (List.mem_append_left _ q)
    rw [hwr b hb] at e; cases e
  have hoff : ∀ {own' : List Addr} {h₁ h₂ : Heap}, Step own s.heap own' h₁ → (∀ b o, b ∉ wr → h₁.get? b = some o → h₂.get? b = some o) → Step own s.heap own' h₂ := fun st hk =>
    ⟨fun a o ha e => hk a o (fun q => by rw [hwr a q] at e; cases e) (st.ext a o ha e), st.sub, st.new⟩
  refine codeAny_forLoop_any (fun k' s' => ∃ j own' I' l, ds.length = j + k' ∧ J j I' ∧ NewAd I I' s.heap ∧ (∀ a es, l ≠ Loc.own a es) ∧ St G names I' (c.with wr) own' (V.set i l) s' ∧ X own' j s'.heap ∧ Step own s.heap own' s'.heap ∧ (∀ b ∈ wr, b ∉ own')) ?_ ds.length
    ⟨0, own, I, .un, by omega, h0, .refl, (fun _ _ q => by cases q), S₁, hX, Step.ofExt x₁, hown⟩
  rintro k' s' ⟨j, own', I', l, hlen, hJ, hN, hl, S', hX', hst, hdis⟩
  by_cases hk : k' = 0
  · subst hk
    have hi : j = ds.length := by omega
    subst hi
    refine W.done own' s' _ _ hX' fun h' tk hkeep => wpAny_execs_nil ?_
    have hw := wk_set V i l
    exact k _ I' own' hJ hN (hoff hst hkeep) ((S'.thaw hdis hfz h0m hkeep).wk hw)
  · have hi : j < ds.length := by omega
    have hd : ds[j]? = some ds[j] := List.getElem?_eq_getElem hi
    refine wpAny_mono (W.item own' j ds[j] s' (fun v s₂ => wpAny (model prog w) A (PySem.assign (.Name x px) c.env v) (fun _ s₃ => wpAny (model prog w) A (execs body c.env) (fun f s₄ => match f with
      | .next | .cont => ∃ m, m < k' ∧ ∃ j own' I' l, ds.length = j + m ∧ J j I' ∧ NewAd I I' s.heap ∧ (∀ a es, l ≠ Loc.own a es) ∧ St G names I' (c.with wr) own' (V.set i l) s₄ ∧ X own' j s₄.heap ∧ Step own s.heap own' s₄.heap ∧ (∀ b ∈ wr, b ∉ own')
      | .brk => Q .next s₄
      | .ret v => Q (.ret v) s₄) (notedBy (model prog w) A c.env fun e s' => cameBackBy (model prog w) A c.env E e s') s₃) (notedBy (model prog w) A c.env fun e s' => cameBackBy (model prog w) A c.env E e s') s₂) _ hd hX' S'.alive fun v h' tk hX2 hkeep hlive hrep => ?_) (fun r s₂ hr => ?_) fun _ _ e => e
    · have S2 : St G names I' (c.with wr) own' (V.set i l) { s' with heap := h', toks := tk } := S'.off hdis h0m hkeep hlive
      have st2 := hoff hst hkeep
      refine wpAny_assign_Name (S2.bind hsc' hx hrep fun s₃ S₃ x₃ => ?_)
      rw [List.set_set] at S₃
      have hX3 := W.step _ _ _ _ _ hX2 (Step.ofExt x₃)
      have st3 := st2.trans (Step.ofExt x₃)
      refine (hb j _ I' hd hJ).go (c.with wr) own' s₃ A _ _ hsc' R S₃ fun f s₄ I'' hJ' hN' q => ?_
      cases f with
      | next =>
        obtain ⟨own'', y, S₄⟩ := q
        refine ⟨k' - 1, by omega, j + 1, own'', I'', .d ds[j], by omega, hJ', ?_, (fun _ _ q => by cases q), S₄, W.step _ _ _ _ _ hX3 y, st3.trans y, fun b hb q => ?_⟩
        · intro a ha
          rcases hN' a ha with q | q
          · exact hN a q
          · refine .inr ?_
            cases e : s.heap.get? a with
            | none => rfl
            | some o =>
              by_cases z : a ∈ own
              · obtain ⟨o', e'⟩ := S₃.alive a (List.mem_append_left _ (st3.sub a z))
                rw [q] at e'; cases e'
              · rw [st3.ext a o z e] at q; cases q
        · rcases y.new b q with q | q
          · exact hdis b hb q
          · obtain ⟨o, e⟩ := S₃.alive b (mem3.mpr (.inr (.inl hb)))
            rw [q] at e; cases e
      | _ => exact q.elim
    · obtain ⟨v, rfl, hv⟩ := hr
      exact hv
end
end Og
namespace Og
open PySem PySem.Calls PySem.Spec PyProof.Rows

noncomputable def rd0 : Rd := ⟨[], [], none, false⟩
noncomputable def runP (r : Rd) (l : List Int) : Rd := l.foldl putP r
noncomputable def outP (r : Rd) : List Row := if r.begun then doneP r else []
noncomputable def octs (b : List UInt8) : List Int := b.map fun c => (c.toNat : Int)
noncomputable def readP (b : List UInt8) : List Row := outP (runP rd0 (octs b))
structure RdSmall (r : Rd) : Prop where
  p : r.parts.length < 32
  f : r.found.length < 32
  rows : ∀ q ∈ r.found, q.length ≤ 1000
structure ReadOk (b : List UInt8) : Prop where
  range : ∀ c ∈ octs b, 48 ≤ c ∧ c ≤ 59
  small : ∀ k, RdSmall (runP rd0 ((octs b).take k))

section
variable {prog : Program} {w : World} {G : Gl} {I : Inv} {sc : Sc} {names : List Str} {n : Nat} {vals : List Loc} {K : W.Frag} {C fI fC fP fQ fR fS : Addr} {x dx : Addr}

theorem params_spec0 (T : Top G) (RT : RdTop G K C fI fC fP fQ fR fS) {r : Rd} (hb : r.begun = false) : MSpec PP w G 3 fS Inv.none [.d (objD C r)] (fun _ => True) (rowsD []) := by
  refine MSpec.intro (rest := ["parts", "found"]) RT.mS rfl (by intro a es h; simp [objD] at h) (by decide +kernel) (ExT.ofS ?_ trivial) (o := .ret (rowsD [])) rfl
  exact ExS.stop (Ex1.ifT (EvB.not (EvB.of (EvE.attr RT.hK RT.RK 0 5 rfl rfl (by decide) rfl (d := .bool false) (by rw [← hb]; rfl)) (tru_bool false))) (ExS.stop (Ex1.ret (EvE.list EvL.nil))))
theorem params_specO (T : Top G) (RT : RdTop G K C fI fC fP fQ fR fS) {r : Rd} (h : RdSmall r) : MSpec PP w G 3 fS Inv.none [.d (objD C r)] (fun _ => True) (rowsD (outP r)) := by
  unfold outP
  cases hb : r.begun with
  | true => exact params_spec T RT hb h.p h.f h.rows
  | false => exact params_spec0 T RT hb

theorem Spec.introD {name : Str} {params : Arguments} {body : List Stmt} {scope : Scope} {dfl : Option (Array Value)} {n : Nat} {ps rest : List Str} {ds es : List D} {ws : List Value} {d : D} (F : FnAt G name params body scope dfl)
    (hw : ∀ av h, RepAll av h ws es)
    (hb : ∀ (s : Shared) pm code doc dV (vs : List Value), vs.length = ds.length → DflIs s.heap dV dfl →
      BindsTo s (dfd name params body scope pm code doc dV) ⟨vs, []⟩ (ps.zip (vs ++ ws)))
    (hps : ps.length = ds.length + es.length) (hok : okNames scope (ps ++ rest) = true)
    (hx : ExS prog w G Inv.none ⟨scope, []⟩ (ps ++ rest) n ((ds ++ es).map Loc.d ++ List.replicate rest.length Loc.un) body (.ret d))
    (hcell : (scope.names.all fun x => x.2 != .cell) = true := by decide +kernel) (hco : scope.isCoroutine = false := by rfl) (hgen : scope.isGenerator = false := by rfl) (hk : scope.kind = .function := by rfl) :
    Spec prog w G (n + 1) name ds d := by
  obtain ⟨a, o, pm, code, doc, dV, h1, h2, h3, h4, h5⟩ := F.ex
  refine ⟨a, o, _, h1, h2, h3, fun av s A vs Q E R base hal hap r0 k => ?_⟩
  have hlen0 : vs.length = ds.length := r0.length
  have r : RepAll av s.heap (vs ++ ws) (ds ++ es) := r0.append (hw _ _)
  have hlen : (vs ++ ws).length = ps.length := by rw [r.length, hps, List.length_append]
  have hnd := okNames_nodup hok
  have hndp : ps.Nodup := (List.nodup_append.mp hnd).1
  have hzip : (ps.zip (vs ++ ws)).map (·.1) = ps := by rw [List.map_fst_zip (by omega)]
  have hd5 : DflIs s.heap dV dfl := by
    cases dfl with
    | none => exact h5
    | some items => obtain ⟨T, oT, m, e, g, e2⟩ := h5; exact ⟨T, oT, m, e, base _ _ g, e2⟩
  have hbind := hb s pm code doc dV vs hlen0 hd5
  generalize hvw : vs ++ ws = us at *
  refine wpAny_call (codeAny_call_def (by have := R.depth; omega) (base _ _ h2) h3 (G.nolimit.keeps base) (h4.keeps base) rfl hbind ?_ ?_ ?_ hco hgen hk)
  · intro x hx e
    have := List.all_eq_true.mp hcell x hx
    rw [e] at this
    exact absurd this (by decide)
  · intro x hx
    exact (okNames_loc hok x.1 (List.mem_append_left _ (by rw [← hzip]; exact List.mem_map.mpr ⟨x, hx, rfl⟩))).1
  · intro h₁ hn hkeep
    let fd := dfd name params body scope pm code doc dV
    let c : Fc := { env := callEnv fd s.heap.objs.size a, h₀ := s.heap, mt := [], fz := av, s₀ := s }
    have hL : s.heap.get? s.heap.objs.size = none := none_size
    have S : St G (ps ++ rest) Inv.none c [s.heap.objs.size] ((ds ++ es).map Loc.d ++ List.replicate rest.length Loc.un) { s with heap := h₁, toks := s.toks + (ps.zip us).length } :=
      { kind := hk
        glob := rfl
        blt := rfl
        loc := okNames_loc hok
        nodup := hnd
        base := fun b o e => hkeep b o (base b o e)
        ns := by
          refine ⟨_, hn, vars_args (fun p hp => lookup_rev (by rw [hzip]; exact hndp) hp) hlen.symm (r.mono fun a o ha e => ⟨hkeep a o e, fun q => ?_⟩)⟩
          rcases List.mem_append.mp q with q | q
          · rw [List.mem_singleton.mp q, hL] at e; cases e
          · exact ha q
        lown := List.mem_singleton.mpr rfl
        alive := fun x hx => by
          rcases List.mem_append.mp hx with q | q
          · obtain rfl := List.mem_singleton.mp q
            obtain ⟨o', _, _, ho', _⟩ := hn
            exact ⟨o', ho'⟩
          · obtain ⟨o', e⟩ := hal x q; exact ⟨o', hkeep _ _ e⟩
        ext := fun b o _ e => hkeep b o e
        fresh := fun x hx => .inr (by rw [List.mem_singleton.mp hx]; exact hL)
        apart := fun x hx => by
          rcases List.mem_append.mp hx with q | q
          · obtain rfl := List.mem_singleton.mp q
            cases e : G.hb.get? s.heap.objs.size with
            | none => rfl
            | some o => have := base _ _ e; rw [hL] at this; cases this
          · exact hap x q
        inv := trivial
        iown := fun _ hx => nomatch hx
        same := ⟨rfl, rfl, rfl⟩ }
    refine hx.go c _ _ _ _ _ ⟨rfl, rfl⟩ R.deeper S fun f s' q => ?_
    cases f <;> first
      | exact q.elim
      | (obtain ⟨own', vals', _, S', rr⟩ := q
         have := k _ s'.heap s'.toks (fun b o e => S'.ext b o (fun z => nomatch z) e) (rr.mono fun a o ha e => ⟨e, fun z => ha (List.mem_append_right _ z)⟩)
         rw [← S'.same.eq] at this
         exact this)

theorem St.forget {c : Fc} {own : List Addr} {s : Shared} (S : St G names I c own vals s) : St G names Inv.none c own vals s := { S with inv := trivial, iown := fun _ h => nomatch h }
theorem rows_rep {av : List Addr} {h : Heap} {ls : OL} {ras : List Addr} {rs : List Row} (H : RowsAt ls ras rs) (hl : ∀ p ∈ ls, ∃ m, h.get? p.1 = some { cls := .type "list", data := .seq p.2.toArray m }) (hav : ∀ p ∈ ls, p.1 ∉ av) : RepAll av h (ras.map Value.ref) (rs.map rowD) := by
  induction H with
  | nil => exact .nil
  | cons a b _ ih =>
    obtain ⟨m, e⟩ := hl _ a
    exact .cons (.lst (hav _ a) e (b _ _)) ih
theorem rd_rep {r : Rd} {h : Heap} {av : List Addr} (hI : RdI C x r I) (hP : I.P h) (hav : ∀ a ∈ I.ad, a ∉ av) : Rep av h (.ref x) (objD C r) := by
  obtain ⟨dx, fa, pa, ras, vm, vl, vv, us, ls, H⟩ := hI
  obtain rfl := H.eq
  obtain ⟨es, nn, hd, hfe⟩ := hP.obj.fld
  have hla : ∀ p ∈ ls, p.1 ∉ av := fun p hp => hav _ (.tail _ (.tail _ (List.mem_map.mpr ⟨p, hp, rfl⟩)))
  obtain ⟨m1, e1⟩ := hP.lst _ H.lf
  obtain ⟨m2, e2⟩ := hP.lst _ H.lp
  exact .obj (hav x (.head _)) (hav dx (.tail _ (.head _))) hP.obj.inst hd hfe hP.obj.nd (.cons (H.hm _ _) (.cons (H.hl _ _) (.cons (.lst (hla _ H.lf) e1 (rows_rep H.rows hP.lst hla)) (.cons (.lst (hla _ H.lp) e2 (H.hus _ _)) (.cons (H.hv _ _) (.cons (.bool _) .nil))))))

theorem put_call (T : Top G) (RT : RdTop G K C fI fC fP fQ fR fS) {r : Rd} {q : Int} (hI : RdI C x r I) (h1 : 48 ≤ q) (h2 : q ≤ 59) (hr : RdSmall r) {e : Expr} {p apos cpos pos : Pos} (i : Nat) {y : Str} (hx : names[i]? = some y) (hl : vals[i]? = some (.v (.ref x))) (hE : EvE PP w G I sc names n vals e (.int q)) (hno : ∀ a es, Loc.own a es ∉ vals) (hn : 4 ≤ n := by omega)
    {pl : Env → Sem Bool} (he : ∀ env, eval (.Call (.Attribute (.Name y p) "put" apos) [e] [] cpos) env = (do
      let ov ← eval (.Name y p) env
      standAt apos.atName
      let (f, first) ← holding [ov] (getMethod ov "put" (pl env))
      callWith cpos f first (backTo cpos (starEach [e] env)) (backToKw cpos (keywordEach [] env))) := by intro _; rfl)
    (hst : ∀ env, starEach [e] env = (false, eval e env) :: starEach [] env := by exact fun _ => star_plain rfl)
    (hsw : ∀ env, swapsWith (.Call (.Attribute (.Name y p) "put" apos) [e] [] cpos) none pos.line env = pure false := by intro _; rfl) :
    Ex1T PP w G I sc names n vals (.Expr (.Call (.Attribute (.Name y p) "put" apos) [e] [] cpos) pos) (RdI C x (putP r q)) vals := by
  have hs := put_spec (w := w) T RT hI h1 h2 hr.p hr.f
  obtain ⟨dx, fa, pa, ras, vm, vl, vv, us, ls, H⟩ := hI
  obtain rfl := H.eq
  exact Ex1T.call1 RT.hK RT.RK i hx hl (by simp) (by decide) hE hs rfl hn hno (pl := pl) he hst hsw

theorem read_params_spec (T : Top G) (RT : RdTop G K C fI fC fP fQ fR fS) (hC : G.mg "ParamReader" = some (.ref C)) {t u : Tok} (hF : Fn G 33 (some #[.int 32 t, .int 65535 u])) (b : List UInt8) (hb : ReadOk b) : Spec PP w G 6 "read_params" [.bytes b.toArray] (rowsD (readP b)) := by
  refine Spec.introD (ps := ["octets", "most", "limit"]) (rest := ["reader", "octet"]) (es := [.int 32, .int 65535]) (ws := [.int 32 t, .int 65535 u]) hF (fun _ _ => .cons (.int _ _) (.cons (.int _ _) .nil)) (fun s pm code doc dV vs hl hd => ?_) rfl (by decide +kernel) ?_
  · obtain ⟨a, rfl⟩ := len1 hl
    obtain ⟨T', oT, m, rfl, hT', hS'⟩ := hd
    exact BindsTo.of_defaults rfl hT' hS' rfl rfl
  · constructor
    intro c own s A Q E hsc R S k
    have hno : ∀ (v : Value) (l : Loc), (∀ a es, l ≠ Loc.own a es) → ∀ a es, Loc.own a es ∉ [Loc.d (.bytes b.toArray), .d (.int 32), .d (.int 65535), .v v, l] := by
      intro v l hl a es h
      simp at h
      exact hl a es h.symm
    refine wpAny_execs_cons (make_go T RT hC 3 rfl (EvE.name 1 rfl rfl) (EvE.name 2 rfl rfl) (by omega) (by intro a es h; simp at h) hsc R S fun x s₁ I₁ own₁ hI₁ hN₁ st₁ S₁ => ?_)
    refine wpAny_execs_cons ((Ex1T.for (V := [.d (.bytes b.toArray), .d (.int 32), .d (.int 65535), .v (.ref x), .un]) 4 rfl (EvI.bytes (EvE.name 0 rfl rfl)) (fun j I' => RdI C x (runP rd0 ((octs b).take j)) I') (by simpa [runP, rd0] using hI₁) (fun l hl => hno _ l hl) (fun j d I' hd hJ => ?_)).go c own₁ s₁ A _ E hsc R S₁ fun s₂ I₂ own₂ hI₂ hN₂ st₂ S₂ => ?_)
    · obtain ⟨q, hq, rfl⟩ : ∃ q, (octs b)[j]? = some q ∧ d = .int q := by
        simp only [bytesD, List.getElem?_map] at hd
        cases e : b[j]? with
        | none => rw [e] at hd; cases hd
        | some c => rw [e] at hd; exact ⟨c.toNat, by simp [octs, e], by simpa using hd.symm⟩
      have hr := hb.range q (List.mem_of_getElem? hq)
      refine ExT.cons (put_call T RT hJ hr.1 hr.2 (hb.small j) 3 rfl rfl (EvE.name 4 rfl rfl) (hno _ _ fun _ _ q => by cases q)) fun I'' hI'' => ExT.nil ?_
      have : (octs b).take (j + 1) = (octs b).take j ++ [q] := by rw [List.take_add_one, hq]; rfl
      rw [this]
      unfold runP at hI'' ⊢
      rw [List.foldl_append]
      exact hI''
    · have hlen : (octs b).take (bytesD b.toArray).length = octs b := by rw [List.take_of_length_le]; simp [octs, bytesD]
      rw [hlen] at hI₂
      have hsm : RdSmall (runP rd0 (octs b)) := by have := hb.small (octs b).length; rw [List.take_length] at this; exact this
      have hN := NewAd.trans hN₁ S st₁ S₁ hN₂
      have hds : ∀ a ∈ I₂.ad, s.heap.get? a = none := fun a ha => (hN a ha).resolve_left (fun q => nomatch q)
      have hao : ∀ a ∈ I₂.ad, a ∉ own ++ c.fz := fun a ha q => by
        obtain ⟨o, e⟩ := S.alive a q
        rw [hds a ha] at e; cases e
      let own₀ := own₂.filter fun a => !(I₂.ad.elem a)
      have hm : ∀ a, a ∈ own₀ ↔ a ∈ own₂ ∧ a ∉ I₂.ad := fun a => by simp [own₀, List.mem_filter]
      have S₀ : St G ["octets", "most", "limit", "reader", "octet"] Inv.none c own₀ _ s₂ := S₂.forget.narrow (fun a ha => ((hm a).mp ha).1) ((hm _).mpr ⟨S₂.lown, fun q => (S₂.iown _ q).2 rfl⟩) (fun a ha => nomatch ha) (fun a es h => absurd h (hno _ .un (fun _ _ q => by cases q) a es))
      have hrep : Rep (own₀ ++ c.fz) s₂.heap (.ref x) (objD C (runP rd0 (octs b))) := rd_rep hI₂ S₂.inv fun a ha q => by
        rcases List.mem_append.mp q with q | q
        · exact ((hm a).mp q).2 ha
        · exact hao a ha (List.mem_append_right _ q)
      have st0 : Step own s.heap own₀ s₂.heap := by
        have z := st₁.trans st₂
        exact ⟨z.ext, fun a ha => (hm a).mpr ⟨z.sub a ha, fun q => hao a q (List.mem_append_left _ ha)⟩, fun a ha => z.new a ((hm a).mp ha).1⟩
      have hI₂' := hI₂
      obtain ⟨dx, fa, pa, ras, vm, vl, vv, us, ls, H⟩ := hI₂
      have hP := S₂.inv
      rw [H.eq] at hP
      refine wpAny_execs_cons (wpAny_Return_some (W.methodCall_KW (name_go S₂ (i := 3) rfl rfl (get_meth (inK RT.hK S₂) RT.RK hP.obj (name := "params") (f := fS) (by simp) (by decide) ?_)) rfl))
      refine W.callWith_K0 (inK RT.hK S₂) (RT.RK.meth ("params", fS) (by simp)).2.2 ?_
      refine (params_specO T RT hsm).use (n := 5) (by omega) R S₀ (.d hrep .nil) (fun a es q => by simp [Inv.none]) fun v s' I' own' hJ hN' st' S' r => ?_
      exact k (.ret v) s' ⟨own', _, st0.trans st', S'.forget, r⟩
end
end Og
namespace Og
open PySem PySem.Calls PySem.Spec PyProof.Rows

noncomputable def ReadTop (w : World) (G : Gl) : Prop := ∀ b : List UInt8, ReadOk b → Spec PP w G 6 "read_params" [.bytes b.toArray] (rowsD (readP b))
noncomputable def orOne (rs : List Row) : List Row := if rs = [] then [[none]] else rs
noncomputable def stepR (p q : Pen) : List Row := match sgrP p q with
  | none => []
  | some rs => if rs = [] then [one 0] else rs
structure StepLaw (p q : Pen) (cd : Bool) : Prop where
  ok1 : PenOk p
  ok2 : PenOk q
  tell1 : canTell cd p
  tell2 : canTell cd q
  empty : ∀ rs, sgrP p q = some rs → (rs = [] ↔ toldPen q = plainPen 0)
  read : ∀ rs, sgrP p q = some rs → ReadOk (paramsB rs) ∧ readP (paramsB rs) = rs
  rows : ∀ rs, sgrP p q = some rs → RowsOk rs
  app : ∀ rs, sgrP p q = some rs → app p (orOne rs) = q
noncomputable def fourD (p : Pen) : D := .tup (iD [p.f, p.a, p.b, p.u])
theorem four_inj {p q : Pen} : fourD p = fourD q ↔ toldPen p = toldPen q := by
  cases p; cases q
  simp [fourD, iD, toldPen]

section
variable {prog : Program} {w : World} {G : Gl} {I : Inv} {sc : Sc} {names : List Str} {n : Nat} {vals : List Loc}

theorem cmp_neBool (a b : Bool) : CmpOk prog w .NotEq (.bool a) (.bool b) (a != b) := by
  intro av s A v₁ v₂ Q E _ _ r₁ r₂ k
  cases r₁; cases r₂
  exact PyProof.Rows.ne_bool (k s.heap s.toks (fun _ _ e => e))
theorem EvE.four {e : Expr} {p pos : Pos} {k : Nat} {q : Pos} {x : Pen} (h : EvE prog w G I sc names n vals e (penD x)) : EvE prog w G I sc names n vals (.Subscript e (.Slice Option.none (some (.Constant (.int 4) k q)) Option.none p) pos) (fourD x) :=
  (EvE.cutT (b := some 4) h EvP.no (EvP.at EvE.cInt) (by show (5 : Nat) ≤ sizeLine; exact Nat.le_of_ble_eq_true rfl)).eq rfl
theorem optD_ok (o : Option Int) (n : Nat) : (optD o).ok n = true := by cases o <;> cases n <;> rfl
theorem rowsD_ok (rs : List Row) : (rowsD rs).ok 8 = true := by
  simp only [rowsD, D.ok, List.all_eq_true, List.mem_map]
  rintro _ ⟨r, _, rfl⟩
  simp only [rowD, D.ok, List.all_eq_true, List.mem_map]
  rintro _ ⟨o, _, rfl⟩
  exact optD_ok o _
theorem map_inj' {α β : Type} {f : α → β} (hf : ∀ a b, f a = f b → a = b) : ∀ {x y : List α}, x.map f = y.map f → x = y
  | [], [], _ => rfl
  | [], _ :: _, h => by simp at h
  | _ :: _, [], h => by simp at h
  | a :: x, b :: y, h => by
    simp only [List.map_cons, List.cons.injEq] at h
    rw [hf _ _ h.1, map_inj' hf h.2]
theorem rowsD_inj {a b : List Row} (h : rowsD a = rowsD b) : a = b := by
  simp only [rowsD, D.lst.injEq] at h
  exact map_inj' (fun x y e => by simp only [rowD, D.lst.injEq] at e; exact map_inj' (fun _ _ => optD_inj) e) h
theorem rows_eq (a b : List Row) : decide (a = b) = true ↔ rowsD a = rowsD b := by
  rw [decide_eq_true_eq]
  exact ⟨fun h => by rw [h], rowsD_inj⟩
theorem rows_nil (a : List Row) : decide (a = []) = true ↔ rowsD a = .lst [] := rows_eq a []
theorem fourD_ok (p : Pen) : (fourD p).ok 8 = true := rfl

theorem step_right_spec (T : Top G) (RD : ReadTop w G) (p q : Pen) (cd : Bool) (H : StepLaw p q cd) : Spec PP w G 8 "_law_step_right" [penD p, penD q, .bool cd] (.tup [.bool true, rowsD (stepR p q)]) := by
  have hsl : sizeLine = 16777216 := rfl
  refine Spec.intro (ps := ["one", "other", "can_direct"]) (rest := ["params", "octets", "told", "is_right"]) (T.fns 71 (by decide)) (fun s pm code doc dV vs hl hd => ?_) rfl (by decide +kernel) ?_
  · obtain ⟨a, b, c, rfl⟩ := len3 hl
    exact BindsTo.of_eq (by cases hd; rfl)
  · refine ExS.cons (Ex1.assign2 (d := orD (sgrP p q)) (e := .bytes (octB (sgrP p q)).toArray) 3 4 rfl rfl (EvE.tuple (EvL.cons (EvE.call (sgr_params_spec T p q cd H.ok1 H.ok2 H.tell1 H.tell2) (EvL.cons (EvE.name 0 rfl rfl) (EvL.cons (EvE.name 1 rfl rfl) (EvL.cons (EvE.name 2 rfl rfl) EvL.nil))))
      (EvL.cons (EvE.call (sgr_octets_spec T p q cd H.ok1 H.ok2 H.tell1 H.tell2) (EvL.cons (EvE.name 0 rfl rfl) (EvL.cons (EvE.name 1 rfl rfl) (EvL.cons (EvE.name 2 rfl rfl) EvL.nil)))) EvL.nil)))) ?_
    by_cases he : toldPen p = toldPen q
    · have hs : sgrP p q = none := by unfold sgrP; rw [if_pos he]
      rw [show stepR p q = [] by unfold stepR; rw [hs], hs]
      refine ExS.stop (Ex1.ifT (EvB.cmp (EvE.four (EvE.name 0 rfl rfl)) (EvE.four (EvE.name 1 rfl rfl)) (cmp_eq (fourD_ok _) (fourD_ok _) (by simp [four_inj, he]))) (ExS.stop (Ex1.ret (EvE.tuple (EvL.cons (EvE.and2T (EvE.cmp (EvE.name 3 rfl rfl) EvE.cNone cmp_isNone) (tru_bool true) (EvE.cmp (EvE.name 4 rfl rfl) EvE.bytes (cmp_eqB _ _ (r := true) (by simp [octB])))) (EvL.cons (EvE.list EvL.nil) EvL.nil))))))
    · obtain ⟨rs, hs⟩ : ∃ rs, sgrP p q = some rs := by unfold sgrP; rw [if_neg he]; exact ⟨_, rfl⟩
      have hemp := H.empty rs hs
      have hrd := H.read rs hs
      have hrows := H.rows rs hs
      have happ := H.app rs hs
      have hpar : (∀ r ∈ rs, ParOk r) ∧ rs.length ≤ 40 := by
        have : rs = chosen (toldPen p) (toldPen q) := by unfold sgrP at hs; rw [if_neg he] at hs; exact (Option.some.inj hs).symm
        rw [this]; exact chosen_ok H.ok2.told
      have hb := paramsB_len hpar.1 (by omega)
      rw [show stepR p q = if rs = [] then [one 0] else rs by unfold stepR; rw [hs], hs]
      refine ExS.cons (Ex1.ifF (EvB.cmp (EvE.four (EvE.name 0 rfl rfl)) (EvE.four (EvE.name 1 rfl rfl)) (cmp_eq (fourD_ok _) (fourD_ok _) (by simp [four_inj, he]))) ExS.nil) ?_
      refine ExS.cons (Ex1.ifF (EvB.all (EvAll.goO (EvB.cmp (EvE.name 3 rfl rfl) EvE.cNone (cmp_isList _)) (EvAll.goO (EvB.cmp (EvE.cmp (EvE.name 3 rfl rfl) (EvE.list EvL.nil) (cmp_eq (rowsD_ok rs) rfl (rows_nil rs))) (EvE.cmp (EvE.four (EvE.name 1 rfl rfl)) (EvE.four (EvE.glob (plain_data T))) (cmp_eq (fourD_ok _) (fourD_ok _) (r := decide (rs = [])) (by
          rw [decide_eq_true_eq, hemp, four_inj]; exact Iff.rfl))) ((cmp_neBool _ _).eq (by simp))) EvAll.nil))) ExS.nil) ?_
      refine ExS.cons (Ex1.assign 5 rfl (EvE.call (params_octets_spec T rs hpar.1 (by omega)) (EvL.cons (EvE.name 3 rfl rfl) EvL.nil))) ?_
      refine ExS.cons (Ex1.assign 6 rfl (EvE.and2T (EvE.cmp (EvE.name 4 rfl rfl) (EvE.bin (EvE.bin EvE.bytes (EvE.name 5 rfl rfl) (op_catB (by simp; omega))) EvE.bytes (op_catB (by simp; omega))) (cmp_eqB _ _ (r := true) (by simp [octB]))) (tru_bool true)
        (EvE.cmp (EvE.call (RD _ hrd.1) (EvL.cons (EvE.name 5 rfl rfl) EvL.nil)) (EvE.name 3 rfl rfl) (cmp_eq (rowsD_ok _) (rowsD_ok _) (r := true) (by rw [hrd.2]; simp [orD]))))) ?_
      refine ExS.stop (Ex1.ret (EvE.tuple (EvL.cons (EvE.and2T (EvE.name 6 rfl rfl) (tru_bool true) (EvE.cmp (EvE.call (apply_sgr_spec T p rs hrows) (EvL.cons (EvE.name 0 rfl rfl) (EvL.cons (EvE.name 3 rfl rfl) EvL.nil))) (EvE.name 1 rfl rfl) (cmp_eq (penD_ok _) (penD_ok _) (r := true) (by
        have : Og.app p (if rs = [] then [[none]] else rs) = q := happ
        rw [this]; simp)))) (EvL.cons ?_ EvL.nil))))
      by_cases hn : rs = []
      · rw [if_pos hn]
        exact EvE.ifF (EvB.cmp (EvE.name 3 rfl rfl) (EvE.list EvL.nil) (cmp_ne (rowsD_ok rs) rfl (r := false) (by simp [hn, rowsD, orD]))) (EvE.list (EvL.cons (EvE.list (EvL.cons EvE.cInt EvL.nil)) EvL.nil))
      · rw [if_neg hn]
        exact EvE.ifT (EvB.cmp (EvE.name 3 rfl rfl) (EvE.list EvL.nil) (cmp_ne (rowsD_ok rs) rfl (r := true) (by simp [rowsD, orD, hn]))) (EvE.name 3 rfl rfl)
end
end Og
namespace Og
open PySem PySem.Calls PySem.Spec PyProof.Rows

noncomputable def Pen.link (p : Pen) (l : Int) : Pen := { p with l := l }
structure ToldLaw (ps : List Pen) : Prop where
  len : ps.length ≤ 1000
  ok : ∀ p ∈ ps, PenOk p
  read : ∀ p ∈ ps, ReadOk (penB p)
  rows : ∀ p ∈ ps, RowsOk (readP (penB p))
  app : ∀ p ∈ ps, ∀ q ∈ ps, app (q.link 7) (orOne (readP (penB p))) = p.link 7
  inj : ∀ p ∈ ps, ∀ q ∈ ps, (penB q = penB p ↔ toldPen p = toldPen q)

section
variable {prog : Program} {w : World} {G : Gl} {I : Inv} {sc : Sc} {names : List Str} {n : Nat} {vals : List Loc}

theorem EvE.fourLink {e : Expr} {p pos q tp bp : Pos} {k j : Nat} {x : Pen} {l : Int} {el : Expr} (h : EvE PP w G I sc names n vals e (penD x)) (hl : EvE PP w G I sc names n vals el (.int l)) (hst : noStar el = true := by rfl) :
    EvE PP w G I sc names n vals (.BinOp (.Subscript e (.Slice Option.none (some (.Constant (.int 4) k q)) Option.none p) pos) .Add (.Tuple [el] j tp) bp) (penD (x.link l)) :=
  (EvE.bin (EvE.four h) (EvE.tuple (EvL.row hl hst)) (op_catT (by show 4 + 1 ≤ sizeLine; exact Nat.le_of_ble_eq_true rfl))).eq rfl

theorem told_right_spec (T : Top G) (RD : ReadTop w G) (ps : List Pen) (H : ToldLaw ps) : Spec PP w G 8 "_law_told_right" [.lst (ps.map penD)] (.bool true) := by
  have hsl : sizeLine = 16777216 := rfl
  refine Spec.intro (ps := ["pens"]) (rest := ["one", "told", "other"]) (T.fns 73 (by decide)) (fun s pm code doc dV vs hl hd => ?_) rfl (by decide +kernel) ?_
  · obtain ⟨a, rfl⟩ := len1 hl
    exact BindsTo.of_eq (by cases hd; rfl)
  · refine ExS.cons (Ex1.for (top := false) (EvI.list (EvE.name 0 rfl rfl)) (ForOk.fam (σ := Unit) penD (fun _ => [.d (.lst (ps.map penD)), .un, .un, .un]) (fun u _ => u) (fun _ => True) ps (fun _ p hp _ => ⟨trivial, ?_⟩) () trivial)) ?_
    · have hpo := H.ok p hp
      have hb : (penB p).length ≤ 31000 := by
        have hcl := changesP_len (plainPen 0) (toldPen p)
        refine paramsB_len (fun r hr => ?_) (by simp; omega)
        rcases List.mem_cons.mp hr with rfl | hr
        · exact one_ok (by omega)
        · exact changesP_ok hpo.told r hr
      refine ⟨_, _, AsT.name 1 rfl, ?_, .inl (ExS.cons (Ex1.assign 2 rfl (EvE.call (pen_octets_spec T p hpo) (EvL.cons (EvE.name 1 rfl rfl) EvL.nil))) (ExS.cons (Ex1.for (top := false) (EvI.list (EvE.name 0 rfl rfl)) (ForOk.fam (σ := Unit) penD (fun _ => [.d (.lst (ps.map penD)), .d (penD p), .d (.bytes (penB p).toArray), .un]) (fun u _ => u) (fun _ => True) ps (fun _ q hq _ => ⟨trivial, ?_⟩) () trivial)) ExS.nil))⟩
      · exact .same (.un (.un (.un .nil)))
      · have hqo := H.ok q hq
        refine ⟨_, [.d (.lst (ps.map penD)), .d (penD p), .d (.bytes (penB p).toArray), .d (penD q)], AsT.name 3 rfl, .same (.same (.same (.un .nil))), .inl ?_⟩
        refine ExS.cons (Ex1.ifF (EvB.cmp (EvE.call (apply_sgr_spec T (q.link 7) (readP (penB p)) (H.rows p hp)) (EvL.cons (EvE.fourLink (EvE.name 3 rfl rfl) EvE.cInt) (EvL.cons (EvE.call (RD _ (H.read p hp)) (EvL.cons (EvE.name 2 rfl rfl) EvL.nil)) EvL.nil))) (EvE.fourLink (EvE.name 1 rfl rfl) EvE.cInt) (cmp_ne (penD_ok _) (penD_ok _) (r := false) (by
          have : Og.app (q.link 7) (if readP (penB p) = [] then [[none]] else readP (penB p)) = p.link 7 := H.app p hp q hq
          rw [this]; simp))) ExS.nil) ?_
        refine ExS.cons (Ex1.ifF (EvB.cmp (EvE.cmp (EvE.call (pen_octets_spec T q hqo) (EvL.cons (EvE.name 3 rfl rfl) EvL.nil)) (EvE.name 2 rfl rfl) (cmp_eqB _ _ (r := decide (penB q = penB p)) (by simp))) (EvE.cmp (EvE.four (EvE.name 1 rfl rfl)) (EvE.four (EvE.name 3 rfl rfl)) (cmp_eq (fourD_ok _) (fourD_ok _) (r := decide (penB q = penB p)) (by
          rw [decide_eq_true_eq, H.inj p hp q hq, four_inj]))) ((cmp_neBool _ _).eq (by simp))) ExS.nil) ExS.nil
    · exact ExS.stop (Ex1.ret EvE.cBool)
end
end Og
namespace Og
open PySem PySem.Calls PySem.Spec PyProof.Rows

section
variable {prog : Program} {w : World} {G : Gl} {I : Inv} {sc : Sc} {names : List Str} {n : Nat} {vals : List Loc}

theorem EvE.itemLast {value slice : Expr} {pos : Pos} {ds : List D} {d : D} (hv : EvE prog w G I sc names n vals value (.lst ds)) (hi : EvE prog w G I sc names n vals slice (.int (-1))) (hd : ds[ds.length - 1]? = some d)
    (hs : ∀ o j, subscripted slice false o j = operate [o, j] (getItem o j) := by intro _ _; rfl) : EvE prog w G I sc names n vals (.Subscript value slice pos) d := by
  constructor
  intro c own s A Q E hsc R S k
  refine Subscript_ (hv.go c own s A _ E hsc R S fun v s₁ S₁ x₁ r₁ => hi.go c own s₁ A _ E hsc R S₁ fun j s₂ S₂ x₂ r₂ => ?_)
  have r₃ := r₁.ext x₂
  cases r₂
  cases r₃ with | @lst l vs m _ ha ho rs =>
  obtain ⟨x, hx, rx⟩ := rs.get hd
  have hlt : ds.length - 1 < ds.length := (List.getElem?_eq_some_iff.mp hd).1
  have hl' : s₂.heap.IsList l vs.toArray := ⟨_, ho, rfl, m, rfl⟩
  have hlv := rs.length
  refine tail_any hl'.typeIs list_getitem_lookup (wpAny_getItem_list_neg hl' (by decide) (by simp only [List.size_toArray]; omega) (by decide) (x := x) ?_ (k x s₂ S₂ (x₁.trans x₂) rx)) (hs _ _)
  have : ((-1 : Int) + (vs.toArray.size : Int)).toNat = ds.length - 1 := by simp only [List.size_toArray]; omega
  rw [this]
  simpa using hx

noncomputable def pairsD (xs ys : List D) : List D := (xs.zip ys).map fun p => .tup [p.1, p.2]
theorem iter_zip {A : Around} (hA : A.handled = none) {elts : List Expr} {k : Nat} {pos : Pos} {fz : List Addr} {z TI TO i1 i2 l1 l2 : Addr} {xs ys : List D} (D : ZipApart z TI TO i1 i2 l1 l2) (hl1 : l1 ∉ fz) (hl2 : l2 ∉ fz) (hw1 : l1 ∉ [z, TI, TO, i1, i2]) (hw2 : l2 ∉ [z, TI, TO, i1, i2]) :
    Iter prog w A (.ref z) true (.Tuple elts k pos) fz [z, TI, TO, i1, i2] (pairsD xs ys) (fun own i h => (IsZip h z TI TO .none ∧ IsPair h TI (.ref i1) (.ref i2) ∧ (∃ a b, IsPair h TO a b) ∧ h.IsListIter i1 l1 i ∧ h.IsListIter i2 l2 i) ∧ (∀ b ∈ [z, TI, TO, i1, i2], b ∉ own) ∧ l1 ∉ own ∧ l2 ∉ own ∧
      (∃ vs m, h.get? l1 = some { cls := .type "list", data := .seq vs.toArray m } ∧ RepAll (own ++ ([z, TI, TO, i1, i2] ++ fz)) h vs xs) ∧ (∃ vs m, h.get? l2 = some { cls := .type "list", data := .seq vs.toArray m } ∧ RepAll (own ++ ([z, TI, TO, i1, i2] ++ fz)) h vs ys)) where
  step := fun own i h own' h' x st => by
    obtain ⟨⟨hz, hTI, ⟨a, b, hTO⟩, h1, h2⟩, hn, n1, n2, ⟨vs, m, ho, rs⟩, ⟨vs', m', ho', rs'⟩⟩ := x
    have kp : ∀ b ∈ [z, TI, TO, i1, i2], ∀ o, h.get? b = some o → h'.get? b = some o := fun b hb o e => st.ext b o (hn b hb) e
    have nn : ∀ b, b ∉ own → (∃ o, h.get? b = some o) → b ∉ own' := fun b hb ⟨o, e⟩ q => by
      rcases st.new b q with q | q
      · exact hb q
      · rw [e] at q; cases q
    refine ⟨⟨kp z (by simp) _ hz, kp TI (by simp) _ hTI, ⟨a, b, kp TO (by simp) _ hTO⟩, h1.at fun o e => kp i1 (by simp) o e, h2.at fun o e => kp i2 (by simp) o e⟩, fun b hb => nn b (hn b hb) ?_, nn l1 n1 ⟨_, ho⟩, nn l2 n2 ⟨_, ho'⟩, ⟨vs, m, st.ext _ _ n1 ho, rs.step st⟩, ⟨vs', m', st.ext _ _ n2 ho', rs'.step st⟩⟩
    simp only [List.mem_cons, List.not_mem_nil, or_false] at hb
    rcases hb with rfl | rfl | rfl | rfl | rfl
    · exact ⟨_, hz⟩
    · exact ⟨_, hTI⟩
    · exact ⟨_, hTO⟩
    · exact let ⟨o, e, _⟩ := h1; ⟨o, e⟩
    · exact let ⟨o, e, _⟩ := h2; ⟨o, e⟩
  item := fun own i d s Q E hd x hal kk => by
    obtain ⟨⟨hz, hTI, ⟨a, b, hTO⟩, h1, h2⟩, hn, n1, n2, ⟨vs, m, ho, rs⟩, ⟨vs', m', ho', rs'⟩⟩ := x
    obtain ⟨d1, d2, hd1, hd2, rfl⟩ : ∃ d1 d2, xs[i]? = some d1 ∧ ys[i]? = some d2 ∧ d = .tup [d1, d2] := by
      simp only [pairsD, List.getElem?_map, List.getElem?_zip_eq_some, Option.map_eq_some_iff] at hd
      obtain ⟨⟨p, q⟩, hpq, rfl⟩ := hd
      exact ⟨p, q, hpq.1, hpq.2, rfl⟩
    obtain ⟨v1, hv1, r1⟩ := rs.get hd1
    obtain ⟨v2, hv2, r2⟩ := rs'.get hd2
    have L1 : s.heap.IsList l1 vs.toArray := ⟨_, ho, rfl, m, rfl⟩
    have L2 : s.heap.IsList l2 vs'.toArray := ⟨_, ho', rfl, m', rfl⟩
    refine wpAny_pyNext_zip_item D hz hTI hTO h1 h2 L1 L2 (x := v1) (y := v2) (by simpa using hv1) (by simpa using hv2) fun h' a1 a2 a3 a4 a5 a6 hk => ⟨_, rfl, ?_⟩
    have lt : ∀ {c o}, s.heap.get? c = some o → s.heap.objs.size ≠ c := fun e => Nat.ne_of_gt (Heap.lt_size e)
    have hTz := lt hz
    refine wpAny_letOwnedTupleGo_zip a1 fun h'' hz'' hs'' => ?_
    have hk2 : ∀ b o, b ∉ [z, TI, TO, i1, i2] → s.heap.get? b = some o → h''.get? b = some o := fun b o hb e => hs''.extBut b o (fun q => hb (by simp [q])) (hk b o (fun q => hb (by simp [q])) (fun q => hb (by simp [q])) (fun q => hb (by simp [q])) (fun q => hb (by simp [q])) e)
    have hkT : h''.get? TI = some { cls := .type "tuple", data := .seq #[.ref i1, .ref i2] } := hs''.extBut _ _ D.TIz (hk _ _ D.TIz D.TITO D.TIi1 D.TIi2 hTI)
    have hTO'' : IsPair h'' TO v1 v2 := hs''.extBut _ _ D.TOz a2
    have hi1 : h''.IsListIter i1 l1 (i + 1) := a3.extBut hs''.extBut D.i1z
    have hi2 : h''.IsListIter i2 l2 (i + 1) := a4.extBut hs''.extBut D.i2z
    have hrep : ∀ {us : List Value} {es : List Og.D}, RepAll (own ++ ([z, TI, TO, i1, i2] ++ fz)) s.heap us es → RepAll (own ++ ([z, TI, TO, i1, i2] ++ fz)) h'' us es := fun r => r.mono fun a o ha e => ⟨hk2 a o (fun q => ha (mem3.mpr (.inr (.inl q)))) e, ha⟩
    refine kk (.ref s.heap.objs.size) h'' s.toks ⟨⟨hz'', hkT, ⟨_, _, hTO''⟩, hi1, hi2⟩, hn, n1, n2, ⟨vs, m, hk2 _ _ hw1 ho, hrep rs⟩, ⟨vs', m', hk2 _ _ hw2 ho', hrep rs'⟩⟩ hk2 (fun b hb => ?_) ⟨s.heap.objs.size, [v1, v2], 0, [d1, d2], rfl, rfl, hs''.extBut _ _ hTz a5, hrep (.cons r1 (.cons r2 .nil))⟩
    simp only [List.mem_cons, List.not_mem_nil, or_false] at hb
    rcases hb with rfl | rfl | rfl | rfl | rfl
    · exact ⟨_, hz''⟩
    · exact ⟨_, hkT⟩
    · exact ⟨_, hTO''⟩
    · exact let ⟨o, e, _⟩ := hi1; ⟨o, e⟩
    · exact let ⟨o, e, _⟩ := hi2; ⟨o, e⟩
  self := fun own i s Q E x k => wpAny_pyIter_zip x.1.1 k
  done := fun own s Q E x kk => by
    obtain ⟨⟨hz, hTI, ⟨a, b, hTO⟩, h1, h2⟩, hn, n1, n2, ⟨vs, m, ho, rs⟩, ⟨vs', m', ho', rs'⟩⟩ := x
    have L1 : s.heap.IsList l1 vs.toArray := ⟨_, ho, rfl, m, rfl⟩
    have L2 : s.heap.IsList l2 vs'.toArray := ⟨_, ho', rfl, m', rfl⟩
    have e1 := rs.length
    have e2 := rs'.length
    have hlen : (pairsD xs ys).length = min xs.length ys.length := by simp [pairsD]
    refine wpAny_pyNext_zip_end hA D hz hTI hTO h1 h2 L1 L2 ?_ fun h' hk => kk h' s.toks fun b o hb e => hk b o (fun q => hb (by simp [q])) (fun q => hb (by simp [q])) (fun q => hb (by simp [q])) (fun q => hb (by simp [q])) e
    rw [hlen]
    rcases Nat.le_total xs.length ys.length with h | h
    · exact .inl (by simp; omega)
    · exact .inr (by simp; omega)

theorem EvI.zip {e₁ e₂ : Expr} {np pos tp : Pos} {elts : List Expr} {k : Nat} {xs ys : List D} (hb : BAt G "zip" (.type "zip")) (h1 : EvE prog w G I sc names n vals e₁ (.lst xs)) (h2 : EvE prog w G I sc names n vals e₂ (.lst ys))
    (hx : sc.scope.names.lookup ("zip" : Str) = some .globalImplicit := by rfl) (hst : ∀ env, starEach [e₁, e₂] env = (false, eval e₁ env) :: starEach [e₂] env := by exact fun _ => star_plain rfl) (hst2 : ∀ env, starEach [e₂] env = (false, eval e₂ env) :: starEach [] env := by exact fun _ => star_plain rfl) :
    EvI prog w G I sc names n vals (.Call (.Name "zip" np) [e₁, e₂] [] pos) (.Tuple elts k tp) true (pairsD xs ys) := by
  constructor
  intro c own s A Q E hsc R S kk
  refine Call_ (EvE.bName hsc S hb ?_ hx (by decide))
  refine PyProof.Rows.callWith_type (by rw [hst, back_cons, hst2]; rfl) ?_
  have hh : wpAny (model prog w) A (spliced (backTo pos (starEach [e₁, e₂] c.env))) (fun vs s₁ => wpAny (model prog w) A (PySem.call (.type "zip") ([] ++ vs) []) (fun x s₁ => wpAny (model prog w) A (pyIter x) Q E s₁) E s₁) E s := by
    refine (EvL.cons h1 (EvL.cons h2 EvL.nil hst2) hst).go c own s A pos _ E hsc R S fun vs s₁ S₁ x₁ rs => ?_
    cases rs with | cons r1 rs => cases rs with | cons r2 rs =>
    cases rs
    cases r1 with | @lst l1 us m _ ha ho rx =>
    cases r2 with | @lst l2 us' m' _ ha' ho' ry =>
    have n0 : ∀ j, s₁.heap.get? (s₁.heap.objs.size + j) = none := fun j => by
      cases e : s₁.heap.get? (s₁.heap.objs.size + j) with
      | none => rfl
      | some o => exact absurd (Heap.lt_size e) (Nat.not_lt.mpr (Nat.le_add_right _ _))
    have hs0 : ∀ j, s.heap.get? (s₁.heap.objs.size + j) = none := fun j => by
      cases e : s.heap.get? (s₁.heap.objs.size + j) with
      | none => rfl
      | some o =>
        by_cases q : (s₁.heap.objs.size + j : Nat) ∈ own
        · exact absurd (List.mem_append_left _ q) (S₁.new (n0 j))
        · have := x₁ _ o q e; rw [n0 j] at this; cases this
    refine call_zip_2 (xs := us.toArray) (ys := us'.toArray) ⟨_, ho, rfl, m, rfl⟩ ⟨_, ho', rfl, m', rfl⟩ fun h' hz hTI hTO hi1 hi2 hsz hk => wpAny_pyIter_zip hz ?_
    have hl1 : @LT.lt Nat _ l1 s₁.heap.objs.size := Heap.lt_size ho
    have hl2 : @LT.lt Nat _ l2 s₁.heap.objs.size := Heap.lt_size ho'
    have e0 : s₁.heap.objs.size = s₁.heap.objs.size + 0 := rfl
    generalize s₁.heap.objs.size = B at *
    have hAp : ZipApart (B + 4) (B + 2) (B + 3) B (B + 1) l1 l2 := by constructor <;> (intro q; have q' : @Eq Nat _ _ := q; omega)
    have hmem : ∀ b, b ∈ [B + 4, B + 2, B + 3, B, B + 1] → ∃ j, b = B + j := fun b hb => by
      simp only [List.mem_cons, List.not_mem_nil, or_false] at hb
      rcases hb with rfl | rfl | rfl | rfl | rfl
      · exact ⟨4, rfl⟩
      · exact ⟨2, rfl⟩
      · exact ⟨3, rfl⟩
      · exact ⟨0, rfl⟩
      · exact ⟨1, rfl⟩
    have hlive : ∀ b ∈ [B + 4, B + 2, B + 3, B, B + 1], ∃ o, h'.get? b = some o := fun b hb => by
      simp only [List.mem_cons, List.not_mem_nil, or_false] at hb
      rcases hb with rfl | rfl | rfl | rfl | rfl
      · exact ⟨_, hz⟩
      · exact ⟨_, hTI⟩
      · exact ⟨_, hTO⟩
      · exact let ⟨o, e, _⟩ := hi1; ⟨o, e⟩
      · exact let ⟨o, e, _⟩ := hi2; ⟨o, e⟩
    have hw : ∀ l : Nat, l < B → l ∉ ([B + 4, B + 2, B + 3, B, B + 1] : List Nat) := fun l hl q => by
      simp only [List.mem_cons, List.not_mem_nil, or_false] at q
      omega
    have hnone : ∀ b ∈ [B + 4, B + 2, B + 3, B, B + 1], s₁.heap.get? b = none := fun b hb => by obtain ⟨j, rfl⟩ := hmem b hb; exact n0 j
    have hrep : ∀ {us : List Value} {es : List Og.D}, RepAll (own ++ c.fz) s₁.heap us es → RepAll (own ++ ([B + 4, B + 2, B + 3, B, B + 1] ++ c.fz)) h' us es := fun r => r.mono fun a o ha e => ⟨hk a o e, fun q => by
      rcases mem3.mp q with q | q | q
      · exact ha (List.mem_append_left _ q)
      · rw [hnone a q] at e; cases e
      · exact ha (List.mem_append_right _ q)⟩
    refine kk _ _ [B + 4, B + 2, B + 3, B, B + 1] _ (S₁.freeze hk ⟨rfl, rfl, rfl⟩ hnone hlive) (x₁.trans (Ext.keeps hk)) (iter_zip (elts := elts) (k := k) (pos := tp) (xs := xs) (ys := ys) R.hand hAp (fun q => ha (List.mem_append_right _ q)) (fun q => ha' (List.mem_append_right _ q)) (hw _ hl1) (hw _ hl2)) ⟨⟨hz, hTI, ⟨_, _, hTO⟩, hi1, hi2⟩, fun b hb q => ?_, fun q => ha (List.mem_append_left _ q), fun q => ha' (List.mem_append_left _ q), ⟨us, m, hk _ _ ho, hrep rx⟩, ⟨us', m', hk _ _ ho', hrep ry⟩⟩ (fun b hb => by obtain ⟨j, rfl⟩ := hmem b hb; exact hs0 j)
    exact S₁.new (hnone b hb) (List.mem_append_left _ q)
  rw [hst, hst2] at hh ⊢
  exact evalArgs_plain hh
end
end Og
namespace Og
open PySem PySem.Calls PySem.Spec PyProof.Rows

noncomputable def pairs (ps : List Pen) : List (Pen × Pen) := ps.zip (ps.drop 1)
noncomputable def chainR (ps : List Pen) : List Row := (pairs ps).foldl (fun acc x => acc ++ stepR x.1 x.2) []
structure ChainLaw (ps : List Pen) (cd : Bool) : Prop where
  ne : ps ≠ []
  len : ps.length ≤ 100
  step : ∀ x ∈ pairs ps, StepLaw x.1 x.2 cd
  rows : chainR ps ≠ [] → RowsOk (chainR ps)
  app : chainR ps ≠ [] → app (ps.headD (plainPen 0)) (chainR ps) = ps.getLastD (plainPen 0)

section
variable {prog : Program} {w : World} {G : Gl} {I : Inv} {sc : Sc} {names : List Str} {n : Nat} {vals : List Loc}

set_option tactic.hygienic true in
theorem stepR_len {p q : Pen} {cd : Bool} (H : StepLaw p q cd) : (stepR p q).length ≤ 41 := by
  unfold stepR
  split
  · simp
  · rename_i rs hs
    have h2 : rs.length ≤ 40 := by
      unfold sgrP at hs
      split at hs
      · cases hs
      · rw [← Option.some.inj hs]; exact (chosen_ok H.ok2.told).2
    split
    · simp
    · omega
theorem pairs_eq (ps : List Pen) : pairsD (ps.map penD) ((ps.map penD).drop 1) = (pairs ps).map fun x => .tup [penD x.1, penD x.2] := by
  unfold pairsD pairs
  rw [← List.map_drop, List.zip_map, List.map_map]
  rfl

theorem chain_right_spec (T : Top G) (RD : ReadTop w G) (ps : List Pen) (cd : Bool) (H : ChainLaw ps cd) : Spec PP w G 9 "_law_chain_right" [.lst (ps.map penD), .bool cd] (.bool true) := by
  have hsl : sizeLine = 16777216 := rfl
  have hlp := H.len
  refine Spec.intro (ps := ["pens", "can_direct"]) (rest := ["rows", "one", "other", "is_right", "params"]) (T.fns 72 (by decide)) (fun s pm code doc dV vs hl hd => ?_) rfl (by decide +kernel) ?_
  · obtain ⟨a, b, rfl⟩ := len2 hl
    exact BindsTo.of_eq (by cases hd; rfl)
  · refine ExS.cons (Ex1.assign (d := rowsD []) 2 rfl (EvE.list EvL.nil)) ?_
    refine ExS.cons (Ex1.for (top := true) (ds := (pairs ps).map fun x => .tup [penD x.1, penD x.2]) (pairs_eq ps ▸ EvI.zip (T.blt ("zip", _) (by simp)) (EvE.name 0 rfl rfl) ((EvE.cutL (a := some 1) (EvE.name 0 rfl rfl) (EvP.at EvE.cInt) EvP.no (by rw [List.length_map]; omega)).eq (by rw [cut_from])))
      (ForOk.famP (σ := List Row) (fun x : Pen × Pen => .tup [penD x.1, penD x.2]) (fun acc => [.d (.lst (ps.map penD)), .d (.bool cd), .d (rowsD acc), .un, .un, .un, .un]) (fun acc x => acc ++ stepR x.1 x.2) (pairs ps) [] (fun pre x post hpre => ?_))) ?_
    · have hacc : (pre.foldl (fun acc x => acc ++ stepR x.1 x.2) []).length ≤ 41 * pre.length := by
        have key : ∀ (l : List (Pen × Pen)) (a : List Row), (∀ y ∈ l, StepLaw y.1 y.2 cd) → (l.foldl (fun acc x => acc ++ stepR x.1 x.2) a).length ≤ a.length + 41 * l.length := by
          intro l
          induction l with
          | nil => intro a _; simp
          | cons y l ih =>
            intro a hy
            have h1 := ih (a ++ stepR y.1 y.2) fun z hz => hy z (.tail _ hz)
            have h2 := stepR_len (hy y (.head _))
            rw [List.foldl_cons, List.length_cons]
            rw [List.length_append] at h1
            omega
        have := key pre [] fun y hy => H.step y (by rw [hpre]; exact List.mem_append_left _ hy)
        simpa using this
      have hplen : pre.length ≤ 100 := by
        have h1 : (pairs ps).length ≤ ps.length := by unfold pairs; rw [List.length_zip]; omega
        have h2 : (pairs ps).length = (pre ++ x :: post).length := by rw [hpre]
        rw [List.length_append] at h2
        omega
      have hst := H.step x (by rw [hpre]; simp)
      have hsl2 := stepR_len hst
      generalize pre.foldl (fun acc x => acc ++ stepR x.1 x.2) [] = acc at *
      refine ⟨[.d (.lst (ps.map penD)), .d (.bool cd), .d (rowsD acc), .d (penD x.1), .d (penD x.2), .un, .un], [.d (.lst (ps.map penD)), .d (.bool cd), .d (rowsD (acc ++ stepR x.1 x.2)), .d (penD x.1), .d (penD x.2), .d (.bool true), .d (rowsD (stepR x.1 x.2))],
        AsT.tuple (AsTs.cons (AsT.name 3 rfl) (AsTs.cons (AsT.name 4 rfl) AsTs.nil)), .same (.same (.same (.un (.un (.un (.un .nil)))))), ?_⟩
      refine ExS.cons (Ex1.assignT (EvE.call (step_right_spec T RD x.1 x.2 cd hst) (EvL.cons (EvE.name 3 rfl rfl) (EvL.cons (EvE.name 4 rfl rfl) (EvL.cons (EvE.name 1 rfl rfl) EvL.nil)))) (AsT.tuple (AsTs.cons (AsT.name 5 rfl) (AsTs.cons (AsT.name 6 rfl) AsTs.nil)))) ?_
      refine ExS.cons (Ex1.ifF (EvB.not (EvB.of (EvE.name 5 rfl rfl) (tru_bool true))) ExS.nil) ?_
      exact ExS.cons (Ex1.assign 2 rfl (EvE.bin (EvE.name 2 rfl rfl) (EvE.name 6 rfl rfl) (op_rows (by omega)))) ExS.nil
    · show ExS PP w G Inv.none _ _ _ [.d (.lst (ps.map penD)), .d (.bool cd), .d (rowsD (chainR ps)), .un, .un, .un, .un] _ _
      have hr := H.rows
      have ha := H.app
      generalize chainR ps = rs at *
      by_cases hn : rs = []
      · exact ExS.stop (Ex1.ret (EvE.or2T (EvE.cmp (EvE.name 2 rfl rfl) (EvE.list EvL.nil) (cmp_eq (rowsD_ok rs) rfl (r := true) (by simp [hn, rowsD]))) (tru_bool true)))
      · obtain ⟨p, ps', rfl⟩ : ∃ p ps', ps = p :: ps' := by cases ps with | nil => exact absurd rfl H.ne | cons p ps' => exact ⟨p, ps', rfl⟩
        have hlast : ((p :: ps').map penD)[((p :: ps').map penD).length - 1]? = some (penD ((p :: ps').getLastD (plainPen 0))) := by
          rw [List.length_map, List.getElem?_map, ← List.getLast?_eq_getElem?, List.getLastD_eq_getLast?, List.getLast?_cons]
          rfl
        refine ExS.stop (Ex1.ret (EvE.or2F (EvE.cmp (EvE.name 2 rfl rfl) (EvE.list EvL.nil) (cmp_eq (rowsD_ok rs) rfl (r := false) (by simp [hn, rowsD]))) (tru_bool false)
          (EvE.cmp (EvE.call (apply_sgr_spec T p rs (hr hn)) (EvL.cons (EvE.itemL (EvE.name 0 rfl rfl) EvE.cInt (by decide) (d := penD p) rfl (by rw [List.length_map]; omega)) (EvL.cons (EvE.name 2 rfl rfl) EvL.nil))) (EvE.itemLast (EvE.name 0 rfl rfl) (EvE.neg EvE.cInt) hlast) (cmp_eq (penD_ok _) (penD_ok _) (r := true) (by
            have hap : Og.app p rs = (p :: ps').getLastD (plainPen 0) := ha hn
            rw [if_neg hn, hap]; simp)))))
end
end Og
namespace Og
open PySem PySem.Calls PySem.Spec PyProof.Rows

structure Dk where
  cells : List Int
  mixed : Int
noncomputable def kvs (ca : Addr) (i : Int) (t : Tok) : List (Str × Value) := [("cells", .ref ca), ("mixed", .int i t)]
structure DkP (w : World) (a ca : Addr) (k : Dk) (h : Heap) : Prop where
  ne : a ≠ ca
  dic : ∃ t, h.DictOf (PySem.strKind PP w) a (kvs ca k.mixed t)
  lst : ∃ vs m, h.get? ca = some { cls := .type "list", data := .seq vs.toArray m } ∧ ∀ av h, RepAll av h vs (iD k.cells)
noncomputable def deckI (w : World) (a ca : Addr) (k : Dk) : Inv :=
  ⟨DkP w a ca k, [a, ca], fun h h' P hk => ⟨P.ne, let ⟨t, o, es, ep, ho, r⟩ := P.dic; ⟨t, o, es, ep, hk a (.head _) _ ho, r⟩, let ⟨vs, m, ho, r⟩ := P.lst; ⟨vs, m, hk ca (.tail _ (.head _)) _ ho, r⟩⟩⟩

noncomputable def drawP (k : Dk) (many : Int) : Int × Dk := match k.cells.reverse with
  | c :: _ => (c.fmod many, ⟨k.cells.dropLast, k.mixed⟩)
  | [] => (((k.mixed * 16807 + 29).fmod 2147483647).fdiv 64 |>.fmod many, ⟨[], (k.mixed * 16807 + 29).fmod 2147483647⟩)

section
variable {w : World} {G : Gl} {I I' I'' : Inv} {sc : Sc} {names : List Str} {n : Nat} {vals : List Loc} {a ca : Addr} {k : Dk}

structure EvT (w : World) (G : Gl) (I I' : Inv) (sc : Sc) (names : List Str) (n : Nat) (vals : List Loc) (e : Expr) (d : D) : Prop where
  go : ∀ (c : Fc) (own : List Addr) (s : Shared) (A : Around) (Q : Value → Shared → Prop) (E : Value → Shared → Prop), EnvIs c.env sc → Room n A → St G names I c own vals s →
    (∀ v s', St G names I' c own vals s' → Ext own s.heap s'.heap → Rep (own ++ c.fz) s'.heap v d → Q v s') → wpAny (model PP w) A (eval e c.env) Q E s
theorem EvE.t {e : Expr} {d : D} (h : EvE PP w G I sc names n vals e d) : EvT w G I I sc names n vals e d := ⟨h.go⟩
theorem EvT.eq {e : Expr} {d d' : D} (h : EvT w G I I' sc names n vals e d) (q : d = d') : EvT w G I I' sc names n vals e d' := q ▸ h
theorem EvT.bin {op : Operator} {l r : Expr} {p : Pos} {d₁ d₂ d : D} (hl : EvT w G I I' sc names n vals l d₁) (hr : EvT w G I' I'' sc names n vals r d₂) (h : OpOk PP w (binaryOp op) d₁ d₂ d) :
    EvT w G I I'' sc names n vals (.BinOp l op r p) d := by
  constructor
  intro c own s A Q E hsc R S kk
  refine wpAny_BinOp (hl.go c own s A _ E hsc R S fun v₁ s₁ S₁ x₁ r₁ => hr.go c own s₁ A _ E hsc R S₁ fun v₂ s₂ S₂ x₂ r₂ => ?_)
  refine h (own ++ c.fz) s₂ A v₁ v₂ Q E R.hand R.small S₂.alive (let ⟨m, hn, _⟩ := S₂.ns; ⟨_, m, hn⟩) (r₁.ext x₂) r₂ fun v h' tk hk rv => ?_
  exact kk v _ (S₂.keeps hk ⟨rfl, rfl, rfl⟩) ((x₁.trans x₂).trans (Ext.keeps hk)) rv
theorem ExT.ret {e : Expr} {p : Pos} {d : D} {J : Inv → Prop} (h : EvT w G I I' sc names n vals e d) (hJ : J I') (had : I'.ad = I.ad) : ExT PP w G I sc names n vals [.Return (some e) p] J (.ret d) := by
  constructor
  intro c own s A Q E hsc R S kk
  refine wpAny_execs_cons (wpAny_Return_some (h.go c own s A _ E hsc R S fun v s₁ S₁ x₁ r₁ => ?_))
  exact kk (.ret v) s₁ I' hJ (fun b hb => .inl (had ▸ hb)) ⟨own, vals, Step.ofExt x₁, S₁, r₁⟩

theorem strKey (x : Str) (t : Tok) : (PySem.strKind PP w).is x (.str x t) = true := strKind_is PP w x t
theorem EvR.deckAt {y : Str} {p pos : Pos} {key : Str} {kp : Pos} {kk : Nat} {v : Value} (i : Nat) (hx : names[i]? = some y) (hl : vals[i]? = some (.v (.ref a))) (hv : ∀ h, DkP w a ca k h → ∃ f, h.MapOf (PySem.strKind PP w) a f ∧ f key = some v)
    (hs : ∀ o j, subscripted (.Constant (.str key) kk kp) false o j = operate [o, j] (getItem o j) := by intro _ _; rfl) : EvR PP w G (deckI w a ca k) sc names n vals (.Subscript (.Name y p) (.Constant (.str key) kk kp) pos) v := by
  constructor
  intro c own s A Q E hsc R S q
  refine Subscript_ (name_go S hx hl (wpAny_Constant_str ?_))
  obtain ⟨f, hm, hf⟩ := hv _ S.inv
  refine tail_any (T := "dict") hm.typeIs F.slot_dict_getitem.lookup (wpAny_getItem_of (knd := strKind PP w) (k := key) (strKey _ _) hm hf ?_) (hs _ _)
  exact q _ (S.keeps (fun _ _ e => e) ⟨rfl, rfl, rfl⟩) .refl
theorem cm : decide (("cells" : Str) = ("mixed" : Str)) = false := by decide +kernel
theorem kvs_cells {i : Int} {t : Tok} : valueAt (kvs ca i t) ("cells" : Str) = some (.ref ca) := rfl
theorem kvs_mixed {i : Int} {t : Tok} : valueAt (kvs ca i t) ("mixed" : Str) = some (.int i t) := by
  have h : decide ((("cells" : Str), Value.ref ca).1 = ("mixed" : Str)) = false := cm
  unfold valueAt kvs
  rw [List.find?_cons, h]
  rfl
theorem EvR.deckCells {y : Str} {p pos : Pos} {kp : Pos} {kk : Nat} (i : Nat) (hx : names[i]? = some y) (hl : vals[i]? = some (.v (.ref a)))
    (hs : ∀ o j, subscripted (.Constant (.str "cells") kk kp) false o j = operate [o, j] (getItem o j) := by intro _ _; rfl) : EvR PP w G (deckI w a ca k) sc names n vals (.Subscript (.Name y p) (.Constant (.str "cells") kk kp) pos) (.ref ca) :=
  EvR.deckAt i hx hl (fun h P => let ⟨t, hd⟩ := P.dic; ⟨_, hd.mapOf, kvs_cells⟩) hs
theorem EvE.deckMixed {y : Str} {p pos : Pos} {kp : Pos} {kk : Nat} (i : Nat) (hx : names[i]? = some y) (hl : vals[i]? = some (.v (.ref a)))
    (hs : ∀ o j, subscripted (.Constant (.str "mixed") kk kp) false o j = operate [o, j] (getItem o j) := by intro _ _; rfl) : EvE PP w G (deckI w a ca k) sc names n vals (.Subscript (.Name y p) (.Constant (.str "mixed") kk kp) pos) (.int k.mixed) := by
  constructor
  intro c own s A Q E hsc R S q
  refine Subscript_ (name_go S hx hl (wpAny_Constant_str ?_))
  obtain ⟨t, hd⟩ := S.inv.dic
  refine tail_any (T := "dict") hd.mapOf.typeIs F.slot_dict_getitem.lookup (wpAny_getItem_of (knd := PySem.strKind PP w) (k := "mixed") (strKey _ _) hd.mapOf kvs_mixed ?_) (hs _ _)
  exact q _ _ (S.keeps (fun _ _ e => e) ⟨rfl, rfl, rfl⟩) .refl (.int _ _)

theorem EvB.cellsNe {y : Str} {p pos kp lp cp : Pos} {kk : Nat} (i : Nat) (hx : names[i]? = some y) (hl : vals[i]? = some (.v (.ref a))) {b : Bool} (hb : b = true ↔ k.cells ≠ [])
    (hs : ∀ o j, subscripted (.Constant (.str "cells") kk kp) false o j = operate [o, j] (getItem o j) := by intro _ _; rfl) (hm : behindInMarks .NotEq (.List [] lp) = false := by with_unfolding_all rfl) :
    EvB PP w G (deckI w a ca k) sc names n vals (.Compare (.Subscript (.Name y p) (.Constant (.str "cells") kk kp) pos) [.NotEq] [.List [] lp] cp) b := by
  constructor
  intro c own s A Q E hsc R S q
  refine wpAny_isTrue_Compare1 ((EvR.deckCells i hx hl hs).go c own s A _ E hsc R S fun s₁ S₁ x₁ => (EvE.list (ds := []) EvL.nil).go c own s₁ A _ E hsc R S₁ fun v₂ s₂ S₂ x₂ r₂ => ?_) hm
  obtain ⟨vs, m, ho, r⟩ := S₂.inv.lst
  have hc : CmpOk PP w .NotEq (.lst (iD k.cells)) (.lst []) b := cmp_ne (by simp [D.ok, iD]) rfl (by rw [hb]; simp [iD])
  refine hc [] s₂ A (.ref ca) v₂ _ E R.hand R.small (.lst (by simp) ho (r _ _)) (r₂.mono fun _ _ _ e => ⟨e, by simp⟩) fun h' tk hk => wpAny_truthy_bool ?_
  exact q _ (S₂.keeps hk ⟨rfl, rfl, rfl⟩) ((x₁.trans x₂).trans (Ext.keeps hk))

theorem imm_dropLast {vs : List Value} {ns : List Int} (r : ∀ av h, RepAll av h vs (iD ns)) : ∀ av h, RepAll av h vs.dropLast (iD ns.dropLast) := fun av h => by
  have := (r av h).take (vs.length - 1)
  rw [← List.dropLast_eq_take] at this
  have hl := (r av h).length
  simp only [iD] at this hl ⊢
  rw [hl, List.length_map, ← List.map_take, ← List.dropLast_eq_take] at this
  exact this

theorem pop_last {α : Type} {l : List α} {x : α} {r : List α} (h : l.reverse = x :: r) : l[l.length - 1]? = some x := by
  have : l = r.reverse ++ [x] := by rw [← List.reverse_reverse l, h, List.reverse_cons]
  rw [this]; simp

theorem EvT.pop {y : Str} {p pos kp apos cpos : Pos} {kk : Nat} {x : Int} {r : List Int} (i : Nat) (hx : names[i]? = some y) (hl : vals[i]? = some (.v (.ref a))) (hc : k.cells.reverse = x :: r) (hz : k.cells.length ≤ sizeLine) (hno : ∀ a es, Loc.own a es ∉ vals)
    {pl : Env → Sem Bool} (he : ∀ env, eval (.Call (.Attribute (.Subscript (.Name y p) (.Constant (.str "cells") kk kp) pos) "pop" apos) [] [] cpos) env = (do
      let ov ← eval (.Subscript (.Name y p) (.Constant (.str "cells") kk kp) pos) env
      standAt apos.atName
      let (f, first) ← holding [ov] (getMethod ov "pop" (pl env))
      callWith cpos f first (backTo cpos (starEach [] env)) (backToKw cpos (keywordEach [] env))) := by intro _; rfl)
    (hs : ∀ o j, subscripted (.Constant (.str "cells") kk kp) false o j = operate [o, j] (getItem o j) := by intro _ _; rfl) :
    EvT w G (deckI w a ca k) (deckI w a ca ⟨k.cells.dropLast, k.mixed⟩) sc names n vals (.Call (.Attribute (.Subscript (.Name y p) (.Constant (.str "cells") kk kp) pos) "pop" apos) [] [] cpos) (.int x) := by
  constructor
  intro c own s A Q E hsc R S q
  refine W.methodCall_KW ((EvR.deckCells i hx hl hs).go c own s A _ E hsc R S fun s₁ S₁ x₁ => ?_) (he _)
  have DP := S₁.inv
  obtain ⟨vs, m, ho, rr⟩ := DP.lst
  have hlen := (rr [] s₁.heap).length
  simp only [iD, List.length_map] at hlen
  have hlt := pop_last hc
  obtain ⟨v, hv, rv⟩ := (rr [] s₁.heap).get (k := k.cells.length - 1) (d := .int x) (by simp only [iD, List.getElem?_map, hlt]; rfl)
  refine getMethod_list_of PySem.F.slot_list_pop PySem.F.type_list_pop ⟨_, ho, rfl, m, rfl⟩ ⟨_, ho, rfl⟩ ?_
  show wpAny (model PP w) A (callWith cpos (.builtin "list.pop") [.ref ca] [] []) Q E s₁
  refine P.pop_list (items := vs.toArray) (n := m) ho (by simp only [List.size_toArray, hlen]; simpa using hv) ?_ (by simp only [List.size_toArray]; omega)
  have hup := IsL.update (items := vs.toArray) (n := m) ho fun xs => xs.eraseIdxIfInBounds (vs.toArray.size - 1)
  have her : vs.toArray.eraseIdxIfInBounds (vs.toArray.size - 1) = vs.dropLast.toArray := by
    have hpos : vs.length - 1 < vs.length := by
      have := (List.getElem?_eq_some_iff.mp hlt).1
      omega
    simp [Array.eraseIdxIfInBounds, hpos, List.eraseIdx_length_sub_one]
  have hsb := Heap.SameBut.update s₁.heap ca (Obj.mapSeq fun xs => xs.eraseIdxIfInBounds (vs.toArray.size - 1))
  generalize hm' : (if (vs.toArray.eraseIdxIfInBounds (vs.toArray.size - 1)).size == vs.toArray.size then m else m + 1) = m' at hup
  rw [her] at hup
  generalize s₁.heap.update ca (Obj.mapSeq fun xs => xs.eraseIdxIfInBounds (vs.toArray.size - 1)) = h' at *
  have hother : ∀ b, b ≠ ca → ∀ o, s₁.heap.get? b = some o → h'.get? b = some o := fun b hb o e => hsb.extBut b o hb e
  have S' := S₁.adopt (ow := [ca]) (t := s₁.toks) (h' := h') (I' := deckI w a ca ⟨k.cells.dropLast, k.mixed⟩) (fun b o hb e => hother b (by simpa using hb) o e)
    (fun b hb => by obtain rfl := List.mem_singleton.mp hb; exact S₁.iown _ (.tail _ (.head _))) (fun b hb => by obtain rfl := List.mem_singleton.mp hb; exact ⟨_, hup⟩)
    S₁.iown ⟨DP.ne, let ⟨t, o, es, ep, ho, r⟩ := DP.dic; ⟨t, o, es, ep, hother _ DP.ne _ ho, r⟩, _, _, hup, imm_dropLast rr⟩ (fun b es hm => absurd hm (hno b es))
  exact q v _ S' (fun b o hb e => hother b (fun q => hb (q ▸ (S₁.iown ca (.tail _ (.head _))).1)) o (x₁ b o hb e)) (rv.imm rfl _ _)

theorem stored_mixed {i j : Int} {t u : Tok} : stored (kvs ca i t) ("mixed" : Str) (.int j u) = kvs ca j u := by
  unfold stored kvs
  simp only [List.any_cons, List.map_cons, List.map_nil, List.any_nil]
  rw [show decide ((("cells" : Str), Value.ref ca).1 = ("mixed" : Str)) = false from cm, if_pos (by simp), if_neg (of_decide_eq_false cm), if_pos trivial]

theorem Ex1T.setMixed {y : Str} {p apos kp pos : Pos} {kk : Nat} {e : Expr} {j : Int} (i : Nat) (hx : names[i]? = some y) (hl : vals[i]? = some (.v (.ref a))) (he : EvE PP w G (deckI w a ca k) sc names n vals e (.int j)) (hno : ∀ a es, Loc.own a es ∉ vals)
    (hs : ∀ env, swapsWith e (some (.Subscript (.Name y p) (.Constant (.str "mixed") kk kp) apos)) pos.line env = pure false := by intro _; rfl) :
    Ex1T PP w G (deckI w a ca k) sc names n vals (.Assign [.Subscript (.Name y p) (.Constant (.str "mixed") kk kp) apos] e pos) (fun I' => I' = deckI w a ca ⟨k.cells, j⟩) vals := by
  constructor
  intro c own s A Q E hsc R S q
  refine wpAny_Assign_Subscript (he.go c own s A _ E hsc R S fun v s₁ S₁ x₁ r₁ => name_go S₁ hx hl (wpAny_Constant_str ?_)) (hs _)
  cases r₁ with | int j u =>
  have DP := S₁.inv
  obtain ⟨t, hd⟩ := DP.dic
  have hsl : sizeLine = 16777216 := rfl
  refine wpAny_setItem_pairs (knd := PySem.strKind PP w) (k := "mixed") (strKey _ _) hd (fun h' hd' hsb => ?_) (by show 2 ≤ sizeLine; omega)
  rw [stored_mixed] at hd'
  have hother : ∀ b, b ≠ a → ∀ o, s₁.heap.get? b = some o → h'.get? b = some o := fun b hb o e => hsb.extBut b o hb e
  obtain ⟨vs, m, ho, rr⟩ := DP.lst
  have hd'' := hd'
  obtain ⟨od, es, ep, hod, -⟩ := hd''
  have S' := S₁.adopt (ow := [a]) (t := s₁.toks + 1 + 1) (h' := h') (I' := deckI w a ca ⟨k.cells, j⟩) (fun b o hb e => hother b (by simpa using hb) o e)
    (fun b hb => by obtain rfl := List.mem_singleton.mp hb; exact S₁.iown _ (.head _)) (fun b hb => by obtain rfl := List.mem_singleton.mp hb; exact ⟨_, hod⟩)
    S₁.iown ⟨DP.ne, ⟨_, hd'⟩, vs, m, hother _ (Ne.symm DP.ne) _ ho, rr⟩ (fun b es hm => absurd hm (hno b es))
  exact q _ _ own rfl (fun b hb => .inl hb) (Step.ofExt fun b o hb e => hother b (fun q => hb (q ▸ (S₁.iown a (.head _)).1)) o (x₁ b o hb e)) S'
end
end Og
namespace Og
open PySem PySem.Calls PySem.Spec PyProof.Rows

structure DkOk (k : Dk) : Prop where
  cells : ∀ x ∈ k.cells, 0 ≤ x
  len : k.cells.length ≤ 1000
  mixed : 0 ≤ k.mixed ∧ k.mixed < 2147483647
set_option tactic.hygienic true in
theorem drawP_ok {k : Dk} {m : Int} (h : DkOk k) (hm : 0 < m) : (0 ≤ (drawP k m).1 ∧ (drawP k m).1 < m) ∧ DkOk (drawP k m).2 := by
  unfold drawP
  split
  · rename_i c r hr
    refine ⟨⟨Int.fmod_nonneg_of_pos _ hm, Int.fmod_lt_of_pos _ hm⟩, ⟨fun x hx => h.cells x (List.dropLast_subset _ hx), ?_, h.mixed⟩⟩
    have := h.len
    simp only [List.length_dropLast]; omega
  · exact ⟨⟨Int.fmod_nonneg_of_pos _ hm, Int.fmod_lt_of_pos _ hm⟩, ⟨by simp, by simp, Int.fmod_nonneg_of_pos _ (by decide), Int.fmod_lt_of_pos _ (by decide)⟩⟩

section
variable {w : World} {G : Gl} {I I' I'' : Inv} {sc : Sc} {names : List Str} {n : Nat} {vals : List Loc} {a ca : Addr} {k : Dk}

theorem ExT.ifRet {t : Expr} {b o rest : List Stmt} {p : Pos} {J : Inv → Prop} {d : D} (ht : EvB PP w G I sc names n vals t true) (hb : ExT PP w G I sc names n vals b J (.ret d)) : ExT PP w G I sc names n vals (.If t b o p :: rest) J (.ret d) := by
  constructor
  intro c own s A Q E hsc R S kk
  refine wpAny_execs_cons (wpAny_If (ht.go c own s A _ E hsc R S fun s₁ S₁ x₁ => hb.go c own s₁ A _ E hsc R S₁ fun f s' I' hJ hN q => ?_))
  cases f with
  | ret v => exact kk (.ret v) s' I' hJ (NewAd.step S (Step.ofExt x₁) S₁ hN) (q.step (Step.ofExt x₁))
  | _ => exact q.elim
theorem FnAt.mat {name : Str} {params : Arguments} {body : List Stmt} {scope : Scope} {ps : List Str} (F : FnAt G name params body scope none)
    (hb : ∀ (s : Shared) pm code doc (vs : List Value), vs.length = ps.length → BindsTo s (dfd name params body scope pm code doc .none) ⟨vs, []⟩ (ps.zip vs)) :
    ∃ f o fd, G.mg name = some (.ref f) ∧ G.hb.get? f = some o ∧ o.data = .func fd ∧ MAt G f body scope ps := by
  obtain ⟨f, o, pm, code, doc, dV, h1, h2, h3, h4, h5⟩ := F.ex
  cases h5
  exact ⟨f, o, _, h1, h2, h3, ⟨o, _, h2, h3, rfl, rfl, rfl, rfl, rfl, h4, fun s _ vs hl => hb s pm code doc vs hl⟩⟩

theorem draw_spec {f : Addr} (F : MAt G f (bodyOf (stOf 69)) (scopeOf (stOf 69)) ["deck", "many"]) (hk : DkOk k) {m : Int} (hm : 0 < m) :
    MSpec PP w G 2 f (deckI w a ca k) [.v (.ref a), .d (.int m)] (fun I' => I' = deckI w a ca (drawP k m).2) (.int (drawP k m).1) := by
  have no : ∀ a' es, Loc.own a' es ∉ [Loc.v (.ref a), .d (.int m)] := by intro a es h; simp at h
  refine MSpec.intro (rest := []) F rfl no (by decide +kernel) ?_ (o := .ret (.int (drawP k m).1)) rfl
  have hsl : sizeLine = 16777216 := rfl
  have hlen := hk.len
  cases hc : k.cells.reverse with
  | cons x r =>
    have hne : k.cells ≠ [] := fun q => by rw [q] at hc; simp at hc
    have hd : drawP k m = (x.fmod m, ⟨k.cells.dropLast, k.mixed⟩) := by unfold drawP; rw [hc]
    rw [hd]
    exact ExT.ifRet (EvB.cellsNe 0 rfl rfl (b := true) (by simp [hne])) (ExT.ret (EvT.bin (EvT.pop 0 rfl rfl hc (by omega) no) (EvE.name 1 rfl rfl).t (op_mod (by omega))) rfl rfl)
  | nil =>
    have he : k.cells = [] := by simpa using hc
    have hd : drawP k m = (((k.mixed * 16807 + 29).fmod 2147483647).fdiv 64 |>.fmod m, ⟨[], (k.mixed * 16807 + 29).fmod 2147483647⟩) := by unfold drawP; rw [hc]
    rw [hd]
    refine ExT.lift (Ex1.ifF (EvB.cellsNe 0 rfl rfl (b := false) (by simp [he])) ExS.nil) ?_
    refine ExT.cons (Ex1T.setMixed 0 rfl rfl (EvE.bin (EvE.bin (EvE.bin (EvE.deckMixed 0 rfl rfl) EvE.cInt (op_mul (IntMulOk.of_right (by decide)))) EvE.cInt (op_add _ _)) EvE.cInt (op_mod (by decide))) no) ?_
    rintro _ rfl
    rw [he]
    refine ExT.ret (EvE.bin (EvE.bin (EvE.deckMixed 0 rfl rfl) EvE.cInt (op_div (by decide) (div_small (by decide)))) (EvE.name 1 rfl rfl) (op_mod (by omega))).t rfl rfl
end
end Og
namespace Og
open PySem PySem.Calls PySem.Spec PyProof.Rows

section
variable {prog : Program} {w : World} {G : Gl} {I I' I'' : Inv} {sc : Sc} {names : List Str} {n : Nat} {vals : List Loc} {a ca : Addr} {k : Dk}

theorem MAt.enter {f : Addr} {body : List Stmt} {scope : Scope} {ps rest : List Str} {ls : List Loc} (F : MAt G f body scope ps) (hps : ps.length = ls.length) (hok : okNames scope (ps ++ rest) = true) {av : List Addr} {s : Shared} {A : Around} {vs : List Value} {B : Result → Shared → Prop} (R : Room (n + 1) A)
    (base : ∀ b o, G.hb.get? b = some o → s.heap.get? b = some o) (hal : ∀ x ∈ I.ad ++ av, ∃ o, s.heap.get? x = some o) (hap : ∀ x ∈ I.ad ++ av, G.hb.get? x = none) (hP : I.P s.heap) (ha : ArgsAt (I.ad ++ av) s.heap vs ls)
    (hx : ∀ (c : Fc) (s₁ : Shared) (A' : Around) (E : Value → Shared → Prop), c.h₀ = s.heap → c.mt = I.ad → c.fz = av → c.s₀ = s → s.heap.get? c.env.locals = none → EnvIs c.env ⟨scope, []⟩ → Room n A' → St G (ps ++ rest) I c (c.env.locals :: I.ad) (ls ++ List.replicate rest.length Loc.un) s₁ →
      wpAny (model prog w) A' (execs body c.env) (fun f s' => B (.ok (.ret (match f with | .ret v => v | _ => .none))) s') E s₁)
    (hcell : (scope.names.all fun x => x.2 != .cell) = true := by decide +kernel) (hco : scope.isCoroutine = false := by rfl) (hgen : scope.isGenerator = false := by rfl) (hk : scope.kind = .function := by rfl) :
    codeAny (model prog w) A (.call (.ref f) ⟨vs, []⟩) B s := by
  obtain ⟨of, fd, h1, h2, h3, h4, h5, h6, h7, h8, h9⟩ := F.ex
  have hlen : vs.length = ps.length := by rw [ha.length, hps]
  have hnd := okNames_nodup hok
  have hndp : ps.Nodup := (List.nodup_append.mp hnd).1
  have hzip : (ps.zip vs).map (·.1) = ps := by rw [List.map_fst_zip (by omega)]
  refine codeAny_call_def (fd := fd) (body := body) (binds := ps.zip vs) (by have := R.depth; omega) (base _ _ h1) h2 (G.nolimit.keeps base) (h8.keeps base) h3 (h9 s base vs hlen) ?_ ?_ ?_ (h4 ▸ hco) (h4 ▸ hgen) (h4 ▸ hk)
  · intro x hx e
    rw [h4] at hx
    have := List.all_eq_true.mp hcell x hx
    rw [e] at this
    exact absurd this (by decide)
  · intro x hx
    rw [h4]
    exact (okNames_loc hok x.1 (List.mem_append_left _ (by rw [← hzip]; exact List.mem_map.mpr ⟨x, hx, rfl⟩))).1
  · intro h₁ hn hkeep
    let c : Fc := { env := callEnv fd s.heap.objs.size f, h₀ := s.heap, mt := I.ad, fz := av, s₀ := s }
    have hL : s.heap.get? s.heap.objs.size = none := none_size
    have hLn : s.heap.objs.size ∉ I.ad ++ av := fun q => by obtain ⟨o', e⟩ := hal _ q; rw [hL] at e; cases e
    have hsub : ∀ {x : Addr}, x ∈ (s.heap.objs.size :: I.ad) ++ c.fz → x = s.heap.objs.size ∨ x ∈ I.ad ++ av := fun {x} hx => by
      rcases List.mem_append.mp hx with q | q
      · rcases List.mem_cons.mp q with q | q
        · exact .inl q
        · exact .inr (List.mem_append_left _ q)
      · exact .inr (List.mem_append_right _ q)
    refine hx c _ _ _ rfl rfl rfl rfl hL ⟨h4, h7⟩ R.deeper
      { kind := by show fd.scope.kind = _; rw [h4]; exact hk
        glob := h5
        blt := h6
        loc := fun x hx => by
          have := okNames_loc hok x hx
          exact ⟨by show fd.scope.names.lookup x = _; rw [h4]; exact this.1, this.2⟩
        nodup := hnd
        base := fun b o e => hkeep b o (base b o e)
        ns := by
          refine ⟨_, hn, vars_argsAt (fun p hp => lookup_rev (by rw [hzip]; exact hndp) hp) hlen.symm (ha.mono fun a o ha e => ⟨hkeep a o e, fun q => ?_⟩)⟩
          rcases hsub q with q | q
          · rw [q, hL] at e; cases e
          · exact ha q
        lown := .head _
        alive := fun x hx => by
          rcases hsub hx with q | q
          · rw [q]; obtain ⟨o', _, _, ho', _⟩ := hn; exact ⟨o', ho'⟩
          · obtain ⟨o', e⟩ := hal x q; exact ⟨o', hkeep _ _ e⟩
        ext := fun b o _ e => hkeep b o e
        fresh := fun x hx => by
          rcases List.mem_cons.mp hx with q | q
          · rw [q]; exact .inr hL
          · exact .inl q
        apart := fun x hx => by
          rcases hsub hx with q | q
          · rw [q]
            cases e : G.hb.get? s.heap.objs.size with
            | none => rfl
            | some o => have := base _ _ e; rw [hL] at this; cases this
          · exact hap x q
        inv := I.keep _ _ hP fun a ha o e => hkeep a o e
        iown := fun a ha => ⟨.tail _ ha, fun q => hLn (List.mem_append_left _ (by have q' : a = s.heap.objs.size := q; rw [← q']; exact ha))⟩
        same := ⟨rfl, rfl, rfl⟩ }

noncomputable def mixP (l : List Int) : Int := l.foldl (fun m c => (m * 31 + c).fmod 1000003) 11
noncomputable def deck0 (script : List Int) : Dk := let cells := (script.take 40).map fun x => x.fmod 1000000007; ⟨cells.reverse, mixP cells⟩
theorem deck0_ok {script : List Int} : DkOk (deck0 script) := by
  refine ⟨fun x hx => ?_, by simp [deck0]; omega, ?_⟩
  · simp only [deck0, List.mem_reverse, List.mem_map] at hx
    obtain ⟨y, _, rfl⟩ := hx
    exact Int.fmod_nonneg_of_pos _ (by decide)
  · have key : ∀ (l : List Int) (m : Int), 0 ≤ m ∧ m < 2147483647 → 0 ≤ l.foldl (fun m c => (m * 31 + c).fmod 1000003) m ∧ l.foldl (fun m c => (m * 31 + c).fmod 1000003) m < 2147483647 := by
      intro l
      induction l with
      | nil => intro m h; exact h
      | cons c l ih =>
        intro m h
        refine ih _ ?_
        have h1 := Int.fmod_nonneg_of_pos (m * 31 + c) (b := 1000003) (by decide)
        have h2 := Int.fmod_lt_of_pos (m * 31 + c) (b := 1000003) (by decide)
        exact ⟨h1, Int.lt_trans h2 (by decide)⟩
    exact key _ 11 (by decide)

theorem int_int (i : Int) : CallOk PP w (.type "int") [.int i] (.int i) := by
  intro av s A vs Q E hA _ hv _ r k
  cases r with | cons r₁ rn =>
  cases rn; cases r₁
  exact call_int_int (k _ s.heap s.toks (fun _ _ e => e) (.int _ _))

noncomputable def N68 : List Str := ["script", "cell", "cells", "mixed"]
theorem deck_c0 (T : Top G) (script : List Int) (hl : script.length ≤ 63) : Ex1 PP w G Inv.none ⟨scopeOf (stOf 68), []⟩ N68 3 [.d (.lst (iD script)), .un, .un, .un] (nth (bodyOf (stOf 68)) 0)
    (.next [.d (.lst (iD script)), .un, .d (.lst (iD (deck0 script).cells.reverse)), .d (.int 11)]) := by
  have hsl : sizeLine = 16777216 := rfl
  have h0 : (iD script).length ≤ 63 := by simp [iD]; exact hl
  have hcut : cut none (some 40) (iD script) = iD (script.take 40) := by rw [cut_to]; simp [iD, List.map_take]
  refine Ex1.assign2 (d := .lst (iD (deck0 script).cells.reverse)) (e := .int 11) 2 3 rfl rfl (EvE.tuple (EvL.cons ((EvE.comp (f := fun d => match d with | .int i => .int (i.fmod 1000000007) | d => d) (EvI.list (EvE.cutL (b := some 40) (EvE.name 0 rfl rfl) EvP.no (EvP.at EvE.cInt) (by omega))) (by decide +kernel) (by rw [hcut]; simp [iD]; omega) (fun d hd => ?_) (by intro a es h; simp at h)).eq ?_) (EvL.cons EvE.cInt EvL.nil)))
  · rw [hcut] at hd
    obtain ⟨i, _, rfl⟩ := List.mem_map.mp hd
    exact EvE.bin (EvE.callT (T.blt ("int", _) (by simp)) (int_int i) (EvL.cons (EvE.name 0 rfl rfl) EvL.nil)) EvE.cInt (op_mod (by decide))
  · rw [hcut]
    simp [iD, deck0]
    rfl
theorem deck_c1 (T : Top G) (script : List Int) (hl : script.length ≤ 63) : Ex1 PP w G Inv.none ⟨scopeOf (stOf 68), []⟩ N68 3 [.d (.lst (iD script)), .un, .d (.lst (iD (deck0 script).cells.reverse)), .d (.int 11)] (nth (bodyOf (stOf 68)) 1)
    (.next [.d (.lst (iD script)), .un, .d (.lst (iD (deck0 script).cells.reverse)), .d (.int (deck0 script).mixed)]) := by
  refine (Ex1.for (top := false) (EvI.list (EvE.name 2 rfl rfl)) (ForOk.famP (σ := Int) D.int (fun m => [.d (.lst (iD script)), .un, .d (.lst (iD (deck0 script).cells.reverse)), .d (.int m)]) (fun m c => (m * 31 + c).fmod 1000003) (deck0 script).cells.reverse 11 (fun pre c post hpre => ?_))).eqO ?_
  · refine ⟨_, _, AsT.name 1 rfl, .same (.un (.same (.same .nil))), ExS.cons (Ex1.assign 3 rfl (EvE.bin (EvE.bin (EvE.bin (EvE.name 3 rfl rfl) EvE.cInt (op_mul (IntMulOk.of_right (by decide)))) (EvE.name 1 rfl rfl) (op_add _ _)) EvE.cInt (op_mod (by decide)))) ExS.nil⟩
  · simp only [deck0, List.reverse_reverse]
    rfl

theorem imm_ints {av av' : List Addr} {h h' : Heap} : ∀ {ns : List Int} {vs : List Value}, RepAll av h vs (iD ns) → RepAll av' h' vs (iD ns)
  | [], _, .nil => .nil
  | _ :: _, _, .cons r rs => .cons (r.imm rfl _ _) (imm_ints rs)
theorem rev_new {value : Expr} {p : Pos} {c : Fc} {own : List Addr} {s : Shared} {A : Around} {Q : Value → Shared → Prop} {E : Value → Shared → Prop} {l : Addr} {vs : List Value} {m : Nat} {ds : List D} {cp q : Pos} {j : Nat} (S : St G names I c own vals s)
    (ho : s.heap.get? l = some { cls := .type "list", data := .seq vs.toArray m }) (rs : RepAll (own ++ c.fz) s.heap vs ds) (hz : ds.length ≤ sizeLine)
    (k : ∀ (l : Addr) s', St G names I c own vals s' → (∀ b o, s.heap.get? b = some o → s'.heap.get? b = some o) → s.heap.get? l = none → s'.heap.get? l = some { cls := .type "list", data := .seq vs.reverse.toArray } → Q (.ref l) s') :
    wpAny (model prog w) A (eval (.Slice none none (some (.UnaryOp .USub (.Constant (.int 1) j cp) q)) p) c.env) (fun i s₂ => wpAny (model prog w) A (subscriptTail value (.Slice none none (some (.UnaryOp .USub (.Constant (.int 1) j cp) q)) p) (.ref l) i) Q E s₂) E s := by
  refine wpAny_Slice (wpAny_evalPart_none (wpAny_evalPart_none (wpAny_evalPart_some (wpAny_UnaryOp (wpAny_Constant_int (PyProof.Rows.neg_int ?_))))))
  have S1 : St G names I c own vals { s with toks := s.toks + 1 + 1 } := S.keeps (fun _ _ e => e) ⟨rfl, rfl, rfl⟩
  have hl' : (s.heap.push { cls := .type "slice", data := .fields #[.none, .none, .int (-1) (s.toks + 1)] }).IsList l vs.toArray := ⟨_, Heap.get?_push_of_some _ ho, rfl, m, rfl⟩
  refine tail_any (T := "list") (Heap.IsList.typeIs (s := { s with heap := s.heap.push _, toks := _ }) hl') list_getitem_lookup (wpAny_getItem_list_slice (s := { s with heap := s.heap.push _, toks := _ }) hl' (Heap.IsSliceOf.new ..) .none .none (.int (-1) _) (by simp) ?_ (by simp only [List.size_toArray]; rw [rs.length]; exact hz)) rfl
  rw [PySem.W.krv_pick]
  refine k _ _ ((S1.push _).push _) (fun b o e => Heap.get?_push_of_some _ (Heap.get?_push_of_some _ e)) ?_ ?_
  · rw [Heap.size_push]
    cases e : s.heap.get? (s.heap.objs.size + 1) with
    | none => rfl
    | some o => exact absurd (Heap.lt_size e) (Nat.not_lt.mpr (Nat.le_succ _))
  · have h := Heap.get?_push_size (h := s.heap.push { cls := .type "slice", data := .fields #[.none, .none, .int (-1) (s.toks + 1)] }) (o := { cls := .type "list", data := .seq vs.toArray.reverse }) rfl
    rw [show vs.toArray.reverse = vs.reverse.toArray by simp] at h
    exact h

noncomputable def DeckSpec (w : World) (G : Gl) (n : Nat) (f : Addr) (script : List Int) : Prop :=
  ∀ (av : List Addr) (s : Shared) (A : Around) (vs : List Value) (B : Result → Shared → Prop), Room n A → (∀ b o, G.hb.get? b = some o → s.heap.get? b = some o) → (∀ x ∈ av, ∃ o, s.heap.get? x = some o) → (∀ x ∈ av, G.hb.get? x = none) → RepAll av s.heap vs [.lst (iD script)] →
    (∀ a ca h' tk, DkP w a ca (deck0 script) h' → (∀ b o, s.heap.get? b = some o → h'.get? b = some o) → s.heap.get? a = none → s.heap.get? ca = none → B (.ok (.ret (.ref a))) { s with heap := h', toks := tk }) →
    codeAny (model PP w) A (.call (.ref f) ⟨vs, []⟩) B s

theorem deck_spec (T : Top G) {f : Addr} (F : MAt G f (bodyOf (stOf 68)) (scopeOf (stOf 68)) ["script"]) (script : List Int) (hl : script.length ≤ 63) : DeckSpec w G 4 f script := by
  intro av s A vs B R base hal hap rs kk
  have hsl : sizeLine = 16777216 := rfl
  have hargs : ArgsAt (Inv.none.ad ++ av) s.heap vs [.d (.lst (iD script))] := by
    cases rs with | cons r rs => cases rs; exact .d r .nil
  refine F.enter (I := Inv.none) (n := 3) (rest := ["cell", "cells", "mixed"]) rfl (by decide +kernel) R base (by simpa [Inv.none] using hal) (by simpa [Inv.none] using hap) trivial hargs fun c s₁ A' E e1 e2 e3 e4 hL hsc R' S => ?_
  show wpAny (model PP w) A' (execs (nth (bodyOf (stOf 68)) 0 :: nth (bodyOf (stOf 68)) 1 :: [nth (bodyOf (stOf 68)) 2]) c.env) _ _ _
  refine wpAny_execs_cons ((deck_c0 T script hl).go c _ s₁ A' _ E hsc R' S fun f₂ s₂ q₂ => ?_)
  cases f₂ with
  | next =>
    obtain ⟨own₂, st₂, S₂⟩ := q₂
    refine wpAny_execs_cons ((deck_c1 T script hl).go c _ s₂ A' _ E hsc R' S₂ fun f₃ s₃ q₃ => ?_)
    cases f₃ with
    | next =>
      obtain ⟨own₃, st₃, S₃⟩ := q₃
      refine wpAny_execs_cons (wpAny_Return_some (wpAny_Dict_walk (knd := PySem.strKind PP w) rfl rfl (List.cons_ne_nil _ _) (by decide) ?_))
      have S₄ := S₃.push { cls := .type "dict", data := .dict #[] }
      have hda : s₃.heap.get? s₃.heap.objs.size = none := none_size
      have hdn : (s₃.heap.push { cls := .type "dict", data := .dict #[] }).get? s₃.heap.objs.size = some { cls := .type "dict", data := .dict #[] } := Heap.get?_push_size _ rfl
      refine pairTrees_cons_walk (wpAny_Constant_str ?_)
      have S₅ : St G N68 Inv.none c own₃ _ { s₃ with heap := s₃.heap.push { cls := .type "dict", data := .dict #[] }, toks := s₃.toks + 1 } := S₄.keeps (fun _ _ e => e) ⟨rfl, rfl, rfl⟩
      refine Subscript_ ((EvE.name (prog := PP) (w := w) (sc := ⟨scopeOf (stOf 68), []⟩) (n := 3) 2 rfl rfl).go c own₃ _ A' _ E hsc R' S₅ fun v s₆ S₆ x₆ r₆ => ?_)
      cases r₆ with | @lst l us m _ ha ho ru =>
      refine rev_new S₆ ho ru (by simp [iD, deck0]; omega) fun l' s₇ S₇ hk₇ hl' hol => ?_
      refine pairTrees_cons_walk (wpAny_Constant_str ?_)
      have S₈ : St G N68 Inv.none c own₃ _ { s₇ with toks := s₇.toks + 1 } := S₇.keeps (fun _ _ e => e) ⟨rfl, rfl, rfl⟩
      refine (EvE.name (prog := PP) (w := w) (sc := ⟨scopeOf (stOf 68), []⟩) (n := 3) 3 rfl rfl).go c own₃ _ A' _ E hsc R' S₈ fun v s₉ S₉ x₉ r₉ => ?_
      cases r₉ with | int _ t =>
      refine pairTrees_nil_walk ?_
      have hdo : s₃.heap.objs.size ∉ own₃ := fun q => S₃.new hda (List.mem_append_left _ q)
      have hd9 : s₉.heap.get? s₃.heap.objs.size = some { cls := .type "dict", data := .dict #[] } := x₉ _ _ hdo (hk₇ _ _ (x₆ _ _ hdo hdn))
      have hlo : l' ∉ own₃ := fun q => by
        obtain ⟨o, e⟩ := S₆.alive l' (List.mem_append_left _ q)
        rw [hl'] at e; cases e
      have hl9 := x₉ _ _ hlo hol
      have hne : s₃.heap.objs.size ≠ l' := fun q => by
        have := x₆ _ _ hdo hdn
        rw [q, hl'] at this; cases this
      have hfr : ∀ b, b ∉ own₃ → s₃.heap.get? b = none → s.heap.get? b = none := fun b hb e => by
        cases e' : s.heap.get? b with
        | none => rfl
        | some o =>
          have := S₃.ext b o (by rw [e2]; simp [Inv.none]) (by rw [e1]; exact e')
          rw [e] at this; cases this
      have hl3 : s₃.heap.get? l' = none := by
        cases e' : s₃.heap.get? l' with
        | none => rfl
        | some o =>
          have := x₆ l' o hlo (Heap.get?_push_of_some _ e')
          rw [hl'] at this; cases this
      refine ⟨[("cells", .ref l'), ("mixed", .int (deck0 script).mixed t)], ⟨strKey _ _, rfl, strKey _ _, rfl, trivial⟩, ⟨_, #[], 0, hd9, ⟨rfl, rfl, rfl⟩, rfl, fun e he => by simp at he, .nil, by simp⟩, fun h' hd' hs' => ?_⟩
      rw [merged_nil_of_nodup _ (by
        simp only [List.map_cons, List.map_nil, List.nodup_cons, List.mem_singleton, List.not_mem_nil, not_false_eq_true, List.nodup_nil, and_true]
        exact of_decide_eq_false cm)] at hd'
      have hl'' : h'.get? l' = some { cls := .type "list", data := .seq us.reverse.toArray } := hs'.extBut _ _ (Ne.symm hne) hl9
      have hold : ∀ b o, s.heap.get? b = some o → h'.get? b = some o := fun b o e => by
        have e3' := S₃.ext b o (by rw [e2]; simp [Inv.none]) (by rw [e1]; exact e)
        have hbo : b ∉ own₃ := fun q => by
          rcases S₃.fresh b q with z | z
          · rw [e2] at z; exact nomatch z
          · rw [e1, e] at z; cases z
        have hbd : b ≠ s₃.heap.objs.size := fun q => by rw [q, hda] at e3'; cases e3'
        exact hs'.extBut b o hbd (x₉ b o hbo (hk₇ b o (x₆ b o hbo (Heap.get?_push_of_some _ e3'))))
      have hfin := kk s₃.heap.objs.size l' h' (s₉.toks + 2) ⟨hne, ⟨t, hd'⟩, _, _, hl'', fun av h => by
        have hr := (ru.reverse)
        have e0 : (iD (deck0 script).cells.reverse).reverse = iD (deck0 script).cells := by simp [iD]
        rw [e0] at hr
        exact imm_ints hr⟩ hold (hfr _ hdo hda) (hfr _ hlo hl3)
      have hse := S₉.same.eq
      rw [e4] at hse
      show B _ { s₉ with heap := h', toks := s₉.toks + 2 }
      rw [hse]
      exact hfin
    | _ => exact q₃.elim
  | _ => exact q₂.elim
end
end Og
namespace Og
open PySem PySem.Calls PySem.Spec PyProof.Rows

section
variable {w : World} {G : Gl} {sc : Sc} {names : List Str} {n : Nat} {vals : List Loc}

theorem comp_loopT {sc₂ : Sc} {elt iter : Expr} {x : Str} {px pos : Pos} {scope : Scope} {c : Fc} {own wr : List Addr} {s₂ : Shared} {A : Around} {E : Value → Shared → Prop} {ds : List D} {fs : Nat → D} {I : Nat → Inv} {cl : List (Str × Addr)} {it : Value}
    {X : List Addr → Nat → Heap → Prop} {RR : Value → Addr → Result → Shared → Prop} {hs : Heap} (hsc : EnvIs c.env sc) (hst : Step own hs own s₂.heap) (hwS : ∀ b ∈ wr, hs.get? b = none) (R : Room n A) (S : St G names (I 0) (c.with wr) own vals s₂) (hX : X own 0 s₂.heap) (W : Iter PP w A it false (.Name x px) c.fz wr ds X)
    (hwo : ∀ b ∈ wr, b ∉ own) (hwf : ∀ b ∈ wr, b ∉ c.fz) (hwm : ∀ b ∈ wr, b ∉ c.mt → c.h₀.get? b = none) (had : ∀ i, (I i).ad = (I 0).ad) (ho : ∀ a es, Loc.own a es ∈ vals → a ∉ (I 0).ad)
    (hre : relabel scope c.env = sc₂.scope) (hcl : cl = sc₂.cells) (hkind : scope.kind = .function) (hnc : ∀ y ∈ scope.names, y.2 ≠ .cell) (hx : scope.names.lookup x = some .local) (hxd : (x == ("__debug__" : Str)) = false) (hz : ds.length ≤ sizeLine)
    (he : ∀ i d, ds[i]? = some d → EvT w G (I i) (I (i + 1)) sc₂ [x] n [.d d] elt (fs i))
    (hRR : ∀ D C s', Made G (I ds.length) names vals c own hs ((List.range ds.length).map fs) D C s' → RR (.ref D) C (.ok .next) s') :
    wpAny (model PP w) A (newList []) (fun acc s₃ => wpAny (model PP w) A (newFunctionEnv scope c.env.globals cl [] c.env.qual none .none (some c.env)) (fun cenv s₄ =>
      codeAny (model PP w) A (.compStart (.ListComp elt [⟨.Name x px, iter, [], 0⟩] scope pos) 0 it acc { cenv with scope := relabel scope c.env }) (RR acc cenv.locals) s₄) E s₃) E s₂ := by
  refine wpAny_newObj_type (wpAny_newFunctionEnv hnc (by intro y hy; simp at hy) (fun h₁ hns₁ hsb₁ => ?_) hkind)
  dsimp only at hns₁ hsb₁ ⊢
  have hD0 : s₂.heap.get? s₂.heap.objs.size = none := none_size
  generalize hH2 : s₂.heap.push { cls := .type "list", dict := Option.none, data := .seq ([] : List Value).toArray } = H2 at hns₁ hsb₁ ⊢
  have hC : H2.objs.size = s₂.heap.objs.size + 1 := by rw [← hH2, Heap.size_push]
  have hC0 : s₂.heap.get? H2.objs.size = none := by
    cases e : s₂.heap.get? H2.objs.size with
    | none => rfl
    | some o => have := Heap.lt_size e; rw [hC] at this; exact absurd this (Nat.not_lt.mpr (Nat.le_succ _))
  have hDC : s₂.heap.objs.size ≠ H2.objs.size := by rw [hC]; exact Nat.ne_of_lt (Nat.lt_succ_self _)
  have old : ∀ b o, s₂.heap.get? b = some o → h₁.get? b = some o := fun b o e => hsb₁.extBut b o (fun q => by rw [q, hC0] at e; cases e) (Heap.get?_push_of_some _ (hH2 ▸ Heap.get?_push_of_some _ e))
  have hD1 : h₁.get? s₂.heap.objs.size = some { cls := .type "list", data := .seq ([] : List Value).toArray } := hsb₁.extBut _ _ hDC (Heap.get?_push_of_some _ (hH2 ▸ Heap.get?_push_size _ rfl))
  generalize hDe : s₂.heap.objs.size = Da at *
  generalize hCe : H2.objs.size = Ca at *
  clear hH2 hC hDe hCe
  let own' : List Addr := Da :: Ca :: own
  let cenv : Env := compEnvC scope cl Ca c.env
  have hsub : ∀ a ∈ own, a ∈ own' := fun a ha => .tail _ (.tail _ ha)
  have S1 : St G names (I 0) (c.with wr) own' vals { s₂ with heap := h₁, toks := s₂.toks + ([] : List (Str × Value)).length } := by
    refine S.widen (wd := [Da, Ca]) old ⟨rfl, rfl, rfl⟩ (fun b hb => ?_) (fun b hb => ?_)
    · simp at hb; rcases hb with rfl | rfl <;> assumption
    · simp at hb; rcases hb with rfl | rfl
      · exact ⟨_, hD1⟩
      · obtain ⟨o, _, _, e, _⟩ := hns₁; exact ⟨o, e⟩
  have st1 : Step own s₂.heap own' h₁ := ⟨Ext.keeps old, hsub, fun a ha => by
    simp [own'] at ha
    rcases ha with rfl | rfl | ha
    · exact .inr hD0
    · exact .inr hC0
    · exact .inl ha⟩
  have hCl : Ca ≠ c.env.locals := fun q => by
    obtain ⟨o, e⟩ := S.alive c.env.locals (List.mem_append_left _ S.lown)
    rw [← q, hC0] at e; cases e
  have hDl : Da ≠ c.env.locals := fun q => by
    obtain ⟨o, e⟩ := S.alive c.env.locals (List.mem_append_left _ S.lown)
    rw [← q, hD0] at e; cases e
  have hCad : Ca ∉ (I 0).ad := fun q => by
    obtain ⟨o, e⟩ := S.alive Ca (List.mem_append_left _ (S.iown Ca q).1)
    rw [hC0] at e; cases e
  have hDad : Da ∉ (I 0).ad := fun q => by
    obtain ⟨o, e⟩ := S.alive Da (List.mem_append_left _ (S.iown Da q).1)
    rw [hD0] at e; cases e
  have hvo : ∀ a es, Loc.own a es ∈ vals → a ∈ own := fun a es hm => by obtain ⟨m, _, h2⟩ := S.ns; exact h2.ownMem hm
  have hCv : ∀ a es, Loc.own a es ∈ vals → a ≠ Ca := fun a es hm q => by
    obtain ⟨o, e⟩ := S.alive a (List.mem_append_left _ (hvo a es hm))
    rw [q, hC0] at e; cases e
  have hDv : ∀ a es, Loc.own a es ∈ vals → a ≠ Da := fun a es hm q => by
    obtain ⟨o, e⟩ := S.alive a (List.mem_append_left _ (hvo a es hm))
    rw [q, hD0] at e; cases e
  have hwo' : ∀ b ∈ wr, b ∉ own' := fun b hb q => by
    obtain ⟨o, e⟩ := S.alive b (mem3.mpr (.inr (.inl hb)))
    simp [own'] at q
    rcases q with rfl | rfl | q
    · rw [hD0] at e; cases e
    · rw [hC0] at e; cases e
    · exact hwo b hb q
  have hkl : cenv.kindOf x = some .local := lookup_relabel_local hx
  have hkp : (cenv.scope.kind == .class || (cenv.scope.kind == .module && cenv.locals != cenv.globals)) = false := by
    have : cenv.scope.kind = .function := hkind
    rw [this]; rfl
  have hback : ∀ {a : Addr}, s₂.heap.get? a = none → a ∉ own → hs.get? a = none := fun {a} e q => by
    cases e' : hs.get? a with
    | none => rfl
    | some o => rw [hst.ext a o q e'] at e; cases e
  have hDn : Da ∉ own := fun q => by obtain ⟨o, e⟩ := S.alive Da (List.mem_append_left _ q); rw [hD0] at e; cases e
  have hCn : Ca ∉ own := fun q => by obtain ⟨o, e⟩ := S.alive Ca (List.mem_append_left _ q); rw [hC0] at e; cases e
  have hDf : Da ∉ (c.with wr).fz := fun q => by obtain ⟨o, e⟩ := S.alive Da (List.mem_append_right _ q); rw [hD0] at e; cases e
  have hCf : Ca ∉ (c.with wr).fz := fun q => by obtain ⟨o, e⟩ := S.alive Ca (List.mem_append_right _ q); rw [hC0] at e; cases e
  -- a change of what is frozen is no step of the frame
  have hoff : ∀ {o₁ : List Addr} {h₁ h₂ : Heap}, Step own hs o₁ h₁ → (∀ b o, b ∉ wr → h₁.get? b = some o → h₂.get? b = some o) → Step own hs o₁ h₂ := fun st hk =>
    ⟨fun a o ha e => hk a o (fun q => by rw [hwS a q] at e; cases e) (st.ext a o ha e), st.sub, st.new⟩
  have loop : ∀ s₃ : Shared, s₃ = { s₂ with heap := h₁, toks := s₂.toks + ([] : List (Str × Value)).length } →
      codeAny (model PP w) A (.compLoop (.ListComp elt [⟨.Name x px, iter, [], 0⟩] scope pos) 0 it (.ref Da) cenv) (RR (.ref Da) Ca) s₃ := by
    rintro s₃ rfl
    refine codeAny_compLoop_list (fun k s' => ∃ i, ds.length = i + k ∧ X own' i s'.heap ∧ Made G (I i) names vals (c.with wr) own hs ((List.range i).map fs) Da Ca s') ?_ ds.length
      ⟨0, by omega, W.step _ _ _ _ _ hX st1, S1, hst.trans st1, hback hD0 hDn, hback hC0 hCn, ⟨hDf, hDn, hCn, hCf⟩, hDC, ⟨[], 0, hD1, by simpa using RepAll.nil⟩, ⟨_, hns₁⟩⟩
    rintro k s' ⟨i, hlen, hX', MM⟩
    obtain ⟨S', st', _, _, _, _, ⟨vsd, md, hDo, hDr⟩, ⟨mC, hnC⟩⟩ := MM
    by_cases hk : k = 0
    · subst hk
      have hi : i = ds.length := by omega
      subst hi
      refine W.done own' s' _ _ hX' fun h' tk hkeep => ?_
      refine hRR Da Ca _ ⟨S'.thaw hwo' hwf hwm hkeep, hoff st' hkeep, hback hD0 hDn, hback hC0 hCn, ⟨fun q => hDf (List.mem_append_right _ q), hDn, hCn, fun q => hCf (List.mem_append_right _ q)⟩, hDC,
        ⟨vsd, md, hkeep _ _ (fun q => hwo' _ q (.head _)) hDo, hDr.mono fun a o ha e => ⟨hkeep a o (fun q => ha (mem3.mpr (.inr (.inl q)))) e, fun q => ha ?_⟩⟩, ⟨mC, ?_⟩⟩
      · rcases List.mem_append.mp q with q | q
        · exact mem3.mpr (.inl q)
        · exact mem3.mpr (.inr (.inr q))
      · obtain ⟨oC, es, ep, e, r⟩ := hnC
        exact ⟨oC, es, ep, hkeep _ _ (fun q => hwo' _ q (.tail _ (.head _))) e, r⟩
    · have hi : i < ds.length := by omega
      have hd : ds[i]? = some ds[i] := List.getElem?_eq_getElem hi
      have htk : (List.range (i + 1)).map fs = (List.range i).map fs ++ [fs i] := by rw [List.range_succ, List.map_append]; rfl
      refine wpAny_mono (W.item own' i ds[i] s' (fun v s₃ => wpAny (model PP w) A (PySem.assign (.Name x px) cenv v) (fun _ s₄ => wpAny (model PP w) A (eval elt cenv) (fun y s₅ =>
          wpAny (model PP w) A (PySem.call (.builtin "list.append") [.ref Da, y]) (fun _ s₆ => ∃ m, m < k ∧ ∃ i, ds.length = i + m ∧ X own' i s₆.heap ∧ Made G (I i) names vals (c.with wr) own hs ((List.range i).map fs) Da Ca s₆)
            (notedBy (model PP w) A cenv fun e s' => RR (.ref Da) Ca (.error e) s') s₅)
          (notedBy (model PP w) A cenv fun e s' => RR (.ref Da) Ca (.error e) s') s₄) (notedBy (model PP w) A cenv fun e s' => RR (.ref Da) Ca (.error e) s') s₃) _ hd hX' S'.alive fun v h' tk hX2 hkeep hlive hrep => ?_) (fun r s₂ hr => ?_) fun _ _ e => e
      · have S2 : St G names (I i) (c.with wr) own' vals { s' with heap := h', toks := tk } := S'.off hwo' hwm hkeep hlive
        have hn2 : h'.Ns Ca mC := by
          obtain ⟨oC, es, ep, e, r⟩ := hnC
          exact ⟨oC, es, ep, hkeep _ _ (fun q => hwo' _ q (.tail _ (.head _))) e, r⟩
        have hDo2 := hkeep _ _ (fun q => hwo' _ q (.head _)) hDo
        have hDr2 : RepAll (own' ++ (c.with wr).fz) h' vsd ((List.range i).map fs) := hDr.mono fun a o ha e => ⟨hkeep a o (fun q => ha (mem3.mpr (.inr (.inl q)))) e, ha⟩
        refine wpAny_assign_Name (wpAny_storeName_local hkl hn2 (fun h₃ hn₃ hs₃ => ?_) hkp)
        -- the name is stored
        have x3 : Ext [Ca] h' h₃ := fun b o hb e => hs₃.extBut b o (fun q => hb (by rw [q]; exact .head _)) e
        have S3 : St G names (I i) (c.with wr) own' vals { s' with heap := h₃, toks := tk + 1 } := by
          refine S2.via (ow := [Ca]) x3 (fun a ha => ?_) (fun a ha => ?_) ((I i).keep _ _ S2.inv fun a ha o e => hs₃.extBut a o (fun q => hCad (by have q' : a = Ca := q; rw [← q']; exact had i ▸ ha)) e) fun a es hm q => hCv a es hm (by simpa using q)
          · obtain rfl : a = Ca := by simpa using ha
            exact ⟨.tail _ (.head _), hCl⟩
          · obtain rfl : a = Ca := by simpa using ha
            obtain ⟨o, _, _, e, _⟩ := hn₃
            exact ⟨o, e⟩
        have e3 : Ext own' h' h₃ := fun b o hb e => x3 b o (fun q => hb (by obtain rfl : b = Ca := (by simpa using q); exact .tail _ (.head _))) e
        have hDo3 := x3 _ _ (by simpa using hDC) hDo2
        have hDr3 : RepAll (own' ++ (c.with wr).fz) h₃ vsd ((List.range i).map fs) := hDr2.ext e3
        -- the item, in a frame of its own
        let ow : List Addr := Ca :: (I 0).ad
        let c₂ : Fc := { env := cenv, h₀ := h₃, mt := ow, fz := own' ++ (c.with wr).fz, s₀ := { s' with heap := h₃, toks := tk + 1 } }
        have hsub2 : ∀ a ∈ ow, a ∈ own' := fun a ha => by
          rcases List.mem_cons.mp ha with rfl | ha
          · exact .tail _ (.head _)
          · exact hsub a (S.iown a ha).1
        have hri : Rep (own' ++ (c.with wr).fz) h₃ v ds[i] := Rep.ext e3 hrep
        have Si : St G [x] (I i) c₂ ow [.d ds[i]] { s' with heap := h₃, toks := tk + 1 } :=
          { kind := hkind
            glob := S.glob
            blt := S.blt
            loc := fun y hy => by obtain rfl : y = x := by simpa using hy
                                  exact ⟨hkl, hxd⟩
            nodup := by simp
            base := S3.base
            ns := ⟨_, hn₃, .cons ⟨v, by simp, hri.mono fun a o ha e => ⟨e, fun q => ha (by
              rcases List.mem_append.mp q with q | q
              · exact List.mem_append_left _ (hsub2 a q)
              · exact q)⟩⟩ .nil⟩
            lown := .head _
            alive := fun a ha => by
              rcases List.mem_append.mp ha with q | q
              · exact S3.alive a (List.mem_append_left _ (hsub2 a q))
              · exact S3.alive a q
            ext := fun b o _ e => e
            fresh := fun a ha => .inl ha
            apart := fun a ha => by
              rcases List.mem_append.mp ha with q | q
              · exact S3.apart a (List.mem_append_left _ (hsub2 a q))
              · exact S3.apart a q
            inv := S3.inv
            iown := fun a ha => ⟨.tail _ (had i ▸ ha), fun q => hCad (by have q' : a = Ca := q; rw [← q']; exact had i ▸ ha)⟩
            same := ⟨rfl, rfl, rfl⟩ }
        refine (he i ds[i] hd).go c₂ ow _ A _ _ ⟨hre, hcl⟩ R Si fun y s₅ S₅ x₅ r₅ => ?_
        have hDow : Da ∉ ow := fun q => by
          rcases List.mem_cons.mp q with q | q
          · exact hDC q
          · exact hDad q
        have S5 : St G names (I (i + 1)) (c.with wr) own' vals { ({ s' with heap := h₃, toks := tk + 1 } : Shared) with heap := s₅.heap, toks := s₅.toks } := by
          refine S3.adopt (ow := ow) x₅ (fun a ha => ⟨hsub2 a ha, ?_⟩) (fun a ha => S₅.alive a (List.mem_append_left _ ha)) (fun a ha => by rw [had (i + 1)] at ha; exact ⟨hsub a (S.iown a ha).1, (S.iown a ha).2⟩) S₅.inv fun a es hm q => ?_
          · rcases List.mem_cons.mp ha with rfl | ha
            · exact hCl
            · exact (S.iown a ha).2
          · rcases List.mem_cons.mp q with q | q
            · exact hCv a es hm q
            · exact ho a es hm q
        have e5 : Ext own' h₃ s₅.heap := fun b o hb e => x₅ b o (fun q => hb (hsub2 b q)) e
        have hs5 : s₅ = { ({ s' with heap := h₃, toks := tk + 1 } : Shared) with heap := s₅.heap, toks := s₅.toks } := S₅.same.eq
        have hDo5 := x₅ _ _ hDow hDo3
        have hDr5 : RepAll (own' ++ (c.with wr).fz) s₅.heap vsd ((List.range i).map fs) := hDr3.ext e5
        have r5 : Rep (own' ++ (c.with wr).fz) s₅.heap y (fs i) := r₅.mono fun a o ha e => ⟨e, fun q => ha (List.mem_append_right _ q)⟩
        refine list_append_obj hDo5 (fun h₆ m₆ hDo6 hs₆ => ?_) ?_
        · have x6 : Ext [Da] s₅.heap h₆ := fun b o hb e => hs₆.extBut b o (fun q => hb (by rw [q]; exact .head _)) e
          have e6 : Ext own' s₅.heap h₆ := fun b o hb e => x6 b o (fun q => hb (by obtain rfl : b = Da := (by simpa using q); exact .head _)) e
          have S6 : St G names (I (i + 1)) (c.with wr) own' vals { ({ ({ s' with heap := h₃, toks := tk + 1 } : Shared) with heap := s₅.heap, toks := s₅.toks } : Shared) with heap := h₆, toks := s₅.toks } := by
            refine S5.via (ow := [Da]) x6 (fun a ha => ?_) (fun a ha => ?_) ((I (i + 1)).keep _ _ S5.inv fun a ha o e => hs₆.extBut a o (fun q => hDad (q ▸ (had (i + 1) ▸ ha))) e) fun a es hm q => hDv a es hm (by simpa using q)
            · obtain rfl : a = Da := by simpa using ha
              exact ⟨.head _, hDl⟩
            · obtain rfl : a = Da := by simpa using ha
              exact ⟨_, hDo6⟩
          have hS6 : ({ s₅ with heap := h₆ } : Shared) = { ({ ({ s' with heap := h₃, toks := tk + 1 } : Shared) with heap := s₅.heap, toks := s₅.toks } : Shared) with heap := h₆, toks := s₅.toks } := by
            rw [hs5]
          rw [hS6]
          have allx : Ext own' h' h₆ := (e3.trans e5).trans e6
          refine ⟨k - 1, by omega, i + 1, by omega, W.step _ _ _ _ _ hX2 (Step.ofExt allx), S6, (hoff st' hkeep).trans (Step.ofExt allx), hback hD0 hDn, hback hC0 hCn, ⟨hDf, hDn, hCn, hCf⟩, hDC,
            ⟨vsd ++ [y], m₆, hDo6, by rw [htk]; exact (hDr5.append (.cons r5 .nil)).ext e6⟩, ?_⟩
          obtain ⟨m5, h5, _⟩ := S₅.ns
          exact ⟨m5, h5.sameBut hs₆ (Ne.symm hDC)⟩
        · rw [hDr5.length]
          simp
          omega
      · obtain ⟨v, rfl, hv⟩ := hr
        exact fun Γ p hΓ => (hv Γ p hΓ : wpAny (model PP w) A (PySem.assign (.Name x px) cenv v) _ _ _) Γ p hΓ
  show codeAny (model PP w) A (.compStart (.ListComp elt [⟨.Name x px, iter, [], 0⟩] scope pos) 0 it (.ref Da) cenv) (RR (.ref Da) Ca) _
  refine codeAny_compStart_list (loop _ rfl) (W.self own' 0 _ _ _ (W.step _ _ _ _ _ hX st1) (loop _ rfl))


end
end Og
namespace Og
open PySem PySem.Calls PySem.Spec PyProof.Rows

noncomputable def rangeD (m : Nat) : List D := (List.range m).map fun (i : Nat) => D.int (i : Int)
noncomputable def relabelS (scope sco : Scope) : Scope := { scope with names := scope.names.map fun (n, k) => if (k == NameKind.free && sco.kind == .function && sco.names.lookup n == some .cell) then (n, NameKind.cell) else (n, k) }

section
variable {w : World} {G : Gl} {I I' I'' : Inv} {sc : Sc} {names : List Str} {n : Nat} {vals : List Loc}

theorem iter_range {A : Around} (hA : A.handled = none) {x : Str} {px : Pos} {fz : List Addr} {it : Addr} {m : Nat} :
    Iter PP w A (.ref it) false (.Name x px) fz [it] (rangeD m) (fun own i h => IsRangeIter h it i ((m : Int) - i) 1 ∧ it ∉ own) where
  step := fun own i h own' h' x st => by
    obtain ⟨hio, hn⟩ := x
    refine ⟨st.ext _ _ hn hio, fun q => ?_⟩
    rcases st.new _ q with q | q
    · exact hn q
    · rw [hio] at q; cases q
  item := fun own i d s Q E hd x hal k => by
    obtain ⟨hi, hn⟩ := x
    have him : i < m ∧ d = .int i := by
      simp only [rangeD, List.getElem?_map, List.getElem?_range'] at hd
      by_cases q : i < m
      · rw [List.getElem?_range q] at hd
        exact ⟨q, by simpa using hd.symm⟩
      · rw [List.getElem?_eq_none (by simp; omega)] at hd; cases hd
    obtain ⟨him, rfl⟩ := him
    refine wpAny_pyNext_range_item hi (by omega) fun h' hi' hs => ⟨_, rfl, ?_⟩
    have hk : ∀ b o, b ∉ [it] → s.heap.get? b = some o → h'.get? b = some o := fun b o hb e => hs.extBut b o (fun q => hb (by simp [q])) e
    have e1 : ((i + 1 : Nat) : Int) = (i : Int) + 1 := by omega
    have fin := k (.int i s.toks) h' (s.toks + 1) ⟨by rw [e1, show (m : Int) - ((i : Int) + 1) = (m : Int) - i - 1 by omega]; exact hi', hn⟩ hk (fun b hb => by
      obtain rfl : b = it := by simpa using hb
      exact ⟨_, hi'⟩) (.int _ _)
    unfold letOwnedTupleGo
    exact wpAny_pure fin
  self := fun own i s Q E x k => wpAny_pyIter_rangeiter x.1 k
  done := fun own s Q E x k => by
    refine wpAny_pyNext_range_end hA x.1 (by simp [rangeD]) fun h' hx => k h' s.toks fun b o hb e => hx b o (fun q => hb (by simp [q])) e

structure EvIT (w : World) (G : Gl) (I I' : Inv) (sc : Sc) (names : List Str) (n : Nat) (vals : List Loc) (e : Expr) (t : Expr) (ds : List D) : Prop where
  go : ∀ (c : Fc) (own : List Addr) (s : Shared) (A : Around) (Q : Value → Shared → Prop) (E : Value → Shared → Prop), EnvIs c.env sc → Room n A → St G names I c own vals s →
    (∀ it s' wr X, St G names I' (c.with wr) own vals s' → Ext own s.heap s'.heap → Iter PP w A it false t c.fz wr ds X → X own 0 s'.heap → (∀ b ∈ wr, s.heap.get? b = none) → Q it s') →
    wpAny (model PP w) A (eval e c.env) (fun x s₁ => wpAny (model PP w) A (pyIter x) Q E s₁) E s

theorem EvIT.range {e : Expr} {np pos px : Pos} {x : Str} {m : Nat} (hb : BAt G "range" (.type "range")) (h : EvT w G I I' sc names n vals e (.int m)) (hm : m ≤ 1000000)
    (hx : sc.scope.names.lookup ("range" : Str) = some .globalImplicit := by rfl) (hst : ∀ env, starEach [e] env = (false, eval e env) :: starEach [] env := by exact fun _ => star_plain rfl) :
    EvIT w G I I' sc names n vals (.Call (.Name "range" np) [e] [] pos) (.Name x px) (rangeD m) := by
  constructor
  intro c own s A Q E hsc R S kk
  refine Call_ (EvE.bName hsc S hb ?_ hx (by decide))
  refine PyProof.Rows.callWith_type (by rw [hst]; rfl) ?_
  have hh : wpAny (model PP w) A (spliced (backTo pos (starEach [e] c.env))) (fun vs s₁ => wpAny (model PP w) A (PySem.call (.type "range") ([] ++ vs) []) (fun x s₁ => wpAny (model PP w) A (pyIter x) Q E s₁) E s₁) E s := by
    refine args_cons (h.go c own s A _ E hsc R S fun v s₁ S₁ x₁ r₁ => args_nil ?_) (hst _)
    cases r₁ with | int _ t =>
    refine call_range_1 ?_
    have S₂ : St G names I' c own vals { s₁ with heap := s₁.heap.push { cls := .type "range", data := .fields #[.int 0 s₁.toks, .int m t, .int 1 (s₁.toks + 1)] }, toks := s₁.toks + 1 + 1 } := S₁.keeps (fun _ _ e => Heap.get?_push_of_some _ e) ⟨rfl, rfl, rfl⟩
    have hr : IsRange (s₁.heap.push { cls := .type "range", data := .fields #[.int 0 s₁.toks, .int m t, .int 1 (s₁.toks + 1)] }) s₁.heap.objs.size 0 m 1 s₁.toks t (s₁.toks + 1) := Heap.get?_push_size _ rfl
    have hp : ∀ b o, s₁.heap.get? b = some o → (s₁.heap.push { cls := .type "range", data := .fields #[.int 0 s₁.toks, .int m t, .int 1 (s₁.toks + 1)] }).get? b = some o := fun _ _ e => Heap.get?_push_of_some _ e
    generalize s₁.heap.push { cls := .type "range", data := .fields #[.int 0 s₁.toks, .int m t, .int 1 (s₁.toks + 1)] } = H at *
    generalize s₁.heap.objs.size = ra at *
    refine wpAny_pyIter_range (s := { s₁ with heap := H, toks := s₁.toks + 1 + 1 }) hr (small_one (by decide) (by decide) (by omega) (by omega)) ?_
    have hn : H.get? H.objs.size = none := none_size
    have hsz : Builtin.Range.rangeSize 0 m 1 = m := by rw [rangeSize_one]; split <;> omega
    rw [hsz]
    have hnew : (H.push { cls := .type "range_iterator", data := .fields #[rawInt 0, rawInt m, rawInt 1] }).get? H.objs.size = some { cls := .type "range_iterator", data := .fields #[rawInt 0, rawInt m, rawInt 1] } := Heap.get?_push_size _ rfl
    refine kk _ _ [H.objs.size] _ (S₂.freeze (fun _ _ e => Heap.get?_push_of_some _ e) ⟨rfl, rfl, rfl⟩ (fun b hb => ?_) (fun b hb => ?_)) (x₁.trans ((Ext.keeps hp).trans (Ext.push _))) (iter_range R.hand (m := m)) ⟨by simpa using hnew, fun q => S₂.new hn (List.mem_append_left _ q)⟩ (fun b hb => ?_)
    · obtain rfl := List.mem_singleton.mp hb; exact hn
    · obtain rfl := List.mem_singleton.mp hb; exact ⟨_, hnew⟩
    · obtain rfl := List.mem_singleton.mp hb
      cases e : s.heap.get? H.objs.size with
      | none => rfl
      | some o =>
        by_cases q : H.objs.size ∈ own
        · exact absurd (List.mem_append_left _ q) (S₂.new hn)
        · have := hp _ _ (x₁ _ o q e); rw [hn] at this; cases this
  rw [hst] at hh ⊢
  exact evalArgs_plain hh

theorem comp_srcT {use : Option (Value → Sem Unit)} {sc₂ : Sc} {elt iter : Expr} {x : Str} {px pos p₂ : Pos} {scope : Scope} {c : Fc} {own : List Addr} {s : Shared} {A : Around} {Q : Value → Shared → Prop} {E : Value → Shared → Prop} {ds : List D} {fs : Nat → D} {I₀ : Inv} {I : Nat → Inv} {cl : List (Str × Addr)}
    (hi : EvIT w G I₀ (I 0) sc names n vals iter (.Name x px) ds) (hsc : EnvIs c.env sc) (R : Room n A) (S : St G names I₀ c own vals s)
    (hclos : closureFor scope c.env = pure cl) (had : ∀ i, (I i).ad = (I 0).ad) (ho : ∀ a es, Loc.own a es ∈ vals → a ∉ (I 0).ad)
    (hre : relabel scope c.env = sc₂.scope) (hcl : cl = sc₂.cells) (hkind : scope.kind = .function) (hnc : ∀ y ∈ scope.names, y.2 ≠ .cell) (hnames : ∀ y ∈ scope.names, y.2 = .local → scope.names.lookup y.1 = some .local)
    (hx : scope.names.lookup x = some .local) (hxd : (x == ("__debug__" : Str)) = false) (hz : ds.length ≤ sizeLine)
    (he : ∀ i d, ds[i]? = some d → EvT w G (I i) (I (i + 1)) sc₂ [x] n [.d d] elt (fs i)) (hfold : ∀ y, foldedSetIterable iter c.env y = pure y)
    (hQ : ∀ D C s', Made G (I ds.length) names vals c own s.heap ((List.range ds.length).map fs) D C s' → compPost (model PP w) A E use Q (.ref D) C (.ok .next) s') :
    wpAny (model PP w) A (comprehension (.ListComp elt [⟨.Name x px, iter, [], 0⟩] scope pos) scope c.env p₂ (newList []) false (eval iter c.env) use) Q E s := by
  refine wpAny_comprehension_free rfl hfold hclos hkind hnames (hi.go c own s A _ E hsc R S fun it s₂ wr X S₂ x₂ W hX hwr => ?_)
  have h0 : ∀ b ∈ wr, b ∉ c.mt → c.h₀.get? b = none := fun b hb hm => by
    cases e : c.h₀.get? b with
    | none => rfl
    | some o => have := S.ext b o hm e; rw [hwr b hb] at this; cases this
  have hfz : ∀ b ∈ wr, b ∉ c.fz := fun b hb q => by
    obtain ⟨o, e⟩ := S.alive b (List.mem_append_right _ q)
    rw [hwr b hb] at e; cases e
  have hown : ∀ b ∈ wr, b ∉ own := fun b hb q => by
    obtain ⟨o, e⟩ := S.alive b (List.mem_append_left _ q)
    rw [hwr b hb] at e; cases e
  exact comp_loopT hsc (Step.ofExt x₂) hwr R S₂ hX W hown hfz h0 had ho hre hcl hkind hnc hx hxd hz he hQ

noncomputable def closScope (scope : Scope) (x : Str) : Bool := scope.kind == .function && (scope.names.all fun y => y.2 != .cell && (y.2 != .local || decide (scope.names.lookup y.1 = some .local))) && decide (scope.names.lookup x = some .local) && !(x == ("__debug__" : Str))
structure ClosScope (scope : Scope) (x : Str) : Prop where
  kind : scope.kind = .function
  nc : ∀ y ∈ scope.names, y.2 ≠ .cell
  loc : ∀ y ∈ scope.names, y.2 = .local → scope.names.lookup y.1 = some .local
  hx : scope.names.lookup x = some .local
  xd : (x == ("__debug__" : Str)) = false
theorem closScope_is {scope : Scope} {x : Str} (h : closScope scope x = true) : ClosScope scope x := by
  unfold closScope at h
  simp only [Bool.and_eq_true, List.all_eq_true, decide_eq_true_eq, Bool.not_eq_true', Bool.or_eq_true, bne_iff_ne, beq_iff_eq] at h
  obtain ⟨⟨⟨h1, h2⟩, h3⟩, h4⟩ := h
  exact ⟨h1, fun y hy => (h2 y hy).1, fun y hy hl => (h2 y hy).2.resolve_left (fun z => z hl), h3, h4⟩

theorem EvT.comp {elt iter : Expr} {x : Str} {px pos : Pos} {scope : Scope} {ds : List D} {fs : Nat → D} {I₀ : Inv} {I : Nat → Inv} {cl : List (Str × Addr)} (hi : EvIT w G I₀ (I 0) sc names n vals iter (.Name x px) ds) (hsp : closScope scope x = true) (hz : ds.length ≤ sizeLine)
    (had0 : (I 0).ad = I₀.ad) (had : ∀ i, (I i).ad = (I 0).ad) (hclos : ∀ env : Env, env.scope = sc.scope → env.cells = sc.cells → closureFor scope env = pure cl) (he : ∀ i d, ds[i]? = some d → EvT w G (I i) (I (i + 1)) ⟨relabelS scope sc.scope, cl⟩ [x] n [.d d] elt (fs i)) (ho : ∀ a es, Loc.own a es ∈ vals → a ∉ (I 0).ad)
    (hfold : ∀ env y, foldedSetIterable iter env y = pure y := by intro _ _; rfl) : EvT w G I₀ (I ds.length) sc names n vals (.ListComp elt [⟨.Name x px, iter, [], 0⟩] scope pos) (.lst ((List.range ds.length).map fs)) := by
  constructor
  intro c own s A Q E hsc R S k
  have P := closScope_is hsp
  rw [eval_ListComp]
  have hvo : ∀ a es, Loc.own a es ∈ vals → a ∈ own := fun a es hm => by obtain ⟨m, _, h2⟩ := S.ns; exact h2.ownMem hm
  refine comp_srcT (use := Option.none) (sc₂ := ⟨relabelS scope sc.scope, cl⟩) hi hsc R S (hclos _ hsc.1 hsc.2) had ho (by rw [← hsc.1]; rfl) rfl P.kind P.nc P.loc P.hx P.xd hz he (hfold _) fun D C s' M => ?_
  obtain ⟨m, hn⟩ := M.ns
  refine ⟨m, hn, fun h' hs' => ?_⟩
  have hia : ∀ a ∈ (I ds.length).ad, a ∈ own := fun a ha => (S.iown a (by rw [had, had0] at ha; exact ha)).1
  obtain ⟨S', x', r'⟩ := M.back (t := s'.toks) hs' S.lown hia hvo
  exact k _ _ S' x' r'

theorem Ex1T.assignComp {elt iter : Expr} {x y : Str} {px py pos spos : Pos} {scope : Scope} {ds : List D} {fs : Nat → D} {I₀ : Inv} {I : Nat → Inv} {cl : List (Str × Addr)} (i : Nat) (hy : names[i]? = some y) (hi : EvIT w G I₀ (I 0) sc names n vals iter (.Name x px) ds) (hsp : closScope scope x = true) (hz : ds.length ≤ sizeLine)
    (had0 : (I 0).ad = I₀.ad) (had : ∀ i, (I i).ad = (I 0).ad) (hclos : ∀ env : Env, env.scope = sc.scope → env.cells = sc.cells → closureFor scope env = pure cl) (he : ∀ i d, ds[i]? = some d → EvT w G (I i) (I (i + 1)) ⟨relabelS scope sc.scope, cl⟩ [x] n [.d d] elt (fs i)) (ho : ∀ a es, Loc.own a es ∈ vals → a ∉ (I 0).ad)
    (hsw : ∀ env : Env, swapsWith (.ListComp elt [⟨.Name x px, iter, [], 0⟩] scope pos) (some (.Name y py)) spos.line { env with scope := sc.scope } = pure true := by intro _; rfl)
    (hfold : ∀ env y, foldedSetIterable iter env y = pure y := by intro _ _; rfl) :
    Ex1T PP w G I₀ sc names n vals (.Assign [.Name y py] (.ListComp elt [⟨.Name x px, iter, [], 0⟩] scope pos) spos) (fun I' => I' = I ds.length) (vals.set i (.d (.lst ((List.range ds.length).map fs)))) := by
  constructor
  intro c own s A Q E hsc R S k
  have P := closScope_is hsp
  have hvo : ∀ a es, Loc.own a es ∈ vals → a ∈ own := fun a es hm => by obtain ⟨m, _, h2⟩ := S.ns; exact h2.ownMem hm
  have hia : ∀ a ∈ (I ds.length).ad, a ∈ own := fun a ha => (S.iown a (by rw [had, had0] at ha; exact ha)).1
  rw [exec_Assign_Name_used _ _ _ _ (by rw [env_sc hsc.1]; exact hsw _)]
  refine wpAny_bind (wpAny_standAt (wpAny_bind ?_))
  show wpAny _ A (do let _ ← comprehension (.ListComp elt [⟨.Name x px, iter, [], 0⟩] scope pos) scope c.env _ (newList []) false (eval iter c.env) (some (PySem.assign (.Name y py) c.env))) _ _ s
  refine wpAny_bind (wpAny_mono (comp_srcT (Q := fun _ s' => Q .next s') (use := some (PySem.assign (.Name y py) c.env)) (sc₂ := ⟨relabelS scope sc.scope, cl⟩) hi hsc R S (hclos _ hsc.1 hsc.2) had ho (by rw [← hsc.1]; rfl) rfl P.kind P.nc P.loc P.hx P.xd hz he (hfold _) fun D C s' M => ?_)
    (fun _ s' hq => wpAny_pure (wpAny_pure hq)) fun _ _ e => e)
  show wpAny _ A (PySem.assign (.Name y py) c.env (.ref D)) _ _ _
  obtain ⟨S', st, fD, fC, ⟨d1, d2, d3, d4⟩, ne, ⟨vs, m, hD, hr⟩, ⟨mC, hnC⟩⟩ := M
  have hCl : C ≠ c.env.locals := fun q => d3 (q ▸ S.lown)
  have S1 : St G names (I ds.length) c (C :: own) vals s' := S'.narrow (fun a ha => .tail _ ha) (.tail _ S.lown) (fun a ha => .tail _ (hia a ha)) fun a es hm => .tail _ (hvo a es hm)
  have r1 : Rep ((C :: own) ++ c.fz) s'.heap (.ref D) (.lst ((List.range ds.length).map fs)) := .lst (fun q => by
    rcases List.mem_append.mp q with q | q
    · rcases List.mem_cons.mp q with q | q
      · exact ne q
      · exact d2 q
    · exact d1 q) hD (hr.mono fun a o ha e => ⟨e, fun q => ha (.tail _ q)⟩)
  obtain ⟨mL, hnL, hvL⟩ := S1.ns
  refine wpAny_assign_Name (wpAny_storeName_local (S1.loc y (List.mem_of_getElem? hy)).1 hnL (fun h' hn' hs' => ?_) (by rw [S1.kind]; rfl))
  have xe : Ext (C :: own) s'.heap h' := fun b o hb e => hs'.extBut b o (fun q => hb (q ▸ S1.lown)) e
  have S2 := S1.store (t := s'.toks + 1) (l := .d (.lst ((List.range ds.length).map fs))) hnL hvL hn' hs' hy ⟨.ref D, rfl, r1.ext xe⟩
  refine ⟨mC, hnC.sameBut hs' hCl, fun h'' hs'' => ?_⟩
  have x2 : Ext [C] h' h'' := fun b o hb e => hs''.extBut b o (fun q => hb (by rw [q]; exact .head _)) e
  have hvo2 : ∀ a es, Loc.own a es ∈ vals.set i (.d (.lst ((List.range ds.length).map fs))) → a ∈ own := fun a es hm => by
    rcases List.mem_or_eq_of_mem_set hm with q | q
    · exact hvo a es q
    · cases q
  refine k _ (I ds.length) own rfl (fun a ha => .inl (by rw [had, had0] at ha; exact ha)) ⟨fun a o ha e => ?_, fun _ h => h, fun _ h => .inl h⟩ (S2.drop (t := s'.toks + 1) x2 (.head _) d3 d4 (fun a ha => .tail _ ha) S.lown hia hvo2)
  have hDa : a ≠ D := fun q => by rw [q, fD] at e; cases e
  have hCa : a ≠ C := fun q => by rw [q, fC] at e; cases e
  exact x2 a o (by simpa using hCa) (hs'.extBut a o (fun q => ha (q ▸ S.lown)) (st.ext a o ha e))
end
end Og
namespace Og
open PySem PySem.Calls PySem.Spec PyProof.Rows

structure CAt (G : Gl) (f : Addr) (body : List Stmt) (scope : Scope) (ps : List Str) : Prop where
  ex : ∃ o fd, G.hb.get? f = some o ∧ o.data = .func fd ∧ fd.body = .stmts body ∧ fd.scope = scope ∧ fd.globals = mainGlobals ∧ fd.builtins = builtinsNs ∧ fd.closure = [] ∧ G.hb.CodeRec fd.code fd.qualname ∧
    ∀ vs : List Value, vs.length = ps.length → bindArgs fd ⟨vs, []⟩ = pure (ps.zip vs)

structure FrP (w : World) (cs : List (Addr × Option Value)) (ls : OL) (a ca : Addr) (k : Dk) (h : Heap) : Prop where
  cel : ∀ p ∈ cs, h.IsCell p.1 p.2
  lst : ∀ p ∈ ls, ∃ m, h.get? p.1 = some { cls := .type "list", data := .seq p.2.toArray m }
  dk : DkP w a ca k h
  nd : (a :: ca :: (cs.map (·.1) ++ ls.map (·.1))).Nodup
noncomputable def frI (w : World) (cs : List (Addr × Option Value)) (ls : OL) (a ca : Addr) (k : Dk) : Inv :=
  ⟨FrP w cs ls a ca k, a :: ca :: (cs.map (·.1) ++ ls.map (·.1)), fun h h' P hk => ⟨fun p hp => let ⟨o, ho, hd⟩ := P.cel p hp; ⟨o, hk p.1 (.tail _ (.tail _ (List.mem_append_left _ (List.mem_map.mpr ⟨p, hp, rfl⟩)))) _ ho, hd⟩,
    fun p hp => let ⟨m, e⟩ := P.lst p hp; ⟨m, hk p.1 (.tail _ (.tail _ (List.mem_append_right _ (List.mem_map.mpr ⟨p, hp, rfl⟩)))) _ e⟩,
    (deckI w a ca k).keep _ _ P.dk fun b hb o e => hk b (by
      rcases List.mem_cons.mp hb with rfl | hb
      · exact .head _
      · rw [List.mem_singleton.mp hb]; exact .tail _ (.head _)) o e, P.nd⟩⟩
theorem frI_ad {w : World} {cs : List (Addr × Option Value)} {ls : OL} {a ca : Addr} {k k' : Dk} : (frI w cs ls a ca k').ad = (frI w cs ls a ca k).ad := rfl

section
variable {w : World} {G : Gl} {I I' I'' : Inv} {sc : Sc} {names : List Str} {n : Nat} {vals : List Loc} {cs : List (Addr × Option Value)} {ls : OL} {a ca : Addr} {k : Dk}

theorem CAt.enter {f : Addr} {body : List Stmt} {scope : Scope} {ps : List Str} (F : CAt G f body scope ps) {av : List Addr} {s : Shared} {A : Around} {vs : List Value} {B : Result → Shared → Prop} (R : Room (n + 1) A)
    (base : ∀ b o, G.hb.get? b = some o → s.heap.get? b = some o) (hal : ∀ x ∈ I.ad ++ av, ∃ o, s.heap.get? x = some o) (hap : ∀ x ∈ I.ad ++ av, G.hb.get? x = none) (hP : I.P s.heap) (hlen : vs.length = ps.length)
    (hok : okNames scope names = true) (hkind : ∀ n, ∀ x ∈ ps, scope.names.lookup x = some .local ∨ (scope.names.lookup x = some .cell ∧ ((cellsFrom n scope.names []).lookup x).isSome = true))
    (hv : ∀ (own : List Addr) (h₁ : Heap), (∀ a o, a ∉ I.ad ++ av → s.heap.get? a = some o → h₁.get? a = some o ∧ a ∉ own ++ av) → Vars own av h₁ (bindL (fun x => scope.names.lookup x) (ps.zip vs) fun _ => none) names vals)
    (hx : ∀ (c : Fc) (s₁ : Shared) (A' : Around) (E : Value → Shared → Prop) (L : Addr), c.h₀ = s.heap → c.mt = I.ad → c.fz = av → c.s₀ = s → c.env.locals = L → EnvIs c.env ⟨scope, cellsFrom (L + 1) scope.names []⟩ → s.heap.get? L = none →
      (∀ p ∈ cellsFrom (L + 1) scope.names [], s.heap.get? p.2 = none ∧ p.2 ≠ L) → Room n A' → (∀ x c, (cellsFrom (L + 1) scope.names []).lookup x = some c → s₁.heap.IsCell c (bindC (fun x => scope.names.lookup x) (ps.zip vs) (fun _ => none) x)) →
      St G names I c (L :: ((cellsFrom (L + 1) scope.names []).map (·.2) ++ I.ad)) vals s₁ →
      wpAny (model PP w) A' (execs body c.env) (fun f s' => B (.ok (.ret (match f with | .ret v => v | _ => .none))) s') E s₁)
    (hnd : ∀ n, ((cellsFrom n scope.names []).map (·.1)).Nodup) (hco : scope.isCoroutine = false := by rfl) (hgen : scope.isGenerator = false := by rfl) (hk : scope.kind = .function := by rfl) :
    codeAny (model PP w) A (.call (.ref f) ⟨vs, []⟩) B s := by
  obtain ⟨of, fd, h1, h2, h3, h4, h5, h6, h7, h8, h9⟩ := F.ex
  subst h4
  have hzip : (ps.zip vs).map (·.1) = ps := by rw [List.map_fst_zip (by omega)]
  refine codeAny_call_cells (by have := R.depth; omega) (base _ _ h1) h2 (G.nolimit.keeps base) (h8.keeps base) h3 (h9 vs hlen) h7 (fun x hx => hkind _ x.1 (by rw [← hzip]; exact List.mem_map.mpr ⟨x, hx, rfl⟩)) (fun s₁ IC => ?_) hco hgen hk
  have hL : s.heap.get? s.heap.objs.size = none := none_size
  let c : Fc := { env := callEnvC fd s.heap.objs.size f, h₀ := s.heap, mt := I.ad, fz := av, s₀ := s }
  have hcn : ∀ p ∈ cellsFrom (s.heap.objs.size + 1) fd.scope.names [], s.heap.get? p.2 = none ∧ p.2 ≠ s.heap.objs.size := fun p hp => by
    have hab : s.heap.objs.size < p.2 := IC.above p.1 p.2 hp
    refine ⟨?_, fun q => absurd hab (by rw [q]; exact Nat.lt_irrefl _)⟩
    cases e : s.heap.get? p.2 with
    | none => rfl
    | some o => exact absurd (Nat.lt_trans hab (Heap.lt_size e)) (Nat.lt_irrefl _)
  have hcl : ∀ p ∈ cellsFrom (s.heap.objs.size + 1) fd.scope.names [], ∃ o, s₁.heap.get? p.2 = some o := fun p hp => by
    obtain ⟨o, e, _⟩ := IC.cell p.1 p.2 (lookup_of_mem_nodup (hnd _) hp)
    exact ⟨o, e⟩
  have hkp := IC.toInCall.keep
  have hsub : ∀ {x : Addr}, x ∈ (s.heap.objs.size :: ((cellsFrom (s.heap.objs.size + 1) fd.scope.names []).map (·.2) ++ I.ad)) ++ av → x = s.heap.objs.size ∨ (∃ p ∈ cellsFrom (s.heap.objs.size + 1) fd.scope.names [], p.2 = x) ∨ x ∈ I.ad ++ av := fun {x} hx => by
    rcases List.mem_append.mp hx with q | q
    · rcases List.mem_cons.mp q with q | q
      · exact .inl q
      · rcases List.mem_append.mp q with q | q
        · obtain ⟨p, hp, e⟩ := List.mem_map.mp q; exact .inr (.inl ⟨p, hp, e⟩)
        · exact .inr (.inr (List.mem_append_left _ q))
    · exact .inr (.inr (List.mem_append_right _ q))
  have hdead : ∀ x, (x = s.heap.objs.size ∨ (∃ p ∈ cellsFrom (s.heap.objs.size + 1) fd.scope.names [], p.2 = x)) → s.heap.get? x = none := fun x hx => by
    rcases hx with rfl | ⟨p, hp, rfl⟩
    · exact hL
    · exact (hcn p hp).1
  refine hx c s₁ _ _ s.heap.objs.size rfl rfl rfl rfl rfl ⟨rfl, rfl⟩ hL hcn R.deeper (fun x cc hc => IC.cell x cc hc)
    { kind := hk
      glob := h5
      blt := h6
      loc := okNames_loc hok
      nodup := okNames_nodup hok
      base := fun b o e => hkp b o (base b o e)
      ns := ⟨_, IC.toInCall.ns, hv _ _ fun a o ha e => ⟨hkp a o e, fun q => by
        rcases hsub q with q | q | q
        · rw [hdead a (.inl q)] at e; cases e
        · rw [hdead a (.inr q)] at e; cases e
        · exact ha q⟩⟩
      lown := .head _
      alive := fun x hx => by
        rcases hsub hx with q | ⟨p, hp, rfl⟩ | q
        · rw [q]; obtain ⟨o', _, _, ho', _⟩ := IC.toInCall.ns; exact ⟨o', ho'⟩
        · exact hcl p hp
        · obtain ⟨o', e⟩ := hal x q; exact ⟨o', hkp _ _ e⟩
      ext := fun b o _ e => hkp b o e
      fresh := fun x hx => by
        rcases List.mem_cons.mp hx with q | q
        · rw [q]; exact .inr hL
        · rcases List.mem_append.mp q with q | q
          · obtain ⟨p, hp, rfl⟩ := List.mem_map.mp q; exact .inr (hcn p hp).1
          · exact .inl q
      apart := fun x hx => by
        have hz : ∀ x, s.heap.get? x = none → G.hb.get? x = none := fun x hx => by
          cases e : G.hb.get? x with
          | none => rfl
          | some o => have := base _ _ e; rw [hx] at this; cases this
        rcases hsub hx with q | ⟨p, hp, rfl⟩ | q
        · rw [q]; exact hz _ hL
        · exact hz _ (hcn p hp).1
        · exact hap x q
      inv := I.keep _ _ hP fun a ha o e => hkp a o e
      iown := fun a ha => ⟨.tail _ (List.mem_append_right _ ha), fun q => by
        have q' : a = s.heap.objs.size := q
        obtain ⟨o, e⟩ := hal a (List.mem_append_left _ ha)
        rw [q', hL] at e; cases e⟩
      same := ?_ }
  obtain ⟨h', tk, e, _⟩ := IC.done
  rw [e]
  exact ⟨rfl, rfl, rfl⟩
end
end Og
namespace Og
open PySem PySem.Calls PySem.Spec PyProof.Rows

section
variable {w : World} {G : Gl} {I I' I'' : Inv} {sc : Sc} {names : List Str} {n : Nat} {vals : List Loc} {cs : List (Addr × Option Value)} {ls : OL} {a ca : Addr} {k : Dk}

theorem EvR.cell {x : Str} {p : Pos} {v : Value} {c : Addr} (hk : sc.scope.names.lookup x = some .cell) (hc : sc.cells.lookup x = some c) (hm : (c, some v) ∈ cs) (hd : (x == ("__debug__" : Str)) = false := by decide) : EvR PP w G (frI w cs ls a ca k) sc names n vals (.Name x p) v := by
  constructor
  intro c own s A Q E hsc R S q
  exact wpAny_Name (wpAny_loadName_cell S.kind (by unfold Env.kindOf; rw [hsc.1]; exact hk) (by rw [hsc.2]; exact hc) (S.inv.cel _ hm) (q s S .refl)) hd

theorem EvT.draw (T : Top G) {e₁ e₂ : Expr} {p pos : Pos} {m : Int} (h1 : EvR PP w G (frI w cs ls a ca k) sc names n vals e₁ (.ref a)) (h2 : EvE PP w G (frI w cs ls a ca k) sc names n vals e₂ (.int m)) (hk : DkOk k) (hm : 0 < m) (hno : ∀ a es, Loc.own a es ∉ vals) (hn : 2 ≤ n := by omega)
    (hx : sc.scope.names.lookup ("_law_draw" : Str) = some .globalImplicit := by rfl) (hst : ∀ env, starEach [e₁, e₂] env = (false, eval e₁ env) :: starEach [e₂] env := by exact fun _ => star_plain rfl) (hst2 : ∀ env, starEach [e₂] env = (false, eval e₂ env) :: starEach [] env := by exact fun _ => star_plain rfl) :
    EvT w G (frI w cs ls a ca k) (frI w cs ls a ca (drawP k m).2) sc names n vals (.Call (.Name "_law_draw" p) [e₁, e₂] [] pos) (.int (drawP k m).1) := by
  constructor
  intro c own s A Q E hsc R S q
  obtain ⟨f, o, fd, g1, g2, g3, F⟩ := FnAt.mat (ps := ["deck", "many"]) (T.fns 69 (by decide)) (fun s pm code doc vs hl => by
    obtain ⟨a, b, rfl⟩ := len2 hl
    exact BindsTo.of_eq rfl)
  refine Call_ (EvE.fnName hsc S g1 ?_ hx (by decide))
  refine callWith_def g3 (args_cons (h1.go c own s A _ E hsc R S fun s₁ S₁ x₁ => args_cons (h2.go c own s₁ A _ E hsc R S₁ fun v₂ s₂ S₂ x₂ r₂ => args_nil ⟨S₂.base _ _ g2, ?_⟩) (hst2 _)) (hst _)) (hst _)
  have P := S₂.inv
  have hia : ∀ b ∈ (deckI w a ca k).ad, b ∈ own ∧ b ≠ c.env.locals := fun b hb => S₂.iown b (by
    rcases List.mem_cons.mp hb with rfl | hb
    · exact .head _
    · rw [List.mem_singleton.mp hb]; exact .tail _ (.head _))
  have hmem : ∀ b ∈ (deckI w a ca k).ad ++ (own ++ c.fz), b ∈ own ++ c.fz := fun b hb => by
    rcases List.mem_append.mp hb with z | z
    · exact List.mem_append_left _ (hia b z).1
    · exact z
  refine wpAny_call (draw_spec (w := w) (ca := ca) F hk hm (own ++ c.fz) s₂ A [.ref a, v₂] _ (R.le hn) S₂.base (fun b hb => S₂.alive b (hmem b hb)) (fun b hb => S₂.apart b (hmem b hb)) P.dk (.v (.d (r₂.mono fun b o hb e => ⟨e, fun z => hb (hmem b z)⟩) .nil)) fun v h' tk I' hJ hP hx' hal hnn r => ?_)
  subst hJ
  cases r
  have hother : ∀ b, b ∉ (deckI w a ca k).ad → ∀ o, s₂.heap.get? b = some o → h'.get? b = some o := fun b hb o e => hx' b o hb e
  have hnd := P.nd
  simp only [List.nodup_cons, List.mem_cons, not_or] at hnd
  have hother' : ∀ b ∈ cs.map (·.1) ++ ls.map (·.1), ∀ o, s₂.heap.get? b = some o → h'.get? b = some o := fun b hb o e => hother b (fun z => by
    rcases List.mem_cons.mp z with rfl | z
    · exact hnd.1.2 hb
    · rw [List.mem_singleton.mp z] at hb; exact hnd.2.1 hb) o e
  have S' := S₂.adopt (ow := (deckI w a ca k).ad) (t := tk) (h' := h') (I' := frI w cs ls a ca (drawP k m).2) hx' hia hal S₂.iown
    ⟨fun p hp => let ⟨o, ho, hd⟩ := P.cel p hp; ⟨o, hother' p.1 (List.mem_append_left _ (List.mem_map.mpr ⟨p, hp, rfl⟩)) _ ho, hd⟩, fun p hp => let ⟨m, e⟩ := P.lst p hp; ⟨m, hother' p.1 (List.mem_append_right _ (List.mem_map.mpr ⟨p, hp, rfl⟩)) _ e⟩, hP, P.nd⟩ (fun b es hm => absurd hm (hno b es))
  exact q _ _ S' ((x₁.trans x₂).trans fun b o hb e => hx' b o (fun z => hb (hia b z).1) e) (.int _ _)

theorem EvE.lenF (T : Top G) {p pos : Pos} {e : Expr} {l : Addr} {us : List Value} (he : EvR PP w G (frI w cs ls a ca k) sc names n vals e (.ref l)) (hl : (l, us) ∈ ls) (hz : us.length ≤ sizeLine)
    (hx : sc.scope.names.lookup ("len" : Str) = some .globalImplicit := by rfl) (hst : ∀ env, starEach [e] env = (false, eval e env) :: starEach [] env := by exact fun _ => star_plain rfl) :
    EvE PP w G (frI w cs ls a ca k) sc names n vals (.Call (.Name "len" p) [e] [] pos) (.int us.length) := by
  constructor
  intro c own s A Q E hsc R S kk
  refine Call_ (EvE.bName hsc S (T.blt ("len", .builtin "len") (by simp)) ?_ hx (by decide))
  refine callWith_builtin1 (args_cons (he.go c own s A _ E hsc R S fun s₁ S₁ x₁ => args_nil ?_) (hst _)) (hst _) rfl
  obtain ⟨m, ho⟩ := S₁.inv.lst _ hl
  have hsl : sizeLine = 16777216 := rfl
  refine PyProof.Rows.len_list (items := us.toArray) ⟨_, ho, rfl, m, rfl⟩ (by simp only [List.size_toArray]; omega) ?_
  have := kk (.int us.length (s₁.toks + 1)) { s₁ with heap := s₁.heap, toks := s₁.toks + 1 + 1 } (S₁.keeps (fun _ _ e => e) ⟨rfl, rfl, rfl⟩) x₁ (.int _ _)
  simp only [List.size_toArray]; exact this

theorem EvT.itemF {value slice : Expr} {pos : Pos} {l : Addr} {us : List Value} {i : Int} {v : Value} {d : D} {k' : Dk} (hv : EvR PP w G (frI w cs ls a ca k) sc names n vals value (.ref l)) (hi : EvT w G (frI w cs ls a ca k) (frI w cs ls a ca k') sc names n vals slice (.int i)) (hl : (l, us) ∈ ls) (h0 : 0 ≤ i) (hd : us[i.toNat]? = some v) (him : Imm v d) (hz : us.length ≤ sizeLine)
    (hs : ∀ o j, subscripted slice false o j = operate [o, j] (getItem o j) := by intro _ _; rfl) : EvT w G (frI w cs ls a ca k) (frI w cs ls a ca k') sc names n vals (.Subscript value slice pos) d := by
  constructor
  intro c own s A Q E hsc R S kk
  refine Subscript_ (hv.go c own s A _ E hsc R S fun s₁ S₁ x₁ => hi.go c own s₁ A _ E hsc R S₁ fun j s₂ S₂ x₂ r₂ => ?_)
  cases r₂
  obtain ⟨m, ho⟩ := S₂.inv.lst _ hl
  have hlt : i.toNat < us.length := (List.getElem?_eq_some_iff.mp hd).1
  have hsl : sizeLine = 16777216 := rfl
  have hl' : s₂.heap.IsList l us.toArray := ⟨_, ho, rfl, m, rfl⟩
  exact tail_any hl'.typeIs list_getitem_lookup (wpAny_getItem_list hl' h0 (by omega) (by simpa using hd) (kk v s₂ S₂ (x₁.trans x₂) (him _ _))) (hs _ _)

structure EvBT (w : World) (G : Gl) (I I' : Inv) (sc : Sc) (names : List Str) (n : Nat) (vals : List Loc) (e : Expr) (b : Bool) : Prop where
  go : ∀ (c : Fc) (own : List Addr) (s : Shared) (A : Around) (Q : Bool → Shared → Prop) (E : Value → Shared → Prop), EnvIs c.env sc → Room n A → St G names I c own vals s →
    (∀ s', St G names I' c own vals s' → Ext own s.heap s'.heap → Q b s') → wpAny (model PP w) A (isTrue e c.env (eval e c.env)) Q E s
theorem EvBT.cmp {op : CmpOp} {l r : Expr} {p : Pos} {d₁ d₂ : D} {b : Bool} (hl : EvT w G I I' sc names n vals l d₁) (hr : EvE PP w G I' sc names n vals r d₂) (h : CmpOk PP w op d₁ d₂ b)
    (hm : behindInMarks op r = false := by with_unfolding_all rfl) : EvBT w G I I' sc names n vals (.Compare l [op] [r] p) b := by
  constructor
  intro c own s A Q E hsc R S k
  refine wpAny_isTrue_Compare1 (hl.go c own s A _ E hsc R S fun v₁ s₁ S₁ x₁ r₁ => hr.go c own s₁ A _ E hsc R S₁ fun v₂ s₂ S₂ x₂ r₂ => ?_) hm
  refine h (own ++ c.fz) s₂ A v₁ v₂ _ E R.hand R.small (r₁.ext x₂) r₂ fun h' tk hk => wpAny_truthy_bool ?_
  exact k _ (S₂.keeps hk ⟨rfl, rfl, rfl⟩) ((x₁.trans x₂).trans (Ext.keeps hk))
theorem NewAd.same {h : Heap} (had : I'.ad = I.ad) : NewAd I I' h := fun b hb => .inl (had ▸ hb)
theorem ExT.ifRetT {t : Expr} {b o rest : List Stmt} {p : Pos} {J : Inv → Prop} {d : D} (ht : EvBT w G I I' sc names n vals t true) (had : I'.ad = I.ad) (hb : ExT PP w G I' sc names n vals b J (.ret d)) : ExT PP w G I sc names n vals (.If t b o p :: rest) J (.ret d) := by
  constructor
  intro c own s A Q E hsc R S kk
  refine wpAny_execs_cons (wpAny_If (ht.go c own s A _ E hsc R S fun s₁ S₁ x₁ => hb.go c own s₁ A _ E hsc R S₁ fun f s' I'' hJ hN q => ?_))
  cases f with
  | ret v => exact kk (.ret v) s' I'' hJ (NewAd.trans (NewAd.same had) S (Step.ofExt x₁) S₁ hN) (q.step (Step.ofExt x₁))
  | _ => exact q.elim
theorem Ex1T.ifNo {t : Expr} {b : List Stmt} {p : Pos} (ht : EvBT w G I I' sc names n vals t false) (had : I'.ad = I.ad) : Ex1T PP w G I sc names n vals (.If t b [] p) (fun J => J = I') vals := by
  constructor
  intro c own s A Q E hsc R S kk
  refine wpAny_If (ht.go c own s A _ E hsc R S fun s₁ S₁ x₁ => wpAny_execs_nil (kk s₁ I' own rfl (NewAd.same had) (Step.ofExt x₁) S₁))
theorem Ex1T.assign {value : Expr} {x : Str} {p pos : Pos} {d : D} (i : Nat) (hx : names[i]? = some x) (h : EvT w G I I' sc names n vals value d) (had : I'.ad = I.ad)
    (hs : ∀ env, swapsWith value (some (.Name x p)) pos.line env = pure false := by intro _; rfl) : Ex1T PP w G I sc names n vals (.Assign [.Name x p] value pos) (fun J => J = I') (vals.set i (.d d)) := by
  constructor
  intro c own s A Q E hsc R S kk
  refine wpAny_Assign_Name (h.go c own s A _ E hsc R S fun v s₁ S₁ x₁ r₁ => S₁.bind hsc hx r₁ fun s₂ S₂ x₂ => ?_) (hs _)
  exact kk s₂ I' own rfl (NewAd.same had) (Step.ofExt (x₁.trans x₂)) S₂
end

noncomputable def iterDk (k : Dk) (m : Int) : Nat → Dk
  | 0 => k
  | i + 1 => (drawP (iterDk k m i) m).2
noncomputable def pick (k : Dk) (cols : List Int) (i : Nat) : Int := cols.getD (drawP (iterDk k cols.length i) cols.length).1.toNat 0
noncomputable def penR (k : Dk) (link : Int) (cols : List Int) : Pen × Dk :=
  let d0 := drawP k 4
  if d0.1 = 0 then (plainPen link, d0.2)
  else
    let d1 := drawP d0.2 512
    let d2 := drawP d1.2 6
    (⟨d1.1 + 512 * d2.1, pick d2.2 cols 0, pick d2.2 cols 1, pick d2.2 cols 2, link⟩, iterDk d2.2 cols.length 3)
theorem iterDk_ok {k : Dk} {m : Int} (h : DkOk k) (hm : 0 < m) : ∀ i, DkOk (iterDk k m i)
  | 0 => h
  | i + 1 => (drawP_ok (iterDk_ok h hm i) hm).2
theorem penR_ok {k : Dk} {link : Int} {cols : List Int} (h : DkOk k) (hc : cols ≠ []) : DkOk (penR k link cols).2 := by
  have hl : 0 < (cols.length : Int) := by
    have := List.length_pos_iff.mpr hc
    omega
  unfold penR
  simp only
  split
  · exact (drawP_ok h (by decide)).2
  · exact iterDk_ok (drawP_ok (drawP_ok (drawP_ok h (by decide)).2 (by decide)).2 (by decide)).2 hl 3
end Og
namespace Og
open PySem PySem.Calls PySem.Spec PyProof.Rows

noncomputable def penK (k : Dk) : Dk := (drawP (drawP (drawP k 4).2 512).2 6).2
noncomputable abbrev C70 (L : Addr) : List (Str × Addr) := [("colours", L + 1 + 1), ("deck", L + 1)]
noncomputable def ImmI (us : List Value) (ns : List Int) : Prop := ∀ av h, RepAll av h us (iD ns)
theorem ImmI.length {us : List Value} {ns : List Int} (h : ImmI us ns) : us.length = ns.length := by
  have := (h [] default).length
  simpa [iD] using this
theorem ImmI.get {us : List Value} {ns : List Int} (h : ImmI us ns) {i : Nat} (hi : i < ns.length) : ∃ v, us[i]? = some v ∧ Imm v (.int (ns.getD i 0)) := by
  obtain ⟨v, hv, r⟩ := (h [] default).get (k := i) (d := .int (ns.getD i 0)) (by simp [iD, List.getElem?_map, List.getD, List.getElem?_eq_getElem hi])
  exact ⟨v, hv, r.imm rfl⟩

section
variable {w : World} {G : Gl} {sc : Sc} {names : List Str} {n : Nat} {vals : List Loc} {cs : List (Addr × Option Value)} {a ca : Addr} {k : Dk}

theorem pen_body (T : Top G) {L l : Addr} {us : List Value} {cols : List Int} {link : Int} (hus : ImmI us cols) (hne : cols ≠ []) (hcl : cols.length ≤ 1000) (hk : DkOk k) :
    ExT PP w G (frI w [(L + 1, some (.ref a)), (L + 1 + 1, some (.ref l))] [(l, us)] a ca k) ⟨scopeOf (stOf 70), C70 L⟩ ["link", "flags", "found"] 4 [.d (.int link), .un, .un] (bodyOf (stOf 70))
      (fun J => J = frI w [(L + 1, some (.ref a)), (L + 1 + 1, some (.ref l))] [(l, us)] a ca (penR k link cols).2) (.ret (penD (penR k link cols).1)) := by
  have hsl : sizeLine = 16777216 := rfl
  have hul := hus.length
  have hpos : 0 < (cols.length : Int) := by
    have := List.length_pos_iff.mpr hne
    omega
  have no1 : ∀ a es, Loc.own a es ∉ [Loc.d (.int link), .un, .un] := by intro a es h; simp at h
  have hdeck : ∀ {k : Dk} {vals : List Loc} {p : Pos}, EvR PP w G (frI w [(L + 1, some (.ref a)), (L + 1 + 1, some (.ref l))] [(l, us)] a ca k) ⟨scopeOf (stOf 70), C70 L⟩ ["link", "flags", "found"] 4 vals (.Name "deck" p) (.ref a) := fun {k vals p} => EvR.cell rfl rfl (.head _)
  have h1 := drawP_ok hk (m := 4) (by decide)
  by_cases hz : (drawP k 4).1 = 0
  · have hr : penR k link cols = (plainPen link, (drawP k 4).2) := by unfold penR; simp only; rw [if_pos hz]
    rw [hr]
    exact ExT.ifRetT (EvBT.cmp (EvT.draw T hdeck EvE.cInt hk (by decide) no1) EvE.cInt (by have := cmp_eqI (prog := PP) (w := w) (drawP k 4).1 0; rw [hz] at this ⊢; exact this)) frI_ad (ExT.ofS (ExS.stop (Ex1.ret ((EvE.fourLink (EvE.glob (plain_data T)) (EvE.name 0 rfl rfl)).eq rfl))) rfl)
  · have h2 := drawP_ok h1.2 (m := 512) (by decide)
    have h3 := drawP_ok h2.2 (m := 6) (by decide)
    have hr : penR k link cols = (⟨(drawP (drawP k 4).2 512).1 + 512 * (drawP (drawP (drawP k 4).2 512).2 6).1, pick (penK k) cols 0, pick (penK k) cols 1, pick (penK k) cols 2, link⟩, iterDk (penK k) cols.length 3) := by
      unfold penR penK; simp only; rw [if_neg hz]
    rw [hr]
    refine ExT.cons (Ex1T.ifNo (EvBT.cmp (EvT.draw T hdeck EvE.cInt hk (by decide) no1) EvE.cInt ((cmp_eqI _ _).eq (by simpa using hz))) frI_ad) ?_
    rintro _ rfl
    refine ExT.cons (Ex1T.assign 1 rfl (EvT.bin (EvT.draw T hdeck EvE.cInt h1.2 (by decide) no1) (EvT.bin EvE.cInt.t (EvT.draw T hdeck EvE.cInt h2.2 (by decide) no1) (op_mul (IntMulOk.of_left (by decide)))) (op_add _ _)) frI_ad) ?_
    rintro _ rfl
    have hK := h3.2
    have hit := iterDk_ok hK hpos
    refine ExT.cons (Ex1T.assignComp (I := fun i => frI w [(L + 1, some (.ref a)), (L + 1 + 1, some (.ref l))] [(l, us)] a ca (iterDk (penK k) cols.length i)) (fs := fun i => .int (pick (penK k) cols i)) (cl := [("deck", L + 1), ("colours", L + 1 + 1)]) (ds := rangeD 3) 2 rfl
      (EvIT.range (m := 3) (T.blt ("range", _) (by simp)) EvE.cInt.t (by decide)) (by decide +kernel) (by decide) rfl (fun _ => rfl) (fun env e1 e2 => ?_) (fun i d hd => ?_) (by intro a es h; simp at h)) ?_
    · cases env; simp only at e1 e2; subst e1 e2; rfl
    · have hi3 : i < 3 := by
        have := (List.getElem?_eq_some_iff.mp hd).1
        simpa [rangeD] using this
      have hno : ∀ a es, Loc.own a es ∉ [Loc.d d] := by intro a es h; simp at h
      have hok := drawP_ok (hit i) hpos
      obtain ⟨v, hv, him⟩ := hus.get (i := (drawP (iterDk (penK k) cols.length i) cols.length).1.toNat) (by have := hok.1; show (drawP (iterDk (penK k) cols.length i) cols.length).1.toNat < _; have h2 : (drawP (iterDk (penK k) (cols.length : Int) i) (cols.length : Int)).1 < (cols.length : Int) := this.2; omega)
      refine EvT.itemF (EvR.cell rfl rfl (.tail _ (.head _))) (EvT.draw T (EvR.cell rfl rfl (.head _)) ((EvE.lenF T (EvR.cell rfl rfl (.tail _ (.head _))) (.head _) (by omega)).eq (by rw [hul])) (hit i) hpos hno) (.head _) hok.1.1 hv him (by omega)
    · rintro _ rfl
      refine ExT.ofS (ExS.stop (Ex1.ret (EvE.tuple (EvL.cons (EvE.name 1 rfl rfl) (EvL.cons (EvE.itemL (EvE.name 2 rfl rfl) EvE.cInt (by decide) rfl (by simp [rangeD, hsl])) (EvL.cons (EvE.itemL (EvE.name 2 rfl rfl) EvE.cInt (by decide) rfl (by simp [rangeD, hsl])) (EvL.cons (EvE.itemL (EvE.name 2 rfl rfl) EvE.cInt (by decide) rfl (by simp [rangeD, hsl])) (EvL.cons (EvE.name 0 rfl rfl) EvL.nil)))))))) rfl
end
end Og
namespace Og
open PySem PySem.Calls PySem.Spec PyProof.Rows

section
variable {w : World} {G : Gl} {sc : Sc} {names : List Str} {n : Nat} {vals : List Loc} {cs : List (Addr × Option Value)} {a ca : Addr} {k : Dk}

theorem FnAt.cat {name : Str} {params : Arguments} {body : List Stmt} {scope : Scope} {ps : List Str} (F : FnAt G name params body scope none)
    (hb : ∀ pm code doc (vs : List Value), vs.length = ps.length → bindArgs (dfd name params body scope pm code doc .none) ⟨vs, []⟩ = pure (ps.zip vs)) :
    ∃ f o fd, G.mg name = some (.ref f) ∧ G.hb.get? f = some o ∧ o.data = .func fd ∧ CAt G f body scope ps := by
  obtain ⟨f, o, pm, code, doc, dV, h1, h2, h3, h4, h5⟩ := F.ex
  cases h5
  exact ⟨f, o, _, h1, h2, h3, ⟨o, _, h2, h3, rfl, rfl, rfl, rfl, rfl, h4, fun vs hl => hb pm code doc vs hl⟩⟩

set_option tactic.hygienic true in
theorem pen_spec (T : Top G) {f l : Addr} (F : CAt G f (bodyOf (stOf 70)) (scopeOf (stOf 70)) ["deck", "link", "colours"]) {us : List Value} {cols : List Int} {link : Int} (hus : ImmI us cols) (hne : cols ≠ []) (hcl : cols.length ≤ 1000) (hk : DkOk k) :
    MSpec PP w G 5 f (frI w [] [(l, us)] a ca k) [.v (.ref a), .d (.int link), .v (.ref l)] (fun J => J = frI w [] [(l, us)] a ca (penR k link cols).2) (penD (penR k link cols).1) := by
  intro av s A vs B R base hal hap hP hargs kk
  cases hargs with | v hargs => cases hargs with | d r hargs => cases hargs with | v hargs =>
  cases hargs
  rename_i v₂
  refine F.enter (n := 4) (I := frI w [] [(l, us)] a ca k) (names := ["link", "flags", "found"]) (vals := [.d (.int link), .un, .un]) R base hal hap hP rfl (by decide +kernel) (fun m x hx => ?_) (fun own h₁ hh => ?_) (fun c s₁ A' E L e1 e2 e3 e4 e5 hsc hL hcn R' hcell S => ?_) (fun m => by
    show (["colours", "deck"] : List Str).Nodup
    decide +kernel)
  · rcases List.mem_cons.mp hx with rfl | hx
    · exact .inr ⟨rfl, rfl⟩
    rcases List.mem_cons.mp hx with rfl | hx
    · exact .inl rfl
    rcases List.mem_cons.mp hx with rfl | hx
    · exact .inr ⟨rfl, rfl⟩
    · exact nomatch hx
  · exact .cons ⟨v₂, rfl, r.mono hh⟩ (.cons trivial (.cons trivial .nil))
  · have P := S.inv
    have hc1 : s₁.heap.IsCell (L + 1) (some (.ref a)) := hcell "deck" (L + 1) rfl
    have hc2 : s₁.heap.IsCell (L + 1 + 1) (some (.ref l)) := hcell "colours" (L + 1 + 1) rfl
    have hn1 := hcn ("deck", L + 1) (.tail _ (.head _))
    have hn2 := hcn ("colours", L + 1 + 1) (.head _)
    have hnd := P.nd
    have hal' : ∀ x ∈ (frI w [] [(l, us)] a ca k).ad, ∃ o, s.heap.get? x = some o := fun x hx => hal x (List.mem_append_left _ hx)
    have hne1 : ∀ x ∈ (frI w [] [(l, us)] a ca k).ad, x ≠ L + 1 ∧ x ≠ L + 1 + 1 := fun x hx => by
      obtain ⟨o, e⟩ := hal' x hx
      exact ⟨(fun q => by rw [q] at e; rw [hn1.1] at e; cases e), (fun q => by rw [q] at e; rw [hn2.1] at e; cases e)⟩
    have ha := hne1 a (.head _)
    have hca := hne1 ca (.tail _ (.head _))
    have hl := hne1 l (.tail _ (.tail _ (.head _)))
    have hNd : (a :: ca :: ([(L + 1, some (Value.ref a)), (L + 1 + 1, some (Value.ref l))].map (·.1) ++ [(l, us)].map (·.1))).Nodup := by
      simp only [List.map_cons, List.map_nil, List.nil_append, List.cons_append, List.nodup_cons, List.mem_cons, List.not_mem_nil, or_false, not_or, not_false_eq_true, List.nodup_nil, and_true] at hnd ⊢
      exact ⟨⟨hnd.1.1, ha.1, ha.2, hnd.1.2⟩, ⟨hca.1, hca.2, hnd.2⟩, ⟨fun q => absurd q (Nat.ne_of_lt (Nat.lt_succ_self _)), fun q => hl.1 q.symm⟩, fun q => hl.2 q.symm⟩
    have S' := S.adopt (ow := []) (t := s₁.toks) (h' := s₁.heap) (I' := frI w [(L + 1, some (.ref a)), (L + 1 + 1, some (.ref l))] [(l, us)] a ca k) (fun _ _ _ e => e) (fun b hb => nomatch hb) (fun b hb => nomatch hb) (fun b hb => ?_)
      ⟨fun p hp => by
        rcases List.mem_cons.mp hp with rfl | hp
        · exact hc1
        · obtain rfl := List.mem_singleton.mp hp; exact hc2, P.lst, P.dk, hNd⟩ (fun b es hm => nofun)
    · refine (pen_body T hus hne hcl hk).go c _ _ A' _ E hsc R' S' fun fl s' I'' hJ hN q => ?_
      subst hJ
      cases fl with
      | ret v =>
        obtain ⟨own', vals', st, S'', rr⟩ := q
        have hadm : ∀ b ∈ (frI w [] [(l, us)] a ca k).ad, b ∈ own' := fun b hb => (S''.iown b (by
          rcases List.mem_cons.mp hb with rfl | hb
          · exact .head _
          rcases List.mem_cons.mp hb with rfl | hb
          · exact .tail _ (.head _)
          · exact .tail _ (.tail _ (List.mem_append_right _ hb)))).1
        have P' := S''.inv
        have hP' : (frI w [] [(l, us)] a ca (penR k link cols).2).P s'.heap := ⟨(fun p hp => nomatch hp), P'.lst, P'.dk, hnd⟩
        have := kk v s'.heap s'.toks _ rfl hP' (fun b o hb e => S''.ext b o (by rw [e2]; exact hb) (by rw [e1]; exact e)) (fun b hb => S''.alive b (List.mem_append_left _ (hadm b hb))) (fun b hb => ⟨S''.alive b (List.mem_append_left _ (hadm b hb)), .inl hb⟩)
          (rr.mono fun b o hb e => ⟨e, fun z => hb (by
            rcases List.mem_append.mp z with z | z
            · exact List.mem_append_left _ (hadm b z)
            · rw [e3]; exact List.mem_append_right _ z)⟩)
        have hse := S''.same.eq
        rw [e4] at hse
        show B _ s'
        rw [hse]
        exact this
      | _ => exact q.elim
    · have hb' : b = a ∨ b = ca ∨ b = L + 1 ∨ b = L + 1 + 1 ∨ b = l := by simpa [frI] using hb
      have hin : ∀ x ∈ (frI w [] [(l, us)] a ca k).ad, x ∈ L :: ((cellsFrom (L + 1) (scopeOf (stOf 70)).names []).map (·.2) ++ (frI w [] [(l, us)] a ca k).ad) ∧ x ≠ c.env.locals := fun x hx => ⟨.tail _ (List.mem_append_right _ hx), fun q => by
        obtain ⟨o, e⟩ := hal' x hx
        rw [q, e5, hL] at e; cases e⟩
      rcases hb' with rfl | rfl | rfl | rfl | rfl
      · exact hin _ (.head _)
      · exact hin _ (.tail _ (.head _))
      · exact ⟨.tail _ (List.mem_append_left _ (.tail _ (.head _))), by rw [e5]; exact hn1.2⟩
      · exact ⟨.tail _ (List.mem_append_left _ (.head _)), by rw [e5]; exact hn2.2⟩
      · exact hin _ (.tail _ (.tail _ (.head _)))
end
end Og
namespace Og
open PySem PySem.Calls PySem.Spec PyProof.Rows

theorem fst_inj {α β : Type} : ∀ {ls : List (α × β)}, (ls.map (·.1)).Nodup → ∀ {p q : α × β}, p ∈ ls → q ∈ ls → p.1 = q.1 → p = q
  | [], _, _, _, hp, _, _ => nomatch hp
  | y :: r, hn, p, q, hp, hq, e => by
    simp only [List.map_cons, List.nodup_cons] at hn
    rcases List.mem_cons.mp hp with hp' | hp' <;> rcases List.mem_cons.mp hq with hq' | hq'
    · rw [hp', hq']
    · exact absurd (List.mem_map.mpr ⟨q, hq', by rw [← e, hp']⟩) hn.1
    · exact absurd (List.mem_map.mpr ⟨p, hp', by rw [e, hq']⟩) hn.1
    · exact fst_inj hn.2 hp' hq' e
noncomputable def immLoc : Loc → Bool
  | .un => true
  | .d d => immD d
  | .v _ => true
  | .own _ _ => false
theorem Vars.imm {own own' fz fz' : List Addr} {h h' : Heap} {m : Str → Option Value} {xs : List Str} {ls : List Loc} (X : Vars own fz h m xs ls) (hi : ls.all immLoc = true) : Vars own' fz' h' m xs ls := by
  induction X with
  | nil => exact .nil
  | @cons x l _ _ a _ ih =>
    rw [List.all_cons, Bool.and_eq_true] at hi
    refine .cons ?_ (ih hi.2)
    cases l with
    | un => trivial
    | d d => obtain ⟨v, e, r⟩ := a; exact ⟨v, e, r.imm hi.1 _ _⟩
    | v v => exact a
    | own b es => cases hi.1

section
variable {w : World} {G : Gl} {I I' I'' : Inv} {sc : Sc} {names : List Str} {n : Nat} {vals : List Loc} {cs : List (Addr × Option Value)} {ls : OL} {a ca : Addr} {k : Dk}

theorem St.adoptI {c : Fc} {own ow : List Addr} {s : Shared} (S : St G names I c own vals s) (himm : vals.all immLoc = true) {h' : Heap} {t : Nat} {I' : Inv} (hx : Ext ow s.heap h') (how : ∀ a ∈ ow, a ≠ c.env.locals ∧ (a ∈ own ∨ (G.hb.get? a = none ∧ (a ∉ c.mt → c.h₀.get? a = none)))) (hlive : ∀ a ∈ ow, ∃ o, h'.get? a = some o) (hi : ∀ a ∈ I'.ad, a ∈ own ∧ a ≠ c.env.locals) (hinv : I'.P h') :
    St G names I' c own vals { s with heap := h', toks := t } :=
  { kind := S.kind
    glob := S.glob
    blt := S.blt
    loc := S.loc
    nodup := S.nodup
    base := fun b o e => hx b o (fun q => by
      rcases (how b q).2 with z | z
      · have := S.apart b (List.mem_append_left _ z); rw [e] at this; cases this
      · rw [z.1] at e; cases e) (S.base b o e)
    ns := by
      obtain ⟨m, ⟨oL, es, ep, hL, r⟩, h2⟩ := S.ns
      exact ⟨m, ⟨oL, es, ep, hx _ _ (fun q => (how _ q).1 rfl) hL, r⟩, h2.imm himm⟩
    lown := S.lown
    alive := fun a ha => by
      by_cases q : a ∈ ow
      · exact hlive a q
      · obtain ⟨o, e⟩ := S.alive a ha; exact ⟨o, hx a o q e⟩
    ext := fun b o hb e => by
      by_cases q : b ∈ ow
      · rcases (how b q).2 with z | z
        · rcases S.fresh b z with z | z
          · exact absurd z hb
          · rw [z] at e; cases e
        · rw [z.2 hb] at e; cases e
      · exact hx b o q (S.ext b o hb e)
    fresh := S.fresh
    apart := S.apart
    inv := hinv
    iown := hi
    same := S.same.trans ⟨rfl, rfl, rfl⟩ }

structure EvN (w : World) (G : Gl) (I : Inv) (sc : Sc) (names : List Str) (n : Nat) (vals : List Loc) (e : Expr) (ns : List Int) : Prop where
  go : ∀ (c : Fc) (own : List Addr) (s : Shared) (A : Around) (Q : Value → Shared → Prop) (E : Value → Shared → Prop), EnvIs c.env sc → Room n A → St G names I c own vals s →
    (∀ (l : Addr) us m s', St G names I c own vals s' → Ext own s.heap s'.heap → s.heap.get? l = none → l ∉ own ++ c.fz → s'.heap.get? l = some { cls := .type "list", data := .seq us m } → ImmI us.toList ns → Q (.ref l) s') → wpAny (model PP w) A (eval e c.env) Q E s
theorem EvN.add {e₁ e₂ : Expr} {p : Pos} {xs ys : List Int} (h1 : EvE PP w G I sc names n vals e₁ (.lst (iD xs))) (h2 : EvE PP w G I sc names n vals e₂ (.lst (iD ys))) (hz : xs.length + ys.length ≤ sizeLine) : EvN w G I sc names n vals (.BinOp e₁ .Add e₂ p) (xs ++ ys) := by
  constructor
  intro c own s A Q E hsc R S k
  refine wpAny_BinOp (h1.go c own s A _ E hsc R S fun v₁ s₁ S₁ x₁ r₁ => h2.go c own s₁ A _ E hsc R S₁ fun v₂ s₂ S₂ x₂ r₂ => ?_)
  have r₁' := r₁.ext x₂
  cases r₁' with | @lst a1 vs n1 _ g1 o1 q1 =>
  cases r₂ with | @lst a2 ws n2 _ g2 o2 q2 =>
  have l1 := q1.length
  have l2 := q2.length
  simp only [iD, List.length_map] at l1 l2
  refine P.add_list o1 o2 ?_ (by simp only [List.size_toArray]; omega)
  have hn : s₂.heap.get? s₂.heap.objs.size = none := none_size
  refine k s₂.heap.objs.size _ 0 _ (S₂.push _) ((x₁.trans x₂).trans (Ext.push _)) ?_ (S₂.new hn) (Heap.get?_push_size _ rfl) fun av h => ?_
  · cases e : s.heap.get? s₂.heap.objs.size with
    | none => rfl
    | some o =>
      by_cases z : s₂.heap.objs.size ∈ own
      · exact absurd (List.mem_append_left _ z) (S₂.new hn)
      · have := (x₁.trans x₂) _ o z e; rw [hn] at this; cases this
  · have e1 := imm_ints (av' := av) (h' := h) q1
    have e2 := imm_ints (av' := av) (h' := h) q2
    have := e1.append e2
    simpa [iD] using this
theorem EvE.cutF {value : Expr} {hi : Option Expr} {p pos : Pos} {b : Option Nat} {l : Addr} {us : List Value} {ns : List Int} (hv : EvR PP w G (frI w cs ls a ca k) sc names n vals value (.ref l)) (hu : EvP PP w G (frI w cs ls a ca k) sc names n vals hi b) (hl : (l, us) ∈ ls) (hus : ImmI us ns)
    (hz : ns.length ≤ sizeLine) : EvE PP w G (frI w cs ls a ca k) sc names n vals (.Subscript value (.Slice Option.none hi Option.none p) pos) (.lst (iD (cut Option.none b ns))) := by
  constructor
  intro c own s A Q E hsc R S kk
  refine Subscript_ (hv.go c own s A _ E hsc R S fun s₁ S₁ x₁ => wpAny_Slice (EvP.no.go (prog := PP) (w := w) (sc := sc) (n := n) c own s₁ A _ E hsc R S₁ fun vl s₂ S₂ x₂ pl => hu.go c own s₂ A _ E hsc R S₂ fun vu s₃ S₃ x₃ pu => wpAny_evalPart_none ?_))
  obtain ⟨m, ho⟩ := S₃.inv.lst _ hl
  have hl' : (s₃.heap.push { cls := .type "slice", data := .fields #[vl, vu, .none] }).IsList l us.toArray := ⟨_, Heap.get?_push_of_some _ ho, rfl, m, rfl⟩
  have hlen := hus.length
  refine tail_any (T := "list") (Heap.IsList.typeIs (s := { s₃ with heap := s₃.heap.push _ }) hl') list_getitem_lookup (wpAny_getItem_list_slice (s := { s₃ with heap := s₃.heap.push _ }) hl' (Heap.IsSliceOf.new ..) pl pu .none (by simp) ?_ (by simp only [List.size_toArray]; omega)) rfl
  rw [slicePick_cut]
  refine kk _ _ ((S₃.push _).push _) (((x₁.trans x₂).trans x₃).trans ((Ext.push _).trans (Ext.push _))) ?_
  refine .lst ((S₃.push _).new none_size) (Heap.get?_push_size _ rfl) ?_
  rw [show iD (cut Option.none b ns) = cut Option.none b (iD ns) by unfold iD cut; rw [List.length_map]; simp [List.map_take]]
  exact RepAll.cut (hus _ _) _ _

theorem pen_fn (T : Top G) : ∃ f o fd, G.mg "_law_pen" = some (.ref f) ∧ G.hb.get? f = some o ∧ o.data = .func fd ∧ CAt G f (bodyOf (stOf 70)) (scopeOf (stOf 70)) ["deck", "link", "colours"] :=
  FnAt.cat (T.fns 70 (by decide)) fun pm code doc vs hl => by
    obtain ⟨a, b, c, rfl⟩ := len3 hl
    rfl

theorem EvT.penNew (T : Top G) {e₁ e₂ e₃ : Expr} {p pos : Pos} {link : Int} {cols : List Int} (h1 : EvR PP w G (frI w cs ls a ca k) sc names n vals e₁ (.ref a)) (h2 : EvE PP w G (frI w cs ls a ca k) sc names n vals e₂ (.int link)) (h3 : EvN w G (frI w cs ls a ca k) sc names n vals e₃ cols) (hne : cols ≠ []) (hcl : cols.length ≤ 1000) (hk : DkOk k)
    (himm : vals.all immLoc = true) (hn : 5 ≤ n := by omega)
    (hx : sc.scope.names.lookup ("_law_pen" : Str) = some .globalImplicit := by rfl) (hst : ∀ env, starEach [e₁, e₂, e₃] env = (false, eval e₁ env) :: starEach [e₂, e₃] env := by exact fun _ => star_plain rfl) (hst2 : ∀ env, starEach [e₂, e₃] env = (false, eval e₂ env) :: starEach [e₃] env := by exact fun _ => star_plain rfl) (hst3 : ∀ env, starEach [e₃] env = (false, eval e₃ env) :: starEach [] env := by exact fun _ => star_plain rfl) :
    EvT w G (frI w cs ls a ca k) (frI w cs ls a ca (penR k link cols).2) sc names n vals (.Call (.Name "_law_pen" p) [e₁, e₂, e₃] [] pos) (penD (penR k link cols).1) := by
  constructor
  intro c own s A Q E hsc R S q
  obtain ⟨f, o, fd, g1, g2, g3, F⟩ := pen_fn T
  refine Call_ (EvE.fnName hsc S g1 ?_ hx (by decide))
  refine callWith_def g3 (args_cons (h1.go c own s A _ E hsc R S fun s₁ S₁ x₁ => args_cons (h2.go c own s₁ A _ E hsc R S₁ fun v₂ s₂ S₂ x₂ r₂ => args_cons (h3.go c own s₂ A _ E hsc R S₂ fun l us m s₃ S₃ x₃ hl0 hlf hlo hus => args_nil ⟨S₃.base _ _ g2, ?_⟩) (hst3 _)) (hst2 _)) (hst _)) (hst _)
  have P := S₃.inv
  have hr2 := r₂.imm rfl
  have hlo' : s₃.heap.get? l = some { cls := .type "list", data := .seq us.toList.toArray m } := by simpa using hlo
  have hown : ∀ b, b ∈ own → b ≠ l := fun b hb q => hlf (q ▸ List.mem_append_left _ hb)
  have haown : a ∈ own := (S₃.iown a (.head _)).1
  have hcown : ca ∈ own := (S₃.iown ca (.tail _ (.head _))).1
  have hs0 : s.heap.get? l = none := by
    cases e : s.heap.get? l with
    | none => rfl
    | some o => have := (x₁.trans x₂) l o (fun z => hlf (List.mem_append_left _ z)) e; rw [hl0] at this; cases this
  have hbn : G.hb.get? l = none := by
    cases e : G.hb.get? l with
    | none => rfl
    | some o => have := S.base l o e; rw [hs0] at this; cases this
  have hnd := P.nd
  simp only [List.nodup_cons, List.mem_cons, not_or] at hnd
  have hP2 : (frI w [] [(l, us.toList)] a ca k).P s₃.heap := ⟨(fun p hp => nomatch hp), (fun p hp => by obtain rfl := List.mem_singleton.mp hp; exact ⟨m, hlo'⟩), P.dk, by
    simp only [List.map_nil, List.map_cons, List.nil_append, List.nodup_cons, List.mem_cons, List.not_mem_nil, or_false, not_or, not_false_eq_true, List.nodup_nil, and_true]
    exact ⟨⟨hnd.1.1, hown a haown⟩, hown ca hcown⟩⟩
  have had : ∀ b ∈ (frI w [] [(l, us.toList)] a ca k).ad, b = a ∨ b = ca ∨ b = l := fun b hb => by simpa [frI] using hb
  have hal : ∀ b ∈ (frI w [] [(l, us.toList)] a ca k).ad ++ (own ++ c.fz), ∃ o, s₃.heap.get? b = some o := fun b hb => by
    rcases List.mem_append.mp hb with z | z
    · rcases had b z with rfl | rfl | rfl
      · exact S₃.alive _ (List.mem_append_left _ haown)
      · exact S₃.alive _ (List.mem_append_left _ hcown)
      · exact ⟨_, hlo⟩
    · exact S₃.alive b z
  have hap : ∀ b ∈ (frI w [] [(l, us.toList)] a ca k).ad ++ (own ++ c.fz), G.hb.get? b = none := fun b hb => by
    rcases List.mem_append.mp hb with z | z
    · rcases had b z with rfl | rfl | rfl
      · exact S₃.apart _ (List.mem_append_left _ haown)
      · exact S₃.apart _ (List.mem_append_left _ hcown)
      · exact hbn
    · exact S₃.apart b z
  refine wpAny_call (pen_spec (w := w) (a := a) (ca := ca) T F hus hne hcl hk (own ++ c.fz) s₃ A [.ref a, v₂, .ref l] _ (R.le hn) S₃.base hal hap hP2 (.v (.d (hr2 _ _) (.v .nil))) fun v h' tk I' hJ hP hx' hal' hnn r => ?_)
  subst hJ
  have hother : ∀ b ∈ cs.map (·.1) ++ ls.map (·.1), ∀ o, s₃.heap.get? b = some o → h'.get? b = some o := fun b hb o e => hx' b o (fun z => by
    have hbo : b ∈ own := (S₃.iown b (.tail _ (.tail _ hb))).1
    rcases had b z with rfl | rfl | rfl
    · exact hnd.1.2 hb
    · exact hnd.2.1 hb
    · exact hlf (List.mem_append_left _ hbo)) e
  have S' := S₃.adoptI himm (ow := (frI w [] [(l, us.toList)] a ca k).ad) (t := tk) (h' := h') (I' := frI w cs ls a ca (penR k link cols).2) hx' (fun b hb => ?_) hal' S₃.iown
    ⟨(fun p hp => let ⟨o, ho, hd⟩ := P.cel p hp; ⟨o, hother p.1 (List.mem_append_left _ (List.mem_map.mpr ⟨p, hp, rfl⟩)) _ ho, hd⟩), (fun p hp => let ⟨m, e⟩ := P.lst p hp; ⟨m, hother p.1 (List.mem_append_right _ (List.mem_map.mpr ⟨p, hp, rfl⟩)) _ e⟩), hP.dk, P.nd⟩
  · refine q _ _ S' (fun b o hb e => hx' b o (fun z => ?_) (((x₁.trans x₂).trans x₃) b o hb e)) (r.mono fun b o hb e => ⟨e, fun z => hb (List.mem_append_right _ z)⟩)
    rcases had b z with rfl | rfl | rfl
    · exact hb haown
    · exact hb hcown
    · rw [hs0] at e; cases e
  · rcases had b hb with rfl | rfl | rfl
    · exact ⟨(S₃.iown _ (.head _)).2, .inl haown⟩
    · exact ⟨(S₃.iown _ (.tail _ (.head _))).2, .inl hcown⟩
    · refine ⟨fun q => hlf (List.mem_append_left _ (q ▸ S₃.lown)), .inr ⟨hbn, fun hm => ?_⟩⟩
      cases e : c.h₀.get? b with
      | none => rfl
      | some o => have := S.ext b o hm e; rw [hs0] at this; cases this

theorem EvT.penOld (T : Top G) {e₁ e₂ e₃ : Expr} {p pos : Pos} {link : Int} {cols : List Int} {l : Addr} {us : List Value} (h1 : EvR PP w G (frI w cs ls a ca k) sc names n vals e₁ (.ref a)) (h2 : EvE PP w G (frI w cs ls a ca k) sc names n vals e₂ (.int link)) (h3 : EvR PP w G (frI w cs ls a ca k) sc names n vals e₃ (.ref l)) (hl : (l, us) ∈ ls) (hus : ImmI us cols) (hne : cols ≠ []) (hcl : cols.length ≤ 1000) (hk : DkOk k)
    (himm : vals.all immLoc = true) (hn : 5 ≤ n := by omega)
    (hx : sc.scope.names.lookup ("_law_pen" : Str) = some .globalImplicit := by rfl) (hst : ∀ env, starEach [e₁, e₂, e₃] env = (false, eval e₁ env) :: starEach [e₂, e₃] env := by exact fun _ => star_plain rfl) (hst2 : ∀ env, starEach [e₂, e₃] env = (false, eval e₂ env) :: starEach [e₃] env := by exact fun _ => star_plain rfl) (hst3 : ∀ env, starEach [e₃] env = (false, eval e₃ env) :: starEach [] env := by exact fun _ => star_plain rfl) :
    EvT w G (frI w cs ls a ca k) (frI w cs ls a ca (penR k link cols).2) sc names n vals (.Call (.Name "_law_pen" p) [e₁, e₂, e₃] [] pos) (penD (penR k link cols).1) := by
  constructor
  intro c own s A Q E hsc R S q
  obtain ⟨f, o, fd, g1, g2, g3, F⟩ := pen_fn T
  refine Call_ (EvE.fnName hsc S g1 ?_ hx (by decide))
  refine callWith_def g3 (args_cons (h1.go c own s A _ E hsc R S fun s₁ S₁ x₁ => args_cons (h2.go c own s₁ A _ E hsc R S₁ fun v₂ s₂ S₂ x₂ r₂ => args_cons (h3.go c own s₂ A _ E hsc R S₂ fun s₃ S₃ x₃ => args_nil ⟨S₃.base _ _ g2, ?_⟩) (hst3 _)) (hst2 _)) (hst _)) (hst _)
  have P := S₃.inv
  have hr2 := r₂.imm rfl
  have hlm : l ∈ cs.map (·.1) ++ ls.map (·.1) := List.mem_append_right _ (List.mem_map.mpr ⟨_, hl, rfl⟩)
  have hnd := P.nd
  simp only [List.nodup_cons, List.mem_cons, not_or] at hnd
  have had : ∀ b ∈ (frI w [] [(l, us)] a ca k).ad, b = a ∨ b = ca ∨ b = l := fun b hb => by simpa [frI] using hb
  have hio : ∀ b ∈ (frI w [] [(l, us)] a ca k).ad, b ∈ own ∧ b ≠ c.env.locals := fun b hb => by
    rcases had b hb with rfl | rfl | rfl
    · exact S₃.iown _ (.head _)
    · exact S₃.iown _ (.tail _ (.head _))
    · exact S₃.iown _ (.tail _ (.tail _ hlm))
  have hP2 : (frI w [] [(l, us)] a ca k).P s₃.heap := ⟨(fun p hp => nomatch hp), (fun p hp => by obtain rfl := List.mem_singleton.mp hp; exact P.lst _ hl), P.dk, by
    simp only [List.map_nil, List.map_cons, List.nil_append, List.nodup_cons, List.mem_cons, List.not_mem_nil, or_false, not_or, not_false_eq_true, List.nodup_nil, and_true]
    exact ⟨⟨hnd.1.1, fun q => hnd.1.2 (q ▸ hlm)⟩, fun q => hnd.2.1 (q ▸ hlm)⟩⟩
  have hmm : ∀ b ∈ (frI w [] [(l, us)] a ca k).ad ++ (own ++ c.fz), b ∈ own ++ c.fz := fun b hb => by
    rcases List.mem_append.mp hb with z | z
    · exact List.mem_append_left _ (hio b z).1
    · exact z
  refine wpAny_call (pen_spec (w := w) (a := a) (ca := ca) T F hus hne hcl hk (own ++ c.fz) s₃ A [.ref a, v₂, .ref l] _ (R.le hn) S₃.base (fun b hb => S₃.alive b (hmm b hb)) (fun b hb => S₃.apart b (hmm b hb)) hP2 (.v (.d (hr2 _ _) (.v .nil))) fun v h' tk I' hJ hP hx' hal' hnn r => ?_)
  subst hJ
  have hnd2 : (cs.map (·.1) ++ ls.map (·.1)).Nodup := by have := P.nd; exact (List.nodup_cons.mp (List.nodup_cons.mp this).2).2
  have hother : ∀ b ∈ cs.map (·.1) ++ ls.map (·.1), b ≠ l → ∀ o, s₃.heap.get? b = some o → h'.get? b = some o := fun b hb hbl o e => hx' b o (fun z => by
    rcases had b z with rfl | rfl | rfl
    · exact hnd.1.2 hb
    · exact hnd.2.1 hb
    · exact hbl rfl) e
  have hlst : ∀ p ∈ ls, ∃ m, h'.get? p.1 = some { cls := .type "list", data := .seq p.2.toArray m } := fun p hp => by
    by_cases z : p.1 = l
    · have hpl : p = (l, us) := fst_inj (List.nodup_append.mp hnd2).2.1 hp hl z
      subst hpl
      exact hP.lst _ (.head _)
    · obtain ⟨m, e⟩ := P.lst p hp
      exact ⟨m, hother p.1 (List.mem_append_right _ (List.mem_map.mpr ⟨p, hp, rfl⟩)) z _ e⟩
  have S' := S₃.adoptI himm (ow := (frI w [] [(l, us)] a ca k).ad) (t := tk) (h' := h') (I' := frI w cs ls a ca (penR k link cols).2) hx' (fun b hb => ⟨(hio b hb).2, .inl (hio b hb).1⟩) hal' S₃.iown
    ⟨(fun p hp => let ⟨o, ho, hd⟩ := P.cel p hp; ⟨o, hother p.1 (List.mem_append_left _ (List.mem_map.mpr ⟨p, hp, rfl⟩)) (fun q => by
        have := (List.nodup_append.mp hnd2).2.2 p.1 (List.mem_map.mpr ⟨p, hp, rfl⟩) l (List.mem_map.mpr ⟨_, hl, rfl⟩)
        exact this q) _ ho, hd⟩), hlst, hP.dk, P.nd⟩
  refine q _ _ S' (fun b o hb e => hx' b o (fun z => hb (hio b z).1) (((x₁.trans x₂).trans x₃) b o hb e)) (r.mono fun b o hb e => ⟨e, fun z => hb (List.mem_append_right _ z)⟩)

theorem EvT.itemT {value slice : Expr} {pos : Pos} {ds : List D} {i : Int} {d : D} (hv : EvE PP w G I sc names n vals value (.tup ds)) (hi : EvT w G I I' sc names n vals slice (.int i)) (h0 : 0 ≤ i) (hd : ds[i.toNat]? = some d) (hf : ds.length ≤ sizeLine)
    (hs : ∀ o j, subscripted slice false o j = operate [o, j] (getItem o j) := by intro _ _; rfl) : EvT w G I I' sc names n vals (.Subscript value slice pos) d := by
  constructor
  intro c own s A Q E hsc R S k
  refine Subscript_ (hv.go c own s A _ E hsc R S fun v s₁ S₁ x₁ r₁ => hi.go c own s₁ A _ E hsc R S₁ fun j s₂ S₂ x₂ r₂ => ?_)
  have r₃ := r₁.ext x₂
  cases r₂
  cases r₃ with | @tup l vs m _ ha ho rs =>
  obtain ⟨x, hx, rx⟩ := rs.get hd
  have hlt : i.toNat < ds.length := (List.getElem?_eq_some_iff.mp hd).1
  have hlv := rs.length
  have h63 : i < 2 ^ 63 := by
    have : sizeLine = 16777216 := rfl
    omega
  have ht : IsTup s₂.heap l vs.toArray := ⟨_, ho, rfl, m, rfl⟩
  have hj : seqIndex? i vs.length = some i.toNat := by
    have hn : ¬ i < 0 := by omega
    have h1 : i < (vs.length : Int) := by omega
    simp [seqIndex?, hn, h0, h1]
  exact item_tupleT ht (by omega) h63 hj hx (k x s₂ S₂ (x₁.trans x₂) rx) (hs _ _)
theorem EvT.tuple2 {e f : Expr} {k' : Nat} {p : Pos} {d₁ d₂ : D} (h1 : EvT w G I I' sc names n vals e d₁) (h2 : EvE PP w G I' sc names n vals f d₂)
    (hst : ∀ env, starEach [e, f] env = (false, eval e env) :: starEach [f] env := by exact fun _ => star_plain rfl) (hst2 : ∀ env, starEach [f] env = (false, eval f env) :: starEach [] env := by exact fun _ => star_plain rfl) : EvT w G I I' sc names n vals (.Tuple [e, f] k' p) (.tup [d₁, d₂]) := by
  constructor
  intro c own s A Q E hsc R S k
  refine wpAny_Tuple (args_cons (h1.go c own s A _ E hsc R S fun v₁ s₁ S₁ x₁ r₁ => args_cons (h2.go c own s₁ A _ E hsc R S₁ fun v₂ s₂ S₂ x₂ r₂ => args_nil ⟨by show 2 ≤ sizeLine; exact Nat.le_of_ble_eq_true rfl, ?_⟩) (hst2 _)) (hst _))
  exact k _ _ (S₂.push _) ((x₁.trans x₂).trans (Ext.push _)) (.tup (S₂.new none_size) (Heap.get?_push_size _ rfl) (RepAll.push _ (.cons (r₁.ext x₂) (.cons r₂ .nil))))
theorem Ex1T.assign2 {elts : List Expr} {j : Nat} {value : Expr} {tp pos : Pos} {x y : Str} {d e : D} (i₁ i₂ : Nat) (h₁ : names[i₁]? = some x) (h₂ : names[i₂]? = some y) (h : EvT w G I I' sc names n vals value (.tup [d, e])) (had : I'.ad = I.ad)
    (hs : ∀ env, swapsWithSole [.Tuple elts j tp] value pos.line env = pure false := by intro _; rfl)
    (hw : ∀ env : Env, swappedStores [.Tuple elts j tp] value { env with scope := sc.scope } = pure (some [x, y]) := by intro _; rfl) : Ex1T PP w G I sc names n vals (.Assign [.Tuple elts j tp] value pos) (fun J => J = I') ((vals.set i₂ (.d e)).set i₁ (.d d)) := by
  constructor
  intro c own s A Q E hsc R S k
  refine Assign_Tuple_swapped (names := [x, y]) (h.go c own s A _ E hsc R S fun v s₁ S₁ x₁ r₁ => ?_) (hs _) (by rw [env_sc hsc.1]; exact hw _)
  cases r₁ with | @tup l vs m _ ha ho rs =>
  cases rs with | cons q₁ rs => cases rs with | cons q₂ rs =>
  cases rs
  refine wpAny_unpackItems_tuple (items := #[_, _]) R.hand ⟨_, ho, rfl, m, rfl⟩ fun h' hk => ?_
  have hk' := keeps_of_ext hk
  have S' : St G names I' c own vals { s₁ with heap := h' } := S₁.keeps hk' ⟨rfl, rfl, rfl⟩
  refine wpAny_assignInOrder_more (wpAny_bindName (S'.bind hsc h₂ (q₂.ext (Ext.keeps hk')) fun s₂ S₂ x₂ => wpAny_assignInOrder_more (wpAny_bindName (S₂.bind hsc h₁ ((q₁.ext (Ext.keeps hk')).ext x₂) fun s₃ S₃ x₃ => wpAny_assignInOrder_none ?_))))
  exact k s₃ I' own rfl (NewAd.same had) (Step.ofExt (((x₁.trans (Ext.keeps hk')).trans x₂).trans x₃)) S₃

theorem St.storeCell {c : Fc} {own : List Addr} {s : Shared} {A : Around} {E : Value → Shared → Prop} {Q : Unit → Shared → Prop} {x : Str} {c₀ : Addr} {v₀ : Option Value} {v : Value} {pre post : List (Addr × Option Value)} (hsc : EnvIs c.env sc) (S : St G names (frI w (pre ++ (c₀, v₀) :: post) ls a ca k) c own vals s) (hk : sc.scope.names.lookup x = some .cell) (hc : sc.cells.lookup x = some c₀) (hno : ∀ a es, Loc.own a es ∉ vals)
    (q : ∀ s', St G names (frI w (pre ++ (c₀, some v) :: post) ls a ca k) c own vals s' → Ext own s.heap s'.heap → Q () s') : wpAny (model PP w) A (storeName c.env x v) Q E s := by
  have P := S.inv
  refine wpAny_storeName_cell S.kind (by unfold Env.kindOf; rw [hsc.1]; exact hk) (by rw [hsc.2]; exact hc) (P.cel (c₀, v₀) (List.mem_append_right _ (.head _))) fun h' hc' hs' => ?_
  have hother : ∀ b, b ≠ c₀ → ∀ o, s.heap.get? b = some o → h'.get? b = some o := fun b hb o e => hs'.extBut b o hb e
  have hnd := P.nd
  simp only [List.nodup_cons, List.mem_cons, not_or] at hnd
  have hnd2 := (List.nodup_append.mp hnd.2.2)
  have hca : ((pre ++ (c₀, v₀) :: post).map (·.1)) = pre.map (·.1) ++ c₀ :: post.map (·.1) := by simp
  have hcm : c₀ ∈ (pre ++ (c₀, v₀) :: post).map (·.1) := by simp
  have hne : ∀ p ∈ pre ++ post, p.1 ≠ c₀ := fun p hp q => by
    have h1 := hnd2.1
    rw [hca] at h1
    have h2 := List.nodup_append.mp h1
    rcases List.mem_append.mp hp with z | z
    · exact h2.2.2 p.1 (List.mem_map.mpr ⟨p, z, rfl⟩) c₀ (.head _) q
    · exact (List.nodup_cons.mp h2.2.1).1 (q ▸ List.mem_map.mpr ⟨p, z, rfl⟩)
  have hio := S.iown c₀ (.tail _ (.tail _ (List.mem_append_left _ hcm)))
  have hadE : (frI w (pre ++ (c₀, some v) :: post) ls a ca k).ad = (frI w (pre ++ (c₀, v₀) :: post) ls a ca k).ad := by
    show a :: ca :: (_ ++ _) = a :: ca :: (_ ++ _)
    simp
  obtain ⟨o', ho', hd'⟩ := hc'
  have S' := S.adopt (ow := [c₀]) (t := s.toks) (h' := h') (I' := frI w (pre ++ (c₀, some v) :: post) ls a ca k) (fun b o hb e => hother b (by simpa using hb) o e) (fun b hb => by obtain rfl := List.mem_singleton.mp hb; exact hio) (fun b hb => by obtain rfl := List.mem_singleton.mp hb; exact ⟨_, ho'⟩)
    (fun b hb => S.iown b (hadE ▸ hb)) ⟨(fun p hp => ?_), (fun p hp => let ⟨m, e⟩ := P.lst p hp; ⟨m, hother p.1 (fun q => hnd2.2.2 c₀ hcm p.1 (List.mem_map.mpr ⟨p, hp, rfl⟩) q.symm) _ e⟩), ?_, by
      have := P.nd
      simpa using this⟩ (fun b es hm => absurd hm (hno b es))
  · exact q _ S' fun b o hb e => hother b (fun z => hb (z ▸ hio.1)) o e
  · rcases List.mem_append.mp hp with z | z
    · obtain ⟨o, ho, hd⟩ := P.cel p (List.mem_append_left _ z)
      exact ⟨o, hother p.1 (hne p (List.mem_append_left _ z)) _ ho, hd⟩
    · rcases List.mem_cons.mp z with rfl | z
      · exact ⟨o', ho', hd'⟩
      · obtain ⟨o, ho, hd⟩ := P.cel p (List.mem_append_right _ (.tail _ z))
        exact ⟨o, hother p.1 (hne p (List.mem_append_right _ z)) _ ho, hd⟩
  · refine (deckI w a ca k).keep _ _ P.dk fun b hb o e => hother b (fun z => ?_) o e
    rcases List.mem_cons.mp hb with rfl | hb
    · exact hnd.1.2 (List.mem_append_left _ (z ▸ hcm))
    · rw [List.mem_singleton.mp hb] at z; exact hnd.2.1 (List.mem_append_left _ (z ▸ hcm))
end
end Og
namespace Og
open PySem PySem.Calls PySem.Spec PyProof.Rows

noncomputable def penIt (k : Dk) (link : Int) (cols : List Int) : Nat → Dk
  | 0 => k
  | i + 1 => (penR (penIt k link cols i) link cols).2
theorem penIt_ok {k : Dk} {link : Int} {cols : List Int} (h : DkOk k) (hc : cols ≠ []) : ∀ i, DkOk (penIt k link cols i)
  | 0 => h
  | i + 1 => penR_ok (penIt_ok h hc i) hc
noncomputable def pensOf (k : Dk) (link : Int) (cols : List Int) (m : Nat) : List Pen := (List.range m).map fun i => (penR (penIt k link cols i) link cols).1
noncomputable def few : List Int := [-1, 1, 9, 77, 255]
noncomputable def cols6 : List Int := [-1, 1, 9, 77, 16843267, 16777216]
noncomputable def lots : List (List Row) := [[[some 1]], [[some 2]], [[some 22]], [[some 3]], [[some 4]], [[some 4, some 3]], [[some 4, some 0]], [[some 4, some 9]], [[some 21]], [[some 24]], [[some 7]], [[some 27]], [[some 53]], [[some 55]], [[some 31]], [[some 39]], [[some 94]], [[some 107]], [[some 49]], [[some 59]],
  [[some 38], [some 5], [some 200]], [[some 48, some 5, some 3]], [[some 38], [some 2], [some 1], [some 2], [some 3]], [[some 48, some 2, some 1, some 2, some 3]], [[some 58, some 2, some 0, some 9, some 8, some 7]], [[some 58], [some 5], [some 300]], [[some 38], [some 2], [some 1], [some 256], [some 3]], [[some 38, some 5, some 300]], [[some 200]], [[some 1, some 2]], [[some 0]], [[none]], [[some 5]], [[some 25]], [[some 8]], [[some 9], [some 29]]]
noncomputable def rowsAt (k : Dk) (i : Nat) : List Row := lots.getD (drawP (iterDk k 36 i) 36).1.toNat []
noncomputable def stepW (st : Pen × List Row) (r : List Row) : Pen × List Row := (app st.1 (orOne r), st.2 ++ r)
structure LawK where
  k1 : Dk
  many : Nat
  pens : List Pen
  k3 : Dk
  n2 : Nat
  plain : List Pen
  k5 : Dk
  n3 : Nat
  rows : List (List Row)
noncomputable def lawK (script : List Int) : LawK :=
  let d := drawP (deck0 script) 4
  let many := (2 + d.1).toNat
  let k2 := penIt d.2 0 cols6 many
  let d2 := drawP k2 2
  let n2 := (2 + d2.1).toNat
  let k4 := penIt d2.2 3 few n2
  let d4 := drawP k4 6
  let n3 := (1 + d4.1).toNat
  ⟨d.2, many, pensOf d.2 0 cols6 many, d2.2, n2, pensOf d2.2 3 few n2, d4.2, n3, (List.range n3).map (rowsAt d4.2)⟩
structure LawFacts (x : LawK) : Prop where
  c1 : ChainLaw x.pens true
  t1 : ToldLaw x.pens
  c2 : ChainLaw x.plain false
  c3 : ChainLaw x.plain true
  row : ∀ r ∈ x.rows, RowsOk r
  whole : RowsOk (x.rows.foldl stepW (x.pens.headD (plainPen 0), [])).2
  ends : app (x.pens.headD (plainPen 0)) (orOne (x.rows.foldl stepW (x.pens.headD (plainPen 0), [])).2) = (x.rows.foldl stepW (x.pens.headD (plainPen 0), [])).1
  reset : ∀ p : Pen, app (p.link 5) [[none]] = plainPen 5

noncomputable abbrev C74 (L : Addr) : List (Str × Addr) := [("few", L + 1 + 1 + 1), ("link", L + 1 + 1), ("deck", L + 1)]
noncomputable abbrev N74 : List Str := ["script", "many", "pens", "plain", "rows", "pen", "whole", "row"]
noncomputable def lotD (r : List Row) : D := rowsD r
noncomputable def drop2 : List Stmt → List Stmt
  | _ :: _ :: r => r
  | _ => []

noncomputable def noOwnB : List Loc → Bool
  | [] => true
  | .own _ _ :: _ => false
  | _ :: r => noOwnB r
theorem noOwn : ∀ {ls : List Loc}, noOwnB ls = true → ∀ a es, Loc.own a es ∉ ls
  | [], _, _, _, h => nomatch h
  | .un :: r, h, a, es, q => by
    rcases List.mem_cons.mp q with q | q
    · cases q
    · exact noOwn (ls := r) h a es q
  | .d _ :: r, h, a, es, q => by
    rcases List.mem_cons.mp q with q | q
    · cases q
    · exact noOwn (ls := r) h a es q
  | .v _ :: r, h, a, es, q => by
    rcases List.mem_cons.mp q with q | q
    · cases q
    · exact noOwn (ls := r) h a es q
theorem draw_nat {k : Dk} {m : Int} (h : DkOk k) (hm : 0 < m) (b : Int) (hb : 0 ≤ b) : (((b + (drawP k m).1).toNat : Nat) : Int) = b + (drawP k m).1 := by
  have := (drawP_ok h hm).1
  omega
theorem rangeD_get {m i : Nat} {d : D} (h : (rangeD m)[i]? = some d) : i < m ∧ d = .int i := by
  simp only [rangeD, List.getElem?_map] at h
  by_cases q : i < m
  · rw [List.getElem?_range q] at h
    exact ⟨q, by simpa using h.symm⟩
  · rw [List.getElem?_eq_none (by simp; omega)] at h; cases h
theorem rangeD_len (m : Nat) : (rangeD m).length = m := by simp [rangeD]

section
variable {w : World} {G : Gl} {a ca l : Addr} {us : List Value} {t : Tok} {L : Addr}

theorem law_rest (T : Top G) (RD : ReadTop w G) (hlots : GData G "_law_lots" (.tup (lots.map rowsD))) (script : List Int) (hus : ImmI us few) (H : LawFacts (lawK script)) :
    ExT PP w G (frI w [(L + 1, some (.ref a)), (L + 1 + 1, some (.int 0 t)), (L + 1 + 1 + 1, some (.ref l))] [(l, us)] a ca (lawK script).k1) ⟨scopeOf (stOf 74), C74 L⟩ N74 10 [.un, .d (.int (lawK script).many), .un, .un, .un, .un, .un, .un] (drop2 (bodyOf (stOf 74))) (fun _ => True) (.ret (.bool true)) := by
  have hsl : sizeLine = 16777216 := rfl
  have hk0 : DkOk (deck0 script) := deck0_ok
  have e1 : (lawK script).k1 = (drawP (deck0 script) 4).2 := rfl
  have hk1 : DkOk (lawK script).k1 := (drawP_ok hk0 (by decide)).2
  have hm4 : (lawK script).many ≤ 5 := by
    have := (drawP_ok hk0 (m := 4) (by decide)).1
    show (2 + (drawP (deck0 script) 4).1).toNat ≤ 5
    omega
  have hpens : (lawK script).pens = pensOf (lawK script).k1 0 cols6 (lawK script).many := rfl
  have hk2 : DkOk (penIt (lawK script).k1 0 cols6 (lawK script).many) := penIt_ok hk1 (by decide) _
  have hd2 := drawP_ok hk2 (m := 2) (by decide)
  have hk3e : (lawK script).k3 = (drawP (penIt (lawK script).k1 0 cols6 (lawK script).many) 2).2 := rfl
  have hn2e : (((lawK script).n2 : Nat) : Int) = 2 + (drawP (penIt (lawK script).k1 0 cols6 (lawK script).many) 2).1 := draw_nat hk2 (by decide) 2 (by decide)
  have hk3 : DkOk (lawK script).k3 := hd2.2
  have hn2 : (lawK script).n2 ≤ 3 := by omega
  have hplain : (lawK script).plain = pensOf (lawK script).k3 3 few (lawK script).n2 := rfl
  have hk4 : DkOk (penIt (lawK script).k3 3 few (lawK script).n2) := penIt_ok hk3 (by decide) _
  have hd4 := drawP_ok hk4 (m := 6) (by decide)
  have hn3e : (((lawK script).n3 : Nat) : Int) = 1 + (drawP (penIt (lawK script).k3 3 few (lawK script).n2) 6).1 := draw_nat hk4 (by decide) 1 (by decide)
  have hn3 : (lawK script).n3 ≤ 6 := by omega
  have hk5e : (lawK script).k5 = (drawP (penIt (lawK script).k3 3 few (lawK script).n2) 6).2 := rfl
  have hk5 : DkOk (lawK script).k5 := hd4.2
  have hrows : (lawK script).rows = (List.range (lawK script).n3).map (rowsAt (lawK script).k5) := rfl
  generalize lawK script = X at *
  rw [hk3e] at hplain hk4 hd4 hn3e hk5e hk3
  rw [hk5e] at hrows hk5
  -- the looks
  refine ExT.cons (Ex1T.assignComp (I := fun i => frI w [(L + 1, some (.ref a)), (L + 1 + 1, some (.int 0 t)), (L + 1 + 1 + 1, some (.ref l))] [(l, us)] a ca (penIt X.k1 0 cols6 i)) (fs := fun i => penD (penR (penIt X.k1 0 cols6 i) 0 cols6).1) (cl := [("link", L + 1 + 1), ("few", L + 1 + 1 + 1), ("deck", L + 1)]) (ds := rangeD X.many) 2 rfl
    (EvIT.range (m := X.many) (T.blt ("range", _) (by simp)) (EvE.name 1 rfl rfl).t (by omega)) (by decide +kernel) (by rw [rangeD_len]; omega) rfl (fun _ => rfl) (fun env q1 q2 => ?_) (fun i d hd => ?_) ?_) ?_
  · cases env; simp only at q1 q2; subst q1 q2; rfl
  · obtain ⟨hi, rfl⟩ := rangeD_get hd
    exact EvT.penNew T (EvR.cell rfl rfl (.head _)) ((EvR.cell rfl rfl (.tail _ (.head _))).ev (Imm.int 0 t))
      (EvN.add (xs := [-1, 1, 9, 77]) (ys := [16843267, 16777216]) ((EvE.cutF (b := some 4) (EvR.cell rfl rfl (.tail _ (.tail _ (.head _)))) (EvP.at EvE.cInt) (.head _) hus (by decide)).eq rfl) (EvE.list (ds := iD [16843267, 16777216]) (EvL.cons ((EvE.bin (EvE.num T 16777216) EvE.cInt (op_add _ _)).eq rfl) (EvL.cons (EvE.num T 16777216) EvL.nil))) (by decide)) (by decide) (by decide) (penIt_ok hk1 (by decide) i) rfl
  · exact fun a es h => absurd h (noOwn rfl a es)
  · rintro _ rfl
    rw [rangeD_len]
    have hP : (List.range X.many).map (fun i => penD (penR (penIt X.k1 0 cols6 i) 0 cols6).1) = X.pens.map penD := by rw [hpens]; simp [pensOf]
    rw [hP]
    have hplen : X.pens.length ≤ 5 := by rw [hpens]; simp [pensOf]; omega
    refine ExT.lift (Ex1.ifF (EvB.all (EvAll.goO (EvB.not (EvB.of (EvE.call (chain_right_spec T RD X.pens true H.c1) (EvL.cons (EvE.name 2 rfl rfl) (EvL.cons EvE.cBool EvL.nil))) (tru_bool true))) (EvAll.goO (EvB.not (EvB.of (EvE.call (told_right_spec T RD X.pens H.t1) (EvL.cons (EvE.name 2 rfl rfl) EvL.nil)) (tru_bool true))) EvAll.nil))) ExS.nil) ?_
    refine ExT.cons (Ex1T.assignComp (I := fun i => frI w [(L + 1, some (.ref a)), (L + 1 + 1, some (.int 0 t)), (L + 1 + 1 + 1, some (.ref l))] [(l, us)] a ca (penIt (drawP (penIt X.k1 0 cols6 X.many) 2).2 3 few i)) (fs := fun i => penD (penR (penIt (drawP (penIt X.k1 0 cols6 X.many) 2).2 3 few i) 3 few).1) (cl := [("few", L + 1 + 1 + 1), ("deck", L + 1)]) (ds := rangeD X.n2) 3 rfl
      (EvIT.range (m := X.n2) (T.blt ("range", _) (by simp)) (EvT.eq (EvT.bin EvE.cInt.t (EvT.draw T (EvR.cell rfl rfl (.head _)) EvE.cInt hk2 (by decide) (noOwn rfl)) (op_add _ _)) (by rw [hn2e])) (by omega)) (by decide +kernel) (by rw [rangeD_len]; omega) rfl (fun _ => rfl) (fun env q1 q2 => ?_) (fun i d hd => ?_) ?_) ?_
    · cases env; simp only at q1 q2; subst q1 q2; rfl
    · obtain ⟨hi, rfl⟩ := rangeD_get hd
      exact EvT.penOld T (EvR.cell rfl rfl (.head _)) EvE.cInt (EvR.cell rfl rfl (.tail _ (.tail _ (.head _)))) (.head _) hus (by decide) (by decide) (penIt_ok hk3 (by decide) i) rfl
    · exact fun a es h => absurd h (noOwn rfl a es)
    · rintro _ rfl
      rw [rangeD_len]
      have hP2 : (List.range X.n2).map (fun i => penD (penR (penIt (drawP (penIt X.k1 0 cols6 X.many) 2).2 3 few i) 3 few).1) = X.plain.map penD := by rw [hplain]; simp [pensOf]
      rw [hP2]
      refine ExT.lift (Ex1.ifF (EvB.all (EvAll.goO (EvB.not (EvB.of (EvE.call (chain_right_spec T RD X.plain false H.c2) (EvL.cons (EvE.name 3 rfl rfl) (EvL.cons EvE.cBool EvL.nil))) (tru_bool true))) (EvAll.goO (EvB.not (EvB.of (EvE.call (chain_right_spec T RD X.plain true H.c3) (EvL.cons (EvE.name 3 rfl rfl) (EvL.cons EvE.cBool EvL.nil))) (tru_bool true))) EvAll.nil))) ExS.nil) ?_
      have hne := H.c1.ne
      obtain ⟨p0, ps', hps⟩ : ∃ p0 ps', X.pens = p0 :: ps' := by
        cases hq : X.pens with
        | nil => exact absurd hq hne
        | cons p ps' => exact ⟨p, ps', rfl⟩
      have hitem : (X.pens.map penD)[(0 : Int).toNat]? = some (penD p0) := by rw [hps]; rfl
      have hhd : X.pens.headD (plainPen 0) = p0 := by rw [hps]; rfl
      refine ExT.cons (Ex1T.assign2 (d := .lst (X.rows.map rowsD)) (e := penD p0) 4 5 rfl rfl (EvT.tuple2 (EvT.eq (EvT.comp (I := fun i => frI w [(L + 1, some (.ref a)), (L + 1 + 1, some (.int 0 t)), (L + 1 + 1 + 1, some (.ref l))] [(l, us)] a ca (iterDk (drawP (penIt (drawP (penIt X.k1 0 cols6 X.many) 2).2 3 few X.n2) 6).2 36 i)) (fs := fun i => rowsD (rowsAt (drawP (penIt (drawP (penIt X.k1 0 cols6 X.many) 2).2 3 few X.n2) 6).2 i)) (cl := [("deck", L + 1)]) (ds := rangeD X.n3)
        (EvIT.range (m := X.n3) (T.blt ("range", _) (by simp)) (EvT.eq (EvT.bin EvE.cInt.t (EvT.draw T (EvR.cell rfl rfl (.head _)) EvE.cInt hk4 (by decide) (noOwn rfl)) (op_add _ _)) (by rw [hn3e])) (by omega)) (by decide +kernel) (by rw [rangeD_len]; omega) rfl (fun _ => rfl) (fun env q1 q2 => ?_) (fun i d hd => ?_) ?_) ?_)
        (EvE.itemL (EvE.name 2 rfl rfl) EvE.cInt (by decide) hitem (by rw [List.length_map]; omega))) rfl) ?_
      · cases env; simp only at q1 q2; subst q1 q2; rfl
      · obtain ⟨hi, rfl⟩ := rangeD_get hd
        have hok := drawP_ok (iterDk_ok hk5 (m := 36) (by decide) i) (m := 36) (by decide)
        have hlen : lots.length = 36 := rfl
        have hlt : (drawP (iterDk (drawP (penIt (drawP (penIt X.k1 0 cols6 X.many) 2).2 3 few X.n2) 6).2 36 i) 36).1.toNat < lots.length := by omega
        exact EvT.itemT (EvE.glob hlots) (EvT.draw T (EvR.cell rfl rfl (.head _)) EvE.cInt (iterDk_ok hk5 (by decide) i) (by decide) (by intro a es h; simp at h)) hok.1.1 (by
          rw [List.getElem?_map, List.getElem?_eq_getElem hlt]
          simp [rowsAt, List.getD, List.getElem?_eq_getElem hlt]) (by rw [List.length_map, hlen]; omega)
      · exact fun a es h => absurd h (noOwn rfl a es)
      · rw [rangeD_len, hrows, List.map_map]; rfl
      · rintro _ rfl
        refine ExT.ofS ?_ trivial
        have hr := H.row
        have hw := H.whole
        have he := H.ends
        rw [hhd] at hw he
        have hrl : X.rows.length ≤ 6 := by rw [hrows]; simp; omega
        refine ExS.cons (Ex1.assign (d := rowsD []) 6 rfl (EvE.list EvL.nil)) ?_
        refine ExS.cons (Ex1.for (top := false) (EvI.list (EvE.name 4 rfl rfl)) (ForOk.famP (σ := Pen × List Row) rowsD (fun st => [.un, .d (.int X.many), .d (.lst (X.pens.map penD)), .d (.lst (X.plain.map penD)), .d (.lst (X.rows.map rowsD)), .d (penD st.1), .d (rowsD st.2), .un]) stepW X.rows (p0, []) (fun pre r post hpre => ?_))) ?_
        · have hro := hr r (by rw [hpre]; simp)
          have key : ∀ (l : List (List Row)) (st : Pen × List Row), (∀ r ∈ l, r.length ≤ 10000) → (l.foldl stepW st).2.length ≤ st.2.length + 10000 * l.length := by
            intro l
            induction l with
            | nil => intro st _; simp
            | cons y l ih =>
              intro st hy
              have h1 := ih (stepW st y) fun z hz => hy z (.tail _ hz)
              have h2 := hy y (.head _)
              rw [List.foldl_cons, List.length_cons]
              have h3 : (stepW st y).2.length = st.2.length + y.length := by simp [stepW]
              omega
          have hacc := key pre (p0, []) fun y hy => (hr y (by rw [hpre]; exact List.mem_append_left _ hy)).len
          have hpl : pre.length ≤ 6 := by
            have h2 : X.rows.length = (pre ++ r :: post).length := by rw [hpre]
            rw [List.length_append] at h2
            omega
          have hrl2 := hro.len
          generalize pre.foldl stepW (p0, []) = st at *
          simp only [List.length_nil] at hacc
          refine ⟨[.un, .d (.int X.many), .d (.lst (X.pens.map penD)), .d (.lst (X.plain.map penD)), .d (.lst (X.rows.map rowsD)), .d (penD st.1), .d (rowsD st.2), .d (rowsD r)], [.un, .d (.int X.many), .d (.lst (X.pens.map penD)), .d (.lst (X.plain.map penD)), .d (.lst (X.rows.map rowsD)), .d (penD (app st.1 (orOne r))), .d (rowsD (st.2 ++ r)), .d (rowsD r)], AsT.name 7 rfl, .same (.same (.same (.same (.same (.same (.same (.un .nil))))))), ?_⟩
          exact ExS.cons (Ex1.assign2 (d := penD (app st.1 (orOne r))) (e := rowsD (st.2 ++ r)) 5 6 rfl rfl (EvE.tuple (EvL.cons (EvE.call (apply_sgr_spec T st.1 r hro) (EvL.cons (EvE.name 5 rfl rfl) (EvL.cons (EvE.name 7 rfl rfl) EvL.nil))) (EvL.cons (EvE.bin (EvE.name 6 rfl rfl) (EvE.name 7 rfl rfl) (op_rows (by omega))) EvL.nil)))) ExS.nil
        · have hrs := H.reset (X.rows.foldl stepW (p0, [])).1
          generalize X.rows.foldl stepW (p0, []) = fin at *
          refine ExS.stop (Ex1.ret (EvE.and2T (EvE.cmp (EvE.call (apply_sgr_spec T p0 fin.2 hw) (EvL.cons (EvE.itemL (EvE.name 2 rfl rfl) EvE.cInt (by decide) hitem (by rw [List.length_map]; omega)) (EvL.cons (EvE.name 6 rfl rfl) EvL.nil))) (EvE.name 5 rfl rfl) (cmp_eq (penD_ok _) (penD_ok _) (r := true) (by
              have : Og.app p0 (if fin.2 = [] then [[none]] else fin.2) = fin.1 := he
              rw [this]; simp))) (tru_bool true)
            (EvE.cmp (EvE.call (apply_sgr_spec T (fin.1.link 5) [] ⟨by simp, by simp, by simp⟩) (EvL.cons (EvE.fourLink (EvE.name 5 rfl rfl) EvE.cInt) (EvL.cons (EvE.list EvL.nil) EvL.nil))) ((EvE.fourLink (EvE.glob (plain_data T)) EvE.cInt).eq rfl) (cmp_eq (penD_ok _) (penD_ok (plainPen 5)) (r := true) (by
              rw [if_pos rfl, hrs]; exact ⟨fun _ => rfl, fun _ => rfl⟩)))))
end
end Og
namespace Og
open PySem PySem.Calls PySem.Spec PyProof.Rows

noncomputable def cellsI (cs : List (Addr × Option Value)) : Inv :=
  ⟨fun h => ∀ p ∈ cs, h.IsCell p.1 p.2, cs.map (·.1), fun h h' P hk p hp => let ⟨o, ho, hd⟩ := P p hp; ⟨o, hk p.1 (List.mem_map.mpr ⟨p, hp, rfl⟩) _ ho, hd⟩⟩

section
variable {w : World} {G : Gl} {L : Addr}

theorem deck_fn (T : Top G) : ∃ f o fd, G.mg "_law_deck" = some (.ref f) ∧ G.hb.get? f = some o ∧ o.data = .func fd ∧ MAt G f (bodyOf (stOf 68)) (scopeOf (stOf 68)) ["script"] :=
  FnAt.mat (T.fns 68 (by decide)) fun s pm code doc vs hl => by
    obtain ⟨a, rfl⟩ := len1 hl
    exact BindsTo.of_eq rfl

theorem law_s0 (T : Top G) (script : List Int) (hl : script.length ≤ 63) (hc3 : (L + 1 + 1 + 1 ≠ L + 1) ∧ (L + 1 + 1 + 1 ≠ L + 1 + 1) ∧ (L + 1 + 1 ≠ L + 1)) {c : Fc} {own : List Addr} {s : Shared} {A : Around} {Q : Flow → Shared → Prop} {E : Value → Shared → Prop} (hsc : EnvIs c.env ⟨scopeOf (stOf 74), C74 L⟩) (R : Room 10 A)
    (S : St G N74 (cellsI [(L + 1, none), (L + 1 + 1, none), (L + 1 + 1 + 1, none)]) c own [.d (.lst (iD script)), .un, .un, .un, .un, .un, .un, .un] s)
    (q : ∀ a ca s' own', Step own s.heap own' s'.heap → St G N74 (frI w [(L + 1, some (.ref a)), (L + 1 + 1, none), (L + 1 + 1 + 1, none)] [] a ca (deck0 script)) c own' [.d (.lst (iD script)), .un, .un, .un, .un, .un, .un, .un] s' → Q .next s') :
    wpAny (model PP w) A (exec (nth (bodyOf (stOf 74)) 0) c.env) Q E s := by
  obtain ⟨f, o, fd, g1, g2, g3, F⟩ := deck_fn T
  refine wpAny_Assign_Name (Call_ (EvE.fnName hsc S g1 ?_ rfl (by decide)))
  refine callWith_def g3 (args_cons ((EvE.name (prog := PP) (w := w) (sc := ⟨scopeOf (stOf 74), C74 L⟩) (n := 10) 0 rfl rfl).go c own s A _ E hsc R S fun v s₂ S₂ x₂ r₂ => args_nil ⟨S₂.base _ _ g2, ?_⟩) (star_plain rfl)) (star_plain rfl)
  refine wpAny_call (deck_spec (w := w) T F script hl (own ++ c.fz) s₂ A [v] _ (R.le (by omega)) S₂.base S₂.alive S₂.apart (.cons r₂ .nil) fun a ca h' tk hD hk ha hca => ?_)
  have S₃ : St G N74 (cellsI [(L + 1, none), (L + 1 + 1, none), (L + 1 + 1 + 1, none)]) c ([a, ca] ++ own) [.d (.lst (iD script)), .un, .un, .un, .un, .un, .un, .un] { s₂ with heap := h', toks := tk } := by
    obtain ⟨t, o, es, ep, ho, -⟩ := hD.dic
    obtain ⟨vs, m, ho', -⟩ := hD.lst
    refine S₂.widen hk ⟨rfl, rfl, rfl⟩ (fun b hb => ?_) (fun b hb => ?_)
    · rcases List.mem_cons.mp hb with rfl | hb
      · exact ha
      · rw [List.mem_singleton.mp hb]; exact hca
    · rcases List.mem_cons.mp hb with rfl | hb
      · exact ⟨_, ho⟩
      · rw [List.mem_singleton.mp hb]; exact ⟨_, ho'⟩
  have hcells : ∀ p ∈ [(L + 1, (none : Option Value)), (L + 1 + 1, none), (L + 1 + 1 + 1, none)], h'.IsCell p.1 p.2 := S₃.inv
  have hci : ∀ b ∈ ([L + 1, L + 1 + 1, L + 1 + 1 + 1] : List Addr), b ∈ own ∧ b ≠ c.env.locals := fun b hb => S₂.iown b hb
  have hnew : ∀ b ∈ own, b ≠ a ∧ b ≠ ca := fun b hb => by
    obtain ⟨o, e⟩ := S₂.alive b (List.mem_append_left _ hb)
    exact ⟨(fun z => by rw [z, ha] at e; cases e), (fun z => by rw [z, hca] at e; cases e)⟩
  have n1 := hnew _ (hci (L + 1) (by simp)).1
  have n2 := hnew _ (hci (L + 1 + 1) (by simp)).1
  have n3 := hnew _ (hci (L + 1 + 1 + 1) (by simp)).1
  have nl := hnew _ S₂.lown
  have S₄ := S₃.adopt (ow := []) (t := tk) (h' := h') (I' := frI w [(L + 1, none), (L + 1 + 1, none), (L + 1 + 1 + 1, none)] [] a ca (deck0 script)) (fun _ _ _ e => e) (fun b hb => nomatch hb) (fun b hb => nomatch hb) (fun b hb => ?_)
    ⟨hcells, (fun p hp => nomatch hp), hD, ?_⟩ (fun b es hm => nofun)
  · refine St.storeCell (pre := []) (c₀ := L + 1) (v₀ := none) hsc S₄ rfl rfl (noOwn rfl) fun s₅ S₅ x₅ => ?_
    refine q a ca s₅ _ ⟨fun b o hb e => x₅ b o (fun z => ?_) (hk b o (x₂ b o hb e)), fun b hb => List.mem_append_right _ hb, fun b hb => ?_⟩ S₅
    · rcases List.mem_append.mp z with z | z
      · have hnb : s₂.heap.get? b = none := by
          rcases List.mem_cons.mp z with rfl | z
          · exact ha
          · rw [List.mem_singleton.mp z]; exact hca
        rw [x₂ b o hb e] at hnb; cases hnb
      · exact hb z
    · rcases List.mem_append.mp hb with z | z
      · have hnb : s₂.heap.get? b = none := by
          rcases List.mem_cons.mp z with rfl | z
          · exact ha
          · rw [List.mem_singleton.mp z]; exact hca
        by_cases y : b ∈ own
        · exact .inl y
        · refine .inr ?_
          cases e : s.heap.get? b with
          | none => rfl
          | some o => rw [x₂ b o y e] at hnb; cases hnb
      · exact .inl z
  · have hb' : b = a ∨ b = ca ∨ b ∈ ([L + 1, L + 1 + 1, L + 1 + 1 + 1] : List Addr) := by simpa [frI] using hb
    rcases hb' with rfl | rfl | hb'
    · exact ⟨.head _, fun z => nl.1 z.symm⟩
    · exact ⟨.tail _ (.head _), fun z => nl.2 z.symm⟩
    · exact ⟨List.mem_append_right _ (hci b hb').1, (hci b hb').2⟩
  · simp only [List.map_cons, List.map_nil, List.append_nil, List.nodup_cons, List.mem_cons, List.not_mem_nil, or_false, not_or, not_false_eq_true, List.nodup_nil, and_true]
    exact ⟨⟨hD.ne, Ne.symm n1.1, Ne.symm n2.1, Ne.symm n3.1⟩, ⟨Ne.symm n1.2, Ne.symm n2.2, Ne.symm n3.2⟩, ⟨Ne.symm hc3.2.2, Ne.symm hc3.1⟩, Ne.symm hc3.2.1⟩

theorem law_s1 (T : Top G) (script : List Int) {a ca : Addr} {c : Fc} {own : List Addr} {s : Shared} {A : Around} {Q : Flow → Shared → Prop} {E : Value → Shared → Prop} (hsc : EnvIs c.env ⟨scopeOf (stOf 74), C74 L⟩) (R : Room 10 A)
    (S : St G N74 (frI w [(L + 1, some (.ref a)), (L + 1 + 1, none), (L + 1 + 1 + 1, none)] [] a ca (deck0 script)) c own [.d (.lst (iD script)), .un, .un, .un, .un, .un, .un, .un] s)
    (q : ∀ l us t s' own', ImmI us few → Step own s.heap own' s'.heap → St G N74 (frI w [(L + 1, some (.ref a)), (L + 1 + 1, some (.int 0 t)), (L + 1 + 1 + 1, some (.ref l))] [(l, us)] a ca (lawK script).k1) c own' [.d (.lst (iD script)), .d (.int (lawK script).many), .un, .un, .un, .un, .un, .un] s' → Q .next s') :
    wpAny (model PP w) A (exec (nth (bodyOf (stOf 74)) 1) c.env) Q E s := by
  have hk0 : DkOk (deck0 script) := deck0_ok
  have hmany : (((lawK script).many : Nat) : Int) = 2 + (drawP (deck0 script) 4).1 := draw_nat hk0 (by decide) 2 (by decide)
  have hk1 : (lawK script).k1 = (drawP (deck0 script) 4).2 := rfl
  refine Assign_Tuple ?_ rfl (by rw [env_sc hsc.1]; rfl)
  refine wpAny_Tuple (args_cons ((EvT.bin (EvE.cInt (prog := PP) (w := w) (G := G) (sc := ⟨scopeOf (stOf 74), C74 L⟩) (names := N74) (n := 10)).t (EvT.draw T (EvR.cell rfl rfl (.head _)) EvE.cInt hk0 (by decide) (noOwn rfl)) (op_add _ _)).go c own s A _ E hsc R S fun v₁ s₁ S₁ x₁ r₁ => args_cons (wpAny_Constant_int ?_) (star_plain rfl)) (star_plain rfl))
  have S₂ : St G N74 (frI w [(L + 1, some (.ref a)), (L + 1 + 1, none), (L + 1 + 1 + 1, none)] [] a ca (drawP (deck0 script) 4).2) c own [.d (.lst (iD script)), .un, .un, .un, .un, .un, .un, .un] { s₁ with toks := s₁.toks + 1 } := S₁.keeps (fun _ _ e => e) ⟨rfl, rfl, rfl⟩
  refine args_cons (wpAny_List (EvL.go (ds := iD few) (sc := ⟨scopeOf (stOf 74), C74 L⟩) (n := 10) ?hL c own _ A _ _ E hsc R S₂ fun us s₃ S₃ x₃ r₃ => ⟨by rw [r₃.length]; exact Nat.le_of_ble_eq_true rfl, args_nil ⟨Nat.le_of_ble_eq_true rfl, ?_⟩⟩)) (star_plain rfl)
  case hL => exact EvL.cons (EvE.neg EvE.cInt) (EvL.cons EvE.cInt (EvL.cons EvE.cInt (EvL.cons EvE.cInt (EvL.cons EvE.cInt EvL.nil))))
  have hus : ImmI us few := fun av h => imm_ints (ns := few) r₃
  have hr1 := r₁.imm rfl
  have hl0 : s₃.heap.get? s₃.heap.objs.size = none := none_size
  have hlo : s₃.heap.objs.size ∉ own := fun z => S₃.new hl0 (List.mem_append_left _ z)
  have hln : (s₃.heap.push { cls := .type "list", data := .seq us.toArray }).get? s₃.heap.objs.size = some { cls := .type "list", data := .seq us.toArray } := Heap.get?_push_size _ rfl
  have S₄ : St G N74 (frI w [(L + 1, some (.ref a)), (L + 1 + 1, none), (L + 1 + 1 + 1, none)] [] a ca (drawP (deck0 script) 4).2) c ([s₃.heap.objs.size] ++ own) [.d (.lst (iD script)), .un, .un, .un, .un, .un, .un, .un] { s₃ with heap := s₃.heap.push { cls := .type "list", data := .seq us.toArray } } := by
    refine S₃.widen (fun _ _ e => Heap.get?_push_of_some _ e) ⟨rfl, rfl, rfl⟩ (fun b hb => ?_) (fun b hb => ?_)
    · rw [List.mem_singleton.mp hb]; exact hl0
    · rw [List.mem_singleton.mp hb]; exact ⟨_, hln⟩
  have hx4 : Ext own s.heap (s₃.heap.push { cls := .type "list", data := .seq us.toArray }) := (x₁.trans x₃).trans (Ext.push _)
  have hls : s.heap.get? s₃.heap.objs.size = none := by
    cases e : s.heap.get? s₃.heap.objs.size with
    | none => rfl
    | some o => have := (x₁.trans x₃) _ o hlo e; rw [hl0] at this; cases this
  generalize hH : s₃.heap.push { cls := .type "list", data := .seq us.toArray } = H at *
  generalize hla : s₃.heap.objs.size = l at *
  have P := S₄.inv
  have hnw : ∀ b ∈ (frI w [(L + 1, some (Value.ref a)), (L + 1 + 1, none), (L + 1 + 1 + 1, none)] [] a ca (drawP (deck0 script) 4).2).ad, b ≠ l := fun b hb z => hlo (z ▸ (S₃.iown b hb).1)
  have hnd := P.nd
  have S₅ := S₄.adopt (ow := []) (t := s₃.toks) (h' := H) (I' := frI w [(L + 1, some (.ref a)), (L + 1 + 1, none), (L + 1 + 1 + 1, none)] [(l, us)] a ca (drawP (deck0 script) 4).2) (fun _ _ _ e => e) (fun b hb => nomatch hb) (fun b hb => nomatch hb) (fun b hb => ?_)
    ⟨P.cel, (fun p hp => by rw [List.mem_singleton.mp hp]; exact ⟨_, hln⟩), P.dk, ?_⟩ (fun b es hm => nofun)
  · -- the pairs are stored
    have S₆ := S₅.push { cls := .type "tuple", data := .seq [v₁, .int 0 s₁.toks, .ref l].toArray }
    have htu : (H.push { cls := .type "tuple", data := .seq [v₁, .int 0 s₁.toks, .ref l].toArray }).get? H.objs.size = some { cls := .type "tuple", data := .seq [v₁, .int 0 s₁.toks, .ref l].toArray } := Heap.get?_push_size _ rfl
    refine wpAny_assign_Tuple R.hand ⟨_, htu, rfl, _, rfl⟩ rfl rfl fun h' hk => ?_
    have hk' := keeps_of_ext hk
    have S₇ := S₆.keeps (s' := { s₃ with heap := h', toks := s₃.toks }) hk' ⟨rfl, rfl, rfl⟩
    refine wpAny_assignInOrder_more (wpAny_assign_Name (S₇.bind (i := 1) (d := .int (lawK script).many) hsc rfl (by rw [hmany]; exact hr1 _ _) fun s₈ S₈ x₈ => ?_))
    refine wpAny_assignInOrder_more (wpAny_assign_Name (St.storeCell (pre := [(L + 1, some (.ref a))]) (c₀ := L + 1 + 1) (v₀ := none) hsc S₈ rfl rfl (noOwn rfl) fun s₉ S₉ x₉ => ?_))
    refine wpAny_assignInOrder_more (wpAny_assign_Name (St.storeCell (pre := [(L + 1, some (.ref a)), (L + 1 + 1, some (.int 0 s₁.toks))]) (c₀ := L + 1 + 1 + 1) (v₀ := none) (post := []) hsc S₉ rfl rfl (noOwn rfl) fun s₁₀ S₁₀ x₁₀ => wpAny_assignInOrder_none ?_))
    refine q l us s₁.toks s₁₀ _ hus ⟨fun b o hb e => ?_, fun b hb => List.mem_append_right _ hb, fun b hb => ?_⟩ S₁₀
    · have hbl : b ∉ [l] ++ own := fun z => by
        rcases List.mem_append.mp z with z | z
        · rw [List.mem_singleton.mp z, hls] at e; cases e
        · exact hb z
      exact x₁₀ b o hbl (x₉ b o hbl (x₈ b o hbl (hk' b o (Heap.get?_push_of_some _ (hx4 b o hb e)))))
    · rcases List.mem_append.mp hb with z | z
      · rw [List.mem_singleton.mp z]; exact .inr hls
      · exact .inl z
  · have hb' : b ∈ (frI w [(L + 1, some (Value.ref a)), (L + 1 + 1, none), (L + 1 + 1 + 1, none)] [] a ca (drawP (deck0 script) 4).2).ad ∨ b = l := by
      rcases List.mem_cons.mp hb with rfl | hb
      · exact .inl (.head _)
      rcases List.mem_cons.mp hb with rfl | hb
      · exact .inl (.tail _ (.head _))
      rcases List.mem_append.mp hb with hb | hb
      · exact .inl (.tail _ (.tail _ (List.mem_append_left _ hb)))
      · exact .inr (List.mem_singleton.mp hb)
    rcases hb' with z | rfl
    · exact S₄.iown b z
    · exact ⟨.head _, fun z => hlo (z ▸ S₃.lown)⟩
  · have hq : ∀ b ∈ (frI w [(L + 1, some (Value.ref a)), (L + 1 + 1, none), (L + 1 + 1 + 1, none)] [] a ca (drawP (deck0 script) 4).2).ad, ∀ y ∈ ([l] : List Addr), b ≠ y := fun b hb y hy => by rw [List.mem_singleton.mp hy]; exact hnw b hb
    have := List.nodup_append.mpr ⟨hnd, (by simp : ([l] : List Addr).Nodup), hq⟩
    simpa using this

theorem law_go (T : Top G) (RD : ReadTop w G) (hlots : GData G "_law_lots" (.tup (lots.map rowsD))) {f : Addr} (F : CAt G f (bodyOf (stOf 74)) (scopeOf (stOf 74)) ["script"]) (script : List Int) (hl : script.length ≤ 63) (H : LawFacts (lawK script)) {s : Shared} {A : Around} {v : Value} {B : Result → Shared → Prop} (R : Room 11 A)
    (base : ∀ b o, G.hb.get? b = some o → s.heap.get? b = some o) (r : Rep [] s.heap v (.lst (iD script))) (kk : ∀ h' tk, (∀ b o, s.heap.get? b = some o → h'.get? b = some o) → B (.ok (.ret (.bool true))) { s with heap := h', toks := tk }) :
    codeAny (model PP w) A (.call (.ref f) ⟨[v], []⟩) B s := by
  refine F.enter (n := 10) (I := Inv.none) (av := []) (names := N74) (vals := [.d (.lst (iD script)), .un, .un, .un, .un, .un, .un, .un]) R base (fun x hx => nomatch hx) (fun x hx => nomatch hx) trivial rfl (by decide +kernel) (fun m x hx => ?_) (fun own h₁ hh => ?_) (fun c s₁ A' E L e1 e2 e3 e4 e5 hsc hL hcn R' hcell S => ?_) (fun m => by
    show (["few", "link", "deck"] : List Str).Nodup
    decide +kernel)
  · obtain rfl := List.mem_singleton.mp hx
    exact .inl rfl
  · exact .cons ⟨v, rfl, r.mono fun b o _ e => hh b o (by simp [Inv.none]) e⟩ (.cons trivial (.cons trivial (.cons trivial (.cons trivial (.cons trivial (.cons trivial (.cons trivial .nil)))))))
  · have c1 : s₁.heap.IsCell (L + 1) none := hcell "deck" (L + 1) rfl
    have c2 : s₁.heap.IsCell (L + 1 + 1) none := hcell "link" (L + 1 + 1) rfl
    have c3 : s₁.heap.IsCell (L + 1 + 1 + 1) none := hcell "few" (L + 1 + 1 + 1) rfl
    have hne := fun p hp => (hcn p hp).2
    have m1 : (("deck" : Str), L + 1) ∈ cellsFrom (L + 1) (scopeOf (stOf 74)).names [] := .tail _ (.tail _ (.head _))
    have m2 : (("link" : Str), L + 1 + 1) ∈ cellsFrom (L + 1) (scopeOf (stOf 74)).names [] := .tail _ (.head _)
    have m3 : (("few" : Str), L + 1 + 1 + 1) ∈ cellsFrom (L + 1) (scopeOf (stOf 74)).names [] := .head _
    have S₁ := S.adopt (ow := []) (t := s₁.toks) (h' := s₁.heap) (I' := cellsI [(L + 1, none), (L + 1 + 1, none), (L + 1 + 1 + 1, none)]) (fun _ _ _ e => e) (fun b hb => nomatch hb) (fun b hb => nomatch hb) (fun b hb => ?_)
      (fun p hp => by
        rcases List.mem_cons.mp hp with rfl | hp
        · exact c1
        rcases List.mem_cons.mp hp with rfl | hp
        · exact c2
        · rw [List.mem_singleton.mp hp]; exact c3) (fun b es hm => nofun)
    · show wpAny (model PP w) A' (execs (nth (bodyOf (stOf 74)) 0 :: nth (bodyOf (stOf 74)) 1 :: drop2 (bodyOf (stOf 74))) c.env) _ _ _
      have hlt : ∀ x : Addr, x + 1 ≠ x := fun x => Nat.succ_ne_self x
      refine wpAny_execs_cons (law_s0 T script hl ⟨fun z => ?_, hlt _, hlt _⟩ hsc R' S₁ fun a ca s₂ own₂ st₂ S₂ => ?_)
      · have z' : @Eq Nat (L + 1 + 1 + 1) (L + 1) := z
        exact absurd z' (by omega)
      refine wpAny_execs_cons (law_s1 T script hsc R' S₂ fun l us t s₃ own₃ hus st₃ S₃ => ?_)
      refine (law_rest T RD hlots script hus H).go c own₃ s₃ A' _ E hsc R' (S₃.wk (.un (.same (.un (.un (.un (.un (.un (.un .nil))))))))) fun fl s' I'' _ _ q => ?_
      cases fl with
      | ret v' =>
        obtain ⟨own', vals', st, S'', rr⟩ := q
        cases rr
        have := kk s'.heap s'.toks (fun b o e => S''.ext b o (by rw [e2]; simp [Inv.none]) (by rw [e1]; exact e))
        have hse := S''.same.eq
        rw [e4] at hse
        show B _ s'
        rw [hse]
        exact this
      | _ => exact q.elim
    · have hb' : b = L + 1 ∨ b = L + 1 + 1 ∨ b = L + 1 + 1 + 1 := by simpa [cellsI] using hb
      have hin : ∀ p ∈ cellsFrom (L + 1) (scopeOf (stOf 74)).names [], p.2 ∈ L :: ((cellsFrom (L + 1) (scopeOf (stOf 74)).names []).map (·.2) ++ Inv.none.ad) ∧ p.2 ≠ c.env.locals := fun p hp => ⟨.tail _ (List.mem_append_left _ (List.mem_map.mpr ⟨p, hp, rfl⟩)), by rw [e5]; exact hne p hp⟩
      rcases hb' with rfl | rfl | rfl
      · exact hin _ m1
      · exact hin _ m2
      · exact hin _ m3
end
end Og
namespace Og
open PySem PySem.Calls PySem.Spec PyProof.Rows

noncomputable def Whole (a : List Row) : Prop := ∀ p b, app p (a ++ b) = app (app p a) b
theorem Whole.nil : Whole [] := fun p b => by rw [List.nil_append, app_nil]
theorem Whole.append {a b : List Row} (ha : Whole a) (hb : Whole b) : Whole (a ++ b) := fun p c => by
  rw [List.append_assoc, ha, hb, ha]
theorem Whole.eff {a : List Row} (h : Whole a) (p : Pen) (b : List Row) : app p (a ++ b) = app (app p a) b := h p b

noncomputable def freeRow (r : Row) : Bool := decide (1 < r.length) || (placeOf (num0 (hd0 r))).isNone
theorem Whole.free {r : Row} (h : freeRow r = true) : Whole [r] := fun p b => by
  rw [List.singleton_append, app_cons, app_cons]
  by_cases hl : 1 < r.length
  · rw [if_pos hl, if_pos hl, app_nil]
  · rw [if_neg hl, if_neg hl]
    have : placeOf (num0 (hd0 r)) = none := by
      unfold freeRow at h
      rw [decide_eq_false hl, Bool.false_or] at h
      exact Option.isNone_iff_eq_none.mp h
    rw [this]
    simp only
    rw [app_nil]
theorem told_append (r : Row) (rest b : List Row) (h : manyOf (num0 (hd0 r)) ≤ rest.length) : told (r :: rest ++ b) = told (r :: rest) := by
  have hm : manyOf (num0 (hd0 r)) ≤ 3 := by unfold manyOf; split; omega; split <;> omega
  have e : ∀ l : List Row, told (r :: l) = (colourOf (num0 (hd0 r)) (((l.take 3).map hd0 |>.take (manyOf (num0 (hd0 r)))).map num0), 1 + manyOf (num0 (hd0 r))) := fun l => rfl
  rw [List.cons_append, e, e]
  congr 2
  rw [← List.map_take, ← List.map_take, List.take_take, List.take_take, Nat.min_eq_left hm, List.take_append_of_le_length h]
theorem Whole.place {r s : Row} {k : Nat} {rest : List Row} (hl : r.length = 1) (hk : placeOf (num0 (hd0 r)) = some k) (hm : rest.length = manyOf (num0 (hd0 s))) : Whole (r :: s :: rest) := fun p b => by
  have h1 : ¬ 1 < r.length := by omega
  rw [List.cons_append, app_cons, app_cons, if_neg h1, if_neg h1, hk]
  simp only
  rw [told_append s rest b (by omega)]
  have e2 : (told (s :: rest)).2 = (s :: rest).length := by
    show 1 + manyOf (num0 (hd0 s)) = rest.length + 1
    omega
  rw [e2, List.drop_length, List.drop_left, app_nil]

noncomputable def wholeB : Nat → List Row → Bool
  | _, [] => true
  | 0, _ => false
  | n + 1, r :: rest => if freeRow r then wholeB n rest else match rest with
    | [] => false
    | s :: rest' => decide (r.length = 1) && decide (manyOf (num0 (hd0 s)) ≤ rest'.length) && wholeB n (rest'.drop (manyOf (num0 (hd0 s))))
theorem whole_of : ∀ (n : Nat) (a : List Row), wholeB n a = true → Whole a
  | _, [], _ => Whole.nil
  | 0, _ :: _, h => by cases h
  | n + 1, r :: rest, h => by
    unfold wholeB at h
    by_cases hf : freeRow r = true
    · rw [if_pos hf] at h
      exact (Whole.free hf).append (whole_of n rest h)
    · rw [if_neg hf] at h
      cases rest with
      | nil => cases h
      | cons s rest' =>
        simp only [Bool.and_eq_true, decide_eq_true_eq] at h
        obtain ⟨⟨h1, h2⟩, h3⟩ := h
        have hk : ∃ k, placeOf (num0 (hd0 r)) = some k := by
          unfold freeRow at hf
          rw [decide_eq_false (by omega), Bool.false_or] at hf
          cases e : placeOf (num0 (hd0 r)) with
          | none => rw [e] at hf; exact absurd rfl hf
          | some k => exact ⟨k, rfl⟩
        obtain ⟨k, hk⟩ := hk
        have := (Whole.place (r := r) (s := s) (rest := rest'.take (manyOf (num0 (hd0 s)))) h1 hk (by rw [List.length_take]; omega)).append (whole_of n _ h3)
        simpa using this
theorem lots_whole : ∀ r ∈ lots, Whole r := by
  have h : (lots.all fun r => wholeB 10 r) = true := by decide +kernel
  exact fun r hr => whole_of 10 r (List.all_eq_true.mp h r hr)

noncomputable def rowOkB (r : Row) : Bool := !r.isEmpty && decide (r.length ≤ 900) && (decide (r.length ≤ 1) || r.all (·.isSome)) && r.all fun o => match o with
  | none => true
  | some i => decide (0 ≤ i) && decide (i < 4294967296)
theorem rowOk_of {r : Row} (h : rowOkB r = true) : RowOk r := by
  unfold rowOkB at h
  simp only [Bool.and_eq_true, Bool.or_eq_true, decide_eq_true_eq, List.all_eq_true, Bool.not_eq_true', List.isEmpty_eq_false_iff] at h
  obtain ⟨⟨⟨h1, h2⟩, h3⟩, h4⟩ := h
  refine ⟨h1, h2, fun hl o ho => ?_, fun i hi => ?_⟩
  · rcases h3 with h3 | h3
    · omega
    · have := h3 o ho; intro q; rw [q] at this; cases this
  · have := h4 _ hi
    simp only [Bool.and_eq_true, decide_eq_true_eq] at this
    exact ⟨this.1, by have := this.2; omega⟩
structure RowsC (a : List Row) : Prop where
  ok : RowsOk a
  last : ∀ r, a.getLast? = some r → isPlace r = false
theorem RowsC.append {a b : List Row} (ha : RowsC a) (hb : RowsC b) (hl : a.length + b.length ≤ 10000) : RowsC (a ++ b) := by
  refine ⟨⟨fun r hr => ?_, fun i r r' h1 h2 hp => ?_, by rw [List.length_append]; exact hl⟩, fun r hr => ?_⟩
  · rcases List.mem_append.mp hr with h | h
    · exact ha.ok.all r h
    · exact hb.ok.all r h
  · by_cases h : i + 1 < a.length
    · rw [List.getElem?_append_left (by omega)] at h1
      rw [List.getElem?_append_left h] at h2
      exact ha.ok.adj i r r' h1 h2 hp
    · by_cases h' : i < a.length
      · rw [List.getElem?_append_left h'] at h1
        have hlast : a.getLast? = some r := by rw [List.getLast?_eq_getElem?, show a.length - 1 = i by omega]; exact h1
        rw [ha.last r hlast] at hp; cases hp
      · rw [List.getElem?_append_right (by omega)] at h1
        rw [List.getElem?_append_right (by omega), show i + 1 - a.length = (i - a.length) + 1 by omega] at h2
        exact hb.ok.adj _ r r' h1 h2 hp
  · cases hbe : b with
    | nil => rw [hbe, List.append_nil] at hr; exact ha.last r hr
    | cons x y =>
      have : (a ++ b).getLast? = b.getLast? := by
        rw [List.getLast?_append]
        rw [hbe]
        simp [List.getLast?_cons]
      rw [this] at hr
      exact hb.last r hr
noncomputable def rowsCB (a : List Row) : Bool := a.all rowOkB && (List.range a.length).all (fun i => !isPlace (a.getD i []) || ((a[i + 1]?).any fun r => (hd0 r).isSome)) && decide (a.length ≤ 10000)
theorem rowsC_of {a : List Row} (h : rowsCB a = true) : RowsC a := by
  unfold rowsCB at h
  simp only [Bool.and_eq_true, List.all_eq_true, decide_eq_true_eq, List.mem_range, Bool.or_eq_true, Bool.not_eq_true'] at h
  obtain ⟨⟨h1, h2⟩, h3⟩ := h
  refine ⟨⟨fun r hr => rowOk_of (h1 r hr), fun i r r' e1 e2 hp => ?_, h3⟩, fun r hr => ?_⟩
  · have hi := (List.getElem?_eq_some_iff.mp e1).1
    have := h2 i hi
    rw [List.getD_eq_getElem?_getD, e1, Option.getD_some, hp] at this
    rcases this with q | q
    · cases q
    · rw [e2] at q
      intro z
      simp [z] at q
  · rw [List.getLast?_eq_getElem?] at hr
    have hi := (List.getElem?_eq_some_iff.mp hr).1
    have := h2 _ hi
    rw [List.getD_eq_getElem?_getD, hr, Option.getD_some] at this
    rcases this with q | q
    · exact q
    · rw [show a[a.length - 1 + 1]? = none from List.getElem?_eq_none (by omega)] at q; cases q
theorem lots_rows : ∀ r ∈ lots, RowsC r := by
  have h : (lots.all fun r => rowsCB r) = true := by decide +kernel
  exact fun r hr => rowsC_of (List.all_eq_true.mp h r hr)
theorem lots_small : ∀ r ∈ lots, r.length ≤ 5 ∧ r ≠ [] := by
  have h : (lots.all fun r => decide (r.length ≤ 5) && !r.isEmpty) = true := by decide +kernel
  intro r hr
  have := List.all_eq_true.mp h r hr
  simpa using this
theorem app_reset (p : Pen) : app p [[none]] = plainPen p.l := by
  rw [app_cons, if_neg (by decide)]
  show app (plainCh p 0) [] = _
  rw [app_nil]
  rfl
end Og
namespace Og
open PySem PySem.Calls PySem.Spec PyProof.Rows

noncomputable def SB (i : Nat) : Int := [1, 2, 3, 5, 6, 7, 8, 9, 53].getD i 0
noncomputable def CB (i : Nat) : Int := [22, 22, 23, 25, 25, 27, 28, 29, 55].getD i 0
theorem BITS_eq : BITS = (List.range 9).map fun i => (((2 ^ i : Nat) : Int), SB i, CB i) := by decide
theorem SB_inj : ∀ i < 9, ∀ j < 9, SB i = SB j → i = j := by decide
theorem SB_CB : ∀ i < 9, ∀ j < 9, SB i ≠ CB j := by decide

theorem and_nat (x y : Nat) : Builtin.bitAnd (x : Int) (y : Int) = ((x &&& y : Nat) : Int) := by
  unfold Builtin.bitAnd
  simp
theorem or_nat (x y : Nat) : Builtin.bitOr (x : Int) (y : Int) = ((x ||| y : Nat) : Int) := by
  unfold Builtin.bitOr Builtin.bitAnd Builtin.bitNot
  have h1 : decide (0 ≤ -(x : Int) - 1) = false := decide_eq_false (by omega)
  have h2 : decide (0 ≤ -(y : Int) - 1) = false := decide_eq_false (by omega)
  rw [h1, h2]
  simp only
  have e1 : (-(-(x : Int) - 1) - 1).toNat = x := by omega
  have e2 : (-(-(y : Int) - 1) - 1).toNat = y := by omega
  rw [e1, e2]
  omega
noncomputable def clr (x m : Nat) : Nat := x - (x &&& m)
theorem clr_nat (x m : Nat) : Builtin.bitAnd (x : Int) (Builtin.bitNot (m : Int)) = ((clr x m : Nat) : Int) := by
  unfold Builtin.bitAnd Builtin.bitNot
  have h1 : decide (0 ≤ (x : Int)) = true := decide_eq_true (by omega)
  have h2 : decide (0 ≤ -(m : Int) - 1) = false := decide_eq_false (by omega)
  rw [h1, h2]
  simp only
  have e1 : ((x : Int)).toNat = x := by omega
  have e2 : (-(-(m : Int) - 1) - 1).toNat = m := by omega
  rw [e1, e2]
  have := Nat.and_le_left (n := x) (m := m)
  unfold clr
  omega
theorem clr_table : ((List.range 4096).all fun x => (List.range 9).all fun i => clr x (2 ^ i) == x &&& (4095 ^^^ 2 ^ i)) = true := by decide +kernel
theorem clr_eq {x i : Nat} (hx : x < 4096) (hi : i < 9) : clr x (2 ^ i) = x &&& (4095 ^^^ 2 ^ i) := by
  have := List.all_eq_true.mp clr_table x (List.mem_range.mpr hx)
  exact beq_iff_eq.mp (List.all_eq_true.mp this i (List.mem_range.mpr hi))
theorem clr_lt {x i : Nat} (hx : x < 4096) : clr x (2 ^ i) < 4096 := by unfold clr; omega
theorem or_lt {x i : Nat} (hx : x < 4096) (hi : i < 9) : x ||| 2 ^ i < 4096 := Nat.or_lt_two_pow (n := 12) hx (Nat.pow_lt_pow_right (by decide) (by omega))
theorem tb_or {x i j : Nat} : (x ||| 2 ^ i).testBit j = (x.testBit j || decide (i = j)) := by rw [Nat.testBit_or, Nat.testBit_two_pow]
theorem tb_table : ((List.range 9).all fun i => (List.range 12).all fun j => (4095 ^^^ 2 ^ i).testBit j == !decide (i = j)) = true := by decide +kernel
theorem tb_clr {x i j : Nat} (hx : x < 4096) (hi : i < 9) (hj : j < 12) : (clr x (2 ^ i)).testBit j = (x.testBit j && !decide (i = j)) := by
  rw [clr_eq hx hi, Nat.testBit_and]
  have := List.all_eq_true.mp tb_table i (List.mem_range.mpr hi)
  rw [beq_iff_eq.mp (List.all_eq_true.mp this j (List.mem_range.mpr hj))]
theorem nat_ext {x y : Nat} (hx : x < 4096) (hy : y < 4096) (h : ∀ j < 12, x.testBit j = y.testBit j) : x = y := by
  refine Nat.eq_of_testBit_eq fun j => ?_
  by_cases hj : j < 12
  · exact h j hj
  · have h12 : 4096 ≤ 2 ^ j := by
      have : 2 ^ 12 ≤ 2 ^ j := Nat.pow_le_pow_right (by decide) (by omega)
      exact this
    rw [Nat.testBit_lt_two_pow (by omega), Nat.testBit_lt_two_pow (by omega)]
theorem tb_mask {x i : Nat} : (Builtin.bitAnd (x : Int) ((2 ^ i : Nat) : Int) ≠ 0) ↔ x.testBit i = true := by
  rw [and_nat]
  have : (x &&& 2 ^ i = 0) ↔ x.testBit i = false := by
    constructor
    · intro h
      have h2 : (x &&& 2 ^ i).testBit i = false := by rw [h]; exact Nat.zero_testBit i
      rw [Nat.testBit_and, Nat.testBit_two_pow] at h2
      simpa using h2
    · intro h
      refine Nat.eq_of_testBit_eq fun j => ?_
      rw [Nat.testBit_and, Nat.testBit_two_pow, Nat.zero_testBit]
      by_cases hij : i = j
      · subst hij; simp [h]
      · simp [hij]
  constructor
  · intro h
    cases e : x.testBit i with
    | true => rfl
    | false => exact absurd (by rw [this.mpr e]; rfl) h
  · intro h q
    have h0 : x &&& 2 ^ i = 0 := by omega
    rw [this.mp h0] at h; cases h

noncomputable def stepN (n : Int) (x i : Nat) : Nat := if n = SB i then x ||| 2 ^ i else if n = CB i then clr x (2 ^ i) else x
noncomputable def effN (n : Int) (j : Nat) (t : Bool) : Bool := if n = SB j then true else if n = CB j then false else t
theorem stepN_lt {n : Int} {x i : Nat} (hx : x < 4096) (hi : i < 9) : stepN n x i < 4096 := by
  unfold stepN
  split
  · exact or_lt hx hi
  · split
    · exact clr_lt hx
    · exact hx
theorem tb_stepN {n : Int} {x i j : Nat} (hx : x < 4096) (hi : i < 9) (hj : j < 12) : (stepN n x i).testBit j = if i = j then effN n j (x.testBit j) else x.testBit j := by
  unfold stepN effN
  by_cases hij : i = j
  · subst hij
    rw [if_pos rfl]
    split
    · rw [tb_or]; simp
    · split
      · rw [tb_clr hx hi hj]; simp
      · rfl
  · rw [if_neg hij]
    split
    · rw [tb_or]; simp [hij]
    · split
      · rw [tb_clr hx hi hj]; simp [hij]
      · rfl
theorem bitCh_nat (n : Int) (x i : Nat) : bitCh n (x : Int) (((2 ^ i : Nat) : Int), SB i, CB i) = ((stepN n x i : Nat) : Int) := by
  unfold bitCh stepN
  simp only
  split
  · exact or_nat _ _
  · split
    · exact clr_nat _ _
    · rfl
noncomputable def bitsN (n : Int) (x : Nat) : Nat := (List.range 9).foldl (stepN n) x
theorem bits_nat (n : Int) (x : Nat) : BITS.foldl (bitCh n) (x : Int) = ((bitsN n x : Nat) : Int) := by
  rw [BITS_eq]
  unfold bitsN
  generalize List.range 9 = L
  induction L generalizing x with
  | nil => rfl
  | cons i L ih =>
    rw [List.map_cons, List.foldl_cons, List.foldl_cons, bitCh_nat, ih]
theorem fold_stepN {n : Int} : ∀ (L : List Nat) (x : Nat), x < 4096 → (∀ i ∈ L, i < 9) → L.Nodup → L.foldl (stepN n) x < 4096 ∧ ∀ j < 12, (L.foldl (stepN n) x).testBit j = if j ∈ L then effN n j (x.testBit j) else x.testBit j
  | [], x, hx, _, _ => ⟨hx, fun j _ => by simp⟩
  | i :: L, x, hx, hL, hn => by
    have hi := hL i (.head _)
    have hnd := List.nodup_cons.mp hn
    have h1 := fold_stepN (n := n) L (stepN n x i) (stepN_lt hx hi) (fun k hk => hL k (.tail _ hk)) hnd.2
    refine ⟨h1.1, fun j hj => ?_⟩
    rw [List.foldl_cons, h1.2 j hj, tb_stepN hx hi hj]
    by_cases hij : i = j
    · subst hij
      rw [if_neg hnd.1, if_pos rfl, if_pos (.head _)]
    · rw [if_neg hij]
      have : (j ∈ i :: L) ↔ j ∈ L := by simp [Ne.symm hij]
      simp only [this]
theorem bitsN_lt {n : Int} {x : Nat} (hx : x < 4096) : bitsN n x < 4096 := (fold_stepN (n := n) (List.range 9) x hx (fun i hi => List.mem_range.mp hi) List.nodup_range).1
theorem tb_bitsN {n : Int} {x j : Nat} (hx : x < 4096) (hj : j < 12) : (bitsN n x).testBit j = if j < 9 then effN n j (x.testBit j) else x.testBit j := by
  unfold bitsN
  rw [(fold_stepN (n := n) (List.range 9) x hx (fun i hi => List.mem_range.mp hi) List.nodup_range).2 j hj]
  simp only [List.mem_range]

noncomputable def manyN (l : List Int) (x : Nat) : Nat := l.foldl (fun x n => bitsN n x) x
theorem manyN_spec : ∀ (l : List Int) (x : Nat), x < 4096 → manyN l x < 4096 ∧ ∀ j < 12, (manyN l x).testBit j = if j < 9 then l.foldl (fun t n => effN n j t) (x.testBit j) else x.testBit j
  | [], x, hx => ⟨hx, fun j _ => by simp [manyN]⟩
  | n :: l, x, hx => by
    have h1 := manyN_spec l (bitsN n x) (bitsN_lt hx)
    refine ⟨h1.1, fun j hj => ?_⟩
    have h2 := h1.2 j hj
    rw [tb_bitsN hx hj] at h2
    show (manyN l (bitsN n x)).testBit j = _
    rw [h2]
    by_cases h9 : j < 9
    · simp [h9]
    · simp [h9]

noncomputable def clearN (new : Nat) (st : List Int × Nat) (i : Nat) : List Int × Nat :=
  if st.2.testBit i = true ∧ new.testBit i = false then (st.1 ++ [CB i], (List.range 9).foldl (fun h k => if CB k = CB i then clr h (2 ^ k) else h) st.2) else st
theorem mate_fold {c : Int} : ∀ (L : List Nat) (x : Nat), x < 4096 → (∀ i ∈ L, i < 9) → L.foldl (fun h k => if CB k = c then clr h (2 ^ k) else h) x < 4096 ∧ ∀ j < 12, (L.foldl (fun h k => if CB k = c then clr h (2 ^ k) else h) x).testBit j = (x.testBit j && !(decide (j ∈ L) && decide (CB j = c)))
  | [], x, hx, _ => ⟨hx, fun j _ => by simp⟩
  | i :: L, x, hx, hL => by
    have hi := hL i (.head _)
    rw [List.foldl_cons]
    by_cases hc : CB i = c
    · rw [if_pos hc]
      have h1 := mate_fold (c := c) L (clr x (2 ^ i)) (clr_lt hx) (fun k hk => hL k (.tail _ hk))
      refine ⟨h1.1, fun j hj => ?_⟩
      rw [h1.2 j hj, tb_clr hx hi hj]
      by_cases hij : i = j
      · subst hij; simp [hc]
      · have : (j ∈ i :: L) ↔ j ∈ L := by simp [Ne.symm hij]
        simp [hij, this]
    · rw [if_neg hc]
      have h1 := mate_fold (c := c) L x hx (fun k hk => hL k (.tail _ hk))
      refine ⟨h1.1, fun j hj => ?_⟩
      rw [h1.2 j hj]
      by_cases hij : i = j
      · subst hij; simp [hc]
      · have : (j ∈ i :: L) ↔ j ∈ L := by simp [Ne.symm hij]
        simp [this]
structure ClearInv (a new : Nat) (pre : List Nat) (st : List Int × Nat) : Prop where
  lt : st.2 < 4096
  bit : ∀ j < 12, st.2.testBit j = (a.testBit j && !(decide (j < 9) && decide (CB j ∈ st.1)))
  pre9 : ∀ i ∈ pre, i < 9
  done : ∀ i ∈ pre, new.testBit i = false → st.2.testBit i = false
  mem : ∀ n ∈ st.1, ∃ i < 9, n = CB i
  len : st.1.length ≤ (pre.filter fun i => !new.testBit i).length
theorem clear_inv {a new : Nat} : ∀ (L pre : List Nat) (st : List Int × Nat), (∀ i ∈ L, i < 9) → ClearInv a new pre st → ClearInv a new (pre ++ L) (L.foldl (clearN new) st)
  | [], pre, st, _, h => by rw [List.append_nil]; exact h
  | i :: L, pre, st, hL, h => by
    have hi := hL i (.head _)
    have : ClearInv a new (pre ++ [i]) (clearN new st i) := by
      unfold clearN
      by_cases hc : st.2.testBit i = true ∧ new.testBit i = false
      · rw [if_pos hc]
        have hm := mate_fold (c := CB i) (List.range 9) st.2 h.lt (fun k hk => List.mem_range.mp hk)
        have hbit : ∀ j < 12, ((List.range 9).foldl (fun h k => if CB k = CB i then clr h (2 ^ k) else h) st.2).testBit j = (st.2.testBit j && !(decide (j < 9) && decide (CB j = CB i))) := fun j hj => by
          rw [hm.2 j hj]; simp [List.mem_range]
        refine ⟨hm.1, fun j hj => ?_, fun k hk => ?_, fun k hk hnk => ?_, fun n hn => ?_, ?_⟩
        · simp only
          rw [hbit j hj, h.bit j hj]
          by_cases h9 : j < 9
          · simp only [h9, decide_true, Bool.true_and, List.mem_append, List.mem_singleton]
            by_cases e1 : CB j ∈ st.1 <;> by_cases e2 : CB j = CB i <;> simp [e1, e2]
          · simp [h9]
        · rcases List.mem_append.mp hk with q | q
          · exact h.pre9 k q
          · rw [List.mem_singleton.mp q]; exact hi
        · simp only
          have hk12 : k < 12 := by
            rcases List.mem_append.mp hk with q | q
            · have := h.pre9 k q; omega
            · have := List.mem_singleton.mp q; omega
          rw [hbit k hk12]
          rcases List.mem_append.mp hk with q | q
          · rw [h.done k q hnk]; rfl
          · obtain rfl := List.mem_singleton.mp q
            simp [hi]
        · rcases List.mem_append.mp hn with q | q
          · exact h.mem n q
          · exact ⟨i, hi, List.mem_singleton.mp q⟩
        · have := h.len
          simp only [List.length_append, List.length_singleton, List.filter_append]
          have e : ([i].filter fun i => !new.testBit i).length = 1 := by simp [hc.2]
          omega
      · rw [if_neg hc]
        refine ⟨h.lt, h.bit, fun k hk => ?_, fun k hk hnk => ?_, h.mem, ?_⟩
        · rcases List.mem_append.mp hk with q | q
          · exact h.pre9 k q
          · rw [List.mem_singleton.mp q]; exact hi
        · rcases List.mem_append.mp hk with q | q
          · exact h.done k q hnk
          · obtain rfl := List.mem_singleton.mp q
            cases e : st.2.testBit k with
            | false => rfl
            | true => exact absurd ⟨e, hnk⟩ hc
        · have := h.len
          simp only [List.filter_append, List.length_append]
          omega
    have h2 := clear_inv L (pre ++ [i]) (clearN new st i) (fun k hk => hL k (.tail _ hk)) this
    rw [List.append_assoc] at h2
    exact h2
end Og
namespace Og
open PySem PySem.Calls PySem.Spec PyProof.Rows

theorem tb_mask0 {x i : Nat} : (Builtin.bitAnd (x : Int) ((2 ^ i : Nat) : Int) = 0) ↔ x.testBit i = false := by
  have := tb_mask (x := x) (i := i)
  constructor
  · intro h
    cases e : x.testBit i with
    | false => rfl
    | true => exact absurd h (this.mpr e)
  · intro h
    exact Classical.byContradiction fun q => by rw [this.mp q] at h; cases h
theorem mate_nat (c : Int) (L : List Nat) (x : Nat) : (L.map fun i => (((2 ^ i : Nat) : Int), SB i, CB i)).foldl (mateCh c) (x : Int) = ((L.foldl (fun h k => if CB k = c then clr h (2 ^ k) else h) x : Nat) : Int) := by
  induction L generalizing x with
  | nil => rfl
  | cons i L ih =>
    rw [List.map_cons, List.foldl_cons, List.foldl_cons]
    unfold mateCh
    simp only
    by_cases hc : CB i = c
    · rw [if_pos hc, if_pos hc, clr_nat]
      exact ih _
    · rw [if_neg hc, if_neg hc]
      exact ih _
theorem clear_nat (b : Nat) (L : List Nat) (cl : List Int) (h : Nat) : (L.map fun i => (((2 ^ i : Nat) : Int), SB i, CB i)).foldl (clearStep (b : Int)) (cl.map one, (h : Int)) = ((L.foldl (clearN b) (cl, h)).1.map one, (((L.foldl (clearN b) (cl, h)).2 : Nat) : Int)) := by
  induction L generalizing cl h with
  | nil => rfl
  | cons i L ih =>
    rw [List.map_cons, List.foldl_cons, List.foldl_cons]
    have : clearStep (b : Int) (cl.map one, (h : Int)) (((2 ^ i : Nat) : Int), SB i, CB i) = ((clearN b (cl, h) i).1.map one, (((clearN b (cl, h) i).2 : Nat) : Int)) := by
      unfold clearStep clearN
      simp only
      by_cases hc : h.testBit i = true ∧ b.testBit i = false
      · rw [if_pos hc, if_pos ⟨tb_mask.mpr hc.1, tb_mask0.mpr hc.2⟩, BITS_eq, mate_nat]
        simp
      · rw [if_neg hc, if_neg fun q => hc ⟨tb_mask.mp q.1, tb_mask0.mp q.2⟩]
    rw [this]
    exact ih _ _
noncomputable def setN (b h : Nat) (l : List Int) (i : Nat) : List Int := if b.testBit i = true ∧ h.testBit i = false then l ++ [SB i] else l
theorem set_nat (b h : Nat) (L : List Nat) (l : List Int) : (L.map fun i => (((2 ^ i : Nat) : Int), SB i, CB i)).foldl (setStep (b : Int) (h : Int)) (l.map one) = (L.foldl (setN b h) l).map one := by
  induction L generalizing l with
  | nil => rfl
  | cons i L ih =>
    rw [List.map_cons, List.foldl_cons, List.foldl_cons]
    have : setStep (b : Int) (h : Int) (l.map one) (((2 ^ i : Nat) : Int), SB i, CB i) = (setN b h l i).map one := by
      unfold setStep setN
      simp only
      by_cases hc : b.testBit i = true ∧ h.testBit i = false
      · rw [if_pos hc, if_pos ⟨tb_mask.mpr hc.1, tb_mask0.mpr hc.2⟩]
        simp
      · rw [if_neg hc, if_neg fun q => hc ⟨tb_mask.mp q.1, tb_mask0.mp q.2⟩]
    rw [this]
    exact ih _
theorem set_fold {b h : Nat} : ∀ (L : List Nat) (l : List Int), (∀ n, n ∈ L.foldl (setN b h) l ↔ n ∈ l ∨ ∃ i ∈ L, n = SB i ∧ b.testBit i = true ∧ h.testBit i = false) ∧ (L.foldl (setN b h) l).length ≤ l.length + (L.filter fun i => b.testBit i).length
  | [], l => ⟨fun n => by simp, by simp⟩
  | i :: L, l => by
    have h1 := set_fold (b := b) (h := h) L (setN b h l i)
    refine ⟨fun n => ?_, ?_⟩
    · rw [List.foldl_cons, h1.1 n]
      unfold setN
      by_cases hc : b.testBit i = true ∧ h.testBit i = false
      · rw [if_pos hc]
        simp only [List.mem_append, List.mem_cons, List.not_mem_nil, or_false]
        constructor
        · rintro ((q | q) | ⟨k, hk, q⟩)
          · exact .inl q
          · exact .inr ⟨i, .inl rfl, q, hc⟩
          · exact .inr ⟨k, .inr hk, q⟩
        · rintro (q | ⟨k, rfl | hk, q⟩)
          · exact .inl (.inl q)
          · exact .inl (.inr q.1)
          · exact .inr ⟨k, hk, q⟩
      · rw [if_neg hc]
        simp only [List.mem_cons]
        constructor
        · rintro (q | ⟨k, hk, q⟩)
          · exact .inl q
          · exact .inr ⟨k, .inr hk, q⟩
        · rintro (q | ⟨k, rfl | hk, q⟩)
          · exact .inl q
          · exact absurd q.2 hc
          · exact .inr ⟨k, hk, q⟩
    · have h2 := h1.2
      rw [List.foldl_cons]
      have h3 : (setN b h l i).length ≤ l.length + ([i].filter fun i => b.testBit i).length := by
        unfold setN
        split
        · rename_i hc; simp [hc.1]
        · simp
      have h4 : ((i :: L).filter fun i => b.testBit i).length = ([i].filter fun i => b.testBit i).length + (L.filter fun i => b.testBit i).length := by
        rw [← List.length_append, ← List.filter_append]; rfl
      omega
noncomputable def clearsOf (a b : Nat) : List Int × Nat := (List.range 9).foldl (clearN b) ([], a)
noncomputable def setsOf (a b : Nat) : List Int := (List.range 9).foldl (setN b (clearsOf a b).2) []
noncomputable def bitsOf (a b : Nat) : List Int := (clearsOf a b).1 ++ setsOf a b
theorem bitPar_nat (a b : Nat) : bitPar (a : Int) (b : Int) = (bitsOf a b).map one := by
  unfold bitPar bitsOf setsOf clearsOf
  rw [BITS_eq]
  have h1 := clear_nat b (List.range 9) [] a
  simp only [List.map_nil] at h1
  rw [h1]
  have h2 := set_nat b ((List.range 9).foldl (clearN b) ([], a)).2 (List.range 9) []
  simp only [List.map_nil] at h2
  rw [h2, List.map_append]
theorem clears_inv {a b : Nat} (ha : a < 4096) : ClearInv a b (List.range 9) (clearsOf a b) := by
  have := clear_inv (a := a) (new := b) (List.range 9) [] ([], a) (fun i hi => List.mem_range.mp hi) ⟨ha, (fun j _ => by simp), (fun i hi => nomatch hi), (fun i hi => nomatch hi), (fun n hn => nomatch hn), by simp⟩
  simpa [clearsOf] using this
theorem sets_mem {a b : Nat} (n : Int) : n ∈ setsOf a b ↔ ∃ i < 9, n = SB i ∧ b.testBit i = true ∧ (clearsOf a b).2.testBit i = false := by
  unfold setsOf
  rw [(set_fold (List.range 9) []).1 n]
  simp [List.mem_range]
theorem bitsOf_len {a b : Nat} (ha : a < 4096) : (bitsOf a b).length ≤ 9 := by
  have h1 := (clears_inv (b := b) ha).len
  have h2 := (set_fold (b := b) (h := (clearsOf a b).2) (List.range 9) []).2
  have h3 : ((List.range 9).filter fun i => !b.testBit i).length + ((List.range 9).filter fun i => b.testBit i).length = 9 := by
    have : ∀ L : List Nat, (L.filter fun i => !b.testBit i).length + (L.filter fun i => b.testBit i).length = L.length := by
      intro L
      induction L with
      | nil => rfl
      | cons i L ih => cases e : b.testBit i <;> simp [e] <;> omega
    exact this (List.range 9)
  unfold bitsOf setsOf
  rw [List.length_append]
  simp only [List.length_nil] at h2
  omega
theorem eff_clears {j : Nat} (hj : j < 9) : ∀ (cl : List Int) (t : Bool), (∀ n ∈ cl, ∃ i < 9, n = CB i) → cl.foldl (fun t n => effN n j t) t = (t && !decide (CB j ∈ cl))
  | [], t, _ => by simp
  | n :: cl, t, h => by
    obtain ⟨i, hi, rfl⟩ := h n (.head _)
    rw [List.foldl_cons, eff_clears hj cl _ fun m hm => h m (.tail _ hm)]
    have h1 : CB i ≠ SB j := fun q => SB_CB j hj i hi q.symm
    unfold effN
    rw [if_neg h1]
    by_cases hc : CB i = CB j
    · rw [if_pos hc]; simp [hc]
    · rw [if_neg hc]
      have : (CB j ∈ CB i :: cl) ↔ CB j ∈ cl := by simp [Ne.symm hc]
      simp [this]
theorem eff_sets {j : Nat} (hj : j < 9) : ∀ (l : List Int) (t : Bool), (∀ n ∈ l, ∃ i < 9, n = SB i) → l.foldl (fun t n => effN n j t) t = (t || decide (SB j ∈ l))
  | [], t, _ => by simp
  | n :: l, t, h => by
    obtain ⟨i, hi, rfl⟩ := h n (.head _)
    rw [List.foldl_cons, eff_sets hj l _ fun m hm => h m (.tail _ hm)]
    unfold effN
    by_cases hc : SB i = SB j
    · rw [if_pos hc]; simp [hc]
    · rw [if_neg hc, if_neg (SB_CB i hi j hj)]
      have : (SB j ∈ SB i :: l) ↔ SB j ∈ l := by simp [Ne.symm hc]
      simp [this]
theorem bits_lead {a b : Nat} (ha : a < 4096) (hb : b < 4096) : manyN (bitsOf a b) a = b % 512 + 512 * (a / 512) := by
  have hm := manyN_spec (bitsOf a b) a ha
  have hI := clears_inv (b := b) ha
  have hlt : b % 512 + 512 * (a / 512) < 4096 := by omega
  refine nat_ext hm.1 hlt fun j hj => ?_
  rw [hm.2 j hj]
  have hT : (b % 512 + 512 * (a / 512)).testBit j = if j < 9 then b.testBit j else a.testBit j := by
    have e : b % 512 + 512 * (a / 512) = 2 ^ 9 * (a / 2 ^ 9) + b % 2 ^ 9 := by
      show b % 512 + 512 * (a / 512) = 512 * (a / 512) + b % 512
      omega
    rw [e, Nat.testBit_two_pow_mul_add _ (Nat.mod_lt _ (by decide))]
    by_cases h9 : j < 9
    · rw [if_pos h9, if_pos h9, Nat.testBit_mod_two_pow, decide_eq_true h9, Bool.true_and]
    · rw [if_neg h9, if_neg h9, Nat.testBit_div_two_pow]
      congr 1
      omega
  rw [hT]
  by_cases h9 : j < 9
  · rw [if_pos h9, if_pos h9]
    unfold bitsOf
    rw [List.foldl_append, eff_clears h9 _ _ hI.mem, eff_sets h9 _ _ fun n hn => by obtain ⟨i, hi, e, _⟩ := (sets_mem n).mp hn; exact ⟨i, hi, e⟩]
    have hb1 := hI.bit j hj
    simp only [h9, decide_true, Bool.true_and] at hb1
    rw [← hb1]
    have hs : (SB j ∈ setsOf a b) ↔ (b.testBit j = true ∧ (clearsOf a b).2.testBit j = false) := by
      rw [sets_mem]
      constructor
      · rintro ⟨i, hi, e, q⟩
        obtain rfl := SB_inj j h9 i hi e
        exact q
      · exact fun q => ⟨j, h9, rfl, q⟩
    have hd := hI.done j (List.mem_range.mpr h9)
    cases e1 : b.testBit j with
    | true => cases e2 : (clearsOf a b).2.testBit j <;> simp [hs, e1, e2]
    | false => simp [hs, e1, hd e1]
  · rw [if_neg h9, if_neg h9]
end Og
namespace Og
open PySem PySem.Calls PySem.Spec PyProof.Rows

theorem and3584_table : ((List.range 4096).all fun x => x &&& 3584 == 512 * (x / 512)) = true := by decide +kernel
theorem and3584 {x : Nat} (hx : x < 4096) : x &&& 3584 = 512 * (x / 512) :=
  beq_iff_eq.mp (List.all_eq_true.mp and3584_table x (List.mem_range.mpr hx))
theorem underOf_nat {x : Nat} (hx : x < 4096) : underOf (x : Int) = ((x / 512 : Nat) : Int) := by
  unfold underOf
  rw [show (3584 : Int) = ((3584 : Nat) : Int) from rfl, and_nat, and3584 hx, Int.fdiv_eq_ediv_of_nonneg _ (by omega)]
  omega
theorem underF_nat {x k : Nat} (hx : x < 4096) : underF (x : Int) (k : Int) = ((x % 512 + 512 * k : Nat) : Int) := by
  unfold underF
  have e : (-3585 : Int) = Builtin.bitNot ((3584 : Nat) : Int) := by decide
  have e2 : (k : Int) * 512 = ((512 * k : Nat) : Int) := by omega
  rw [e, clr_nat, e2, or_nat]
  have e3 : clr x 3584 = x % 512 := by unfold clr; rw [and3584 hx]; omega
  have e4 : x % 512 ||| 512 * k = x % 512 + 512 * k := by
    have := Nat.two_pow_add_eq_or_of_lt (i := 9) (b := x % 512) (by omega) k
    rw [Nat.or_comm, Nat.add_comm]
    exact this.symm
  rw [e3, e4]

noncomputable abbrev BitNum (n : Int) : Prop := (1 ≤ n ∧ n ≤ 3) ∨ (5 ≤ n ∧ n ≤ 9) ∨ (22 ≤ n ∧ n ≤ 29 ∧ n ≠ 24) ∨ (50 ≤ n ∧ n ≤ 56)
theorem SB_num : ∀ i < 9, BitNum (SB i) := by decide
theorem CB_num : ∀ i < 9, BitNum (CB i) := by decide
theorem BitNum.place {n : Int} (h : BitNum n) : placeOf n = none := by
  unfold BitNum at h
  unfold placeOf
  rw [if_neg (by omega), if_neg (by omega), if_neg (by omega)]
theorem BitNum.plain {n : Int} (h : BitNum n) (p : Pen) : plainCh p n = { p with f := BITS.foldl (bitCh n) p.f } := by
  unfold BitNum at h
  have h1 : colCh p 1 30 n = none := by unfold colCh; rw [if_neg (by omega), if_neg (by omega), if_neg (by omega)]
  have h2 : colCh p 2 40 n = none := by unfold colCh; rw [if_neg (by omega), if_neg (by omega), if_neg (by omega)]
  unfold plainCh
  rw [if_neg (by omega), if_neg (by omega), if_neg (by omega), if_neg (by omega), h1, h2]
  simp only
  rw [if_neg (by omega)]
theorem hd0_one (n : Int) : num0 (hd0 (one n)) = n := rfl
theorem app_one {p : Pen} {n : Int} (h : placeOf n = none) (b : List Row) : app p (one n :: b) = app (plainCh p n) b := by
  have hl : ¬ 1 < (one n).length := Nat.lt_irrefl 1
  rw [app_cons, if_neg hl, hd0_one, h]
theorem app_bits : ∀ (l : List Int) (p : Pen) (x : Nat) (b : List Row), (∀ n ∈ l, BitNum n) → p.f = x → app p (l.map one ++ b) = app { p with f := ((manyN l x : Nat) : Int) } b
  | [], p, x, b, _, hf => by
    have : ({ p with f := ((manyN [] x : Nat) : Int) } : Pen) = p := by
      cases p; simp only at hf; subst hf; rfl
    rw [this]; rfl
  | n :: l, p, x, b, h, hf => by
    rw [List.map_cons, List.cons_append, app_one (h n (.head _)).place, (h n (.head _)).plain, hf, bits_nat]
    rw [app_bits l _ (bitsN n x) b (fun m hm => h m (.tail _ hm)) rfl]
    rfl
theorem bitsOf_num {a b : Nat} (ha : a < 4096) : ∀ n ∈ bitsOf a b, BitNum n := by
  intro n hn
  rcases List.mem_append.mp hn with h | h
  · obtain ⟨i, hi, rfl⟩ := (clears_inv (b := b) ha).mem n h
    exact CB_num i hi
  · obtain ⟨i, hi, rfl, _⟩ := (sets_mem n).mp h
    exact SB_num i hi

structure RowG (r : Row) : Prop where
  ne : r ≠ []
  len : r.length ≤ 2
  all : ∀ o ∈ r, ∃ i : Int, o = some i ∧ 0 ≤ i ∧ i ≤ 65535
theorem RowG.one {n : Int} (h : 0 ≤ n ∧ n ≤ 65535) : RowG (one n) := ⟨by simp [Og.one], by simp [Og.one], fun o ho => ⟨n, by simpa [Og.one] using ho, h⟩⟩
theorem RowG.ok {r : Row} (h : RowG r) : RowOk r := by
  refine ⟨h.ne, by have := h.len; omega, fun _ o ho q => ?_, fun i hi => ?_⟩
  · obtain ⟨j, e, _⟩ := h.all o ho
    rw [q] at e; cases e
  · obtain ⟨j, e, h1, h2⟩ := h.all _ hi
    cases e
    omega
theorem rowsOk_of {rs : List Row} (h : ∀ r ∈ rs, RowG r) (hl : rs.length ≤ 10000) : RowsOk rs := by
  refine ⟨fun r hr => (h r hr).ok, fun i r r' _ h2 _ q => ?_, hl⟩
  have hr := h r' (List.mem_of_getElem? h2)
  cases r' with
  | nil => exact hr.ne rfl
  | cons o x =>
    obtain ⟨j, e, _⟩ := hr.all o (.head _)
    have q' : o = none := q
    rw [q'] at e; cases e
noncomputable def rowGB (r : Row) : Bool := !r.isEmpty && decide (r.length ≤ 2) && r.all fun o => match o with
  | none => false
  | some i => decide (0 ≤ i) && decide (i ≤ 65535)
theorem rowG_of {r : Row} (h : rowGB r = true) : RowG r := by
  unfold rowGB at h
  simp only [Bool.and_eq_true, decide_eq_true_eq, List.all_eq_true, Bool.not_eq_true', List.isEmpty_eq_false_iff] at h
  obtain ⟨⟨h1, h2⟩, h3⟩ := h
  refine ⟨h1, h2, fun o ho => ?_⟩
  have := h3 o ho
  cases o with
  | none => cases this
  | some i =>
    simp only [Bool.and_eq_true, decide_eq_true_eq] at this
    exact ⟨i, rfl, this⟩

noncomputable def cols7 : List Int := [-1, 1, 9, 77, 16843267, 16777216, 255]
theorem col_whole {k : Nat} {c : Int} (hk : k ∈ [1, 2, 3]) (hc : c ∈ cols7) : Whole (colPar k c) := by
  have h : ([1, 2, 3].all fun k => cols7.all fun c => wholeB 10 (colPar k c)) = true := by decide +kernel
  exact whole_of 10 _ (List.all_eq_true.mp (List.all_eq_true.mp h k hk) c hc)
theorem col_rowG {k : Nat} {c : Int} (hk : k ∈ [1, 2, 3]) (hc : c ∈ cols7) : ∀ r ∈ colPar k c, RowG r := by
  have h : ([1, 2, 3].all fun k => cols7.all fun c => (colPar k c).all rowGB) = true := by decide +kernel
  exact fun r hr => rowG_of (List.all_eq_true.mp (List.all_eq_true.mp (List.all_eq_true.mp h k hk) c hc) r hr)
noncomputable def sumLen (rs : List Row) : Nat := (rs.map List.length).sum
theorem col_sum {k : Nat} {c : Int} (hk : k ∈ [1, 2, 3]) (hc : c ∈ cols7) : sumLen (colPar k c) ≤ 5 := by
  have h : ([1, 2, 3].all fun k => cols7.all fun c => decide (sumLen (colPar k c) ≤ 5)) = true := by decide +kernel
  exact of_decide_eq_true (List.all_eq_true.mp (List.all_eq_true.mp h k hk) c hc)
theorem app_told {p : Pen} {n : Int} {k : Nat} (h : placeOf n = some k) (rest : List Row) : app p (one n :: rest) = app (withC p k (told rest).1) (rest.drop (told rest).2) := by
  have hl : ¬ 1 < (one n).length := Nat.lt_irrefl 1
  rw [app_cons, if_neg hl, hd0_one, h]
theorem app_col {p : Pen} {k : Nat} {c : Int} (hk : k ∈ [1, 2, 3]) (hc : c ∈ cols7) : app p (colPar k c) = p.set k c := by
  simp only [List.mem_cons, List.not_mem_nil, or_false] at hk
  simp only [cols7, List.mem_cons, List.not_mem_nil, or_false] at hc
  rcases hk with rfl | rfl | rfl <;> rcases hc with rfl | rfl | rfl | rfl | rfl | rfl | rfl
  · exact (app_one (n := 39) (by decide) []).trans (app_nil _)
  · exact (app_one (n := 31) (by decide) []).trans (app_nil _)
  · exact (app_one (n := 91) (by decide) []).trans (app_nil _)
  · exact (app_told (n := 38) (k := 1) (by decide) [one 5, one 77]).trans (app_nil _)
  · exact (app_told (n := 38) (k := 1) (by decide) [one 2, one 1, one 2, one 3]).trans (app_nil _)
  · exact (app_told (n := 38) (k := 1) (by decide) [one 2, one 0, one 0, one 0]).trans (app_nil _)
  · exact (app_told (n := 38) (k := 1) (by decide) [one 5, one 255]).trans (app_nil _)
  · exact (app_one (n := 49) (by decide) []).trans (app_nil _)
  · exact (app_one (n := 41) (by decide) []).trans (app_nil _)
  · exact (app_one (n := 101) (by decide) []).trans (app_nil _)
  · exact (app_told (n := 48) (k := 2) (by decide) [one 5, one 77]).trans (app_nil _)
  · exact (app_told (n := 48) (k := 2) (by decide) [one 2, one 1, one 2, one 3]).trans (app_nil _)
  · exact (app_told (n := 48) (k := 2) (by decide) [one 2, one 0, one 0, one 0]).trans (app_nil _)
  · exact (app_told (n := 48) (k := 2) (by decide) [one 5, one 255]).trans (app_nil _)
  · exact (app_one (n := 59) (by decide) []).trans (app_nil _)
  · exact (app_told (n := 58) (k := 3) (by decide) [one 5, one 1]).trans (app_nil _)
  · exact (app_told (n := 58) (k := 3) (by decide) [one 5, one 9]).trans (app_nil _)
  · exact (app_told (n := 58) (k := 3) (by decide) [one 5, one 77]).trans (app_nil _)
  · exact (app_told (n := 58) (k := 3) (by decide) [one 2, one 1, one 2, one 3]).trans (app_nil _)
  · exact (app_told (n := 58) (k := 3) (by decide) [one 2, one 0, one 0, one 0]).trans (app_nil _)
  · exact (app_told (n := 58) (k := 3) (by decide) [one 5, one 255]).trans (app_nil _)
end Og
namespace Og
open PySem PySem.Calls PySem.Spec PyProof.Rows

structure PenC (p : Pen) : Prop where
  f : ∃ x : Nat, p.f = (x : Int) ∧ x < 3072
  a : p.a ∈ cols7
  b : p.b ∈ cols7
  u : p.u ∈ cols7
theorem cols7_ok : ∀ c ∈ cols7, colOk c := by
  have h : ∀ c ∈ cols7, c = -1 ∨ (0 ≤ c ∧ c ≤ 255) ∨ 16777216 ≤ c := by decide
  exact h
theorem PenC.ok {p : Pen} (h : PenC p) : PenOk p := by
  obtain ⟨x, hx, hl⟩ := h.f
  exact ⟨by omega, cols7_ok _ h.a, cols7_ok _ h.b, cols7_ok _ h.u⟩
theorem plainPen_c (l : Int) : PenC (plainPen l) := ⟨⟨0, rfl, by decide⟩, .head _, .head _, .head _⟩

theorem bits_part {p q : Pen} (hp : PenC p) (hq : PenC q) : Whole (bitPar p.f q.f) ∧ (∀ r ∈ bitPar p.f q.f, RowG r) ∧ sumLen (bitPar p.f q.f) ≤ 9 ∧
    ∃ x y : Nat, p.f = x ∧ q.f = y ∧ x < 3072 ∧ y < 3072 ∧ app p (bitPar p.f q.f) = { p with f := ((y % 512 + 512 * (x / 512) : Nat) : Int) } := by
  obtain ⟨x, hx, hxl⟩ := hp.f
  obtain ⟨y, hy, hyl⟩ := hq.f
  rw [hx, hy, bitPar_nat]
  have hnum := bitsOf_num (a := x) (b := y) (by omega)
  have hlen := bitsOf_len (a := x) (b := y) (by omega)
  have happ := app_bits (bitsOf x y) p x [] hnum hx
  rw [List.append_nil, app_nil, bits_lead (by omega) (by omega)] at happ
  have hwhole : ∀ l : List Int, (∀ n ∈ l, BitNum n) → Whole (l.map one) := by
    intro l
    induction l with
    | nil => intro _; exact Whole.nil
    | cons n l ih =>
      intro h
      have h1 : freeRow (one n) = true := by
        unfold freeRow
        rw [hd0_one, (h n (.head _)).place]
        simp
      exact (Whole.free h1).append (ih fun m hm => h m (.tail _ hm))
  have hsum : ∀ l : List Int, sumLen (l.map one) = l.length := by
    intro l
    induction l with
    | nil => rfl
    | cons n l ih =>
      have : sumLen ((n :: l).map one) = 1 + sumLen (l.map one) := rfl
      rw [this, ih, List.length_cons]; omega
  refine ⟨hwhole _ hnum, fun r hr => ?_, by rw [hsum]; exact hlen, x, y, rfl, rfl, hxl, hyl, happ⟩
  obtain ⟨n, hn, rfl⟩ := List.mem_map.mp hr
  have := hnum n hn
  unfold BitNum at this
  exact RowG.one (by omega)

noncomputable def UnderOk (p : Pen) (z : Nat) (rs : List Row) (k : Nat) : Prop := Whole rs ∧ (∀ r ∈ rs, RowG r) ∧ sumLen rs ≤ 2 ∧ app p rs = { p with f := ((z % 512 + 512 * k : Nat) : Int) }
theorem under_one {p : Pen} {z : Nat} {r : Row} {k : Nat} (hw : freeRow r = true) (hg : rowGB r = true) (hl : r.length ≤ 2) (hz : z < 4096) (hf : p.f = (z : Int)) (ha : app p [r] = { p with f := underF p.f (k : Int) }) : UnderOk p z [r] k := by
  refine ⟨Whole.free hw, fun q hq => ?_, ?_, ?_⟩
  · rw [List.mem_singleton.mp hq]; exact rowG_of hg
  · show r.length + 0 ≤ 2
    omega
  · rw [ha, hf, underF_nat hz]
theorem app_two {p : Pen} (k : Int) : app p [[some 4, some k]] = subCh p 4 k [] := by
  have hl : 1 < ([some 4, some k] : Row).length := Nat.lt_succ_self 1
  rw [app_cons, if_pos hl, app_nil]
  rfl
theorem under_part {p : Pen} {z o k : Nat} (hf : p.f = (z : Int)) (hz : z < 4096) (ho : z / 512 = o) (hk : k ≤ 5) : UnderOk p z (underPar (o : Int) (k : Int)) k := by
  unfold underPar
  by_cases h : (o : Int) = (k : Int)
  · rw [if_pos h]
    refine ⟨Whole.nil, (fun r hr => nomatch hr), Nat.zero_le _, ?_⟩
    rw [app_nil]
    have : z % 512 + 512 * k = z := by omega
    rw [this, ← hf]
  · rw [if_neg h]
    have h6 : k = 0 ∨ k = 1 ∨ k = 2 ∨ k = 3 ∨ k = 4 ∨ k = 5 := (by decide : ∀ k < 6, k = 0 ∨ k = 1 ∨ k = 2 ∨ k = 3 ∨ k = 4 ∨ k = 5) k (Nat.lt_succ_of_le hk)
    rcases h6 with rfl | rfl | rfl | rfl | rfl | rfl
    · exact under_one (r := one 24) (by decide) (by decide) (by decide) hz hf ((app_one (n := 24) (by decide) []).trans (app_nil _))
    · exact under_one (r := one 4) (by decide) (by decide) (by decide) hz hf ((app_one (n := 4) (by decide) []).trans (app_nil _))
    · exact under_one (r := one 21) (by decide) (by decide) (by decide) hz hf ((app_one (n := 21) (by decide) []).trans (app_nil _))
    · exact under_one (r := [some 4, some 3]) (by decide) (by decide) (by decide) hz hf (app_two 3)
    · exact under_one (r := [some 4, some 4]) (by decide) (by decide) (by decide) hz hf (app_two 4)
    · exact under_one (r := [some 4, some 5]) (by decide) (by decide) (by decide) hz hf (app_two 5)

theorem colIf_part (p : Pen) {old new : Pen} {k : Nat} (hk : k ∈ [1, 2, 3]) (hc : new.get k ∈ cols7) (he : p.get k = old.get k) :
    Whole (colIf old new k) ∧ (∀ r ∈ colIf old new k, RowG r) ∧ sumLen (colIf old new k) ≤ 5 ∧ app p (colIf old new k) = p.set k (new.get k) := by
  unfold colIf
  by_cases h : old.get k ≠ new.get k
  · rw [if_pos h]
    exact ⟨col_whole hk hc, col_rowG hk hc, col_sum hk hc, app_col hk hc⟩
  · rw [if_neg h]
    refine ⟨Whole.nil, (fun r hr => nomatch hr), Nat.zero_le _, ?_⟩
    rw [app_nil]
    have : new.get k = p.get k := by rw [he]; exact (Classical.not_not.mp h).symm
    rw [this]
    simp only [List.mem_cons, List.not_mem_nil, or_false] at hk
    rcases hk with rfl | rfl | rfl <;> cases p <;> rfl

theorem sumLen_append (a b : List Row) : sumLen (a ++ b) = sumLen a + sumLen b := by simp [sumLen]
theorem mem_app {α : Type} {P : α → Prop} {a b : List α} (ha : ∀ r ∈ a, P r) (hb : ∀ r ∈ b, P r) : ∀ r ∈ a ++ b, P r := fun r hr => by
  rcases List.mem_append.mp hr with h | h
  · exact ha r h
  · exact hb r h

theorem changes_part {p q : Pen} (hp : PenC p) (hq : PenC q) : Whole (changesP p q) ∧ (∀ r ∈ changesP p q, RowG r) ∧ sumLen (changesP p q) ≤ 26 ∧ app p (changesP p q) = q.link p.l := by
  obtain ⟨w1, g1, s1, x, y, hx, hy, hxl, hyl, a1⟩ := bits_part hp hq
  have hu : underPar (underOf p.f) (underOf q.f) = underPar ((x / 512 : Nat) : Int) ((y / 512 : Nat) : Int) := by
    rw [hx, hy, underOf_nat (by omega), underOf_nat (by omega)]
  obtain ⟨w2, g2, s2, a2⟩ := under_part (p := { p with f := ((y % 512 + 512 * (x / 512) : Nat) : Int) }) (z := y % 512 + 512 * (x / 512)) (o := x / 512) (k := y / 512) rfl (by omega) (by omega) (by omega)
  have hfin : (y % 512 + 512 * (x / 512)) % 512 + 512 * (y / 512) = y := by omega
  rw [hfin] at a2
  rw [← hu] at w2 g2 s2 a2
  obtain ⟨w3, g3, s3, a3⟩ := colIf_part { p with f := ((y : Nat) : Int) } (old := p) (new := q) (k := 1) (by decide) hq.a rfl
  obtain ⟨w4, g4, s4, a4⟩ := colIf_part { p with f := ((y : Nat) : Int), a := q.a } (old := p) (new := q) (k := 2) (by decide) hq.b rfl
  obtain ⟨w5, g5, s5, a5⟩ := colIf_part { p with f := ((y : Nat) : Int), a := q.a, b := q.b } (old := p) (new := q) (k := 3) (by decide) hq.u rfl
  have hc : changesP p q = (((bitPar p.f q.f ++ underPar (underOf p.f) (underOf q.f)) ++ colIf p q 1) ++ colIf p q 2) ++ colIf p q 3 := rfl
  rw [hc]
  have W2 := w1.append w2
  have W3 := W2.append w3
  have W4 := W3.append w4
  refine ⟨W4.append w5, mem_app (mem_app (mem_app (mem_app g1 g2) g3) g4) g5, ?_, ?_⟩
  · rw [sumLen_append, sumLen_append, sumLen_append, sumLen_append]; omega
  · rw [W4.eff, W3.eff, W2.eff, w1.eff, a1, a2]
    have e3 : ({ p with f := ((y : Nat) : Int) } : Pen).set 1 (q.get 1) = { p with f := ((y : Nat) : Int), a := q.a } := rfl
    have e4 : ({ p with f := ((y : Nat) : Int), a := q.a } : Pen).set 2 (q.get 2) = { p with f := ((y : Nat) : Int), a := q.a, b := q.b } := rfl
    have e5 : ({ p with f := ((y : Nat) : Int), a := q.a, b := q.b } : Pen).set 3 (q.get 3) = { p with f := ((y : Nat) : Int), a := q.a, b := q.b, u := q.u } := rfl
    rw [a3, e3, a4, e4, a5, e5, ← hy]
    rfl
theorem app_zero (p : Pen) (b : List Row) : app p (one 0 :: b) = app (plainPen p.l) b := app_one (n := 0) (by decide) b
theorem anew_part {p q : Pen} (hq : PenC q) : Whole (one 0 :: changesP (plainPen 0) q) ∧ (∀ r ∈ one 0 :: changesP (plainPen 0) q, RowG r) ∧ sumLen (one 0 :: changesP (plainPen 0) q) ≤ 27 ∧ app p (one 0 :: changesP (plainPen 0) q) = q.link p.l := by
  obtain ⟨w1, g1, s1, -⟩ := changes_part (plainPen_c 0) hq
  have a1 := (changes_part (plainPen_c p.l) hq).2.2.2
  refine ⟨(Whole.free (r := one 0) (by decide)).append w1, fun r hr => ?_, ?_, ?_⟩
  · rcases List.mem_cons.mp hr with rfl | hr
    · exact RowG.one (by omega)
    · exact g1 r hr
  · show 1 + sumLen (changesP (plainPen 0) q) ≤ 27
    omega
  · rw [app_zero]
    exact a1
end Og
namespace Og
open PySem PySem.Calls PySem.Spec PyProof.Rows

theorem octs_append (a b : List UInt8) : octs (a ++ b) = octs a ++ octs b := by simp [octs]
theorem octs_arr : ∀ (ns : List Int), (∀ n ∈ ns, 0 ≤ n ∧ n < 256) → octs (byteArr ns).toList = ns
  | [], _ => rfl
  | n :: ns, h => by
    have h1 := octs_arr ns fun m hm => h m (.tail _ hm)
    have h2 := h n (.head _)
    have e : octs (byteArr (n :: ns)).toList = ((n.toNat.toUInt8).toNat : Int) :: octs (byteArr ns).toList := by simp [octs, byteArr]
    rw [e, h1]
    congr 1
    have : n.toNat.toUInt8.toNat = n.toNat := by
      rw [Nat.toUInt8_eq, UInt8.toNat_ofNat', Nat.mod_eq_of_lt (by omega)]
    rw [this]; omega
theorem octs_dec (n : Nat) : octs (decB n).toList = (digs n).reverse := octs_arr _ fun m hm => digs_range n m (List.mem_reverse.mp hm)
theorem runP_append (r : Rd) (a b : List Int) : runP r (a ++ b) = runP (runP r a) b := by simp [runP]
theorem runP_one (r : Rd) (o : Int) : runP r [o] = putP r o := rfl
theorem run_digs (f : List Row) (ps : Row) : ∀ (n : Nat) (b : Bool), n ≤ 65535 → runP ⟨f, ps, none, b⟩ (digs n).reverse = ⟨f, ps, some (n : Int), true⟩ := by
  intro n
  induction n using Nat.strongRecOn with
  | ind n ih =>
    intro b hn
    rw [digs_eq]
    by_cases h : 0 < n / 10
    · rw [if_pos h, List.reverse_cons, runP_append, ih (n / 10) (by omega) b (by omega), runP_one]
      unfold putP
      rw [if_pos (by omega)]
      simp only [num0, Option.getD_some]
      congr 2
      omega
    · rw [if_neg h]
      show putP ⟨f, ps, none, b⟩ (48 + (n : Int) % 10) = _
      unfold putP
      rw [if_pos (by omega)]
      simp only [num0, Option.getD_none]
      congr 2
      omega
theorem run_part {o : Option Int} (h : ∃ i : Int, o = some i ∧ 0 ≤ i ∧ i ≤ 65535) (f : List Row) (ps : Row) (b : Bool) : runP ⟨f, ps, none, b⟩ (octs (partB o)) = ⟨f, ps, o, true⟩ := by
  obtain ⟨i, rfl, h1, h2⟩ := h
  show runP _ (octs (decB i.toNat).toList) = _
  rw [octs_dec, run_digs f ps i.toNat b (by omega)]
  congr 2
  omega
theorem rowB_cons (o o' : Option Int) (r : Row) : rowB (o :: o' :: r) = partB o ++ ([58] ++ rowB (o' :: r)) := rfl
theorem paramsB_cons (r r' : Row) (rs : List Row) : paramsB (r :: r' :: rs) = rowB r ++ ([59] ++ paramsB (r' :: rs)) := rfl
theorem run_row (f : List Row) : ∀ (r : Row) (ps : Row) (b : Bool), r ≠ [] → (∀ o ∈ r, ∃ i : Int, o = some i ∧ 0 ≤ i ∧ i ≤ 65535) →
    ∃ ps' v, runP ⟨f, ps, none, b⟩ (octs (rowB r)) = ⟨f, ps', v, true⟩ ∧ ps' ++ [v] = ps ++ r
  | [], _, _, h, _ => absurd rfl h
  | [o], ps, b, _, h => ⟨ps, o, run_part (h o (.head _)) f ps b, rfl⟩
  | o :: o' :: r, ps, b, _, h => by
    obtain ⟨ps', v, h1, h2⟩ := run_row f (o' :: r) (ps ++ [o]) true (by simp) fun x hx => h x (.tail _ hx)
    refine ⟨ps', v, ?_, by rw [h2, List.append_assoc]; rfl⟩
    rw [rowB_cons, octs_append, octs_append, runP_append, runP_append, run_part (h o (.head _)) f ps b]
    exact h1
theorem run_rows : ∀ (rs f : List Row) (b : Bool), rs ≠ [] → (∀ r ∈ rs, RowG r) →
    ∃ R, runP ⟨f, [], none, b⟩ (octs (paramsB rs)) = R ∧ doneP R = f ++ rs ∧ R.begun = true
  | [], _, _, h, _ => absurd rfl h
  | [r], f, b, _, h => by
    have hr := h r (.head _)
    obtain ⟨ps, v, h1, h2⟩ := run_row f r [] b hr.ne hr.all
    refine ⟨_, h1, ?_, rfl⟩
    show f ++ [ps ++ [v]] = f ++ [r]
    rw [h2]; rfl
  | r :: r' :: rs, f, b, _, h => by
    have hr := h r (.head _)
    obtain ⟨ps, v, h1, h2⟩ := run_row f r [] b hr.ne hr.all
    obtain ⟨R, k1, k2, k3⟩ := run_rows (r' :: rs) (f ++ [r]) true (by simp) fun x hx => h x (.tail _ hx)
    refine ⟨R, ?_, by rw [k2, List.append_assoc]; rfl, k3⟩
    rw [paramsB_cons, octs_append, octs_append, runP_append, runP_append, h1]
    have e : runP ⟨f, ps, v, true⟩ (octs [59]) = ⟨f ++ [r], [], none, true⟩ := by
      show Rd.mk (f ++ [ps ++ [v]]) [] none true = _
      rw [h2]; rfl
    rw [e]
    exact k1
theorem readP_params {rs : List Row} (h : ∀ r ∈ rs, RowG r) : readP (paramsB rs) = rs := by
  cases hrs : rs with
  | nil => rfl
  | cons r rs' =>
    rw [← hrs]
    obtain ⟨R, k1, k2, k3⟩ := run_rows rs [] false (by rw [hrs]; simp) h
    show outP (runP rd0 (octs (paramsB rs))) = rs
    have : runP rd0 (octs (paramsB rs)) = R := k1
    rw [this]
    unfold outP
    rw [if_pos k3, k2]; rfl
theorem paramsB_pos {rs : List Row} (h : ∀ r ∈ rs, RowG r) (hne : rs ≠ []) : 0 < (paramsB rs).length := by
  cases hb : paramsB rs with
  | nil =>
    have := readP_params h
    rw [hb] at this
    exact absurd this.symm hne
  | cons a b => simp

noncomputable def isSep (o : Int) : Bool := !(decide (48 ≤ o) && decide (o ≤ 57))
noncomputable def seps (l : List Int) : Nat := l.countP isSep
theorem seps_append (a b : List Int) : seps (a ++ b) = seps a + seps b := List.countP_append
theorem seps_take (l : List Int) (k : Nat) : seps (l.take k) ≤ seps l := (List.take_sublist k l).countP_le
theorem run_small : ∀ (l : List Int) (r : Rd) (m : Nat), r.parts.length ≤ m → r.found.length ≤ m → (∀ q ∈ r.found, q.length ≤ m + 1) →
    (runP r l).parts.length ≤ m + seps l ∧ (runP r l).found.length ≤ m + seps l ∧ ∀ q ∈ (runP r l).found, q.length ≤ m + seps l + 1
  | [], r, m, h1, h2, h3 => ⟨h1, h2, h3⟩
  | o :: l, r, m, h1, h2, h3 => by
    have e : seps (o :: l) = seps l + if isSep o = true then 1 else 0 := List.countP_cons
    show (runP (putP r o) l).parts.length ≤ _ ∧ (runP (putP r o) l).found.length ≤ _ ∧ ∀ q ∈ (runP (putP r o) l).found, q.length ≤ _
    by_cases hd : 48 ≤ o ∧ o ≤ 57
    · have hp : (putP r o).parts = r.parts ∧ (putP r o).found = r.found := by unfold putP; rw [if_pos hd]; exact ⟨rfl, rfl⟩
      have hs : isSep o = false := by unfold isSep; simp [hd]
      have := run_small l (putP r o) m (by rw [hp.1]; exact h1) (by rw [hp.2]; exact h2) (by rw [hp.2]; exact h3)
      rw [e, hs]
      exact this
    · have hs : isSep o = true := by
        unfold isSep
        by_cases q : 48 ≤ o
        · simp only [q, decide_true, Bool.true_and, Bool.not_eq_true', decide_eq_false_iff_not]; omega
        · simp [q]
      have := run_small l (putP r o) (m + 1) ?_ ?_ ?_
      · rw [e, hs]
        simp only [if_true]
        have e2 : m + 1 + seps l = m + (seps l + 1) := by omega
        rw [e2] at this
        exact this
      · unfold putP; rw [if_neg hd]; split
        · simp only [List.length_append, List.length_singleton]; omega
        · simp
      · unfold putP; rw [if_neg hd]; split
        · simp only; omega
        · simp only [List.length_append, List.length_singleton]; omega
      · unfold putP; rw [if_neg hd]; split
        · intro q hq; have := h3 q hq; omega
        · intro q hq
          rcases List.mem_append.mp hq with hq | hq
          · have := h3 q hq; omega
          · rw [List.mem_singleton.mp hq]
            simp only [List.length_append, List.length_singleton]; omega
theorem digs_dig (n : Nat) : ∀ x ∈ digs n, 48 ≤ x ∧ x ≤ 57 := by
  induction n using Nat.strongRecOn with
  | ind n ih =>
    intro x hx
    rw [digs_eq] at hx
    rcases List.mem_cons.mp hx with rfl | hx
    · omega
    · split at hx
      · exact ih _ (by omega) x hx
      · cases hx
theorem part_oct {o : Option Int} : ∀ c ∈ octs (partB o), 48 ≤ c ∧ c ≤ 57 := by
  cases o with
  | none => intro c hc; cases hc
  | some i =>
    intro c hc
    have : c ∈ octs (decB i.toNat).toList := hc
    rw [octs_dec] at this
    exact digs_dig _ c (List.mem_reverse.mp this)
theorem seps_part {o : Option Int} : seps (octs (partB o)) = 0 := by
  refine List.countP_eq_zero.mpr fun c hc => ?_
  have := part_oct c hc
  unfold isSep
  simp [this]
theorem seps_row : ∀ (r : Row), r ≠ [] → seps (octs (rowB r)) + 1 ≤ r.length ∧ ∀ c ∈ octs (rowB r), 48 ≤ c ∧ c ≤ 59
  | [], h => absurd rfl h
  | [o], _ => ⟨by show seps (octs (partB o)) + 1 ≤ 1; rw [seps_part]; exact Nat.le_refl _, fun c hc => by have := part_oct (o := o) c hc; omega⟩
  | o :: o' :: r, _ => by
    have h1 := seps_row (o' :: r) (by simp)
    rw [rowB_cons, octs_append, octs_append, seps_append, seps_append, seps_part]
    have h2 : seps (octs [58]) = 1 := by decide
    refine ⟨by have := h1.1; simp only [List.length_cons] at *; omega, mem_app (fun c hc => ?_) (mem_app (fun c hc => ?_) h1.2)⟩
    · have := part_oct c hc; omega
    · have : c = 58 := by simpa [octs] using hc
      omega
theorem seps_rows : ∀ (rs : List Row), rs ≠ [] → (∀ r ∈ rs, RowG r) → seps (octs (paramsB rs)) + 1 ≤ sumLen rs ∧ ∀ c ∈ octs (paramsB rs), 48 ≤ c ∧ c ≤ 59
  | [], h, _ => absurd rfl h
  | [r], _, h => by
    have := seps_row r (h r (.head _)).ne
    exact ⟨this.1, this.2⟩
  | r :: r' :: rs, _, h => by
    have h0 := seps_row r (h r (.head _)).ne
    have h1 := seps_rows (r' :: rs) (by simp) fun x hx => h x (.tail _ hx)
    rw [paramsB_cons, octs_append, octs_append, seps_append, seps_append]
    have h2 : seps (octs [59]) = 1 := by decide
    have h3 : sumLen (r :: r' :: rs) = r.length + sumLen (r' :: rs) := rfl
    refine ⟨by have a := h0.1; have b := h1.1; omega, mem_app h0.2 (mem_app (fun c hc => ?_) h1.2)⟩
    have : c = 59 := by simpa [octs] using hc
    omega
theorem readOk_params {rs : List Row} (h : ∀ r ∈ rs, RowG r) (hs : sumLen rs ≤ 30) : ReadOk (paramsB rs) := by
  have hb : seps (octs (paramsB rs)) ≤ 30 ∧ ∀ c ∈ octs (paramsB rs), 48 ≤ c ∧ c ≤ 59 := by
    cases hrs : rs with
    | nil => exact ⟨by decide, fun c hc => nomatch hc⟩
    | cons r rs' =>
      rw [← hrs]
      have := seps_rows rs (by rw [hrs]; simp) h
      exact ⟨by have := this.1; omega, this.2⟩
  refine ⟨hb.2, fun k => ?_⟩
  have h1 := seps_take (octs (paramsB rs)) k
  have h2 := run_small ((octs (paramsB rs)).take k) rd0 0 (Nat.le_refl _) (Nat.le_refl _) (fun q hq => nomatch hq)
  exact ⟨by omega, by omega, fun q hq => by have := h2.2.2 q hq; omega⟩
end Og
namespace Og
open PySem PySem.Calls PySem.Spec PyProof.Rows

theorem link_told {p q : Pen} (h : toldPen p = toldPen q) : p.link q.l = q := by
  cases p; cases q
  unfold toldPen at h
  simp at h
  simp [Pen.link, h]
theorem link_same (p : Pen) : p.link p.l = p := rfl
theorem told_of_link {p q : Pen} {l m : Int} (h : p.link l = q.link m) : toldPen p = toldPen q := by
  cases p; cases q
  simp [Pen.link] at h
  simp [toldPen, h]
theorem told_plain (l : Int) : toldPen (plainPen l) = plainPen 0 := rfl

structure Chosen (p q : Pen) (rs : List Row) : Prop where
  rows : ∀ r ∈ rs, RowG r
  sum : sumLen rs ≤ 30
  whole : Whole rs
  empty : rs = [] → toldPen q = plainPen 0
  back : toldPen q = plainPen 0 → rs = []
  app : rs ≠ [] → app p rs = q.link p.l
theorem changes_ne {p q : Pen} (hp : PenC p) (hq : PenC q) (h : toldPen p ≠ toldPen q) : changesP p q ≠ [] := fun e => by
  have := (changes_part hp hq).2.2.2
  rw [e, app_nil, ← link_same p] at this
  exact h (told_of_link this)
theorem plain_changes {q : Pen} (hq : PenC q) : changesP (plainPen 0) q = [] ↔ toldPen q = plainPen 0 := by
  constructor
  · intro e
    exact Classical.byContradiction fun n => changes_ne (plainPen_c 0) hq (fun z => n z.symm) e
  · intro e
    have : changesP (plainPen 0) q = changesP (plainPen 0) (toldPen q) := rfl
    rw [this, e]
    decide
theorem chosen_part {p q : Pen} (hp : PenC p) (hq : PenC q) (h : toldPen p ≠ toldPen q) : Chosen p q (chosen (toldPen p) (toldPen q)) := by
  have e1 : changesP (toldPen p) (toldPen q) = changesP p q := rfl
  have e2 : anewP (toldPen q) = if changesP (plainPen 0) q = [] then [] else one 0 :: changesP (plainPen 0) q := rfl
  have hne := changes_ne hp hq h
  obtain ⟨w1, g1, s1, a1⟩ := changes_part hp hq
  obtain ⟨w2, g2, s2, a2⟩ := anew_part (p := p) hq
  have hpos := paramsB_pos g1 hne
  unfold chosen
  rw [e1, e2]
  by_cases hpl : changesP (plainPen 0) q = []
  · have hq0 := (plain_changes hq).mp hpl
    rw [if_pos hpl, if_neg (by show ¬ _ ≤ 0; omega)]
    exact ⟨(fun r hr => nomatch hr), Nat.zero_le _, Whole.nil, fun _ => hq0, fun _ => rfl, fun n => absurd rfl n⟩
  · have hq0 : toldPen q ≠ plainPen 0 := fun z => hpl ((plain_changes hq).mpr z)
    rw [if_neg hpl]
    split
    · exact ⟨g1, by omega, w1, fun z => absurd z hne, fun z => absurd z hq0, fun _ => a1⟩
    · exact ⟨g2, by omega, w2, (fun z => nomatch z), fun z => absurd z hq0, fun _ => a2⟩
theorem sgrP_some {p q : Pen} {rs : List Row} (hp : PenC p) (hq : PenC q) (h : sgrP p q = some rs) : Chosen p q rs := by
  unfold sgrP at h
  split at h
  · cases h
  · rename_i n
    cases h
    exact chosen_part hp hq n
theorem sumLen_len {rs : List Row} (h : ∀ r ∈ rs, RowG r) : rs.length ≤ sumLen rs := by
  induction rs with
  | nil => exact Nat.le_refl _
  | cons r rs ih =>
    have h1 := ih fun x hx => h x (.tail _ hx)
    have h2 : 0 < r.length := List.length_pos_iff.mpr (h r (.head _)).ne
    have h3 : sumLen (r :: rs) = r.length + sumLen rs := rfl
    rw [List.length_cons]; omega
theorem Chosen.rowsOk {p q : Pen} {rs : List Row} (h : Chosen p q rs) : RowsOk rs := rowsOk_of h.rows (by have := sumLen_len h.rows; have := h.sum; omega)
theorem app_plain {p q : Pen} (h : toldPen q = plainPen 0) : app p [[none]] = q.link p.l := by
  rw [app_reset]
  have e : q.link p.l = (toldPen q).link p.l := rfl
  rw [e, h]; rfl

theorem step_law {p q : Pen} {cd : Bool} (hp : PenC p) (hq : PenC q) (hl : p.l = q.l) (h1 : canTell cd p) (h2 : canTell cd q) : StepLaw p q cd := by
  refine ⟨hp.ok, hq.ok, h1, h2, fun rs h => ?_, fun rs h => ?_, fun rs h => ?_, fun rs h => ?_⟩
  · have C := sgrP_some hp hq h
    exact ⟨C.empty, C.back⟩
  · have C := sgrP_some hp hq h
    exact ⟨readOk_params C.rows C.sum, readP_params C.rows⟩
  · exact (sgrP_some hp hq h).rowsOk
  · have C := sgrP_some hp hq h
    have e : q.link p.l = q := by rw [hl]; rfl
    unfold orOne
    by_cases hn : rs = []
    · rw [if_pos hn, app_plain (C.empty hn), e]
    · rw [if_neg hn, C.app hn, e]
theorem stepR_part {p q : Pen} (hp : PenC p) (hq : PenC q) (hl : p.l = q.l) : Whole (stepR p q) ∧ (∀ r ∈ stepR p q, RowG r) ∧ (stepR p q).length ≤ 40 ∧ app p (stepR p q) = q := by
  have e : q.link p.l = q := by rw [hl]; rfl
  unfold stepR
  cases h : sgrP p q with
  | none =>
    refine ⟨Whole.nil, (fun r hr => nomatch hr), Nat.zero_le _, ?_⟩
    show app p [] = q
    rw [app_nil]
    unfold sgrP at h
    split at h
    · rename_i z
      rw [← link_told z, ← hl]; rfl
    · cases h
  | some rs =>
    have C := sgrP_some hp hq h
    by_cases hn : rs = []
    · simp only [hn, if_true]
      refine ⟨Whole.free (by decide), (fun r hr => ?_), by decide, ?_⟩
      · rw [List.mem_singleton.mp hr]; exact RowG.one (by omega)
      · have h1 : app p [one 0] = plainPen p.l := (app_zero p []).trans (app_nil _)
        have h2 := app_plain (p := p) (C.empty hn)
        rw [app_reset] at h2
        rw [h1, h2, e]
    · simp only [hn, if_false]
      exact ⟨C.whole, C.rows, by have := sumLen_len C.rows; have := C.sum; omega, by rw [C.app hn, e]⟩

theorem fold_app (f : Pen × Pen → List Row) : ∀ (l : List (Pen × Pen)) (a : List Row), l.foldl (fun acc x => acc ++ f x) a = a ++ l.foldl (fun acc x => acc ++ f x) []
  | [], a => by simp
  | x :: l, a => by
    rw [List.foldl_cons, List.foldl_cons, fold_app f l (a ++ f x), fold_app f l ([] ++ f x)]
    simp
theorem chainR_cons (p q : Pen) (ps : List Pen) : chainR (p :: q :: ps) = stepR p q ++ chainR (q :: ps) := by
  unfold chainR pairs
  simp only [List.drop_succ_cons, List.drop_zero, List.zip_cons_cons, List.foldl_cons, List.nil_append]
  exact fold_app _ _ _
theorem chain_part (l : Int) : ∀ (ps : List Pen) (p : Pen), (∀ x ∈ p :: ps, PenC x ∧ x.l = l) → (∀ r ∈ chainR (p :: ps), RowG r) ∧ (chainR (p :: ps)).length ≤ 40 * ps.length ∧ app p (chainR (p :: ps)) = (p :: ps).getLastD (plainPen 0) ∧
    ∀ x ∈ pairs (p :: ps), (PenC x.1 ∧ x.1.l = l) ∧ PenC x.2 ∧ x.2.l = l
  | [], p, _ => ⟨(fun r hr => nomatch hr), Nat.le_refl _, app_nil p, fun x hx => nomatch hx⟩
  | q :: ps, p, h => by
    have hp := h p (.head _)
    have hq := h q (.tail _ (.head _))
    obtain ⟨w1, g1, l1, a1⟩ := stepR_part hp.1 hq.1 (hp.2.trans hq.2.symm)
    obtain ⟨g2, l2, a2, s2⟩ := chain_part l ps q fun x hx => h x (.tail _ hx)
    rw [chainR_cons]
    refine ⟨mem_app g1 g2, ?_, ?_, fun x hx => ?_⟩
    · rw [List.length_append, List.length_cons]; omega
    · rw [w1.eff, a1, a2]; rfl
    · have hx' : x ∈ (p, q) :: pairs (q :: ps) := hx
      rcases List.mem_cons.mp hx' with rfl | hx'
      · exact ⟨hp, hq⟩
      · exact s2 x hx'
theorem chain_law {ps : List Pen} {cd : Bool} {l : Int} (hne : ps ≠ []) (hlen : ps.length ≤ 50) (h : ∀ x ∈ ps, PenC x ∧ x.l = l) (ht : ∀ x ∈ ps, canTell cd x) : ChainLaw ps cd := by
  cases ps with
  | nil => exact absurd rfl hne
  | cons p ps =>
    obtain ⟨g, hl, ha, hs⟩ := chain_part l ps p h
    rw [List.length_cons] at hlen
    refine ⟨hne, by rw [List.length_cons]; omega, fun x hx => ?_, fun _ => rowsOk_of g (by omega), fun _ => ha⟩
    have hx2 := hs x hx
    have hm : x.1 ∈ p :: ps ∧ x.2 ∈ p :: ps := by
      have := List.of_mem_zip (a := x.1) (b := x.2) (show (x.1, x.2) ∈ (p :: ps).zip ((p :: ps).drop 1) from hx)
      exact ⟨this.1, List.mem_of_mem_drop this.2⟩
    exact step_law hx2.1.1 hx2.2.1 (hx2.1.2.trans hx2.2.2.symm) (ht _ hm.1) (ht _ hm.2)

theorem told_law {ps : List Pen} (hlen : ps.length ≤ 1000) (h : ∀ x ∈ ps, PenC x) : ToldLaw ps := by
  have key : ∀ p ∈ ps, penB p = paramsB (one 0 :: changesP (plainPen 0) p) ∧ readP (penB p) = one 0 :: changesP (plainPen 0) p := fun p hp => by
    obtain ⟨w2, g2, s2, a2⟩ := anew_part (p := p) (h p hp)
    have e : penB p = paramsB (one 0 :: changesP (plainPen 0) p) := rfl
    exact ⟨e, by rw [e]; exact readP_params g2⟩
  refine ⟨hlen, fun p hp => (h p hp).ok, fun p hp => ?_, fun p hp => ?_, fun p hp q hq => ?_, fun p hp q hq => ?_⟩
  · obtain ⟨w2, g2, s2, a2⟩ := anew_part (p := p) (h p hp)
    rw [(key p hp).1]
    exact readOk_params g2 (by omega)
  · obtain ⟨w2, g2, s2, a2⟩ := anew_part (p := p) (h p hp)
    rw [(key p hp).2]
    exact rowsOk_of g2 (by have := sumLen_len g2; omega)
  · obtain ⟨w2, g2, s2, a2⟩ := anew_part (p := q.link 7) (h p hp)
    rw [(key p hp).2]
    unfold orOne
    rw [if_neg (by simp)]
    exact a2
  · constructor
    · intro e
      have h1 := (key p hp).2
      have h2 := (key q hq).2
      rw [e, h1] at h2
      have a1 := (anew_part (p := plainPen 0) (h p hp)).2.2.2
      have a2 := (anew_part (p := plainPen 0) (h q hq)).2.2.2
      rw [h2, a2] at a1
      exact (told_of_link a1).symm
    · intro e
      show paramsB (one 0 :: changesP (plainPen 0) (toldPen q)) = paramsB (one 0 :: changesP (plainPen 0) (toldPen p))
      rw [e]
end Og
namespace Og
open PySem PySem.Calls PySem.Spec PyProof.Rows

theorem getD_mem {α : Type} {l : List α} {n : Nat} {x : α} (h : n < l.length) : l.getD n x ∈ l := by
  rw [List.getD_eq_getElem?_getD, List.getElem?_eq_getElem h]
  exact List.getElem_mem h
theorem pick_mem {k : Dk} {cols : List Int} {i : Nat} (h : DkOk k) (hc : cols ≠ []) : pick k cols i ∈ cols := by
  have hl := List.length_pos_iff.mpr hc
  have := (drawP_ok (iterDk_ok h (m := cols.length) (by omega) i) (m := cols.length) (by omega)).1
  exact getD_mem (by omega)
structure PenIn (cols : List Int) (l : Int) (p : Pen) : Prop where
  c : PenC p
  l : p.l = l
  a : p.a ∈ cols
  b : p.b ∈ cols
  u : p.u ∈ cols
theorem penR_in {k : Dk} {link : Int} {cols : List Int} (h : DkOk k) (h1 : (-1 : Int) ∈ cols) (h6 : ∀ c ∈ cols, c ∈ cols7) : PenIn cols link (penR k link cols).1 := by
  have hc : cols ≠ [] := List.ne_nil_of_mem h1
  unfold penR
  simp only
  split
  · exact ⟨plainPen_c link, rfl, h1, h1, h1⟩
  · have d0 := drawP_ok h (m := 4) (by decide)
    have d1 := drawP_ok d0.2 (m := 512) (by decide)
    have d2 := drawP_ok d1.2 (m := 6) (by decide)
    have p0 := pick_mem (i := 0) d2.2 hc
    have p1 := pick_mem (i := 1) d2.2 hc
    have p2 := pick_mem (i := 2) d2.2 hc
    refine ⟨⟨⟨((drawP (drawP k 4).2 512).1 + 512 * (drawP (drawP (drawP k 4).2 512).2 6).1).toNat, ?_, ?_⟩, h6 _ p0, h6 _ p1, h6 _ p2⟩, rfl, p0, p1, p2⟩
    · show (drawP (drawP k 4).2 512).1 + 512 * (drawP (drawP (drawP k 4).2 512).2 6).1 = _
      omega
    · omega
theorem pensOf_in {k : Dk} {link : Int} {cols : List Int} (h : DkOk k) (h1 : (-1 : Int) ∈ cols) (h6 : ∀ c ∈ cols, c ∈ cols7) (m : Nat) : ∀ p ∈ pensOf k link cols m, PenIn cols link p := by
  intro p hp
  obtain ⟨i, hi, rfl⟩ := List.mem_map.mp hp
  exact penR_in (penIt_ok h (List.ne_nil_of_mem h1) i) h1 h6
theorem pensOf_len (k : Dk) (link : Int) (cols : List Int) (m : Nat) : (pensOf k link cols m).length = m := by simp [pensOf]
theorem six_in : ∀ c ∈ cols6, c ∈ cols7 := by decide
theorem few_in : ∀ c ∈ few, c ∈ cols7 ∧ (c < 16777216) := by decide

theorem rowsAt_mem {k : Dk} (h : DkOk k) (i : Nat) : rowsAt k i ∈ lots := by
  have := (drawP_ok (iterDk_ok h (m := 36) (by decide) i) (m := 36) (by decide)).1
  have hl : lots.length = 36 := rfl
  exact getD_mem (by omega)
theorem stepW_fold (p0 : Pen) : ∀ (l : List (List Row)) (p : Pen) (acc : List Row), (∀ r ∈ l, r ∈ lots) → Whole acc → RowsC acc → acc.length + 5 * l.length ≤ 1000 → app p0 acc = p →
    let st := l.foldl stepW (p, acc)
    Whole st.2 ∧ RowsC st.2 ∧ app p0 st.2 = st.1 ∧ acc.length ≤ st.2.length
  | [], p, acc, _, w, c, _, a => ⟨w, c, a, Nat.le_refl _⟩
  | r :: l, p, acc, h, w, c, hl, a => by
    have hr := h r (.head _)
    have hs := lots_small r hr
    rw [List.length_cons] at hl
    have e : orOne r = r := by unfold orOne; rw [if_neg hs.2]
    have := stepW_fold p0 l (app p (orOne r)) (acc ++ r) (fun x hx => h x (.tail _ hx)) (w.append (lots_whole r hr)) (c.append (lots_rows r hr) (by have := hs.1; omega)) (by rw [List.length_append]; have := hs.1; omega) (by rw [w.eff, a, e])
    refine ⟨this.1, this.2.1, this.2.2.1, ?_⟩
    have h4 := this.2.2.2
    rw [List.length_append] at h4
    exact Nat.le_trans (Nat.le_add_right _ _) h4

theorem law_facts (script : List Int) : LawFacts (lawK script) := by
  have hk0 : DkOk (deck0 script) := deck0_ok
  have d1 := drawP_ok hk0 (m := 4) (by decide)
  have hk2 : DkOk (penIt (drawP (deck0 script) 4).2 0 cols6 (lawK script).many) := penIt_ok d1.2 (by decide) _
  have d2 := drawP_ok hk2 (m := 2) (by decide)
  have hk4 : DkOk (penIt (lawK script).k3 3 few (lawK script).n2) := penIt_ok d2.2 (by decide) _
  have d4 := drawP_ok hk4 (m := 6) (by decide)
  have h6 : ∀ p ∈ (lawK script).pens, PenIn cols6 0 p := pensOf_in d1.2 (by decide) six_in _
  have hf : ∀ p ∈ (lawK script).plain, PenIn few 3 p := pensOf_in d2.2 (by decide) (fun c hc => (few_in c hc).1) _
  have hm : (lawK script).many = (2 + (drawP (deck0 script) 4).1).toNat := rfl
  have hn2 : (lawK script).n2 = (2 + (drawP (penIt (drawP (deck0 script) 4).2 0 cols6 (lawK script).many) 2).1).toNat := rfl
  have hn3 : (lawK script).n3 = (1 + (drawP (penIt (lawK script).k3 3 few (lawK script).n2) 6).1).toNat := rfl
  have hpl : (lawK script).pens.length = (lawK script).many := pensOf_len _ _ _ _
  have hql : (lawK script).plain.length = (lawK script).n2 := pensOf_len _ _ _ _
  have hrl : (lawK script).rows.length = (lawK script).n3 := by
    simp [lawK]
  have hrows : ∀ r ∈ (lawK script).rows, r ∈ lots := by
    intro r hr
    obtain ⟨i, _, rfl⟩ := List.mem_map.mp hr
    exact rowsAt_mem d4.2 i
  have hpne : (lawK script).pens ≠ [] := fun e => by rw [e] at hpl; simp only [List.length_nil] at hpl; omega
  have hqne : (lawK script).plain ≠ [] := fun e => by rw [e] at hql; simp only [List.length_nil] at hql; omega
  have hrne : (lawK script).rows ≠ [] := fun e => by rw [e] at hrl; simp only [List.length_nil] at hrl; omega
  have htell : ∀ cd, ∀ x ∈ (lawK script).plain, canTell cd x := fun cd x hx => .inr ⟨(few_in _ (hf x hx).a).2, (few_in _ (hf x hx).b).2, (few_in _ (hf x hx).u).2⟩
  generalize lawK script = X at *
  have hfold := stepW_fold (X.pens.headD (plainPen 0)) X.rows (X.pens.headD (plainPen 0)) [] hrows Whole.nil (rowsC_of (by decide)) (by rw [List.length_nil]; omega) (app_nil _)
  simp only at hfold
  have hne : (X.rows.foldl stepW (X.pens.headD (plainPen 0), [])).2 ≠ [] := by
    cases hr : X.rows with
    | nil => exact absurd hr hrne
    | cons r l =>
      rw [hr] at hrows hrl
      rw [List.length_cons] at hrl
      have hrm := hrows r (.head _)
      have hs := lots_small r hrm
      have h2 := stepW_fold (X.pens.headD (plainPen 0)) l (app (X.pens.headD (plainPen 0)) (orOne r)) ([] ++ r) (fun x hx => hrows x (.tail _ hx)) (by rw [List.nil_append]; exact lots_whole r hrm) (by rw [List.nil_append]; exact lots_rows r hrm)
        (by rw [List.nil_append]; have := hs.1; omega) (by rw [List.nil_append]; unfold orOne; rw [if_neg hs.2])
      simp only [List.nil_append] at h2
      have h3 := h2.2.2.2
      rw [List.foldl_cons]
      intro z
      have e : stepW (X.pens.headD (plainPen 0), []) r = (app (X.pens.headD (plainPen 0)) (orOne r), r) := by unfold stepW; rw [List.nil_append]
      rw [e] at z
      rw [z] at h3
      exact hs.2 (List.eq_nil_of_length_eq_zero (by simpa using h3))
  refine ⟨chain_law (l := 0) hpne (by omega) (fun x hx => ⟨(h6 x hx).c, (h6 x hx).l⟩) (fun x _ => .inl rfl), told_law (by omega) (fun x hx => (h6 x hx).c), chain_law (l := 3) hqne (by omega) (fun x hx => ⟨(hf x hx).c, (hf x hx).l⟩) (htell false),
    chain_law (l := 3) hqne (by omega) (fun x hx => ⟨(hf x hx).c, (hf x hx).l⟩) (htell true), fun r hr => (lots_rows r (hrows r hr)).ok, hfold.2.1.ok, ?_, fun p => ?_⟩
  · have : orOne (X.rows.foldl stepW (X.pens.headD (plainPen 0), [])).2 = (X.rows.foldl stepW (X.pens.headD (plainPen 0), [])).2 := by unfold orOne; rw [if_neg hne]
    rw [this]
    exact hfold.2.2.1
  · rw [app_reset]; rfl
end Og
namespace Og
open PySem PySem.Calls PySem.Spec PyProof.Rows

noncomputable def en (P : Params) (x : Str) (t : Tok) (v : Value) : DictEntry := ⟨PyData.keyHash P x, .str x t, v⟩
noncomputable def di (n : Nat) (es : List DictEntry) : Obj := ⟨.type "dict", none, .dict es.toArray n, #[]⟩
noncomputable def lo (vs : List Value) : Obj := ⟨.type "list", none, .seq vs.toArray 0, #[]⟩
noncomputable def tu (vs : List Value) : Obj := ⟨.type "tuple", none, .seq vs.toArray 0, #[]⟩
noncomputable def co (vs : List Value) : Obj := ⟨.type "code", none, .fields vs.toArray, #[]⟩
noncomputable def fo (k : Nat) (pm : Value) (c : Addr) (dV : Value) : Obj := ⟨.type "function", none, .func (dfd (nameOf (stOf k)) (paramsOf (stOf k)) (bodyOf (stOf k)) (scopeOf (stOf k)) pm (.ref c) .none dV), #[]⟩
noncomputable def mo (k : Nat) (q : Str) (pm : Value) (c : Addr) (dV : Value) : Obj := ⟨.type "function", none, .func { dfd (nameOf (meth k)) (paramsOf (meth k)) (bodyOf (meth k)) (scopeOf (meth k)) pm (.ref c) .none dV with qualname := q }, #[]⟩
noncomputable def KK (P : Params) : W.Frag := [
  (3, di 80 [en P "__name__" 165 (.str "law_og0263_01" 621), en P "__doc__" 166 .none, en P "__package__" 167 .none, en P "__loader__" 168 (.builtin "__main__.__loader__#opaque"), en P "__spec__" 169 .none, en P "__annotations__" 170 (.ref 6), en P "__builtins__" 171 (.ref 4), en P "__file__" 173 (.str "/claim/cut.py" 172), en P "__cached__" 174 .none, en P "BOLD" 190 (.int 1 189), en P "FAINT" 192 (.int 2 191), en P "ITALIC" 194 (.int 4 193), en P "BLINK" 196 (.int 8 195), en P "FAST" 198 (.int 16 197), en P "INVERSE" 200 (.int 32 199), en P "HIDDEN" 202 (.int 64 201), en P "STRUCK" 204 (.int 128 203), en P "OVERLINE" 206 (.int 256 205), en P "UNDER_SHIFT" 208 (.int 9 207), en P "UNDER_MASK" 211 (.int 3584 210), en P "NO_COLOUR" 214 (.int (-1) 213), en P "DIRECT" 218 (.int 16777216 217), en P "PLAIN" 221 (.ref 15), en P "FLAGS" 223 (.int 0 222), en P "FORE" 225 (.int 1 224), en P "BACK" 227 (.int 2 226), en P "UNDER" 229 (.int 3 228), en P "LINK" 231 (.int 4 230), en P "decimal_octets" 240 (.ref 22), en P "pen_with" 249 (.ref 29), en P "under_of" 256 (.ref 36), en P "flags_with_under" 264 (.ref 43), en P "is_direct" 271 (.ref 50), en P "rgb_of" 278 (.ref 57), en P "direct_colour" 287 (.ref 64), en P "FIGURE_FIRST" 291 (.int 48 290), en P "FIGURE_LAST" 293 (.int 57 292), en P "COLON" 295 (.int 58 294), en P "SEMICOLON" 297 (.int 59 296), en P "ParamReader" 370 (.ref 115), en P "read_params" 383 (.ref 127), en P "part_octets" 390 (.ref 134), en P "params_octets" 396 (.ref 139), en P "SGR_RESET" 400 (.int 0 399), en P "SGR_FORE" 402 (.int 38 401), en P "SGR_BACK" 404 (.int 48 403), en P "SGR_UNDER" 406 (.int 58 405), en P "FIRST_BRIGHT" 408 (.int 8 407), en P "FIRST_CUBE" 410 (.int 16 409), en P "FIRST_GRAY" 412 (.int 232 411), en P "MOST_COLOUR" 414 (.int 255 413), en P "CUBE_LEVELS" 421 (.ref 140), en P "pen_bits" 427 (.ref 147), en P "pen_plain_changed" 441 (.ref 154), en P "pen_colour_of" 447 (.ref 159), en P "pen_sub_changed" 460 (.ref 166), en P "pen_told_apart" 466 (.ref 171), en P "apply_sgr" 481 (.ref 178), en P "sgr_colour_params" 493 (.ref 185), en P "sgr_bit_params" 510 (.ref 192), en P "sgr_under_params" 519 (.ref 199), en P "sgr_changes" 529 (.ref 206), en P "pen_told" 539 (.ref 213), en P "sgr_params" 552 (.ref 221), en P "sgr_octets" 562 (.ref 229), en P "pen_octets" 569 (.ref 236), en P "first_sixteen" 575 (.ref 243), en P "rgb_number" 584 (.ref 250), en P "palette_rgb" 593 (.ref 257), en P "colour_distance" 604 (.ref 264), en P "nearest_level" 614 (.ref 271), en P "nearest_of_256" 620 (.ref 276), en P "_law_lots" 688 (.ref 362), en P "_law_deck" 694 (.ref 367), en P "_law_draw" 702 (.ref 374), en P "_law_pen" 708 (.ref 379), en P "_law_step_right" 721 (.ref 386), en P "_law_chain_right" 734 (.ref 393), en P "_law_told_right" 744 (.ref 400), en P "law" 750 (.ref 405)]),
  (15, tu [.int 0 219, .int (-1) 213, .int (-1) 213, .int (-1) 213, .int 0 220]),
  (21, co [.str "decimal_octets" 232, .str "decimal_octets" 233, .str "/claim/cut.py" 234, .int 21 0, .int 1 0, .int 0 0, .int 0 0, .int 3 0, .ref 16, .bool true, .int 181 0, .ref 17, .none, .ref 18, .ref 19, .ref 20, .int 238 0, .int 21 0, .str "/claim/cut.py" 239]),
  (22, fo 20 (.str "termcore.base" 187) 21 .none),
  (28, co [.str "pen_with" 241, .str "pen_with" 242, .str "/claim/cut.py" 243, .int 31 0, .int 3 0, .int 0 0, .int 0 0, .int 3 0, .ref 23, .bool true, .int 181 0, .ref 24, .none, .ref 25, .ref 26, .ref 27, .int 247 0, .int 31 0, .str "/claim/cut.py" 248]),
  (29, fo 21 (.str "termcore.base" 187) 28 .none),
  (35, co [.str "under_of" 250, .str "under_of" 251, .str "/claim/cut.py" 252, .int 33 0, .int 1 0, .int 0 0, .int 0 0, .int 3 0, .ref 30, .bool true, .int 181 0, .ref 31, .none, .ref 32, .ref 33, .ref 34, .int 254 0, .int 33 0, .str "/claim/cut.py" 255]),
  (36, fo 22 (.str "termcore.base" 187) 35 .none),
  (42, co [.str "flags_with_under" 257, .str "flags_with_under" 258, .str "/claim/cut.py" 259, .int 35 0, .int 2 0, .int 0 0, .int 0 0, .int 3 0, .ref 37, .bool true, .int 181 0, .ref 38, .none, .ref 39, .ref 40, .ref 41, .int 262 0, .int 35 0, .str "/claim/cut.py" 263]),
  (43, fo 23 (.str "termcore.base" 187) 42 .none),
  (49, co [.str "is_direct" 265, .str "is_direct" 266, .str "/claim/cut.py" 267, .int 37 0, .int 1 0, .int 0 0, .int 0 0, .int 3 0, .ref 44, .bool true, .int 181 0, .ref 45, .none, .ref 46, .ref 47, .ref 48, .int 269 0, .int 37 0, .str "/claim/cut.py" 270]),
  (50, fo 24 (.str "termcore.base" 187) 49 .none),
  (56, co [.str "rgb_of" 272, .str "rgb_of" 273, .str "/claim/cut.py" 274, .int 39 0, .int 1 0, .int 0 0, .int 0 0, .int 3 0, .ref 51, .bool true, .int 181 0, .ref 52, .none, .ref 53, .ref 54, .ref 55, .int 276 0, .int 39 0, .str "/claim/cut.py" 277]),
  (57, fo 25 (.str "termcore.base" 187) 56 .none),
  (63, co [.str "direct_colour" 279, .str "direct_colour" 280, .str "/claim/cut.py" 281, .int 41 0, .int 3 0, .int 0 0, .int 0 0, .int 3 0, .ref 58, .bool true, .int 181 0, .ref 59, .none, .ref 60, .ref 61, .ref 62, .int 285 0, .int 41 0, .str "/claim/cut.py" 286]),
  (64, fo 26 (.str "termcore.base" 187) 63 .none),
  (72, tu [.int 32 310, .int 65535 311]),
  (78, co [.str "__init__" 312, .str "ParamReader.__init__" 313, .str "/claim/cut.py" 314, .int 50 0, .int 3 0, .int 0 0, .int 0 0, .int 3 0, .ref 73, .bool true, .int 181 0, .ref 74, .none, .ref 75, .ref 76, .ref 77, .int 318 0, .int 50 0, .str "/claim/cut.py" 319]),
  (79, mo 0 "ParamReader.__init__" (.str "termcore.params" 288) 78 (.ref 72)),
  (85, co [.str "clear" 321, .str "ParamReader.clear" 322, .str "/claim/cut.py" 323, .int 55 0, .int 1 0, .int 0 0, .int 0 0, .int 3 0, .ref 80, .bool true, .int 181 0, .ref 81, .none, .ref 82, .ref 83, .ref 84, .int 325 0, .int 55 0, .str "/claim/cut.py" 326]),
  (86, mo 1 "ParamReader.clear" (.str "termcore.params" 288) 85 .none),
  (92, co [.str "put" 328, .str "ParamReader.put" 329, .str "/claim/cut.py" 330, .int 61 0, .int 2 0, .int 0 0, .int 0 0, .int 3 0, .ref 87, .bool true, .int 181 0, .ref 88, .none, .ref 89, .ref 90, .ref 91, .int 334 0, .int 61 0, .str "/claim/cut.py" 335]),
  (93, mo 2 "ParamReader.put" (.str "termcore.params" 288) 92 .none),
  (99, co [.str "close_part" 337, .str "ParamReader.close_part" 338, .str "/claim/cut.py" 339, .int 75 0, .int 1 0, .int 0 0, .int 0 0, .int 3 0, .ref 94, .bool true, .int 181 0, .ref 95, .none, .ref 96, .ref 97, .ref 98, .int 341 0, .int 75 0, .str "/claim/cut.py" 342]),
  (100, mo 3 "ParamReader.close_part" (.str "termcore.params" 288) 99 .none),
  (106, co [.str "close_parameter" 344, .str "ParamReader.close_parameter" 345, .str "/claim/cut.py" 346, .int 80 0, .int 1 0, .int 0 0, .int 0 0, .int 3 0, .ref 101, .bool true, .int 181 0, .ref 102, .none, .ref 103, .ref 104, .ref 105, .int 348 0, .int 80 0, .str "/claim/cut.py" 349]),
  (107, mo 4 "ParamReader.close_parameter" (.str "termcore.params" 288) 106 .none),
  (111, co [.str "params" 351, .str "ParamReader.params" 352, .str "/claim/cut.py" 353, .int 85 0, .int 1 0, .int 0 0, .int 0 0, .int 3 0, .ref 108, .bool true, .int 181 0, .ref 109, .none, .none, .none, .ref 110, .int 354 0, .int 85 0, .str "/claim/cut.py" 355]),
  (112, mo 5 "ParamReader.params" (.str "termcore.params" 288) 111 .none),
  (114, di 4 [en P "__module__" 305 (.str "termcore.params" 288), en P "__firstlineno__" 309 (.int 48 308), en P "__init__" 320 (.ref 79), en P "clear" 327 (.ref 86), en P "put" 336 (.ref 93), en P "close_part" 343 (.ref 100), en P "close_parameter" 350 (.ref 107), en P "params" 356 (.ref 112), en P "__static_attributes__" 363 (.ref 113), en P "__dict__" 365 (.ref 116), en P "__weakref__" 367 (.ref 117), en P "__doc__" 368 .none]),
  (115, ⟨.type "type", none, .cls ⟨"ParamReader", [.type "object"], [.ref 115, .type "object"], 114, "ParamReader", true, [], [], false, none, false⟩, #[none, none, some (.str "ParamReader" 298), some (.str "ParamReader" 306), some (.builtin "object.__new__"), some (.bool true)]⟩),
  (120, tu [.int 32 371, .int 65535 372]),
  (126, co [.str "read_params" 373, .str "read_params" 374, .str "/claim/cut.py" 375, .int 95 0, .int 3 0, .int 0 0, .int 0 0, .int 3 0, .ref 121, .bool true, .int 181 0, .ref 122, .none, .ref 123, .ref 124, .ref 125, .int 381 0, .int 95 0, .str "/claim/cut.py" 382]),
  (127, fo 33 (.str "termcore.params" 288) 126 (.ref 120)),
  (133, co [.str "part_octets" 384, .str "part_octets" 385, .str "/claim/cut.py" 386, .int 100 0, .int 1 0, .int 0 0, .int 0 0, .int 3 0, .ref 128, .bool true, .int 181 0, .ref 129, .none, .ref 130, .ref 131, .ref 132, .int 388 0, .int 100 0, .str "/claim/cut.py" 389]),
  (134, fo 34 (.str "termcore.params" 288) 133 .none),
  (138, co [.str "params_octets" 391, .str "params_octets" 392, .str "/claim/cut.py" 393, .int 102 0, .int 1 0, .int 0 0, .int 0 0, .int 3 0, .ref 135, .bool true, .int 181 0, .ref 136, .none, .none, .none, .ref 137, .int 394 0, .int 102 0, .str "/claim/cut.py" 395]),
  (139, fo 35 (.str "termcore.params" 288) 138 .none),
  (146, co [.str "pen_bits" 422, .str "pen_bits" 423, .str "/claim/cut.py" 424, .int 114 0, .int 0 0, .int 0 0, .int 0 0, .int 3 0, .ref 141, .bool true, .int 181 0, .ref 142, .none, .ref 143, .ref 144, .ref 145, .int 425 0, .int 114 0, .str "/claim/cut.py" 426]),
  (147, fo 46 (.str "termcore.pens" 397) 146 .none),
  (153, co [.str "pen_plain_changed" 428, .str "pen_plain_changed" 429, .str "/claim/cut.py" 430, .int 116 0, .int 2 0, .int 0 0, .int 0 0, .int 3 0, .ref 148, .bool true, .int 181 0, .ref 149, .none, .ref 150, .ref 151, .ref 152, .int 439 0, .int 116 0, .str "/claim/cut.py" 440]),
  (154, fo 47 (.str "termcore.pens" 397) 153 .none),
  (158, co [.str "pen_colour_of" 442, .str "pen_colour_of" 443, .str "/claim/cut.py" 444, .int 137 0, .int 2 0, .int 0 0, .int 0 0, .int 3 0, .ref 155, .bool true, .int 181 0, .ref 156, .none, .none, .none, .ref 157, .int 445 0, .int 137 0, .str "/claim/cut.py" 446]),
  (159, fo 48 (.str "termcore.pens" 397) 158 .none),
  (165, co [.str "pen_sub_changed" 448, .str "pen_sub_changed" 449, .str "/claim/cut.py" 450, .int 144 0, .int 2 0, .int 0 0, .int 0 0, .int 3 0, .ref 160, .bool true, .int 181 0, .ref 161, .none, .ref 162, .ref 163, .ref 164, .int 458 0, .int 144 0, .str "/claim/cut.py" 459]),
  (166, fo 49 (.str "termcore.pens" 397) 165 .none),
  (170, co [.str "pen_told_apart" 461, .str "pen_told_apart" 462, .str "/claim/cut.py" 463, .int 158 0, .int 2 0, .int 0 0, .int 0 0, .int 3 0, .ref 167, .bool true, .int 181 0, .ref 168, .none, .none, .none, .ref 169, .int 464 0, .int 158 0, .str "/claim/cut.py" 465]),
  (171, fo 50 (.str "termcore.pens" 397) 170 .none),
  (177, co [.str "apply_sgr" 467, .str "apply_sgr" 468, .str "/claim/cut.py" 469, .int 164 0, .int 2 0, .int 0 0, .int 0 0, .int 3 0, .ref 172, .bool true, .int 181 0, .ref 173, .none, .ref 174, .ref 175, .ref 176, .int 479 0, .int 164 0, .str "/claim/cut.py" 480]),
  (178, fo 51 (.str "termcore.pens" 397) 177 .none),
  (184, co [.str "sgr_colour_params" 482, .str "sgr_colour_params" 483, .str "/claim/cut.py" 484, .int 181 0, .int 2 0, .int 0 0, .int 0 0, .int 3 0, .ref 179, .bool true, .int 181 0, .ref 180, .none, .ref 181, .ref 182, .ref 183, .int 491 0, .int 181 0, .str "/claim/cut.py" 492]),
  (185, fo 52 (.str "termcore.pens" 397) 184 .none),
  (191, co [.str "sgr_bit_params" 494, .str "sgr_bit_params" 495, .str "/claim/cut.py" 496, .int 191 0, .int 2 0, .int 0 0, .int 0 0, .int 3 0, .ref 186, .bool true, .int 181 0, .ref 187, .none, .ref 188, .ref 189, .ref 190, .int 508 0, .int 191 0, .str "/claim/cut.py" 509]),
  (192, fo 53 (.str "termcore.pens" 397) 191 .none),
  (198, co [.str "sgr_under_params" 511, .str "sgr_under_params" 512, .str "/claim/cut.py" 513, .int 203 0, .int 2 0, .int 0 0, .int 0 0, .int 3 0, .ref 193, .bool true, .int 181 0, .ref 194, .none, .ref 195, .ref 196, .ref 197, .int 517 0, .int 203 0, .str "/claim/cut.py" 518]),
  (199, fo 54 (.str "termcore.pens" 397) 198 .none),
  (205, co [.str "sgr_changes" 520, .str "sgr_changes" 521, .str "/claim/cut.py" 522, .int 208 0, .int 2 0, .int 0 0, .int 0 0, .int 3 0, .ref 200, .bool true, .int 181 0, .ref 201, .none, .ref 202, .ref 203, .ref 204, .int 527 0, .int 208 0, .str "/claim/cut.py" 528]),
  (206, fo 55 (.str "termcore.pens" 397) 205 .none),
  (212, co [.str "pen_told" 530, .str "pen_told" 531, .str "/claim/cut.py" 532, .int 215 0, .int 2 0, .int 0 0, .int 0 0, .int 3 0, .ref 207, .bool true, .int 181 0, .ref 208, .none, .ref 209, .ref 210, .ref 211, .int 537 0, .int 215 0, .str "/claim/cut.py" 538]),
  (213, fo 56 (.str "termcore.pens" 397) 212 .none),
  (214, tu [.bool true]),
  (220, co [.str "sgr_params" 540, .str "sgr_params" 541, .str "/claim/cut.py" 542, .int 220 0, .int 3 0, .int 0 0, .int 0 0, .int 3 0, .ref 215, .bool true, .int 181 0, .ref 216, .none, .ref 217, .ref 218, .ref 219, .int 550 0, .int 220 0, .str "/claim/cut.py" 551]),
  (221, fo 57 (.str "termcore.pens" 397) 220 (.ref 214)),
  (222, tu [.bool true]),
  (228, co [.str "sgr_octets" 553, .str "sgr_octets" 554, .str "/claim/cut.py" 555, .int 228 0, .int 3 0, .int 0 0, .int 0 0, .int 3 0, .ref 223, .bool true, .int 181 0, .ref 224, .none, .ref 225, .ref 226, .ref 227, .int 560 0, .int 228 0, .str "/claim/cut.py" 561]),
  (229, fo 58 (.str "termcore.pens" 397) 228 (.ref 222)),
  (235, co [.str "pen_octets" 563, .str "pen_octets" 564, .str "/claim/cut.py" 565, .int 231 0, .int 1 0, .int 0 0, .int 0 0, .int 3 0, .ref 230, .bool true, .int 181 0, .ref 231, .none, .ref 232, .ref 233, .ref 234, .int 567 0, .int 231 0, .str "/claim/cut.py" 568]),
  (236, fo 59 (.str "termcore.pens" 397) 235 .none),
  (277, lo [.int 1 623]),
  (278, lo [.ref 277]),
  (279, lo [.int 2 624]),
  (280, lo [.ref 279]),
  (281, lo [.int 22 625]),
  (282, lo [.ref 281]),
  (283, lo [.int 3 626]),
  (284, lo [.ref 283]),
  (285, lo [.int 4 627]),
  (286, lo [.ref 285]),
  (287, lo [.int 4 628, .int 3 629]),
  (288, lo [.ref 287]),
  (289, lo [.int 4 630, .int 0 631]),
  (290, lo [.ref 289]),
  (291, lo [.int 4 632, .int 9 633]),
  (292, lo [.ref 291]),
  (293, lo [.int 21 634]),
  (294, lo [.ref 293]),
  (295, lo [.int 24 635]),
  (296, lo [.ref 295]),
  (297, lo [.int 7 636]),
  (298, lo [.ref 297]),
  (299, lo [.int 27 637]),
  (300, lo [.ref 299]),
  (301, lo [.int 53 638]),
  (302, lo [.ref 301]),
  (303, lo [.int 55 639]),
  (304, lo [.ref 303]),
  (305, lo [.int 31 640]),
  (306, lo [.ref 305]),
  (307, lo [.int 39 641]),
  (308, lo [.ref 307]),
  (309, lo [.int 94 642]),
  (310, lo [.ref 309]),
  (311, lo [.int 107 643]),
  (312, lo [.ref 311]),
  (313, lo [.int 49 644]),
  (314, lo [.ref 313]),
  (315, lo [.int 59 645]),
  (316, lo [.ref 315]),
  (317, lo [.int 38 646]),
  (318, lo [.int 5 647]),
  (319, lo [.int 200 648]),
  (320, lo [.ref 317, .ref 318, .ref 319]),
  (321, lo [.int 48 649, .int 5 650, .int 3 651]),
  (322, lo [.ref 321]),
  (323, lo [.int 38 652]),
  (324, lo [.int 2 653]),
  (325, lo [.int 1 654]),
  (326, lo [.int 2 655]),
  (327, lo [.int 3 656]),
  (328, lo [.ref 323, .ref 324, .ref 325, .ref 326, .ref 327]),
  (329, lo [.int 48 657, .int 2 658, .int 1 659, .int 2 660, .int 3 661]),
  (330, lo [.ref 329]),
  (331, lo [.int 58 662, .int 2 663, .int 0 664, .int 9 665, .int 8 666, .int 7 667]),
  (332, lo [.ref 331]),
  (333, lo [.int 58 668]),
  (334, lo [.int 5 669]),
  (335, lo [.int 300 670]),
  (336, lo [.ref 333, .ref 334, .ref 335]),
  (337, lo [.int 38 671]),
  (338, lo [.int 2 672]),
  (339, lo [.int 1 673]),
  (340, lo [.int 256 674]),
  (341, lo [.int 3 675]),
  (342, lo [.ref 337, .ref 338, .ref 339, .ref 340, .ref 341]),
  (343, lo [.int 38 676, .int 5 677, .int 300 678]),
  (344, lo [.ref 343]),
  (345, lo [.int 200 679]),
  (346, lo [.ref 345]),
  (347, lo [.int 1 680, .int 2 681]),
  (348, lo [.ref 347]),
  (349, lo [.int 0 682]),
  (350, lo [.ref 349]),
  (351, lo [.none]),
  (352, lo [.ref 351]),
  (353, lo [.int 5 683]),
  (354, lo [.ref 353]),
  (355, lo [.int 25 684]),
  (356, lo [.ref 355]),
  (357, lo [.int 8 685]),
  (358, lo [.ref 357]),
  (359, lo [.int 9 686]),
  (360, lo [.int 29 687]),
  (361, lo [.ref 359, .ref 360]),
  (362, tu [.ref 278, .ref 280, .ref 282, .ref 284, .ref 286, .ref 288, .ref 290, .ref 292, .ref 294, .ref 296, .ref 298, .ref 300, .ref 302, .ref 304, .ref 306, .ref 308, .ref 310, .ref 312, .ref 314, .ref 316, .ref 320, .ref 322, .ref 328, .ref 330, .ref 332, .ref 336, .ref 342, .ref 344, .ref 346, .ref 348, .ref 350, .ref 352, .ref 354, .ref 356, .ref 358, .ref 361]),
  (366, co [.str "_law_deck" 689, .str "_law_deck" 690, .str "/claim/cut.py" 691, .int 265 0, .int 1 0, .int 0 0, .int 0 0, .int 3 0, .ref 363, .bool true, .int 181 0, .ref 364, .none, .none, .none, .ref 365, .int 692 0, .int 265 0, .str "/claim/cut.py" 693]),
  (367, fo 68 (.str "law_og0263_01" 621) 366 .none),
  (373, co [.str "_law_draw" 695, .str "_law_draw" 696, .str "/claim/cut.py" 697, .int 270 0, .int 2 0, .int 0 0, .int 0 0, .int 3 0, .ref 368, .bool true, .int 181 0, .ref 369, .none, .ref 370, .ref 371, .ref 372, .int 700 0, .int 270 0, .str "/claim/cut.py" 701]),
  (374, fo 69 (.str "law_og0263_01" 621) 373 .none),
  (378, co [.str "_law_pen" 703, .str "_law_pen" 704, .str "/claim/cut.py" 705, .int 275 0, .int 3 0, .int 0 0, .int 0 0, .int 3 0, .ref 375, .bool true, .int 181 0, .ref 376, .none, .none, .none, .ref 377, .int 706 0, .int 275 0, .str "/claim/cut.py" 707]),
  (379, fo 70 (.str "law_og0263_01" 621) 378 .none),
  (385, co [.str "_law_step_right" 709, .str "_law_step_right" 710, .str "/claim/cut.py" 711, .int 281 0, .int 3 0, .int 0 0, .int 0 0, .int 3 0, .ref 380, .bool true, .int 181 0, .ref 381, .none, .ref 382, .ref 383, .ref 384, .int 719 0, .int 281 0, .str "/claim/cut.py" 720]),
  (386, fo 71 (.str "law_og0263_01" 621) 385 .none),
  (392, co [.str "_law_chain_right" 722, .str "_law_chain_right" 723, .str "/claim/cut.py" 724, .int 290 0, .int 2 0, .int 0 0, .int 0 0, .int 3 0, .ref 387, .bool true, .int 181 0, .ref 388, .none, .ref 389, .ref 390, .ref 391, .int 732 0, .int 290 0, .str "/claim/cut.py" 733]),
  (393, fo 72 (.str "law_og0263_01" 621) 392 .none),
  (399, co [.str "_law_told_right" 735, .str "_law_told_right" 736, .str "/claim/cut.py" 737, .int 298 0, .int 1 0, .int 0 0, .int 0 0, .int 3 0, .ref 394, .bool true, .int 181 0, .ref 395, .none, .ref 396, .ref 397, .ref 398, .int 742 0, .int 298 0, .str "/claim/cut.py" 743]),
  (400, fo 73 (.str "law_og0263_01" 621) 399 .none),
  (404, co [.str "law" 745, .str "law" 746, .str "/claim/cut.py" 747, .int 307 0, .int 1 0, .int 0 0, .int 0 0, .int 3 0, .ref 401, .bool true, .int 181 0, .ref 402, .none, .none, .none, .ref 403, .int 748 0, .int 307 0, .str "/claim/cut.py" 749]),
  (405, fo 74 (.str "law_og0263_01" 621) 404 .none)]
end Og
namespace Og
open PySem PySem.Calls PySem.Spec PyProof.Rows
open PySem.W (SharedT BT)

noncomputable def topRunT (p : Program) (w : World) (n₀ : Nat) (ann : Option Value) : Nat → SharedT → Thread → Option SharedT
  | 0, _, _ => none
  | n + 1, s, t => match W.through t with
    | true => some s
    | false => match W.Fast.tw6613529449190102663 n₀ ann t with
      | false => none
      | true => match W.Fast.tw10156331382660048174 (W.Fast.tw11892475500146522536 W.Fast.tw14364793385576792824) p w s t with
        | some r => topRunT p w n₀ ann n r.1 r.2
        | none => none
theorem topRunT_spec {p : Program} {w : World} {n₀ : Nat} {ann : Option Value} : ∀ {n : Nat} {s s' : SharedT} {t : Thread}, topRunT p w n₀ ann n s t = some s' → W.topRun treeTable p w n₀ ann n s.abs t = some s'.abs
  | 0, _, _, _, h => by cases h
  | n + 1, s, s', t, h => by
    unfold topRunT at h
    unfold W.topRun
    rw [← W.Fast.te6613529449190102663, ← W.Fast.te10156331382660048174, ← W.Fast.te11892475500146522536, ← W.Fast.te14364793385576792824] at h
    cases he : W.through t with
    | true => rw [he] at h; cases h; rfl
    | false =>
      rw [he] at h
      cases hk : W.stepOk n₀ ann t with
      | false => rw [hk] at h; cases h
      | true =>
        rw [hk] at h
        cases hs : W.stepT (denote treeTable) p w s t with
        | none => rw [hs] at h; cases h
        | some r => rw [hs] at h; rw [W.stepT_spec hs]; exact topRunT_spec h
noncomputable def treeOf : Nat → Nat → Nat → List Obj → BT
  | 0, _, _, _ => .nil
  | f + 1, a, b, l => match l[b]? with
    | some o => .node o (treeOf f (2 * a) (a + b) l) (treeOf f (2 * a) (2 * a + b) l)
    | none => .nil
noncomputable def bootS (w : World) (os : OsState) : SharedT := ⟨treeOf 12 1 0 (W.boot_heap w.params).objs.toList, 11, (W.boot_heap w.params).life, Array.mk [], W.boot_drawn, W.boot_toks, os⟩
theorem bootS_abs (w : World) (os : OsState) : (bootS w os).abs = ⟨W.boot_heap w.params, Array.mk [], W.boot_drawn, W.boot_toks, os⟩ := by kernel_rfl

noncomputable def QQ : Program := W.view PP [74]
noncomputable def loose : List Str := PP.boundNames.filter fun x => !(x == ("law" : Str))
noncomputable def KAS : List Addr := [3, 15, 21, 22, 28, 29, 35, 36, 42, 43, 49, 50, 56, 57, 63, 64, 72, 78, 79, 85, 86, 92, 93, 99, 100, 106, 107, 111, 112, 114, 115, 120, 126, 127, 133, 134, 138, 139, 146, 147, 153, 154, 158, 159, 165, 166, 170, 171, 177, 178, 184, 185, 191, 192, 198, 199, 205, 206, 212, 213, 214, 220, 221, 222, 228, 229, 235, 236, 277, 278, 279, 280, 281, 282, 283, 284, 285, 286, 287, 288, 289, 290, 291, 292, 293, 294, 295, 296, 297, 298, 299, 300, 301, 302, 303, 304, 305, 306, 307, 308, 309, 310, 311, 312, 313, 314, 315, 316, 317, 318, 319, 320, 321, 322, 323, 324, 325, 326, 327, 328, 329, 330, 331, 332, 333, 334, 335, 336, 337, 338, 339, 340, 341, 342, 343, 344, 345, 346, 347, 348, 349, 350, 351, 352, 353, 354, 355, 356, 357, 358, 359, 360, 361, 362, 366, 367, 373, 374, 378, 379, 385, 386, 392, 393, 399, 400, 404, 405]
noncomputable def seenS (w : World) (s : Shared) :=
  ((W.staticsOk (importedModules PP.main.body) (W.boot_heap w.params) s.heap && W.namesBound PP s.heap && W.gensDone s && W.laidKept (W.boot_heap w.params) s.heap),
   W.openSeen QQ loose (importedModules PP.main.body) (fun _ => true) true s, KAS.map s.heap.get?)
noncomputable def goodS (w : World) := (true, W.openGood QQ loose, (KK w.params).map fun p => some p.2)

set_option maxHeartbeats 0 in
theorem top_check (w : World) (os : OsState) : (topRunT PP w 11 (some (.ref 6)) 2300 (bootS w os) (W.topStub PP)).map (fun s => seenS w s.abs) = some (goodS w) := by kernel_rfl
end Og
namespace Og
open PySem PySem.Calls PySem.Spec PyProof.Rows
open PySem.W (SharedT BT)

theorem left_of {p q : Program} {loose : List Str} {Xt : Shared → Bool} {α : Type} {Yf : Shared → α} {Ya : World → α} {H₀ : Params → Heap} {g₀ : Array GenState} {d₀ : Drawn} {k₀ m₀ M N : Nat} {ann : Option Value}
    (op : ∀ w : World, (W.fencedOpening treeTable p w N).map (fun s => (s.heap, s.gens, s.drawn, s.toks)) = some (H₀ w.params, g₀, d₀, k₀))
    (size : ∀ w : World, ((H₀ w.params).isNs mainGlobals && g₀.size == 0, (H₀ w.params).objs.size, (H₀ w.params).nsMap mainGlobals "__annotations__") = (true, m₀, ann))
    (run : ∀ (w : World) (os : OsState), ∃ s₁, W.topRun treeTable p w m₀ ann M ⟨H₀ w.params, g₀, d₀, k₀, os⟩ (W.topStub p) = some s₁ ∧
      ((W.staticsOk (importedModules p.main.body) (H₀ w.params) s₁.heap && W.namesBound p s₁.heap && W.gensDone s₁ && W.laidKept (H₀ w.params) s₁.heap), W.openSeen q loose (importedModules p.main.body) Xt true s₁, Yf s₁) = (true, W.openGood q loose, Ya w))
    (le : Nat.ble M N = true) : W.LeftO p q loose Xt Yf Ya N true := fun w => by
  obtain ⟨⟨h, gs, d, k, os⟩, e, e'⟩ := Option.map_eq_some_iff.mp (op w)
  obtain ⟨rfl, rfl, rfl, rfl⟩ : h = H₀ w.params ∧ gs = g₀ ∧ d = d₀ ∧ k = k₀ := by simpa using e'
  obtain ⟨z1, z2, z3⟩ : _ ∧ _ ∧ _ := by simpa only [Prod.mk.injEq] using size w
  obtain ⟨s₁, hr, hs⟩ := run w os
  obtain ⟨l1, l2, l3⟩ : _ ∧ _ ∧ _ := by simpa only [Prod.mk.injEq] using hs
  have r := W.topRun_mono (N - M) _ _ _ _ hr
  rw [show M + (N - M) = N by have := Nat.le_of_ble_eq_true le; omega] at r
  have t : W.topFrom treeTable p w N ⟨H₀ w.params, gs, d, k, os⟩ = some s₁ := by
    unfold W.topFrom
    dsimp only
    rw [z1, z2, z3, r]
    show (match W.staticsOk (importedModules p.main.body) (H₀ w.params) s₁.heap && W.namesBound p s₁.heap && W.gensDone s₁ && W.laidKept (H₀ w.params) s₁.heap with | true => _ | false => _) = _
    rw [l1]
  unfold W.openEnds
  rw [e]
  show (W.topFrom treeTable p w N _).map _ = _
  rw [t]
  exact congrArg some (Prod.ext l2 l3)
theorem boot_size (w : World) : ((W.boot_heap w.params).isNs mainGlobals && (Array.mk [] : Array GenState).size == 0, (W.boot_heap w.params).objs.size, (W.boot_heap w.params).nsMap mainGlobals "__annotations__") = (true, 11, some (.ref 6)) := by kernel_rfl
theorem top_ends (w : World) (os : OsState) : ∃ s₁, W.topRun treeTable PP w 11 (some (.ref 6)) 2300 ⟨W.boot_heap w.params, Array.mk [], W.boot_drawn, W.boot_toks, os⟩ (W.topStub PP) = some s₁ ∧ seenS w s₁ = goodS w := by
  obtain ⟨s₁, hr, hs⟩ := Option.map_eq_some_iff.mp (top_check w os)
  have r := topRunT_spec hr
  rw [bootS_abs] at r
  exact ⟨s₁.abs, r, hs⟩
theorem top_left : W.LeftO PP QQ loose (fun _ => true) (fun s => KAS.map s.heap.get?) (fun w => (KK w.params).map fun p => some p.2) 5000 true :=
  left_of (fun w => W.boot_open (p := PP) (N := 5000) (by kernel_rfl) (by decide +kernel) (fun s => by kernel_rfl) w) boot_size top_ends (by decide +kernel)
end Og
namespace Og
open PySem PySem.Calls PySem.Spec PyProof.Rows

noncomputable def tabF : List (Nat × Addr × Value × Addr) := [(20, 22, .str "termcore.base" 187, 21), (21, 29, .str "termcore.base" 187, 28), (22, 36, .str "termcore.base" 187, 35), (23, 43, .str "termcore.base" 187, 42), (24, 50, .str "termcore.base" 187, 49), (25, 57, .str "termcore.base" 187, 56), (26, 64, .str "termcore.base" 187, 63), (34, 134, .str "termcore.params" 288, 133), (35, 139, .str "termcore.params" 288, 138), (46, 147, .str "termcore.pens" 397, 146), (47, 154, .str "termcore.pens" 397, 153), (48, 159, .str "termcore.pens" 397, 158), (49, 166, .str "termcore.pens" 397, 165), (50, 171, .str "termcore.pens" 397, 170), (51, 178, .str "termcore.pens" 397, 177), (52, 185, .str "termcore.pens" 397, 184), (53, 192, .str "termcore.pens" 397, 191), (54, 199, .str "termcore.pens" 397, 198), (55, 206, .str "termcore.pens" 397, 205), (56, 213, .str "termcore.pens" 397, 212), (59, 236, .str "termcore.pens" 397, 235), (68, 367, .str "law_og0263_01" 621, 366), (69, 374, .str "law_og0263_01" 621, 373), (70, 379, .str "law_og0263_01" 621, 378), (71, 386, .str "law_og0263_01" 621, 385), (72, 393, .str "law_og0263_01" 621, 392), (73, 400, .str "law_og0263_01" 621, 399), (74, 405, .str "law_og0263_01" 621, 404)]
theorem tab_fns (P : Params) : tabF.map (fun x => (W.nsIn (KK P) mainGlobals (nameOf (stOf x.1)), (KK P).lookup x.2.1, W.codeIn (KK P) (.ref x.2.2.2) (nameOf (stOf x.1)))) =
    tabF.map (fun x => (some (some (.ref x.2.1)), some (fo x.1 x.2.2.1 x.2.2.2 .none), true)) := by kernel_rfl
noncomputable def numIn (K : W.Frag) (p : Str × Int) : Bool := match W.nsIn K mainGlobals p.1 with
  | some (some (.int i _)) => decide (i = p.2)
  | _ => false
theorem nums_in (P : Params) : nums.all (numIn (KK P)) = true := by kernel_rfl

noncomputable def seqIn (K : W.Frag) (T : String) (v : Value) : Option (List Value) := match v with
  | .ref a => match K.lookup a with
    | some o => if o.cls = .type T ∧ o.dict = none ∧ o.slots.toList = [] then (match o.data with | .seq xs _ => some xs.toList | _ => none) else none
    | none => none
  | _ => none
theorem seqIn_spec {K : W.Frag} {h : Heap} (X : K.In h) {T : String} {v : Value} {vs : List Value} (e : seqIn K T v = some vs) : ∃ a n, v = .ref a ∧ h.get? a = some { cls := .type T, data := .seq vs.toArray n } := by
  cases v with
  | ref a =>
    unfold seqIn at e
    simp only at e
    cases hl : K.lookup a with
    | none => rw [hl] at e; cases e
    | some o =>
      rw [hl] at e
      simp only at e
      obtain ⟨c, d, dt, ⟨sl⟩⟩ := o
      by_cases hc : c = .type T ∧ d = none ∧ sl = []
      · obtain ⟨rfl, rfl, rfl⟩ := hc
        cases dt with
        | seq xs n =>
          rw [if_pos ⟨rfl, rfl, rfl⟩] at e
          cases e
          exact ⟨a, n, rfl, X _ _ hl⟩
        | _ => rw [if_pos ⟨rfl, rfl, rfl⟩] at e; cases e
      · rw [if_neg hc] at e; cases e
  | _ => cases e
noncomputable def allIn {α : Type} (f : Value → α → Bool) : List Value → List α → Bool
  | [], [] => true
  | v :: vs, x :: xs => f v x && allIn f vs xs
  | _, _ => false
theorem allIn_spec {α : Type} {f : Value → α → Bool} {g : α → D} {h : Heap} (hf : ∀ v x, f v x = true → Rep [] h v (g x)) : ∀ {vs : List Value} {xs : List α}, allIn f vs xs = true → RepAll [] h vs (xs.map g)
  | [], [], _ => .nil
  | v :: vs, x :: xs, e => by
    obtain ⟨a, b⟩ := Bool.and_eq_true_iff.mp e
    exact .cons (hf v x a) (allIn_spec hf b)
  | [], _ :: _, e => by cases e
  | _ :: _, [], e => by cases e
noncomputable def seqB {α : Type} (K : W.Frag) (T : String) (f : Value → α → Bool) (v : Value) (xs : List α) : Bool := match seqIn K T v with
  | some vs => allIn f vs xs
  | none => false
theorem seqB_spec {α : Type} {K : W.Frag} {T : String} {f : Value → α → Bool} {g : α → D} {h : Heap} (X : K.In h) (hf : ∀ v x, f v x = true → Rep [] h v (g x)) {v : Value} {xs : List α} (e : seqB K T f v xs = true) :
    ∃ a n vs, v = .ref a ∧ h.get? a = some { cls := .type T, data := .seq vs.toArray n } ∧ RepAll [] h vs (xs.map g) := by
  unfold seqB at e
  cases hs : seqIn K T v with
  | none => rw [hs] at e; cases e
  | some vs =>
    rw [hs] at e
    obtain ⟨a, n, h1, h2⟩ := seqIn_spec X hs
    exact ⟨a, n, vs, h1, h2, allIn_spec hf e⟩
noncomputable def optB (v : Value) (o : Option Int) : Bool := match v, o with
  | .none, none => true
  | .int i _, some j => decide (i = j)
  | _, _ => false
theorem optB_spec {h : Heap} (v : Value) (o : Option Int) (e : optB v o = true) : Rep [] h v (optD o) := by
  cases o with
  | none => cases v <;> first | exact .none | cases e
  | some j => cases v <;> first | (cases of_decide_eq_true e; exact .int _ _) | cases e
theorem lst_spec {α : Type} {K : W.Frag} {f : Value → α → Bool} {g : α → D} {h : Heap} (X : K.In h) (hf : ∀ v x, f v x = true → Rep [] h v (g x)) (v : Value) (xs : List α) (e : seqB K "list" f v xs = true) : Rep [] h v (.lst (xs.map g)) := by
  obtain ⟨a, n, vs, rfl, h2, h3⟩ := seqB_spec X hf e
  exact .lst (by simp) h2 h3
theorem tup_spec {α : Type} {K : W.Frag} {f : Value → α → Bool} {g : α → D} {h : Heap} (X : K.In h) (hf : ∀ v x, f v x = true → Rep [] h v (g x)) (v : Value) (xs : List α) (e : seqB K "tuple" f v xs = true) : Rep [] h v (.tup (xs.map g)) := by
  obtain ⟨a, n, vs, rfl, h2, h3⟩ := seqB_spec X hf e
  exact .tup (by simp) h2 h3
theorem lots_in (P : Params) : seqB (KK P) "tuple" (seqB (KK P) "list" (seqB (KK P) "list" optB)) (.ref 362) lots = true := by kernel_rfl
theorem plain_in (P : Params) : seqB (KK P) "tuple" (fun v i => optB v (some i)) (.ref 15) [0, -1, -1, -1, 0] = true := by kernel_rfl
theorem glob_in (P : Params) : [W.nsIn (KK P) mainGlobals "_law_lots", W.nsIn (KK P) mainGlobals "PLAIN", W.nsIn (KK P) mainGlobals "ParamReader", W.nsIn (KK P) mainGlobals "read_params", W.nsIn (KK P) mainGlobals "sgr_params", W.nsIn (KK P) mainGlobals "sgr_octets"] =
    [some (some (.ref 362)), some (some (.ref 15)), some (some (.ref 115)), some (some (.ref 127)), some (some (.ref 221)), some (some (.ref 229))] := by kernel_rfl
noncomputable def blts : List (Str × Value) := [("len", .builtin "len"), ("bytes", .type "bytes"), ("max", .builtin "max"), ("min", .builtin "min"), ("list", .type "list"), ("zip", .type "zip"), ("range", .type "range"), ("int", .type "int")]
theorem blts_in (P : Params) : blts.map (fun p => (W.nsIn (KK P) mainGlobals p.1, decide (p.1 ≠ ("__name__" : Str)), bootBuiltins p.1)) = blts.map (fun p => (some none, true, some p.2)) := by kernel_rfl

section
variable {P : Params} {G : Gl}
theorem fn_of (X : (KK P).In G.hb) {k : Nat} {a : Addr} {pm : Value} {c : Addr} {dV : Value} {dfl : Option (Array Value)} (h1 : W.nsIn (KK P) mainGlobals (nameOf (stOf k)) = some (some (.ref a))) (h2 : (KK P).lookup a = some (fo k pm c dV))
    (h3 : W.codeIn (KK P) (.ref c) (nameOf (stOf k)) = true) (h4 : DflIs G.hb dV dfl) : Fn G k dfl :=
  ⟨a, _, pm, .ref c, .none, dV, W.mg_of X G.g h1, X _ _ h2, rfl, W.codeRec_of X h3, h4⟩
theorem fns_of (X : (KK P).In G.hb) : ∀ k ∈ tabF.map (·.1), Fn G k none := by
  intro k hk
  obtain ⟨x, hx, rfl⟩ := List.mem_map.mp hk
  have := List.map_inj_left.mp (tab_fns P) x hx
  simp only [Prod.mk.injEq] at this
  exact fn_of X this.1 this.2.1 this.2.2 rfl
set_option tactic.hygienic true in
theorem top_of (X : (KK P).In G.hb) : Top G := by
  refine ⟨fun p hp => ?_, ?_, fns_of X, fun k hk => ?_, fun p hp => ?_⟩
  · have := List.all_eq_true.mp (nums_in P) p hp
    unfold numIn at this
    split at this
    · rename_i i t e
      cases of_decide_eq_true this
      exact ⟨_, W.mg_of X G.g e, .int _ _⟩
    · cases this
  · have e := glob_in P
    simp only [List.cons.injEq] at e
    exact ⟨_, W.mg_of X G.g e.2.1, tup_spec X (g := D.int) (fun v i => optB_spec v (some i)) _ _ (plain_in P)⟩
  · have e := glob_in P
    simp only [List.cons.injEq] at e
    rcases List.mem_cons.mp hk with rfl | hk
    · exact fn_of (pm := .str "termcore.pens" 397) (c := 220) X e.2.2.2.2.1 (by kernel_rfl) (by kernel_rfl) ⟨214, _, 0, rfl, X 214 (tu [.bool true]) (by kernel_rfl), rfl⟩
    · rw [List.mem_singleton.mp hk]
      exact fn_of (pm := .str "termcore.pens" 397) (c := 228) X e.2.2.2.2.2.1 (by kernel_rfl) (by kernel_rfl) ⟨222, _, 0, rfl, X 222 (tu [.bool true]) (by kernel_rfl), rfl⟩
  · have := List.map_inj_left.mp (blts_in P) p hp
    simp only [Prod.mk.injEq] at this
    exact ⟨W.mg_none_of X G.g this.1, of_decide_eq_true this.2.1, this.2.2⟩
theorem lots_of (X : (KK P).In G.hb) : GData G "_law_lots" (.tup (lots.map rowsD)) := by
  have e := glob_in P
  simp only [List.cons.injEq] at e
  exact ⟨_, W.mg_of X G.g e.1, tup_spec X (g := rowsD) (lst_spec X (g := rowD) (lst_spec X (g := optD) optB_spec)) _ _ (lots_in P)⟩

noncomputable def tabM : List (Nat × Addr × Str × Addr × Value) := [(0, 79, "ParamReader.__init__", 78, .ref 72), (1, 86, "ParamReader.clear", 85, .none), (2, 93, "ParamReader.put", 92, .none), (3, 100, "ParamReader.close_part", 99, .none), (4, 107, "ParamReader.close_parameter", 106, .none), (5, 112, "ParamReader.params", 111, .none)]
theorem tab_meths (P : Params) : tabM.map (fun x => ((KK P).lookup x.2.1, W.codeIn (KK P) (.ref x.2.2.2.1) x.2.2.1)) = tabM.map (fun x => (some (mo x.1 x.2.2.1 (.str "termcore.params" 288) x.2.2.2.1 x.2.2.2.2), true)) := by kernel_rfl
theorem meth_of (X : (KK P).In G.hb) {k : Nat} {a c : Addr} {q : Str} {dV : Value} {ps : List Str} (h : (k, a, q, c, dV) ∈ tabM)
    (hb : ∀ s : Shared, (∀ b o, G.hb.get? b = some o → s.heap.get? b = some o) → ∀ vs : List Value, vs.length = ps.length → BindsTo s { dfd (nameOf (meth k)) (paramsOf (meth k)) (bodyOf (meth k)) (scopeOf (meth k)) (.str "termcore.params" 288) (.ref c) .none dV with qualname := q } ⟨vs, []⟩ (ps.zip vs)) :
    MAt G a (bodyOf (meth k)) (scopeOf (meth k)) ps := by
  have := List.map_inj_left.mp (tab_meths P) _ h
  simp only [Prod.mk.injEq] at this
  exact ⟨_, _, X _ _ this.1, rfl, rfl, rfl, rfl, rfl, rfl, W.codeRec_of X this.2, hb⟩
theorem rdK_of (P : Params) : RdK (KK P) 115 79 86 93 100 107 112 :=
  ⟨by kernel_rfl, by kernel_rfl, by kernel_rfl, by kernel_rfl, fun x hx => by
    have : FS.map (W.findIn (KK P) (.ref 115)) = FS.map fun _ => some none := by kernel_rfl
    exact List.map_inj_left.mp this x hx, by kernel_rfl, by kernel_rfl, fun p hp => by
    have : ([("__init__", 79), ("clear", 86), ("put", 93), ("close_part", 100), ("close_parameter", 107), ("params", 112)] : List (Str × Addr)).map (fun p => (W.findIn (KK P) (.ref 115) p.1, W.typeIn (KK P) (.ref p.2), W.keepIn (KK P) (.ref p.2))) =
      ([("__init__", 79), ("clear", 86), ("put", 93), ("close_part", 100), ("close_parameter", 107), ("params", 112)] : List (Str × Addr)).map (fun p => (some (some (.ref p.2)), some (.type "function"), true)) := by kernel_rfl
    have h := List.map_inj_left.mp this p hp
    simp only [Prod.mk.injEq] at h
    exact h⟩
theorem rdTop_of (X : (KK P).In G.hb) : RdTop G (KK P) 115 79 86 93 100 107 112 := by
  refine ⟨X, rdK_of P, meth_of X (.head _) fun s hs vs hl => ?_, meth_of X (.tail _ (.head _)) fun s hs vs hl => ?_, meth_of X (.tail _ (.tail _ (.head _))) fun s hs vs hl => ?_, meth_of X (.tail _ (.tail _ (.tail _ (.head _)))) fun s hs vs hl => ?_,
    meth_of X (.tail _ (.tail _ (.tail _ (.tail _ (.head _))))) fun s hs vs hl => ?_, meth_of X (.tail _ (.tail _ (.tail _ (.tail _ (.tail _ (.head _)))))) fun s hs vs hl => ?_⟩
  · obtain ⟨a, b, c, rfl⟩ := len3 hl
    exact BindsTo.of_defaults rfl (hs _ _ (X 72 (tu [.int 32 310, .int 65535 311]) (by kernel_rfl))) rfl rfl rfl
  · obtain ⟨a, rfl⟩ := len1 hl
    exact BindsTo.of_eq rfl
  · obtain ⟨a, b, rfl⟩ := len2 hl
    exact BindsTo.of_eq rfl
  · obtain ⟨a, rfl⟩ := len1 hl
    exact BindsTo.of_eq rfl
  · obtain ⟨a, rfl⟩ := len1 hl
    exact BindsTo.of_eq rfl
  · obtain ⟨a, rfl⟩ := len1 hl
    exact BindsTo.of_eq rfl
theorem read_of {w : World} (X : (KK P).In G.hb) : ReadTop w G := fun b hb => by
  have e := glob_in P
  simp only [List.cons.injEq] at e
  exact read_params_spec (top_of X) (rdTop_of X) (W.mg_of X G.g e.2.2.1) (t := 371) (u := 372)
    (fn_of (pm := .str "termcore.params" 288) (c := 126) (dV := .ref 120) X e.2.2.2.1 (by kernel_rfl) (by kernel_rfl) ⟨120, _, 0, rfl, X 120 (tu [.int 32 371, .int 65535 372]) (by kernel_rfl), rfl⟩) b hb
theorem law_fn (X : (KK P).In G.hb) : ∃ f o fd, G.mg "law" = some (.ref f) ∧ G.hb.get? f = some o ∧ o.data = .func fd ∧ CAt G f (bodyOf (stOf 74)) (scopeOf (stOf 74)) ["script"] :=
  FnAt.cat (fns_of X 74 (by decide +kernel)) fun pm code doc vs hl => by
    obtain ⟨a, rfl⟩ := len1 hl
    rfl
end
end Og
namespace Og
open PySem PySem.Calls PySem.Spec PyProof.Rows

theorem ints_of : ∀ {xs : List W.WData}, W.WShape.hasItems [] xs .int = true → ∃ ns : List Int, xs = ns.map W.WData.int
  | [], _ => ⟨[], rfl⟩
  | x :: xs, h => by
    unfold W.WShape.hasItems at h
    obtain ⟨a, b⟩ := Bool.and_eq_true_iff.mp h
    obtain ⟨ns, rfl⟩ := ints_of b
    cases x with
    | int i => exact ⟨i :: ns, rfl⟩
    | _ => simp [W.WShape.has, W.WShape.arms] at a
theorem args_of {args : List W.WData} (h : Challenge.rw_og0263_01.row.toRowW.claim.pre args = true) : ∃ ns : List Int, args = [.list (ns.map W.WData.int)] ∧ ns.length ≤ 63 := by
  obtain ⟨h1, h2⟩ := Bool.and_eq_true_iff.mp h
  cases args with
  | nil => cases h1
  | cons x r =>
    cases r with
    | cons y r' =>
      have : (W.WShape.has [] x (.list .int) && false) = true := h1
      rw [Bool.and_false] at this; cases this
    | nil =>
      have h1' : (W.WShape.has [] x (.list .int) && true) = true := h1
      rw [Bool.and_true] at h1'
      cases x with
      | list xs =>
        have h3 : W.WShape.hasItems [] xs .int = true := by simpa [W.WShape.has, W.WShape.arms] using h1'
        obtain ⟨ns, rfl⟩ := ints_of h3
        refine ⟨ns, rfl, ?_⟩
        have h4 : W.WTm.holds [] Challenge.rw_og0263_01.pre { args := [.list (ns.map W.WData.int)] } = true := h2
        by_cases q : ns.length ≤ 63
        · exact q
        · exfalso
          have q2 : (63 : Int) < ((ns.map W.WData.int).length : Int) := by rw [List.length_map]; omega
          have q3 : W.less? (.int 63) (.int (ns.length : Int)) = some true := by
            show some (decide ((63 : Int) < (ns.length : Int))) = some true
            rw [decide_eq_true (by omega)]
          simp [W.WTm.holds, W.OpenLaw.pre, Challenge.rw_og0263_01, W.WTm.value, q3] at h4
      | _ => simp [W.WShape.has, W.WShape.arms] at h1'
theorem reps_well {P : Params} {h : Heap} : ∀ {vs : List Value} {ns : List Int}, W.WellAll P h vs (ns.map W.WData.int) → RepAll [] h vs (iD ns)
  | [], [], _ => .nil
  | v :: vs, n :: ns, .cons a b => by
    cases a
    exact .cons (.int _ _) (reps_well b)
set_option maxHeartbeats 0 in
theorem pre_said : Challenge.rw_og0263_01.wellSaid = true := by
  unfold W.OpenLaw.wellSaid
  repeat' (first | with_reducible refine W.look_both ?_ ?_ | unfold W.OpenRow.wellSaid | unfold W.OpenRow.partSaid | unfold W.looksOpen)
  all_goals decide +kernel
theorem room_caller : Room 11 callerA := ⟨rfl, by decide +kernel, by decide +kernel⟩
end Og
namespace Og
open PySem PySem.Calls PySem.Spec PyProof.Rows

theorem law_walk (w : World) (s₀ s₁ : Shared) (mg mb : Str → Option Value) (hG : W.Ground QQ loose [] (fun _ _ => True) w s₀ mg mb s₁.heap) (X : (KK w.params).In s₁.heap) (a : Addr) (hm : mg "law" = some (.ref a)) (hgens : s₁.gens = #[])
    (args : List W.WData) (vals : List Value) (hpre : Challenge.rw_og0263_01.row.toRowW.claim.pre args = true) (hw : W.WellAll w.params s₁.heap vals args) (cl : Str → Option Addr) (mean : ExcName → Option Value) :
    wpAny (model PP w) callerA (PySem.call (.ref a) vals) (fun v s' => W.GoodWG Challenge.rw_og0263_01.row.toRowW.claim cl mean args s₁ (.ok (.ret v)) s') (fun e s' => W.GoodWG Challenge.rw_og0263_01.row.toRowW.claim cl mean args s₁ (.error e) s') s₁ := by
  obtain ⟨ns, rfl, hl⟩ := args_of hpre
  cases hw with | cons h1 h2 =>
  cases h2
  cases h1 with | @list l vs _ ho hv =>
  have r : Rep [] s₁.heap (.ref l) (.lst (iD ns)) := .lst (by simp) ho (reps_well hv)
  let G : Gl := ⟨s₁.heap, mg, mb, hG.T.g, hG.T.b, hG.T.builtins, hG.T.nolimit⟩
  have XG : (KK w.params).In G.hb := X
  obtain ⟨f, o, fd, e1, e2, e3, F⟩ := law_fn XG
  have ea : f = a := by
    have : G.mg "law" = some (.ref a) := hm
    rw [e1] at this
    cases this; rfl
  subst ea
  refine W.enter_call (law_go (top_of XG) (read_of XG) (lots_of XG) F ns hl (law_facts ns) room_caller (fun b o e => e) r fun h' tk hk => ?_)
  refine W.GoodW.toG ⟨.inl ⟨.bool true, .bool true, [], rfl, fun _ => rfl, .bool true, ?_, fun _ => ⟨.nil, fun a ha => nomatch ha⟩⟩, hk, rfl, hgens⟩
  simp [W.RowW.claim, W.OpenLaw.row, W.WShape.has, W.WShape.arms, W.WTm.holds, W.WTm.value, W.same]
end Og
namespace Og
open PySem PySem.Calls PySem.Spec PyProof.Rows
theorem row_ok1 : W.chainsOk QQ = true := by kernel_rfl
theorem row_ok2 : W.opensWell PP = true := by kernel_rfl
theorem row_ok3 : (W.frees Challenge.rw_og0263_01.row.toRowW && Challenge.rw_og0263_01.row.within.isEmpty) = true := by kernel_rfl
theorem row_bare : Challenge.rw_og0263_01.row.prog.bare := ⟨rfl, rfl, rfl, rfl, rfl, by decide +kernel⟩
theorem row_promised : Challenge.rw_og0263_01.row.toRowW.promised := ⟨[.list [.int 3]], by kernel_rfl, by kernel_rfl⟩
noncomputable def posOf : Stmt → Pos
  | .FunctionDef _ _ _ _ _ _ _ _ _ p => p
  | _ => ⟨0, 0, 0, 0⟩
noncomputable def lawD : DefRec := ⟨"law", paramsOf (stOf 74), bodyOf (stOf 74), scopeOf (stOf 74), posOf (stOf 74)⟩
theorem law_def : W.defOf QQ "law" = some (lawD, []) := by kernel_rfl
theorem law_the : PP.theDef "law" = some (lawD.params, lawD.body, lawD.scope) := by kernel_rfl
theorem law_holds : Challenge.rw_og0263_01.Holds := by
  refine W.holds_law pre_said fun said => ?_
  exact W.holds_open (r := Challenge.rw_og0263_01.row) (q := QQ) (loose := loose) (Xt := fun _ => true) (XP := fun _ _ => True) (YP := fun w h => (KK w.params).In h) (N := 5000) (d := lawD) (kwd := []) top_left
    (fun w s e => W.Frag.in_of (as := KAS) (by kernel_rfl) e) (fun w h h' x k => x.keeps k) (fun _ _ => trivial) (fun _ _ _ _ _ => trivial) law_def law_the rfl
    (fun s _ => W.recFacts_of (R := []) rfl) rfl said (by rw [show Challenge.rw_og0263_01.row.prog = PP from rfl, row_ok1, row_ok2, row_ok3]; rfl) row_bare row_promised
    (fun w s₀ s₁ mg mb hG X a o pm cd doc dV kV ho hd hc hD hm hg args vals as hpre hlay hrd hwl hlo => law_walk w s₀ s₁ mg mb hG X a hm hg args vals hpre hwl _ _)
end Og

theorem PySem.Challenge.cw_og0263_01_holds : PySem.Challenge.rw_og0263_01.Holds := by
  exact Og.law_holds
