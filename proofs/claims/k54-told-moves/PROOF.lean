import PyProof.Rows.All
import Wide.All
import OpenK.AllK
import Wide.FinOn
import HandS.ForMost
import HandS.Defaults
import HandS.TupAny
import HandS.TupMul
import HandS.IsInst
import HandS.Zip
import HandS.Rev
import HandS.Wide
import HandS.TupSets
import HandS.FStr
import HandS.Style
import HandS.HeadEnd
import HandS.HeadHook2
import HandS.Head2
import KE.DataEq
import KE.SortData
import PySem.Challenge.RW_nonerunsdry_k54_whole_told_moves
set_option Elab.async false
set_option linter.all false
set_option maxRecDepth 100000
set_option maxHeartbeats 4000000
set_option autoImplicit false
/-! The engine, part a: data, its relation to the abstract heap, environments of data, the judgements. -/
namespace NR
open PySem PySem.Spec L2

/-- data -/
inductive D where
  | non | bl (b : Bool) | int (i : Int) | str (x : Str)
  | tup (xs : List D) | lst (xs : List D)
  | dT (ks : List (List Key)) (vs : List D) | dK (ks : List Key) (vs : List D)
  | scr (ns : List Int)
/-- a slot: nothing known; a value; an object of one's own (its content); the k-th object that the caller lends -/
inductive Sl where
  | emp | val (d : D) | own (d : D) | par (k : Nat) (d : D)
abbrev Ev := List Sl
abbrev EM := Ev → Option (D × Ev)
abbrev BM := Ev → Option (Bool × Ev)
abbrev AM := Ev → Option (List D × Ev)
abbrev GM := D → Ev → Option Ev
inductive Rs where
  | nx (e : Ev) | rt (d : D) (e : Ev) | bk (e : Ev) | ct (e : Ev) | ro (d : D) (e : Ev)
abbrev SM := Ev → Option Rs
/-- F: addresses that belong to others (B: those among them that change meanwhile); τ: the objects that the caller lends -/
structure Cn where
  F : Addr → Prop
  τ : List Addr
  B : Addr → Prop := fun _ => False
  bf : ∀ a, B a → F a := by exact fun _ h => h.elim

/-- a list that stands still -/
def LsK (K : PySem.W.Frag) (a : Addr) (xs : List V) : Prop :=
  ∃ (o : Obj) (its : Array Value) (n : Nat), K.lookup a = some o ∧ o.cls = .type "list" ∧ o.dict = none ∧ o.data = .seq its n ∧ its.size ≤ sizeLine ∧ Vals xs its.toList
mutual
def RD (K : PySem.W.Frag) (F : Addr → Prop) (H : Hp) : D → V → Prop
  | .non, v => v = .non
  | .bl b, v => v = .bl b
  | .int i, v => v = .int i
  | .str x, v => v = .str x
  | .tup ds, v => ∃ a xs, v = .ref a ∧ ¬ F a ∧ H a = some (.tup xs) ∧ RDs K F H ds xs
  | .lst ds, v => ∃ a xs, v = .ref a ∧ ¬ F a ∧ H a = some (.lst xs) ∧ RDs K F H ds xs
  | .dT ks ds, v => ∃ a xs, v = .ref a ∧ ¬ F a ∧ Rd H a (.dT (ks.zip xs)) ∧ ks.length = ds.length ∧ RDs K F H ds xs
  | .dK ks ds, v => ∃ a xs, v = .ref a ∧ ¬ F a ∧ Rd H a (.dK (ks.zip xs)) ∧ ks.length = ds.length ∧ RDs K F H ds xs
  | .scr ns, v => ∃ a, v = .ref a ∧ ((¬ F a ∧ Rd H a (.lst (ns.map V.int))) ∨ LsK K a (ns.map V.int))
def RDs (K : PySem.W.Frag) (F : Addr → Prop) (H : Hp) : List D → List V → Prop
  | [], xs => xs = []
  | d :: ds, xs => ∃ x r, xs = x :: r ∧ RD K F H d x ∧ RDs K F H ds r
end
section
variable {K : PySem.W.Frag} {F G : Addr → Prop} {H H' : Hp}
mutual
/-- another heap, another set of forbidden addresses -/
theorem RD.go (h : ∀ b o, H b = some o → ¬ F b → H' b = some o ∧ ¬ G b) : ∀ {d : D} {v : V}, RD K F H d v → RD K G H' d v
  | .non, _, r => r
  | .bl _, _, r => r
  | .int _, _, r => r
  | .str _, _, r => r
  | .tup _, _, ⟨a, xs, e, n, q, r⟩ => ⟨a, xs, e, (h a _ q n).2, (h a _ q n).1, RDs.go h r⟩
  | .lst _, _, ⟨a, xs, e, n, q, r⟩ => ⟨a, xs, e, (h a _ q n).2, (h a _ q n).1, RDs.go h r⟩
  | .scr _, _, ⟨a, e, .inl ⟨n, .inl q⟩⟩ => ⟨a, e, .inl ⟨(h a _ q n).2, .inl (h a _ q n).1⟩⟩
  | .scr _, _, ⟨a, e, .inl ⟨n, .inr ⟨o, q⟩⟩⟩ => ⟨a, e, .inl ⟨(h a _ q n).2, .inr ⟨o, (h a _ q n).1⟩⟩⟩
  | .scr _, _, ⟨a, e, .inr q⟩ => ⟨a, e, .inr q⟩
  | .dT _ _, _, ⟨a, xs, e, n, .inl q, l, r⟩ => ⟨a, xs, e, (h a _ q n).2, .inl (h a _ q n).1, l, RDs.go h r⟩
  | .dT _ _, _, ⟨a, xs, e, n, .inr ⟨o, q⟩, l, r⟩ => ⟨a, xs, e, (h a _ q n).2, .inr ⟨o, (h a _ q n).1⟩, l, RDs.go h r⟩
  | .dK _ _, _, ⟨a, xs, e, n, .inl q, l, r⟩ => ⟨a, xs, e, (h a _ q n).2, .inl (h a _ q n).1, l, RDs.go h r⟩
  | .dK _ _, _, ⟨a, xs, e, n, .inr ⟨o, q⟩, l, r⟩ => ⟨a, xs, e, (h a _ q n).2, .inr ⟨o, (h a _ q n).1⟩, l, RDs.go h r⟩
theorem RDs.go (h : ∀ b o, H b = some o → ¬ F b → H' b = some o ∧ ¬ G b) : ∀ {d : List D} {v : List V}, RDs K F H d v → RDs K G H' d v
  | [], _, r => r
  | _ :: _, _, ⟨x, r, e, p, q⟩ => ⟨x, r, e, RD.go h p, RDs.go h q⟩
end
theorem RDs.length : ∀ {ds : List D} {xs : List V}, RDs K F H ds xs → xs.length = ds.length
  | [], _, r => by rw [show _ = [] from r]; rfl
  | _ :: _, _, ⟨x, r, e, p, q⟩ => by rw [e, List.length_cons, List.length_cons, RDs.length q]
theorem RDs.get : ∀ {ds : List D} {xs : List V}, RDs K F H ds xs → ∀ {i : Nat} {d : D}, ds[i]? = some d → ∃ x, xs[i]? = some x ∧ RD K F H d x
  | [], _, r, i, d, e => by simp at e
  | _ :: _, _, ⟨x, r, e, p, q⟩, 0, d, h => by simp at h; subst h; exact ⟨x, by rw [e]; rfl, p⟩
  | _ :: _, _, ⟨x, r, e, p, q⟩, i + 1, d, h => by
    obtain ⟨y, h1, h2⟩ := RDs.get q (i := i) (d := d) (by simpa using h)
    exact ⟨y, by rw [e]; simpa using h1, h2⟩
theorem RDs.append : ∀ {ds es : List D} {xs ys : List V}, RDs K F H ds xs → RDs K F H es ys → RDs K F H (ds ++ es) (xs ++ ys)
  | [], _, _, _, r, s => by rw [show _ = [] from r]; exact s
  | _ :: _, _, _, _, ⟨x, r, e, p, q⟩, s => ⟨x, _, by rw [e]; rfl, p, RDs.append q s⟩
theorem RDs.one {d : D} {x : V} (h : RD K F H d x) : RDs K F H [d] [x] := ⟨x, [], rfl, h, rfl⟩
theorem RDs.set : ∀ {ds : List D} {xs : List V} {d : D} {x : V} (i : Nat), RDs K F H ds xs → RD K F H d x → RDs K F H (ds.set i d) (xs.set i x)
  | [], _, _, _, _, r, _ => by rw [show _ = [] from r]; rfl
  | _ :: _, _, _, _, 0, ⟨x, r, e, p, q⟩, s => ⟨_, r, by rw [e]; rfl, s, q⟩
  | _ :: _, _, _, _, i + 1, ⟨x, r, e, p, q⟩, s => ⟨x, _, by rw [e]; rfl, p, RDs.set i q s⟩
theorem RDs.take : ∀ {ds : List D} {xs : List V} (n : Nat), RDs K F H ds xs → RDs K F H (ds.take n) (xs.take n)
  | _, _, 0, _ => rfl
  | [], _, _ + 1, r => by rw [show _ = [] from r]; rfl
  | _ :: _, _, n + 1, ⟨x, r, e, p, q⟩ => ⟨x, _, by rw [e]; rfl, p, RDs.take n q⟩
theorem RDs.drop : ∀ {ds : List D} {xs : List V} (n : Nat), RDs K F H ds xs → RDs K F H (ds.drop n) (xs.drop n)
  | _, _, 0, r => r
  | [], _, _ + 1, r => by rw [show _ = [] from r]; rfl
  | _ :: _, _, n + 1, ⟨x, r, e, p, q⟩ => by rw [e]; exact RDs.drop n q
theorem RDs.rev : ∀ {ds : List D} {xs : List V}, RDs K F H ds xs → RDs K F H ds.reverse xs.reverse
  | [], _, r => by rw [show _ = [] from r]; rfl
  | _ :: _, _, ⟨x, r, e, p, q⟩ => by
    rw [e, List.reverse_cons, List.reverse_cons]
    exact RDs.append (RDs.rev q) (RDs.one p)
end

/-- the content of an object -/
def OB (K : PySem.W.Frag) (F : Addr → Prop) (H : Hp) : D → HO → Prop
  | .lst ds, o => ∃ xs, o = .lst xs ∧ RDs K F H ds xs
  | .dT ks ds, o => ∃ xs, o = .dT (ks.zip xs) ∧ ks.length = ds.length ∧ RDs K F H ds xs
  | .dK ks ds, o => ∃ xs, o = .dK (ks.zip xs) ∧ ks.length = ds.length ∧ RDs K F H ds xs
  | _, _ => False
theorem OB.go {K : PySem.W.Frag} {F G : Addr → Prop} {H H' : Hp} (h : ∀ b o, H b = some o → ¬ F b → H' b = some o ∧ ¬ G b) : ∀ {d : D} {o : HO}, OB K F H d o → OB K G H' d o
  | .lst _, _, ⟨xs, e, r⟩ => ⟨xs, e, RDs.go h r⟩
  | .dT _ _, _, ⟨xs, e, l, r⟩ => ⟨xs, e, l, RDs.go h r⟩
  | .dK _ _, _, ⟨xs, e, l, r⟩ => ⟨xs, e, l, RDs.go h r⟩
/-- an object's content as a value -/
theorem OB.rd {K : PySem.W.Frag} {F : Addr → Prop} {H : Hp} {a : Addr} : ∀ {d : D} {o : HO}, OB K F H d o → H a = some o → ¬ F a → RD K F H d (.ref a)
  | .lst _, _, ⟨xs, e, r⟩, h, n => ⟨a, xs, rfl, n, by rw [h, e], r⟩
  | .dT _ _, _, ⟨xs, e, l, r⟩, h, n => ⟨a, xs, rfl, n, .inl (by rw [h, e]), l, r⟩
  | .dK _ _, _, ⟨xs, e, l, r⟩, h, n => ⟨a, xs, rfl, n, .inl (by rw [h, e]), l, r⟩

/-- no tuple -/
def NT : HO → Prop
  | .tup _ => False
  | _ => True
theorem OB.nt {K : PySem.W.Frag} {F : Addr → Prop} {H : Hp} : ∀ {d : D} {o : HO}, OB K F H d o → NT o
  | .lst _, _, ⟨xs, e, r⟩ => by rw [e]; exact True.intro
  | .dT _ _, _, ⟨xs, e, l, r⟩ => by rw [e]; exact True.intro
  | .dK _ _, _, ⟨xs, e, l, r⟩ => by rw [e]; exact True.intro
def Own (env : Ev) (σ : L2.St) (a : Addr) : Prop := ∃ (i : Nat) (d : D), env[i]? = some (Sl.own d) ∧ σ[i]? = some (some (V.ref a))
def Fb (c : Cn) (env : Ev) (σ : L2.St) (a : Addr) : Prop := c.F a ∨ a ∈ c.τ ∨ Own env σ a
structure Rel (K : PySem.W.Frag) (c : Cn) (env : Ev) (σ : L2.St) (H : Hp) : Prop where
  len : env.length = σ.length
  val : ∀ (i : Nat) (d : D), env[i]? = some (Sl.val d) → ∃ v, σ[i]? = some (some v) ∧ RD K (Fb c env σ) H d v
  own : ∀ (i : Nat) (d : D), env[i]? = some (Sl.own d) → ∃ a o, σ[i]? = some (some (V.ref a)) ∧ H a = some o ∧ OB K (Fb c env σ) H d o ∧ ¬ c.F a ∧ a ∉ c.τ
  par : ∀ (i k : Nat) (d : D), env[i]? = some (Sl.par k d) → ∃ a o, σ[i]? = some (some (V.ref a)) ∧ c.τ[k]? = some a ∧ H a = some o ∧ OB K (Fb c env σ) H d o
  inj : ∀ (i j : Nat) (d e : D) (a : Addr), env[i]? = some (Sl.own d) → env[j]? = some (Sl.own e) → σ[i]? = some (some (V.ref a)) → σ[j]? = some (some (V.ref a)) → i = j
  parj : ∀ (i j k : Nat) (d e : D), env[i]? = some (Sl.par k d) → env[j]? = some (Sl.par k e) → i = j
  dom : ∀ (a : Addr), c.F a ∨ a ∈ c.τ → ∃ o, H a = some o ∧ NT o
  nd : c.τ.Nodup
/-- what was there and is no one's own stays -/
def Evo (c : Cn) (env : Ev) (σ : L2.St) (H : Hp) (env' : Ev) (σ' : L2.St) (H' : Hp) : Prop :=
  ∀ b o, H b = some o → b ∉ c.τ → ¬ Own env σ b → H' b = some o ∧ ¬ Own env' σ' b
section
variable {K : PySem.W.Frag} {c : Cn} {env env' env2 : Ev} {σ σ' σ2 : L2.St} {H H' H2 : Hp}
theorem Evo.refl : Evo c env σ H env σ H := fun _ _ h _ n => ⟨h, n⟩
theorem Evo.trans (a : Evo c env σ H env' σ' H') (b : Evo c env' σ' H' env2 σ2 H2) : Evo c env σ H env2 σ2 H2 := fun x o h t n =>
  b x o (a x o h t n).1 t (a x o h t n).2
theorem Evo.fb (a : Evo c env σ H env' σ' H') : ∀ b o, H b = some o → ¬ Fb c env σ b → H' b = some o ∧ ¬ Fb c env' σ' b := fun b o h n =>
  have n1 : ¬ c.F b := fun q => n (.inl q)
  have n2 : b ∉ c.τ := fun q => n (.inr (.inl q))
  have n3 : ¬ Own env σ b := fun q => n (.inr (.inr q))
  ⟨(a b o h n2 n3).1, fun q => q.elim n1 fun q => q.elim n2 (a b o h n2 n3).2⟩
theorem Evo.rd (a : Evo c env σ H env' σ' H') {d : D} {v : V} (r : RD K (Fb c env σ) H d v) : RD K (Fb c env' σ') H' d v := r.go a.fb
theorem Evo.rds (a : Evo c env σ H env' σ' H') {d : List D} {v : List V} (r : RDs K (Fb c env σ) H d v) : RDs K (Fb c env' σ') H' d v := r.go a.fb
theorem Rel.there' (R : Rel K c env σ H) {a : Addr} (h : Fb c env σ a) : ∃ o, H a = some o ∧ NT o := by
  rcases h with h | h | ⟨i, d, h1, h2⟩
  · exact R.dom a (.inl h)
  · exact R.dom a (.inr h)
  · obtain ⟨b, o, e1, e2, e3, _⟩ := R.own i d h1
    rw [h2] at e1
    cases e1
    exact ⟨o, e2, e3.nt⟩
theorem Rel.there (R : Rel K c env σ H) {a : Addr} (h : Fb c env σ a) : ∃ o, H a = some o := let ⟨o, q, _⟩ := R.there' h; ⟨o, q⟩
theorem Rel.new (R : Rel K c env σ H) {p : Addr} (h : H p = none) : ¬ Fb c env σ p := fun q => by
  obtain ⟨o, e⟩ := R.there q
  rw [h] at e
  cases e
/-- the heap grows, or changes elsewhere -/
theorem Rel.heap (R : Rel K c env σ H) (h : ∀ b o, H b = some o → H' b = some o) : Rel K c env σ H' := by
  have g : ∀ b o, H b = some o → ¬ Fb c env σ b → H' b = some o ∧ ¬ Fb c env σ b := fun b o q n => ⟨h b o q, n⟩
  refine ⟨R.len, fun i d e => ?_, fun i d e => ?_, fun i k d e => ?_, R.inj, R.parj, fun a q => ?_, R.nd⟩
  · obtain ⟨v, h1, h2⟩ := R.val i d e
    exact ⟨v, h1, h2.go g⟩
  · obtain ⟨a, o, h1, h2, h3, h4, h5⟩ := R.own i d e
    exact ⟨a, o, h1, h a o h2, h3.go g, h4, h5⟩
  · obtain ⟨a, o, h1, h2, h3, h4⟩ := R.par i k d e
    exact ⟨a, o, h1, h2, h a o h3, h4.go g⟩
  · obtain ⟨o, q, n⟩ := R.dom a q
    exact ⟨o, h a o q, n⟩
theorem upd_old {p : Addr} {o : HO} (h : H p = none) : ∀ b u, H b = some u → upd H p o b = some u := fun b u q => by
  rw [upd_ne (ne_of_none q h)]
  exact q
theorem Rel.alloc (R : Rel K c env σ H) {p : Addr} {o : HO} (h : H p = none) : Rel K c env σ (upd H p o) := R.heap (upd_old h)
theorem Evo.grow (h : ∀ b o, H b = some o → H' b = some o) : Evo c env σ H env σ H' := fun b o q _ n => ⟨h b o q, n⟩
theorem Evo.alloc {p : Addr} {o : HO} (h : H p = none) : Evo c env σ H env σ (upd H p o) := Evo.grow (upd_old h)
theorem RD.grow {F : Addr → Prop} (h : ∀ b o, H b = some o → H' b = some o) {d : D} {v : V} (r : RD K F H d v) : RD K F H' d v := r.go fun b o q n => ⟨h b o q, n⟩
theorem RDs.grow {F : Addr → Prop} (h : ∀ b o, H b = some o → H' b = some o) {d : List D} {v : List V} (r : RDs K F H d v) : RDs K F H' d v := r.go fun b o q n => ⟨h b o q, n⟩
end
end NR

set_option Elab.async false
set_option linter.all false
set_option maxRecDepth 100000
set_option maxHeartbeats 4000000
set_option autoImplicit false
/-! The engine, part b: slots set, objects changed. -/
namespace NR
open PySem PySem.Spec L2
section
variable {K : PySem.W.Frag} {c : Cn} {env env' env2 : Ev} {σ σ' σ2 : L2.St} {H H' H2 : Hp}
theorem get_set {α : Type} {l : List α} {i j : Nat} {x y : α} (h : (l.set i x)[j]? = some y) : (j = i ∧ y = x ∧ i < l.length) ∨ (j ≠ i ∧ l[j]? = some y) := by
  by_cases e : j = i
  · subst e
    by_cases hl : j < l.length
    · rw [List.getElem?_set_self hl] at h
      cases h
      exact .inl ⟨rfl, rfl, hl⟩
    · rw [List.getElem?_eq_none (by simpa using hl)] at h
      cases h
  · rw [List.getElem?_set_ne (Ne.symm e)] at h
    exact .inr ⟨e, h⟩
theorem set_ne {α : Type} {l : List α} {i j : Nat} {x : α} (e : j ≠ i) : (l.set i x)[j]? = l[j]? := List.getElem?_set_ne (Ne.symm e)
theorem lt_of_get {α : Type} {l : List α} {i : Nat} {x : α} (h : l[i]? = some x) : i < l.length := (List.getElem?_eq_some_iff.mp h).1

theorem Rel.setVal (R : Rel K c env σ H) {i : Nat} {d : D} {v : V} (hi : i < env.length) (r : RD K (Fb c env σ) H d v) :
    Rel K c (env.set i (.val d)) (σ.set i (some v)) H ∧ Evo c env σ H (env.set i (.val d)) (σ.set i (some v)) H := by
  have ow : ∀ a, Own (env.set i (.val d)) (σ.set i (some v)) a → Own env σ a := by
    rintro a ⟨j, e, h1, h2⟩
    rcases get_set h1 with ⟨_, q, _⟩ | ⟨n, q⟩
    · cases q
    · rw [set_ne n] at h2
      exact ⟨j, e, q, h2⟩
  have fb : ∀ a, Fb c (env.set i (.val d)) (σ.set i (some v)) a → Fb c env σ a := fun a h => h.elim .inl fun h => h.elim (fun h => .inr (.inl h)) fun h => .inr (.inr (ow a h))
  have g : ∀ b o, H b = some o → ¬ Fb c env σ b → H b = some o ∧ ¬ Fb c (env.set i (.val d)) (σ.set i (some v)) b := fun b o q n => ⟨q, fun z => n (fb b z)⟩
  refine ⟨⟨?_, fun j e h => ?_, fun j e h => ?_, fun j k e h => ?_, fun j k e f a h1 h2 h3 h4 => ?_, fun j k l e f h1 h2 => ?_, R.dom, R.nd⟩, fun b o h _ n => ⟨h, fun z => n (ow b z)⟩⟩
  · rw [List.length_set, List.length_set, R.len]
  · rcases get_set h with ⟨e1, e2, _⟩ | ⟨n, q⟩
    · subst e1
      cases e2
      exact ⟨v, by rw [List.getElem?_set_self (by rw [← R.len]; exact hi)], r.go g⟩
    · obtain ⟨w, h1, h2⟩ := R.val j e q
      exact ⟨w, by rw [set_ne n]; exact h1, h2.go g⟩
  · rcases get_set h with ⟨_, e2, _⟩ | ⟨n, q⟩
    · cases e2
    · obtain ⟨a, o, h1, h2, h3, h4⟩ := R.own j e q
      exact ⟨a, o, by rw [set_ne n]; exact h1, h2, h3.go g, h4⟩
  · rcases get_set h with ⟨_, e2, _⟩ | ⟨n, q⟩
    · cases e2
    · obtain ⟨a, o, h1, h2, h3, h4⟩ := R.par j k e q
      exact ⟨a, o, by rw [set_ne n]; exact h1, h2, h3, h4.go g⟩
  · rcases get_set h1 with ⟨_, e2, _⟩ | ⟨n, q⟩
    · cases e2
    · rcases get_set h2 with ⟨_, e2, _⟩ | ⟨m, p⟩
      · cases e2
      · rw [set_ne n] at h3
        rw [set_ne m] at h4
        exact R.inj j k e f a q p h3 h4
  · rcases get_set h1 with ⟨_, e2, _⟩ | ⟨n, q⟩
    · cases e2
    · rcases get_set h2 with ⟨_, e2, _⟩ | ⟨m, p⟩
      · cases e2
      · exact R.parj j k l e f q p

/-- a new object of one's own -/
theorem Rel.setOwn (R : Rel K c env σ H) {i : Nat} {d : D} {a : Addr} {o : HO} (hi : i < env.length) (ha : H a = none) (r : OB K (Fb c env σ) H d o) :
    Rel K c (env.set i (.own d)) (σ.set i (some (.ref a))) (upd H a o) ∧ Evo c env σ H (env.set i (.own d)) (σ.set i (some (.ref a))) (upd H a o) := by
  have his : i < σ.length := by rw [← R.len]; exact hi
  have ow : ∀ b, Own (env.set i (.own d)) (σ.set i (some (.ref a))) b → b = a ∨ Own env σ b := by
    rintro b ⟨j, e, h1, h2⟩
    rcases get_set h1 with ⟨q, _, _⟩ | ⟨n, q⟩
    · subst q
      rw [List.getElem?_set_self his] at h2
      cases h2
      exact .inl rfl
    · rw [set_ne n] at h2
      exact .inr ⟨j, e, q, h2⟩
  have g : ∀ b u, H b = some u → ¬ Fb c env σ b → upd H a o b = some u ∧ ¬ Fb c (env.set i (.own d)) (σ.set i (some (.ref a))) b := fun b u q n => by
    have ne : b ≠ a := ne_of_none q ha
    refine ⟨by rw [upd_ne ne]; exact q, fun z => ?_⟩
    rcases z with z | z | z
    · exact n (.inl z)
    · exact n (.inr (.inl z))
    · exact (ow b z).elim ne fun z => n (.inr (.inr z))
  have nF : ¬ Fb c env σ a := R.new ha
  refine ⟨⟨?_, fun j e h => ?_, fun j e h => ?_, fun j k e h => ?_, fun j k e f b h1 h2 h3 h4 => ?_, fun j k l e f h1 h2 => ?_, fun b q => ?_, R.nd⟩, fun b u h _ n => ?_⟩
  · rw [List.length_set, List.length_set, R.len]
  · rcases get_set h with ⟨_, e2, _⟩ | ⟨n, q⟩
    · cases e2
    · obtain ⟨w, h1, h2⟩ := R.val j e q
      exact ⟨w, by rw [set_ne n]; exact h1, h2.go g⟩
  · rcases get_set h with ⟨e1, e2, _⟩ | ⟨n, q⟩
    · subst e1
      cases e2
      exact ⟨a, o, by rw [List.getElem?_set_self his], upd_same, r.go g, fun z => nF (.inl z), fun z => nF (.inr (.inl z))⟩
    · obtain ⟨b, u, h1, h2, h3, h4⟩ := R.own j e q
      exact ⟨b, u, by rw [set_ne n]; exact h1, upd_old ha b u h2, h3.go g, h4⟩
  · rcases get_set h with ⟨_, e2, _⟩ | ⟨n, q⟩
    · cases e2
    · obtain ⟨b, u, h1, h2, h3, h4⟩ := R.par j k e q
      exact ⟨b, u, by rw [set_ne n]; exact h1, h2, upd_old ha b u h3, h4.go g⟩
  · have key : ∀ (j : Nat) (e : D), j ≠ i → (env.set i (.own d))[j]? = some (.own e) → (σ.set i (some (.ref a)))[j]? = some (some (V.ref b)) → env[j]? = some (Sl.own e) ∧ σ[j]? = some (some (V.ref b)) ∧ b ≠ a := fun j e n p1 p2 => by
      rw [set_ne n] at p1 p2
      refine ⟨p1, p2, fun z => ?_⟩
      subst z
      obtain ⟨x, u, y1, y2, _⟩ := R.own j e p1
      rw [p2] at y1
      cases y1
      rw [ha] at y2
      cases y2
    by_cases n : j = i
    · by_cases m : k = i
      · rw [n, m]
      · obtain ⟨_, _, z⟩ := key k f m h2 h4
        rw [n, List.getElem?_set_self his] at h3
        cases h3
        exact absurd rfl z
    · obtain ⟨p1, p2, z⟩ := key j e n h1 h3
      by_cases m : k = i
      · rw [m, List.getElem?_set_self his] at h4
        cases h4
        exact absurd rfl z
      · obtain ⟨q1, q2, _⟩ := key k f m h2 h4
        exact R.inj j k e f b p1 q1 p2 q2
  · rcases get_set h1 with ⟨_, e2, _⟩ | ⟨n, q⟩
    · cases e2
    · rcases get_set h2 with ⟨_, e2, _⟩ | ⟨m, p⟩
      · cases e2
      · exact R.parj j k l e f q p
  · obtain ⟨u, q, n⟩ := R.dom b q
    exact ⟨u, upd_old ha b u q, n⟩
  · exact ⟨upd_old ha b u h, fun z => (ow b z).elim (ne_of_none h ha) n⟩

/-- what the slot's own (or lent) object holds -/
def cont (env : Ev) (i : Nat) : Option D := match env[i]? with
  | some (.own d) => some d
  | some (.par _ d) => some d
  | _ => none
def putC (env : Ev) (i : Nat) (d : D) : Ev := match env[i]? with
  | some (.own _) => env.set i (.own d)
  | some (.par k _) => env.set i (.par k d)
  | _ => env
/-- an object of one's own, or lent, is changed -/
theorem Rel.put (R : Rel K c env σ H) {i : Nat} {d : D} (h : cont env i = some d) :
    ∃ a o, σ[i]? = some (some (V.ref a)) ∧ H a = some o ∧ OB K (Fb c env σ) H d o ∧ Fb c env σ a ∧
      ∀ d' o', OB K (Fb c env σ) H d' o' → Rel K c (putC env i d') σ (upd H a o') ∧ Evo c env σ H (putC env i d') σ (upd H a o') := by
  -- the same for both kinds: s the new slot
  have main : ∀ (a : Addr) (o o' : HO) (s s' : Sl) (d' : D), env[i]? = some s → σ[i]? = some (some (V.ref a)) → H a = some o → Fb c env σ a → OB K (Fb c env σ) H d' o' →
      ((∃ d, s = .own d ∧ s' = .own d') ∧ ¬ c.F a ∧ a ∉ c.τ ∨ ∃ k d, s = .par k d ∧ s' = .par k d' ∧ c.τ[k]? = some a) →
      Rel K c (env.set i s') σ (upd H a o') ∧ Evo c env σ H (env.set i s') σ (upd H a o') := by
    intro a o o' s s' d' hs hσ ha hf r hk
    have hi := lt_of_get hs
    have ow : ∀ b, Own (env.set i s') σ b ↔ Own env σ b := by
      intro b
      constructor
      · rintro ⟨j, e, h1, h2⟩
        rcases get_set h1 with ⟨q, z, _⟩ | ⟨n, q⟩
        · subst q
          rcases hk with ⟨⟨d, z1, z2⟩, _⟩ | ⟨k, d, z1, z2, _⟩
          · subst z1
            exact ⟨j, d, hs, h2⟩
          · rw [z2] at z; cases z
        · exact ⟨j, e, q, h2⟩
      · rintro ⟨j, e, h1, h2⟩
        by_cases n : j = i
        · subst n
          rw [hs] at h1
          cases h1
          rcases hk with ⟨⟨d, z1, z2⟩, _⟩ | ⟨k, d, z1, z2, _⟩
          · exact ⟨j, d', by rw [List.getElem?_set_self hi, z2], h2⟩
          · cases z1
        · exact ⟨j, e, by rw [set_ne n]; exact h1, h2⟩
    have g : ∀ b u, H b = some u → ¬ Fb c env σ b → upd H a o' b = some u ∧ ¬ Fb c (env.set i s') σ b := fun b u q n => by
      have ne : b ≠ a := fun e => n (e ▸ hf)
      exact ⟨by rw [upd_ne ne]; exact q, fun z => n (z.elim .inl fun z => z.elim (fun z => .inr (.inl z)) fun z => .inr (.inr ((ow b).mp z)))⟩
    -- other objects stand elsewhere
    have oth : ∀ (j : Nat) (e : D) (b : Addr), j ≠ i → (env[j]? = some (Sl.own e) ∨ ∃ k, env[j]? = some (Sl.par k e)) → σ[j]? = some (some (V.ref b)) → b ≠ a := by
      rintro j e b n h1 h2 rfl
      rcases h1 with h1 | ⟨k, h1⟩
      · rcases hk with ⟨⟨d, z1, _⟩, _⟩ | ⟨k, d, z1, _, z3⟩
        · subst z1
          exact n (R.inj j i e d b h1 hs h2 hσ)
        · obtain ⟨x, u, y1, _, _, _, y5⟩ := R.own j e h1
          rw [h2] at y1
          cases y1
          exact y5 (List.mem_of_getElem? z3)
      · obtain ⟨x, u, y1, y2, _⟩ := R.par j k e h1
        rw [h2] at y1
        cases y1
        rcases hk with ⟨_, _, z3⟩ | ⟨k', d, z1, _, z3⟩
        · exact z3 (List.mem_of_getElem? y2)
        · have : k = k' := by
            obtain ⟨l1, e1⟩ := List.getElem?_eq_some_iff.mp y2
            obtain ⟨l2, e2⟩ := List.getElem?_eq_some_iff.mp z3
            exact (List.getElem_inj R.nd).mp (e1.trans e2.symm)
          subst this
          subst z1
          exact n (R.parj j i k e d h1 hs)
    refine ⟨⟨?_, fun j e h => ?_, fun j e h => ?_, fun j k e h => ?_, fun j k e f b h1 h2 h3 h4 => ?_, fun j k l e f h1 h2 => ?_, fun b q => ?_, R.nd⟩, fun b u h t n => ?_⟩
    · rw [List.length_set, R.len]
    · rcases get_set h with ⟨_, e2, _⟩ | ⟨n, q⟩
      · rcases hk with ⟨⟨d, _, z2⟩, _⟩ | ⟨k, d, _, z2, _⟩ <;> rw [z2] at e2 <;> cases e2
      · obtain ⟨w, h1, h2⟩ := R.val j e q
        exact ⟨w, h1, h2.go g⟩
    · rcases get_set h with ⟨e1, e2, _⟩ | ⟨n, q⟩
      · subst e1
        rcases hk with ⟨⟨d, _, z2⟩, z3, z4⟩ | ⟨k, d, _, z2, _⟩
        · rw [z2] at e2
          cases e2
          exact ⟨a, o', hσ, upd_same, r.go g, z3, z4⟩
        · rw [z2] at e2; cases e2
      · obtain ⟨b, u, h1, h2, h3, h4⟩ := R.own j e q
        exact ⟨b, u, h1, by rw [upd_ne (oth j e b n (.inl q) h1)]; exact h2, h3.go g, h4⟩
    · rcases get_set h with ⟨e1, e2, _⟩ | ⟨n, q⟩
      · subst e1
        rcases hk with ⟨⟨d, _, z2⟩, z3, z4⟩ | ⟨k', d, _, z2, z3⟩
        · rw [z2] at e2; cases e2
        · rw [z2] at e2
          cases e2
          exact ⟨a, o', hσ, z3, upd_same, r.go g⟩
      · obtain ⟨b, u, h1, h2, h3, h4⟩ := R.par j k e q
        exact ⟨b, u, h1, h2, by rw [upd_ne (oth j e b n (.inr ⟨k, q⟩) h1)]; exact h3, h4.go g⟩
    · have bk : ∀ (j : Nat) (e : D), (env.set i s')[j]? = some (.own e) → ∃ e', env[j]? = some (Sl.own e') := fun j e h => by
        rcases get_set h with ⟨e1, e2, _⟩ | ⟨n, q⟩
        · subst e1
          rcases hk with ⟨⟨d, z1, z2⟩, _⟩ | ⟨k', d, _, z2, z3⟩
          · exact ⟨d, by rw [hs, z1]⟩
          · rw [z2] at e2; cases e2
        · exact ⟨e, q⟩
      obtain ⟨e1, q1⟩ := bk j e h1
      obtain ⟨e2, q2⟩ := bk k f h2
      exact R.inj j k e1 e2 b q1 q2 h3 h4
    · have bk : ∀ (j l : Nat) (e : D), (env.set i s')[j]? = some (.par l e) → ∃ e', env[j]? = some (Sl.par l e') := fun j l e h => by
        rcases get_set h with ⟨e1, e2, _⟩ | ⟨n, q⟩
        · subst e1
          rcases hk with ⟨⟨d, z1, z2⟩, _⟩ | ⟨k', d, z1, z2, z3⟩
          · rw [z2] at e2; cases e2
          · rw [z2] at e2
            cases e2
            exact ⟨d, by rw [hs, z1]⟩
        · exact ⟨e, q⟩
      obtain ⟨e1, q1⟩ := bk j l e h1
      obtain ⟨e2, q2⟩ := bk k l f h2
      exact R.parj j k l e1 e2 q1 q2
    · by_cases e : b = a
      · subst e; exact ⟨o', upd_same, r.nt⟩
      · obtain ⟨u, q, n⟩ := R.dom b q
        exact ⟨u, by rw [upd_ne e]; exact q, n⟩
    · have ne : b ≠ a := by
        rintro rfl
        rcases hk with ⟨⟨d, z1, _⟩, _⟩ | ⟨k', d, _, _, z3⟩
        · subst z1
          exact n ⟨i, d, hs, hσ⟩
        · exact t (List.mem_of_getElem? z3)
      exact ⟨by rw [upd_ne ne]; exact h, fun z => n ((ow b).mp z)⟩
  unfold cont at h
  cases q : env[i]? with
  | none => rw [q] at h; cases h
  | some s =>
    rw [q] at h
    cases s with
    | emp => cases h
    | val _ => cases h
    | own e =>
      cases h
      obtain ⟨a, o, h1, h2, h3, h4, h5⟩ := R.own i d q
      have hf : Fb c env σ a := .inr (.inr ⟨i, d, q, h1⟩)
      refine ⟨a, o, h1, h2, h3, hf, fun d' o' r => ?_⟩
      have e : putC env i d' = env.set i (.own d') := by unfold putC; rw [q]
      rw [e]
      exact main a o o' _ _ d' q h1 h2 hf r (.inl ⟨⟨d, rfl, rfl⟩, h4, h5⟩)
    | par k e =>
      cases h
      obtain ⟨a, o, h1, h2, h3, h4⟩ := R.par i k d q
      have hf : Fb c env σ a := .inr (.inl (List.mem_of_getElem? h2))
      refine ⟨a, o, h1, h3, h4, hf, fun d' o' r => ?_⟩
      have e : putC env i d' = env.set i (.par k d') := by unfold putC; rw [q]
      rw [e]
      exact main a o o' _ _ d' q h1 h3 hf r (.inr ⟨k, d, rfl, rfl, h2⟩)

/-- slots weakened: forgotten, or an object of one's own taken for a value -/
theorem Rel.weak (R : Rel K c env σ H) {s : Sl} {i : Nat} (hs : s = .emp ∨ ∃ d, env[i]? = some (.own d) ∧ s = .val d) :
    Rel K c (env.set i s) σ H ∧ Evo c env σ H (env.set i s) σ H := by
  have nown : ∀ d, s ≠ .own d := fun d e => by rcases hs with h | ⟨d', _, h⟩ <;> rw [h] at e <;> cases e
  have npar : ∀ k d, s ≠ .par k d := fun k d e => by rcases hs with h | ⟨d', _, h⟩ <;> rw [h] at e <;> cases e
  have ow : ∀ b, Own (env.set i s) σ b → Own env σ b := by
    rintro b ⟨j, e, h1, h2⟩
    rcases get_set h1 with ⟨_, z, _⟩ | ⟨n, q⟩
    · exact absurd z.symm (nown e)
    · exact ⟨j, e, q, h2⟩
  have g : ∀ b u, H b = some u → ¬ Fb c env σ b → H b = some u ∧ ¬ Fb c (env.set i s) σ b := fun b u q n => ⟨q, fun z => n (z.elim .inl fun z => z.elim (fun z => .inr (.inl z)) fun z => .inr (.inr (ow b z)))⟩
  refine ⟨⟨?_, fun j e h => ?_, fun j e h => ?_, fun j k e h => ?_, fun j k e f b h1 h2 h3 h4 => ?_, fun j k l e f h1 h2 => ?_, R.dom, R.nd⟩, fun b u h t n => ⟨h, fun z => n (ow b z)⟩⟩
  · rw [List.length_set, R.len]
  · rcases get_set h with ⟨e1, e2, _⟩ | ⟨n, q⟩
    · rcases hs with z | ⟨d, z1, z2⟩
      · rw [z] at e2; cases e2
      · rw [z2] at e2
        cases e2
        subst e1
        obtain ⟨a, o, h1, h2, h3, h4, h5⟩ := R.own j e z1
        refine ⟨_, h1, (h3.go g).rd h2 fun z => ?_⟩
        rcases z with z | z | ⟨k, d, y1, y2⟩
        · exact h4 z
        · exact h5 z
        · rcases get_set y1 with ⟨_, z, _⟩ | ⟨n, q⟩
          · exact nown d z.symm
          · exact n (R.inj k j d e a q z1 y2 h1)
    · obtain ⟨w, h1, h2⟩ := R.val j e q
      exact ⟨w, h1, h2.go g⟩
  · rcases get_set h with ⟨_, z, _⟩ | ⟨n, q⟩
    · exact absurd z.symm (nown e)
    · obtain ⟨b, u, h1, h2, h3, h4⟩ := R.own j e q
      exact ⟨b, u, h1, h2, h3.go g, h4⟩
  · rcases get_set h with ⟨_, z, _⟩ | ⟨n, q⟩
    · exact absurd z.symm (npar k e)
    · obtain ⟨b, u, h1, h2, h3, h4⟩ := R.par j k e q
      exact ⟨b, u, h1, h2, h3, h4.go g⟩
  · rcases get_set h1 with ⟨_, z, _⟩ | ⟨n, q⟩
    · exact absurd z.symm (nown e)
    · rcases get_set h2 with ⟨_, z, _⟩ | ⟨m, p⟩
      · exact absurd z.symm (nown f)
      · exact R.inj j k e f b q p h3 h4
  · rcases get_set h1 with ⟨_, z, _⟩ | ⟨n, q⟩
    · exact absurd z.symm (npar l e)
    · rcases get_set h2 with ⟨_, z, _⟩ | ⟨m, p⟩
      · exact absurd z.symm (npar l f)
      · exact R.parj j k l e f q p
/-- slots forgotten -/
def clr (vs : List Nat) (env : Ev) : Ev := vs.foldl (fun e i => e.set i .emp) env
theorem Rel.clr : ∀ (vs : List Nat) {env : Ev}, Rel K c env σ H → Rel K c (clr vs env) σ H ∧ Evo c env σ H (clr vs env) σ H
  | [], _, R => ⟨R, Evo.refl⟩
  | i :: vs, env, R => by
    obtain ⟨R1, e1⟩ := R.weak (s := .emp) (i := i) (.inl rfl)
    obtain ⟨R2, e2⟩ := Rel.clr vs R1
    exact ⟨R2, e1.trans e2⟩
end
end NR

set_option Elab.async false
set_option linter.all false
set_option maxRecDepth 100000
set_option maxHeartbeats 4000000
set_option autoImplicit false
/-! The engine, part c: the judgements; names, constants, operators, tests. -/
namespace NR
open PySem PySem.Spec L2

/-- what may be read at once: the object may be one's own -/
def RK (K : PySem.W.Frag) (F : Addr → Prop) (H : Hp) : D → V → Prop
  | .lst ds, v => ∃ a xs, v = .ref a ∧ H a = some (.lst xs) ∧ RDs K F H ds xs
  | .dT ks ds, v => ∃ a xs, v = .ref a ∧ Rd H a (.dT (ks.zip xs)) ∧ ks.length = ds.length ∧ RDs K F H ds xs
  | .dK ks ds, v => ∃ a xs, v = .ref a ∧ Rd H a (.dK (ks.zip xs)) ∧ ks.length = ds.length ∧ RDs K F H ds xs
  | d, v => RD K F H d v
theorem RD.rk {K : PySem.W.Frag} {F : Addr → Prop} {H : Hp} : ∀ {d : D} {v : V}, RD K F H d v → RK K F H d v
  | .non, _, r => r
  | .bl _, _, r => r
  | .int _, _, r => r
  | .str _, _, r => r
  | .tup _, _, r => r
  | .scr _, _, r => r
  | .lst _, _, ⟨a, xs, e, _, q, r⟩ => ⟨a, xs, e, q, r⟩
  | .dT _ _, _, ⟨a, xs, e, _, q, r⟩ => ⟨a, xs, e, q, r⟩
  | .dK _ _, _, ⟨a, xs, e, _, q, r⟩ => ⟨a, xs, e, q, r⟩
theorem OB.rk {K : PySem.W.Frag} {F : Addr → Prop} {H : Hp} {a : Addr} : ∀ {d : D} {o : HO}, OB K F H d o → H a = some o → RK K F H d (.ref a)
  | .lst _, _, ⟨xs, e, r⟩, h => ⟨a, xs, rfl, by rw [h, e], r⟩
  | .dT _ _, _, ⟨xs, e, l, r⟩, h => ⟨a, xs, rfl, .inl (by rw [h, e]), l, r⟩
  | .dK _ _, _, ⟨xs, e, l, r⟩, h => ⟨a, xs, rfl, .inl (by rw [h, e]), l, r⟩

section
variable (K : PySem.W.Frag) (c : Cn)
def TM (m : EM) : TE := fun σ H Q => ∃ env d env', Rel K c env σ H ∧ m env = some (d, env') ∧ ∀ v H', Rel K c env' σ H' → Evo c env σ H env' σ H' → RD K (Fb c env' σ) H' d v → Q v H'
def TMk (m : EM) : TE := fun σ H Q => ∃ env d env', Rel K c env σ H ∧ m env = some (d, env') ∧ ∀ v H', Rel K c env' σ H' → Evo c env σ H env' σ H' → RK K (Fb c env' σ) H' d v → Q v H'
/-- a new object -/
def TMf (m : EM) : TE := fun σ H Q => ∃ env d env', Rel K c env σ H ∧ m env = some (d, env') ∧ ∀ a o H1, Rel K c env' σ H1 → Evo c env σ H env' σ H1 → H1 a = none → OB K (Fb c env' σ) H1 d o → Q (.ref a) (upd H1 a o)
def TMb (m : BM) : TT := fun σ H Q => ∃ env b env', Rel K c env σ H ∧ m env = some (b, env') ∧ ∀ H', Rel K c env' σ H' → Evo c env σ H env' σ H' → Q b H'
def TMa (m : AM) : TA := fun σ H Q => ∃ env ds env', Rel K c env σ H ∧ m env = some (ds, env') ∧ ∀ vs H', Rel K c env' σ H' → Evo c env σ H env' σ H' → RDs K (Fb c env' σ) H' ds vs → Q vs H'
def RsOk (D : Ends) (env : Ev) (σ : L2.St) (H : Hp) : Rs → Prop
  | .nx e => ∀ σ' H', Rel K c e σ' H' → Evo c env σ H e σ' H' → D.nx σ' H'
  | .bk e => ∀ σ' H', Rel K c e σ' H' → Evo c env σ H e σ' H' → D.bk σ' H'
  | .ct e => ∀ σ' H', Rel K c e σ' H' → Evo c env σ H e σ' H' → D.ct σ' H'
  | .rt d e => ∀ v σ' H', Rel K c e σ' H' → Evo c env σ H e σ' H' → RD K (Fb c e σ') H' d v → D.rt v H'
  | .ro d e => ∀ a o σ' H1, Rel K c e σ' H1 → Evo c env σ H e σ' H1 → H1 a = none → OB K (Fb c e σ') H1 d o → D.rt (.ref a) (upd H1 a o)
def TMs (m : SM) : TS := fun D σ H => ∃ env r, Rel K c env σ H ∧ m env = some r ∧ RsOk K c D env σ H r
/-- the two stand alike but for the slots vs -/
def Off (vs : List Nat) (σ σ' : L2.St) : Prop := σ'.length = σ.length ∧ ∀ j, j ∉ vs → σ'[j]? = σ[j]?
def TMg (vs : List Nat) (m : GM) : TG := fun v σ H Q => ∃ env d env', Rel K c env σ H ∧ RD K (Fb c env σ) H d v ∧ m d env = some env' ∧ ∀ σ' H', Rel K c env' σ' H' → Evo c env σ H env' σ' H' → Off vs σ σ' → Q σ' H'
end
abbrev PD (X : Cx) (c : Cn) (e : Expr) (m : EM) : Prop := PE X e (TM X.K c m)
abbrev PDk (X : Cx) (c : Cn) (e : Expr) (m : EM) : Prop := PE X e (TMk X.K c m)
abbrev PDf (X : Cx) (c : Cn) (e : Expr) (m : EM) : Prop := PE X e (TMf X.K c m)
abbrev PDb (X : Cx) (c : Cn) (e : Expr) (m : BM) : Prop := PT X e (TMb X.K c m)
abbrev PDw (X : Cx) (c : Cn) (e : Expr) (m : BM) : Prop := PW X e (TMb X.K c m)
abbrev PDa (X : Cx) (c : Cn) (es : List Expr) (m : AM) : Prop := PA X es (TMa X.K c m)
abbrev PDs (X : Cx) (c : Cn) (s : Stmt) (m : SM) : Prop := PS X s (TMs X.K c m)
abbrev PDss (X : Cx) (c : Cn) (s : List Stmt) (m : SM) : Prop := PSs X s (TMs X.K c m)
abbrev PDg (X : Cx) (c : Cn) (vs : List Nat) (e : Expr) (m : GM) : Prop := PG X e (TMg X.K c vs m)

section
variable {X : Cx} {c : Cn} {e a b : Expr} {pos : Pos} {rest : List Expr}
theorem pe_wk {t t' : TE} (h : PE X e t) (k : ∀ σ H Q, t' σ H Q → t σ H Q) : PE X e t' := ⟨fun pins s σ H Q I q => h.run pins s σ H Q I (k σ H Q q)⟩
theorem pt_wk {t t' : TT} (h : PT X e t) (k : ∀ σ H Q, t' σ H Q → t σ H Q) : PT X e t' := ⟨fun pins s σ H Q I q => h.run pins s σ H Q I (k σ H Q q)⟩
theorem pw_wk {t t' : TT} (h : PW X e t) (k : ∀ σ H Q, t' σ H Q → t σ H Q) : PW X e t' := ⟨fun w pins s σ H Q I q => h.run w pins s σ H Q I (k σ H Q q)⟩
theorem pa_wk {es : List Expr} {t t' : TA} (h : PA X es t) (k : ∀ σ H Q, t' σ H Q → t σ H Q) : PA X es t' := ⟨fun p pins s σ H Q I q => h.run p pins s σ H Q I (k σ H Q q)⟩
theorem ps_wk {st : Stmt} {t t' : TS} (h : PS X st t) (k : ∀ D σ H, t' D σ H → t D σ H) : PS X st t' := ⟨fun pins s σ H D I q => h.run pins s σ H D I (k D σ H q)⟩
theorem pss_wk {st : List Stmt} {t t' : TS} (h : PSs X st t) (k : ∀ D σ H, t' D σ H → t D σ H) : PSs X st t' := ⟨fun pins s σ H D I q => h.run pins s σ H D I (k D σ H q)⟩
theorem pg_wk {t t' : TG} (h : PG X e t) (k : ∀ v σ H Q, t' v σ H Q → t v σ H Q) : PG X e t' := ⟨fun pins s σ H v u Q I r q => h.run pins s σ H v u Q I r (k v σ H Q q)⟩
theorem pi_wk {tg : Expr} {t t' : TI} (h : PI X tg e t) (k : ∀ σ H Q, t' σ H Q → t σ H Q) : PI X tg e t' := ⟨fun pins s σ H Q I q => h.run pins s σ H Q I (k σ H Q q)⟩

theorem pd_f {m : EM} (h : PDf X c e m) : PD X c e m := pe_wk h fun σ H Q ⟨env, d, env', R, q, k⟩ => ⟨env, d, env', R, q, fun a o H1 R1 v1 n r => by
  refine k _ _ (R1.alloc n) (v1.trans (Evo.alloc n)) ?_
  exact (r.go fun b u q z => ⟨upd_old n b u q, z⟩).rd upd_same (R1.new n)⟩
theorem pk_d {m : EM} (h : PD X c e m) : PDk X c e m := pe_wk h fun σ H Q ⟨env, d, env', R, q, k⟩ => ⟨env, d, env', R, q, fun v H' R1 v1 r => k v H' R1 v1 r.rk⟩
theorem pk_f {m : EM} (h : PDf X c e m) : PDk X c e m := pk_d (pd_f h)

/-! names, constants -/
def eVar (i : Nat) : EM := fun env => match env[i]? with
  | some (.val d) => some (d, env)
  | some (.own d) => some (d, env.set i (.val d))
  | _ => none
/-- .. only looked at -/
def eLk (i : Nat) : EM := fun env => match env[i]? with
  | some (.val d) => some (d, env)
  | some (.own d) => some (d, env)
  | some (.par _ d) => some (d, env)
  | _ => none
def eC (d : D) : EM := fun env => some (d, env)
theorem pd_var {i : Nat} (h : PE X e (tVar i)) : PD X c e (eVar i) := pe_wk h fun σ H Q ⟨env, d, env', R, q, k⟩ => by
  unfold eVar at q
  cases g : env[i]? with
  | none => rw [g] at q; cases q
  | some s =>
    rw [g] at q
    cases s with
    | emp => cases q
    | par _ _ => cases q
    | val d' =>
      cases q
      obtain ⟨v, h1, h2⟩ := R.val i d g
      exact ⟨v, h1, k v H R Evo.refl h2⟩
    | own d' =>
      cases q
      obtain ⟨R1, e1⟩ := R.weak (i := i) (s := .val d) (.inr ⟨d, g, rfl⟩)
      obtain ⟨v, h1, h2⟩ := R1.val i d (List.getElem?_set_self (lt_of_get g))
      exact ⟨v, h1, k v H R1 e1 h2⟩
theorem pk_var {i : Nat} (h : PE X e (tVar i)) : PDk X c e (eLk i) := pe_wk h fun σ H Q ⟨env, d, env', R, q, k⟩ => by
  unfold eLk at q
  cases g : env[i]? with
  | none => rw [g] at q; cases q
  | some s =>
    rw [g] at q
    cases s with
    | emp => cases q
    | par j d' =>
      cases q
      obtain ⟨b, o, h1, _, h2, h3⟩ := R.par i j d g
      exact ⟨_, h1, k _ H R Evo.refl (h3.rk h2)⟩
    | val d' =>
      cases q
      obtain ⟨v, h1, h2⟩ := R.val i d g
      exact ⟨v, h1, k v H R Evo.refl h2.rk⟩
    | own d' =>
      cases q
      obtain ⟨b, o, h1, h2, h3, _⟩ := R.own i d g
      exact ⟨_, h1, k _ H R Evo.refl (h3.rk h2)⟩
theorem pd_int {i : Int} {j} : PD X c (.Constant (.int i) j pos) (eC (.int i)) := pe_wk pe_int fun σ H Q ⟨env, d, env', R, q, k⟩ => by
  cases q; exact k _ H R Evo.refl rfl
theorem pd_bl {i : Bool} {j} : PD X c (.Constant (.bool i) j pos) (eC (.bl i)) := pe_wk pe_bl fun σ H Q ⟨env, d, env', R, q, k⟩ => by
  cases q; exact k _ H R Evo.refl rfl
theorem pd_non {j} : PD X c (.Constant .none j pos) (eC .non) := pe_wk pe_non fun σ H Q ⟨env, d, env', R, q, k⟩ => by
  cases q; exact k _ H R Evo.refl rfl
theorem pd_str {x : Str} {j} : PD X c (.Constant (.str x) j pos) (eC (.str x)) := pe_wk pe_str fun σ H Q ⟨env, d, env', R, q, k⟩ => by
  cases q; exact k _ H R Evo.refl rfl

/-! operators by values -/
def OpD (K : PySem.W.Frag) (r : R2) (g : D → D → Option D) : Prop := ∀ (c : Cn) (env : Ev) (σ : L2.St) (H : Hp) (x y : V) (d e z : D) (Q : VK), Rel K c env σ H → RD K (Fb c env σ) H d x → RK K (Fb c env σ) H e y → g d e = some z →
  (∀ v H', Rel K c env σ H' → Evo c env σ H env σ H' → RD K (Fb c env σ) H' z v → Q v H') → r x y H Q
/-- .. whose answer is a new object -/
def OpF (K : PySem.W.Frag) (r : R2) (g : D → D → Option D) : Prop := ∀ (c : Cn) (env : Ev) (σ : L2.St) (H : Hp) (x y : V) (d e z : D) (Q : VK), Rel K c env σ H → RD K (Fb c env σ) H d x → RK K (Fb c env σ) H e y → g d e = some z →
  (∀ a o, H a = none → OB K (Fb c env σ) H z o → Q (.ref a) (upd H a o)) → r x y H Q
def eBin (g : D → D → Option D) (ma mb : EM) : EM := fun env => (ma env).bind fun p => (mb p.2).bind fun q => (g p.1 q.1).bind fun z => some (z, q.2)
theorem bin_split {g : D → D → Option D} {ma mb : EM} {env env' : Ev} {z : D} (h : eBin g ma mb env = some (z, env')) : ∃ d e1 e, ma env = some (d, e1) ∧ mb e1 = some (e, env') ∧ g d e = some z := by
  unfold eBin at h
  obtain ⟨⟨d, e1⟩, h1, h⟩ := Option.bind_eq_some_iff.mp h
  obtain ⟨⟨e, e2⟩, h2, h⟩ := Option.bind_eq_some_iff.mp h
  obtain ⟨y, h3, h⟩ := Option.bind_eq_some_iff.mp h
  cases h
  exact ⟨d, e1, e, h1, h2, h3⟩
theorem tm_bin {r : R2} {g : D → D → Option D} {ma mb : EM} (hd : OpD X.K r g) {σ : L2.St} {H : Hp} {Q : VK} (h : TM X.K c (eBin g ma mb) σ H Q) : tOp r (TM X.K c ma) (TMk X.K c mb) σ H Q := by
  obtain ⟨env, z, env', R, q, k⟩ := h
  obtain ⟨d, e1, e, h1, h2, h3⟩ := bin_split q
  refine ⟨env, d, e1, R, h1, fun x H1 R1 v1 r1 => ⟨e1, e, env', R1, h2, fun y H2 R2 v2 r2 => ?_⟩⟩
  exact hd c env' σ H2 x y d e z Q R2 (v2.rd r1) r2 h3 fun v H' R' v' r' => k v H' R' (v1.trans (v2.trans v')) r'
theorem pd_op {op : Operator} {r : R2} {g : D → D → Option D} {ma mb : EM} (ho : OpR X (binaryOp op) r) (hd : OpD X.K r g) (ha : PD X c a ma) (hb : PDk X c b mb) : PD X c (.BinOp a op b pos) (eBin g ma mb) :=
  pe_wk (pe_op ho ha hb) fun _ _ _ h => tm_bin hd h
theorem pf_op {op : Operator} {r : R2} {g : D → D → Option D} {ma mb : EM} (ho : OpR X (binaryOp op) r) (hd : OpF X.K r g) (ha : PD X c a ma) (hb : PDk X c b mb) : PDf X c (.BinOp a op b pos) (eBin g ma mb) :=
  pe_wk (pe_op ho ha hb) fun σ H Q ⟨env, z, env', R, q, k⟩ => by
    obtain ⟨d, e1, e, h1, h2, h3⟩ := bin_split q
    refine ⟨env, d, e1, R, h1, fun x H1 R1 v1 r1 => ⟨e1, e, env', R1, h2, fun y H2 R2 v2 r2 => ?_⟩⟩
    exact hd c env' σ H2 x y d e z Q R2 (v2.rd r1) r2 h3 fun a o n r' => k a o H2 R2 (v1.trans v2) n r'
theorem pd_cmp {op : CmpOp} {r : R2} {g : D → D → Option D} {ma mb : EM} (ho : OpR X (compareOp op) r) (hd : OpD X.K r g) (ha : PD X c a ma) (hb : PDk X c b mb) (hm : behindInMarks op b = false) : PD X c (.Compare a [op] [b] pos) (eBin g ma mb) :=
  pe_wk (pe_cmpR ho ha hb hm) fun _ _ _ h => tm_bin hd h
/-- an expression that is True or False, as a test -/
def bOf (m : EM) : BM := fun env => match m env with
  | some (.bl b, e) => some (b, e)
  | _ => none
theorem tmb_of {m : EM} {σ : L2.St} {H : Hp} {Q : Bool → Hp → Prop} (h : TMb X.K c (bOf m) σ H Q) : TM X.K c m σ H fun x H' => ∃ k, x = .bl k ∧ Q k H' := by
  obtain ⟨env, b, env', R, q, k⟩ := h
  unfold bOf at q
  cases g : m env with
  | none => rw [g] at q; cases q
  | some p =>
    obtain ⟨d, e1⟩ := p
    rw [g] at q
    cases d with
    | bl b' =>
      cases q
      exact ⟨env, _, env', R, g, fun v H' R' v' r' => ⟨b, r', k H' R' v'⟩⟩
    | _ => cases q
theorem pb_cmp {op : CmpOp} {r : R2} {g : D → D → Option D} {ma mb : EM} (ho : OpR X (compareOp op) r) (hd : OpD X.K r g) (ha : PD X c a ma) (hb : PDk X c b mb) (hm : behindInMarks op b = false) : PDb X c (.Compare a [op] [b] pos) (bOf (eBin g ma mb)) :=
  pt_wk (pt_cmpR ho ha hb hm) fun σ H Q h => tm_bin hd (tmb_of h)
/-! truth -/
def truD : D → Option Bool
  | .non => some false
  | .bl b => some b
  | .int i => some (i != 0)
  | .str x => if x.length ≤ sizeLine then some ((x.length : Int) != 0) else none
  | .tup ds => some (!ds.isEmpty)
  | .lst ds => some (!ds.isEmpty)
  | .dK _ _ => none
  | .scr ns => some (!ns.isEmpty)
  | .dT _ _ => none
def bTru (m : EM) : BM := fun env => (m env).bind fun p => (truD p.1).bind fun b => some (b, p.2)
theorem isEmpty_len {α β : Type} {xs : List α} {ys : List β} (h : xs.length = ys.length) : xs.isEmpty = ys.isEmpty := by
  cases xs <;> cases ys <;> simp at h ⊢
theorem scr_sq {K : PySem.W.Frag} {F : Addr → Prop} {H : Hp} {a : Addr} {xs : List V} (h : (¬ F a ∧ Rd H a (.lst xs)) ∨ LsK K a xs) : SqL K H a xs := h.elim (fun h => .inl h.2) .inr
theorem tru_V {K : PySem.W.Frag} {F : Addr → Prop} {H : Hp} : ∀ {d : D} {v : V} {b : Bool}, truD d = some b → RK K F H d v → TruV K v H b
  | .non, v, b, h, r => by cases h; cases (show v = .non from r); exact rfl
  | .bl z, v, b, h, r => by cases h; cases (show v = .bl z from r); exact rfl
  | .int i, v, b, h, r => by cases h; cases (show v = .int i from r); exact rfl
  | .str x, v, b, h, r => by
    cases (show v = .str x from r)
    have h' : (if x.length ≤ sizeLine then some ((x.length : Int) != 0) else none) = some b := h
    split at h'
    case isTrue hl => cases h'; exact ⟨hl, rfl⟩
    case isFalse => cases h'
  | .tup ds, _, _, h, ⟨a, xs, e, _, h3, h4⟩ => by
    subst e
    cases h
    exact .inr (.inl ⟨xs, SqT.of h3, by rw [isEmpty_len h4.length]⟩)
  | .lst ds, _, _, h, ⟨a, xs, e, h3, h4⟩ => by
    subst e
    cases h
    exact .inl ⟨xs, SqL.of h3, by rw [isEmpty_len h4.length]⟩
  | .scr ns, _, _, h, ⟨a, e, h3⟩ => by
    subst e
    cases h
    exact .inl ⟨_, scr_sq h3, by rw [isEmpty_len (List.length_map _)]⟩
  | .dK ks ds, _, _, h, _ => by cases h
  | .dT ks ds, _, _, h, _ => by cases h
theorem pb_tru {m : EM} (h : PDk X c e m) (he : ∀ whole, isTrue e X.env whole = (do let v ← whole; standAt e.pos; holding [v] (truthy v))) : PDb X c e (bTru m) :=
  pt_wk (pt_truth h he) fun σ H Q ⟨env, b, env', R, q, k⟩ => by
    unfold bTru at q
    obtain ⟨⟨d, e1⟩, h1, q⟩ := Option.bind_eq_some_iff.mp q
    obtain ⟨b', h2, q⟩ := Option.bind_eq_some_iff.mp q
    cases q
    exact ⟨env, d, e1, R, h1, fun v H' R' v' r' => ⟨b, tru_V h2 r', k H' R' v'⟩⟩
/-! and, or, not, if -/
def bAnd (ma mb : BM) : BM := fun env => (ma env).bind fun p => if p.1 = true then mb p.2 else some (false, p.2)
def bOr (ma mb : BM) : BM := fun env => (ma env).bind fun p => if p.1 = true then some (true, p.2) else mb p.2
def bNot (ma : BM) : BM := fun env => (ma env).bind fun p => some (!p.1, p.2)
theorem qw_and1 {m : BM} (h : PDb X c a m) : PDw X c (.BoolOp .And [a] pos) m := pw_and1 h
theorem qw_or1 {m : BM} (h : PDb X c a m) : PDw X c (.BoolOp .Or [a] pos) m := pw_or1 h
theorem qw_and {ma mb : BM} (ha : PDb X c a ma) (hb : PDw X c (.BoolOp .And (b :: rest) pos) mb) : PDw X c (.BoolOp .And (a :: b :: rest) pos) (bAnd ma mb) :=
  pw_wk (pw_and ha hb) fun σ H Q ⟨env, z, env', R, q, k⟩ => by
    unfold bAnd at q
    obtain ⟨⟨p, e1⟩, h1, q⟩ := Option.bind_eq_some_iff.mp q
    refine ⟨env, p, e1, R, h1, fun H1 R1 v1 => ?_⟩
    cases p with
    | true => exact ⟨e1, z, env', R1, q, fun H' R' v' => k H' R' (v1.trans v')⟩
    | false =>
      cases q
      exact k H1 R1 v1
theorem qw_or {ma mb : BM} (ha : PDb X c a ma) (hb : PDw X c (.BoolOp .Or (b :: rest) pos) mb) : PDw X c (.BoolOp .Or (a :: b :: rest) pos) (bOr ma mb) :=
  pw_wk (pw_or ha hb) fun σ H Q ⟨env, z, env', R, q, k⟩ => by
    unfold bOr at q
    obtain ⟨⟨p, e1⟩, h1, q⟩ := Option.bind_eq_some_iff.mp q
    refine ⟨env, p, e1, R, h1, fun H1 R1 v1 => ?_⟩
    cases p with
    | false => exact ⟨e1, z, env', R1, q, fun H' R' v' => k H' R' (v1.trans v')⟩
    | true =>
      cases q
      exact k H1 R1 v1
theorem pb_not {m : BM} (h : PDb X c a m) : PDb X c (.UnaryOp .Not a pos) (bNot m) :=
  pt_wk (pt_not h) fun σ H Q ⟨env, z, env', R, q, k⟩ => by
    unfold bNot at q
    obtain ⟨⟨p, e1⟩, h1, q⟩ := Option.bind_eq_some_iff.mp q
    cases q
    exact ⟨env, p, e1, R, h1, fun H1 R1 v1 => k H1 R1 v1⟩
/-- .. as values -/
def eAnd (ma mb : EM) : EM := fun env => (bOf ma env).bind fun p => if p.1 = true then mb p.2 else some (.bl false, p.2)
def eOr (ma mb : EM) : EM := fun env => (bOf ma env).bind fun p => if p.1 = true then some (.bl true, p.2) else mb p.2
def eNot (ma : EM) : EM := fun env => (bOf ma env).bind fun p => some (.bl (!p.1), p.2)
theorem tm_val {m : EM} {env : Ev} {σ : L2.St} {H : Hp} {Q : V → Hp → Prop} {b : Bool} {e1 : Ev} (R : Rel X.K c env σ H) (h1 : bOf m env = some (b, e1)) (k : ∀ H1, Rel X.K c e1 σ H1 → Evo c env σ H e1 σ H1 → Q (.bl b) H1) : TM X.K c m σ H Q := by
  unfold bOf at h1
  cases g : m env with
  | none => rw [g] at h1; cases h1
  | some p =>
    obtain ⟨d, e1⟩ := p
    rw [g] at h1
    cases d with
    | bl b' =>
      cases h1
      exact ⟨env, _, _, R, g, fun v H' R' v' r' => by rw [show v = .bl b from r']; exact k H' R' v'⟩
    | _ => cases h1
theorem pd_one {op} {m : EM} (h : PD X c a m) : PD X c (.BoolOp op [a] pos) m := pe_one h
theorem pd_and {ma mb : EM} (ha : PD X c a ma) (hb : PD X c (.BoolOp .And (b :: rest) pos) mb) : PD X c (.BoolOp .And (a :: b :: rest) pos) (eAnd ma mb) :=
  pe_wk (pe_and ha hb) fun σ H Q ⟨env, z, env', R, q, k⟩ => by
    unfold eAnd at q
    obtain ⟨⟨p, e1⟩, h1, q⟩ := Option.bind_eq_some_iff.mp q
    refine tm_val R h1 fun H1 R1 v1 => ⟨p, rfl, ?_⟩
    cases p with
    | true => exact ⟨e1, z, env', R1, q, fun v H' R' v' r' => k v H' R' (v1.trans v') r'⟩
    | false =>
      cases q
      exact k _ H1 R1 v1 rfl
theorem pd_or {ma mb : EM} (ha : PD X c a ma) (hb : PD X c (.BoolOp .Or (b :: rest) pos) mb) : PD X c (.BoolOp .Or (a :: b :: rest) pos) (eOr ma mb) :=
  pe_wk (pe_or ha hb) fun σ H Q ⟨env, z, env', R, q, k⟩ => by
    unfold eOr at q
    obtain ⟨⟨p, e1⟩, h1, q⟩ := Option.bind_eq_some_iff.mp q
    refine tm_val R h1 fun H1 R1 v1 => ⟨p, rfl, ?_⟩
    cases p with
    | false => exact ⟨e1, z, env', R1, q, fun v H' R' v' r' => k v H' R' (v1.trans v') r'⟩
    | true =>
      cases q
      exact k _ H1 R1 v1 rfl
theorem pd_not {m : EM} (h : PD X c a m) : PD X c (.UnaryOp .Not a pos) (eNot m) :=
  pe_wk (pe_not h) fun σ H Q ⟨env, z, env', R, q, k⟩ => by
    unfold eNot at q
    obtain ⟨⟨p, e1⟩, h1, q⟩ := Option.bind_eq_some_iff.mp q
    cases q
    exact tm_val R h1 fun H1 R1 v1 => ⟨p, rfl, k _ H1 R1 v1 rfl⟩
def eIf (mt : BM) (ma mb : EM) : EM := fun env => (mt env).bind fun p => if p.1 = true then ma p.2 else mb p.2
theorem pd_if {t : Expr} {mt : BM} {ma mb : EM} (ht : PDb X c t mt) (ha : PD X c a ma) (hb : PD X c b mb) : PD X c (.IfExp t a b pos) (eIf mt ma mb) :=
  pe_wk (pe_ifExp ht ha hb) fun σ H Q ⟨env, z, env', R, q, k⟩ => by
    unfold eIf at q
    obtain ⟨⟨p, e1⟩, h1, q⟩ := Option.bind_eq_some_iff.mp q
    refine ⟨env, p, e1, R, h1, fun H1 R1 v1 => ?_⟩
    cases p with
    | true => exact ⟨e1, z, env', R1, q, fun v H' R' v' r' => k v H' R' (v1.trans v') r'⟩
    | false => exact ⟨e1, z, env', R1, q, fun v H' R' v' r' => k v H' R' (v1.trans v') r'⟩
/-! argument lists, displays -/
def aNil : AM := fun env => some ([], env)
def aCons (m : EM) (r : AM) : AM := fun env => (m env).bind fun p => (r p.2).bind fun q => some (p.1 :: q.1, q.2)
theorem qa_nil : PDa X c [] aNil := pa_wk pa_nil fun σ H Q ⟨env, z, env', R, q, k⟩ => by
  cases q
  exact k [] H R Evo.refl rfl
theorem qa_cons {es : List Expr} {m : EM} {r : AM} (ha : PD X c e m) (hr : PDa X c es r) (hs : starEach (e :: es) X.env = (false, eval e X.env) :: starEach es X.env := by rfl) : PDa X c (e :: es) (aCons m r) :=
  pa_wk (pa_cons ha hr hs) fun σ H Q ⟨env, z, env', R, q, k⟩ => by
    unfold aCons at q
    obtain ⟨⟨d, e1⟩, h1, q⟩ := Option.bind_eq_some_iff.mp q
    obtain ⟨⟨ds, e2⟩, h2, q⟩ := Option.bind_eq_some_iff.mp q
    cases q
    exact ⟨env, d, e1, R, h1, fun x H1 R1 v1 r1 => ⟨e1, ds, e2, R1, h2, fun xs H2 R2 v2 r2 => k _ H2 R2 (v1.trans v2) ⟨x, xs, rfl, v2.rd r1, r2⟩⟩⟩
def eTup (m : AM) : EM := fun env => (m env).bind fun p => if p.1.length ≤ sizeLine then some (.tup p.1, p.2) else none
def eLst (m : AM) : EM := fun env => (m env).bind fun p => if p.1.length ≤ sizeLine then some (.lst p.1, p.2) else none
theorem pd_tup {es : List Expr} {x1} {m : AM} (h : PDa X c es m) : PD X c (.Tuple es x1 pos) (eTup m) :=
  pe_wk (pe_tup h) fun σ H Q ⟨env, z, env', R, q, k⟩ => by
    unfold eTup at q
    obtain ⟨⟨ds, e1⟩, h1, q⟩ := Option.bind_eq_some_iff.mp q
    dsimp only at q
    split at q
    case isFalse => cases q
    case isTrue hl =>
      cases q
      refine ⟨env, ds, env', R, h1, fun xs H1 R1 v1 r1 => ⟨by rw [r1.length]; exact hl, fun p n => ?_⟩⟩
      exact k _ _ (R1.alloc n) (v1.trans (Evo.alloc n)) ⟨p, xs, rfl, R1.new n, upd_same, r1.grow (upd_old n)⟩
theorem pf_lst {es : List Expr} {m : AM} (h : PDa X c es m) : PDf X c (.List es pos) (eLst m) :=
  pe_wk (pe_lst h) fun σ H Q ⟨env, z, env', R, q, k⟩ => by
    unfold eLst at q
    obtain ⟨⟨ds, e1⟩, h1, q⟩ := Option.bind_eq_some_iff.mp q
    dsimp only at q
    split at q
    case isFalse => cases q
    case isTrue hl =>
      cases q
      refine ⟨env, ds, env', R, h1, fun xs H1 R1 v1 r1 => ⟨by rw [r1.length]; exact hl, fun p n => ?_⟩⟩
      exact k p _ H1 R1 v1 n ⟨xs, rfl, r1⟩
end
end NR

set_option Elab.async false
set_option linter.all false
set_option maxRecDepth 100000
set_option maxHeartbeats 4000000
set_option autoImplicit false
/-! The engine, part d: what operators do to data. -/
namespace NR
open PySem PySem.Spec L2

/-! == and != -/
mutual
def toP : D → PyData
  | .non => .none
  | .bl b => .bool b
  | .int i => .int i
  | .str x => .str x
  | .tup ds => .tuple (toPs ds)
  | .lst ds => .list (toPs ds)
  | _ => .none
def toPs : List D → List PyData
  | [] => []
  | d :: ds => toP d :: toPs ds
end
/-- data of at most so many levels -/
def dep : Nat → D → Bool
  | _, .non => true
  | _, .bl _ => true
  | _, .int _ => true
  | _, .str _ => true
  | n + 1, .tup ds => ds.all (dep n)
  | n + 1, .lst ds => ds.all (dep n)
  | _, _ => false
theorem toPs_map : ∀ ds : List D, toPs ds = ds.map toP
  | [] => rfl
  | d :: ds => by rw [toPs, toPs_map ds]; rfl
mutual
theorem dep_plain : ∀ (d : D) (n : Nat), dep n d = true → (toP d).plain = true ∧ (toP d).depth ≤ n
  | .non, n, _ => ⟨rfl, by rw [toP, PyData.depth]; omega⟩
  | .bl _, n, _ => ⟨rfl, by rw [toP, PyData.depth]; omega⟩
  | .int _, n, _ => ⟨rfl, by rw [toP, PyData.depth]; omega⟩
  | .str _, n, _ => ⟨rfl, by rw [toP, PyData.depth]; omega⟩
  | .tup ds, 0, h => by cases h
  | .lst ds, 0, h => by cases h
  | .tup ds, n + 1, h => by
    obtain ⟨a, b⟩ := dep_plains ds n h
    refine ⟨a, ?_⟩
    rw [toP, PyData.depth]; omega
  | .lst ds, n + 1, h => by
    obtain ⟨a, b⟩ := dep_plains ds n h
    refine ⟨a, ?_⟩
    rw [toP, PyData.depth]; omega
  | .dT _ _, 0, h => by cases h
  | .dT _ _, _ + 1, h => by cases h
  | .dK _ _, 0, h => by cases h
  | .dK _ _, _ + 1, h => by cases h
  | .scr _, 0, h => by cases h
  | .scr _, _ + 1, h => by cases h
theorem dep_plains : ∀ (ds : List D) (n : Nat), ds.all (dep n) = true → PyData.plainAll (toPs ds) = true ∧ PyData.depthAll (toPs ds) ≤ n
  | [], n, _ => ⟨rfl, Nat.zero_le _⟩
  | d :: ds, n, h => by
    rw [List.all_cons, Bool.and_eq_true] at h
    obtain ⟨a, b⟩ := dep_plain d n h.1
    obtain ⟨a2, b2⟩ := dep_plains ds n h.2
    refine ⟨?_, ?_⟩
    · rw [toPs, PyData.plainAll, a, a2]; rfl
    · rw [toPs, PyData.depthAll]; omega
end
section
variable {K : PySem.W.Frag} {F : Addr → Prop} {H : Hp}
mutual
theorem RD.dp : ∀ (d : D) (n : Nat) (v : V), dep n d = true → RD K F H d v → Dp K H v (toP d)
  | .non, n, v, _, r => by cases (show v = .non from r); exact .non
  | .bl b, n, v, _, r => by cases (show v = .bl b from r); exact .bl b
  | .int i, n, v, _, r => by cases (show v = .int i from r); exact .int i
  | .str x, n, v, _, r => by cases (show v = .str x from r); exact .str x
  | .tup ds, 0, v, h, _ => by cases h
  | .lst ds, 0, v, h, _ => by cases h
  | .tup ds, n + 1, v, h, ⟨a, xs, e, _, q, r⟩ => by subst e; exact .tup (SqT.of q) (RDs.dp ds n xs h r)
  | .lst ds, n + 1, v, h, ⟨a, xs, e, _, q, r⟩ => by subst e; exact .lst (SqL.of q) (RDs.dp ds n xs h r)
  | .dT _ _, 0, _, h, _ => by cases h
  | .dT _ _, _ + 1, _, h, _ => by cases h
  | .dK _ _, 0, _, h, _ => by cases h
  | .dK _ _, _ + 1, _, h, _ => by cases h
  | .scr _, 0, _, h, _ => by cases h
  | .scr _, _ + 1, _, h, _ => by cases h
theorem RDs.dp : ∀ (ds : List D) (n : Nat) (vs : List V), ds.all (dep n) = true → RDs K F H ds vs → DpAll K H vs (toPs ds)
  | [], n, vs, _, r => by cases (show vs = [] from r); exact .nil
  | d :: ds, n, vs, h, ⟨x, r, e, p, q⟩ => by
    subst e
    rw [List.all_cons, Bool.and_eq_true] at h
    exact .cons (RD.dp d n x h.1 p) (RDs.dp ds n r h.2 q)
end
theorem RK.dp {d : D} {n : Nat} {v : V} (h : dep n d = true) (r : RK K F H d v) : Dp K H v (toP d) := by
  cases d with
  | lst ds =>
    cases n with
    | zero => cases h
    | succ n =>
      obtain ⟨a, xs, e, q, r⟩ := r
      subst e
      exact .lst (SqL.of q) (RDs.dp ds n xs h r)
  | dT _ _ => cases n <;> cases h
  | dK _ _ => cases n <;> cases h
  | _ => exact RD.dp (F := F) _ n v h r
end
section
variable {X : Cx}
def rEqP (K : PySem.W.Frag) : R2 := fun x y H Q => ∃ d e, Dp K H x d ∧ Dp K H y e ∧ d.plain = true ∧ e.plain = true ∧ d.depth ≤ 12 ∧ Q (.bl (PyData.eqv d e)) H
def rNeP (K : PySem.W.Frag) : R2 := fun x y H Q => ∃ d e, Dp K H x d ∧ Dp K H y e ∧ d.plain = true ∧ e.plain = true ∧ d.depth ≤ 12 ∧ Q (.bl (!PyData.eqv d e)) H
theorem op_eqP (hu : X.A.units + 64 < cLine) : OpR X (compareOp .Eq) (rEqP X.K) := by
  intro pins s σ H x y v u Q I rx ry h
  obtain ⟨d, e, hd, he, sd, se, dp, q⟩ := h
  obtain ⟨as, r1⟩ := Dp.reads I d x v hd rx
  obtain ⟨bs, r2⟩ := Dp.reads I e y u he ry
  exact SeqAt.eq_plain r1 r2 sd se (by omega) ⟨.bl _, H, I, rfl, q⟩
theorem op_neP (hu : X.A.units + 64 < cLine) : OpR X (compareOp .NotEq) (rNeP X.K) := by
  intro pins s σ H x y v u Q I rx ry h
  obtain ⟨d, e, hd, he, sd, se, dp, q⟩ := h
  obtain ⟨as, r1⟩ := Dp.reads I d x v hd rx
  obtain ⟨bs, r2⟩ := Dp.reads I e y u he ry
  exact SeqAt.ne_plain r1 r2 sd se (by omega) ⟨.bl _, H, I, rfl, q⟩
/-- x in y: a list or a tuple of data -/
def rInP (K : PySem.W.Frag) (neg : Bool) : R2 := fun x y H Q => ∃ d ds, Dp K H x d ∧ (Dp K H y (.list ds) ∨ Dp K H y (.tuple ds)) ∧ d.plain = true ∧ PyData.plainAll ds = true ∧ d.depth ≤ 12 ∧ Q (.bl (if neg then !(ds.any fun y => PyData.eqv y d) else ds.any fun y => PyData.eqv y d)) H
theorem op_inP (hu : X.A.units + 64 < cLine) : OpR X (compareOp .In) (rInP X.K false) := by
  intro pins s σ H x y v u Q I rx ry h
  obtain ⟨d, ds, hd, he, sd, se, dp, q⟩ := h
  obtain ⟨as, r1⟩ := Dp.reads I d x v hd rx
  rcases he with he | he
  · obtain ⟨bs, r2⟩ := Dp.reads I _ y u he ry
    exact SeqAt.in_list_data r2 r1 se sd (by omega) ⟨.bl _, H, I, rfl, q⟩
  · obtain ⟨bs, r2⟩ := Dp.reads I _ y u he ry
    exact SeqAt.in_tuple_data r2 r1 se sd (by omega) ⟨.bl _, H, I, rfl, q⟩
theorem op_ninP (hu : X.A.units + 64 < cLine) : OpR X (compareOp .NotIn) (rInP X.K true) := by
  intro pins s σ H x y v u Q I rx ry h
  obtain ⟨d, ds, hd, he, sd, se, dp, q⟩ := h
  obtain ⟨as, r1⟩ := Dp.reads I d x v hd rx
  rcases he with he | he
  · obtain ⟨bs, r2⟩ := Dp.reads I _ y u he ry
    exact SeqAt.notIn_list_data r2 r1 se sd (by omega) ⟨.bl _, H, I, rfl, q⟩
  · obtain ⟨bs, r2⟩ := Dp.reads I _ y u he ry
    exact SeqAt.notIn_tuple_data r2 r1 se sd (by omega) ⟨.bl _, H, I, rfl, q⟩
end
def eqvD (a b : D) : Bool := PyData.eqv (toP a) (toP b)
def eqD (a b : D) : Option D := if dep 12 a && dep 12 b then some (.bl (eqvD a b)) else none
def neD (a b : D) : Option D := if dep 12 a && dep 12 b then some (.bl (!eqvD a b)) else none
def inL (a : D) (ds : List D) : Bool := ds.any fun y => eqvD y a
def sqD : D → Option (List D)
  | .tup ds => some ds
  | .lst ds => some ds
  | .scr ns => some (ns.map D.int)
  | _ => none
/-- a list's or a tuple's items -/
def itD : D → Option (List D)
  | .tup ds => some ds
  | .lst ds => some ds
  | _ => none
def inD (a b : D) : Option D := (itD b).bind fun ds => if dep 12 a && dep 13 b then some (.bl (inL a ds)) else none
def ninD (a b : D) : Option D := (itD b).bind fun ds => if dep 12 a && dep 13 b then some (.bl (!inL a ds)) else none
section
variable {K : PySem.W.Frag}
theorem opd_eq : OpD K (rEqP K) eqD := by
  intro c env σ H x y d e z Q R rx ry h k
  unfold eqD at h
  split at h
  case isFalse => cases h
  case isTrue hd =>
    cases h
    rw [Bool.and_eq_true] at hd
    exact ⟨toP d, toP e, rx.dp _ _ _ hd.1, ry.dp hd.2, (dep_plain d 12 hd.1).1, (dep_plain e 12 hd.2).1, (dep_plain d 12 hd.1).2, k _ H R Evo.refl rfl⟩
theorem opd_ne : OpD K (rNeP K) neD := by
  intro c env σ H x y d e z Q R rx ry h k
  unfold neD at h
  split at h
  case isFalse => cases h
  case isTrue hd =>
    cases h
    rw [Bool.and_eq_true] at hd
    exact ⟨toP d, toP e, rx.dp _ _ _ hd.1, ry.dp hd.2, (dep_plain d 12 hd.1).1, (dep_plain e 12 hd.2).1, (dep_plain d 12 hd.1).2, k _ H R Evo.refl rfl⟩
theorem in_data {F : Addr → Prop} {H : Hp} {d e : D} {ds : List D} {x y : V} (hi : itD e = some ds) (h1 : dep 12 d = true) (h2 : dep 13 e = true) (rx : RD K F H d x) (ry : RK K F H e y) :
    Dp K H x (toP d) ∧ (Dp K H y (.list (toPs ds)) ∨ Dp K H y (.tuple (toPs ds))) ∧ (toP d).plain = true ∧ PyData.plainAll (toPs ds) = true ∧ (toP d).depth ≤ 12 ∧ ((toPs ds).any fun y => PyData.eqv y (toP d)) = inL d ds := by
  have dy := ry.dp h2
  have pl := (dep_plain e 13 h2).1
  have an : ((toPs ds).any fun y => PyData.eqv y (toP d)) = inL d ds := by
    rw [toPs_map, List.any_map]; rfl
  cases e with
  | tup es =>
    cases hi
    exact ⟨rx.dp _ _ _ h1, .inr dy, (dep_plain d 12 h1).1, pl, (dep_plain d 12 h1).2, an⟩
  | lst es =>
    cases hi
    exact ⟨rx.dp _ _ _ h1, .inl dy, (dep_plain d 12 h1).1, pl, (dep_plain d 12 h1).2, an⟩
  | _ => cases hi
theorem opd_in : OpD K (rInP K false) inD := by
  intro c env σ H x y d e z Q R rx ry h k
  unfold inD at h
  obtain ⟨ds, h1, h⟩ := Option.bind_eq_some_iff.mp h
  split at h
  case isFalse => cases h
  case isTrue hd =>
    cases h
    rw [Bool.and_eq_true] at hd
    obtain ⟨a1, a2, a3, a4, a5, a6⟩ := in_data h1 hd.1 hd.2 rx ry
    refine ⟨_, _, a1, a2, a3, a4, a5, ?_⟩
    rw [if_neg Bool.false_ne_true, a6]
    exact k _ H R Evo.refl rfl
theorem opd_nin : OpD K (rInP K true) ninD := by
  intro c env σ H x y d e z Q R rx ry h k
  unfold ninD at h
  obtain ⟨ds, h1, h⟩ := Option.bind_eq_some_iff.mp h
  split at h
  case isFalse => cases h
  case isTrue hd =>
    cases h
    rw [Bool.and_eq_true] at hd
    obtain ⟨a1, a2, a3, a4, a5, a6⟩ := in_data h1 hd.1 hd.2 rx ry
    refine ⟨_, _, a1, a2, a3, a4, a5, ?_⟩
    rw [if_pos rfl, a6]
    exact k _ H R Evo.refl rfl

/-! numbers, texts, sequences -/
def addD : D → D → Option D
  | .int i, .int j => some (.int (i + j))
  | .str a, .str b => if a.length + b.length ≤ sizeLine then some (.str (a ++ b)) else none
  | .tup a, .tup b => if a.length + b.length ≤ sizeLine then some (.tup (a ++ b)) else none
  | .lst a, .lst b => if a.length + b.length ≤ sizeLine then some (.lst (a ++ b)) else none
  | _, _ => none
def subD : D → D → Option D
  | .int i, .int j => some (.int (i - j))
  | _, _ => none
/-- a product's size -/
def MulOk (i j : Int) : Prop := (-(2 ^ 64) < i ∧ i < 2 ^ 64) ∨ (-(2 ^ 64) < j ∧ j < 2 ^ 64) ∨ i.natAbs.log2 + j.natAbs.log2 < 1000000
instance (i j : Int) : Decidable (MulOk i j) := by unfold MulOk; infer_instance
def mulD : D → D → Option D
  | .int i, .int j => if MulOk i j then some (.int (i * j)) else none
  | _, _ => none
def DivOk (i j : Int) : Prop := (j ≠ 0 ∧ j.natAbs < 1073741824) ∨ (0 < j ∧ j.natAbs.log2 < 9000)
instance (i j : Int) : Decidable (DivOk i j) := by unfold DivOk; infer_instance
def fdivD : D → D → Option D
  | .int i, .int j => if DivOk i j then some (.int (i.fdiv j)) else none
  | _, _ => none
def modD : D → D → Option D
  | .int i, .int j => if j ≠ 0 then some (.int (i.fmod j)) else none
  | _, _ => none
def PowOk (i j : Int) : Prop := 0 ≤ j ∧ j ≤ 1000000 ∧ i.natAbs < 2 ^ 64
instance (i j : Int) : Decidable (PowOk i j) := by unfold PowOk; infer_instance
def powD : D → D → Option D
  | .int i, .int j => if PowOk i j then some (.int (i ^ j.toNat)) else none
  | _, _ => none
def shlD : D → D → Option D
  | .int i, .int j => if PowOk i j then some (.int (i * 2 ^ j.toNat)) else none
  | _, _ => none
def ltD : D → D → Option D
  | .int i, .int j => some (.bl (decide (i < j)))
  | _, _ => none
def leD : D → D → Option D
  | .int i, .int j => some (.bl (decide (i ≤ j)))
  | _, _ => none
def gtD : D → D → Option D
  | .int i, .int j => some (.bl (decide (j < i)))
  | _, _ => none
def geD : D → D → Option D
  | .int i, .int j => some (.bl (decide (j ≤ i)))
  | _, _ => none
def isNon : D → Bool
  | .non => true
  | _ => false
def isD : D → D → Option D
  | d, .non => some (.bl (isNon d))
  | .bl a, .bl b => some (.bl (a == b))
  | _, _ => none
def isntD : D → D → Option D
  | d, .non => some (.bl (!isNon d))
  | .bl a, .bl b => some (.bl (!(a == b)))
  | _, _ => none
def rAddA (K : PySem.W.Frag) : R2 := fun x y H Q => (rI0 fun i j => .int (i + j)) x y H Q ∨ (∃ i j, x = .str i ∧ y = .str j ∧ i.length + j.length ≤ sizeLine ∧ Q (.str (i ++ j)) H) ∨ rCatA K x y H Q ∨ rCat x y H Q
theorem opr_add {X : Cx} : OpR X (binaryOp .Add) (rAddA X.K) := op_add.or (op_add_str.or (op_catA.or op_cat))
theorem opd_add : OpD K (rAddA K) addD := by
  intro c env σ H x y d e z Q R rx ry h k
  cases d with
  | int i =>
    cases e with
    | int j =>
      cases h
      cases (show x = .int i from rx)
      cases (show y = .int j from ry)
      exact .inl ⟨i, j, rfl, rfl, k _ H R Evo.refl rfl⟩
    | _ => cases h
  | str i =>
    cases e with
    | str j =>
      cases (show x = .str i from rx)
      cases (show y = .str j from ry)
      have h' : (if i.length + j.length ≤ sizeLine then some (D.str (i ++ j)) else none) = some z := h
      split at h'
      case isFalse => cases h'
      case isTrue hl =>
        cases h'
        exact .inr (.inl ⟨i, j, rfl, rfl, hl, k _ H R Evo.refl rfl⟩)
    | _ => cases h
  | tup a =>
    cases e with
    | tup b =>
      obtain ⟨p, xs, rfl, n1, h1, r1⟩ := rx
      obtain ⟨q, ys, rfl, n2, h2, r2⟩ := ry
      have h' : (if a.length + b.length ≤ sizeLine then some (D.tup (a ++ b)) else none) = some z := h
      split at h'
      case isFalse => cases h'
      case isTrue hl =>
        cases h'
        refine .inr (.inr (.inl ⟨p, q, xs, ys, rfl, rfl, SqT.of h1, SqT.of h2, by rw [r1.length, r2.length]; exact hl, fun e => ?_, fun _ e => ?_, fun _ _ t nt => ?_⟩))
        · have : a = [] := by
            have l := r1.length
            rw [e] at l
            exact List.eq_nil_of_length_eq_zero l.symm
          subst this
          exact k _ H R Evo.refl ⟨q, ys, rfl, n2, h2, r2⟩
        · have : b = [] := by
            have l := r2.length
            rw [e] at l
            exact List.eq_nil_of_length_eq_zero l.symm
          subst this
          exact k _ H R Evo.refl ⟨p, xs, rfl, n1, h1, by rw [List.append_nil]; exact r1⟩
        · exact k _ _ (R.alloc nt) (Evo.alloc nt) ⟨t, _, rfl, R.new nt, upd_same, (r1.append r2).grow (upd_old nt)⟩
    | _ => cases h
  | lst a =>
    cases e with
    | lst b =>
      obtain ⟨p, xs, rfl, n1, h1, r1⟩ := rx
      obtain ⟨q, ys, rfl, h2, r2⟩ := ry
      have h' : (if a.length + b.length ≤ sizeLine then some (D.lst (a ++ b)) else none) = some z := h
      split at h'
      case isFalse => cases h'
      case isTrue hl =>
        cases h'
        exact .inr (.inr (.inr ⟨p, q, xs, ys, rfl, rfl, h1, h2, by rw [r1.length, r2.length]; exact hl, fun t nt => k _ _ (R.alloc nt) (Evo.alloc nt) ⟨t, _, rfl, R.new nt, upd_same, (r1.append r2).grow (upd_old nt)⟩⟩))
    | _ => cases h
  | _ => cases h
/-- xs + ys, a new list -/
def catD : D → D → Option D
  | .lst a, .lst b => if a.length + b.length ≤ sizeLine then some (.lst (a ++ b)) else none
  | _, _ => none
theorem opf_cat : OpF K rCat catD := by
  intro c env σ H x y d e z Q R rx ry h k
  cases d with
  | lst a =>
    cases e with
    | lst b =>
      obtain ⟨p, xs, rfl, n1, h1, r1⟩ := rx
      obtain ⟨q, ys, rfl, h2, r2⟩ := ry
      have h' : (if a.length + b.length ≤ sizeLine then some (D.lst (a ++ b)) else none) = some z := h
      split at h'
      case isFalse => cases h'
      case isTrue hl =>
        cases h'
        exact ⟨p, q, xs, ys, rfl, rfl, h1, h2, by rw [r1.length, r2.length]; exact hl, fun t nt => k t _ nt ⟨_, rfl, r1.append r2⟩⟩
    | _ => cases h
  | _ => cases h
theorem rd_int {F : Addr → Prop} {H : Hp} {i : Int} {v : V} (r : RD K F H (.int i) v) : v = .int i := r
theorem rk_int {F : Addr → Prop} {H : Hp} {i : Int} {v : V} (r : RK K F H (.int i) v) : v = .int i := r
theorem rk_bl {F : Addr → Prop} {H : Hp} {b : Bool} {v : V} (r : RK K F H (.bl b) v) : v = .bl b := r
theorem rd_bl {F : Addr → Prop} {H : Hp} {b : Bool} {v : V} (r : RD K F H (.bl b) v) : v = .bl b := r
theorem opd_sub : OpD K (rI0 fun i j => .int (i - j)) subD := by
  intro c env σ H x y d e z Q R rx ry h k
  cases d <;> cases e <;> first | cases h | skip
  rw [rd_int rx, rk_int ry]
  exact ⟨_, _, rfl, rfl, k _ H R Evo.refl rfl⟩
theorem opd_lt : OpD K (rI0 fun i j => .bl (decide (i < j))) ltD := by
  intro c env σ H x y d e z Q R rx ry h k
  cases d <;> cases e <;> first | cases h | skip
  rw [rd_int rx, rk_int ry]
  exact ⟨_, _, rfl, rfl, k _ H R Evo.refl rfl⟩
theorem opd_le : OpD K (rI0 fun i j => .bl (decide (i ≤ j))) leD := by
  intro c env σ H x y d e z Q R rx ry h k
  cases d <;> cases e <;> first | cases h | skip
  rw [rd_int rx, rk_int ry]
  exact ⟨_, _, rfl, rfl, k _ H R Evo.refl rfl⟩
theorem opd_gt : OpD K (rI0 fun i j => .bl (decide (j < i))) gtD := by
  intro c env σ H x y d e z Q R rx ry h k
  cases d <;> cases e <;> first | cases h | skip
  rw [rd_int rx, rk_int ry]
  exact ⟨_, _, rfl, rfl, k _ H R Evo.refl rfl⟩
theorem opd_ge : OpD K (rI0 fun i j => .bl (decide (j ≤ i))) geD := by
  intro c env σ H x y d e z Q R rx ry h k
  cases d <;> cases e <;> first | cases h | skip
  rw [rd_int rx, rk_int ry]
  exact ⟨_, _, rfl, rfl, k _ H R Evo.refl rfl⟩
def rMulA : R2 := fun x y H Q => (rI CMul fun i j => .int (i * j)) x y H Q ∨ (rI CMulW fun i j => .int (i * j)) x y H Q
theorem opr_mul {X : Cx} : OpR X (binaryOp .Mult) rMulA := op_mul.or op_mulW
theorem opd_mul : OpD K rMulA mulD := by
  intro c env σ H x y d e z Q R rx ry h k
  cases d <;> cases e <;> first | cases h | skip
  rename_i i j
  rw [rd_int rx, rk_int ry]
  have h' : (if MulOk i j then some (D.int (i * j)) else none) = some z := h
  split at h'
  case isFalse => cases h'
  case isTrue hc =>
    cases h'
    rcases hc with hc | hc | hc
    · exact .inl ⟨_, _, rfl, rfl, .inl hc, k _ H R Evo.refl rfl⟩
    · exact .inl ⟨_, _, rfl, rfl, .inr hc, k _ H R Evo.refl rfl⟩
    · exact .inr ⟨_, _, rfl, rfl, hc, k _ H R Evo.refl rfl⟩
def rDivA : R2 := fun x y H Q => (rI CDivN fun i j => .int (i.fdiv j)) x y H Q ∨ (rI CDivW fun i j => .int (i / j)) x y H Q
theorem opr_fdiv {X : Cx} : OpR X (binaryOp .FloorDiv) rDivA := op_fdivN.or op_fdivW
theorem opd_fdiv : OpD K rDivA fdivD := by
  intro c env σ H x y d e z Q R rx ry h k
  cases d <;> cases e <;> first | cases h | skip
  rename_i i j
  rw [rd_int rx, rk_int ry]
  have h' : (if DivOk i j then some (D.int (i.fdiv j)) else none) = some z := h
  split at h'
  case isFalse => cases h'
  case isTrue hc =>
    cases h'
    rcases hc with hc | hc
    · exact .inl ⟨_, _, rfl, rfl, hc, k _ H R Evo.refl rfl⟩
    · refine .inr ⟨_, _, rfl, rfl, hc, ?_⟩
      show Q (.int (i / j)) H
      rw [← Int.fdiv_eq_ediv_of_nonneg i (Int.le_of_lt hc.1)]
      exact k _ H R Evo.refl rfl
theorem opd_mod : OpD K (rI (fun _ j => j ≠ 0) fun i j => .int (i.fmod j)) modD := by
  intro c env σ H x y d e z Q R rx ry h k
  cases d <;> cases e <;> first | cases h | skip
  rename_i i j
  rw [rd_int rx, rk_int ry]
  have h' : (if j ≠ 0 then some (D.int (i.fmod j)) else none) = some z := h
  split at h'
  case isFalse => cases h'
  case isTrue hc =>
    cases h'
    exact ⟨_, _, rfl, rfl, hc, k _ H R Evo.refl rfl⟩
theorem opd_pow : OpD K (rI CPow fun i j => .int (i ^ j.toNat)) powD := by
  intro c env σ H x y d e z Q R rx ry h k
  cases d <;> cases e <;> first | cases h | skip
  rename_i i j
  rw [rd_int rx, rk_int ry]
  have h' : (if PowOk i j then some (D.int (i ^ j.toNat)) else none) = some z := h
  split at h'
  case isFalse => cases h'
  case isTrue hc =>
    cases h'
    exact ⟨_, _, rfl, rfl, hc, k _ H R Evo.refl rfl⟩
theorem opd_shl : OpD K (rI CPow fun i j => .int (i * 2 ^ j.toNat)) shlD := by
  intro c env σ H x y d e z Q R rx ry h k
  cases d <;> cases e <;> first | cases h | skip
  rename_i i j
  rw [rd_int rx, rk_int ry]
  have h' : (if PowOk i j then some (D.int (i * 2 ^ j.toNat)) else none) = some z := h
  split at h'
  case isFalse => cases h'
  case isTrue hc =>
    cases h'
    exact ⟨_, _, rfl, rfl, hc, k _ H R Evo.refl rfl⟩
theorem isNon_v {F : Addr → Prop} {H : Hp} : ∀ {d : D} {v : V}, RK K F H d v → decide (v = .non) = isNon d
  | .non, v, r => by cases (show v = .non from r); rfl
  | .bl b, v, r => by cases (show v = .bl b from r); rfl
  | .int i, v, r => by cases (show v = .int i from r); rfl
  | .str x, v, r => by cases (show v = .str x from r); rfl
  | .tup ds, _, ⟨a, xs, e, _⟩ => by subst e; rfl
  | .lst ds, _, ⟨a, xs, e, _⟩ => by subst e; rfl
  | .dT _ ds, _, ⟨a, xs, e, _⟩ => by subst e; rfl
  | .dK _ ds, _, ⟨a, xs, e, _⟩ => by subst e; rfl
  | .scr ns, _, ⟨a, e, _⟩ => by subst e; rfl
def rIsA : R2 := fun x y H Q => (y = .non ∧ Q (.bl (decide (x = .non))) H) ∨ rIsB x y H Q
def rNtA : R2 := fun x y H Q => (y = .non ∧ Q (.bl (!decide (x = .non))) H) ∨ rNotB x y H Q
theorem opr_is {X : Cx} : OpR X (compareOp .Is) rIsA := op_isN.or op_isBl
theorem opr_isnt {X : Cx} : OpR X (compareOp .IsNot) rNtA := op_notN.or op_notBl
theorem dec_beq (a b : Bool) : decide (a = b) = (a == b) := by cases a <;> cases b <;> rfl
theorem opd_is : OpD K rIsA isD := by
  intro c env σ H x y d e z Q R rx ry h k
  cases e with
  | non =>
    have h' : some (D.bl (isNon d)) = some z := by cases d <;> exact h
    cases h'
    exact .inl ⟨ry, k _ H R Evo.refl (by rw [isNon_v rx.rk]; rfl)⟩
  | bl b =>
    cases d <;> first | cases h | skip
    rw [rd_bl rx, rk_bl ry]
    exact .inr ⟨_, _, rfl, rfl, k _ H R Evo.refl (by rw [dec_beq]; rfl)⟩
  | _ => cases d <;> cases h
theorem opd_isnt : OpD K rNtA isntD := by
  intro c env σ H x y d e z Q R rx ry h k
  cases e with
  | non =>
    have h' : some (D.bl (!isNon d)) = some z := by cases d <;> exact h
    cases h'
    exact .inl ⟨ry, k _ H R Evo.refl (by rw [isNon_v rx.rk]; rfl)⟩
  | bl b =>
    cases d <;> first | cases h | skip
    rw [rd_bl rx, rk_bl ry]
    exact .inr ⟨_, _, rfl, rfl, k _ H R Evo.refl (by rw [dec_beq]; rfl)⟩
  | _ => cases d <;> cases h
end
end NR

set_option Elab.async false
set_option linter.all false
set_option maxRecDepth 100000
set_option maxHeartbeats 4000000
set_option autoImplicit false
/-! The engine, part e: statements, loops, comprehensions. -/
namespace NR
open PySem PySem.Spec L2
section
variable {X : Cx} {c : Cn} {e a b tg it : Expr} {st : Stmt} {sts rest : List Stmt} {pos : Pos}
theorem RsOk.next {K : PySem.W.Frag} {D : Ends} {env e1 : Ev} {σ σ1 : L2.St} {H H1 : Hp} (v : Evo c env σ H e1 σ1 H1) : ∀ {r : Rs}, RsOk K c D env σ H r → RsOk K c D e1 σ1 H1 r
  | .nx _, h => fun s G R w => h s G R (v.trans w)
  | .bk _, h => fun s G R w => h s G R (v.trans w)
  | .ct _, h => fun s G R w => h s G R (v.trans w)
  | .rt _ _, h => fun x s G R w r => h x s G R (v.trans w) r
  | .ro _ _, h => fun x o s G R w r => h x o s G R (v.trans w) r
def sSkip : SM := fun env => some (.nx env)
def sSeq (m n : SM) : SM := fun env => (m env).bind fun r => match r with
  | .nx e => n e
  | r => some r
theorem qs_nil : PDss X c [] sSkip := pss_wk pss_nil fun D σ H ⟨env, r, R, q, k⟩ => by
  cases q
  exact k σ H R Evo.refl
theorem qs_one {m : SM} (h : PDs X c st m) : PDss X c [st] m := pss_one h
theorem qs_cons {m n : SM} (h1 : PDs X c st m) (h2 : PDss X c rest n) : PDss X c (st :: rest) (sSeq m n) := pss_wk (pss_cons h1 h2) fun D σ H ⟨env, r, R, q, k⟩ => by
  unfold sSeq at q
  obtain ⟨r1, h1, q⟩ := Option.bind_eq_some_iff.mp q
  refine ⟨env, r1, R, h1, ?_⟩
  cases r1 with
  | nx e1 => exact fun σ' H' R' v' => ⟨e1, r, R', q, k.next v'⟩
  | bk e1 => cases q; exact k
  | ct e1 => cases q; exact k
  | rt d e1 => cases q; exact k
  | ro d e1 => cases q; exact k
theorem qs_pass : PDs X c (.Pass pos) sSkip := ps_wk ps_pass fun D σ H ⟨env, r, R, q, k⟩ => by
  cases q
  exact k σ H R Evo.refl
def sBreak : SM := fun env => some (.bk env)
def sCont : SM := fun env => some (.ct env)
theorem qs_break : PDs X c (.Break pos) sBreak := ps_wk ps_break fun D σ H ⟨env, r, R, q, k⟩ => by
  cases q
  exact k σ H R Evo.refl
theorem qs_continue : PDs X c (.Continue pos) sCont := ps_wk ps_continue fun D σ H ⟨env, r, R, q, k⟩ => by
  cases q
  exact k σ H R Evo.refl
def sNever : SM := fun _ => none
theorem qs_never : PDs X c st sNever := ps_wk ps_never fun D σ H ⟨env, r, R, q, k⟩ => by cases q
def sRet (m : EM) : SM := fun env => (m env).bind fun p => some (.rt p.1 p.2)
theorem qs_ret {m : EM} (h : PD X c e m) : PDs X c (.Return (some e) pos) (sRet m) := ps_wk (ps_ret h) fun D σ H ⟨env, r, R, q, k⟩ => by
  unfold sRet at q
  obtain ⟨⟨d, e1⟩, h1, q⟩ := Option.bind_eq_some_iff.mp q
  cases q
  exact ⟨env, d, e1, R, h1, fun v H' R' v' r' => k v σ H' R' v' r'⟩
/-- a new object is handed back -/
def sRetO (m : EM) : SM := fun env => (m env).bind fun p => some (.ro p.1 p.2)
theorem qs_retO {m : EM} (h : PDf X c e m) : PDs X c (.Return (some e) pos) (sRetO m) := ps_wk (ps_ret h) fun D σ H ⟨env, r, R, q, k⟩ => by
  unfold sRetO at q
  obtain ⟨⟨d, e1⟩, h1, q⟩ := Option.bind_eq_some_iff.mp q
  cases q
  exact ⟨env, d, e1, R, h1, fun a o H' R' v' n r' => k a o σ H' R' v' n r'⟩
def sRetN : SM := fun env => some (.rt .non env)
theorem qs_retN : PDs X c (.Return none pos) sRetN := ps_wk ps_retN fun D σ H ⟨env, r, R, q, k⟩ => by
  cases q
  exact k _ σ H R Evo.refl rfl
def sIf (mt : BM) (m n : SM) : SM := fun env => (mt env).bind fun p => if p.1 = true then m p.2 else n p.2
theorem qs_if {t : Expr} {x y : List Stmt} {mt : BM} {m n : SM} (ht : PDb X c t mt) (hx : PDss X c x m) (hy : PDss X c y n) : PDs X c (.If t x y pos) (sIf mt m n) :=
  ps_wk (ps_if ht hx hy) fun D σ H ⟨env, r, R, q, k⟩ => by
    unfold sIf at q
    obtain ⟨⟨p, e1⟩, h1, q⟩ := Option.bind_eq_some_iff.mp q
    refine ⟨env, p, e1, R, h1, fun H1 R1 v1 => ?_⟩
    cases p with
    | true => exact ⟨e1, r, R1, q, k.next v1⟩
    | false => exact ⟨e1, r, R1, q, k.next v1⟩
/-- a value dropped -/
def sDrop (m : EM) : SM := fun env => (m env).bind fun p => some (.nx p.2)
theorem qs_expr {m : EM} (h : PD X c e m) (hs : swapsWith e none pos.line X.env = pure false := by rfl) : PDs X c (.Expr e pos) (sDrop m) := ps_wk (ps_expr h hs) fun D σ H ⟨env, r, R, q, k⟩ => by
  unfold sDrop at q
  obtain ⟨⟨d, e1⟩, h1, q⟩ := Option.bind_eq_some_iff.mp q
  cases q
  exact ⟨env, d, e1, R, h1, fun v H' R' v' r' => k σ H' R' v'⟩

/-! names stored -/
theorem asg_wk {te te' : TE} {g : TG} (h : PS X st (tAsg te g)) (k : ∀ σ H Q, te' σ H Q → te σ H Q) : PS X st (tAsg te' g) := ps_wk h fun D σ H q => k σ H _ q
def sSet (i : Nat) (m : EM) : SM := fun env => (m env).bind fun p => if i < p.2.length then some (.nx (p.2.set i (.val p.1))) else none
def sOwn (i : Nat) (m : EM) : SM := fun env => (m env).bind fun p => if i < p.2.length then some (.nx (p.2.set i (.own p.1))) else none
theorem qs_set {i : Nat} {m : EM} (h : PS X st (tAsg (TM X.K c m) (gName i))) : PDs X c st (sSet i m) := ps_wk h fun D σ H ⟨env, r, R, q, k⟩ => by
  unfold sSet at q
  obtain ⟨⟨d, e1⟩, h1, q⟩ := Option.bind_eq_some_iff.mp q
  dsimp only at q
  split at q
  case isFalse => cases q
  case isTrue hi =>
    cases q
    refine ⟨env, d, e1, R, h1, fun v H' R' v' r' => ?_⟩
    obtain ⟨R2, v2⟩ := R'.setVal hi r'
    exact k _ _ R2 (v'.trans v2)
theorem qs_own {i : Nat} {m : EM} (h : PS X st (tAsg (TMf X.K c m) (gName i))) : PDs X c st (sOwn i m) := ps_wk h fun D σ H ⟨env, r, R, q, k⟩ => by
  unfold sOwn at q
  obtain ⟨⟨d, e1⟩, h1, q⟩ := Option.bind_eq_some_iff.mp q
  dsimp only at q
  split at q
  case isFalse => cases q
  case isTrue hi =>
    cases q
    refine ⟨env, d, e1, R, h1, fun p o H1 R1 v1 n r' => ?_⟩
    obtain ⟨R2, v2⟩ := R1.setOwn hi n r'
    exact k _ _ R2 (v1.trans v2)

/-! targets -/
def gSet (i : Nat) : GM := fun d env => if i < env.length then some (env.set i (.val d)) else none
theorem Off.set {vs : List Nat} {σ : L2.St} {i : Nat} {x : Option V} (h : i ∈ vs) : Off vs σ (σ.set i x) := ⟨List.length_set, fun j hj => set_ne fun e => hj (e ▸ h)⟩
theorem Off.refl {vs : List Nat} {σ : L2.St} : Off vs σ σ := ⟨rfl, fun _ _ => rfl⟩
theorem Off.trans {vs : List Nat} {σ σ1 σ2 : L2.St} (h : Off vs σ σ1) (k : Off vs σ1 σ2) : Off vs σ σ2 := ⟨k.1.trans h.1, fun j hj => (k.2 j hj).trans (h.2 j hj)⟩
theorem qg_name {i : Nat} {vs : List Nat} (h : PG X e (gName i)) (hv : i ∈ vs := by decide) : PDg X c vs e (gSet i) := pg_wk h fun v σ H Q ⟨env, d, env', R, r, q, k⟩ => by
  unfold gSet at q
  split at q
  case isFalse => cases q
  case isTrue hi =>
    cases q
    obtain ⟨R2, v2⟩ := R.setVal hi r
    exact k _ _ R2 v2 (Off.set hv)
abbrev GMs := List D → Ev → Option Ev
def TMgs (K : PySem.W.Frag) (c : Cn) (vs : List Nat) (m : GMs) : TGs := fun xs σ H Q => ∃ env ds env', Rel K c env σ H ∧ RDs K (Fb c env σ) H ds xs ∧ m ds env = some env' ∧ ∀ σ' H', Rel K c env' σ' H' → Evo c env σ H env' σ' H' → Off vs σ σ' → Q σ' H'
def gNone : GMs := fun ds env => match ds with
  | [] => some env
  | _ => none
def gMore (g : GM) (r : GMs) : GMs := fun ds env => match ds with
  | [] => none
  | d :: ds => (g d env).bind fun e => r ds e
theorem pgs_wk {es : List Expr} {t t' : TGs} (h : PGs X es t) (k : ∀ vs σ H Q, t' vs σ H Q → t vs σ H Q) : PGs X es t' := ⟨fun pins s σ H vs us Q I r q => h.run pins s σ H vs us Q I r (k vs σ H Q q)⟩
theorem qg_none {ws : List Nat} : PGs X [] (TMgs X.K c ws gNone) := pgs_wk pgs_nil fun vs σ H Q ⟨env, ds, env', R, r, q, k⟩ => by
  cases ds with
  | nil => cases q; exact ⟨r, k σ H R Evo.refl Off.refl⟩
  | cons => cases q
theorem qg_more {es : List Expr} {g : GM} {r : GMs} {ws : List Nat} (h1 : PDg X c ws e g) (h2 : PGs X es (TMgs X.K c ws r)) (hs : (assignEach (e :: es) X.env).map (·.2) = assign e X.env :: (assignEach es X.env).map (·.2) := by rfl) : PGs X (e :: es) (TMgs X.K c ws (gMore g r)) :=
  pgs_wk (pgs_cons h1 h2 hs) fun vs σ H Q ⟨env, ds, env', R, rr, q, k⟩ => by
    cases ds with
    | nil => cases q
    | cons d ds =>
      obtain ⟨x, xs, e1, r1, r2⟩ := rr
      unfold gMore at q
      obtain ⟨e2, q1, q2⟩ := Option.bind_eq_some_iff.mp q
      exact ⟨x, xs, e1, env, d, e2, R, r1, q1, fun σ' H' R' v' o' => ⟨e2, ds, env', R', v'.rds r2, q2, fun σ2 H2 R2 v2 o2 => k σ2 H2 R2 (v'.trans v2) (o'.trans o2)⟩⟩
def gTups (n : Nat) (r : GMs) : GM := fun d env => match d with
  | .tup ds => if ds.length = n then r ds env else none
  | _ => none
theorem qg_tup {es : List Expr} {k1 n : Nat} {r : GMs} {ws : List Nat} (hc : X.calm = true) (h : PGs X es (TMgs X.K c ws r)) (hn : (assignEach es X.env).length = n := by rfl) (hst : (assignEach es X.env).findIdx? (·.1) = none := by rfl) : PDg X c ws (.Tuple es k1 pos) (gTups n r) :=
  pg_wk (pg_tup hc h hn hst) fun v σ H Q ⟨env, d, env', R, rr, q, k⟩ => by
    cases d with
    | tup ds =>
      obtain ⟨p, xs, e1, _, h1, h2⟩ := rr
      have q' : (if ds.length = n then r ds env else none) = some env' := q
      split at q'
      case isFalse => cases q'
      case isTrue hl => exact ⟨p, xs, e1, SqT.of h1, h2.length.trans hl, env, ds, env', R, h2, q', k⟩
    | _ => cases q
def sAsg (m : EM) (g : GM) : SM := fun env => (m env).bind fun p => (g p.1 p.2).bind fun e => some (.nx e)
theorem qs_asg {m : EM} {g : GM} {ws : List Nat} (h : PS X st (tAsg (TM X.K c m) (TMg X.K c ws g))) : PDs X c st (sAsg m g) := ps_wk h fun D σ H ⟨env, r, R, q, k⟩ => by
  unfold sAsg at q
  obtain ⟨⟨d, e1⟩, h1, q⟩ := Option.bind_eq_some_iff.mp q
  obtain ⟨e2, h2, q⟩ := Option.bind_eq_some_iff.mp q
  cases q
  exact ⟨env, d, e1, R, h1, fun v H' R' v' r' => ⟨e1, d, e2, R', r', h2, fun σ2 H2 R2 v2 _ => k σ2 H2 R2 (v'.trans v2)⟩⟩
/-- x op= e -/
def sAug (i : Nat) (g : D → D → Option D) (m : EM) : SM := fun env => match env[i]? with
  | some (.val d) => (m env).bind fun p => (g d p.1).bind fun z => if i < p.2.length then some (.nx (p.2.set i (.val z))) else none
  | _ => none
theorem qs_aug {i : Nat} {r : R2} {g : D → D → Option D} {m : EM} (hd : OpD X.K r g) (h : PS X st (tAug i (TM X.K c m) r)) : PDs X c st (sAug i g m) := ps_wk h fun D σ H ⟨env, rr, R, q, k⟩ => by
  unfold sAug at q
  split at q
  case h_2 => cases q
  case h_1 d hg =>
    obtain ⟨⟨e, e1⟩, h1, q⟩ := Option.bind_eq_some_iff.mp q
    obtain ⟨z, h2, q⟩ := Option.bind_eq_some_iff.mp q
    dsimp only at q
    split at q
    case isFalse => cases q
    case isTrue hi =>
      cases q
      obtain ⟨x, hx, rx⟩ := R.val i d hg
      refine ⟨x, hx, env, e, e1, R, h1, fun y H1 R1 v1 ry => ?_⟩
      refine hd c e1 σ H1 x y d e z _ R1 (v1.rd rx) ry.rk h2 fun v H2 R2 v2 rz => ?_
      obtain ⟨R3, v3⟩ := R2.setVal hi rz
      exact k _ _ R3 (v1.trans (v2.trans v3))

/-! what a loop walks -/
/-- what stays: the objects that no one changes; what is allowed -/
def Kp (c : Cn) (env : Ev) (σ : L2.St) (H : Hp) (c2 : Cn) (env2 : Ev) (σ2 : L2.St) (H2 : Hp) : Prop :=
  (∀ b o, H b = some o → ¬ c.B b → b ∉ c.τ → ¬ Own env σ b → H2 b = some o ∧ ¬ c2.B b ∧ b ∉ c2.τ ∧ ¬ Own env2 σ2 b) ∧ ∀ b o, H b = some o → ¬ Fb c env σ b → H2 b = some o ∧ ¬ Fb c2 env2 σ2 b
theorem Evo.kp {env env2 : Ev} {σ σ2 : L2.St} {H H2 : Hp} (v : Evo c env σ H env2 σ2 H2) : Kp c env σ H c env2 σ2 H2 :=
  ⟨fun b o h nB nt nO => ⟨(v b o h nt nO).1, nB, nt, (v b o h nt nO).2⟩, v.fb⟩
theorem Kp.trans {c2 c3 : Cn} {env env2 env3 : Ev} {σ σ2 σ3 : L2.St} {H H2 H3 : Hp} (v : Kp c env σ H c2 env2 σ2 H2) (w : Kp c2 env2 σ2 H2 c3 env3 σ3 H3) : Kp c env σ H c3 env3 σ3 H3 :=
  ⟨fun b o h a1 a2 a3 => let ⟨p1, p2, p3, p4⟩ := v.1 b o h a1 a2 a3; w.1 b o p1 p2 p3 p4, fun b o h n => w.2 b o (v.2 b o h n).1 (v.2 b o h n).2⟩
/-- from here on J yields ds -/
def WOK (K : PySem.W.Frag) (c : Cn) (env : Ev) (σ : L2.St) (H : Hp) (J : It) (ds : List D) : Prop :=
  ∀ c2 env2 σ2 H2, Rel K c2 env2 σ2 H2 → Kp c env σ H c2 env2 σ2 H2 → ∀ i : Nat,
    (∀ d, ds[i]? = some d → J.go i H2 ∧ ∀ x H3, J.yld i H2 x H3 → (∀ b o, H2 b = some o → H3 b = some o) ∧ RD K (Fb c2 env2 σ2) H3 d x) ∧ (ds[i]? = none → J.stop i H2)
def TMi (K : PySem.W.Frag) (c : Cn) (m : AM) : TI := fun σ H R => ∃ env ds env', Rel K c env σ H ∧ m env = some (ds, env') ∧ ∀ J H', Rel K c env' σ H' → Evo c env σ H env' σ H' → WOK K c env' σ H' J ds → R J H'
abbrev PDi (X : Cx) (c : Cn) (tg e : Expr) (m : AM) : Prop := PI X tg e (TMi X.K c m)
theorem pi_or {t u : TI} (h : PI X tg e t) (k : PI X tg e u) : PI X tg e (fun σ H R => t σ H R ∨ u σ H R) := ⟨fun pins s σ H R I q => q.elim (h.run pins s σ H R I) (k.run pins s σ H R I)⟩
theorem WOK.lst {K : PySem.W.Frag} {env : Ev} {σ : L2.St} {H : Hp} {p : Addr} {ds : List D} (r : RD K (Fb c env σ) H (.lst ds) (.ref p)) : WOK K c env σ H (Itl K p) ds := by
  intro c2 env2 σ2 H2 R2 v2 i
  obtain ⟨q, xs, e, n, h, rs⟩ := r.go v2.2
  cases e
  refine ⟨fun d hd => ?_, fun hd => ?_⟩
  · obtain ⟨x, hx, rx⟩ := rs.get hd
    refine ⟨⟨xs, x, SqL.of h, hx⟩, fun y H3 ⟨e3, hy⟩ => ?_⟩
    subst e3
    have e4 := hy xs (SqL.of h)
    rw [hx] at e4
    cases e4
    exact ⟨fun b o z => z, rx⟩
  · exact ⟨xs, SqL.of h, by rw [rs.length]; exact List.getElem?_eq_none_iff.mp hd⟩
theorem WOK.scr {K : PySem.W.Frag} {env : Ev} {σ : L2.St} {H : Hp} {p : Addr} {ns : List Int} (r : RD K (Fb c env σ) H (.scr ns) (.ref p)) : WOK K c env σ H (Itl K p) (ns.map D.int) := by
  intro c2 env2 σ2 H2 R2 v2 i
  obtain ⟨q, e, h⟩ := r.go v2.2
  cases e
  have h := scr_sq h
  refine ⟨fun d hd => ?_, fun hd => ?_⟩
  · rw [List.getElem?_map] at hd
    obtain ⟨n, hn, e⟩ := Option.map_eq_some_iff.mp hd
    subst e
    have hx : (ns.map V.int)[i]? = some (V.int n) := by rw [List.getElem?_map, hn]; rfl
    refine ⟨⟨_, _, h, hx⟩, fun y H3 ⟨e3, hy⟩ => ?_⟩
    subst e3
    have e4 := hy _ h
    rw [hx] at e4
    cases e4
    exact ⟨fun b o z => z, rfl⟩
  · exact ⟨_, h, by rw [List.length_map]; simpa using hd⟩
theorem WOK.tup {K : PySem.W.Frag} {env : Ev} {σ : L2.St} {H : Hp} {p : Addr} {ds : List D} (r : RD K (Fb c env σ) H (.tup ds) (.ref p)) : WOK K c env σ H (Itt K p) ds := by
  intro c2 env2 σ2 H2 R2 v2 i
  obtain ⟨q, xs, e, n, h, rs⟩ := r.go v2.2
  cases e
  refine ⟨fun d hd => ?_, fun hd => ?_⟩
  · obtain ⟨x, hx, rx⟩ := rs.get hd
    refine ⟨⟨xs, x, SqT.of h, hx⟩, fun y H3 ⟨e3, hy⟩ => ?_⟩
    subst e3
    have e4 := hy xs (SqT.of h)
    rw [hx] at e4
    cases e4
    exact ⟨fun b o z => z, rx⟩
  · exact ⟨xs, SqT.of h, by rw [rs.length]; exact List.getElem?_eq_none_iff.mp hd⟩
/-- a list or a tuple -/
def iSeq (m : EM) : AM := fun env => (m env).bind fun p => (sqD p.1).bind fun ds => some (ds, p.2)
theorem qi_seq {m : EM} (h : PD X c e m) : PDi X c tg e (iSeq m) := pi_wk (pi_or (pi_list h) (pi_tup h)) fun σ H Q ⟨env, ds, env', R, q, k⟩ => by
  unfold iSeq at q
  obtain ⟨⟨d, e1⟩, h1, q⟩ := Option.bind_eq_some_iff.mp q
  obtain ⟨es, h2, q⟩ := Option.bind_eq_some_iff.mp q
  cases q
  cases d with
  | lst ds =>
    cases h2
    refine .inl ⟨env, _, e1, R, h1, fun v H' R' v' r' => ?_⟩
    obtain ⟨p, xs, e2, n, h3, r3⟩ := id r'
    subst e2
    exact ⟨p, rfl, ⟨xs, SqL.of h3⟩, k _ H' R' v' (WOK.lst r')⟩
  | scr ns =>
    cases h2
    refine .inl ⟨env, _, e1, R, h1, fun v H' R' v' r' => ?_⟩
    obtain ⟨p, e2, h3⟩ := id r'
    subst e2
    exact ⟨p, rfl, ⟨_, scr_sq h3⟩, k _ H' R' v' (WOK.scr r')⟩
  | tup ds =>
    cases h2
    refine .inr ⟨env, _, e1, R, h1, fun v H' R' v' r' => ?_⟩
    obtain ⟨p, xs, e2, n, h3, r3⟩ := id r'
    subst e2
    exact ⟨p, rfl, ⟨xs, SqT.of h3⟩, k _ H' R' v' (WOK.tup r')⟩
  | _ => cases h2
/-- ranges -/
def rangeL (lo : Int) (n : Nat) : List D := (List.range n).map fun i => D.int (lo + (i : Nat))
theorem WOK.rng {K : PySem.W.Frag} {env : Ev} {σ : L2.St} {H : Hp} {lo : Int} {n : Nat} : WOK K c env σ H (Itr lo n) (rangeL lo n) := by
  intro c2 env2 σ2 H2 R2 v2 i
  unfold rangeL
  refine ⟨fun d hd => ?_, fun hd => ?_⟩
  · rw [List.getElem?_map] at hd
    obtain ⟨j, hj, e⟩ := Option.map_eq_some_iff.mp hd
    obtain ⟨hl, e2⟩ := List.getElem?_eq_some_iff.mp hj
    rw [List.length_range] at hl
    rw [List.getElem_range] at e2
    subst e2
    subst e
    exact ⟨hl, fun x H3 ⟨e3, e4⟩ => ⟨fun b o z => by rw [e3]; exact z, e4⟩⟩
  · have : n ≤ i := by simpa using hd
    exact this
def RngOk (i : Int) : Prop := -(2 ^ 62) ≤ i ∧ i < 2 ^ 62
instance (i : Int) : Decidable (RngOk i) := by unfold RngOk; infer_instance
def iRange1 (m : AM) : AM := fun env => (m env).bind fun p => match p.1 with
  | [.int j] => if RngOk j then some (rangeL 0 j.toNat, p.2) else none
  | _ => none
def iRange2 (m : AM) : AM := fun env => (m env).bind fun p => match p.1 with
  | [.int i, .int j] => if RngOk i ∧ RngOk j then some (rangeL i (j - i).toNat, p.2) else none
  | _ => none
theorem qi_range1 {m : AM} {p1 : Pos} {x : Expr} (hg : Gl X "range") (hm : X.mg "range" = none) (h : PDa X c [x] m) (hs : starEach [x] X.env = [(false, eval x X.env)] := by rfl) : PDi X c tg (.Call (.Name "range" p1) [x] [] pos) (iRange1 m) :=
  pi_wk (pi_range1 hg hm h hs) fun σ H Q ⟨env, ds, env', R, q, k⟩ => by
    unfold iRange1 at q
    obtain ⟨⟨d, e1⟩, h1, q⟩ := Option.bind_eq_some_iff.mp q
    refine ⟨env, d, e1, R, h1, fun vs H' R' v' r' => ?_⟩
    dsimp only at q
    split at q
    case h_1 j =>
      split at q
      case isFalse => cases q
      case isTrue hr =>
        cases q
        obtain ⟨x, r, e2, r2, r3⟩ := r'
        cases (show x = .int j from r2)
        cases (show r = [] from r3)
        exact ⟨j, e2, hr.1, hr.2, k _ H' R' v' WOK.rng⟩
    case h_2 => cases q
theorem qi_range2 {m : AM} {p1 : Pos} {x y : Expr} (hg : Gl X "range") (hm : X.mg "range" = none) (h : PDa X c [x, y] m) (hs : starEach [x, y] X.env = [(false, eval x X.env), (false, eval y X.env)] := by rfl) (hs2 : starEach [y] X.env = [(false, eval y X.env)] := by rfl) : PDi X c tg (.Call (.Name "range" p1) [x, y] [] pos) (iRange2 m) :=
  pi_wk (pi_range2 hg hm h hs hs2) fun σ H Q ⟨env, ds, env', R, q, k⟩ => by
    unfold iRange2 at q
    obtain ⟨⟨d, e1⟩, h1, q⟩ := Option.bind_eq_some_iff.mp q
    refine ⟨env, d, e1, R, h1, fun vs H' R' v' r' => ?_⟩
    dsimp only at q
    split at q
    case h_1 i j =>
      split at q
      case isFalse => cases q
      case isTrue hr =>
        cases q
        obtain ⟨x, r, e2, r2, r3⟩ := r'
        obtain ⟨y, r4, e5, r6, r7⟩ := r3
        cases (show x = .int i from r2)
        cases (show y = .int j from r6)
        cases (show r4 = [] from r7)
        subst e5
        exact ⟨i, j, e2, ⟨hr.1.1, hr.1.2, hr.2.1, hr.2.2⟩, k _ H' R' v' WOK.rng⟩
    case h_2 => cases q

/-! for -/
def forL (dead : List Nat) (g : GM) (body : SM) : List D → SM
  | [], env => some (.nx env)
  | d :: ds, env => (g d env).bind fun e1 => (body e1).bind fun r => match r with
    | .nx e => forL dead g body ds (clr dead e)
    | .ct e => forL dead g body ds (clr dead e)
    | .bk e => some (.nx (clr dead e))
    | r => some r
def sFor (dead : List Nat) (w : AM) (g : GM) (body : SM) : SM := fun env => (w env).bind fun p => forL dead g body p.1 (clr dead p.2)
theorem qs_for {w : AM} {g : GM} {m : SM} {ws : List Nat} (dead : List Nat) (hp : PassesOwn (model X.prog X.w) X.A X.env X.xe) (hc : X.calm = true) (hi : PDi X c tg it w) (hg : PDg X c ws tg g) (hb : PDss X c sts m)
    (hs : ∀ x, foldedSetIterable it X.env x = pure x := by intro _; rfl) : PDs X c (.For tg it sts [] pos) (sFor dead w g m) := ps_wk (ps_for hp hc hi hg hb hs) fun D σ H ⟨env, r, R, q, k⟩ => by
  unfold sFor at q
  obtain ⟨⟨ds, e1⟩, h1, q⟩ := Option.bind_eq_some_iff.mp q
  refine ⟨env, ds, e1, R, h1, fun J H1 R1 v1 wok => ?_⟩
  refine ⟨fun i mm σ2 H2 => mm = ds.length - i ∧ i ≤ ds.length ∧ ∃ e2, Rel X.K c e2 σ2 H2 ∧ Evo c e1 σ H1 e2 σ2 H2 ∧ forL dead g m (ds.drop i) e2 = some r, ⟨_, rfl, Nat.zero_le _, clr dead e1, (R1.clr dead).1, (R1.clr dead).2, q⟩, ?_⟩
  rintro i mm σ2 H2 ⟨rfl, hle, e2, R2, v2, hf⟩
  have wk := wok c e2 σ2 H2 R2 v2.kp i
  cases hd : ds[i]? with
  | none =>
    left
    refine ⟨wk.2 hd, ?_⟩
    rw [List.drop_eq_nil_of_le (List.getElem?_eq_none_iff.mp hd)] at hf
    cases hf
    exact k σ2 H2 R2 (v1.trans v2)
  | some d =>
    right
    obtain ⟨go, yl⟩ := wk.1 d hd
    have hlt := lt_of_get hd
    have hdr : ds.drop i = d :: ds.drop (i + 1) := by
      rw [List.drop_eq_getElem_cons hlt]
      congr 1
      exact Option.some.inj ((List.getElem?_eq_getElem hlt).symm.trans hd)
    rw [hdr] at hf
    unfold forL at hf
    obtain ⟨e3, h3, hf⟩ := Option.bind_eq_some_iff.mp hf
    obtain ⟨rb, h4, hf⟩ := Option.bind_eq_some_iff.mp hf
    refine ⟨go, fun σ' H' => ∃ e, Rel X.K c e σ' H' ∧ Evo c e1 σ H1 e σ' H' ∧ forL dead g m (ds.drop (i + 1)) e = some r, fun σ' H' ⟨e, p1, p2, p3⟩ => ⟨_, by omega, rfl, by omega, e, p1, p2, p3⟩, fun x H3 y => ?_⟩
    obtain ⟨gr, rx⟩ := yl x H3 y
    have R3 := R2.heap gr
    refine ⟨e2, d, e3, R3, rx, h3, fun σ4 H4 R4 v4 _ => ⟨e3, rb, R4, h4, ?_⟩⟩
    have v04 := (v2.trans (Evo.grow gr)).trans v4
    cases rb with
    | nx e => exact fun σ5 H5 R5 v5 => ⟨clr dead e, (R5.clr dead).1, (v04.trans v5).trans (R5.clr dead).2, hf⟩
    | ct e => exact fun σ5 H5 R5 v5 => ⟨clr dead e, (R5.clr dead).1, (v04.trans v5).trans (R5.clr dead).2, hf⟩
    | bk e =>
      cases hf
      exact fun σ5 H5 R5 v5 => k σ5 H5 (R5.clr dead).1 (v1.trans ((v04.trans v5).trans (R5.clr dead).2))
    | rt d e =>
      cases hf
      exact fun v σ5 H5 R5 v5 r5 => k v σ5 H5 R5 (v1.trans (v04.trans v5)) r5
    | ro d e =>
      cases hf
      exact fun a o σ5 H5 R5 v5 n5 r5 => k a o σ5 H5 R5 (v1.trans (v04.trans v5)) n5 r5
/-! while -/
def whL (dead : List Nat) (t : BM) (body : SM) : Nat → SM
  | 0, _ => none
  | n + 1, env => (t env).bind fun p => if p.1 = true then (body p.2).bind fun r => match r with
      | .nx e => whL dead t body n (clr dead e)
      | .ct e => whL dead t body n (clr dead e)
      | .bk e => some (.nx (clr dead e))
      | r => some r
    else some (.nx p.2)
/-- μ: turns enough, by the state at the loop -/
def sWhile (dead : List Nat) (μ : Ev → Nat) (t : BM) (body : SM) : SM := fun env => whL dead t body (μ env) (clr dead env)
theorem qs_while {t : Expr} {mt : BM} {m : SM} (dead : List Nat) (μ : Ev → Nat) (hp : PassesOwn (model X.prog X.w) X.A X.env X.xe) (ht : PDb X c t mt) (hb : PDss X c sts m) : PDs X c (.While t sts [] pos) (sWhile dead μ mt m) :=
  ps_wk (ps_while hp ht hb) fun D σ H ⟨env, r, R, q, k⟩ => by
    refine ⟨fun n σ2 H2 => ∃ e2, Rel X.K c e2 σ2 H2 ∧ Evo c env σ H e2 σ2 H2 ∧ whL dead mt m n e2 = some r, ⟨_, _, (R.clr dead).1, (R.clr dead).2, q⟩, ?_⟩
    rintro n σ2 H2 ⟨e2, R2, v2, hf⟩
    cases n with
    | zero => cases hf
    | succ n =>
      unfold whL at hf
      obtain ⟨⟨b, e3⟩, h3, hf⟩ := Option.bind_eq_some_iff.mp hf
      refine ⟨e2, b, e3, R2, h3, fun H3 R3 v3 => ?_⟩
      cases b with
      | false =>
        rw [if_neg Bool.false_ne_true]
        cases hf
        exact k σ2 H3 R3 (v2.trans v3)
      | true =>
        rw [if_pos rfl]
        obtain ⟨rb, h4, hf⟩ := Option.bind_eq_some_iff.mp hf
        refine ⟨fun σ' H' => ∃ e, Rel X.K c e σ' H' ∧ Evo c env σ H e σ' H' ∧ whL dead mt m n e = some r, fun σ' H' ⟨e, p1, p2, p3⟩ => ⟨n, Nat.lt_succ_self _, e, p1, p2, p3⟩, e3, rb, R3, h4, ?_⟩
        have v03 := v2.trans v3
        cases rb with
        | nx e => exact fun σ5 H5 R5 v5 => ⟨clr dead e, (R5.clr dead).1, (v03.trans v5).trans (R5.clr dead).2, hf⟩
        | ct e => exact fun σ5 H5 R5 v5 => ⟨clr dead e, (R5.clr dead).1, (v03.trans v5).trans (R5.clr dead).2, hf⟩
        | bk e =>
          cases hf
          exact fun σ5 H5 R5 v5 => k σ5 H5 (R5.clr dead).1 ((v03.trans v5).trans (R5.clr dead).2)
        | rt d e =>
          cases hf
          exact fun v σ5 H5 R5 v5 r5 => k v σ5 H5 R5 (v03.trans v5) r5
        | ro d e =>
          cases hf
          exact fun a o σ5 H5 R5 v5 n5 r5 => k a o σ5 H5 R5 (v03.trans v5) n5 r5
end
end NR

set_option Elab.async false
set_option linter.all false
set_option maxRecDepth 100000
set_option maxHeartbeats 4000000
set_option autoImplicit false
/-! The engine, part f: list comprehensions. -/
namespace NR
open PySem PySem.Spec L2
section
variable {K : PySem.W.Frag} {c : Cn} {env env' : Ev} {σ σ' : L2.St} {H H' : Hp}
/-- a slot forgotten on both sides -/
theorem Rel.forget (R : Rel K c env σ H) (i : Nat) : Rel K c (env.set i .emp) (σ.set i none) H ∧ Evo c env σ H (env.set i .emp) (σ.set i none) H := by
  obtain ⟨R1, v1⟩ := R.weak (s := .emp) (i := i) (.inl rfl)
  have nn : ∀ (j : Nat) (s : Sl), (env.set i .emp)[j]? = some s → s ≠ .emp → j ≠ i := fun j s h hn e => by
    subst e
    rcases get_set h with ⟨_, z, _⟩ | ⟨z, _⟩
    · exact hn z
    · exact z rfl
  have ow : ∀ b, Own (env.set i .emp) (σ.set i none) b ↔ Own (env.set i .emp) σ b := fun b =>
    ⟨fun ⟨j, e, h1, h2⟩ => ⟨j, e, h1, by rw [set_ne (nn j _ h1 (by intro z; cases z))] at h2; exact h2⟩, fun ⟨j, e, h1, h2⟩ => ⟨j, e, h1, by rw [set_ne (nn j _ h1 (by intro z; cases z))]; exact h2⟩⟩
  have g : ∀ b u, H b = some u → ¬ Fb c (env.set i .emp) σ b → H b = some u ∧ ¬ Fb c (env.set i .emp) (σ.set i none) b := fun b u q n => ⟨q, fun z => n (z.elim .inl fun z => z.elim (fun z => .inr (.inl z)) fun z => .inr (.inr ((ow b).mp z)))⟩
  refine ⟨⟨by rw [List.length_set, List.length_set, R.len], fun j e h => ?_, fun j e h => ?_, fun j k e h => ?_, fun j k e f b h1 h2 h3 h4 => ?_, R1.parj, R.dom, R.nd⟩, fun b u h t n => ⟨h, fun z => (v1 b u h t n).2 ((ow b).mp z)⟩⟩
  · obtain ⟨w, h1, h2⟩ := R1.val j e h
    exact ⟨w, by rw [set_ne (nn j _ h (by intro z; cases z))]; exact h1, h2.go g⟩
  · obtain ⟨b, u, h1, h2, h3, h4⟩ := R1.own j e h
    exact ⟨b, u, by rw [set_ne (nn j _ h (by intro z; cases z))]; exact h1, h2, h3.go g, h4⟩
  · obtain ⟨b, u, h1, h2, h3, h4⟩ := R1.par j k e h
    exact ⟨b, u, by rw [set_ne (nn j _ h (by intro z; cases z))]; exact h1, h2, h3, h4.go g⟩
  · rw [set_ne (nn j _ h1 (by intro z; cases z))] at h3
    rw [set_ne (nn k _ h2 (by intro z; cases z))] at h4
    exact R1.inj j k e f b h1 h2 h3 h4
/-- the comprehension's own names forgotten -/
def wipeE (env : Ev) : List Nat → Ev
  | [] => env
  | v :: vs => (wipeE env vs).set v .emp
theorem Rel.wipe (R : Rel K c env σ H) : ∀ vs : List Nat, Rel K c (wipeE env vs) (L2.wipe σ vs) H ∧ Evo c env σ H (wipeE env vs) (L2.wipe σ vs) H
  | [] => ⟨R, Evo.refl⟩
  | v :: vs => by
    obtain ⟨R1, v1⟩ := R.wipe vs
    obtain ⟨R2, v2⟩ := R1.forget v
    exact ⟨R2, v1.trans v2⟩
theorem wipeE_len (env : Ev) : ∀ vs : List Nat, (wipeE env vs).length = env.length
  | [] => rfl
  | v :: vs => by rw [wipeE, List.length_set, wipeE_len env vs]
theorem wipeE_out {i : Nat} : ∀ {vs : List Nat}, i ∉ vs → (wipeE env vs)[i]? = env[i]?
  | [], _ => rfl
  | v :: vs, h => by
    rw [wipeE, set_ne fun e => h (by rw [e]; exact List.mem_cons_self), wipeE_out fun m => h (List.mem_cons_of_mem _ m)]
theorem wipeE_in {i : Nat} {s : Sl} : ∀ {vs : List Nat}, i ∈ vs → (wipeE env vs)[i]? = some s → s = .emp
  | [], h, _ => by simp at h
  | v :: vs, h, q => by
    rw [wipeE] at q
    rcases get_set q with ⟨_, z, _⟩ | ⟨n, z⟩
    · exact z
    · rcases List.mem_cons.mp h with e | e
      · exact absurd e n
      · exact wipeE_in e z
theorem wipe_in {i : Nat} : ∀ {vs : List Nat}, i ∈ vs → i < σ.length → (L2.wipe σ vs)[i]? = some none
  | [], h, _ => by simp at h
  | v :: vs, h, hl => by
    unfold L2.wipe
    by_cases e : i = v
    · subst e
      rw [List.getElem?_set_self (by rw [L2.wipe_length]; exact hl)]
    · rw [set_ne e]
      rcases List.mem_cons.mp h with z | z
      · exact absurd z e
      · exact wipe_in z hl
theorem wipe_off {vs : List Nat} (h : Off vs σ σ') : L2.wipe σ' vs = L2.wipe σ vs := by
  apply List.ext_getElem?
  intro i
  by_cases hi : i ∈ vs
  · by_cases hl : i < σ.length
    · rw [wipe_in hi hl, wipe_in hi (by rw [h.1]; exact hl)]
    · rw [List.getElem?_eq_none (by rw [L2.wipe_length, h.1]; omega), List.getElem?_eq_none (by rw [L2.wipe_length]; omega)]
  · rw [L2.wipe_out hi, L2.wipe_out hi, h.2 i hi]
theorem wipe_wipe {vs : List Nat} : L2.wipe (L2.wipe σ vs) vs = L2.wipe σ vs := (wipe_off ⟨L2.wipe_length σ vs, fun j hj => L2.wipe_out hj⟩)
/-- no object of one's own bears one of the names -/
def okW (vs : List Nat) (env : Ev) : Bool := vs.all fun i => match env[i]? with
  | some (.own _) => false
  | some (.par _ _) => false
  | _ => true
/-- the names as they were -/
def unw (env env' : Ev) : List Nat → Ev
  | [] => env'
  | v :: vs => (unw env env' vs).set v ((env[v]?).getD .emp)
theorem unw_len (env env' : Ev) : ∀ vs : List Nat, (unw env env' vs).length = env'.length
  | [] => rfl
  | v :: vs => by rw [unw, List.length_set, unw_len env env' vs]
theorem unw_out {i : Nat} : ∀ {vs : List Nat}, i ∉ vs → (unw env env' vs)[i]? = env'[i]?
  | [], _ => rfl
  | v :: vs, h => by
    rw [unw, set_ne fun e => h (by rw [e]; exact List.mem_cons_self), unw_out fun m => h (List.mem_cons_of_mem _ m)]
theorem unw_in {i : Nat} (hl : env'.length = env.length) : ∀ {vs : List Nat}, i ∈ vs → (unw env env' vs)[i]? = env[i]?
  | [], h => by simp at h
  | v :: vs, h => by
    rw [unw]
    by_cases e : i = v
    · subst e
      by_cases hi : i < env.length
      · rw [List.getElem?_set_self (by rw [unw_len, hl]; exact hi), List.getElem?_eq_getElem hi]; rfl
      · rw [List.getElem?_eq_none (by rw [List.length_set, unw_len]; omega), List.getElem?_eq_none (by omega)]
    · rw [set_ne e]
      rcases List.mem_cons.mp h with z | z
      · exact absurd z e
      · exact unw_in hl z
/-- behind the block -/
theorem Rel.back (R : Rel K c env σ H) {vs : List Nat} (ok : okW vs env = true) (R' : Rel K c env' (L2.wipe σ vs) H') (v' : Evo c (wipeE env vs) (L2.wipe σ vs) H env' (L2.wipe σ vs) H') :
    Rel K c (unw env env' vs) σ H' ∧ Evo c env σ H (unw env env' vs) σ H' ∧ ∀ b, Fb c (unw env env' vs) σ b → Fb c env' (L2.wipe σ vs) b := by
  have hl : env'.length = env.length := by rw [R'.len, L2.wipe_length, R.len]
  have nown : ∀ j d, j ∈ vs → env[j]? ≠ some (Sl.own d) := fun j d hj e => by
    have := List.all_eq_true.mp ok j hj
    rw [e] at this; cases this
  have npar : ∀ j k d, j ∈ vs → env[j]? ≠ some (Sl.par k d) := fun j k d hj e => by
    have := List.all_eq_true.mp ok j hj
    rw [e] at this; cases this
  have ow0 : ∀ b, Own (wipeE env vs) (L2.wipe σ vs) b → Own env σ b := fun b ⟨j, d, h1, h2⟩ => by
    by_cases hj : j ∈ vs
    · cases wipeE_in hj h1
    · rw [wipeE_out hj] at h1
      rw [L2.wipe_out hj] at h2
      exact ⟨j, d, h1, h2⟩
  have ow1 : ∀ b, Own (unw env env' vs) σ b → Own env' (L2.wipe σ vs) b := fun b ⟨j, d, h1, h2⟩ => by
    by_cases hj : j ∈ vs
    · rw [unw_in hl hj] at h1
      exact absurd h1 (nown j d hj)
    · rw [unw_out hj] at h1
      exact ⟨j, d, h1, by rw [L2.wipe_out hj]; exact h2⟩
  have fb1 : ∀ b, Fb c (unw env env' vs) σ b → Fb c env' (L2.wipe σ vs) b := fun b z => z.elim .inl fun z => z.elim (fun z => .inr (.inl z)) fun z => .inr (.inr (ow1 b z))
  have evo : Evo c env σ H (unw env env' vs) σ H' := fun b o h t n => by
    obtain ⟨h1, h2⟩ := v' b o h t fun z => n (ow0 b z)
    exact ⟨h1, fun z => h2 (ow1 b z)⟩
  have g : ∀ b o, H' b = some o → ¬ Fb c env' (L2.wipe σ vs) b → H' b = some o ∧ ¬ Fb c (unw env env' vs) σ b := fun b o h n => ⟨h, fun z => n (fb1 b z)⟩
  refine ⟨⟨by rw [unw_len, hl, R.len], fun j d h => ?_, fun j d h => ?_, fun j k d h => ?_, fun j k d e b h1 h2 h3 h4 => ?_, fun j k l d e h1 h2 => ?_, R'.dom, R.nd⟩, evo, fb1⟩
  · by_cases hj : j ∈ vs
    · rw [unw_in hl hj] at h
      obtain ⟨w, h1, h2⟩ := R.val j d h
      exact ⟨w, h1, evo.rd h2⟩
    · rw [unw_out hj] at h
      obtain ⟨w, h1, h2⟩ := R'.val j d h
      exact ⟨w, by rw [L2.wipe_out hj] at h1; exact h1, h2.go g⟩
  · by_cases hj : j ∈ vs
    · rw [unw_in hl hj] at h
      exact absurd h (nown j d hj)
    · rw [unw_out hj] at h
      obtain ⟨b, u, h1, h2, h3, h4⟩ := R'.own j d h
      exact ⟨b, u, by rw [L2.wipe_out hj] at h1; exact h1, h2, h3.go g, h4⟩
  · by_cases hj : j ∈ vs
    · rw [unw_in hl hj] at h
      exact absurd h (npar j k d hj)
    · rw [unw_out hj] at h
      obtain ⟨b, u, h1, h2, h3, h4⟩ := R'.par j k d h
      exact ⟨b, u, by rw [L2.wipe_out hj] at h1; exact h1, h2, h3, h4.go g⟩
  · have key : ∀ (j : Nat) (d : D), (unw env env' vs)[j]? = some (.own d) → σ[j]? = some (some (V.ref b)) → env'[j]? = some (Sl.own d) ∧ (L2.wipe σ vs)[j]? = some (some (V.ref b)) := fun j d p q => by
      by_cases hj : j ∈ vs
      · rw [unw_in hl hj] at p
        exact absurd p (nown j d hj)
      · rw [unw_out hj] at p
        exact ⟨p, by rw [L2.wipe_out hj]; exact q⟩
    obtain ⟨a1, a2⟩ := key j d h1 h3
    obtain ⟨b1, b2⟩ := key k e h2 h4
    exact R'.inj j k d e b a1 b1 a2 b2
  · have key : ∀ (j : Nat) (d : D), (unw env env' vs)[j]? = some (.par l d) → env'[j]? = some (Sl.par l d) := fun j d p => by
      by_cases hj : j ∈ vs
      · rw [unw_in hl hj] at p
        exact absurd p (npar j l d hj)
      · rw [unw_out hj] at p
        exact p
    exact R'.parj j k l d e (key j d h1) (key k e h2)

/-! one address more is forbidden -/
def Cn.ban (c : Cn) (p : Addr) : Cn := ⟨fun b => c.F b ∨ b = p, c.τ, fun b => c.B b ∨ b = p, fun a z => z.elim (fun z => .inl (c.bf a z)) .inr⟩
def Cn.lnd (c : Cn) (p : Addr) : Cn := ⟨fun b => c.F b ∨ b = p, c.τ, c.B, fun a z => .inl (c.bf a z)⟩
def hm (H : Hp) (p : Addr) : Hp := fun b => if b = p then none else H b
theorem hm_ne {p b : Addr} (h : b ≠ p) : hm H p b = H b := if_neg h
theorem hm_self {p : Addr} : hm H p p = none := if_pos rfl
theorem upd_hm {p : Addr} {o : HO} (h : H p = some o) : upd (hm H p) p o = H := by
  funext b
  by_cases e : b = p
  · subst e; rw [upd_same, h]
  · rw [upd_ne e, hm_ne e]
/-- a new object is laid, and banned -/
theorem Rel.ban (R : Rel K c env σ H) {p : Addr} {o : HO} (h : H p = none) (nt : NT o := by exact True.intro) : Rel K (c.ban p) env σ (upd H p o) := by
  have g : ∀ b u, H b = some u → ¬ Fb c env σ b → upd H p o b = some u ∧ ¬ Fb (c.ban p) env σ b := fun b u q n => by
    refine ⟨upd_old h b u q, fun z => ?_⟩
    rcases z with (z | z) | z
    · exact n (.inl z)
    · exact ne_of_none q h z
    · exact n (.inr z)
  refine ⟨R.len, fun j d e => ?_, fun j d e => ?_, fun j k d e => ?_, R.inj, R.parj, fun b z => ?_, R.nd⟩
  · obtain ⟨w, h1, h2⟩ := R.val j d e
    exact ⟨w, h1, h2.go g⟩
  · obtain ⟨b, u, h1, h2, h3, h4, h5⟩ := R.own j d e
    exact ⟨b, u, h1, upd_old h b u h2, h3.go g, fun z => z.elim h4 (ne_of_none h2 h), h5⟩
  · obtain ⟨b, u, h1, h2, h3, h4⟩ := R.par j k d e
    exact ⟨b, u, h1, h2, upd_old h b u h3, h4.go g⟩
  · rcases z with (z | z) | z
    · obtain ⟨u, q, n⟩ := R.dom b (.inl z)
      exact ⟨u, upd_old h b u q, n⟩
    · rw [z]; exact ⟨o, upd_same, nt⟩
    · obtain ⟨u, q, n⟩ := R.dom b (.inr z)
      exact ⟨u, upd_old h b u q, n⟩
theorem ban_fb {p b : Addr} : Fb (c.ban p) env σ b ↔ Fb c env σ b ∨ b = p := by
  constructor
  · rintro ((z | z) | z)
    · exact .inl (.inl z)
    · exact .inr z
    · exact .inl (.inr z)
  · rintro ((z | z) | z)
    · exact .inl (.inl z)
    · exact .inr z
    · exact .inl (.inr z)
theorem lnd_fb {p b : Addr} : Fb (c.lnd p) env σ b ↔ Fb c env σ b ∨ b = p := by
  constructor
  · rintro ((z | z) | z)
    · exact .inl (.inl z)
    · exact .inr z
    · exact .inl (.inr z)
  · rintro ((z | z) | z)
    · exact .inl (.inl z)
    · exact .inr z
    · exact .inl (.inr z)
/-- what is banned may change -/
theorem ban_go {p : Addr} (hk : ∀ b, b ≠ p → H' b = H b) : ∀ b u, H b = some u → ¬ Fb (c.ban p) env σ b → H' b = some u ∧ ¬ Fb (c.ban p) env σ b := fun b u q n => by
  rw [hk b fun e => n (ban_fb.mpr (.inr e))]
  exact ⟨q, n⟩
theorem Rel.chg {p : Addr} {o : HO} (R : Rel K (c.ban p) env σ H) (ht : p ∉ c.τ) (hk : ∀ b, b ≠ p → H' b = H b) (hp : H' p = some o) (nt : NT o := by exact True.intro) : Rel K (c.ban p) env σ H' := by
  have g := @ban_go c env σ H H' p hk
  refine ⟨R.len, fun j d e => ?_, fun j d e => ?_, fun j k d e => ?_, R.inj, R.parj, fun b z => ?_, R.nd⟩
  · obtain ⟨w, h1, h2⟩ := R.val j d e
    exact ⟨w, h1, h2.go g⟩
  · obtain ⟨b, u, h1, h2, h3, h4, h5⟩ := R.own j d e
    exact ⟨b, u, h1, by rw [hk b fun e => h4 (.inr e)]; exact h2, h3.go g, h4, h5⟩
  · obtain ⟨b, u, h1, h2, h3, h4⟩ := R.par j k d e
    exact ⟨b, u, h1, h2, by rw [hk b fun e => ht (e ▸ List.mem_of_getElem? h2)]; exact h3, h4.go g⟩
  · by_cases e : b = p
    · rw [e]; exact ⟨o, hp, nt⟩
    · obtain ⟨u, q, n⟩ := R.dom b z
      exact ⟨u, by rw [hk b e]; exact q, n⟩
/-- .. or go -/
theorem drop_go {p : Addr} : ∀ b u, H b = some u → ¬ Fb (c.ban p) env σ b → hm H p b = some u ∧ ¬ Fb c env σ b := fun b u q n =>
  ⟨by rw [hm_ne fun e => n (ban_fb.mpr (.inr e))]; exact q, fun z => n (ban_fb.mpr (.inl z))⟩
theorem Rel.drop {p : Addr} (R : Rel K (c.ban p) env σ H) (ht : p ∉ c.τ) (hF : ¬ c.F p) : Rel K c env σ (hm H p) := by
  have g := @drop_go c env σ H p
  refine ⟨R.len, fun j d e => ?_, fun j d e => ?_, fun j k d e => ?_, R.inj, R.parj, fun b z => ?_, R.nd⟩
  · obtain ⟨w, h1, h2⟩ := R.val j d e
    exact ⟨w, h1, h2.go g⟩
  · obtain ⟨b, u, h1, h2, h3, h4, h5⟩ := R.own j d e
    exact ⟨b, u, h1, by rw [hm_ne fun e => h4 (.inr e)]; exact h2, h3.go g, fun z => h4 (.inl z), h5⟩
  · obtain ⟨b, u, h1, h2, h3, h4⟩ := R.par j k d e
    have h2' : c.τ[k]? = some b := h2
    exact ⟨b, u, h1, h2, by rw [hm_ne fun (z : b = p) => ht (z ▸ List.mem_of_getElem? h2')]; exact h3, h4.go g⟩
  · obtain ⟨u, q, n⟩ := R.dom b (z.elim (fun z => .inl (.inl z)) .inr)
    have ne : b ≠ p := fun e => z.elim (fun z => hF (e ▸ z)) fun z => ht (e ▸ z)
    exact ⟨u, by rw [hm_ne ne]; exact q, n⟩
end

/-! [elt for target in iter if ..] -/
/-- the turns: what is made, the state behind -/
def lcL (vs : List Nat) (g : GM) (t : BM) (m : EM) : List D → Ev → Option (List D × Ev)
  | [], env => some ([], env)
  | d :: ds, env => (g d env).bind fun e1 => (t e1).bind fun p => if p.1 = true then (m p.2).bind fun q => (lcL vs g t m ds (wipeE q.2 vs)).bind fun r => some (q.1 :: r.1, r.2)
      else lcL vs g t m ds (wipeE p.2 vs)
def eLc (vs : List Nat) (w : AM) (g : GM) (t : BM) (m : EM) : EM := fun env => (w env).bind fun p => if okW vs p.2 then (lcL vs g t m p.1 (wipeE p.2 vs)).bind fun r => if r.1.length ≤ sizeLine then some (.lst r.1, unw p.2 r.2 vs) else none else none
def bYes : BM := fun env => some (true, env)
section
variable {X : Cx} {c : Cn}
abbrev PDts (X : Cx) (c : Cn) (ifs : List Expr) (t : BM) : Prop := PTs X ifs (TMb X.K c t)
theorem qt_nil : PDts X c [] bYes := ⟨fun pins s σ H Q I ⟨env, b, env', R, q, k⟩ => by
  cases q
  exact pts_nil.run pins s σ H Q I (k H R Evo.refl)⟩
theorem qt_one {e : Expr} {t : BM} (h : PDb X c e t) : PDts X c [e] t := pts_one h
/-! whatever the context -/
theorem pe_ex {e : Expr} {t : Cn → TE} (h : ∀ c, PE X e (t c)) : PE X e (fun σ H Q => ∃ c, t c σ H Q) := ⟨fun pins s σ H Q I ⟨c, q⟩ => (h c).run pins s σ H Q I q⟩
theorem pg_ex {e : Expr} {t : Cn → TG} (h : ∀ c, PG X e (t c)) : PG X e (fun v σ H Q => ∃ c, t c v σ H Q) := ⟨fun pins s σ H v u Q I r ⟨c, q⟩ => (h c).run pins s σ H v u Q I r q⟩
theorem pts_ex {ifs : List Expr} {t : Cn → TT} (h : ∀ c, PTs X ifs (t c)) : PTs X ifs (fun σ H Q => ∃ c, t c σ H Q) := ⟨fun pins s σ H Q I ⟨c, q⟩ => (h c).run pins s σ H Q I q⟩
theorem pi_ex {tg e : Expr} {t : Cn → TI} (h : ∀ c, PI X tg e (t c)) : PI X tg e (fun σ H Q => ∃ c, t c σ H Q) := ⟨fun pins s σ H Q I ⟨c, q⟩ => (h c).run pins s σ H Q I q⟩
abbrev XM (K : PySem.W.Frag) (m : EM) : TE := fun σ H Q => ∃ c, TM K c m σ H Q
abbrev XB (K : PySem.W.Frag) (m : BM) : TT := fun σ H Q => ∃ c, TMb K c m σ H Q
abbrev XG (K : PySem.W.Frag) (vs : List Nat) (m : GM) : TG := fun v σ H Q => ∃ c, TMg K c vs m v σ H Q
abbrev XI (K : PySem.W.Frag) (m : AM) : TI := fun σ H Q => ∃ c, TMi K c m σ H Q
/-- what was there stays, but for A -/
def EvoA (c : Cn) (A : Addr) (env : Ev) (σ : L2.St) (H : Hp) (env' : Ev) (σ' : L2.St) (H' : Hp) : Prop :=
  ∀ b o, H b = some o → b ≠ A → b ∉ c.τ → ¬ Own env σ b → H' b = some o ∧ ¬ Own env' σ' b
theorem EvoA.refl {A : Addr} {env : Ev} {σ : L2.St} {H : Hp} : EvoA c A env σ H env σ H := fun _ _ h _ _ n => ⟨h, n⟩
theorem EvoA.then {A : Addr} {env env1 env2 : Ev} {σ σ1 σ2 : L2.St} {H H1 H2 : Hp} (a : EvoA c A env σ H env1 σ1 H1) (b : Evo c env1 σ1 H1 env2 σ2 H2) : EvoA c A env σ H env2 σ2 H2 := fun x o h n t w =>
  b x o (a x o h n t w).1 t (a x o h n t w).2
theorem EvoA.to {A : Addr} {env env1 : Ev} {σ σ1 : L2.St} {H H1 H2 : Hp} (a : EvoA c A env σ H env1 σ1 H1) (k : ∀ b, b ≠ A → H2 b = H1 b) : EvoA c A env σ H env1 σ1 H2 := fun x o h n t w =>
  ⟨by rw [k x n]; exact (a x o h n t w).1, (a x o h n t w).2⟩
theorem EvoA.trans {A : Addr} {env env1 env2 : Ev} {σ σ1 σ2 : L2.St} {H H1 H2 : Hp} (a : EvoA c A env σ H env1 σ1 H1) (b : EvoA c A env1 σ1 H1 env2 σ2 H2) : EvoA c A env σ H env2 σ2 H2 := fun x o h n t w =>
  b x o (a x o h n t w).1 n t (a x o h n t w).2
theorem EvoA.kp {A : Addr} {env env1 : Ev} {σ σ1 : L2.St} {H H1 : Hp} (a : EvoA c A env σ H env1 σ1 H1) (hF : c.F A) (hB : c.B A) : Kp c env σ H c env1 σ1 H1 := ⟨fun b o h nB nt nO => by
  have ne : b ≠ A := fun e => nB (e ▸ hB)
  exact ⟨(a b o h ne nt nO).1, nB, nt, (a b o h ne nt nO).2⟩, fun b o h n => by
  have n1 : ¬ c.F b := fun q => n (.inl q)
  have n2 : b ∉ c.τ := fun q => n (.inr (.inl q))
  have n3 : ¬ Own env σ b := fun q => n (.inr (.inr q))
  have ne : b ≠ A := fun e => n1 (e ▸ hF)
  exact ⟨(a b o h ne n2 n3).1, fun q => q.elim n1 fun q => q.elim n2 (a b o h ne n2 n3).2⟩⟩
theorem EvoA.fb {A : Addr} {env env1 : Ev} {σ σ1 : L2.St} {H H1 : Hp} (a : EvoA c A env σ H env1 σ1 H1) (hF : c.F A) : ∀ b o, H b = some o → ¬ Fb c env σ b → H1 b = some o ∧ ¬ Fb c env1 σ1 b := fun b o h n => by
  have n1 : ¬ c.F b := fun q => n (.inl q)
  have n2 : b ∉ c.τ := fun q => n (.inr (.inl q))
  have n3 : ¬ Own env σ b := fun q => n (.inr (.inr q))
  have ne : b ≠ A := fun e => n1 (e ▸ hF)
  exact ⟨(a b o h ne n2 n3).1, fun q => q.elim n1 fun q => q.elim n2 (a b o h ne n2 n3).2⟩
theorem chg_go {A : Addr} {env : Ev} {σ : L2.St} {H H' : Hp} (hF : c.F A) (hk : ∀ b, b ≠ A → H' b = H b) : ∀ b u, H b = some u → ¬ Fb c env σ b → H' b = some u ∧ ¬ Fb c env σ b := fun b u q n => by
  rw [hk b fun e => n (.inl (e ▸ hF))]
  exact ⟨q, n⟩
/-- a forbidden object that no one lends may change -/
theorem Rel.chF {K : PySem.W.Frag} {A : Addr} {env : Ev} {σ : L2.St} {H H' : Hp} {o : HO} (R : Rel K c env σ H) (hF : c.F A) (ht : A ∉ c.τ) (hk : ∀ b, b ≠ A → H' b = H b) (hp : H' A = some o) (nt : NT o := by exact True.intro) : Rel K c env σ H' := by
  have g := @chg_go c A env σ H H' hF hk
  refine ⟨R.len, fun j d e => ?_, fun j d e => ?_, fun j k d e => ?_, R.inj, R.parj, fun b z => ?_, R.nd⟩
  · obtain ⟨w, h1, h2⟩ := R.val j d e
    exact ⟨w, h1, h2.go g⟩
  · obtain ⟨b, u, h1, h2, h3, h4, h5⟩ := R.own j d e
    exact ⟨b, u, h1, by rw [hk b fun (e : b = A) => h4 (e ▸ hF)]; exact h2, h3.go g, h4, h5⟩
  · obtain ⟨b, u, h1, h2, h3, h4⟩ := R.par j k d e
    exact ⟨b, u, h1, h2, by rw [hk b fun (e : b = A) => ht (e ▸ List.mem_of_getElem? h2)]; exact h3, h4.go g⟩
  · by_cases e : b = A
    · rw [e]; exact ⟨o, hp, nt⟩
    · obtain ⟨u, q, n⟩ := R.dom b z
      exact ⟨u, by rw [hk b e]; exact q, n⟩
/-- the heart: the turns of one clause; the list at A grows -/
theorem turns {vs : List Nat} {g : GM} {t : BM} {m : EM} {σ : L2.St} {H1 : Hp} {Qe : Hp → Prop} {J : It} {ds zs done0 : List D} {acc0 : List V} {e1 eF : Ev} {A : Addr} (hF : c.F A) (hB : c.B A) (ht : A ∉ c.τ)
    (R1 : Rel X.K c e1 (L2.wipe σ vs) H1) (hH1 : H1 A = some (.lst acc0)) (rd0 : RDs X.K (Fb c e1 (L2.wipe σ vs)) H1 done0 acc0) (wok : WOK X.K c e1 (L2.wipe σ vs) H1 J ds) (hl : lcL vs g t m ds e1 = some (zs, eF)) (hz : done0.length + zs.length ≤ sizeLine)
    (fin : ∀ H' acc, Rel X.K c eF (L2.wipe σ vs) H' → EvoA c A e1 (L2.wipe σ vs) H1 eF (L2.wipe σ vs) H' → H' A = some (.lst acc) → RDs X.K (Fb c eF (L2.wipe σ vs)) H' (done0 ++ zs) acc → Qe H') :
    ∃ W : Nat → Nat → Hp → Prop, (∃ mm, W 0 mm H1) ∧ ∀ i mm H, W i mm H →
      (J.stop i H ∧ Qe H) ∨ (J.go i H ∧ ∃ Nx : Hp → Prop, (∀ H', Nx H' → ∃ m', m' < mm ∧ W (i + 1) m' H') ∧ ∀ x H', J.yld i H x H' → XG X.K vs g x (L2.wipe σ vs) H' fun σ2 H2 => L2.wipe σ2 vs = L2.wipe σ vs ∧ XB X.K t σ2 H2 fun b H3 =>
        if b = true then XM X.K m σ2 H3 fun y H4 => ∃ acc, H4 A = some (.lst acc) ∧ acc.length < sizeLine ∧ Nx (upd H4 A (.lst (acc ++ [y]))) else Nx H3) := by
  refine ⟨fun i mm H => mm = ds.length - i ∧ i ≤ ds.length ∧ ∃ e done acc ys, H A = some (.lst acc) ∧ Rel X.K c e (L2.wipe σ vs) H ∧ EvoA c A e1 (L2.wipe σ vs) H1 e (L2.wipe σ vs) H ∧ RDs X.K (Fb c e (L2.wipe σ vs)) H (done0 ++ done) acc ∧ lcL vs g t m (ds.drop i) e = some (ys, eF) ∧ zs = done ++ ys,
    ⟨_, rfl, Nat.zero_le _, e1, [], acc0, zs, hH1, R1, EvoA.refl, by rw [List.append_nil]; exact rd0, hl, rfl⟩, ?_⟩
  rintro i mm H ⟨rfl, hle, e, done, acc, ys, hH, R, v, rd, hf, hzs⟩
  have wk := wok c e (L2.wipe σ vs) H R (v.kp hF hB) i
  cases hd : ds[i]? with
  | none =>
    left
    refine ⟨wk.2 hd, ?_⟩
    rw [List.drop_eq_nil_of_le (List.getElem?_eq_none_iff.mp hd)] at hf
    cases hf
    rw [List.append_nil] at hzs
    subst hzs
    exact fin H acc R v hH rd
  | some d =>
    right
    obtain ⟨go, yl⟩ := wk.1 d hd
    have hlt := lt_of_get hd
    have hdr : ds.drop i = d :: ds.drop (i + 1) := by
      rw [List.drop_eq_getElem_cons hlt]
      congr 1
      exact Option.some.inj ((List.getElem?_eq_getElem hlt).symm.trans hd)
    rw [hdr] at hf
    unfold lcL at hf
    obtain ⟨e2, h2, hf⟩ := Option.bind_eq_some_iff.mp hf
    obtain ⟨⟨b, e3⟩, h3, hf⟩ := Option.bind_eq_some_iff.mp hf
    dsimp only at hf
    refine ⟨go, fun H' => ∃ e done acc ys, H' A = some (.lst acc) ∧ Rel X.K c e (L2.wipe σ vs) H' ∧ EvoA c A e1 (L2.wipe σ vs) H1 e (L2.wipe σ vs) H' ∧ RDs X.K (Fb c e (L2.wipe σ vs)) H' (done0 ++ done) acc ∧ lcL vs g t m (ds.drop (i + 1)) e = some (ys, eF) ∧ zs = done ++ ys,
      fun H' q => ⟨_, by omega, rfl, by omega, q⟩, fun x H2 y => ?_⟩
    obtain ⟨gr, rx⟩ := yl x H2 y
    have R2 := R.heap gr
    have gv : Evo c e (L2.wipe σ vs) H e (L2.wipe σ vs) H2 := Evo.grow gr
    refine ⟨c, e, d, e2, R2, rx, h2, fun σ3 H3 R3 v3 o3 => ⟨(wipe_off o3).trans wipe_wipe, c, e2, b, e3, R3, h3, fun H4 R4 v4 => ?_⟩⟩
    have wo : L2.wipe σ3 vs = L2.wipe σ vs := (wipe_off o3).trans wipe_wipe
    have v04 : Evo c e (L2.wipe σ vs) H e3 σ3 H4 := (gv.trans v3).trans v4
    -- the list made so far stands
    have keep : ∀ {e' : Ev} {σ' : L2.St} {H' : Hp}, Evo c e (L2.wipe σ vs) H e' σ' H' → H' A = some (.lst acc) := fun w => (w A _ hH ht fun ⟨j, d', p, q⟩ => by
      obtain ⟨b', u, y1, _, _, y4, _⟩ := R.own j d' p
      rw [q] at y1
      cases y1
      exact y4 hF).1
    cases b with
    | false =>
      rw [if_neg Bool.false_ne_true] at hf
      refine iteF ?_
      obtain ⟨R5, v5⟩ := R4.wipe vs
      rw [wo] at R5 v5
      have w := v04.trans v5
      exact ⟨wipeE e3 vs, done, acc, ys, keep v04, R5, v.then w, w.rds rd, hf, hzs⟩
    | true =>
      rw [if_pos rfl] at hf
      refine iteT ?_
      obtain ⟨⟨z, e4⟩, h5, hf⟩ := Option.bind_eq_some_iff.mp hf
      obtain ⟨⟨zr, e5⟩, h6, hf⟩ := Option.bind_eq_some_iff.mp hf
      cases hf
      refine ⟨c, e3, z, e4, R4, h5, fun y H5 R5 v5 ry => ⟨acc, keep (v04.trans v5), ?_, ?_⟩⟩
      · have l1 := rd.length
        have l2 := congrArg List.length hzs
        rw [List.length_append, List.length_cons] at l2
        rw [List.length_append] at l1
        omega
      · obtain ⟨R6, v6⟩ := R5.wipe vs
        rw [wo] at R6 v6
        have w := (v04.trans v5).trans v6
        have hk : ∀ b, b ≠ A → upd H5 A (.lst (acc ++ [y])) b = H5 b := fun b nb => upd_ne nb
        refine ⟨wipeE e4 vs, done ++ [z], acc ++ [y], zr, upd_same, R6.chF hF ht hk upd_same, (v.then w).to hk, ?_, h6, by rw [hzs, List.append_assoc]; rfl⟩
        rw [← List.append_assoc]
        exact ((w.rds rd).append (RDs.one (v6.rd ry))).go (chg_go hF hk)
theorem WOK.mono {K : PySem.W.Frag} {c' : Cn} {e e' : Ev} {σ σ' : L2.St} {H H' : Hp} {J : It} {ds : List D} (w : WOK K c e σ H J ds) (h : Kp c e σ H c' e' σ' H') : WOK K c' e' σ' H' J ds :=
  fun c2 e2 σ2 H2 R2 v2 => w c2 e2 σ2 H2 R2 (h.trans v2)
/-- .. from a new list on -/
theorem tLc_of {c1 : Cn} {vs : List Nat} {g : GM} {t : BM} {m : EM} {σ : L2.St} {H1 : Hp} {Q : VK} {J : It} {ds zs : List D} {e1 eF : Ev}
    (R1 : Rel X.K c1 e1 (L2.wipe σ vs) H1) (wok : WOK X.K c1 e1 (L2.wipe σ vs) H1 J ds) (hl : lcL vs g t m ds e1 = some (zs, eF)) (hz : zs.length ≤ sizeLine)
    (fin : ∀ a o H', Rel X.K c1 eF (L2.wipe σ vs) H' → Evo c1 e1 (L2.wipe σ vs) H1 eF (L2.wipe σ vs) H' → H' a = none → OB X.K (Fb c1 eF (L2.wipe σ vs)) H' (.lst zs) o → Q (.ref a) (upd H' a o)) :
    ∀ A, H1 A = none → ∃ W : Nat → Nat → Hp → Prop, (∃ mm, W 0 mm (upd H1 A (.lst []))) ∧ ∀ i mm H, W i mm H →
      (J.stop i H ∧ Q (.ref A) H) ∨ (J.go i H ∧ ∃ Nx : Hp → Prop, (∀ H', Nx H' → ∃ m', m' < mm ∧ W (i + 1) m' H') ∧ ∀ x H', J.yld i H x H' → XG X.K vs g x (L2.wipe σ vs) H' fun σ2 H2 => L2.wipe σ2 vs = L2.wipe σ vs ∧ XB X.K t σ2 H2 fun b H3 =>
        if b = true then XM X.K m σ2 H3 fun y H4 => ∃ acc, H4 A = some (.lst acc) ∧ acc.length < sizeLine ∧ Nx (upd H4 A (.lst (acc ++ [y]))) else Nx H3) := by
  intro A hA
  have hAt : A ∉ c1.τ := fun z => by obtain ⟨u, q, _⟩ := R1.dom A (.inr z); rw [hA] at q; cases q
  have hAF : ¬ c1.F A := fun z => by obtain ⟨u, q, _⟩ := R1.dom A (.inl z); rw [hA] at q; cases q
  have wk : WOK X.K (c1.ban A) e1 (L2.wipe σ vs) (upd H1 A (.lst [])) J ds := wok.mono ⟨fun b o q nB nt nO => ⟨upd_old hA b o q, fun z => z.elim nB (ne_of_none q hA), nt, nO⟩, fun b o q n => ⟨upd_old hA b o q, fun z => (ban_fb.mp z).elim n (ne_of_none q hA)⟩⟩
  refine turns (c := c1.ban A) (.inr rfl) (.inr rfl) hAt (R1.ban hA) upd_same (done0 := []) (acc0 := []) rfl wk hl (by simpa using hz) fun H' acc R v hH rd => ?_
  have q := fin A (.lst acc) (hm H' A) (R.drop hAt hAF) (fun b o h t' n => ?_) hm_self ⟨acc, rfl, rd.go drop_go⟩
  · rw [upd_hm hH] at q
    exact q
  · have ne := ne_of_none h hA
    obtain ⟨h1, h2⟩ := v b o (upd_old hA b o h) ne t' n
    exact ⟨by rw [hm_ne ne]; exact h1, h2⟩
theorem WOK.wipe {K : PySem.W.Frag} {e : Ev} {σ : L2.St} {H : Hp} {J : It} {ds : List D} (w : WOK K c e σ H J ds) (R : Rel K c e σ H) (vs : List Nat) : WOK K c (wipeE e vs) (L2.wipe σ vs) H J ds :=
  w.mono (R.wipe vs).2.kp
theorem tLc_val {vs : List Nat} {w : AM} {g : GM} {t : BM} {m : EM} {σ : L2.St} {H : Hp} {Q : VK} (h : TMf X.K c (eLc vs w g t m) σ H Q) : tLc (TMi X.K c w) (XG X.K vs g) (XB X.K t) (XM X.K m) vs σ H Q := by
  obtain ⟨env, d, env', R, q, k⟩ := h
  unfold eLc at q
  obtain ⟨⟨ds, e1⟩, h1, q⟩ := Option.bind_eq_some_iff.mp q
  dsimp only at q
  split at q
  case isFalse => cases q
  case isTrue ok =>
    obtain ⟨⟨zs, eF⟩, h2, q⟩ := Option.bind_eq_some_iff.mp q
    dsimp only at q
    split at q
    case isFalse => cases q
    case isTrue hz =>
      cases q
      refine ⟨env, ds, e1, R, h1, fun J H1 R1 v1 wok A hA => ?_⟩
      exact tLc_of (R1.wipe vs).1 (wok.wipe R1 vs) h2 hz (fun a o H' R' v' n r' => by
        obtain ⟨R3, v3, f3⟩ := R1.back ok R' v'
        exact k a o H' R3 (v1.trans v3) n (r'.go fun b u z nz => ⟨z, fun y => nz (f3 b y)⟩)) A hA
theorem pf_lc {elt tg iter : Expr} {ifs : List Expr} {scope : Scope} {own : List (Str × Nat)} {pos : Pos} {w : AM} {g : GM} {t : BM} {m : EM} (hc : X.calm = true) (hN : X.N.Nodup) (hi : PDi X c tg iter w) (ok : BlkOk X.N X.env.scope scope own)
    (hg : ∀ (s : Shared) (H : Hp) (C : Addr) (cl : List (Str × Addr)) (fp : List Addr) (c : Cn), PDg (X.blk s H scope (compEnvC scope cl C X.env) fp) c (own.map (·.2)) tg g) (ht : ∀ (s : Shared) (H : Hp) (C : Addr) (cl : List (Str × Addr)) (fp : List Addr) (c : Cn), PDts (X.blk s H scope (compEnvC scope cl C X.env) fp) c ifs t)
    (he : ∀ (s : Shared) (H : Hp) (C : Addr) (cl : List (Str × Addr)) (fp : List Addr) (c : Cn), PD (X.blk s H scope (compEnvC scope cl C X.env) fp) c elt m) (hs : ∀ x, foldedSetIterable iter X.env x = pure x := by intro _; rfl) :
    PDf X c (.ListComp elt [⟨tg, iter, ifs, 0⟩] scope pos) (eLc (own.map (·.2)) w g t m) :=
  pe_wk (pe_lc hc hN hi ok (fun s H C cl fp => pg_ex fun c => hg s H C cl fp c) (fun s H C cl fp => pts_ex fun c => ht s H C cl fp c) (fun s H C cl fp => pe_ex fun c => he s H C cl fp c) hs) fun σ H Q h => tLc_val h
/-- y = [..] -/
theorem pf_setLc {i : Nat} {y : Str} {py : Pos} {elt tg iter : Expr} {ifs : List Expr} {scope : Scope} {own : List (Str × Nat)} {pos spos : Pos} {w : AM} {g : GM} {t : BM} {m : EM} (hc : X.calm = true) (hN : X.N.Nodup) (hy : X.N[i]? = some y) (hyl : X.env.scope.names.lookup y = some .local)
    (hsw : swapsWith (.ListComp elt [⟨tg, iter, ifs, 0⟩] scope pos) (some (.Name y py)) spos.line X.env = pure true) (hi : PDi X c tg iter w) (ok : BlkOk X.N X.env.scope scope own)
    (hg : ∀ (s : Shared) (H : Hp) (C : Addr) (cl : List (Str × Addr)) (fp : List Addr) (c : Cn), PDg (X.blk s H scope (compEnvC scope cl C X.env) fp) c (own.map (·.2)) tg g) (ht : ∀ (s : Shared) (H : Hp) (C : Addr) (cl : List (Str × Addr)) (fp : List Addr) (c : Cn), PDts (X.blk s H scope (compEnvC scope cl C X.env) fp) c ifs t)
    (he : ∀ (s : Shared) (H : Hp) (C : Addr) (cl : List (Str × Addr)) (fp : List Addr) (c : Cn), PD (X.blk s H scope (compEnvC scope cl C X.env) fp) c elt m) (hs : ∀ x, foldedSetIterable iter X.env x = pure x := by intro _; rfl) :
    PS X (.Assign [.Name y py] (.ListComp elt [⟨tg, iter, ifs, 0⟩] scope pos) spos) (tAsg (TMf X.K c (eLc (own.map (·.2)) w g t m)) (gName i)) :=
  asg_wk (ps_setLc hc hN hy hyl hsw hi ok (fun s H C cl fp => pg_ex fun c => hg s H C cl fp c) (fun s H C cl fp => pts_ex fun c => ht s H C cl fp c) (fun s H C cl fp => pe_ex fun c => he s H C cl fp c) hs) fun σ H Q h => tLc_val h
/-- a statement that stores a new object: taken for a value -/
theorem qs_setf {i : Nat} {m : EM} {st : Stmt} (h : PS X st (tAsg (TMf X.K c m) (gName i))) : PDs X c st (sSet i m) :=
  qs_set (asg_wk h fun σ H Q ⟨env, d, env', R, q, k⟩ => ⟨env, d, env', R, q, fun a o H1 R1 v1 n r => k _ _ (R1.alloc n) (v1.trans (Evo.alloc n)) ((r.go fun b u q z => ⟨upd_old n b u q, z⟩).rd upd_same (R1.new n))⟩)

/-! a list of one's own, looked at while a comprehension walks it -/
theorem Rel.lend {K : PySem.W.Frag} {env : Ev} {σ : L2.St} {H : Hp} {j : Nat} {d : D} {a : Addr} (R : Rel K c env σ H) (h : env[j]? = some (Sl.own d)) (hσ : σ[j]? = some (some (V.ref a))) :
    Rel K (c.lnd a) (env.set j .emp) σ H ∧ (∀ b, Fb (c.lnd a) (env.set j .emp) σ b ↔ Fb c env σ b) := by
  obtain ⟨a', o, h1, h2, h3, h4, h5⟩ := R.own j d h
  rw [hσ] at h1
  cases h1
  have hi := lt_of_get h
  have ow : ∀ b, Own (env.set j .emp) σ b ↔ Own env σ b ∧ b ≠ a := fun b => by
    constructor
    · rintro ⟨i, e, p, q⟩
      rcases get_set p with ⟨_, z, _⟩ | ⟨n, z⟩
      · cases z
      · refine ⟨⟨i, e, z, q⟩, fun y => ?_⟩
        subst y
        exact n (R.inj i j e d b z h q hσ)
    · rintro ⟨⟨i, e, p, q⟩, n⟩
      have ni : i ≠ j := fun y => by
        subst y
        rw [hσ] at q
        cases q
        exact n rfl
      exact ⟨i, e, by rw [set_ne ni]; exact p, q⟩
  have fb : ∀ b, Fb (c.lnd a) (env.set j .emp) σ b ↔ Fb c env σ b := fun b => by
    rw [lnd_fb]
    constructor
    · rintro ((z | z | z) | z)
      · exact .inl z
      · exact .inr (.inl z)
      · exact .inr (.inr ((ow b).mp z).1)
      · subst z; exact .inr (.inr ⟨j, d, h, hσ⟩)
    · rintro (z | z | z)
      · exact .inl (.inl z)
      · exact .inl (.inr (.inl z))
      · by_cases y : b = a
        · exact .inr y
        · exact .inl (.inr (.inr ((ow b).mpr ⟨z, y⟩)))
  have g : ∀ b u, H b = some u → ¬ Fb c env σ b → H b = some u ∧ ¬ Fb (c.lnd a) (env.set j .emp) σ b := fun b u q n => ⟨q, fun z => n ((fb b).mp z)⟩
  refine ⟨⟨by rw [List.length_set, R.len], fun i e p => ?_, fun i e p => ?_, fun i k e p => ?_, fun i k e f b p1 p2 p3 p4 => ?_, fun i k l e f p1 p2 => ?_, fun b z => ?_, R.nd⟩, fb⟩
  · rcases get_set p with ⟨_, z, _⟩ | ⟨n, z⟩
    · cases z
    · obtain ⟨w, y1, y2⟩ := R.val i e z
      exact ⟨w, y1, y2.go g⟩
  · rcases get_set p with ⟨_, z, _⟩ | ⟨n, z⟩
    · cases z
    · obtain ⟨b, u, y1, y2, y3, y4, y5⟩ := R.own i e z
      exact ⟨b, u, y1, y2, y3.go g, fun w => w.elim y4 fun w => n (R.inj i j e d a z h (by rw [← w]; exact y1) hσ), y5⟩
  · rcases get_set p with ⟨_, z, _⟩ | ⟨n, z⟩
    · cases z
    · obtain ⟨b, u, y1, y2, y3, y4⟩ := R.par i k e z
      exact ⟨b, u, y1, y2, y3, y4.go g⟩
  · rcases get_set p1 with ⟨_, z, _⟩ | ⟨n, z⟩
    · cases z
    · rcases get_set p2 with ⟨_, y, _⟩ | ⟨m, y⟩
      · cases y
      · exact R.inj i k e f b z y p3 p4
  · rcases get_set p1 with ⟨_, z, _⟩ | ⟨n, z⟩
    · cases z
    · rcases get_set p2 with ⟨_, y, _⟩ | ⟨m, y⟩
      · cases y
      · exact R.parj i k l e f z y
  · rcases z with (z | z) | z
    · exact R.dom b (.inl z)
    · rw [z]; exact ⟨o, h2, h3.nt⟩
    · exact R.dom b (.inr z)
theorem Rel.give {K : PySem.W.Frag} {env : Ev} {σ : L2.St} {H : Hp} {j : Nat} {d : D} {a : Addr} {o : HO} (R : Rel K (c.lnd a) env σ H) (hσ : σ[j]? = some (some (V.ref a))) (ha : H a = some o) (ob : OB K (Fb (c.lnd a) env σ) H d o) (hF : ¬ c.F a) (ht : a ∉ c.τ) :
    Rel K c (env.set j (.own d)) σ H ∧ (∀ b, Fb c (env.set j (.own d)) σ b → Fb (c.lnd a) env σ b) := by
  have na : ∀ (i : Nat) (e : D), env[i]? = some (Sl.own e) → σ[i]? ≠ some (some (V.ref a)) := fun i e p q => by
    obtain ⟨b, u, y1, y2, y3, y4, y5⟩ := R.own i e p
    rw [q] at y1
    cases y1
    exact y4 (.inr rfl)
  have ow : ∀ b, Own (env.set j (.own d)) σ b → Own env σ b ∨ b = a := fun b => by
    rintro ⟨i, e, p, q⟩
    rcases get_set p with ⟨y, z, _⟩ | ⟨n, z⟩
    · subst y
      rw [hσ] at q
      cases q
      exact .inr rfl
    · exact .inl ⟨i, e, z, q⟩
  have fb : ∀ b, Fb c (env.set j (.own d)) σ b → Fb (c.lnd a) env σ b := fun b => by
    rw [lnd_fb]
    rintro (z | z | z)
    · exact .inl (.inl z)
    · exact .inl (.inr (.inl z))
    · exact (ow b z).elim (fun y => .inl (.inr (.inr y))) .inr
  have g : ∀ b u, H b = some u → ¬ Fb (c.lnd a) env σ b → H b = some u ∧ ¬ Fb c (env.set j (.own d)) σ b := fun b u q n => ⟨q, fun z => n (fb b z)⟩
  refine ⟨⟨by rw [List.length_set, R.len], fun i e p => ?_, fun i e p => ?_, fun i k e p => ?_, fun i k e f b p1 p2 p3 p4 => ?_, fun i k l e f p1 p2 => ?_, fun b z => R.dom b (z.elim (fun z => .inl (.inl z)) .inr), R.nd⟩, fb⟩
  · rcases get_set p with ⟨_, z, _⟩ | ⟨n, z⟩
    · cases z
    · obtain ⟨w, y1, y2⟩ := R.val i e z
      exact ⟨w, y1, y2.go g⟩
  · rcases get_set p with ⟨y, z, _⟩ | ⟨n, z⟩
    · subst y
      cases z
      exact ⟨a, o, hσ, ha, ob.go g, hF, ht⟩
    · obtain ⟨b, u, y1, y2, y3, y4, y5⟩ := R.own i e z
      exact ⟨b, u, y1, y2, y3.go g, fun w => y4 (.inl w), y5⟩
  · rcases get_set p with ⟨_, z, _⟩ | ⟨n, z⟩
    · cases z
    · obtain ⟨b, u, y1, y2, y3, y4⟩ := R.par i k e z
      exact ⟨b, u, y1, y2, y3, y4.go g⟩
  · rcases get_set p1 with ⟨y, _, _⟩ | ⟨n, z⟩
    · rcases get_set p2 with ⟨y', _, _⟩ | ⟨m, z'⟩
      · exact y.trans y'.symm
      · subst y
        rw [hσ] at p3
        cases p3
        exact absurd p4 (na k f z')
    · rcases get_set p2 with ⟨y', _, _⟩ | ⟨m, z'⟩
      · subst y'
        rw [hσ] at p4
        cases p4
        exact absurd p3 (na i e z)
      · exact R.inj i k e f b z z' p3 p4
  · rcases get_set p1 with ⟨_, z, _⟩ | ⟨n, z⟩
    · cases z
    · rcases get_set p2 with ⟨_, y, _⟩ | ⟨m, y⟩
      · cases y
      · exact R.parj i k l e f z y
/-- the comprehension over the list in slot j -/
def eLcP (vs : List Nat) (j : Nat) (g : GM) (t : BM) (m : EM) : EM := fun env => match env[j]? with
  | some (.own (.lst ds)) => if okW vs env then (lcL vs g t m ds (wipeE (env.set j .emp) vs)).bind fun r => if r.1.length ≤ sizeLine then some (.lst r.1, (unw (env.set j .emp) r.2 vs).set j (.own (.lst ds))) else none else none
  | _ => none
theorem okW_set {vs : List Nat} {env : Ev} {j : Nat} (h : okW vs env = true) : okW vs (env.set j .emp) = true := by
  unfold okW at h ⊢
  rw [List.all_eq_true] at h ⊢
  intro i hi
  have q := h i hi
  by_cases e : i = j
  · subst e
    by_cases hl : i < env.length
    · rw [List.getElem?_set_self hl]
    · rw [List.getElem?_eq_none (by rw [List.length_set]; omega)]
  · rw [set_ne e]; exact q
theorem tLc_pk {vs : List Nat} {j : Nat} {g : GM} {t : BM} {m : EM} {σ : L2.St} {H : Hp} {Q : VK} (h : TMf X.K c (eLcP vs j g t m) σ H Q) : tLc (iList X.K (tVar j)) (XG X.K vs g) (XB X.K t) (XM X.K m) vs σ H Q := by
  obtain ⟨env, d, env', R, q, k⟩ := h
  unfold eLcP at q
  split at q
  case h_2 => cases q
  case h_1 ds hj =>
    split at q
    case isFalse => cases q
    case isTrue ok =>
      obtain ⟨⟨zs, eF⟩, h2, q⟩ := Option.bind_eq_some_iff.mp q
      dsimp only at q
      split at q
      case isFalse => cases q
      case isTrue hz =>
        cases q
        obtain ⟨a, o, p1, p2, ⟨xs, rfl, p3⟩, p4, p5⟩ := R.own j _ hj
        have hjl := lt_of_get hj
        have hjv : j ∉ vs := fun z => by
          have y := List.all_eq_true.mp ok j z
          rw [hj] at y
          cases y
        obtain ⟨R1, f1⟩ := R.lend hj p1
        have noA : ¬ Own (env.set j .emp) σ a := fun z => by
          obtain ⟨i, e, y1, y2⟩ := z
          obtain ⟨b, u, w1, w2, w3, w4, _⟩ := R1.own i e y1
          rw [y2] at w1
          cases w1
          exact w4 (.inr rfl)
        have p3' : RDs X.K (Fb (c.lnd a) (env.set j .emp) σ) H ds xs := p3.go fun b u z n => ⟨z, fun y => n ((f1 b).mp y)⟩
        -- the list stands while the block runs
        have nB : ¬ c.B a := fun z => p4 (c.bf a z)
        have wok : WOK X.K (c.lnd a) (env.set j .emp) σ H (Itl X.K a) ds := by
          intro c2 env2 σ2 H2 R2 v2 i
          have hs : H2 a = some (.lst xs) := (v2.1 a _ p2 nB p5 noA).1
          have rs := p3'.go v2.2
          refine ⟨fun d hd => ?_, fun hd => ?_⟩
          · obtain ⟨x, hx, rx⟩ := rs.get hd
            refine ⟨⟨xs, x, SqL.of hs, hx⟩, fun y H3 ⟨e3, hy⟩ => ?_⟩
            subst e3
            have e4 := hy xs (SqL.of hs)
            rw [hx] at e4
            cases e4
            exact ⟨fun b o z => z, rx⟩
          · exact ⟨xs, SqL.of hs, by rw [rs.length]; exact List.getElem?_eq_none_iff.mp hd⟩
        refine ⟨_, p1, a, rfl, ⟨xs, SqL.of p2⟩, fun A hA => ?_⟩
        refine tLc_of (R1.wipe vs).1 (wok.wipe R1 vs) h2 hz (fun b o H' R' v' n r' => ?_) A hA
        obtain ⟨R3, v3, f3⟩ := R1.back (okW_set ok) R' v'
        have hs : H' a = some (.lst xs) := (v3 a _ p2 p5 noA).1
        obtain ⟨R4, f4⟩ := R3.give (d := .lst ds) p1 hs ⟨xs, rfl, p3'.go v3.fb⟩ p4 p5
        refine k b o H' R4 (fun u z y1 y2 y3 => ?_) n (r'.go fun u z y1 y2 => ⟨y1, fun y => y2 (f3 u (f4 u y))⟩)
        have na : u ≠ a := fun y => y3 ⟨j, _, hj, by rw [y]; exact p1⟩
        have nO : ¬ Own (env.set j .emp) σ u := fun y => by
          rcases (f1 u).mp (.inr (.inr y)) with w | w | w
          · obtain ⟨i, e, w1, w2⟩ := y
            obtain ⟨b', u', x1, x2, x3, x4, _⟩ := R1.own i e w1
            rw [w2] at x1
            cases x1
            exact x4 (.inl w)
          · exact y2 w
          · exact y3 w
        obtain ⟨w1, w2⟩ := v3 u z y1 y2 nO
        refine ⟨w1, fun y => ?_⟩
        obtain ⟨i, e, x1, x2⟩ := y
        rcases get_set x1 with ⟨x3, _, _⟩ | ⟨_, x3⟩
        · subst x3
          rw [p1] at x2
          cases x2
          exact na rfl
        · exact w2 ⟨i, e, x3, x2⟩
theorem pf_lcP {j : Nat} {elt tg iter : Expr} {ifs : List Expr} {scope : Scope} {own : List (Str × Nat)} {pos : Pos} {g : GM} {t : BM} {m : EM} (hc : X.calm = true) (hN : X.N.Nodup) (hi : PE X iter (tVar j)) (ok : BlkOk X.N X.env.scope scope own)
    (hg : ∀ (s : Shared) (H : Hp) (C : Addr) (cl : List (Str × Addr)) (fp : List Addr) (c : Cn), PDg (X.blk s H scope (compEnvC scope cl C X.env) fp) c (own.map (·.2)) tg g) (ht : ∀ (s : Shared) (H : Hp) (C : Addr) (cl : List (Str × Addr)) (fp : List Addr) (c : Cn), PDts (X.blk s H scope (compEnvC scope cl C X.env) fp) c ifs t)
    (he : ∀ (s : Shared) (H : Hp) (C : Addr) (cl : List (Str × Addr)) (fp : List Addr) (c : Cn), PD (X.blk s H scope (compEnvC scope cl C X.env) fp) c elt m) (hs : ∀ x, foldedSetIterable iter X.env x = pure x := by intro _; rfl) :
    PDf X c (.ListComp elt [⟨tg, iter, ifs, 0⟩] scope pos) (eLcP (own.map (·.2)) j g t m) :=
  pe_wk (pe_lc hc hN (pi_list hi) ok (fun s H C cl fp => pg_ex fun c => hg s H C cl fp c) (fun s H C cl fp => pts_ex fun c => ht s H C cl fp c) (fun s H C cl fp => pe_ex fun c => he s H C cl fp c) hs) fun σ H Q h => tLc_pk h
end
end NR

set_option Elab.async false
set_option linter.all false
set_option maxRecDepth 100000
set_option maxHeartbeats 4000000
set_option autoImplicit false
/-! The engine, part g: comprehensions of two clauses. -/
namespace NR
open PySem PySem.Spec L2
def lc2L (vs vs1 : List Nat) (g : GM) (t : BM) (w1 : AM) (g1 : GM) (t1 : BM) (m : EM) : List D → Ev → Option (List D × Ev)
  | [], env => some ([], env)
  | d :: ds, env => (g d env).bind fun e1 => (t e1).bind fun p => if p.1 = true then (w1 p.2).bind fun q => (lcL vs1 g1 t1 m q.1 (wipeE q.2 vs1)).bind fun r => (lc2L vs vs1 g t w1 g1 t1 m ds (wipeE r.2 vs)).bind fun u => some (r.1 ++ u.1, u.2)
      else lc2L vs vs1 g t w1 g1 t1 m ds (wipeE p.2 vs)
def eLc2 (vs vs1 : List Nat) (w : AM) (g : GM) (t : BM) (w1 : AM) (g1 : GM) (t1 : BM) (m : EM) : EM := fun env => (w env).bind fun p => if okW vs p.2 then (lc2L vs vs1 g t w1 g1 t1 m p.1 (wipeE p.2 vs)).bind fun r => if r.1.length ≤ sizeLine then some (.lst r.1, unw p.2 r.2 vs) else none else none
section
variable {X : Cx} {c : Cn}
theorem tLc2_val {vs vs1 : List Nat} {w : AM} {g : GM} {t : BM} {w1 : AM} {g1 : GM} {t1 : BM} {m : EM} {σ : L2.St} {H : Hp} {Q : VK} (hv : ∀ i ∈ vs1, i ∈ vs) (h : TMf X.K c (eLc2 vs vs1 w g t w1 g1 t1 m) σ H Q) :
    tLc2 (TMi X.K c w) (XG X.K vs g) (XB X.K t) (XI X.K w1) (XG X.K vs1 g1) (XB X.K t1) (XM X.K m) vs vs1 σ H Q := by
  obtain ⟨env, d, env', R, q, k⟩ := h
  unfold eLc2 at q
  obtain ⟨⟨ds, e1⟩, h1, q⟩ := Option.bind_eq_some_iff.mp q
  dsimp only at q
  split at q
  case isFalse => cases q
  case isTrue ok =>
    obtain ⟨⟨zs, eF⟩, hl, q⟩ := Option.bind_eq_some_iff.mp q
    dsimp only at q
    split at q
    case isFalse => cases q
    case isTrue hz =>
      cases q
      refine ⟨env, ds, e1, R, h1, fun J H1 R1 v1 wok A hA => ?_⟩
      have hAt : A ∉ c.τ := fun z => by obtain ⟨u, q, _⟩ := R1.dom A (.inr z); rw [hA] at q; cases q
      have hAF : ¬ c.F A := fun z => by obtain ⟨u, q, _⟩ := R1.dom A (.inl z); rw [hA] at q; cases q
      have hF : (c.ban A).F A := .inr rfl
      have hB : (c.ban A).B A := .inr rfl
      have R1w := (R1.wipe vs).1
      have wk : WOK X.K (c.ban A) (wipeE e1 vs) (L2.wipe σ vs) (upd H1 A (.lst [])) J ds := (wok.wipe R1 vs).mono ⟨fun b o q nB nt nO => ⟨upd_old hA b o q, fun z => z.elim nB (ne_of_none q hA), nt, nO⟩, fun b o q n => ⟨upd_old hA b o q, fun z => (ban_fb.mp z).elim n (ne_of_none q hA)⟩⟩
      refine ⟨fun i mm H => mm = ds.length - i ∧ i ≤ ds.length ∧ ∃ e done acc ys, H A = some (.lst acc) ∧ Rel X.K (c.ban A) e (L2.wipe σ vs) H ∧ EvoA (c.ban A) A (wipeE e1 vs) (L2.wipe σ vs) (upd H1 A (.lst [])) e (L2.wipe σ vs) H ∧ RDs X.K (Fb (c.ban A) e (L2.wipe σ vs)) H done acc ∧ lc2L vs vs1 g t w1 g1 t1 m (ds.drop i) e = some (ys, eF) ∧ zs = done ++ ys,
        ⟨_, rfl, Nat.zero_le _, wipeE e1 vs, [], [], zs, upd_same, R1w.ban hA, EvoA.refl, rfl, hl, rfl⟩, ?_⟩
      rintro i mm H ⟨rfl, hle, e, done, acc, ys, hH, R, v, rd, hf, hzs⟩
      have wk := wk (c.ban A) e (L2.wipe σ vs) H R (v.kp hF hB) i
      cases hd : ds[i]? with
      | none =>
        left
        refine ⟨wk.2 hd, ?_⟩
        rw [List.drop_eq_nil_of_le (List.getElem?_eq_none_iff.mp hd)] at hf
        cases hf
        rw [List.append_nil] at hzs
        subst hzs
        have v' : Evo c (wipeE e1 vs) (L2.wipe σ vs) H1 eF (L2.wipe σ vs) (hm H A) := fun b o h t' n => by
          have ne := ne_of_none h hA
          obtain ⟨h1, h2⟩ := v b o (upd_old hA b o h) ne t' n
          exact ⟨by rw [hm_ne ne]; exact h1, h2⟩
        obtain ⟨R3, v3, f3⟩ := R1.back ok (R.drop hAt hAF) v'
        have q := k A (.lst acc) (hm H A) R3 (v1.trans v3) hm_self ⟨acc, rfl, (rd.go drop_go).go fun b u z nz => ⟨z, fun y => nz (f3 b y)⟩⟩
        rw [upd_hm hH] at q
        exact q
      | some d =>
        right
        obtain ⟨go, yl⟩ := wk.1 d hd
        have hlt := lt_of_get hd
        have hdr : ds.drop i = d :: ds.drop (i + 1) := by
          rw [List.drop_eq_getElem_cons hlt]
          congr 1
          exact Option.some.inj ((List.getElem?_eq_getElem hlt).symm.trans hd)
        rw [hdr] at hf
        unfold lc2L at hf
        obtain ⟨e2, h2, hf⟩ := Option.bind_eq_some_iff.mp hf
        obtain ⟨⟨b, e3⟩, h3, hf⟩ := Option.bind_eq_some_iff.mp hf
        dsimp only at hf
        refine ⟨go, fun H' => ∃ e done acc ys, H' A = some (.lst acc) ∧ Rel X.K (c.ban A) e (L2.wipe σ vs) H' ∧ EvoA (c.ban A) A (wipeE e1 vs) (L2.wipe σ vs) (upd H1 A (.lst [])) e (L2.wipe σ vs) H' ∧ RDs X.K (Fb (c.ban A) e (L2.wipe σ vs)) H' done acc ∧ lc2L vs vs1 g t w1 g1 t1 m (ds.drop (i + 1)) e = some (ys, eF) ∧ zs = done ++ ys,
          fun H' q => ⟨_, by omega, rfl, by omega, q⟩, fun x H2 y => ?_⟩
        obtain ⟨gr, rx⟩ := yl x H2 y
        have R2 := R.heap gr
        have gv : Evo (c.ban A) e (L2.wipe σ vs) H e (L2.wipe σ vs) H2 := Evo.grow gr
        refine ⟨c.ban A, e, d, e2, R2, rx, h2, fun σ3 H3 R3 v3 o3 => ⟨(wipe_off o3).trans wipe_wipe, c.ban A, e2, b, e3, R3, h3, fun H4 R4 v4 => ?_⟩⟩
        have wo : L2.wipe σ3 vs = L2.wipe σ vs := (wipe_off o3).trans wipe_wipe
        have wo1 : L2.wipe (L2.wipe σ3 vs1) vs = L2.wipe σ vs := (wipe_off ⟨L2.wipe_length σ3 vs1, fun j hj => L2.wipe_out fun z => hj (hv j z)⟩).trans wo
        have v04 : Evo (c.ban A) e (L2.wipe σ vs) H e3 σ3 H4 := (gv.trans v3).trans v4
        have keep : ∀ {e' : Ev} {σ' : L2.St} {H' : Hp}, Evo (c.ban A) e (L2.wipe σ vs) H e' σ' H' → H' A = some (.lst acc) := fun w => (w A _ hH hAt fun ⟨j, d', p, q⟩ => by
          obtain ⟨b', u, y1, _, _, y4, _⟩ := R.own j d' p
          rw [q] at y1
          cases y1
          exact y4 hF).1
        cases b with
        | false =>
          rw [if_neg Bool.false_ne_true] at hf
          refine iteF ?_
          obtain ⟨R5, v5⟩ := R4.wipe vs
          rw [wo] at R5 v5
          have w := v04.trans v5
          exact ⟨wipeE e3 vs, done, acc, ys, keep v04, R5, v.then w, w.rds rd, hf, hzs⟩
        | true =>
          rw [if_pos rfl] at hf
          refine iteT ?_
          obtain ⟨⟨ds1, e4⟩, h5, hf⟩ := Option.bind_eq_some_iff.mp hf
          obtain ⟨⟨zs1, e5⟩, h6, hf⟩ := Option.bind_eq_some_iff.mp hf
          obtain ⟨⟨zr, e6⟩, h7, hf⟩ := Option.bind_eq_some_iff.mp hf
          cases hf
          refine ⟨c.ban A, e3, ds1, e4, R4, h5, fun J1 H5 R5 v5 wok1 => ?_⟩
          have v05 := v04.trans v5
          obtain ⟨R5w, v5w⟩ := R5.wipe vs1
          refine turns (c := c.ban A) hF hB hAt R5w (keep v05) (v5w.rds (v05.rds rd)) (wok1.wipe R5 vs1) h6 ?_ fun H' acc' R' v' hH' rd' => ?_
          · have l2 := congrArg List.length hzs
            rw [List.length_append, List.length_append] at l2
            have l3 : zs.length = done.length + (zs1.length + zr.length) := l2
            omega
          · obtain ⟨R6, v6⟩ := R'.wipe vs
            rw [wo1] at R6 v6
            exact ⟨wipeE e5 vs, done ++ zs1, acc', zr, hH', R6, (((v.then v05).then v5w).trans v').then v6, v6.rds rd', h7, by rw [hzs, List.append_assoc]⟩
theorem pf_lc2 {elt tg iter tg1 iter1 : Expr} {ifs ifs1 : List Expr} {scope : Scope} {own : List (Str × Nat)} {vs1 : List Nat} {pos : Pos} {w : AM} {g : GM} {t : BM} {w1 : AM} {g1 : GM} {t1 : BM} {m : EM} (hc : X.calm = true) (hN : X.N.Nodup) (hi : PDi X c tg iter w) (ok : BlkOk X.N X.env.scope scope own) (hv : ∀ i ∈ vs1, i ∈ own.map (·.2))
    (hg : ∀ (s : Shared) (H : Hp) (C : Addr) (cl : List (Str × Addr)) (fp : List Addr) (c : Cn), PDg (X.blk s H scope (compEnvC scope cl C X.env) fp) c (own.map (·.2)) tg g) (ht : ∀ (s : Shared) (H : Hp) (C : Addr) (cl : List (Str × Addr)) (fp : List Addr) (c : Cn), PDts (X.blk s H scope (compEnvC scope cl C X.env) fp) c ifs t)
    (hi1 : ∀ (s : Shared) (H : Hp) (C : Addr) (cl : List (Str × Addr)) (fp : List Addr) (c : Cn), PDi (X.blk s H scope (compEnvC scope cl C X.env) fp) c tg1 iter1 w1)
    (hg1 : ∀ (s : Shared) (H : Hp) (C : Addr) (cl : List (Str × Addr)) (fp : List Addr) (c : Cn), PDg (X.blk s H scope (compEnvC scope cl C X.env) fp) c vs1 tg1 g1) (ht1 : ∀ (s : Shared) (H : Hp) (C : Addr) (cl : List (Str × Addr)) (fp : List Addr) (c : Cn), PDts (X.blk s H scope (compEnvC scope cl C X.env) fp) c ifs1 t1)
    (he : ∀ (s : Shared) (H : Hp) (C : Addr) (cl : List (Str × Addr)) (fp : List Addr) (c : Cn), PD (X.blk s H scope (compEnvC scope cl C X.env) fp) c elt m) (hs : ∀ x, foldedSetIterable iter X.env x = pure x := by intro _; rfl) (hs1 : ∀ env x, foldedSetIterable iter1 env x = pure x := by intro _ _; rfl) :
    PDf X c (.ListComp elt [⟨tg, iter, ifs, 0⟩, ⟨tg1, iter1, ifs1, 0⟩] scope pos) (eLc2 (own.map (·.2)) vs1 w g t w1 g1 t1 m) :=
  pe_wk (pe_lc2 hc hN hi ok hv (fun s H C cl fp => pg_ex fun c => hg s H C cl fp c) (fun s H C cl fp => pts_ex fun c => ht s H C cl fp c) (fun s H C cl fp => pi_ex fun c => hi1 s H C cl fp c) (fun s H C cl fp => pg_ex fun c => hg1 s H C cl fp c) (fun s H C cl fp => pts_ex fun c => ht1 s H C cl fp c) (fun s H C cl fp => pe_ex fun c => he s H C cl fp c) hs hs1) fun σ H Q h => tLc2_val hv h
theorem pf_setLc2 {i : Nat} {y : Str} {py : Pos} {elt tg iter tg1 iter1 : Expr} {ifs ifs1 : List Expr} {scope : Scope} {own : List (Str × Nat)} {vs1 : List Nat} {pos spos : Pos} {w : AM} {g : GM} {t : BM} {w1 : AM} {g1 : GM} {t1 : BM} {m : EM} (hc : X.calm = true) (hN : X.N.Nodup) (hy : X.N[i]? = some y) (hyl : X.env.scope.names.lookup y = some .local)
    (hsw : swapsWith (.ListComp elt [⟨tg, iter, ifs, 0⟩, ⟨tg1, iter1, ifs1, 0⟩] scope pos) (some (.Name y py)) spos.line X.env = pure true) (hi : PDi X c tg iter w) (ok : BlkOk X.N X.env.scope scope own) (hv : ∀ i ∈ vs1, i ∈ own.map (·.2))
    (hg : ∀ (s : Shared) (H : Hp) (C : Addr) (cl : List (Str × Addr)) (fp : List Addr) (c : Cn), PDg (X.blk s H scope (compEnvC scope cl C X.env) fp) c (own.map (·.2)) tg g) (ht : ∀ (s : Shared) (H : Hp) (C : Addr) (cl : List (Str × Addr)) (fp : List Addr) (c : Cn), PDts (X.blk s H scope (compEnvC scope cl C X.env) fp) c ifs t)
    (hi1 : ∀ (s : Shared) (H : Hp) (C : Addr) (cl : List (Str × Addr)) (fp : List Addr) (c : Cn), PDi (X.blk s H scope (compEnvC scope cl C X.env) fp) c tg1 iter1 w1)
    (hg1 : ∀ (s : Shared) (H : Hp) (C : Addr) (cl : List (Str × Addr)) (fp : List Addr) (c : Cn), PDg (X.blk s H scope (compEnvC scope cl C X.env) fp) c vs1 tg1 g1) (ht1 : ∀ (s : Shared) (H : Hp) (C : Addr) (cl : List (Str × Addr)) (fp : List Addr) (c : Cn), PDts (X.blk s H scope (compEnvC scope cl C X.env) fp) c ifs1 t1)
    (he : ∀ (s : Shared) (H : Hp) (C : Addr) (cl : List (Str × Addr)) (fp : List Addr) (c : Cn), PD (X.blk s H scope (compEnvC scope cl C X.env) fp) c elt m) (hs : ∀ x, foldedSetIterable iter X.env x = pure x := by intro _; rfl) (hs1 : ∀ env x, foldedSetIterable iter1 env x = pure x := by intro _ _; rfl) :
    PS X (.Assign [.Name y py] (.ListComp elt [⟨tg, iter, ifs, 0⟩, ⟨tg1, iter1, ifs1, 0⟩] scope pos) spos) (tAsg (TMf X.K c (eLc2 (own.map (·.2)) vs1 w g t w1 g1 t1 m)) (gName i)) :=
  asg_wk (ps_setLc2 hc hN hy hyl hsw hi ok hv (fun s H C cl fp => pg_ex fun c => hg s H C cl fp c) (fun s H C cl fp => pts_ex fun c => ht s H C cl fp c) (fun s H C cl fp => pi_ex fun c => hi1 s H C cl fp c) (fun s H C cl fp => pg_ex fun c => hg1 s H C cl fp c) (fun s H C cl fp => pts_ex fun c => ht1 s H C cl fp c) (fun s H C cl fp => pe_ex fun c => he s H C cl fp c) hs hs1) fun σ H Q h => tLc2_val hv h
end
end NR

set_option Elab.async false
set_option linter.all false
set_option maxRecDepth 100000
set_option maxHeartbeats 4000000
set_option autoImplicit false
/-! The engine, part h: built-in functions, subscripts, slices. -/
namespace NR
open PySem PySem.Spec L2
def eUn (g : D → Option D) (m : EM) : EM := fun env => (m env).bind fun p => (g p.1).bind fun z => some (z, p.2)
theorem un_split {g : D → Option D} {m : EM} {env env' : Ev} {z : D} (h : eUn g m env = some (z, env')) : ∃ d, m env = some (d, env') ∧ g d = some z := by
  unfold eUn at h
  obtain ⟨⟨d, e1⟩, h1, h⟩ := Option.bind_eq_some_iff.mp h
  obtain ⟨y, h2, h⟩ := Option.bind_eq_some_iff.mp h
  cases h
  exact ⟨d, h1, h2⟩
/-- a call with one value: its answer, a new object -/
def Call1 (K : PySem.W.Frag) (r : List V → Hp → VK → Prop) (g : D → Option D) : Prop := ∀ (c : Cn) (env : Ev) (σ : L2.St) (H : Hp) (x : V) (d z : D) (Q : VK), Rel K c env σ H → RK K (Fb c env σ) H d x → g d = some z →
  (∀ v H', Rel K c env σ H' → Evo c env σ H env σ H' → RD K (Fb c env σ) H' z v → Q v H') → r [x] H Q
def CallF (K : PySem.W.Frag) (r : List V → Hp → VK → Prop) (g : D → Option D) : Prop := ∀ (c : Cn) (env : Ev) (σ : L2.St) (H : Hp) (x : V) (d z : D) (Q : VK), Rel K c env σ H → RK K (Fb c env σ) H d x → g d = some z →
  (∀ a o, H a = none → OB K (Fb c env σ) H z o → Q (.ref a) (upd H a o)) → r [x] H Q
def Call2 (K : PySem.W.Frag) (r : List V → Hp → VK → Prop) (g : D → D → Option D) : Prop := ∀ (c : Cn) (env : Ev) (σ : L2.St) (H : Hp) (x y : V) (d e z : D) (Q : VK), Rel K c env σ H → RD K (Fb c env σ) H d x → RK K (Fb c env σ) H e y → g d e = some z →
  (∀ v H', Rel K c env σ H' → Evo c env σ H env σ H' → RD K (Fb c env σ) H' z v → Q v H') → r [x, y] H Q
section
variable {X : Cx} {c : Cn} {e : Expr} {r : List V → Hp → VK → Prop} {m ma mb : EM}
theorem pd_u1 {g : D → Option D} (hd : Call1 X.K r g) (h : PE X e (tCB r (tCons (TMk X.K c m) tNil))) : PD X c e (eUn g m) := pe_wk h fun σ H Q ⟨env, z, env', R, q, k⟩ => by
  obtain ⟨d, h1, h2⟩ := un_split q
  exact ⟨env, d, env', R, h1, fun x H1 R1 v1 r1 => hd c env' σ H1 x d z Q R1 r1 h2 fun v H' R' v' r' => k v H' R' (v1.trans v') r'⟩
theorem pf_u1 {g : D → Option D} (hd : CallF X.K r g) (h : PE X e (tCB r (tCons (TMk X.K c m) tNil))) : PDf X c e (eUn g m) := pe_wk h fun σ H Q ⟨env, z, env', R, q, k⟩ => by
  obtain ⟨d, h1, h2⟩ := un_split q
  exact ⟨env, d, env', R, h1, fun x H1 R1 v1 r1 => hd c env' σ H1 x d z Q R1 r1 h2 fun a o n r' => k a o H1 R1 v1 n r'⟩
theorem pd_u2 {g : D → D → Option D} (hd : Call2 X.K r g) (h : PE X e (tCB r (tCons (TM X.K c ma) (tCons (TMk X.K c mb) tNil)))) : PD X c e (eBin g ma mb) := pe_wk h fun σ H Q ⟨env, z, env', R, q, k⟩ => by
  obtain ⟨d, e1, e, h1, h2, h3⟩ := bin_split q
  exact ⟨env, d, e1, R, h1, fun x H1 R1 v1 r1 => ⟨e1, e, env', R1, h2, fun y H2 R2 v2 r2 => hd c env' σ H2 x y d e z Q R2 (v2.rd r1) r2 h3 fun v H' R' v' r' => k v H' R' (v1.trans (v2.trans v')) r'⟩⟩
/-- -x -/
theorem pd_un {op : UnaryOp} {g : D → Option D} {r : V → Hp → VK → Prop} {pos : Pos} (ho : UnR X (unaryOp op) r) (hd : ∀ (F : Addr → Prop) (H : Hp) (d z : D) (x : V) (Q : VK), RK X.K F H d x → g d = some z → (∀ v, (∀ F H, RD X.K F H z v) → Q v H) → r x H Q) (h : PDk X c e m) : PD X c (.UnaryOp op e pos) (eUn g m) :=
  pe_wk (pe_un ho h) fun σ H Q ⟨env, z, env', R, q, k⟩ => by
    obtain ⟨d, h1, h2⟩ := un_split q
    exact ⟨env, d, env', R, h1, fun x H1 R1 v1 r1 => hd _ H1 d z x Q r1 h2 fun v rv => k v H1 R1 v1 (rv _ _)⟩
def negD : D → Option D
  | .int i => some (.int (-i))
  | _ => none
theorem opd_neg {K : PySem.W.Frag} : ∀ (F : Addr → Prop) (H : Hp) (d z : D) (x : V) (Q : VK), RK K F H d x → negD d = some z → (∀ v, (∀ F H, RD K F H z v) → Q v H) → (rU fun i => .int (-i)) x H Q := by
  intro F H d z x Q r h k
  cases d <;> first | cases h | skip
  rw [rk_int r]
  exact ⟨_, rfl, k _ fun _ _ => rfl⟩
end

/-! len, tuple, list, all, any, sum, max, min, abs, int, str -/
def lenD : D → Option D
  | .str x => if x.length ≤ sizeLine then some (.int x.length) else none
  | d => (sqD d).bind fun ds => some (.int ds.length)
def tupD (d : D) : Option D := (sqD d).bind fun ds => some (.tup ds)
def lstD (d : D) : Option D := (sqD d).bind fun ds => some (.lst ds)
def toI : D → Option Int
  | .int i => some i
  | _ => none
def toB : D → Option Bool
  | .bl b => some b
  | _ => none
def intsD (d : D) : Option (List Int) := (sqD d).bind fun ds => ds.mapM toI
def boolsD (d : D) : Option (List Bool) := (sqD d).bind fun ds => ds.mapM toB
def allD (d : D) : Option D := (boolsD d).bind fun bs => some (.bl (bs.all id))
def anyD (d : D) : Option D := (boolsD d).bind fun bs => some (.bl (bs.any id))
def sumD (d : D) : Option D := (intsD d).bind fun ns => some (.int ns.sum)
def maxI : List Int → Int
  | [] => 0
  | x :: xs => xs.foldl max x
def minI : List Int → Int
  | [] => 0
  | x :: xs => xs.foldl min x
def maxD (d : D) : Option D := (intsD d).bind fun ns => if ns.isEmpty then none else some (.int (maxI ns))
def minD (d : D) : Option D := (intsD d).bind fun ns => if ns.isEmpty then none else some (.int (minI ns))
theorem foldl_max_ge : ∀ (xs : List Int) (x : Int), x ≤ xs.foldl max x ∧ ∀ y ∈ xs, y ≤ xs.foldl max x
  | [], x => ⟨Int.le_refl _, fun y h => by simp at h⟩
  | z :: xs, x => by
    obtain ⟨a, b⟩ := foldl_max_ge xs (max x z)
    rw [List.foldl_cons]
    refine ⟨by omega, fun y h => ?_⟩
    rcases List.mem_cons.mp h with e | h
    · subst e; omega
    · exact b y h
theorem foldl_max_mem : ∀ (xs : List Int) (x : Int), xs.foldl max x = x ∨ xs.foldl max x ∈ xs
  | [], x => .inl rfl
  | z :: xs, x => by
    rw [List.foldl_cons]
    rcases foldl_max_mem xs (max x z) with h | h
    · rw [h]
      by_cases e : x ≤ z
      · right; rw [show max x z = z by omega]; exact List.mem_cons_self
      · left; omega
    · exact .inr (List.mem_cons_of_mem _ h)
theorem foldl_min_le : ∀ (xs : List Int) (x : Int), xs.foldl min x ≤ x ∧ ∀ y ∈ xs, xs.foldl min x ≤ y
  | [], x => ⟨Int.le_refl _, fun y h => by simp at h⟩
  | z :: xs, x => by
    obtain ⟨a, b⟩ := foldl_min_le xs (min x z)
    rw [List.foldl_cons]
    refine ⟨by omega, fun y h => ?_⟩
    rcases List.mem_cons.mp h with e | h
    · subst e; omega
    · exact b y h
theorem foldl_min_mem : ∀ (xs : List Int) (x : Int), xs.foldl min x = x ∨ xs.foldl min x ∈ xs
  | [], x => .inl rfl
  | z :: xs, x => by
    rw [List.foldl_cons]
    rcases foldl_min_mem xs (min x z) with h | h
    · rw [h]
      by_cases e : x ≤ z
      · left; omega
      · right; rw [show min x z = z by omega]; exact List.mem_cons_self
    · exact .inr (List.mem_cons_of_mem _ h)
theorem maxI_of {ns : List Int} {m : Int} (h : m ∈ ns) (k : ∀ y ∈ ns, y ≤ m) : m = maxI ns := by
  cases ns with
  | nil => simp at h
  | cons x xs =>
    obtain ⟨a, b⟩ := foldl_max_ge xs x
    have up : m ≤ xs.foldl max x := by
      rcases List.mem_cons.mp h with e | h
      · subst e; exact a
      · exact b m h
    have dn : xs.foldl max x ≤ m := by
      rcases foldl_max_mem xs x with e | e
      · rw [e]; exact k x List.mem_cons_self
      · exact k _ (List.mem_cons_of_mem _ e)
    exact Int.le_antisymm up dn
theorem minI_of {ns : List Int} {m : Int} (h : m ∈ ns) (k : ∀ y ∈ ns, m ≤ y) : m = minI ns := by
  cases ns with
  | nil => simp at h
  | cons x xs =>
    obtain ⟨a, b⟩ := foldl_min_le xs x
    have up : xs.foldl min x ≤ m := by
      rcases List.mem_cons.mp h with e | h
      · subst e; exact a
      · exact b m h
    have dn : m ≤ xs.foldl min x := by
      rcases foldl_min_mem xs x with e | e
      · rw [e]; exact k x List.mem_cons_self
      · exact k _ (List.mem_cons_of_mem _ e)
    exact Int.le_antisymm dn up
section
variable {K : PySem.W.Frag} {F : Addr → Prop} {H : Hp}
/-- a sequence as it stands -/
theorem RK.seq {d : D} {v : V} {ds : List D} (h : sqD d = some ds) (r : RK K F H d v) : ∃ a xs, v = .ref a ∧ (SqL K H a xs ∨ (SqT K H a xs ∧ ¬ F a ∧ H a = some (.tup xs))) ∧ RDs K F H ds xs := by
  cases d with
  | tup es => cases h; obtain ⟨a, xs, e, n, q, rs⟩ := r; exact ⟨a, xs, e, .inr ⟨SqT.of q, n, q⟩, rs⟩
  | lst es => cases h; obtain ⟨a, xs, e, q, rs⟩ := r; exact ⟨a, xs, e, .inl (SqL.of q), rs⟩
  | scr ns =>
    cases h
    obtain ⟨a, e, q⟩ := r
    refine ⟨a, _, e, .inl (scr_sq q), ?_⟩
    clear q
    induction ns with
    | nil => exact rfl
    | cons n ns ih => exact ⟨_, _, rfl, rfl, ih⟩
  | _ => cases h
theorem RDs.ints : ∀ {ds : List D} {xs : List V} {ns : List Int}, ds.mapM toI = some ns → RDs K F H ds xs → xs = ns.map V.int
  | [], _, _, h, r => by
    rw [List.mapM_nil] at h
    cases h
    exact r
  | d :: ds, _, _, h, ⟨x, r, e, p, q⟩ => by
    rw [List.mapM_cons] at h
    obtain ⟨i, h1, h⟩ := Option.bind_eq_some_iff.mp h
    obtain ⟨is, h2, h⟩ := Option.bind_eq_some_iff.mp h
    cases h
    cases d <;> first | cases h1 | skip
    subst e
    rw [RDs.ints h2 q, rd_int p]; rfl
theorem RDs.bools : ∀ {ds : List D} {xs : List V} {ns : List Bool}, ds.mapM toB = some ns → RDs K F H ds xs → xs = ns.map V.bl
  | [], _, _, h, r => by
    rw [List.mapM_nil] at h
    cases h
    exact r
  | d :: ds, _, _, h, ⟨x, r, e, p, q⟩ => by
    rw [List.mapM_cons] at h
    obtain ⟨i, h1, h⟩ := Option.bind_eq_some_iff.mp h
    obtain ⟨is, h2, h⟩ := Option.bind_eq_some_iff.mp h
    cases h
    cases d <;> first | cases h1 | skip
    subst e
    rw [RDs.bools h2 q, rd_bl p]; rfl
theorem call1_len : Call1 K (fun xs H Q => ∃ x n, xs = [x] ∧ LenV K x H n ∧ Q (.int n) H) lenD := by
  intro c env σ H x d z Q R r h k
  by_cases hs : ∃ y, d = .str y
  · obtain ⟨y, rfl⟩ := hs
    have h' : (if y.length ≤ sizeLine then some (D.int y.length) else none) = some z := h
    split at h'
    case isFalse => cases h'
    case isTrue hl =>
      cases h'
      cases (show x = .str y from r)
      exact ⟨_, _, rfl, ⟨hl, rfl⟩, k _ H R Evo.refl rfl⟩
  · have h' : ((sqD d).bind fun ds => some (D.int ds.length)) = some z := by
      cases d <;> first | exact h | exact absurd ⟨_, rfl⟩ hs
    obtain ⟨ds, h1, h'⟩ := Option.bind_eq_some_iff.mp h'
    cases h'
    obtain ⟨a, xs, rfl, sq, rs⟩ := r.seq h1
    refine ⟨_, ds.length, rfl, ?_, k _ H R Evo.refl rfl⟩
    rcases sq with sq | ⟨sq, _⟩
    · exact .inl ⟨xs, sq, rs.length.symm⟩
    · exact .inr ⟨xs, sq, rs.length.symm⟩
theorem call1_tup : Call1 K (fun xs H Q => ∃ p ys, xs = [.ref p] ∧ ((SqL K H p ys ∧ ∀ l, H l = none → Q (.ref l) (upd H l (.tup ys))) ∨ (SqT K H p ys ∧ Q (.ref p) H))) tupD := by
  intro c env σ H x d z Q R r h k
  unfold tupD at h
  obtain ⟨ds, h1, h⟩ := Option.bind_eq_some_iff.mp h
  cases h
  obtain ⟨a, xs, rfl, sq, rs⟩ := r.seq h1
  rcases sq with sq | ⟨sq, n, q⟩
  · exact ⟨a, xs, rfl, .inl ⟨sq, fun l nl => k _ _ (R.alloc nl) (Evo.alloc nl) ⟨l, xs, rfl, R.new nl, upd_same, rs.grow (upd_old nl)⟩⟩⟩
  · exact ⟨a, xs, rfl, .inr ⟨sq, k _ H R Evo.refl ⟨a, xs, rfl, n, q, rs⟩⟩⟩
theorem callF_lst : CallF K (fun xs H Q => ∃ p ys, xs = [.ref p] ∧ (SqL K H p ys ∨ SqT K H p ys) ∧ ∀ l, H l = none → Q (.ref l) (upd H l (.lst ys))) lstD := by
  intro c env σ H x d z Q R r h k
  unfold lstD at h
  obtain ⟨ds, h1, h⟩ := Option.bind_eq_some_iff.mp h
  cases h
  obtain ⟨a, xs, rfl, sq, rs⟩ := r.seq h1
  exact ⟨a, xs, rfl, sq.elim .inl fun z => .inr z.1, fun l nl => k l _ nl ⟨xs, rfl, rs⟩⟩
/-- a list of ints, a tuple of ints -/
theorem RK.ints {d : D} {v : V} {ns : List Int} (h : intsD d = some ns) (r : RK K F H d v) : ∃ a, v = .ref a ∧ (SqL K H a (ns.map V.int) ∨ SqT K H a (ns.map V.int)) := by
  obtain ⟨ds, h1, h2⟩ := Option.bind_eq_some_iff.mp h
  obtain ⟨a, xs, e, sq, rs⟩ := r.seq h1
  rw [rs.ints h2] at sq
  exact ⟨a, e, sq.elim .inl fun z => .inr z.1⟩
theorem RK.bools {d : D} {v : V} {ns : List Bool} (h : boolsD d = some ns) (r : RK K F H d v) : ∃ a, v = .ref a ∧ (SqL K H a (ns.map V.bl) ∨ SqT K H a (ns.map V.bl)) := by
  obtain ⟨ds, h1, h2⟩ := Option.bind_eq_some_iff.mp h
  obtain ⟨a, xs, e, sq, rs⟩ := r.seq h1
  rw [rs.bools h2] at sq
  exact ⟨a, e, sq.elim .inl fun z => .inr z.1⟩
/-- over lists alone -/
def isL : D → Bool
  | .tup _ => false
  | _ => true
theorem RK.boolsL {d : D} {v : V} {ns : List Bool} (h : boolsD d = some ns) (hl : isL d = true) (r : RK K F H d v) : ∃ a, v = .ref a ∧ SqL K H a (ns.map V.bl) := by
  obtain ⟨ds, h1, h2⟩ := Option.bind_eq_some_iff.mp h
  cases d with
  | tup es => cases hl
  | lst es =>
    cases h1
    obtain ⟨a, xs, e, q, rs⟩ := r
    rw [rs.bools h2] at q
    exact ⟨a, e, SqL.of q⟩
  | scr ns =>
    cases h1
    cases ns with
    | nil =>
      cases h2
      obtain ⟨a, e, q⟩ := r
      exact ⟨a, e, scr_sq q⟩
    | cons n ns => rw [List.map_cons, List.mapM_cons] at h2; cases h2
  | _ => cases h1
def allL (d : D) : Option D := if isL d then allD d else none
def anyL (d : D) : Option D := if isL d then anyD d else none
theorem call1_all : Call1 K (rAll K) allL := by
  intro c env σ H x d z Q R r h k
  unfold allL at h
  split at h
  case isFalse => cases h
  case isTrue hl =>
    obtain ⟨bs, h1, h⟩ := Option.bind_eq_some_iff.mp h
    cases h
    obtain ⟨a, rfl, q⟩ := r.boolsL h1 hl
    exact ⟨a, bs, rfl, q, k _ H R Evo.refl rfl⟩
theorem call1_any : Call1 K (rAny K) anyL := by
  intro c env σ H x d z Q R r h k
  unfold anyL at h
  split at h
  case isFalse => cases h
  case isTrue hl =>
    obtain ⟨bs, h1, h⟩ := Option.bind_eq_some_iff.mp h
    cases h
    obtain ⟨a, rfl, q⟩ := r.boolsL h1 hl
    exact ⟨a, bs, rfl, q, k _ H R Evo.refl rfl⟩
end
/-! sum, max, min, of a list or a tuple -/
section
open PyProof.Rows
variable {prog : Program} {w : World} {A : Around} {E : Value → Shared → Prop} {s : Shared} {l : Addr} {its : List Value} {ns : List Int} {Q : Value → Shared → Prop}
theorem iterT {items : Array Value} {Q : Value → Shared → Prop} (hl : IsTup s.heap l items)
    (h : ∀ s₂, s₂ = { s with heap := s.heap.push { cls := .type "tuple_iterator", data := .fields #[.ref l, .int 0 0] } } → (s₂.heap.IsTupleIter s.heap.objs.size l 0 ∧ s₂.heap.IsTuple l items) → (∀ b ∈ [s.heap.objs.size, l], b < s₂.heap.objs.size) → l ≠ s.heap.objs.size → Q (.ref s.heap.objs.size) s₂) :
    wpAny (model prog w) A (pyIter (.ref l)) Q E s := by
  refine wpAny_pyIter_tuple (show s.heap.IsTuple l items from hl) (h _ rfl ⟨⟨_, Heap.get?_push_size _ rfl, rfl, rfl⟩, ?_⟩ ?_ (Nat.ne_of_lt hl.lt))
  · obtain ⟨o, ho, hc⟩ := hl
    exact ⟨o, Heap.get?_push_of_some _ ho, hc⟩
  · intro b hb
    have hs : (s.heap.push { cls := .type "tuple_iterator", data := .fields #[.ref l, .int 0 0] }).objs.size = s.heap.objs.size + 1 := Heap.size_push _ _
    show b < (s.heap.push _).objs.size
    rw [hs]
    rcases List.mem_cons.mp hb with e | hb
    · rw [e]; exact Nat.lt_succ_self _
    · rw [List.mem_singleton.mp hb]; exact Nat.lt_succ_of_lt hl.lt
theorem old_kT {h' : Heap} (hk : ∀ b o, b ∉ [s.heap.objs.size] → (s.heap.push { cls := .type "tuple_iterator", data := .fields #[.ref l, .int 0 0] }).get? b = some o → h'.get? b = some o) :
    ∀ b o, s.heap.get? b = some o → h'.get? b = some o := fun b o e => by
  refine hk b o (fun q => ?_) (Heap.get?_push_of_some _ e)
  have e1 := List.mem_singleton.mp q
  exact absurd (e1 ▸ Heap.lt_size e) (Nat.lt_irrefl _)
theorem val_at (rv : Vals (ns.map V.int) its) {i : Nat} {v : Value} (h : its.toArray[i]? = some v) : ∃ t, v = .int (ns.getD i 0) t := by
  have hi : i < its.length := by
    rw [List.getElem?_toArray] at h
    exact lt_of_get h
  have hn : i < ns.length := by
    have := rv.length
    rw [List.length_map] at this
    omega
  obtain ⟨u, hu, ru⟩ := rv.get (i := i) (x := V.int ns[i]) (by rw [List.getElem?_map, List.getElem?_eq_getElem hn]; rfl)
  rw [List.getElem?_toArray, hu] at h
  cases h
  obtain ⟨t, e⟩ := ru
  exact ⟨t, by rw [e, List.getD_eq_getElem?_getD, List.getElem?_eq_getElem hn]; rfl⟩
theorem maxT_raw (hh : A.handled = none) (hl : IsTup s.heap l its.toArray) (rv : Vals (ns.map V.int) its) (hne : 0 < ns.length)
    (h : ∀ h' tk M t', (∀ b o, s.heap.get? b = some o → h'.get? b = some o) → M ∈ ns → (∀ a, a ∈ ns → a ≤ M) → Q (.int M t') { s with heap := h', toks := tk }) : wpAny (model prog w) A (call (.builtin "max") [.ref l]) Q E s := by
  refine call_max_walk (iterT hl fun s₂ e st hfp hlI => ?_)
  subst e
  have hsz : its.toArray.size = ns.length := by rw [List.size_toArray, ← rv.length, List.length_map]
  refine ⟨_, _, _, _, _, _, _, rfl, Walks.tuple (A := A.in1) hh _ l hlI its.toArray, st, hfp, by omega, CmpOf.ints_gt (fun i => ns.getD i 0) (fun _ _ => val_at rv), fun v h' tk hP hk => ?_⟩
  obtain ⟨t, rfl⟩ := val_at rv hP
  obtain ⟨h1, h2⟩ := argBest_gt (fun i => ns.getD i 0) (its.toArray.size - 1)
  refine h h' tk _ t (old_kT hk) ?_ fun a ha => ?_
  · rw [List.getD_eq_getElem?_getD, List.getElem?_eq_getElem (by omega)]
    exact List.getElem_mem _
  · obtain ⟨j, hj, e⟩ := List.getElem_of_mem ha
    have q := h2 j (by omega)
    have hj' : ns.getD j 0 = a := by rw [List.getD_eq_getElem?_getD, List.getElem?_eq_getElem hj, ← e]; rfl
    rw [hj'] at q
    exact q
theorem minT_raw (hh : A.handled = none) (hl : IsTup s.heap l its.toArray) (rv : Vals (ns.map V.int) its) (hne : 0 < ns.length)
    (h : ∀ h' tk M t', (∀ b o, s.heap.get? b = some o → h'.get? b = some o) → M ∈ ns → (∀ a, a ∈ ns → M ≤ a) → Q (.int M t') { s with heap := h', toks := tk }) : wpAny (model prog w) A (call (.builtin "min") [.ref l]) Q E s := by
  refine call_min_walk (iterT hl fun s₂ e st hfp hlI => ?_)
  subst e
  have hsz : its.toArray.size = ns.length := by rw [List.size_toArray, ← rv.length, List.length_map]
  refine ⟨_, _, _, _, _, _, _, rfl, Walks.tuple (A := A.in1) hh _ l hlI its.toArray, st, hfp, by omega, CmpOf.ints_lt (fun i => ns.getD i 0) (fun _ _ => val_at rv), fun v h' tk hP hk => ?_⟩
  obtain ⟨t, rfl⟩ := val_at rv hP
  obtain ⟨h1, h2⟩ := argBest_lt (fun i => ns.getD i 0) (its.toArray.size - 1)
  refine h h' tk _ t (old_kT hk) ?_ fun a ha => ?_
  · rw [List.getD_eq_getElem?_getD, List.getElem?_eq_getElem (by omega)]
    exact List.getElem_mem _
  · obtain ⟨j, hj, e⟩ := List.getElem_of_mem ha
    have q := h2 j (by omega)
    have hj' : ns.getD j 0 = a := by rw [List.getD_eq_getElem?_getD, List.getElem?_eq_getElem hj, ← e]; rfl
    rw [hj'] at q
    exact q
theorem preSum_getD (ns : List Int) : ∀ n, n ≤ ns.length → preSum (fun i => ns.getD i 0) n = (ns.take n).sum
  | 0, _ => rfl
  | n + 1, h => by
    have ih := preSum_getD ns n (by omega)
    have hn : n < ns.length := by omega
    show preSum _ n + ns.getD n 0 = _
    rw [ih, List.take_succ_eq_append_getElem hn, List.sum_append, List.getD_eq_getElem?_getD, List.getElem?_eq_getElem hn]
    simp
theorem sumT_raw (hh : A.handled = none) (hl : IsTup s.heap l its.toArray) (rv : Vals (ns.map V.int) its)
    (h : ∀ h' tk t', (∀ b o, s.heap.get? b = some o → h'.get? b = some o) → Q (.int ns.sum t') { s with heap := h', toks := tk }) : wpAny (model prog w) A (call (.builtin "sum") [.ref l]) Q E s := by
  refine call_sum_walkG (iterT hl fun s₂ e st hfp hlI => ?_)
  subst e
  have hsz : its.toArray.size = ns.length := by rw [List.size_toArray, ← rv.length, List.length_map]
  refine ⟨_, _, _, _, _, _, fun i => ns.getD i 0, rfl, Walks.tuple (A := A.in1) hh _ l hlI its.toArray, st, hfp, (fun _ _ => val_at rv), fun h' tk t' hk => ?_⟩
  have q := h h' tk t' (old_kT hk)
  rw [hsz, preSum_getD ns _ (Nat.le_refl _), List.take_length]
  exact q
end
section
variable {X : Cx} {K : PySem.W.Frag}
def rSumT (K : PySem.W.Frag) : List V → Hp → VK → Prop := fun vs H Q => ∃ (a : Addr) (ns : List Int), vs = [V.ref a] ∧ SqT K H a (ns.map V.int) ∧ Q (.int ns.sum) H
def rMaxT (K : PySem.W.Frag) : List V → Hp → VK → Prop := fun vs H Q => ∃ (a : Addr) (ns : List Int), vs = [V.ref a] ∧ SqT K H a (ns.map V.int) ∧ 0 < ns.length ∧ ∀ m, m ∈ ns → (∀ y, y ∈ ns → y ≤ m) → Q (.int m) H
def rMinT (K : PySem.W.Frag) : List V → Hp → VK → Prop := fun vs H Q => ∃ (a : Addr) (ns : List Int), vs = [V.ref a] ∧ SqT K H a (ns.map V.int) ∧ 0 < ns.length ∧ ∀ m, m ∈ ns → (∀ y, y ∈ ns → m ≤ y) → Q (.int m) H
theorem cr_sumT (hc : X.calm = true) : CallR X (.builtin "sum") (rSumT X.K) := by
  intro pins s σ H vs us Q I r h
  obtain ⟨a, ns, rfl, hs, q⟩ := h
  obtain ⟨its, rv, hl, _⟩ := I.tuple hs
  rw [Vals.ref1 r]
  exact sumT_raw (I.ok.hd hc) hl rv fun h' tk t' hk => ⟨.int _, H, I.kept hk, ⟨_, rfl⟩, q⟩
theorem cr_maxT (hc : X.calm = true) : CallR X (.builtin "max") (rMaxT X.K) := by
  intro pins s σ H vs us Q I r h
  obtain ⟨a, ns, rfl, hs, hne, q⟩ := h
  obtain ⟨its, rv, hl, _⟩ := I.tuple hs
  rw [Vals.ref1 r]
  exact maxT_raw (I.ok.hd hc) hl rv hne fun h' tk m t' hk h1 h2 => ⟨.int _, H, I.kept hk, ⟨_, rfl⟩, q m h1 h2⟩
theorem cr_minT (hc : X.calm = true) : CallR X (.builtin "min") (rMinT X.K) := by
  intro pins s σ H vs us Q I r h
  obtain ⟨a, ns, rfl, hs, hne, q⟩ := h
  obtain ⟨its, rv, hl, _⟩ := I.tuple hs
  rw [Vals.ref1 r]
  exact minT_raw (I.ok.hd hc) hl rv hne fun h' tk m t' hk h1 h2 => ⟨.int _, H, I.kept hk, ⟨_, rfl⟩, q m h1 h2⟩
theorem crA_sum (hc : X.calm = true) : CallR X (.builtin "sum") (fun xs H Q => rSum X.K xs H Q ∨ rSumT X.K xs H Q) := (cr_sum hc).or (cr_sumT hc)
theorem crA_max (hc : X.calm = true) : CallR X (.builtin "max") (fun xs H Q => rMax X.K xs H Q ∨ rMaxT X.K xs H Q) := (cr_max hc).or (cr_maxT hc)
theorem crA_min (hc : X.calm = true) : CallR X (.builtin "min") (fun xs H Q => rMin X.K xs H Q ∨ rMinT X.K xs H Q) := (cr_min hc).or (cr_minT hc)
theorem call1_sum : Call1 K (fun xs H Q => rSum K xs H Q ∨ rSumT K xs H Q) sumD := by
  intro c env σ H x d z Q R r h k
  obtain ⟨ns, h1, h⟩ := Option.bind_eq_some_iff.mp h
  cases h
  obtain ⟨a, rfl, q⟩ := r.ints h1
  exact q.elim (fun q => .inl ⟨a, ns, rfl, q, k _ H R Evo.refl rfl⟩) fun q => .inr ⟨a, ns, rfl, q, k _ H R Evo.refl rfl⟩
theorem call1_max : Call1 K (fun xs H Q => rMax K xs H Q ∨ rMaxT K xs H Q) maxD := by
  intro c env σ H x d z Q R r h k
  obtain ⟨ns, h1, h⟩ := Option.bind_eq_some_iff.mp h
  split at h
  case isTrue => cases h
  case isFalse hn =>
    cases h
    have hl : 0 < ns.length := by cases ns with | nil => exact absurd rfl hn | cons => exact Nat.succ_pos _
    have fin : ∀ m, m ∈ ns → (∀ y, y ∈ ns → y ≤ m) → Q (.int m) H := fun m a b => by rw [maxI_of a b]; exact k _ H R Evo.refl rfl
    obtain ⟨a, rfl, q⟩ := r.ints h1
    exact q.elim (fun q => .inl ⟨a, ns, rfl, q, hl, fin⟩) fun q => .inr ⟨a, ns, rfl, q, hl, fin⟩
theorem call1_min : Call1 K (fun xs H Q => rMin K xs H Q ∨ rMinT K xs H Q) minD := by
  intro c env σ H x d z Q R r h k
  obtain ⟨ns, h1, h⟩ := Option.bind_eq_some_iff.mp h
  split at h
  case isTrue => cases h
  case isFalse hn =>
    cases h
    have hl : 0 < ns.length := by cases ns with | nil => exact absurd rfl hn | cons => exact Nat.succ_pos _
    have fin : ∀ m, m ∈ ns → (∀ y, y ∈ ns → m ≤ y) → Q (.int m) H := fun m a b => by rw [minI_of a b]; exact k _ H R Evo.refl rfl
    obtain ⟨a, rfl, q⟩ := r.ints h1
    exact q.elim (fun q => .inl ⟨a, ns, rfl, q, hl, fin⟩) fun q => .inr ⟨a, ns, rfl, q, hl, fin⟩
/-! two ints; abs, int, str -/
def max2D : D → D → Option D
  | .int i, .int j => some (.int (if j > i then j else i))
  | _, _ => none
def min2D : D → D → Option D
  | .int i, .int j => some (.int (if j < i then j else i))
  | _, _ => none
theorem call2_max : Call2 K (fun xs H Q => ∃ i j, xs = [.int i, .int j] ∧ Q (.int (if j > i then j else i)) H) max2D := by
  intro c env σ H x y d e z Q R rx ry h k
  cases d <;> cases e <;> first | cases h | skip
  rw [rd_int rx, rk_int ry]
  exact ⟨_, _, rfl, k _ H R Evo.refl rfl⟩
theorem call2_min : Call2 K (fun xs H Q => ∃ i j, xs = [.int i, .int j] ∧ Q (.int (if j < i then j else i)) H) min2D := by
  intro c env σ H x y d e z Q R rx ry h k
  cases d <;> cases e <;> first | cases h | skip
  rw [rd_int rx, rk_int ry]
  exact ⟨_, _, rfl, k _ H R Evo.refl rfl⟩
def absD : D → Option D
  | .int i => some (.int (if i < 0 then -i else i))
  | _ => none
theorem call1_abs : Call1 K (fun xs H Q => ∃ i, xs = [.int i] ∧ Q (.int (if i < 0 then -i else i)) H) absD := by
  intro c env σ H x d z Q R r h k
  cases d <;> first | cases h | skip
  rw [rk_int r]
  exact ⟨_, rfl, k _ H R Evo.refl rfl⟩
def intD : D → Option D
  | .int i => some (.int i)
  | .bl b => some (.int (if b then 1 else 0))
  | _ => none
theorem call1_int : Call1 K (fun xs H Q => (∃ i, xs = [.int i] ∧ Q (.int i) H) ∨ ∃ k, xs = [.bl k] ∧ Q (.int (if k then 1 else 0)) H) intD := by
  intro c env σ H x d z Q R r h k
  cases d <;> first | cases h | skip
  · rw [rk_bl r]
    exact .inr ⟨_, rfl, k _ H R Evo.refl rfl⟩
  · rw [rk_int r]
    exact .inl ⟨_, rfl, k _ H R Evo.refl rfl⟩
def strD : D → Option D
  | .int i => if i.natAbs.log2 < 1920 then some (.str (toString i)) else none
  | _ => none
theorem call1_str : Call1 K (fun xs H Q => ∃ i, xs = [.int i] ∧ i.natAbs.log2 < 1920 ∧ Q (.str (toString i)) H) strD := by
  intro c env σ H x d z Q R r h k
  cases d <;> first | cases h | skip
  rename_i i
  have h' : (if i.natAbs.log2 < 1920 then some (D.str (toString i)) else none) = some z := h
  split at h'
  case isFalse => cases h'
  case isTrue hl =>
    cases h'
    rw [rk_int r]
    exact ⟨_, rfl, hl, k _ H R Evo.refl rfl⟩
end
end NR

set_option Elab.async false
set_option linter.all false
set_option maxRecDepth 100000
set_option maxHeartbeats 4000000
set_option autoImplicit false
/-! The engine, part i: subscripts, slices, dicts, lists changed, isinstance. -/
namespace NR
open PySem PySem.Spec L2
/-! the first operand looked at late (a name whose object is one's own) -/
def OpV (K : PySem.W.Frag) (r : R2) (g : D → D → Option D) : Prop := ∀ (c : Cn) (env : Ev) (σ : L2.St) (H : Hp) (x y : V) (d e z : D) (Q : VK), Rel K c env σ H → RK K (Fb c env σ) H d x → RK K (Fb c env σ) H e y → g d e = some z →
  (∀ v H', Rel K c env σ H' → Evo c env σ H env σ H' → RD K (Fb c env σ) H' z v → Q v H') → r x y H Q
theorem OpV.d {K : PySem.W.Frag} {r : R2} {g : D → D → Option D} (h : OpV K r g) : OpD K r g := fun c env σ H x y d e z Q R rx ry q k => h c env σ H x y d e z Q R rx.rk ry q k
def lkE (env : Ev) (i : Nat) : Option D := match env[i]? with
  | some (.val d) => some d
  | some (.own d) => some d
  | some (.par _ d) => some d
  | _ => none
theorem Rel.look {K : PySem.W.Frag} {c : Cn} {env : Ev} {σ : L2.St} {H : Hp} (R : Rel K c env σ H) {i : Nat} {d : D} (h : lkE env i = some d) : ∃ v, σ[i]? = some (some v) ∧ RK K (Fb c env σ) H d v := by
  unfold lkE at h
  cases g : env[i]? with
  | none => rw [g] at h; cases h
  | some s =>
    rw [g] at h
    cases s with
    | emp => cases h
    | par j d' =>
      cases h
      obtain ⟨b, o, h1, _, h2, h3⟩ := R.par i j d g
      exact ⟨_, h1, h3.rk h2⟩
    | val d' =>
      cases h
      obtain ⟨v, h1, h2⟩ := R.val i d g
      exact ⟨v, h1, h2.rk⟩
    | own d' =>
      cases h
      obtain ⟨b, o, h1, h2, h3, _⟩ := R.own i d g
      exact ⟨_, h1, h3.rk h2⟩
def eBinV (g : D → D → Option D) (i : Nat) (mb : EM) : EM := fun env => (lkE env i).bind fun _ => (mb env).bind fun q => (lkE q.2 i).bind fun d => (g d q.1).bind fun z => some (z, q.2)
section
variable {X : Cx} {c : Cn} {e a b : Expr} {pos : Pos}
theorem pd_opV {r : R2} {g : D → D → Option D} {i : Nat} {mb : EM} (hd : OpV X.K r g) (h : PE X e (tOp r (tVar i) (TMk X.K c mb))) : PD X c e (eBinV g i mb) := pe_wk h fun σ H Q ⟨env, z, env', R, q, k⟩ => by
  unfold eBinV at q
  obtain ⟨d0, h0, q⟩ := Option.bind_eq_some_iff.mp q
  obtain ⟨⟨e1, e2⟩, h1, q⟩ := Option.bind_eq_some_iff.mp q
  obtain ⟨d, h2, q⟩ := Option.bind_eq_some_iff.mp q
  obtain ⟨z', h3, q⟩ := Option.bind_eq_some_iff.mp q
  cases q
  obtain ⟨v, p1, _⟩ := R.look h0
  refine ⟨v, p1, env, e1, e2, R, h1, fun y H2 R2 v2 r2 => ?_⟩
  obtain ⟨v', p2, p3⟩ := R2.look h2
  rw [p1] at p2
  cases p2
  exact hd c e2 σ H2 v y d e1 z Q R2 p3 r2 h3 fun w H' R' v' r' => k w H' R' (v2.trans v') r'
theorem pd_op2 {r : R2} {g : D → D → Option D} {ma mb : EM} (hd : OpD X.K r g) (h : PE X e (tOp r (TM X.K c ma) (TMk X.K c mb))) : PD X c e (eBin g ma mb) := pe_wk h fun _ _ _ q => tm_bin hd q
end
/-! x[i] -/
def chr1 (z : Str) (i : Int) : Option D := if z.length ≤ sizeLine then (atI z.cps.toList i).bind fun c => some (.str ⟨#[c]⟩) else none
def ixD : D → D → Option D
  | .str z, .int i => chr1 z i
  | d, .int i => (sqD d).bind fun ds => atI ds i
  | _, _ => none
section
variable {K : PySem.W.Frag} {F : Addr → Prop} {H : Hp}
theorem RDs.at {ds : List D} {xs : List V} (r : RDs K F H ds xs) {i : Int} {d : D} (h : atI ds i = some d) : ∃ x, atI xs i = some x ∧ RD K F H d x := by
  unfold atI at h ⊢
  obtain ⟨j, h1, h2⟩ := Option.bind_eq_some_iff.mp h
  obtain ⟨x, h3, h4⟩ := r.get h2
  refine ⟨x, ?_, h4⟩
  rw [r.length, h1]
  exact h3
theorem opv_ix : OpV K (rIx K) ixD := by
  intro c env σ H x y d e z Q R rx ry h k
  cases e with
  | int i =>
    rw [rk_int ry]
    by_cases hs : ∃ s, d = .str s
    · obtain ⟨s, rfl⟩ := hs
      have h' : chr1 s i = some z := h
      unfold chr1 at h'
      split at h'
      case isFalse => cases h'
      case isTrue hl =>
        obtain ⟨u, h1, h'⟩ := Option.bind_eq_some_iff.mp h'
        cases h'
        cases (show x = .str s from rx)
        exact .inr (.inr ⟨s, i, u, rfl, rfl, hl, h1, k _ H R Evo.refl rfl⟩)
    · have h' : ((sqD d).bind fun ds => atI ds i) = some z := by
        cases d <;> first | exact h | exact absurd ⟨_, rfl⟩ hs
      obtain ⟨ds, h1, h2⟩ := Option.bind_eq_some_iff.mp h'
      obtain ⟨a, xs, rfl, sq, rs⟩ := rx.seq h1
      obtain ⟨v, p1, p2⟩ := rs.at h2
      rcases sq with sq | ⟨sq, _⟩
      · exact .inl ⟨a, xs, i, v, rfl, rfl, sq, p1, k v H R Evo.refl p2⟩
      · exact .inr (.inl ⟨a, xs, i, v, rfl, rfl, sq, p1, k v H R Evo.refl p2⟩)
  | _ => cases d <;> cases h
end
theorem rds_ints {K : PySem.W.Frag} {F : Addr → Prop} {H : Hp} : ∀ {ns : List Int}, RDs K F H (ns.map D.int) (ns.map V.int)
  | [] => rfl
  | _ :: _ => ⟨_, _, rfl, rfl, rds_ints⟩
/-! slices -/
def cutA {α : Type} (xs : List α) (lo hi : Option Int) : List α := (xs.drop (HT.sIx xs.length 0 lo)).take (HT.sIx xs.length xs.length hi - HT.sIx xs.length 0 lo)
def slD (d : D) (lo hi : Option Int) : Option D := match d with
  | .lst ds => some (.lst (cutA ds lo hi))
  | .scr ns => some (.lst (cutA (ns.map D.int) lo hi))
  | .tup ds => some (.tup (cutA ds lo hi))
  | _ => none
abbrev OM := Ev → Option (Option Int × Ev)
def TMo (K : PySem.W.Frag) (c : Cn) (m : OM) : TO := fun σ H Q => ∃ env o env', Rel K c env σ H ∧ m env = some (o, env') ∧ ∀ H', Rel K c env' σ H' → Evo c env σ H env' σ H' → Q o H'
abbrev PDo (X : Cx) (c : Cn) (e : Option Expr) (m : OM) : Prop := PO X e (TMo X.K c m)
def oNone : OM := fun env => some (none, env)
def oSome (m : EM) : OM := fun env => match m env with
  | some (.int i, e) => some (some i, e)
  | _ => none
def eSl (m : EM) (lo hi : OM) : EM := fun env => (m env).bind fun p => (lo p.2).bind fun q => (hi q.2).bind fun r => (slD p.1 q.1 r.1).bind fun z => some (z, r.2)
def rSlA2 (K : PySem.W.Frag) : V → Option Int → Option Int → Hp → VK → Prop := fun x lo hi H Q => rSlL K x lo hi H Q ∨ rSlA K x lo hi H Q
theorem slr_all {X : Cx} : SlR X (rSlA2 X.K) := sl_list.or sl_tupA
section
variable {X : Cx} {c : Cn} {e : Expr} {pos : Pos}
theorem qo_none : PDo X c none oNone := ⟨fun pins s σ H Q I ⟨env, o, env', R, q, k⟩ => by
  cases q
  exact po_none.run pins s σ H Q I (k H R Evo.refl)⟩
theorem qo_some {m : EM} (h : PDk X c e m) : PDo X c (some e) (oSome m) := ⟨fun pins s σ H Q I ⟨env, o, env', R, q, k⟩ => by
  refine (po_some h).run pins s σ H Q I ?_
  unfold oSome at q
  split at q
  case h_1 i e1 hm =>
    cases q
    exact ⟨env, _, _, R, hm, fun v H' R' v' r' => ⟨i, rk_int r', k H' R' v'⟩⟩
  case h_2 => cases q⟩
theorem pd_sl {m : EM} {lo hi : OM} {elo ehi : Option Expr} {p2 : Pos} (h : PD X c e m) (h1 : PDo X c elo lo) (h2 : PDo X c ehi hi) : PD X c (.Subscript e (.Slice elo ehi none p2) pos) (eSl m lo hi) := pe_wk (pe_slice slr_all h h1 h2) fun σ H Q ⟨env, z, env', R, q, k⟩ => by
  unfold eSl at q
  obtain ⟨⟨d, e1⟩, q1, q⟩ := Option.bind_eq_some_iff.mp q
  obtain ⟨⟨l, e2⟩, q2, q⟩ := Option.bind_eq_some_iff.mp q
  obtain ⟨⟨u, e3⟩, q3, q⟩ := Option.bind_eq_some_iff.mp q
  obtain ⟨z', q4, q⟩ := Option.bind_eq_some_iff.mp q
  cases q
  refine ⟨env, d, e1, R, q1, fun x H1 R1 v1 r1 => ⟨e1, l, e2, R1, q2, fun H2 R2 v2 => ⟨e2, u, e3, R2, q3, fun H3 R3 v3 => ?_⟩⟩⟩
  have r3 := v3.rd (v2.rd r1)
  have v13 := v1.trans (v2.trans v3)
  dsimp only at q4 k
  cases d with
  | lst ds =>
    cases q4
    obtain ⟨p, xs, e4, n, h4, rs⟩ := r3
    refine .inl ⟨p, xs, e4, SqL.of h4, fun t nt => k _ _ (R3.alloc nt) (v13.trans (Evo.alloc nt)) ⟨t, _, rfl, R3.new nt, upd_same, ?_⟩⟩
    unfold cutV cutA
    rw [rs.length]
    exact ((rs.drop _).take _).grow (upd_old nt)
  | scr ns =>
    cases q4
    obtain ⟨p, e4, h4⟩ := r3
    refine .inl ⟨p, _, e4, scr_sq h4, fun t nt => k _ _ (R3.alloc nt) (v13.trans (Evo.alloc nt)) ⟨t, _, rfl, R3.new nt, upd_same, ?_⟩⟩
    unfold cutV cutA
    rw [List.length_map, List.length_map]
    exact ((rds_ints.drop _).take _)
  | tup ds =>
    cases q4
    obtain ⟨p, xs, e4, n, h4, rs⟩ := r3
    refine .inr ⟨p, xs, e4, SqT.of h4, fun w => ?_, fun _ t nt => k _ _ (R3.alloc nt) (v13.trans (Evo.alloc nt)) ⟨t, _, rfl, R3.new nt, upd_same, ?_⟩⟩
    · refine k _ _ R3 v13 ⟨p, xs, rfl, n, h4, ?_⟩
      unfold cutA
      rw [rs.length] at w
      rw [w.1, w.2, List.drop_zero, Nat.sub_zero, List.take_length]
      exact rs
    · unfold cutV cutA
      rw [rs.length]
      exact ((rs.drop _).take _).grow (upd_old nt)
  | _ => cases q4
end
/-! dicts -/
section
variable {κ : Type} [DecidableEq κ]
def lookA {β : Type} (ks : List κ) (vs : List β) (k : κ) : Option β := ((ks.zip vs).find? fun p => decide (p.1 = k)).map (·.2)
def hasA (ks : List κ) (k : κ) : Bool := decide (k ∈ ks)
def putA {β : Type} (ks : List κ) (vs : List β) (k : κ) (v : β) : List κ × List β := if hasA ks k = true then (ks, (ks.zip vs).map fun p => if p.1 = k then v else p.2) else (ks ++ [k], vs ++ [v])
variable {K : PySem.W.Frag} {F : Addr → Prop} {H : Hp}
theorem look_rel : ∀ {ks : List κ} {ds : List D} {xs : List V} {k : κ}, RDs K F H ds xs → (∀ d, lookA ks ds k = some d → ∃ x, valV (ks.zip xs) k = some x ∧ RD K F H d x) ∧ (lookA ks ds k = none → valV (ks.zip xs) k = none)
  | [], _, _, _, _ => ⟨fun d h => by simp [lookA] at h, fun _ => by simp [valV]⟩
  | _ :: _, [], _, _, r => by rw [show _ = [] from r]; exact ⟨fun d h => by simp [lookA] at h, fun _ => by simp [valV]⟩
  | a :: ks, d :: ds, _, k, ⟨x, r, e, p, q⟩ => by
    subst e
    by_cases ha : a = k
    · have h1 : lookA (a :: ks) (d :: ds) k = some d := by simp [lookA, List.find?_cons, ha]
      have h2 : valV ((a :: ks).zip (x :: r)) k = some x := by simp [valV, List.find?_cons, ha]
      rw [h1, h2]
      exact ⟨fun d' h => by cases h; exact ⟨x, rfl, p⟩, fun h => by cases h⟩
    · have h1 : lookA (a :: ks) (d :: ds) k = lookA ks ds k := by simp [lookA, List.find?_cons, ha]
      have h2 : valV ((a :: ks).zip (x :: r)) k = valV (ks.zip r) k := by simp [valV, List.find?_cons, ha]
      rw [h1, h2]
      exact look_rel q
theorem any_zip : ∀ {ks : List κ} {xs : List V} {k : κ}, ks.length = xs.length → ((ks.zip xs).any fun kv => decide (kv.1 = k)) = hasA ks k
  | [], _, _, _ => by simp [hasA]
  | _ :: _, [], _, h => by simp at h
  | a :: ks, x :: xs, k, h => by
    rw [List.zip_cons_cons, List.any_cons, any_zip (by simpa using h)]
    unfold hasA
    by_cases e : a = k
    · subst e; simp
    · have e' : ¬ k = a := fun z => e z.symm
      simp [e, e']
theorem zip_map_if {α β : Type} (f : α → β) : ∀ (ks : List κ) (xs : List β) (k : κ) (x : β), ks.length = xs.length → ((ks.zip xs).map fun kv => if kv.1 = k then (kv.1, x) else kv) = ks.zip ((ks.zip xs).map fun p => if p.1 = k then x else p.2)
  | [], _, _, _, _ => by simp
  | _ :: _, [], _, _, h => by simp at h
  | a :: ks, y :: xs, k, x, h => by
    rw [List.zip_cons_cons, List.map_cons, List.map_cons, List.zip_cons_cons, zip_map_if f ks xs k x (by simpa using h)]
    by_cases e : a = k <;> simp [e]
theorem RDs.mapIf : ∀ {ks : List κ} {ds : List D} {xs : List V} {k : κ} {d : D} {x : V}, RDs K F H ds xs → RD K F H d x → RDs K F H ((ks.zip ds).map fun p => if p.1 = k then d else p.2) ((ks.zip xs).map fun p => if p.1 = k then x else p.2)
  | [], _, _, _, _, _, _, _ => by simp [RDs]
  | _ :: _, [], _, _, _, _, r, _ => by rw [show _ = [] from r]; simp [RDs]
  | a :: ks, d :: ds, _, k, d', x', ⟨x, r, e, p, q⟩, s => by
    subst e
    rw [List.zip_cons_cons, List.zip_cons_cons, List.map_cons, List.map_cons]
    refine ⟨_, _, rfl, ?_, RDs.mapIf q s⟩
    by_cases h : a = k
    · rw [if_pos h, if_pos h]; exact s
    · rw [if_neg h, if_neg h]; exact p
theorem put_rel {ks : List κ} {ds : List D} {xs : List V} {k : κ} {d : D} {x : V} (hl : ks.length = ds.length) (r : RDs K F H ds xs) (s : RD K F H d x) :
    ∃ ys, putK (ks.zip xs) k x = (putA ks ds k d).1.zip ys ∧ (putA ks ds k d).1.length = (putA ks ds k d).2.length ∧ RDs K F H (putA ks ds k d).2 ys := by
  have hx : ks.length = xs.length := by rw [r.length, hl]
  unfold putK putA
  rw [any_zip hx]
  by_cases h : hasA ks k = true
  · rw [if_pos h, if_pos h]
    refine ⟨_, zip_map_if id ks xs k x hx, ?_, r.mapIf s⟩
    show ks.length = List.length _
    rw [List.length_map, List.length_zip, hl, Nat.min_self]
  · rw [if_neg h, if_neg h]
    refine ⟨xs ++ [x], ?_, ?_, r.append (RDs.one s)⟩
    · show ks.zip xs ++ [(k, x)] = (ks ++ [k]).zip (xs ++ [x])
      rw [List.zip_append hx]; rfl
    · show (ks ++ [k]).length = (ds ++ [d]).length
      rw [List.length_append, List.length_append, hl]; rfl
end
def keyD : D → Option Key
  | .int i => some (.inl i)
  | .str x => some (.inr x)
  | _ => none
def tkeyD : D → Option (List Key)
  | .tup ds => ds.mapM keyD
  | _ => none
section
variable {K : PySem.W.Frag} {F : Addr → Prop} {H : Hp}
theorem rk_key {d : D} {v : V} {k : Key} (h : keyD d = some k) (r : RK K F H d v) : v = kV k := by
  cases d <;> first | cases h | skip
  · exact rk_int r
  · cases (show v = .str _ from r); rfl
theorem RDs.keys : ∀ {ds : List D} {xs : List V} {ks : List Key}, ds.mapM keyD = some ks → RDs K F H ds xs → xs = ks.map kV
  | [], _, _, h, r => by
    rw [List.mapM_nil] at h
    cases h
    exact r
  | d :: ds, _, _, h, ⟨x, r, e, p, q⟩ => by
    rw [List.mapM_cons] at h
    obtain ⟨i, h1, h⟩ := Option.bind_eq_some_iff.mp h
    obtain ⟨is, h2, h⟩ := Option.bind_eq_some_iff.mp h
    cases h
    subst e
    rw [RDs.keys h2 q, rk_key h1 p.rk]; rfl
theorem rk_tkey {d : D} {v : V} {k : List Key} (h : tkeyD d = some k) (r : RK K F H d v) : ∃ b, v = .ref b ∧ H b = some (.tup (k.map kV)) := by
  cases d with
  | tup ds =>
    obtain ⟨a, xs, e, _, q, rs⟩ := r
    rw [rs.keys h] at q
    exact ⟨a, e, q⟩
  | _ => cases h
/-- d[k] -/
def dgetD : D → D → Option D
  | .dT ks ds, k => (tkeyD k).bind fun k => lookA ks ds k
  | .dK ks ds, k => (keyD k).bind fun k => lookA ks ds k
  | _, _ => none
def dhasD : D → D → Option Bool
  | .dT ks _, k => (tkeyD k).bind fun k => some (hasA ks k)
  | .dK ks _, k => (keyD k).bind fun k => some (hasA ks k)
  | _, _ => none
def rDG : R2 := fun x y H Q => ∃ a v, x = .ref a ∧ DGet H a y (some v) ∧ Q v H
theorem opv_dget : OpV K rDG dgetD := by
  intro c env σ H x y d e z Q R rx ry h k
  cases d with
  | dT ks ds =>
    obtain ⟨kk, h1, h2⟩ := Option.bind_eq_some_iff.mp h
    obtain ⟨a, xs, rfl, hH, hl, rs⟩ := rx
    obtain ⟨b, rfl, hb⟩ := rk_tkey h1 ry
    obtain ⟨v, hv, rv⟩ := (look_rel rs).1 z h2
    exact ⟨a, v, rfl, by rw [← hv]; exact .inr ⟨_, _, b, hH, rfl, hb, rfl⟩, k v H R Evo.refl rv⟩
  | dK ks ds =>
    obtain ⟨kk, h1, h2⟩ := Option.bind_eq_some_iff.mp h
    obtain ⟨a, xs, rfl, hH, hl, rs⟩ := rx
    cases rk_key h1 ry
    obtain ⟨v, hv, rv⟩ := (look_rel rs).1 z h2
    exact ⟨a, v, rfl, by rw [← hv]; exact .inl ⟨_, _, hH, rfl, rfl⟩, k v H R Evo.refl rv⟩
  | _ => cases h
theorem valV_isSome {κ : Type} [DecidableEq κ] {ks : List κ} {xs : List V} {k : κ} (h : ks.length = xs.length) : (valV (ks.zip xs) k).isSome = hasA ks k := by
  rw [← valV_any, any_zip h]
def rDI (neg : Bool) : R2 := fun y x H Q => ∃ a o, x = .ref a ∧ DGet H a y o ∧ Q (.bl (if neg then !o.isSome else o.isSome)) H
def dinD (e d : D) : Option D := (dhasD d e).bind fun b => some (.bl b)
def dninD (e d : D) : Option D := (dhasD d e).bind fun b => some (.bl (!b))
theorem has_rel {d e : D} {x y : V} {b : Bool} (h : dhasD d e = some b) (rx : RK K F H d x) (ry : RK K F H e y) : ∃ a o, x = .ref a ∧ DGet H a y o ∧ o.isSome = b := by
  cases d with
  | dT ks ds =>
    obtain ⟨kk, h1, h2⟩ := Option.bind_eq_some_iff.mp h
    cases h2
    obtain ⟨a, xs, rfl, hH, hl, rs⟩ := rx
    obtain ⟨b, rfl, hb⟩ := rk_tkey h1 ry
    exact ⟨a, _, rfl, .inr ⟨_, _, b, hH, rfl, hb, rfl⟩, valV_isSome (by rw [rs.length, hl])⟩
  | dK ks ds =>
    obtain ⟨kk, h1, h2⟩ := Option.bind_eq_some_iff.mp h
    cases h2
    obtain ⟨a, xs, rfl, hH, hl, rs⟩ := rx
    cases rk_key h1 ry
    exact ⟨a, _, rfl, .inl ⟨_, _, hH, rfl, rfl⟩, valV_isSome (by rw [rs.length, hl])⟩
  | _ => cases h
theorem opd_din : OpD K (rDI false) dinD := by
  intro c env σ H y x e d z Q R ry rx h k
  obtain ⟨b, h1, h⟩ := Option.bind_eq_some_iff.mp h
  cases h
  obtain ⟨a, o, e1, g, e2⟩ := has_rel h1 rx ry.rk
  exact ⟨a, o, e1, g, k _ H R Evo.refl (by rw [e2]; rfl)⟩
theorem opd_dnin : OpD K (rDI true) dninD := by
  intro c env σ H y x e d z Q R ry rx h k
  obtain ⟨b, h1, h⟩ := Option.bind_eq_some_iff.mp h
  cases h
  obtain ⟨a, o, e1, g, e2⟩ := has_rel h1 rx ry.rk
  exact ⟨a, o, e1, g, k _ H R Evo.refl (by rw [e2]; rfl)⟩
end
/-- d[k] = v, d one's own -/
def dputD : D → D → D → Option D
  | .dT ks ds, k, v => (tkeyD k).bind fun k => if ks.length < sizeLine then some (.dT (putA ks ds k v).1 (putA ks ds k v).2) else none
  | .dK ks ds, k, v => (keyD k).bind fun k => if ks.length < sizeLine then some (.dK (putA ks ds k v).1 (putA ks ds k v).2) else none
  | _, _, _ => none
def sDPutE (i : Nat) (mk mv : EM) : SM := fun env => (mv env).bind fun p => (cont p.2 i).bind fun _ => (mk p.2).bind fun q => (cont q.2 i).bind fun d => (dputD d q.1 p.1).bind fun z => some (.nx (putC q.2 i z))
section
variable {X : Cx} {c : Cn} {e : Expr} {st : Stmt} {pos : Pos}
theorem lookC {env : Ev} {i : Nat} {d : D} (h : cont env i = some d) : lkE env i = some d := by
  unfold cont at h
  unfold lkE
  split at h <;> simp_all
theorem qs_dput {i : Nat} {mk mv : EM} (h : PS X st (sDPut (tVar i) (TMk X.K c mk) (TM X.K c mv))) : PDs X c st (sDPutE i mk mv) := ps_wk h fun D σ H ⟨env, r, R, q, k⟩ => by
  unfold sDPutE at q
  obtain ⟨⟨v, e1⟩, h1, q⟩ := Option.bind_eq_some_iff.mp q
  obtain ⟨d0, h2, q⟩ := Option.bind_eq_some_iff.mp q
  obtain ⟨⟨y, e2⟩, h3, q⟩ := Option.bind_eq_some_iff.mp q
  obtain ⟨d, h4, q⟩ := Option.bind_eq_some_iff.mp q
  obtain ⟨z, h5, q⟩ := Option.bind_eq_some_iff.mp q
  cases q
  refine ⟨env, v, e1, R, h1, fun w H1 R1 v1 r1 => ?_⟩
  obtain ⟨w0, p0, _⟩ := R1.look (lookC h2)
  refine ⟨w0, p0, e1, y, e2, R1, h3, fun u H2 R2 v2 r2 => ?_⟩
  obtain ⟨a, o, p1, p2, p3, p4, p5⟩ := R2.put h4
  rw [p0] at p1
  cases p1
  have rv := v2.rd r1
  dsimp only at h5 k
  cases d with
  | dT ks ds =>
    obtain ⟨kk, h6, h7⟩ := Option.bind_eq_some_iff.mp h5
    split at h7
    case isFalse => cases h7
    case isTrue hz =>
      cases h7
      obtain ⟨xs, rfl, hl, rs⟩ := p3
      obtain ⟨b, rfl, hb⟩ := rk_tkey h6 r2
      obtain ⟨ys, y1, y2, y3⟩ := put_rel (k := kk) hl rs rv
      obtain ⟨R3, v3⟩ := p5 (.dT (putA ks ds kk v).1 (putA ks ds kk v).2) (.dT (putK (ks.zip xs) kk w)) ⟨ys, by rw [y1], y2, y3⟩
      refine ⟨a, _, rfl, DPut.t p2 hb ?_, k σ _ R3 (v1.trans (v2.trans v3))⟩
      rw [List.length_zip, rs.length, hl, Nat.min_self, ← hl]
      exact hz
  | dK ks ds =>
    obtain ⟨kk, h6, h7⟩ := Option.bind_eq_some_iff.mp h5
    split at h7
    case isFalse => cases h7
    case isTrue hz =>
      cases h7
      obtain ⟨xs, rfl, hl, rs⟩ := p3
      cases rk_key h6 r2
      obtain ⟨ys, y1, y2, y3⟩ := put_rel (k := kk) hl rs rv
      obtain ⟨R3, v3⟩ := p5 (.dK (putA ks ds kk v).1 (putA ks ds kk v).2) (.dK (putK (ks.zip xs) kk w)) ⟨ys, by rw [y1], y2, y3⟩
      refine ⟨a, _, rfl, DPut.k p2 ?_, k σ _ R3 (v1.trans (v2.trans v3))⟩
      rw [List.length_zip, rs.length, hl, Nat.min_self, ← hl]
      exact hz
  | _ => cases h5
/-- {} -/
def eDT : EM := fun env => some (.dT [] [], env)
def eDK : EM := fun env => some (.dK [] [], env)
theorem pf_dT : PDf X c (.Dict [] [] pos) eDT := pe_wk pe_dnewT fun σ H Q ⟨env, z, env', R, q, k⟩ => by
  cases q
  exact fun p n => k p _ H R Evo.refl n ⟨[], rfl, rfl, rfl⟩
theorem pf_dK : PDf X c (.Dict [] [] pos) eDK := pe_wk pe_dnewK fun σ H Q ⟨env, z, env', R, q, k⟩ => by
  cases q
  exact fun p n => k p _ H R Evo.refl n ⟨[], rfl, rfl, rfl⟩
/-! lists changed -/
def isLs : Option D → Bool
  | some (.lst _) => true
  | _ => false
def sAppend (i : Nat) (m : EM) : SM := fun env => if isLs (cont env i) then (m env).bind fun p => match cont p.2 i with
  | some (.lst ds) => if ds.length < sizeLine then some (.nx (putC p.2 i (.lst (ds ++ [p.1])))) else none
  | _ => none
  else none
theorem Rel.tyL {K : PySem.W.Frag} {env : Ev} {σ : L2.St} {H : Hp} (R : Rel K c env σ H) {i : Nat} (h : isLs (cont env i) = true) : ∃ w, σ[i]? = some (some w) ∧ tyV K "list" w H := by
  cases q : cont env i with
  | none => rw [q] at h; cases h
  | some d =>
    obtain ⟨a, o, p1, p2, p3, _, _⟩ := R.put q
    rw [q] at h
    cases d with
    | lst ds =>
      obtain ⟨xs, rfl, rs⟩ := p3
      exact ⟨_, p1, .inl ⟨rfl, xs, SqL.of p2⟩⟩
    | _ => cases h
theorem qs_append {i : Nat} {m : EM} (h : PS X st (tDrop (tBM X.K "list" rAppend (tVar i) (tCons (TM X.K c m) tNil)))) : PDs X c st (sAppend i m) := ps_wk h fun D σ H ⟨env, r, R, q, k⟩ => by
  unfold sAppend at q
  split at q
  case isFalse => cases q
  case isTrue h0 =>
  obtain ⟨⟨y, e1⟩, h1, q⟩ := Option.bind_eq_some_iff.mp q
  dsimp only at q
  split at q
  case h_2 => cases q
  case h_1 ds hc =>
    split at q
    case isFalse => cases q
    case isTrue hz =>
      cases q
      obtain ⟨w0, p0, ty⟩ := R.tyL h0
      refine ⟨w0, p0, ty, env, y, e1, R, h1, fun v H1 R1 v1 r1 => ?_⟩
      · obtain ⟨a, o, p1, p2, ⟨xs, rfl, rs⟩, p4, p5⟩ := R1.put hc
        rw [p0] at p1
        cases p1
        obtain ⟨R3, v3⟩ := p5 (.lst (ds ++ [y])) (.lst (xs ++ [v])) ⟨_, rfl, rs.append (RDs.one r1)⟩
        exact ⟨a, xs, v, rfl, rfl, p2, by rw [rs.length]; exact hz, k σ _ R3 (v1.trans v3)⟩
end
end NR

set_option Elab.async false
set_option linter.all false
set_option maxRecDepth 100000
set_option maxHeartbeats 4000000
set_option autoImplicit false
/-! The engine, part j: promises of defs, calls. -/
namespace NR
open PySem PySem.Spec L2 PyProof.Rows
/-- a def called by its name -/
structure CalN (P : Program) (w : World) (K : PySem.W.Frag) (mg : Str → Option Value) (base : Heap) (k : Nat) (x : Str) (sp : Sp) : Prop where
  ex : ∃ (f : Addr) (fd : FuncData) (ps : List Str), FnOk P w K mg base L2.CX0 k f fd ps sp ∧ mg x = some (.ref f) ∧ PySem.W.keepIn K (.ref f) = true ∧ Binds K fd ps []
/-- pure: a value of the arguments -/
def Sf (K : PySem.W.Frag) (n : Nat) (f : List D → Option D) : Sp := fun vs H Q _ => ∃ (F : Addr → Prop) (ds : List D) (d : D), vs.length = n ∧ RDs K F H ds vs ∧ f ds = some d ∧ (∀ a, F a → ∃ o, H a = some o ∧ NT o) ∧
  ∀ v H', (∀ b u, H b = some u → H' b = some u) → RD K F H' d v → Q v H'
/-- .. a new object -/
def So (K : PySem.W.Frag) (n : Nat) (f : List D → Option D) : Sp := fun vs H Q _ => ∃ (F : Addr → Prop) (ds : List D) (d : D), vs.length = n ∧ RDs K F H ds vs ∧ f ds = some d ∧ (∀ a, F a → ∃ o, H a = some o ∧ NT o) ∧
  ∀ a o H', (∀ b u, H b = some u → H' b = some u) → H' a = none → OB K F H' d o → Q (.ref a) (upd H' a o)
/-- the j-th argument is lent -/
def Sj (K : PySem.W.Frag) (n j : Nat) (f : D → List D → Option (D × D)) : Sp := fun vs H Q _ => ∃ (F : Addr → Prop) (a : Addr) (o : HO) (d0 : D) (ds : List D) (d d1 : D),
  vs.length = n ∧ vs[j]? = some (.ref a) ∧ F a ∧ H a = some o ∧ OB K F H d0 o ∧ RDs K F H ds (vs.set j .non) ∧ f d0 ds = some (d, d1) ∧ (∀ a, F a → ∃ o, H a = some o ∧ NT o) ∧
  ∀ v H' o', H' a = some o' → (∀ b u, b ≠ a → H b = some u → H' b = some u) → OB K F H' d1 o' → RD K F H' d v → Q v H'
def envOf (len : Nat) (ds : List D) : Ev := ds.map Sl.val ++ List.replicate (len - ds.length) Sl.emp
/-- what a body answers -/
def runF (len : Nat) (m : SM) (ds : List D) : Option D := match m (envOf len ds) with
  | some (.rt d _) => some d
  | some (.ro d _) => some d
  | some (.nx _) => some .non
  | _ => none
def runO (len : Nat) (m : SM) (ds : List D) : Option D := match m (envOf len ds) with
  | some (.ro d _) => some d
  | _ => none
def parC (e : Ev) (j : Nat) : Option D := match e[j]? with
  | some (.par 0 d) => some d
  | _ => none
def runJ (len j : Nat) (m : SM) (d0 : D) (ds : List D) : Option (D × D) := match m ((envOf len ds).set j (.par 0 d0)) with
  | some (.rt d e) => (parC e j).map fun x => (d, x)
  | some (.ro d e) => (parC e j).map fun x => (d, x)
  | some (.nx e) => (parC e j).map fun x => (.non, x)
  | _ => none
section
variable {K : PySem.W.Frag}
theorem envOf_get {len : Nat} {ds : List D} {i : Nat} {s : Sl} (h : (envOf len ds)[i]? = some s) : (∃ d, s = .val d ∧ ds[i]? = some d) ∨ s = .emp := by
  unfold envOf at h
  by_cases hi : i < ds.length
  · rw [List.getElem?_append_left (by simpa using hi), List.getElem?_map] at h
    obtain ⟨d, h1, h2⟩ := Option.map_eq_some_iff.mp h
    exact .inl ⟨d, h2.symm, h1⟩
  · rw [List.getElem?_append_right (by simpa using hi), List.getElem?_replicate] at h
    split at h
    · cases h; exact .inr rfl
    · cases h
theorem envOf_len {len : Nat} {ds : List D} (h : ds.length ≤ len) : (envOf len ds).length = len := by
  unfold envOf
  rw [List.length_append, List.length_map, List.length_replicate]
  omega
theorem start_get {N : List Str} {vs : List V} {i : Nat} {x : V} (h : vs[i]? = some x) : (L2.start N vs)[i]? = some (some x) := by
  unfold L2.start
  have hi := lt_of_get h
  rw [List.getElem?_append_left (by simpa using hi), List.getElem?_map, h]
  rfl
theorem start_len {N : List Str} {vs : List V} (h : vs.length ≤ N.length) : (L2.start N vs).length = N.length := by
  unfold L2.start
  rw [List.length_append, List.length_map, List.length_replicate]
  omega
def cF (F : Addr → Prop) : Cn := { F := F, τ := [] }
def cJ (F : Addr → Prop) (a : Addr) : Cn := { F := F, τ := [a] }
theorem fbF {F : Addr → Prop} {N : List Str} {ds : List D} {vs : List V} {b : Addr} {len : Nat} : Fb (cF F) (envOf len ds) (L2.start N vs) b ↔ F b := by
  constructor
  · rintro (h | h | ⟨i, d, h, _⟩)
    · exact h
    · cases h
    · rcases envOf_get h with ⟨_, e, _⟩ | e <;> cases e
  · exact .inl
theorem rel_start {F : Addr → Prop} {N : List Str} {H : Hp} {ds : List D} {vs : List V} (r : RDs K F H ds vs) (hN : vs.length ≤ N.length) (dom : ∀ a, F a → ∃ o, H a = some o ∧ NT o) : Rel K (cF F) (envOf N.length ds) (L2.start N vs) H := by
  have hl := r.length
  refine ⟨by rw [envOf_len (by omega), start_len hN], fun i d e => ?_, fun i d e => ?_, fun i k d e => ?_, fun i j d e a h => ?_, fun i j k d e h => ?_, fun a h => Or.elim h (dom a) (fun h => nomatch h), List.nodup_nil⟩
  · rcases envOf_get e with ⟨d', e1, e2⟩ | e1
    · cases e1
      obtain ⟨x, h1, h2⟩ := r.get e2
      exact ⟨x, start_get h1, h2.go fun b o q n => ⟨q, fun z => n (fbF.mp z)⟩⟩
    · cases e1
  · rcases envOf_get e with ⟨_, e, _⟩ | e <;> cases e
  · rcases envOf_get e with ⟨_, e, _⟩ | e <;> cases e
  · rcases envOf_get h with ⟨_, e, _⟩ | e <;> cases e
  · rcases envOf_get h with ⟨_, e, _⟩ | e <;> cases e
theorem own_start {N : List Str} {ds : List D} {vs : List V} {len : Nat} {b : Addr} : ¬ Own (envOf len ds) (L2.start N vs) b := by
  rintro ⟨i, d, h, _⟩
  rcases envOf_get h with ⟨_, e, _⟩ | e <;> cases e
theorem evo_startF {F : Addr → Prop} {N : List Str} {H H' : Hp} {ds : List D} {vs : List V} {len : Nat} {e : Ev} {σ : L2.St} (v : Evo (cF F) (envOf len ds) (L2.start N vs) H e σ H') : ∀ b u, H b = some u → H' b = some u := fun b u h =>
  (v b u h (by intro z; cases z) own_start).1
/-- a def whose body's mirror is m -/
theorem ok_f {P : Program} {w : World} {mg : Str → Option Value} {base : Heap} {x qual : Str} {params : Arguments} {body : List Stmt} {scope : Scope} {f : Addr} {fd : FuncData} {N ps : List Str} {k n : Nat} {m : SM}
    (F : FunD K x qual params body scope [] [] f fd) (S : FnScope N ps scope) (hn : ps.length = n) (hN : n ≤ N.length)
    (hm : ∀ (cdv : Value) (A : Around) (outer : List Env) (s : Shared) (H : Hp) (E : XK) (c : Cn), Room k (A.deeper (envOfC qual scope s.heap.objs.size f cdv)) → PDss (cxOf L2.CX0 P w K mg base N qual scope f cdv A outer s H E).nox c body m) :
    FnOk P w K mg base L2.CX0 (k + 1) f fd ps (Sf K n (runF N.length m)) := by
  refine F.ok S (fun vs H Q E ⟨G, ds, d, hl, _⟩ => hl.trans hn.symm) fun cdv A outer s H vs Q E hr ⟨G, ds, d, hl, r, q, dom, k⟩ => ⟨_, PSs.nox (hm cdv A outer s H E (cF G) hr), ?_⟩
  have R := rel_start (N := N) r (by omega) dom
  unfold runF at q
  refine ⟨_, (m (envOf N.length ds)).getD (.nx []), R, ?_, ?_⟩
  · cases g : m (envOf N.length ds) with
    | none => rw [g] at q; cases q
    | some r => rfl
  · cases g : m (envOf N.length ds) with
    | none => rw [g] at q; cases q
    | some r =>
      rw [g] at q
      cases r with
      | nx e =>
        cases q
        exact fun σ' H' R' v' => k _ H' (evo_startF v') rfl
      | rt d' e =>
        cases q
        exact fun v σ' H' R' v' r' => k _ H' (evo_startF v') (r'.go fun b o h z => ⟨h, fun y => z (.inl y)⟩)
      | ro d' e =>
        cases q
        exact fun a o σ' H' R' v' nn r' => by
          refine k _ _ (fun b u h => upd_old nn b u (evo_startF v' b u h)) ?_
          refine (r'.go fun b u h z => ⟨upd_old nn b u h, fun y => z (.inl y)⟩).rd upd_same fun z => ?_
          obtain ⟨u, hu, _⟩ := dom a z
          have := evo_startF v' a u hu
          rw [nn] at this
          cases this
      | bk e => cases q
      | ct e => cases q
theorem ok_o {P : Program} {w : World} {mg : Str → Option Value} {base : Heap} {x qual : Str} {params : Arguments} {body : List Stmt} {scope : Scope} {f : Addr} {fd : FuncData} {N ps : List Str} {k n : Nat} {m : SM}
    (F : FunD K x qual params body scope [] [] f fd) (S : FnScope N ps scope) (hn : ps.length = n) (hN : n ≤ N.length)
    (hm : ∀ (cdv : Value) (A : Around) (outer : List Env) (s : Shared) (H : Hp) (E : XK) (c : Cn), Room k (A.deeper (envOfC qual scope s.heap.objs.size f cdv)) → PDss (cxOf L2.CX0 P w K mg base N qual scope f cdv A outer s H E).nox c body m) :
    FnOk P w K mg base L2.CX0 (k + 1) f fd ps (So K n (runO N.length m)) := by
  refine F.ok S (fun vs H Q E ⟨G, ds, d, hl, _⟩ => hl.trans hn.symm) fun cdv A outer s H vs Q E hr ⟨G, ds, d, hl, r, q, dom, k⟩ => ⟨_, PSs.nox (hm cdv A outer s H E (cF G) hr), ?_⟩
  have R := rel_start (N := N) r (by omega) dom
  unfold runO at q
  cases g : m (envOf N.length ds) with
  | none => rw [g] at q; cases q
  | some r =>
    rw [g] at q
    refine ⟨_, r, R, g, ?_⟩
    cases r with
    | ro d' e =>
      cases q
      exact fun a o σ' H' R' v' nn r' => k _ _ _ (evo_startF v') nn (r'.go fun b u h z => ⟨h, fun y => z (.inl y)⟩)
    | nx e => cases q
    | rt d' e => cases q
    | bk e => cases q
    | ct e => cases q
/-- with the j-th argument lent -/
theorem set_non {ds : List D} {vs : List V} {H : Hp} {F : Addr → Prop} {j : Nat} {x : V} (r : RDs K F H ds (vs.set j .non)) (hj : vs[j]? = some x) : ds.length = vs.length ∧ j < ds.length := by
  have h := r.length
  rw [List.length_set] at h
  exact ⟨h.symm, by rw [← h]; exact lt_of_get hj⟩
theorem ownJ {N : List Str} {ds : List D} {vs : List V} {len j : Nat} {b : Addr} {d0 : D} : ¬ Own ((envOf len ds).set j (.par 0 d0)) (L2.start N vs) b := by
  rintro ⟨i, d, h, _⟩
  rcases get_set h with ⟨_, e, _⟩ | ⟨_, h⟩
  · cases e
  · rcases envOf_get h with ⟨_, e, _⟩ | e <;> cases e
theorem fbJ {F : Addr → Prop} {N : List Str} {ds : List D} {vs : List V} {b a : Addr} {len j : Nat} {d0 : D} (ha : F a) : Fb (cJ F a) ((envOf len ds).set j (.par 0 d0)) (L2.start N vs) b ↔ F b := by
  constructor
  · rintro (h | h | h)
    · exact h
    · rw [List.mem_singleton.mp h]; exact ha
    · exact absurd h ownJ
  · exact .inl
theorem rel_startJ {F : Addr → Prop} {N : List Str} {H : Hp} {ds : List D} {vs : List V} {j : Nat} {a : Addr} {o : HO} {d0 : D} (r : RDs K F H ds (vs.set j .non)) (hj : vs[j]? = some (.ref a)) (ha : F a) (ho : H a = some o) (hd : OB K F H d0 o) (hN : vs.length ≤ N.length)
    (dom : ∀ a, F a → ∃ o, H a = some o ∧ NT o) : Rel K (cJ F a) ((envOf N.length ds).set j (.par 0 d0)) (L2.start N vs) H := by
  obtain ⟨hl, hlt⟩ := set_non r hj
  have g : ∀ b u, H b = some u → ¬ F b → H b = some u ∧ ¬ Fb (cJ F a) ((envOf N.length ds).set j (.par 0 d0)) (L2.start N vs) b := fun b u q n => ⟨q, fun z => n ((fbJ ha).mp z)⟩
  refine ⟨by rw [List.length_set, envOf_len (by omega), start_len hN], fun i d e => ?_, fun i d e => ?_, fun i k d e => ?_, fun i k d e b h => ?_, fun i i2 k d e h1 h2 => ?_, fun b h => h.elim (dom b) fun h => ?_, List.pairwise_singleton _ _⟩
  · rcases get_set e with ⟨_, e, _⟩ | ⟨n, e⟩
    · cases e
    · rcases envOf_get e with ⟨d', e1, e2⟩ | e1
      · cases e1
        obtain ⟨x, h1, h2⟩ := r.get e2
        rw [set_ne n] at h1
        exact ⟨x, start_get h1, h2.go g⟩
      · cases e1
  · rcases get_set e with ⟨_, e, _⟩ | ⟨n, e⟩
    · cases e
    · rcases envOf_get e with ⟨_, e, _⟩ | e <;> cases e
  · rcases get_set e with ⟨e1, e, _⟩ | ⟨n, e⟩
    · cases e
      subst e1
      exact ⟨a, o, start_get hj, rfl, ho, hd.go g⟩
    · rcases envOf_get e with ⟨_, e, _⟩ | e <;> cases e
  · rcases get_set h with ⟨_, e, _⟩ | ⟨n, e⟩
    · cases e
    · rcases envOf_get e with ⟨_, e, _⟩ | e <;> cases e
  · rcases get_set h1 with ⟨e1, _, _⟩ | ⟨n, e⟩
    · rcases get_set h2 with ⟨e2, _, _⟩ | ⟨n, e⟩
      · rw [e1, e2]
      · rcases envOf_get e with ⟨_, e, _⟩ | e <;> cases e
    · rcases envOf_get e with ⟨_, e, _⟩ | e <;> cases e
  · rw [List.mem_singleton.mp h]; exact ⟨o, ho, hd.nt⟩
theorem parC_rel {F : Addr → Prop} {a : Addr} {e : Ev} {σ : L2.St} {H : Hp} {j : Nat} {d : D} (R : Rel K (cJ F a) e σ H) (h : parC e j = some d) : ∃ o, H a = some o ∧ OB K F H d o := by
  unfold parC at h
  split at h
  case h_1 d' q =>
    cases h
    obtain ⟨b, o, h1, h2, h3, h4⟩ := R.par j 0 d q
    cases h2
    exact ⟨o, h3, h4.go fun b u z n => ⟨z, fun y => n (.inl y)⟩⟩
  case h_2 => cases h
theorem ok_j {P : Program} {w : World} {mg : Str → Option Value} {base : Heap} {x qual : Str} {params : Arguments} {body : List Stmt} {scope : Scope} {f : Addr} {fd : FuncData} {N ps : List Str} {k n : Nat} {m : SM} (j : Nat)
    (F : FunD K x qual params body scope [] [] f fd) (S : FnScope N ps scope) (hn : ps.length = n) (hN : n ≤ N.length)
    (hm : ∀ (cdv : Value) (A : Around) (outer : List Env) (s : Shared) (H : Hp) (E : XK) (c : Cn), Room k (A.deeper (envOfC qual scope s.heap.objs.size f cdv)) → PDss (cxOf L2.CX0 P w K mg base N qual scope f cdv A outer s H E).nox c body m) :
    FnOk P w K mg base L2.CX0 (k + 1) f fd ps (Sj K n j (runJ N.length j m)) := by
  refine F.ok S (fun vs H Q E ⟨G, a, o, d0, ds, d, d1, hl, _⟩ => hl.trans hn.symm) fun cdv A outer s H vs Q E hr ⟨G, a, o, d0, ds, d, d1, hl, hj, ga, ho, hd, r, q, dom, k⟩ => ⟨_, PSs.nox (hm cdv A outer s H E (cJ G a) hr), ?_⟩
  have R := rel_startJ (N := N) r hj ga ho hd (by omega) dom
  have gr : ∀ {e : Ev} {σ : L2.St} {H' : Hp}, Evo (cJ G a) ((envOf N.length ds).set j (.par 0 d0)) (L2.start N vs) H e σ H' → ∀ b u, b ≠ a → H b = some u → H' b = some u := fun v b u n h => (v b u h (fun z => n (List.mem_singleton.mp z)) ownJ).1
  unfold runJ at q
  cases g : m ((envOf N.length ds).set j (.par 0 d0)) with
  | none => rw [g] at q; cases q
  | some r =>
    rw [g] at q
    refine ⟨_, r, R, g, ?_⟩
    cases r with
    | nx e =>
      obtain ⟨y, h1, h2⟩ := Option.map_eq_some_iff.mp q
      cases h2
      intro σ' H' R' v'
      obtain ⟨o', h3, h4⟩ := parC_rel R' h1
      exact k _ H' o' h3 (gr v') h4 rfl
    | rt d' e =>
      obtain ⟨y, h1, h2⟩ := Option.map_eq_some_iff.mp q
      cases h2
      intro v σ' H' R' v' r'
      obtain ⟨o', h3, h4⟩ := parC_rel R' h1
      exact k _ H' o' h3 (gr v') h4 (r'.go fun b o h z => ⟨h, fun y => z (.inl y)⟩)
    | ro d' e =>
      obtain ⟨y, h1, h2⟩ := Option.map_eq_some_iff.mp q
      cases h2
      intro b o σ' H' R' v' nn r'
      obtain ⟨o', h3, h4⟩ := parC_rel R' h1
      refine k _ _ o' (upd_old nn a _ h3) (fun x u n h => upd_old nn x u (gr v' x u n h)) (h4.go fun x u h z => ⟨upd_old nn x u h, z⟩) ?_
      refine (r'.go fun x u h z => ⟨upd_old nn x u h, fun y => z (.inl y)⟩).rd upd_same fun z => ?_
      have nb : b ≠ a := fun e => by rw [e, h3] at nn; cases nn
      obtain ⟨u, hu, _⟩ := dom b z
      have := gr v' b u nb hu
      rw [nn] at this
      cases this
    | bk e => cases q
    | ct e => cases q
end
section
variable {X : Cx} {c : Cn} {e : Expr} {es : List Expr} {p pos : Pos} {k j n : Nat} {x : Str}
theorem CalN.pe {sp : Sp} {t : TA} (C : CalN X.prog X.w X.K X.mg X.base k x sp) (hr : Room j X.A) (hk : k ≤ j) (hg : Gl X x) (ha : PA X (e :: es) t)
    (hdb : (x == ("__debug__" : Str)) = false := by decide) (he : starEach (e :: es) X.env = (false, eval e X.env) :: starEach es X.env := by rfl) (hpl : (backTo pos (starEach es X.env)).any (·.1) = false := by rfl) : PE X (.Call (.Name x p) (e :: es) [] pos) (tCall sp [] L2.E0 t) := by
  obtain ⟨f, fd, ps, F, hm, kp, b⟩ := C.ex
  exact pe_call F (hr.mono hk) hg hm kp b .nil L2.pass0 ha hdb he hpl
def eCall (n : Nat) (f : List D → Option D) (a : AM) : EM := fun env => (a env).bind fun p => if p.1.length = n then (f p.1).bind fun d => some (d, p.2) else none
theorem ecall_split {f : List D → Option D} {a : AM} {env env' : Ev} {d : D} (h : eCall n f a env = some (d, env')) : ∃ ds, a env = some (ds, env') ∧ f ds = some d ∧ ds.length = n := by
  unfold eCall at h
  obtain ⟨⟨ds, e1⟩, h1, h⟩ := Option.bind_eq_some_iff.mp h
  split at h
  case isFalse => cases h
  case isTrue hl =>
    obtain ⟨d', h2, h⟩ := Option.bind_eq_some_iff.mp h
    cases h
    exact ⟨ds, h1, h2, hl⟩
theorem pd_callT {f : List D → Option D} {a : AM} (h : PE X e (tCall (Sf X.K n f) [] L2.E0 (TMa X.K c a))) : PD X c e (eCall n f a) := pe_wk h fun σ H Q ⟨env, d, env', R, q, k⟩ => by
  obtain ⟨ds, h1, h2, hl⟩ := ecall_split q
  refine ⟨env, ds, env', R, h1, fun vs H1 R1 v1 r1 => ?_⟩
  dsimp only
  rw [List.append_nil]
  exact ⟨Fb c env' σ, ds, d, r1.length.trans hl, r1, h2, fun a h => R1.there' h, fun v H' gr r' => k v H' (R1.heap gr) (v1.trans (Evo.grow gr)) r'⟩
theorem pf_callT {f : List D → Option D} {a : AM} (h : PE X e (tCall (So X.K n f) [] L2.E0 (TMa X.K c a))) : PDf X c e (eCall n f a) := pe_wk h fun σ H Q ⟨env, d, env', R, q, k⟩ => by
  obtain ⟨ds, h1, h2, hl⟩ := ecall_split q
  refine ⟨env, ds, env', R, h1, fun vs H1 R1 v1 r1 => ?_⟩
  dsimp only
  rw [List.append_nil]
  exact ⟨Fb c env' σ, ds, d, r1.length.trans hl, r1, h2, fun a h => R1.there' h, fun a o H' gr nn r' => k a o H' (R1.heap gr) (v1.trans (Evo.grow gr)) nn r'⟩
theorem pd_call {f : List D → Option D} {a : AM} (C : CalN X.prog X.w X.K X.mg X.base k x (Sf X.K n f)) (hr : Room j X.A) (hk : k ≤ j) (hg : Gl X x) (ha : PDa X c (e :: es) a)
    (hdb : (x == ("__debug__" : Str)) = false := by decide) (he : starEach (e :: es) X.env = (false, eval e X.env) :: starEach es X.env := by rfl) (hpl : (backTo pos (starEach es X.env)).any (·.1) = false := by rfl) : PD X c (.Call (.Name x p) (e :: es) [] pos) (eCall n f a) :=
  pd_callT (C.pe hr hk hg ha hdb he hpl)
theorem pf_call {f : List D → Option D} {a : AM} (C : CalN X.prog X.w X.K X.mg X.base k x (So X.K n f)) (hr : Room j X.A) (hk : k ≤ j) (hg : Gl X x) (ha : PDa X c (e :: es) a)
    (hdb : (x == ("__debug__" : Str)) = false := by decide) (he : starEach (e :: es) X.env = (false, eval e X.env) :: starEach es X.env := by rfl) (hpl : (backTo pos (starEach es X.env)).any (·.1) = false := by rfl) : PDf X c (.Call (.Name x p) (e :: es) [] pos) (eCall n f a) :=
  pf_callT (C.pe hr hk hg ha hdb he hpl)
/-! the j-th argument lent: the object at slot i -/
def TMj (K : PySem.W.Frag) (c : Cn) (i j : Nat) (m : AM) : TA := fun σ H Q => ∃ env ds env', Rel K c env σ H ∧ m env = some (ds, env') ∧ ∀ vs H', Rel K c env' σ H' → Evo c env σ H env' σ H' → (∀ x, σ[i]? = some (some x) → vs[j]? = some x) → RDs K (Fb c env' σ) H' ds (vs.set j .non) → Q vs H'
def aHere (i : Nat) (r : AM) : AM := fun env => match cont env i with
  | some _ => (r env).bind fun q => some (.non :: q.1, q.2)
  | none => none
theorem cont_slot {K : PySem.W.Frag} {env : Ev} {σ : L2.St} {H : Hp} {i : Nat} {d : D} (R : Rel K c env σ H) (h : cont env i = some d) : ∃ a, σ[i]? = some (some (V.ref a)) := by
  obtain ⟨a, o, h1, _⟩ := R.put h
  exact ⟨a, h1⟩
theorem qj_here {i : Nat} {r : AM} (ha : PE X e (tVar i)) (hr : PDa X c es r) (hs : starEach (e :: es) X.env = (false, eval e X.env) :: starEach es X.env := by rfl) : PA X (e :: es) (TMj X.K c i 0 (aHere i r)) :=
  pa_wk (pa_cons ha hr hs) fun σ H Q ⟨env, ds, env', R, q, k⟩ => by
    unfold aHere at q
    split at q
    case h_2 => cases q
    case h_1 d hc =>
      obtain ⟨⟨es, e2⟩, h2, q⟩ := Option.bind_eq_some_iff.mp q
      cases q
      obtain ⟨a, hσ⟩ := cont_slot R hc
      refine ⟨_, hσ, env, es, _, R, h2, fun xs H2 R2 v2 r2 => k _ H2 R2 v2 (fun x hx => by rw [hσ] at hx; cases hx; rfl) ⟨.non, xs, rfl, rfl, r2⟩⟩
theorem qj_cons {i j : Nat} {m : EM} {r : AM} (ha : PD X c e m) (hr : PA X es (TMj X.K c i j r)) (hs : starEach (e :: es) X.env = (false, eval e X.env) :: starEach es X.env := by rfl) : PA X (e :: es) (TMj X.K c i (j + 1) (aCons m r)) :=
  pa_wk (pa_cons ha hr hs) fun σ H Q ⟨env, z, env', R, q, k⟩ => by
    unfold aCons at q
    obtain ⟨⟨d, e1⟩, h1, q⟩ := Option.bind_eq_some_iff.mp q
    obtain ⟨⟨ds, e2⟩, h2, q⟩ := Option.bind_eq_some_iff.mp q
    cases q
    exact ⟨env, d, e1, R, h1, fun x H1 R1 v1 r1 => ⟨e1, ds, e2, R1, h2, fun xs H2 R2 v2 hx r2 => k _ H2 R2 (v1.trans v2) (fun y hy => by simpa using hx y hy) ⟨x, xs.set j .non, by simp, v2.rd r1, r2⟩⟩⟩
def eCallJ (n i : Nat) (f : D → List D → Option (D × D)) (a : AM) : EM := fun env => (a env).bind fun p => if p.1.length = n then (cont p.2 i).bind fun d0 => (f d0 p.1).bind fun r => some (r.1, putC p.2 i r.2) else none
/-- an object is changed meanwhile, and others are new -/
theorem Rel.put2 {K : PySem.W.Frag} {env : Ev} {σ : L2.St} {H H' : Hp} {i : Nat} {a : Addr} {d d' : D} {o' : HO} (R : Rel K c env σ H) (h : cont env i = some d) (ha : σ[i]? = some (some (V.ref a))) (hk : ∀ b u, b ≠ a → H b = some u → H' b = some u) (ho : H' a = some o')
    (r : OB K (Fb c env σ) H' d' o') : Rel K c (putC env i d') σ H' ∧ Evo c env σ H (putC env i d') σ H' := by
  obtain ⟨b, o, h1, h2, _, hf, _⟩ := R.put h
  rw [ha] at h1
  cases h1
  let H1 : Hp := fun b => if b = a then H a else H' b
  have e1 : ∀ b, b ≠ a → H1 b = H' b := fun b n => if_neg n
  have e2 : H1 a = some o := by show (if a = a then H a else H' a) = some o; rw [if_pos rfl, h2]
  have gr : ∀ b u, H b = some u → H1 b = some u := fun b u q => by
    by_cases n : b = a
    · subst n; rw [e2, ← h2, q]
    · rw [e1 b n]; exact hk b u n q
  have R1 := R.heap gr
  obtain ⟨b, o2, p1, p2, _, _, main⟩ := R1.put h
  rw [ha] at p1
  cases p1
  have e3 : upd H1 a o' = H' := by
    funext b
    by_cases n : b = a
    · subst n; rw [upd_same, ho]
    · rw [upd_ne n, e1 b n]
  obtain ⟨q1, q2⟩ := main d' o' (r.go fun b u q n => ⟨by rw [e1 b fun e => n (e ▸ hf)]; exact q, n⟩)
  rw [e3] at q1 q2
  exact ⟨q1, (Evo.grow gr).trans q2⟩
theorem putC_fb {env : Ev} {σ : L2.St} {i : Nat} {d d' : D} {b : Addr} (h : cont env i = some d) : Fb c (putC env i d') σ b → Fb c env σ b := by
  rintro (z | z | ⟨j, e, h1, h2⟩)
  · exact .inl z
  · exact .inr (.inl z)
  · refine .inr (.inr ?_)
    unfold putC at h1
    split at h1
    · rename_i q
      rcases get_set h1 with ⟨e1, _, _⟩ | ⟨n, h1⟩
      · subst e1; exact ⟨j, _, q, h2⟩
      · exact ⟨j, e, h1, h2⟩
    · rename_i q
      rcases get_set h1 with ⟨e1, e2, _⟩ | ⟨n, h1⟩
      · cases e2
      · exact ⟨j, e, h1, h2⟩
    · exact ⟨j, e, h1, h2⟩
theorem pd_callJT {f : D → List D → Option (D × D)} {a : AM} {i j : Nat} (h : PE X e (tCall (Sj X.K n j f) [] L2.E0 (TMj X.K c i j a))) : PD X c e (eCallJ n i f a) := pe_wk h fun σ H Q ⟨env, d, env', R, q, k⟩ => by
  unfold eCallJ at q
  obtain ⟨⟨ds, e1⟩, h1, q⟩ := Option.bind_eq_some_iff.mp q
  dsimp only at q
  split at q
  case isFalse => cases q
  case isTrue hl =>
    obtain ⟨d0, h2, q⟩ := Option.bind_eq_some_iff.mp q
    obtain ⟨⟨d', d1⟩, h3, q⟩ := Option.bind_eq_some_iff.mp q
    cases q
    refine ⟨env, ds, e1, R, h1, fun vs H1 R1 v1 hx r1 => ?_⟩
    dsimp only
    rw [List.append_nil]
    obtain ⟨b, o, p1, p2, p3, hf, _⟩ := R1.put h2
    refine ⟨Fb c e1 σ, b, o, d0, ds, d', d1, ?_, hx _ p1, hf, p2, p3, r1, h3, fun a h => R1.there' h, fun v H' o' ho hk r2 r3 => ?_⟩
    · have := r1.length
      rw [List.length_set] at this
      exact this.trans hl
    · obtain ⟨R2, v2⟩ := R1.put2 h2 p1 hk ho r2
      exact k v H' R2 (v1.trans v2) (r3.go fun b u q nn => ⟨q, fun z => nn (putC_fb h2 z)⟩)
theorem pd_callJ {f : D → List D → Option (D × D)} {a : AM} {i jj : Nat} (C : CalN X.prog X.w X.K X.mg X.base k x (Sj X.K n jj f)) (hr : Room j X.A) (hk : k ≤ j) (hg : Gl X x) (ha : PA X (e :: es) (TMj X.K c i jj a))
    (hdb : (x == ("__debug__" : Str)) = false := by decide) (he : starEach (e :: es) X.env = (false, eval e X.env) :: starEach es X.env := by rfl) (hpl : (backTo pos (starEach es X.env)).any (·.1) = false := by rfl) : PD X c (.Call (.Name x p) (e :: es) [] pos) (eCallJ n i f a) :=
  pd_callJT (C.pe hr hk hg ha hdb he hpl)
end
end NR

set_option Elab.async false
set_option linter.all false
set_option maxRecDepth 100000
set_option maxHeartbeats 4000000
set_option autoImplicit false
/-! The engine, part k: isinstance, items set, repetition, zip. -/
namespace NR
open PySem PySem.Spec L2
inductive Ty where
  | bl | int | str | tup | lst | dict
def Ty.nm : Ty → String
  | .bl => "bool" | .int => "int" | .str => "str" | .tup => "tuple" | .lst => "list" | .dict => "dict"
def tyD : D → String
  | .non => "NoneType" | .bl _ => "bool" | .int _ => "int" | .str _ => "str" | .tup _ => "tuple" | .lst _ => "list" | .scr _ => "list" | .dT _ _ => "dict" | .dK _ _ => "dict"
def isi : Ty → D → Bool
  | .bl, .bl _ => true
  | .int, .int _ => true
  | .int, .bl _ => true
  | .str, .str _ => true
  | .tup, .tup _ => true
  | .lst, .lst _ => true
  | .lst, .scr _ => true
  | .dict, .dT _ _ => true
  | .dict, .dK _ _ => true
  | _, _ => false
def isiS (a b : String) : Bool := a == b || (a == "bool" && b == "int")
theorem kit_tab : (["NoneType", "bool", "int", "str", "tuple", "list", "dict"].all fun a => ["bool", "int", "str", "tuple", "list", "dict"].all fun b => kitB a b == some (isiS a b)) = true := by decide +kernel
theorem kit_isi (d : D) (t : Ty) : kitB (tyD d) t.nm = some (isi t d) := by
  have h1 : tyD d ∈ ["NoneType", "bool", "int", "str", "tuple", "list", "dict"] := by cases d <;> simp [tyD]
  have h2 : t.nm ∈ ["bool", "int", "str", "tuple", "list", "dict"] := by cases t <;> simp [Ty.nm]
  have h3 : isi t d = isiS (tyD d) t.nm := by cases d <;> cases t <;> rfl
  rw [h3]
  exact beq_iff_eq.mp (List.all_eq_true.mp (List.all_eq_true.mp kit_tab _ h1) _ h2)
def noDict : D → Bool
  | .dT _ _ => false
  | .dK _ _ => false
  | _ => true
theorem ty_of {K : PySem.W.Frag} {F : Addr → Prop} {H : Hp} : ∀ {d : D} {v : V}, noDict d = true → RK K F H d v → TyX K H v (.type (tyD d))
  | .dT _ _, _, h, _ => by cases h
  | .dK _ _, _, h, _ => by cases h
  | .non, v, _, r => by rw [show v = .non from r]; exact .base .non
  | .bl b, v, _, r => by rw [show v = .bl b from r]; exact .base (.bl b)
  | .int b, v, _, r => by rw [show v = .int b from r]; exact .base (.int b)
  | .str b, v, _, r => by rw [show v = .str b from r]; exact .base (.str b)
  | .tup _, _, _, ⟨a, xs, e, _, h, _⟩ => by rw [e]; exact .base (.tup h)
  | .lst _, _, _, ⟨a, xs, e, h, _⟩ => by rw [e]; exact .base (.lst h)
  | .scr _, _, _, ⟨a, e, .inl ⟨_, .inl h⟩⟩ => by rw [e]; exact .base (.lst h)
  | .scr _, _, _, ⟨a, e, .inl ⟨_, .inr ⟨o, h⟩⟩⟩ => by rw [e]; exact .base (.frz h)
  | .scr _, _, _, ⟨a, e, .inr ⟨o, its, n, h, c, _⟩⟩ => by rw [e]; exact .kList h c
def isiAny (ts : List Ty) (d : D) : Bool := ts.any fun t => isi t d
theorem kit_any {K : PySem.W.Frag} (d : D) : ∀ ts : List Ty, PySem.W.kitAny K (.type (tyD d)) (ts.map fun t => Value.type t.nm) = some (isiAny ts d)
  | [] => rfl
  | t :: ts => by
    refine kitAny_cons (kit_ty (kit_isi d t)) (fun h => ?_) fun h => ?_
    · rw [kit_any d ts]
      unfold isiAny
      rw [List.any_cons, h, Bool.false_or]
    · unfold isiAny
      rw [List.any_cons, h, Bool.true_or]
def eIsi (t : Ty) (m : EM) : EM := fun env => (m env).bind fun p => if noDict p.1 then some (.bl (isi t p.1), p.2) else none
def eIsiT (ts : List Ty) (m : EM) : EM := fun env => (m env).bind fun p => if noDict p.1 then some (.bl (isiAny ts p.1), p.2) else none
section
variable {X : Cx} {c : Cn} {e a b : Expr} {st : Stmt} {m : EM} {pos : Pos}
theorem pd_isi {t : Ty} (h : PE X e (tCB (rIsi X.K) (tCons (TMk X.K c m) (tCons (tC (.ty t.nm)) tNil)))) : PD X c e (eIsi t m) := pe_wk h fun σ H Q ⟨env, z, env', R, q, k⟩ => by
  unfold eIsi at q
  obtain ⟨⟨d, e1⟩, h1, q⟩ := Option.bind_eq_some_iff.mp q
  dsimp only at q
  split at q
  case isFalse => cases q
  case isTrue nd =>
  cases q
  exact ⟨env, d, _, R, h1, fun x H1 R1 v1 r1 => ⟨x, .ty t.nm, _, _, isi t d, rfl, .ty _, ty_of nd r1, kit_ty (kit_isi d t), k _ H1 R1 v1 rfl⟩⟩
/-- a display of types -/
def tTys (ts : List Ty) : TA := fun σ H Q => Q (ts.map fun t => V.ty t.nm) H
theorem pa_tys0 : PA X [] (tTys []) := pa_nil
theorem pa_tys {t : Ty} {ts : List Ty} {es : List Expr} (h : PE X e (tC (.ty t.nm))) (hr : PA X es (tTys ts)) (hs : starEach (e :: es) X.env = (false, eval e X.env) :: starEach es X.env := by rfl) : PA X (e :: es) (tTys (t :: ts)) :=
  pa_wk (pa_cons h hr hs) fun σ H Q q => q
theorem paired_tys : ∀ ts : List Ty, Paired ClsV (ts.map fun t => V.ty t.nm) (ts.map fun t => Value.type t.nm)
  | [] => .nil
  | t :: ts => .cons (.ty _) (paired_tys ts)
theorem rk_alloc {K : PySem.W.Frag} {F : Addr → Prop} {H : Hp} {p : Addr} {o : HO} (n : H p = none) {d : D} {v : V} (r : RK K F H d v) : RK K F (upd H p o) d v := by
  have g : ∀ b u, H b = some u → upd H p o b = some u := upd_old n
  cases d with
  | lst ds => obtain ⟨a, xs, e, h, rs⟩ := r; exact ⟨a, xs, e, g _ _ h, rs.grow g⟩
  | dT ks ds => obtain ⟨a, xs, e, h, l, rs⟩ := r; exact ⟨a, xs, e, h.elim (fun h => .inl (g _ _ h)) fun ⟨o, h⟩ => .inr ⟨o, g _ _ h⟩, l, rs.grow g⟩
  | dK ks ds => obtain ⟨a, xs, e, h, l, rs⟩ := r; exact ⟨a, xs, e, h.elim (fun h => .inl (g _ _ h)) fun ⟨o, h⟩ => .inr ⟨o, g _ _ h⟩, l, rs.grow g⟩
  | non => exact RD.grow g r
  | bl b => exact RD.grow g r
  | int b => exact RD.grow g r
  | str b => exact RD.grow g r
  | tup ds => exact RD.grow (d := .tup ds) g r
  | scr ds => exact RD.grow (d := .scr ds) g r
theorem pd_isiT {ts : List Ty} (hl : ts.length ≤ 10) (h : PE X e (tCB (rIsiT X.K) (tCons (TMk X.K c m) (tCons (tTup (tTys ts)) tNil)))) : PD X c e (eIsiT ts m) := pe_wk h fun σ H Q ⟨env, z, env', R, q, k⟩ => by
  unfold eIsiT at q
  obtain ⟨⟨d, e1⟩, h1, q⟩ := Option.bind_eq_some_iff.mp q
  dsimp only at q
  split at q
  case isFalse => cases q
  case isTrue nd =>
  cases q
  refine ⟨env, d, _, R, h1, fun x H1 R1 v1 r1 => ⟨?_, fun p n => ?_⟩⟩
  · rw [List.length_map, sizeLine_eq]; omega
  · exact ⟨x, p, _, _, _, isiAny ts d, rfl, upd_same, paired_tys ts, ty_of nd (rk_alloc n r1), kit_any d ts, k _ _ (R1.alloc n) (v1.trans (Evo.alloc n)) rfl⟩

/-! x[i] = e -/
def ixSet (n : Nat) (k : Int) : Option Nat := ixN n k
def sItem (i : Nat) (me mi : EM) : SM := fun env => (me env).bind fun p => (cont p.2 i).bind fun _ => (mi p.2).bind fun q => match q.1, cont q.2 i with
  | .int k, some (.lst ds) => (ixN ds.length k).bind fun j => some (.nx (putC q.2 i (.lst (ds.set j p.1))))
  | _, _ => none
theorem lk_slot {env : Ev} {σ : L2.St} {H : Hp} {i : Nat} {d : D} {K : PySem.W.Frag} (R : Rel K c env σ H) (h : cont env i = some d) : ∃ v, σ[i]? = some (some v) := by
  obtain ⟨a, h⟩ := cont_slot R h
  exact ⟨_, h⟩
theorem qs_item {i : Nat} {me mi : EM} (h : PS X st (tAsg (TM X.K c me) (gSub (tVar i) (TMk X.K c mi) rSetL))) : PDs X c st (sItem i me mi) := ps_wk h fun D σ H ⟨env, r, R, q, k⟩ => by
  unfold sItem at q
  obtain ⟨⟨d, e1⟩, h1, q⟩ := Option.bind_eq_some_iff.mp q
  obtain ⟨d0, h0, q⟩ := Option.bind_eq_some_iff.mp q
  obtain ⟨⟨di, e2⟩, h2, q⟩ := Option.bind_eq_some_iff.mp q
  dsimp only at q h2
  split at q
  case h_2 => cases q
  case h_1 n ds hc =>
    obtain ⟨j, h3, q⟩ := Option.bind_eq_some_iff.mp q
    cases q
    refine ⟨env, d, e1, R, h1, fun v H1 R1 v1 r1 => ?_⟩
    obtain ⟨a, ha⟩ := cont_slot R1 h0
    refine ⟨_, ha, e1, _, e2, R1, h2, fun x H2 R2 v2 r2 => ?_⟩
    rw [rk_int r2]
    obtain ⟨b, o, p1, p2, ⟨xs, rfl, rs⟩, _, put⟩ := R2.put hc
    rw [ha] at p1
    cases p1
    obtain ⟨R3, v3⟩ := put (.lst (ds.set j d)) (.lst (xs.set j v)) ⟨_, rfl, rs.set j (v2.rd r1)⟩
    exact ⟨a, xs, n, j, rfl, rfl, p2, by rw [rs.length]; exact h3, k σ _ R3 (v1.trans (v2.trans v3))⟩

/-! repetition -/
def repD : D → D → Option D
  | .tup ds, .int k => if ds ≠ [] ∧ 1 ≤ k ∧ k ≤ 1000 ∧ ds.length ≤ 1000 then some (.tup (List.replicate k.toNat ds).flatten) else none
  | _, _ => none
def repL : D → D → Option D
  | .lst ds, .int k => if k ≤ 1000 ∧ -1000 ≤ k ∧ ds.length ≤ 1000 then some (.lst (List.replicate k.toNat ds).flatten) else none
  | _, _ => none
theorem RDs.rep {K : PySem.W.Frag} {F : Addr → Prop} {H : Hp} {ds : List D} {xs : List V} (r : RDs K F H ds xs) : ∀ n : Nat, RDs K F H (List.replicate n ds).flatten (List.replicate n xs).flatten
  | 0 => rfl
  | n + 1 => by
    rw [List.replicate_succ, List.replicate_succ, List.flatten_cons, List.flatten_cons]
    exact r.append (RDs.rep r n)
/-- tuple * 1 is the tuple -/
def rRep1 (K : PySem.W.Frag) : R2 := fun x y H Q => ∃ l xs, x = .ref l ∧ y = .int 1 ∧ SqT K H l xs ∧ Q (.ref l) H
def rRepA (K : PySem.W.Frag) : R2 := fun x y H Q => rRepT K x y H Q ∨ rRep1 K x y H Q
theorem tuple_mul1 (l : Addr) (items : Array Value) (n : Nat) (dd : Option Addr) (sl : Array (Option Value)) (u : Tok) :
    Meets (Builtin.«tuple.__mul__» ⟨[.ref l, .int 1 u], []⟩) (fun _ R s => s.heap.get? l = some { cls := .type "tuple", dict := dd, data := .seq items n, slots := sl } ∧ R (.ok (.ret (Value.ref l))) s) :=
  .of_wp fun prog w A R s h => by
    obtain ⟨hp, g, d, tk, os⟩ := s
    obtain ⟨hl, h⟩ := h
    have f1 := AutoSeq1.idx_int
    wp_walk using wpAny_loadPart' hl
    repeat (first
      | (refine wpAny_ite_false (decide_eq_false (by decide)) ?_; wp_walk using wpAny_loadPart' hl)
      | (refine wpAny_ite_true (decide_eq_true (by simp)) ?_; wp_walk using wpAny_loadPart' hl))
    exact ⟨_, rfl, h⟩
theorem op_rep1 : OpR X (binaryOp .Mult) (rRep1 X.K) := by
  intro pins s σ H x y v u Q I rx ry h
  obtain ⟨l, xs, rfl, rfl, hT, q⟩ := h
  cases rx
  obtain ⟨t, rfl⟩ := ry
  obtain ⟨its, r, ⟨⟨cls, dd, data, sl⟩, ho, hc, n, hd⟩, hs⟩ := I.tuple hT
  simp only at hc hd
  subst hc hd
  refine wpAny_binaryOp_repeat_ref (T := "tuple") (U := "int") (by decide) ⟨_, ho, rfl⟩ (fun s' => typeIs_int s' 1 t) noFill_tuple_mul F.fills_int_mul F.slot_int_rmul repeat_tuple F.slot_int_index.lookup
    (call_meets F.slot_int_rmul (typeIs_int s 1 t) F.entry_int_rmul (F.args_int_rmul_2 _ _) (int_rmul_tuple 1 t l its.toArray n dd sl)
      ⟨ho, rfl, ⟨_, ho, rfl⟩, call_meets F.slot_tuple_mul ⟨_, ho, rfl⟩ F.entry_tuple_mul (F.args_tuple_mul_2 _ _) (tuple_mul1 l its.toArray n dd sl t) ⟨ho, ?_⟩⟩)
  exact ⟨.ref l, H, I, rfl, q⟩
theorem opr_rep : OpR X (binaryOp .Mult) (rRepA X.K) := op_repT.or op_rep1
theorem opd_rep {K : PySem.W.Frag} : OpD K (rRepA K) repD := by
  intro c env σ H x y d e z Q R rx ry h k
  cases d <;> first | cases h | skip
  rename_i ds
  cases e <;> first | cases h | skip
  rename_i n
  have h' : (if ds ≠ [] ∧ 1 ≤ n ∧ n ≤ 1000 ∧ ds.length ≤ 1000 then some (D.tup (List.replicate n.toNat ds).flatten) else none) = some z := h
  split at h'
  case isFalse => cases h'
  case isTrue hc =>
    cases h'
    obtain ⟨h1, h2, h3, h4⟩ := hc
    rw [rk_int ry]
    obtain ⟨a, xs, ex, na, ha, rs⟩ := id rx
    subst ex
    by_cases e1 : n = 1
    · subst e1
      refine .inr ⟨a, xs, rfl, rfl, SqT.of ha, k _ H R Evo.refl ?_⟩
      rw [show (List.replicate (1 : Int).toNat ds).flatten = ds by simp]
      exact rx
    · refine .inl ⟨a, n, xs, rfl, rfl, SqT.of ha, fun e => h1 ?_, by omega, h3, by rw [rs.length]; exact h4, fun p hp => k _ _ (R.alloc hp) (Evo.alloc hp) ⟨p, _, rfl, R.new hp, upd_same, (rs.rep _).grow (upd_old hp)⟩⟩
      have := rs.length
      rw [e] at this
      exact List.eq_nil_of_length_eq_zero this.symm
theorem opf_rep {K : PySem.W.Frag} : OpF K rRep repL := by
  intro c env σ H x y d e z Q R rx ry h k
  cases d <;> first | cases h | skip
  rename_i ds
  cases e <;> first | cases h | skip
  rename_i n
  have h' : (if n ≤ 1000 ∧ -1000 ≤ n ∧ ds.length ≤ 1000 then some (D.lst (List.replicate n.toNat ds).flatten) else none) = some z := h
  split at h'
  case isFalse => cases h'
  case isTrue hc =>
    cases h'
    obtain ⟨h3, h2, h4⟩ := hc
    rw [rk_int ry]
    obtain ⟨a, xs, ex, na, ha, rs⟩ := id rx
    subst ex
    refine ⟨a, n, xs, rfl, rfl, ha, by omega, by omega, ?_, fun p hp => k p _ hp ⟨_, rfl, rs.rep _⟩⟩
    rw [rs.length, sizeLine_eq]
    have : ds.length * n.toNat ≤ 1000 * 1000 := Nat.mul_le_mul h4 (by omega)
    omega
/-! zip -/
def zipD : D → D → Option (List D)
  | .lst xs, .lst ys => some (List.zipWith (fun a b => .tup [a, b]) xs ys)
  | .tup xs, .tup ys => some (List.zipWith (fun a b => .tup [a, b]) xs ys)
  | _, _ => none
def iZp (a : AM) : AM := fun env => (a env).bind fun p => match p.1 with
  | [x, y] => (zipD x y).bind fun ds => some (ds, p.2)
  | _ => none
theorem zip_get {xs ys : List D} {i : Nat} : (∀ d, (List.zipWith (fun a b => D.tup [a, b]) xs ys)[i]? = some d → ∃ x y, xs[i]? = some x ∧ ys[i]? = some y ∧ d = .tup [x, y]) ∧ ((List.zipWith (fun a b => D.tup [a, b]) xs ys)[i]? = none → xs.length ≤ i ∨ ys.length ≤ i) := by
  constructor
  · intro d h
    rw [List.getElem?_zipWith] at h
    cases hx : xs[i]? with
    | none => rw [hx] at h; cases ys[i]? <;> cases h
    | some x =>
      cases hy : ys[i]? with
      | none => rw [hx, hy] at h; cases h
      | some y => rw [hx, hy] at h; cases h; exact ⟨x, y, rfl, rfl, rfl⟩
  · intro h
    have := List.getElem?_eq_none_iff.mp h
    rw [List.length_zipWith] at this
    omega
theorem WOK.zipL {K : PySem.W.Frag} {env : Ev} {σ : L2.St} {H : Hp} {p q : Addr} {xs ys : List D} (r : RD K (Fb c env σ) H (.lst xs) (.ref p)) (s : RD K (Fb c env σ) H (.lst ys) (.ref q)) : WOK K c env σ H (Itz K p q) (List.zipWith (fun a b => D.tup [a, b]) xs ys) := by
  intro c2 env2 σ2 H2 R2 v2 i
  obtain ⟨_, us, e, n, h, rs⟩ := r.go v2.2
  cases e
  obtain ⟨_, ws, e, n', h', ss⟩ := s.go v2.2
  cases e
  refine ⟨fun d hd => ?_, fun hd => ?_⟩
  · obtain ⟨x, y, hx, hy, rfl⟩ := zip_get.1 d hd
    obtain ⟨u, hu, ru⟩ := rs.get hx
    obtain ⟨w, hw, rw_⟩ := ss.get hy
    refine ⟨⟨us, ws, u, w, SqL.of h, SqL.of h', hu, hw⟩, fun z H3 ⟨T, u2, w2, e1, nT, e2, g1, g2⟩ => ?_⟩
    have e3 := g1 us (SqL.of h)
    rw [hu] at e3
    cases e3
    have e4 := g2 ws (SqL.of h')
    rw [hw] at e4
    cases e4
    subst e1 e2
    refine ⟨upd_old nT, ⟨T, [u, w], rfl, R2.new nT, upd_same, ⟨u, _, rfl, ru.grow (upd_old nT), w, [], rfl, rw_.grow (upd_old nT), rfl⟩⟩⟩
  · exact ⟨us, ws, SqL.of h, SqL.of h', by rw [rs.length, ss.length]; exact zip_get.2 hd⟩
theorem WOK.zipT {K : PySem.W.Frag} {env : Ev} {σ : L2.St} {H : Hp} {p q : Addr} {xs ys : List D} (r : RD K (Fb c env σ) H (.tup xs) (.ref p)) (s : RD K (Fb c env σ) H (.tup ys) (.ref q)) : WOK K c env σ H (RZ.ItzT K p q) (List.zipWith (fun a b => D.tup [a, b]) xs ys) := by
  intro c2 env2 σ2 H2 R2 v2 i
  obtain ⟨_, us, e, n, h, rs⟩ := r.go v2.2
  cases e
  obtain ⟨_, ws, e, n', h', ss⟩ := s.go v2.2
  cases e
  refine ⟨fun d hd => ?_, fun hd => ?_⟩
  · obtain ⟨x, y, hx, hy, rfl⟩ := zip_get.1 d hd
    obtain ⟨u, hu, ru⟩ := rs.get hx
    obtain ⟨w, hw, rw_⟩ := ss.get hy
    refine ⟨⟨us, ws, u, w, SqT.of h, SqT.of h', hu, hw⟩, fun z H3 ⟨T, u2, w2, e1, nT, e2, g1, g2⟩ => ?_⟩
    have e3 := g1 us (SqT.of h)
    rw [hu] at e3
    cases e3
    have e4 := g2 ws (SqT.of h')
    rw [hw] at e4
    cases e4
    subst e1 e2
    refine ⟨upd_old nT, ⟨T, [u, w], rfl, R2.new nT, upd_same, ⟨u, _, rfl, ru.grow (upd_old nT), w, [], rfl, rw_.grow (upd_old nT), rfl⟩⟩⟩
  · exact ⟨us, ws, SqT.of h, SqT.of h', by rw [rs.length, ss.length]; exact zip_get.2 hd⟩
theorem qi_zip {a : AM} {elts : List Expr} {kk : Nat} {tpos : Pos} (h : PI X (.Tuple elts kk tpos) e (RZ.iZipA X.K (TMa X.K c a))) : PDi X c (.Tuple elts kk tpos) e (iZp a) := pi_wk h fun σ H Q ⟨env, ds, env', R, q, k⟩ => by
  unfold iZp at q
  obtain ⟨⟨as, e1⟩, h1, q⟩ := Option.bind_eq_some_iff.mp q
  dsimp only at q
  split at q
  case h_2 => cases q
  case h_1 x y =>
    obtain ⟨zs, h2, q⟩ := Option.bind_eq_some_iff.mp q
    cases q
    refine ⟨env, _, _, R, h1, fun vs H1 R1 v1 r1 => ?_⟩
    obtain ⟨v, _, rfl, rv, w, _, rfl, rw_, rfl⟩ := r1
    cases x <;> first | cases h2 | skip
    · cases y <;> first | cases h2 | skip
      obtain ⟨p, us, e2, n, hp, rs⟩ := id rv
      obtain ⟨p', us', e2', n', hp', rs'⟩ := id rw_
      subst e2 e2'
      exact ⟨p, p', us, us', rfl, .inr ⟨SqT.of hp, SqT.of hp', k _ H1 R1 v1 (WOK.zipT rv rw_)⟩⟩
    · cases y <;> first | cases h2 | skip
      obtain ⟨p, us, e2, n, hp, rs⟩ := id rv
      obtain ⟨p', us', e2', n', hp', rs'⟩ := id rw_
      subst e2 e2'
      exact ⟨p, p', us, us', rfl, .inl ⟨SqL.of hp, SqL.of hp', k _ H1 R1 v1 (WOK.zipL rv rw_)⟩⟩
end
end NR

set_option Elab.async false
set_option linter.all false
set_option maxRecDepth 100000
set_option maxHeartbeats 4000000
set_option autoImplicit false
/-! The engine, part l: sets of tuples of ints, drawn from a list or a tuple; sorted. -/
namespace NR
open PySem PySem.Spec PyProof.Rows L2
/-! ### a set from tuples: few distinct ones -/
section
variable {P : Program} {w : World} {A : Around} {E : Value → Shared → Prop} {s : Shared}
/-- the loop of set.update over items that walk, every turn with room -/
theorem turns_set {I : Addr} {fp wr : List Addr} {G : Array GenState → Array GenState → Prop} {n : Nat} {Pv : Nat → Value → Prop} {St : Nat → Shared → Prop}
    (W : WalksS P w A.in1 I fp wr G n Pv St) (S : Addr) (apart : S ∉ fp) (ks : List (Addr × List Int)) (len : n = ks.length) (room : ∀ i L, i < n → Got ks i L → (L.map (·.2)).Nodup → L.length + 1 < 64)
    (val : ∀ i v, Pv i v → ∃ p, ks[i]? = some p ∧ v = .ref p.1) (old : Heap) (tups : ∀ p ∈ ks, IsT P w old p.2 p.1) (newS : old.get? S = none) (neww : ∀ b ∈ wr, old.get? b = none) (units : A.in1.units < cLine) :
    ∀ (m i : Nat) (s : Shared) (R : Result → Shared → Prop), n - i = m → i ≤ n → St i s → (∀ b o, old.get? b = some o → s.heap.get? b = some o) → (∃ L es ep t, SetTR P w s.heap S L es ep t ∧ Got ks i L) →
      (∀ s' L es ep t, Moved (S :: wr) G s s' → SetTR P w s'.heap S L es ep t → Got ks n L → (∀ b o, old.get? b = some o → s'.heap.get? b = some o) → R (.ok (.ret .none)) s') →
      codeAny (model P w) A (.builtin "set.update.loop" ⟨[.ref S, .ref I], []⟩) R s := by
  have outw : S ∉ wr := fun h => apart (W.sub _ h)
  have up : ∀ b ∈ wr, b ∈ S :: wr := fun b hb => List.mem_cons_of_mem _ hb
  have stays : ∀ {s s' : Shared}, Moved wr G s s' → (∀ b o, old.get? b = some o → s.heap.get? b = some o) → ∀ b o, old.get? b = some o → s'.heap.get? b = some o := by
    intro s s' mv kp b o e
    refine mv.heap b o (fun hb => ?_) (kp b o e)
    have := neww b hb
    rw [e] at this
    cases this
  intro m
  induction m with
  | zero =>
    rintro i s R hm hi st kp ⟨L, es, ep, t, hS, g⟩ hR
    obtain rfl : i = n := by omega
    refine codeAny_builtin F.entry_set_update_loop ?_
    rw [Around.under_plainId F.plain_set_update_loop _]
    show wpAny _ A.in1 (pyNext (.ref I) >>= _) _ _ s
    refine wpAny_bind (W.done s _ _ st fun s1 mv => ?_)
    show wpAny _ A.in1 (ret Value.none) _ _ s1
    have kp1 := stays mv kp
    have inK : ∀ p ∈ L, p ∈ ks := fun p hp => List.mem_of_mem_take (g.sub p hp)
    exact wpAny_pure (hR s1 L es ep t (mv.mono up) (hS.keep (fun o e => mv.heap S o outw e) fun p hp => isT_keep (tups p (inK p hp)) kp1) g kp1)
  | succ m ih =>
    rintro i s R hm hi st kp ⟨L, es, ep, t, hS, g⟩ hR
    have hin : i < n := by omega
    refine codeAny_builtin F.entry_set_update_loop ?_
    rw [Around.under_plainId F.plain_set_update_loop _]
    show wpAny _ A.in1 (pyNext (.ref I) >>= _) _ _ s
    refine wpAny_bind (W.item i s _ _ hin st fun v s1 pv st1 mv => ?_)
    obtain ⟨p, hp, rfl⟩ := val i v pv
    have kp1 := stays mv kp
    have inK : ∀ q ∈ L, q ∈ ks := fun q hq => List.mem_of_mem_take (g.sub q hq)
    have hS1 : SetTR P w s1.heap S L es ep t := hS.keep (fun o e => mv.heap S o outw e) fun q hq => isT_keep (tups q (inK q hq)) kp1
    have hx : IsT P w s1.heap p.2 p.1 := isT_keep (tups p (List.mem_of_getElem? hp)) kp1
    show wpAny _ A.in1 (holding [Value.ref p.1] (setAdd S (.ref p.1)) >>= _) _ _ s1
    refine wpAny_bind (wpAny_holding ?_)
    unfold setAdd
    refine wpAny_holding (wpAny_bind (wpAny_pyHash_tuple units hx ?_))
    refine add_at (s := { s1 with toks := s1.toks + (p.2.length + 1) }) hS1 hx units (room i L hin g hS.nd) fun b h2 L2 es2 ep2 t2 same R2 c1 c2 => ?_
    have g2 : Got ks (i + 1) L2 := (Classical.em (p.2 ∈ L.map (·.2))).elim (fun c => by rw [c1 c]; exact g.same hp c) fun c => g.more hp (c2 c)
    have notS : ∀ b o, old.get? b = some o → b ≠ S := fun b o e z => by rw [z, newS] at e; cases e
    have kp2 : ∀ b o, old.get? b = some o → h2.get? b = some o := fun b o e => by rw [same.2 b (notS b o e)]; exact kp1 b o e
    refine wpAny_pure ⟨plainId_quiet F.plain_set_update_loop _, ih (i + 1) _ _ (by omega) hin (W.frame _ s1 _ _ st1 (Nat.le_add_right _ _) fun b hb o e => ?_) kp2 ⟨L2, es2, ep2, t2, R2, g2⟩ fun s3 L3 es3 ep3 t3 mv3 R3 g3 kp3 => ?_⟩
    · have nb : b ≠ S := fun z => apart (z ▸ hb)
      rw [same.2 b nb]; exact e
    · refine hR s3 L3 es3 ep3 t3 (Moved.trans W.gtrans ((mv.mono up).then_heap (Nat.le_add_right _ _) fun b o nb e => ?_) mv3) R3 g3 kp3
      have nb : b ≠ S := fun z => nb (z ▸ List.mem_cons_self)
      rw [same.2 b nb]; exact e
/-- what a set starts as -/
def set0 (w : World) : Obj := { cls := .type "set", dict := none, data := .set #[] 0 (.fresh 0 0 (!w.params.followText "set-order")) }
/-- where the items come from -/
inductive Src (h : Heap) (l : Addr) (items : Array Value) : Prop where
  | lst (x : h.IsList l items)
  | tup (x : h.IsTuple l items)
theorem room_of {ks : List (Addr × List Int)} (h : ks.length < 64 ∨ ∀ M : List (List Int), M.Nodup → (∀ k ∈ M, k ∈ ks.map (·.2)) → M.length + 1 < 64) : ∀ i L, i < ks.length → Got ks i L → (L.map (·.2)).Nodup → L.length + 1 < 64 := fun i L hi g nd => by
  rcases h with h | h
  · have := g.len
    omega
  · have := h (L.map (·.2)) nd fun k hk => by
      obtain ⟨p, hp, rfl⟩ := List.mem_map.mp hk
      exact List.mem_map.mpr ⟨p, List.mem_of_mem_take (g.sub p hp), rfl⟩
    rw [List.length_map] at this
    exact this
set_option maxHeartbeats 8000000 in
theorem call_set_src {l : Addr} {items : Array Value} (ks : List (Addr × List Int)) {Q : Value → Shared → Prop} (hh : A.handled = none) (src : Src s.heap l items) (hit : items.toList = ks.map fun p => Value.ref p.1)
    (tups : ∀ p ∈ ks, IsT P w s.heap p.2 p.1) (few : ks.length < 64 ∨ ∀ M : List (List Int), M.Nodup → (∀ k ∈ M, k ∈ ks.map (·.2)) → M.length + 1 < 64) (hu : A.units + 3 < cLine)
    (h : ∀ (h' : Heap) (tk : Nat) L es ep t, SetTR P w h' s.heap.objs.size L es ep t → Got ks ks.length L → (∀ b o, s.heap.get? b = some o → h'.get? b = some o) → Q (.ref s.heap.objs.size) { s with heap := h', toks := tk }) :
    wpAny (model P w) A (call (.type "set") [.ref l]) Q E s := by
  have num : items.size = ks.length := by
    rw [← Array.length_toList, hit, List.length_map]
  obtain ⟨c, tl, hmro⟩ := F.called_set.mro
  have hmade := F.called_set.made
  have hsub := F.called_set.sub
  refine wpAny_call (codeAny_of_tree ?_)
  show wpAny _ _ (callAny (.type "set") _) _ _ _
  refine wpAny_pure ⟨Code.quiet_builtin _ (by decide +kernel), codeAny_builtin F.entry_type_call ?_⟩
  rw [Around.under_plain (weight_type_call_type "set" [.ref l] []) rfl]
  have a1 := F.called_set.notType
  have a2 := F.called_set.canCreate
  have a3 := F.typeCall_set_1 (.ref l)
  repeat (any_goals (first | assumption | wp_step))
  refine codeAny_mono (code_set_led1 (.ref l) (E := E) (Q₁ := fun obj s₁ => obj = .ref s.heap.objs.size ∧ s₁ = { s with heap := s.heap.push (set0 w) }) ⟨rfl, rfl⟩) fun r s1 hr => ?_
  match r, hr with
  | .error e, hr => exact hr
  | .ok .next, hr => exact hr.elim
  | .ok .brk, hr => exact hr.elim
  | .ok .cont, hr => exact hr.elim
  | .ok (.ret obj), hr =>
    obtain ⟨rfl, rfl⟩ := hr
    have atS : (s.heap.push (set0 w)).get? s.heap.objs.size = some (set0 w) := Heap.get?_push_size _ rfl
    have tyS : Shared.TypeIs { s with heap := s.heap.push (set0 w) } (.ref s.heap.objs.size) "set" := ⟨_, atS, rfl⟩
    have a4 := F.called_set.init.lookup
    have a5 := F.called_set.init.bind (.ref s.heap.objs.size)
    repeat (any_goals (first | assumption | wp_step))
    refine codeAny_mono (codeAny_call_builtin (R := wants (fun r s₂ => r = .none ∧ ∃ h' tk L es ep t, s₂ = { s with heap := h', toks := tk } ∧ SetTR P w h' s.heap.objs.size L es ep t ∧ Got ks ks.length L ∧
        (∀ b o, s.heap.get? b = some o → h'.get? b = some o)) E) F.called_set.init.plain F.entry_set_init (check_set_init_1 tyS ?_)) fun r2 s2 hr2 => ?_
    · have vals : ∀ (i : Nat) (v : Value), items[i]? = some v → ∃ p, ks[i]? = some p ∧ v = .ref p.1 := fun i v hv => by
        have e : (ks.map fun p => Value.ref p.1)[i]? = some v := by rw [← hit, Array.getElem?_toList]; exact hv
        rw [List.getElem?_map] at e
        obtain ⟨p, e1, e2⟩ := Option.map_eq_some_iff.mp e
        exact ⟨p, e1, e2.symm⟩
      have void : ∀ b, s.heap.objs.size ≤ b → s.heap.get? b = none := fun b hb => by
        cases q : s.heap.get? b with
        | none => rfl
        | some o => exact absurd (Nat.lt_of_lt_of_le (Heap.lt_size q) hb) (Nat.lt_irrefl _)
      have size1 : (s.heap.push (set0 w)).objs.size = s.heap.objs.size + 1 := Heap.size_push ..
      have noH : A.in1.in1.in1.handled = none := by simp [hh]
      have fpl : ∀ l, l < s.heap.objs.size → l ≠ (s.heap.push (set0 w)).objs.size ∧ s.heap.objs.size ∉ [(s.heap.push (set0 w)).objs.size, l] := fun l hl => by
        rw [size1]
        refine ⟨by omega, fun z => ?_⟩
        rcases List.mem_cons.mp z with z | z
        · exact absurd z (by omega)
        · rw [List.mem_singleton.mp z] at hl; exact absurd hl (Nat.lt_irrefl _)
      have newI : ∀ b ∈ [(s.heap.push (set0 w)).objs.size], s.heap.get? b = none := fun b hb => void b (by rw [List.mem_singleton.mp hb, size1]; exact Nat.le_succ _)
      have old2 : ∀ (o : Obj) b u, s.heap.get? b = some u → ((s.heap.push (set0 w)).push o).get? b = some u := fun o b u e => Heap.get?_push_of_some _ (Heap.get?_push_of_some _ e)
      cases src with
      | lst x =>
        have x1 : (s.heap.push (set0 w)).IsList l items := x.push _
        have hlt : l < s.heap.objs.size := by obtain ⟨o, ho, _⟩ := x; exact Heap.lt_size ho
        obtain ⟨⟨ocls, odict, odata, oslots⟩, hol, hcl, nl, hdl⟩ := x1
        simp only at hcl hdl
        subst hcl; subst hdl
        have b1 := F.sub_list_set
        have b2 := F.sub_list_frozenset
        have b3 : (Value.type "list" == Value.type "dict") = false := by decide
        have x1 : (s.heap.push (set0 w)).IsList l items := x.push _
        unfold Builtin.«set.__init__» noKeywords Builtin.Frozenset.updateFrom
        generalize hPI : pyIter = PI
        wp_walk
        subst hPI
        refine wpAny_pyIter_list x1 (wpAny_bind (wpAny_runValue ?_))
        refine turns_set ((Walks.list noH _ l (fpl l hlt).1 items).toS) s.heap.objs.size (fpl l hlt).2 ks num (fun i L hi => room_of few i L (by rw [← num]; exact hi)) vals s.heap tups (void _ (Nat.le_refl _)) newI hu (items.size - 0) 0 _ _ rfl (Nat.zero_le _)
          ⟨⟨_, Heap.get?_push_size _ rfl, rfl, rfl⟩, x1.push _⟩ (old2 _) ⟨[], #[], 0, _, setTR_fresh (Heap.get?_push_of_some _ atS), Got.zero ks⟩ fun s' L es ep t mv hS' g' kp => ?_
        obtain ⟨h', g2, d', tk', os'⟩ := s'
        have eg : g2 = s.gens := mv.gens
        have ed : d' = s.drawn := mv.drawn
        have eo : os' = s.os := mv.os
        subst eg ed eo
        show wpAny _ _ _ _ _ _
        refine wpAny_pure ?_
        show wpAny _ _ (ret Value.none) _ _ _
        exact wpAny_pure ⟨rfl, h', tk', L, es, ep, t, rfl, hS', by rw [← num]; exact g', kp⟩
      | tup x =>
        have x1 : (s.heap.push (set0 w)).IsTuple l items := x.push _
        have hlt : l < s.heap.objs.size := by obtain ⟨o, ho, _⟩ := x; exact Heap.lt_size ho
        obtain ⟨⟨ocls, odict, odata, oslots⟩, hol, hcl, nl, hdl⟩ := x1
        simp only at hcl hdl
        subst hcl; subst hdl
        have b1 := F.sub_tuple_set
        have b2 := F.sub_tuple_frozenset
        have b3 : (Value.type "tuple" == Value.type "dict") = false := by decide
        have x1 : (s.heap.push (set0 w)).IsTuple l items := x.push _
        unfold Builtin.«set.__init__» noKeywords Builtin.Frozenset.updateFrom
        generalize hPI : pyIter = PI
        wp_walk
        subst hPI
        refine wpAny_pyIter_tuple x1 (wpAny_bind (wpAny_runValue ?_))
        refine turns_set ((Walks.tuple noH _ l (fpl l hlt).1 items).toS) s.heap.objs.size (fpl l hlt).2 ks num (fun i L hi => room_of few i L (by rw [← num]; exact hi)) vals s.heap tups (void _ (Nat.le_refl _)) newI hu (items.size - 0) 0 _ _ rfl (Nat.zero_le _)
          ⟨⟨_, Heap.get?_push_size _ rfl, rfl, rfl⟩, x1.push _⟩ (old2 _) ⟨[], #[], 0, _, setTR_fresh (Heap.get?_push_of_some _ atS), Got.zero ks⟩ fun s' L es ep t mv hS' g' kp => ?_
        obtain ⟨h', g2, d', tk', os'⟩ := s'
        have eg : g2 = s.gens := mv.gens
        have ed : d' = s.drawn := mv.drawn
        have eo : os' = s.os := mv.os
        subst eg ed eo
        show wpAny _ _ _ _ _ _
        refine wpAny_pure ?_
        show wpAny _ _ (ret Value.none) _ _ _
        exact wpAny_pure ⟨rfl, h', tk', L, es, ep, t, rfl, hS', by rw [← num]; exact g', kp⟩
    · match r2, hr2 with
      | .error e, hr2 => exact hr2
      | .ok .next, hr2 => exact hr2.elim
      | .ok .brk, hr2 => exact hr2.elim
      | .ok .cont, hr2 => exact hr2.elim
      | .ok (.ret r), hr2 =>
        obtain ⟨rfl, h', tk, L, es, ep, t, rfl, b1, b2, b3⟩ := hr2
        repeat (any_goals (first | assumption | wp_step))
        exact h _ _ _ _ _ _ b1 b2 b3
end
end NR

set_option Elab.async false
set_option linter.all false
set_option maxRecDepth 100000
set_option maxHeartbeats 4000000
set_option autoImplicit false
/-! The engine, part m: sorted rows; sorted(set(..)); sorted(..). -/
namespace NR
open PySem PySem.Spec PyProof.Rows L2
/-! ### rows in order -/
/-- put among sorted rows -/
def insR (r : List Int) : List (List Int) → List (List Int)
  | [] => [r]
  | a :: l => if r < a then r :: a :: l else if a < r then a :: insR r l else a :: l
/-- the rows, each once, in order -/
def sdd (rows : List (List Int)) : List (List Int) := rows.foldr insR []
theorem row_tri (a b : List Int) : a < b ∨ a = b ∨ b < a := by
  by_cases h : a < b
  · exact .inl h
  · by_cases k : b < a
    · exact .inr (.inr k)
    · exact .inr (.inl (List.le_antisymm (List.not_lt.mp k) (List.not_lt.mp h)))
theorem mem_insR {r x : List Int} : ∀ {l : List (List Int)}, x ∈ insR r l ↔ x = r ∨ x ∈ l
  | [] => by simp [insR]
  | a :: l => by
    unfold insR
    split
    · simp
    · split
      · rw [List.mem_cons, mem_insR, List.mem_cons]
        constructor
        · rintro (h | h | h)
          · exact .inr (.inl h)
          · exact .inl h
          · exact .inr (.inr h)
        · rintro (h | h | h)
          · exact .inr (.inl h)
          · exact .inl h
          · exact .inr (.inr h)
      · rename_i h1 h2
        have e : r = a := by rcases row_tri r a with h | h | h; exact absurd h h1; exact h; exact absurd h h2
        subst e
        simp
theorem mem_sdd {x : List Int} : ∀ {rows : List (List Int)}, x ∈ sdd rows ↔ x ∈ rows
  | [] => by simp [sdd]
  | r :: rows => by
    show x ∈ insR r (sdd rows) ↔ _
    rw [mem_insR, mem_sdd, List.mem_cons]
theorem insR_sorted {r : List Int} : ∀ {l : List (List Int)}, l.Pairwise (· < ·) → (insR r l).Pairwise (· < ·)
  | [], _ => by simp [insR]
  | a :: l, h => by
    obtain ⟨h1, h2⟩ := List.pairwise_cons.mp h
    unfold insR
    split
    · rename_i hr
      refine List.pairwise_cons.mpr ⟨fun x hx => ?_, h⟩
      rcases List.mem_cons.mp hx with e | hx
      · rw [e]; exact hr
      · exact List.lt_trans hr (h1 x hx)
    · split
      · rename_i hr
        refine List.pairwise_cons.mpr ⟨fun x hx => ?_, insR_sorted h2⟩
        rcases mem_insR.mp hx with e | hx
        · rw [e]; exact hr
        · exact h1 x hx
      · exact h
theorem sdd_sorted : ∀ rows : List (List Int), (sdd rows).Pairwise (· < ·)
  | [] => by simp [sdd]
  | r :: rows => insR_sorted (sdd_sorted rows)
theorem rows_same : ∀ {a b : List (List Int)}, a.Pairwise (· < ·) → b.Pairwise (· < ·) → (∀ x, x ∈ a ↔ x ∈ b) → a = b
  | [], [], _, _, _ => rfl
  | [], y :: b, _, _, h => absurd ((h y).mpr List.mem_cons_self) (by simp)
  | x :: a, [], _, _, h => absurd ((h x).mp List.mem_cons_self) (by simp)
  | x :: a, y :: b, ha, hb, h => by
    obtain ⟨ha1, ha2⟩ := List.pairwise_cons.mp ha
    obtain ⟨hb1, hb2⟩ := List.pairwise_cons.mp hb
    have e : x = y := by
      rcases row_tri x y with c | c | c
      · rcases List.mem_cons.mp ((h x).mp List.mem_cons_self) with z | z
        · exact z
        · exact absurd (List.lt_trans c (hb1 x z)) (List.lt_irrefl _)
      · exact c
      · rcases List.mem_cons.mp ((h y).mpr List.mem_cons_self) with z | z
        · exact z.symm
        · exact absurd (List.lt_trans c (ha1 y z)) (List.lt_irrefl _)
    subst e
    congr 1
    refine rows_same ha2 hb2 fun z => ⟨fun hz => ?_, fun hz => ?_⟩
    · rcases List.mem_cons.mp ((h z).mp (List.mem_cons_of_mem _ hz)) with c | c
      · rw [c] at hz; exact absurd (ha1 x hz) (List.lt_irrefl _)
      · exact c
    · rcases List.mem_cons.mp ((h z).mpr (List.mem_cons_of_mem _ hz)) with c | c
      · rw [c] at hz; exact absurd (hb1 x hz) (List.lt_irrefl _)
      · exact c
theorem code_rows {B : Int} : ∀ {a b : List Int}, a.length = b.length → TS.Bd B a → TS.Bd B b → b < a → TS.code B b < TS.code B a
  | [], [], _, _, _, h => absurd h (List.lt_irrefl _)
  | [], _ :: _, h, _, _, _ => by simp at h
  | _ :: _, [], h, _, _, _ => by simp at h
  | x :: a, y :: b, hl, ha, hb, h => by
    have hl' : a.length = b.length := by simpa using hl
    rcases List.cons_lt_cons_iff.mp h with k | ⟨e, k⟩
    · exact TS.code_lt hl'.symm hb.tail ha.tail k
    · subst e
      exact (TS.code_same hl'.symm).mpr (code_rows hl' ha.tail hb.tail k)
theorem rows_len : ∀ {l D : List (List Int)}, l.Nodup → (∀ x ∈ l, x ∈ D) → l.length ≤ D.length
  | [], _, _, _ => Nat.zero_le _
  | x :: l, D, nd, h => by
    obtain ⟨h1, h2⟩ := List.nodup_cons.mp nd
    have hx : x ∈ D := h x List.mem_cons_self
    have ih := rows_len (D := D.erase x) h2 fun y hy => (List.mem_erase_of_ne (fun e => h1 (by rw [← e]; exact hy))).mpr (h y (List.mem_cons_of_mem _ hy))
    rw [List.length_erase_of_mem hx] at ih
    have := List.length_pos_of_mem hx
    rw [List.length_cons]
    omega
def toIs (ds : List D) : Option (List Int) := ds.mapM toI
def rowD : D → Option (List Int)
  | .tup ds => toIs ds
  | _ => none
def rowsD (d : D) : Option (List (List Int)) := match d with
  | .lst ds => ds.mapM rowD
  | .tup ds => ds.mapM rowD
  | _ => none
def tupI (r : List Int) : D := .tup (r.map D.int)
def SsOk (rows : List (List Int)) : Prop := (∀ r ∈ rows, r.length = (rows.headD [0]).length ∧ 1 ≤ r.length ∧ ∀ x ∈ r, 0 ≤ x) ∧ (rows.length < 64 ∨ (sdd rows).length < 63)
instance (rows : List (List Int)) : Decidable (SsOk rows) := by unfold SsOk; infer_instance
def ssD (d : D) : Option D := (rowsD d).bind fun rows => if SsOk rows then some (.lst ((sdd rows).map tupI)) else none
theorem toIs_some : ∀ {ds : List D} {ns : List Int}, toIs ds = some ns → ds = ns.map D.int
  | [], _, h => by
    cases (show some [] = some _ from h)
    rfl
  | d :: ds, ns, h => by
    unfold toIs at h
    rw [List.mapM_cons] at h
    obtain ⟨n, h1, h⟩ := Option.bind_eq_some_iff.mp h
    obtain ⟨r, h2, h⟩ := Option.bind_eq_some_iff.mp h
    cases h
    rw [List.map_cons, ← toIs_some h2]
    cases d <;> first | cases h1 | skip
    rfl
theorem toIs_map (ns : List Int) : toIs (ns.map D.int) = some ns := by
  induction ns with
  | nil => rfl
  | cons n ns ih =>
    unfold toIs at ih ⊢
    rw [List.map_cons, List.mapM_cons, ih]
    rfl
theorem rowD_tupI (r : List Int) : rowD (tupI r) = some r := toIs_map r
theorem mapM_rowD (rows : List (List Int)) : (rows.map tupI).mapM rowD = some rows := by
  induction rows with
  | nil => rfl
  | cons r rows ih =>
    rw [List.map_cons, List.mapM_cons, ih, rowD_tupI]
    rfl
theorem mapM_rowD_some : ∀ {ds : List D} {rows : List (List Int)}, ds.mapM rowD = some rows → ds = rows.map tupI
  | [], _, h => by
    cases (show some [] = some _ from h)
    rfl
  | d :: ds, rows, h => by
    rw [List.mapM_cons] at h
    obtain ⟨n, h1, h⟩ := Option.bind_eq_some_iff.mp h
    obtain ⟨r, h2, h⟩ := Option.bind_eq_some_iff.mp h
    cases h
    rw [List.map_cons, ← mapM_rowD_some h2]
    cases d <;> first | cases h1 | skip
    rw [show tupI n = .tup (n.map .int) from rfl, ← toIs_some h1]
section
variable {K : PySem.W.Frag} {F : Addr → Prop} {H : Hp}
theorem rds_ints' : ∀ {ns : List Int} {xs : List V}, RDs K F H (ns.map D.int) xs → xs = ns.map V.int
  | [], _, r => r
  | n :: ns, _, ⟨x, r, e, h1, h2⟩ => by rw [e, show x = V.int n from h1, rds_ints' h2]; rfl
theorem RDs.tups : ∀ {rows : List (List Int)} {xs : List V}, RDs K F H (rows.map tupI) xs → ∃ ks : List (Addr × List Int), xs = ks.map (fun p => V.ref p.1) ∧ ks.map (·.2) = rows ∧ ∀ p ∈ ks, ¬ F p.1 ∧ H p.1 = some (.tup (p.2.map V.int))
  | [], _, r => ⟨[], r, rfl, by simp⟩
  | n :: ns, _, ⟨x, r, e, h1, h2⟩ => by
    obtain ⟨ks, e1, e2, e3⟩ := RDs.tups h2
    obtain ⟨a, us, ex, na, ha, hus⟩ := h1
    refine ⟨(a, n) :: ks, by rw [e, ex, e1]; rfl, by rw [List.map_cons, e2], fun p hp => ?_⟩
    rcases List.mem_cons.mp hp with z | z
    · rw [z]
      exact ⟨na, by rw [ha, rds_ints' hus]⟩
    · exact e3 p z
theorem rds_of_tups : ∀ {ks : List (Addr × List Int)}, (∀ p ∈ ks, ¬ F p.1 ∧ H p.1 = some (.tup (p.2.map V.int))) → RDs K F H ((ks.map (·.2)).map tupI) (ks.map fun p => V.ref p.1)
  | [], _ => rfl
  | p :: ks, h => ⟨_, _, rfl, ⟨p.1, _, rfl, (h p List.mem_cons_self).1, (h p List.mem_cons_self).2, rds_ints⟩, rds_of_tups fun q hq => h q (List.mem_cons_of_mem _ hq)⟩
end
/-- set(xs) of tuples of ints, xs a list or a tuple -/
def rSetA (K : PySem.W.Frag) (P : Program) (w : World) : List V → Hp → VK → Prop := fun xs H Q => ∃ (l : Addr) (ks : List (Addr × List Int)), xs = [V.ref l] ∧ (SqL K H l (ks.map fun p => V.ref p.1) ∨ SqT K H l (ks.map fun p => V.ref p.1)) ∧ (∀ p ∈ ks, SqT K H p.1 (p.2.map V.int)) ∧
  (ks.length < 64 ∨ ∀ M : List (List Int), M.Nodup → (∀ k ∈ M, k ∈ ks.map (·.2)) → M.length + 1 < 64) ∧
  ∀ a L, H a = none → (∀ p ∈ L, p ∈ ks) → (∀ p ∈ ks, p.2 ∈ L.map (·.2)) → Q (.ref a) (upd H a (SetTO P w a L))
section
variable {X : Cx} {c : Cn} {e : Expr} {m : EM}
theorem cr_setA (hc : X.calm = true) (hu : X.A.units + 64 < cLine) : CallR X (.type "set") (rSetA X.K X.prog X.w) := by
  intro pins s σ H xs us Q I r h
  obtain ⟨l, ks, rfl, hl, hk, hf, q⟩ := h
  rw [Vals.ref1 r]
  have hn : H s.heap.objs.size = none := I.hok.fresh (Nat.le_refl _)
  have src : ∃ items : Array Value, Src s.heap l items ∧ items.toList = ks.map fun p => Value.ref p.1 := by
    rcases hl with hl | hl
    · obtain ⟨its, rv, pl, hz⟩ := I.list hl
      exact ⟨_, .lst pl.isList, by simpa using refs_of_vals rv⟩
    · obtain ⟨its, rv, pl, hz⟩ := I.tuple hl
      exact ⟨_, .tup pl, by simpa using refs_of_vals rv⟩
  obtain ⟨items, src, hit⟩ := src
  refine call_set_src (P := X.prog) (w := X.w) ks (I.ok.hd hc) src hit (fun p hp => I.isT (hk p hp)) hf (by omega) fun h' tk L es ep t R g k => ?_
  refine ⟨.ref s.heap.objs.size, upd H s.heap.objs.size (SetTO X.prog X.w s.heap.objs.size L), I.laid (t' := tk) k (Nat.le_refl _) (setTO_new R.t0), rfl, q _ L hn (fun p hp => ?_) fun p hp => ?_⟩
  · exact List.mem_of_mem_take (g.sub p hp)
  · exact g.all p (by rw [List.take_length]; exact hp)
/-- a bound of the rows' numbers -/
theorem rows_bound : ∀ rows : List (List Int), (∀ r ∈ rows, ∀ x ∈ r, 0 ≤ x) → ∃ B : Int, ∀ r ∈ rows, TS.Bd B r
  | [], _ => ⟨0, by simp⟩
  | r :: rows, h => by
    obtain ⟨B, hB⟩ := rows_bound rows fun q hq => h q (List.mem_cons_of_mem _ hq)
    have one : ∀ r : List Int, ∃ C : Int, ∀ x ∈ r, x < C := by
      intro r
      induction r with
      | nil => exact ⟨0, by simp⟩
      | cons x r ih =>
        obtain ⟨C, hC⟩ := ih
        refine ⟨max C (x + 1), fun y hy => ?_⟩
        rcases List.mem_cons.mp hy with z | z
        · omega
        · have := hC y z; omega
    obtain ⟨C, hC⟩ := one r
    refine ⟨max B C, fun q hq x hx => ⟨h q hq x hx, ?_⟩⟩
    rcases List.mem_cons.mp hq with z | z
    · subst z; have := hC x hx; omega
    · have := (hB q z x hx).2; omega
theorem pf_ss (h : PE X e (tCB (rSortedT X.K X.prog X.w) (tCons (tCB (rSetA X.K X.prog X.w) (tCons (TMk X.K c m) tNil)) tNil))) : PDf X c e (eUn ssD m) := pe_wk h fun σ H Q ⟨env, z, env', R, q, k⟩ => by
  obtain ⟨d, h1, h2⟩ := un_split q
  refine ⟨env, d, env', R, h1, fun x H1 R1 v1 r1 => ?_⟩
  unfold ssD at h2
  obtain ⟨rows, h3, h2⟩ := Option.bind_eq_some_iff.mp h2
  split at h2
  case isFalse => cases h2
  case isTrue hok =>
    cases h2
    obtain ⟨hrow, hfew⟩ := hok
    obtain ⟨B, hB⟩ := rows_bound rows fun r hr => (hrow r hr).2.2
    -- the items
    have items : ∃ (l : Addr) (ks : List (Addr × List Int)), x = .ref l ∧ (SqL X.K H1 l (ks.map fun p => V.ref p.1) ∨ SqT X.K H1 l (ks.map fun p => V.ref p.1)) ∧ ks.map (·.2) = rows ∧ ∀ p ∈ ks, ¬ Fb c env' σ p.1 ∧ H1 p.1 = some (.tup (p.2.map V.int)) := by
      cases d <;> first | cases h3 | skip
      · obtain ⟨a, xs, ex, _, ha, rs⟩ := r1
        rw [mapM_rowD_some h3] at rs
        obtain ⟨ks, e1, e2, e3⟩ := rs.tups
        exact ⟨a, ks, ex, .inr (e1 ▸ SqT.of ha), e2, e3⟩
      · obtain ⟨a, xs, ex, ha, rs⟩ := r1
        rw [mapM_rowD_some h3] at rs
        obtain ⟨ks, e1, e2, e3⟩ := rs.tups
        exact ⟨a, ks, ex, .inl (e1 ▸ SqL.of ha), e2, e3⟩
    obtain ⟨l, ks, rfl, hl, e2, hks⟩ := items
    refine ⟨l, ks, rfl, hl, fun p hp => SqT.of (hks p hp).2, ?_, fun a L na sub all => ?_⟩
    · rcases hfew with h | h
      · left; rw [← List.length_map (f := (·.2)), e2]; exact h
      · refine .inr fun M nd hM => ?_
        have := rows_len nd (fun k hk => mem_sdd.mpr (e2 ▸ hM k hk))
        omega
    · have dl : ∀ p ∈ L, p.2.length = (rows.headD [0]).length ∧ TS.Bd B p.2 := fun p hp => by
        have : p.2 ∈ rows := e2 ▸ List.mem_map.mpr ⟨p, sub p hp, rfl⟩
        exact ⟨(hrow _ this).1, hB _ this⟩
      have d1 : 1 ≤ (rows.headD [0]).length := by
        cases hr : rows with
        | nil => simp
        | cons r rows' => exact (hrow r (by rw [hr]; exact List.mem_cons_self)).2.1
      refine ⟨a, L, (rows.headD [0]).length, B, rfl, upd_same, fun p hp => ?_, d1, dl, fun L' p pm nd few pw np => ?_⟩
      · exact SqT.of (upd_old na _ _ (hks p (sub p hp)).2)
      · have R2 := R1.alloc (o := SetTO X.prog X.w a L) na
        have e5 : L'.map (·.2) = sdd rows := by
          refine rows_same ?_ (sdd_sorted rows) fun y => ?_
          · refine List.pairwise_map.mpr ?_
            have nd' := List.pairwise_map.mp nd
            refine (List.Pairwise.and pw nd').imp_of_mem fun {q r} hq hr hqr => ?_
            rcases row_tri q.2 r.2 with z | z | z
            · exact z
            · exact absurd z hqr.2
            · have q1 := dl q (pm.mem_iff.mp hq)
              have r1 := dl r (pm.mem_iff.mp hr)
              have := code_rows (q1.1.trans r1.1.symm) q1.2 r1.2 z
              omega
          · rw [mem_sdd, ← e2]
            constructor
            · intro hy
              obtain ⟨q, hq, rfl⟩ := List.mem_map.mp hy
              exact List.mem_map.mpr ⟨q, sub q (pm.mem_iff.mp hq), rfl⟩
            · intro hy
              obtain ⟨q, hq, rfl⟩ := List.mem_map.mp hy
              exact (pm.map (·.2)).mem_iff.mpr (all q hq)
        refine k p (.lst (L'.map fun q => V.ref q.1)) _ R2 (v1.trans (Evo.alloc na)) np ⟨_, rfl, ?_⟩
        rw [← e5]
        refine rds_of_tups fun q hq => ?_
        have := hks q (sub q (pm.mem_iff.mp hq))
        exact ⟨this.1, upd_old na _ _ this.2⟩

/-! ### sorted(xs), a list of tuples of ints -/
def insS (r : List Int) : List (List Int) → List (List Int)
  | [] => [r]
  | a :: l => if a < r then a :: insS r l else r :: a :: l
def srt (rows : List (List Int)) : List (List Int) := rows.foldr insS []
theorem insS_perm (r : List Int) : ∀ l : List (List Int), (insS r l).Perm (r :: l)
  | [] => by simp [insS]
  | a :: l => by
    unfold insS
    split
    · exact ((insS_perm r l).cons a).trans (List.Perm.swap r a l)
    · exact List.Perm.refl _
theorem srt_perm : ∀ rows : List (List Int), (srt rows).Perm rows
  | [] => List.Perm.refl _
  | r :: rows => (insS_perm r (srt rows)).trans ((srt_perm rows).cons r)
theorem insS_sorted {r : List Int} : ∀ {l : List (List Int)}, l.Pairwise (· ≤ ·) → (insS r l).Pairwise (· ≤ ·)
  | [], _ => by simp [insS]
  | a :: l, h => by
    obtain ⟨h1, h2⟩ := List.pairwise_cons.mp h
    unfold insS
    split
    · rename_i hr
      refine List.pairwise_cons.mpr ⟨fun x hx => ?_, insS_sorted h2⟩
      rcases List.mem_cons.mp ((insS_perm r l).mem_iff.mp hx) with e | hx
      · rw [e]; exact List.le_of_lt hr
      · exact h1 x hx
    · rename_i hr
      have hr := List.not_lt.mp hr
      refine List.pairwise_cons.mpr ⟨fun x hx => ?_, h⟩
      rcases List.mem_cons.mp hx with e | hx
      · rw [e]; exact hr
      · exact List.le_trans hr (h1 x hx)
theorem srt_sorted : ∀ rows : List (List Int), (srt rows).Pairwise (· ≤ ·)
  | [] => by simp [srt]
  | r :: rows => insS_sorted (srt_sorted rows)
def encR (p : Addr × List Int) : PyData := .tuple (p.2.map .int)
theorem encR_le : PySem.W.dataLe false encR = fun p q => decide (p.2 ≤ q.2) := by
  funext p q
  show (!PySem.W.dataLt (.tuple (q.2.map .int)) (.tuple (p.2.map .int))) = _
  rw [PySem.W.dataLt_tuple]
  show (!PySem.W.rowLt (q.2.map .int) (p.2.map .int)) = _
  rw [PySem.W.dataLt_ints]
  by_cases h : q.2 < p.2
  · have h' : ¬ p.2 ≤ q.2 := fun r => List.not_lt.mpr r h
    simp [h, h']
  · have h' : p.2 ≤ q.2 := List.not_lt.mp h
    simp [h, h']
def rSortR (K : PySem.W.Frag) : List V → Hp → VK → Prop := fun vs H Q => ∃ (a : Addr) (ks : List (Addr × List Int)), vs = [V.ref a] ∧ SqL K H a (ks.map fun p => V.ref p.1) ∧ (∀ p ∈ ks, SqT K H p.1 (p.2.map V.int) ∧ p.2 ≠ []) ∧
  ∀ (ks' : List (Addr × List Int)) (p : Addr), ks'.Perm ks → ks'.Pairwise (fun x y => x.2 ≤ y.2) → H p = none → Q (.ref p) (upd H p (.lst (ks'.map fun q => V.ref q.1)))
theorem dp_ints {K : PySem.W.Frag} {H : Hp} : ∀ ns : List Int, DpAll K H (ns.map V.int) (ns.map PyData.int)
  | [] => .nil
  | n :: ns => .cons (.int n) (dp_ints ns)
theorem each_refs : ∀ {ks : List (Addr × List Int)} {us : List Value}, PySem.W.EachIs (fun v (b : Addr × List Int) => v = Value.ref b.1) us ks → us = ks.map fun q => Value.ref q.1
  | [], _, .nil => rfl
  | k :: ks, _, .cons h t => by rw [h, each_refs t]; rfl
theorem refs_each : ∀ ks : List (Addr × List Int), PySem.W.EachIs (fun v (b : Addr × List Int) => v = Value.ref b.1) (ks.map fun q => Value.ref q.1) ks
  | [] => .nil
  | k :: ks => .cons rfl (refs_each ks)
theorem each_reads {h : Heap} : ∀ ks : List (Addr × List Int), (∀ p ∈ ks, ∃ as, Reads h (.ref p.1) (encR p) as) → PySem.W.EachIs (fun v b => ∃ as, Reads h v (encR b) as) (ks.map fun q => Value.ref q.1) ks
  | [], _ => .nil
  | k :: ks, h => .cons (h k List.mem_cons_self) (each_reads ks fun q hq => h q (List.mem_cons_of_mem _ hq))
theorem cr_sortR (hu : X.A.units + 64 < cLine) : CallR X (.builtin "sorted") (rSortR X.K) := by
  intro pins s σ H vs us Q I r h
  obtain ⟨a, ks, rfl, hs, hk, q⟩ := h
  obtain ⟨its, rv, hl, hz⟩ := I.list hs
  rw [Vals.ref1 r]
  have e1 : its = ks.map fun q => Value.ref q.1 := refs_of_vals rv
  subst e1
  have hz' : ks.length ≤ sizeLine := by simpa using hz
  have er := each_reads (h := s.heap) ks fun p hp => Dp.reads I (encR p) (.ref p.1) (.ref p.1) (.tup (hk p hp).1 (dp_ints p.2)) rfl
  refine PySem.W.sorted_data (enc := encR) hl.isList (refs_each ks) er (PySem.W.AllAlike.of fun b b' => ?_) (.inl fun d hd => ?_) hz' (fun b _ => ?_) fun out hlen ho => ?_
  · unfold encR
    simpa [PySem.W.alike] using PySem.W.alike_ints b.2 b'.2
  · obtain ⟨b, hb, rfl⟩ := List.mem_map.mp hd
    cases e : b.2 with
    | nil => exact absurd e (hk b hb).2
    | cons x r => exact ⟨.int x, r.map .int, by unfold encR; rw [e]; rfl⟩
  · have : (encR b).depth = 1 := by
      unfold encR
      simp [PyData.depth, PySem.W.depth_ints]
    omega
  · rw [encR_le] at ho
    have hp : (ks.mergeSort fun p q => decide (p.2 ≤ q.2)).Perm ks := List.mergeSort_perm _ _
    have hs' : (ks.mergeSort fun p q => decide (p.2 ≤ q.2)).Pairwise (fun x y => x.2 ≤ y.2) := by
      refine (List.pairwise_mergeSort (fun a b c h1 h2 => ?_) (fun a b => ?_) ks).imp fun h => of_decide_eq_true h
      · exact decide_eq_true (List.le_trans (of_decide_eq_true h1) (of_decide_eq_true h2))
      · rcases List.le_total a.2 b.2 with h | h <;> simp [h]
    obtain ⟨ep, he⟩ := PyProof.Rows.sortedAll_at s.heap (ks.map fun q => Value.ref q.1) out.toArray
    have eo := each_refs ho
    subst eo
    refine ⟨.ref _, upd H (s.heap.objs.size + 1) (.lst ((ks.mergeSort fun p q => decide (p.2 ≤ q.2)).map fun q => V.ref q.1)), I.laid (t' := s.toks) (fun _ _ => PyProof.Rows.sortedAll_old) (Nat.le_succ _) ⟨?_, _, ep, vals_of_refs _, he⟩, rfl, q _ _ hp hs' (I.hok.fresh (Nat.le_succ _))⟩
    rw [List.length_map, hp.length_eq]; exact hz'
def sortD : D → Option D
  | .lst ds => (ds.mapM rowD).bind fun rows => if ∀ r ∈ rows, r ≠ [] then some (.lst ((srt rows).map tupI)) else none
  | _ => none
theorem callF_sortR {K : PySem.W.Frag} : CallF K (rSortR K) sortD := by
  intro c env σ H x d z Q R r h k
  cases d <;> first | cases h | skip
  obtain ⟨a, xs, ex, ha, rs⟩ := r
  rename_i ds
  have h' : ((ds.mapM rowD).bind fun rows => if ∀ r ∈ rows, r ≠ [] then some (D.lst ((srt rows).map tupI)) else none) = some z := h
  obtain ⟨rows, h3, h'⟩ := Option.bind_eq_some_iff.mp h'
  split at h'
  case isFalse => cases h'
  case isTrue hne =>
    cases h'
    rw [mapM_rowD_some h3] at rs
    obtain ⟨ks, e1, e2, e3⟩ := rs.tups
    subst ex e1
    refine ⟨a, ks, rfl, SqL.of ha, fun p hp => ⟨SqT.of (e3 p hp).2, hne _ (e2 ▸ List.mem_map.mpr ⟨p, hp, rfl⟩)⟩, fun ks' p pm pw np => k p _ np ⟨_, rfl, ?_⟩⟩
    have e5 : ks'.map (·.2) = srt rows := by
      refine List.Perm.eq_of_pairwise (le := fun x y : List Int => x ≤ y) (fun a b _ _ h1 h2 => List.le_antisymm h1 h2) (List.pairwise_map.mpr pw) (srt_sorted rows) ?_
      exact ((pm.map (·.2)).trans (by rw [e2])).trans (srt_perm rows).symm
    rw [← e5]
    exact rds_of_tups fun q hq => e3 q (pm.mem_iff.mp hq)
end
end NR

set_option Elab.async false
set_option linter.all false
set_option maxRecDepth 100000
set_option maxHeartbeats 4000000
set_option autoImplicit false
/-! The engine, part n: the rules in short, as a printed walk names them. -/
namespace NR
open PySem PySem.Spec PyProof.Rows L2
section
variable {X : Cx} {c : Cn} {e a b : Expr} {p q pos : Pos} {m ma mb : EM}
/-- one argument that is looked at -/
theorem one_k (h : PDk X c e m) (hs : starEach [e] X.env = (false, eval e X.env) :: starEach [] X.env) : PA X [e] (tCons (TMk X.K c m) tNil) := pa_cons h pa_nil hs
theorem two_k (ha : PD X c a ma) (hb : PDk X c b mb) (hs : starEach [a, b] X.env = (false, eval a X.env) :: starEach [b] X.env) (hs2 : starEach [b] X.env = (false, eval b X.env) :: starEach [] X.env) : PA X [a, b] (tCons (TM X.K c ma) (tCons (TMk X.K c mb) tNil)) := pa_cons ha (pa_cons hb pa_nil hs2) hs
theorem x_len (hm : X.mg "len" = none) (h : PDk X c e m) (hg : Gl X "len" := by rfl) (hs : starEach [e] X.env = (false, eval e X.env) :: starEach [] X.env := by rfl) : PD X c (.Call (.Name "len" p) [e] [] pos) (eUn lenD m) := pd_u1 call1_len (pe_callB call_len hg hm PySem.boot_len (one_k h hs) (by decide) (by decide) hs rfl)
theorem x_tuple (hm : X.mg "tuple" = none) (h : PDk X c e m) (hg : Gl X "tuple" := by rfl) (hs : starEach [e] X.env = (false, eval e X.env) :: starEach [] X.env := by rfl) : PD X c (.Call (.Name "tuple" p) [e] [] pos) (eUn tupD m) := pd_u1 call1_tup (pe_callTy call_tuple_of hg hm PyProof.Rows.boot_tuple (one_k h hs) (by decide) (by decide) hs rfl)
theorem x_all (hc : X.calm = true) (hm : X.mg "all" = none) (h : PDk X c e m) (hg : Gl X "all" := by rfl) (hs : starEach [e] X.env = (false, eval e X.env) :: starEach [] X.env := by rfl) : PD X c (.Call (.Name "all" p) [e] [] pos) (eUn allL m) := pd_u1 call1_all (pe_callB (cr_all hc) hg hm PyProof.Rows.boot_all (one_k h hs) (by decide) (by decide) hs rfl)
theorem x_any (hc : X.calm = true) (hm : X.mg "any" = none) (h : PDk X c e m) (hg : Gl X "any" := by rfl) (hs : starEach [e] X.env = (false, eval e X.env) :: starEach [] X.env := by rfl) : PD X c (.Call (.Name "any" p) [e] [] pos) (eUn anyL m) := pd_u1 call1_any (pe_callB (cr_any hc) hg hm PyProof.Rows.boot_any (one_k h hs) (by decide) (by decide) hs rfl)
theorem x_sum (hc : X.calm = true) (hm : X.mg "sum" = none) (h : PDk X c e m) (hg : Gl X "sum" := by rfl) (hs : starEach [e] X.env = (false, eval e X.env) :: starEach [] X.env := by rfl) : PD X c (.Call (.Name "sum" p) [e] [] pos) (eUn sumD m) := pd_u1 call1_sum (pe_callB (crA_sum hc) hg hm PyProof.Rows.boot_sum (one_k h hs) (by decide) (by decide) hs rfl)
theorem x_max1 (hc : X.calm = true) (hm : X.mg "max" = none) (h : PDk X c e m) (hg : Gl X "max" := by rfl) (hs : starEach [e] X.env = (false, eval e X.env) :: starEach [] X.env := by rfl) : PD X c (.Call (.Name "max" p) [e] [] pos) (eUn maxD m) := pd_u1 call1_max (pe_callB (crA_max hc) hg hm PyProof.Rows.boot_max (one_k h hs) (by decide) (by decide) hs rfl)
theorem x_min1 (hc : X.calm = true) (hm : X.mg "min" = none) (h : PDk X c e m) (hg : Gl X "min" := by rfl) (hs : starEach [e] X.env = (false, eval e X.env) :: starEach [] X.env := by rfl) : PD X c (.Call (.Name "min" p) [e] [] pos) (eUn minD m) := pd_u1 call1_min (pe_callB (crA_min hc) hg hm PyProof.Rows.boot_min (one_k h hs) (by decide) (by decide) hs rfl)
theorem x_abs (hm : X.mg "abs" = none) (h : PDk X c e m) (hg : Gl X "abs" := by rfl) (hs : starEach [e] X.env = (false, eval e X.env) :: starEach [] X.env := by rfl) : PD X c (.Call (.Name "abs" p) [e] [] pos) (eUn absD m) := pd_u1 call1_abs (pe_callB call_abs hg hm PyProof.Rows.boot_abs (one_k h hs) (by decide) (by decide) hs rfl)
theorem x_int (hm : X.mg "int" = none) (h : PDk X c e m) (hg : Gl X "int" := by rfl) (hs : starEach [e] X.env = (false, eval e X.env) :: starEach [] X.env := by rfl) : PD X c (.Call (.Name "int" p) [e] [] pos) (eUn intD m) := pd_u1 call1_int (pe_callTy call_int1 hg hm PyProof.Rows.boot_int (one_k h hs) (by decide) (by decide) hs rfl)
theorem x_str (hm : X.mg "str" = none) (h : PDk X c e m) (hg : Gl X "str" := by rfl) (hs : starEach [e] X.env = (false, eval e X.env) :: starEach [] X.env := by rfl) : PD X c (.Call (.Name "str" p) [e] [] pos) (eUn strD m) := pd_u1 call1_str (pe_callTy call_str_int hg hm PyProof.Rows.boot_str (one_k h hs) (by decide) (by decide) hs rfl)
theorem x_max2 (hc : X.calm = true) (hm : X.mg "max" = none) (ha : PD X c a ma) (hb : PDk X c b mb) (hg : Gl X "max" := by rfl) (hs : starEach [a, b] X.env = (false, eval a X.env) :: starEach [b] X.env := by rfl) (hs2 : starEach [b] X.env = (false, eval b X.env) :: starEach [] X.env := by rfl) (hpl : (backTo pos (starEach [b] X.env)).any (·.1) = false := by rfl) :
    PD X c (.Call (.Name "max" p) [a, b] [] pos) (eBin max2D ma mb) := pd_u2 call2_max (pe_callB (call_max2 hc) hg hm PyProof.Rows.boot_max (two_k ha hb hs hs2) (by decide) (by decide) hs hpl)
theorem x_min2 (hc : X.calm = true) (hm : X.mg "min" = none) (ha : PD X c a ma) (hb : PDk X c b mb) (hg : Gl X "min" := by rfl) (hs : starEach [a, b] X.env = (false, eval a X.env) :: starEach [b] X.env := by rfl) (hs2 : starEach [b] X.env = (false, eval b X.env) :: starEach [] X.env := by rfl) (hpl : (backTo pos (starEach [b] X.env)).any (·.1) = false := by rfl) :
    PD X c (.Call (.Name "min" p) [a, b] [] pos) (eBin min2D ma mb) := pd_u2 call2_min (pe_callB (call_min2 hc) hg hm PyProof.Rows.boot_min (two_k ha hb hs hs2) (by decide) (by decide) hs hpl)
theorem x_sorted (hu : X.A.units + 64 < cLine) (hm : X.mg "sorted" = none) (h : PDk X c e m) (hg : Gl X "sorted" := by rfl) (hs : starEach [e] X.env = (false, eval e X.env) :: starEach [] X.env := by rfl) : PDf X c (.Call (.Name "sorted" p) [e] [] pos) (eUn sortD m) := pf_u1 callF_sortR (pe_callB (cr_sortR hu) hg hm PyProof.Rows.boot_sorted (one_k h hs) (by decide) (by decide) hs rfl)
theorem x_ss {p2 q2 : Pos} (hc : X.calm = true) (hu : X.A.units + 64 < cLine) (hm : X.mg "sorted" = none) (hm2 : X.mg "set" = none) (h : PDk X c e m) (hg : Gl X "sorted" := by rfl) (hg2 : Gl X "set" := by rfl) (hs : starEach [e] X.env = (false, eval e X.env) :: starEach [] X.env := by rfl)
    (hs2 : starEach [.Call (.Name "set" p2) [e] [] q2] X.env = (false, eval (.Call (.Name "set" p2) [e] [] q2) X.env) :: starEach [] X.env := by rfl) : PDf X c (.Call (.Name "sorted" p) [.Call (.Name "set" p2) [e] [] q2] [] pos) (eUn ssD m) :=
  pf_ss (pe_callB (cr_sortedT hc) hg hm PyProof.Rows.boot_sorted (pa_cons (pe_callTy (cr_setA hc hu) hg2 hm2 PyProof.Rows.boot_set (one_k h hs) (by decide) (by decide) hs rfl) pa_nil hs2) (by decide) (by decide) hs2 rfl)
theorem x_isi {x : Str} (t : Ty) (hm : X.mg "isinstance" = none) (hm2 : X.mg x = none) (h : PDk X c e m) (hv : bootBuiltins x = some (.type t.nm) := by decide +kernel) (hg : Gl X "isinstance" := by rfl) (hg2 : Gl X x := by rfl) (hn : x ≠ "__name__" := by decide) (hdb : (x == ("__debug__" : Str)) = false := by decide)
    (hs : starEach [e, .Name x q] X.env = (false, eval e X.env) :: starEach [.Name x q] X.env := by rfl) (hs2 : starEach [.Name x q] X.env = (false, eval (.Name x q) X.env) :: starEach [] X.env := by rfl) (hpl : (backTo pos (starEach [.Name x q] X.env)).any (·.1) = false := by rfl) :
    PD X c (.Call (.Name "isinstance" p) [e, .Name x q] [] pos) (eIsi t m) := pd_isi (pe_callB call_isi hg hm PyProof.Rows.boot_isinstance (pa_cons h (pa_cons (pe_bltn hg2 hm2 hv (show RelV (.ty t.nm) (.type t.nm) from rfl) hn hdb) pa_nil hs2) hs) (by decide) (by decide) hs hpl)
theorem x_ty {x : Str} (t : Ty) (hm2 : X.mg x = none) (hv : bootBuiltins x = some (.type t.nm) := by decide +kernel) (hg2 : Gl X x := by rfl) (hn : x ≠ "__name__" := by decide) (hdb : (x == ("__debug__" : Str)) = false := by decide) : PE X (.Name x q) (tC (.ty t.nm)) := pe_bltn hg2 hm2 hv (show RelV (.ty t.nm) (.type t.nm) from rfl) hn hdb
theorem x_isiT {ts : List Ty} {es : List Expr} {k1 : Nat} (hm : X.mg "isinstance" = none) (h : PDk X c e m) (ht : PA X es (tTys ts)) (hl : ts.length ≤ 10 := by decide) (hg : Gl X "isinstance" := by rfl)
    (hs : starEach [e, .Tuple es k1 q] X.env = (false, eval e X.env) :: starEach [.Tuple es k1 q] X.env := by rfl) (hs2 : starEach [.Tuple es k1 q] X.env = (false, eval (.Tuple es k1 q) X.env) :: starEach [] X.env := by rfl) (hpl : (backTo pos (starEach [.Tuple es k1 q] X.env)).any (·.1) = false := by rfl) :
    PD X c (.Call (.Name "isinstance" p) [e, .Tuple es k1 q] [] pos) (eIsiT ts m) := pd_isiT hl (pe_callB call_isiT hg hm PyProof.Rows.boot_isinstance (pa_cons h (pa_cons (pe_tup ht) pa_nil hs2) hs) (by decide) (by decide) hs hpl)
/-! subscripts -/
theorem x_ix (ha : PD X c a ma) (hb : PDk X c b mb) (hs : PlainIx b := by intro _ _; rfl) : PD X c (.Subscript a b pos) (eBin ixD ma mb) := pd_op2 opv_ix.d (pe_ix ix_seq ha hb hs)
theorem x_ixV {i : Nat} (ha : PE X a (tVar i)) (hb : PDk X c b mb) (hs : PlainIx b := by intro _ _; rfl) : PD X c (.Subscript a b pos) (eBinV ixD i mb) := pd_opV opv_ix (pe_ix ix_seq ha hb hs)
theorem x_dget (hu : X.A.units + 64 < cLine) (ha : PD X c a ma) (hb : PDk X c b mb) (hs : NoSl b := by intro _ _; rfl) : PD X c (.Subscript a b pos) (eBin dgetD ma mb) := pd_op2 (r := rDG) opv_dget.d (pe_dget (by omega) ha hb hs)
theorem x_dgetV {i : Nat} (hu : X.A.units + 64 < cLine) (ha : PE X a (tVar i)) (hb : PDk X c b mb) (hs : NoSl b := by intro _ _; rfl) : PD X c (.Subscript a b pos) (eBinV dgetD i mb) := pd_opV (r := rDG) opv_dget (pe_dget (by omega) ha hb hs)
theorem x_din (hu : X.A.units + 64 < cLine) (ha : PD X c a ma) (hb : PDk X c b mb) (h1 : behindInMarks .In b = false := by rfl) : PD X c (.Compare a [.In] [b] pos) (eBin dinD ma mb) := pd_op2 (r := rDI false) opd_din (pe_cmp (pc_din (by omega) ha hb) h1)
theorem x_dnin (hu : X.A.units + 64 < cLine) (ha : PD X c a ma) (hb : PDk X c b mb) (h1 : behindInMarks .NotIn b = false := by rfl) : PD X c (.Compare a [.NotIn] [b] pos) (eBin dninD ma mb) := pd_op2 (r := rDI true) opd_dnin (pe_cmp (pc_dnotin (by omega) ha hb) h1)
theorem x_dinb (hu : X.A.units + 64 < cLine) (ha : PD X c a ma) (hb : PDk X c b mb) (h1 : behindInMarks .In b = false := by rfl) : PDb X c (.Compare a [.In] [b] pos) (bOf (eBin dinD ma mb)) := pt_wk (pt_cmp (pc_din (by omega) ha hb) h1) fun σ H Q h => tm_bin (r := rDI false) opd_din (tmb_of h)
theorem x_dninb (hu : X.A.units + 64 < cLine) (ha : PD X c a ma) (hb : PDk X c b mb) (h1 : behindInMarks .NotIn b = false := by rfl) : PDb X c (.Compare a [.NotIn] [b] pos) (bOf (eBin dninD ma mb)) := pt_wk (pt_cmp (pc_dnotin (by omega) ha hb) h1) fun σ H Q h => tm_bin (r := rDI true) opd_dnin (tmb_of h)
/-- a test that is told as a value: True or False -/
theorem x_bof (h : PD X c e m) (he : ∀ whole, isTrue e X.env whole = (do let v ← whole; standAt e.pos; holding [v] (truthy v))) : PDb X c e (bTru m) := pb_tru (pk_d h) he
theorem pf_setLcP {i j : Nat} {y : Str} {py : Pos} {elt tg iter : Expr} {ifs : List Expr} {scope : Scope} {own : List (Str × Nat)} {pos spos : Pos} {g : GM} {t : BM} {m : EM} (hc : X.calm = true) (hN : X.N.Nodup) (hy : X.N[i]? = some y) (hyl : X.env.scope.names.lookup y = some .local)
    (hsw : swapsWith (.ListComp elt [⟨tg, iter, ifs, 0⟩] scope pos) (some (.Name y py)) spos.line X.env = pure true) (hi : PE X iter (tVar j)) (ok : BlkOk X.N X.env.scope scope own)
    (hg : ∀ (s : Shared) (H : Hp) (C : Addr) (cl : List (Str × Addr)) (fp : List Addr) (c : Cn), PDg (X.blk s H scope (compEnvC scope cl C X.env) fp) c (own.map (·.2)) tg g) (ht : ∀ (s : Shared) (H : Hp) (C : Addr) (cl : List (Str × Addr)) (fp : List Addr) (c : Cn), PDts (X.blk s H scope (compEnvC scope cl C X.env) fp) c ifs t)
    (he : ∀ (s : Shared) (H : Hp) (C : Addr) (cl : List (Str × Addr)) (fp : List Addr) (c : Cn), PD (X.blk s H scope (compEnvC scope cl C X.env) fp) c elt m) (hs : ∀ x, foldedSetIterable iter X.env x = pure x := by intro _; rfl) :
    PS X (.Assign [.Name y py] (.ListComp elt [⟨tg, iter, ifs, 0⟩] scope pos) spos) (tAsg (TMf X.K c (eLcP (own.map (·.2)) j g t m)) (gName i)) :=
  asg_wk (ps_setLc hc hN hy hyl hsw (pi_list hi) ok (fun s H C cl fp => pg_ex fun c => hg s H C cl fp c) (fun s H C cl fp => pts_ex fun c => ht s H C cl fp c) (fun s H C cl fp => pe_ex fun c => he s H C cl fp c) hs) fun σ H Q h => tLc_pk h
/-! statements -/
theorem x_append {i : Nat} {o : Expr} {apos cpos : Pos} {m : EM} (ho : PE X o (tVar i)) (h : PD X c e m) (hbase : attributeBase o "append" X.env (eval o X.env) = eval o X.env := by rfl)
    (hfew : ((backTo cpos (starEach [e] X.env)).all (fun x => !x.1) && (backToKw cpos (keywordEach [] X.env)).all (fun x => x.1.isSome) && decide (([e] : List Expr).length + ([] : List Keyword).length + (if ([] : List Keyword).isEmpty then 0 else 1) < 30)) = true := by rfl)
    (hline : (apos.endLine == cpos.line) = true := by rfl) (hs : starEach [e] X.env = (false, eval e X.env) :: starEach [] X.env := by rfl) (hsw : swapsWith (.Call (.Attribute o "append" apos) [e] [] cpos) none pos.line X.env = pure false := by rfl) :
    PDs X c (.Expr (.Call (.Attribute o "append" apos) [e] [] cpos) pos) (sAppend i m) :=
  qs_append (ps_expr (pe_bm PySem.F.plainAttrs_list PySem.F.slot_list_append PySem.F.type_list_append mt_append ho (pa_cons h pa_nil hs) hbase hfew hline hs rfl) hsw)
theorem x_item {i : Nat} {o v : Expr} {tp : Pos} {me mi : EM} (hv : PD X c v me) (ho : PE X o (tVar i)) (hi : PDk X c e mi)
    (ha : ∀ v, assign (.Subscript o e tp) X.env v = (do
      let ov ← holding [v] (eval o X.env)
      let iv ← holding [v, ov] (eval e X.env)
      standAt tp
      holding [v, ov, iv] (setItem ov iv v)
      release [v, ov, iv] []) := by intro _; rfl) (hs : swapsWithSole [.Subscript o e tp] v pos.line X.env = pure false := by rfl) (hw : swappedStores [.Subscript o e tp] v X.env = pure none := by rfl)
    (h1 : (assignEach [.Subscript o e tp] X.env).map (·.2) = [assign (.Subscript o e tp) X.env] := by rfl) : PDs X c (.Assign [.Subscript o e tp] v pos) (sItem i me mi) := qs_item (ps_asg hv (pg_sub ho hi set_list ha) hs hw h1)
theorem x_dput {i : Nat} {o v : Expr} {tp : Pos} {mk mv : EM} (hu : X.A.units + 64 < cLine) (hv : PD X c v mv) (ho : PE X o (tVar i)) (hk : PDk X c e mk) (hs : swapsWith v (some (.Subscript o e tp)) pos.line X.env = pure false := by rfl) :
    PDs X c (.Assign [.Subscript o e tp] v pos) (sDPutE i mk mv) := qs_dput (ps_dput (by omega) ho hk hv hs)
theorem x_zip {elts : List Expr} {kk : Nat} {tpos : Pos} {w : AM} (hm : X.mg "zip" = none) (ha : PDa X c [a, b] w) (hg : Gl X "zip" := by rfl) (hs : starEach [a, b] X.env = (false, eval a X.env) :: starEach [b] X.env := by rfl) (hpl : (backTo pos (starEach [b] X.env)).any (·.1) = false := by rfl) :
    PDi X c (.Tuple elts kk tpos) (.Call (.Name "zip" p) [a, b] [] pos) (iZp w) := qi_zip (RZ.pi_zipA hg hm ha hs hpl)
end
end NR

set_option Elab.async false
set_option linter.all false
set_option maxRecDepth 100000
set_option maxHeartbeats 4000000
set_option autoImplicit false
/-! The engine, part o: a dict's keys walked. -/
namespace NR
open PySem PySem.Spec PyProof.Rows L2
def isDc : HO → Prop
  | .dT _ => True
  | .dK _ => True
  | _ => False
/-- the dict at a is locked, or is set free -/
structure SW (a : Addr) (H H2 : Hp) : Prop where
  oth : ∀ b, b ≠ a → H2 b = H b
  at_ : ∃ (u : HO) (od : Obj), isDc u ∧ ((H a = some u ∧ H2 a = some (.frz od u)) ∨ (H a = some (.frz od u) ∧ H2 a = some u))
section
variable {K : PySem.W.Frag} {F : Addr → Prop} {H H2 : Hp} {a : Addr}
theorem SW.plain (s : SW a H H2) {b : Addr} {o : HO} (h : H b = some o) (n : ¬ isDc o) (n2 : ∀ od u, o = .frz od u → ¬ isDc u) : H2 b = some o := by
  have ne : b ≠ a := by
    rintro rfl
    obtain ⟨u, od, d, ⟨h1, _⟩ | ⟨h1, _⟩⟩ := s.at_
    · rw [h1] at h; cases h; exact n d
    · rw [h1] at h; cases h; exact n2 od u rfl d
  rw [s.oth b ne, h]
theorem SW.dict (s : SW a H H2) {b : Addr} {o : HO} (d : isDc o) (h : Rd H b o) : Rd H2 b o := by
  by_cases e : b = a
  · subst e
    obtain ⟨u, od, d', ⟨h1, h2⟩ | ⟨h1, h2⟩⟩ := s.at_
    · rcases h with h | ⟨ob, h⟩
      · rw [h1] at h; cases h; exact .inr ⟨od, h2⟩
      · rw [h1] at h; cases h; cases d'
    · rcases h with h | ⟨ob, h⟩
      · rw [h1] at h; cases h; cases d
      · rw [h1] at h; cases h; exact .inl h2
  · rcases h with h | ⟨ob, h⟩
    · exact .inl (by rw [s.oth b e]; exact h)
    · exact .inr ⟨ob, by rw [s.oth b e]; exact h⟩
mutual
theorem RD.sw (s : SW a H H2) : ∀ {d : D} {v : V}, RD K F H d v → RD K F H2 d v
  | .non, _, r => r
  | .bl _, _, r => r
  | .int _, _, r => r
  | .str _, _, r => r
  | .tup _, _, ⟨b, xs, e, n, q, r⟩ => ⟨b, xs, e, n, s.plain q (fun z => z) (fun _ _ z => nomatch z), RDs.sw s r⟩
  | .lst _, _, ⟨b, xs, e, n, q, r⟩ => ⟨b, xs, e, n, s.plain q (fun z => z) (fun _ _ z => nomatch z), RDs.sw s r⟩
  | .scr _, _, ⟨b, e, .inl ⟨n, .inl q⟩⟩ => ⟨b, e, .inl ⟨n, .inl (s.plain q (fun z => z) (fun _ _ z => nomatch z))⟩⟩
  | .scr _, _, ⟨b, e, .inl ⟨n, .inr ⟨o, q⟩⟩⟩ => ⟨b, e, .inl ⟨n, .inr ⟨o, s.plain q (fun z => z) (fun od u z => by cases z; exact fun z => z)⟩⟩⟩
  | .scr _, _, ⟨b, e, .inr q⟩ => ⟨b, e, .inr q⟩
  | .dT _ _, _, ⟨b, xs, e, n, q, l, r⟩ => ⟨b, xs, e, n, s.dict True.intro q, l, RDs.sw s r⟩
  | .dK _ _, _, ⟨b, xs, e, n, q, l, r⟩ => ⟨b, xs, e, n, s.dict True.intro q, l, RDs.sw s r⟩
theorem RDs.sw (s : SW a H H2) : ∀ {d : List D} {v : List V}, RDs K F H d v → RDs K F H2 d v
  | [], _, r => r
  | _ :: _, _, ⟨x, r, e, p, q⟩ => ⟨x, r, e, RD.sw s p, RDs.sw s q⟩
end
theorem OB.sw (s : SW a H H2) : ∀ {d : D} {o : HO}, OB K F H d o → OB K F H2 d o
  | .lst _, _, ⟨xs, e, r⟩ => ⟨xs, e, r.sw s⟩
  | .dT _ _, _, ⟨xs, e, l, r⟩ => ⟨xs, e, l, r.sw s⟩
  | .dK _ _, _, ⟨xs, e, l, r⟩ => ⟨xs, e, l, r.sw s⟩
theorem Rel.sw {c : Cn} {env : Ev} {σ : L2.St} (s : SW a H H2) (R : Rel K c env σ H) (na : ¬ Fb c env σ a) : Rel K c env σ H2 := by
  have ot : ∀ b, Fb c env σ b → H2 b = H b := fun b h => s.oth b fun e => na (e ▸ h)
  refine ⟨R.len, fun i d e => ?_, fun i d e => ?_, fun i k d e => ?_, R.inj, R.parj, fun b z => ?_, R.nd⟩
  · obtain ⟨v, h1, h2⟩ := R.val i d e
    exact ⟨v, h1, h2.sw s⟩
  · obtain ⟨b, o, h1, h2, h3, h4⟩ := R.own i d e
    exact ⟨b, o, h1, by rw [ot b (.inr (.inr ⟨i, d, e, h1⟩))]; exact h2, h3.sw s, h4⟩
  · obtain ⟨b, o, h1, h2, h3, h4⟩ := R.par i k d e
    exact ⟨b, o, h1, h2, by rw [ot b (.inr (.inl (List.mem_of_getElem? h2)))]; exact h3, h4.sw s⟩
  · obtain ⟨o, h1, h2⟩ := R.dom b z
    exact ⟨o, by rw [ot b (z.elim .inl fun z => .inr (.inl z))]; exact h1, h2⟩
end
def keyV : Key → D
  | .inl i => .int i
  | .inr x => .str x
def keysD : D → Option (List D)
  | .dT ks _ => some (ks.map fun k => .tup (k.map keyV))
  | .dK ks _ => some (ks.map keyV)
  | _ => none
theorem rd_key {K : PySem.W.Frag} {F : Addr → Prop} {H : Hp} (k : Key) : RD K F H (keyV k) (kV k) := by
  cases k <;> exact rfl
theorem rds_keys {K : PySem.W.Frag} {F : Addr → Prop} {H : Hp} : ∀ k : List Key, RDs K F H (k.map keyV) (k.map kV)
  | [] => rfl
  | k :: ks => ⟨_, _, rfl, rd_key k, rds_keys ks⟩
/-- the keys of the dict in slot i -/
def iKy (i : Nat) : AM := fun env => match env[i]? with
  | some (.val d) => (keysD d).bind fun ds => some (ds, env)
  | _ => none
section
variable {X : Cx} {c : Cn} {tg it : Expr} {sts : List Stmt} {pos : Pos}
theorem zip_at {α β : Type} {ks : List α} {xs : List β} {i : Nat} {k : α} {v : β} (h : (ks.zip xs)[i]? = some (k, v)) : ks[i]? = some k := by
  rw [List.getElem?_zip_eq_some] at h
  exact h.1
/-- the walk over a locked dict -/
theorem keys_locked {i : Nat} {env : Ev} {σ : L2.St} {H : Hp} {R : It → Hp → Prop} {ds : List D} {env' : Ev} {a : Addr} {d : D} (hd : env[i]? = some (Sl.val d)) (ha : σ[i]? = some (some (V.ref a))) (rel : Rel X.K c env σ H) (rd : RD X.K (Fb c env σ) H d (.ref a)) (hl : ∃ od u, H a = some (.frz od u))
    (q : iKy i env = some (ds, env')) (k : ∀ J H', Rel X.K c env' σ H' → Evo c env σ H env' σ H' → WOK X.K c env' σ H' J ds → R J H') : iKeys (tVar i) σ H R := by
  unfold iKy at q
  rw [hd] at q
  obtain ⟨ks', h1, q⟩ := Option.bind_eq_some_iff.mp q
  cases q
  obtain ⟨od, u, hu⟩ := hl
  cases d <;> first | cases h1 | skip
  · rename_i ks vs
    obtain ⟨b, xs, e, n, r, l, rs⟩ := id rd
    cases e
    have r' : H a = some (.frz od (.dT (List.zip ks xs))) := by
      rcases r with r | ⟨o, r⟩
      · rw [hu] at r; cases r
      · rw [hu] at r; cases r; exact hu
    refine ⟨_, ha, a, od, rfl, .inr ⟨_, r', k _ H rel Evo.refl ?_⟩⟩
    intro c2 env2 σ2 H2 R2 v2 j
    have hs := (v2.1 a _ r' (fun z => n (.inl (c.bf a z))) (fun z => n (.inr (.inl z))) fun z => n (.inr (.inr z))).1
    have hlen : (List.zip ks xs).length = ks.length := by
      rw [List.length_zip, rs.length, l, Nat.min_self]
    refine ⟨fun d hd => ⟨⟨hs, ?_⟩, fun x H3 ⟨e3, kk, v, qq, e4, e5, e6⟩ => ?_⟩, fun hn => ⟨hs, ?_⟩⟩
    · have := lt_of_get hd
      rw [List.length_map] at this
      rw [hlen]; omega
    · subst e3 e5
      refine ⟨fun b o z => z, ?_⟩
      rw [List.getElem?_map, zip_at e4] at hd
      cases hd
      refine ⟨qq, _, rfl, fun z => ?_, e6, rds_keys kk⟩
      obtain ⟨o, z1, z2⟩ := R2.there' z
      rw [e6] at z1
      cases z1
      exact z2
    · have := List.getElem?_eq_none_iff.mp hn
      rw [List.length_map] at this
      rw [hlen]; omega
  · rename_i ks vs
    obtain ⟨b, xs, e, n, r, l, rs⟩ := id rd
    cases e
    have r' : H a = some (.frz od (.dK (List.zip ks xs))) := by
      rcases r with r | ⟨o, r⟩
      · rw [hu] at r; cases r
      · rw [hu] at r; cases r; exact hu
    refine ⟨_, ha, a, od, rfl, .inl ⟨_, r', k _ H rel Evo.refl ?_⟩⟩
    intro c2 env2 σ2 H2 R2 v2 j
    have hs := (v2.1 a _ r' (fun z => n (.inl (c.bf a z))) (fun z => n (.inr (.inl z))) fun z => n (.inr (.inr z))).1
    have hlen : (List.zip ks xs).length = ks.length := by
      rw [List.length_zip, rs.length, l, Nat.min_self]
    refine ⟨fun d hd => ⟨⟨hs, ?_⟩, fun x H3 ⟨e3, kk, v, e4, e5⟩ => ?_⟩, fun hn => ⟨hs, ?_⟩⟩
    · have := lt_of_get hd
      rw [List.length_map] at this
      rw [hlen]; omega
    · subst e3 e5
      refine ⟨fun b o z => z, ?_⟩
      rw [List.getElem?_map, zip_at e4] at hd
      cases hd
      exact rd_key kk
    · have := List.getElem?_eq_none_iff.mp hn
      rw [List.length_map] at this
      rw [hlen]; omega
theorem ps_or2 {st : Stmt} {t u : TS} (h : PS X st t) (k : PS X st u) : PS X st (fun D σ H => t D σ H ∨ u D σ H) := ⟨fun pins s σ H D I q => q.elim (h.run pins s σ H D I) (k.run pins s σ H D I)⟩
theorem upd_comm2 {H : Hp} {p a : Addr} {o u : HO} (n : p ≠ a) : upd (upd H p o) a u = upd (upd H a u) p o := by
  funext b
  by_cases e1 : b = a
  · subst e1; rw [upd_same, upd_ne (Ne.symm n), upd_same]
  · by_cases e2 : b = p
    · subst e2; rw [upd_ne e1, upd_same, upd_same]
    · rw [upd_ne e1, upd_ne e2, upd_ne e2, upd_ne e1]
/-- what qs_for asks of the parts, as readings -/
theorem tfor_of {w : AM} {g : GM} {m : SM} {ws : List Nat} {dead : List Nat} {D : Ends} {σ : L2.St} {H : Hp} (h : TMs X.K c (sFor dead w g m) D σ H) : tFor (TMi X.K c w) (TMg X.K c ws g) (TMs X.K c m) D σ H := by
  obtain ⟨env, r, R, q, k⟩ := h
  unfold sFor at q
  obtain ⟨⟨ds, e1⟩, h1, q⟩ := Option.bind_eq_some_iff.mp q
  refine ⟨env, ds, e1, R, h1, fun J H1 R1 v1 wok => ?_⟩
  refine ⟨fun i mm σ2 H2 => mm = ds.length - i ∧ i ≤ ds.length ∧ ∃ e2, Rel X.K c e2 σ2 H2 ∧ Evo c e1 σ H1 e2 σ2 H2 ∧ forL dead g m (ds.drop i) e2 = some r, ⟨_, rfl, Nat.zero_le _, clr dead e1, (R1.clr dead).1, (R1.clr dead).2, q⟩, ?_⟩
  rintro i mm σ2 H2 ⟨rfl, hle, e2, R2, v2, hf⟩
  have wk := wok c e2 σ2 H2 R2 v2.kp i
  cases hd : ds[i]? with
  | none =>
    left
    refine ⟨wk.2 hd, ?_⟩
    rw [List.drop_eq_nil_of_le (List.getElem?_eq_none_iff.mp hd)] at hf
    cases hf
    exact k σ2 H2 R2 (v1.trans v2)
  | some d =>
    right
    obtain ⟨go, yl⟩ := wk.1 d hd
    have hlt := lt_of_get hd
    have hdr : ds.drop i = d :: ds.drop (i + 1) := by
      rw [List.drop_eq_getElem_cons hlt]
      congr 1
      exact Option.some.inj ((List.getElem?_eq_getElem hlt).symm.trans hd)
    rw [hdr] at hf
    unfold forL at hf
    obtain ⟨e3, h3, hf⟩ := Option.bind_eq_some_iff.mp hf
    obtain ⟨rb, h4, hf⟩ := Option.bind_eq_some_iff.mp hf
    refine ⟨go, fun σ' H' => ∃ e, Rel X.K c e σ' H' ∧ Evo c e1 σ H1 e σ' H' ∧ forL dead g m (ds.drop (i + 1)) e = some r, fun σ' H' ⟨e, p1, p2, p3⟩ => ⟨_, by omega, rfl, by omega, e, p1, p2, p3⟩, fun x H3 y => ?_⟩
    obtain ⟨gr, rx⟩ := yl x H3 y
    have R3 := R2.heap gr
    refine ⟨e2, d, e3, R3, rx, h3, fun σ4 H4 R4 v4 _ => ⟨e3, rb, R4, h4, ?_⟩⟩
    have v04 := (v2.trans (Evo.grow gr)).trans v4
    cases rb with
    | nx e => exact fun σ5 H5 R5 v5 => ⟨clr dead e, (R5.clr dead).1, (v04.trans v5).trans (R5.clr dead).2, hf⟩
    | ct e => exact fun σ5 H5 R5 v5 => ⟨clr dead e, (R5.clr dead).1, (v04.trans v5).trans (R5.clr dead).2, hf⟩
    | bk e =>
      cases hf
      exact fun σ5 H5 R5 v5 => k σ5 H5 (R5.clr dead).1 (v1.trans ((v04.trans v5).trans (R5.clr dead).2))
    | rt d e =>
      cases hf
      exact fun v σ5 H5 R5 v5 r5 => k v σ5 H5 R5 (v1.trans (v04.trans v5)) r5
    | ro d e =>
      cases hf
      exact fun a o σ5 H5 R5 v5 n5 r5 => k a o σ5 H5 R5 (v1.trans (v04.trans v5)) n5 r5
/-- for k in d, d the dict in slot i -/
theorem qs_forK {i : Nat} {g : GM} {m : SM} {ws : List Nat} (dead : List Nat) (hp : PassesOwn (model X.prog X.w) X.A X.env X.xe) (hc : X.calm = true) (hv : PE X it (tVar i)) (hg : PDg X c ws tg g) (hb : PDss X c sts m)
    (hs : ∀ x, foldedSetIterable it X.env x = pure x := by intro _; rfl) : PDs X c (.For tg it sts [] pos) (sFor dead (iKy i) g m) := by
  have P := ps_for (pos := pos) hp hc (pi_keys (tg := tg) hv) hg hb hs
  refine ps_wk (ps_or2 (ps_lock P) P) fun D σ H ⟨env, r, R, q, k⟩ => ?_
  -- the dict
  have q0 := q
  unfold sFor at q0
  obtain ⟨⟨ds, e1⟩, h1, _⟩ := Option.bind_eq_some_iff.mp q0
  have h1' := h1
  unfold iKy at h1'
  split at h1'
  case h_2 => cases h1'
  case h_1 d hd =>
    obtain ⟨v, ha, rd⟩ := R.val i d hd
    -- its object
    have ob : ∃ a u, v = .ref a ∧ ¬ Fb c env σ a ∧ isDc u ∧ Mut (some u) ∧ Rd H a u := by
      obtain ⟨ks', z1, _⟩ := Option.bind_eq_some_iff.mp h1'
      cases d with
      | dT ks vs =>
        obtain ⟨b, xs, e, n, r, _⟩ := rd
        exact ⟨b, .dT (ks.zip xs), e, n, True.intro, True.intro, r⟩
      | dK ks vs =>
        obtain ⟨b, xs, e, n, r, _⟩ := rd
        exact ⟨b, .dK (ks.zip xs), e, n, True.intro, True.intro, r⟩
      | _ => cases z1
    obtain ⟨a, u, rfl, na, du, mu, hu⟩ := ob
    -- the walk at a heap where it is locked
    have run : ∀ (D' : Ends) (H' : Hp), Rel X.K c env σ H' → RD X.K (Fb c env σ) H' d (.ref a) → (∃ od u, H' a = some (.frz od u)) → RsOk X.K c D' env σ H' r → tFor (iKeys (tVar i)) (TMg X.K c ws g) (TMs X.K c m) D' σ H' := fun D' H' R' rd' hl k' => by
      have t := tfor_of (ws := ws) (⟨env, r, R', q, k'⟩ : TMs X.K c (sFor dead (iKy i) g m) D' σ H')
      unfold tFor at t ⊢
      obtain ⟨env2, ds2, e2, R2, h2, k2⟩ := t
      have hd2 : ∃ d2, env2[i]? = some (Sl.val d2) := by
        unfold iKy at h2
        split at h2
        case h_1 d2 hd2 => exact ⟨d2, hd2⟩
        case h_2 => cases h2
      obtain ⟨d2, hd2⟩ := hd2
      obtain ⟨v2, ha2, rd2⟩ := R2.val i d2 hd2
      rw [ha] at ha2
      cases ha2
      exact keys_locked hd2 ha R2 rd2 hl h2 k2
    rcases hu with hu | ⟨od, hu⟩
    · left
      refine ⟨a, u, hu, mu, fun od => ?_⟩
      have s : SW a H (upd H a (.frz od u)) := ⟨fun b n => upd_ne n, u, od, du, .inl ⟨hu, upd_same⟩⟩
      refine run _ _ (R.sw s na) (rd.sw s) ⟨od, u, upd_same⟩ ?_
      -- back to the free dict
      have back : ∀ {e : Ev} {σ' : L2.St} {H' : Hp}, Rel X.K c e σ' H' → Evo c env σ (upd H a (.frz od u)) e σ' H' → H' a = some (.frz od u) ∧ ∃ _ : SW a H' (upd H' a u), Rel X.K c e σ' (upd H' a u) ∧ Evo c env σ H e σ' (upd H' a u) := fun {e σ' H'} R' v' => by
        obtain ⟨z1, z2⟩ := v' a _ upd_same (fun z => na (.inr (.inl z))) fun z => na (.inr (.inr z))
        have s' : SW a H' (upd H' a u) := ⟨fun b n => upd_ne n, u, od, du, .inr ⟨z1, upd_same⟩⟩
        refine ⟨z1, s', R'.sw s' fun z => z.elim (fun z => na (.inl z)) fun z => z.elim (fun z => na (.inr (.inl z))) z2, fun b o h t n => ?_⟩
        by_cases eb : b = a
        · subst eb
          rw [hu] at h
          cases h
          exact ⟨upd_same, z2⟩
        · obtain ⟨y1, y2⟩ := v' b o (by rw [upd_ne eb]; exact h) t n
          exact ⟨by rw [upd_ne eb]; exact y1, y2⟩
      cases r with
      | nx e => exact fun σ' H' R' v' => let ⟨z1, _, z3, z4⟩ := back R' v'; ⟨z1, k σ' _ z3 z4⟩
      | bk e => exact fun σ' H' R' v' => let ⟨z1, _, z3, z4⟩ := back R' v'; ⟨z1, k σ' _ z3 z4⟩
      | ct e => exact fun σ' H' R' v' => let ⟨z1, _, z3, z4⟩ := back R' v'; ⟨z1, k σ' _ z3 z4⟩
      | rt d e => exact fun v σ' H' R' v' r' => let ⟨z1, z2, z3, z4⟩ := back R' v'; ⟨z1, k v σ' _ z3 z4 (r'.sw z2)⟩
      | ro d e =>
        intro p o σ' H' R' v' n' r'
        obtain ⟨z1, z2, z3, z4⟩ := back R' v'
        have np : p ≠ a := fun e => by rw [e, z1] at n'; cases n'
        refine ⟨by rw [upd_ne (Ne.symm np)]; exact z1, ?_⟩
        have e5 : upd (upd H' p o) a u = upd (upd H' a u) p o := upd_comm2 np
        rw [e5]
        exact k p o σ' _ z3 z4 (by rw [upd_ne np]; exact n') (r'.sw z2)
    · right
      exact run D H R rd ⟨od, u, hu⟩ k
end
end NR

set_option Elab.async false
set_option linter.all false
set_option maxRecDepth 100000
set_option maxHeartbeats 4000000
set_option autoImplicit false
/-! The engine, part p: mirrors told in plain terms. -/
namespace NR
open PySem PySem.Spec PyProof.Rows L2
/-- a comprehension whose turns leave nothing behind -/
theorem lcL_map {vs : List Nat} {g : GM} {t : BM} {m : EM} {env : Ev} (p : D → Bool) (f : D → D) : ∀ {ds : List D}, (∀ d ∈ ds, ∃ e1 e2, g d env = some e1 ∧ t e1 = some (p d, e2) ∧ (p d = false → wipeE e2 vs = env) ∧ (p d = true → ∃ e3, m e2 = some (f d, e3) ∧ wipeE e3 vs = env)) →
    lcL vs g t m ds env = some ((ds.filter p).map f, env)
  | [], _ => rfl
  | d :: ds, h => by
    obtain ⟨e1, e2, h1, h2, h3, h4⟩ := h d List.mem_cons_self
    have ih := lcL_map p f (ds := ds) fun x hx => h x (List.mem_cons_of_mem _ hx)
    unfold lcL
    rw [h1]
    show (t e1).bind _ = _
    rw [h2]
    show (if p d = true then _ else _) = _
    cases hp : p d with
    | false =>
      rw [if_neg Bool.false_ne_true, h3 hp, ih, List.filter_cons_of_neg (by rw [hp]; exact Bool.false_ne_true)]
    | true =>
      obtain ⟨e3, h5, h6⟩ := h4 hp
      rw [if_pos rfl, h5]
      show ((lcL vs g t m ds (wipeE e3 vs)).bind _) = _
      rw [h6, ih, List.filter_cons_of_pos hp]
      rfl
/-- .. without a test -/
theorem lcL_all {vs : List Nat} {g : GM} {m : EM} {env : Ev} (f : D → D) {ds : List D} (h : ∀ d ∈ ds, ∃ e1, g d env = some e1 ∧ ∃ e3, m e1 = some (f d, e3) ∧ wipeE e3 vs = env) :
    lcL vs g bYes m ds env = some (ds.map f, env) := by
  have := lcL_map (vs := vs) (g := g) (t := bYes) (m := m) (env := env) (fun _ => true) f (ds := ds) fun d hd => by
    obtain ⟨e1, h1, e3, h2, h3⟩ := h d hd
    exact ⟨e1, e1, h1, rfl, (fun z => Bool.noConfusion z), (fun _ => ⟨e3, h2, h3⟩)⟩
  rw [this, List.filter_eq_self.mpr fun _ _ => rfl]
/-- a comprehension that passes a state on: enc tells the state's names -/
theorem lcL_state {vs : List Nat} {g : GM} {m : EM} {S : Type} (enc : S → Ev) (P : S → Prop) : ∀ {ds : List D} {s : S}, P s → (∀ s, P s → ∀ d ∈ ds, ∃ e1, g d (enc s) = some e1 ∧ ∃ z e3 s', m e1 = some (z, e3) ∧ wipeE e3 vs = enc s' ∧ P s') → ∃ zs s', lcL vs g bYes m ds (enc s) = some (zs, enc s') ∧ P s' ∧ zs.length = ds.length
  | [], s, hs, _ => ⟨[], s, rfl, hs, rfl⟩
  | d :: ds, s, hs, h => by
    obtain ⟨e1, h1, z, e3, s', h2, h3, h4⟩ := h s hs d List.mem_cons_self
    obtain ⟨zs, s2, h5, h6, h7⟩ := lcL_state enc P (ds := ds) h4 fun s hs x hx => h s hs x (List.mem_cons_of_mem _ hx)
    refine ⟨z :: zs, s2, ?_, h6, by rw [List.length_cons, List.length_cons, h7]⟩
    unfold lcL
    rw [h1]
    show ((m e1).bind _) = _
    rw [h2]
    show ((lcL vs g bYes m ds (wipeE e3 vs)).bind _) = _
    rw [h3, h5]
    rfl
/-- a for loop as a fold -/
theorem forL_fold {dead : List Nat} {g : GM} {body : SM} {S : Type} (enc : S → Ev) (step : S → D → S) (P : S → Prop) : ∀ {ds : List D} {s : S}, P s → (∀ s, P s → ∀ d ∈ ds, P (step s d) ∧ ∃ e1, g d (enc s) = some e1 ∧ ∃ e, (body e1 = some (.nx e) ∨ body e1 = some (.ct e)) ∧ clr dead e = enc (step s d)) →
    forL dead g body ds (enc s) = some (.nx (enc (ds.foldl step s))) ∧ P (ds.foldl step s)
  | [], s, hs, _ => ⟨rfl, hs⟩
  | d :: ds, s, hs, h => by
    obtain ⟨h0, e1, h1, e, h2, h3⟩ := h s hs d List.mem_cons_self
    have ih := forL_fold enc step P (ds := ds) h0 fun s hs x hx => h s hs x (List.mem_cons_of_mem _ hx)
    refine ⟨?_, ih.2⟩
    unfold forL
    rw [h1]
    show ((body e1).bind _) = _
    rcases h2 with h2 | h2 <;> (rw [h2]; show forL dead g body ds (clr dead e) = _; rw [h3, ih.1]; rfl)
/-- .. whose state is only known to exist -/
theorem forL_state {dead : List Nat} {g : GM} {body : SM} {S : Type} (enc : S → Ev) (P : List D → S → Prop) : ∀ {ds done : List D} {s : S}, P done s → (∀ (pre : List D) (d : D) (suf : List D) (s : S), done ++ ds = pre ++ d :: suf → P pre s → ∃ e1, g d (enc s) = some e1 ∧ ∃ e, (body e1 = some (.nx e) ∨ body e1 = some (.ct e)) ∧ ∃ s', clr dead e = enc s' ∧ P (pre ++ [d]) s') →
    ∃ s', forL dead g body ds (enc s) = some (.nx (enc s')) ∧ P (done ++ ds) s'
  | [], done, s, hs, _ => ⟨s, rfl, by simpa using hs⟩
  | d :: ds, done, s, hs, h => by
    obtain ⟨e1, h1, e, h2, s1, h3, h4⟩ := h done d ds s rfl hs
    obtain ⟨s2, h5, h6⟩ := forL_state enc P (ds := ds) (done := done ++ [d]) h4 fun pre x suf s e => h pre x suf s (by rw [← e]; simp)
    refine ⟨s2, ?_, by simpa using h6⟩
    unfold forL
    rw [h1]
    show ((body e1).bind _) = _
    rcases h2 with h2 | h2 <;> (rw [h2]; show forL dead g body ds (clr dead e) = _; rw [h3, h5])
/-! plain rows -/
theorem sz1 {n : Nat} (h : n ≤ 1000000) : n ≤ sizeLine := by rw [sizeLine_eq]; omega
theorem mapM_toB (bs : List Bool) : (bs.map D.bl).mapM toB = some bs := by
  induction bs with
  | nil => rfl
  | cons b bs ih => rw [List.map_cons, List.mapM_cons, ih]; rfl
theorem mapM_toI (ns : List Int) : (ns.map D.int).mapM toI = some ns := toIs_map ns
theorem allL_bls (bs : List Bool) : allL (.lst (bs.map .bl)) = some (.bl (bs.all id)) := by
  unfold allL allD boolsD
  show (if true = true then _ else _) = _
  rw [if_pos rfl]
  show (((bs.map D.bl).mapM toB).bind _) = _
  rw [mapM_toB]
  rfl
theorem anyL_bls (bs : List Bool) : anyL (.lst (bs.map .bl)) = some (.bl (bs.any id)) := by
  unfold anyL anyD boolsD
  show (if true = true then _ else _) = _
  rw [if_pos rfl]
  show (((bs.map D.bl).mapM toB).bind _) = _
  rw [mapM_toB]
  rfl
theorem eLc_of {vs : List Nat} {w : AM} {g : GM} {t : BM} {m : EM} {env env1 e2 env' : Ev} {ds zs : List D} (h1 : w env = some (ds, env1)) (h2 : lcL vs g t m ds (wipeE env1 vs) = some (zs, e2)) (hz : zs.length ≤ sizeLine) (ok : okW vs env1 = true := by rfl) (hu : unw env1 e2 vs = env' := by rfl) :
    eLc vs w g t m env = some (.lst zs, env') := by
  unfold eLc
  rw [h1]
  show (if okW vs env1 = true then _ else _) = _
  rw [if_pos ok, h2]
  show (if zs.length ≤ sizeLine then _ else _) = _
  rw [if_pos hz, hu]
theorem eLcP_of {vs : List Nat} {j : Nat} {g : GM} {t : BM} {m : EM} {env e2 env' : Ev} {ds zs : List D} (h1 : env[j]? = some (.own (.lst ds))) (h2 : lcL vs g t m ds (wipeE (env.set j .emp) vs) = some (zs, e2)) (hz : zs.length ≤ sizeLine) (ok : okW vs env = true := by rfl) (hu : (unw (env.set j .emp) e2 vs).set j (.own (.lst ds)) = env' := by rfl) :
    eLcP vs j g t m env = some (.lst zs, env') := by
  unfold eLcP
  rw [h1]
  show (if okW vs env = true then _ else _) = _
  rw [if_pos ok, h2]
  show (if zs.length ≤ sizeLine then _ else _) = _
  rw [if_pos hz, hu]
theorem eUn_of {g : D → Option D} {m : EM} {env e : Ev} {d z : D} (h : m env = some (d, e)) (hg : g d = some z) : eUn g m env = some (z, e) := by
  unfold eUn
  rw [h]
  show (g d).bind _ = _
  rw [hg]
  rfl
theorem eBin_of {g : D → D → Option D} {ma mb : EM} {env e1 e2 : Ev} {d e z : D} (h1 : ma env = some (d, e1)) (h2 : mb e1 = some (e, e2)) (hg : g d e = some z) : eBin g ma mb env = some (z, e2) := by
  unfold eBin
  rw [h1]
  show (mb e1).bind _ = _
  rw [h2]
  show (g d e).bind _ = _
  rw [hg]
  rfl
theorem eBinV_of {g : D → D → Option D} {i : Nat} {mb : EM} {env e2 : Ev} {d0 d e z : D} (h0 : lkE env i = some d0) (h2 : mb env = some (e, e2)) (h3 : lkE e2 i = some d) (hg : g d e = some z) : eBinV g i mb env = some (z, e2) := by
  unfold eBinV
  rw [h0]
  show (mb env).bind _ = _
  rw [h2]
  show (lkE e2 i).bind _ = _
  rw [h3]
  show (g d e).bind _ = _
  rw [hg]
  rfl
theorem eCall_of {n : Nat} {f : List D → Option D} {a : AM} {env e : Ev} {ds : List D} {z : D} (h : a env = some (ds, e)) (hf : f ds = some z) (hl : ds.length = n := by rfl) : eCall n f a env = some (z, e) := by
  unfold eCall
  rw [h]
  show (if ds.length = n then _ else _) = _
  rw [if_pos hl, hf]
  rfl
theorem eCallJ_of {n i : Nat} {f : D → List D → Option (D × D)} {a : AM} {env e env' : Ev} {ds : List D} {d0 z d1 : D} (h : a env = some (ds, e)) (hc : cont e i = some d0) (hf : f d0 ds = some (z, d1)) (hp : putC e i d1 = env' := by rfl) (hl : ds.length = n := by rfl) : eCallJ n i f a env = some (z, env') := by
  unfold eCallJ
  rw [h]
  show (if ds.length = n then _ else _) = _
  rw [if_pos hl]
  show (cont e i).bind _ = _
  rw [hc]
  show (f d0 ds).bind _ = _
  rw [hf]
  show some (z, putC e i d1) = _
  rw [hp]
theorem sSeq_of {m n : SM} {env e : Ev} {r : Option Rs} (h : m env = some (.nx e)) (hn : n e = r) : sSeq m n env = r := by
  unfold sSeq
  rw [h]
  exact hn
theorem sSet_of {i : Nat} {m : EM} {env e env' : Ev} {d : D} (h : m env = some (d, e)) (he : e.set i (.val d) = env' := by rfl) (hi : decide (i < e.length) = true := by rfl) : sSet i m env = some (.nx env') := by
  unfold sSet
  rw [h]
  show (if i < e.length then _ else _) = _
  rw [if_pos (of_decide_eq_true hi), he]
theorem sOwn_of {i : Nat} {m : EM} {env e env' : Ev} {d : D} (h : m env = some (d, e)) (he : e.set i (.own d) = env' := by rfl) (hi : decide (i < e.length) = true := by rfl) : sOwn i m env = some (.nx env') := by
  unfold sOwn
  rw [h]
  show (if i < e.length then _ else _) = _
  rw [if_pos (of_decide_eq_true hi), he]
theorem sIf_of {mt : BM} {m n : SM} {env e : Ev} {b : Bool} {r : Option Rs} (h : mt env = some (b, e)) (hr : (if b = true then m e else n e) = r) : sIf mt m n env = r := by
  unfold sIf
  rw [h]
  exact hr
theorem sRet_of {m : EM} {env e : Ev} {d : D} (h : m env = some (d, e)) : sRet m env = some (.rt d e) := by
  unfold sRet
  rw [h]
  rfl
theorem sFor_of {dead : List Nat} {w : AM} {g : GM} {body : SM} {env e : Ev} {ds : List D} {r : Option Rs} (h : w env = some (ds, e)) (hl : forL dead g body ds (clr dead e) = r) : sFor dead w g body env = r := by
  unfold sFor
  rw [h]
  exact hl
theorem runF_of {n : Nat} {m : SM} {ds : List D} {d : D} {e : Ev} (h : m (envOf n ds) = some (.rt d e)) : runF n m ds = some d := by
  unfold runF
  rw [h]
theorem aCons_of {m : EM} {r : AM} {env e1 e2 : Ev} {d : D} {ds : List D} (h : m env = some (d, e1)) (hr : r e1 = some (ds, e2)) : aCons m r env = some (d :: ds, e2) := by
  unfold aCons
  rw [h]
  show (r e1).bind _ = _
  rw [hr]
  rfl
theorem bTru_of {m : EM} {env e : Ev} {d : D} {b : Bool} (h : m env = some (d, e)) (hb : truD d = some b) : bTru m env = some (b, e) := by
  unfold bTru
  rw [h]
  show (truD d).bind _ = _
  rw [hb]
  rfl
theorem bNot_of {m : BM} {env e : Ev} {b : Bool} (h : m env = some (b, e)) : bNot m env = some (!b, e) := by
  unfold bNot
  rw [h]
  rfl
theorem bOf_of {m : EM} {env e : Ev} {b : Bool} (h : m env = some (.bl b, e)) : bOf m env = some (b, e) := by
  unfold bOf
  rw [h]
theorem iSeq_of {m : EM} {env e : Ev} {d : D} {ds : List D} (h : m env = some (d, e)) (hd : sqD d = some ds) : iSeq m env = some (ds, e) := by
  unfold iSeq
  rw [h]
  show (sqD d).bind _ = _
  rw [hd]
  rfl
theorem zlen {a b : List Int} {α : Type} {f : Int → Int → α} (h : a.length ≤ 1000) : (List.zipWith f a b).length ≤ sizeLine := by
  rw [List.length_zipWith, sizeLine_eq]
  omega
theorem mem_zipW {α β γ : Type} {f : α → β → γ} : ∀ {as : List α} {bs : List β} {c : γ}, c ∈ List.zipWith f as bs → ∃ a b, a ∈ as ∧ b ∈ bs ∧ c = f a b
  | [], _, _, h => by simp at h
  | _ :: _, [], _, h => by simp at h
  | a :: as, b :: bs, c, h => by
    rw [List.zipWith_cons_cons] at h
    rcases List.mem_cons.mp h with e | h
    · exact ⟨a, b, List.mem_cons_self, List.mem_cons_self, e⟩
    · obtain ⟨x, y, h1, h2, h3⟩ := mem_zipW h
      exact ⟨x, y, List.mem_cons_of_mem _ h1, List.mem_cons_of_mem _ h2, h3⟩
theorem iRange1_of {m : AM} {env e : Ev} {j : Int} (h : m env = some ([.int j], e)) (hj : RngOk j) : iRange1 m env = some (rangeL 0 j.toNat, e) := by
  unfold iRange1
  rw [h]
  show (if RngOk j then _ else _) = _
  rw [if_pos hj]
theorem iRange2_of {m : AM} {env e : Ev} {i j : Int} (h : m env = some ([.int i, .int j], e)) (hi : RngOk i) (hj : RngOk j) : iRange2 m env = some (rangeL i (j - i).toNat, e) := by
  unfold iRange2
  rw [h]
  show (if RngOk i ∧ RngOk j then _ else _) = _
  rw [if_pos ⟨hi, hj⟩]
theorem rng_nat {n : Nat} (h : n ≤ 1000000000) : RngOk (n : Int) := by
  unfold RngOk
  have : (2 : Int) ^ 62 = 4611686018427387904 := by decide
  omega
theorem rangeL_len (lo : Int) (n : Nat) : (rangeL lo n).length = n := by unfold rangeL; rw [List.length_map, List.length_range]
theorem forL_one {dead : List Nat} {g : GM} {body : SM} {d : D} {ds : List D} {env e1 e env' : Ev} {r : Option Rs} (h1 : g d env = some e1) (h2 : body e1 = some (.nx e) ∨ body e1 = some (.ct e)) (h3 : forL dead g body ds env' = r) (hc : clr dead e = env' := by rfl) : forL dead g body (d :: ds) env = r := by
  unfold forL
  rw [h1]
  show ((body e1).bind _) = _
  rcases h2 with h2 | h2 <;> (rw [h2]; show forL dead g body ds (clr dead e) = _; rw [hc]; exact h3)
theorem forL_ret {dead : List Nat} {g : GM} {body : SM} {d z : D} {ds : List D} {env e1 e : Ev} (h1 : g d env = some e1) (h2 : body e1 = some (.rt z e)) : forL dead g body (d :: ds) env = some (.rt z e) := by
  unfold forL
  rw [h1]
  show ((body e1).bind _) = _
  rw [h2]
  rfl
theorem sSeq_rt {m n : SM} {env e : Ev} {d : D} (h : m env = some (.rt d e)) : sSeq m n env = some (.rt d e) := by
  unfold sSeq
  rw [h]
  rfl
theorem sAppend_of {i : Nat} {m : EM} {env e env' : Ev} {d : D} {ds : List D} (h0 : isLs (cont env i) = true) (h : m env = some (d, e)) (hc : cont e i = some (.lst ds)) (hl : ds.length < sizeLine) (hp : putC e i (.lst (ds ++ [d])) = env' := by rfl) : sAppend i m env = some (.nx env') := by
  unfold sAppend
  rw [if_pos h0, h]
  show (match cont e i with | some (.lst ds) => _ | _ => none) = _
  rw [hc]
  show (if ds.length < sizeLine then _ else _) = _
  rw [if_pos hl, hp]
theorem eLst_of {a : AM} {env e : Ev} {ds : List D} (h : a env = some (ds, e)) (hl : ds.length ≤ sizeLine := by first | exact Nat.le_of_ble_eq_true rfl | assumption) : eLst a env = some (.lst ds, e) := by
  unfold eLst
  rw [h]
  show (if ds.length ≤ sizeLine then _ else _) = _
  rw [if_pos hl]
theorem eTup_of {a : AM} {env e : Ev} {ds : List D} (h : a env = some (ds, e)) (hl : ds.length ≤ sizeLine := by first | exact Nat.le_of_ble_eq_true rfl | assumption) : eTup a env = some (.tup ds, e) := by
  unfold eTup
  rw [h]
  show (if ds.length ≤ sizeLine then _ else _) = _
  rw [if_pos hl]
theorem eIf_of {mt : BM} {ma mb : EM} {env e : Ev} {b : Bool} {r : Option (D × Ev)} (h : mt env = some (b, e)) (hr : (if b = true then ma e else mb e) = r) : eIf mt ma mb env = r := by
  unfold eIf
  rw [h]
  exact hr
theorem sAsg_of {m : EM} {g : GM} {env e e' : Ev} {d : D} (h : m env = some (d, e)) (hg : g d e = some e') : sAsg m g env = some (.nx e') := by
  unfold sAsg
  rw [h]
  show (g d e).bind _ = _
  rw [hg]
  rfl
theorem eSl_of {m : EM} {lo hi : OM} {env e1 e2 e3 : Ev} {d z : D} {l h : Option Int} (h1 : m env = some (d, e1)) (h2 : lo e1 = some (l, e2)) (h3 : hi e2 = some (h, e3)) (hz : slD d l h = some z) : eSl m lo hi env = some (z, e3) := by
  unfold eSl
  rw [h1]
  show (lo e1).bind _ = _
  rw [h2]
  show (hi e2).bind _ = _
  rw [h3]
  show (slD d l h).bind _ = _
  rw [hz]
  rfl
theorem lc2L_all {vs vs1 : List Nat} {g : GM} {w1 : AM} {g1 : GM} {m : EM} {env : Ev} (f : D → List D) : ∀ {ds : List D}, (∀ d ∈ ds, ∃ e1 ds1 e2 e3, g d env = some e1 ∧ w1 e1 = some (ds1, e2) ∧ lcL vs1 g1 bYes m ds1 (wipeE e2 vs1) = some (f d, e3) ∧ wipeE e3 vs = env) →
    lc2L vs vs1 g bYes w1 g1 bYes m ds env = some (ds.flatMap f, env)
  | [], _ => rfl
  | d :: ds, h => by
    obtain ⟨e1, ds1, e2, e3, h1, h2, h3, h4⟩ := h d List.mem_cons_self
    have ih := lc2L_all f (ds := ds) fun x hx => h x (List.mem_cons_of_mem _ hx)
    unfold lc2L
    rw [h1]
    show ((w1 e1).bind _) = _
    rw [h2]
    show ((lcL vs1 g1 bYes m ds1 (wipeE e2 vs1)).bind _) = _
    rw [h3]
    show ((lc2L vs vs1 g bYes w1 g1 bYes m ds (wipeE e3 vs)).bind _) = _
    rw [h4, ih]
    rfl
theorem eLc2_of {vs vs1 : List Nat} {w : AM} {g : GM} {t : BM} {w1 : AM} {g1 : GM} {t1 : BM} {m : EM} {env env1 e2 env' : Ev} {ds zs : List D} (h1 : w env = some (ds, env1)) (h2 : lc2L vs vs1 g t w1 g1 t1 m ds (wipeE env1 vs) = some (zs, e2)) (hz : zs.length ≤ sizeLine) (ok : okW vs env1 = true := by rfl) (hu : unw env1 e2 vs = env' := by rfl) :
    eLc2 vs vs1 w g t w1 g1 t1 m env = some (.lst zs, env') := by
  unfold eLc2
  rw [h1]
  show (if okW vs env1 = true then _ else _) = _
  rw [if_pos ok, h2]
  show (if zs.length ≤ sizeLine then _ else _) = _
  rw [if_pos hz, hu]
/-- .. over encoded things -/
theorem lcL_encF {α : Type} {vs : List Nat} {g : GM} {t : BM} {m : EM} {env : Ev} (enc f : α → D) (p : α → Bool) : ∀ {as : List α}, (∀ a ∈ as, ∃ e1 e2, g (enc a) env = some e1 ∧ t e1 = some (p a, e2) ∧ (p a = false → wipeE e2 vs = env) ∧ (p a = true → ∃ e3, m e2 = some (f a, e3) ∧ wipeE e3 vs = env)) →
    lcL vs g t m (as.map enc) env = some ((as.filter p).map f, env)
  | [], _ => rfl
  | d :: ds, h => by
    obtain ⟨e1, e2, h1, h2, h3, h4⟩ := h d List.mem_cons_self
    have ih := lcL_encF enc f p (as := ds) fun x hx => h x (List.mem_cons_of_mem _ hx)
    rw [List.map_cons]
    unfold lcL
    rw [h1]
    show (t e1).bind _ = _
    rw [h2]
    show (if p d = true then _ else _) = _
    cases hp : p d with
    | false =>
      rw [if_neg Bool.false_ne_true, h3 hp, ih, List.filter_cons_of_neg (by rw [hp]; exact Bool.false_ne_true)]
    | true =>
      obtain ⟨e3, h5, h6⟩ := h4 hp
      rw [if_pos rfl, h5]
      show ((lcL vs g t m (ds.map enc) (wipeE e3 vs)).bind _) = _
      rw [h6, ih, List.filter_cons_of_pos hp]
      rfl
theorem lcL_enc {α : Type} {vs : List Nat} {g : GM} {m : EM} {env : Ev} (enc f : α → D) {as : List α} (h : ∀ a ∈ as, ∃ e1, g (enc a) env = some e1 ∧ ∃ e3, m e1 = some (f a, e3) ∧ wipeE e3 vs = env) :
    lcL vs g bYes m (as.map enc) env = some (as.map f, env) := by
  have := lcL_encF (vs := vs) (g := g) (t := bYes) (m := m) (env := env) enc f (fun _ => true) (as := as) fun d hd => by
    obtain ⟨e1, h1, e3, h2, h3⟩ := h d hd
    exact ⟨e1, e1, h1, rfl, (fun z => Bool.noConfusion z), (fun _ => ⟨e3, h2, h3⟩)⟩
  rw [this, List.filter_eq_self.mpr fun _ _ => rfl]
theorem lc2L_enc {α : Type} {vs vs1 : List Nat} {g : GM} {w1 : AM} {g1 : GM} {m : EM} {env : Ev} (enc : α → D) (f : α → List D) : ∀ {as : List α}, (∀ a ∈ as, ∃ e1 ds1 e2 e3, g (enc a) env = some e1 ∧ w1 e1 = some (ds1, e2) ∧ lcL vs1 g1 bYes m ds1 (wipeE e2 vs1) = some (f a, e3) ∧ wipeE e3 vs = env) →
    lc2L vs vs1 g bYes w1 g1 bYes m (as.map enc) env = some (as.flatMap f, env)
  | [], _ => rfl
  | d :: ds, h => by
    obtain ⟨e1, ds1, e2, e3, h1, h2, h3, h4⟩ := h d List.mem_cons_self
    have ih := lc2L_enc enc f (as := ds) fun x hx => h x (List.mem_cons_of_mem _ hx)
    rw [List.map_cons]
    unfold lc2L
    rw [h1]
    show ((w1 e1).bind _) = _
    rw [h2]
    show ((lcL vs1 g1 bYes m ds1 (wipeE e2 vs1)).bind _) = _
    rw [h3]
    show ((lc2L vs vs1 g bYes w1 g1 bYes m (ds.map enc) (wipeE e3 vs)).bind _) = _
    rw [h4, ih]
    rfl
/-- x[i] for i within -/
theorem atI_nat {α : Type} {xs : List α} {i : Nat} {x : α} (h : xs[i]? = some x) : atI xs (i : Int) = some x := by
  have hl := lt_of_get h
  unfold atI ixN
  rw [if_pos (by omega), if_pos (by omega)]
  show xs[(i : Int).toNat]? = _
  rw [show (i : Int).toNat = i by omega]
  exact h
theorem ix_tup {ds : List D} {i : Nat} {d : D} (h : ds[i]? = some d) : ixD (.tup ds) (.int i) = some d := atI_nat h
theorem ix_lst {ds : List D} {i : Nat} {d : D} (h : ds[i]? = some d) : ixD (.lst ds) (.int i) = some d := atI_nat h
theorem add_tup {a b : List D} (h : a.length + b.length ≤ 1000000) : addD (.tup a) (.tup b) = some (.tup (a ++ b)) := if_pos (by rw [sizeLine_eq]; omega)
theorem add_lst {a b : List D} (h : a.length + b.length ≤ 1000000) : addD (.lst a) (.lst b) = some (.lst (a ++ b)) := if_pos (by rw [sizeLine_eq]; omega)
theorem runF_rt {n : Nat} {m : SM} {ds : List D} {d : D} {e : Ev} (h : m (envOf n ds) = some (.rt d e)) : runF n m ds = some d := runF_of h
theorem cut_tail {α : Type} (x : α) (xs : List α) : cutA (x :: xs) (some 1) none = xs := by
  unfold cutA HT.sIx
  have : min (1 : Int).toNat (x :: xs).length = 1 := by rw [List.length_cons]; show min 1 (xs.length + 1) = 1; omega
  simp only [this, show ¬ ((1 : Int) < 0) from by decide, if_false]
  rw [List.drop_succ_cons, List.drop_zero, List.length_cons, Nat.add_sub_cancel, List.take_length]
theorem runJ_of {n j : Nat} {m : SM} {d0 d d1 : D} {ds : List D} {e : Ev} (h : m ((envOf n ds).set j (.par 0 d0)) = some (.rt d e)) (hp : parC e j = some d1 := by rfl) : runJ n j m d0 ds = some (d, d1) := by
  unfold runJ
  rw [h]
  show (parC e j).map _ = _
  rw [hp]
  rfl
theorem sItem_of {i : Nat} {me mi : EM} {env e1 e2 env' : Ev} {d c0 : D} {k : Int} {ds : List D} {j : Nat} (h1 : me env = some (d, e1)) (h0 : cont e1 i = some c0) (h2 : mi e1 = some (.int k, e2)) (hc : cont e2 i = some (.lst ds)) (hj : ixN ds.length k = some j) (hp : putC e2 i (.lst (ds.set j d)) = env' := by rfl) : sItem i me mi env = some (.nx env') := by
  unfold sItem
  rw [h1]
  show (cont e1 i).bind _ = _
  rw [h0]
  show (mi e1).bind _ = _
  rw [h2]
  show (match (D.int k), cont e2 i with | .int k, some (.lst ds) => _ | _, _ => none) = _
  rw [hc]
  show (ixN ds.length k).bind _ = _
  rw [hj, ← hp]
  rfl
theorem mul_sm {x c : Int} (h : -(2 ^ 64) < c ∧ c < 2 ^ 64) : mulD (.int x) (.int c) = some (.int (x * c)) := if_pos (.inr (.inl h))
theorem mul_sm' {x c : Int} (h : -(2 ^ 64) < c ∧ c < 2 ^ 64) : mulD (.int c) (.int x) = some (.int (c * x)) := if_pos (.inl h)
theorem mod_nz {x c : Int} (h : c ≠ 0) : modD (.int x) (.int c) = some (.int (x.fmod c)) := if_pos h
theorem div_sm {x c : Int} (h : c ≠ 0) (h2 : c.natAbs < 1073741824) : fdivD (.int x) (.int c) = some (.int (x.fdiv c)) := if_pos (.inl ⟨h, h2⟩)
theorem fmod_rng {x c : Int} (h : 0 < c) : 0 ≤ x.fmod c ∧ x.fmod c < c := ⟨Int.fmod_nonneg_of_pos x h, Int.fmod_lt_of_pos x h⟩
theorem ix_int {ns : List Int} {i : Int} (h0 : 0 ≤ i) (h1 : i < ns.length) : ∃ x, ixD (.lst (ns.map .int)) (.int i) = some (.int x) := by
  obtain ⟨k, rfl⟩ := Int.eq_ofNat_of_zero_le h0
  exact ⟨ns[k], ix_lst (by rw [List.getElem?_map, List.getElem?_eq_getElem (by omega)]; rfl)⟩
/-- a comprehension that passes a state on, over encoded things; what is made lies in R -/
theorem lcL_stR {vs : List Nat} {g : GM} {m : EM} {S α β : Type} (enc : S → Ev) (P : S → Prop) (ea : α → D) (eb : β → D) (R : β → Prop) : ∀ {as : List α} {s : S}, P s → (∀ s, P s → ∀ a ∈ as, ∃ e1, g (ea a) (enc s) = some e1 ∧ ∃ z e3 s', m e1 = some (eb z, e3) ∧ wipeE e3 vs = enc s' ∧ P s' ∧ R z) →
    ∃ (zs : List β) (s' : S), lcL vs g bYes m (as.map ea) (enc s) = some (zs.map eb, enc s') ∧ P s' ∧ zs.length = as.length ∧ ∀ z ∈ zs, R z
  | [], s, hs, _ => ⟨[], s, rfl, hs, rfl, by simp⟩
  | d :: ds, s, hs, h => by
    obtain ⟨e1, h1, z, e3, s', h2, h3, h4, h5⟩ := h s hs d List.mem_cons_self
    obtain ⟨zs, s2, h6, h7, h8, h9⟩ := lcL_stR enc P ea eb R (as := ds) h4 fun s hs x hx => h s hs x (List.mem_cons_of_mem _ hx)
    refine ⟨z :: zs, s2, ?_, h7, by rw [List.length_cons, List.length_cons, h8], fun y hy => (List.mem_cons.mp hy).elim (fun e => by rw [e]; exact h5) (h9 y)⟩
    rw [List.map_cons]
    unfold lcL
    rw [h1]
    show ((m e1).bind _) = _
    rw [h2]
    show ((lcL vs g bYes m (ds.map ea) (wipeE e3 vs)).bind _) = _
    rw [h3, h6]
    rfl
/-- a for loop that passes a state on -/
theorem forL_stR {dead : List Nat} {g : GM} {body : SM} {S α : Type} (N : Nat) (enc : S → Ev) (P : Nat → S → Prop) (ea : α → D) : ∀ {as : List α} {k : Nat} {s : S}, k + as.length ≤ N → P k s → (∀ k s, k < N → P k s → ∀ a ∈ as, ∃ e1, g (ea a) (enc s) = some e1 ∧ ∃ e s', body e1 = some (.nx e) ∧ clr dead e = enc s' ∧ P (k + 1) s') →
    ∃ s', forL dead g body (as.map ea) (enc s) = some (.nx (enc s')) ∧ P (k + as.length) s'
  | [], k, s, _, hs, _ => ⟨s, rfl, hs⟩
  | d :: ds, k, s, hk, hs, h => by
    rw [List.length_cons] at hk
    obtain ⟨e1, h1, e, s', h2, h3, h4⟩ := h k s (by omega) hs d List.mem_cons_self
    obtain ⟨s2, h6, h7⟩ := forL_stR N enc P ea (as := ds) (by omega) h4 fun k s hk hs x hx => h k s hk hs x (List.mem_cons_of_mem _ hx)
    refine ⟨s2, ?_, by rw [List.length_cons, show k + (ds.length + 1) = k + 1 + ds.length by omega]; exact h7⟩
    rw [List.map_cons]
    exact forL_one h1 (.inl h2) h6 h3
theorem rangeL_map (n : Nat) : rangeL 0 n = (List.range n).map fun i => D.int (i : Nat) := by
  unfold rangeL
  refine List.map_congr_left fun i _ => ?_
  rw [Int.zero_add]
theorem bOr_of {ma mb : BM} {env e : Ev} {p : Bool} {r : Option (Bool × Ev)} (h : ma env = some (p, e)) (hr : (if p = true then some (true, e) else mb e) = r) : bOr ma mb env = r := by
  unfold bOr
  rw [h]
  exact hr
theorem bAnd_of {ma mb : BM} {env e : Ev} {p : Bool} {r : Option (Bool × Ev)} (h : ma env = some (p, e)) (hr : (if p = true then mb e else some (false, e)) = r) : bAnd ma mb env = r := by
  unfold bAnd
  rw [h]
  exact hr
/-- both told, nothing left behind -/
theorem bAnd_two {ma mb : BM} {env : Ev} {p q : Bool} (h : ma env = some (p, env)) (h2 : mb env = some (q, env)) : bAnd ma mb env = some (p && q, env) := by
  refine bAnd_of h ?_
  cases p with
  | true => exact (if_pos rfl).trans h2
  | false => exact if_neg Bool.false_ne_true
theorem aNil_of {env : Ev} : aNil env = some ([], env) := rfl
theorem hasA_true {κ : Type} [DecidableEq κ] {ks : List κ} {k : κ} : hasA ks k = true ↔ k ∈ ks := by
  unfold hasA
  exact decide_eq_true_iff
end NR

set_option Elab.async false
set_option linter.all false
set_option maxRecDepth 100000
set_option maxHeartbeats 4000000
set_option autoImplicit false
/-! printed by gen.py -/
namespace NR
open PySem PySem.Spec PyProof.Rows L2
def top (i : Nat) : Stmt := PySem.Challenge.pw_nonerunsdry_k54_whole_told_moves.main.body.getD i (.Pass ⟨0, 0, 0, 0⟩)
structure Bt (mg : Str → Option Value) : Prop where
  len : mg "len" = none
  range : mg "range" = none
  zip : mg "zip" = none
  tuple : mg "tuple" = none
  list : mg "list" = none
  all : mg "all" = none
  any : mg "any" = none
  sum : mg "sum" = none
  max : mg "max" = none
  min : mg "min" = none
  abs : mg "abs" = none
  int : mg "int" = none
  str : mg "str" = none
  sorted : mg "sorted" = none
  set : mg "set" = none
  isinstance : mg "isinstance" = none
  bool : mg "bool" = none
  dict : mg "dict" = none
  enumerate : mg "enumerate" = none
  reversed : mg "reversed" = none

/-! at_least -/
def N_q_at_least : List Str := ["one", "other", "left", "right"]
abbrev st_q_at_least : Stmt := top 1
theorem sc_q_at_least : FnScope N_q_at_least ["one", "other"] (defScope st_q_at_least) := ⟨rfl, rfl, rfl, by decide +kernel, rfl, by decide +kernel, by decide +kernel⟩
def m_q_at_least : SM :=
  sRet (eUn allL (eLc [2, 3] (iZp (aCons (eVar 0) (aCons (eVar 1) (aNil)))) (gTups 2 (gMore (gSet 2) (gMore (gSet 3) (gNone)))) (bYes) (eBin geD (eVar 2) (eLk 3))))
def r_q_at_least : List D → Option D := runF 4 m_q_at_least
theorem w_q_at_least {P : Program} {w : World} {K : PySem.W.Frag} {mg : Str → Option Value} {base : Heap} {cdv : Value} {fa : Addr} {A : Around} {outer : List Env} {s : Shared} {H : Hp} {E : XK} {c : Cn} (b : Bt mg) (hr : Room 0 (A.deeper (envOfC "at_least" (defScope st_q_at_least) s.heap.objs.size fa cdv))) :
    PDss (cxOf L2.CX0 P w K mg base N_q_at_least "at_least" (defScope st_q_at_least) fa cdv A outer s H E).nox c (defBody st_q_at_least) m_q_at_least :=
  have nd : N_q_at_least.Nodup := sc_q_at_least.nd
  have hu : (A.deeper (envOfC "at_least" (defScope st_q_at_least) s.heap.objs.size fa cdv)).units + 64 < cLine := by have := hr.un; omega
  qs_one (qs_ret (x_all rfl b.all (pk_f (pf_lc (own := [("left", 2), ("right", 3)]) rfl nd (x_zip b.zip (qa_cons (pd_var (pv 0)) (qa_cons (pd_var (pv 1)) (qa_nil)))) (blkOk_by (by kernel_rfl)) (fun _ _ _ _ _ _ => qg_tup rfl (qg_more (qg_name (vs := [2, 3]) (pg_name (i := 2) nd rfl (by first | exact Or.inl rfl | exact Or.inr rfl)) (by decide)) (qg_more (qg_name (vs := [2, 3]) (pg_name (i := 3) nd rfl (by first | exact Or.inl rfl | exact Or.inr rfl)) (by decide)) (qg_none)))) (fun _ _ _ _ _ _ => qt_nil) (fun _ _ _ _ _ _ => pd_cmp op_ge opd_ge (pd_var (pv 2)) (pk_var (pv 3)) (nomark _))))))
abbrev F_q_at_least (K : PySem.W.Frag) (f : Addr) (fd : FuncData) : Prop := FunD K "at_least" "at_least" (defArgs st_q_at_least) (defBody st_q_at_least) (defScope st_q_at_least) [] [] f fd
theorem c_q_at_least {P : Program} {w : World} {K : PySem.W.Frag} {mg : Str → Option Value} {base : Heap} {f : Addr} {fd : FuncData} (F : F_q_at_least K f fd) (g : mg "at_least" = some (.ref f)) (b : Bt mg) : CalN P w K mg base 1 "at_least" (Sf K 2 r_q_at_least) :=
  ⟨f, fd, ["one", "other"], ok_f F sc_q_at_least rfl (by decide) fun cdv A outer s H E c hr => w_q_at_least b hr, g, F.kp, F.bindsN fun _ _ _ _ _ _ us hl => match us, hl with | [_, _], _ => rfl⟩

/-! greater_of -/
def N_q_greater_of : List Str := ["one", "other", "left", "right"]
abbrev st_q_greater_of : Stmt := top 2
theorem sc_q_greater_of : FnScope N_q_greater_of ["one", "other"] (defScope st_q_greater_of) := ⟨rfl, rfl, rfl, by decide +kernel, rfl, by decide +kernel, by decide +kernel⟩
def m_q_greater_of : SM :=
  sRet (eUn tupD (eLc [2, 3] (iZp (aCons (eVar 0) (aCons (eVar 1) (aNil)))) (gTups 2 (gMore (gSet 2) (gMore (gSet 3) (gNone)))) (bYes) (eBin max2D (eVar 2) (eLk 3))))
def r_q_greater_of : List D → Option D := runF 4 m_q_greater_of
theorem w_q_greater_of {P : Program} {w : World} {K : PySem.W.Frag} {mg : Str → Option Value} {base : Heap} {cdv : Value} {fa : Addr} {A : Around} {outer : List Env} {s : Shared} {H : Hp} {E : XK} {c : Cn} (b : Bt mg) (hr : Room 0 (A.deeper (envOfC "greater_of" (defScope st_q_greater_of) s.heap.objs.size fa cdv))) :
    PDss (cxOf L2.CX0 P w K mg base N_q_greater_of "greater_of" (defScope st_q_greater_of) fa cdv A outer s H E).nox c (defBody st_q_greater_of) m_q_greater_of :=
  have nd : N_q_greater_of.Nodup := sc_q_greater_of.nd
  have hu : (A.deeper (envOfC "greater_of" (defScope st_q_greater_of) s.heap.objs.size fa cdv)).units + 64 < cLine := by have := hr.un; omega
  qs_one (qs_ret (x_tuple b.tuple (pk_f (pf_lc (own := [("left", 2), ("right", 3)]) rfl nd (x_zip b.zip (qa_cons (pd_var (pv 0)) (qa_cons (pd_var (pv 1)) (qa_nil)))) (blkOk_by (by kernel_rfl)) (fun _ _ _ _ _ _ => qg_tup rfl (qg_more (qg_name (vs := [2, 3]) (pg_name (i := 2) nd rfl (by first | exact Or.inl rfl | exact Or.inr rfl)) (by decide)) (qg_more (qg_name (vs := [2, 3]) (pg_name (i := 3) nd rfl (by first | exact Or.inl rfl | exact Or.inr rfl)) (by decide)) (qg_none)))) (fun _ _ _ _ _ _ => qt_nil) (fun _ _ _ _ _ _ => x_max2 rfl b.max (pd_var (pv 2)) (pk_var (pv 3)))))))
abbrev F_q_greater_of (K : PySem.W.Frag) (f : Addr) (fd : FuncData) : Prop := FunD K "greater_of" "greater_of" (defArgs st_q_greater_of) (defBody st_q_greater_of) (defScope st_q_greater_of) [] [] f fd
theorem c_q_greater_of {P : Program} {w : World} {K : PySem.W.Frag} {mg : Str → Option Value} {base : Heap} {f : Addr} {fd : FuncData} (F : F_q_greater_of K f fd) (g : mg "greater_of" = some (.ref f)) (b : Bt mg) : CalN P w K mg base 1 "greater_of" (Sf K 2 r_q_greater_of) :=
  ⟨f, fd, ["one", "other"], ok_f F sc_q_greater_of rfl (by decide) fun cdv A outer s H E c hr => w_q_greater_of b hr, g, F.kp, F.bindsN fun _ _ _ _ _ _ us hl => match us, hl with | [_, _], _ => rfl⟩

/-! noughts -/
def N_q_noughts : List Str := ["tanks", "_"]
abbrev st_q_noughts : Stmt := top 3
theorem sc_q_noughts : FnScope N_q_noughts ["tanks"] (defScope st_q_noughts) := ⟨rfl, rfl, rfl, by decide +kernel, rfl, by decide +kernel, by decide +kernel⟩
def m_q_noughts : SM :=
  sRet (eUn tupD (eLc [1] (iRange1 (aCons (eVar 0) (aNil))) (gSet 1) (bYes) (eC (.int 0))))
def r_q_noughts : List D → Option D := runF 2 m_q_noughts
theorem w_q_noughts {P : Program} {w : World} {K : PySem.W.Frag} {mg : Str → Option Value} {base : Heap} {cdv : Value} {fa : Addr} {A : Around} {outer : List Env} {s : Shared} {H : Hp} {E : XK} {c : Cn} (b : Bt mg) (hr : Room 0 (A.deeper (envOfC "noughts" (defScope st_q_noughts) s.heap.objs.size fa cdv))) :
    PDss (cxOf L2.CX0 P w K mg base N_q_noughts "noughts" (defScope st_q_noughts) fa cdv A outer s H E).nox c (defBody st_q_noughts) m_q_noughts :=
  have nd : N_q_noughts.Nodup := sc_q_noughts.nd
  have hu : (A.deeper (envOfC "noughts" (defScope st_q_noughts) s.heap.objs.size fa cdv)).units + 64 < cLine := by have := hr.un; omega
  qs_one (qs_ret (x_tuple b.tuple (pk_f (pf_lc (own := [("_", 1)]) rfl nd (qi_range1 (by rfl) b.range (qa_cons (pd_var (pv 0)) (qa_nil))) (blkOk_by (by kernel_rfl)) (fun _ _ _ _ _ _ => qg_name (vs := [1]) (pg_name (i := 1) nd rfl (by first | exact Or.inl rfl | exact Or.inr rfl)) (by decide)) (fun _ _ _ _ _ _ => qt_nil) (fun _ _ _ _ _ _ => pd_int)))))
abbrev F_q_noughts (K : PySem.W.Frag) (f : Addr) (fd : FuncData) : Prop := FunD K "noughts" "noughts" (defArgs st_q_noughts) (defBody st_q_noughts) (defScope st_q_noughts) [] [] f fd
theorem c_q_noughts {P : Program} {w : World} {K : PySem.W.Frag} {mg : Str → Option Value} {base : Heap} {f : Addr} {fd : FuncData} (F : F_q_noughts K f fd) (g : mg "noughts" = some (.ref f)) (b : Bt mg) : CalN P w K mg base 1 "noughts" (Sf K 1 r_q_noughts) :=
  ⟨f, fd, ["tanks"], ok_f F sc_q_noughts rfl (by decide) fun cdv A outer s H E c hr => w_q_noughts b hr, g, F.kp, F.bindsN fun _ _ _ _ _ _ us hl => match us, hl with | [_], _ => rfl⟩

/-! least_ones -/
def N_q_least_ones : List Str := ["lots", "found", "levels", "other"]
abbrev st_q_least_ones : Stmt := top 5
theorem sc_q_least_ones : FnScope N_q_least_ones ["lots"] (defScope st_q_least_ones) := ⟨rfl, rfl, rfl, by decide +kernel, rfl, by decide +kernel, by decide +kernel⟩
def m_q_least_ones : SM :=
  sSeq (sOwn 1 (eLst (aNil))) (
  sSeq (sFor [2] (iSeq (eUn ssD (eLk 0))) (gSet 2) (
  sIf (bNot (bTru (eUn anyL (eLcP [3] 1 (gSet 3) (bYes) (eCall 2 r_q_at_least (aCons (eVar 2) (aCons (eVar 3) (aNil)))))))) (sAppend 1 (eVar 2)) (sSkip))) (
  sRet (eUn tupD (eLk 1))))
def r_q_least_ones : List D → Option D := runF 4 m_q_least_ones
theorem w_q_least_ones {P : Program} {w : World} {K : PySem.W.Frag} {mg : Str → Option Value} {base : Heap} {cdv : Value} {fa : Addr} {A : Around} {outer : List Env} {s : Shared} {H : Hp} {E : XK} {c : Cn} (b : Bt mg) (hr : Room 1 (A.deeper (envOfC "least_ones" (defScope st_q_least_ones) s.heap.objs.size fa cdv))) (c_q_at_least : CalN P w K mg base 1 "at_least" (Sf K 2 r_q_at_least)) :
    PDss (cxOf L2.CX0 P w K mg base N_q_least_ones "least_ones" (defScope st_q_least_ones) fa cdv A outer s H E).nox c (defBody st_q_least_ones) m_q_least_ones :=
  have nd : N_q_least_ones.Nodup := sc_q_least_ones.nd
  have hu : (A.deeper (envOfC "least_ones" (defScope st_q_least_ones) s.heap.objs.size fa cdv)).units + 64 < cLine := by have := hr.un; omega
  qs_cons (qs_own (ps_set (i := 1) nd rfl (by first | exact Or.inl rfl | exact Or.inr rfl) (pf_lst (qa_nil)))) (
  qs_cons (qs_for (ws := [2]) [2] PassesOwn.never rfl (qi_seq (pd_f (x_ss rfl hu b.sorted b.set (pk_var (pv 0))))) (qg_name (vs := [2]) (pg_name (i := 2) nd rfl (by first | exact Or.inl rfl | exact Or.inr rfl)) (by decide)) (
  qs_one (qs_if (pb_not (pb_tru (pk_d (x_any rfl b.any (pk_f (pf_lcP (own := [("other", 3)]) rfl nd (pv 1) (blkOk_by (by kernel_rfl)) (fun _ _ _ _ _ _ => qg_name (vs := [3]) (pg_name (i := 3) nd rfl (by first | exact Or.inl rfl | exact Or.inr rfl)) (by decide)) (fun _ _ _ _ _ _ => qt_nil) (fun _ _ _ _ _ _ => pd_call c_q_at_least hr (by decide) (by rfl) (qa_cons (pd_var (pv 2)) (qa_cons (pd_var (pv 3)) (qa_nil)))))))) (by intro _; rfl))) (qs_one (x_append (pv 1) (pd_var (pv 2)))) (qs_nil)))) (
  qs_one (qs_ret (x_tuple b.tuple (pk_var (pv 1))))))
abbrev F_q_least_ones (K : PySem.W.Frag) (f : Addr) (fd : FuncData) : Prop := FunD K "least_ones" "least_ones" (defArgs st_q_least_ones) (defBody st_q_least_ones) (defScope st_q_least_ones) [] [] f fd
theorem c_q_least_ones {P : Program} {w : World} {K : PySem.W.Frag} {mg : Str → Option Value} {base : Heap} {f : Addr} {fd : FuncData} (F : F_q_least_ones K f fd) (g : mg "least_ones" = some (.ref f)) (b : Bt mg) (c_q_at_least : CalN P w K mg base 1 "at_least" (Sf K 2 r_q_at_least)) : CalN P w K mg base 2 "least_ones" (Sf K 1 r_q_least_ones) :=
  ⟨f, fd, ["lots"], ok_f F sc_q_least_ones rfl (by decide) fun cdv A outer s H E c hr => w_q_least_ones b hr c_q_at_least, g, F.kp, F.bindsN fun _ _ _ _ _ _ us hl => match us, hl with | [_], _ => rfl⟩

/-! is_above -/
def N_q_is_above : List Str := ["lots", "levels", "other"]
abbrev st_q_is_above : Stmt := top 6
theorem sc_q_is_above : FnScope N_q_is_above ["lots", "levels"] (defScope st_q_is_above) := ⟨rfl, rfl, rfl, by decide +kernel, rfl, by decide +kernel, by decide +kernel⟩
def m_q_is_above : SM :=
  sRet (eUn anyL (eLc [2] (iSeq (eVar 0)) (gSet 2) (bYes) (eCall 2 r_q_at_least (aCons (eVar 1) (aCons (eVar 2) (aNil))))))
def r_q_is_above : List D → Option D := runF 3 m_q_is_above
theorem w_q_is_above {P : Program} {w : World} {K : PySem.W.Frag} {mg : Str → Option Value} {base : Heap} {cdv : Value} {fa : Addr} {A : Around} {outer : List Env} {s : Shared} {H : Hp} {E : XK} {c : Cn} (b : Bt mg) (hr : Room 1 (A.deeper (envOfC "is_above" (defScope st_q_is_above) s.heap.objs.size fa cdv))) (c_q_at_least : CalN P w K mg base 1 "at_least" (Sf K 2 r_q_at_least)) :
    PDss (cxOf L2.CX0 P w K mg base N_q_is_above "is_above" (defScope st_q_is_above) fa cdv A outer s H E).nox c (defBody st_q_is_above) m_q_is_above :=
  have nd : N_q_is_above.Nodup := sc_q_is_above.nd
  have hu : (A.deeper (envOfC "is_above" (defScope st_q_is_above) s.heap.objs.size fa cdv)).units + 64 < cLine := by have := hr.un; omega
  qs_one (qs_ret (x_any rfl b.any (pk_f (pf_lc (own := [("other", 2)]) rfl nd (qi_seq (pd_var (pv 0))) (blkOk_by (by kernel_rfl)) (fun _ _ _ _ _ _ => qg_name (vs := [2]) (pg_name (i := 2) nd rfl (by first | exact Or.inl rfl | exact Or.inr rfl)) (by decide)) (fun _ _ _ _ _ _ => qt_nil) (fun _ _ _ _ _ _ => pd_call c_q_at_least hr (by decide) (by rfl) (qa_cons (pd_var (pv 1)) (qa_cons (pd_var (pv 2)) (qa_nil))))))))
abbrev F_q_is_above (K : PySem.W.Frag) (f : Addr) (fd : FuncData) : Prop := FunD K "is_above" "is_above" (defArgs st_q_is_above) (defBody st_q_is_above) (defScope st_q_is_above) [] [] f fd
theorem c_q_is_above {P : Program} {w : World} {K : PySem.W.Frag} {mg : Str → Option Value} {base : Heap} {f : Addr} {fd : FuncData} (F : F_q_is_above K f fd) (g : mg "is_above" = some (.ref f)) (b : Bt mg) (c_q_at_least : CalN P w K mg base 1 "at_least" (Sf K 2 r_q_at_least)) : CalN P w K mg base 2 "is_above" (Sf K 2 r_q_is_above) :=
  ⟨f, fd, ["lots", "levels"], ok_f F sc_q_is_above rfl (by decide) fun cdv A outer s H E c hr => w_q_is_above b hr c_q_at_least, g, F.kp, F.bindsN fun _ _ _ _ _ _ us hl => match us, hl with | [_, _], _ => rfl⟩

/-! joined_lots -/
def N_q_joined_lots : List Str := ["one", "other"]
abbrev st_q_joined_lots : Stmt := top 7
theorem sc_q_joined_lots : FnScope N_q_joined_lots ["one", "other"] (defScope st_q_joined_lots) := ⟨rfl, rfl, rfl, by decide +kernel, rfl, by decide +kernel, by decide +kernel⟩
def m_q_joined_lots : SM :=
  sRet (eCall 1 r_q_least_ones (aCons (eBin addD (eVar 0) (eLk 1)) (aNil)))
def r_q_joined_lots : List D → Option D := runF 2 m_q_joined_lots
theorem w_q_joined_lots {P : Program} {w : World} {K : PySem.W.Frag} {mg : Str → Option Value} {base : Heap} {cdv : Value} {fa : Addr} {A : Around} {outer : List Env} {s : Shared} {H : Hp} {E : XK} {c : Cn} (b : Bt mg) (hr : Room 2 (A.deeper (envOfC "joined_lots" (defScope st_q_joined_lots) s.heap.objs.size fa cdv))) (c_q_least_ones : CalN P w K mg base 2 "least_ones" (Sf K 1 r_q_least_ones)) :
    PDss (cxOf L2.CX0 P w K mg base N_q_joined_lots "joined_lots" (defScope st_q_joined_lots) fa cdv A outer s H E).nox c (defBody st_q_joined_lots) m_q_joined_lots :=
  have nd : N_q_joined_lots.Nodup := sc_q_joined_lots.nd
  have hu : (A.deeper (envOfC "joined_lots" (defScope st_q_joined_lots) s.heap.objs.size fa cdv)).units + 64 < cLine := by have := hr.un; omega
  qs_one (qs_ret (pd_call c_q_least_ones hr (by decide) (by rfl) (qa_cons (pd_op opr_add opd_add (pd_var (pv 0)) (pk_var (pv 1))) (qa_nil))))
abbrev F_q_joined_lots (K : PySem.W.Frag) (f : Addr) (fd : FuncData) : Prop := FunD K "joined_lots" "joined_lots" (defArgs st_q_joined_lots) (defBody st_q_joined_lots) (defScope st_q_joined_lots) [] [] f fd
theorem c_q_joined_lots {P : Program} {w : World} {K : PySem.W.Frag} {mg : Str → Option Value} {base : Heap} {f : Addr} {fd : FuncData} (F : F_q_joined_lots K f fd) (g : mg "joined_lots" = some (.ref f)) (b : Bt mg) (c_q_least_ones : CalN P w K mg base 2 "least_ones" (Sf K 1 r_q_least_ones)) : CalN P w K mg base 3 "joined_lots" (Sf K 2 r_q_joined_lots) :=
  ⟨f, fd, ["one", "other"], ok_f F sc_q_joined_lots rfl (by decide) fun cdv A outer s H E c hr => w_q_joined_lots b hr c_q_least_ones, g, F.kp, F.bindsN fun _ _ _ _ _ _ us hl => match us, hl with | [_, _], _ => rfl⟩

/-! met_lots -/
def N_q_met_lots : List Str := ["one", "other", "left", "right"]
abbrev st_q_met_lots : Stmt := top 8
theorem sc_q_met_lots : FnScope N_q_met_lots ["one", "other"] (defScope st_q_met_lots) := ⟨rfl, rfl, rfl, by decide +kernel, rfl, by decide +kernel, by decide +kernel⟩
def m_q_met_lots : SM :=
  sRet (eCall 1 r_q_least_ones (aCons (eUn tupD (eLc2 [2, 3] [3] (iSeq (eVar 0)) (gSet 2) (bYes) (iSeq (eVar 1)) (gSet 3) (bYes) (eCall 2 r_q_greater_of (aCons (eVar 2) (aCons (eVar 3) (aNil)))))) (aNil)))
def r_q_met_lots : List D → Option D := runF 4 m_q_met_lots
theorem w_q_met_lots {P : Program} {w : World} {K : PySem.W.Frag} {mg : Str → Option Value} {base : Heap} {cdv : Value} {fa : Addr} {A : Around} {outer : List Env} {s : Shared} {H : Hp} {E : XK} {c : Cn} (b : Bt mg) (hr : Room 2 (A.deeper (envOfC "met_lots" (defScope st_q_met_lots) s.heap.objs.size fa cdv))) (c_q_greater_of : CalN P w K mg base 1 "greater_of" (Sf K 2 r_q_greater_of)) (c_q_least_ones : CalN P w K mg base 2 "least_ones" (Sf K 1 r_q_least_ones)) :
    PDss (cxOf L2.CX0 P w K mg base N_q_met_lots "met_lots" (defScope st_q_met_lots) fa cdv A outer s H E).nox c (defBody st_q_met_lots) m_q_met_lots :=
  have nd : N_q_met_lots.Nodup := sc_q_met_lots.nd
  have hu : (A.deeper (envOfC "met_lots" (defScope st_q_met_lots) s.heap.objs.size fa cdv)).units + 64 < cLine := by have := hr.un; omega
  qs_one (qs_ret (pd_call c_q_least_ones hr (by decide) (by rfl) (qa_cons (x_tuple b.tuple (pk_f (pf_lc2 (own := [("left", 2), ("right", 3)]) (vs1 := [3]) rfl nd (qi_seq (pd_var (pv 0))) (blkOk_by (by kernel_rfl)) (by decide) (fun _ _ _ _ _ _ => qg_name (vs := [2, 3]) (pg_name (i := 2) nd rfl (by first | exact Or.inl rfl | exact Or.inr rfl)) (by decide)) (fun _ _ _ _ _ _ => qt_nil) (fun _ _ _ _ _ _ => qi_seq (pd_var (pv 1))) (fun _ _ _ _ _ _ => qg_name (vs := [3]) (pg_name (i := 3) nd rfl (by first | exact Or.inl rfl | exact Or.inr rfl)) (by decide)) (fun _ _ _ _ _ _ => qt_nil) (fun _ _ _ _ _ _ => pd_call c_q_greater_of hr (by decide) (by rfl) (qa_cons (pd_var (pv 2)) (qa_cons (pd_var (pv 3)) (qa_nil))))))) (qa_nil))))
abbrev F_q_met_lots (K : PySem.W.Frag) (f : Addr) (fd : FuncData) : Prop := FunD K "met_lots" "met_lots" (defArgs st_q_met_lots) (defBody st_q_met_lots) (defScope st_q_met_lots) [] [] f fd
theorem c_q_met_lots {P : Program} {w : World} {K : PySem.W.Frag} {mg : Str → Option Value} {base : Heap} {f : Addr} {fd : FuncData} (F : F_q_met_lots K f fd) (g : mg "met_lots" = some (.ref f)) (b : Bt mg) (c_q_greater_of : CalN P w K mg base 1 "greater_of" (Sf K 2 r_q_greater_of)) (c_q_least_ones : CalN P w K mg base 2 "least_ones" (Sf K 1 r_q_least_ones)) : CalN P w K mg base 3 "met_lots" (Sf K 2 r_q_met_lots) :=
  ⟨f, fd, ["one", "other"], ok_f F sc_q_met_lots rfl (by decide) fun cdv A outer s H E c hr => w_q_met_lots b hr c_q_greater_of c_q_least_ones, g, F.kp, F.bindsN fun _ _ _ _ _ _ us hl => match us, hl with | [_, _], _ => rfl⟩

/-! before_levels -/
def N_q_before_levels : List Str := ["levels", "pours", "level", "pour"]
abbrev st_q_before_levels : Stmt := top 9
theorem sc_q_before_levels : FnScope N_q_before_levels ["levels", "pours"] (defScope st_q_before_levels) := ⟨rfl, rfl, rfl, by decide +kernel, rfl, by decide +kernel, by decide +kernel⟩
def m_q_before_levels : SM :=
  sRet (eUn tupD (eLc [2, 3] (iZp (aCons (eVar 0) (aCons (eVar 1) (aNil)))) (gTups 2 (gMore (gSet 2) (gMore (gSet 3) (gNone)))) (bYes) (eBin max2D (eBin subD (eVar 2) (eLk 3)) (eC (.int 0)))))
def r_q_before_levels : List D → Option D := runF 4 m_q_before_levels
theorem w_q_before_levels {P : Program} {w : World} {K : PySem.W.Frag} {mg : Str → Option Value} {base : Heap} {cdv : Value} {fa : Addr} {A : Around} {outer : List Env} {s : Shared} {H : Hp} {E : XK} {c : Cn} (b : Bt mg) (hr : Room 0 (A.deeper (envOfC "before_levels" (defScope st_q_before_levels) s.heap.objs.size fa cdv))) :
    PDss (cxOf L2.CX0 P w K mg base N_q_before_levels "before_levels" (defScope st_q_before_levels) fa cdv A outer s H E).nox c (defBody st_q_before_levels) m_q_before_levels :=
  have nd : N_q_before_levels.Nodup := sc_q_before_levels.nd
  have hu : (A.deeper (envOfC "before_levels" (defScope st_q_before_levels) s.heap.objs.size fa cdv)).units + 64 < cLine := by have := hr.un; omega
  qs_one (qs_ret (x_tuple b.tuple (pk_f (pf_lc (own := [("level", 2), ("pour", 3)]) rfl nd (x_zip b.zip (qa_cons (pd_var (pv 0)) (qa_cons (pd_var (pv 1)) (qa_nil)))) (blkOk_by (by kernel_rfl)) (fun _ _ _ _ _ _ => qg_tup rfl (qg_more (qg_name (vs := [2, 3]) (pg_name (i := 2) nd rfl (by first | exact Or.inl rfl | exact Or.inr rfl)) (by decide)) (qg_more (qg_name (vs := [2, 3]) (pg_name (i := 3) nd rfl (by first | exact Or.inl rfl | exact Or.inr rfl)) (by decide)) (qg_none)))) (fun _ _ _ _ _ _ => qt_nil) (fun _ _ _ _ _ _ => x_max2 rfl b.max (pd_op op_sub opd_sub (pd_var (pv 2)) (pk_var (pv 3))) (pk_d (pd_int)))))))
abbrev F_q_before_levels (K : PySem.W.Frag) (f : Addr) (fd : FuncData) : Prop := FunD K "before_levels" "before_levels" (defArgs st_q_before_levels) (defBody st_q_before_levels) (defScope st_q_before_levels) [] [] f fd
theorem c_q_before_levels {P : Program} {w : World} {K : PySem.W.Frag} {mg : Str → Option Value} {base : Heap} {f : Addr} {fd : FuncData} (F : F_q_before_levels K f fd) (g : mg "before_levels" = some (.ref f)) (b : Bt mg) : CalN P w K mg base 1 "before_levels" (Sf K 2 r_q_before_levels) :=
  ⟨f, fd, ["levels", "pours"], ok_f F sc_q_before_levels rfl (by decide) fun cdv A outer s H E c hr => w_q_before_levels b hr, g, F.kp, F.bindsN fun _ _ _ _ _ _ us hl => match us, hl with | [_, _], _ => rfl⟩

/-! before_pours -/
def N_q_before_pours : List Str := ["lots", "pours", "sizes", "found", "levels"]
abbrev st_q_before_pours : Stmt := top 10
theorem sc_q_before_pours : FnScope N_q_before_pours ["lots", "pours", "sizes"] (defScope st_q_before_pours) := ⟨rfl, rfl, rfl, by decide +kernel, rfl, by decide +kernel, by decide +kernel⟩
def m_q_before_pours : SM :=
  sSeq (sSet 3 (eLc [4] (iSeq (eVar 0)) (gSet 4) (bYes) (eCall 2 r_q_before_levels (aCons (eVar 4) (aCons (eVar 1) (aNil)))))) (
  sSeq (sIf (bOf (eBin isntD (eVar 2) (eC .non))) (sSet 3 (eLc [4] (iSeq (eVar 3)) (gSet 4) (bTru (eCall 2 r_q_at_least (aCons (eVar 2) (aCons (eVar 4) (aNil))))) (eVar 4))) (sSkip)) (
  sRet (eCall 1 r_q_least_ones (aCons (eUn tupD (eLk 3)) (aNil)))))
def r_q_before_pours : List D → Option D := runF 5 m_q_before_pours
theorem w_q_before_pours {P : Program} {w : World} {K : PySem.W.Frag} {mg : Str → Option Value} {base : Heap} {cdv : Value} {fa : Addr} {A : Around} {outer : List Env} {s : Shared} {H : Hp} {E : XK} {c : Cn} (b : Bt mg) (hr : Room 2 (A.deeper (envOfC "before_pours" (defScope st_q_before_pours) s.heap.objs.size fa cdv))) (c_q_at_least : CalN P w K mg base 1 "at_least" (Sf K 2 r_q_at_least)) (c_q_least_ones : CalN P w K mg base 2 "least_ones" (Sf K 1 r_q_least_ones)) (c_q_before_levels : CalN P w K mg base 1 "before_levels" (Sf K 2 r_q_before_levels)) :
    PDss (cxOf L2.CX0 P w K mg base N_q_before_pours "before_pours" (defScope st_q_before_pours) fa cdv A outer s H E).nox c (defBody st_q_before_pours) m_q_before_pours :=
  have nd : N_q_before_pours.Nodup := sc_q_before_pours.nd
  have hu : (A.deeper (envOfC "before_pours" (defScope st_q_before_pours) s.heap.objs.size fa cdv)).units + 64 < cLine := by have := hr.un; omega
  qs_cons (qs_setf (pf_setLc (i := 3) (own := [("levels", 4)]) rfl nd rfl rfl (sw_true rfl rfl rfl (by decide +kernel)) (qi_seq (pd_var (pv 0))) (blkOk_by (by kernel_rfl)) (fun _ _ _ _ _ _ => qg_name (vs := [4]) (pg_name (i := 4) nd rfl (by first | exact Or.inl rfl | exact Or.inr rfl)) (by decide)) (fun _ _ _ _ _ _ => qt_nil) (fun _ _ _ _ _ _ => pd_call c_q_before_levels hr (by decide) (by rfl) (qa_cons (pd_var (pv 4)) (qa_cons (pd_var (pv 1)) (qa_nil)))))) (
  qs_cons (qs_if (pb_cmp opr_isnt opd_isnt (pd_var (pv 2)) (pk_d (pd_non)) (nomark _)) (qs_one (qs_setf (pf_setLc (i := 3) (own := [("levels", 4)]) rfl nd rfl rfl (sw_true rfl rfl rfl (by decide +kernel)) (qi_seq (pd_var (pv 3))) (blkOk_by (by kernel_rfl)) (fun _ _ _ _ _ _ => qg_name (vs := [4]) (pg_name (i := 4) nd rfl (by first | exact Or.inl rfl | exact Or.inr rfl)) (by decide)) (fun _ _ _ _ _ _ => qt_one (pb_tru (pk_d (pd_call c_q_at_least hr (by decide) (by rfl) (qa_cons (pd_var (pv 2)) (qa_cons (pd_var (pv 4)) (qa_nil))))) (by intro _; rfl))) (fun _ _ _ _ _ _ => pd_var (pv 4))))) (qs_nil)) (
  qs_one (qs_ret (pd_call c_q_least_ones hr (by decide) (by rfl) (qa_cons (x_tuple b.tuple (pk_var (pv 3))) (qa_nil))))))
abbrev F_q_before_pours (K : PySem.W.Frag) (f : Addr) (fd : FuncData) : Prop := FunD K "before_pours" "before_pours" (defArgs st_q_before_pours) (defBody st_q_before_pours) (defScope st_q_before_pours) [] [] f fd
theorem c_q_before_pours {P : Program} {w : World} {K : PySem.W.Frag} {mg : Str → Option Value} {base : Heap} {f : Addr} {fd : FuncData} (F : F_q_before_pours K f fd) (g : mg "before_pours" = some (.ref f)) (b : Bt mg) (c_q_at_least : CalN P w K mg base 1 "at_least" (Sf K 2 r_q_at_least)) (c_q_least_ones : CalN P w K mg base 2 "least_ones" (Sf K 1 r_q_least_ones)) (c_q_before_levels : CalN P w K mg base 1 "before_levels" (Sf K 2 r_q_before_levels)) : CalN P w K mg base 3 "before_pours" (Sf K 3 r_q_before_pours) :=
  ⟨f, fd, ["lots", "pours", "sizes"], ok_f F sc_q_before_pours rfl (by decide) fun cdv A outer s H E c hr => w_q_before_pours b hr c_q_at_least c_q_least_ones c_q_before_levels, g, F.kp, F.bindsN fun _ _ _ _ _ _ us hl => match us, hl with | [_, _, _], _ => rfl⟩

/-! standing_lots -/
def N_q_standing_lots : List Str := ["standing", "tables", "sizes", "tanks", "lots", "found", "other", "owner", "moves", "word", "pours", "goal"]
abbrev st_q_standing_lots : Stmt := top 12
theorem sc_q_standing_lots : FnScope N_q_standing_lots ["standing", "tables", "sizes", "tanks"] (defScope st_q_standing_lots) := ⟨rfl, rfl, rfl, by decide +kernel, rfl, by decide +kernel, by decide +kernel⟩
def m_q_standing_lots : SM :=
  sSeq (sAsg (eVar 0) (gTups 2 (gMore (gSet 7) (gMore (gSet 8) (gNone))))) (
  sSeq (sIf (bNot (bTru (eLk 8))) (sRet (eTup (aCons (eCall 1 r_q_noughts (aCons (eVar 3) (aNil))) (aNil)))) (sSkip)) (
  sSeq (sSet 4 (eLc [9, 10, 11] (iSeq (eVar 8)) (gTups 3 (gMore (gSet 9) (gMore (gSet 10) (gMore (gSet 11) (gNone))))) (bYes) (eCall 3 r_q_before_pours (aCons (eBinV ixD 1 (eLk 11)) (aCons (eVar 10) (aCons (eVar 2) (aNil))))))) (
  sSeq (sSet 5 (eBinV ixD 4 (eC (.int 0)))) (
  sSeq (sFor [6] (iSeq (eSl (eVar 4) (oSome (eC (.int 1))) (oNone))) (gSet 6) (
  sSet 5 (eIf (bOf (eBin eqD (eVar 7) (eC (.str (PySem.Str.ofString "house"))))) (eCall 2 r_q_joined_lots (aCons (eVar 5) (aCons (eVar 6) (aNil)))) (eCall 2 r_q_met_lots (aCons (eVar 5) (aCons (eVar 6) (aNil))))))) (
  sRet (eVar 5))))))
def r_q_standing_lots : List D → Option D := runF 12 m_q_standing_lots
theorem w_q_standing_lots {P : Program} {w : World} {K : PySem.W.Frag} {mg : Str → Option Value} {base : Heap} {cdv : Value} {fa : Addr} {A : Around} {outer : List Env} {s : Shared} {H : Hp} {E : XK} {c : Cn} (b : Bt mg) (hr : Room 3 (A.deeper (envOfC "standing_lots" (defScope st_q_standing_lots) s.heap.objs.size fa cdv))) (c_q_noughts : CalN P w K mg base 1 "noughts" (Sf K 1 r_q_noughts)) (c_q_joined_lots : CalN P w K mg base 3 "joined_lots" (Sf K 2 r_q_joined_lots)) (c_q_met_lots : CalN P w K mg base 3 "met_lots" (Sf K 2 r_q_met_lots)) (c_q_before_pours : CalN P w K mg base 3 "before_pours" (Sf K 3 r_q_before_pours)) :
    PDss (cxOf L2.CX0 P w K mg base N_q_standing_lots "standing_lots" (defScope st_q_standing_lots) fa cdv A outer s H E).nox c (defBody st_q_standing_lots) m_q_standing_lots :=
  have nd : N_q_standing_lots.Nodup := sc_q_standing_lots.nd
  have hu : (A.deeper (envOfC "standing_lots" (defScope st_q_standing_lots) s.heap.objs.size fa cdv)).units + 64 < cLine := by have := hr.un; omega
  qs_cons (qs_asg (ps_asg (pd_var (pv 0)) (qg_tup rfl (qg_more (qg_name (vs := [7, 8]) (pg_name (i := 7) nd rfl (by first | exact Or.inl rfl | exact Or.inr rfl)) (by decide)) (qg_more (qg_name (vs := [7, 8]) (pg_name (i := 8) nd rfl (by first | exact Or.inl rfl | exact Or.inr rfl)) (by decide)) (qg_none)))))) (
  qs_cons (qs_if (pb_not (pb_tru (pk_var (pv 8)) (by intro _; rfl))) (qs_one (qs_ret (pd_tup (qa_cons (pd_call c_q_noughts hr (by decide) (by rfl) (qa_cons (pd_var (pv 3)) (qa_nil))) (qa_nil))))) (qs_nil)) (
  qs_cons (qs_setf (pf_setLc (i := 4) (own := [("word", 9), ("pours", 10), ("goal", 11)]) rfl nd rfl rfl (sw_true rfl rfl rfl (by decide +kernel)) (qi_seq (pd_var (pv 8))) (blkOk_by (by kernel_rfl)) (fun _ _ _ _ _ _ => qg_tup rfl (qg_more (qg_name (vs := [9, 10, 11]) (pg_name (i := 9) nd rfl (by first | exact Or.inl rfl | exact Or.inr rfl)) (by decide)) (qg_more (qg_name (vs := [9, 10, 11]) (pg_name (i := 10) nd rfl (by first | exact Or.inl rfl | exact Or.inr rfl)) (by decide)) (qg_more (qg_name (vs := [9, 10, 11]) (pg_name (i := 11) nd rfl (by first | exact Or.inl rfl | exact Or.inr rfl)) (by decide)) (qg_none))))) (fun _ _ _ _ _ _ => qt_nil) (fun _ _ _ _ _ _ => pd_call c_q_before_pours hr (by decide) (by rfl) (qa_cons (x_ixV (pv 1) (pk_var (pv 11))) (qa_cons (pd_var (pv 10)) (qa_cons (pd_var (pv 2)) (qa_nil))))))) (
  qs_cons (qs_set (ps_set (i := 5) nd rfl (by first | exact Or.inl rfl | exact Or.inr rfl) (x_ixV (pv 4) (pk_d (pd_int))))) (
  qs_cons (qs_for (ws := [6]) [6] PassesOwn.never rfl (qi_seq (pd_sl (pd_var (pv 4)) (qo_some (pk_d (pd_int))) (qo_none))) (qg_name (vs := [6]) (pg_name (i := 6) nd rfl (by first | exact Or.inl rfl | exact Or.inr rfl)) (by decide)) (
  qs_one (qs_set (ps_set (i := 5) nd rfl (by first | exact Or.inl rfl | exact Or.inr rfl) (pd_if (pb_cmp (op_eqP hu) opd_eq (pd_var (pv 7)) (pk_d (pd_str)) (nomark _)) (pd_call c_q_joined_lots hr (by decide) (by rfl) (qa_cons (pd_var (pv 5)) (qa_cons (pd_var (pv 6)) (qa_nil)))) (pd_call c_q_met_lots hr (by decide) (by rfl) (qa_cons (pd_var (pv 5)) (qa_cons (pd_var (pv 6)) (qa_nil))))))))) (
  qs_one (qs_ret (pd_var (pv 5))))))))
abbrev F_q_standing_lots (K : PySem.W.Frag) (f : Addr) (fd : FuncData) : Prop := FunD K "standing_lots" "standing_lots" (defArgs st_q_standing_lots) (defBody st_q_standing_lots) (defScope st_q_standing_lots) [] [] f fd
theorem c_q_standing_lots {P : Program} {w : World} {K : PySem.W.Frag} {mg : Str → Option Value} {base : Heap} {f : Addr} {fd : FuncData} (F : F_q_standing_lots K f fd) (g : mg "standing_lots" = some (.ref f)) (b : Bt mg) (c_q_noughts : CalN P w K mg base 1 "noughts" (Sf K 1 r_q_noughts)) (c_q_joined_lots : CalN P w K mg base 3 "joined_lots" (Sf K 2 r_q_joined_lots)) (c_q_met_lots : CalN P w K mg base 3 "met_lots" (Sf K 2 r_q_met_lots)) (c_q_before_pours : CalN P w K mg base 3 "before_pours" (Sf K 3 r_q_before_pours)) : CalN P w K mg base 4 "standing_lots" (Sf K 4 r_q_standing_lots) :=
  ⟨f, fd, ["standing", "tables", "sizes", "tanks"], ok_f F sc_q_standing_lots rfl (by decide) fun cdv A outer s H E c hr => w_q_standing_lots b hr c_q_noughts c_q_joined_lots c_q_met_lots c_q_before_pours, g, F.kp, F.bindsN fun _ _ _ _ _ _ us hl => match us, hl with | [_, _, _, _], _ => rfl⟩

/-! lots_before -/
def N_q_lots_before : List Str := ["book", "tables", "sizes", "standing"]
abbrev st_q_lots_before : Stmt := top 13
theorem sc_q_lots_before : FnScope N_q_lots_before ["book", "tables", "sizes"] (defScope st_q_lots_before) := ⟨rfl, rfl, rfl, by decide +kernel, rfl, by decide +kernel, by decide +kernel⟩
def m_q_lots_before : SM :=
  sRet (eUn tupD (eLc [3] (iSeq (eBinV ixD 0 (eC (.int 1)))) (gSet 3) (bYes) (eCall 4 r_q_standing_lots (aCons (eVar 3) (aCons (eVar 1) (aCons (eVar 2) (aCons (eBinV ixD 0 (eC (.int 0))) (aNil))))))))
def r_q_lots_before : List D → Option D := runF 4 m_q_lots_before
theorem w_q_lots_before {P : Program} {w : World} {K : PySem.W.Frag} {mg : Str → Option Value} {base : Heap} {cdv : Value} {fa : Addr} {A : Around} {outer : List Env} {s : Shared} {H : Hp} {E : XK} {c : Cn} (b : Bt mg) (hr : Room 4 (A.deeper (envOfC "lots_before" (defScope st_q_lots_before) s.heap.objs.size fa cdv))) (c_q_standing_lots : CalN P w K mg base 4 "standing_lots" (Sf K 4 r_q_standing_lots)) :
    PDss (cxOf L2.CX0 P w K mg base N_q_lots_before "lots_before" (defScope st_q_lots_before) fa cdv A outer s H E).nox c (defBody st_q_lots_before) m_q_lots_before :=
  have nd : N_q_lots_before.Nodup := sc_q_lots_before.nd
  have hu : (A.deeper (envOfC "lots_before" (defScope st_q_lots_before) s.heap.objs.size fa cdv)).units + 64 < cLine := by have := hr.un; omega
  qs_one (qs_ret (x_tuple b.tuple (pk_f (pf_lc (own := [("standing", 3)]) rfl nd (qi_seq (x_ixV (pv 0) (pk_d (pd_int)))) (blkOk_by (by kernel_rfl)) (fun _ _ _ _ _ _ => qg_name (vs := [3]) (pg_name (i := 3) nd rfl (by first | exact Or.inl rfl | exact Or.inr rfl)) (by decide)) (fun _ _ _ _ _ _ => qt_nil) (fun _ _ _ _ _ _ => pd_call c_q_standing_lots hr (by decide) (by rfl) (qa_cons (pd_var (pv 3)) (qa_cons (pd_var (pv 1)) (qa_cons (pd_var (pv 2)) (qa_cons (x_ixV (pv 0) (pk_d (pd_int))) (qa_nil))))))))))
abbrev F_q_lots_before (K : PySem.W.Frag) (f : Addr) (fd : FuncData) : Prop := FunD K "lots_before" "lots_before" (defArgs st_q_lots_before) (defBody st_q_lots_before) (defScope st_q_lots_before) [] [] f fd
theorem c_q_lots_before {P : Program} {w : World} {K : PySem.W.Frag} {mg : Str → Option Value} {base : Heap} {f : Addr} {fd : FuncData} (F : F_q_lots_before K f fd) (g : mg "lots_before" = some (.ref f)) (b : Bt mg) (c_q_standing_lots : CalN P w K mg base 4 "standing_lots" (Sf K 4 r_q_standing_lots)) : CalN P w K mg base 5 "lots_before" (Sf K 3 r_q_lots_before) :=
  ⟨f, fd, ["book", "tables", "sizes"], ok_f F sc_q_lots_before rfl (by decide) fun cdv A outer s H E c hr => w_q_lots_before b hr c_q_standing_lots, g, F.kp, F.bindsN fun _ _ _ _ _ _ us hl => match us, hl with | [_, _, _], _ => rfl⟩

/-! first_lots -/
def N_q_first_lots : List Str := ["book", "standing"]
abbrev st_q_first_lots : Stmt := top 14
theorem sc_q_first_lots : FnScope N_q_first_lots ["book"] (defScope st_q_first_lots) := ⟨rfl, rfl, rfl, by decide +kernel, rfl, by decide +kernel, by decide +kernel⟩
def m_q_first_lots : SM :=
  sRet (eUn tupD (eLc [1] (iSeq (eBinV ixD 0 (eC (.int 1)))) (gSet 1) (bYes) (eTup (aCons (eCall 1 r_q_noughts (aCons (eBinV ixD 0 (eC (.int 0))) (aNil))) (aNil)))))
def r_q_first_lots : List D → Option D := runF 2 m_q_first_lots
theorem w_q_first_lots {P : Program} {w : World} {K : PySem.W.Frag} {mg : Str → Option Value} {base : Heap} {cdv : Value} {fa : Addr} {A : Around} {outer : List Env} {s : Shared} {H : Hp} {E : XK} {c : Cn} (b : Bt mg) (hr : Room 1 (A.deeper (envOfC "first_lots" (defScope st_q_first_lots) s.heap.objs.size fa cdv))) (c_q_noughts : CalN P w K mg base 1 "noughts" (Sf K 1 r_q_noughts)) :
    PDss (cxOf L2.CX0 P w K mg base N_q_first_lots "first_lots" (defScope st_q_first_lots) fa cdv A outer s H E).nox c (defBody st_q_first_lots) m_q_first_lots :=
  have nd : N_q_first_lots.Nodup := sc_q_first_lots.nd
  have hu : (A.deeper (envOfC "first_lots" (defScope st_q_first_lots) s.heap.objs.size fa cdv)).units + 64 < cLine := by have := hr.un; omega
  qs_one (qs_ret (x_tuple b.tuple (pk_f (pf_lc (own := [("standing", 1)]) rfl nd (qi_seq (x_ixV (pv 0) (pk_d (pd_int)))) (blkOk_by (by kernel_rfl)) (fun _ _ _ _ _ _ => qg_name (vs := [1]) (pg_name (i := 1) nd rfl (by first | exact Or.inl rfl | exact Or.inr rfl)) (by decide)) (fun _ _ _ _ _ _ => qt_nil) (fun _ _ _ _ _ _ => pd_tup (qa_cons (pd_call c_q_noughts hr (by decide) (by rfl) (qa_cons (x_ixV (pv 0) (pk_d (pd_int))) (qa_nil))) (qa_nil)))))))
abbrev F_q_first_lots (K : PySem.W.Frag) (f : Addr) (fd : FuncData) : Prop := FunD K "first_lots" "first_lots" (defArgs st_q_first_lots) (defBody st_q_first_lots) (defScope st_q_first_lots) [] [] f fd
theorem c_q_first_lots {P : Program} {w : World} {K : PySem.W.Frag} {mg : Str → Option Value} {base : Heap} {f : Addr} {fd : FuncData} (F : F_q_first_lots K f fd) (g : mg "first_lots" = some (.ref f)) (b : Bt mg) (c_q_noughts : CalN P w K mg base 1 "noughts" (Sf K 1 r_q_noughts)) : CalN P w K mg base 2 "first_lots" (Sf K 1 r_q_first_lots) :=
  ⟨f, fd, ["book"], ok_f F sc_q_first_lots rfl (by decide) fun cdv A outer s H E c hr => w_q_first_lots b hr c_q_noughts, g, F.kp, F.bindsN fun _ _ _ _ _ _ us hl => match us, hl with | [_], _ => rfl⟩

/-! levels_tables -/
def N_q_levels_tables : List Str := ["book", "many", "found", "_"]
abbrev st_q_levels_tables : Stmt := top 15
theorem sc_q_levels_tables : FnScope N_q_levels_tables ["book", "many"] (defScope st_q_levels_tables) := ⟨rfl, rfl, rfl, by decide +kernel, rfl, by decide +kernel, by decide +kernel⟩
def m_q_levels_tables : SM :=
  sSeq (sOwn 2 (eLst (aCons (eCall 1 r_q_first_lots (aCons (eVar 0) (aNil))) (aNil)))) (
  sSeq (sFor [3] (iRange1 (aCons (eVar 1) (aNil))) (gSet 3) (
  sAppend 2 (eCall 3 r_q_lots_before (aCons (eVar 0) (aCons (eBinV ixD 2 (eUn negD (eC (.int 1)))) (aCons (eC .non) (aNil))))))) (
  sRet (eUn tupD (eLk 2))))
def r_q_levels_tables : List D → Option D := runF 4 m_q_levels_tables
theorem w_q_levels_tables {P : Program} {w : World} {K : PySem.W.Frag} {mg : Str → Option Value} {base : Heap} {cdv : Value} {fa : Addr} {A : Around} {outer : List Env} {s : Shared} {H : Hp} {E : XK} {c : Cn} (b : Bt mg) (hr : Room 5 (A.deeper (envOfC "levels_tables" (defScope st_q_levels_tables) s.heap.objs.size fa cdv))) (c_q_lots_before : CalN P w K mg base 5 "lots_before" (Sf K 3 r_q_lots_before)) (c_q_first_lots : CalN P w K mg base 2 "first_lots" (Sf K 1 r_q_first_lots)) :
    PDss (cxOf L2.CX0 P w K mg base N_q_levels_tables "levels_tables" (defScope st_q_levels_tables) fa cdv A outer s H E).nox c (defBody st_q_levels_tables) m_q_levels_tables :=
  have nd : N_q_levels_tables.Nodup := sc_q_levels_tables.nd
  have hu : (A.deeper (envOfC "levels_tables" (defScope st_q_levels_tables) s.heap.objs.size fa cdv)).units + 64 < cLine := by have := hr.un; omega
  qs_cons (qs_own (ps_set (i := 2) nd rfl (by first | exact Or.inl rfl | exact Or.inr rfl) (pf_lst (qa_cons (pd_call c_q_first_lots hr (by decide) (by rfl) (qa_cons (pd_var (pv 0)) (qa_nil))) (qa_nil))))) (
  qs_cons (qs_for (ws := [3]) [3] PassesOwn.never rfl (qi_range1 (by rfl) b.range (qa_cons (pd_var (pv 1)) (qa_nil))) (qg_name (vs := [3]) (pg_name (i := 3) nd rfl (by first | exact Or.inl rfl | exact Or.inr rfl)) (by decide)) (
  qs_one (x_append (pv 2) (pd_call c_q_lots_before hr (by decide) (by rfl) (qa_cons (pd_var (pv 0)) (qa_cons (x_ixV (pv 2) (pk_d (pd_un un_neg opd_neg (pk_d (pd_int))))) (qa_cons (pd_non) (qa_nil)))))))) (
  qs_one (qs_ret (x_tuple b.tuple (pk_var (pv 2))))))
abbrev F_q_levels_tables (K : PySem.W.Frag) (f : Addr) (fd : FuncData) : Prop := FunD K "levels_tables" "levels_tables" (defArgs st_q_levels_tables) (defBody st_q_levels_tables) (defScope st_q_levels_tables) [] [] f fd
theorem c_q_levels_tables {P : Program} {w : World} {K : PySem.W.Frag} {mg : Str → Option Value} {base : Heap} {f : Addr} {fd : FuncData} (F : F_q_levels_tables K f fd) (g : mg "levels_tables" = some (.ref f)) (b : Bt mg) (c_q_lots_before : CalN P w K mg base 5 "lots_before" (Sf K 3 r_q_lots_before)) (c_q_first_lots : CalN P w K mg base 2 "first_lots" (Sf K 1 r_q_first_lots)) : CalN P w K mg base 6 "levels_tables" (Sf K 2 r_q_levels_tables) :=
  ⟨f, fd, ["book", "many"], ok_f F sc_q_levels_tables rfl (by decide) fun cdv A outer s H E c hr => w_q_levels_tables b hr c_q_lots_before c_q_first_lots, g, F.kp, F.bindsN fun _ _ _ _ _ _ us hl => match us, hl with | [_, _], _ => rfl⟩

/-! least_levels -/
def N_q_least_levels : List Str := ["book", "start", "many"]
abbrev st_q_least_levels : Stmt := top 16
theorem sc_q_least_levels : FnScope N_q_least_levels ["book", "start", "many"] (defScope st_q_least_levels) := ⟨rfl, rfl, rfl, by decide +kernel, rfl, by decide +kernel, by decide +kernel⟩
def m_q_least_levels : SM :=
  sRet (eBin ixD (eBin ixD (eCall 2 r_q_levels_tables (aCons (eVar 0) (aCons (eVar 2) (aNil)))) (eLk 2)) (eLk 1))
def r_q_least_levels : List D → Option D := runF 3 m_q_least_levels
theorem w_q_least_levels {P : Program} {w : World} {K : PySem.W.Frag} {mg : Str → Option Value} {base : Heap} {cdv : Value} {fa : Addr} {A : Around} {outer : List Env} {s : Shared} {H : Hp} {E : XK} {c : Cn} (b : Bt mg) (hr : Room 6 (A.deeper (envOfC "least_levels" (defScope st_q_least_levels) s.heap.objs.size fa cdv))) (c_q_levels_tables : CalN P w K mg base 6 "levels_tables" (Sf K 2 r_q_levels_tables)) :
    PDss (cxOf L2.CX0 P w K mg base N_q_least_levels "least_levels" (defScope st_q_least_levels) fa cdv A outer s H E).nox c (defBody st_q_least_levels) m_q_least_levels :=
  have nd : N_q_least_levels.Nodup := sc_q_least_levels.nd
  have hu : (A.deeper (envOfC "least_levels" (defScope st_q_least_levels) s.heap.objs.size fa cdv)).units + 64 < cLine := by have := hr.un; omega
  qs_one (qs_ret (x_ix (x_ix (pd_call c_q_levels_tables hr (by decide) (by rfl) (qa_cons (pd_var (pv 0)) (qa_cons (pd_var (pv 2)) (qa_nil)))) (pk_var (pv 2))) (pk_var (pv 1))))
abbrev F_q_least_levels (K : PySem.W.Frag) (f : Addr) (fd : FuncData) : Prop := FunD K "least_levels" "least_levels" (defArgs st_q_least_levels) (defBody st_q_least_levels) (defScope st_q_least_levels) [] [] f fd
theorem c_q_least_levels {P : Program} {w : World} {K : PySem.W.Frag} {mg : Str → Option Value} {base : Heap} {f : Addr} {fd : FuncData} (F : F_q_least_levels K f fd) (g : mg "least_levels" = some (.ref f)) (b : Bt mg) (c_q_levels_tables : CalN P w K mg base 6 "levels_tables" (Sf K 2 r_q_levels_tables)) : CalN P w K mg base 7 "least_levels" (Sf K 3 r_q_least_levels) :=
  ⟨f, fd, ["book", "start", "many"], ok_f F sc_q_least_levels rfl (by decide) fun cdv A outer s H E c hr => w_q_least_levels b hr c_q_levels_tables, g, F.kp, F.bindsN fun _ _ _ _ _ _ us hl => match us, hl with | [_, _, _], _ => rfl⟩

/-! keeps_for -/
def N_q_keeps_for : List Str := ["book", "start", "levels", "many"]
abbrev st_q_keeps_for : Stmt := top 17
theorem sc_q_keeps_for : FnScope N_q_keeps_for ["book", "start", "levels", "many"] (defScope st_q_keeps_for) := ⟨rfl, rfl, rfl, by decide +kernel, rfl, by decide +kernel, by decide +kernel⟩
def m_q_keeps_for : SM :=
  sRet (eCall 2 r_q_is_above (aCons (eCall 3 r_q_least_levels (aCons (eVar 0) (aCons (eVar 1) (aCons (eVar 3) (aNil))))) (aCons (eVar 2) (aNil))))
def r_q_keeps_for : List D → Option D := runF 4 m_q_keeps_for
theorem w_q_keeps_for {P : Program} {w : World} {K : PySem.W.Frag} {mg : Str → Option Value} {base : Heap} {cdv : Value} {fa : Addr} {A : Around} {outer : List Env} {s : Shared} {H : Hp} {E : XK} {c : Cn} (b : Bt mg) (hr : Room 7 (A.deeper (envOfC "keeps_for" (defScope st_q_keeps_for) s.heap.objs.size fa cdv))) (c_q_is_above : CalN P w K mg base 2 "is_above" (Sf K 2 r_q_is_above)) (c_q_least_levels : CalN P w K mg base 7 "least_levels" (Sf K 3 r_q_least_levels)) :
    PDss (cxOf L2.CX0 P w K mg base N_q_keeps_for "keeps_for" (defScope st_q_keeps_for) fa cdv A outer s H E).nox c (defBody st_q_keeps_for) m_q_keeps_for :=
  have nd : N_q_keeps_for.Nodup := sc_q_keeps_for.nd
  have hu : (A.deeper (envOfC "keeps_for" (defScope st_q_keeps_for) s.heap.objs.size fa cdv)).units + 64 < cLine := by have := hr.un; omega
  qs_one (qs_ret (pd_call c_q_is_above hr (by decide) (by rfl) (qa_cons (pd_call c_q_least_levels hr (by decide) (by rfl) (qa_cons (pd_var (pv 0)) (qa_cons (pd_var (pv 1)) (qa_cons (pd_var (pv 3)) (qa_nil))))) (qa_cons (pd_var (pv 2)) (qa_nil)))))
abbrev F_q_keeps_for (K : PySem.W.Frag) (f : Addr) (fd : FuncData) : Prop := FunD K "keeps_for" "keeps_for" (defArgs st_q_keeps_for) (defBody st_q_keeps_for) (defScope st_q_keeps_for) [] [] f fd
theorem c_q_keeps_for {P : Program} {w : World} {K : PySem.W.Frag} {mg : Str → Option Value} {base : Heap} {f : Addr} {fd : FuncData} (F : F_q_keeps_for K f fd) (g : mg "keeps_for" = some (.ref f)) (b : Bt mg) (c_q_is_above : CalN P w K mg base 2 "is_above" (Sf K 2 r_q_is_above)) (c_q_least_levels : CalN P w K mg base 7 "least_levels" (Sf K 3 r_q_least_levels)) : CalN P w K mg base 8 "keeps_for" (Sf K 4 r_q_keeps_for) :=
  ⟨f, fd, ["book", "start", "levels", "many"], ok_f F sc_q_keeps_for rfl (by decide) fun cdv A outer s H E c hr => w_q_keeps_for b hr c_q_is_above c_q_least_levels, g, F.kp, F.bindsN fun _ _ _ _ _ _ us hl => match us, hl with | [_, _, _, _], _ => rfl⟩

/-! lasting_moves -/
def N_q_lasting_moves : List Str := ["book", "start", "levels", "most", "tables", "number"]
abbrev st_q_lasting_moves : Stmt := top 18
theorem sc_q_lasting_moves : FnScope N_q_lasting_moves ["book", "start", "levels", "most"] (defScope st_q_lasting_moves) := ⟨rfl, rfl, rfl, by decide +kernel, rfl, by decide +kernel, by decide +kernel⟩
def m_q_lasting_moves : SM :=
  sSeq (sSet 4 (eCall 1 r_q_first_lots (aCons (eVar 0) (aNil)))) (
  sSeq (sFor [5] (iRange1 (aCons (eVar 3) (aNil))) (gSet 5) (
  sSeq (sSet 4 (eCall 3 r_q_lots_before (aCons (eVar 0) (aCons (eVar 4) (aCons (eC .non) (aNil)))))) (
  sIf (bNot (bTru (eCall 2 r_q_is_above (aCons (eBinV ixD 4 (eLk 1)) (aCons (eVar 2) (aNil)))))) (sRet (eVar 5)) (sSkip)))) (
  sRet (eVar 3)))
def r_q_lasting_moves : List D → Option D := runF 6 m_q_lasting_moves
theorem w_q_lasting_moves {P : Program} {w : World} {K : PySem.W.Frag} {mg : Str → Option Value} {base : Heap} {cdv : Value} {fa : Addr} {A : Around} {outer : List Env} {s : Shared} {H : Hp} {E : XK} {c : Cn} (b : Bt mg) (hr : Room 5 (A.deeper (envOfC "lasting_moves" (defScope st_q_lasting_moves) s.heap.objs.size fa cdv))) (c_q_is_above : CalN P w K mg base 2 "is_above" (Sf K 2 r_q_is_above)) (c_q_lots_before : CalN P w K mg base 5 "lots_before" (Sf K 3 r_q_lots_before)) (c_q_first_lots : CalN P w K mg base 2 "first_lots" (Sf K 1 r_q_first_lots)) :
    PDss (cxOf L2.CX0 P w K mg base N_q_lasting_moves "lasting_moves" (defScope st_q_lasting_moves) fa cdv A outer s H E).nox c (defBody st_q_lasting_moves) m_q_lasting_moves :=
  have nd : N_q_lasting_moves.Nodup := sc_q_lasting_moves.nd
  have hu : (A.deeper (envOfC "lasting_moves" (defScope st_q_lasting_moves) s.heap.objs.size fa cdv)).units + 64 < cLine := by have := hr.un; omega
  qs_cons (qs_set (ps_set (i := 4) nd rfl (by first | exact Or.inl rfl | exact Or.inr rfl) (pd_call c_q_first_lots hr (by decide) (by rfl) (qa_cons (pd_var (pv 0)) (qa_nil))))) (
  qs_cons (qs_for (ws := [5]) [5] PassesOwn.never rfl (qi_range1 (by rfl) b.range (qa_cons (pd_var (pv 3)) (qa_nil))) (qg_name (vs := [5]) (pg_name (i := 5) nd rfl (by first | exact Or.inl rfl | exact Or.inr rfl)) (by decide)) (
  qs_cons (qs_set (ps_set (i := 4) nd rfl (by first | exact Or.inl rfl | exact Or.inr rfl) (pd_call c_q_lots_before hr (by decide) (by rfl) (qa_cons (pd_var (pv 0)) (qa_cons (pd_var (pv 4)) (qa_cons (pd_non) (qa_nil))))))) (
  qs_one (qs_if (pb_not (pb_tru (pk_d (pd_call c_q_is_above hr (by decide) (by rfl) (qa_cons (x_ixV (pv 4) (pk_var (pv 1))) (qa_cons (pd_var (pv 2)) (qa_nil))))) (by intro _; rfl))) (qs_one (qs_ret (pd_var (pv 5)))) (qs_nil))))) (
  qs_one (qs_ret (pd_var (pv 3)))))
abbrev F_q_lasting_moves (K : PySem.W.Frag) (f : Addr) (fd : FuncData) : Prop := FunD K "lasting_moves" "lasting_moves" (defArgs st_q_lasting_moves) (defBody st_q_lasting_moves) (defScope st_q_lasting_moves) [] [] f fd
theorem c_q_lasting_moves {P : Program} {w : World} {K : PySem.W.Frag} {mg : Str → Option Value} {base : Heap} {f : Addr} {fd : FuncData} (F : F_q_lasting_moves K f fd) (g : mg "lasting_moves" = some (.ref f)) (b : Bt mg) (c_q_is_above : CalN P w K mg base 2 "is_above" (Sf K 2 r_q_is_above)) (c_q_lots_before : CalN P w K mg base 5 "lots_before" (Sf K 3 r_q_lots_before)) (c_q_first_lots : CalN P w K mg base 2 "first_lots" (Sf K 1 r_q_first_lots)) : CalN P w K mg base 6 "lasting_moves" (Sf K 4 r_q_lasting_moves) :=
  ⟨f, fd, ["book", "start", "levels", "most"], ok_f F sc_q_lasting_moves rfl (by decide) fun cdv A outer s H E c hr => w_q_lasting_moves b hr c_q_is_above c_q_lots_before c_q_first_lots, g, F.kp, F.bindsN fun _ _ _ _ _ _ us hl => match us, hl with | [_, _, _, _], _ => rfl⟩

/-! _law_tape -/
def N_law_tape : List Str := ["script", "bound", "great", "cells", "mix", "cell"]
abbrev st_law_tape : Stmt := top 20
theorem sc_law_tape : FnScope N_law_tape ["script"] (defScope st_law_tape) := ⟨rfl, rfl, rfl, by decide +kernel, rfl, by decide +kernel, by decide +kernel⟩
def m_law_tape : SM :=
  sSeq (sSet 1 (eBin mulD (eBin mulD (eBin mulD (eBin mulD (eBin mulD (eBin powD (eC (.int 10)) (eC (.int 60))) (eBin powD (eC (.int 10)) (eC (.int 60)))) (eBin powD (eC (.int 10)) (eC (.int 60)))) (eBin powD (eC (.int 10)) (eC (.int 60)))) (eBin powD (eC (.int 10)) (eC (.int 60)))) (eBin powD (eC (.int 10)) (eC (.int 60))))) (
  sSeq (sSet 2 (eC (.int 0))) (
  sSeq (sSet 3 (eLc [5] (iSeq (eSl (eVar 0) (oNone) (oSome (eC (.int 63))))) (gSet 5) (bYes) (eBin modD (eUn intD (eLk 5)) (eC (.int 1000541))))) (
  sSeq (sSet 4 (eBin addD (eBin modD (eUn lenD (eLk 0)) (eC (.int 41))) (eC (.int 1877)))) (
  sSeq (sFor [] (iSeq (eVar 3)) (gSet 5) (
  sSet 4 (eBin modD (eUn intD (eBin addD (eBin addD (eBin mulD (eVar 4) (eC (.int 48271))) (eLk 5)) (eC (.int 1)))) (eC (.int 2147483647))))) (
  sSeq (sFor [] (iSeq (eSl (eVar 0) (oNone) (oSome (eC (.int 63))))) (gSet 5) (
  sIf (bAnd (bOf (eBin eqD (eVar 2) (eC (.int 0)))) (bOf (eBin geD (eUn absD (eUn intD (eLk 5))) (eC (.int 1000000000000000000))))) (sSet 2 (eBin modD (eUn absD (eUn intD (eLk 5))) (eLk 1))) (sSkip))) (
  sRetO (eLst (aCons (eC (.int 0)) (aCons (eVar 2) (aCons (eBin addD (eVar 3) (eLst (aCons (eVar 4) (aNil)))) (aCons (eVar 4) (aNil))))))))))))
def r_law_tape : List D → Option D := runO 6 m_law_tape
theorem w_law_tape {P : Program} {w : World} {K : PySem.W.Frag} {mg : Str → Option Value} {base : Heap} {cdv : Value} {fa : Addr} {A : Around} {outer : List Env} {s : Shared} {H : Hp} {E : XK} {c : Cn} (b : Bt mg) (hr : Room 0 (A.deeper (envOfC "_law_tape" (defScope st_law_tape) s.heap.objs.size fa cdv))) :
    PDss (cxOf L2.CX0 P w K mg base N_law_tape "_law_tape" (defScope st_law_tape) fa cdv A outer s H E).nox c (defBody st_law_tape) m_law_tape :=
  have nd : N_law_tape.Nodup := sc_law_tape.nd
  have hu : (A.deeper (envOfC "_law_tape" (defScope st_law_tape) s.heap.objs.size fa cdv)).units + 64 < cLine := by have := hr.un; omega
  qs_cons (qs_set (ps_set (i := 1) nd rfl (by first | exact Or.inl rfl | exact Or.inr rfl) (pd_op opr_mul opd_mul (pd_op opr_mul opd_mul (pd_op opr_mul opd_mul (pd_op opr_mul opd_mul (pd_op opr_mul opd_mul (pd_op op_pow opd_pow (pd_int) (pk_d (pd_int))) (pk_d (pd_op op_pow opd_pow (pd_int) (pk_d (pd_int))))) (pk_d (pd_op op_pow opd_pow (pd_int) (pk_d (pd_int))))) (pk_d (pd_op op_pow opd_pow (pd_int) (pk_d (pd_int))))) (pk_d (pd_op op_pow opd_pow (pd_int) (pk_d (pd_int))))) (pk_d (pd_op op_pow opd_pow (pd_int) (pk_d (pd_int))))))) (
  qs_cons (qs_set (ps_set (i := 2) nd rfl (by first | exact Or.inl rfl | exact Or.inr rfl) (pd_int))) (
  qs_cons (qs_setf (pf_setLc (i := 3) (own := [("cell", 5)]) rfl nd rfl rfl (sw_true rfl rfl rfl (by decide +kernel)) (qi_seq (pd_sl (pd_var (pv 0)) (qo_none) (qo_some (pk_d (pd_int))))) (blkOk_by (by kernel_rfl)) (fun _ _ _ _ _ _ => qg_name (vs := [5]) (pg_name (i := 5) nd rfl (by first | exact Or.inl rfl | exact Or.inr rfl)) (by decide)) (fun _ _ _ _ _ _ => qt_nil) (fun _ _ _ _ _ _ => pd_op op_modN opd_mod (x_int b.int (pk_var (pv 5))) (pk_d (pd_int))))) (
  qs_cons (qs_set (ps_set (i := 4) nd rfl (by first | exact Or.inl rfl | exact Or.inr rfl) (pd_op opr_add opd_add (pd_op op_modN opd_mod (x_len b.len (pk_var (pv 0))) (pk_d (pd_int))) (pk_d (pd_int))))) (
  qs_cons (qs_for (ws := [5]) [] PassesOwn.never rfl (qi_seq (pd_var (pv 3))) (qg_name (vs := [5]) (pg_name (i := 5) nd rfl (by first | exact Or.inl rfl | exact Or.inr rfl)) (by decide)) (
  qs_one (qs_set (ps_set (i := 4) nd rfl (by first | exact Or.inl rfl | exact Or.inr rfl) (pd_op op_modN opd_mod (x_int b.int (pk_d (pd_op opr_add opd_add (pd_op opr_add opd_add (pd_op opr_mul opd_mul (pd_var (pv 4)) (pk_d (pd_int))) (pk_var (pv 5))) (pk_d (pd_int))))) (pk_d (pd_int))))))) (
  qs_cons (qs_for (ws := [5]) [] PassesOwn.never rfl (qi_seq (pd_sl (pd_var (pv 0)) (qo_none) (qo_some (pk_d (pd_int))))) (qg_name (vs := [5]) (pg_name (i := 5) nd rfl (by first | exact Or.inl rfl | exact Or.inr rfl)) (by decide)) (
  qs_one (qs_if ((qw_and (pb_cmp (op_eqP hu) opd_eq (pd_var (pv 2)) (pk_d (pd_int)) (nomark _)) (qw_and1 (pb_cmp op_ge opd_ge (x_abs b.abs (pk_d (x_int b.int (pk_var (pv 5))))) (pk_d (pd_int)) (nomark _)))).pt) (qs_one (qs_set (ps_set (i := 2) nd rfl (by first | exact Or.inl rfl | exact Or.inr rfl) (pd_op op_modN opd_mod (x_abs b.abs (pk_d (x_int b.int (pk_var (pv 5))))) (pk_var (pv 1)))))) (qs_nil)))) (
  qs_one (qs_retO (pf_lst (qa_cons (pd_int) (qa_cons (pd_var (pv 2)) (qa_cons (pd_op opr_add opd_add (pd_var (pv 3)) (pk_f (pf_lst (qa_cons (pd_var (pv 4)) (qa_nil))))) (qa_cons (pd_var (pv 4)) (qa_nil)))))))))))))
abbrev F_law_tape (K : PySem.W.Frag) (f : Addr) (fd : FuncData) : Prop := FunD K "_law_tape" "_law_tape" (defArgs st_law_tape) (defBody st_law_tape) (defScope st_law_tape) [] [] f fd
theorem c_law_tape {P : Program} {w : World} {K : PySem.W.Frag} {mg : Str → Option Value} {base : Heap} {f : Addr} {fd : FuncData} (F : F_law_tape K f fd) (g : mg "_law_tape" = some (.ref f)) (b : Bt mg) : CalN P w K mg base 1 "_law_tape" (So K 1 r_law_tape) :=
  ⟨f, fd, ["script"], ok_o F sc_law_tape rfl (by decide) fun cdv A outer s H E c hr => w_law_tape b hr, g, F.kp, F.bindsN fun _ _ _ _ _ _ us hl => match us, hl with | [_], _ => rfl⟩

/-! _law_draw -/
def N_law_draw : List Str := ["tape", "many", "cells", "turn", "got"]
abbrev st_law_draw : Stmt := top 21
theorem sc_law_draw : FnScope N_law_draw ["tape", "many"] (defScope st_law_draw) := ⟨rfl, rfl, rfl, by decide +kernel, rfl, by decide +kernel, by decide +kernel⟩
def m_law_draw : SM :=
  sSeq (sItem 0 (eBin addD (eBinV ixD 0 (eC (.int 0))) (eC (.int 1))) (eC (.int 0))) (
  sSeq (sIf (bOf (eBin ltD (eVar 1) (eC (.int 2)))) (sRet (eC (.int 0))) (sSkip)) (
  sSeq (sIf (bOf (eBin gtD (eBinV ixD 0 (eC (.int 1))) (eC (.int 0)))) (sSeq (sSet 4 (eBin modD (eUn intD (eBinV ixD 0 (eC (.int 1)))) (eLk 1))) (
  sSeq (sItem 0 (eBin fdivD (eBinV ixD 0 (eC (.int 1))) (eLk 1)) (eC (.int 1))) (
  sRet (eVar 4)))) (sSkip)) (
  sSeq (sSet 2 (eBinV ixD 0 (eC (.int 2)))) (
  sSeq (sSet 3 (eUn intD (eBinV ixD 0 (eC (.int 0))))) (
  sSeq (sItem 0 (eBin modD (eUn intD (eBin addD (eBin addD (eBin mulD (eBinV ixD 0 (eC (.int 3))) (eC (.int 40014))) (eBin mulD (eBinV ixD 2 (eBin modD (eVar 3) (eUn lenD (eLk 2)))) (eC (.int 37)))) (eLk 3))) (eC (.int 2147483647))) (eC (.int 3))) (
  sRet (eBin modD (eUn intD (eBin fdivD (eBinV ixD 0 (eC (.int 3))) (eC (.int 1009)))) (eLk 1))))))))
def r_law_draw : D → List D → Option (D × D) := runJ 5 0 m_law_draw
theorem w_law_draw {P : Program} {w : World} {K : PySem.W.Frag} {mg : Str → Option Value} {base : Heap} {cdv : Value} {fa : Addr} {A : Around} {outer : List Env} {s : Shared} {H : Hp} {E : XK} {c : Cn} (b : Bt mg) (hr : Room 0 (A.deeper (envOfC "_law_draw" (defScope st_law_draw) s.heap.objs.size fa cdv))) :
    PDss (cxOf L2.CX0 P w K mg base N_law_draw "_law_draw" (defScope st_law_draw) fa cdv A outer s H E).nox c (defBody st_law_draw) m_law_draw :=
  have nd : N_law_draw.Nodup := sc_law_draw.nd
  have hu : (A.deeper (envOfC "_law_draw" (defScope st_law_draw) s.heap.objs.size fa cdv)).units + 64 < cLine := by have := hr.un; omega
  qs_cons (x_item (pd_op opr_add opd_add (x_ixV (pv 0) (pk_d (pd_int))) (pk_d (pd_int))) (pv 0) (pk_d (pd_int))) (
  qs_cons (qs_if (pb_cmp op_lt opd_lt (pd_var (pv 1)) (pk_d (pd_int)) (nomark _)) (qs_one (qs_ret (pd_int))) (qs_nil)) (
  qs_cons (qs_if (pb_cmp op_gt opd_gt (x_ixV (pv 0) (pk_d (pd_int))) (pk_d (pd_int)) (nomark _)) (qs_cons (qs_set (ps_set (i := 4) nd rfl (by first | exact Or.inl rfl | exact Or.inr rfl) (pd_op op_modN opd_mod (x_int b.int (pk_d (x_ixV (pv 0) (pk_d (pd_int))))) (pk_var (pv 1))))) (
  qs_cons (x_item (pd_op opr_fdiv opd_fdiv (x_ixV (pv 0) (pk_d (pd_int))) (pk_var (pv 1))) (pv 0) (pk_d (pd_int))) (
  qs_one (qs_ret (pd_var (pv 4)))))) (qs_nil)) (
  qs_cons (qs_set (ps_set (i := 2) nd rfl (by first | exact Or.inl rfl | exact Or.inr rfl) (x_ixV (pv 0) (pk_d (pd_int))))) (
  qs_cons (qs_set (ps_set (i := 3) nd rfl (by first | exact Or.inl rfl | exact Or.inr rfl) (x_int b.int (pk_d (x_ixV (pv 0) (pk_d (pd_int))))))) (
  qs_cons (x_item (pd_op op_modN opd_mod (x_int b.int (pk_d (pd_op opr_add opd_add (pd_op opr_add opd_add (pd_op opr_mul opd_mul (x_ixV (pv 0) (pk_d (pd_int))) (pk_d (pd_int))) (pk_d (pd_op opr_mul opd_mul (x_ixV (pv 2) (pk_d (pd_op op_modN opd_mod (pd_var (pv 3)) (pk_d (x_len b.len (pk_var (pv 2))))))) (pk_d (pd_int))))) (pk_var (pv 3))))) (pk_d (pd_int))) (pv 0) (pk_d (pd_int))) (
  qs_one (qs_ret (pd_op op_modN opd_mod (x_int b.int (pk_d (pd_op opr_fdiv opd_fdiv (x_ixV (pv 0) (pk_d (pd_int))) (pk_d (pd_int))))) (pk_var (pv 1))))))))))
abbrev F_law_draw (K : PySem.W.Frag) (f : Addr) (fd : FuncData) : Prop := FunD K "_law_draw" "_law_draw" (defArgs st_law_draw) (defBody st_law_draw) (defScope st_law_draw) [] [] f fd
theorem c_law_draw {P : Program} {w : World} {K : PySem.W.Frag} {mg : Str → Option Value} {base : Heap} {f : Addr} {fd : FuncData} (F : F_law_draw K f fd) (g : mg "_law_draw" = some (.ref f)) (b : Bt mg) : CalN P w K mg base 1 "_law_draw" (Sj K 2 0 r_law_draw) :=
  ⟨f, fd, ["tape", "many"], ok_j 0 F sc_law_draw rfl (by decide) fun cdv A outer s H E c hr => w_law_draw b hr, g, F.kp, F.bindsN fun _ _ _ _ _ _ us hl => match us, hl with | [_, _], _ => rfl⟩

/-! _law_pours -/
def N_law_pours : List Str := ["tape", "tanks", "size", "habit", "place", "tank"]
abbrev st_law_pours : Stmt := top 22
theorem sc_law_pours : FnScope N_law_pours ["tape", "tanks", "size"] (defScope st_law_pours) := ⟨rfl, rfl, rfl, by decide +kernel, rfl, by decide +kernel, by decide +kernel⟩
def m_law_pours : SM :=
  sSeq (sSet 3 (eCallJ 2 0 r_law_draw (aHere 0 (aCons (eC (.int 4)) (aNil))))) (
  sSeq (sIf (bOf (eBin eqD (eVar 3) (eC (.int 0)))) (sRet (eBin repD (eTup (aCons (eC (.int 0)) (aNil))) (eLk 1))) (sSkip)) (
  sSeq (sIf (bOf (eBin eqD (eVar 3) (eC (.int 1)))) (sSeq (sSet 4 (eCallJ 2 0 r_law_draw (aHere 0 (aCons (eVar 1) (aNil))))) (
  sRet (eUn tupD (eLc [5] (iRange1 (aCons (eVar 1) (aNil))) (gSet 5) (bYes) (eBin mulD (eBin subD (eCallJ 2 0 r_law_draw (aHere 0 (aCons (eBin addD (eBin mulD (eC (.int 2)) (eLk 2)) (eC (.int 1))) (aNil)))) (eLk 2)) (eUn intD (eBin eqD (eVar 5) (eLk 4)))))))) (sSkip)) (
  sRet (eUn tupD (eLc [5] (iRange1 (aCons (eVar 1) (aNil))) (gSet 5) (bYes) (eBin subD (eCallJ 2 0 r_law_draw (aHere 0 (aCons (eBin addD (eBin mulD (eC (.int 2)) (eLk 2)) (eC (.int 1))) (aNil)))) (eLk 2)))))))
def r_law_pours : D → List D → Option (D × D) := runJ 6 0 m_law_pours
theorem w_law_pours {P : Program} {w : World} {K : PySem.W.Frag} {mg : Str → Option Value} {base : Heap} {cdv : Value} {fa : Addr} {A : Around} {outer : List Env} {s : Shared} {H : Hp} {E : XK} {c : Cn} (b : Bt mg) (hr : Room 1 (A.deeper (envOfC "_law_pours" (defScope st_law_pours) s.heap.objs.size fa cdv))) (c_law_draw : CalN P w K mg base 1 "_law_draw" (Sj K 2 0 r_law_draw)) :
    PDss (cxOf L2.CX0 P w K mg base N_law_pours "_law_pours" (defScope st_law_pours) fa cdv A outer s H E).nox c (defBody st_law_pours) m_law_pours :=
  have nd : N_law_pours.Nodup := sc_law_pours.nd
  have hu : (A.deeper (envOfC "_law_pours" (defScope st_law_pours) s.heap.objs.size fa cdv)).units + 64 < cLine := by have := hr.un; omega
  qs_cons (qs_set (ps_set (i := 3) nd rfl (by first | exact Or.inl rfl | exact Or.inr rfl) (pd_callJ c_law_draw hr (by decide) (by rfl) (qj_here (pv 0) (qa_cons (pd_int) (qa_nil)))))) (
  qs_cons (qs_if (pb_cmp (op_eqP hu) opd_eq (pd_var (pv 3)) (pk_d (pd_int)) (nomark _)) (qs_one (qs_ret (pd_op opr_rep opd_rep (pd_tup (qa_cons (pd_int) (qa_nil))) (pk_var (pv 1))))) (qs_nil)) (
  qs_cons (qs_if (pb_cmp (op_eqP hu) opd_eq (pd_var (pv 3)) (pk_d (pd_int)) (nomark _)) (qs_cons (qs_set (ps_set (i := 4) nd rfl (by first | exact Or.inl rfl | exact Or.inr rfl) (pd_callJ c_law_draw hr (by decide) (by rfl) (qj_here (pv 0) (qa_cons (pd_var (pv 1)) (qa_nil)))))) (
  qs_one (qs_ret (x_tuple b.tuple (pk_f (pf_lc (own := [("tank", 5)]) rfl nd (qi_range1 (by rfl) b.range (qa_cons (pd_var (pv 1)) (qa_nil))) (blkOk_by (by kernel_rfl)) (fun _ _ _ _ _ _ => qg_name (vs := [5]) (pg_name (i := 5) nd rfl (by first | exact Or.inl rfl | exact Or.inr rfl)) (by decide)) (fun _ _ _ _ _ _ => qt_nil) (fun _ _ _ _ _ _ => pd_op opr_mul opd_mul (pd_op op_sub opd_sub (pd_callJ c_law_draw hr (by decide) (by rfl) (qj_here (pv 0) (qa_cons (pd_op opr_add opd_add (pd_op opr_mul opd_mul (pd_int) (pk_var (pv 2))) (pk_d (pd_int))) (qa_nil)))) (pk_var (pv 2))) (pk_d (x_int b.int (pk_d (pd_cmp (op_eqP hu) opd_eq (pd_var (pv 5)) (pk_var (pv 4)) (nomark _)))))))))))) (qs_nil)) (
  qs_one (qs_ret (x_tuple b.tuple (pk_f (pf_lc (own := [("tank", 5)]) rfl nd (qi_range1 (by rfl) b.range (qa_cons (pd_var (pv 1)) (qa_nil))) (blkOk_by (by kernel_rfl)) (fun _ _ _ _ _ _ => qg_name (vs := [5]) (pg_name (i := 5) nd rfl (by first | exact Or.inl rfl | exact Or.inr rfl)) (by decide)) (fun _ _ _ _ _ _ => qt_nil) (fun _ _ _ _ _ _ => pd_op op_sub opd_sub (pd_callJ c_law_draw hr (by decide) (by rfl) (qj_here (pv 0) (qa_cons (pd_op opr_add opd_add (pd_op opr_mul opd_mul (pd_int) (pk_var (pv 2))) (pk_d (pd_int))) (qa_nil)))) (pk_var (pv 2))))))))))
abbrev F_law_pours (K : PySem.W.Frag) (f : Addr) (fd : FuncData) : Prop := FunD K "_law_pours" "_law_pours" (defArgs st_law_pours) (defBody st_law_pours) (defScope st_law_pours) [] [] f fd
theorem c_law_pours {P : Program} {w : World} {K : PySem.W.Frag} {mg : Str → Option Value} {base : Heap} {f : Addr} {fd : FuncData} (F : F_law_pours K f fd) (g : mg "_law_pours" = some (.ref f)) (b : Bt mg) (c_law_draw : CalN P w K mg base 1 "_law_draw" (Sj K 2 0 r_law_draw)) : CalN P w K mg base 2 "_law_pours" (Sj K 3 0 r_law_pours) :=
  ⟨f, fd, ["tape", "tanks", "size"], ok_j 0 F sc_law_pours rfl (by decide) fun cdv A outer s H E c hr => w_law_pours b hr c_law_draw, g, F.kp, F.bindsN fun _ _ _ _ _ _ us hl => match us, hl with | [_, _, _], _ => rfl⟩

/-! _law_book -/
def N_law_book : List Str := ["tape", "tanks", "many", "size", "standings", "standing", "moves", "count", "move", "word"]
abbrev st_law_book : Stmt := top 23
theorem sc_law_book : FnScope N_law_book ["tape", "tanks", "many", "size"] (defScope st_law_book) := ⟨rfl, rfl, rfl, by decide +kernel, rfl, by decide +kernel, by decide +kernel⟩
def m_law_book : SM :=
  sSeq (sOwn 4 (eLst (aNil))) (
  sSeq (sFor [5, 6, 7, 8, 9] (iRange1 (aCons (eVar 2) (aNil))) (gSet 5) (
  sSeq (sOwn 6 (eLst (aNil))) (
  sSeq (sSet 7 (eBin ixD (eLst (aCons (eC (.int 1)) (aCons (eC (.int 2)) (aCons (eC (.int 2)) (aCons (eC (.int 3)) (aCons (eC (.int 1)) (aCons (eC (.int 2)) (aCons (eC (.int 0)) (aNil))))))))) (eCallJ 2 0 r_law_draw (aHere 0 (aCons (eC (.int 7)) (aNil)))))) (
  sSeq (sFor [8, 9] (iRange1 (aCons (eVar 7) (aNil))) (gSet 8) (
  sSeq (sSet 9 (eBin addD (eBin ixD (eC (.str (PySem.Str.ofString "abc"))) (eLk 8)) (eBin ixD (eLst (aCons (eC (.str (PySem.Str.ofString ""))) (aCons (eC (.str (PySem.Str.ofString "0"))) (aCons (eC (.str (PySem.Str.ofString "17"))) (aCons (eC (.str (PySem.Str.ofString "x"))) (aNil)))))) (eCallJ 2 0 r_law_draw (aHere 0 (aCons (eC (.int 4)) (aNil))))))) (
  sAppend 6 (eTup (aCons (eVar 9) (aCons (eCallJ 3 0 r_law_pours (aHere 0 (aCons (eVar 1) (aCons (eVar 3) (aNil))))) (aCons (eCallJ 2 0 r_law_draw (aHere 0 (aCons (eVar 2) (aNil)))) (aNil)))))))) (
  sAppend 4 (eTup (aCons (eBin ixD (eLst (aCons (eC (.str (PySem.Str.ofString "house"))) (aCons (eC (.str (PySem.Str.ofString "outside"))) (aNil)))) (eCallJ 2 0 r_law_draw (aHere 0 (aCons (eC (.int 2)) (aNil))))) (aCons (eUn tupD (eLk 6)) (aNil))))))))) (
  sRet (eTup (aCons (eVar 1) (aCons (eUn tupD (eLk 4)) (aNil))))))
def r_law_book : D → List D → Option (D × D) := runJ 10 0 m_law_book
theorem w_law_book {P : Program} {w : World} {K : PySem.W.Frag} {mg : Str → Option Value} {base : Heap} {cdv : Value} {fa : Addr} {A : Around} {outer : List Env} {s : Shared} {H : Hp} {E : XK} {c : Cn} (b : Bt mg) (hr : Room 2 (A.deeper (envOfC "_law_book" (defScope st_law_book) s.heap.objs.size fa cdv))) (c_law_draw : CalN P w K mg base 1 "_law_draw" (Sj K 2 0 r_law_draw)) (c_law_pours : CalN P w K mg base 2 "_law_pours" (Sj K 3 0 r_law_pours)) :
    PDss (cxOf L2.CX0 P w K mg base N_law_book "_law_book" (defScope st_law_book) fa cdv A outer s H E).nox c (defBody st_law_book) m_law_book :=
  have nd : N_law_book.Nodup := sc_law_book.nd
  have hu : (A.deeper (envOfC "_law_book" (defScope st_law_book) s.heap.objs.size fa cdv)).units + 64 < cLine := by have := hr.un; omega
  qs_cons (qs_own (ps_set (i := 4) nd rfl (by first | exact Or.inl rfl | exact Or.inr rfl) (pf_lst (qa_nil)))) (
  qs_cons (qs_for (ws := [5]) [5, 6, 7, 8, 9] PassesOwn.never rfl (qi_range1 (by rfl) b.range (qa_cons (pd_var (pv 2)) (qa_nil))) (qg_name (vs := [5]) (pg_name (i := 5) nd rfl (by first | exact Or.inl rfl | exact Or.inr rfl)) (by decide)) (
  qs_cons (qs_own (ps_set (i := 6) nd rfl (by first | exact Or.inl rfl | exact Or.inr rfl) (pf_lst (qa_nil)))) (
  qs_cons (qs_set (ps_set (i := 7) nd rfl (by first | exact Or.inl rfl | exact Or.inr rfl) (x_ix (pd_f (pf_lst (qa_cons (pd_int) (qa_cons (pd_int) (qa_cons (pd_int) (qa_cons (pd_int) (qa_cons (pd_int) (qa_cons (pd_int) (qa_cons (pd_int) (qa_nil)))))))))) (pk_d (pd_callJ c_law_draw hr (by decide) (by rfl) (qj_here (pv 0) (qa_cons (pd_int) (qa_nil)))))))) (
  qs_cons (qs_for (ws := [8]) [8, 9] PassesOwn.never rfl (qi_range1 (by rfl) b.range (qa_cons (pd_var (pv 7)) (qa_nil))) (qg_name (vs := [8]) (pg_name (i := 8) nd rfl (by first | exact Or.inl rfl | exact Or.inr rfl)) (by decide)) (
  qs_cons (qs_set (ps_set (i := 9) nd rfl (by first | exact Or.inl rfl | exact Or.inr rfl) (pd_op opr_add opd_add (x_ix (pd_str) (pk_var (pv 8))) (pk_d (x_ix (pd_f (pf_lst (qa_cons (pd_str) (qa_cons (pd_str) (qa_cons (pd_str) (qa_cons (pd_str) (qa_nil))))))) (pk_d (pd_callJ c_law_draw hr (by decide) (by rfl) (qj_here (pv 0) (qa_cons (pd_int) (qa_nil)))))))))) (
  qs_one (x_append (pv 6) (pd_tup (qa_cons (pd_var (pv 9)) (qa_cons (pd_callJ c_law_pours hr (by decide) (by rfl) (qj_here (pv 0) (qa_cons (pd_var (pv 1)) (qa_cons (pd_var (pv 3)) (qa_nil))))) (qa_cons (pd_callJ c_law_draw hr (by decide) (by rfl) (qj_here (pv 0) (qa_cons (pd_var (pv 2)) (qa_nil)))) (qa_nil))))))))) (
  qs_one (x_append (pv 4) (pd_tup (qa_cons (x_ix (pd_f (pf_lst (qa_cons (pd_str) (qa_cons (pd_str) (qa_nil))))) (pk_d (pd_callJ c_law_draw hr (by decide) (by rfl) (qj_here (pv 0) (qa_cons (pd_int) (qa_nil)))))) (qa_cons (x_tuple b.tuple (pk_var (pv 6))) (qa_nil)))))))))) (
  qs_one (qs_ret (pd_tup (qa_cons (pd_var (pv 1)) (qa_cons (x_tuple b.tuple (pk_var (pv 4))) (qa_nil)))))))
abbrev F_law_book (K : PySem.W.Frag) (f : Addr) (fd : FuncData) : Prop := FunD K "_law_book" "_law_book" (defArgs st_law_book) (defBody st_law_book) (defScope st_law_book) [] [] f fd
theorem c_law_book {P : Program} {w : World} {K : PySem.W.Frag} {mg : Str → Option Value} {base : Heap} {f : Addr} {fd : FuncData} (F : F_law_book K f fd) (g : mg "_law_book" = some (.ref f)) (b : Bt mg) (c_law_draw : CalN P w K mg base 1 "_law_draw" (Sj K 2 0 r_law_draw)) (c_law_pours : CalN P w K mg base 2 "_law_pours" (Sj K 3 0 r_law_pours)) : CalN P w K mg base 3 "_law_book" (Sj K 4 0 r_law_book) :=
  ⟨f, fd, ["tape", "tanks", "many", "size"], ok_j 0 F sc_law_book rfl (by decide) fun cdv A outer s H E c hr => w_law_book b hr c_law_draw c_law_pours, g, F.kp, F.bindsN fun _ _ _ _ _ _ us hl => match us, hl with | [_, _, _, _], _ => rfl⟩

/-! _law_same -/
def N_law_same : List Str := ["told", "due", "k"]
abbrev st_law_same : Stmt := top 24
theorem sc_law_same : FnScope N_law_same ["told", "due"] (defScope st_law_same) := ⟨rfl, rfl, rfl, by decide +kernel, rfl, by decide +kernel, by decide +kernel⟩
def m_law_same (r_self : List D → Option D) : SM :=
  sSeq (sIf (bTru (eIsiT [.tup, .lst] (eLk 1))) (sSeq (sIf (bOr (bNot (bTru (eIsi .tup (eLk 0)))) (bOf (eBin neD (eUn lenD (eLk 0)) (eUn lenD (eLk 1))))) (sRet (eC (.bl false))) (sSkip)) (
  sSeq (sFor [2] (iRange1 (aCons (eUn lenD (eLk 1)) (aNil))) (gSet 2) (
  sIf (bNot (bTru (eCall 2 r_self (aCons (eBinV ixD 0 (eLk 2)) (aCons (eBinV ixD 1 (eLk 2)) (aNil)))))) (sRet (eC (.bl false))) (sSkip))) (
  sRet (eC (.bl true))))) (sSkip)) (
  sSeq (sIf (bOf (eBin isD (eVar 1) (eC .non))) (sRet (eBin isD (eVar 0) (eC .non))) (sSkip)) (
  sSeq (sIf (bTru (eIsi .str (eLk 1))) (sRet (eAnd (eIsi .str (eLk 0)) (eBin eqD (eVar 0) (eLk 1)))) (sSkip)) (
  sSeq (sIf (bTru (eIsi .bl (eLk 1))) (sRet (eAnd (eIsi .bl (eLk 0)) (eBin eqD (eVar 0) (eLk 1)))) (sSkip)) (
  sRet (eAnd (eIsi .int (eLk 0)) (eAnd (eNot (eIsi .bl (eLk 0))) (eBin eqD (eVar 0) (eLk 1))))))))
def r_law_same : Nat → List D → Option D
  | 0 => fun _ => none
  | n + 1 => runF 3 (m_law_same (r_law_same n))
theorem w_law_same {P : Program} {w : World} {K : PySem.W.Frag} {mg : Str → Option Value} {base : Heap} {cdv : Value} {fa : Addr} {A : Around} {outer : List Env} {s : Shared} {H : Hp} {E : XK} {c : Cn} {k : Nat} {r_self : List D → Option D} (b : Bt mg) (hr : Room k (A.deeper (envOfC "_law_same" (defScope st_law_same) s.heap.objs.size fa cdv))) (c_law_same : CalN P w K mg base k "_law_same" (Sf K 2 r_self)) :
    PDss (cxOf L2.CX0 P w K mg base N_law_same "_law_same" (defScope st_law_same) fa cdv A outer s H E).nox c (defBody st_law_same) (m_law_same r_self) :=
  have nd : N_law_same.Nodup := sc_law_same.nd
  have hu : (A.deeper (envOfC "_law_same" (defScope st_law_same) s.heap.objs.size fa cdv)).units + 64 < cLine := by have := hr.un; omega
  qs_cons (qs_if (pb_tru (pk_d (x_isiT b.isinstance (pk_var (pv 1)) (pa_tys (x_ty .tup b.tuple) (pa_tys (x_ty .lst b.list) (pa_tys0))))) (by intro _; rfl)) (qs_cons (qs_if ((qw_or (pb_not (pb_tru (pk_d (x_isi .tup b.isinstance b.tuple (pk_var (pv 0)))) (by intro _; rfl))) (qw_or1 (pb_cmp (op_neP hu) opd_ne (x_len b.len (pk_var (pv 0))) (pk_d (x_len b.len (pk_var (pv 1)))) (nomark _)))).pt) (qs_one (qs_ret (pd_bl))) (qs_nil)) (
  qs_cons (qs_for (ws := [2]) [2] PassesOwn.never rfl (qi_range1 (by rfl) b.range (qa_cons (x_len b.len (pk_var (pv 1))) (qa_nil))) (qg_name (vs := [2]) (pg_name (i := 2) nd rfl (by first | exact Or.inl rfl | exact Or.inr rfl)) (by decide)) (
  qs_one (qs_if (pb_not (pb_tru (pk_d (pd_call c_law_same hr (Nat.le_refl _) (by rfl) (qa_cons (x_ixV (pv 0) (pk_var (pv 2))) (qa_cons (x_ixV (pv 1) (pk_var (pv 2))) (qa_nil))))) (by intro _; rfl))) (qs_one (qs_ret (pd_bl))) (qs_nil)))) (
  qs_one (qs_ret (pd_bl))))) (qs_nil)) (
  qs_cons (qs_if (pb_cmp opr_is opd_is (pd_var (pv 1)) (pk_d (pd_non)) (nomark _)) (qs_one (qs_ret (pd_cmp opr_is opd_is (pd_var (pv 0)) (pk_d (pd_non)) (nomark _)))) (qs_nil)) (
  qs_cons (qs_if (pb_tru (pk_d (x_isi .str b.isinstance b.str (pk_var (pv 1)))) (by intro _; rfl)) (qs_one (qs_ret (pd_and (x_isi .str b.isinstance b.str (pk_var (pv 0))) (pd_one (pd_cmp (op_eqP hu) opd_eq (pd_var (pv 0)) (pk_var (pv 1)) (nomark _)))))) (qs_nil)) (
  qs_cons (qs_if (pb_tru (pk_d (x_isi .bl b.isinstance b.bool (pk_var (pv 1)))) (by intro _; rfl)) (qs_one (qs_ret (pd_and (x_isi .bl b.isinstance b.bool (pk_var (pv 0))) (pd_one (pd_cmp (op_eqP hu) opd_eq (pd_var (pv 0)) (pk_var (pv 1)) (nomark _)))))) (qs_nil)) (
  qs_one (qs_ret (pd_and (x_isi .int b.isinstance b.int (pk_var (pv 0))) (pd_and (pd_not (x_isi .bl b.isinstance b.bool (pk_var (pv 0)))) (pd_one (pd_cmp (op_eqP hu) opd_eq (pd_var (pv 0)) (pk_var (pv 1)) (nomark _))))))))))
abbrev F_law_same (K : PySem.W.Frag) (f : Addr) (fd : FuncData) : Prop := FunD K "_law_same" "_law_same" (defArgs st_law_same) (defBody st_law_same) (defScope st_law_same) [] [] f fd
theorem c_law_same {P : Program} {w : World} {K : PySem.W.Frag} {mg : Str → Option Value} {base : Heap} {f : Addr} {fd : FuncData} (F : F_law_same K f fd) (g : mg "_law_same" = some (.ref f)) (b : Bt mg) : ∀ n : Nat, CalN P w K mg base n "_law_same" (Sf K 2 (r_law_same n))
  | 0 => ⟨f, fd, ["told", "due"], ⟨fun vs H Q E ⟨_, _, _, hl, _⟩ => hl, fun A outer s H args us vs Q E hr e0 hb r ⟨_, _, _, _, _, q, _⟩ => by cases q⟩, g, F.kp, F.bindsN fun _ _ _ _ _ _ us hl => match us, hl with | [_, _], _ => rfl⟩
  | n + 1 => ⟨f, fd, ["told", "due"], ok_f F sc_law_same rfl (by decide) fun cdv A outer s H E c hr => w_law_same b hr (c_law_same F g b n), g, F.kp, F.bindsN fun _ _ _ _ _ _ us hl => match us, hl with | [_, _], _ => rfl⟩

/-! _law_all -/
def N_law_all : List Str := ["tanks", "most", "rows", "tank", "fresh", "row", "level"]
abbrev st_law_all : Stmt := top 25
theorem sc_law_all : FnScope N_law_all ["tanks", "most"] (defScope st_law_all) := ⟨rfl, rfl, rfl, by decide +kernel, rfl, by decide +kernel, by decide +kernel⟩
def m_law_all : SM :=
  sSeq (sSet 2 (eLst (aCons (eTup (aNil)) (aNil)))) (
  sSeq (sFor [3, 4, 5] (iRange1 (aCons (eVar 0) (aNil))) (gSet 3) (
  sSeq (sSet 4 (eLst (aNil))) (
  sSeq (sFor [5] (iSeq (eVar 2)) (gSet 5) (
  sSet 4 (eBin addD (eVar 4) (eLc [6] (iRange1 (aCons (eBin addD (eVar 1) (eC (.int 1))) (aNil))) (gSet 6) (bYes) (eBin addD (eVar 5) (eTup (aCons (eVar 6) (aNil)))))))) (
  sSet 2 (eVar 4))))) (
  sRet (eVar 2)))
def r_law_all : List D → Option D := runF 7 m_law_all
theorem w_law_all {P : Program} {w : World} {K : PySem.W.Frag} {mg : Str → Option Value} {base : Heap} {cdv : Value} {fa : Addr} {A : Around} {outer : List Env} {s : Shared} {H : Hp} {E : XK} {c : Cn} (b : Bt mg) (hr : Room 0 (A.deeper (envOfC "_law_all" (defScope st_law_all) s.heap.objs.size fa cdv))) :
    PDss (cxOf L2.CX0 P w K mg base N_law_all "_law_all" (defScope st_law_all) fa cdv A outer s H E).nox c (defBody st_law_all) m_law_all :=
  have nd : N_law_all.Nodup := sc_law_all.nd
  have hu : (A.deeper (envOfC "_law_all" (defScope st_law_all) s.heap.objs.size fa cdv)).units + 64 < cLine := by have := hr.un; omega
  qs_cons (qs_set (ps_set (i := 2) nd rfl (by first | exact Or.inl rfl | exact Or.inr rfl) (pd_f (pf_lst (qa_cons (pd_tup (qa_nil)) (qa_nil)))))) (
  qs_cons (qs_for (ws := [3]) [3, 4, 5] PassesOwn.never rfl (qi_range1 (by rfl) b.range (qa_cons (pd_var (pv 0)) (qa_nil))) (qg_name (vs := [3]) (pg_name (i := 3) nd rfl (by first | exact Or.inl rfl | exact Or.inr rfl)) (by decide)) (
  qs_cons (qs_set (ps_set (i := 4) nd rfl (by first | exact Or.inl rfl | exact Or.inr rfl) (pd_f (pf_lst (qa_nil))))) (
  qs_cons (qs_for (ws := [5]) [5] PassesOwn.never rfl (qi_seq (pd_var (pv 2))) (qg_name (vs := [5]) (pg_name (i := 5) nd rfl (by first | exact Or.inl rfl | exact Or.inr rfl)) (by decide)) (
  qs_one (qs_set (ps_set (i := 4) nd rfl (by first | exact Or.inl rfl | exact Or.inr rfl) (pd_op opr_add opd_add (pd_var (pv 4)) (pk_f (pf_lc (own := [("level", 6)]) rfl nd (qi_range1 (by rfl) b.range (qa_cons (pd_op opr_add opd_add (pd_var (pv 1)) (pk_d (pd_int))) (qa_nil))) (blkOk_by (by kernel_rfl)) (fun _ _ _ _ _ _ => qg_name (vs := [6]) (pg_name (i := 6) nd rfl (by first | exact Or.inl rfl | exact Or.inr rfl)) (by decide)) (fun _ _ _ _ _ _ => qt_nil) (fun _ _ _ _ _ _ => pd_op opr_add opd_add (pd_var (pv 5)) (pk_d (pd_tup (qa_cons (pd_var (pv 6)) (qa_nil)))))))))))) (
  qs_one (qs_set (ps_set (i := 2) nd rfl (by first | exact Or.inl rfl | exact Or.inr rfl) (pd_var (pv 4)))))))) (
  qs_one (qs_ret (pd_var (pv 2)))))
abbrev F_law_all (K : PySem.W.Frag) (f : Addr) (fd : FuncData) : Prop := FunD K "_law_all" "_law_all" (defArgs st_law_all) (defBody st_law_all) (defScope st_law_all) [] [] f fd
theorem c_law_all {P : Program} {w : World} {K : PySem.W.Frag} {mg : Str → Option Value} {base : Heap} {f : Addr} {fd : FuncData} (F : F_law_all K f fd) (g : mg "_law_all" = some (.ref f)) (b : Bt mg) : CalN P w K mg base 1 "_law_all" (Sf K 2 r_law_all) :=
  ⟨f, fd, ["tanks", "most"], ok_f F sc_law_all rfl (by decide) fun cdv A outer s H E c hr => w_law_all b hr, g, F.kp, F.bindsN fun _ _ _ _ _ _ us hl => match us, hl with | [_, _], _ => rfl⟩

/-! _law_marked -/
def N_law_marked : List Str := ["rows", "found", "levels"]
abbrev st_law_marked : Stmt := top 26
theorem sc_law_marked : FnScope N_law_marked ["rows"] (defScope st_law_marked) := ⟨rfl, rfl, rfl, by decide +kernel, rfl, by decide +kernel, by decide +kernel⟩
def m_law_marked : SM :=
  sSeq (sOwn 1 (eDT)) (
  sSeq (sFor [2] (iSeq (eVar 0)) (gSet 2) (
  sDPutE 1 (eLk 2) (eC (.bl true)))) (
  sRet (eVar 1)))
def r_law_marked : List D → Option D := runF 3 m_law_marked
theorem w_law_marked {P : Program} {w : World} {K : PySem.W.Frag} {mg : Str → Option Value} {base : Heap} {cdv : Value} {fa : Addr} {A : Around} {outer : List Env} {s : Shared} {H : Hp} {E : XK} {c : Cn} (b : Bt mg) (hr : Room 0 (A.deeper (envOfC "_law_marked" (defScope st_law_marked) s.heap.objs.size fa cdv))) :
    PDss (cxOf L2.CX0 P w K mg base N_law_marked "_law_marked" (defScope st_law_marked) fa cdv A outer s H E).nox c (defBody st_law_marked) m_law_marked :=
  have nd : N_law_marked.Nodup := sc_law_marked.nd
  have hu : (A.deeper (envOfC "_law_marked" (defScope st_law_marked) s.heap.objs.size fa cdv)).units + 64 < cLine := by have := hr.un; omega
  qs_cons (qs_own (ps_set (i := 1) nd rfl (by first | exact Or.inl rfl | exact Or.inr rfl) (pf_dT))) (
  qs_cons (qs_for (ws := [2]) [2] PassesOwn.never rfl (qi_seq (pd_var (pv 0))) (qg_name (vs := [2]) (pg_name (i := 2) nd rfl (by first | exact Or.inl rfl | exact Or.inr rfl)) (by decide)) (
  qs_one (x_dput hu (pd_bl) (pv 1) (pk_var (pv 2))))) (
  qs_one (qs_ret (pd_var (pv 1)))))
abbrev F_law_marked (K : PySem.W.Frag) (f : Addr) (fd : FuncData) : Prop := FunD K "_law_marked" "_law_marked" (defArgs st_law_marked) (defBody st_law_marked) (defScope st_law_marked) [] [] f fd
theorem c_law_marked {P : Program} {w : World} {K : PySem.W.Frag} {mg : Str → Option Value} {base : Heap} {f : Addr} {fd : FuncData} (F : F_law_marked K f fd) (g : mg "_law_marked" = some (.ref f)) (b : Bt mg) : CalN P w K mg base 1 "_law_marked" (Sf K 1 r_law_marked) :=
  ⟨f, fd, ["rows"], ok_f F sc_law_marked rfl (by decide) fun cdv A outer s H E c hr => w_law_marked b hr, g, F.kp, F.bindsN fun _ _ _ _ _ _ us hl => match us, hl with | [_], _ => rfl⟩

/-! _law_kept -/
def N_law_kept : List Str := ["book", "ahead", "owner", "moves", "levels", "most", "good", "word", "pours", "to", "new", "tank"]
abbrev st_law_kept : Stmt := top 27
theorem sc_law_kept : FnScope N_law_kept ["book", "ahead", "owner", "moves", "levels", "most"] (defScope st_law_kept) := ⟨rfl, rfl, rfl, by decide +kernel, rfl, by decide +kernel, by decide +kernel⟩
def m_law_kept : SM :=
  sSeq (sIf (bOf (eBin eqD (eUn lenD (eLk 3)) (eC (.int 0)))) (sRet (eC (.bl true))) (sSkip)) (
  sSeq (sSet 6 (eC (.int 0))) (
  sSeq (sFor [7, 8, 9, 10] (iSeq (eVar 3)) (gTups 3 (gMore (gSet 7) (gMore (gSet 8) (gMore (gSet 9) (gNone))))) (
  sSeq (sSet 10 (eUn tupD (eLc [11] (iRange1 (aCons (eUn lenD (eLk 4)) (aNil))) (gSet 11) (bYes) (eBin min2D (eVar 5) (eBin addD (eBinV ixD 4 (eLk 11)) (eBinV ixD 8 (eLk 11))))))) (
  sIf (bAnd (bOf (eBin geD (eUn minD (eLk 10)) (eC (.int 0)))) (bOf (eBin dinD (eVar 10) (eBinV ixD 1 (eLk 9))))) (sSet 6 (eBin addD (eVar 6) (eC (.int 1)))) (sSkip)))) (
  sRet (eIf (bOf (eBin eqD (eVar 2) (eC (.str (PySem.Str.ofString "house"))))) (eBin gtD (eVar 6) (eC (.int 0))) (eBin eqD (eVar 6) (eUn lenD (eLk 3)))))))
def r_law_kept : List D → Option D := runF 12 m_law_kept
theorem w_law_kept {P : Program} {w : World} {K : PySem.W.Frag} {mg : Str → Option Value} {base : Heap} {cdv : Value} {fa : Addr} {A : Around} {outer : List Env} {s : Shared} {H : Hp} {E : XK} {c : Cn} (b : Bt mg) (hr : Room 0 (A.deeper (envOfC "_law_kept" (defScope st_law_kept) s.heap.objs.size fa cdv))) :
    PDss (cxOf L2.CX0 P w K mg base N_law_kept "_law_kept" (defScope st_law_kept) fa cdv A outer s H E).nox c (defBody st_law_kept) m_law_kept :=
  have nd : N_law_kept.Nodup := sc_law_kept.nd
  have hu : (A.deeper (envOfC "_law_kept" (defScope st_law_kept) s.heap.objs.size fa cdv)).units + 64 < cLine := by have := hr.un; omega
  qs_cons (qs_if (pb_cmp (op_eqP hu) opd_eq (x_len b.len (pk_var (pv 3))) (pk_d (pd_int)) (nomark _)) (qs_one (qs_ret (pd_bl))) (qs_nil)) (
  qs_cons (qs_set (ps_set (i := 6) nd rfl (by first | exact Or.inl rfl | exact Or.inr rfl) (pd_int))) (
  qs_cons (qs_for (ws := [7, 8, 9]) [7, 8, 9, 10] PassesOwn.never rfl (qi_seq (pd_var (pv 3))) (qg_tup rfl (qg_more (qg_name (vs := [7, 8, 9]) (pg_name (i := 7) nd rfl (by first | exact Or.inl rfl | exact Or.inr rfl)) (by decide)) (qg_more (qg_name (vs := [7, 8, 9]) (pg_name (i := 8) nd rfl (by first | exact Or.inl rfl | exact Or.inr rfl)) (by decide)) (qg_more (qg_name (vs := [7, 8, 9]) (pg_name (i := 9) nd rfl (by first | exact Or.inl rfl | exact Or.inr rfl)) (by decide)) (qg_none))))) (
  qs_cons (qs_set (ps_set (i := 10) nd rfl (by first | exact Or.inl rfl | exact Or.inr rfl) (x_tuple b.tuple (pk_f (pf_lc (own := [("tank", 11)]) rfl nd (qi_range1 (by rfl) b.range (qa_cons (x_len b.len (pk_var (pv 4))) (qa_nil))) (blkOk_by (by kernel_rfl)) (fun _ _ _ _ _ _ => qg_name (vs := [11]) (pg_name (i := 11) nd rfl (by first | exact Or.inl rfl | exact Or.inr rfl)) (by decide)) (fun _ _ _ _ _ _ => qt_nil) (fun _ _ _ _ _ _ => x_min2 rfl b.min (pd_var (pv 5)) (pk_d (pd_op opr_add opd_add (x_ixV (pv 4) (pk_var (pv 11))) (pk_d (x_ixV (pv 8) (pk_var (pv 11)))))))))))) (
  qs_one (qs_if ((qw_and (pb_cmp op_ge opd_ge (x_min1 rfl b.min (pk_var (pv 10))) (pk_d (pd_int)) (nomark _)) (qw_and1 (x_dinb hu (pd_var (pv 10)) (pk_d (x_ixV (pv 1) (pk_var (pv 9))))))).pt) (qs_one (qs_set (ps_set (i := 6) nd rfl (by first | exact Or.inl rfl | exact Or.inr rfl) (pd_op opr_add opd_add (pd_var (pv 6)) (pk_d (pd_int)))))) (qs_nil))))) (
  qs_one (qs_ret (pd_if (pb_cmp (op_eqP hu) opd_eq (pd_var (pv 2)) (pk_d (pd_str)) (nomark _)) (pd_cmp op_gt opd_gt (pd_var (pv 6)) (pk_d (pd_int)) (nomark _)) (pd_cmp (op_eqP hu) opd_eq (pd_var (pv 6)) (pk_d (x_len b.len (pk_var (pv 3)))) (nomark _)))))))
abbrev F_law_kept (K : PySem.W.Frag) (f : Addr) (fd : FuncData) : Prop := FunD K "_law_kept" "_law_kept" (defArgs st_law_kept) (defBody st_law_kept) (defScope st_law_kept) [] [] f fd
theorem c_law_kept {P : Program} {w : World} {K : PySem.W.Frag} {mg : Str → Option Value} {base : Heap} {f : Addr} {fd : FuncData} (F : F_law_kept K f fd) (g : mg "_law_kept" = some (.ref f)) (b : Bt mg) : CalN P w K mg base 1 "_law_kept" (Sf K 6 r_law_kept) :=
  ⟨f, fd, ["book", "ahead", "owner", "moves", "levels", "most"], ok_f F sc_law_kept rfl (by decide) fun cdv A outer s H E c hr => w_law_kept b hr, g, F.kp, F.bindsN fun _ _ _ _ _ _ us hl => match us, hl with | [_, _, _, _, _, _], _ => rfl⟩

/-! _law_boxes -/
def N_law_boxes : List Str := ["book", "most", "many", "whole", "tables", "turn", "tanks", "standings", "ahead", "fresh", "owner", "moves", "standing", "levels"]
abbrev st_law_boxes : Stmt := top 28
theorem sc_law_boxes : FnScope N_law_boxes ["book", "most", "many"] (defScope st_law_boxes) := ⟨rfl, rfl, rfl, by decide +kernel, rfl, by decide +kernel, by decide +kernel⟩
def m_law_boxes : SM :=
  sSeq (sAsg (eVar 0) (gTups 2 (gMore (gSet 6) (gMore (gSet 7) (gNone))))) (
  sSeq (sSet 3 (eCall 2 r_law_all (aCons (eVar 6) (aCons (eVar 1) (aNil))))) (
  sSeq (sOwn 4 (eLst (aCons (eLc [12] (iSeq (eVar 7)) (gSet 12) (bYes) (eCall 1 r_law_marked (aCons (eVar 3) (aNil)))) (aNil)))) (
  sSeq (sFor [5, 8, 9, 10, 11] (iRange1 (aCons (eVar 2) (aNil))) (gSet 5) (
  sSeq (sSet 8 (eBinV ixD 4 (eUn negD (eC (.int 1))))) (
  sSeq (sOwn 9 (eLst (aNil))) (
  sSeq (sFor [10, 11] (iSeq (eVar 7)) (gTups 2 (gMore (gSet 10) (gMore (gSet 11) (gNone)))) (
  sAppend 9 (eCall 1 r_law_marked (aCons (eLc [13] (iSeq (eVar 3)) (gSet 13) (bTru (eCall 6 r_law_kept (aCons (eVar 0) (aCons (eVar 8) (aCons (eVar 10) (aCons (eVar 11) (aCons (eVar 13) (aCons (eVar 1) (aNil))))))))) (eVar 13)) (aNil))))) (
  sAppend 4 (eVar 9)))))) (
  sRet (eVar 4)))))
def r_law_boxes : List D → Option D := runF 14 m_law_boxes
theorem w_law_boxes {P : Program} {w : World} {K : PySem.W.Frag} {mg : Str → Option Value} {base : Heap} {cdv : Value} {fa : Addr} {A : Around} {outer : List Env} {s : Shared} {H : Hp} {E : XK} {c : Cn} (b : Bt mg) (hr : Room 1 (A.deeper (envOfC "_law_boxes" (defScope st_law_boxes) s.heap.objs.size fa cdv))) (c_law_all : CalN P w K mg base 1 "_law_all" (Sf K 2 r_law_all)) (c_law_marked : CalN P w K mg base 1 "_law_marked" (Sf K 1 r_law_marked)) (c_law_kept : CalN P w K mg base 1 "_law_kept" (Sf K 6 r_law_kept)) :
    PDss (cxOf L2.CX0 P w K mg base N_law_boxes "_law_boxes" (defScope st_law_boxes) fa cdv A outer s H E).nox c (defBody st_law_boxes) m_law_boxes :=
  have nd : N_law_boxes.Nodup := sc_law_boxes.nd
  have hu : (A.deeper (envOfC "_law_boxes" (defScope st_law_boxes) s.heap.objs.size fa cdv)).units + 64 < cLine := by have := hr.un; omega
  qs_cons (qs_asg (ps_asg (pd_var (pv 0)) (qg_tup rfl (qg_more (qg_name (vs := [6, 7]) (pg_name (i := 6) nd rfl (by first | exact Or.inl rfl | exact Or.inr rfl)) (by decide)) (qg_more (qg_name (vs := [6, 7]) (pg_name (i := 7) nd rfl (by first | exact Or.inl rfl | exact Or.inr rfl)) (by decide)) (qg_none)))))) (
  qs_cons (qs_set (ps_set (i := 3) nd rfl (by first | exact Or.inl rfl | exact Or.inr rfl) (pd_call c_law_all hr (by decide) (by rfl) (qa_cons (pd_var (pv 6)) (qa_cons (pd_var (pv 1)) (qa_nil)))))) (
  qs_cons (qs_own (ps_set (i := 4) nd rfl (by first | exact Or.inl rfl | exact Or.inr rfl) (pf_lst (qa_cons (pd_f (pf_lc (own := [("standing", 12)]) rfl nd (qi_seq (pd_var (pv 7))) (blkOk_by (by kernel_rfl)) (fun _ _ _ _ _ _ => qg_name (vs := [12]) (pg_name (i := 12) nd rfl (by first | exact Or.inl rfl | exact Or.inr rfl)) (by decide)) (fun _ _ _ _ _ _ => qt_nil) (fun _ _ _ _ _ _ => pd_call c_law_marked hr (by decide) (by rfl) (qa_cons (pd_var (pv 3)) (qa_nil))))) (qa_nil))))) (
  qs_cons (qs_for (ws := [5]) [5, 8, 9, 10, 11] PassesOwn.never rfl (qi_range1 (by rfl) b.range (qa_cons (pd_var (pv 2)) (qa_nil))) (qg_name (vs := [5]) (pg_name (i := 5) nd rfl (by first | exact Or.inl rfl | exact Or.inr rfl)) (by decide)) (
  qs_cons (qs_set (ps_set (i := 8) nd rfl (by first | exact Or.inl rfl | exact Or.inr rfl) (x_ixV (pv 4) (pk_d (pd_un un_neg opd_neg (pk_d (pd_int))))))) (
  qs_cons (qs_own (ps_set (i := 9) nd rfl (by first | exact Or.inl rfl | exact Or.inr rfl) (pf_lst (qa_nil)))) (
  qs_cons (qs_for (ws := [10, 11]) [10, 11] PassesOwn.never rfl (qi_seq (pd_var (pv 7))) (qg_tup rfl (qg_more (qg_name (vs := [10, 11]) (pg_name (i := 10) nd rfl (by first | exact Or.inl rfl | exact Or.inr rfl)) (by decide)) (qg_more (qg_name (vs := [10, 11]) (pg_name (i := 11) nd rfl (by first | exact Or.inl rfl | exact Or.inr rfl)) (by decide)) (qg_none)))) (
  qs_one (x_append (pv 9) (pd_call c_law_marked hr (by decide) (by rfl) (qa_cons (pd_f (pf_lc (own := [("levels", 13)]) rfl nd (qi_seq (pd_var (pv 3))) (blkOk_by (by kernel_rfl)) (fun _ _ _ _ _ _ => qg_name (vs := [13]) (pg_name (i := 13) nd rfl (by first | exact Or.inl rfl | exact Or.inr rfl)) (by decide)) (fun _ _ _ _ _ _ => qt_one (pb_tru (pk_d (pd_call c_law_kept hr (by decide) (by rfl) (qa_cons (pd_var (pv 0)) (qa_cons (pd_var (pv 8)) (qa_cons (pd_var (pv 10)) (qa_cons (pd_var (pv 11)) (qa_cons (pd_var (pv 13)) (qa_cons (pd_var (pv 1)) (qa_nil))))))))) (by intro _; rfl))) (fun _ _ _ _ _ _ => pd_var (pv 13)))) (qa_nil)))))) (
  qs_one (x_append (pv 4) (pd_var (pv 9)))))))) (
  qs_one (qs_ret (pd_var (pv 4)))))))
abbrev F_law_boxes (K : PySem.W.Frag) (f : Addr) (fd : FuncData) : Prop := FunD K "_law_boxes" "_law_boxes" (defArgs st_law_boxes) (defBody st_law_boxes) (defScope st_law_boxes) [] [] f fd
theorem c_law_boxes {P : Program} {w : World} {K : PySem.W.Frag} {mg : Str → Option Value} {base : Heap} {f : Addr} {fd : FuncData} (F : F_law_boxes K f fd) (g : mg "_law_boxes" = some (.ref f)) (b : Bt mg) (c_law_all : CalN P w K mg base 1 "_law_all" (Sf K 2 r_law_all)) (c_law_marked : CalN P w K mg base 1 "_law_marked" (Sf K 1 r_law_marked)) (c_law_kept : CalN P w K mg base 1 "_law_kept" (Sf K 6 r_law_kept)) : CalN P w K mg base 2 "_law_boxes" (Sf K 3 r_law_boxes) :=
  ⟨f, fd, ["book", "most", "many"], ok_f F sc_law_boxes rfl (by decide) fun cdv A outer s H E c hr => w_law_boxes b hr c_law_all c_law_marked c_law_kept, g, F.kp, F.bindsN fun _ _ _ _ _ _ us hl => match us, hl with | [_, _, _], _ => rfl⟩

/-! _law_least -/
def N_law_least : List Str := ["places", "found", "levels", "below", "tank"]
abbrev st_law_least : Stmt := top 29
theorem sc_law_least : FnScope N_law_least ["places"] (defScope st_law_least) := ⟨rfl, rfl, rfl, by decide +kernel, rfl, by decide +kernel, by decide +kernel⟩
def m_law_least : SM :=
  sSeq (sOwn 1 (eLst (aNil))) (
  sSeq (sFor [2, 3, 4] (iKy 0) (gSet 2) (
  sSeq (sSet 3 (eC (.int 0))) (
  sSeq (sFor [4] (iRange1 (aCons (eUn lenD (eLk 2)) (aNil))) (gSet 4) (
  sIf (bAnd (bOf (eBin gtD (eBinV ixD 2 (eLk 4)) (eC (.int 0)))) (bOf (eBin dinD (eBin addD (eBin addD (eSl (eVar 2) (oNone) (oSome (eLk 4))) (eTup (aCons (eBin subD (eBinV ixD 2 (eLk 4)) (eC (.int 1))) (aNil)))) (eSl (eVar 2) (oSome (eBin addD (eVar 4) (eC (.int 1)))) (oNone))) (eLk 0)))) (sSet 3 (eBin addD (eVar 3) (eC (.int 1)))) (sSkip))) (
  sIf (bOf (eBin eqD (eVar 3) (eC (.int 0)))) (sAppend 1 (eVar 2)) (sSkip))))) (
  sRet (eUn sortD (eLk 1))))
def r_law_least : List D → Option D := runF 5 m_law_least
theorem w_law_least {P : Program} {w : World} {K : PySem.W.Frag} {mg : Str → Option Value} {base : Heap} {cdv : Value} {fa : Addr} {A : Around} {outer : List Env} {s : Shared} {H : Hp} {E : XK} {c : Cn} (b : Bt mg) (hr : Room 0 (A.deeper (envOfC "_law_least" (defScope st_law_least) s.heap.objs.size fa cdv))) :
    PDss (cxOf L2.CX0 P w K mg base N_law_least "_law_least" (defScope st_law_least) fa cdv A outer s H E).nox c (defBody st_law_least) m_law_least :=
  have nd : N_law_least.Nodup := sc_law_least.nd
  have hu : (A.deeper (envOfC "_law_least" (defScope st_law_least) s.heap.objs.size fa cdv)).units + 64 < cLine := by have := hr.un; omega
  qs_cons (qs_own (ps_set (i := 1) nd rfl (by first | exact Or.inl rfl | exact Or.inr rfl) (pf_lst (qa_nil)))) (
  qs_cons (qs_forK (ws := [2]) [2, 3, 4] PassesOwn.never rfl (pv 0) (qg_name (vs := [2]) (pg_name (i := 2) nd rfl (by first | exact Or.inl rfl | exact Or.inr rfl)) (by decide)) (
  qs_cons (qs_set (ps_set (i := 3) nd rfl (by first | exact Or.inl rfl | exact Or.inr rfl) (pd_int))) (
  qs_cons (qs_for (ws := [4]) [4] PassesOwn.never rfl (qi_range1 (by rfl) b.range (qa_cons (x_len b.len (pk_var (pv 2))) (qa_nil))) (qg_name (vs := [4]) (pg_name (i := 4) nd rfl (by first | exact Or.inl rfl | exact Or.inr rfl)) (by decide)) (
  qs_one (qs_if ((qw_and (pb_cmp op_gt opd_gt (x_ixV (pv 2) (pk_var (pv 4))) (pk_d (pd_int)) (nomark _)) (qw_and1 (x_dinb hu (pd_op opr_add opd_add (pd_op opr_add opd_add (pd_sl (pd_var (pv 2)) (qo_none) (qo_some (pk_var (pv 4)))) (pk_d (pd_tup (qa_cons (pd_op op_sub opd_sub (x_ixV (pv 2) (pk_var (pv 4))) (pk_d (pd_int))) (qa_nil))))) (pk_d (pd_sl (pd_var (pv 2)) (qo_some (pk_d (pd_op opr_add opd_add (pd_var (pv 4)) (pk_d (pd_int))))) (qo_none)))) (pk_var (pv 0))))).pt) (qs_one (qs_set (ps_set (i := 3) nd rfl (by first | exact Or.inl rfl | exact Or.inr rfl) (pd_op opr_add opd_add (pd_var (pv 3)) (pk_d (pd_int)))))) (qs_nil)))) (
  qs_one (qs_if (pb_cmp (op_eqP hu) opd_eq (pd_var (pv 3)) (pk_d (pd_int)) (nomark _)) (qs_one (x_append (pv 1) (pd_var (pv 2)))) (qs_nil)))))) (
  qs_one (qs_ret (pd_f (x_sorted hu b.sorted (pk_var (pv 1)))))))
abbrev F_law_least (K : PySem.W.Frag) (f : Addr) (fd : FuncData) : Prop := FunD K "_law_least" "_law_least" (defArgs st_law_least) (defBody st_law_least) (defScope st_law_least) [] [] f fd
theorem c_law_least {P : Program} {w : World} {K : PySem.W.Frag} {mg : Str → Option Value} {base : Heap} {f : Addr} {fd : FuncData} (F : F_law_least K f fd) (g : mg "_law_least" = some (.ref f)) (b : Bt mg) : CalN P w K mg base 1 "_law_least" (Sf K 1 r_law_least) :=
  ⟨f, fd, ["places"], ok_f F sc_law_least rfl (by decide) fun cdv A outer s H E c hr => w_law_least b hr, g, F.kp, F.bindsN fun _ _ _ _ _ _ us hl => match us, hl with | [_], _ => rfl⟩

/-! _law_box_asked -/
def N_law_box_asked : List Str := ["tape", "book", "size", "many", "most", "tables", "due", "start", "lap", "levels", "turn", "lasts", "table", "places", "tank", "move"]
abbrev st_law_box_asked : Stmt := top 30
theorem sc_law_box_asked : FnScope N_law_box_asked ["tape", "book", "size", "many"] (defScope st_law_box_asked) := ⟨rfl, rfl, rfl, by decide +kernel, rfl, by decide +kernel, by decide +kernel⟩
def m_law_box_asked : SM :=
  sSeq (sSet 4 (eBin mulD (eVar 2) (eLk 3))) (
  sSeq (sSet 5 (eCall 3 r_law_boxes (aCons (eVar 1) (aCons (eVar 4) (aCons (eVar 3) (aNil)))))) (
  sSeq (sSet 6 (eLc [12] (iSeq (eVar 5)) (gSet 12) (bYes) (eLc [13] (iSeq (eVar 12)) (gSet 13) (bYes) (eCall 1 r_law_least (aCons (eVar 13) (aNil)))))) (
  sSeq (sIf (bNot (bTru (eCall 2 (r_law_same 9) (aCons (eCall 2 r_q_levels_tables (aCons (eVar 1) (aCons (eVar 3) (aNil)))) (aCons (eVar 6) (aNil)))))) (sRet (eC (.bl false))) (sSkip)) (
  sSeq (sSet 7 (eCallJ 2 0 r_law_draw (aHere 0 (aCons (eUn lenD (eBinV ixD 1 (eC (.int 1)))) (aNil))))) (
  sSeq (sIf (bNot (bTru (eCall 2 (r_law_same 9) (aCons (eCall 3 r_q_least_levels (aCons (eVar 1) (aCons (eVar 7) (aCons (eVar 3) (aNil))))) (aCons (eBin ixD (eBinV ixD 6 (eLk 3)) (eLk 7)) (aNil)))))) (sRet (eC (.bl false))) (sSkip)) (
  sSeq (sFor [8, 9, 10, 11] (iRange1 (aCons (eC (.int 3)) (aNil))) (gSet 8) (
  sSeq (sSet 7 (eCallJ 2 0 r_law_draw (aHere 0 (aCons (eUn lenD (eBinV ixD 1 (eC (.int 1)))) (aNil))))) (
  sSeq (sSet 9 (eUn tupD (eLc [14] (iRange1 (aCons (eBinV ixD 1 (eC (.int 0))) (aNil))) (gSet 14) (bYes) (eBin ixD (eLst (aCons (eC (.int 0)) (aCons (eC (.int 1)) (aCons (eCallJ 2 0 r_law_draw (aHere 0 (aCons (eBin addD (eVar 4) (eC (.int 1))) (aNil)))) (aNil))))) (eCallJ 2 0 r_law_draw (aHere 0 (aCons (eC (.int 3)) (aNil)))))))) (
  sSeq (sSet 10 (eCallJ 2 0 r_law_draw (aHere 0 (aCons (eBin addD (eVar 3) (eC (.int 1))) (aNil))))) (
  sSeq (sIf (bNot (bTru (eCall 2 (r_law_same 9) (aCons (eCall 4 r_q_keeps_for (aCons (eVar 1) (aCons (eVar 7) (aCons (eVar 9) (aCons (eVar 10) (aNil)))))) (aCons (eBin dinD (eVar 9) (eBin ixD (eBinV ixD 5 (eLk 10)) (eLk 7))) (aNil)))))) (sRet (eC (.bl false))) (sSkip)) (
  sSeq (sSet 11 (eUn maxD (eLc [15] (iRange1 (aCons (eBin addD (eVar 3) (eC (.int 1))) (aNil))) (gSet 15) (bOf (eBin dinD (eVar 9) (eBin ixD (eBinV ixD 5 (eLk 15)) (eLk 7)))) (eVar 15)))) (
  sIf (bNot (bTru (eCall 2 (r_law_same 9) (aCons (eCall 4 r_q_lasting_moves (aCons (eVar 1) (aCons (eVar 7) (aCons (eVar 9) (aCons (eVar 3) (aNil)))))) (aCons (eVar 11) (aNil)))))) (sRet (eC (.bl false))) (sSkip)))))))) (
  sRet (eC (.bl true)))))))))
def r_law_box_asked : D → List D → Option (D × D) := runJ 16 0 m_law_box_asked
theorem w_law_box_asked {P : Program} {w : World} {K : PySem.W.Frag} {mg : Str → Option Value} {base : Heap} {cdv : Value} {fa : Addr} {A : Around} {outer : List Env} {s : Shared} {H : Hp} {E : XK} {c : Cn} (b : Bt mg) (hr : Room 9 (A.deeper (envOfC "_law_box_asked" (defScope st_law_box_asked) s.heap.objs.size fa cdv))) (c_q_levels_tables : CalN P w K mg base 6 "levels_tables" (Sf K 2 r_q_levels_tables)) (c_q_least_levels : CalN P w K mg base 7 "least_levels" (Sf K 3 r_q_least_levels)) (c_q_keeps_for : CalN P w K mg base 8 "keeps_for" (Sf K 4 r_q_keeps_for)) (c_q_lasting_moves : CalN P w K mg base 6 "lasting_moves" (Sf K 4 r_q_lasting_moves)) (c_law_draw : CalN P w K mg base 1 "_law_draw" (Sj K 2 0 r_law_draw)) (c_law_same : CalN P w K mg base 9 "_law_same" (Sf K 2 (r_law_same 9))) (c_law_boxes : CalN P w K mg base 2 "_law_boxes" (Sf K 3 r_law_boxes)) (c_law_least : CalN P w K mg base 1 "_law_least" (Sf K 1 r_law_least)) :
    PDss (cxOf L2.CX0 P w K mg base N_law_box_asked "_law_box_asked" (defScope st_law_box_asked) fa cdv A outer s H E).nox c (defBody st_law_box_asked) m_law_box_asked :=
  have nd : N_law_box_asked.Nodup := sc_law_box_asked.nd
  have hu : (A.deeper (envOfC "_law_box_asked" (defScope st_law_box_asked) s.heap.objs.size fa cdv)).units + 64 < cLine := by have := hr.un; omega
  qs_cons (qs_set (ps_set (i := 4) nd rfl (by first | exact Or.inl rfl | exact Or.inr rfl) (pd_op opr_mul opd_mul (pd_var (pv 2)) (pk_var (pv 3))))) (
  qs_cons (qs_set (ps_set (i := 5) nd rfl (by first | exact Or.inl rfl | exact Or.inr rfl) (pd_call c_law_boxes hr (by decide) (by rfl) (qa_cons (pd_var (pv 1)) (qa_cons (pd_var (pv 4)) (qa_cons (pd_var (pv 3)) (qa_nil))))))) (
  qs_cons (qs_setf (pf_setLc (i := 6) (own := [("table", 12)]) rfl nd rfl rfl (sw_true rfl rfl rfl (by decide +kernel)) (qi_seq (pd_var (pv 5))) (blkOk_by (by kernel_rfl)) (fun _ _ _ _ _ _ => qg_name (vs := [12]) (pg_name (i := 12) nd rfl (by first | exact Or.inl rfl | exact Or.inr rfl)) (by decide)) (fun _ _ _ _ _ _ => qt_nil) (fun _ _ _ _ _ _ => pd_f (pf_lc (own := [("places", 13)]) rfl nd (qi_seq (pd_var (pv 12))) (blkOk_by (by kernel_rfl)) (fun _ _ _ _ _ _ => qg_name (vs := [13]) (pg_name (i := 13) nd rfl (by first | exact Or.inl rfl | exact Or.inr rfl)) (by decide)) (fun _ _ _ _ _ _ => qt_nil) (fun _ _ _ _ _ _ => pd_call c_law_least hr (by decide) (by rfl) (qa_cons (pd_var (pv 13)) (qa_nil))))))) (
  qs_cons (qs_if (pb_not (pb_tru (pk_d (pd_call c_law_same hr (by decide) (by rfl) (qa_cons (pd_call c_q_levels_tables hr (by decide) (by rfl) (qa_cons (pd_var (pv 1)) (qa_cons (pd_var (pv 3)) (qa_nil)))) (qa_cons (pd_var (pv 6)) (qa_nil))))) (by intro _; rfl))) (qs_one (qs_ret (pd_bl))) (qs_nil)) (
  qs_cons (qs_set (ps_set (i := 7) nd rfl (by first | exact Or.inl rfl | exact Or.inr rfl) (pd_callJ c_law_draw hr (by decide) (by rfl) (qj_here (pv 0) (qa_cons (x_len b.len (pk_d (x_ixV (pv 1) (pk_d (pd_int))))) (qa_nil)))))) (
  qs_cons (qs_if (pb_not (pb_tru (pk_d (pd_call c_law_same hr (by decide) (by rfl) (qa_cons (pd_call c_q_least_levels hr (by decide) (by rfl) (qa_cons (pd_var (pv 1)) (qa_cons (pd_var (pv 7)) (qa_cons (pd_var (pv 3)) (qa_nil))))) (qa_cons (x_ix (x_ixV (pv 6) (pk_var (pv 3))) (pk_var (pv 7))) (qa_nil))))) (by intro _; rfl))) (qs_one (qs_ret (pd_bl))) (qs_nil)) (
  qs_cons (qs_for (ws := [8]) [8, 9, 10, 11] PassesOwn.never rfl (qi_range1 (by rfl) b.range (qa_cons (pd_int) (qa_nil))) (qg_name (vs := [8]) (pg_name (i := 8) nd rfl (by first | exact Or.inl rfl | exact Or.inr rfl)) (by decide)) (
  qs_cons (qs_set (ps_set (i := 7) nd rfl (by first | exact Or.inl rfl | exact Or.inr rfl) (pd_callJ c_law_draw hr (by decide) (by rfl) (qj_here (pv 0) (qa_cons (x_len b.len (pk_d (x_ixV (pv 1) (pk_d (pd_int))))) (qa_nil)))))) (
  qs_cons (qs_set (ps_set (i := 9) nd rfl (by first | exact Or.inl rfl | exact Or.inr rfl) (x_tuple b.tuple (pk_f (pf_lc (own := [("tank", 14)]) rfl nd (qi_range1 (by rfl) b.range (qa_cons (x_ixV (pv 1) (pk_d (pd_int))) (qa_nil))) (blkOk_by (by kernel_rfl)) (fun _ _ _ _ _ _ => qg_name (vs := [14]) (pg_name (i := 14) nd rfl (by first | exact Or.inl rfl | exact Or.inr rfl)) (by decide)) (fun _ _ _ _ _ _ => qt_nil) (fun _ _ _ _ _ _ => x_ix (pd_f (pf_lst (qa_cons (pd_int) (qa_cons (pd_int) (qa_cons (pd_callJ c_law_draw hr (by decide) (by rfl) (qj_here (pv 0) (qa_cons (pd_op opr_add opd_add (pd_var (pv 4)) (pk_d (pd_int))) (qa_nil)))) (qa_nil)))))) (pk_d (pd_callJ c_law_draw hr (by decide) (by rfl) (qj_here (pv 0) (qa_cons (pd_int) (qa_nil))))))))))) (
  qs_cons (qs_set (ps_set (i := 10) nd rfl (by first | exact Or.inl rfl | exact Or.inr rfl) (pd_callJ c_law_draw hr (by decide) (by rfl) (qj_here (pv 0) (qa_cons (pd_op opr_add opd_add (pd_var (pv 3)) (pk_d (pd_int))) (qa_nil)))))) (
  qs_cons (qs_if (pb_not (pb_tru (pk_d (pd_call c_law_same hr (by decide) (by rfl) (qa_cons (pd_call c_q_keeps_for hr (by decide) (by rfl) (qa_cons (pd_var (pv 1)) (qa_cons (pd_var (pv 7)) (qa_cons (pd_var (pv 9)) (qa_cons (pd_var (pv 10)) (qa_nil)))))) (qa_cons (x_din hu (pd_var (pv 9)) (pk_d (x_ix (x_ixV (pv 5) (pk_var (pv 10))) (pk_var (pv 7))))) (qa_nil))))) (by intro _; rfl))) (qs_one (qs_ret (pd_bl))) (qs_nil)) (
  qs_cons (qs_set (ps_set (i := 11) nd rfl (by first | exact Or.inl rfl | exact Or.inr rfl) (x_max1 rfl b.max (pk_f (pf_lc (own := [("move", 15)]) rfl nd (qi_range1 (by rfl) b.range (qa_cons (pd_op opr_add opd_add (pd_var (pv 3)) (pk_d (pd_int))) (qa_nil))) (blkOk_by (by kernel_rfl)) (fun _ _ _ _ _ _ => qg_name (vs := [15]) (pg_name (i := 15) nd rfl (by first | exact Or.inl rfl | exact Or.inr rfl)) (by decide)) (fun _ _ _ _ _ _ => qt_one (x_dinb hu (pd_var (pv 9)) (pk_d (x_ix (x_ixV (pv 5) (pk_var (pv 15))) (pk_var (pv 7)))))) (fun _ _ _ _ _ _ => pd_var (pv 15))))))) (
  qs_one (qs_if (pb_not (pb_tru (pk_d (pd_call c_law_same hr (by decide) (by rfl) (qa_cons (pd_call c_q_lasting_moves hr (by decide) (by rfl) (qa_cons (pd_var (pv 1)) (qa_cons (pd_var (pv 7)) (qa_cons (pd_var (pv 9)) (qa_cons (pd_var (pv 3)) (qa_nil)))))) (qa_cons (pd_var (pv 11)) (qa_nil))))) (by intro _; rfl))) (qs_one (qs_ret (pd_bl))) (qs_nil))))))))) (
  qs_one (qs_ret (pd_bl)))))))))
abbrev F_law_box_asked (K : PySem.W.Frag) (f : Addr) (fd : FuncData) : Prop := FunD K "_law_box_asked" "_law_box_asked" (defArgs st_law_box_asked) (defBody st_law_box_asked) (defScope st_law_box_asked) [] [] f fd
theorem c_law_box_asked {P : Program} {w : World} {K : PySem.W.Frag} {mg : Str → Option Value} {base : Heap} {f : Addr} {fd : FuncData} (F : F_law_box_asked K f fd) (g : mg "_law_box_asked" = some (.ref f)) (b : Bt mg) (c_q_levels_tables : CalN P w K mg base 6 "levels_tables" (Sf K 2 r_q_levels_tables)) (c_q_least_levels : CalN P w K mg base 7 "least_levels" (Sf K 3 r_q_least_levels)) (c_q_keeps_for : CalN P w K mg base 8 "keeps_for" (Sf K 4 r_q_keeps_for)) (c_q_lasting_moves : CalN P w K mg base 6 "lasting_moves" (Sf K 4 r_q_lasting_moves)) (c_law_draw : CalN P w K mg base 1 "_law_draw" (Sj K 2 0 r_law_draw)) (c_law_same : CalN P w K mg base 9 "_law_same" (Sf K 2 (r_law_same 9))) (c_law_boxes : CalN P w K mg base 2 "_law_boxes" (Sf K 3 r_law_boxes)) (c_law_least : CalN P w K mg base 1 "_law_least" (Sf K 1 r_law_least)) : CalN P w K mg base 10 "_law_box_asked" (Sj K 4 0 r_law_box_asked) :=
  ⟨f, fd, ["tape", "book", "size", "many"], ok_j 0 F sc_law_box_asked rfl (by decide) fun cdv A outer s H E c hr => w_law_box_asked b hr c_q_levels_tables c_q_least_levels c_q_keeps_for c_q_lasting_moves c_law_draw c_law_same c_law_boxes c_law_least, g, F.kp, F.bindsN fun _ _ _ _ _ _ us hl => match us, hl with | [_, _, _, _], _ => rfl⟩

/-! _law_drain_asked -/
def N_law_drain_asked : List Str := ["tape", "loss", "owner", "book", "many", "level"]
abbrev st_law_drain_asked : Stmt := top 31
theorem sc_law_drain_asked : FnScope N_law_drain_asked ["tape"] (defScope st_law_drain_asked) := ⟨rfl, rfl, rfl, by decide +kernel, rfl, by decide +kernel, by decide +kernel⟩
def m_law_drain_asked : SM :=
  sSeq (sSet 1 (eBin addD (eC (.int 1)) (eCallJ 2 0 r_law_draw (aHere 0 (aCons (eC (.int 9)) (aNil)))))) (
  sSeq (sSet 2 (eBin ixD (eLst (aCons (eC (.str (PySem.Str.ofString "house"))) (aCons (eC (.str (PySem.Str.ofString "outside"))) (aNil)))) (eCallJ 2 0 r_law_draw (aHere 0 (aCons (eC (.int 2)) (aNil)))))) (
  sSeq (sSet 3 (eTup (aCons (eC (.int 2)) (aCons (eTup (aCons (eTup (aCons (eVar 2) (aCons (eTup (aCons (eTup (aCons (eC (.str (PySem.Str.ofString "go"))) (aCons (eTup (aCons (eC (.int 3)) (aCons (eBin subD (eC (.int 0)) (eLk 1)) (aNil)))) (aCons (eC (.int 0)) (aNil))))) (aNil))) (aNil)))) (aNil))) (aNil))))) (
  sSeq (sSet 4 (eBin addD (eC (.int 1)) (eCallJ 2 0 r_law_draw (aHere 0 (aCons (eC (.int 9)) (aNil)))))) (
  sSeq (sIf (bNot (bTru (eCall 2 (r_law_same 9) (aCons (eCall 3 r_q_least_levels (aCons (eVar 3) (aCons (eC (.int 0)) (aCons (eVar 4) (aNil))))) (aCons (eLst (aCons (eTup (aCons (eC (.int 0)) (aCons (eBin mulD (eVar 1) (eLk 4)) (aNil)))) (aNil))) (aNil)))))) (sRet (eC (.bl false))) (sSkip)) (
  sSeq (sSet 5 (eBin addD (eBin mulD (eVar 1) (eLk 4)) (eCallJ 2 0 r_law_draw (aHere 0 (aCons (eVar 1) (aNil)))))) (
  sSeq (sIf (bOr (bOf (eBin isntD (eCall 4 r_q_keeps_for (aCons (eVar 3) (aCons (eC (.int 0)) (aCons (eTup (aCons (eC (.int 0)) (aCons (eVar 5) (aNil)))) (aCons (eVar 4) (aNil)))))) (eC (.bl true)))) (bOf (eBin isntD (eCall 4 r_q_keeps_for (aCons (eVar 3) (aCons (eC (.int 0)) (aCons (eTup (aCons (eC (.int 5)) (aCons (eVar 5) (aNil)))) (aCons (eBin addD (eVar 4) (eC (.int 1))) (aNil)))))) (eC (.bl false))))) (sRet (eC (.bl false))) (sSkip)) (
  sRet (eAnd (eCall 2 (r_law_same 9) (aCons (eCall 4 r_q_lasting_moves (aCons (eVar 3) (aCons (eC (.int 0)) (aCons (eTup (aCons (eC (.int 0)) (aCons (eVar 5) (aNil)))) (aCons (eC (.int 30)) (aNil)))))) (aCons (eVar 4) (aNil)))) (eCall 2 (r_law_same 9) (aCons (eCall 4 r_q_lasting_moves (aCons (eVar 3) (aCons (eC (.int 0)) (aCons (eTup (aCons (eC (.int 9)) (aCons (eVar 5) (aNil)))) (aCons (eBin subD (eVar 4) (eC (.int 1))) (aNil)))))) (aCons (eBin subD (eVar 4) (eC (.int 1))) (aNil))))))))))))
def r_law_drain_asked : D → List D → Option (D × D) := runJ 6 0 m_law_drain_asked
theorem w_law_drain_asked {P : Program} {w : World} {K : PySem.W.Frag} {mg : Str → Option Value} {base : Heap} {cdv : Value} {fa : Addr} {A : Around} {outer : List Env} {s : Shared} {H : Hp} {E : XK} {c : Cn} (b : Bt mg) (hr : Room 9 (A.deeper (envOfC "_law_drain_asked" (defScope st_law_drain_asked) s.heap.objs.size fa cdv))) (c_q_least_levels : CalN P w K mg base 7 "least_levels" (Sf K 3 r_q_least_levels)) (c_q_keeps_for : CalN P w K mg base 8 "keeps_for" (Sf K 4 r_q_keeps_for)) (c_q_lasting_moves : CalN P w K mg base 6 "lasting_moves" (Sf K 4 r_q_lasting_moves)) (c_law_draw : CalN P w K mg base 1 "_law_draw" (Sj K 2 0 r_law_draw)) (c_law_same : CalN P w K mg base 9 "_law_same" (Sf K 2 (r_law_same 9))) :
    PDss (cxOf L2.CX0 P w K mg base N_law_drain_asked "_law_drain_asked" (defScope st_law_drain_asked) fa cdv A outer s H E).nox c (defBody st_law_drain_asked) m_law_drain_asked :=
  have nd : N_law_drain_asked.Nodup := sc_law_drain_asked.nd
  have hu : (A.deeper (envOfC "_law_drain_asked" (defScope st_law_drain_asked) s.heap.objs.size fa cdv)).units + 64 < cLine := by have := hr.un; omega
  qs_cons (qs_set (ps_set (i := 1) nd rfl (by first | exact Or.inl rfl | exact Or.inr rfl) (pd_op opr_add opd_add (pd_int) (pk_d (pd_callJ c_law_draw hr (by decide) (by rfl) (qj_here (pv 0) (qa_cons (pd_int) (qa_nil)))))))) (
  qs_cons (qs_set (ps_set (i := 2) nd rfl (by first | exact Or.inl rfl | exact Or.inr rfl) (x_ix (pd_f (pf_lst (qa_cons (pd_str) (qa_cons (pd_str) (qa_nil))))) (pk_d (pd_callJ c_law_draw hr (by decide) (by rfl) (qj_here (pv 0) (qa_cons (pd_int) (qa_nil)))))))) (
  qs_cons (qs_set (ps_set (i := 3) nd rfl (by first | exact Or.inl rfl | exact Or.inr rfl) (pd_tup (qa_cons (pd_int) (qa_cons (pd_tup (qa_cons (pd_tup (qa_cons (pd_var (pv 2)) (qa_cons (pd_tup (qa_cons (pd_tup (qa_cons (pd_str) (qa_cons (pd_tup (qa_cons (pd_int) (qa_cons (pd_op op_sub opd_sub (pd_int) (pk_var (pv 1))) (qa_nil)))) (qa_cons (pd_int) (qa_nil))))) (qa_nil))) (qa_nil)))) (qa_nil))) (qa_nil)))))) (
  qs_cons (qs_set (ps_set (i := 4) nd rfl (by first | exact Or.inl rfl | exact Or.inr rfl) (pd_op opr_add opd_add (pd_int) (pk_d (pd_callJ c_law_draw hr (by decide) (by rfl) (qj_here (pv 0) (qa_cons (pd_int) (qa_nil)))))))) (
  qs_cons (qs_if (pb_not (pb_tru (pk_d (pd_call c_law_same hr (by decide) (by rfl) (qa_cons (pd_call c_q_least_levels hr (by decide) (by rfl) (qa_cons (pd_var (pv 3)) (qa_cons (pd_int) (qa_cons (pd_var (pv 4)) (qa_nil))))) (qa_cons (pd_f (pf_lst (qa_cons (pd_tup (qa_cons (pd_int) (qa_cons (pd_op opr_mul opd_mul (pd_var (pv 1)) (pk_var (pv 4))) (qa_nil)))) (qa_nil)))) (qa_nil))))) (by intro _; rfl))) (qs_one (qs_ret (pd_bl))) (qs_nil)) (
  qs_cons (qs_set (ps_set (i := 5) nd rfl (by first | exact Or.inl rfl | exact Or.inr rfl) (pd_op opr_add opd_add (pd_op opr_mul opd_mul (pd_var (pv 1)) (pk_var (pv 4))) (pk_d (pd_callJ c_law_draw hr (by decide) (by rfl) (qj_here (pv 0) (qa_cons (pd_var (pv 1)) (qa_nil)))))))) (
  qs_cons (qs_if ((qw_or (pb_cmp opr_isnt opd_isnt (pd_call c_q_keeps_for hr (by decide) (by rfl) (qa_cons (pd_var (pv 3)) (qa_cons (pd_int) (qa_cons (pd_tup (qa_cons (pd_int) (qa_cons (pd_var (pv 5)) (qa_nil)))) (qa_cons (pd_var (pv 4)) (qa_nil)))))) (pk_d (pd_bl)) (nomark _)) (qw_or1 (pb_cmp opr_isnt opd_isnt (pd_call c_q_keeps_for hr (by decide) (by rfl) (qa_cons (pd_var (pv 3)) (qa_cons (pd_int) (qa_cons (pd_tup (qa_cons (pd_int) (qa_cons (pd_var (pv 5)) (qa_nil)))) (qa_cons (pd_op opr_add opd_add (pd_var (pv 4)) (pk_d (pd_int))) (qa_nil)))))) (pk_d (pd_bl)) (nomark _)))).pt) (qs_one (qs_ret (pd_bl))) (qs_nil)) (
  qs_one (qs_ret (pd_and (pd_call c_law_same hr (by decide) (by rfl) (qa_cons (pd_call c_q_lasting_moves hr (by decide) (by rfl) (qa_cons (pd_var (pv 3)) (qa_cons (pd_int) (qa_cons (pd_tup (qa_cons (pd_int) (qa_cons (pd_var (pv 5)) (qa_nil)))) (qa_cons (pd_int) (qa_nil)))))) (qa_cons (pd_var (pv 4)) (qa_nil)))) (pd_one (pd_call c_law_same hr (by decide) (by rfl) (qa_cons (pd_call c_q_lasting_moves hr (by decide) (by rfl) (qa_cons (pd_var (pv 3)) (qa_cons (pd_int) (qa_cons (pd_tup (qa_cons (pd_int) (qa_cons (pd_var (pv 5)) (qa_nil)))) (qa_cons (pd_op op_sub opd_sub (pd_var (pv 4)) (pk_d (pd_int))) (qa_nil)))))) (qa_cons (pd_op op_sub opd_sub (pd_var (pv 4)) (pk_d (pd_int))) (qa_nil))))))))))))))
abbrev F_law_drain_asked (K : PySem.W.Frag) (f : Addr) (fd : FuncData) : Prop := FunD K "_law_drain_asked" "_law_drain_asked" (defArgs st_law_drain_asked) (defBody st_law_drain_asked) (defScope st_law_drain_asked) [] [] f fd
theorem c_law_drain_asked {P : Program} {w : World} {K : PySem.W.Frag} {mg : Str → Option Value} {base : Heap} {f : Addr} {fd : FuncData} (F : F_law_drain_asked K f fd) (g : mg "_law_drain_asked" = some (.ref f)) (b : Bt mg) (c_q_least_levels : CalN P w K mg base 7 "least_levels" (Sf K 3 r_q_least_levels)) (c_q_keeps_for : CalN P w K mg base 8 "keeps_for" (Sf K 4 r_q_keeps_for)) (c_q_lasting_moves : CalN P w K mg base 6 "lasting_moves" (Sf K 4 r_q_lasting_moves)) (c_law_draw : CalN P w K mg base 1 "_law_draw" (Sj K 2 0 r_law_draw)) (c_law_same : CalN P w K mg base 9 "_law_same" (Sf K 2 (r_law_same 9))) : CalN P w K mg base 10 "_law_drain_asked" (Sj K 1 0 r_law_drain_asked) :=
  ⟨f, fd, ["tape"], ok_j 0 F sc_law_drain_asked rfl (by decide) fun cdv A outer s H E c hr => w_law_drain_asked b hr c_q_least_levels c_q_keeps_for c_q_lasting_moves c_law_draw c_law_same, g, F.kp, F.bindsN fun _ _ _ _ _ _ us hl => match us, hl with | [_], _ => rfl⟩

/-! _law_meet -/
def N_law_meet : List Str := ["tape", "gives", "rows", "place", "book", "pairs", "due", "one", "k", "other"]
abbrev st_law_meet : Stmt := top 32
theorem sc_law_meet : FnScope N_law_meet ["tape"] (defScope st_law_meet) := ⟨rfl, rfl, rfl, by decide +kernel, rfl, by decide +kernel, by decide +kernel⟩
def m_law_meet : SM :=
  sSeq (sSet 1 (eLc [8] (iRange1 (aCons (eC (.int 4)) (aNil))) (gSet 8) (bYes) (eBin addD (eC (.int 1)) (eCallJ 2 0 r_law_draw (aHere 0 (aCons (eC (.int 4)) (aNil))))))) (
  sSeq (sOwn 2 (eLst (aNil))) (
  sSeq (sFor [3] (iRange1 (aCons (eC (.int 2)) (aNil))) (gSet 3) (
  sAppend 2 (eTup (aCons (eC (.str (PySem.Str.ofString "house"))) (aCons (eTup (aCons (eTup (aCons (eC (.str (PySem.Str.ofString "x"))) (aCons (eTup (aCons (eBin subD (eC (.int 0)) (eBinV ixD 1 (eBin mulD (eC (.int 2)) (eLk 3)))) (aCons (eC (.int 0)) (aNil)))) (aCons (eC (.int 3)) (aNil))))) (aCons (eTup (aCons (eC (.str (PySem.Str.ofString "y"))) (aCons (eTup (aCons (eC (.int 0)) (aCons (eBin subD (eC (.int 0)) (eBinV ixD 1 (eBin addD (eBin mulD (eC (.int 2)) (eLk 3)) (eC (.int 1))))) (aNil)))) (aCons (eC (.int 3)) (aNil))))) (aNil)))) (aNil)))))) (
  sSeq (sSet 4 (eTup (aCons (eC (.int 2)) (aCons (eTup (aCons (eTup (aCons (eC (.str (PySem.Str.ofString "outside"))) (aCons (eTup (aCons (eTup (aCons (eC (.str (PySem.Str.ofString "p"))) (aCons (eTup (aCons (eC (.int 0)) (aCons (eC (.int 0)) (aNil)))) (aCons (eC (.int 1)) (aNil))))) (aCons (eTup (aCons (eC (.str (PySem.Str.ofString "q"))) (aCons (eTup (aCons (eC (.int 0)) (aCons (eC (.int 0)) (aNil)))) (aCons (eC (.int 2)) (aNil))))) (aNil)))) (aNil)))) (aCons (eBinV ixD 2 (eC (.int 0))) (aCons (eBinV ixD 2 (eC (.int 1))) (aCons (eTup (aCons (eBin ixD (eLst (aCons (eC (.str (PySem.Str.ofString "house"))) (aCons (eC (.str (PySem.Str.ofString "outside"))) (aNil)))) (eCallJ 2 0 r_law_draw (aHere 0 (aCons (eC (.int 2)) (aNil))))) (aCons (eTup (aNil)) (aNil)))) (aNil)))))) (aNil))))) (
  sSeq (sSet 5 (eLst (aCons (eTup (aCons (eBin max2D (eBinV ixD 1 (eC (.int 0))) (eBinV ixD 1 (eC (.int 2)))) (aCons (eC (.int 0)) (aNil)))) (aCons (eTup (aCons (eBinV ixD 1 (eC (.int 0))) (aCons (eBinV ixD 1 (eC (.int 3))) (aNil)))) (aCons (eTup (aCons (eBinV ixD 1 (eC (.int 2))) (aCons (eBinV ixD 1 (eC (.int 1))) (aNil)))) (aCons (eTup (aCons (eC (.int 0)) (aCons (eBin max2D (eBinV ixD 1 (eC (.int 1))) (eBinV ixD 1 (eC (.int 3)))) (aNil)))) (aNil))))))) (
  sSeq (sOwn 6 (eLst (aNil))) (
  sSeq (sFor [7] (iSeq (eUn ssD (eLk 5))) (gSet 7) (
  sIf (bOf (eBin eqD (eUn lenD (eLcP [9] 6 (gSet 9) (bAnd (bOf (eBin leD (eBinV ixD 9 (eC (.int 0))) (eBinV ixD 7 (eC (.int 0))))) (bOf (eBin leD (eBinV ixD 9 (eC (.int 1))) (eBinV ixD 7 (eC (.int 1)))))) (eVar 9))) (eC (.int 0)))) (sAppend 6 (eVar 7)) (sSkip))) (
  sRet (eTup (aCons (eVar 4) (aCons (eVar 6) (aNil)))))))))))
def r_law_meet : D → List D → Option (D × D) := runJ 10 0 m_law_meet
theorem w_law_meet {P : Program} {w : World} {K : PySem.W.Frag} {mg : Str → Option Value} {base : Heap} {cdv : Value} {fa : Addr} {A : Around} {outer : List Env} {s : Shared} {H : Hp} {E : XK} {c : Cn} (b : Bt mg) (hr : Room 1 (A.deeper (envOfC "_law_meet" (defScope st_law_meet) s.heap.objs.size fa cdv))) (c_law_draw : CalN P w K mg base 1 "_law_draw" (Sj K 2 0 r_law_draw)) :
    PDss (cxOf L2.CX0 P w K mg base N_law_meet "_law_meet" (defScope st_law_meet) fa cdv A outer s H E).nox c (defBody st_law_meet) m_law_meet :=
  have nd : N_law_meet.Nodup := sc_law_meet.nd
  have hu : (A.deeper (envOfC "_law_meet" (defScope st_law_meet) s.heap.objs.size fa cdv)).units + 64 < cLine := by have := hr.un; omega
  qs_cons (qs_setf (pf_setLc (i := 1) (own := [("k", 8)]) rfl nd rfl rfl (sw_true rfl rfl rfl (by decide +kernel)) (qi_range1 (by rfl) b.range (qa_cons (pd_int) (qa_nil))) (blkOk_by (by kernel_rfl)) (fun _ _ _ _ _ _ => qg_name (vs := [8]) (pg_name (i := 8) nd rfl (by first | exact Or.inl rfl | exact Or.inr rfl)) (by decide)) (fun _ _ _ _ _ _ => qt_nil) (fun _ _ _ _ _ _ => pd_op opr_add opd_add (pd_int) (pk_d (pd_callJ c_law_draw hr (by decide) (by rfl) (qj_here (pv 0) (qa_cons (pd_int) (qa_nil)))))))) (
  qs_cons (qs_own (ps_set (i := 2) nd rfl (by first | exact Or.inl rfl | exact Or.inr rfl) (pf_lst (qa_nil)))) (
  qs_cons (qs_for (ws := [3]) [3] PassesOwn.never rfl (qi_range1 (by rfl) b.range (qa_cons (pd_int) (qa_nil))) (qg_name (vs := [3]) (pg_name (i := 3) nd rfl (by first | exact Or.inl rfl | exact Or.inr rfl)) (by decide)) (
  qs_one (x_append (pv 2) (pd_tup (qa_cons (pd_str) (qa_cons (pd_tup (qa_cons (pd_tup (qa_cons (pd_str) (qa_cons (pd_tup (qa_cons (pd_op op_sub opd_sub (pd_int) (pk_d (x_ixV (pv 1) (pk_d (pd_op opr_mul opd_mul (pd_int) (pk_var (pv 3))))))) (qa_cons (pd_int) (qa_nil)))) (qa_cons (pd_int) (qa_nil))))) (qa_cons (pd_tup (qa_cons (pd_str) (qa_cons (pd_tup (qa_cons (pd_int) (qa_cons (pd_op op_sub opd_sub (pd_int) (pk_d (x_ixV (pv 1) (pk_d (pd_op opr_add opd_add (pd_op opr_mul opd_mul (pd_int) (pk_var (pv 3))) (pk_d (pd_int))))))) (qa_nil)))) (qa_cons (pd_int) (qa_nil))))) (qa_nil)))) (qa_nil))))))) (
  qs_cons (qs_set (ps_set (i := 4) nd rfl (by first | exact Or.inl rfl | exact Or.inr rfl) (pd_tup (qa_cons (pd_int) (qa_cons (pd_tup (qa_cons (pd_tup (qa_cons (pd_str) (qa_cons (pd_tup (qa_cons (pd_tup (qa_cons (pd_str) (qa_cons (pd_tup (qa_cons (pd_int) (qa_cons (pd_int) (qa_nil)))) (qa_cons (pd_int) (qa_nil))))) (qa_cons (pd_tup (qa_cons (pd_str) (qa_cons (pd_tup (qa_cons (pd_int) (qa_cons (pd_int) (qa_nil)))) (qa_cons (pd_int) (qa_nil))))) (qa_nil)))) (qa_nil)))) (qa_cons (x_ixV (pv 2) (pk_d (pd_int))) (qa_cons (x_ixV (pv 2) (pk_d (pd_int))) (qa_cons (pd_tup (qa_cons (x_ix (pd_f (pf_lst (qa_cons (pd_str) (qa_cons (pd_str) (qa_nil))))) (pk_d (pd_callJ c_law_draw hr (by decide) (by rfl) (qj_here (pv 0) (qa_cons (pd_int) (qa_nil)))))) (qa_cons (pd_tup (qa_nil)) (qa_nil)))) (qa_nil)))))) (qa_nil)))))) (
  qs_cons (qs_set (ps_set (i := 5) nd rfl (by first | exact Or.inl rfl | exact Or.inr rfl) (pd_f (pf_lst (qa_cons (pd_tup (qa_cons (x_max2 rfl b.max (x_ixV (pv 1) (pk_d (pd_int))) (pk_d (x_ixV (pv 1) (pk_d (pd_int))))) (qa_cons (pd_int) (qa_nil)))) (qa_cons (pd_tup (qa_cons (x_ixV (pv 1) (pk_d (pd_int))) (qa_cons (x_ixV (pv 1) (pk_d (pd_int))) (qa_nil)))) (qa_cons (pd_tup (qa_cons (x_ixV (pv 1) (pk_d (pd_int))) (qa_cons (x_ixV (pv 1) (pk_d (pd_int))) (qa_nil)))) (qa_cons (pd_tup (qa_cons (pd_int) (qa_cons (x_max2 rfl b.max (x_ixV (pv 1) (pk_d (pd_int))) (pk_d (x_ixV (pv 1) (pk_d (pd_int))))) (qa_nil)))) (qa_nil))))))))) (
  qs_cons (qs_own (ps_set (i := 6) nd rfl (by first | exact Or.inl rfl | exact Or.inr rfl) (pf_lst (qa_nil)))) (
  qs_cons (qs_for (ws := [7]) [7] PassesOwn.never rfl (qi_seq (pd_f (x_ss rfl hu b.sorted b.set (pk_var (pv 5))))) (qg_name (vs := [7]) (pg_name (i := 7) nd rfl (by first | exact Or.inl rfl | exact Or.inr rfl)) (by decide)) (
  qs_one (qs_if (pb_cmp (op_eqP hu) opd_eq (x_len b.len (pk_f (pf_lcP (own := [("other", 9)]) rfl nd (pv 6) (blkOk_by (by kernel_rfl)) (fun _ _ _ _ _ _ => qg_name (vs := [9]) (pg_name (i := 9) nd rfl (by first | exact Or.inl rfl | exact Or.inr rfl)) (by decide)) (fun _ _ _ _ _ _ => qt_one ((qw_and (pb_cmp op_le opd_le (x_ixV (pv 9) (pk_d (pd_int))) (pk_d (x_ixV (pv 7) (pk_d (pd_int)))) (nomark _)) (qw_and1 (pb_cmp op_le opd_le (x_ixV (pv 9) (pk_d (pd_int))) (pk_d (x_ixV (pv 7) (pk_d (pd_int)))) (nomark _)))).pt)) (fun _ _ _ _ _ _ => pd_var (pv 9))))) (pk_d (pd_int)) (nomark _)) (qs_one (x_append (pv 6) (pd_var (pv 7)))) (qs_nil)))) (
  qs_one (qs_ret (pd_tup (qa_cons (pd_var (pv 4)) (qa_cons (pd_var (pv 6)) (qa_nil))))))))))))
abbrev F_law_meet (K : PySem.W.Frag) (f : Addr) (fd : FuncData) : Prop := FunD K "_law_meet" "_law_meet" (defArgs st_law_meet) (defBody st_law_meet) (defScope st_law_meet) [] [] f fd
theorem c_law_meet {P : Program} {w : World} {K : PySem.W.Frag} {mg : Str → Option Value} {base : Heap} {f : Addr} {fd : FuncData} (F : F_law_meet K f fd) (g : mg "_law_meet" = some (.ref f)) (b : Bt mg) (c_law_draw : CalN P w K mg base 1 "_law_draw" (Sj K 2 0 r_law_draw)) : CalN P w K mg base 2 "_law_meet" (Sj K 1 0 r_law_meet) :=
  ⟨f, fd, ["tape"], ok_j 0 F sc_law_meet rfl (by decide) fun cdv A outer s H E c hr => w_law_meet b hr c_law_draw, g, F.kp, F.bindsN fun _ _ _ _ _ _ us hl => match us, hl with | [_], _ => rfl⟩

/-! _law_wide_asked -/
def N_law_wide_asked : List Str := ["tape", "book", "many", "table", "tables", "turn", "fresh", "owner", "moves", "needs", "need", "word", "pours", "to"]
abbrev st_law_wide_asked : Stmt := top 33
theorem sc_law_wide_asked : FnScope N_law_wide_asked ["tape"] (defScope st_law_wide_asked) := ⟨rfl, rfl, rfl, by decide +kernel, rfl, by decide +kernel, by decide +kernel⟩
def m_law_wide_asked : SM :=
  sSeq (sSet 1 (eCallJ 4 0 r_law_book (aHere 0 (aCons (eC (.int 1)) (aCons (eC (.int 12)) (aCons (eC (.int 80000)) (aNil))))))) (
  sSeq (sSet 2 (eC (.int 12))) (
  sSeq (sSet 3 (eBin repL (eLst (aCons (eC (.int 0)) (aNil))) (eC (.int 12)))) (
  sSeq (sOwn 4 (eLst (aCons (eBin repL (eLst (aCons (eLst (aCons (eTup (aCons (eC (.int 0)) (aNil))) (aNil))) (aNil))) (eC (.int 12))) (aNil)))) (
  sSeq (sFor [5, 6, 7, 8, 9] (iRange1 (aCons (eVar 2) (aNil))) (gSet 5) (
  sSeq (sOwn 6 (eLst (aNil))) (
  sSeq (sFor [7, 8, 9] (iSeq (eBinV ixD 1 (eC (.int 1)))) (gTups 2 (gMore (gSet 7) (gMore (gSet 8) (gNone)))) (
  sSeq (sSet 9 (eLc [11, 12, 13] (iSeq (eVar 8)) (gTups 3 (gMore (gSet 11) (gMore (gSet 12) (gMore (gSet 13) (gNone))))) (bYes) (eBin max2D (eC (.int 0)) (eBin subD (eBinV ixD 3 (eLk 13)) (eBinV ixD 12 (eC (.int 0))))))) (
  sIf (bOf (eBin eqD (eUn lenD (eLk 9)) (eC (.int 0)))) (sAppend 6 (eC (.int 0))) (sAppend 6 (eIf (bOf (eBin eqD (eVar 7) (eC (.str (PySem.Str.ofString "house"))))) (eUn minD (eLk 9)) (eUn maxD (eLk 9))))))) (
  sSeq (sSet 3 (eVar 6)) (
  sAppend 4 (eLc [10] (iSeq (eVar 3)) (gSet 10) (bYes) (eLst (aCons (eTup (aCons (eVar 10) (aNil))) (aNil))))))))) (
  sRet (eCall 2 (r_law_same 9) (aCons (eCall 2 r_q_levels_tables (aCons (eVar 1) (aCons (eVar 2) (aNil)))) (aCons (eVar 4) (aNil)))))))))
def r_law_wide_asked : D → List D → Option (D × D) := runJ 14 0 m_law_wide_asked
theorem w_law_wide_asked {P : Program} {w : World} {K : PySem.W.Frag} {mg : Str → Option Value} {base : Heap} {cdv : Value} {fa : Addr} {A : Around} {outer : List Env} {s : Shared} {H : Hp} {E : XK} {c : Cn} (b : Bt mg) (hr : Room 9 (A.deeper (envOfC "_law_wide_asked" (defScope st_law_wide_asked) s.heap.objs.size fa cdv))) (c_q_levels_tables : CalN P w K mg base 6 "levels_tables" (Sf K 2 r_q_levels_tables)) (c_law_book : CalN P w K mg base 3 "_law_book" (Sj K 4 0 r_law_book)) (c_law_same : CalN P w K mg base 9 "_law_same" (Sf K 2 (r_law_same 9))) :
    PDss (cxOf L2.CX0 P w K mg base N_law_wide_asked "_law_wide_asked" (defScope st_law_wide_asked) fa cdv A outer s H E).nox c (defBody st_law_wide_asked) m_law_wide_asked :=
  have nd : N_law_wide_asked.Nodup := sc_law_wide_asked.nd
  have hu : (A.deeper (envOfC "_law_wide_asked" (defScope st_law_wide_asked) s.heap.objs.size fa cdv)).units + 64 < cLine := by have := hr.un; omega
  qs_cons (qs_set (ps_set (i := 1) nd rfl (by first | exact Or.inl rfl | exact Or.inr rfl) (pd_callJ c_law_book hr (by decide) (by rfl) (qj_here (pv 0) (qa_cons (pd_int) (qa_cons (pd_int) (qa_cons (pd_int) (qa_nil)))))))) (
  qs_cons (qs_set (ps_set (i := 2) nd rfl (by first | exact Or.inl rfl | exact Or.inr rfl) (pd_int))) (
  qs_cons (qs_set (ps_set (i := 3) nd rfl (by first | exact Or.inl rfl | exact Or.inr rfl) (pd_f (pf_op op_rep opf_rep (pd_f (pf_lst (qa_cons (pd_int) (qa_nil)))) (pk_d (pd_int)))))) (
  qs_cons (qs_own (ps_set (i := 4) nd rfl (by first | exact Or.inl rfl | exact Or.inr rfl) (pf_lst (qa_cons (pd_f (pf_op op_rep opf_rep (pd_f (pf_lst (qa_cons (pd_f (pf_lst (qa_cons (pd_tup (qa_cons (pd_int) (qa_nil))) (qa_nil)))) (qa_nil)))) (pk_d (pd_int)))) (qa_nil))))) (
  qs_cons (qs_for (ws := [5]) [5, 6, 7, 8, 9] PassesOwn.never rfl (qi_range1 (by rfl) b.range (qa_cons (pd_var (pv 2)) (qa_nil))) (qg_name (vs := [5]) (pg_name (i := 5) nd rfl (by first | exact Or.inl rfl | exact Or.inr rfl)) (by decide)) (
  qs_cons (qs_own (ps_set (i := 6) nd rfl (by first | exact Or.inl rfl | exact Or.inr rfl) (pf_lst (qa_nil)))) (
  qs_cons (qs_for (ws := [7, 8]) [7, 8, 9] PassesOwn.never rfl (qi_seq (x_ixV (pv 1) (pk_d (pd_int)))) (qg_tup rfl (qg_more (qg_name (vs := [7, 8]) (pg_name (i := 7) nd rfl (by first | exact Or.inl rfl | exact Or.inr rfl)) (by decide)) (qg_more (qg_name (vs := [7, 8]) (pg_name (i := 8) nd rfl (by first | exact Or.inl rfl | exact Or.inr rfl)) (by decide)) (qg_none)))) (
  qs_cons (qs_setf (pf_setLc (i := 9) (own := [("word", 11), ("pours", 12), ("to", 13)]) rfl nd rfl rfl (sw_true rfl rfl rfl (by decide +kernel)) (qi_seq (pd_var (pv 8))) (blkOk_by (by kernel_rfl)) (fun _ _ _ _ _ _ => qg_tup rfl (qg_more (qg_name (vs := [11, 12, 13]) (pg_name (i := 11) nd rfl (by first | exact Or.inl rfl | exact Or.inr rfl)) (by decide)) (qg_more (qg_name (vs := [11, 12, 13]) (pg_name (i := 12) nd rfl (by first | exact Or.inl rfl | exact Or.inr rfl)) (by decide)) (qg_more (qg_name (vs := [11, 12, 13]) (pg_name (i := 13) nd rfl (by first | exact Or.inl rfl | exact Or.inr rfl)) (by decide)) (qg_none))))) (fun _ _ _ _ _ _ => qt_nil) (fun _ _ _ _ _ _ => x_max2 rfl b.max (pd_int) (pk_d (pd_op op_sub opd_sub (x_ixV (pv 3) (pk_var (pv 13))) (pk_d (x_ixV (pv 12) (pk_d (pd_int))))))))) (
  qs_one (qs_if (pb_cmp (op_eqP hu) opd_eq (x_len b.len (pk_var (pv 9))) (pk_d (pd_int)) (nomark _)) (qs_one (x_append (pv 6) (pd_int))) (qs_one (x_append (pv 6) (pd_if (pb_cmp (op_eqP hu) opd_eq (pd_var (pv 7)) (pk_d (pd_str)) (nomark _)) (x_min1 rfl b.min (pk_var (pv 9))) (x_max1 rfl b.max (pk_var (pv 9)))))))))) (
  qs_cons (qs_set (ps_set (i := 3) nd rfl (by first | exact Or.inl rfl | exact Or.inr rfl) (pd_var (pv 6)))) (
  qs_one (x_append (pv 4) (pd_f (pf_lc (own := [("need", 10)]) rfl nd (qi_seq (pd_var (pv 3))) (blkOk_by (by kernel_rfl)) (fun _ _ _ _ _ _ => qg_name (vs := [10]) (pg_name (i := 10) nd rfl (by first | exact Or.inl rfl | exact Or.inr rfl)) (by decide)) (fun _ _ _ _ _ _ => qt_nil) (fun _ _ _ _ _ _ => pd_f (pf_lst (qa_cons (pd_tup (qa_cons (pd_var (pv 10)) (qa_nil))) (qa_nil)))))))))))) (
  qs_one (qs_ret (pd_call c_law_same hr (by decide) (by rfl) (qa_cons (pd_call c_q_levels_tables hr (by decide) (by rfl) (qa_cons (pd_var (pv 1)) (qa_cons (pd_var (pv 2)) (qa_nil)))) (qa_cons (pd_var (pv 4)) (qa_nil))))))))))
abbrev F_law_wide_asked (K : PySem.W.Frag) (f : Addr) (fd : FuncData) : Prop := FunD K "_law_wide_asked" "_law_wide_asked" (defArgs st_law_wide_asked) (defBody st_law_wide_asked) (defScope st_law_wide_asked) [] [] f fd
theorem c_law_wide_asked {P : Program} {w : World} {K : PySem.W.Frag} {mg : Str → Option Value} {base : Heap} {f : Addr} {fd : FuncData} (F : F_law_wide_asked K f fd) (g : mg "_law_wide_asked" = some (.ref f)) (b : Bt mg) (c_q_levels_tables : CalN P w K mg base 6 "levels_tables" (Sf K 2 r_q_levels_tables)) (c_law_book : CalN P w K mg base 3 "_law_book" (Sj K 4 0 r_law_book)) (c_law_same : CalN P w K mg base 9 "_law_same" (Sf K 2 (r_law_same 9))) : CalN P w K mg base 10 "_law_wide_asked" (Sj K 1 0 r_law_wide_asked) :=
  ⟨f, fd, ["tape"], ok_j 0 F sc_law_wide_asked rfl (by decide) fun cdv A outer s H E c hr => w_law_wide_asked b hr c_q_levels_tables c_law_book c_law_same, g, F.kp, F.bindsN fun _ _ _ _ _ _ us hl => match us, hl with | [_], _ => rfl⟩

/-! law -/
def N_law : List Str := ["script", "tape", "tanks", "size", "many", "book", "due"]
abbrev st_law : Stmt := top 34
theorem sc_law : FnScope N_law ["script"] (defScope st_law) := ⟨rfl, rfl, rfl, by decide +kernel, rfl, by decide +kernel, by decide +kernel⟩
def m_law : SM :=
  sSeq (sOwn 1 (eCall 1 r_law_tape (aCons (eVar 0) (aNil)))) (
  sSeq (sSet 2 (eBin addD (eC (.int 1)) (eCallJ 2 1 r_law_draw (aHere 1 (aCons (eC (.int 2)) (aNil)))))) (
  sSeq (sSet 3 (eBin addD (eC (.int 1)) (eCallJ 2 1 r_law_draw (aHere 1 (aCons (eC (.int 3)) (aNil)))))) (
  sSeq (sSet 4 (eBin ixD (eLst (aCons (eBin addD (eC (.int 2)) (eCallJ 2 1 r_law_draw (aHere 1 (aCons (eC (.int 7)) (aNil))))) (aCons (eBin addD (eC (.int 1)) (eCallJ 2 1 r_law_draw (aHere 1 (aCons (eC (.int 3)) (aNil))))) (aNil)))) (eBin subD (eVar 2) (eC (.int 1))))) (
  sSeq (sSet 5 (eCallJ 4 1 r_law_book (aHere 1 (aCons (eVar 2) (aCons (eBin addD (eC (.int 1)) (eCallJ 2 1 r_law_draw (aHere 1 (aCons (eC (.int 4)) (aNil))))) (aCons (eVar 3) (aNil))))))) (
  sSeq (sIf (bOr (bNot (bTru (eCallJ 4 1 r_law_box_asked (aHere 1 (aCons (eVar 5) (aCons (eVar 3) (aCons (eVar 4) (aNil)))))))) (bNot (bTru (eCallJ 1 1 r_law_drain_asked (aHere 1 (aNil)))))) (sRet (eC (.bl false))) (sSkip)) (
  sSeq (sAsg (eCallJ 1 1 r_law_meet (aHere 1 (aNil))) (gTups 2 (gMore (gSet 5) (gMore (gSet 6) (gNone))))) (
  sSeq (sIf (bOr (bNot (bTru (eCall 2 (r_law_same 9) (aCons (eCall 3 r_q_least_levels (aCons (eVar 5) (aCons (eC (.int 0)) (aCons (eBin addD (eC (.int 2)) (eCallJ 2 1 r_law_draw (aHere 1 (aCons (eC (.int 5)) (aNil))))) (aNil))))) (aCons (eVar 6) (aNil)))))) (bNot (bTru (eCall 2 (r_law_same 9) (aCons (eCall 3 r_q_least_levels (aCons (eVar 5) (aCons (eC (.int 3)) (aCons (eC (.int 3)) (aNil))))) (aCons (eLst (aCons (eTup (aCons (eC (.int 0)) (aCons (eC (.int 0)) (aNil)))) (aNil))) (aNil))))))) (sRet (eC (.bl false))) (sSkip)) (
  sRet (eOr (eBin neD (eCallJ 2 1 r_law_draw (aHere 1 (aCons (eC (.int 13)) (aNil)))) (eC (.int 8))) (eCallJ 1 1 r_law_wide_asked (aHere 1 (aNil))))))))))))
def r_law : List D → Option D := runF 7 m_law
theorem w_law {P : Program} {w : World} {K : PySem.W.Frag} {mg : Str → Option Value} {base : Heap} {cdv : Value} {fa : Addr} {A : Around} {outer : List Env} {s : Shared} {H : Hp} {E : XK} {c : Cn} (b : Bt mg) (hr : Room 10 (A.deeper (envOfC "law" (defScope st_law) s.heap.objs.size fa cdv))) (c_q_least_levels : CalN P w K mg base 7 "least_levels" (Sf K 3 r_q_least_levels)) (c_law_tape : CalN P w K mg base 1 "_law_tape" (So K 1 r_law_tape)) (c_law_draw : CalN P w K mg base 1 "_law_draw" (Sj K 2 0 r_law_draw)) (c_law_book : CalN P w K mg base 3 "_law_book" (Sj K 4 0 r_law_book)) (c_law_same : CalN P w K mg base 9 "_law_same" (Sf K 2 (r_law_same 9))) (c_law_box_asked : CalN P w K mg base 10 "_law_box_asked" (Sj K 4 0 r_law_box_asked)) (c_law_drain_asked : CalN P w K mg base 10 "_law_drain_asked" (Sj K 1 0 r_law_drain_asked)) (c_law_meet : CalN P w K mg base 2 "_law_meet" (Sj K 1 0 r_law_meet)) (c_law_wide_asked : CalN P w K mg base 10 "_law_wide_asked" (Sj K 1 0 r_law_wide_asked)) :
    PDss (cxOf L2.CX0 P w K mg base N_law "law" (defScope st_law) fa cdv A outer s H E).nox c (defBody st_law) m_law :=
  have nd : N_law.Nodup := sc_law.nd
  have hu : (A.deeper (envOfC "law" (defScope st_law) s.heap.objs.size fa cdv)).units + 64 < cLine := by have := hr.un; omega
  qs_cons (qs_own (ps_set (i := 1) nd rfl (by first | exact Or.inl rfl | exact Or.inr rfl) (pf_call c_law_tape hr (by decide) (by rfl) (qa_cons (pd_var (pv 0)) (qa_nil))))) (
  qs_cons (qs_set (ps_set (i := 2) nd rfl (by first | exact Or.inl rfl | exact Or.inr rfl) (pd_op opr_add opd_add (pd_int) (pk_d (pd_callJ c_law_draw hr (by decide) (by rfl) (qj_here (pv 1) (qa_cons (pd_int) (qa_nil)))))))) (
  qs_cons (qs_set (ps_set (i := 3) nd rfl (by first | exact Or.inl rfl | exact Or.inr rfl) (pd_op opr_add opd_add (pd_int) (pk_d (pd_callJ c_law_draw hr (by decide) (by rfl) (qj_here (pv 1) (qa_cons (pd_int) (qa_nil)))))))) (
  qs_cons (qs_set (ps_set (i := 4) nd rfl (by first | exact Or.inl rfl | exact Or.inr rfl) (x_ix (pd_f (pf_lst (qa_cons (pd_op opr_add opd_add (pd_int) (pk_d (pd_callJ c_law_draw hr (by decide) (by rfl) (qj_here (pv 1) (qa_cons (pd_int) (qa_nil)))))) (qa_cons (pd_op opr_add opd_add (pd_int) (pk_d (pd_callJ c_law_draw hr (by decide) (by rfl) (qj_here (pv 1) (qa_cons (pd_int) (qa_nil)))))) (qa_nil))))) (pk_d (pd_op op_sub opd_sub (pd_var (pv 2)) (pk_d (pd_int))))))) (
  qs_cons (qs_set (ps_set (i := 5) nd rfl (by first | exact Or.inl rfl | exact Or.inr rfl) (pd_callJ c_law_book hr (by decide) (by rfl) (qj_here (pv 1) (qa_cons (pd_var (pv 2)) (qa_cons (pd_op opr_add opd_add (pd_int) (pk_d (pd_callJ c_law_draw hr (by decide) (by rfl) (qj_here (pv 1) (qa_cons (pd_int) (qa_nil)))))) (qa_cons (pd_var (pv 3)) (qa_nil)))))))) (
  qs_cons (qs_if ((qw_or (pb_not (pb_tru (pk_d (pd_callJ c_law_box_asked hr (by decide) (by rfl) (qj_here (pv 1) (qa_cons (pd_var (pv 5)) (qa_cons (pd_var (pv 3)) (qa_cons (pd_var (pv 4)) (qa_nil))))))) (by intro _; rfl))) (qw_or1 (pb_not (pb_tru (pk_d (pd_callJ c_law_drain_asked hr (by decide) (by rfl) (qj_here (pv 1) (qa_nil)))) (by intro _; rfl))))).pt) (qs_one (qs_ret (pd_bl))) (qs_nil)) (
  qs_cons (qs_asg (ps_asg (pd_callJ c_law_meet hr (by decide) (by rfl) (qj_here (pv 1) (qa_nil))) (qg_tup rfl (qg_more (qg_name (vs := [5, 6]) (pg_name (i := 5) nd rfl (by first | exact Or.inl rfl | exact Or.inr rfl)) (by decide)) (qg_more (qg_name (vs := [5, 6]) (pg_name (i := 6) nd rfl (by first | exact Or.inl rfl | exact Or.inr rfl)) (by decide)) (qg_none)))))) (
  qs_cons (qs_if ((qw_or (pb_not (pb_tru (pk_d (pd_call c_law_same hr (by decide) (by rfl) (qa_cons (pd_call c_q_least_levels hr (by decide) (by rfl) (qa_cons (pd_var (pv 5)) (qa_cons (pd_int) (qa_cons (pd_op opr_add opd_add (pd_int) (pk_d (pd_callJ c_law_draw hr (by decide) (by rfl) (qj_here (pv 1) (qa_cons (pd_int) (qa_nil)))))) (qa_nil))))) (qa_cons (pd_var (pv 6)) (qa_nil))))) (by intro _; rfl))) (qw_or1 (pb_not (pb_tru (pk_d (pd_call c_law_same hr (by decide) (by rfl) (qa_cons (pd_call c_q_least_levels hr (by decide) (by rfl) (qa_cons (pd_var (pv 5)) (qa_cons (pd_int) (qa_cons (pd_int) (qa_nil))))) (qa_cons (pd_f (pf_lst (qa_cons (pd_tup (qa_cons (pd_int) (qa_cons (pd_int) (qa_nil)))) (qa_nil)))) (qa_nil))))) (by intro _; rfl))))).pt) (qs_one (qs_ret (pd_bl))) (qs_nil)) (
  qs_one (qs_ret (pd_or (pd_cmp (op_neP hu) opd_ne (pd_callJ c_law_draw hr (by decide) (by rfl) (qj_here (pv 1) (qa_cons (pd_int) (qa_nil)))) (pk_d (pd_int)) (nomark _)) (pd_one (pd_callJ c_law_wide_asked hr (by decide) (by rfl) (qj_here (pv 1) (qa_nil))))))))))))))
abbrev F_law (K : PySem.W.Frag) (f : Addr) (fd : FuncData) : Prop := FunD K "law" "law" (defArgs st_law) (defBody st_law) (defScope st_law) [] [] f fd
theorem c_law {P : Program} {w : World} {K : PySem.W.Frag} {mg : Str → Option Value} {base : Heap} {f : Addr} {fd : FuncData} (F : F_law K f fd) (g : mg "law" = some (.ref f)) (b : Bt mg) (c_q_least_levels : CalN P w K mg base 7 "least_levels" (Sf K 3 r_q_least_levels)) (c_law_tape : CalN P w K mg base 1 "_law_tape" (So K 1 r_law_tape)) (c_law_draw : CalN P w K mg base 1 "_law_draw" (Sj K 2 0 r_law_draw)) (c_law_book : CalN P w K mg base 3 "_law_book" (Sj K 4 0 r_law_book)) (c_law_same : CalN P w K mg base 9 "_law_same" (Sf K 2 (r_law_same 9))) (c_law_box_asked : CalN P w K mg base 10 "_law_box_asked" (Sj K 4 0 r_law_box_asked)) (c_law_drain_asked : CalN P w K mg base 10 "_law_drain_asked" (Sj K 1 0 r_law_drain_asked)) (c_law_meet : CalN P w K mg base 2 "_law_meet" (Sj K 1 0 r_law_meet)) (c_law_wide_asked : CalN P w K mg base 10 "_law_wide_asked" (Sj K 1 0 r_law_wide_asked)) : CalN P w K mg base 11 "law" (Sf K 1 r_law) :=
  ⟨f, fd, ["script"], ok_f F sc_law rfl (by decide) fun cdv A outer s H E c hr => w_law b hr c_q_least_levels c_law_tape c_law_draw c_law_book c_law_same c_law_box_asked c_law_drain_asked c_law_meet c_law_wide_asked, g, F.kp, F.bindsN fun _ _ _ _ _ _ us hl => match us, hl with | [_], _ => rfl⟩
end NR

set_option Elab.async false
set_option linter.all false
set_option maxRecDepth 100000
set_option maxHeartbeats 4000000
set_option autoImplicit false
namespace NR
open PySem PySem.Spec PyProof.Rows L2
theorem mem_zipI {a b : List Int} {d : D} (h : d ∈ List.zipWith (fun x y => D.tup [x, y]) (a.map D.int) (b.map D.int)) : ∃ x y, d = .tup [.int x, .int y] := by
  rw [List.zipWith_map] at h
  obtain ⟨x, y, _, _, rfl⟩ := mem_zipW h
  exact ⟨x, y, rfl⟩
theorem map_zipI {f : D → D} {a b : List Int} : (List.zipWith (fun x y => D.tup [x, y]) (a.map D.int) (b.map D.int)).map f = List.zipWith (fun x y => f (.tup [.int x, .int y])) a b := by
  rw [List.zipWith_map, List.map_zipWith]
def atl (a b : List Int) : Bool := (List.zipWith (fun x y => decide (y ≤ x)) a b).all id
def grt (a b : List Int) : List Int := List.zipWith max a b
theorem p_at_least {a b : List Int} (h : a.length ≤ 1000) : r_q_at_least [tupI a, tupI b] = some (.bl (atl a b)) := by
  have e := lcL_all (vs := [2, 3]) (g := gTups 2 (gMore (gSet 2) (gMore (gSet 3) gNone))) (m := eBin geD (eVar 2) (eLk 3)) (env := [.val (tupI a), .val (tupI b), .emp, .emp])
    (fun d => match d with | .tup [.int x, .int y] => .bl (decide (y ≤ x)) | _ => .non) (ds := List.zipWith (fun x y => D.tup [x, y]) (a.map D.int) (b.map D.int)) fun d hd => by
      obtain ⟨x, y, rfl⟩ := mem_zipI hd
      exact ⟨_, rfl, _, rfl, rfl⟩
  rw [map_zipI] at e
  refine runF_of (sRet_of (eUn_of (eLc_of (env' := [.val (tupI a), .val (tupI b), .emp, .emp]) rfl e (zlen h)) ?_))
  rw [show (List.zipWith (fun x y => D.bl (decide (y ≤ x))) a b) = (List.zipWith (fun x y => decide (y ≤ x)) a b).map .bl by rw [List.map_zipWith]]
  exact allL_bls _
theorem mx (x y : Int) : (if y > x then y else x) = max x y := by omega
theorem p_greater_of {a b : List Int} (h : a.length ≤ 1000) : r_q_greater_of [tupI a, tupI b] = some (tupI (grt a b)) := by
  have e := lcL_all (vs := [2, 3]) (g := gTups 2 (gMore (gSet 2) (gMore (gSet 3) gNone))) (m := eBin max2D (eVar 2) (eLk 3)) (env := [.val (tupI a), .val (tupI b), .emp, .emp])
    (fun d => match d with | .tup [.int x, .int y] => .int (if y > x then y else x) | _ => .non) (ds := List.zipWith (fun x y => D.tup [x, y]) (a.map D.int) (b.map D.int)) fun d hd => by
      obtain ⟨x, y, rfl⟩ := mem_zipI hd
      exact ⟨_, rfl, _, rfl, rfl⟩
  rw [map_zipI] at e
  refine runF_of (sRet_of (eUn_of (eLc_of (env' := [.val (tupI a), .val (tupI b), .emp, .emp]) rfl e (zlen h)) ?_))
  show some (D.tup _) = some (D.tup ((List.zipWith max a b).map .int))
  rw [List.map_zipWith]
  congr 3
  funext x y
  exact congrArg D.int (mx _ _)
def bef (l p : List Int) : List Int := List.zipWith (fun x y => max (x - y) 0) l p
theorem p_before_levels {a b : List Int} (h : a.length ≤ 1000) : r_q_before_levels [tupI a, tupI b] = some (tupI (bef a b)) := by
  have e := lcL_all (vs := [2, 3]) (g := gTups 2 (gMore (gSet 2) (gMore (gSet 3) gNone))) (m := eBin max2D (eBin subD (eVar 2) (eLk 3)) (eC (.int 0))) (env := [.val (tupI a), .val (tupI b), .emp, .emp])
    (fun d => match d with | .tup [.int x, .int y] => .int (if 0 > x - y then 0 else x - y) | _ => .non) (ds := List.zipWith (fun x y => D.tup [x, y]) (a.map D.int) (b.map D.int)) fun d hd => by
      obtain ⟨x, y, rfl⟩ := mem_zipI hd
      exact ⟨_, rfl, _, rfl, rfl⟩
  rw [map_zipI] at e
  refine runF_of (sRet_of (eUn_of (eLc_of (env' := [.val (tupI a), .val (tupI b), .emp, .emp]) rfl e (zlen h)) ?_))
  show some (D.tup _) = some (D.tup ((List.zipWith (fun x y => max (x - y) 0) a b).map .int))
  rw [List.map_zipWith]
  congr 3
  funext x y
  exact congrArg D.int (mx _ _)
def zer (n : Nat) : List Int := List.replicate n 0
theorem p_noughts {n : Nat} (h : n ≤ 1000) : r_q_noughts [.int n] = some (tupI (zer n)) := by
  have e := lcL_all (vs := [1]) (g := gSet 1) (m := eC (.int 0)) (env := [.val (.int n), .emp]) (fun _ => .int 0) (ds := rangeL 0 n) fun d hd => ⟨_, rfl, _, rfl, rfl⟩
  have hw : iRange1 (aCons (eVar 0) aNil) [.val (.int n), .emp] = some (rangeL 0 n, [.val (.int n), .emp]) := iRange1_of rfl (rng_nat (by omega))
  have hl : (rangeL 0 n).length = n := by unfold rangeL; rw [List.length_map, List.length_range]
  refine runF_of (sRet_of (eUn_of (eLc_of (env' := [.val (.int n), .emp]) hw e (by rw [List.length_map, hl, sizeLine_eq]; omega)) ?_))
  show some (D.tup _) = some (D.tup ((List.replicate n (0 : Int)).map .int))
  rw [List.map_replicate, List.map_const', hl]
/-! lots -/
def lotsD (l : List (List Int)) : D := .tup (l.map tupI)
def anyA (l : List Int) (found : List (List Int)) : Bool := found.any fun o => atl l o
def keepL (found : List (List Int)) (l : List Int) : List (List Int) := if anyA l found = true then found else found ++ [l]
def leastL (lots : List (List Int)) : List (List Int) := (sdd lots).foldl keepL []
theorem rows_lots (l : List (List Int)) : rowsD (lotsD l) = some l := mapM_rowD l
theorem ss_lots {l : List (List Int)} (h : SsOk l) : ssD (lotsD l) = some (.lst ((sdd l).map tupI)) := by
  unfold ssD
  rw [rows_lots]
  show (if SsOk l then _ else _) = _
  rw [if_pos h]
theorem sdd_len (l : List (List Int)) : (sdd l).length ≤ l.length := rows_len (sdd_sorted l |>.imp fun h e => by subst e; exact List.lt_irrefl _ h) fun x hx => mem_sdd.mp hx
theorem bTru_any (l : List Bool) : truD (.bl (l.any id)) = some (l.any id) := rfl
theorem p_least_ones {l : List (List Int)} (h : SsOk l) (hw : ∀ r ∈ l, r.length ≤ 1000) (hl : l.length ≤ 10000) : r_q_least_ones [lotsD l] = some (lotsD (leastL l)) := by
  have sl : (sdd l).length ≤ 10000 := Nat.le_trans (sdd_len l) hl
  -- one turn's test
  have tst : ∀ (found : List (List Int)) (r : List Int), r.length ≤ 1000 → found.length ≤ 10000 → bTru (eUn anyL (eLcP [3] 1 (gSet 3) (bYes) (eCall 2 r_q_at_least (aCons (eVar 2) (aCons (eVar 3) (aNil)))))) [.val (lotsD l), .own (.lst (found.map tupI)), .val (tupI r), .emp]
      = some (anyA r found, [.val (lotsD l), .own (.lst (found.map tupI)), .val (tupI r), .emp]) := by
    intro found r hr hf
    have e := lcL_all (vs := [3]) (g := gSet 3) (m := eCall 2 r_q_at_least (aCons (eVar 2) (aCons (eVar 3) (aNil)))) (env := [.val (lotsD l), .emp, .val (tupI r), .emp])
      (fun d => match rowD d with | some o => .bl (atl r o) | none => .non) (ds := found.map tupI) fun d hd => by
        obtain ⟨o, _, rfl⟩ := List.mem_map.mp hd
        refine ⟨_, rfl, _, eCall_of (ds := [tupI r, tupI o]) rfl ?_, rfl⟩
        rw [rowD_tupI, p_at_least hr]
    rw [List.map_map] at e
    refine bTru_of (eUn_of (eLcP_of (env' := [.val (lotsD l), .own (.lst (found.map tupI)), .val (tupI r), .emp]) rfl e (by rw [List.length_map, sizeLine_eq]; omega)) (z := .bl (anyA r found)) ?_) rfl
    have e2 : (found.map ((fun d => match rowD d with | some o => D.bl (atl r o) | none => D.non) ∘ tupI)) = (found.map fun o => atl r o).map D.bl := by
      rw [List.map_map]
      refine List.map_congr_left fun o _ => ?_
      show (match rowD (tupI o) with | some o => D.bl (atl r o) | none => D.non) = _
      rw [rowD_tupI]
      rfl
    rw [e2, anyL_bls, List.any_map]
    rfl
  -- the loop
  have loop : ∀ (rs found : List (List Int)), (∀ r ∈ rs, r.length ≤ 1000) → found.length + rs.length ≤ 10000 → forL [2] (gSet 2) (sIf (bNot (bTru (eUn anyL (eLcP [3] 1 (gSet 3) (bYes) (eCall 2 r_q_at_least (aCons (eVar 2) (aCons (eVar 3) (aNil)))))))) (sAppend 1 (eVar 2)) (sSkip)) (rs.map tupI) [.val (lotsD l), .own (.lst (found.map tupI)), .emp, .emp]
      = some (.nx [.val (lotsD l), .own (.lst ((rs.foldl keepL found).map tupI)), .emp, .emp]) := by
    intro rs
    induction rs with
    | nil => intro found _ _; rfl
    | cons r rs ih =>
      intro found hr hf
      rw [List.length_cons] at hf
      refine forL_one (e1 := [.val (lotsD l), .own (.lst (found.map tupI)), .val (tupI r), .emp]) (e := [.val (lotsD l), .own (.lst ((keepL found r).map tupI)), .val (tupI r), .emp]) rfl (.inl ?_) (ih (keepL found r) (fun q hq => hr q (List.mem_cons_of_mem _ hq)) ?_)
      · refine sIf_of (bNot_of (tst found r (hr r List.mem_cons_self) (by omega))) ?_
        cases ha : anyA r found with
        | true =>
          refine (if_neg (by decide)).trans ?_
          unfold keepL
          rw [if_pos ha]
          rfl
        | false =>
          refine (if_pos rfl).trans ?_
          refine sAppend_of rfl rfl rfl (by rw [List.length_map, sizeLine_eq]; omega) ?_
          unfold keepL
          rw [if_neg (by rw [ha]; exact Bool.false_ne_true), List.map_append]
          rfl
      · unfold keepL
        split
        · omega
        · rw [List.length_append]; show found.length + 1 + rs.length ≤ 10000; omega
  refine runF_of (sSeq_of (sOwn_of (env' := [.val (lotsD l), .own (.lst []), .emp, .emp]) rfl) (sSeq_of (sFor_of (iSeq_of (eUn_of (d := lotsD l) rfl (ss_lots h)) rfl) (loop (sdd l) [] (fun r hr => hw r (mem_sdd.mp hr)) (by simpa using sl))) (sRet_of (eUn_of rfl rfl))))
theorem anyA_D (l : List Int) (L : List (List Int)) : anyL (.lst (L.map fun o => D.bl (atl l o))) = some (.bl (anyA l L)) := by
  have : (L.map fun o => D.bl (atl l o)) = (L.map fun o => atl l o).map D.bl := by rw [List.map_map]; rfl
  rw [this, anyL_bls, List.any_map]
  rfl
theorem p_is_above {L : List (List Int)} {l : List Int} (hl : l.length ≤ 1000) (hL : L.length ≤ 10000) : r_q_is_above [lotsD L, tupI l] = some (.bl (anyA l L)) := by
  have e := lcL_enc (vs := [2]) (g := gSet 2) (m := eCall 2 r_q_at_least (aCons (eVar 1) (aCons (eVar 2) aNil))) (env := [.val (lotsD L), .val (tupI l), .emp]) tupI (fun o => .bl (atl l o)) (as := L) fun o _ =>
    ⟨_, rfl, _, eCall_of (ds := [tupI l, tupI o]) rfl (p_at_least hl), rfl⟩
  exact runF_of (sRet_of (eUn_of (eLc_of (env' := [.val (lotsD L), .val (tupI l), .emp]) rfl e (by rw [List.length_map, sizeLine_eq]; omega)) (anyA_D l L)))
def joinL (a b : List (List Int)) : List (List Int) := leastL (a ++ b)
def prodL (a b : List (List Int)) : List (List Int) := a.flatMap fun l => b.map fun r => grt l r
def metL (a b : List (List Int)) : List (List Int) := leastL (prodL a b)
theorem p_joined {a b : List (List Int)} (h : SsOk (a ++ b)) (hw : ∀ r ∈ a ++ b, r.length ≤ 1000) (hl : a.length + b.length ≤ 10000) : r_q_joined_lots [lotsD a, lotsD b] = some (lotsD (joinL a b)) := by
  refine runF_of (sRet_of (eCall_of (ds := [lotsD (a ++ b)]) (aCons_of (eBin_of (d := lotsD a) (e := lotsD b) rfl rfl (z := lotsD (a ++ b)) ?_) rfl) (p_least_ones h hw (by rw [List.length_append]; exact hl))))
  unfold lotsD
  rw [List.map_append]
  exact add_tup (by rw [List.length_map, List.length_map]; omega)
theorem prod_len (a b : List (List Int)) : (prodL a b).length = a.length * b.length := by
  unfold prodL
  induction a with
  | nil => simp
  | cons x a ih => rw [List.flatMap_cons, List.length_append, ih, List.length_map, List.length_cons, Nat.succ_mul]; omega
theorem p_met {a b : List (List Int)} (h : SsOk (prodL a b)) (hw : ∀ r ∈ a, r.length ≤ 1000) (hl : a.length * b.length ≤ 10000) : r_q_met_lots [lotsD a, lotsD b] = some (lotsD (metL a b)) := by
  by_cases hb0 : a = []
  · subst hb0
    refine runF_of (sRet_of (eCall_of (ds := [lotsD (prodL [] b)]) (aCons_of (eUn_of (eLc2_of (zs := []) (env' := [.val (lotsD []), .val (lotsD b), .emp, .emp]) rfl rfl (by rw [sizeLine_eq]; simp)) rfl) rfl) (p_least_ones h (by simp [prodL]) (by simp [prodL]))))
  have hbl : b.length ≤ 10000 := by
    have : 1 ≤ a.length := List.length_pos_iff.mpr hb0
    calc b.length = 1 * b.length := (Nat.one_mul _).symm
      _ ≤ a.length * b.length := Nat.mul_le_mul_right _ this
      _ ≤ 10000 := hl
  have e := lc2L_enc (vs := [2, 3]) (vs1 := [3]) (g := gSet 2) (w1 := iSeq (eVar 1)) (g1 := gSet 3) (m := eCall 2 r_q_greater_of (aCons (eVar 2) (aCons (eVar 3) aNil))) (env := [.val (lotsD a), .val (lotsD b), .emp, .emp]) tupI
    (fun l => b.map fun r => tupI (grt l r)) (as := a) fun l hla => by
      have e1 := lcL_enc (vs := [3]) (g := gSet 3) (m := eCall 2 r_q_greater_of (aCons (eVar 2) (aCons (eVar 3) aNil))) (env := [.val (lotsD a), .val (lotsD b), .val (tupI l), .emp]) tupI (fun r => tupI (grt l r)) (as := b) fun r _ =>
        ⟨_, rfl, _, eCall_of (ds := [tupI l, tupI r]) rfl (p_greater_of (hw l hla)), rfl⟩
      exact ⟨_, _, _, _, rfl, rfl, e1, rfl⟩
  have e2 : (a.flatMap fun l => b.map fun r => tupI (grt l r)) = (prodL a b).map tupI := by
    unfold prodL
    rw [List.map_flatMap]
    congr 1
    funext l
    rw [List.map_map]
    rfl
  rw [e2] at e
  refine runF_of (sRet_of (eCall_of (ds := [lotsD (prodL a b)]) (aCons_of (eUn_of (eLc2_of (env' := [.val (lotsD a), .val (lotsD b), .emp, .emp]) rfl e (by rw [List.length_map, prod_len, sizeLine_eq]; omega)) rfl) rfl) (p_least_ones h (fun r hr => ?_) (by rw [prod_len]; exact hl))))
  unfold prodL at hr
  obtain ⟨l, h1, h2⟩ := List.mem_flatMap.mp hr
  obtain ⟨q, _, rfl⟩ := List.mem_map.mp h2
  unfold grt
  rw [List.length_zipWith]
  have := hw l h1
  omega
theorem p_before_pours {L : List (List Int)} {p : List Int} (h : SsOk (L.map fun l => bef l p)) (hw : ∀ r ∈ L, r.length ≤ 1000) (hl : L.length ≤ 10000) : r_q_before_pours [lotsD L, tupI p, .non] = some (lotsD (leastL (L.map fun l => bef l p))) := by
  have e := lcL_enc (vs := [4]) (g := gSet 4) (m := eCall 2 r_q_before_levels (aCons (eVar 4) (aCons (eVar 1) aNil))) (env := [.val (lotsD L), .val (tupI p), .val .non, .emp, .emp]) tupI (fun l => tupI (bef l p)) (as := L) fun l hl' =>
    ⟨_, rfl, _, eCall_of (ds := [tupI l, tupI p]) rfl (p_before_levels (hw l hl')), rfl⟩
  have e2 : (L.map fun l => tupI (bef l p)) = (L.map fun l => bef l p).map tupI := by rw [List.map_map]; rfl
  rw [e2] at e
  refine runF_of (sSeq_of (sSet_of (env' := [.val (lotsD L), .val (tupI p), .val .non, .val (.lst ((L.map fun l => bef l p).map tupI)), .emp]) (eLc_of (env' := [.val (lotsD L), .val (tupI p), .val .non, .emp, .emp]) rfl e (by rw [List.length_map, List.length_map, sizeLine_eq]; omega)))
    (sSeq_of (sIf_of (b := false) rfl rfl) (sRet_of (eCall_of (ds := [lotsD (L.map fun l => bef l p)]) rfl (p_least_ones h (fun r hr => ?_) (by rw [List.length_map]; exact hl))))))
  obtain ⟨l, h1, rfl⟩ := List.mem_map.mp hr
  unfold bef
  rw [List.length_zipWith]
  have := hw l h1
  omega
/-! books -/
structure Mv where
  wd : Str
  po : List Int
  to_ : Nat
structure Sg where
  ow : Bool
  mv : List Mv
def ownS (b : Bool) : D := .str (if b then PySem.Str.ofString "house" else PySem.Str.ofString "outside")
def encM (m : Mv) : D := .tup [.str m.wd, tupI m.po, .int m.to_]
def encS (s : Sg) : D := .tup [ownS s.ow, .tup (s.mv.map encM)]
def encB (tanks : Nat) (b : List Sg) : D := .tup [.int tanks, .tup (b.map encS)]
abbrev Tb := List (List (List Int))
def tabD (t : Tb) : D := .tup (t.map lotsD)
def befs (t : Tb) (m : Mv) : List (List Int) := (t.getD m.to_ []).map fun l => bef l m.po
def stepL (h : Bool) (f q : List (List Int)) : List (List Int) := if h then joinL f q else metL f q
def standL (tanks : Nat) (t : Tb) (s : Sg) : List (List Int) := match s.mv with
  | [] => [zer tanks]
  | m :: ms => (ms.map fun m => leastL (befs t m)).foldl (stepL s.ow) (leastL (befs t m))
/-- what one union or meeting asks -/
def StepOk (h : Bool) (f q : List (List Int)) : Prop := (if h then SsOk (f ++ q) else SsOk (prodL f q)) ∧ (∀ r ∈ f ++ q, r.length ≤ 1000) ∧ f.length ≤ 100 ∧ q.length ≤ 100
def FoldOk (h : Bool) : List (List Int) → List (List (List Int)) → Prop
  | _, [] => True
  | f, q :: qs => StepOk h f q ∧ FoldOk h (stepL h f q) qs
/-- what a standing's lots ask -/
def StandOk (t : Tb) (s : Sg) : Prop := s.mv.length ≤ 1000 ∧ (∀ m ∈ s.mv, m.to_ < t.length ∧ SsOk (befs t m) ∧ (∀ r ∈ t.getD m.to_ [], r.length ≤ 1000) ∧ (t.getD m.to_ []).length ≤ 10000) ∧
  match s.mv with
  | [] => True
  | m :: ms => FoldOk s.ow (leastL (befs t m)) (ms.map fun m => leastL (befs t m))
theorem tab_at {t : Tb} {i : Nat} (h : i < t.length) : ixD (tabD t) (.int i) = some (lotsD (t.getD i [])) := by
  refine ix_tup ?_
  rw [List.getElem?_map, List.getElem?_eq_getElem h, List.getD_eq_getElem?_getD, List.getElem?_eq_getElem h]
  rfl
theorem house_test (b : Bool) : eqD (ownS b) (.str (PySem.Str.ofString "house")) = some (.bl b) := by cases b <;> rfl
theorem p_standing {t : Tb} {s : Sg} {tanks : Nat} (ht : tanks ≤ 1000) (h : StandOk t s) : r_q_standing_lots [encS s, tabD t, .non, .int tanks] = some (lotsD (standL tanks t s)) := by
  obtain ⟨h0, h1, h2⟩ := h
  have first : sAsg (eVar 0) (gTups 2 (gMore (gSet 7) (gMore (gSet 8) (gNone)))) (envOf 12 [encS s, tabD t, .non, .int tanks]) = some (.nx [.val (encS s), .val (tabD t), .val .non, .val (.int tanks), .emp, .emp, .emp, .val (ownS s.ow), .val (.tup (s.mv.map encM)), .emp, .emp, .emp]) := rfl
  cases hm : s.mv with
  | nil =>
    have e : standL tanks t s = [zer tanks] := by unfold standL; rw [hm]
    rw [e]
    rw [hm] at first
    refine runF_of (sSeq_of first (sSeq_rt (e := [.val (encS s), .val (tabD t), .val .non, .val (.int tanks), .emp, .emp, .emp, .val (ownS s.ow), .val (.tup []), .emp, .emp, .emp]) (sIf_of (b := true) rfl ?_)))
    exact sRet_of (eTup_of (ds := [tupI (zer tanks)]) (aCons_of (eCall_of (ds := [.int tanks]) rfl (p_noughts ht)) rfl))
  | cons m ms =>
    rw [hm] at h0 h1 h2 first
    have e : standL tanks t s = (ms.map fun m => leastL (befs t m)).foldl (stepL s.ow) (leastL (befs t m)) := by unfold standL; rw [hm]
    rw [e]
    have e1 := lcL_enc (vs := [9, 10, 11]) (g := gTups 3 (gMore (gSet 9) (gMore (gSet 10) (gMore (gSet 11) (gNone))))) (m := eCall 3 r_q_before_pours (aCons (eBinV ixD 1 (eLk 11)) (aCons (eVar 10) (aCons (eVar 2) (aNil)))))
      (env := [.val (encS s), .val (tabD t), .val .non, .val (.int tanks), .emp, .emp, .emp, .val (ownS s.ow), .val (.tup ((m :: ms).map encM)), .emp, .emp, .emp]) encM (fun m => lotsD (leastL (befs t m))) (as := m :: ms) fun a ha => by
        obtain ⟨q1, q2, q3, q4⟩ := h1 a ha
        refine ⟨_, rfl, _, eCall_of (ds := [lotsD (t.getD a.to_ []), tupI a.po, .non]) (aCons_of (eBinV_of (d := tabD t) rfl rfl rfl (tab_at q1)) rfl) (p_before_pours q2 q3 q4), rfl⟩
    have loop : ∀ (qs : List (List (List Int))) (f : List (List Int)), FoldOk s.ow f qs → forL [6] (gSet 6) (sSet 5 (eIf (bOf (eBin eqD (eVar 7) (eC (.str (PySem.Str.ofString "house"))))) (eCall 2 r_q_joined_lots (aCons (eVar 5) (aCons (eVar 6) (aNil)))) (eCall 2 r_q_met_lots (aCons (eVar 5) (aCons (eVar 6) (aNil)))))) (qs.map lotsD)
        [.val (encS s), .val (tabD t), .val .non, .val (.int tanks), .val (.lst (((m :: ms).map fun m => lotsD (leastL (befs t m))))), .val (lotsD f), .emp, .val (ownS s.ow), .val (.tup ((m :: ms).map encM)), .emp, .emp, .emp]
        = some (.nx [.val (encS s), .val (tabD t), .val .non, .val (.int tanks), .val (.lst (((m :: ms).map fun m => lotsD (leastL (befs t m))))), .val (lotsD (qs.foldl (stepL s.ow) f)), .emp, .val (ownS s.ow), .val (.tup ((m :: ms).map encM)), .emp, .emp, .emp]) := by
      intro qs
      induction qs with
      | nil => intro f _; rfl
      | cons q qs ih =>
        intro f hf
        obtain ⟨⟨k1, k2, k3, k4⟩, k5⟩ := hf
        refine forL_one (e := [.val (encS s), .val (tabD t), .val .non, .val (.int tanks), .val (.lst (((m :: ms).map fun m => lotsD (leastL (befs t m))))), .val (lotsD (stepL s.ow f q)), .val (lotsD q), .val (ownS s.ow), .val (.tup ((m :: ms).map encM)), .emp, .emp, .emp]) rfl (.inl ?_) (ih (stepL s.ow f q) k5)
        have hE : eIf (bOf (eBin eqD (eVar 7) (eC (.str (PySem.Str.ofString "house"))))) (eCall 2 r_q_joined_lots (aCons (eVar 5) (aCons (eVar 6) (aNil)))) (eCall 2 r_q_met_lots (aCons (eVar 5) (aCons (eVar 6) (aNil))))
            [.val (encS s), .val (tabD t), .val .non, .val (.int tanks), .val (.lst (((m :: ms).map fun m => lotsD (leastL (befs t m))))), .val (lotsD f), .val (lotsD q), .val (ownS s.ow), .val (.tup ((m :: ms).map encM)), .emp, .emp, .emp]
            = some (lotsD (stepL s.ow f q), [.val (encS s), .val (tabD t), .val .non, .val (.int tanks), .val (.lst (((m :: ms).map fun m => lotsD (leastL (befs t m))))), .val (lotsD f), .val (lotsD q), .val (ownS s.ow), .val (.tup ((m :: ms).map encM)), .emp, .emp, .emp]) := by
          refine eIf_of (bOf_of (eBin_of (d := ownS s.ow) (e := .str (PySem.Str.ofString "house")) rfl rfl (house_test s.ow))) ?_
          cases ho : s.ow with
          | true =>
            rw [ho] at k1
            exact (if_pos rfl).trans (eCall_of (ds := [lotsD f, lotsD q]) rfl (p_joined k1 k2 (by omega)))
          | false =>
            rw [ho] at k1
            refine (if_neg Bool.false_ne_true).trans (eCall_of (ds := [lotsD f, lotsD q]) rfl (p_met k1 (fun r hr => k2 r (List.mem_append_left _ hr)) ?_))
            calc f.length * q.length ≤ 100 * 100 := Nat.mul_le_mul k3 k4
              _ ≤ 10000 := by decide
        exact sSet_of hE
    have hL := loop (ms.map fun m => leastL (befs t m)) (leastL (befs t m)) h2
    rw [List.map_map] at hL
    have s4 := sSet_of (i := 4) (eLc_of (env := [.val (encS s), .val (tabD t), .val .non, .val (.int tanks), .emp, .emp, .emp, .val (ownS s.ow), .val (.tup ((m :: ms).map encM)), .emp, .emp, .emp]) (w := iSeq (eVar 8)) (env' := [.val (encS s), .val (tabD t), .val .non, .val (.int tanks), .emp, .emp, .emp, .val (ownS s.ow), .val (.tup ((m :: ms).map encM)), .emp, .emp, .emp]) rfl e1 (by rw [List.length_map, sizeLine_eq]; omega))
    have s5 := sSet_of (i := 5) (eBinV_of (g := ixD) (i := 4) (mb := eC (.int 0)) (env := [.val (encS s), .val (tabD t), .val .non, .val (.int tanks), .val (.lst ((m :: ms).map fun m => lotsD (leastL (befs t m)))), .emp, .emp, .val (ownS s.ow), .val (.tup ((m :: ms).map encM)), .emp, .emp, .emp]) (d := .lst ((m :: ms).map fun m => lotsD (leastL (befs t m)))) rfl rfl rfl (ix_lst (i := 0) rfl))
    have cut : cutA ((m :: ms).map fun m => lotsD (leastL (befs t m))) (some 1) none = ms.map (lotsD ∘ fun m => leastL (befs t m)) := by
      rw [List.map_cons, cut_tail]
      rfl
    have hS : iSeq (eSl (eVar 4) (oSome (eC (.int 1))) (oNone)) [.val (encS s), .val (tabD t), .val .non, .val (.int tanks), .val (.lst ((m :: ms).map fun m => lotsD (leastL (befs t m)))), .val (lotsD (leastL (befs t m))), .emp, .val (ownS s.ow), .val (.tup ((m :: ms).map encM)), .emp, .emp, .emp]
        = some (ms.map (lotsD ∘ fun m => leastL (befs t m)), [.val (encS s), .val (tabD t), .val .non, .val (.int tanks), .val (.lst ((m :: ms).map fun m => lotsD (leastL (befs t m)))), .val (lotsD (leastL (befs t m))), .emp, .val (ownS s.ow), .val (.tup ((m :: ms).map encM)), .emp, .emp, .emp]) := by
      rw [← cut]
      exact iSeq_of (eSl_of (d := .lst ((m :: ms).map fun m => lotsD (leastL (befs t m)))) rfl rfl rfl rfl) rfl
    exact runF_of (sSeq_of first (sSeq_of (sIf_of (b := false) rfl rfl) (sSeq_of s4 (sSeq_of s5 (sSeq_of (sFor_of hS hL) (sRet_of rfl))))))
/-! tables -/
def beforeT (tanks : Nat) (b : List Sg) (t : Tb) : Tb := b.map fun s => standL tanks t s
def firstT (tanks : Nat) (b : List Sg) : Tb := b.map fun _ => [zer tanks]
def TabOk' (b : List Sg) (t : Tb) : Prop := ∀ s ∈ b, StandOk t s
def tabN (tanks : Nat) (b : List Sg) : Nat → Tb
  | 0 => firstT tanks b
  | n + 1 => beforeT tanks b (tabN tanks b n)
theorem bk_0 (tanks : Nat) (b : List Sg) : ixD (encB tanks b) (.int 0) = some (.int tanks) := rfl
theorem bk_1 (tanks : Nat) (b : List Sg) : ixD (encB tanks b) (.int 1) = some (.tup (b.map encS)) := rfl
theorem p_lots_before {t : Tb} {b : List Sg} {tanks : Nat} (ht : tanks ≤ 1000) (hb : b.length ≤ 1000) (h : TabOk' b t) : r_q_lots_before [encB tanks b, tabD t, .non] = some (tabD (beforeT tanks b t)) := by
  have e := lcL_enc (vs := [3]) (g := gSet 3) (m := eCall 4 r_q_standing_lots (aCons (eVar 3) (aCons (eVar 1) (aCons (eVar 2) (aCons (eBinV ixD 0 (eC (.int 0))) (aNil)))))) (env := [.val (encB tanks b), .val (tabD t), .val .non, .emp]) encS (fun s => lotsD (standL tanks t s)) (as := b) fun s hs =>
    ⟨_, rfl, _, eCall_of (ds := [encS s, tabD t, .non, .int tanks]) rfl (p_standing ht (h s hs)), rfl⟩
  refine runF_of (sRet_of (eUn_of (eLc_of (env' := [.val (encB tanks b), .val (tabD t), .val .non, .emp]) (iSeq_of (eBinV_of (d := encB tanks b) rfl rfl rfl (bk_1 tanks b)) rfl) e (by rw [List.length_map, sizeLine_eq]; omega)) ?_))
  unfold tabD beforeT
  rw [List.map_map]
  rfl
theorem p_first_lots {b : List Sg} {tanks : Nat} (ht : tanks ≤ 1000) (hb : b.length ≤ 1000) : r_q_first_lots [encB tanks b] = some (tabD (firstT tanks b)) := by
  have e := lcL_enc (vs := [1]) (g := gSet 1) (m := eTup (aCons (eCall 1 r_q_noughts (aCons (eBinV ixD 0 (eC (.int 0))) (aNil))) (aNil))) (env := [.val (encB tanks b), .emp]) encS (fun _ => lotsD [zer tanks]) (as := b) fun s hs =>
    ⟨_, rfl, _, eTup_of (ds := [tupI (zer tanks)]) (aCons_of (eCall_of (ds := [.int tanks]) rfl (p_noughts ht)) rfl), rfl⟩
  refine runF_of (sRet_of (eUn_of (eLc_of (env' := [.val (encB tanks b), .emp]) (iSeq_of (eBinV_of (d := encB tanks b) rfl rfl rfl (bk_1 tanks b)) rfl) e (by rw [List.length_map, sizeLine_eq]; omega)) ?_))
  unfold tabD firstT
  rw [List.map_map]
  rfl
def tabsD (tanks : Nat) (b : List Sg) (n : Nat) : D := .tup ((List.range (n + 1)).map fun i => tabD (tabN tanks b i))
theorem ix_last {xs : List D} {x : D} : ixD (.lst (xs ++ [x])) (.int (-1)) = some x := by
  show atI (xs ++ [x]) (-1) = some x
  unfold atI ixN
  rw [if_neg (by decide), if_pos (by rw [List.length_append]; simp; omega)]
  show (xs ++ [x])[((-1 : Int) + ((xs ++ [x]).length : Nat)).toNat]? = some x
  rw [List.length_append, show ((-1 : Int) + ((xs.length + [x].length : Nat))).toNat = xs.length by simp; omega]
  simp
theorem p_levels_tables {b : List Sg} {tanks n : Nat} (ht : tanks ≤ 1000) (hb : b.length ≤ 1000) (hn : n ≤ 1000) (h : ∀ i, i < n → TabOk' b (tabN tanks b i)) : r_q_levels_tables [encB tanks b, .int n] = some (tabsD tanks b n) := by
  have loop : ∀ (ds : List D) (k : Nat), k + ds.length ≤ n → forL [3] (gSet 3) (sAppend 2 (eCall 3 r_q_lots_before (aCons (eVar 0) (aCons (eBinV ixD 2 (eUn negD (eC (.int 1)))) (aCons (eC .non) (aNil)))))) ds
      [.val (encB tanks b), .val (.int n), .own (.lst ((List.range (k + 1)).map fun i => tabD (tabN tanks b i))), .emp] = some (.nx [.val (encB tanks b), .val (.int n), .own (.lst ((List.range (k + ds.length + 1)).map fun i => tabD (tabN tanks b i))), .emp]) := by
    intro ds
    induction ds with
    | nil => intro k _; rfl
    | cons d ds ih =>
      intro k hk
      rw [List.length_cons] at hk ⊢
      have hE : eCall 3 r_q_lots_before (aCons (eVar 0) (aCons (eBinV ixD 2 (eUn negD (eC (.int 1)))) (aCons (eC .non) (aNil)))) [.val (encB tanks b), .val (.int n), .own (.lst ((List.range (k + 1)).map fun i => tabD (tabN tanks b i))), .val d]
          = some (tabD (tabN tanks b (k + 1)), [.val (encB tanks b), .val (.int n), .own (.lst ((List.range (k + 1)).map fun i => tabD (tabN tanks b i))), .val d]) := by
        refine eCall_of (ds := [encB tanks b, tabD (tabN tanks b k), .non]) (aCons_of rfl (aCons_of (eBinV_of (d := .lst ((List.range (k + 1)).map fun i => tabD (tabN tanks b i))) rfl rfl rfl ?_) rfl)) (p_lots_before ht hb (h k (by omega)))
        rw [List.range_succ, List.map_append]
        exact ix_last
      have hA := sAppend_of (i := 2) (env := [.val (encB tanks b), .val (.int n), .own (.lst ((List.range (k + 1)).map fun i => tabD (tabN tanks b i))), .val d]) rfl hE rfl (by rw [List.length_map, List.length_range, sizeLine_eq]; omega)
      have e1 : ((List.range (k + 1)).map fun i => tabD (tabN tanks b i)) ++ [tabD (tabN tanks b (k + 1))] = (List.range (k + 1 + 1)).map fun i => tabD (tabN tanks b i) := by
        rw [List.range_succ (n := k + 1), List.map_append]
        rfl
      rw [e1] at hA
      have := ih (k + 1) (by omega)
      rw [show k + 1 + ds.length = k + (ds.length + 1) by omega] at this
      exact forL_one rfl (.inl hA) this
  have hl := loop (rangeL 0 n) 0 (by rw [rangeL_len]; omega)
  simp only [rangeL_len, Nat.zero_add] at hl
  have h0 := sOwn_of (i := 2) (eLst_of (a := aCons (eCall 1 r_q_first_lots (aCons (eVar 0) aNil)) aNil) (e := envOf 4 [encB tanks b, .int n]) (env := envOf 4 [encB tanks b, .int n]) (ds := [tabD (firstT tanks b)]) (aCons_of (eCall_of (ds := [encB tanks b]) rfl (p_first_lots ht hb)) rfl))
  exact runF_of (sSeq_of h0 (sSeq_of (sFor_of (iRange1_of rfl (rng_nat (by omega))) hl) (sRet_of (eUn_of rfl rfl))))
theorem tabs_at {tanks n : Nat} {b : List Sg} : ixD (tabsD tanks b n) (.int n) = some (tabD (tabN tanks b n)) := by
  refine ix_tup ?_
  rw [List.getElem?_map, List.getElem?_range (by omega)]
  rfl
theorem tabN_len {tanks : Nat} {b : List Sg} : ∀ n, (tabN tanks b n).length = b.length
  | 0 => by show (firstT tanks b).length = _; unfold firstT; rw [List.length_map]
  | n + 1 => by show (beforeT tanks b _).length = _; unfold beforeT; rw [List.length_map]
theorem p_least_levels {b : List Sg} {tanks n s : Nat} (ht : tanks ≤ 1000) (hb : b.length ≤ 1000) (hn : n ≤ 1000) (h : ∀ i, i < n → TabOk' b (tabN tanks b i)) (hs : s < b.length) : r_q_least_levels [encB tanks b, .int s, .int n] = some (lotsD ((tabN tanks b n).getD s [])) :=
  runF_of (sRet_of (eBin_of (eBin_of (eCall_of (ds := [encB tanks b, .int n]) rfl (p_levels_tables ht hb hn h)) rfl tabs_at) rfl (tab_at (by rw [tabN_len]; exact hs))))
theorem p_keeps_for {b : List Sg} {tanks n s : Nat} {l : List Int} (ht : tanks ≤ 1000) (hb : b.length ≤ 1000) (hn : n ≤ 1000) (h : ∀ i, i < n → TabOk' b (tabN tanks b i)) (hs : s < b.length) (hl : l.length ≤ 1000) (hL : ((tabN tanks b n).getD s []).length ≤ 10000) :
    r_q_keeps_for [encB tanks b, .int s, tupI l, .int n] = some (.bl (anyA l ((tabN tanks b n).getD s []))) :=
  runF_of (sRet_of (eCall_of (ds := [lotsD ((tabN tanks b n).getD s []), tupI l]) (aCons_of (eCall_of (ds := [encB tanks b, .int s, .int n]) rfl (p_least_levels ht hb hn h hs)) rfl) (p_is_above hl hL)))
/-- for how many moves -/
def lastsN (tanks : Nat) (b : List Sg) (s : Nat) (l : List Int) : Nat → Nat → Nat
  | _, 0 => 0
  | k, m + 1 => if anyA l ((tabN tanks b (k + 1)).getD s []) = true then 1 + lastsN tanks b s l (k + 1) m else 0
theorem p_lasting {b : List Sg} {tanks n s : Nat} {l : List Int} (ht : tanks ≤ 1000) (hb : b.length ≤ 1000) (hn : n ≤ 1000) (h : ∀ i, i < n → TabOk' b (tabN tanks b i)) (hs : s < b.length) (hl : l.length ≤ 1000) (hL : ∀ i, i ≤ n → ((tabN tanks b i).getD s []).length ≤ 10000) :
    r_q_lasting_moves [encB tanks b, .int s, tupI l, .int n] = some (.int (lastsN tanks b s l 0 n : Nat)) := by
  have loop : ∀ (m k : Nat), k + m = n → ∃ r, forL [5] (gSet 5) (sSeq (sSet 4 (eCall 3 r_q_lots_before (aCons (eVar 0) (aCons (eVar 4) (aCons (eC .non) (aNil)))))) (
      sIf (bNot (bTru (eCall 2 r_q_is_above (aCons (eBinV ixD 4 (eLk 1)) (aCons (eVar 2) (aNil)))))) (sRet (eVar 5)) (sSkip))) ((List.range' k m).map fun i => D.int (i : Nat))
      [.val (encB tanks b), .val (.int s), .val (tupI l), .val (.int n), .val (tabD (tabN tanks b k)), .emp] = some r ∧ ((∃ e, r = .rt (.int ((k + lastsN tanks b s l k m : Nat) : Int)) e) ∨ (lastsN tanks b s l k m = m ∧ r = .nx [.val (encB tanks b), .val (.int s), .val (tupI l), .val (.int n), .val (tabD (tabN tanks b (k + m))), .emp])) := by
    intro m
    induction m with
    | zero => intro k hk; exact ⟨_, rfl, .inr ⟨rfl, rfl⟩⟩
    | succ m ih =>
      intro k hk
      have hT : r_q_is_above [lotsD ((tabN tanks b (k + 1)).getD s []), tupI l] = some (.bl (anyA l ((tabN tanks b (k + 1)).getD s []))) := p_is_above hl (hL _ (by omega))
      have b1 := sSet_of (i := 4) (eCall_of (n := 3) (f := r_q_lots_before) (a := aCons (eVar 0) (aCons (eVar 4) (aCons (eC .non) (aNil)))) (env := [.val (encB tanks b), .val (.int s), .val (tupI l), .val (.int n), .val (tabD (tabN tanks b k)), .val (.int (k : Nat))]) (ds := [encB tanks b, tabD (tabN tanks b k), .non]) rfl (p_lots_before ht hb (h k (by omega))))
      have b2 := bNot_of (bTru_of (eCall_of (n := 2) (f := r_q_is_above) (a := aCons (eBinV ixD 4 (eLk 1)) (aCons (eVar 2) (aNil))) (env := [.val (encB tanks b), .val (.int s), .val (tupI l), .val (.int n), .val (tabD (tabN tanks b (k + 1))), .val (.int (k : Nat))]) (ds := [lotsD ((tabN tanks b (k + 1)).getD s []), tupI l]) (aCons_of (eBinV_of (d := tabD (tabN tanks b (k + 1))) rfl rfl rfl (tab_at (by rw [tabN_len]; exact hs))) rfl) hT) rfl)
      rw [List.range'_succ, List.map_cons]
      unfold lastsN
      cases ha : anyA l ((tabN tanks b (k + 1)).getD s []) with
      | true =>
        rw [ha] at b2
        obtain ⟨r, h1, h2⟩ := ih (k + 1) (by omega)
        refine ⟨r, forL_one rfl (.inl (sSeq_of b1 (sIf_of b2 rfl))) h1, ?_⟩
        rw [if_pos rfl]
        rcases h2 with ⟨e, h2⟩ | ⟨h2, h3⟩
        · exact .inl ⟨e, by rw [h2]; congr 2; omega⟩
        · exact .inr ⟨by omega, by rw [h3, show k + 1 + m = k + (m + 1) by omega]⟩
      | false =>
        rw [ha] at b2
        rw [if_neg Bool.false_ne_true, Nat.add_zero]
        exact ⟨_, forL_ret rfl (sSeq_of b1 (sIf_of b2 rfl)), .inl ⟨_, rfl⟩⟩
  obtain ⟨r, h1, h2⟩ := loop n 0 (by omega)
  have hr : ((List.range' 0 n).map fun i => D.int (i : Nat)) = rangeL 0 n := by
    unfold rangeL
    rw [List.range_eq_range']
    refine List.map_congr_left fun i _ => ?_
    rw [Int.zero_add]
  rw [hr] at h1
  have h0 := sSet_of (i := 4) (eCall_of (n := 1) (f := r_q_first_lots) (a := aCons (eVar 0) aNil) (env := envOf 6 [encB tanks b, .int s, tupI l, .int n]) (ds := [encB tanks b]) rfl (p_first_lots ht hb))
  rcases h2 with ⟨e, h2⟩ | ⟨h2, h3⟩
  · subst h2
    rw [Nat.zero_add] at h1
    exact runF_of (sSeq_of h0 (sSeq_rt (sFor_of (iRange1_of rfl (rng_nat (by omega))) h1)))
  · subst h3
    rw [h2]
    exact runF_of (sSeq_of h0 (sSeq_of (sFor_of (iRange1_of rfl (rng_nat (by omega))) h1) (sRet_of rfl)))
end NR

set_option Elab.async false
set_option linter.all false
set_option maxRecDepth 100000
set_option maxHeartbeats 4000000
set_option autoImplicit false
/-! plain mathematics of least ones -/
namespace NR
open PySem PySem.Spec PyProof.Rows L2
/-- by places -/
theorem atl_iff {a b : List Int} : atl a b = true ↔ ∀ (i : Nat) (x y : Int), a[i]? = some x → b[i]? = some y → y ≤ x := by
  unfold atl
  rw [List.all_eq_true]
  constructor
  · intro h i x y ha hb
    have : decide (y ≤ x) ∈ List.zipWith (fun x y => decide (y ≤ x)) a b := by
      refine List.mem_iff_getElem?.mpr ⟨i, ?_⟩
      rw [List.getElem?_zipWith, ha, hb]
    exact of_decide_eq_true (h _ this)
  · intro h q hq
    obtain ⟨i, hi⟩ := List.mem_iff_getElem?.mp hq
    rw [List.getElem?_zipWith] at hi
    cases ha : a[i]? with
    | none => rw [ha] at hi; cases b[i]? <;> cases hi
    | some x =>
      cases hb : b[i]? with
      | none => rw [ha, hb] at hi; cases hi
      | some y =>
        rw [ha, hb] at hi
        cases hi
        exact decide_eq_true (h i x y ha hb)
theorem atl_refl (a : List Int) : atl a a = true := atl_iff.mpr fun i x y h1 h2 => by rw [h1] at h2; cases h2; exact Int.le_refl _
theorem atl_trans {T : Nat} {a b c : List Int} (hb : b.length = T) (ha : a.length = T) (h1 : atl a b = true) (h2 : atl b c = true) : atl a c = true := atl_iff.mpr fun i x z hx hz => by
  have hi : i < b.length := by rw [hb, ← ha]; exact lt_of_get hx
  obtain ⟨y, hy⟩ : ∃ y, b[i]? = some y := ⟨_, List.getElem?_eq_getElem hi⟩
  have p := atl_iff.mp h1 i x y hx hy
  have q := atl_iff.mp h2 i y z hy hz
  omega
theorem atl_anti {T : Nat} {a b : List Int} (ha : a.length = T) (hb : b.length = T) (h1 : atl a b = true) (h2 : atl b a = true) : a = b := by
  refine List.ext_getElem? fun i => ?_
  by_cases hi : i < T
  · have e1 : a[i]? = some (a[i]'(by omega)) := List.getElem?_eq_getElem _
    have e2 : b[i]? = some (b[i]'(by omega)) := List.getElem?_eq_getElem _
    have p := atl_iff.mp h1 i _ _ e1 e2
    have q := atl_iff.mp h2 i _ _ e2 e1
    rw [e1, e2]
    congr 1
    omega
  · rw [List.getElem?_eq_none (by omega), List.getElem?_eq_none (by omega)]
theorem anyA_iff {l : List Int} {L : List (List Int)} : anyA l L = true ↔ ∃ o ∈ L, atl l o = true := by
  unfold anyA
  rw [List.any_eq_true]
/-- a row of T numbers, 0 <= .. <= B -/
def Row (T : Nat) (B : Int) (l : List Int) : Prop := l.length = T ∧ ∀ x ∈ l, 0 ≤ x ∧ x ≤ B
def Rows (T : Nat) (B : Int) (L : List (List Int)) : Prop := ∀ l ∈ L, Row T B l
theorem Row.mono {T : Nat} {B C : Int} {l : List Int} (h : Row T B l) (hc : B ≤ C) : Row T C l := ⟨h.1, fun x hx => ⟨(h.2 x hx).1, Int.le_trans (h.2 x hx).2 hc⟩⟩
/-- least ones: in order, none above another -/
structure Least (T : Nat) (B : Int) (L : List (List Int)) : Prop where
  rows : Rows T B L
  sort : L.Pairwise (· < ·)
  anti : ∀ a ∈ L, ∀ b ∈ L, atl a b = true → a = b
/-- lexicographic order goes with places -/
theorem le_of_atl : ∀ {a b : List Int}, a.length = b.length → atl a b = true → b ≤ a
  | [], [], _, _ => List.le_refl _
  | [], _ :: _, h, _ => by simp at h
  | _ :: _, [], h, _ => by simp at h
  | x :: a, y :: b, hl, h => by
    have h0 := atl_iff.mp h 0 x y rfl rfl
    have h1 : atl a b = true := atl_iff.mpr fun i u w hu hw => atl_iff.mp h (i + 1) u w (by simpa using hu) (by simpa using hw)
    by_cases e : y = x
    · subst e
      have := le_of_atl (by simpa using hl) h1
      refine List.not_lt.mp fun z => ?_
      rcases List.cons_lt_cons_iff.mp z with z | ⟨_, z⟩
      · omega
      · exact absurd z (List.not_lt.mpr this)
    · exact List.le_of_lt (List.cons_lt_cons_iff.mpr (.inl (by omega)))
theorem keepL_foldl_sub : ∀ (rs found : List (List Int)), ∀ x ∈ rs.foldl keepL found, x ∈ found ∨ x ∈ rs
  | [], found, x, h => .inl h
  | r :: rs, found, x, h => by
    rcases keepL_foldl_sub rs (keepL found r) x h with h | h
    · unfold keepL at h
      split at h
      · exact .inl h
      · rcases List.mem_append.mp h with h | h
        · exact .inl h
        · rw [List.mem_singleton.mp h]; exact .inr List.mem_cons_self
    · exact .inr (List.mem_cons_of_mem _ h)
theorem keepL_foldl_old : ∀ (rs found : List (List Int)), ∀ x ∈ found, x ∈ rs.foldl keepL found
  | [], found, x, h => h
  | r :: rs, found, x, h => keepL_foldl_old rs (keepL found r) x (by unfold keepL; split; exact h; exact List.mem_append_left _ h)
theorem keepL_foldl_cov : ∀ (rs found : List (List Int)), ∀ x ∈ rs, ∃ o ∈ rs.foldl keepL found, atl x o = true
  | r :: rs, found, x, h => by
    rcases List.mem_cons.mp h with e | h
    · subst e
      show ∃ o ∈ rs.foldl keepL (keepL found x), _
      unfold keepL
      split
      · rename_i ha
        obtain ⟨o, ho, h2⟩ := anyA_iff.mp ha
        exact ⟨o, keepL_foldl_old rs found o ho, h2⟩
      · exact ⟨x, keepL_foldl_old rs _ x (List.mem_append_right _ (List.mem_singleton.mpr rfl)), atl_refl x⟩
    · exact keepL_foldl_cov rs (keepL found r) x h
/-- kept ones: in order, each is above none of the others -/
theorem keepL_least {T : Nat} {B : Int} : ∀ (rs found : List (List Int)), Rows T B rs → rs.Pairwise (· < ·) → Least T B found → (∀ a ∈ found, ∀ r ∈ rs, a < r) → Least T B (rs.foldl keepL found)
  | [], found, _, _, h, _ => h
  | r :: rs, found, hr, hs, h, hlt => by
    obtain ⟨hs1, hs2⟩ := List.pairwise_cons.mp hs
    refine keepL_least rs (keepL found r) (fun x hx => hr x (List.mem_cons_of_mem _ hx)) hs2 ?_ ?_
    · unfold keepL
      split
      · exact h
      · rename_i ha
        have hr0 := hr r List.mem_cons_self
        refine ⟨fun x hx => ?_, List.pairwise_append.mpr ⟨h.sort, by simp, fun a ha' b hb => ?_⟩, fun a ha' b hb hab => ?_⟩
        · rcases List.mem_append.mp hx with hx | hx
          · exact h.rows x hx
          · rw [List.mem_singleton.mp hx]; exact hr0
        · rw [List.mem_singleton.mp hb]
          exact hlt a ha' r List.mem_cons_self
        · rcases List.mem_append.mp ha' with ha' | ha' <;> rcases List.mem_append.mp hb with hb | hb
          · exact h.anti a ha' b hb hab
          · rw [List.mem_singleton.mp hb] at hab ⊢
            have q := le_of_atl ((h.rows a ha').1.trans hr0.1.symm) hab
            exact absurd (hlt a ha' r List.mem_cons_self) (List.not_lt.mpr q)
          · rw [List.mem_singleton.mp ha'] at hab
            exact absurd (anyA_iff.mpr ⟨b, hb, hab⟩) ha
          · rw [List.mem_singleton.mp ha', List.mem_singleton.mp hb]
    · intro a ha q hq
      unfold keepL at ha
      split at ha
      · exact hlt a ha q (List.mem_cons_of_mem _ hq)
      · rcases List.mem_append.mp ha with ha | ha
        · exact hlt a ha q (List.mem_cons_of_mem _ hq)
        · rw [List.mem_singleton.mp ha]; exact hs1 q hq
theorem leastL_least {T : Nat} {B : Int} {L : List (List Int)} (h : Rows T B L) : Least T B (leastL L) :=
  keepL_least (sdd L) [] (fun x hx => h x (mem_sdd.mp hx)) (sdd_sorted L) ⟨by simp [Rows], by simp, by simp⟩ (by simp)
theorem leastL_sub {L : List (List Int)} : ∀ x ∈ leastL L, x ∈ L := fun x hx => by
  rcases keepL_foldl_sub (sdd L) [] x hx with h | h
  · cases h
  · exact mem_sdd.mp h
/-- to be above one of the least is to be above one -/
theorem anyA_least {T : Nat} {B : Int} {L : List (List Int)} (h : Rows T B L) {l : List Int} (hl : l.length = T) : anyA l (leastL L) = anyA l L := by
  rw [Bool.eq_iff_iff, anyA_iff, anyA_iff]
  constructor
  · rintro ⟨o, ho, h2⟩
    exact ⟨o, leastL_sub o ho, h2⟩
  · rintro ⟨o, ho, h2⟩
    obtain ⟨p, hp, h3⟩ := keepL_foldl_cov (sdd L) [] o (mem_sdd.mpr ho)
    exact ⟨p, hp, atl_trans (h o ho).1 hl h2 h3⟩
theorem anyA_app {l : List Int} {a b : List (List Int)} : anyA l (a ++ b) = (anyA l a || anyA l b) := by unfold anyA; rw [List.any_append]
theorem atl_grt {T : Nat} {l a b : List Int} (ha : a.length = T) (hb : b.length = T) : atl l (grt a b) = (atl l a && atl l b) := by
  rw [Bool.eq_iff_iff, Bool.and_eq_true, atl_iff, atl_iff, atl_iff]
  have get : ∀ (i : Nat) (y : Int), (grt a b)[i]? = some y ↔ ∃ u w, a[i]? = some u ∧ b[i]? = some w ∧ y = max u w := fun i y => by
    unfold grt
    rw [List.getElem?_zipWith]
    cases a[i]? <;> cases b[i]? <;> simp
    constructor <;> (intro h; exact h.symm)
  constructor
  · intro h
    refine ⟨fun i x y hx hy => ?_, fun i x y hx hy => ?_⟩
    · have hi : i < b.length := by rw [hb, ← ha]; exact lt_of_get hy
      have := h i x _ hx ((get i _).mpr ⟨y, b[i], hy, List.getElem?_eq_getElem hi, rfl⟩)
      omega
    · have hi : i < a.length := by rw [ha, ← hb]; exact lt_of_get hy
      have := h i x _ hx ((get i _).mpr ⟨a[i], y, List.getElem?_eq_getElem hi, hy, rfl⟩)
      omega
  · rintro ⟨h1, h2⟩ i x y hx hy
    obtain ⟨u, w, hu, hw, rfl⟩ := (get i y).mp hy
    have := h1 i x u hx hu
    have := h2 i x w hx hw
    omega
theorem anyA_prod {T : Nat} {B C : Int} {l : List Int} {a b : List (List Int)} (ha : Rows T B a) (hb : Rows T C b) : anyA l (prodL a b) = (anyA l a && anyA l b) := by
  rw [Bool.eq_iff_iff, Bool.and_eq_true, anyA_iff, anyA_iff, anyA_iff]
  unfold prodL
  constructor
  · rintro ⟨o, ho, h⟩
    obtain ⟨x, hx, ho⟩ := List.mem_flatMap.mp ho
    obtain ⟨y, hy, rfl⟩ := List.mem_map.mp ho
    rw [atl_grt (ha x hx).1 (hb y hy).1, Bool.and_eq_true] at h
    exact ⟨⟨x, hx, h.1⟩, ⟨y, hy, h.2⟩⟩
  · rintro ⟨⟨x, hx, h1⟩, ⟨y, hy, h2⟩⟩
    refine ⟨grt x y, List.mem_flatMap.mpr ⟨x, hx, List.mem_map.mpr ⟨y, hy, rfl⟩⟩, ?_⟩
    rw [atl_grt (ha x hx).1 (hb y hy).1, h1, h2]
    rfl
theorem rows_prod {T : Nat} {B : Int} {a b : List (List Int)} (ha : Rows T B a) (hb : Rows T B b) : Rows T B (prodL a b) := by
  intro o ho
  unfold prodL at ho
  obtain ⟨x, hx, ho⟩ := List.mem_flatMap.mp ho
  obtain ⟨y, hy, rfl⟩ := List.mem_map.mp ho
  refine ⟨by unfold grt; rw [List.length_zipWith, (ha x hx).1, (hb y hy).1, Nat.min_self], fun z hz => ?_⟩
  obtain ⟨u, w, hu, hw, rfl⟩ := mem_zipW hz
  have := (ha x hx).2 u hu
  have := (hb y hy).2 w hw
  omega
theorem rows_app {T : Nat} {B : Int} {a b : List (List Int)} (ha : Rows T B a) (hb : Rows T B b) : Rows T B (a ++ b) := fun x hx => (List.mem_append.mp hx).elim (ha x) (hb x)
/-- a move goes back: pours p, each at least -S -/
theorem row_bef {T : Nat} {B S : Int} {l p : List Int} (hl : Row T B l) (hp : p.length = T) (hS : ∀ x ∈ p, -S ≤ x) (h0 : 0 ≤ B + S) : Row T (B + S) (bef l p) := by
  refine ⟨by unfold bef; rw [List.length_zipWith, hl.1, hp, Nat.min_self], fun z hz => ?_⟩
  obtain ⟨u, w, hu, hw, rfl⟩ := mem_zipW hz
  have := hl.2 u hu
  have := hS w hw
  omega
def plus (l p : List Int) : List Int := List.zipWith (· + ·) l p
theorem atl_bef {T : Nat} {l o p : List Int} (hl : l.length = T) (ho : o.length = T) (hp : p.length = T) (h0 : ∀ x ∈ l, 0 ≤ x) : atl l (bef o p) = atl (plus l p) o := by
  rw [Bool.eq_iff_iff, atl_iff, atl_iff]
  have at_ : ∀ {a : List Int} {i : Nat}, a.length = T → i < T → a[i]? = some (a.getD i 0) := fun {a i} h hi => by
    rw [List.getD_eq_getElem?_getD, List.getElem?_eq_getElem (by omega)]; rfl
  constructor
  · intro h i x y hx hy
    have hi : i < T := by rw [← ho]; exact lt_of_get hy
    have e1 := at_ hl hi
    have e2 := at_ hp hi
    have ex : x = l.getD i 0 + p.getD i 0 := by
      unfold plus at hx
      rw [List.getElem?_zipWith, e1, e2] at hx
      exact (Option.some.inj hx).symm
    have eb : (bef o p)[i]? = some (max (y - p.getD i 0) 0) := by
      unfold bef
      rw [List.getElem?_zipWith, hy, e2]
    have := h i _ _ e1 eb
    omega
  · intro h i x y hx hy
    have hi : i < T := by rw [← hl]; exact lt_of_get hx
    have e1 := at_ ho hi
    have e2 := at_ hp hi
    have ey : y = max (o.getD i 0 - p.getD i 0) 0 := by
      unfold bef at hy
      rw [List.getElem?_zipWith, e1, e2] at hy
      exact (Option.some.inj hy).symm
    have ep : (plus l p)[i]? = some (x + p.getD i 0) := by
      unfold plus
      rw [List.getElem?_zipWith, hx, e2]
    have := h i _ _ ep e1
    have := h0 x (List.mem_of_getElem? hx)
    omega
/-! how many -/
theorem leastL_len (L : List (List Int)) {T : Nat} {B : Int} (h : Rows T B L) : (leastL L).length ≤ L.length :=
  rows_len ((leastL_least h).sort.imp fun h e => by subst e; exact List.lt_irrefl _ h) leastL_sub
theorem ssok_rows {T : Nat} {B : Int} {L : List (List Int)} (h : Rows T B L) (hT : 1 ≤ T) (few : L.length < 64 ∨ (sdd L).length < 63) : SsOk L := by
  refine ⟨fun r hr => ⟨?_, by rw [(h r hr).1]; exact hT, fun x hx => ((h r hr).2 x hx).1⟩, few⟩
  cases L with
  | nil => cases hr
  | cons a L => rw [(h r hr).1]; exact (h a List.mem_cons_self).1.symm
theorem inc_ge : ∀ (l : List Int) (lo : Int), l.Pairwise (· < ·) → (∀ x ∈ l, lo ≤ x) → ∀ (i : Nat) (x : Int), l[i]? = some x → lo + i ≤ x
  | [], _, _, _, i, x, h => by simp at h
  | a :: l, lo, hp, hl, 0, x, h => by
    simp at h; subst h
    have := hl a List.mem_cons_self
    omega
  | a :: l, lo, hp, hl, i + 1, x, h => by
    obtain ⟨h1, h2⟩ := List.pairwise_cons.mp hp
    have := inc_ge l (lo + 1) h2 (fun y hy => by have := h1 y hy; have := hl a List.mem_cons_self; omega) i x (by simpa using h)
    omega
theorem inc_le : ∀ (l : List Int) (hi : Int), l.Pairwise (· < ·) → (∀ x ∈ l, x ≤ hi) → ∀ (i : Nat) (x : Int), l[i]? = some x → x + l.length ≤ hi + 1 + i
  | [], _, _, _, i, x, h => by simp at h
  | a :: l, hi, hp, hl, 0, x, h => by
    simp at h; subst h
    obtain ⟨h1, h2⟩ := List.pairwise_cons.mp hp
    cases l with
    | nil => have := hl a List.mem_cons_self; simp; omega
    | cons b l =>
      have := inc_le (b :: l) hi h2 (fun y hy => hl y (List.mem_cons_of_mem _ hy)) 0 b rfl
      have := h1 b List.mem_cons_self
      rw [List.length_cons]
      omega
  | a :: l, hi, hp, hl, i + 1, x, h => by
    obtain ⟨h1, h2⟩ := List.pairwise_cons.mp hp
    have := inc_le l hi h2 (fun y hy => hl y (List.mem_cons_of_mem _ hy)) i x (by simpa using h)
    rw [List.length_cons]
    omega
theorem inc_len {l : List Int} {lo hi : Int} (hp : l.Pairwise (· < ·)) (h : ∀ x ∈ l, lo ≤ x ∧ x ≤ hi) (hh : lo ≤ hi + 1) : (l.length : Int) ≤ hi + 1 - lo := by
  cases l with
  | nil => simp; omega
  | cons a l =>
    have := inc_le (a :: l) hi hp (fun x hx => (h x hx).2) 0 a rfl
    have := (h a List.mem_cons_self).1
    omega
theorem least1 {B : Int} {L : List (List Int)} (h : Least 1 B L) : L.length ≤ 1 := by
  match L, h with
  | [], _ => simp
  | [_], _ => simp
  | a :: b :: L, h =>
    exfalso
    have ha := (h.rows a (by simp)).1
    have hb := (h.rows b (by simp)).1
    have hab : a < b := (List.pairwise_cons.mp h.sort).1 b List.mem_cons_self
    match a, b, ha, hb with
    | [x], [y], _, _ =>
      rcases List.cons_lt_cons_iff.mp hab with q | ⟨_, q⟩
      · have : atl [y] [x] = true := by unfold atl; simp; omega
        have e := h.anti [y] (by simp) [x] (by simp) this
        cases e
        exact absurd hab (List.lt_irrefl _)
      · exact absurd q (List.lt_irrefl _)
def hd0 (l : List Int) : Int := l.getD 0 0
def hd1 (l : List Int) : Int := l.getD 1 0
theorem row2 {B : Int} {l : List Int} (h : Row 2 B l) : l = [hd0 l, hd1 l] ∧ 0 ≤ hd0 l ∧ hd0 l ≤ B ∧ 0 ≤ hd1 l ∧ hd1 l ≤ B := by
  obtain ⟨h1, h2⟩ := h
  match l, h1 with
  | [x, y], _ =>
    have a := h2 x (by simp)
    have b := h2 y (by simp)
    exact ⟨rfl, a.1, a.2, b.1, b.2⟩
theorem least2_pw {B : Int} {L : List (List Int)} (h : Least 2 B L) : L.Pairwise fun a b => hd0 a < hd0 b ∧ hd1 b < hd1 a := by
  refine h.sort.imp_of_mem fun {a b} ha hb hab => ?_
  obtain ⟨ea, _⟩ := row2 (h.rows a ha)
  obtain ⟨eb, _⟩ := row2 (h.rows b hb)
  have ne : a ≠ b := fun e => by subst e; exact List.lt_irrefl _ hab
  have nab : ¬ atl b a = true := fun z => ne (h.anti b hb a ha z).symm
  rw [ea, eb] at hab nab
  have na : ¬ (hd0 a ≤ hd0 b ∧ hd1 a ≤ hd1 b) := fun z => nab (by unfold atl; simp; exact z)
  rcases List.cons_lt_cons_iff.mp hab with q | ⟨q, r⟩
  · omega
  · rcases List.cons_lt_cons_iff.mp r with r | ⟨_, r⟩
    · omega
    · exact absurd r (List.lt_irrefl _)
theorem least2_len {B : Int} {L : List (List Int)} (h : Least 2 B L) (hB : 0 ≤ B) : (L.length : Int) ≤ B + 1 := by
  have p : (L.map hd0).Pairwise (· < ·) := List.pairwise_map.mpr ((least2_pw h).imp fun z => z.1)
  have := inc_len (lo := 0) (hi := B) p (fun x hx => by
    obtain ⟨l, hl, rfl⟩ := List.mem_map.mp hx
    obtain ⟨_, a, b, _⟩ := row2 (h.rows l hl)
    exact ⟨a, b⟩) (by omega)
  rw [List.length_map] at this
  omega
theorem least2_full {B : Int} {L : List (List Int)} (h : Least 2 B L) (hf : (L.length : Int) = B + 1) : ∀ l ∈ L, hd0 l + hd1 l = B := by
  intro l hl
  obtain ⟨i, hi⟩ := List.mem_iff_getElem?.mp hl
  have p0 : (L.map hd0).Pairwise (· < ·) := List.pairwise_map.mpr ((least2_pw h).imp fun z => z.1)
  have p1 : (L.map fun l => - hd1 l).Pairwise (· < ·) := List.pairwise_map.mpr ((least2_pw h).imp fun z => by have := z.2; omega)
  have a1 := inc_ge _ 0 p0 (fun x hx => by obtain ⟨l, hl, rfl⟩ := List.mem_map.mp hx; exact (row2 (h.rows l hl)).2.1) i (hd0 l) (by rw [List.getElem?_map, hi]; rfl)
  have a2 := inc_le _ B p0 (fun x hx => by obtain ⟨l, hl, rfl⟩ := List.mem_map.mp hx; exact (row2 (h.rows l hl)).2.2.1) i (hd0 l) (by rw [List.getElem?_map, hi]; rfl)
  have a3 := inc_ge _ (-B) p1 (fun x hx => by obtain ⟨l, hl, rfl⟩ := List.mem_map.mp hx; have := (row2 (h.rows l hl)).2.2.2.2; omega) i (- hd1 l) (by rw [List.getElem?_map, hi]; rfl)
  have a4 := inc_le _ 0 p1 (fun x hx => by obtain ⟨l, hl, rfl⟩ := List.mem_map.mp hx; have := (row2 (h.rows l hl)).2.2.2.1; omega) i (- hd1 l) (by rw [List.getElem?_map, hi]; rfl)
  rw [List.length_map] at a2 a4
  omega
/-- the points on or above the antidiagonal of a box of ten by ten -/
def above9 : List (List Int) := (List.range 10).flatMap fun (u : Nat) => (List.range 10).filterMap fun (w : Nat) => if 9 ≤ u + w then some [Int.ofNat u, Int.ofNat w] else none
theorem above9_len : above9.length = 55 := by decide +kernel
theorem mem_above9 {l : List Int} (h : Row 2 9 l) (h9 : 9 ≤ hd0 l + hd1 l) : l ∈ above9 := by
  obtain ⟨e, a, b, c, d⟩ := row2 h
  unfold above9
  refine List.mem_flatMap.mpr ⟨(hd0 l).toNat, List.mem_range.mpr (by omega), List.mem_filterMap.mpr ⟨(hd1 l).toNat, List.mem_range.mpr (by omega), ?_⟩⟩
  rw [if_pos (by omega)]
  rw [show Int.ofNat (hd0 l).toNat = hd0 l from Int.toNat_of_nonneg a, show Int.ofNat (hd1 l).toNat = hd1 l from Int.toNat_of_nonneg c, ← e]
theorem prod_few {f q : List (List Int)} (hf : Least 2 9 f) (hq : Rows 2 9 q) (hl : q.length ≤ 7) : (prodL f q).length < 64 ∨ (sdd (prodL f q)).length < 63 := by
  have h10 := least2_len hf (by decide)
  by_cases e : f.length ≤ 9
  · left
    rw [prod_len]
    calc f.length * q.length ≤ 9 * 7 := Nat.mul_le_mul e hl
      _ < 64 := by decide
  · right
    have full := least2_full hf (by omega)
    have : (sdd (prodL f q)).length ≤ above9.length := by
      refine rows_len ((sdd_sorted _).imp fun h e => by subst e; exact List.lt_irrefl _ h) fun l hl' => ?_
      have hm := mem_sdd.mp hl'
      refine mem_above9 (rows_prod hf.rows hq l hm) ?_
      unfold prodL at hm
      obtain ⟨x, hx, hm⟩ := List.mem_flatMap.mp hm
      obtain ⟨y, hy, rfl⟩ := List.mem_map.mp hm
      have fx := full x hx
      obtain ⟨ex, _⟩ := row2 (hf.rows x hx)
      obtain ⟨ey, _⟩ := row2 (hq y hy)
      rw [ex, ey]
      show 9 ≤ max (hd0 x) (hd0 y) + max (hd1 x) (hd1 y)
      omega
    rw [above9_len] at this
    omega
/-! one step back -/
structure GoodT (T : Nat) (B : Int) (n : Nat) (t : Tb) : Prop where
  len : t.length = n
  least : ∀ L ∈ t, Least T B L
structure BookOk (T : Nat) (S : Int) (b : List Sg) : Prop where
  few : b.length ≤ 100
  mvs : ∀ s ∈ b, s.mv.length ≤ 3
  mv : ∀ s ∈ b, ∀ m ∈ s.mv, m.to_ < b.length ∧ m.po.length = T ∧ ∀ x ∈ m.po, -S ≤ x ∧ x ≤ S
theorem GoodT.at {T : Nat} {B : Int} {n : Nat} {t : Tb} (g : GoodT T B n t) {i : Nat} (h : i < n) : Least T B (t.getD i []) := by
  rw [List.getD_eq_getElem?_getD, List.getElem?_eq_getElem (by rw [g.len]; exact h)]
  exact g.least _ (List.getElem_mem _)
theorem rows_befs {T : Nat} {B S : Int} {n : Nat} {t : Tb} {m : Mv} (g : GoodT T B n t) (hB : 0 ≤ B) (hS : 0 ≤ S) (h1 : m.to_ < n) (h2 : m.po.length = T) (h3 : ∀ x ∈ m.po, -S ≤ x ∧ x ≤ S) : Rows T (B + S) (befs t m) := by
  intro l hl
  obtain ⟨o, ho, rfl⟩ := List.mem_map.mp hl
  exact row_bef ((g.at h1).rows o ho) h2 (fun x hx => (h3 x hx).1) (by omega)
theorem least_mono {T : Nat} {B C : Int} {L : List (List Int)} (h : Least T B L) (hc : B ≤ C) : Least T C L := ⟨fun l hl => (h.rows l hl).mono hc, h.sort, h.anti⟩
theorem stepL_least {T : Nat} {B : Int} {h : Bool} {f q : List (List Int)} (hf : Rows T B f) (hq : Rows T B q) : Least T B (stepL h f q) := by
  unfold stepL joinL metL
  cases h with
  | true => rw [if_pos rfl]; exact leastL_least (rows_app hf hq)
  | false => rw [if_neg Bool.false_ne_true]; exact leastL_least (rows_prod hf hq)
theorem fold_least {T : Nat} {B : Int} {h : Bool} : ∀ {qs : List (List (List Int))} {f : List (List Int)}, Least T B f → (∀ q ∈ qs, Rows T B q) → Least T B (qs.foldl (stepL h) f)
  | [], f, hf, _ => hf
  | q :: qs, f, hf, hq => fold_least (qs := qs) (f := stepL h f q) (stepL_least hf.rows (hq q List.mem_cons_self)) fun x hx => hq x (List.mem_cons_of_mem _ hx)
theorem fold_any {T : Nat} {B : Int} {h : Bool} {l : List Int} (hl : l.length = T) : ∀ {qs : List (List (List Int))} {f : List (List Int)}, Rows T B f → (∀ q ∈ qs, Rows T B q) →
    anyA l (qs.foldl (stepL h) f) = if h then (anyA l f || qs.any fun q => anyA l q) else (anyA l f && qs.all fun q => anyA l q)
  | [], f, _, _ => by cases h <;> simp
  | q :: qs, f, hf, hq => by
    have hq0 := hq q List.mem_cons_self
    rw [List.foldl_cons, fold_any hl (stepL_least hf hq0).rows fun x hx => hq x (List.mem_cons_of_mem _ hx)]
    cases h with
    | true =>
      show (anyA l (joinL f q) || _) = (anyA l f || _)
      unfold joinL
      rw [anyA_least (rows_app hf hq0) hl, anyA_app, List.any_cons, Bool.or_assoc]
    | false =>
      show (anyA l (metL f q) && _) = (anyA l f && _)
      unfold metL
      rw [anyA_least (rows_prod hf hq0) hl, anyA_prod hf hq0, List.all_cons, Bool.and_assoc]
theorem zer_row (T : Nat) {B : Int} (hB : 0 ≤ B) : Row T B (zer T) := ⟨by unfold zer; rw [List.length_replicate], fun x hx => by rw [List.eq_of_mem_replicate hx]; omega⟩
theorem zer_least (T : Nat) {B : Int} (hB : 0 ≤ B) : Least T B [zer T] := ⟨fun l hl => by rw [List.mem_singleton.mp hl]; exact zer_row T hB, by simp, fun a ha b hb _ => by rw [List.mem_singleton.mp ha, List.mem_singleton.mp hb]⟩
theorem stand_least {T : Nat} {B S : Int} {n : Nat} {t : Tb} {s : Sg} (g : GoodT T B n t) (hB : 0 ≤ B) (hS : 0 ≤ S) (hm : ∀ m ∈ s.mv, m.to_ < n ∧ m.po.length = T ∧ ∀ x ∈ m.po, -S ≤ x ∧ x ≤ S) : Least T (B + S) (standL T t s) := by
  unfold standL
  cases h : s.mv with
  | nil => exact zer_least T (by omega)
  | cons m ms =>
    rw [h] at hm
    have r : ∀ m' ∈ m :: ms, Rows T (B + S) (befs t m') := fun m' hm' => rows_befs g hB hS (hm m' hm').1 (hm m' hm').2.1 (hm m' hm').2.2
    refine fold_least (leastL_least (r m List.mem_cons_self)) fun q hq => ?_
    obtain ⟨m', hm', rfl⟩ := List.mem_map.mp hq
    exact (leastL_least (r m' (List.mem_cons_of_mem _ hm'))).rows
/-- one move kept -/
def goes (t : Tb) (l : List Int) (m : Mv) : Bool := anyA (plus l m.po) (t.getD m.to_ [])
theorem any_befs {T : Nat} {B S : Int} {n : Nat} {t : Tb} {m : Mv} {l : List Int} (g : GoodT T B n t) (h1 : m.to_ < n) (h2 : m.po.length = T) (hl : l.length = T) (h0 : ∀ x ∈ l, 0 ≤ x) : anyA l (befs t m) = goes t l m := by
  unfold goes befs
  rw [Bool.eq_iff_iff, anyA_iff, anyA_iff]
  constructor
  · rintro ⟨o, ho, h⟩
    obtain ⟨p, hp, rfl⟩ := List.mem_map.mp ho
    rw [atl_bef hl ((g.at h1).rows p hp).1 h2 h0] at h
    exact ⟨p, hp, h⟩
  · rintro ⟨p, hp, h⟩
    refine ⟨bef p m.po, List.mem_map.mpr ⟨p, hp, rfl⟩, ?_⟩
    rw [atl_bef hl ((g.at h1).rows p hp).1 h2 h0]
    exact h
theorem any_stand {T : Nat} {B S : Int} {n : Nat} {t : Tb} {s : Sg} {l : List Int} (g : GoodT T B n t) (hB : 0 ≤ B) (hS : 0 ≤ S) (hm : ∀ m ∈ s.mv, m.to_ < n ∧ m.po.length = T ∧ ∀ x ∈ m.po, -S ≤ x ∧ x ≤ S) (hl : l.length = T) (h0 : ∀ x ∈ l, 0 ≤ x) :
    anyA l (standL T t s) = (s.mv.isEmpty || if s.ow then s.mv.any (goes t l) else s.mv.all (goes t l)) := by
  unfold standL
  cases h : s.mv with
  | nil =>
    show anyA l [zer T] = true
    refine anyA_iff.mpr ⟨zer T, List.mem_singleton.mpr rfl, atl_iff.mpr fun i x y hx hy => ?_⟩
    have := h0 x (List.mem_of_getElem? hx)
    have := List.eq_of_mem_replicate (List.mem_of_getElem? hy)
    omega
  | cons m ms =>
    rw [h] at hm
    have r : ∀ m' ∈ m :: ms, Rows T (B + S) (befs t m') := fun m' hm' => rows_befs g hB hS (hm m' hm').1 (hm m' hm').2.1 (hm m' hm').2.2
    have a : ∀ m' ∈ m :: ms, anyA l (leastL (befs t m')) = goes t l m' := fun m' hm' => by
      rw [anyA_least (r m' hm') hl, any_befs (S := S) g (hm m' hm').1 (hm m' hm').2.1 hl h0]
    show anyA l ((ms.map fun m => leastL (befs t m)).foldl (stepL s.ow) (leastL (befs t m))) = _
    rw [fold_any hl (leastL_least (r m List.mem_cons_self)).rows fun q hq => by
      obtain ⟨m', hm', rfl⟩ := List.mem_map.mp hq
      exact (leastL_least (r m' (List.mem_cons_of_mem _ hm'))).rows]
    rw [a m List.mem_cons_self, List.any_map, List.all_map]
    have e1 : (ms.any ((fun q => anyA l q) ∘ fun m => leastL (befs t m))) = ms.any (goes t l) := by
      rw [Bool.eq_iff_iff, List.any_eq_true, List.any_eq_true]
      exact ⟨fun ⟨x, hx, q⟩ => ⟨x, hx, by rw [← a x (List.mem_cons_of_mem _ hx)]; exact q⟩, fun ⟨x, hx, q⟩ => ⟨x, hx, by show anyA l (leastL (befs t x)) = true; rw [a x (List.mem_cons_of_mem _ hx)]; exact q⟩⟩
    have e2 : (ms.all ((fun q => anyA l q) ∘ fun m => leastL (befs t m))) = ms.all (goes t l) := by
      rw [Bool.eq_iff_iff, List.all_eq_true, List.all_eq_true]
      exact ⟨fun q x hx => by rw [← a x (List.mem_cons_of_mem _ hx)]; exact q x hx, fun q x hx => by show anyA l (leastL (befs t x)) = true; rw [a x (List.mem_cons_of_mem _ hx)]; exact q x hx⟩
    rw [e1, e2, List.any_cons, List.all_cons]
    rfl
end NR

set_option Elab.async false
set_option linter.all false
set_option maxRecDepth 100000
set_option maxHeartbeats 4000000
set_option autoImplicit false
/-! the tables are good; the law's own helpers -/
namespace NR
open PySem PySem.Spec PyProof.Rows L2
/-- enough room for the sets -/
structure Room1 (T : Nat) (B C : Int) (cq : Nat) : Prop where
  prod : ∀ f q, Least T C f → Rows T C q → q.length ≤ cq → (prodL f q).length < 64 ∨ (sdd (prodL f q)).length < 63
  few : ∀ L, Least T C L → L.length ≤ 30
  fewq : ∀ L, Least T B L → L.length ≤ cq
  cq : cq ≤ 30
theorem fold_ok {T : Nat} {B C : Int} {cq : Nat} {h : Bool} (R : Room1 T B C cq) (hT : 1 ≤ T ∧ T ≤ 1000) : ∀ {qs : List (List (List Int))} {f : List (List Int)}, Least T C f → (∀ q ∈ qs, Rows T C q ∧ q.length ≤ cq) → FoldOk h f qs
  | [], _, _, _ => True.intro
  | q :: qs, f, hf, hq => by
    obtain ⟨q1, q2⟩ := hq q List.mem_cons_self
    have fl := R.few f hf
    have := R.cq
    refine ⟨⟨?_, fun r hr => ?_, by omega, by omega⟩, fold_ok R hT (stepL_least hf.rows q1) fun x hx => hq x (List.mem_cons_of_mem _ hx)⟩
    · cases h with
      | true =>
        rw [if_pos rfl]
        exact ssok_rows (rows_app hf.rows q1) hT.1 (.inl (by rw [List.length_append]; omega))
      | false =>
        rw [if_neg Bool.false_ne_true]
        exact ssok_rows (rows_prod hf.rows q1) hT.1 (R.prod f q hf q1 q2)
    · rw [(rows_app hf.rows q1 r hr).1]; exact hT.2
theorem stand_ok {T : Nat} {B S : Int} {n cq : Nat} {t : Tb} {s : Sg} (R : Room1 T B (B + S) cq) (hT : 1 ≤ T ∧ T ≤ 1000) (g : GoodT T B n t) (hB : 0 ≤ B) (hS : 0 ≤ S) (h3 : s.mv.length ≤ 1000) (hm : ∀ m ∈ s.mv, m.to_ < n ∧ m.po.length = T ∧ ∀ x ∈ m.po, -S ≤ x ∧ x ≤ S) : StandOk t s := by
  have rw1 : ∀ m ∈ s.mv, Rows T (B + S) (befs t m) := fun m hm' => rows_befs g hB hS (hm m hm').1 (hm m hm').2.1 (hm m hm').2.2
  have ln : ∀ m ∈ s.mv, (befs t m).length ≤ cq := fun m hm' => by
    unfold befs
    rw [List.length_map]
    exact R.fewq _ (g.at (hm m hm').1)
  have := R.cq
  refine ⟨h3, fun m hm' => ⟨by rw [g.len]; exact (hm m hm').1, ssok_rows (rw1 m hm') hT.1 (.inl (by have := ln m hm'; omega)), fun r hr => ?_, ?_⟩, ?_⟩
  · rw [((g.at (hm m hm').1).rows r hr).1]; exact hT.2
  · have := R.fewq _ (g.at (hm m hm').1)
    omega
  · cases e : s.mv with
    | nil => exact True.intro
    | cons m ms =>
      rw [e] at rw1 ln
      have r0 := rw1 m List.mem_cons_self
      refine fold_ok R hT (leastL_least r0) fun q hq => ?_
      obtain ⟨m', hm', rfl⟩ := List.mem_map.mp hq
      have r1 := rw1 m' (List.mem_cons_of_mem _ hm')
      exact ⟨(leastL_least r1).rows, Nat.le_trans (leastL_len _ r1) (ln m' (List.mem_cons_of_mem _ hm'))⟩
theorem room_one (B C : Int) : Room1 1 B C 1 := ⟨fun f q hf hq hl => .inl (by
    rw [prod_len]
    have := least1 hf
    calc f.length * q.length ≤ 1 * 1 := Nat.mul_le_mul this hl
      _ < 64 := by decide), fun L hL => by have := least1 hL; omega, fun L hL => least1 hL, by decide⟩
theorem room_two {B C : Int} (hB0 : 0 ≤ B) (hB : B ≤ 6) (hC0 : 0 ≤ C) (hC : C ≤ 9) : Room1 2 B C 7 := ⟨fun f q hf hq hl => prod_few (least_mono hf hC) (fun r hr => (hq r hr).mono hC) hl, fun L hL => by have := least2_len hL hC0; omega, fun L hL => by have := least2_len hL hB0; omega, by decide⟩
theorem good_first (T : Nat) (b : List Sg) {B : Int} (hB : 0 ≤ B) : GoodT T B b.length (firstT T b) := ⟨by unfold firstT; rw [List.length_map], fun L hL => by
  obtain ⟨_, _, rfl⟩ := List.mem_map.mp hL
  exact zer_least T hB⟩
theorem good_next {T : Nat} {B S : Int} {b : List Sg} {t : Tb} (g : GoodT T B b.length t) (hB : 0 ≤ B) (hS : 0 ≤ S) (k : BookOk T S b) : GoodT T (B + S) b.length (beforeT T b t) := ⟨by unfold beforeT; rw [List.length_map], fun L hL => by
  obtain ⟨s, hs, rfl⟩ := List.mem_map.mp hL
  exact stand_least g hB hS (k.mv s hs)⟩
theorem good_tab {T : Nat} {S : Int} {b : List Sg} (hS : 0 ≤ S) (k : BookOk T S b) : ∀ n : Nat, GoodT T (S * n) b.length (tabN T b n)
  | 0 => by rw [show S * ((0 : Nat) : Int) = 0 by simp]; exact good_first T b (Int.le_refl 0)
  | n + 1 => by
    have := good_next (good_tab hS k n) (Int.mul_nonneg hS (by omega)) hS k
    rw [show S * ((n + 1 : Nat) : Int) = S * (n : Nat) + S by rw [Int.natCast_succ, Int.mul_add, Int.mul_one]]
    exact this
/-- W: it keeps for n moves -/
def W (T : Nat) (b : List Sg) (n s : Nat) (l : List Int) : Bool := anyA l ((tabN T b n).getD s [])
theorem getD_map {α β : Type} {f : α → β} {l : List α} {i : Nat} {x : α} {d : β} (h : l[i]? = some x) : (l.map f).getD i d = f x := by
  rw [List.getD_eq_getElem?_getD, List.getElem?_map, h]; rfl
theorem W_zero {T : Nat} {b : List Sg} {s : Nat} {l : List Int} (hs : s < b.length) (hl : l.length = T) (h0 : ∀ x ∈ l, 0 ≤ x) : W T b 0 s l = true := by
  unfold W
  show anyA l ((firstT T b).getD s []) = true
  unfold firstT
  rw [getD_map (List.getElem?_eq_getElem hs)]
  refine anyA_iff.mpr ⟨zer T, List.mem_singleton.mpr rfl, atl_iff.mpr fun i x y hx hy => ?_⟩
  have := h0 x (List.mem_of_getElem? hx)
  have := List.eq_of_mem_replicate (List.mem_of_getElem? hy)
  omega
theorem W_succ {T : Nat} {S : Int} {b : List Sg} {n s : Nat} {l : List Int} {g : Sg} (hS : 0 ≤ S) (k : BookOk T S b) (hs : b[s]? = some g) (hl : l.length = T) (h0 : ∀ x ∈ l, 0 ≤ x) :
    W T b (n + 1) s l = (g.mv.isEmpty || if g.ow then g.mv.any fun m => W T b n m.to_ (plus l m.po) else g.mv.all fun m => W T b n m.to_ (plus l m.po)) := by
  have gt := good_tab hS k n
  have hm := k.mv g (List.mem_of_getElem? hs)
  show anyA l ((beforeT T b (tabN T b n)).getD s []) = _
  unfold beforeT
  rw [getD_map hs, any_stand gt (Int.mul_nonneg hS (by omega)) hS hm hl h0]
  rfl
theorem plus_len {T : Nat} {l p : List Int} (hl : l.length = T) (hp : p.length = T) : (plus l p).length = T := by unfold plus; rw [List.length_zipWith, hl, hp, Nat.min_self]
/-- no negative level is kept -/
theorem W_nonneg {T : Nat} {S : Int} {b : List Sg} {n s : Nat} {l : List Int} (hS : 0 ≤ S) (k : BookOk T S b) (hs : s < b.length) (hl : l.length = T) (h : W T b n s l = true) : ∀ x ∈ l, 0 ≤ x := by
  obtain ⟨o, ho, h2⟩ := anyA_iff.mp h
  have r := ((good_tab hS k n).at hs).rows o ho
  intro x hx
  obtain ⟨i, hi⟩ := List.mem_iff_getElem?.mp hx
  have hi' : i < o.length := by rw [r.1, ← hl]; exact lt_of_get hi
  have := atl_iff.mp h2 i x _ hi (List.getElem?_eq_getElem hi')
  have := (r.2 _ (List.getElem_mem hi')).1
  omega
/-- the more moves, the less is kept -/
theorem W_down {T : Nat} {S : Int} {b : List Sg} (hS : 0 ≤ S) (k : BookOk T S b) : ∀ (n s : Nat) (l : List Int), s < b.length → l.length = T → W T b (n + 1) s l = true → W T b n s l = true
  | 0, s, l, hs, hl, h => W_zero hs hl (W_nonneg hS k hs hl h)
  | n + 1, s, l, hs, hl, h => by
    have h0 := W_nonneg hS k hs hl h
    have hg : b[s]? = some b[s] := List.getElem?_eq_getElem hs
    have hm := k.mv _ (List.mem_of_getElem? hg)
    rw [W_succ hS k hg hl h0] at h ⊢
    have step : ∀ m ∈ b[s].mv, W T b (n + 1) m.to_ (plus l m.po) = true → W T b n m.to_ (plus l m.po) = true := fun m hm' h' => W_down hS k n m.to_ _ (hm m hm').1 (plus_len hl (hm m hm').2.1) h'
    rcases Bool.or_eq_true_iff.mp h with h | h
    · rw [h]; rfl
    · refine Bool.or_eq_true_iff.mpr (.inr ?_)
      split at h
      · rename_i e
        rw [if_pos e]
        obtain ⟨m, hm', h'⟩ := List.any_eq_true.mp h
        exact List.any_eq_true.mpr ⟨m, hm', step m hm' h'⟩
      · rename_i e
        rw [if_neg e]
        exact List.all_eq_true.mpr fun m hm' => step m hm' (List.all_eq_true.mp h m hm')
theorem W_le {T : Nat} {S : Int} {b : List Sg} (hS : 0 ≤ S) (k : BookOk T S b) {s : Nat} {l : List Int} (hs : s < b.length) (hl : l.length = T) {n : Nat} : ∀ {m : Nat}, n ≤ m → W T b m s l = true → W T b n s l = true
  | 0, h, h' => by rw [Nat.le_zero.mp h]; exact h'
  | m + 1, h, h' => by
    rcases Nat.lt_or_eq_of_le h with h | h
    · exact W_le hS k hs hl (Nat.le_of_lt_succ h) (W_down hS k m s l hs hl h')
    · rw [h]; exact h'
/-- what lies above is kept too -/
theorem W_up {T : Nat} {S : Int} {b : List Sg} (hS : 0 ≤ S) (k : BookOk T S b) {n s : Nat} {l l' : List Int} (hs : s < b.length) (hl : l.length = T) (hl' : l'.length = T) (h : W T b n s l = true) (ha : atl l' l = true) : W T b n s l' = true := by
  obtain ⟨o, ho, h2⟩ := anyA_iff.mp h
  exact anyA_iff.mpr ⟨o, ho, atl_trans hl hl' ha h2⟩
/-- more than the box does not matter -/
theorem W_cap {T : Nat} {S : Int} {b : List Sg} {n s : Nat} {most : Int} {l : List Int} (hS : 0 ≤ S) (k : BookOk T S b) (hs : s < b.length) (hl : l.length = T) (hn : S * n ≤ most) : W T b n s (l.map fun x => min most x) = W T b n s l := by
  unfold W
  rw [Bool.eq_iff_iff, anyA_iff, anyA_iff]
  have g := (good_tab hS k n).at hs
  refine exists_congr fun o => and_congr_right fun ho => ?_
  have r := g.rows o ho
  rw [atl_iff, atl_iff]
  constructor
  · intro h i x y hx hy
    have := h i (min most x) y (by rw [List.getElem?_map, hx]; rfl) hy
    omega
  · intro h i x y hx hy
    rw [List.getElem?_map] at hx
    obtain ⟨z, hz, rfl⟩ := Option.map_eq_some_iff.mp hx
    have := h i z y hz hy
    have := (r.2 y (List.mem_of_getElem? hy)).2
    omega
end NR

set_option Elab.async false
set_option linter.all false
set_option maxRecDepth 100000
set_option maxHeartbeats 4000000
set_option autoImplicit false
/-! the tape -/
namespace NR
open PySem PySem.Spec PyProof.Rows L2
def dTape (a g : Int) (cells : List Int) (m : Int) : D := .lst [.int a, .int g, .lst (cells.map .int), .int m]
def TapeOk (t : D) : Prop := ∃ a g cells m, cells ≠ [] ∧ cells.length ≤ 1000 ∧ t = dTape a g cells m
/-- one draw of many -/
theorem p_draw {t : D} {many : Int} (ht : TapeOk t) (h1 : 1 ≤ many) (h2 : many ≤ 1000000000) : ∃ v t', r_law_draw t [.non, .int many] = some (.int v, t') ∧ TapeOk t' ∧ 0 ≤ v ∧ v < many := by
  obtain ⟨a, g, cells, m, hc, hl, rfl⟩ := ht
  have s1 : sItem 0 (eBin addD (eBinV ixD 0 (eC (.int 0))) (eC (.int 1))) (eC (.int 0)) ((envOf 5 [.non, .int many]).set 0 (.par 0 (dTape a g cells m))) = some (.nx [.par 0 (dTape (a + 1) g cells m), .val (.int many), .emp, .emp, .emp]) :=
    sItem_of (eBin_of (eBinV_of (d := dTape a g cells m) rfl rfl rfl (ix_lst (i := 0) rfl)) rfl rfl) rfl rfl rfl (j := 0) rfl
  have b2 : bOf (eBin ltD (eVar 1) (eC (.int 2))) [.par 0 (dTape (a + 1) g cells m), .val (.int many), .emp, .emp, .emp] = some (decide (many < 2), [.par 0 (dTape (a + 1) g cells m), .val (.int many), .emp, .emp, .emp]) := bOf_of (eBin_of rfl rfl rfl)
  by_cases hm : many < 2
  · rw [decide_eq_true hm] at b2
    exact ⟨0, _, runJ_of (sSeq_of s1 (sSeq_rt (sIf_of b2 (sRet_of rfl)))), ⟨_, _, _, _, hc, hl, rfl⟩, Int.le_refl _, by omega⟩
  rw [decide_eq_false hm] at b2
  have b3 : bOf (eBin gtD (eBinV ixD 0 (eC (.int 1))) (eC (.int 0))) [.par 0 (dTape (a + 1) g cells m), .val (.int many), .emp, .emp, .emp] = some (decide (0 < g), [.par 0 (dTape (a + 1) g cells m), .val (.int many), .emp, .emp, .emp]) :=
    bOf_of (eBin_of (eBinV_of (d := dTape (a + 1) g cells m) rfl rfl rfl (ix_lst (i := 1) rfl)) rfl rfl)
  by_cases hg : 0 < g
  · rw [decide_eq_true hg] at b3
    have s4 : sSet 4 (eBin modD (eUn intD (eBinV ixD 0 (eC (.int 1)))) (eLk 1)) [.par 0 (dTape (a + 1) g cells m), .val (.int many), .emp, .emp, .emp] = some (.nx [.par 0 (dTape (a + 1) g cells m), .val (.int many), .emp, .emp, .val (.int (g.fmod many))]) :=
      sSet_of (eBin_of (eUn_of (eBinV_of (d := dTape (a + 1) g cells m) rfl rfl rfl (ix_lst (i := 1) rfl)) rfl) rfl (mod_nz (by omega)))
    have s5 : sItem 0 (eBin fdivD (eBinV ixD 0 (eC (.int 1))) (eLk 1)) (eC (.int 1)) [.par 0 (dTape (a + 1) g cells m), .val (.int many), .emp, .emp, .val (.int (g.fmod many))] = some (.nx [.par 0 (dTape (a + 1) (g.fdiv many) cells m), .val (.int many), .emp, .emp, .val (.int (g.fmod many))]) :=
      sItem_of (eBin_of (eBinV_of (d := dTape (a + 1) g cells m) rfl rfl rfl (ix_lst (i := 1) rfl)) rfl (div_sm (by omega) (by omega))) rfl rfl rfl (j := 1) rfl
    exact ⟨g.fmod many, _, runJ_of (sSeq_of s1 (sSeq_of (sIf_of b2 rfl) (sSeq_rt (sIf_of b3 (sSeq_of s4 (sSeq_of s5 (sRet_of rfl))))))), ⟨_, _, _, _, hc, hl, rfl⟩, (fmod_rng (by omega)).1, (fmod_rng (by omega)).2⟩
  rw [decide_eq_false hg] at b3
  have s4 : sSet 2 (eBinV ixD 0 (eC (.int 2))) [.par 0 (dTape (a + 1) g cells m), .val (.int many), .emp, .emp, .emp] = some (.nx [.par 0 (dTape (a + 1) g cells m), .val (.int many), .val (.lst (cells.map .int)), .emp, .emp]) :=
    sSet_of (eBinV_of (d := dTape (a + 1) g cells m) rfl rfl rfl (ix_lst (i := 2) rfl))
  have s5 : sSet 3 (eUn intD (eBinV ixD 0 (eC (.int 0)))) [.par 0 (dTape (a + 1) g cells m), .val (.int many), .val (.lst (cells.map .int)), .emp, .emp] = some (.nx [.par 0 (dTape (a + 1) g cells m), .val (.int many), .val (.lst (cells.map .int)), .val (.int (a + 1)), .emp]) :=
    sSet_of (eUn_of (eBinV_of (d := dTape (a + 1) g cells m) rfl rfl rfl (ix_lst (i := 0) rfl)) rfl)
  have hl0 : (0 : Int) < cells.length := by
    have := List.length_pos_iff.mpr hc
    omega
  have hx := fmod_rng (x := a + 1) hl0
  obtain ⟨x, ex⟩ := ix_int (ns := cells) hx.1 hx.2
  have e6 : eBinV ixD 2 (eBin modD (eVar 3) (eUn lenD (eLk 2))) [.par 0 (dTape (a + 1) g cells m), .val (.int many), .val (.lst (cells.map .int)), .val (.int (a + 1)), .emp] = some (.int x, [.par 0 (dTape (a + 1) g cells m), .val (.int many), .val (.lst (cells.map .int)), .val (.int (a + 1)), .emp]) := by
    have hlen : lenD (.lst (cells.map .int)) = some (.int cells.length) := by
      show some (D.int ((cells.map D.int).length : Nat)) = _
      rw [List.length_map]
    exact eBinV_of (d := .lst (cells.map .int)) rfl (eBin_of rfl (eUn_of rfl hlen) (mod_nz (by omega))) rfl ex
  have s6 : sItem 0 (eBin modD (eUn intD (eBin addD (eBin addD (eBin mulD (eBinV ixD 0 (eC (.int 3))) (eC (.int 40014))) (eBin mulD (eBinV ixD 2 (eBin modD (eVar 3) (eUn lenD (eLk 2)))) (eC (.int 37)))) (eLk 3))) (eC (.int 2147483647))) (eC (.int 3))
      [.par 0 (dTape (a + 1) g cells m), .val (.int many), .val (.lst (cells.map .int)), .val (.int (a + 1)), .emp] = some (.nx [.par 0 (dTape (a + 1) g cells ((m * 40014 + x * 37 + (a + 1)).fmod 2147483647)), .val (.int many), .val (.lst (cells.map .int)), .val (.int (a + 1)), .emp]) :=
    sItem_of (eBin_of (eUn_of (eBin_of (eBin_of (eBin_of (eBinV_of (d := dTape (a + 1) g cells m) rfl rfl rfl (ix_lst (i := 3) rfl)) rfl (mul_sm (by decide))) (eBin_of e6 rfl (mul_sm (by decide))) rfl) rfl rfl) rfl) rfl (mod_nz (by decide))) rfl rfl rfl (j := 3) rfl
  generalize (m * 40014 + x * 37 + (a + 1)).fmod 2147483647 = m2 at s6
  have s7 : sRet (eBin modD (eUn intD (eBin fdivD (eBinV ixD 0 (eC (.int 3))) (eC (.int 1009)))) (eLk 1)) [.par 0 (dTape (a + 1) g cells m2), .val (.int many), .val (.lst (cells.map .int)), .val (.int (a + 1)), .emp] = some (.rt (.int ((m2.fdiv 1009).fmod many)) [.par 0 (dTape (a + 1) g cells m2), .val (.int many), .val (.lst (cells.map .int)), .val (.int (a + 1)), .emp]) :=
    sRet_of (eBin_of (eUn_of (eBin_of (eBinV_of (d := dTape (a + 1) g cells m2) rfl rfl rfl (ix_lst (i := 3) rfl)) rfl (div_sm (by decide) (by decide))) rfl) rfl (mod_nz (by omega)))
  exact ⟨_, _, runJ_of (sSeq_of s1 (sSeq_of (sIf_of b2 rfl) (sSeq_of (sIf_of b3 rfl) (sSeq_of s4 (sSeq_of s5 (sSeq_of s6 s7)))))), ⟨_, _, _, _, hc, hl, rfl⟩, (fmod_rng (by omega)).1, (fmod_rng (by omega)).2⟩
/-- the draw in an expression: the tape in slot 0 -/
theorem e_draw {t : D} {r : Ev} {M : EM} {many : Int} (ht : TapeOk t) (h1 : 1 ≤ many) (h2 : many ≤ 1000000000) (hM : M (.par 0 t :: r) = some (.int many, .par 0 t :: r)) :
    ∃ v t', eCallJ 2 0 r_law_draw (aHere 0 (aCons M aNil)) (.par 0 t :: r) = some (.int v, .par 0 t' :: r) ∧ TapeOk t' ∧ 0 ≤ v ∧ v < many := by
  obtain ⟨v, t', h3, h4, h5⟩ := p_draw ht h1 h2
  refine ⟨v, t', eCallJ_of (e := .par 0 t :: r) (ds := [.non, .int many]) ?_ rfl h3, h4, h5⟩
  show (((aCons M aNil) (.par 0 t :: r)).bind fun q => some (D.non :: q.1, q.2)) = _
  rw [aCons_of hM rfl]
  rfl
theorem sub_i (x y : Int) : subD (.int x) (.int y) = some (.int (x - y)) := rfl
theorem p_pours {t : D} {T : Nat} {size : Int} (ht : TapeOk t) (hT : 1 ≤ T ∧ T ≤ 1000) (hs : 1 ≤ size ∧ size ≤ 1000000) : ∃ p t', r_law_pours t [.non, .int T, .int size] = some (tupI p, t') ∧ TapeOk t' ∧ p.length = T ∧ ∀ x ∈ p, -size ≤ x ∧ x ≤ size := by
  have two : mulD (.int 2) (.int size) = some (.int (2 * size)) := mul_sm' (by decide)
  -- draw of 2 * size + 1, less size
  have one : ∀ (t : D) (e3 e4 e5 : Sl), TapeOk t → ∃ v t', eBin subD (eCallJ 2 0 r_law_draw (aHere 0 (aCons (eBin addD (eBin mulD (eC (.int 2)) (eLk 2)) (eC (.int 1))) (aNil)))) (eLk 2) [.par 0 t, .val (.int T), .val (.int size), e3, e4, e5] = some (.int v, [.par 0 t', .val (.int T), .val (.int size), e3, e4, e5]) ∧ TapeOk t' ∧ -size ≤ v ∧ v ≤ size := fun t e3 e4 e5 ht => by
    obtain ⟨v, t', h1, h2, h3, h4⟩ := e_draw (t := t) (r := [.val (.int T), .val (.int size), e3, e4, e5]) (M := eBin addD (eBin mulD (eC (.int 2)) (eLk 2)) (eC (.int 1))) (many := 2 * size + 1) ht (by omega) (by omega) (eBin_of (eBin_of rfl rfl two) rfl rfl)
    exact ⟨v - size, t', eBin_of h1 rfl rfl, h2, by omega, by omega⟩
  obtain ⟨h, t1, d1, k1, a1, b1⟩ := e_draw (t := t) (r := [.val (.int T), .val (.int size), .emp, .emp, .emp]) (M := eC (.int 4)) (many := 4) ht (by decide) (by decide) rfl
  have s1 : sSet 3 (eCallJ 2 0 r_law_draw (aHere 0 (aCons (eC (.int 4)) (aNil)))) ((envOf 6 [.non, .int T, .int size]).set 0 (.par 0 t)) = some (.nx [.par 0 t1, .val (.int T), .val (.int size), .val (.int h), .emp, .emp]) := sSet_of d1
  have b2 : bOf (eBin eqD (eVar 3) (eC (.int 0))) [.par 0 t1, .val (.int T), .val (.int size), .val (.int h), .emp, .emp] = some (eqvD (.int h) (.int 0), [.par 0 t1, .val (.int T), .val (.int size), .val (.int h), .emp, .emp]) := bOf_of (eBin_of rfl rfl rfl)
  cases e0 : eqvD (.int h) (.int 0) with
  | true =>
    rw [e0] at b2
    refine ⟨zer T, t1, runJ_of (sSeq_of s1 (sSeq_rt (sIf_of b2 (sRet_of (eBin_of (d := .tup [.int 0]) (e := .int T) rfl rfl ?_))))), k1, by unfold zer; rw [List.length_replicate], fun x hx => by rw [List.eq_of_mem_replicate hx]; omega⟩
    show (if [D.int 0] ≠ [] ∧ 1 ≤ (T : Int) ∧ (T : Int) ≤ 1000 ∧ [D.int 0].length ≤ 1000 then some (D.tup (List.replicate (T : Int).toNat [D.int 0]).flatten) else none) = _
    rw [if_pos ⟨by simp, by omega, by omega, by simp⟩]
    show some (D.tup (List.replicate T [D.int 0]).flatten) = some (D.tup ((List.replicate T (0 : Int)).map .int))
    rw [List.map_replicate]
    congr 2
    exact List.flatten_replicate_singleton
  | false =>
    rw [e0] at b2
    have b3 : bOf (eBin eqD (eVar 3) (eC (.int 1))) [.par 0 t1, .val (.int T), .val (.int size), .val (.int h), .emp, .emp] = some (eqvD (.int h) (.int 1), [.par 0 t1, .val (.int T), .val (.int size), .val (.int h), .emp, .emp]) := bOf_of (eBin_of rfl rfl rfl)
    cases e1 : eqvD (.int h) (.int 1) with
    | true =>
      rw [e1] at b3
      obtain ⟨pl, t2, d2, k2, a2, b2'⟩ := e_draw (t := t1) (r := [.val (.int T), .val (.int size), .val (.int h), .emp, .emp]) (M := eVar 1) (many := T) k1 (by omega) (by omega) rfl
      obtain ⟨zs, t3, c1, c2, c3, c4⟩ := lcL_stR (vs := [5]) (g := gSet 5) (m := eBin mulD (eBin subD (eCallJ 2 0 r_law_draw (aHere 0 (aCons (eBin addD (eBin mulD (eC (.int 2)) (eLk 2)) (eC (.int 1))) (aNil)))) (eLk 2)) (eUn intD (eBin eqD (eVar 5) (eLk 4)))) (fun t => [.par 0 t, .val (.int T), .val (.int size), .val (.int h), .val (.int pl), .emp]) TapeOk (fun i : Nat => D.int (i : Nat)) D.int (fun x => -size ≤ x ∧ x ≤ size) (as := List.range T) k2 fun t ht a _ => by
          obtain ⟨v, t', h1, h2, h3, h4⟩ := one t (.val (.int h)) (.val (.int pl)) (.val (.int (a : Nat))) ht
          refine ⟨_, rfl, v * (if eqvD (.int (a : Nat)) (.int pl) then 1 else 0), _, t', eBin_of h1 (eUn_of (eBin_of (d := .int (a : Nat)) (e := .int pl) rfl rfl rfl) rfl) ?_, rfl, h2, ?_⟩
          · refine mul_sm ?_
            split <;> decide
          · split <;> omega
      rw [← rangeL_map] at c1
      refine ⟨zs, t3, runJ_of (sSeq_of s1 (sSeq_of (sIf_of b2 rfl) (sSeq_rt (sIf_of b3 (sSeq_of (sSet_of d2) (sRet_of (eUn_of (eLc_of (env1 := [.par 0 t2, .val (.int T), .val (.int size), .val (.int h), .val (.int pl), .emp]) (env' := [.par 0 t3, .val (.int T), .val (.int size), .val (.int h), .val (.int pl), .emp]) (iRange1_of rfl (rng_nat (by omega))) c1 (by rw [List.length_map, c3, List.length_range, sizeLine_eq]; omega)) rfl))))))), c2, by rw [c3, List.length_range], c4⟩
    | false =>
      rw [e1] at b3
      obtain ⟨zs, t3, c1, c2, c3, c4⟩ := lcL_stR (vs := [5]) (g := gSet 5) (m := eBin subD (eCallJ 2 0 r_law_draw (aHere 0 (aCons (eBin addD (eBin mulD (eC (.int 2)) (eLk 2)) (eC (.int 1))) (aNil)))) (eLk 2)) (fun t => [.par 0 t, .val (.int T), .val (.int size), .val (.int h), .emp, .emp]) TapeOk (fun i : Nat => D.int (i : Nat)) D.int (fun x => -size ≤ x ∧ x ≤ size) (as := List.range T) k1 fun t ht a _ => by
          obtain ⟨v, t', h1, h2, h3, h4⟩ := one t (.val (.int h)) .emp (.val (.int (a : Nat))) ht
          exact ⟨_, rfl, v, _, t', h1, rfl, h2, h3, h4⟩
      rw [← rangeL_map] at c1
      refine ⟨zs, t3, runJ_of (sSeq_of s1 (sSeq_of (sIf_of b2 rfl) (sSeq_of (sIf_of b3 rfl) (sRet_of (eUn_of (eLc_of (env1 := [.par 0 t1, .val (.int T), .val (.int size), .val (.int h), .emp, .emp]) (env' := [.par 0 t3, .val (.int T), .val (.int size), .val (.int h), .emp, .emp]) (iRange1_of rfl (rng_nat (by omega))) c1 (by rw [List.length_map, c3, List.length_range, sizeLine_eq]; omega)) rfl))))), c2, by rw [c3, List.length_range], c4⟩
end NR

set_option Elab.async false
set_option linter.all false
set_option maxRecDepth 100000
set_option maxHeartbeats 4000000
set_option autoImplicit false
/-! drawn books -/
namespace NR
open PySem PySem.Spec PyProof.Rows L2
theorem four {v : Int} (h0 : 0 ≤ v) (h : v < 4) : v = 0 ∨ v = 1 ∨ v = 2 ∨ v = 3 := by omega
/-- a move's word -/
theorem word_ok {i : Nat} {v : Int} (hi : i < 3) (h0 : 0 ≤ v) (h : v < 4) : ∃ x y z, ixD (.str (PySem.Str.ofString "abc")) (.int i) = some (.str x) ∧ ixD (.lst [.str (PySem.Str.ofString ""), .str (PySem.Str.ofString "0"), .str (PySem.Str.ofString "17"), .str (PySem.Str.ofString "x")]) (.int v) = some (.str y) ∧ addD (.str x) (.str y) = some (.str z) := by
  have hi' : i = 0 ∨ i = 1 ∨ i = 2 := by omega
  rcases hi' with rfl | rfl | rfl <;> rcases four h0 h with rfl | rfl | rfl | rfl <;> exact ⟨_, _, _, rfl, rfl, rfl⟩
theorem count_ok {v : Int} (h0 : 0 ≤ v) (h : v < 7) : ∃ c : Nat, c ≤ 3 ∧ ixD (.lst [.int 1, .int 2, .int 2, .int 3, .int 1, .int 2, .int 0]) (.int v) = some (.int c) := by
  have hv : v = 0 ∨ v = 1 ∨ v = 2 ∨ v = 3 ∨ v = 4 ∨ v = 5 ∨ v = 6 := by omega
  rcases hv with rfl | rfl | rfl | rfl | rfl | rfl | rfl
  · exact ⟨1, by decide, rfl⟩
  · exact ⟨2, by decide, rfl⟩
  · exact ⟨2, by decide, rfl⟩
  · exact ⟨3, by decide, rfl⟩
  · exact ⟨1, by decide, rfl⟩
  · exact ⟨2, by decide, rfl⟩
  · exact ⟨0, by decide, rfl⟩
theorem own_ok {v : Int} (h0 : 0 ≤ v) (h : v < 2) : ixD (.lst [.str (PySem.Str.ofString "house"), .str (PySem.Str.ofString "outside")]) (.int v) = some (ownS (decide (v = 0))) := by
  have hv : v = 0 ∨ v = 1 := by omega
  rcases hv with rfl | rfl <;> rfl
def MvOk (T : Nat) (many : Nat) (size : Int) (m : Mv) : Prop := m.to_ < many ∧ m.po.length = T ∧ ∀ x ∈ m.po, -size ≤ x ∧ x ≤ size
def SgOk (T : Nat) (many : Nat) (size : Int) (s : Sg) : Prop := s.mv.length ≤ 3 ∧ ∀ m ∈ s.mv, MvOk T many size m
/-- calls with the tape ahead -/
theorem e_callJ {n : Nat} {f : D → List D → Option (D × D)} {t t' z : D} {r : Ev} {M : AM} {ds : List D} (hM : M (.par 0 t :: r) = some (ds, .par 0 t :: r)) (hf : f t (.non :: ds) = some (z, t')) (hl : (D.non :: ds).length = n := by rfl) : eCallJ n 0 f (aHere 0 M) (.par 0 t :: r) = some (z, .par 0 t' :: r) := by
  refine eCallJ_of (e := .par 0 t :: r) (ds := .non :: ds) ?_ rfl hf rfl hl
  show ((M (.par 0 t :: r)).bind fun q => some (D.non :: q.1, q.2)) = _
  rw [hM]
  rfl
theorem p_book {t : D} {T many : Nat} {size : Int} (ht : TapeOk t) (hT : 1 ≤ T ∧ T ≤ 1000) (hm : 1 ≤ many ∧ many ≤ 100) (hs : 1 ≤ size ∧ size ≤ 1000000) : ∃ b t', r_law_book t [.non, .int T, .int many, .int size] = some (encB T b, t') ∧ TapeOk t' ∧ b.length = many ∧ BookOk T size b := by
  -- one move
  have inner : ∀ (sts : List Sg) (k c : Nat) (t : D), TapeOk t → c ≤ 3 → ∃ s' : D × List Mv, forL [8, 9] (gSet 8) (sSeq (sSet 9 (eBin addD (eBin ixD (eC (.str (PySem.Str.ofString "abc"))) (eLk 8)) (eBin ixD (eLst (aCons (eC (.str (PySem.Str.ofString ""))) (aCons (eC (.str (PySem.Str.ofString "0"))) (aCons (eC (.str (PySem.Str.ofString "17"))) (aCons (eC (.str (PySem.Str.ofString "x"))) (aNil)))))) (eCallJ 2 0 r_law_draw (aHere 0 (aCons (eC (.int 4)) (aNil))))))) (
      sAppend 6 (eTup (aCons (eVar 9) (aCons (eCallJ 3 0 r_law_pours (aHere 0 (aCons (eVar 1) (aCons (eVar 3) (aNil))))) (aCons (eCallJ 2 0 r_law_draw (aHere 0 (aCons (eVar 2) (aNil)))) (aNil))))))) ((List.range c).map fun i : Nat => D.int (i : Nat))
      [.par 0 t, .val (.int T), .val (.int many), .val (.int size), .own (.lst (sts.map encS)), .val (.int k), .own (.lst []), .val (.int c), .emp, .emp]
      = some (.nx [.par 0 s'.1, .val (.int T), .val (.int many), .val (.int size), .own (.lst (sts.map encS)), .val (.int k), .own (.lst (s'.2.map encM)), .val (.int c), .emp, .emp]) ∧ TapeOk s'.1 ∧ s'.2.length = c ∧ ∀ m ∈ s'.2, MvOk T many size m := by
    intro sts k c t ht hc
    obtain ⟨s', h1, h2, h3, h4⟩ := forL_stR 10 (dead := [8, 9]) (g := gSet 8) (body := sSeq (sSet 9 (eBin addD (eBin ixD (eC (.str (PySem.Str.ofString "abc"))) (eLk 8)) (eBin ixD (eLst (aCons (eC (.str (PySem.Str.ofString ""))) (aCons (eC (.str (PySem.Str.ofString "0"))) (aCons (eC (.str (PySem.Str.ofString "17"))) (aCons (eC (.str (PySem.Str.ofString "x"))) (aNil)))))) (eCallJ 2 0 r_law_draw (aHere 0 (aCons (eC (.int 4)) (aNil))))))) (
      sAppend 6 (eTup (aCons (eVar 9) (aCons (eCallJ 3 0 r_law_pours (aHere 0 (aCons (eVar 1) (aCons (eVar 3) (aNil))))) (aCons (eCallJ 2 0 r_law_draw (aHere 0 (aCons (eVar 2) (aNil)))) (aNil)))))))
      (fun s : D × List Mv => [.par 0 s.1, .val (.int T), .val (.int many), .val (.int size), .own (.lst (sts.map encS)), .val (.int k), .own (.lst (s.2.map encM)), .val (.int c), .emp, .emp])
      (fun n s => TapeOk s.1 ∧ s.2.length = n ∧ ∀ m ∈ s.2, MvOk T many size m) (fun i : Nat => D.int (i : Nat)) (as := List.range c) (k := 0) (s := (t, [])) (by rw [List.length_range]; omega) ⟨ht, rfl, by simp⟩ fun n s hn ⟨p1, p2, p3⟩ i hi => by
        have hi' : i < 3 := by have := List.mem_range.mp hi; omega
        obtain ⟨v, t1, d1, k1, a1, b1⟩ := e_draw (t := s.1) (r := [.val (.int T), .val (.int many), .val (.int size), .own (.lst (sts.map encS)), .val (.int k), .own (.lst (s.2.map encM)), .val (.int c), .val (.int (i : Nat)), .emp]) (M := eC (.int 4)) (many := 4) p1 (by decide) (by decide) rfl
        obtain ⟨x, y, z, w1, w2, w3⟩ := word_ok hi' a1 b1
        have s9 := sSet_of (i := 9) (eBin_of (eBin_of (g := ixD) (ma := eC (.str (PySem.Str.ofString "abc"))) (mb := eLk 8) (env := [.par 0 s.1, .val (.int T), .val (.int many), .val (.int size), .own (.lst (sts.map encS)), .val (.int k), .own (.lst (s.2.map encM)), .val (.int c), .val (.int (i : Nat)), .emp]) rfl rfl w1) (eBin_of (g := ixD) (ma := eLst (aCons (eC (.str (PySem.Str.ofString ""))) (aCons (eC (.str (PySem.Str.ofString "0"))) (aCons (eC (.str (PySem.Str.ofString "17"))) (aCons (eC (.str (PySem.Str.ofString "x"))) (aNil)))))) rfl d1 w2) w3)
        obtain ⟨p, t2, d2, k2, a2, b2⟩ := p_pours (T := T) (size := size) k1 hT hs
        have d2' := e_callJ (n := 3) (r := [.val (.int T), .val (.int many), .val (.int size), .own (.lst (sts.map encS)), .val (.int k), .own (.lst (s.2.map encM)), .val (.int c), .val (.int (i : Nat)), .val (.str z)]) (M := aCons (eVar 1) (aCons (eVar 3) (aNil))) rfl d2
        obtain ⟨u, t3, d3, k3, a3, b3⟩ := e_draw (t := t2) (r := [.val (.int T), .val (.int many), .val (.int size), .own (.lst (sts.map encS)), .val (.int k), .own (.lst (s.2.map encM)), .val (.int c), .val (.int (i : Nat)), .val (.str z)]) (M := eVar 2) (many := many) k2 (by omega) (by omega) rfl
        have hu : (D.int u) = .int ((u.toNat : Nat) : Int) := by rw [Int.toNat_of_nonneg a3]
        have hA := sAppend_of (i := 6) (ds := s.2.map encM) (env := [.par 0 t1, .val (.int T), .val (.int many), .val (.int size), .own (.lst (sts.map encS)), .val (.int k), .own (.lst (s.2.map encM)), .val (.int c), .val (.int (i : Nat)), .val (.str z)]) rfl (eTup_of (ds := [.str z, tupI p, .int u]) (aCons_of (m := eVar 9) rfl (aCons_of d2' (aCons_of d3 aNil_of)))) rfl (by rw [List.length_map, p2, sizeLine_eq]; omega)
        refine ⟨_, rfl, _, (t3, s.2 ++ [Mv.mk z p u.toNat]), sSeq_of s9 hA, ?_, k3, by rw [List.length_append, p2]; rfl, fun m hm => ?_⟩
        · rw [hu]
          have em : (s.2 ++ [Mv.mk z p u.toNat]).map encM = s.2.map encM ++ [D.tup [.str z, tupI p, .int ((u.toNat : Nat) : Int)]] := by rw [List.map_append]; rfl
          show _ = [Sl.par 0 t3, .val (.int T), .val (.int many), .val (.int size), .own (.lst (sts.map encS)), .val (.int k), .own (.lst ((s.2 ++ [Mv.mk z p u.toNat]).map encM)), .val (.int c), .emp, .emp]
          rw [em]
          rfl
        · rcases List.mem_append.mp hm with hm | hm
          · exact p3 m hm
          · rw [List.mem_singleton.mp hm]
            exact ⟨by show u.toNat < many; omega, a2, b2⟩
    rw [List.length_range, Nat.zero_add] at h3
    exact ⟨s', h1, h2, h3, h4⟩
  -- the standings
  obtain ⟨s', h1, h2, h3, h4⟩ := forL_stR 100 (dead := [5, 6, 7, 8, 9]) (g := gSet 5) (body := sSeq (sOwn 6 (eLst (aNil))) (
      sSeq (sSet 7 (eBin ixD (eLst (aCons (eC (.int 1)) (aCons (eC (.int 2)) (aCons (eC (.int 2)) (aCons (eC (.int 3)) (aCons (eC (.int 1)) (aCons (eC (.int 2)) (aCons (eC (.int 0)) (aNil))))))))) (eCallJ 2 0 r_law_draw (aHere 0 (aCons (eC (.int 7)) (aNil)))))) (
      sSeq (sFor [8, 9] (iRange1 (aCons (eVar 7) (aNil))) (gSet 8) (
      sSeq (sSet 9 (eBin addD (eBin ixD (eC (.str (PySem.Str.ofString "abc"))) (eLk 8)) (eBin ixD (eLst (aCons (eC (.str (PySem.Str.ofString ""))) (aCons (eC (.str (PySem.Str.ofString "0"))) (aCons (eC (.str (PySem.Str.ofString "17"))) (aCons (eC (.str (PySem.Str.ofString "x"))) (aNil)))))) (eCallJ 2 0 r_law_draw (aHere 0 (aCons (eC (.int 4)) (aNil))))))) (
      sAppend 6 (eTup (aCons (eVar 9) (aCons (eCallJ 3 0 r_law_pours (aHere 0 (aCons (eVar 1) (aCons (eVar 3) (aNil))))) (aCons (eCallJ 2 0 r_law_draw (aHere 0 (aCons (eVar 2) (aNil)))) (aNil)))))))) (
      sAppend 4 (eTup (aCons (eBin ixD (eLst (aCons (eC (.str (PySem.Str.ofString "house"))) (aCons (eC (.str (PySem.Str.ofString "outside"))) (aNil)))) (eCallJ 2 0 r_law_draw (aHere 0 (aCons (eC (.int 2)) (aNil))))) (aCons (eUn tupD (eLk 6)) (aNil))))))))
    (fun s : D × List Sg => [.par 0 s.1, .val (.int T), .val (.int many), .val (.int size), .own (.lst (s.2.map encS)), .emp, .emp, .emp, .emp, .emp]) (fun n s => TapeOk s.1 ∧ s.2.length = n ∧ ∀ g ∈ s.2, SgOk T many size g) (fun i : Nat => D.int (i : Nat)) (as := List.range many) (k := 0) (s := (t, [])) (by rw [List.length_range]; omega) ⟨ht, rfl, by simp⟩ fun n s hn ⟨p1, p2, p3⟩ k _ => by
      obtain ⟨v, t1, d1, k1, a1, b1⟩ := e_draw (t := s.1) (r := [.val (.int T), .val (.int many), .val (.int size), .own (.lst (s.2.map encS)), .val (.int (k : Nat)), .own (.lst []), .emp, .emp, .emp]) (M := eC (.int 7)) (many := 7) p1 (by decide) (by decide) rfl
      obtain ⟨c, hc, ec⟩ := count_ok a1 b1
      have s6 : sOwn 6 (eLst aNil) [.par 0 s.1, .val (.int T), .val (.int many), .val (.int size), .own (.lst (s.2.map encS)), .val (.int (k : Nat)), .emp, .emp, .emp, .emp] = some (.nx [.par 0 s.1, .val (.int T), .val (.int many), .val (.int size), .own (.lst (s.2.map encS)), .val (.int (k : Nat)), .own (.lst []), .emp, .emp, .emp]) := rfl
      have s7 := sSet_of (i := 7) (eBin_of (g := ixD) (ma := eLst (aCons (eC (.int 1)) (aCons (eC (.int 2)) (aCons (eC (.int 2)) (aCons (eC (.int 3)) (aCons (eC (.int 1)) (aCons (eC (.int 2)) (aCons (eC (.int 0)) (aNil))))))))) rfl d1 ec)
      obtain ⟨s2, l1, l2, l3, l4⟩ := inner s.2 k c t1 k1 hc
      rw [← rangeL_map] at l1
      obtain ⟨w, t2, d2, k2, a2, b2⟩ := e_draw (t := s2.1) (r := [.val (.int T), .val (.int many), .val (.int size), .own (.lst (s.2.map encS)), .val (.int (k : Nat)), .own (.lst (s2.2.map encM)), .val (.int (c : Nat)), .emp, .emp]) (M := eC (.int 2)) (many := 2) l2 (by decide) (by decide) rfl
      have hA := sAppend_of (i := 4) (ds := s.2.map encS) (env := [.par 0 s2.1, .val (.int T), .val (.int many), .val (.int size), .own (.lst (s.2.map encS)), .val (.int (k : Nat)), .own (.lst (s2.2.map encM)), .val (.int (c : Nat)), .emp, .emp]) rfl
        (eTup_of (ds := [ownS (decide (w = 0)), .tup (s2.2.map encM)]) (aCons_of (eBin_of (g := ixD) (ma := eLst (aCons (eC (.str (PySem.Str.ofString "house"))) (aCons (eC (.str (PySem.Str.ofString "outside"))) (aNil)))) rfl d2 (own_ok a2 b2)) (aCons_of (m := eUn tupD (eLk 6)) (eUn_of rfl rfl) aNil_of))) rfl (by rw [List.length_map, p2, sizeLine_eq]; omega)
      refine ⟨_, rfl, _, (t2, s.2 ++ [Sg.mk (decide (w = 0)) s2.2]), sSeq_of s6 (sSeq_of s7 (sSeq_of (sFor_of (iRange1_of rfl (rng_nat (by omega))) l1) hA)), ?_, k2, by rw [List.length_append, p2]; rfl, fun g hg => ?_⟩
      · have em : (s.2 ++ [Sg.mk (decide (w = 0)) s2.2]).map encS = s.2.map encS ++ [D.tup [ownS (decide (w = 0)), .tup (s2.2.map encM)]] := by rw [List.map_append]; rfl
        show _ = [Sl.par 0 t2, .val (.int T), .val (.int many), .val (.int size), .own (.lst ((s.2 ++ [Sg.mk (decide (w = 0)) s2.2]).map encS)), .emp, .emp, .emp, .emp, .emp]
        rw [em]
        rfl
      · rcases List.mem_append.mp hg with hg | hg
        · exact p3 g hg
        · rw [List.mem_singleton.mp hg]
          exact ⟨by show s2.2.length ≤ 3; omega, l4⟩
  rw [List.length_range, Nat.zero_add] at h3
  rw [← rangeL_map] at h1
  have s4 : sOwn 4 (eLst aNil) ((envOf 10 [.non, .int T, .int many, .int size]).set 0 (.par 0 t)) = some (.nx [.par 0 t, .val (.int T), .val (.int many), .val (.int size), .own (.lst []), .emp, .emp, .emp, .emp, .emp]) := rfl
  refine ⟨s'.2, s'.1, runJ_of (e := [.par 0 s'.1, .val (.int T), .val (.int many), .val (.int size), .own (.lst (s'.2.map encS)), .emp, .emp, .emp, .emp, .emp]) (sSeq_of s4 (sSeq_of (sFor_of (iRange1_of rfl (rng_nat (by omega))) h1) (sRet_of (eTup_of (ds := [.int T, .tup (s'.2.map encS)]) rfl)))), h2, h3, ⟨by omega, fun s hs => (h4 s hs).1, fun s hs m hm => ?_⟩⟩
  have := (h4 s hs).2 m hm
  exact ⟨by rw [h3]; exact this.1, this.2⟩
theorem cut_all {α : Type} {xs : List α} {n : Nat} (h : xs.length ≤ n) : cutA xs none (some (n : Int)) = xs := by
  unfold cutA
  rw [HT.sIx_none, HT.sIx_nat, Nat.sub_zero, List.drop_zero, Nat.min_eq_right h, List.take_length]
theorem p_tape {ns : List Int} (hn : ns.length ≤ 63) : ∃ t, r_law_tape [.scr ns] = some t ∧ TapeOk t := by
  let bnd : Int := 10 ^ 360
  have hb : bnd ≠ 0 := by show (10 : Int) ^ 360 ≠ 0; decide +kernel
  have s1 : sSet 1 (eBin mulD (eBin mulD (eBin mulD (eBin mulD (eBin mulD (eBin powD (eC (.int 10)) (eC (.int 60))) (eBin powD (eC (.int 10)) (eC (.int 60)))) (eBin powD (eC (.int 10)) (eC (.int 60)))) (eBin powD (eC (.int 10)) (eC (.int 60)))) (eBin powD (eC (.int 10)) (eC (.int 60)))) (eBin powD (eC (.int 10)) (eC (.int 60)))) (envOf 6 [.scr ns])
      = some (.nx [.val (.scr ns), .val (.int bnd), .emp, .emp, .emp, .emp]) := by kernel_rfl
  generalize bnd = bd at s1 hb
  have hsl : ∀ (e1 e2 e3 e4 e5 : Sl), iSeq (eSl (eVar 0) (oNone) (oSome (eC (.int 63)))) [.val (.scr ns), e1, e2, e3, e4, e5] = some (ns.map D.int, [.val (.scr ns), e1, e2, e3, e4, e5]) := fun e1 e2 e3 e4 e5 => by
    have := cut_all (xs := ns.map D.int) (n := 63) (by rw [List.length_map]; exact hn)
    exact iSeq_of (eSl_of (d := .scr ns) (z := .lst (ns.map D.int)) rfl rfl rfl (by show some (D.lst (cutA (ns.map D.int) none (some (63 : Nat)))) = _; rw [this])) rfl
  have e3 := lcL_enc (vs := [5]) (g := gSet 5) (m := eBin modD (eUn intD (eLk 5)) (eC (.int 1000541))) (env := [.val (.scr ns), .val (.int bd), .val (.int 0), .emp, .emp, .emp]) D.int (fun n => .int (n.fmod 1000541)) (as := ns) fun n _ => ⟨_, rfl, _, eBin_of rfl rfl (mod_nz (by decide)), rfl⟩
  have em : (ns.map fun n => D.int (n.fmod 1000541)) = (ns.map fun n => n.fmod 1000541).map D.int := by rw [List.map_map]; rfl
  rw [em] at e3
  generalize hcs : (ns.map fun n => n.fmod 1000541) = cs at e3
  have hcl : cs.length ≤ 63 := by rw [← hcs, List.length_map]; exact hn
  have s3 : sSet 3 (eLc [5] (iSeq (eSl (eVar 0) (oNone) (oSome (eC (.int 63))))) (gSet 5) (bYes) (eBin modD (eUn intD (eLk 5)) (eC (.int 1000541)))) [.val (.scr ns), .val (.int bd), .val (.int 0), .emp, .emp, .emp] = some (.nx [.val (.scr ns), .val (.int bd), .val (.int 0), .val (.lst (cs.map .int)), .emp, .emp]) :=
    sSet_of (eLc_of (env1 := [.val (.scr ns), .val (.int bd), .val (.int 0), .emp, .emp, .emp]) (env' := [.val (.scr ns), .val (.int bd), .val (.int 0), .emp, .emp, .emp]) (hsl _ _ _ _ _) e3 (by rw [List.length_map, sizeLine_eq]; omega))
  have hlen : lenD (.scr ns) = some (.int ns.length) := by
    show some (D.int ((ns.map D.int).length : Nat)) = _
    rw [List.length_map]
  have s4 : sSet 4 (eBin addD (eBin modD (eUn lenD (eLk 0)) (eC (.int 41))) (eC (.int 1877))) [.val (.scr ns), .val (.int bd), .val (.int 0), .val (.lst (cs.map .int)), .emp, .emp] = some (.nx [.val (.scr ns), .val (.int bd), .val (.int 0), .val (.lst (cs.map .int)), .val (.int ((ns.length : Int).fmod 41 + 1877)), .emp]) :=
    sSet_of (eBin_of (eBin_of (eUn_of rfl hlen) rfl (mod_nz (by decide))) rfl rfl)
  obtain ⟨u, l1, _⟩ := forL_stR 100 (dead := []) (g := gSet 5) (body := sSet 4 (eBin modD (eUn intD (eBin addD (eBin addD (eBin mulD (eVar 4) (eC (.int 48271))) (eLk 5)) (eC (.int 1)))) (eC (.int 2147483647))))
    (fun s : Int × Sl => [.val (.scr ns), .val (.int bd), .val (.int 0), .val (.lst (cs.map .int)), .val (.int s.1), s.2]) (fun _ _ => True) D.int (as := cs) (k := 0) (s := ((ns.length : Int).fmod 41 + 1877, .emp)) (by omega) True.intro fun _ s _ _ x _ =>
      ⟨_, rfl, _, ((s.1 * 48271 + x + 1).fmod 2147483647, .val (.int x)), sSet_of (eBin_of (eUn_of (eBin_of (eBin_of (eBin_of rfl rfl (mul_sm (by decide))) rfl rfl) rfl rfl) rfl) rfl (mod_nz (by decide))), rfl, True.intro⟩
  obtain ⟨w, l2, _⟩ := forL_stR 100 (dead := []) (g := gSet 5) (body := sIf (bAnd (bOf (eBin eqD (eVar 2) (eC (.int 0)))) (bOf (eBin geD (eUn absD (eUn intD (eLk 5))) (eC (.int 1000000000000000000))))) (sSet 2 (eBin modD (eUn absD (eUn intD (eLk 5))) (eLk 1))) (sSkip))
    (fun s : Int × Sl => [.val (.scr ns), .val (.int bd), .val (.int s.1), .val (.lst (cs.map .int)), .val (.int u.1), s.2]) (fun _ _ => True) D.int (as := ns) (k := 0) (s := (0, u.2)) (by omega) True.intro fun _ s _ _ x _ => by
      have t1 : bOf (eBin eqD (eVar 2) (eC (.int 0))) [.val (.scr ns), .val (.int bd), .val (.int s.1), .val (.lst (cs.map .int)), .val (.int u.1), .val (.int x)] = some (eqvD (.int s.1) (.int 0), [.val (.scr ns), .val (.int bd), .val (.int s.1), .val (.lst (cs.map .int)), .val (.int u.1), .val (.int x)]) := bOf_of (eBin_of rfl rfl rfl)
      have t2 : bOf (eBin geD (eUn absD (eUn intD (eLk 5))) (eC (.int 1000000000000000000))) [.val (.scr ns), .val (.int bd), .val (.int s.1), .val (.lst (cs.map .int)), .val (.int u.1), .val (.int x)] = some (decide ((1000000000000000000 : Int) ≤ (if x < 0 then -x else x)), [.val (.scr ns), .val (.int bd), .val (.int s.1), .val (.lst (cs.map .int)), .val (.int u.1), .val (.int x)]) := bOf_of (eBin_of (eUn_of (eUn_of rfl rfl) rfl) rfl rfl)
      have t3 : bAnd (bOf (eBin eqD (eVar 2) (eC (.int 0)))) (bOf (eBin geD (eUn absD (eUn intD (eLk 5))) (eC (.int 1000000000000000000)))) [.val (.scr ns), .val (.int bd), .val (.int s.1), .val (.lst (cs.map .int)), .val (.int u.1), .val (.int x)] = some (eqvD (.int s.1) (.int 0) && decide ((1000000000000000000 : Int) ≤ (if x < 0 then -x else x)), [.val (.scr ns), .val (.int bd), .val (.int s.1), .val (.lst (cs.map .int)), .val (.int u.1), .val (.int x)]) := by
        unfold bAnd
        rw [t1]
        show (if eqvD (.int s.1) (.int 0) = true then _ else _) = _
        cases eqvD (.int s.1) (.int 0) with
        | true => rw [if_pos rfl]; exact t2
        | false => rw [if_neg Bool.false_ne_true]; rfl
      cases hc : (eqvD (.int s.1) (.int 0) && decide ((1000000000000000000 : Int) ≤ (if x < 0 then -x else x))) with
      | true =>
        rw [hc] at t3
        exact ⟨_, rfl, _, ((if x < 0 then -x else x).fmod bd, .val (.int x)), sIf_of t3 ((if_pos rfl).trans (sSet_of (eBin_of (eUn_of (eUn_of rfl rfl) rfl) rfl (mod_nz hb)))), rfl, True.intro⟩
      | false =>
        rw [hc] at t3
        exact ⟨_, rfl, _, (s.1, .val (.int x)), sIf_of t3 (if_neg Bool.false_ne_true), rfl, True.intro⟩
  have ha : addD (.lst (cs.map .int)) (.lst [.int u.1]) = some (.lst ((cs ++ [u.1]).map .int)) := by
    rw [List.map_append]
    exact add_lst (by rw [List.length_map]; simp; omega)
  have fin : sRetO (eLst (aCons (eC (.int 0)) (aCons (eVar 2) (aCons (eBin addD (eVar 3) (eLst (aCons (eVar 4) (aNil)))) (aCons (eVar 4) (aNil)))))) [.val (.scr ns), .val (.int bd), .val (.int w.1), .val (.lst (cs.map .int)), .val (.int u.1), w.2] = some (.ro (dTape 0 w.1 (cs ++ [u.1]) u.1) [.val (.scr ns), .val (.int bd), .val (.int w.1), .val (.lst (cs.map .int)), .val (.int u.1), w.2]) := by
    unfold sRetO
    rw [eLst_of (ds := [.int 0, .int w.1, .lst ((cs ++ [u.1]).map .int), .int u.1]) (aCons_of (m := eC (.int 0)) rfl (aCons_of (m := eVar 2) rfl (aCons_of (eBin_of (ma := eVar 3) (mb := eLst (aCons (eVar 4) (aNil))) rfl rfl ha) (aCons_of (m := eVar 4) rfl aNil_of))))]
    rfl
  refine ⟨dTape 0 w.1 (cs ++ [u.1]) u.1, ?_, 0, w.1, cs ++ [u.1], u.1, by simp, by rw [List.length_append]; simp; omega, rfl⟩
  unfold r_law_tape runO
  have all : m_law_tape (envOf 6 [.scr ns]) = some (.ro (dTape 0 w.1 (cs ++ [u.1]) u.1) [.val (.scr ns), .val (.int bd), .val (.int w.1), .val (.lst (cs.map .int)), .val (.int u.1), w.2]) :=
    sSeq_of s1 (sSeq_of (e := [.val (.scr ns), .val (.int bd), .val (.int 0), .emp, .emp, .emp]) rfl (sSeq_of s3 (sSeq_of s4 (sSeq_of (sFor_of (iSeq_of (m := eVar 3) (d := .lst (cs.map .int)) rfl rfl) l1) (sSeq_of (sFor_of (hsl _ _ _ _ _) l2) fin)))))
  rw [all]
end NR

set_option Elab.async false
set_option linter.all false
set_option maxRecDepth 100000
set_option maxHeartbeats 4000000
set_option autoImplicit false
/-! _law_same, _law_all, _law_marked -/
namespace NR
open PySem PySem.Spec PyProof.Rows L2
def SameD : Nat → D → D → Prop
  | 0, _, _ => False
  | n + 1, told, due => (∃ ts ds, told = .tup ts ∧ (due = .tup ds ∨ due = .lst ds) ∧ ts.length = ds.length ∧ ts.length ≤ 100000 ∧ ∀ (i : Nat) (t d : D), ts[i]? = some t → ds[i]? = some d → SameD n t d) ∨ (∃ i, told = .int i ∧ due = .int i) ∨ (∃ b, told = .bl b ∧ due = .bl b)
theorem eqv_int (i : Int) : eqvD (.int i) (.int i) = true := by
  show (PyData.eqv (.int i) (.int i)) = true
  unfold PyData.eqv
  simp
theorem eqv_ints (i j : Int) : eqvD (.int i) (.int j) = decide (i = j) := by
  show (PyData.eqv (.int i) (.int j)) = _
  unfold PyData.eqv
  by_cases h : i = j <;> simp [h]
theorem p_same : ∀ (n : Nat) (told due : D), SameD n told due → r_law_same n [told, due] = some (.bl true)
  | n + 1, told, due, h => by
    show runF 3 (m_law_same (r_law_same n)) [told, due] = _
    rcases h with ⟨ts, ds, rfl, hd, hl, hn, hs⟩ | ⟨i, rfl, rfl⟩ | ⟨b, rfl, rfl⟩
    · have sq : isiAny [.tup, .lst] due = true ∧ lenD due = some (.int ds.length) ∧ (∀ (i : Nat) (d : D), ds[i]? = some d → ixD due (.int i) = some d) ∧ noDict due = true := by
        rcases hd with rfl | rfl
        · exact ⟨rfl, rfl, fun i d h => ix_tup h, rfl⟩
        · exact ⟨rfl, rfl, fun i d h => ix_lst h, rfl⟩
      obtain ⟨q1, q2, q3, q4⟩ := sq
      have b1 : bTru (eIsiT [.tup, .lst] (eLk 1)) (envOf 3 [.tup ts, due]) = some (true, [.val (.tup ts), .val due, .emp]) := by
        refine bTru_of (d := .bl true) ?_ rfl
        show (if noDict due then some (D.bl (isiAny [.tup, .lst] due), envOf 3 [.tup ts, due]) else none) = _
        rw [q4, q1]
        rfl
      have b2 : bOr (bNot (bTru (eIsi .tup (eLk 0)))) (bOf (eBin neD (eUn lenD (eLk 0)) (eUn lenD (eLk 1)))) [.val (.tup ts), .val due, .emp] = some (false, [.val (.tup ts), .val due, .emp]) := by
        have h1 : bNot (bTru (eIsi .tup (eLk 0))) [.val (.tup ts), .val due, .emp] = some (false, [.val (.tup ts), .val due, .emp]) := rfl
        refine bOr_of h1 ((if_neg Bool.false_ne_true).trans ?_)
        refine bOf_of (eBin_of (d := .int ts.length) (e := .int ds.length) (eUn_of rfl rfl) (eUn_of rfl q2) ?_)
        rw [hl]
        show some (D.bl (!eqvD (.int ds.length) (.int ds.length))) = _
        rw [eqv_int]
        rfl
      obtain ⟨u, l1, _⟩ := forL_stR ds.length (dead := [2]) (g := gSet 2) (body := sIf (bNot (bTru (eCall 2 (r_law_same n) (aCons (eBinV ixD 0 (eLk 2)) (aCons (eBinV ixD 1 (eLk 2)) (aNil)))))) (sRet (eC (.bl false))) (sSkip))
        (fun _ : Unit => [.val (.tup ts), .val due, .emp]) (fun _ _ => True) (fun i : Nat => D.int (i : Nat)) (as := List.range ds.length) (k := 0) (s := ()) (by rw [List.length_range]; omega) True.intro fun _ s _ _ i hi => by
          have hi := List.mem_range.mp hi
          have e1 : ts[i]? = some (ts[i]'(by omega)) := List.getElem?_eq_getElem _
          have e2 : ds[i]? = some (ds[i]'(by omega)) := List.getElem?_eq_getElem _
          have := p_same n _ _ (hs i _ _ e1 e2)
          exact ⟨_, rfl, [.val (.tup ts), .val due, .val (.int (i : Nat))], (), sIf_of (bNot_of (bTru_of (eCall_of (ds := [_, _]) (aCons_of (eBinV_of (d := .tup ts) rfl rfl rfl (ix_tup e1)) (aCons_of (eBinV_of (d := due) rfl rfl rfl (q3 i _ e2)) aNil_of)) this) rfl)) rfl, rfl, True.intro⟩
      rw [← rangeL_map] at l1
      exact runF_of (sSeq_rt (sIf_of b1 ((if_pos rfl).trans (sSeq_of (sIf_of b2 rfl) (sSeq_of (sFor_of (iRange1_of (aCons_of (eUn_of rfl q2) aNil_of) (rng_nat (by omega))) l1) (sRet_of rfl))))))
    · have e : eBin eqD (eVar 0) (eLk 1) (envOf 3 [.int i, .int i]) = some (.bl true, [.val (.int i), .val (.int i), .emp]) := by
        refine eBin_of rfl rfl ?_
        show some (D.bl (eqvD (.int i) (.int i))) = _
        rw [eqv_int]
      refine runF_of (sSeq_of (e := envOf 3 [.int i, .int i]) rfl (sSeq_of (e := envOf 3 [.int i, .int i]) rfl (sSeq_of (e := envOf 3 [.int i, .int i]) rfl (sSeq_of (e := envOf 3 [.int i, .int i]) rfl (sRet_of (e := [.val (.int i), .val (.int i), .emp]) ?_)))))
      show eBin eqD (eVar 0) (eLk 1) (envOf 3 [.int i, .int i]) = _
      exact e
    · cases b <;> rfl
theorem same_int (n : Nat) (i : Int) : SameD (n + 1) (.int i) (.int i) := .inr (.inl ⟨i, rfl, rfl⟩)
theorem same_bl (n : Nat) (b : Bool) : SameD (n + 1) (.bl b) (.bl b) := .inr (.inr ⟨b, rfl, rfl⟩)
theorem same_row (n : Nat) {r : List Int} (h : r.length ≤ 1000) : SameD (n + 2) (tupI r) (tupI r) := .inl ⟨_, _, rfl, .inl rfl, rfl, by rw [List.length_map]; omega, fun i t d h1 h2 => by
  rw [h1] at h2
  cases h2
  rw [List.getElem?_map] at h1
  obtain ⟨x, _, rfl⟩ := Option.map_eq_some_iff.mp h1
  exact same_int n x⟩
theorem same_map {α : Type} {n : Nat} {f g : α → D} {as : List α} (hl : as.length ≤ 100000) (h : ∀ a ∈ as, SameD n (f a) (g a)) : SameD (n + 1) (.tup (as.map f)) (.lst (as.map g)) := .inl ⟨_, _, rfl, .inr rfl, by rw [List.length_map, List.length_map], by rw [List.length_map]; exact hl, fun i t d h1 h2 => by
  rw [List.getElem?_map] at h1 h2
  obtain ⟨x, hx, rfl⟩ := Option.map_eq_some_iff.mp h1
  rw [hx] at h2
  cases h2
  exact h x (List.mem_of_getElem? hx)⟩
theorem same_lots (n : Nat) {L : List (List Int)} (hl : L.length ≤ 100000) (h : ∀ r ∈ L, r.length ≤ 1000) : SameD (n + 3) (lotsD L) (.lst (L.map tupI)) := same_map hl fun r hr => same_row n (h r hr)
/-! _law_all -/
def lvls (most : Nat) : List Int := (List.range (most + 1)).map fun i => ((i : Nat) : Int)
def allR (most : Nat) : Nat → List (List Int)
  | 0 => [[]]
  | T + 1 => (allR most T).flatMap fun row => (lvls most).map fun x => row ++ [x]
theorem lvls_len (most : Nat) : (lvls most).length = most + 1 := by unfold lvls; rw [List.length_map, List.length_range]
theorem allR_len (most : Nat) : ∀ T, (allR most T).length = (most + 1) ^ T
  | 0 => rfl
  | T + 1 => by
    have : ∀ l : List (List Int), (l.flatMap fun row => (lvls most).map fun x => row ++ [x]).length = l.length * (most + 1) := by
      intro l
      induction l with
      | nil => simp
      | cons a l ih => rw [List.flatMap_cons, List.length_append, ih, List.length_map, lvls_len, List.length_cons, Nat.succ_mul]; omega
    show ((allR most T).flatMap _).length = _
    rw [this, allR_len most T, Nat.pow_succ]
theorem p_all {T most : Nat} (hT : T ≤ 1000) (hm : most ≤ 1000) (hs : ∀ k, k ≤ T → (most + 1) ^ k ≤ 100000) : r_law_all [.int T, .int most] = some (.lst ((allR most T).map tupI)) := by
  -- one row grows
  have grow : ∀ (R sl : Sl) (rs fresh : List (List Int)), (∀ r ∈ rs, r.length ≤ 1000) → fresh.length + rs.length * (most + 1) ≤ 200000 → forL [5] (gSet 5) (sSet 4 (eBin addD (eVar 4) (eLc [6] (iRange1 (aCons (eBin addD (eVar 1) (eC (.int 1))) (aNil))) (gSet 6) (bYes) (eBin addD (eVar 5) (eTup (aCons (eVar 6) (aNil))))))) (rs.map tupI)
      [.val (.int T), .val (.int most), R, sl, .val (.lst (fresh.map tupI)), .emp, .emp] = some (.nx [.val (.int T), .val (.int most), R, sl, .val (.lst ((fresh ++ rs.flatMap fun row => (lvls most).map fun x => row ++ [x]).map tupI)), .emp, .emp]) := by
    intro R sl rs
    induction rs with
    | nil => intro fresh _ _; rw [List.flatMap_nil, List.append_nil]; rfl
    | cons r rs ih =>
      intro fresh hr hf
      rw [List.length_cons, Nat.succ_mul] at hf
      have e := lcL_enc (vs := [6]) (g := gSet 6) (m := eBin addD (eVar 5) (eTup (aCons (eVar 6) (aNil)))) (env := [.val (.int T), .val (.int most), R, sl, .val (.lst (fresh.map tupI)), .val (tupI r), .emp]) (fun i : Nat => D.int (i : Nat)) (fun i => tupI (r ++ [((i : Nat) : Int)])) (as := List.range (most + 1)) fun i hi => by
        refine ⟨_, rfl, _, eBin_of (d := tupI r) (e := .tup [.int (i : Nat)]) rfl (eTup_of (aCons_of (m := eVar 6) rfl aNil_of)) ?_, rfl⟩
        unfold tupI
        rw [List.map_append]
        exact add_tup (by rw [List.length_map]; have := hr r List.mem_cons_self; simp; omega)
      have em : ((List.range (most + 1)).map fun i => tupI (r ++ [((i : Nat) : Int)])) = ((lvls most).map fun x => r ++ [x]).map tupI := by
        unfold lvls
        rw [List.map_map, List.map_map]
        rfl
      rw [em, ← rangeL_map] at e
      have hadd : addD (.lst (fresh.map tupI)) (.lst (((lvls most).map fun x => r ++ [x]).map tupI)) = some (.lst ((fresh ++ (lvls most).map fun x => r ++ [x]).map tupI)) := by
        rw [List.map_append]
        exact add_lst (by rw [List.length_map, List.length_map, List.length_map, lvls_len]; omega)
      have hrange : iRange1 (aCons (eBin addD (eVar 1) (eC (.int 1))) (aNil)) [.val (.int T), .val (.int most), R, sl, .val (.lst (fresh.map tupI)), .val (tupI r), .emp] = some (rangeL 0 (most + 1), [.val (.int T), .val (.int most), R, sl, .val (.lst (fresh.map tupI)), .val (tupI r), .emp]) :=
        iRange1_of (j := ((most + 1 : Nat) : Int)) (aCons_of (eBin_of (ma := eVar 1) (mb := eC (.int 1)) rfl rfl rfl) aNil_of) (rng_nat (by omega))
      have hS := sSet_of (i := 4) (eBin_of (g := addD) (ma := eVar 4) (env := [.val (.int T), .val (.int most), R, sl, .val (.lst (fresh.map tupI)), .val (tupI r), .emp]) rfl (eLc_of (env' := [.val (.int T), .val (.int most), R, sl, .val (.lst (fresh.map tupI)), .val (tupI r), .emp]) hrange e (by rw [List.length_map, List.length_map, lvls_len, sizeLine_eq]; omega)) hadd)
      have := ih (fresh ++ (lvls most).map fun x => r ++ [x]) (fun q hq => hr q (List.mem_cons_of_mem _ hq)) (by rw [List.length_append, List.length_map, lvls_len]; omega)
      rw [List.append_assoc] at this
      rw [List.flatMap_cons]
      exact forL_one rfl (.inl hS) this
  have rowlen : ∀ k, ∀ r ∈ allR most k, r.length = k := by
    intro k
    induction k with
    | zero => intro r hr; rw [List.mem_singleton.mp hr]; rfl
    | succ k ih =>
      intro r hr
      obtain ⟨q, hq, hr⟩ := List.mem_flatMap.mp hr
      obtain ⟨x, _, rfl⟩ := List.mem_map.mp hr
      rw [List.length_append, ih q hq]
      rfl
  obtain ⟨u, l1, hu⟩ := forL_stR T (dead := [3, 4, 5]) (g := gSet 3) (body := sSeq (sSet 4 (eLst (aNil))) (
      sSeq (sFor [5] (iSeq (eVar 2)) (gSet 5) (
      sSet 4 (eBin addD (eVar 4) (eLc [6] (iRange1 (aCons (eBin addD (eVar 1) (eC (.int 1))) (aNil))) (gSet 6) (bYes) (eBin addD (eVar 5) (eTup (aCons (eVar 6) (aNil)))))))) (
      sSet 2 (eVar 4))))
    (fun rows : List (List Int) => [.val (.int T), .val (.int most), .val (.lst (rows.map tupI)), .emp, .emp, .emp, .emp]) (fun k rows => rows = allR most k) (fun i : Nat => D.int (i : Nat)) (as := List.range T) (k := 0) (s := [[]]) (by rw [List.length_range]; omega) rfl fun k rows hk hrows i _ => by
      subst hrows
      have hlen : (allR most k).length * (most + 1) ≤ 100000 := by
        rw [allR_len, ← Nat.pow_succ]
        exact hs (k + 1) (by omega)
      have g1 := grow (.val (.lst ((allR most k).map tupI))) (.val (.int (i : Nat))) (allR most k) [] (fun r hr => by rw [rowlen k r hr]; omega) (by simp; omega)
      exact ⟨_, rfl, _, allR most (k + 1), sSeq_of (e := [.val (.int T), .val (.int most), .val (.lst ((allR most k).map tupI)), .val (.int (i : Nat)), .val (.lst []), .emp, .emp]) rfl (sSeq_of (sFor_of (iSeq_of (m := eVar 2) (d := .lst ((allR most k).map tupI)) rfl rfl) g1) (sSet_of (m := eVar 4) rfl)), rfl, rfl⟩
  rw [List.length_range, Nat.zero_add] at hu
  rw [← rangeL_map] at l1
  subst hu
  exact runF_of (sSeq_of (e := [.val (.int T), .val (.int most), .val (.lst [tupI []]), .emp, .emp, .emp, .emp]) rfl (sSeq_of (sFor_of (iRange1_of (aCons_of (m := eVar 0) rfl aNil_of) (rng_nat (by omega))) l1) (sRet_of rfl)))
/-! _law_marked -/
def kR (r : List Int) : List Key := r.map Sum.inl
theorem kR_inj : ∀ {a b : List Int}, kR a = kR b → a = b
  | [], [], _ => rfl
  | [], _ :: _, h => by cases h
  | _ :: _, [], h => by cases h
  | x :: a, y :: b, h => by
    have h1 : (Sum.inl x : Key) :: kR a = Sum.inl y :: kR b := h
    injection h1 with h1 h2
    rw [Sum.inl.inj h1, kR_inj h2]
def dictD (rows : List (List Int)) : D := .dT (rows.map kR) (rows.map fun _ => D.bl true)
theorem tkey_row (r : List Int) : tkeyD (tupI r) = some (kR r) := by
  show (r.map D.int).mapM keyD = _
  induction r with
  | nil => rfl
  | cons x r ih => rw [List.map_cons, List.mapM_cons, ih]; rfl
theorem p_marked {rows : List (List Int)} (nd : rows.Nodup) (hl : rows.length ≤ 100000) : r_law_marked [.lst (rows.map tupI)] = some (dictD rows) := by
  have loop : ∀ (rs done : List (List Int)), done ++ rs = rows → forL [2] (gSet 2) (sDPutE 1 (eLk 2) (eC (.bl true))) (rs.map tupI) [.val (.lst (rows.map tupI)), .own (dictD done), .emp] = some (.nx [.val (.lst (rows.map tupI)), .own (dictD rows), .emp]) := by
    intro rs
    induction rs with
    | nil => intro done h; rw [List.append_nil] at h; rw [h]; rfl
    | cons r rs ih =>
      intro done h
      have nr : r ∉ done := fun z => by
        rw [← h] at nd
        exact (List.nodup_append.mp nd).2.2 r z r List.mem_cons_self rfl
      have hz : done.length ≤ 100000 := by
        have := congrArg List.length h
        rw [List.length_append] at this
        omega
      have hput : dputD (dictD done) (tupI r) (.bl true) = some (dictD (done ++ [r])) := by
        show ((tkeyD (tupI r)).bind fun k => if (done.map kR).length < sizeLine then _ else none) = _
        rw [tkey_row]
        show (if (done.map kR).length < sizeLine then _ else none) = _
        rw [if_pos (by rw [List.length_map, sizeLine_eq]; omega)]
        have hh : hasA (done.map kR) (kR r) = false := by
          refine Bool.eq_false_iff.mpr fun z => ?_
          obtain ⟨q, hq, e⟩ := List.mem_map.mp (hasA_true.mp z)
          exact nr (kR_inj e ▸ hq)
        unfold putA
        rw [hh]
        show some (D.dT (done.map kR ++ [kR r]) (done.map (fun _ => D.bl true) ++ [D.bl true])) = _
        unfold dictD
        rw [List.map_append, List.map_append]
        rfl
      have hS : sDPutE 1 (eLk 2) (eC (.bl true)) [.val (.lst (rows.map tupI)), .own (dictD done), .val (tupI r)] = some (.nx [.val (.lst (rows.map tupI)), .own (dictD (done ++ [r])), .val (tupI r)]) := by
        show ((dputD (dictD done) (tupI r) (.bl true)).bind _) = _
        rw [hput]
        rfl
      exact forL_one rfl (.inl hS) (ih (done ++ [r]) (by rw [← h]; simp))
  exact runF_of (sSeq_of (e := [.val (.lst (rows.map tupI)), .own (.dT [] []), .emp]) rfl (sSeq_of (sFor_of (iSeq_of (m := eVar 0) (d := .lst (rows.map tupI)) rfl rfl) (loop rows [] rfl)) (sRet_of (m := eVar 1) rfl)))
theorem din_row (l : List Int) (rows : List (List Int)) : dinD (tupI l) (dictD rows) = some (.bl (decide (l ∈ rows))) := by
  show ((dhasD (dictD rows) (tupI l)).bind _) = _
  show (((tkeyD (tupI l)).bind fun k => some (hasA (rows.map kR) k)).bind _) = _
  rw [tkey_row]
  show some (D.bl (hasA (rows.map kR) (kR l))) = _
  congr 2
  rw [Bool.eq_iff_iff, hasA_true, decide_eq_true_iff]
  refine ⟨fun z => ?_, fun z => List.mem_map.mpr ⟨l, z, rfl⟩⟩
  obtain ⟨q, hq, e⟩ := List.mem_map.mp z
  rw [← kR_inj e]
  exact hq
end NR

set_option Elab.async false
set_option linter.all false
set_option maxRecDepth 100000
set_option maxHeartbeats 4000000
set_option autoImplicit false
/-! _law_kept, _law_boxes -/
namespace NR
open PySem PySem.Spec PyProof.Rows L2
def capp (most : Int) (l p : List Int) : List Int := (plus l p).map fun x => min most x
theorem mn (most x : Int) : (if x < most then x else most) = min most x := by omega
theorem capp_range {T : Nat} {most : Int} {l p : List Int} (hl : l.length = T) (hp : p.length = T) : ((List.range T).map fun i => D.int (if l.getD i 0 + p.getD i 0 < most then l.getD i 0 + p.getD i 0 else most)) = (capp most l p).map D.int := by
  unfold capp plus
  refine List.ext_getElem? fun i => ?_
  by_cases hi : i < T
  · rw [List.getElem?_map, List.getElem?_map, List.getElem?_map, List.getElem?_range hi, List.getElem?_zipWith, List.getElem?_eq_getElem (show i < l.length by omega), List.getElem?_eq_getElem (show i < p.length by omega)]
    show some (D.int _) = some (D.int _)
    rw [mn, List.getD_eq_getElem?_getD, List.getD_eq_getElem?_getD, List.getElem?_eq_getElem (show i < l.length by omega), List.getElem?_eq_getElem (show i < p.length by omega)]
    rfl
  · rw [List.getElem?_eq_none (by rw [List.length_map, List.length_range]; omega), List.getElem?_eq_none (by rw [List.length_map, List.length_map, List.length_zipWith]; omega)]
theorem row_at {l : List Int} {i : Nat} (h : i < l.length) : ixD (tupI l) (.int i) = some (.int (l.getD i 0)) := by
  refine ix_tup ?_
  rw [List.getElem?_map, List.getElem?_eq_getElem h, List.getD_eq_getElem?_getD, List.getElem?_eq_getElem h]
  rfl
def cond (most : Int) (dl : List (List (List Int))) (l : List Int) (m : Mv) : Bool := decide (0 ≤ minI (capp most l m.po)) && decide (capp most l m.po ∈ dl.getD m.to_ [])
theorem minD_row {r : List Int} (h : r ≠ []) : minD (tupI r) = some (.int (minI r)) := by
  show ((intsD (tupI r)).bind _) = _
  have : intsD (tupI r) = some r := mapM_toI r
  rw [this]
  show (if r.isEmpty = true then none else some (D.int (minI r))) = _
  rw [if_neg (by rw [List.isEmpty_iff]; exact h)]
theorem lenD_row (r : List Int) : lenD (tupI r) = some (.int r.length) := by
  show some (D.int ((r.map D.int).length : Nat)) = _
  rw [List.length_map]
theorem p_kept {B : D} {T : Nat} {most : Int} {dl : List (List (List Int))} {ow : Bool} {mvs : List Mv} {l : List Int} (hT : 1 ≤ T ∧ T ≤ 1000) (hl : l.length = T) (hm : ∀ m ∈ mvs, m.to_ < dl.length ∧ m.po.length = T) (hn : mvs.length ≤ 1000) :
    r_law_kept [B, .lst (dl.map dictD), ownS ow, .tup (mvs.map encM), tupI l, .int most] = some (.bl (mvs.isEmpty || if ow then mvs.any (cond most dl l) else mvs.all (cond most dl l))) := by
  have hlen : lenD (.tup (mvs.map encM)) = some (.int mvs.length) := by
    show some (D.int ((mvs.map encM).length : Nat)) = _
    rw [List.length_map]
  have t1 : bOf (eBin eqD (eUn lenD (eLk 3)) (eC (.int 0))) (envOf 12 [B, .lst (dl.map dictD), ownS ow, .tup (mvs.map encM), tupI l, .int most]) = some (decide ((mvs.length : Int) = 0), envOf 12 [B, .lst (dl.map dictD), ownS ow, .tup (mvs.map encM), tupI l, .int most]) := by
    refine bOf_of (eBin_of (eUn_of rfl hlen) rfl ?_)
    show some (D.bl (eqvD (.int mvs.length) (.int 0))) = _
    rw [eqv_ints]
  have loop : ∀ (ms : List Mv) (g : Int), (∀ m ∈ ms, m ∈ mvs) → forL [7, 8, 9, 10] (gTups 3 (gMore (gSet 7) (gMore (gSet 8) (gMore (gSet 9) (gNone))))) (
      sSeq (sSet 10 (eUn tupD (eLc [11] (iRange1 (aCons (eUn lenD (eLk 4)) (aNil))) (gSet 11) (bYes) (eBin min2D (eVar 5) (eBin addD (eBinV ixD 4 (eLk 11)) (eBinV ixD 8 (eLk 11))))))) (
      sIf (bAnd (bOf (eBin geD (eUn minD (eLk 10)) (eC (.int 0)))) (bOf (eBin dinD (eVar 10) (eBinV ixD 1 (eLk 9))))) (sSet 6 (eBin addD (eVar 6) (eC (.int 1)))) (sSkip))) (ms.map encM)
      [.val B, .val (.lst (dl.map dictD)), .val (ownS ow), .val (.tup (mvs.map encM)), .val (tupI l), .val (.int most), .val (.int g), .emp, .emp, .emp, .emp, .emp]
      = some (.nx [.val B, .val (.lst (dl.map dictD)), .val (ownS ow), .val (.tup (mvs.map encM)), .val (tupI l), .val (.int most), .val (.int (g + (ms.countP (cond most dl l) : Nat))), .emp, .emp, .emp, .emp, .emp]) := by
    intro ms
    induction ms with
    | nil => intro g _; rw [List.countP_nil]; rw [show g + ((0 : Nat) : Int) = g by omega]; rfl
    | cons m ms ih =>
      intro g hms
      obtain ⟨h1, h2⟩ := hm m (hms m List.mem_cons_self)
      have e := lcL_enc (vs := [11]) (g := gSet 11) (m := eBin min2D (eVar 5) (eBin addD (eBinV ixD 4 (eLk 11)) (eBinV ixD 8 (eLk 11))))
        (env := [.val B, .val (.lst (dl.map dictD)), .val (ownS ow), .val (.tup (mvs.map encM)), .val (tupI l), .val (.int most), .val (.int g), .val (.str m.wd), .val (tupI m.po), .val (.int m.to_), .emp, .emp]) (fun i : Nat => D.int (i : Nat))
        (fun i => D.int (if l.getD i 0 + m.po.getD i 0 < most then l.getD i 0 + m.po.getD i 0 else most)) (as := List.range T) fun i hi => by
          have hi := List.mem_range.mp hi
          exact ⟨_, rfl, _, eBin_of (d := .int most) rfl (eBin_of (eBinV_of (d := tupI l) rfl rfl rfl (row_at (by omega))) (eBinV_of (d := tupI m.po) rfl rfl rfl (row_at (by omega))) rfl) rfl, rfl⟩
      rw [capp_range hl h2, ← rangeL_map] at e
      have hr : iRange1 (aCons (eUn lenD (eLk 4)) (aNil)) [.val B, .val (.lst (dl.map dictD)), .val (ownS ow), .val (.tup (mvs.map encM)), .val (tupI l), .val (.int most), .val (.int g), .val (.str m.wd), .val (tupI m.po), .val (.int m.to_), .emp, .emp] = some (rangeL 0 T, [.val B, .val (.lst (dl.map dictD)), .val (ownS ow), .val (.tup (mvs.map encM)), .val (tupI l), .val (.int most), .val (.int g), .val (.str m.wd), .val (tupI m.po), .val (.int m.to_), .emp, .emp]) := by
        have := iRange1_of (m := aCons (eUn lenD (eLk 4)) (aNil)) (env := [.val B, .val (.lst (dl.map dictD)), .val (ownS ow), .val (.tup (mvs.map encM)), .val (tupI l), .val (.int most), .val (.int g), .val (.str m.wd), .val (tupI m.po), .val (.int m.to_), .emp, .emp]) (j := (l.length : Nat)) (aCons_of (eUn_of rfl (lenD_row l)) aNil_of) (rng_nat (by omega))
        rw [this, hl]
        rfl
      have cl : (capp most l m.po).length = T := by unfold capp; rw [List.length_map, plus_len hl h2]
      have s10 := sSet_of (i := 10) (eUn_of (g := tupD) (eLc_of (env' := [.val B, .val (.lst (dl.map dictD)), .val (ownS ow), .val (.tup (mvs.map encM)), .val (tupI l), .val (.int most), .val (.int g), .val (.str m.wd), .val (tupI m.po), .val (.int m.to_), .emp, .emp]) hr e (by rw [List.length_map, cl, sizeLine_eq]; omega)) (z := tupI (capp most l m.po)) rfl)
      have c1 : bOf (eBin geD (eUn minD (eLk 10)) (eC (.int 0))) [.val B, .val (.lst (dl.map dictD)), .val (ownS ow), .val (.tup (mvs.map encM)), .val (tupI l), .val (.int most), .val (.int g), .val (.str m.wd), .val (tupI m.po), .val (.int m.to_), .val (tupI (capp most l m.po)), .emp]
          = some (decide (0 ≤ minI (capp most l m.po)), [.val B, .val (.lst (dl.map dictD)), .val (ownS ow), .val (.tup (mvs.map encM)), .val (tupI l), .val (.int most), .val (.int g), .val (.str m.wd), .val (tupI m.po), .val (.int m.to_), .val (tupI (capp most l m.po)), .emp]) :=
        bOf_of (eBin_of (eUn_of rfl (minD_row (fun z => by rw [z] at cl; simp at cl; omega))) rfl rfl)
      have hd : ixD (.lst (dl.map dictD)) (.int m.to_) = some (dictD (dl.getD m.to_ [])) := by
        refine ix_lst ?_
        rw [List.getElem?_map, List.getElem?_eq_getElem h1, List.getD_eq_getElem?_getD, List.getElem?_eq_getElem h1]
        rfl
      have c2 : bOf (eBin dinD (eVar 10) (eBinV ixD 1 (eLk 9))) [.val B, .val (.lst (dl.map dictD)), .val (ownS ow), .val (.tup (mvs.map encM)), .val (tupI l), .val (.int most), .val (.int g), .val (.str m.wd), .val (tupI m.po), .val (.int m.to_), .val (tupI (capp most l m.po)), .emp]
          = some (decide (capp most l m.po ∈ dl.getD m.to_ []), [.val B, .val (.lst (dl.map dictD)), .val (ownS ow), .val (.tup (mvs.map encM)), .val (tupI l), .val (.int most), .val (.int g), .val (.str m.wd), .val (tupI m.po), .val (.int m.to_), .val (tupI (capp most l m.po)), .emp]) :=
        bOf_of (eBin_of (d := tupI (capp most l m.po)) rfl (eBinV_of (d := .lst (dl.map dictD)) rfl rfl rfl hd) (din_row _ _))
      have c3 := bAnd_two c1 c2
      have ih := ih (if cond most dl l m then g + 1 else g) fun q hq => hms q (List.mem_cons_of_mem _ hq)
      have ec : (if cond most dl l m then g + 1 else g) + (ms.countP (cond most dl l) : Nat) = g + ((m :: ms).countP (cond most dl l) : Nat) := by
        rw [List.countP_cons]
        split <;> omega
      rw [ec] at ih
      refine forL_one (e := [.val B, .val (.lst (dl.map dictD)), .val (ownS ow), .val (.tup (mvs.map encM)), .val (tupI l), .val (.int most), .val (.int (if cond most dl l m then g + 1 else g)), .val (.str m.wd), .val (tupI m.po), .val (.int m.to_), .val (tupI (capp most l m.po)), .emp]) rfl (.inl (sSeq_of s10 (sIf_of c3 ?_))) ih
      show (if cond most dl l m = true then _ else _) = _
      cases hc : cond most dl l m with
      | true => exact (if_pos rfl).trans (sSet_of (eBin_of (ma := eVar 6) (mb := eC (.int 1)) rfl rfl rfl))
      | false => exact if_neg Bool.false_ne_true
  cases hv : mvs.isEmpty with
  | true =>
    have e0 := List.isEmpty_iff.mp hv
    rw [decide_eq_true (by rw [e0]; rfl)] at t1
    exact runF_of (sSeq_rt (sIf_of t1 ((if_pos rfl).trans (sRet_of rfl))))
  | false =>
    have ne : mvs ≠ [] := fun z => by rw [z] at hv; cases hv
    have lp := List.length_pos_iff.mpr ne
    rw [decide_eq_false (by omega)] at t1
    have L := loop mvs 0 fun m h => h
    rw [Int.zero_add] at L
    have fin : eIf (bOf (eBin eqD (eVar 2) (eC (.str (PySem.Str.ofString "house"))))) (eBin gtD (eVar 6) (eC (.int 0))) (eBin eqD (eVar 6) (eUn lenD (eLk 3))) [.val B, .val (.lst (dl.map dictD)), .val (ownS ow), .val (.tup (mvs.map encM)), .val (tupI l), .val (.int most), .val (.int ((mvs.countP (cond most dl l) : Nat) : Int)), .emp, .emp, .emp, .emp, .emp]
        = some (.bl (if ow then mvs.any (cond most dl l) else mvs.all (cond most dl l)), [.val B, .val (.lst (dl.map dictD)), .val (ownS ow), .val (.tup (mvs.map encM)), .val (tupI l), .val (.int most), .val (.int ((mvs.countP (cond most dl l) : Nat) : Int)), .emp, .emp, .emp, .emp, .emp]) := by
      refine eIf_of (bOf_of (eBin_of (d := ownS ow) rfl rfl (house_test ow))) ?_
      cases ow with
      | true =>
        refine (if_pos rfl).trans (eBin_of rfl rfl ?_)
        show some (D.bl (decide ((0 : Int) < (mvs.countP (cond most dl l) : Nat)))) = some (D.bl (mvs.any (cond most dl l)))
        congr 2
        rw [Bool.eq_iff_iff, decide_eq_true_iff, List.any_eq_true]
        constructor
        · intro h
          obtain ⟨x, h1, h2⟩ := (List.countP_pos_iff (p := cond most dl l) (l := mvs)).mp (by omega)
          exact ⟨x, h1, h2⟩
        · rintro ⟨x, h1, h2⟩
          have := List.countP_pos_iff.mpr ⟨x, h1, h2⟩
          omega
      | false =>
        refine (if_neg Bool.false_ne_true).trans (eBin_of rfl (eUn_of rfl hlen) ?_)
        show some (D.bl (eqvD (.int (mvs.countP (cond most dl l) : Nat)) (.int mvs.length))) = some (D.bl (mvs.all (cond most dl l)))
        rw [eqv_ints]
        congr 2
        rw [Bool.eq_iff_iff, decide_eq_true_iff, List.all_eq_true]
        have q := List.countP_eq_length (p := cond most dl l) (l := mvs)
        exact ⟨fun h => q.mp (Int.ofNat_inj.mp h), fun h => Int.ofNat_inj.mpr (q.mpr h)⟩
    exact runF_of (sSeq_of (sIf_of t1 rfl) (sSeq_of (e := [.val B, .val (.lst (dl.map dictD)), .val (ownS ow), .val (.tup (mvs.map encM)), .val (tupI l), .val (.int most), .val (.int 0), .emp, .emp, .emp, .emp, .emp]) rfl (sSeq_of (sFor_of (iSeq_of (m := eVar 3) (d := .tup (mvs.map encM)) rfl rfl) L) (sRet_of fin))))
/-! the box -/
def boxW (T most : Nat) (b : List Sg) (n s : Nat) : List (List Int) := (allR most T).filter (W T b n s)
theorem mem_lvls {most : Nat} {x : Int} : x ∈ lvls most ↔ 0 ≤ x ∧ x ≤ most := by
  unfold lvls
  constructor
  · intro h
    obtain ⟨i, hi, rfl⟩ := List.mem_map.mp h
    have := List.mem_range.mp hi
    omega
  · rintro ⟨h1, h2⟩
    exact List.mem_map.mpr ⟨x.toNat, List.mem_range.mpr (by omega), by omega⟩
theorem mem_all {most : Nat} : ∀ {T : Nat} {l : List Int}, l ∈ allR most T ↔ Row T most l
  | 0, l => by
    show l ∈ [[]] ↔ _
    rw [List.mem_singleton]
    constructor
    · intro h; subst h; exact ⟨rfl, by simp⟩
    · intro h; exact List.eq_nil_of_length_eq_zero h.1
  | T + 1, l => by
    show l ∈ (allR most T).flatMap _ ↔ _
    rw [List.mem_flatMap]
    constructor
    · rintro ⟨q, hq, hl⟩
      obtain ⟨x, hx, rfl⟩ := List.mem_map.mp hl
      have hq := mem_all.mp hq
      have hx := mem_lvls.mp hx
      refine ⟨by rw [List.length_append, hq.1]; rfl, fun y hy => ?_⟩
      rcases List.mem_append.mp hy with hy | hy
      · exact hq.2 y hy
      · rw [List.mem_singleton.mp hy]; exact hx
    · intro h
      have ne : l ≠ [] := fun z => by have := h.1; rw [z] at this; simp at this
      refine ⟨l.dropLast, mem_all.mpr ⟨by rw [List.length_dropLast, h.1]; omega, fun x hx => h.2 x ((List.dropLast_sublist l).subset hx)⟩, List.mem_map.mpr ⟨l.getLast ne, mem_lvls.mpr (h.2 _ (List.getLast_mem ne)), List.dropLast_concat_getLast ne⟩⟩
theorem lvls_nodup (most : Nat) : (lvls most).Nodup := List.pairwise_map.mpr (List.nodup_range.imp fun h e => h (by omega))
theorem all_nodup (most : Nat) : ∀ T, (allR most T).Nodup
  | 0 => by simp [allR]
  | T + 1 => by
    have ih := all_nodup most T
    show ((allR most T).flatMap _).Nodup
    unfold List.Nodup at ih ⊢
    rw [List.pairwise_flatMap]
    refine ⟨fun r _ => List.pairwise_map.mpr ((lvls_nodup most).imp fun h e => h (by simpa using e)), ih.imp fun h => ?_⟩
    intro x hx y hy e
    obtain ⟨u, _, rfl⟩ := List.mem_map.mp hx
    obtain ⟨w, _, rfl⟩ := List.mem_map.mp hy
    exact h (List.append_inj_left' e rfl)
theorem minI_ge {r : List Int} (h : ∀ x ∈ r, 0 ≤ x) : 0 ≤ minI r := by
  cases r with
  | nil => exact Int.le_refl 0
  | cons x r =>
    show 0 ≤ r.foldl min x
    rcases foldl_min_mem r x with e | e
    · rw [e]; exact h x List.mem_cons_self
    · exact h _ (List.mem_cons_of_mem _ e)
/-- the box tells what is kept -/
theorem cond_W {T most : Nat} {S : Int} {b : List Sg} {n : Nat} {l : List Int} {m : Mv} (hT : 1 ≤ T) (hS : 0 ≤ S) (k : BookOk T S b) (hm : m.to_ < b.length ∧ m.po.length = T) (hl : l.length = T) (hn : S * n ≤ most) : cond most ((List.range b.length).map fun s => boxW T most b n s) l m = W T b n m.to_ (plus l m.po) := by
  have hg : ((List.range b.length).map fun s => boxW T most b n s).getD m.to_ [] = boxW T most b n m.to_ := getD_map (List.getElem?_range hm.1)
  have pl := plus_len hl hm.2
  have cl : (capp most l m.po).length = T := by unfold capp; rw [List.length_map, pl]
  have cap : W T b n m.to_ (capp most l m.po) = W T b n m.to_ (plus l m.po) := W_cap hS k hm.1 pl hn
  unfold cond
  rw [hg]
  unfold boxW
  rw [Bool.eq_iff_iff, Bool.and_eq_true, decide_eq_true_iff, decide_eq_true_iff, List.mem_filter, mem_all, cap]
  constructor
  · rintro ⟨_, _, h⟩; exact h
  · intro h
    have nn := W_nonneg hS k hm.1 cl (by rw [cap]; exact h)
    exact ⟨minI_ge nn, ⟨cl, fun x hx => ⟨nn x hx, by unfold capp at hx; obtain ⟨y, _, rfl⟩ := List.mem_map.mp hx; omega⟩⟩, h⟩
def boxT (T most : Nat) (b : List Sg) (n : Nat) : D := .lst ((List.range b.length).map fun s => dictD (boxW T most b n s))
theorem p_boxes {T most many : Nat} {S : Int} {b : List Sg} (hT : 1 ≤ T ∧ T ≤ 1000) (hmost : most ≤ 1000) (hs : ∀ k, k ≤ T → (most + 1) ^ k ≤ 100000) (hS : 0 ≤ S) (k : BookOk T S b) (hm : many ≤ 1000) (hn : S * many ≤ most) :
    r_law_boxes [encB T b, .int most, .int many] = some (.lst ((List.range (many + 1)).map fun n => boxT T most b n)) := by
  have first : sAsg (eVar 0) (gTups 2 (gMore (gSet 6) (gMore (gSet 7) (gNone)))) (envOf 14 [encB T b, .int most, .int many]) = some (.nx [.val (encB T b), .val (.int most), .val (.int many), .emp, .emp, .emp, .val (.int T), .val (.tup (b.map encS)), .emp, .emp, .emp, .emp, .emp, .emp]) := rfl
  have s3 := sSet_of (i := 3) (eCall_of (n := 2) (f := r_law_all) (a := aCons (eVar 6) (aCons (eVar 1) (aNil))) (env := [.val (encB T b), .val (.int most), .val (.int many), .emp, .emp, .emp, .val (.int T), .val (.tup (b.map encS)), .emp, .emp, .emp, .emp, .emp, .emp]) (ds := [.int T, .int most]) rfl (p_all hT.2 hmost hs))
  have alen : (allR most T).length ≤ 100000 := by rw [allR_len]; exact hs T (Nat.le_refl _)
  have mk : ∀ n s, r_law_marked [.lst ((boxW T most b n s).map tupI)] = some (dictD (boxW T most b n s)) := fun n s => p_marked ((all_nodup most T).sublist List.filter_sublist) (Nat.le_trans (List.length_filter_le _ _) alen)
  have b0 : ∀ s, s < b.length → boxW T most b 0 s = allR most T := fun s hs => List.filter_eq_self.mpr fun l hl => by
    have r := mem_all.mp hl
    exact W_zero hs r.1 fun x hx => (r.2 x hx).1
  have e4 := lcL_enc (vs := [12]) (g := gSet 12) (m := eCall 1 r_law_marked (aCons (eVar 3) (aNil))) (env := [.val (encB T b), .val (.int most), .val (.int many), .val (.lst ((allR most T).map tupI)), .emp, .emp, .val (.int T), .val (.tup (b.map encS)), .emp, .emp, .emp, .emp, .emp, .emp]) encS (fun _ => dictD (allR most T)) (as := b) fun s _ =>
    ⟨_, rfl, _, eCall_of (ds := [.lst ((allR most T).map tupI)]) rfl (p_marked (all_nodup most T) alen), rfl⟩
  have em : (b.map fun _ => dictD (allR most T)) = (List.range b.length).map fun s => dictD (boxW T most b 0 s) := by
    refine List.ext_getElem? fun i => ?_
    by_cases hi : i < b.length
    · rw [List.getElem?_map, List.getElem?_map, List.getElem?_range hi, List.getElem?_eq_getElem hi]
      show some (dictD _) = some (dictD _)
      rw [b0 i hi]
    · rw [List.getElem?_eq_none (by rw [List.length_map]; omega), List.getElem?_eq_none (by rw [List.length_map, List.length_range]; omega)]
  rw [em] at e4
  have s4 := sOwn_of (i := 4) (eLst_of (a := aCons (eLc [12] (iSeq (eVar 7)) (gSet 12) (bYes) (eCall 1 r_law_marked (aCons (eVar 3) (aNil)))) aNil) (e := [.val (encB T b), .val (.int most), .val (.int many), .val (.lst ((allR most T).map tupI)), .emp, .emp, .val (.int T), .val (.tup (b.map encS)), .emp, .emp, .emp, .emp, .emp, .emp])
    (env := [.val (encB T b), .val (.int most), .val (.int many), .val (.lst ((allR most T).map tupI)), .emp, .emp, .val (.int T), .val (.tup (b.map encS)), .emp, .emp, .emp, .emp, .emp, .emp]) (ds := [boxT T most b 0]) (aCons_of (eLc_of (env' := [.val (encB T b), .val (.int most), .val (.int many), .val (.lst ((allR most T).map tupI)), .emp, .emp, .val (.int T), .val (.tup (b.map encS)), .emp, .emp, .emp, .emp, .emp, .emp]) rfl e4 (by rw [List.length_map, List.length_range, sizeLine_eq]; have := k.few; omega)) aNil_of))
  -- one table more
  obtain ⟨u, l1, hu⟩ := forL_stR many (dead := [5, 8, 9, 10, 11]) (g := gSet 5) (body := sSeq (sSet 8 (eBinV ixD 4 (eUn negD (eC (.int 1))))) (
      sSeq (sOwn 9 (eLst (aNil))) (
      sSeq (sFor [10, 11] (iSeq (eVar 7)) (gTups 2 (gMore (gSet 10) (gMore (gSet 11) (gNone)))) (
      sAppend 9 (eCall 1 r_law_marked (aCons (eLc [13] (iSeq (eVar 3)) (gSet 13) (bTru (eCall 6 r_law_kept (aCons (eVar 0) (aCons (eVar 8) (aCons (eVar 10) (aCons (eVar 11) (aCons (eVar 13) (aCons (eVar 1) (aNil))))))))) (eVar 13)) (aNil))))) (
      sAppend 4 (eVar 9)))))
    (fun n : Nat => [.val (encB T b), .val (.int most), .val (.int many), .val (.lst ((allR most T).map tupI)), .own (.lst ((List.range (n + 1)).map fun n => boxT T most b n)), .emp, .val (.int T), .val (.tup (b.map encS)), .emp, .emp, .emp, .emp, .emp, .emp]) (fun n m => m = n) (fun i : Nat => D.int (i : Nat)) (as := List.range many) (k := 0) (s := 0) (by rw [List.length_range]; omega) rfl fun n' n hn' he i _ => by
      subst he
      have hSn : S * (n : Nat) ≤ most := Int.le_trans (Int.mul_le_mul_of_nonneg_left (by omega) hS) hn
      have s8 := sSet_of (i := 8) (eBinV_of (g := ixD) (i := 4) (mb := eUn negD (eC (.int 1))) (env := [.val (encB T b), .val (.int most), .val (.int many), .val (.lst ((allR most T).map tupI)), .own (.lst ((List.range (n + 1)).map fun n => boxT T most b n)), .val (.int (i : Nat)), .val (.int T), .val (.tup (b.map encS)), .emp, .emp, .emp, .emp, .emp, .emp]) (d := .lst ((List.range (n + 1)).map fun n => boxT T most b n)) (z := boxT T most b n) rfl rfl rfl (by rw [List.range_succ, List.map_append]; exact ix_last))
      have row : ∀ (ss done : List Sg), done ++ ss = b → forL [10, 11] (gTups 2 (gMore (gSet 10) (gMore (gSet 11) (gNone)))) (
          sAppend 9 (eCall 1 r_law_marked (aCons (eLc [13] (iSeq (eVar 3)) (gSet 13) (bTru (eCall 6 r_law_kept (aCons (eVar 0) (aCons (eVar 8) (aCons (eVar 10) (aCons (eVar 11) (aCons (eVar 13) (aCons (eVar 1) (aNil))))))))) (eVar 13)) (aNil)))) (ss.map encS)
          [.val (encB T b), .val (.int most), .val (.int many), .val (.lst ((allR most T).map tupI)), .own (.lst ((List.range (n + 1)).map fun n => boxT T most b n)), .val (.int (i : Nat)), .val (.int T), .val (.tup (b.map encS)), .val (boxT T most b n), .own (.lst ((List.range done.length).map fun s => dictD (boxW T most b (n + 1) s))), .emp, .emp, .emp, .emp]
          = some (.nx [.val (encB T b), .val (.int most), .val (.int many), .val (.lst ((allR most T).map tupI)), .own (.lst ((List.range (n + 1)).map fun n => boxT T most b n)), .val (.int (i : Nat)), .val (.int T), .val (.tup (b.map encS)), .val (boxT T most b n), .own (.lst ((List.range b.length).map fun s => dictD (boxW T most b (n + 1) s))), .emp, .emp, .emp, .emp]) := by
        intro ss
        induction ss with
        | nil => intro done hd; rw [List.append_nil] at hd; rw [hd]; rfl
        | cons g ss ih =>
          intro done hd
          have hg : b[done.length]? = some g := by rw [← hd]; simp
          have hgm := List.mem_of_getElem? hg
          have hlt := lt_of_get hg
          have ek := lcL_encF (vs := [13]) (g := gSet 13) (t := bTru (eCall 6 r_law_kept (aCons (eVar 0) (aCons (eVar 8) (aCons (eVar 10) (aCons (eVar 11) (aCons (eVar 13) (aCons (eVar 1) (aNil))))))))) (m := eVar 13)
            (env := [.val (encB T b), .val (.int most), .val (.int many), .val (.lst ((allR most T).map tupI)), .own (.lst ((List.range (n + 1)).map fun n => boxT T most b n)), .val (.int (i : Nat)), .val (.int T), .val (.tup (b.map encS)), .val (boxT T most b n), .own (.lst ((List.range done.length).map fun s => dictD (boxW T most b (n + 1) s))), .val (ownS g.ow), .val (.tup (g.mv.map encM)), .emp, .emp])
            tupI tupI (W T b (n + 1) done.length) (as := allR most T) fun l hl => by
              have r := mem_all.mp hl
              have pk := p_kept (B := encB T b) (most := most) (dl := (List.range b.length).map fun s => boxW T most b n s) (ow := g.ow) (mvs := g.mv) hT r.1 (fun m hm => ⟨by rw [List.length_map, List.length_range]; exact (k.mv g hgm m hm).1, (k.mv g hgm m hm).2.1⟩) (by have := k.mvs g hgm; omega)
              rw [List.map_map] at pk
              have e1 : g.mv.any (cond most ((List.range b.length).map fun s => boxW T most b n s) l) = g.mv.any fun m => W T b n m.to_ (plus l m.po) := by
                rw [Bool.eq_iff_iff, List.any_eq_true, List.any_eq_true]
                exact exists_congr fun m => and_congr_right fun hm => by rw [cond_W hT.1 hS k ⟨(k.mv g hgm m hm).1, (k.mv g hgm m hm).2.1⟩ r.1 hSn]
              have e2 : g.mv.all (cond most ((List.range b.length).map fun s => boxW T most b n s) l) = g.mv.all fun m => W T b n m.to_ (plus l m.po) := by
                rw [Bool.eq_iff_iff, List.all_eq_true, List.all_eq_true]
                exact forall_congr' fun m => imp_congr_right fun hm => by rw [cond_W hT.1 hS k ⟨(k.mv g hgm m hm).1, (k.mv g hgm m hm).2.1⟩ r.1 hSn]
              rw [e1, e2, ← W_succ hS k hg r.1 fun x hx => (r.2 x hx).1] at pk
              refine ⟨_, _, rfl, bTru_of (eCall_of (ds := [encB T b, .lst ((List.range b.length).map (dictD ∘ fun s => boxW T most b n s)), ownS g.ow, .tup (g.mv.map encM), tupI l, .int most]) rfl pk) rfl, fun _ => rfl, fun _ => ⟨_, rfl, rfl⟩⟩
          have hA := sAppend_of (i := 9) (ds := (List.range done.length).map fun s => dictD (boxW T most b (n + 1) s)) (env := [.val (encB T b), .val (.int most), .val (.int many), .val (.lst ((allR most T).map tupI)), .own (.lst ((List.range (n + 1)).map fun n => boxT T most b n)), .val (.int (i : Nat)), .val (.int T), .val (.tup (b.map encS)), .val (boxT T most b n), .own (.lst ((List.range done.length).map fun s => dictD (boxW T most b (n + 1) s))), .val (ownS g.ow), .val (.tup (g.mv.map encM)), .emp, .emp]) rfl
            (eCall_of (n := 1) (f := r_law_marked) (ds := [.lst ((boxW T most b (n + 1) done.length).map tupI)]) (aCons_of (eLc_of (env' := [.val (encB T b), .val (.int most), .val (.int many), .val (.lst ((allR most T).map tupI)), .own (.lst ((List.range (n + 1)).map fun n => boxT T most b n)), .val (.int (i : Nat)), .val (.int T), .val (.tup (b.map encS)), .val (boxT T most b n), .own (.lst ((List.range done.length).map fun s => dictD (boxW T most b (n + 1) s))), .val (ownS g.ow), .val (.tup (g.mv.map encM)), .emp, .emp]) (w := iSeq (eVar 3)) rfl ek (by rw [List.length_map, sizeLine_eq]; have : (boxW T most b (n + 1) done.length).length ≤ 100000 := Nat.le_trans (List.length_filter_le (W T b (n + 1) done.length) (allR most T)) alen; omega)) aNil_of) (mk (n + 1) done.length)) rfl (by rw [List.length_map, List.length_range, sizeLine_eq]; have := k.few; omega)
          have ih := ih (done ++ [g]) (by rw [← hd]; simp)
          rw [List.length_append, show done.length + [g].length = done.length + 1 from rfl, List.range_succ (n := done.length), List.map_append (l₁ := List.range done.length)] at ih
          exact forL_one rfl (.inl hA) ih
      have r0 := row b [] rfl
      have hA4 := sAppend_of (i := 4) (m := eVar 9) (ds := (List.range (n + 1)).map fun n => boxT T most b n) (env := [.val (encB T b), .val (.int most), .val (.int many), .val (.lst ((allR most T).map tupI)), .own (.lst ((List.range (n + 1)).map fun n => boxT T most b n)), .val (.int (i : Nat)), .val (.int T), .val (.tup (b.map encS)), .val (boxT T most b n), .own (boxT T most b (n + 1)), .emp, .emp, .emp, .emp]) rfl rfl rfl (by rw [List.length_map, List.length_range, sizeLine_eq]; omega)
      have el : ((List.range (n + 1)).map fun n => boxT T most b n) ++ [boxT T most b (n + 1)] = (List.range (n + 1 + 1)).map fun n => boxT T most b n := by
        rw [List.range_succ (n := n + 1), List.map_append]
        rfl
      rw [el] at hA4
      exact ⟨_, rfl, _, n + 1, sSeq_of s8 (sSeq_of (e := [.val (encB T b), .val (.int most), .val (.int many), .val (.lst ((allR most T).map tupI)), .own (.lst ((List.range (n + 1)).map fun n => boxT T most b n)), .val (.int (i : Nat)), .val (.int T), .val (.tup (b.map encS)), .val (boxT T most b n), .own (.lst []), .emp, .emp, .emp, .emp]) rfl (sSeq_of (sFor_of (iSeq_of (m := eVar 7) (d := .tup (b.map encS)) rfl rfl) r0) hA4)), rfl, rfl⟩
  rw [List.length_range, Nat.zero_add] at hu
  rw [← rangeL_map] at l1
  subst hu
  exact runF_of (sSeq_of first (sSeq_of s3 (sSeq_of s4 (sSeq_of (sFor_of (iRange1_of (aCons_of (m := eVar 2) rfl aNil_of) (rng_nat (by omega))) l1) (sRet_of (m := eVar 4) rfl)))))
end NR

set_option Elab.async false
set_option linter.all false
set_option maxRecDepth 100000
set_option maxHeartbeats 4000000
set_option autoImplicit false
/-! _law_least -/
namespace NR
open PySem PySem.Spec PyProof.Rows L2
theorem cut_take {α : Type} {xs : List α} {n : Nat} (h : n ≤ xs.length) : cutA xs none (some (n : Int)) = xs.take n := by
  unfold cutA
  rw [HT.sIx_none, HT.sIx_nat, Nat.sub_zero, List.drop_zero, Nat.min_eq_left h]
theorem cut_drop {α : Type} {xs : List α} {n : Nat} (h : n ≤ xs.length) : cutA xs (some (n : Int)) none = xs.drop n := by
  unfold cutA
  rw [HT.sIx_none, HT.sIx_nat, Nat.min_eq_left h]
  exact List.take_of_length_le (by rw [List.length_drop]; exact Nat.le_refl _)
theorem keyV_kR (r : List Int) : D.tup ((kR r).map keyV) = tupI r := by
  unfold kR tupI
  rw [List.map_map]
  rfl
theorem keys_dict (rows : List (List Int)) : keysD (dictD rows) = some (rows.map tupI) := by
  show some ((rows.map kR).map fun k => D.tup (k.map keyV)) = _
  rw [List.map_map]
  congr 1
  exact List.map_congr_left fun r _ => keyV_kR r
def decr (l : List Int) (i : Nat) : List Int := l.take i ++ [l.getD i 0 - 1] ++ l.drop (i + 1)
def bel (rows : List (List Int)) (l : List Int) (i : Nat) : Bool := decide (0 < l.getD i 0) && decide (decr l i ∈ rows)
def minimal (T : Nat) (rows : List (List Int)) (l : List Int) : Bool := decide ((List.range T).countP (bel rows l) = 0)
theorem p_least {T : Nat} {rows : List (List Int)} (hT : 1 ≤ T ∧ T ≤ 1000) (hr : ∀ r ∈ rows, r.length = T) (hl : rows.length ≤ 100000) : r_law_least [dictD rows] = some (.lst ((srt (rows.filter (minimal T rows))).map tupI)) := by
  -- one level looked at
  have one : ∀ (F : Sl) (l : List Int), l.length = T → ∀ (is : List Nat) (g : Int), (∀ i ∈ is, i < T) → forL [4] (gSet 4) (
      sIf (bAnd (bOf (eBin gtD (eBinV ixD 2 (eLk 4)) (eC (.int 0)))) (bOf (eBin dinD (eBin addD (eBin addD (eSl (eVar 2) (oNone) (oSome (eLk 4))) (eTup (aCons (eBin subD (eBinV ixD 2 (eLk 4)) (eC (.int 1))) (aNil)))) (eSl (eVar 2) (oSome (eBin addD (eVar 4) (eC (.int 1)))) (oNone))) (eLk 0)))) (sSet 3 (eBin addD (eVar 3) (eC (.int 1)))) (sSkip)) (is.map fun i : Nat => D.int (i : Nat))
      [.val (dictD rows), F, .val (tupI l), .val (.int g), .emp] = some (.nx [.val (dictD rows), F, .val (tupI l), .val (.int (g + (is.countP (bel rows l) : Nat))), .emp]) := by
    intro F l hlT is
    induction is with
    | nil => intro g _; rw [List.countP_nil, show g + ((0 : Nat) : Int) = g by omega]; rfl
    | cons i is ih =>
      intro g his
      have hi := his i List.mem_cons_self
      have c1 : bOf (eBin gtD (eBinV ixD 2 (eLk 4)) (eC (.int 0))) [.val (dictD rows), F, .val (tupI l), .val (.int g), .val (.int (i : Nat))] = some (decide (0 < l.getD i 0), [.val (dictD rows), F, .val (tupI l), .val (.int g), .val (.int (i : Nat))]) := bOf_of (eBin_of (eBinV_of (d := tupI l) rfl rfl rfl (row_at (by omega))) rfl rfl)
      have a1 : eSl (eVar 2) (oNone) (oSome (eLk 4)) [.val (dictD rows), F, .val (tupI l), .val (.int g), .val (.int (i : Nat))] = some (tupI (l.take i), [.val (dictD rows), F, .val (tupI l), .val (.int g), .val (.int (i : Nat))]) := by
        refine eSl_of (d := tupI l) rfl rfl rfl ?_
        show some (D.tup (cutA (l.map D.int) none (some ((i : Nat) : Int)))) = _
        rw [cut_take (by rw [List.length_map]; omega)]
        unfold tupI
        rw [List.map_take]
      have a2 : eSl (eVar 2) (oSome (eBin addD (eVar 4) (eC (.int 1)))) (oNone) [.val (dictD rows), F, .val (tupI l), .val (.int g), .val (.int (i : Nat))] = some (tupI (l.drop (i + 1)), [.val (dictD rows), F, .val (tupI l), .val (.int g), .val (.int (i : Nat))]) := by
        refine eSl_of (d := tupI l) (l := some (((i + 1 : Nat) : Int))) rfl rfl rfl ?_
        show some (D.tup (cutA (l.map D.int) (some ((i + 1 : Nat) : Int)) none)) = _
        rw [cut_drop (by rw [List.length_map]; omega)]
        unfold tupI
        rw [List.map_drop]
      have a3 : eTup (aCons (eBin subD (eBinV ixD 2 (eLk 4)) (eC (.int 1))) (aNil)) [.val (dictD rows), F, .val (tupI l), .val (.int g), .val (.int (i : Nat))] = some (tupI [l.getD i 0 - 1], [.val (dictD rows), F, .val (tupI l), .val (.int g), .val (.int (i : Nat))]) :=
        eTup_of (ds := [.int (l.getD i 0 - 1)]) (aCons_of (eBin_of (eBinV_of (d := tupI l) rfl rfl rfl (row_at (by omega))) rfl rfl) aNil_of)
      have add_row : ∀ {a b : List Int}, a.length + b.length ≤ 100000 → addD (tupI a) (tupI b) = some (tupI (a ++ b)) := fun {a b} h => by
        unfold tupI
        rw [List.map_append]
        exact add_tup (by rw [List.length_map, List.length_map]; omega)
      have c2 : bOf (eBin dinD (eBin addD (eBin addD (eSl (eVar 2) (oNone) (oSome (eLk 4))) (eTup (aCons (eBin subD (eBinV ixD 2 (eLk 4)) (eC (.int 1))) (aNil)))) (eSl (eVar 2) (oSome (eBin addD (eVar 4) (eC (.int 1)))) (oNone))) (eLk 0)) [.val (dictD rows), F, .val (tupI l), .val (.int g), .val (.int (i : Nat))]
          = some (decide (decr l i ∈ rows), [.val (dictD rows), F, .val (tupI l), .val (.int g), .val (.int (i : Nat))]) :=
        bOf_of (eBin_of (eBin_of (eBin_of a1 a3 (add_row (by rw [List.length_take]; simp; omega))) a2 (add_row (by rw [List.length_append, List.length_take, List.length_drop]; simp; omega))) rfl (din_row _ _))
      have c3 := bAnd_two c1 c2
      have ih := ih (if bel rows l i then g + 1 else g) fun q hq => his q (List.mem_cons_of_mem _ hq)
      have ec : (if bel rows l i then g + 1 else g) + (is.countP (bel rows l) : Nat) = g + ((i :: is).countP (bel rows l) : Nat) := by
        rw [List.countP_cons]
        split <;> omega
      rw [ec] at ih
      refine forL_one (e := [.val (dictD rows), F, .val (tupI l), .val (.int (if bel rows l i then g + 1 else g)), .val (.int (i : Nat))]) rfl (.inl (sIf_of c3 ?_)) ih
      show (if bel rows l i = true then _ else _) = _
      cases hc : bel rows l i with
      | true => exact (if_pos rfl).trans (sSet_of (eBin_of (ma := eVar 3) (mb := eC (.int 1)) rfl rfl rfl))
      | false => exact if_neg Bool.false_ne_true
  have loop : ∀ (rs found : List (List Int)), (∀ r ∈ rs, r.length = T) → found.length + rs.length ≤ 100000 → forL [2, 3, 4] (gSet 2) (
      sSeq (sSet 3 (eC (.int 0))) (
      sSeq (sFor [4] (iRange1 (aCons (eUn lenD (eLk 2)) (aNil))) (gSet 4) (
      sIf (bAnd (bOf (eBin gtD (eBinV ixD 2 (eLk 4)) (eC (.int 0)))) (bOf (eBin dinD (eBin addD (eBin addD (eSl (eVar 2) (oNone) (oSome (eLk 4))) (eTup (aCons (eBin subD (eBinV ixD 2 (eLk 4)) (eC (.int 1))) (aNil)))) (eSl (eVar 2) (oSome (eBin addD (eVar 4) (eC (.int 1)))) (oNone))) (eLk 0)))) (sSet 3 (eBin addD (eVar 3) (eC (.int 1)))) (sSkip))) (
      sIf (bOf (eBin eqD (eVar 3) (eC (.int 0)))) (sAppend 1 (eVar 2)) (sSkip)))) (rs.map tupI)
      [.val (dictD rows), .own (.lst (found.map tupI)), .emp, .emp, .emp] = some (.nx [.val (dictD rows), .own (.lst ((found ++ rs.filter (minimal T rows)).map tupI)), .emp, .emp, .emp]) := by
    intro rs
    induction rs with
    | nil => intro found _ _; rw [List.filter_nil, List.append_nil]; rfl
    | cons l rs ih =>
      intro found hl hf
      rw [List.length_cons] at hf
      have hlT := hl l List.mem_cons_self
      have o := one (.own (.lst (found.map tupI))) l hlT (List.range T) 0 fun i hi => List.mem_range.mp hi
      rw [← rangeL_map, Int.zero_add] at o
      have hr : iRange1 (aCons (eUn lenD (eLk 2)) (aNil)) [.val (dictD rows), .own (.lst (found.map tupI)), .val (tupI l), .val (.int 0), .emp] = some (rangeL 0 T, [.val (dictD rows), .own (.lst (found.map tupI)), .val (tupI l), .val (.int 0), .emp]) := by
        have := iRange1_of (m := aCons (eUn lenD (eLk 2)) (aNil)) (env := [.val (dictD rows), .own (.lst (found.map tupI)), .val (tupI l), .val (.int 0), .emp]) (j := (l.length : Nat)) (aCons_of (eUn_of rfl (lenD_row l)) aNil_of) (rng_nat (by omega))
        rw [this, hlT]
        rfl
      have t : bOf (eBin eqD (eVar 3) (eC (.int 0))) [.val (dictD rows), .own (.lst (found.map tupI)), .val (tupI l), .val (.int ((List.range T).countP (bel rows l) : Nat)), .emp] = some (minimal T rows l, [.val (dictD rows), .own (.lst (found.map tupI)), .val (tupI l), .val (.int ((List.range T).countP (bel rows l) : Nat)), .emp]) := by
        generalize hc : (List.range T).countP (bel rows l) = c
        have hm : minimal T rows l = decide (c = 0) := by unfold minimal; rw [hc]
        have e : eqD (.int ((c : Nat) : Int)) (.int 0) = some (.bl (minimal T rows l)) := by
          show some (D.bl (eqvD (.int ((c : Nat) : Int)) (.int 0))) = _
          have q : decide (((c : Nat) : Int) = 0) = decide (c = 0) := decide_eq_decide.mpr ⟨fun h => by omega, fun h => by omega⟩
          rw [eqv_ints, hm, q]
        exact bOf_of (eBin_of rfl rfl e)
      have ih := ih (if minimal T rows l then found ++ [l] else found) (fun q hq => hl q (List.mem_cons_of_mem _ hq)) (by split; rw [List.length_append]; show found.length + 1 + rs.length ≤ 100000; omega; omega)
      have ef : (if minimal T rows l then found ++ [l] else found) ++ rs.filter (minimal T rows) = found ++ (l :: rs).filter (minimal T rows) := by
        rw [List.filter_cons]
        split <;> simp
      rw [ef] at ih
      refine forL_one (e := [.val (dictD rows), .own (.lst ((if minimal T rows l then found ++ [l] else found).map tupI)), .val (tupI l), .val (.int ((List.range T).countP (bel rows l) : Nat)), .emp]) rfl (.inl (sSeq_of (e := [.val (dictD rows), .own (.lst (found.map tupI)), .val (tupI l), .val (.int 0), .emp]) rfl (sSeq_of (sFor_of hr o) (sIf_of t ?_)))) ih
      cases hc : minimal T rows l with
      | true =>
        refine (if_pos rfl).trans (sAppend_of (ds := found.map tupI) (m := eVar 2) rfl rfl rfl (by rw [List.length_map, sizeLine_eq]; omega) ?_)
        rw [if_pos rfl, List.map_append]
        rfl
      | false => exact if_neg Bool.false_ne_true
  have L := loop rows [] hr (by simpa using hl)
  rw [List.nil_append] at L
  have hS : sortD (.lst ((rows.filter (minimal T rows)).map tupI)) = some (.lst ((srt (rows.filter (minimal T rows))).map tupI)) := by
    show ((((rows.filter (minimal T rows)).map tupI).mapM rowD).bind _) = _
    rw [mapM_rowD]
    show (if ∀ r ∈ rows.filter (minimal T rows), r ≠ [] then _ else _) = _
    rw [if_pos fun r hr' z => by
      have := hr r (List.mem_filter.mp hr').1
      rw [z] at this
      simp at this
      omega]
  have hk : iKy 0 [.val (dictD rows), .own (.lst []), .emp, .emp, .emp] = some (rows.map tupI, [.val (dictD rows), .own (.lst []), .emp, .emp, .emp]) := by
    have e : iKy 0 [.val (dictD rows), .own (.lst []), .emp, .emp, .emp] = (keysD (dictD rows)).bind fun ds => some (ds, [.val (dictD rows), .own (.lst []), .emp, .emp, .emp]) := rfl
    rw [e, keys_dict]
    rfl
  exact runF_of (sSeq_of (e := [.val (dictD rows), .own (.lst []), .emp, .emp, .emp]) rfl (sSeq_of (sFor_of hk L) (sRet_of (eUn_of rfl hS))))
/-! what it finds: the least ones -/
theorem decr_row {T : Nat} {B : Int} {l : List Int} {i : Nat} (h : Row T B l) (hi : i < T) (hp : 0 < l.getD i 0) : Row T B (decr l i) ∧ ∀ (j : Nat) (x : Int), (decr l i)[j]? = some x → x = if j = i then l.getD i 0 - 1 else l.getD j 0 := by
  have hl := h.1
  have gd : ∀ {j : Nat}, j < T → l[j]? = some (l.getD j 0) := fun {j} hj => by
    rw [List.getD_eq_getElem?_getD, List.getElem?_eq_getElem (by omega)]; rfl
  have len : (decr l i).length = T := by
    unfold decr
    rw [List.length_append, List.length_append, List.length_take, List.length_drop]
    simp
    omega
  have at_ : ∀ (j : Nat) (x : Int), (decr l i)[j]? = some x → x = if j = i then l.getD i 0 - 1 else l.getD j 0 := by
    intro j x hx
    have hj : j < T := by rw [← len]; exact lt_of_get hx
    unfold decr at hx
    have lt : (l.take i).length = i := by rw [List.length_take]; omega
    rcases Nat.lt_trichotomy j i with c | c | c
    · rw [List.append_assoc, List.getElem?_append_left (by omega), List.getElem?_take_of_lt c, gd hj] at hx
      rw [if_neg (by omega)]
      exact (Option.some.inj hx).symm
    · subst c
      rw [List.append_assoc, List.getElem?_append_right (by omega), lt, Nat.sub_self] at hx
      rw [if_pos rfl]
      exact (Option.some.inj hx).symm
    · rw [List.getElem?_append_right (by rw [List.length_append, lt]; simp; omega), List.getElem?_drop, List.length_append, lt] at hx
      rw [show i + 1 + (j - (i + [l.getD i 0 - 1].length)) = j by simp; omega, gd hj] at hx
      rw [if_neg (by omega)]
      exact (Option.some.inj hx).symm
  refine ⟨⟨len, fun x hx => ?_⟩, at_⟩
  obtain ⟨j, hj⟩ := List.mem_iff_getElem?.mp hx
  have e := at_ j x hj
  have hjT : j < T := by rw [← len]; exact lt_of_get hj
  have b1 := h.2 _ (List.mem_of_getElem? (gd hi))
  have b2 := h.2 _ (List.mem_of_getElem? (gd hjT))
  split at e <;> omega
theorem least_found {T most : Nat} {S : Int} {b : List Sg} {n s : Nat} (hS : 0 ≤ S) (k : BookOk T S b) (hs : s < b.length) (hn : S * n ≤ most) : srt ((boxW T most b n s).filter (minimal T (boxW T most b n s))) = (tabN T b n).getD s [] := by
  have g := (good_tab hS k n).at hs
  generalize hL : (tabN T b n).getD s [] = L at g
  have mem : ∀ l, l ∈ boxW T most b n s ↔ Row T most l ∧ anyA l L = true := fun l => by
    unfold boxW
    rw [List.mem_filter, mem_all]
    unfold W
    rw [hL]
  have mini : ∀ l, minimal T (boxW T most b n s) l = true ↔ ∀ i, i < T → ¬ (0 < l.getD i 0 ∧ decr l i ∈ boxW T most b n s) := fun l => by
    unfold minimal
    rw [decide_eq_true_iff, List.countP_eq_zero]
    constructor
    · intro h i hi z
      exact h i (List.mem_range.mpr hi) (by unfold bel; rw [decide_eq_true z.1, decide_eq_true z.2]; rfl)
    · intro h i hi z
      unfold bel at z
      rw [Bool.and_eq_true, decide_eq_true_iff, decide_eq_true_iff] at z
      exact h i (List.mem_range.mp hi) z
  refine rows_same ?_ g.sort fun l => ?_
  · -- in order, each once
    have nd : (srt ((boxW T most b n s).filter (minimal T (boxW T most b n s)))).Nodup := (srt_perm _).nodup_iff.mpr (((all_nodup most T).sublist List.filter_sublist).sublist List.filter_sublist)
    exact ((srt_sorted _).and nd).imp fun {x y} ⟨h1, h2⟩ => by
      rcases row_tri x y with c | c | c
      · exact c
      · exact absurd c h2
      · exact absurd c (List.not_lt.mpr h1)
  · rw [(srt_perm _).mem_iff, List.mem_filter, mem, mini]
    constructor
    · rintro ⟨⟨r, ha⟩, hmin⟩
      obtain ⟨o, ho, hlo⟩ := anyA_iff.mp ha
      have ro := g.rows o ho
      have e : o = l := by
        by_cases hne : atl o l = true
        · exact atl_anti ro.1 r.1 hne hlo
        · exfalso
          -- a place where l lies higher
          have : ∃ (i : Nat) (x y : Int), o[i]? = some x ∧ l[i]? = some y ∧ x < y := by
            by_cases h : ∃ (i : Nat) (x y : Int), o[i]? = some x ∧ l[i]? = some y ∧ x < y
            · exact h
            · exact absurd (atl_iff.mpr fun i x y hx hy => by
                by_cases c : y ≤ x
                · exact c
                · exact absurd ⟨i, x, y, hx, hy, by omega⟩ h) hne
          obtain ⟨i, x, y, hx, hy, hxy⟩ := this
          have hi : i < T := by rw [← r.1]; exact lt_of_get hy
          have x0 := (ro.2 x (List.mem_of_getElem? hx)).1
          have yd : l.getD i 0 = y := by rw [List.getD_eq_getElem?_getD, hy]; rfl
          have hp : 0 < l.getD i 0 := by omega
          obtain ⟨dr, dat⟩ := decr_row r hi hp
          refine hmin i hi ⟨hp, (mem _).mpr ⟨dr, anyA_iff.mpr ⟨o, ho, atl_iff.mpr fun j u w hu hw => ?_⟩⟩⟩
          have eu := dat j u hu
          have hjT : j < T := by rw [← dr.1]; exact lt_of_get hu
          have lj : l[j]? = some (l.getD j 0) := by rw [List.getD_eq_getElem?_getD, List.getElem?_eq_getElem (by rw [r.1]; exact hjT)]; rfl
          have q := atl_iff.mp hlo j _ w lj hw
          by_cases c : j = i
          · subst c
            rw [if_pos rfl] at eu
            rw [hx] at hw
            cases hw
            omega
          · rw [if_neg c] at eu
            omega
      rw [← e]; exact ho
    · intro hl
      have rl := (g.rows l hl)
      refine ⟨⟨rl.mono hn, anyA_iff.mpr ⟨l, hl, atl_refl l⟩⟩, fun i hi ⟨hp, hd⟩ => ?_⟩
      obtain ⟨dr, ha⟩ := (mem _).mp hd
      obtain ⟨o, ho, h2⟩ := anyA_iff.mp ha
      obtain ⟨_, dat⟩ := decr_row rl hi hp
      have ro := g.rows o ho
      have gd : ∀ {j : Nat}, j < T → l[j]? = some (l.getD j 0) := fun {j} hj => by
        rw [List.getD_eq_getElem?_getD, List.getElem?_eq_getElem (by rw [rl.1]; exact hj)]; rfl
      have hlo : atl l o = true := atl_iff.mpr fun j u w hu hw => by
        have hjT : j < T := by rw [← rl.1]; exact lt_of_get hu
        have ed : (decr l i)[j]? = some ((decr l i)[j]'(by rw [dr.1]; exact hjT)) := List.getElem?_eq_getElem _
        have := atl_iff.mp h2 j _ w ed hw
        have e := dat j _ ed
        rw [gd hjT] at hu
        cases hu
        split at e
        · rename_i c; subst c; omega
        · omega
      have e := g.anti l hl o ho hlo
      subst e
      have ed : (decr l i)[i]? = some ((decr l i)[i]'(by rw [dr.1]; exact hi)) := List.getElem?_eq_getElem _
      have := atl_iff.mp h2 i _ _ ed (gd hi)
      have e := dat i _ ed
      rw [if_pos rfl] at e
      omega
end NR

set_option Elab.async false
set_option linter.all false
set_option maxRecDepth 100000
set_option maxHeartbeats 4000000
set_option autoImplicit false
/-! _law_box_asked -/
namespace NR
open PySem PySem.Spec PyProof.Rows L2
/-- the numbers of the asked box -/
structure Box (T most many : Nat) (S : Int) (b : List Sg) : Prop where
  T1 : 1 ≤ T ∧ T ≤ 1000
  S0 : 1 ≤ S
  k : BookOk T S b
  b1 : 1 ≤ b.length
  most1 : 1 ≤ most ∧ most ≤ 1000
  pow : ∀ k, k ≤ T → (most + 1) ^ k ≤ 100000
  many1 : many ≤ 1000
  hm : S * many ≤ most
  tabs : ∀ i, i < many → TabOk' b (tabN T b i)
  few : ∀ i s, i ≤ many → s < b.length → ((tabN T b i).getD s []).length ≤ 10000
theorem Box.le {T most many : Nat} {S : Int} {b : List Sg} (B : Box T most many S b) {n : Nat} (h : n ≤ many) : S * n ≤ most := Int.le_trans (Int.mul_le_mul_of_nonneg_left (by omega) (by have := B.S0; omega)) B.hm
theorem lasts_spec {T : Nat} {b : List Sg} {s : Nat} {l : List Int} : ∀ (m k : Nat), (∀ i j, i ≤ j → W T b j s l = true → W T b i s l = true) → ∀ j, j ≤ m → (0 < j → (W T b (k + j) s l = true ↔ j ≤ lastsN T b s l k m)) ∧ lastsN T b s l k m ≤ m
  | 0, k, _, j, hj => ⟨fun h => by omega, by unfold lastsN; omega⟩
  | m + 1, k, hd, j, hj => by
    unfold lastsN
    have eW : anyA l ((tabN T b (k + 1)).getD s []) = W T b (k + 1) s l := rfl
    rw [eW]
    cases hw : W T b (k + 1) s l with
    | true =>
      rw [if_pos rfl]
      refine ⟨fun h => ?_, by have := (lasts_spec m (k + 1) hd 0 (Nat.zero_le _)).2; omega⟩
      by_cases e : j = 1
      · subst e
        exact ⟨fun _ => by omega, fun _ => hw⟩
      · have := (lasts_spec m (k + 1) hd (j - 1) (by omega)).1 (by omega)
        rw [show k + 1 + (j - 1) = k + j by omega] at this
        rw [this]
        omega
    | false =>
      rw [if_neg Bool.false_ne_true]
      refine ⟨fun h => ⟨fun z => ?_, fun z => by omega⟩, by omega⟩
      have := hd (k + 1) (k + j) (by omega) z
      rw [hw] at this
      cases this
theorem lasts_max {T most many : Nat} {S : Int} {b : List Sg} {s : Nat} {l : List Int} (B : Box T most many S b) (hs : s < b.length) (hl : Row T most l) : maxI (((List.range (many + 1)).filter fun i => W T b i s l).map fun i => ((i : Nat) : Int)) = (lastsN T b s l 0 many : Nat) := by
  have hd : ∀ i j, i ≤ j → W T b j s l = true → W T b i s l = true := fun i j h => W_le (by have := B.S0; omega) B.k hs hl.1 h
  have sp := lasts_spec (T := T) (b := b) (s := s) (l := l) many 0 hd
  have w0 := W_zero (b := b) hs hl.1 fun x hx => (hl.2 x hx).1
  have le := (sp 0 (Nat.zero_le _)).2
  refine (maxI_of (List.mem_map.mpr ⟨lastsN T b s l 0 many, List.mem_filter.mpr ⟨List.mem_range.mpr (by omega), ?_⟩, rfl⟩) fun y hy => ?_).symm
  · by_cases e : lastsN T b s l 0 many = 0
    · rw [e]; exact w0
    · have := ((sp _ le).1 (by omega)).mpr (Nat.le_refl _)
      rw [Nat.zero_add] at this
      exact this
  · obtain ⟨i, hi, rfl⟩ := List.mem_map.mp hy
    obtain ⟨h1, h2⟩ := List.mem_filter.mp hi
    have h1 := List.mem_range.mp h1
    by_cases e : i = 0
    · omega
    · have := ((sp i (by omega)).1 (by omega)).mp (by rw [Nat.zero_add]; exact h2)
      omega
/-! what is due -/
def dueT (t : Tb) : D := .lst (t.map fun L => .lst (L.map tupI))
theorem box_mem {T most : Nat} {b : List Sg} {n s : Nat} {l : List Int} (hl : Row T most l) : decide (l ∈ boxW T most b n s) = W T b n s l := by
  rw [Bool.eq_iff_iff, decide_eq_true_iff]
  unfold boxW
  rw [List.mem_filter, mem_all]
  exact ⟨fun h => h.2, fun h => ⟨hl, h⟩⟩
theorem tab_list {T : Nat} {b : List Sg} {n : Nat} : (List.range b.length).map (fun s => D.lst (((tabN T b n).getD s []).map tupI)) = (tabN T b n).map fun L => D.lst (L.map tupI) := by
  refine List.ext_getElem? fun i => ?_
  by_cases hi : i < b.length
  · rw [List.getElem?_map, List.getElem?_map, List.getElem?_range hi, List.getElem?_eq_getElem (by rw [tabN_len]; exact hi)]
    show some (D.lst (((tabN T b n).getD i []).map tupI)) = some (D.lst (((tabN T b n)[i]'(by rw [tabN_len]; exact hi)).map tupI))
    rw [List.getD_eq_getElem?_getD, List.getElem?_eq_getElem (by rw [tabN_len]; exact hi)]
    rfl
  · rw [List.getElem?_eq_none (by rw [List.length_map, List.length_range]; omega), List.getElem?_eq_none (by rw [List.length_map, tabN_len]; omega)]
theorem good_rows {T most many : Nat} {S : Int} {b : List Sg} (B : Box T most many S b) {n : Nat} (hn : n ≤ many) : ∀ L ∈ tabN T b n, L.length ≤ 10000 ∧ ∀ r ∈ L, r.length ≤ 1000 := fun L hL => by
  obtain ⟨s, hs⟩ := List.mem_iff_getElem?.mp hL
  have hlt : s < b.length := by rw [← tabN_len (tanks := T) n]; exact lt_of_get hs
  have e : (tabN T b n).getD s [] = L := by rw [List.getD_eq_getElem?_getD, hs]; rfl
  have := B.few n s hn hlt
  rw [e] at this
  refine ⟨this, fun r hr => ?_⟩
  have g := (good_tab (by have := B.S0; omega) B.k n).at hlt
  rw [e] at g
  rw [(g.rows r hr).1]
  exact B.T1.2
theorem same_tab {T most many : Nat} {S : Int} {b : List Sg} (B : Box T most many S b) {n : Nat} (hn : n ≤ many) (f : Nat) : SameD (f + 4) (tabD (tabN T b n)) (dueT (tabN T b n)) :=
  same_map (by rw [tabN_len]; have := B.k.few; omega) fun L hL => same_lots f (by have := (good_rows B hn L hL).1; omega) (good_rows B hn L hL).2
theorem same_tabs {T most many : Nat} {S : Int} {b : List Sg} (B : Box T most many S b) (f : Nat) : SameD (f + 5) (tabsD T b many) (.lst ((List.range (many + 1)).map fun n => dueT (tabN T b n))) :=
  same_map (by rw [List.length_range]; have := B.many1; omega) fun n hn => same_tab B (by have := List.mem_range.mp hn; omega) f
theorem getD_D {t : Tb} {i : Nat} (h : i < t.length) : ixD (dueT t) (.int i) = some (.lst ((t.getD i []).map tupI)) := by
  refine ix_lst ?_
  rw [List.getElem?_map, List.getElem?_eq_getElem h, List.getD_eq_getElem?_getD, List.getElem?_eq_getElem h]
  rfl
theorem boxT_at {T most : Nat} {b : List Sg} {n s : Nat} (h : s < b.length) : ixD (boxT T most b n) (.int s) = some (dictD (boxW T most b n s)) := ix_lst (by rw [List.getElem?_map, List.getElem?_range h]; rfl)
theorem rng_at {f : Nat → D} {n k : Nat} (h : k ≤ n) : ixD (.lst ((List.range (n + 1)).map f)) (.int k) = some (f k) := ix_lst (by rw [List.getElem?_map, List.getElem?_range (by omega)]; rfl)
theorem nat_of {v : Int} (h : 0 ≤ v) : D.int v = .int ((v.toNat : Nat) : Int) := by rw [Int.toNat_of_nonneg h]
theorem lenB {b : List Sg} : lenD (.tup (b.map encS)) = some (.int b.length) := by
  show some (D.int ((b.map encS).length : Nat)) = _
  rw [List.length_map]
/-- a level drawn -/
theorem p_box {t : D} {T most many : Nat} {size : Nat} {b : List Sg} (ht : TapeOk t) (B : Box T most many size b) (hmost : (size : Int) * many = most) : ∃ t', r_law_box_asked t [.non, encB T b, .int size, .int many] = some (.bl true, t') ∧ TapeOk t' := by
  have hS : (0 : Int) ≤ size := by omega
  have alen : (allR most T).length ≤ 100000 := by rw [allR_len]; exact B.pow T (Nat.le_refl _)
  -- the tables, what is due
  let TT : D := .lst ((List.range (many + 1)).map fun n => boxT T most b n)
  let DD : D := .lst ((List.range (many + 1)).map fun n => dueT (tabN T b n))
  let E : D → Sl → Ev := fun t st => [.par 0 t, .val (encB T b), .val (.int size), .val (.int many), .val (.int most), .val TT, .val DD, st, .emp, .emp, .emp, .emp, .emp, .emp, .emp, .emp]
  have s4 : sSet 4 (eBin mulD (eVar 2) (eLk 3)) ((envOf 16 [.non, encB T b, .int size, .int many]).set 0 (.par 0 t)) = some (.nx [.par 0 t, .val (encB T b), .val (.int size), .val (.int many), .val (.int most), .emp, .emp, .emp, .emp, .emp, .emp, .emp, .emp, .emp, .emp, .emp]) := by
    refine sSet_of (eBin_of rfl rfl ?_)
    rw [← hmost]
    have := B.many1
    exact mul_sm (by constructor <;> omega)
  have s5 : sSet 5 (eCall 3 r_law_boxes (aCons (eVar 1) (aCons (eVar 4) (aCons (eVar 3) (aNil))))) [.par 0 t, .val (encB T b), .val (.int size), .val (.int many), .val (.int most), .emp, .emp, .emp, .emp, .emp, .emp, .emp, .emp, .emp, .emp, .emp] = some (.nx [.par 0 t, .val (encB T b), .val (.int size), .val (.int many), .val (.int most), .val TT, .emp, .emp, .emp, .emp, .emp, .emp, .emp, .emp, .emp, .emp]) :=
    sSet_of (eCall_of (ds := [encB T b, .int most, .int many]) rfl (p_boxes B.T1 B.most1.2 B.pow hS B.k B.many1 B.hm))
  have s6 : sSet 6 (eLc [12] (iSeq (eVar 5)) (gSet 12) (bYes) (eLc [13] (iSeq (eVar 12)) (gSet 13) (bYes) (eCall 1 r_law_least (aCons (eVar 13) (aNil))))) [.par 0 t, .val (encB T b), .val (.int size), .val (.int many), .val (.int most), .val TT, .emp, .emp, .emp, .emp, .emp, .emp, .emp, .emp, .emp, .emp] = some (.nx (E t .emp)) := by
    have e := lcL_enc (vs := [12]) (g := gSet 12) (m := eLc [13] (iSeq (eVar 12)) (gSet 13) (bYes) (eCall 1 r_law_least (aCons (eVar 13) (aNil)))) (env := [.par 0 t, .val (encB T b), .val (.int size), .val (.int many), .val (.int most), .val TT, .emp, .emp, .emp, .emp, .emp, .emp, .emp, .emp, .emp, .emp]) (fun n => boxT T most b n) (fun n => dueT (tabN T b n)) (as := List.range (many + 1)) fun n hn => by
      have hn := List.mem_range.mp hn
      have e1 := lcL_enc (vs := [13]) (g := gSet 13) (m := eCall 1 r_law_least (aCons (eVar 13) (aNil))) (env := [.par 0 t, .val (encB T b), .val (.int size), .val (.int many), .val (.int most), .val TT, .emp, .emp, .emp, .emp, .emp, .emp, .val (boxT T most b n), .emp, .emp, .emp]) (fun s => dictD (boxW T most b n s)) (fun s => D.lst (((tabN T b n).getD s []).map tupI)) (as := List.range b.length) fun s hs => by
        have hs := List.mem_range.mp hs
        have pl := p_least (T := T) (rows := boxW T most b n s) B.T1 (fun r hr => (mem_all.mp (List.mem_filter.mp hr).1).1) (Nat.le_trans (List.length_filter_le _ _) alen)
        rw [least_found hS B.k hs (B.le (by omega))] at pl
        exact ⟨_, rfl, _, eCall_of (ds := [dictD (boxW T most b n s)]) rfl pl, rfl⟩
      rw [tab_list] at e1
      exact ⟨_, rfl, _, eLc_of (env' := [.par 0 t, .val (encB T b), .val (.int size), .val (.int many), .val (.int most), .val TT, .emp, .emp, .emp, .emp, .emp, .emp, .val (boxT T most b n), .emp, .emp, .emp]) rfl e1 (by rw [List.length_map, tabN_len, sizeLine_eq]; have := B.k.few; omega), rfl⟩
    exact sSet_of (eLc_of (env' := [.par 0 t, .val (encB T b), .val (.int size), .val (.int many), .val (.int most), .val TT, .emp, .emp, .emp, .emp, .emp, .emp, .emp, .emp, .emp, .emp]) rfl e (by rw [List.length_map, List.length_range, sizeLine_eq]; have := B.many1; omega))
  have c1 : bNot (bTru (eCall 2 (r_law_same 9) (aCons (eCall 2 r_q_levels_tables (aCons (eVar 1) (aCons (eVar 3) (aNil)))) (aCons (eVar 6) (aNil))))) (E t .emp) = some (false, E t .emp) :=
    bNot_of (bTru_of (eCall_of (ds := [tabsD T b many, DD]) (aCons_of (eCall_of (ds := [encB T b, .int many]) rfl (p_levels_tables B.T1.2 (by have := B.k.few; omega) B.many1 B.tabs)) rfl) (p_same 9 _ _ (same_tabs B 4))) rfl)
  have dr : ∀ {t : D} {r : Ev}, TapeOk t → ∃ (v : Nat) (t' : D), eCallJ 2 0 r_law_draw (aHere 0 (aCons (eUn lenD (eBinV ixD 1 (eC (.int 1)))) (aNil))) (.par 0 t :: .val (encB T b) :: r) = some (.int v, .par 0 t' :: .val (encB T b) :: r) ∧ TapeOk t' ∧ v < b.length := fun {t r} ht => by
    obtain ⟨v, t', h1, h2, h3, h4⟩ := e_draw (t := t) (r := .val (encB T b) :: r) (M := eUn lenD (eBinV ixD 1 (eC (.int 1)))) (many := b.length) ht (by have := B.b1; omega) (by have := B.k.few; omega) (eUn_of (eBinV_of (d := encB T b) rfl rfl rfl (bk_1 T b)) lenB)
    rw [nat_of h3] at h1
    exact ⟨v.toNat, t', h1, h2, by omega⟩
  obtain ⟨st, t1, d1, k1, a1⟩ := dr (t := t) (r := [.val (.int size), .val (.int many), .val (.int most), .val TT, .val DD, .emp, .emp, .emp, .emp, .emp, .emp, .emp, .emp, .emp]) ht
  have s7 : sSet 7 (eCallJ 2 0 r_law_draw (aHere 0 (aCons (eUn lenD (eBinV ixD 1 (eC (.int 1)))) (aNil)))) (E t .emp) = some (.nx (E t1 (.val (.int st)))) := sSet_of d1
  have c2 : bNot (bTru (eCall 2 (r_law_same 9) (aCons (eCall 3 r_q_least_levels (aCons (eVar 1) (aCons (eVar 7) (aCons (eVar 3) (aNil))))) (aCons (eBin ixD (eBinV ixD 6 (eLk 3)) (eLk 7)) (aNil))))) (E t1 (.val (.int st))) = some (false, E t1 (.val (.int st))) := by
    have hlt : st < (tabN T b many).length := by rw [tabN_len]; exact a1
    have sl : SameD 9 (lotsD ((tabN T b many).getD st [])) (.lst (((tabN T b many).getD st []).map tupI)) := by
      have hm : (tabN T b many).getD st [] ∈ tabN T b many := by
        rw [List.getD_eq_getElem?_getD, List.getElem?_eq_getElem hlt]
        exact List.getElem_mem _
      have g := good_rows B (Nat.le_refl _) _ hm
      exact same_lots 6 (by omega) g.2
    exact bNot_of (bTru_of (eCall_of (ds := [_, _]) (aCons_of (eCall_of (ds := [encB T b, .int st, .int many]) rfl (p_least_levels B.T1.2 (by have := B.k.few; omega) B.many1 B.tabs a1)) (aCons_of (eBin_of (eBinV_of (d := DD) rfl rfl rfl (rng_at (Nat.le_refl _))) rfl (getD_D hlt)) aNil_of)) (p_same 9 _ _ sl)) rfl)
  -- the laps
  obtain ⟨u, l1, hu⟩ := forL_stR 3 (dead := [8, 9, 10, 11]) (g := gSet 8) (body := sSeq (sSet 7 (eCallJ 2 0 r_law_draw (aHere 0 (aCons (eUn lenD (eBinV ixD 1 (eC (.int 1)))) (aNil))))) (
      sSeq (sSet 9 (eUn tupD (eLc [14] (iRange1 (aCons (eBinV ixD 1 (eC (.int 0))) (aNil))) (gSet 14) (bYes) (eBin ixD (eLst (aCons (eC (.int 0)) (aCons (eC (.int 1)) (aCons (eCallJ 2 0 r_law_draw (aHere 0 (aCons (eBin addD (eVar 4) (eC (.int 1))) (aNil)))) (aNil))))) (eCallJ 2 0 r_law_draw (aHere 0 (aCons (eC (.int 3)) (aNil)))))))) (
      sSeq (sSet 10 (eCallJ 2 0 r_law_draw (aHere 0 (aCons (eBin addD (eVar 3) (eC (.int 1))) (aNil))))) (
      sSeq (sIf (bNot (bTru (eCall 2 (r_law_same 9) (aCons (eCall 4 r_q_keeps_for (aCons (eVar 1) (aCons (eVar 7) (aCons (eVar 9) (aCons (eVar 10) (aNil)))))) (aCons (eBin dinD (eVar 9) (eBin ixD (eBinV ixD 5 (eLk 10)) (eLk 7))) (aNil)))))) (sRet (eC (.bl false))) (sSkip)) (
      sSeq (sSet 11 (eUn maxD (eLc [15] (iRange1 (aCons (eBin addD (eVar 3) (eC (.int 1))) (aNil))) (gSet 15) (bOf (eBin dinD (eVar 9) (eBin ixD (eBinV ixD 5 (eLk 15)) (eLk 7)))) (eVar 15)))) (
      sIf (bNot (bTru (eCall 2 (r_law_same 9) (aCons (eCall 4 r_q_lasting_moves (aCons (eVar 1) (aCons (eVar 7) (aCons (eVar 9) (aCons (eVar 3) (aNil)))))) (aCons (eVar 11) (aNil)))))) (sRet (eC (.bl false))) (sSkip)))))))
    (fun s : D × Sl => E s.1 s.2) (fun _ s => TapeOk s.1) (fun i : Nat => D.int (i : Nat)) (as := List.range 3) (k := 0) (s := (t1, .val (.int st))) (by decide) k1 fun _ s _ hp i _ => by
      obtain ⟨w, t2, d2, k2, a2⟩ := dr (t := s.1) (r := [.val (.int size), .val (.int many), .val (.int most), .val TT, .val DD, s.2, .val (.int (i : Nat)), .emp, .emp, .emp, .emp, .emp, .emp, .emp]) hp
      -- the levels
      obtain ⟨l, t3, c1, c2, c3, c4⟩ := lcL_stR (vs := [14]) (g := gSet 14) (m := eBin ixD (eLst (aCons (eC (.int 0)) (aCons (eC (.int 1)) (aCons (eCallJ 2 0 r_law_draw (aHere 0 (aCons (eBin addD (eVar 4) (eC (.int 1))) (aNil)))) (aNil))))) (eCallJ 2 0 r_law_draw (aHere 0 (aCons (eC (.int 3)) (aNil)))))
        (fun t => [.par 0 t, .val (encB T b), .val (.int size), .val (.int many), .val (.int most), .val TT, .val DD, .val (.int w), .val (.int (i : Nat)), .emp, .emp, .emp, .emp, .emp, .emp, .emp]) TapeOk (fun i : Nat => D.int (i : Nat)) D.int (fun x => 0 ≤ x ∧ x ≤ most) (as := List.range T) k2 fun t ht a _ => by
          obtain ⟨v, t', h1, h2, h3, h4⟩ := e_draw (t := t) (r := [.val (encB T b), .val (.int size), .val (.int many), .val (.int most), .val TT, .val DD, .val (.int w), .val (.int (i : Nat)), .emp, .emp, .emp, .emp, .emp, .val (.int (a : Nat)), .emp]) (M := eBin addD (eVar 4) (eC (.int 1))) (many := (most : Int) + 1) ht (by omega) (by have := B.most1; omega) (eBin_of (ma := eVar 4) (mb := eC (.int 1)) rfl rfl rfl)
          obtain ⟨z, t'', g1, g2, g3, g4⟩ := e_draw (t := t') (r := [.val (encB T b), .val (.int size), .val (.int many), .val (.int most), .val TT, .val DD, .val (.int w), .val (.int (i : Nat)), .emp, .emp, .emp, .emp, .emp, .val (.int (a : Nat)), .emp]) (M := eC (.int 3)) (many := 3) h2 (by decide) (by decide) rfl
          have hz : ∃ x : Int, ixD (.lst [.int 0, .int 1, .int v]) (.int z) = some (.int x) ∧ 0 ≤ x ∧ x ≤ most := by
            have hz : z = 0 ∨ z = 1 ∨ z = 2 := by omega
            have := B.most1
            rcases hz with rfl | rfl | rfl
            · exact ⟨0, rfl, by omega, by omega⟩
            · exact ⟨1, rfl, by omega, by omega⟩
            · exact ⟨v, rfl, by omega, by omega⟩
          obtain ⟨x, hx, hx2⟩ := hz
          exact ⟨_, rfl, x, _, t'', eBin_of (eLst_of (ds := [.int 0, .int 1, .int v]) (aCons_of (m := eC (.int 0)) rfl (aCons_of (m := eC (.int 1)) rfl (aCons_of h1 aNil_of)))) g1 hx, rfl, g2, hx2⟩
      rw [← rangeL_map] at c1
      rw [List.length_range] at c3
      have hl : Row T most l := ⟨c3, c4⟩
      have s7 : sSet 7 (eCallJ 2 0 r_law_draw (aHere 0 (aCons (eUn lenD (eBinV ixD 1 (eC (.int 1)))) (aNil)))) [.par 0 s.1, .val (encB T b), .val (.int size), .val (.int many), .val (.int most), .val TT, .val DD, s.2, .val (.int (i : Nat)), .emp, .emp, .emp, .emp, .emp, .emp, .emp] = some (.nx [.par 0 t2, .val (encB T b), .val (.int size), .val (.int many), .val (.int most), .val TT, .val DD, .val (.int w), .val (.int (i : Nat)), .emp, .emp, .emp, .emp, .emp, .emp, .emp]) := sSet_of d2
      have s9 : sSet 9 (eUn tupD (eLc [14] (iRange1 (aCons (eBinV ixD 1 (eC (.int 0))) (aNil))) (gSet 14) (bYes) (eBin ixD (eLst (aCons (eC (.int 0)) (aCons (eC (.int 1)) (aCons (eCallJ 2 0 r_law_draw (aHere 0 (aCons (eBin addD (eVar 4) (eC (.int 1))) (aNil)))) (aNil))))) (eCallJ 2 0 r_law_draw (aHere 0 (aCons (eC (.int 3)) (aNil))))))) [.par 0 t2, .val (encB T b), .val (.int size), .val (.int many), .val (.int most), .val TT, .val DD, .val (.int w), .val (.int (i : Nat)), .emp, .emp, .emp, .emp, .emp, .emp, .emp]
          = some (.nx [.par 0 t3, .val (encB T b), .val (.int size), .val (.int many), .val (.int most), .val TT, .val DD, .val (.int w), .val (.int (i : Nat)), .val (tupI l), .emp, .emp, .emp, .emp, .emp, .emp]) :=
        sSet_of (eUn_of (eLc_of (env1 := [.par 0 t2, .val (encB T b), .val (.int size), .val (.int many), .val (.int most), .val TT, .val DD, .val (.int w), .val (.int (i : Nat)), .emp, .emp, .emp, .emp, .emp, .emp, .emp]) (env' := [.par 0 t3, .val (encB T b), .val (.int size), .val (.int many), .val (.int most), .val TT, .val DD, .val (.int w), .val (.int (i : Nat)), .emp, .emp, .emp, .emp, .emp, .emp, .emp]) (iRange1_of (j := (T : Nat)) (aCons_of (eBinV_of (d := encB T b) rfl rfl rfl (bk_0 T b)) aNil_of) (rng_nat (by have := B.T1; omega))) c1 (by rw [List.length_map, c3, sizeLine_eq]; have := B.T1; omega)) rfl)
      obtain ⟨v, t4, d4, k4, a4, b4⟩ := e_draw (t := t3) (r := [.val (encB T b), .val (.int size), .val (.int many), .val (.int most), .val TT, .val DD, .val (.int w), .val (.int (i : Nat)), .val (tupI l), .emp, .emp, .emp, .emp, .emp, .emp]) (M := eBin addD (eVar 3) (eC (.int 1))) (many := (many : Int) + 1) c2 (by omega) (by have := B.many1; omega) (eBin_of (ma := eVar 3) (mb := eC (.int 1)) rfl rfl rfl)
      rw [nat_of a4] at d4
      have hv : v.toNat ≤ many := by omega
      generalize v.toNat = tn at d4 hv
      let G : Sl → Ev := fun q => [.par 0 t4, .val (encB T b), .val (.int size), .val (.int many), .val (.int most), .val TT, .val DD, .val (.int w), .val (.int (i : Nat)), .val (tupI l), .val (.int tn), q, .emp, .emp, .emp, .emp]
      have s10 : sSet 10 (eCallJ 2 0 r_law_draw (aHere 0 (aCons (eBin addD (eVar 3) (eC (.int 1))) (aNil)))) [.par 0 t3, .val (encB T b), .val (.int size), .val (.int many), .val (.int most), .val TT, .val DD, .val (.int w), .val (.int (i : Nat)), .val (tupI l), .emp, .emp, .emp, .emp, .emp, .emp] = some (.nx (G .emp)) := sSet_of d4
      have hT1 := B.T1
      have ba : b.length ≤ 1000 := by have := B.k.few; omega
      have kf := p_keeps_for (tanks := T) (b := b) (n := tn) (s := w) (l := l) hT1.2 ba (by have := B.many1; omega) (fun j hj => B.tabs j (by omega)) a2 (by omega) (B.few tn w hv a2)
      have dn : ∀ n, n ≤ many → dinD (tupI l) (dictD (boxW T most b n w)) = some (.bl (W T b n w l)) := fun n _ => by rw [din_row, box_mem hl]
      have c5 : bNot (bTru (eCall 2 (r_law_same 9) (aCons (eCall 4 r_q_keeps_for (aCons (eVar 1) (aCons (eVar 7) (aCons (eVar 9) (aCons (eVar 10) (aNil)))))) (aCons (eBin dinD (eVar 9) (eBin ixD (eBinV ixD 5 (eLk 10)) (eLk 7))) (aNil))))) (G .emp) = some (false, G .emp) :=
        bNot_of (bTru_of (eCall_of (ds := [_, _]) (aCons_of (eCall_of (ds := [encB T b, .int w, tupI l, .int tn]) rfl kf) (aCons_of (eBin_of (d := tupI l) rfl (eBin_of (eBinV_of (d := TT) rfl rfl rfl (rng_at hv)) rfl (boxT_at a2)) (dn tn hv)) aNil_of)) (p_same 9 _ _ (same_bl 8 _))) rfl)
      have el := lcL_encF (vs := [15]) (g := gSet 15) (t := bOf (eBin dinD (eVar 9) (eBin ixD (eBinV ixD 5 (eLk 15)) (eLk 7)))) (m := eVar 15) (env := G .emp) (fun i : Nat => D.int (i : Nat)) (fun i : Nat => D.int (i : Nat)) (fun n => W T b n w l) (as := List.range (many + 1)) fun n hn => by
        have hn := List.mem_range.mp hn
        exact ⟨_, _, rfl, bOf_of (eBin_of (d := tupI l) rfl (eBin_of (eBinV_of (d := TT) rfl rfl rfl (rng_at (show n ≤ many by omega))) rfl (boxT_at a2)) (dn n (by omega))), fun _ => rfl, fun _ => ⟨_, rfl, rfl⟩⟩
      rw [← rangeL_map] at el
      have em : (((List.range (many + 1)).filter fun n => W T b n w l).map fun i : Nat => D.int (i : Nat)) = ((((List.range (many + 1)).filter fun n => W T b n w l).map fun i : Nat => ((i : Nat) : Int))).map D.int := by rw [List.map_map]; rfl
      rw [em] at el
      have hmx : maxD (.lst (((((List.range (many + 1)).filter fun n => W T b n w l).map fun i : Nat => ((i : Nat) : Int))).map D.int)) = some (.int (lastsN T b w l 0 many : Nat)) := by
        rw [← lasts_max B a2 hl]
        have e : intsD (.lst (((((List.range (many + 1)).filter fun n => W T b n w l).map fun i : Nat => ((i : Nat) : Int))).map D.int)) = some ((((List.range (many + 1)).filter fun n => W T b n w l).map fun i : Nat => ((i : Nat) : Int))) := mapM_toI _
        unfold maxD
        rw [e]
        refine if_neg fun z => ?_
        have z := List.isEmpty_iff.mp z
        have w0 := W_zero (b := b) a2 hl.1 fun x hx => (hl.2 x hx).1
        have : (((0 : Nat)) : Int) ∈ (((List.range (many + 1)).filter fun n => W T b n w l).map fun i : Nat => ((i : Nat) : Int)) := List.mem_map.mpr ⟨0, List.mem_filter.mpr ⟨List.mem_range.mpr (by omega), w0⟩, rfl⟩
        rw [z] at this
        cases this
      have s11 : sSet 11 (eUn maxD (eLc [15] (iRange1 (aCons (eBin addD (eVar 3) (eC (.int 1))) (aNil))) (gSet 15) (bOf (eBin dinD (eVar 9) (eBin ixD (eBinV ixD 5 (eLk 15)) (eLk 7)))) (eVar 15))) (G .emp) = some (.nx (G (.val (.int (lastsN T b w l 0 many : Nat))))) :=
        sSet_of (eUn_of (eLc_of (env' := G .emp) (iRange1_of (j := ((many + 1 : Nat) : Int)) (aCons_of (eBin_of (ma := eVar 3) (mb := eC (.int 1)) rfl rfl rfl) aNil_of) (rng_nat (by have := B.many1; omega))) el (by
          rw [List.length_map, List.length_map, sizeLine_eq]
          have := List.length_filter_le (fun n => W T b n w l) (List.range (many + 1))
          rw [List.length_range] at this
          have := B.many1
          omega)) hmx)
      have lf := p_lasting (tanks := T) (b := b) (n := many) (s := w) (l := l) hT1.2 ba B.many1 B.tabs a2 (by omega) (fun j hj => B.few j w hj a2)
      have c6 : bNot (bTru (eCall 2 (r_law_same 9) (aCons (eCall 4 r_q_lasting_moves (aCons (eVar 1) (aCons (eVar 7) (aCons (eVar 9) (aCons (eVar 3) (aNil)))))) (aCons (eVar 11) (aNil))))) (G (.val (.int (lastsN T b w l 0 many : Nat)))) = some (false, G (.val (.int (lastsN T b w l 0 many : Nat)))) :=
        bNot_of (bTru_of (eCall_of (ds := [_, _]) (aCons_of (eCall_of (ds := [encB T b, .int w, tupI l, .int many]) rfl lf) (aCons_of (m := eVar 11) rfl aNil_of)) (p_same 9 _ _ (same_int 8 _))) rfl)
      exact ⟨_, rfl, _, (t4, .val (.int w)), sSeq_of s7 (sSeq_of s9 (sSeq_of s10 (sSeq_of (sIf_of c5 rfl) (sSeq_of s11 (sIf_of c6 rfl))))), rfl, k4⟩
  rw [← rangeL_map] at l1
  exact ⟨u.1, runJ_of (sSeq_of s4 (sSeq_of s5 (sSeq_of s6 (sSeq_of (sIf_of c1 rfl) (sSeq_of s7 (sSeq_of (sIf_of c2 rfl) (sSeq_of (sFor_of (iRange1_of (j := ((3 : Nat) : Int)) rfl (rng_nat (by decide))) l1) (sRet_of rfl)))))))), hu⟩
end NR

set_option Elab.async false
set_option linter.all false
set_option maxRecDepth 100000
set_option maxHeartbeats 4000000
set_option autoImplicit false
/-! _law_drain_asked -/
namespace NR
open PySem PySem.Spec PyProof.Rows L2
theorem nb {n m : Nat} (h : Nat.ble n m = true := by rfl) : n ≤ m := Nat.le_of_ble_eq_true h
def drB (ow : Bool) (loss : Int) : List Sg := [⟨ow, [⟨PySem.Str.ofString "go", [3, 0 - loss], 0⟩]⟩]
theorem leastL_one (r : List Int) : leastL [r] = [r] := rfl
theorem dr_befs {ow : Bool} {loss L : Int} (hl : 0 ≤ loss) (hL : 0 ≤ L) : befs [[[0, L]]] ⟨PySem.Str.ofString "go", [3, 0 - loss], 0⟩ = [[0, L + loss]] := by
  show [[max ((0 : Int) - 3) 0, max (L - (0 - loss)) 0]] = _
  rw [show max ((0 : Int) - 3) 0 = 0 by omega, show max (L - (0 - loss)) 0 = L + loss by omega]
theorem dr_tab {ow : Bool} {loss : Int} (hl : 0 ≤ loss) : ∀ n : Nat, tabN 2 (drB ow loss) n = [[[0, loss * n]]]
  | 0 => by rw [show loss * ((0 : Nat) : Int) = 0 by simp]; rfl
  | n + 1 => by
    show beforeT 2 (drB ow loss) (tabN 2 (drB ow loss) n) = _
    rw [dr_tab hl n]
    show [leastL (befs [[[0, loss * (n : Nat)]]] ⟨PySem.Str.ofString "go", [3, 0 - loss], 0⟩)] = _
    rw [dr_befs (ow := ow) hl (Int.mul_nonneg hl (by omega)), leastL_one, show loss * ((n + 1 : Nat) : Int) = loss * (n : Nat) + loss by rw [Int.natCast_succ, Int.mul_add, Int.mul_one]]
theorem dr_ok {ow : Bool} {loss : Int} (hl : 0 ≤ loss) (n : Nat) : TabOk' (drB ow loss) (tabN 2 (drB ow loss) n) := by
  rw [dr_tab hl n]
  have hL : 0 ≤ loss * (n : Nat) := Int.mul_nonneg hl (by omega)
  intro s hs
  rw [List.mem_singleton.mp hs]
  refine ⟨nb, fun m hm => ?_, True.intro⟩
  rw [List.mem_singleton.mp hm]
  refine ⟨nb, ?_, fun r hr => ?_, nb⟩
  · rw [dr_befs (ow := ow) hl hL]
    refine ⟨fun r hr => ?_, .inl nb⟩
    rw [List.mem_singleton.mp hr]
    refine ⟨rfl, nb, fun x hx => ?_⟩
    rcases List.mem_cons.mp hx with e | hx
    · omega
    · rw [List.mem_singleton.mp hx]; omega
  · rw [List.mem_singleton.mp hr]; exact nb
theorem dr_any {ow : Bool} {loss a c : Int} (hl : 0 ≤ loss) (ha : 0 ≤ a) (n : Nat) : anyA [a, c] ((tabN 2 (drB ow loss) n).getD 0 []) = decide (loss * n ≤ c) := by
  rw [dr_tab hl n]
  show ((decide ((0 : Int) ≤ a) && (decide (loss * (n : Nat) ≤ c) && true)) || false) = _
  rw [decide_eq_true ha]
  simp
theorem dr_lasts {ow : Bool} {loss a c : Int} {many : Nat} (hl : 1 ≤ loss) (ha : 0 ≤ a) (h1 : loss * many ≤ c) (h2 : c < loss * many + loss) : ∀ (m k : Nat), k ≤ many → lastsN 2 (drB ow loss) 0 [a, c] k m = min m (many - k)
  | 0, k, _ => by simp [lastsN]
  | m + 1, k, hk => by
    unfold lastsN
    rw [dr_any (by omega) ha]
    by_cases h : k < many
    · have : loss * ((k + 1 : Nat) : Int) ≤ loss * many := Int.mul_le_mul_of_nonneg_left (by omega) (by omega)
      rw [decide_eq_true (by omega), if_pos rfl, dr_lasts hl ha h1 h2 m (k + 1) (by omega)]
      omega
    · have e : k = many := by omega
      subst e
      rw [decide_eq_false (by rw [Int.natCast_succ, Int.mul_add, Int.mul_one]; omega), if_neg Bool.false_ne_true]
      omega
theorem eAnd_tt {ma mb : EM} {env e e2 : Ev} (h : ma env = some (.bl true, e)) (h2 : mb e = some (.bl true, e2)) : eAnd ma mb env = some (.bl true, e2) := by
  unfold eAnd
  rw [bOf_of h]
  show (if true = true then mb e else some (.bl false, e)) = _
  exact (if_pos rfl).trans h2
theorem p_drain {t : D} (ht : TapeOk t) : ∃ t', r_law_drain_asked t [.non] = some (.bl true, t') ∧ TapeOk t' := by
  obtain ⟨v, t1, d1, k1, a1, b1⟩ := e_draw (t := t) (r := [.emp, .emp, .emp, .emp, .emp]) (M := eC (.int 9)) (many := 9) ht (by decide) (by decide) rfl
  have s1 : sSet 1 (eBin addD (eC (.int 1)) (eCallJ 2 0 r_law_draw (aHere 0 (aCons (eC (.int 9)) (aNil))))) ((envOf 6 [.non]).set 0 (.par 0 t)) = some (.nx [.par 0 t1, .val (.int (1 + v)), .emp, .emp, .emp, .emp]) := sSet_of (eBin_of rfl d1 rfl)
  obtain ⟨loss, hloss⟩ : ∃ loss : Int, loss = 1 + v := ⟨_, rfl⟩
  rw [← hloss] at s1
  have l1 : 1 ≤ loss := by omega
  have l9 : loss ≤ 9 := by omega
  obtain ⟨o, t2, d2, k2, a2, b2⟩ := e_draw (t := t1) (r := [.val (.int loss), .emp, .emp, .emp, .emp]) (M := eC (.int 2)) (many := 2) k1 (by decide) (by decide) rfl
  have s2 : sSet 2 (eBin ixD (eLst (aCons (eC (.str (PySem.Str.ofString "house"))) (aCons (eC (.str (PySem.Str.ofString "outside"))) (aNil)))) (eCallJ 2 0 r_law_draw (aHere 0 (aCons (eC (.int 2)) (aNil))))) [.par 0 t1, .val (.int loss), .emp, .emp, .emp, .emp] = some (.nx [.par 0 t2, .val (.int loss), .val (ownS (decide (o = 0))), .emp, .emp, .emp]) := sSet_of (eBin_of rfl d2 (own_ok a2 b2))
  generalize decide (o = 0) = ow at s2
  have s3 : sSet 3 (eTup (aCons (eC (.int 2)) (aCons (eTup (aCons (eTup (aCons (eVar 2) (aCons (eTup (aCons (eTup (aCons (eC (.str (PySem.Str.ofString "go"))) (aCons (eTup (aCons (eC (.int 3)) (aCons (eBin subD (eC (.int 0)) (eLk 1)) (aNil)))) (aCons (eC (.int 0)) (aNil))))) (aNil))) (aNil)))) (aNil))) (aNil)))) [.par 0 t2, .val (.int loss), .val (ownS ow), .emp, .emp, .emp] = some (.nx [.par 0 t2, .val (.int loss), .val (ownS ow), .val (encB 2 (drB ow loss)), .emp, .emp]) := rfl
  obtain ⟨m, t3, d3, k3, a3, b3⟩ := e_draw (t := t2) (r := [.val (.int loss), .val (ownS ow), .val (encB 2 (drB ow loss)), .emp, .emp]) (M := eC (.int 9)) (many := 9) k2 (by decide) (by decide) rfl
  obtain ⟨many, hmany⟩ : ∃ many : Nat, (many : Int) = 1 + m := ⟨(1 + m).toNat, by omega⟩
  have s4 : sSet 4 (eBin addD (eC (.int 1)) (eCallJ 2 0 r_law_draw (aHere 0 (aCons (eC (.int 9)) (aNil))))) [.par 0 t2, .val (.int loss), .val (ownS ow), .val (encB 2 (drB ow loss)), .emp, .emp] = some (.nx [.par 0 t3, .val (.int loss), .val (ownS ow), .val (encB 2 (drB ow loss)), .val (.int many), .emp]) := by
    rw [hmany]
    exact sSet_of (eBin_of rfl d3 rfl)
  have m1 : 1 ≤ many := by omega
  have m9 : many ≤ 9 := by omega
  have hl0 : (0 : Int) ≤ loss := by omega
  have oks : ∀ n i : Nat, i < n → TabOk' (drB ow loss) (tabN 2 (drB ow loss) i) := fun n i _ => dr_ok hl0 i
  have hmul : mulD (.int loss) (.int many) = some (.int (loss * many)) := mul_sm (by constructor <;> omega)
  have c1 : bNot (bTru (eCall 2 (r_law_same 9) (aCons (eCall 3 r_q_least_levels (aCons (eVar 3) (aCons (eC (.int 0)) (aCons (eVar 4) (aNil))))) (aCons (eLst (aCons (eTup (aCons (eC (.int 0)) (aCons (eBin mulD (eVar 1) (eLk 4)) (aNil)))) (aNil))) (aNil))))) [.par 0 t3, .val (.int loss), .val (ownS ow), .val (encB 2 (drB ow loss)), .val (.int many), .emp] = some (false, [.par 0 t3, .val (.int loss), .val (ownS ow), .val (encB 2 (drB ow loss)), .val (.int many), .emp]) := by
    have pl := p_least_levels (tanks := 2) (b := drB ow loss) (n := many) (s := 0) (by decide) (by show 1 ≤ 1000; decide) (by omega) (oks many) (by show 0 < 1; decide)
    rw [dr_tab hl0 many] at pl
    have sl : SameD 9 (lotsD [[0, loss * many]]) (.lst ([[0, loss * many]].map tupI)) := same_lots 6 nb (fun r hr => by rw [List.mem_singleton.mp hr]; exact nb)
    exact bNot_of (bTru_of (eCall_of (ds := [_, _]) (aCons_of (eCall_of (ds := [encB 2 (drB ow loss), .int (0 : Nat), .int many]) rfl pl) (aCons_of (eLst_of (ds := [tupI [0, loss * many]]) (aCons_of (eTup_of (ds := [.int 0, .int (loss * many)]) (aCons_of (m := eC (.int 0)) rfl (aCons_of (eBin_of rfl rfl hmul) aNil_of))) aNil_of)) aNil_of)) (p_same 9 _ _ sl)) rfl)
  obtain ⟨w, t4, d4, k4, a4, b4⟩ := e_draw (t := t3) (r := [.val (.int loss), .val (ownS ow), .val (encB 2 (drB ow loss)), .val (.int many), .emp]) (M := eVar 1) (many := loss) k3 l1 (by omega) rfl
  let G : Ev := [.par 0 t4, .val (.int loss), .val (ownS ow), .val (encB 2 (drB ow loss)), .val (.int many), .val (.int (loss * many + w))]
  have s5 : sSet 5 (eBin addD (eBin mulD (eVar 1) (eLk 4)) (eCallJ 2 0 r_law_draw (aHere 0 (aCons (eVar 1) (aNil))))) [.par 0 t3, .val (.int loss), .val (ownS ow), .val (encB 2 (drB ow loss)), .val (.int many), .emp] = some (.nx G) := sSet_of (eBin_of (eBin_of rfl rfl hmul) d4 rfl)
  have len1 : ∀ n : Nat, ((tabN 2 (drB ow loss) n).getD 0 []).length ≤ 10000 := fun n => by rw [dr_tab hl0 n]; exact nb
  have kf : ∀ (a : Int) (n : Nat), 0 ≤ a → n ≤ 1000 → r_q_keeps_for [encB 2 (drB ow loss), .int (0 : Nat), tupI [a, loss * many + w], .int n] = some (.bl (decide (loss * n ≤ loss * many + w))) := fun a n ha hn => by
    rw [p_keeps_for (tanks := 2) (b := drB ow loss) (n := n) (s := 0) (l := [a, loss * many + w]) (by decide) (by show 1 ≤ 1000; decide) hn (oks n) (by show 0 < 1; decide) nb (len1 n), dr_any hl0 ha]
  have c2 : bOr (bOf (eBin isntD (eCall 4 r_q_keeps_for (aCons (eVar 3) (aCons (eC (.int 0)) (aCons (eTup (aCons (eC (.int 0)) (aCons (eVar 5) (aNil)))) (aCons (eVar 4) (aNil)))))) (eC (.bl true)))) (bOf (eBin isntD (eCall 4 r_q_keeps_for (aCons (eVar 3) (aCons (eC (.int 0)) (aCons (eTup (aCons (eC (.int 5)) (aCons (eVar 5) (aNil)))) (aCons (eBin addD (eVar 4) (eC (.int 1))) (aNil)))))) (eC (.bl false)))) G = some (false, G) := by
    have q1 := kf 0 many (by decide) (by omega)
    rw [decide_eq_true (by omega)] at q1
    have q2 := kf 5 (many + 1) (by decide) (by omega)
    rw [decide_eq_false (by rw [Int.natCast_succ, Int.mul_add, Int.mul_one]; omega)] at q2
    refine bOr_of (bOf_of (eBin_of (eCall_of (ds := [encB 2 (drB ow loss), .int (0 : Nat), tupI [0, loss * many + w], .int many]) rfl q1) rfl rfl)) ((if_neg Bool.false_ne_true).trans (bOf_of (eBin_of (eCall_of (ds := [encB 2 (drB ow loss), .int (0 : Nat), tupI [5, loss * many + w], .int ((many + 1 : Nat) : Int)]) rfl q2) rfl rfl)))
  have lf : ∀ (a : Int) (n : Nat), 0 ≤ a → n ≤ 1000 → r_q_lasting_moves [encB 2 (drB ow loss), .int (0 : Nat), tupI [a, loss * many + w], .int n] = some (.int ((min n many : Nat) : Int)) := fun a n ha hn => by
    rw [p_lasting (tanks := 2) (b := drB ow loss) (n := n) (s := 0) (l := [a, loss * many + w]) (by decide) (by show 1 ≤ 1000; decide) hn (oks n) (by show 0 < 1; decide) nb (fun i _ => len1 i), dr_lasts (many := many) l1 ha (by omega) (by omega) n 0 (Nat.zero_le _), Nat.sub_zero]
  have fin : eAnd (eCall 2 (r_law_same 9) (aCons (eCall 4 r_q_lasting_moves (aCons (eVar 3) (aCons (eC (.int 0)) (aCons (eTup (aCons (eC (.int 0)) (aCons (eVar 5) (aNil)))) (aCons (eC (.int 30)) (aNil)))))) (aCons (eVar 4) (aNil)))) (eCall 2 (r_law_same 9) (aCons (eCall 4 r_q_lasting_moves (aCons (eVar 3) (aCons (eC (.int 0)) (aCons (eTup (aCons (eC (.int 9)) (aCons (eVar 5) (aNil)))) (aCons (eBin subD (eVar 4) (eC (.int 1))) (aNil)))))) (aCons (eBin subD (eVar 4) (eC (.int 1))) (aNil)))) G = some (.bl true, G) := by
    have q1 := lf 0 30 (by decide) (by decide)
    rw [Nat.min_eq_right (by omega)] at q1
    have q2 := lf 9 (many - 1) (by decide) (by omega)
    rw [Nat.min_eq_left (by omega), show (((many - 1 : Nat)) : Int) = (many : Int) - 1 by omega] at q2
    refine eAnd_tt (eCall_of (ds := [_, _]) (aCons_of (eCall_of (ds := [encB 2 (drB ow loss), .int (0 : Nat), tupI [0, loss * many + w], .int (30 : Nat)]) rfl q1) (aCons_of (m := eVar 4) rfl aNil_of)) (p_same 9 _ _ (same_int 8 _))) (eCall_of (ds := [_, _]) (aCons_of (eCall_of (ds := [encB 2 (drB ow loss), .int (0 : Nat), tupI [9, loss * many + w], .int ((many : Int) - 1)]) rfl q2) (aCons_of (m := eBin subD (eVar 4) (eC (.int 1))) rfl aNil_of)) (p_same 9 _ _ (same_int 8 _)))
  exact ⟨t4, runJ_of (sSeq_of s1 (sSeq_of s2 (sSeq_of s3 (sSeq_of s4 (sSeq_of (sIf_of c1 rfl) (sSeq_of s5 (sSeq_of (sIf_of c2 rfl) (sRet_of fin)))))))), k4⟩
end NR

set_option Elab.async false
set_option linter.all false
set_option maxRecDepth 100000
set_option maxHeartbeats 4000000
set_option autoImplicit false
/-! _law_wide_asked -/
namespace NR
open PySem PySem.Spec PyProof.Rows L2
def nd (need : List Int) (m : Mv) : Int := max 0 (need.getD m.to_ 0 - m.po.getD 0 0)
def needS (need : List Int) (s : Sg) : Int := match s.mv with
  | [] => 0
  | m :: ms => if s.ow then minI ((m :: ms).map (nd need)) else maxI ((m :: ms).map (nd need))
def needN (b : List Sg) : Nat → List Int
  | 0 => b.map fun _ => 0
  | n + 1 => b.map (needS (needN b n))
def ones (xs : List Int) : Tb := xs.map fun x => [[x]]
theorem join_one (x y : Int) : joinL [[x]] [[y]] = [[min x y]] := by
  unfold joinL leastL
  have e : sdd ([[x]] ++ [[y]]) = if x < y then [[x], [y]] else if y < x then [[y], [x]] else [[y]] := by
    show (if ([x] : List Int) < [y] then [[x], [y]] else if ([y] : List Int) < [x] then [y] :: insR [x] [] else [[y]]) = _
    have a : ∀ u w : Int, ([u] : List Int) < [w] ↔ u < w := fun u w => by
      rw [List.cons_lt_cons_iff]
      exact ⟨fun h => h.elim id fun h => absurd h.2 (List.lt_irrefl _), .inl⟩
    simp only [a]
    rfl
  rw [e]
  have k : ∀ u w : Int, u ≤ w → keepL [[u]] [w] = [[u]] := fun u w h => by
    unfold keepL
    refine if_pos ?_
    show ((decide (u ≤ w) && true) || false) = true
    rw [decide_eq_true h]
    rfl
  split
  · show keepL [[x]] [y] = _
    rw [k x y (by omega), show min x y = x by omega]
  · split
    · show keepL [[y]] [x] = _
      rw [k y x (by omega), show min x y = y by omega]
    · show [[y]] = _
      rw [show min x y = y by omega]
theorem met_one (x y : Int) : metL [[x]] [[y]] = [[max x y]] := rfl
theorem fold_one (h : Bool) : ∀ (ys : List Int) (x : Int), (ys.map fun y => [[y]]).foldl (stepL h) [[x]] = [[if h then ys.foldl min x else ys.foldl max x]]
  | [], x => by cases h <;> rfl
  | y :: ys, x => by
    rw [List.map_cons, List.foldl_cons]
    cases h with
    | true =>
      show (ys.map fun y => [[y]]).foldl (stepL true) (joinL [[x]] [[y]]) = _
      rw [join_one, fold_one true ys (min x y)]
      rfl
    | false =>
      show (ys.map fun y => [[y]]).foldl (stepL false) (metL [[x]] [[y]]) = _
      rw [met_one, fold_one false ys (max x y)]
      rfl
theorem befs_one {need : List Int} {m : Mv} (h1 : m.to_ < need.length) (h2 : m.po.length = 1) : befs (ones need) m = [[nd need m]] := by
  unfold befs ones
  rw [getD_map (List.getElem?_eq_getElem h1)]
  unfold nd
  rw [List.getD_eq_getElem?_getD, List.getElem?_eq_getElem h1]
  match m.po, h2 with
  | [p], _ =>
    show [[max (need[m.to_] - p) 0]] = [[max 0 (need[m.to_] - p)]]
    rw [Int.max_comm]
theorem stand_one {need : List Int} {s : Sg} (hm : ∀ m ∈ s.mv, m.to_ < need.length ∧ m.po.length = 1) : standL 1 (ones need) s = [[needS need s]] := by
  unfold standL needS
  cases h : s.mv with
  | nil => rfl
  | cons m ms =>
    rw [h] at hm
    show (ms.map fun m => leastL (befs (ones need) m)).foldl (stepL s.ow) (leastL (befs (ones need) m)) = _
    have e : (ms.map fun m => leastL (befs (ones need) m)) = (ms.map (nd need)).map fun y => [[y]] := by
      rw [List.map_map]
      refine List.map_congr_left fun q hq => ?_
      have := hm q (List.mem_cons_of_mem _ hq)
      rw [befs_one this.1 this.2]
      rfl
    have m0 := hm m List.mem_cons_self
    rw [e, befs_one m0.1 m0.2, leastL_one, fold_one]
    rfl
theorem needN_len (b : List Sg) : ∀ n, (needN b n).length = b.length
  | 0 => by show (b.map _).length = _; rw [List.length_map]
  | n + 1 => by show (b.map _).length = _; rw [List.length_map]
theorem tab_one {S : Int} {b : List Sg} (k : BookOk 1 S b) : ∀ n, tabN 1 b n = ones (needN b n)
  | 0 => by
    show (b.map fun _ => [zer 1]) = (b.map fun _ => (0 : Int)).map fun x => [[x]]
    rw [List.map_map]
    rfl
  | n + 1 => by
    show b.map (fun s => standL 1 (tabN 1 b n) s) = (b.map (needS (needN b n))).map fun x => [[x]]
    rw [tab_one k n, List.map_map]
    refine List.map_congr_left fun s hs => ?_
    rw [stand_one fun m hm => ⟨by rw [needN_len]; exact (k.mv s hs m hm).1, (k.mv s hs m hm).2.1⟩]
    rfl
theorem p_wide {t : D} (ht : TapeOk t) : ∃ t', r_law_wide_asked t [.non] = some (.bl true, t') ∧ TapeOk t' := by
  obtain ⟨b, t1, d1, k1, hb, k⟩ := p_book (t := t) (T := 1) (many := 12) (size := 80000) ht (by decide) (by decide) (by decide)
  have bb : b.length = 12 := hb
  have s1 : sSet 1 (eCallJ 4 0 r_law_book (aHere 0 (aCons (eC (.int 1)) (aCons (eC (.int 12)) (aCons (eC (.int 80000)) (aNil)))))) ((envOf 14 [.non]).set 0 (.par 0 t)) = some (.nx [.par 0 t1, .val (encB 1 b), .emp, .emp, .emp, .emp, .emp, .emp, .emp, .emp, .emp, .emp, .emp, .emp]) := sSet_of (e_callJ (M := aCons (eC (.int 1)) (aCons (eC (.int 12)) (aCons (eC (.int 80000)) (aNil)))) (r := [.emp, .emp, .emp, .emp, .emp, .emp, .emp, .emp, .emp, .emp, .emp, .emp, .emp]) rfl d1)
  have oks : ∀ i, i < 12 → TabOk' b (tabN 1 b i) := fun i _ s hs => stand_ok (S := 80000) (room_one _ _) (by decide) (good_tab (by decide) k i) (Int.mul_nonneg (by decide) (by omega)) (by decide) (by have := k.mvs s hs; omega) (k.mv s hs)
  have pl := p_levels_tables (tanks := 1) (b := b) (n := 12) (by decide) (by omega) (by decide) oks
  have e0 : needN b 0 = List.replicate 12 0 := by show (b.map fun _ => (0 : Int)) = _; rw [List.map_const', bb]
  have d0 : dueT (tabN 1 b 0) = .lst (List.replicate 12 (.lst [tupI [0]])) := by
    rw [tab_one k 0, e0]
    rfl
  have dn : ∀ n, dueT (tabN 1 b n) = .lst ((needN b n).map fun x => .lst [tupI [x]]) := fun n => by
    rw [tab_one k n]
    unfold dueT ones
    rw [List.map_map]
    rfl
  let E : Nat → Ev := fun n => [.par 0 t1, .val (encB 1 b), .val (.int 12), .val (.lst ((needN b n).map .int)), .own (.lst ((List.range (n + 1)).map fun i => dueT (tabN 1 b i))), .emp, .emp, .emp, .emp, .emp, .emp, .emp, .emp, .emp]
  have s3 : sSet 3 (eBin repL (eLst (aCons (eC (.int 0)) (aNil))) (eC (.int 12))) [.par 0 t1, .val (encB 1 b), .val (.int 12), .emp, .emp, .emp, .emp, .emp, .emp, .emp, .emp, .emp, .emp, .emp] = some (.nx [.par 0 t1, .val (encB 1 b), .val (.int 12), .val (.lst ((needN b 0).map .int)), .emp, .emp, .emp, .emp, .emp, .emp, .emp, .emp, .emp, .emp]) := by
    rw [e0]
    rfl
  have s4 : sOwn 4 (eLst (aCons (eBin repL (eLst (aCons (eLst (aCons (eTup (aCons (eC (.int 0)) (aNil))) (aNil))) (aNil))) (eC (.int 12))) (aNil))) [.par 0 t1, .val (encB 1 b), .val (.int 12), .val (.lst ((needN b 0).map .int)), .emp, .emp, .emp, .emp, .emp, .emp, .emp, .emp, .emp, .emp] = some (.nx (E 0)) := by
    show _ = some (Rs.nx [.par 0 t1, .val (encB 1 b), .val (.int 12), .val (.lst ((needN b 0).map .int)), .own (.lst [dueT (tabN 1 b 0)]), .emp, .emp, .emp, .emp, .emp, .emp, .emp, .emp, .emp])
    rw [d0]
    rfl
  obtain ⟨u, l1, hu⟩ := forL_stR 12 (dead := [5, 6, 7, 8, 9]) (g := gSet 5) (body := sSeq (sOwn 6 (eLst (aNil))) (
      sSeq (sFor [7, 8, 9] (iSeq (eBinV ixD 1 (eC (.int 1)))) (gTups 2 (gMore (gSet 7) (gMore (gSet 8) (gNone)))) (
      sSeq (sSet 9 (eLc [11, 12, 13] (iSeq (eVar 8)) (gTups 3 (gMore (gSet 11) (gMore (gSet 12) (gMore (gSet 13) (gNone))))) (bYes) (eBin max2D (eC (.int 0)) (eBin subD (eBinV ixD 3 (eLk 13)) (eBinV ixD 12 (eC (.int 0))))))) (
      sIf (bOf (eBin eqD (eUn lenD (eLk 9)) (eC (.int 0)))) (sAppend 6 (eC (.int 0))) (sAppend 6 (eIf (bOf (eBin eqD (eVar 7) (eC (.str (PySem.Str.ofString "house"))))) (eUn minD (eLk 9)) (eUn maxD (eLk 9))))))) (
      sSeq (sSet 3 (eVar 6)) (
      sAppend 4 (eLc [10] (iSeq (eVar 3)) (gSet 10) (bYes) (eLst (aCons (eTup (aCons (eVar 10) (aNil))) (aNil))))))))
    E (fun n m => m = n) (fun i : Nat => D.int (i : Nat)) (as := List.range 12) (k := 0) (s := 0) (by decide) rfl fun n' n hn' he i _ => by
      subst he
      let TT : D := .lst ((List.range (n + 1)).map fun i => dueT (tabN 1 b i))
      have row : ∀ (ss done : List Sg), done ++ ss = b → forL [7, 8, 9] (gTups 2 (gMore (gSet 7) (gMore (gSet 8) (gNone)))) (
          sSeq (sSet 9 (eLc [11, 12, 13] (iSeq (eVar 8)) (gTups 3 (gMore (gSet 11) (gMore (gSet 12) (gMore (gSet 13) (gNone))))) (bYes) (eBin max2D (eC (.int 0)) (eBin subD (eBinV ixD 3 (eLk 13)) (eBinV ixD 12 (eC (.int 0))))))) (
          sIf (bOf (eBin eqD (eUn lenD (eLk 9)) (eC (.int 0)))) (sAppend 6 (eC (.int 0))) (sAppend 6 (eIf (bOf (eBin eqD (eVar 7) (eC (.str (PySem.Str.ofString "house"))))) (eUn minD (eLk 9)) (eUn maxD (eLk 9)))))) (ss.map encS)
          [.par 0 t1, .val (encB 1 b), .val (.int 12), .val (.lst ((needN b n).map .int)), .own TT, .val (.int (i : Nat)), .own (.lst ((done.map (needS (needN b n))).map .int)), .emp, .emp, .emp, .emp, .emp, .emp, .emp]
          = some (.nx [.par 0 t1, .val (encB 1 b), .val (.int 12), .val (.lst ((needN b n).map .int)), .own TT, .val (.int (i : Nat)), .own (.lst ((needN b (n + 1)).map .int)), .emp, .emp, .emp, .emp, .emp, .emp, .emp]) := by
        intro ss
        induction ss with
        | nil => intro done hd; rw [List.append_nil] at hd; rw [hd]; rfl
        | cons g ss ih =>
          intro done hd
          have hgm : g ∈ b := by rw [← hd]; simp
          have dlen : done.length ≤ 12 := by
            have := congrArg List.length hd
            rw [List.length_append, bb] at this
            omega
          have kg := k.mv g hgm
          have e := lcL_enc (vs := [11, 12, 13]) (g := gTups 3 (gMore (gSet 11) (gMore (gSet 12) (gMore (gSet 13) (gNone))))) (m := eBin max2D (eC (.int 0)) (eBin subD (eBinV ixD 3 (eLk 13)) (eBinV ixD 12 (eC (.int 0)))))
            (env := [.par 0 t1, .val (encB 1 b), .val (.int 12), .val (.lst ((needN b n).map .int)), .own TT, .val (.int (i : Nat)), .own (.lst ((done.map (needS (needN b n))).map .int)), .val (ownS g.ow), .val (.tup (g.mv.map encM)), .emp, .emp, .emp, .emp, .emp]) encM (fun m => D.int (nd (needN b n) m)) (as := g.mv) fun m hm => by
              obtain ⟨h1, h2, _⟩ := kg m hm
              have x1 : ixD (.lst ((needN b n).map .int)) (.int m.to_) = some (.int ((needN b n).getD m.to_ 0)) := by
                refine ix_lst ?_
                rw [List.getElem?_map, List.getElem?_eq_getElem (by rw [needN_len]; exact h1), List.getD_eq_getElem?_getD, List.getElem?_eq_getElem (by rw [needN_len]; exact h1)]
                rfl
              refine ⟨_, rfl, _, eBin_of (d := .int 0) rfl (eBin_of (eBinV_of (d := .lst ((needN b n).map .int)) rfl rfl rfl x1) (eBinV_of (d := tupI m.po) rfl rfl rfl (row_at (i := 0) (by omega))) rfl) ?_, rfl⟩
              show some (D.int (if (needN b n).getD m.to_ 0 - m.po.getD 0 0 > 0 then (needN b n).getD m.to_ 0 - m.po.getD 0 0 else 0)) = _
              rw [mx]
              rfl
          have em : (g.mv.map fun m => D.int (nd (needN b n) m)) = (g.mv.map (nd (needN b n))).map .int := by rw [List.map_map]; rfl
          rw [em] at e
          have gl := k.mvs g hgm
          have s9 := sSet_of (i := 9) (eLc_of (w := iSeq (eVar 8)) (env := [.par 0 t1, .val (encB 1 b), .val (.int 12), .val (.lst ((needN b n).map .int)), .own TT, .val (.int (i : Nat)), .own (.lst ((done.map (needS (needN b n))).map .int)), .val (ownS g.ow), .val (.tup (g.mv.map encM)), .emp, .emp, .emp, .emp, .emp]) (env' := [.par 0 t1, .val (encB 1 b), .val (.int 12), .val (.lst ((needN b n).map .int)), .own TT, .val (.int (i : Nat)), .own (.lst ((done.map (needS (needN b n))).map .int)), .val (ownS g.ow), .val (.tup (g.mv.map encM)), .emp, .emp, .emp, .emp, .emp]) rfl e (by rw [List.length_map, List.length_map, sizeLine_eq]; omega))
          let G : Ev := [.par 0 t1, .val (encB 1 b), .val (.int 12), .val (.lst ((needN b n).map .int)), .own TT, .val (.int (i : Nat)), .own (.lst ((done.map (needS (needN b n))).map .int)), .val (ownS g.ow), .val (.tup (g.mv.map encM)), .val (.lst ((g.mv.map (nd (needN b n))).map .int)), .emp, .emp, .emp, .emp]
          have hlen : lenD (.lst ((g.mv.map (nd (needN b n))).map .int)) = some (.int g.mv.length) := by
            show some (D.int (((g.mv.map (nd (needN b n))).map D.int).length : Nat)) = _
            rw [List.length_map, List.length_map]
          have c : bOf (eBin eqD (eUn lenD (eLk 9)) (eC (.int 0))) G = some (decide ((g.mv.length : Int) = 0), G) := by
            have q : eqD (.int g.mv.length) (.int 0) = some (.bl (decide ((g.mv.length : Int) = 0))) := by
              show some (D.bl (eqvD (.int g.mv.length) (.int 0))) = _
              rw [eqv_ints]
            exact bOf_of (eBin_of (eUn_of rfl hlen) rfl q)
          have ih := ih (done ++ [g]) (by rw [← hd]; simp)
          have ea : (done ++ [g]).map (needS (needN b n)) = done.map (needS (needN b n)) ++ [needS (needN b n) g] := by rw [List.map_append]; rfl
          rw [ea, List.map_append] at ih
          have app : ∀ {M : EM}, M G = some (.int (needS (needN b n) g), G) → sAppend 6 M G = some (.nx [.par 0 t1, .val (encB 1 b), .val (.int 12), .val (.lst ((needN b n).map .int)), .own TT, .val (.int (i : Nat)), .own (.lst ((done.map (needS (needN b n))).map .int ++ [.int (needS (needN b n) g)])), .val (ownS g.ow), .val (.tup (g.mv.map encM)), .val (.lst ((g.mv.map (nd (needN b n))).map .int)), .emp, .emp, .emp, .emp]) := fun {M} hM =>
            sAppend_of (ds := (done.map (needS (needN b n))).map .int) rfl hM rfl (by rw [List.length_map, List.length_map, sizeLine_eq]; omega)
          cases hv : g.mv with
          | nil =>
            rw [decide_eq_true (by rw [hv]; rfl)] at c
            have e1 : needS (needN b n) g = 0 := by unfold needS; rw [hv]
            exact forL_one rfl (.inl (sSeq_of s9 (sIf_of c ((if_pos rfl).trans (app (M := eC (.int 0)) (by rw [e1]; rfl)))))) ih
          | cons m ms =>
            rw [decide_eq_false (by rw [hv, List.length_cons]; omega)] at c
            have ii : intsD (.lst ((g.mv.map (nd (needN b n))).map .int)) = some (g.mv.map (nd (needN b n))) := mapM_toI _
            have ne : (g.mv.map (nd (needN b n))).isEmpty = false := by rw [hv]; rfl
            have hM : eIf (bOf (eBin eqD (eVar 7) (eC (.str (PySem.Str.ofString "house"))))) (eUn minD (eLk 9)) (eUn maxD (eLk 9)) G = some (.int (needS (needN b n) g), G) := by
              refine eIf_of (bOf_of (eBin_of (d := ownS g.ow) rfl rfl (house_test g.ow))) ?_
              have e1 : needS (needN b n) g = if g.ow then minI (g.mv.map (nd (needN b n))) else maxI (g.mv.map (nd (needN b n))) := by unfold needS; rw [hv]
              rw [e1]
              cases g.ow with
              | true =>
                refine (if_pos rfl).trans (eUn_of rfl ?_)
                unfold minD
                rw [ii]
                exact if_neg (by rw [ne]; exact Bool.false_ne_true)
              | false =>
                refine (if_neg Bool.false_ne_true).trans (eUn_of rfl ?_)
                unfold maxD
                rw [ii]
                exact if_neg (by rw [ne]; exact Bool.false_ne_true)
            exact forL_one rfl (.inl (sSeq_of s9 (sIf_of c ((if_neg Bool.false_ne_true).trans (app hM))))) ih
      have r0 := row b [] rfl
      have e10 := lcL_enc (vs := [10]) (g := gSet 10) (m := eLst (aCons (eTup (aCons (eVar 10) (aNil))) (aNil))) (env := [.par 0 t1, .val (encB 1 b), .val (.int 12), .val (.lst ((needN b (n + 1)).map .int)), .own TT, .val (.int (i : Nat)), .val (.lst ((needN b (n + 1)).map .int)), .emp, .emp, .emp, .emp, .emp, .emp, .emp]) D.int (fun x => D.lst [tupI [x]]) (as := needN b (n + 1)) fun x _ => ⟨_, rfl, _, rfl, rfl⟩
      have hA := sAppend_of (i := 4) (ds := (List.range (n + 1)).map fun i => dueT (tabN 1 b i)) (m := eLc [10] (iSeq (eVar 3)) (gSet 10) (bYes) (eLst (aCons (eTup (aCons (eVar 10) (aNil))) (aNil)))) (env := [.par 0 t1, .val (encB 1 b), .val (.int 12), .val (.lst ((needN b (n + 1)).map .int)), .own TT, .val (.int (i : Nat)), .val (.lst ((needN b (n + 1)).map .int)), .emp, .emp, .emp, .emp, .emp, .emp, .emp]) rfl
        (eLc_of (env' := [.par 0 t1, .val (encB 1 b), .val (.int 12), .val (.lst ((needN b (n + 1)).map .int)), .own TT, .val (.int (i : Nat)), .val (.lst ((needN b (n + 1)).map .int)), .emp, .emp, .emp, .emp, .emp, .emp, .emp]) rfl e10 (by rw [List.length_map, needN_len, sizeLine_eq]; omega)) rfl (by rw [List.length_map, List.length_range, sizeLine_eq]; omega)
      rw [← dn (n + 1)] at hA
      have el : ((List.range (n + 1)).map fun i => dueT (tabN 1 b i)) ++ [dueT (tabN 1 b (n + 1))] = (List.range (n + 1 + 1)).map fun i => dueT (tabN 1 b i) := by
        rw [List.range_succ (n := n + 1), List.map_append]
        rfl
      rw [el] at hA
      exact ⟨_, rfl, _, n + 1, sSeq_of (e := [.par 0 t1, .val (encB 1 b), .val (.int 12), .val (.lst ((needN b n).map .int)), .own TT, .val (.int (i : Nat)), .own (.lst []), .emp, .emp, .emp, .emp, .emp, .emp, .emp]) rfl (sSeq_of (sFor_of (iSeq_of (eBinV_of (d := encB 1 b) rfl rfl rfl (bk_1 1 b)) rfl) r0) (sSeq_of (sSet_of (m := eVar 6) rfl) hA)), rfl, rfl⟩
  rw [← rangeL_map] at l1
  have hu' : u = 12 := hu
  subst hu'
  have same : SameD 9 (tabsD 1 b 12) (.lst ((List.range (12 + 1)).map fun i => dueT (tabN 1 b i))) := same_map nb fun n _ => by
    rw [tab_one k n]
    exact same_map (n := 7) (by unfold ones; rw [List.length_map, needN_len]; omega) fun L hL => by
      obtain ⟨x, _, rfl⟩ := List.mem_map.mp hL
      exact same_lots 4 nb fun r hr => by rw [List.mem_singleton.mp hr]; exact nb
  exact ⟨t1, runJ_of (e := (E 12).set 4 (.val (.lst ((List.range (12 + 1)).map fun i => dueT (tabN 1 b i))))) (sSeq_of s1 (sSeq_of (e := [.par 0 t1, .val (encB 1 b), .val (.int 12), .emp, .emp, .emp, .emp, .emp, .emp, .emp, .emp, .emp, .emp, .emp]) rfl (sSeq_of s3 (sSeq_of s4 (sSeq_of (sFor_of (iRange1_of (j := ((12 : Nat) : Int)) rfl (rng_nat (by decide))) l1) (sRet_of (eCall_of (ds := [_, _]) (aCons_of (eCall_of (ds := [encB 1 b, .int (12 : Nat)]) rfl pl) (aCons_of (m := eVar 4) rfl aNil_of)) (p_same 9 _ _ same)))))))), k1⟩
end NR

set_option Elab.async false
set_option linter.all false
set_option maxRecDepth 100000
set_option maxHeartbeats 4000000
set_option autoImplicit false
/-! _law_meet -/
namespace NR
open PySem PySem.Spec PyProof.Rows L2
def mtB (g0 g1 g2 g3 : Int) (ow : Bool) : List Sg :=
  [⟨false, [⟨PySem.Str.ofString "p", [0, 0], 1⟩, ⟨PySem.Str.ofString "q", [0, 0], 2⟩]⟩, ⟨true, [⟨PySem.Str.ofString "x", [0 - g0, 0], 3⟩, ⟨PySem.Str.ofString "y", [0, 0 - g1], 3⟩]⟩,
   ⟨true, [⟨PySem.Str.ofString "x", [0 - g2, 0], 3⟩, ⟨PySem.Str.ofString "y", [0, 0 - g3], 3⟩]⟩, ⟨ow, []⟩]
def mtP (g0 g1 g2 g3 : Int) : List (List Int) := [[max g0 g2, 0], [g0, g3], [g2, g1], [0, max g1 g3]]
def AA (g0 g1 : Int) : List (List Int) := leastL [[g0, 0], [0, g1]]
/-- two least lists that let the same pass are the same -/
theorem least_unique {T : Nat} {B : Int} {L M : List (List Int)} (h : Least T B L) (k : Least T B M) (e : ∀ l, Row T B l → anyA l L = anyA l M) : L = M := by
  have one : ∀ {L M : List (List Int)}, Least T B L → Least T B M → (∀ l, Row T B l → anyA l L = anyA l M) → ∀ x ∈ L, x ∈ M := fun {L M} h k e x hx => by
    have h1 : anyA x M = true := by rw [← e x (h.rows x hx)]; exact anyA_iff.mpr ⟨x, hx, atl_refl x⟩
    obtain ⟨y, hy, hxy⟩ := anyA_iff.mp h1
    have h2 : anyA y L = true := by rw [e y (k.rows y hy)]; exact anyA_iff.mpr ⟨y, hy, atl_refl y⟩
    obtain ⟨z, hz, hyz⟩ := anyA_iff.mp h2
    have xz := h.anti x hx z hz (atl_trans (k.rows y hy).1 (h.rows x hx).1 hxy hyz)
    subst xz
    rw [atl_anti (h.rows x hx).1 (k.rows y hy).1 hxy hyz]
    exact hy
  exact rows_same h.sort k.sort fun x => ⟨one h k e x, one k h (fun l hl => (e l hl).symm) x⟩
section
variable {g0 g1 g2 g3 : Int} {ow : Bool}
structure Gs (g0 g1 g2 g3 : Int) : Prop where
  a : 1 ≤ g0 ∧ g0 ≤ 4
  b : 1 ≤ g1 ∧ g1 ≤ 4
  c : 1 ≤ g2 ∧ g2 ≤ 4
  d : 1 ≤ g3 ∧ g3 ≤ 4
theorem row_of {x y B : Int} (h : 0 ≤ x ∧ x ≤ B) (k : 0 ≤ y ∧ y ≤ B) : Row 2 B [x, y] := ⟨rfl, fun z hz => by
  rcases List.mem_cons.mp hz with e | hz
  · subst e; exact h
  · rw [List.mem_singleton.mp hz]; exact k⟩
theorem rows_AA {a b : Int} (ha : 1 ≤ a ∧ a ≤ 4) (hb : 1 ≤ b ∧ b ≤ 4) : Rows 2 4 [[a, 0], [0, b]] := fun r hr => by
  rcases List.mem_cons.mp hr with e | hr
  · rw [e]; exact row_of (by omega) (by omega)
  · rw [List.mem_singleton.mp hr]; exact row_of (by omega) (by omega)
theorem rows_P (h : Gs g0 g1 g2 g3) : Rows 2 4 (mtP g0 g1 g2 g3) := fun r hr => by
  have := h.a; have := h.b; have := h.c; have := h.d
  rcases List.mem_cons.mp hr with e | hr
  · rw [e]; exact row_of (by omega) (by omega)
  · rcases List.mem_cons.mp hr with e | hr
    · rw [e]; exact row_of (by omega) (by omega)
    · rcases List.mem_cons.mp hr with e | hr
      · rw [e]; exact row_of (by omega) (by omega)
      · rw [List.mem_singleton.mp hr]; exact row_of (by omega) (by omega)
/-- tables of this shape -/
structure Mt (t : Tb) (X A B Z : List (List Int)) : Prop where
  eq : t = [X, A, B, Z]
  a : Rows 2 4 A ∧ A.length ≤ 2
  b : Rows 2 4 B ∧ B.length ≤ 2
  z : Rows 2 4 Z ∧ Z.length ≤ 2
theorem rows_bef {L : List (List Int)} {x y : Int} (h : Rows 2 4 L) (hx : -4 ≤ x) (hy : -4 ≤ y) : Rows 2 8 (L.map fun l => bef l [x, y]) := fun r hr => by
  obtain ⟨l, hl, rfl⟩ := List.mem_map.mp hr
  exact row_bef (S := 4) (h l hl) rfl (fun z hz => by
    rcases List.mem_cons.mp hz with e | hz
    · omega
    · rw [List.mem_singleton.mp hz]; omega) (by decide)
theorem ok_two {h : Bool} {L M : List (List Int)} (hL : Rows 2 8 L) (hM : Rows 2 8 M) (l1 : L.length ≤ 2) (l2 : M.length ≤ 2) : FoldOk h (leastL L) [leastL M] := by
  have a1 := leastL_len L hL
  have a2 := leastL_len M hM
  have r1 := (leastL_least hL).rows
  have r2 := (leastL_least hM).rows
  refine ⟨⟨?_, fun r hr => by rw [(rows_app r1 r2 r hr).1]; decide, by omega, by omega⟩, True.intro⟩
  cases h with
  | true => rw [if_pos rfl]; exact ssok_rows (rows_app r1 r2) (by decide) (.inl (by rw [List.length_append]; omega))
  | false =>
    rw [if_neg Bool.false_ne_true]
    refine ssok_rows (rows_prod r1 r2) (by decide) (.inl ?_)
    rw [prod_len]
    calc (leastL L).length * (leastL M).length ≤ 2 * 2 := Nat.mul_le_mul (by omega) (by omega)
      _ < 64 := by decide
theorem mt_ok {t : Tb} {X A B Z : List (List Int)} (h : Gs g0 g1 g2 g3) (m : Mt t X A B Z) : TabOk' (mtB g0 g1 g2 g3 ow) t := by
  have := h.a; have := h.b; have := h.c; have := h.d
  obtain ⟨rfl, ⟨a1, a2⟩, ⟨b1, b2⟩, ⟨z1, z2⟩⟩ := m
  have mv : ∀ {L : List (List Int)} {x y : Int}, Rows 2 4 L → L.length ≤ 2 → -4 ≤ x → -4 ≤ y → SsOk (L.map fun l => bef l [x, y]) ∧ (∀ r ∈ L, r.length ≤ 1000) ∧ L.length ≤ 10000 := fun {L x y} r l hx hy =>
    ⟨ssok_rows (rows_bef r hx hy) (by decide) (.inl (by rw [List.length_map]; omega)), fun q hq => by rw [(r q hq).1]; decide, by omega⟩
  intro s hs
  rcases List.mem_cons.mp hs with e | hs
  · subst e
    refine ⟨nb, fun m hm => ?_, ok_two (rows_bef a1 (by decide) (by decide)) (rows_bef b1 (by decide) (by decide)) (Nat.le_trans (Nat.le_of_eq (List.length_map _)) a2) (Nat.le_trans (Nat.le_of_eq (List.length_map _)) b2)⟩
    rcases List.mem_cons.mp hm with e | hm
    · subst e; exact ⟨nb, mv a1 a2 (by decide) (by decide)⟩
    · rw [List.mem_singleton.mp hm]; exact ⟨nb, mv b1 b2 (by decide) (by decide)⟩
  · rcases List.mem_cons.mp hs with e | hs
    · subst e
      refine ⟨nb, fun m hm => ?_, ok_two (rows_bef z1 (by omega) (by decide)) (rows_bef z1 (by decide) (by omega)) (Nat.le_trans (Nat.le_of_eq (List.length_map _)) z2) (Nat.le_trans (Nat.le_of_eq (List.length_map _)) z2)⟩
      rcases List.mem_cons.mp hm with e | hm
      · subst e; exact ⟨nb, mv z1 z2 (by omega) (by decide)⟩
      · rw [List.mem_singleton.mp hm]; exact ⟨nb, mv z1 z2 (by decide) (by omega)⟩
    · rcases List.mem_cons.mp hs with e | hs
      · subst e
        refine ⟨nb, fun m hm => ?_, ok_two (rows_bef z1 (by omega) (by decide)) (rows_bef z1 (by decide) (by omega)) (Nat.le_trans (Nat.le_of_eq (List.length_map _)) z2) (Nat.le_trans (Nat.le_of_eq (List.length_map _)) z2)⟩
        rcases List.mem_cons.mp hm with e | hm
        · subst e; exact ⟨nb, mv z1 z2 (by omega) (by decide)⟩
        · rw [List.mem_singleton.mp hm]; exact ⟨nb, mv z1 z2 (by decide) (by omega)⟩
      · rw [List.mem_singleton.mp hs]
        exact ⟨nb, (fun m hm => absurd hm (List.not_mem_nil)), True.intro⟩
theorem bef0 {x y : Int} (hx : 0 ≤ x) (hy : 0 ≤ y) : bef [0, 0] [0 - x, 0 - y] = [x, y] := by
  show [max ((0 : Int) - (0 - x)) 0, max ((0 : Int) - (0 - y)) 0] = _
  rw [show max ((0 : Int) - (0 - x)) 0 = x by omega, show max ((0 : Int) - (0 - y)) 0 = y by omega]
theorem bef1 {x : Int} (hx : 0 ≤ x) : bef [0, 0] [0 - x, 0] = [x, 0] := bef0 hx (Int.le_refl 0)
theorem bef2 {y : Int} (hy : 0 ≤ y) : bef [0, 0] [0, 0 - y] = [0, y] := bef0 (Int.le_refl 0) hy
/-- the next table -/
theorem mt_next (h : Gs g0 g1 g2 g3) {X A B : List (List Int)} : beforeT 2 (mtB g0 g1 g2 g3 ow) [X, A, B, [[0, 0]]] = [metL (leastL (A.map fun l => bef l [0, 0])) (leastL (B.map fun l => bef l [0, 0])), AA g0 g1, AA g2 g3, [[0, 0]]] := by
  have := h.a; have := h.b; have := h.c; have := h.d
  show [metL (leastL (A.map fun l => bef l [0, 0])) (leastL (B.map fun l => bef l [0, 0])), joinL (leastL [bef [0, 0] [0 - g0, 0]]) (leastL [bef [0, 0] [0, 0 - g1]]), joinL (leastL [bef [0, 0] [0 - g2, 0]]) (leastL [bef [0, 0] [0, 0 - g3]]), [zer 2]] = _
  rw [bef1 (by omega), bef2 (by omega), bef1 (by omega), bef2 (by omega)]
  rfl
theorem mt_tab (h : Gs g0 g1 g2 g3) : ∀ n : Nat, ∃ X A B, tabN 2 (mtB g0 g1 g2 g3 ow) n = [X, A, B, [[0, 0]]] ∧ Mt (tabN 2 (mtB g0 g1 g2 g3 ow) n) X A B [[0, 0]] ∧ (1 ≤ n → A = AA g0 g1 ∧ B = AA g2 g3) ∧ (2 ≤ n → X = metL (leastL ((AA g0 g1).map fun l => bef l [0, 0])) (leastL ((AA g2 g3).map fun l => bef l [0, 0])))
  | 0 => by
    have r : Rows 2 4 [[0, 0]] := fun r hr => by rw [List.mem_singleton.mp hr]; exact row_of (by decide) (by decide)
    exact ⟨[[0, 0]], [[0, 0]], [[0, 0]], rfl, ⟨rfl, ⟨r, by decide⟩, ⟨r, by decide⟩, ⟨r, by decide⟩⟩, fun z => by omega, fun z => by omega⟩
  | n + 1 => by
    obtain ⟨X, A, B, h1, h2, h3, h4⟩ := mt_tab h n
    have e : tabN 2 (mtB g0 g1 g2 g3 ow) (n + 1) = [metL (leastL (A.map fun l => bef l [0, 0])) (leastL (B.map fun l => bef l [0, 0])), AA g0 g1, AA g2 g3, [[0, 0]]] := by
      show beforeT 2 (mtB g0 g1 g2 g3 ow) (tabN 2 (mtB g0 g1 g2 g3 ow) n) = _
      rw [h1]
      exact mt_next h
    have r : Rows 2 4 [[0, 0]] := fun r hr => by rw [List.mem_singleton.mp hr]; exact row_of (by decide) (by decide)
    have ra := rows_AA h.a h.b
    have rb := rows_AA h.c h.d
    refine ⟨_, _, _, e, ⟨e, ⟨(leastL_least ra).rows, leastL_len _ ra⟩, ⟨(leastL_least rb).rows, leastL_len _ rb⟩, ⟨r, by decide⟩⟩, fun _ => ⟨rfl, rfl⟩, fun z => ?_⟩
    obtain ⟨h5, h6⟩ := h3 (by omega)
    rw [h5, h6]
theorem any2 {u w x y : Int} : atl [u, w] [x, y] = (decide (x ≤ u) && decide (y ≤ w)) := by
  show (decide (x ≤ u) && (decide (y ≤ w) && true)) = _
  rw [Bool.and_true]
theorem bef_same {L : List (List Int)} (h : Rows 2 4 L) : (L.map fun l => bef l [0, 0]) = L := by
  refine (List.map_congr_left fun l hl => ?_).trans (List.map_id L)
  obtain ⟨e, a, b, c, d⟩ := row2 (h l hl)
  rw [e]
  show [max (hd0 l - 0) 0, max (hd1 l - 0) 0] = [hd0 l, hd1 l]
  rw [show max (hd0 l - 0) 0 = hd0 l by omega, show max (hd1 l - 0) 0 = hd1 l by omega]
theorem mt_X (h : Gs g0 g1 g2 g3) : metL (leastL ((AA g0 g1).map fun l => bef l [0, 0])) (leastL ((AA g2 g3).map fun l => bef l [0, 0])) = leastL (mtP g0 g1 g2 g3) := by
  have ra := rows_AA h.a h.b
  have rb := rows_AA h.c h.d
  have la := leastL_least ra
  have lb := leastL_least rb
  have ea : ((AA g0 g1).map fun l => bef l [0, 0]) = AA g0 g1 := bef_same la.rows
  have eb : ((AA g2 g3).map fun l => bef l [0, 0]) = AA g2 g3 := bef_same lb.rows
  rw [ea, eb]
  have lla := leastL_least la.rows
  have llb := leastL_least lb.rows
  refine least_unique (leastL_least (rows_prod lla.rows llb.rows)) (leastL_least (rows_P h)) fun l hl => ?_
  have q1 : anyA l (metL (leastL (AA g0 g1)) (leastL (AA g2 g3))) = (anyA l [[g0, 0], [0, g1]] && anyA l [[g2, 0], [0, g3]]) := by
    show anyA l (leastL (prodL (leastL (AA g0 g1)) (leastL (AA g2 g3)))) = _
    have x1 : anyA l (leastL (AA g0 g1)) = anyA l [[g0, 0], [0, g1]] := (anyA_least la.rows hl.1).trans (anyA_least ra hl.1)
    have x2 : anyA l (leastL (AA g2 g3)) = anyA l [[g2, 0], [0, g3]] := (anyA_least lb.rows hl.1).trans (anyA_least rb hl.1)
    rw [← x1, ← x2]
    exact (anyA_least (rows_prod lla.rows llb.rows) hl.1).trans (anyA_prod lla.rows llb.rows)
  rw [q1, anyA_least (rows_P h) hl.1]
  obtain ⟨e, a, b, c, d⟩ := row2 hl
  rw [e]
  generalize hd0 l = u at a b
  generalize hd1 l = w at c d
  rw [Bool.eq_iff_iff, Bool.and_eq_true, anyA_iff, anyA_iff, anyA_iff]
  unfold mtP
  simp only [List.mem_cons, List.not_mem_nil, or_false, exists_eq_or_imp, exists_eq_left, any2, Bool.and_eq_true, decide_eq_true_iff]
  omega
end
end NR

set_option Elab.async false
set_option linter.all false
set_option maxRecDepth 100000
set_option maxHeartbeats 4000000
set_option autoImplicit false
/-! _law_meet, walked -/
namespace NR
open PySem PySem.Spec PyProof.Rows L2
theorem atl_two {r o : List Int} (hr : r.length = 2) (ho : o.length = 2) : (decide (o.getD 0 0 ≤ r.getD 0 0) && decide (o.getD 1 0 ≤ r.getD 1 0)) = atl r o := by
  match r, o, hr, ho with
  | [a, b], [c, d], _, _ => rw [any2]; rfl
theorem p_meet {t : D} (ht : TapeOk t) : ∃ g0 g1 g2 g3 ow t', Gs g0 g1 g2 g3 ∧ r_law_meet t [.non] = some (.tup [encB 2 (mtB g0 g1 g2 g3 ow), .lst ((leastL (mtP g0 g1 g2 g3)).map tupI)], t') ∧ TapeOk t' := by
  obtain ⟨zs, t1, c1, k1, c3, c4⟩ := lcL_stR (vs := [8]) (g := gSet 8) (m := eBin addD (eC (.int 1)) (eCallJ 2 0 r_law_draw (aHere 0 (aCons (eC (.int 4)) (aNil))))) (fun t => [.par 0 t, .emp, .emp, .emp, .emp, .emp, .emp, .emp, .emp, .emp]) TapeOk (fun i : Nat => D.int (i : Nat)) D.int (fun x => 1 ≤ x ∧ x ≤ 4) (as := List.range 4) ht fun t ht a _ => by
    obtain ⟨v, t', h1, h2, h3, h4⟩ := e_draw (t := t) (r := [.emp, .emp, .emp, .emp, .emp, .emp, .emp, .val (.int (a : Nat)), .emp]) (M := eC (.int 4)) (many := 4) ht (by decide) (by decide) rfl
    exact ⟨_, rfl, 1 + v, _, t', eBin_of rfl h1 rfl, rfl, h2, by omega, by omega⟩
  rw [← rangeL_map] at c1
  obtain ⟨g0, g1, g2, g3, rfl⟩ : ∃ g0 g1 g2 g3, zs = [g0, g1, g2, g3] := by
    match zs, c3 with
    | [a, b, c, d], _ => exact ⟨a, b, c, d, rfl⟩
  have G : Gs g0 g1 g2 g3 := ⟨c4 g0 (by simp), c4 g1 (by simp), c4 g2 (by simp), c4 g3 (by simp)⟩
  have s1 : sSet 1 (eLc [8] (iRange1 (aCons (eC (.int 4)) (aNil))) (gSet 8) (bYes) (eBin addD (eC (.int 1)) (eCallJ 2 0 r_law_draw (aHere 0 (aCons (eC (.int 4)) (aNil)))))) ((envOf 10 [.non]).set 0 (.par 0 t)) = some (.nx [.par 0 t1, .val (.lst [.int g0, .int g1, .int g2, .int g3]), .emp, .emp, .emp, .emp, .emp, .emp, .emp, .emp]) :=
    sSet_of (eLc_of (env1 := [.par 0 t, .emp, .emp, .emp, .emp, .emp, .emp, .emp, .emp, .emp]) (env' := [.par 0 t1, .emp, .emp, .emp, .emp, .emp, .emp, .emp, .emp, .emp]) (iRange1_of (j := ((4 : Nat) : Int)) rfl (rng_nat (by decide))) c1 nb)
  let r1 : D := encS ⟨true, [⟨PySem.Str.ofString "x", [0 - g0, 0], 3⟩, ⟨PySem.Str.ofString "y", [0, 0 - g1], 3⟩]⟩
  let r2 : D := encS ⟨true, [⟨PySem.Str.ofString "x", [0 - g2, 0], 3⟩, ⟨PySem.Str.ofString "y", [0, 0 - g3], 3⟩]⟩
  have s3 : sFor [3] (iRange1 (aCons (eC (.int 2)) (aNil))) (gSet 3) (
      sAppend 2 (eTup (aCons (eC (.str (PySem.Str.ofString "house"))) (aCons (eTup (aCons (eTup (aCons (eC (.str (PySem.Str.ofString "x"))) (aCons (eTup (aCons (eBin subD (eC (.int 0)) (eBinV ixD 1 (eBin mulD (eC (.int 2)) (eLk 3)))) (aCons (eC (.int 0)) (aNil)))) (aCons (eC (.int 3)) (aNil))))) (aCons (eTup (aCons (eC (.str (PySem.Str.ofString "y"))) (aCons (eTup (aCons (eC (.int 0)) (aCons (eBin subD (eC (.int 0)) (eBinV ixD 1 (eBin addD (eBin mulD (eC (.int 2)) (eLk 3)) (eC (.int 1))))) (aNil)))) (aCons (eC (.int 3)) (aNil))))) (aNil)))) (aNil)))))
      [.par 0 t1, .val (.lst [.int g0, .int g1, .int g2, .int g3]), .own (.lst []), .emp, .emp, .emp, .emp, .emp, .emp, .emp] = some (.nx [.par 0 t1, .val (.lst [.int g0, .int g1, .int g2, .int g3]), .own (.lst [r1, r2]), .emp, .emp, .emp, .emp, .emp, .emp, .emp]) := by
    have one : ∀ (i j k : Nat) (x y : Int) (rs : List D), rs.length ≤ 5 → mulD (.int 2) (.int i) = some (.int j) → (.int (j : Nat) : D) = .int j → addD (.int (j : Nat)) (.int 1) = some (.int k) → ixD (.lst [.int g0, .int g1, .int g2, .int g3]) (.int j) = some (.int x) → ixD (.lst [.int g0, .int g1, .int g2, .int g3]) (.int k) = some (.int y) →
        sAppend 2 (eTup (aCons (eC (.str (PySem.Str.ofString "house"))) (aCons (eTup (aCons (eTup (aCons (eC (.str (PySem.Str.ofString "x"))) (aCons (eTup (aCons (eBin subD (eC (.int 0)) (eBinV ixD 1 (eBin mulD (eC (.int 2)) (eLk 3)))) (aCons (eC (.int 0)) (aNil)))) (aCons (eC (.int 3)) (aNil))))) (aCons (eTup (aCons (eC (.str (PySem.Str.ofString "y"))) (aCons (eTup (aCons (eC (.int 0)) (aCons (eBin subD (eC (.int 0)) (eBinV ixD 1 (eBin addD (eBin mulD (eC (.int 2)) (eLk 3)) (eC (.int 1))))) (aNil)))) (aCons (eC (.int 3)) (aNil))))) (aNil)))) (aNil))))
          [.par 0 t1, .val (.lst [.int g0, .int g1, .int g2, .int g3]), .own (.lst rs), .val (.int i), .emp, .emp, .emp, .emp, .emp, .emp] = some (.nx [.par 0 t1, .val (.lst [.int g0, .int g1, .int g2, .int g3]), .own (.lst (rs ++ [encS ⟨true, [⟨PySem.Str.ofString "x", [0 - x, 0], 3⟩, ⟨PySem.Str.ofString "y", [0, 0 - y], 3⟩]⟩])), .val (.int i), .emp, .emp, .emp, .emp, .emp, .emp]) := by
      intro i j k x y rs hrs h1 _ h2 h3 h4
      have ex : eBinV ixD 1 (eBin mulD (eC (.int 2)) (eLk 3)) [.par 0 t1, .val (.lst [.int g0, .int g1, .int g2, .int g3]), .own (.lst rs), .val (.int i), .emp, .emp, .emp, .emp, .emp, .emp] = some (.int x, [.par 0 t1, .val (.lst [.int g0, .int g1, .int g2, .int g3]), .own (.lst rs), .val (.int i), .emp, .emp, .emp, .emp, .emp, .emp]) :=
        eBinV_of (d := .lst [.int g0, .int g1, .int g2, .int g3]) rfl (eBin_of rfl rfl h1) rfl h3
      have ey : eBinV ixD 1 (eBin addD (eBin mulD (eC (.int 2)) (eLk 3)) (eC (.int 1))) [.par 0 t1, .val (.lst [.int g0, .int g1, .int g2, .int g3]), .own (.lst rs), .val (.int i), .emp, .emp, .emp, .emp, .emp, .emp] = some (.int y, [.par 0 t1, .val (.lst [.int g0, .int g1, .int g2, .int g3]), .own (.lst rs), .val (.int i), .emp, .emp, .emp, .emp, .emp, .emp]) :=
        eBinV_of (d := .lst [.int g0, .int g1, .int g2, .int g3]) rfl (eBin_of (eBin_of rfl rfl h1) rfl h2) rfl h4
      have cc : ∀ {d : D} {env : Ev}, eC d env = some (d, env) := rfl
      refine sAppend_of rfl (eTup_of (ds := [_, _]) (aCons_of cc (aCons_of (eTup_of (ds := [_, _]) (aCons_of (eTup_of (ds := [_, _, _]) (aCons_of cc (aCons_of (eTup_of (ds := [_, _]) (aCons_of (eBin_of cc ex (sub_i _ _)) (aCons_of cc aNil_of))) (aCons_of cc aNil_of)))) (aCons_of (eTup_of (ds := [_, _, _]) (aCons_of cc (aCons_of (eTup_of (ds := [_, _]) (aCons_of cc (aCons_of (eBin_of cc ey (sub_i _ _)) aNil_of))) (aCons_of cc aNil_of)))) aNil_of))) aNil_of))) rfl (by rw [sizeLine_eq]; omega)
    have a0 := one 0 0 1 g0 g1 [] nb (mul_sm' (by decide)) rfl rfl rfl rfl
    have a1 := one 1 2 3 g2 g3 [r1] nb (mul_sm' (by decide)) rfl rfl rfl rfl
    exact sFor_of (iRange1_of (j := ((2 : Nat) : Int)) rfl (rng_nat (by decide))) (forL_one (e1 := [.par 0 t1, .val (.lst [.int g0, .int g1, .int g2, .int g3]), .own (.lst []), .val (.int (0 : Nat)), .emp, .emp, .emp, .emp, .emp, .emp]) rfl (.inl a0) (forL_one (e1 := [.par 0 t1, .val (.lst [.int g0, .int g1, .int g2, .int g3]), .own (.lst [r1]), .val (.int (1 : Nat)), .emp, .emp, .emp, .emp, .emp, .emp]) rfl (.inl a1) rfl))
  obtain ⟨o, t2, d2, k2, a2, b2⟩ := e_draw (t := t1) (r := [.val (.lst [.int g0, .int g1, .int g2, .int g3]), .own (.lst [r1, r2]), .emp, .emp, .emp, .emp, .emp, .emp, .emp]) (M := eC (.int 2)) (many := 2) k1 (by decide) (by decide) rfl
  have ho := own_ok a2 b2
  generalize decide (o = 0) = ow at ho
  have s4 : sSet 4 (eTup (aCons (eC (.int 2)) (aCons (eTup (aCons (eTup (aCons (eC (.str (PySem.Str.ofString "outside"))) (aCons (eTup (aCons (eTup (aCons (eC (.str (PySem.Str.ofString "p"))) (aCons (eTup (aCons (eC (.int 0)) (aCons (eC (.int 0)) (aNil)))) (aCons (eC (.int 1)) (aNil))))) (aCons (eTup (aCons (eC (.str (PySem.Str.ofString "q"))) (aCons (eTup (aCons (eC (.int 0)) (aCons (eC (.int 0)) (aNil)))) (aCons (eC (.int 2)) (aNil))))) (aNil)))) (aNil)))) (aCons (eBinV ixD 2 (eC (.int 0))) (aCons (eBinV ixD 2 (eC (.int 1))) (aCons (eTup (aCons (eBin ixD (eLst (aCons (eC (.str (PySem.Str.ofString "house"))) (aCons (eC (.str (PySem.Str.ofString "outside"))) (aNil)))) (eCallJ 2 0 r_law_draw (aHere 0 (aCons (eC (.int 2)) (aNil))))) (aCons (eTup (aNil)) (aNil)))) (aNil)))))) (aNil))))
      [.par 0 t1, .val (.lst [.int g0, .int g1, .int g2, .int g3]), .own (.lst [r1, r2]), .emp, .emp, .emp, .emp, .emp, .emp, .emp] = some (.nx [.par 0 t2, .val (.lst [.int g0, .int g1, .int g2, .int g3]), .own (.lst [r1, r2]), .emp, .val (encB 2 (mtB g0 g1 g2 g3 ow)), .emp, .emp, .emp, .emp, .emp]) := by
    have e : eTup (aCons (eTup (aCons (eC (.str (PySem.Str.ofString "outside"))) (aCons (eTup (aCons (eTup (aCons (eC (.str (PySem.Str.ofString "p"))) (aCons (eTup (aCons (eC (.int 0)) (aCons (eC (.int 0)) (aNil)))) (aCons (eC (.int 1)) (aNil))))) (aCons (eTup (aCons (eC (.str (PySem.Str.ofString "q"))) (aCons (eTup (aCons (eC (.int 0)) (aCons (eC (.int 0)) (aNil)))) (aCons (eC (.int 2)) (aNil))))) (aNil)))) (aNil)))) (aCons (eBinV ixD 2 (eC (.int 0))) (aCons (eBinV ixD 2 (eC (.int 1))) (aCons (eTup (aCons (eBin ixD (eLst (aCons (eC (.str (PySem.Str.ofString "house"))) (aCons (eC (.str (PySem.Str.ofString "outside"))) (aNil)))) (eCallJ 2 0 r_law_draw (aHere 0 (aCons (eC (.int 2)) (aNil))))) (aCons (eTup (aNil)) (aNil)))) (aNil)))))
        [.par 0 t1, .val (.lst [.int g0, .int g1, .int g2, .int g3]), .own (.lst [r1, r2]), .emp, .emp, .emp, .emp, .emp, .emp, .emp] = some (.tup [encS ⟨false, [⟨PySem.Str.ofString "p", [0, 0], 1⟩, ⟨PySem.Str.ofString "q", [0, 0], 2⟩]⟩, r1, r2, encS ⟨ow, []⟩], [.par 0 t2, .val (.lst [.int g0, .int g1, .int g2, .int g3]), .own (.lst [r1, r2]), .emp, .emp, .emp, .emp, .emp, .emp, .emp]) :=
      eTup_of (ds := [_, _, _, _]) (aCons_of (e1 := [.par 0 t1, .val (.lst [.int g0, .int g1, .int g2, .int g3]), .own (.lst [r1, r2]), .emp, .emp, .emp, .emp, .emp, .emp, .emp]) rfl (aCons_of (e1 := [.par 0 t1, .val (.lst [.int g0, .int g1, .int g2, .int g3]), .own (.lst [r1, r2]), .emp, .emp, .emp, .emp, .emp, .emp, .emp]) rfl (aCons_of (e1 := [.par 0 t1, .val (.lst [.int g0, .int g1, .int g2, .int g3]), .own (.lst [r1, r2]), .emp, .emp, .emp, .emp, .emp, .emp, .emp]) rfl (aCons_of (eTup_of (ds := [ownS ow, .tup []]) (aCons_of (eBin_of (e1 := [.par 0 t1, .val (.lst [.int g0, .int g1, .int g2, .int g3]), .own (.lst [r1, r2]), .emp, .emp, .emp, .emp, .emp, .emp, .emp]) rfl d2 ho) (aCons_of (m := eTup aNil) rfl aNil_of))) aNil_of))))
    exact sSet_of (eTup_of (ds := [.int 2, _]) (aCons_of (m := eC (.int 2)) rfl (aCons_of e aNil_of)))
  let P : List (List Int) := mtP g0 g1 g2 g3
  have s5 : sSet 5 (eLst (aCons (eTup (aCons (eBin max2D (eBinV ixD 1 (eC (.int 0))) (eBinV ixD 1 (eC (.int 2)))) (aCons (eC (.int 0)) (aNil)))) (aCons (eTup (aCons (eBinV ixD 1 (eC (.int 0))) (aCons (eBinV ixD 1 (eC (.int 3))) (aNil)))) (aCons (eTup (aCons (eBinV ixD 1 (eC (.int 2))) (aCons (eBinV ixD 1 (eC (.int 1))) (aNil)))) (aCons (eTup (aCons (eC (.int 0)) (aCons (eBin max2D (eBinV ixD 1 (eC (.int 1))) (eBinV ixD 1 (eC (.int 3)))) (aNil)))) (aNil))))))
      [.par 0 t2, .val (.lst [.int g0, .int g1, .int g2, .int g3]), .own (.lst [r1, r2]), .emp, .val (encB 2 (mtB g0 g1 g2 g3 ow)), .emp, .emp, .emp, .emp, .emp] = some (.nx [.par 0 t2, .val (.lst [.int g0, .int g1, .int g2, .int g3]), .own (.lst [r1, r2]), .emp, .val (encB 2 (mtB g0 g1 g2 g3 ow)), .val (.lst (P.map tupI)), .emp, .emp, .emp, .emp]) := by
    show _ = some (Rs.nx [.par 0 t2, .val (.lst [.int g0, .int g1, .int g2, .int g3]), .own (.lst [r1, r2]), .emp, .val (encB 2 (mtB g0 g1 g2 g3 ow)), .val (.lst [tupI [max g0 g2, 0], tupI [g0, g3], tupI [g2, g1], tupI [0, max g1 g3]]), .emp, .emp, .emp, .emp])
    rw [← mx g0 g2, ← mx g1 g3]
    rfl
  have rP := rows_P G
  have okP : SsOk P := ssok_rows rP (by decide) (.inl nb)
  have hss : ssD (.lst (P.map tupI)) = some (.lst ((sdd P).map tupI)) := by
    have e : rowsD (.lst (P.map tupI)) = some P := mapM_rowD P
    unfold ssD
    rw [e]
    exact if_pos okP
  have rowP : ∀ r ∈ sdd P, r.length = 2 := fun r hr => (rP r (mem_sdd.mp hr)).1
  let E : List (List Int) → Ev := fun found => [.par 0 t2, .val (.lst [.int g0, .int g1, .int g2, .int g3]), .own (.lst [r1, r2]), .emp, .val (encB 2 (mtB g0 g1 g2 g3 ow)), .val (.lst (P.map tupI)), .own (.lst (found.map tupI)), .emp, .emp, .emp]
  have loop : ∀ (rs found : List (List Int)), (∀ r ∈ rs, r.length = 2) → (∀ r ∈ found, r.length = 2) → found.length + rs.length ≤ 1000 → forL [7] (gSet 7) (
      sIf (bOf (eBin eqD (eUn lenD (eLcP [9] 6 (gSet 9) (bAnd (bOf (eBin leD (eBinV ixD 9 (eC (.int 0))) (eBinV ixD 7 (eC (.int 0))))) (bOf (eBin leD (eBinV ixD 9 (eC (.int 1))) (eBinV ixD 7 (eC (.int 1)))))) (eVar 9))) (eC (.int 0)))) (sAppend 6 (eVar 7)) (sSkip)) (rs.map tupI) (E found) = some (.nx (E (rs.foldl keepL found))) := by
    intro rs
    induction rs with
    | nil => intro found _ _ _; rfl
    | cons r rs ih =>
      intro found hr hf hl
      rw [List.length_cons] at hl
      have r2' := hr r List.mem_cons_self
      have e := lcL_encF (vs := [9]) (g := gSet 9) (t := bAnd (bOf (eBin leD (eBinV ixD 9 (eC (.int 0))) (eBinV ixD 7 (eC (.int 0))))) (bOf (eBin leD (eBinV ixD 9 (eC (.int 1))) (eBinV ixD 7 (eC (.int 1)))))) (m := eVar 9)
        (env := [.par 0 t2, .val (.lst [.int g0, .int g1, .int g2, .int g3]), .own (.lst [r1, r2]), .emp, .val (encB 2 (mtB g0 g1 g2 g3 ow)), .val (.lst (P.map tupI)), .emp, .val (tupI r), .emp, .emp]) tupI tupI (fun o => atl r o) (as := found) fun o ho' => by
          have o2 := hf o ho'
          have q : ∀ (i : Nat), i < 2 → bOf (eBin leD (eBinV ixD 9 (eC (.int i))) (eBinV ixD 7 (eC (.int i)))) [.par 0 t2, .val (.lst [.int g0, .int g1, .int g2, .int g3]), .own (.lst [r1, r2]), .emp, .val (encB 2 (mtB g0 g1 g2 g3 ow)), .val (.lst (P.map tupI)), .emp, .val (tupI r), .emp, .val (tupI o)] = some (decide (o.getD i 0 ≤ r.getD i 0), [.par 0 t2, .val (.lst [.int g0, .int g1, .int g2, .int g3]), .own (.lst [r1, r2]), .emp, .val (encB 2 (mtB g0 g1 g2 g3 ow)), .val (.lst (P.map tupI)), .emp, .val (tupI r), .emp, .val (tupI o)]) := fun i hi =>
            bOf_of (eBin_of (eBinV_of (d := tupI o) rfl rfl rfl (row_at (by omega))) (eBinV_of (d := tupI r) rfl rfl rfl (row_at (by omega))) rfl)
          have q2 := bAnd_two (q 0 (by decide)) (q 1 (by decide))
          rw [atl_two r2' o2] at q2
          exact ⟨_, _, rfl, q2, fun _ => rfl, fun _ => ⟨_, rfl, rfl⟩⟩
      have fl := List.length_filter_le (fun o => atl r o) found
      have eL := eLcP_of (env := [.par 0 t2, .val (.lst [.int g0, .int g1, .int g2, .int g3]), .own (.lst [r1, r2]), .emp, .val (encB 2 (mtB g0 g1 g2 g3 ow)), .val (.lst (P.map tupI)), .own (.lst (found.map tupI)), .val (tupI r), .emp, .emp]) (env' := [.par 0 t2, .val (.lst [.int g0, .int g1, .int g2, .int g3]), .own (.lst [r1, r2]), .emp, .val (encB 2 (mtB g0 g1 g2 g3 ow)), .val (.lst (P.map tupI)), .own (.lst (found.map tupI)), .val (tupI r), .emp, .emp]) (j := 6) rfl e (by rw [List.length_map, sizeLine_eq]; omega)
      have hq : eqD (.int (((found.filter fun o => atl r o).map tupI).length : Nat)) (.int 0) = some (.bl (!anyA r found)) := by
        show some (D.bl (eqvD (.int (((found.filter fun o => atl r o).map tupI).length : Nat)) (.int 0))) = _
        rw [eqv_ints, List.length_map]
        cases ha : anyA r found with
        | true =>
          obtain ⟨o, ho', h2⟩ := anyA_iff.mp ha
          have := List.length_pos_of_mem (List.mem_filter.mpr ⟨ho', h2⟩ : o ∈ found.filter fun o => atl r o)
          rw [decide_eq_false (by omega)]
          rfl
        | false =>
          have : found.filter (fun o => atl r o) = [] := List.filter_eq_nil_iff.mpr fun o ho' h2 => by
            rw [anyA_iff.mpr ⟨o, ho', h2⟩] at ha
            cases ha
          rw [this]
          rfl
      have c := bOf_of (eBin_of (g := eqD) (mb := eC (.int 0)) (eUn_of (g := lenD) eL rfl) rfl hq)
      have ih := ih (keepL found r) (fun q hq => hr q (List.mem_cons_of_mem _ hq)) (fun q hq => by
        unfold keepL at hq
        split at hq
        · exact hf q hq
        · rcases List.mem_append.mp hq with hq | hq
          · exact hf q hq
          · rw [List.mem_singleton.mp hq]; exact r2') (by
        unfold keepL
        split
        · omega
        · rw [List.length_append]; show found.length + 1 + rs.length ≤ 1000; omega)
      refine forL_one (e := [.par 0 t2, .val (.lst [.int g0, .int g1, .int g2, .int g3]), .own (.lst [r1, r2]), .emp, .val (encB 2 (mtB g0 g1 g2 g3 ow)), .val (.lst (P.map tupI)), .own (.lst ((keepL found r).map tupI)), .val (tupI r), .emp, .emp]) rfl (.inl (sIf_of c ?_)) ih
      unfold keepL
      cases ha : anyA r found with
      | true => exact if_neg (by decide)
      | false =>
        refine (if_pos rfl).trans (sAppend_of (ds := found.map tupI) (m := eVar 7) rfl rfl rfl (by rw [List.length_map, sizeLine_eq]; omega) ?_)
        rw [if_neg Bool.false_ne_true, List.map_append]
        rfl
  have sl : (sdd P).length ≤ 4 := sdd_len P
  have L := loop (sdd P) [] rowP (by simp) (by simp; omega)
  have fin : sRet (eTup (aCons (eVar 4) (aCons (eVar 6) (aNil)))) (E (leastL P)) = some (.rt (.tup [encB 2 (mtB g0 g1 g2 g3 ow), .lst ((leastL P).map tupI)]) ((E (leastL P)).set 6 (.val (.lst ((leastL P).map tupI))))) := rfl
  refine ⟨g0, g1, g2, g3, ow, t2, G, runJ_of (sSeq_of s1 (sSeq_of (e := [.par 0 t1, .val (.lst [.int g0, .int g1, .int g2, .int g3]), .own (.lst []), .emp, .emp, .emp, .emp, .emp, .emp, .emp]) rfl (sSeq_of s3 (sSeq_of s4 (sSeq_of s5 (sSeq_of (e := E []) rfl (sSeq_of (sFor_of (iSeq_of (eUn_of (d := .lst (P.map tupI)) rfl hss) rfl) L) fin))))))), k2⟩
end NR

set_option Elab.async false
set_option linter.all false
set_option maxRecDepth 100000
set_option maxHeartbeats 4000000
set_option autoImplicit false
/-! the law -/
namespace NR
open PySem PySem.Spec PyProof.Rows L2
/-- calls with the tape in slot 1, one's own -/
theorem e_own {n : Nat} {f : D → List D → Option (D × D)} {t t1 t' z : D} {s0 : Sl} {r : Ev} {M : AM} {ds : List D} (hM : M (s0 :: .own t :: r) = some (ds, s0 :: .own t1 :: r)) (hf : f t1 (.non :: ds) = some (z, t')) (hl : (D.non :: ds).length = n := by rfl) : eCallJ n 1 f (aHere 1 M) (s0 :: .own t :: r) = some (z, s0 :: .own t' :: r) := by
  refine eCallJ_of (e := s0 :: .own t1 :: r) (ds := .non :: ds) ?_ rfl hf rfl hl
  show ((M (s0 :: .own t :: r)).bind fun q => some (D.non :: q.1, q.2)) = _
  rw [hM]
  rfl
theorem e_drawO {t : D} {s0 : Sl} {r : Ev} (many : Int) (ht : TapeOk t) (h1 : 1 ≤ many) (h2 : many ≤ 1000000000) : ∃ (v : Nat) (t' : D), eCallJ 2 1 r_law_draw (aHere 1 (aCons (eC (.int many)) aNil)) (s0 :: .own t :: r) = some (.int v, s0 :: .own t' :: r) ∧ TapeOk t' ∧ (v : Int) < many := by
  obtain ⟨v, t', h3, h4, h5, h6⟩ := p_draw ht h1 h2
  rw [nat_of h5] at h3
  exact ⟨v.toNat, t', e_own rfl h3, h4, by omega⟩
theorem box_of {T size many : Nat} {b : List Sg} (hT : T = 1 ∨ T = 2) (hs : 1 ≤ size ∧ size ≤ 3) (hm : 1 ≤ many ∧ (T = 1 → many ≤ 8) ∧ (T = 2 → many ≤ 3)) (k : BookOk T size b) (hb : 1 ≤ b.length) : Box T (size * many) many size b := by
  have hS : (0 : Int) ≤ size := by omega
  have sm : ∀ i : Nat, 0 ≤ (size : Int) * i := fun i => Int.mul_nonneg hS (by omega)
  rcases hT with rfl | rfl
  · have hm8 := hm.2.1 rfl
    have hmost : size * many ≤ 3 * 8 := Nat.mul_le_mul hs.2 hm8
    have h1 : 1 * 1 ≤ size * many := Nat.mul_le_mul hs.1 hm.1
    refine ⟨by decide, by omega, k, hb, ⟨by omega, by omega⟩, fun j hj => ?_, by omega, by rw [Int.natCast_mul]; exact Int.le_refl _, fun i _ s hs' => stand_ok (room_one _ _) (by decide) (good_tab hS k i) (sm i) hS (by have := k.mvs s hs'; omega) (k.mv s hs'), fun i s _ hs' => by have := least1 ((good_tab hS k i).at hs'); omega⟩
    calc (size * many + 1) ^ j ≤ 25 ^ j := Nat.pow_le_pow_left (by omega) j
      _ ≤ 25 ^ 1 := Nat.pow_le_pow_right (by decide) hj
      _ ≤ 100000 := by decide
  · have hm3 := hm.2.2 rfl
    have hmost : size * many ≤ 3 * 3 := Nat.mul_le_mul hs.2 hm3
    have h1 : 1 * 1 ≤ size * many := Nat.mul_le_mul hs.1 hm.1
    have le : ∀ i : Nat, i < many → (size : Int) * i ≤ 6 := fun i hi => by
      have : (size : Int) * i ≤ 3 * 2 := Int.mul_le_mul (by omega) (by omega) (by omega) (by decide)
      omega
    refine ⟨by decide, by omega, k, hb, ⟨by omega, by omega⟩, fun j hj => ?_, by omega, by rw [Int.natCast_mul]; exact Int.le_refl _, fun i hi s hs' => stand_ok (room_two (sm i) (le i hi) (by have := sm i; omega) (by have := le i hi; omega)) (by decide) (good_tab hS k i) (sm i) hS (by have := k.mvs s hs'; omega) (k.mv s hs'), fun i s hi hs' => ?_⟩
    · calc (size * many + 1) ^ j ≤ 10 ^ j := Nat.pow_le_pow_left (by omega) j
        _ ≤ 10 ^ 2 := Nat.pow_le_pow_right (by decide) hj
        _ ≤ 100000 := by decide
    · have := least2_len ((good_tab hS k i).at hs') (sm i)
      have : (size : Int) * i ≤ 3 * 3 := Int.mul_le_mul (by omega) (by omega) (by omega) (by decide)
      omega
theorem law_k54 (ns : List Int) (hn : ns.length ≤ 63) : r_law [.scr ns] = some (.bl true) := by
  obtain ⟨t0, e0, k0⟩ := p_tape hn
  have s1 : sOwn 1 (eCall 1 r_law_tape (aCons (eVar 0) (aNil))) (envOf 7 [.scr ns]) = some (.nx [.val (.scr ns), .own t0, .emp, .emp, .emp, .emp, .emp]) := sOwn_of (eCall_of (ds := [.scr ns]) rfl e0)
  obtain ⟨v1, t1, d1, k1, a1⟩ := e_drawO (t := t0) (s0 := .val (.scr ns)) (r := [.emp, .emp, .emp, .emp, .emp]) 2 k0 (by decide) (by decide)
  obtain ⟨T, hT⟩ : ∃ T : Nat, T = 1 + v1 := ⟨_, rfl⟩
  have s2 : sSet 2 (eBin addD (eC (.int 1)) (eCallJ 2 1 r_law_draw (aHere 1 (aCons (eC (.int 2)) (aNil))))) [.val (.scr ns), .own t0, .emp, .emp, .emp, .emp, .emp] = some (.nx [.val (.scr ns), .own t1, .val (.int T), .emp, .emp, .emp, .emp]) := by
    rw [show ((T : Nat) : Int) = 1 + (v1 : Int) by omega]
    exact sSet_of (eBin_of rfl d1 rfl)
  obtain ⟨v2, t2, d2, k2, a2⟩ := e_drawO (t := t1) (s0 := .val (.scr ns)) (r := [.val (.int T), .emp, .emp, .emp, .emp]) 3 k1 (by decide) (by decide)
  obtain ⟨size, hsz⟩ : ∃ s : Nat, s = 1 + v2 := ⟨_, rfl⟩
  have s3 : sSet 3 (eBin addD (eC (.int 1)) (eCallJ 2 1 r_law_draw (aHere 1 (aCons (eC (.int 3)) (aNil))))) [.val (.scr ns), .own t1, .val (.int T), .emp, .emp, .emp, .emp] = some (.nx [.val (.scr ns), .own t2, .val (.int T), .val (.int size), .emp, .emp, .emp]) := by
    rw [show ((size : Nat) : Int) = 1 + (v2 : Int) by omega]
    exact sSet_of (eBin_of rfl d2 rfl)
  obtain ⟨v3, t3, d3, k3, a3⟩ := e_drawO (t := t2) (s0 := .val (.scr ns)) (r := [.val (.int T), .val (.int size), .emp, .emp, .emp]) 7 k2 (by decide) (by decide)
  obtain ⟨v4, t4, d4, k4, a4⟩ := e_drawO (t := t3) (s0 := .val (.scr ns)) (r := [.val (.int T), .val (.int size), .emp, .emp, .emp]) 3 k3 (by decide) (by decide)
  obtain ⟨many, hm0, hm1⟩ : ∃ m : Nat, ixD (.lst [.int (2 + (v3 : Int)), .int (1 + (v4 : Int))]) (.int ((T : Int) - 1)) = some (.int m) ∧ (1 ≤ m ∧ (T = 1 → m ≤ 8) ∧ (T = 2 → m ≤ 3)) := by
    have : T = 1 ∨ T = 2 := by omega
    rcases this with e | e
    · rw [e]
      exact ⟨2 + v3, by rw [show (((2 + v3 : Nat)) : Int) = 2 + (v3 : Int) by omega]; rfl, by omega, fun _ => by omega, fun z => by omega⟩
    · rw [e]
      exact ⟨1 + v4, by rw [show (((1 + v4 : Nat)) : Int) = 1 + (v4 : Int) by omega]; rfl, by omega, fun z => by omega, fun _ => by omega⟩
  have s4 : sSet 4 (eBin ixD (eLst (aCons (eBin addD (eC (.int 2)) (eCallJ 2 1 r_law_draw (aHere 1 (aCons (eC (.int 7)) (aNil))))) (aCons (eBin addD (eC (.int 1)) (eCallJ 2 1 r_law_draw (aHere 1 (aCons (eC (.int 3)) (aNil))))) (aNil)))) (eBin subD (eVar 2) (eC (.int 1)))) [.val (.scr ns), .own t2, .val (.int T), .val (.int size), .emp, .emp, .emp] = some (.nx [.val (.scr ns), .own t4, .val (.int T), .val (.int size), .val (.int many), .emp, .emp]) :=
    sSet_of (eBin_of (eLst_of (ds := [.int (2 + (v3 : Int)), .int (1 + (v4 : Int))]) (aCons_of (eBin_of (e1 := [.val (.scr ns), .own t2, .val (.int T), .val (.int size), .emp, .emp, .emp]) rfl d3 rfl) (aCons_of (eBin_of (e1 := [.val (.scr ns), .own t3, .val (.int T), .val (.int size), .emp, .emp, .emp]) rfl d4 rfl) aNil_of))) (eBin_of rfl rfl (sub_i _ _)) hm0)
  obtain ⟨v5, t5, d5, k5, a5⟩ := e_drawO (t := t4) (s0 := .val (.scr ns)) (r := [.val (.int T), .val (.int size), .val (.int many), .emp, .emp]) 4 k4 (by decide) (by decide)
  obtain ⟨b, t6, e6, k6, hb, kb⟩ := p_book (t := t5) (T := T) (many := 1 + v5) (size := size) k5 (by omega) (by omega) (by omega)
  have s5 : sSet 5 (eCallJ 4 1 r_law_book (aHere 1 (aCons (eVar 2) (aCons (eBin addD (eC (.int 1)) (eCallJ 2 1 r_law_draw (aHere 1 (aCons (eC (.int 4)) (aNil))))) (aCons (eVar 3) (aNil)))))) [.val (.scr ns), .own t4, .val (.int T), .val (.int size), .val (.int many), .emp, .emp] = some (.nx [.val (.scr ns), .own t6, .val (.int T), .val (.int size), .val (.int many), .val (encB T b), .emp]) := by
    rw [show (((1 + v5 : Nat)) : Int) = 1 + (v5 : Int) by omega] at e6
    exact sSet_of (e_own (t1 := t5) (ds := [.int T, .int (1 + (v5 : Int)), .int size]) (aCons_of (e1 := [.val (.scr ns), .own t4, .val (.int T), .val (.int size), .val (.int many), .emp, .emp]) rfl (aCons_of (eBin_of (e1 := [.val (.scr ns), .own t4, .val (.int T), .val (.int size), .val (.int many), .emp, .emp]) rfl d5 rfl) (aCons_of (m := eVar 3) rfl aNil_of))) e6)
  have BX := box_of (T := T) (size := size) (many := many) (b := b) (by omega) (by omega) hm1 kb (by omega)
  obtain ⟨t7, e7, k7⟩ := p_box k6 BX (by rw [Int.natCast_mul])
  obtain ⟨t8, e8, k8⟩ := p_drain k7
  have c1 : bOr (bNot (bTru (eCallJ 4 1 r_law_box_asked (aHere 1 (aCons (eVar 5) (aCons (eVar 3) (aCons (eVar 4) (aNil)))))))) (bNot (bTru (eCallJ 1 1 r_law_drain_asked (aHere 1 (aNil))))) [.val (.scr ns), .own t6, .val (.int T), .val (.int size), .val (.int many), .val (encB T b), .emp] = some (false, [.val (.scr ns), .own t8, .val (.int T), .val (.int size), .val (.int many), .val (encB T b), .emp]) :=
    bOr_of (bNot_of (bTru_of (e_own (M := aCons (eVar 5) (aCons (eVar 3) (aCons (eVar 4) (aNil)))) (ds := [encB T b, .int size, .int many]) rfl e7) rfl)) ((if_neg (by decide)).trans (bNot_of (bTru_of (e_own (M := aNil) (ds := []) rfl e8) rfl)))
  obtain ⟨g0, g1, g2, g3, ow, t9, G, e9, k9⟩ := p_meet k8
  let M : D := encB 2 (mtB g0 g1 g2 g3 ow)
  let U : D := .lst ((leastL (mtP g0 g1 g2 g3)).map tupI)
  have s6 : sAsg (eCallJ 1 1 r_law_meet (aHere 1 (aNil))) (gTups 2 (gMore (gSet 5) (gMore (gSet 6) (gNone)))) [.val (.scr ns), .own t8, .val (.int T), .val (.int size), .val (.int many), .val (encB T b), .emp] = some (.nx [.val (.scr ns), .own t9, .val (.int T), .val (.int size), .val (.int many), .val M, .val U]) :=
    sAsg_of (e_own (M := aNil) (ds := []) rfl e9) rfl
  obtain ⟨v6, t10, d10, k10, a10⟩ := e_drawO (t := t9) (s0 := .val (.scr ns)) (r := [.val (.int T), .val (.int size), .val (.int many), .val M, .val U]) 5 k9 (by decide) (by decide)
  have oks : ∀ i : Nat, TabOk' (mtB g0 g1 g2 g3 ow) (tabN 2 (mtB g0 g1 g2 g3 ow) i) := fun i => by
    obtain ⟨X, A, B, _, h2, _⟩ := mt_tab (ow := ow) G i
    exact mt_ok G h2
  have q1 : r_q_least_levels [M, .int (0 : Nat), .int ((2 + v6 : Nat) : Int)] = some (lotsD (leastL (mtP g0 g1 g2 g3))) := by
    have pl := p_least_levels (tanks := 2) (b := mtB g0 g1 g2 g3 ow) (n := 2 + v6) (s := 0) (by decide) nb (by omega) (fun i _ => oks i) nb
    obtain ⟨X, A, B, h1, _, _, h4⟩ := mt_tab (ow := ow) G (2 + v6)
    rw [h1] at pl
    have hX := (h4 (by omega)).trans (mt_X G)
    rw [← hX]
    exact pl
  have q2 : r_q_least_levels [M, .int (3 : Nat), .int (3 : Nat)] = some (lotsD [[0, 0]]) := by
    have pl := p_least_levels (tanks := 2) (b := mtB g0 g1 g2 g3 ow) (n := 3) (s := 3) (by decide) nb (by omega) (fun i _ => oks i) nb
    obtain ⟨X, A, B, h1, _⟩ := mt_tab (ow := ow) G 3
    rw [h1] at pl
    exact pl
  have rP := rows_P G
  have lP := leastL_len _ rP
  have sm1 : SameD 9 (lotsD (leastL (mtP g0 g1 g2 g3))) U := same_lots 6 (Nat.le_trans lP nb) fun r hr => by rw [((leastL_least rP).rows r hr).1]; decide
  have sm2 : SameD 9 (lotsD [[0, 0]]) (.lst ([[0, 0]].map tupI)) := same_lots 6 (by decide) fun r hr => by rw [List.mem_singleton.mp hr]; decide
  have c2 : bOr (bNot (bTru (eCall 2 (r_law_same 9) (aCons (eCall 3 r_q_least_levels (aCons (eVar 5) (aCons (eC (.int 0)) (aCons (eBin addD (eC (.int 2)) (eCallJ 2 1 r_law_draw (aHere 1 (aCons (eC (.int 5)) (aNil))))) (aNil))))) (aCons (eVar 6) (aNil)))))) (bNot (bTru (eCall 2 (r_law_same 9) (aCons (eCall 3 r_q_least_levels (aCons (eVar 5) (aCons (eC (.int 3)) (aCons (eC (.int 3)) (aNil))))) (aCons (eLst (aCons (eTup (aCons (eC (.int 0)) (aCons (eC (.int 0)) (aNil)))) (aNil))) (aNil))))))
      [.val (.scr ns), .own t9, .val (.int T), .val (.int size), .val (.int many), .val M, .val U] = some (false, [.val (.scr ns), .own t10, .val (.int T), .val (.int size), .val (.int many), .val M, .val U]) := by
    rw [show (((2 + v6 : Nat)) : Int) = 2 + (v6 : Int) by omega] at q1
    have x1 : eCall 3 r_q_least_levels (aCons (eVar 5) (aCons (eC (.int 0)) (aCons (eBin addD (eC (.int 2)) (eCallJ 2 1 r_law_draw (aHere 1 (aCons (eC (.int 5)) (aNil))))) (aNil)))) [.val (.scr ns), .own t9, .val (.int T), .val (.int size), .val (.int many), .val M, .val U] = some (lotsD (leastL (mtP g0 g1 g2 g3)), [.val (.scr ns), .own t10, .val (.int T), .val (.int size), .val (.int many), .val M, .val U]) :=
      eCall_of (ds := [M, .int 0, .int (2 + (v6 : Int))]) (aCons_of (e1 := [.val (.scr ns), .own t9, .val (.int T), .val (.int size), .val (.int many), .val M, .val U]) rfl (aCons_of (e1 := [.val (.scr ns), .own t9, .val (.int T), .val (.int size), .val (.int many), .val M, .val U]) rfl (aCons_of (eBin_of (e1 := [.val (.scr ns), .own t9, .val (.int T), .val (.int size), .val (.int many), .val M, .val U]) rfl d10 rfl) aNil_of))) q1
    refine bOr_of (bNot_of (bTru_of (eCall_of (ds := [_, _]) (aCons_of x1 (aCons_of (m := eVar 6) rfl aNil_of)) (p_same 9 _ _ sm1)) rfl)) ((if_neg (by decide)).trans ?_)
    exact bNot_of (bTru_of (eCall_of (ds := [_, _]) (aCons_of (eCall_of (ds := [M, .int (3 : Nat), .int (3 : Nat)]) rfl q2) (aCons_of (m := eLst (aCons (eTup (aCons (eC (.int 0)) (aCons (eC (.int 0)) (aNil)))) (aNil))) rfl aNil_of)) (p_same 9 _ _ sm2)) rfl)
  obtain ⟨v7, t11, d11, k11, a11⟩ := e_drawO (t := t10) (s0 := .val (.scr ns)) (r := [.val (.int T), .val (.int size), .val (.int many), .val M, .val U]) 13 k10 (by decide) (by decide)
  obtain ⟨t12, e12, k12⟩ := p_wide k11
  have n1 := bOf_of (eBin_of (g := neD) (mb := eC (.int 8)) d11 rfl (show neD (.int v7) (.int 8) = some (.bl (!eqvD (.int v7) (.int 8))) from rfl))
  have s0 : m_law (envOf 7 [.scr ns]) = sRet (eOr (eBin neD (eCallJ 2 1 r_law_draw (aHere 1 (aCons (eC (.int 13)) (aNil)))) (eC (.int 8))) (eCallJ 1 1 r_law_wide_asked (aHere 1 (aNil)))) [.val (.scr ns), .own t10, .val (.int T), .val (.int size), .val (.int many), .val M, .val U] :=
    sSeq_of s1 (sSeq_of s2 (sSeq_of s3 (sSeq_of s4 (sSeq_of s5 (sSeq_of (sIf_of c1 rfl) (sSeq_of s6 (sSeq_of (sIf_of c2 rfl) rfl)))))))
  cases hv : eqvD (.int v7) (.int 8) with
  | false =>
    rw [hv] at n1
    refine runF_of (e := [.val (.scr ns), .own t11, .val (.int T), .val (.int size), .val (.int many), .val M, .val U]) (s0.trans (sRet_of ?_))
    unfold eOr
    rw [n1]
    rfl
  | true =>
    rw [hv] at n1
    refine runF_of (e := [.val (.scr ns), .own t12, .val (.int T), .val (.int size), .val (.int many), .val M, .val U]) (s0.trans (sRet_of ?_))
    unfold eOr
    rw [n1]
    exact e_own (M := aNil) (ds := []) rfl e12
end NR

set_option Elab.async false
set_option linter.all false
set_option maxRecDepth 100000
set_option maxHeartbeats 0
set_option autoImplicit false
/-! printed by gen.py: the head -/
namespace NR
open PySem PySem.Spec PyProof.Rows L2
def d_q_at_least : He.DefD := ⟨("at_least", none), "at_least", "at_least", defArgs st_q_at_least, defBody st_q_at_least, defScope st_q_at_least, [], []⟩
def d_q_greater_of : He.DefD := ⟨("greater_of", none), "greater_of", "greater_of", defArgs st_q_greater_of, defBody st_q_greater_of, defScope st_q_greater_of, [], []⟩
def d_q_noughts : He.DefD := ⟨("noughts", none), "noughts", "noughts", defArgs st_q_noughts, defBody st_q_noughts, defScope st_q_noughts, [], []⟩
def d_q_least_ones : He.DefD := ⟨("least_ones", none), "least_ones", "least_ones", defArgs st_q_least_ones, defBody st_q_least_ones, defScope st_q_least_ones, [], []⟩
def d_q_is_above : He.DefD := ⟨("is_above", none), "is_above", "is_above", defArgs st_q_is_above, defBody st_q_is_above, defScope st_q_is_above, [], []⟩
def d_q_joined_lots : He.DefD := ⟨("joined_lots", none), "joined_lots", "joined_lots", defArgs st_q_joined_lots, defBody st_q_joined_lots, defScope st_q_joined_lots, [], []⟩
def d_q_met_lots : He.DefD := ⟨("met_lots", none), "met_lots", "met_lots", defArgs st_q_met_lots, defBody st_q_met_lots, defScope st_q_met_lots, [], []⟩
def d_q_before_levels : He.DefD := ⟨("before_levels", none), "before_levels", "before_levels", defArgs st_q_before_levels, defBody st_q_before_levels, defScope st_q_before_levels, [], []⟩
def d_q_before_pours : He.DefD := ⟨("before_pours", none), "before_pours", "before_pours", defArgs st_q_before_pours, defBody st_q_before_pours, defScope st_q_before_pours, [], []⟩
def d_q_standing_lots : He.DefD := ⟨("standing_lots", none), "standing_lots", "standing_lots", defArgs st_q_standing_lots, defBody st_q_standing_lots, defScope st_q_standing_lots, [], []⟩
def d_q_lots_before : He.DefD := ⟨("lots_before", none), "lots_before", "lots_before", defArgs st_q_lots_before, defBody st_q_lots_before, defScope st_q_lots_before, [], []⟩
def d_q_first_lots : He.DefD := ⟨("first_lots", none), "first_lots", "first_lots", defArgs st_q_first_lots, defBody st_q_first_lots, defScope st_q_first_lots, [], []⟩
def d_q_levels_tables : He.DefD := ⟨("levels_tables", none), "levels_tables", "levels_tables", defArgs st_q_levels_tables, defBody st_q_levels_tables, defScope st_q_levels_tables, [], []⟩
def d_q_least_levels : He.DefD := ⟨("least_levels", none), "least_levels", "least_levels", defArgs st_q_least_levels, defBody st_q_least_levels, defScope st_q_least_levels, [], []⟩
def d_q_keeps_for : He.DefD := ⟨("keeps_for", none), "keeps_for", "keeps_for", defArgs st_q_keeps_for, defBody st_q_keeps_for, defScope st_q_keeps_for, [], []⟩
def d_q_lasting_moves : He.DefD := ⟨("lasting_moves", none), "lasting_moves", "lasting_moves", defArgs st_q_lasting_moves, defBody st_q_lasting_moves, defScope st_q_lasting_moves, [], []⟩
def d_law_tape : He.DefD := ⟨("_law_tape", none), "_law_tape", "_law_tape", defArgs st_law_tape, defBody st_law_tape, defScope st_law_tape, [], []⟩
def d_law_draw : He.DefD := ⟨("_law_draw", none), "_law_draw", "_law_draw", defArgs st_law_draw, defBody st_law_draw, defScope st_law_draw, [], []⟩
def d_law_pours : He.DefD := ⟨("_law_pours", none), "_law_pours", "_law_pours", defArgs st_law_pours, defBody st_law_pours, defScope st_law_pours, [], []⟩
def d_law_book : He.DefD := ⟨("_law_book", none), "_law_book", "_law_book", defArgs st_law_book, defBody st_law_book, defScope st_law_book, [], []⟩
def d_law_same : He.DefD := ⟨("_law_same", none), "_law_same", "_law_same", defArgs st_law_same, defBody st_law_same, defScope st_law_same, [], []⟩
def d_law_all : He.DefD := ⟨("_law_all", none), "_law_all", "_law_all", defArgs st_law_all, defBody st_law_all, defScope st_law_all, [], []⟩
def d_law_marked : He.DefD := ⟨("_law_marked", none), "_law_marked", "_law_marked", defArgs st_law_marked, defBody st_law_marked, defScope st_law_marked, [], []⟩
def d_law_kept : He.DefD := ⟨("_law_kept", none), "_law_kept", "_law_kept", defArgs st_law_kept, defBody st_law_kept, defScope st_law_kept, [], []⟩
def d_law_boxes : He.DefD := ⟨("_law_boxes", none), "_law_boxes", "_law_boxes", defArgs st_law_boxes, defBody st_law_boxes, defScope st_law_boxes, [], []⟩
def d_law_least : He.DefD := ⟨("_law_least", none), "_law_least", "_law_least", defArgs st_law_least, defBody st_law_least, defScope st_law_least, [], []⟩
def d_law_box_asked : He.DefD := ⟨("_law_box_asked", none), "_law_box_asked", "_law_box_asked", defArgs st_law_box_asked, defBody st_law_box_asked, defScope st_law_box_asked, [], []⟩
def d_law_drain_asked : He.DefD := ⟨("_law_drain_asked", none), "_law_drain_asked", "_law_drain_asked", defArgs st_law_drain_asked, defBody st_law_drain_asked, defScope st_law_drain_asked, [], []⟩
def d_law_meet : He.DefD := ⟨("_law_meet", none), "_law_meet", "_law_meet", defArgs st_law_meet, defBody st_law_meet, defScope st_law_meet, [], []⟩
def d_law_wide_asked : He.DefD := ⟨("_law_wide_asked", none), "_law_wide_asked", "_law_wide_asked", defArgs st_law_wide_asked, defBody st_law_wide_asked, defScope st_law_wide_asked, [], []⟩
def d_law : He.DefD := ⟨("law", none), "law", "law", defArgs st_law, defBody st_law, defScope st_law, [], []⟩
def fnl : List He.DefD := [d_q_at_least, d_q_greater_of, d_q_noughts, d_q_least_ones, d_q_is_above, d_q_joined_lots, d_q_met_lots, d_q_before_levels, d_q_before_pours, d_q_standing_lots, d_q_lots_before, d_q_first_lots, d_q_levels_tables, d_q_least_levels, d_q_keeps_for, d_q_lasting_moves, d_law_tape, d_law_draw, d_law_pours, d_law_book, d_law_same, d_law_all, d_law_marked, d_law_kept, d_law_boxes, d_law_least, d_law_box_asked, d_law_drain_asked, d_law_meet, d_law_wide_asked, d_law]
def fal : List He.Fa := [.glo "at_least", .glo "greater_of", .glo "noughts", .glo "least_ones", .glo "is_above", .glo "joined_lots", .glo "met_lots", .glo "before_levels", .glo "before_pours", .glo "standing_lots", .glo "lots_before", .glo "first_lots", .glo "levels_tables", .glo "least_levels", .glo "keeps_for", .glo "lasting_moves", .glo "_law_tape", .glo "_law_draw", .glo "_law_pours", .glo "_law_book", .glo "_law_same", .glo "_law_all", .glo "_law_marked", .glo "_law_kept", .glo "_law_boxes", .glo "_law_least", .glo "_law_box_asked", .glo "_law_drain_asked", .glo "_law_meet", .glo "_law_wide_asked", .glo "law", .free "len", .free "range", .free "zip", .free "tuple", .free "list", .free "all", .free "any", .free "sum", .free "max", .free "min", .free "abs", .free "int", .free "str", .free "sorted", .free "set", .free "isinstance", .free "bool", .free "dict", .free "enumerate", .free "reversed"]
abbrev Rw : PySem.W.OpenRow := PySem.W.OpenLaw.row PySem.Challenge.rw_nonerunsdry_k54_whole_told_moves
abbrev hkk : PySem.W.Hook := He.hookD 4 fal fnl
def obb (s : PySem.W.SharedT) : He.AlD := He.obsDG 4 fal fnl (HandSHeadRun.getT s)
theorem obb_eq (s : PySem.W.SharedT) : obb s = hkk.obs s.abs := He.obsDG_eq (HandSHeadRun.getT_eq s)
theorem hrun (w : World) : HandSHeadRun.RunEq Rw (PySem.W.view Rw.prog [34]) hkk obb 4000 ["at_least", "greater_of", "noughts", "least_ones", "is_above", "joined_lots", "met_lots", "before_levels", "before_pours", "standing_lots", "lots_before", "first_lots", "levels_tables", "least_levels", "keeps_for", "lasting_moves", "_law_tape", "_law_draw", "_law_pours", "_law_book", "_law_same", "_law_all", "_law_marked", "_law_kept", "_law_boxes", "_law_least", "_law_box_asked", "_law_drain_asked", "_law_meet", "_law_wide_asked"] w := by
  intro os
  kernel_rfl
theorem facts {P : Program} {w : World} {K : PySem.W.Frag} {h : Heap} {mg : Str → Option Value} {f : Addr} (X : K.In h) (G : h.Ns mainGlobals mg) (hfa : mg ("law" : Str) = some (.ref f)) (c : He.SaysD fal fnl K) :
    ∃ fd : FuncData, (∀ (s : Shared) (v : Value), BindsTo s fd ⟨[v], []⟩ [("script", v)]) ∧ ∀ base : Heap, K.In base → base.Ns mainGlobals mg → FnOk P w K mg base L2.CX0 11 f fd ["script"] (Sf K 1 r_law) := by
  have b : Bt mg := ⟨He.free_ok X G (c.fact 31 (f := .free "len") rfl), He.free_ok X G (c.fact 32 (f := .free "range") rfl), He.free_ok X G (c.fact 33 (f := .free "zip") rfl), He.free_ok X G (c.fact 34 (f := .free "tuple") rfl), He.free_ok X G (c.fact 35 (f := .free "list") rfl), He.free_ok X G (c.fact 36 (f := .free "all") rfl), He.free_ok X G (c.fact 37 (f := .free "any") rfl), He.free_ok X G (c.fact 38 (f := .free "sum") rfl), He.free_ok X G (c.fact 39 (f := .free "max") rfl), He.free_ok X G (c.fact 40 (f := .free "min") rfl), He.free_ok X G (c.fact 41 (f := .free "abs") rfl), He.free_ok X G (c.fact 42 (f := .free "int") rfl), He.free_ok X G (c.fact 43 (f := .free "str") rfl), He.free_ok X G (c.fact 44 (f := .free "sorted") rfl), He.free_ok X G (c.fact 45 (f := .free "set") rfl), He.free_ok X G (c.fact 46 (f := .free "isinstance") rfl), He.free_ok X G (c.fact 47 (f := .free "bool") rfl), He.free_ok X G (c.fact 48 (f := .free "dict") rfl), He.free_ok X G (c.fact 49 (f := .free "enumerate") rfl), He.free_ok X G (c.fact 50 (f := .free "reversed") rfl)⟩
  obtain ⟨_, F_q_at_least⟩ := c.def_ 0 (d := d_q_at_least) rfl
  obtain ⟨_, F_q_greater_of⟩ := c.def_ 1 (d := d_q_greater_of) rfl
  obtain ⟨_, F_q_noughts⟩ := c.def_ 2 (d := d_q_noughts) rfl
  obtain ⟨_, F_q_least_ones⟩ := c.def_ 3 (d := d_q_least_ones) rfl
  obtain ⟨_, F_q_is_above⟩ := c.def_ 4 (d := d_q_is_above) rfl
  obtain ⟨_, F_q_joined_lots⟩ := c.def_ 5 (d := d_q_joined_lots) rfl
  obtain ⟨_, F_q_met_lots⟩ := c.def_ 6 (d := d_q_met_lots) rfl
  obtain ⟨_, F_q_before_levels⟩ := c.def_ 7 (d := d_q_before_levels) rfl
  obtain ⟨_, F_q_before_pours⟩ := c.def_ 8 (d := d_q_before_pours) rfl
  obtain ⟨_, F_q_standing_lots⟩ := c.def_ 9 (d := d_q_standing_lots) rfl
  obtain ⟨_, F_q_lots_before⟩ := c.def_ 10 (d := d_q_lots_before) rfl
  obtain ⟨_, F_q_first_lots⟩ := c.def_ 11 (d := d_q_first_lots) rfl
  obtain ⟨_, F_q_levels_tables⟩ := c.def_ 12 (d := d_q_levels_tables) rfl
  obtain ⟨_, F_q_least_levels⟩ := c.def_ 13 (d := d_q_least_levels) rfl
  obtain ⟨_, F_q_keeps_for⟩ := c.def_ 14 (d := d_q_keeps_for) rfl
  obtain ⟨_, F_q_lasting_moves⟩ := c.def_ 15 (d := d_q_lasting_moves) rfl
  obtain ⟨_, F_law_tape⟩ := c.def_ 16 (d := d_law_tape) rfl
  obtain ⟨_, F_law_draw⟩ := c.def_ 17 (d := d_law_draw) rfl
  obtain ⟨_, F_law_pours⟩ := c.def_ 18 (d := d_law_pours) rfl
  obtain ⟨_, F_law_book⟩ := c.def_ 19 (d := d_law_book) rfl
  obtain ⟨_, F_law_same⟩ := c.def_ 20 (d := d_law_same) rfl
  obtain ⟨_, F_law_all⟩ := c.def_ 21 (d := d_law_all) rfl
  obtain ⟨_, F_law_marked⟩ := c.def_ 22 (d := d_law_marked) rfl
  obtain ⟨_, F_law_kept⟩ := c.def_ 23 (d := d_law_kept) rfl
  obtain ⟨_, F_law_boxes⟩ := c.def_ 24 (d := d_law_boxes) rfl
  obtain ⟨_, F_law_least⟩ := c.def_ 25 (d := d_law_least) rfl
  obtain ⟨_, F_law_box_asked⟩ := c.def_ 26 (d := d_law_box_asked) rfl
  obtain ⟨_, F_law_drain_asked⟩ := c.def_ 27 (d := d_law_drain_asked) rfl
  obtain ⟨_, F_law_meet⟩ := c.def_ 28 (d := d_law_meet) rfl
  obtain ⟨_, F_law_wide_asked⟩ := c.def_ 29 (d := d_law_wide_asked) rfl
  obtain ⟨_, F_law⟩ := c.def_ 30 (d := d_law) rfl
  have e := hfa.symm.trans (He.glo_ok X G (c.fact 30 (f := .glo "law") rfl))
  cases e
  have bb := FunD.bindsA (ps := ["script"]) F_law fun _ _ _ _ _ _ us hl => match us, hl with | [_], _ => rfl
  refine ⟨_, fun s v => bb s [v] rfl, fun base _ _ => ?_⟩
  have z_q_at_least := c_q_at_least (P := P) (w := w) (base := base) F_q_at_least (He.glo_ok X G (c.fact 0 (f := .glo "at_least") rfl)) b
  have z_q_greater_of := c_q_greater_of (P := P) (w := w) (base := base) F_q_greater_of (He.glo_ok X G (c.fact 1 (f := .glo "greater_of") rfl)) b
  have z_q_noughts := c_q_noughts (P := P) (w := w) (base := base) F_q_noughts (He.glo_ok X G (c.fact 2 (f := .glo "noughts") rfl)) b
  have z_q_least_ones := c_q_least_ones (P := P) (w := w) (base := base) F_q_least_ones (He.glo_ok X G (c.fact 3 (f := .glo "least_ones") rfl)) b z_q_at_least
  have z_q_is_above := c_q_is_above (P := P) (w := w) (base := base) F_q_is_above (He.glo_ok X G (c.fact 4 (f := .glo "is_above") rfl)) b z_q_at_least
  have z_q_joined_lots := c_q_joined_lots (P := P) (w := w) (base := base) F_q_joined_lots (He.glo_ok X G (c.fact 5 (f := .glo "joined_lots") rfl)) b z_q_least_ones
  have z_q_met_lots := c_q_met_lots (P := P) (w := w) (base := base) F_q_met_lots (He.glo_ok X G (c.fact 6 (f := .glo "met_lots") rfl)) b z_q_greater_of z_q_least_ones
  have z_q_before_levels := c_q_before_levels (P := P) (w := w) (base := base) F_q_before_levels (He.glo_ok X G (c.fact 7 (f := .glo "before_levels") rfl)) b
  have z_q_before_pours := c_q_before_pours (P := P) (w := w) (base := base) F_q_before_pours (He.glo_ok X G (c.fact 8 (f := .glo "before_pours") rfl)) b z_q_at_least z_q_least_ones z_q_before_levels
  have z_q_standing_lots := c_q_standing_lots (P := P) (w := w) (base := base) F_q_standing_lots (He.glo_ok X G (c.fact 9 (f := .glo "standing_lots") rfl)) b z_q_noughts z_q_joined_lots z_q_met_lots z_q_before_pours
  have z_q_lots_before := c_q_lots_before (P := P) (w := w) (base := base) F_q_lots_before (He.glo_ok X G (c.fact 10 (f := .glo "lots_before") rfl)) b z_q_standing_lots
  have z_q_first_lots := c_q_first_lots (P := P) (w := w) (base := base) F_q_first_lots (He.glo_ok X G (c.fact 11 (f := .glo "first_lots") rfl)) b z_q_noughts
  have z_q_levels_tables := c_q_levels_tables (P := P) (w := w) (base := base) F_q_levels_tables (He.glo_ok X G (c.fact 12 (f := .glo "levels_tables") rfl)) b z_q_lots_before z_q_first_lots
  have z_q_least_levels := c_q_least_levels (P := P) (w := w) (base := base) F_q_least_levels (He.glo_ok X G (c.fact 13 (f := .glo "least_levels") rfl)) b z_q_levels_tables
  have z_q_keeps_for := c_q_keeps_for (P := P) (w := w) (base := base) F_q_keeps_for (He.glo_ok X G (c.fact 14 (f := .glo "keeps_for") rfl)) b z_q_is_above z_q_least_levels
  have z_q_lasting_moves := c_q_lasting_moves (P := P) (w := w) (base := base) F_q_lasting_moves (He.glo_ok X G (c.fact 15 (f := .glo "lasting_moves") rfl)) b z_q_is_above z_q_lots_before z_q_first_lots
  have z_law_tape := c_law_tape (P := P) (w := w) (base := base) F_law_tape (He.glo_ok X G (c.fact 16 (f := .glo "_law_tape") rfl)) b
  have z_law_draw := c_law_draw (P := P) (w := w) (base := base) F_law_draw (He.glo_ok X G (c.fact 17 (f := .glo "_law_draw") rfl)) b
  have z_law_pours := c_law_pours (P := P) (w := w) (base := base) F_law_pours (He.glo_ok X G (c.fact 18 (f := .glo "_law_pours") rfl)) b z_law_draw
  have z_law_book := c_law_book (P := P) (w := w) (base := base) F_law_book (He.glo_ok X G (c.fact 19 (f := .glo "_law_book") rfl)) b z_law_draw z_law_pours
  have z_law_same := c_law_same (P := P) (w := w) (base := base) F_law_same (He.glo_ok X G (c.fact 20 (f := .glo "_law_same") rfl)) b 9
  have z_law_all := c_law_all (P := P) (w := w) (base := base) F_law_all (He.glo_ok X G (c.fact 21 (f := .glo "_law_all") rfl)) b
  have z_law_marked := c_law_marked (P := P) (w := w) (base := base) F_law_marked (He.glo_ok X G (c.fact 22 (f := .glo "_law_marked") rfl)) b
  have z_law_kept := c_law_kept (P := P) (w := w) (base := base) F_law_kept (He.glo_ok X G (c.fact 23 (f := .glo "_law_kept") rfl)) b
  have z_law_boxes := c_law_boxes (P := P) (w := w) (base := base) F_law_boxes (He.glo_ok X G (c.fact 24 (f := .glo "_law_boxes") rfl)) b z_law_all z_law_marked z_law_kept
  have z_law_least := c_law_least (P := P) (w := w) (base := base) F_law_least (He.glo_ok X G (c.fact 25 (f := .glo "_law_least") rfl)) b
  have z_law_box_asked := c_law_box_asked (P := P) (w := w) (base := base) F_law_box_asked (He.glo_ok X G (c.fact 26 (f := .glo "_law_box_asked") rfl)) b z_q_levels_tables z_q_least_levels z_q_keeps_for z_q_lasting_moves z_law_draw z_law_same z_law_boxes z_law_least
  have z_law_drain_asked := c_law_drain_asked (P := P) (w := w) (base := base) F_law_drain_asked (He.glo_ok X G (c.fact 27 (f := .glo "_law_drain_asked") rfl)) b z_q_least_levels z_q_keeps_for z_q_lasting_moves z_law_draw z_law_same
  have z_law_meet := c_law_meet (P := P) (w := w) (base := base) F_law_meet (He.glo_ok X G (c.fact 28 (f := .glo "_law_meet") rfl)) b z_law_draw
  have z_law_wide_asked := c_law_wide_asked (P := P) (w := w) (base := base) F_law_wide_asked (He.glo_ok X G (c.fact 29 (f := .glo "_law_wide_asked") rfl)) b z_q_levels_tables z_law_book z_law_same
  exact ok_f F_law sc_law rfl (by decide) fun cdv A outer s H E c hr => w_law b hr z_q_least_levels z_law_tape z_law_draw z_law_book z_law_same z_law_box_asked z_law_drain_asked z_law_meet z_law_wide_asked
end NR
open PySem PySem.W PySem.Calls PyProof.Rows
theorem NR.head_holds (law : ∀ ns : List Int, ns.length ≤ 63 → NR.r_law [.scr ns] = some (.bl true)) : PySem.Challenge.rw_nonerunsdry_k54_whole_told_moves.Holds := by
  w_on; o_law
  refine HandSHeadRun.head_any (r := OpenLaw.row PySem.Challenge.rw_nonerunsdry_k54_whole_told_moves) (q := view (OpenLaw.row PySem.Challenge.rw_nonerunsdry_k54_whole_told_moves).prog [34]) (H := NR.hkk) (ob := NR.obb) (M := 4000) (loose := ["at_least", "greater_of", "noughts", "least_ones", "is_above", "joined_lots", "met_lots", "before_levels", "before_pours", "standing_lots", "lots_before", "first_lots", "levels_tables", "least_levels", "keeps_for", "lasting_moves", "_law_tape", "_law_draw", "_law_pours", "_law_book", "_law_same", "_law_all", "_law_marked", "_law_kept", "_law_boxes", "_law_least", "_law_box_asked", "_law_drain_asked", "_law_meet", "_law_wide_asked"]) (d := HandSHeadRun.topDef (OpenLaw.row PySem.Challenge.rw_nonerunsdry_k54_whole_told_moves).prog 34) (kwd := []) NR.obb_eq
    (by kernel_rfl) (fun s => by kernel_rfl) NR.hrun (by kernel_rfl) (by kernel_rfl) (by kernel_rfl) (by rfl) (by first | assumption | decide +kernel) (by decide +kernel) ⟨rfl, rfl, rfl, rfl, rfl, by decide +kernel⟩ ?hw ?hc
  case hw => w_witness2
  case hc =>
    refine L2.walk_ofE (l := PySem.Challenge.rw_nonerunsdry_k54_whole_told_moves) (n := 63) (k := 11) (x := "script") (CX := L2.CX0) rfl (by decide) (by kernel_rfl) ⟨rfl, by decide, by decide⟩ ?F (fun _ _ _ _ z => z)
    intro w mg fa h Y G hmg0
    obtain ⟨K, KX, c⟩ := Y
    have hmg : mg ("law" : PySem.Str) = some (.ref fa) := by
      have e : (HandSHeadRun.topDef (OpenLaw.row PySem.Challenge.rw_nonerunsdry_k54_whole_told_moves).prog 34).name = ("law" : PySem.Str) := by kernel_rfl
      rw [← e]
      exact hmg0
    obtain ⟨fd, hb, hF⟩ := NR.facts (P := (PySem.Challenge.rw_nonerunsdry_k54_whole_told_moves).prog) (w := w) KX G hmg c
    refine ⟨K, fd, NR.Sf K 1 NR.r_law, KX, hb, fun H a ns hl _ hS => ?_, hF⟩
    refine ⟨fun _ => False, [.scr ns], .bl true, rfl, NR.RDs.one ⟨a, rfl, ?_⟩, law ns hl, fun _ z => z.elim, fun v H' _ r => r⟩
    exact hS.elim (fun z => .inl ⟨fun z => z, z⟩) .inr

theorem PySem.Challenge.cw_nonerunsdry_k54_whole_told_moves_holds : PySem.Challenge.rw_nonerunsdry_k54_whole_told_moves.Holds := by
  exact NR.head_holds NR.law_k54
